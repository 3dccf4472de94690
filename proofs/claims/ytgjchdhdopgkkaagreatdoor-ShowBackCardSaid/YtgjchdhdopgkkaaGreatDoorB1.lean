/-
  Part 1 of the proof: own lemmas and contracts on plain data. No condition beyond those that each lemma states.
-/
import Derived.Test.YtgjchdhdopgkkaaGreatDoorB0
import Derived.KernelRfl
import Derived.Defers
import Derived.Recover
import Derived.Tactics
import Derived.Tactics2
import Derived.Lib.SplitLaws
import Derived.Lib.Join
import Derived.Lib.IndexAny
import Derived.Shelf.Strings.Builder1
import Derived.Shelf.Strings.Builder2
import Derived.Shelf.Strings.OnBuilder
import Derived.Shelf.Small.Utf8
import Derived.Shelf.Small.Strs
import Derived.Shelf.Small.Wraps
import Derived.Shelf.Strings.BuilderF
import Derived.Shelf.Strings.BuilderK
import Derived.Shelf.Strings.Builder2Cap
import Derived.Shelf.Strconv.Atoi
import Derived.Shelf.Strconv.Itoa0
import Derived.Shelf.Strconv.Itoa1
import Derived.Shelf.LaysM
import Derived.Shelf.Strconv.Itoa2
import Derived.Shelf.Strconv.Itoa3
import Derived.Shelf.Strings.Search1
import Derived.Shelf.Strings.Search2
import Derived.Shelf.Strings.Search3
import Derived.Shelf.Strings.Cut
import Derived.Shelf.Strings.Count
import Derived.Shelf.Strings.Shaped
import Derived.Shelf.Strings.Prefix
import Derived.Shelf.Strings.Split
import Derived.Shelf.Strings.SplitShaped
import Derived.Shelf.Unicode.Decode
import Derived.Shelf.Strings.Runes
import Derived.Shelf.Strings.RuneCount
import Derived.Shelf.Strings.IndexAny
import Derived.Shelf.Strings.AsciiSet
import Derived.Shelf.Strings.IndexAnyAll
import Derived.Shelf.Strings.Explode
import Derived.Shelf.Unicode.DecodeSlow
import Derived.Shelf.Unicode.DecodeAny
import Derived.Shelf.Strings.BuilderCap
import Derived.Shelf.Slices.Turned
import Derived.Lib.AtoiErrMem
set_option linter.all false
set_option maxRecDepth 1000000
set_option maxHeartbeats 4000000
section
namespace Go.Ab
section
variable {P : Program} {n0 : Nat}
theorem ACalls.of_aw {f:FuncId}{af:AF}(hc:ZaH P f=some af) {args:List AV}{h:AH}{R:AE→AH→Prop}(hw:aw P h.length af.code (retA af.res R) (args++List.replicate (af.ntmps-args.length) .any) h):ACalls P f args h R:=by
 unfold ZaH at hc
 split at hc <;> try (cases hc;done)
 rename_i fn hfn
 split at hc <;> try (cases hc;done)
 rename_i hname
 split at hc <;> try (cases hc;done)
 rename_i c hb
 split at hc <;> try (cases hc;done)
 rename_i ac rs hac hrs
 cases hc
 refine ACalls.of_AW hfn hb ?_ ((Zkg c ac hac hw).mono ?_)
 ·simp only [enters,hfn,hb]
  simp only [Bool.not_eq_true] at hname
  simp [bne,hname]
 ·intro x T' h' hq
  cases x <;> simp only [retA,RetQ] at hq ⊢
  ·split at hq <;> try (exact hq.elim)
   rename_i r hr
   exact ⟨r,fun w g a hs ht=>Zgh hrs hr hs ht,hq⟩
  ·split at hq <;> try (exact hq.elim)
   rename_i r hr
   exact ⟨r,fun w g a hs ht=>Zgh hrs hr hs ht,hq⟩
  ·exact hq
end
end Go.Ab
end
section
namespace Go.Ab
section
variable {P : Program} {n0 : Nat}
mutual
theorem lt_mono {n m:Nat}(hnm:n≤m) : ∀ (c:AV),c.lt n=true→c.lt m=true
 | .v _,_=>rfl
 | .any,_=>rfl
 | .sl _ _ _ cs,h=>by simp only [AV.lt] at h ⊢;exact Ze2 hnm cs h
 | .own id _ _,h=>by simp only [AV.lt,decide_eq_true_eq] at h ⊢;omega
 | .ptr id _ _,h=>by simp only [AV.lt,decide_eq_true_eq] at h ⊢;omega
 | .rp cs,h=>by simp only [AV.lt] at h ⊢;exact Ze2 hnm cs h
 | .agg cs,h=>by simp only [AV.lt] at h ⊢;exact Ze2 hnm cs h
 | .tup cs,h=>by simp only [AV.lt] at h ⊢;exact Ze2 hnm cs h
 | .clo _ cs,h=>by simp only [AV.lt] at h ⊢;exact Ze2 hnm cs h
theorem Ze2 {n m:Nat}(hnm:n≤m) : ∀ (cs:List AV),AV.ltL n cs=true→AV.ltL m cs=true
 | [],_=>rfl
 | c::cs,h=>by simp only [AV.ltL,Bool.and_eq_true] at h ⊢;exact ⟨lt_mono hnm c h.1,Ze2 hnm cs h.2⟩
end
theorem Ent.lt_mono {n m:Nat}(hnm:n≤m) {e:Ent}(h:e.lt n=true):e.lt m=true:=by
 cases e <;> simp only [Ent.lt] at h ⊢
 exact Ze2 hnm _ h
def Sub:List AV→List AV→Prop
 | [],[]=>True
 | c::cs,d::ds=>(d=c∨d=.any)∧Sub cs ds
 | _,_=>False
theorem Sub.refl : ∀ T,Sub T T
 | []=>trivial
 | c::cs=>⟨.inl rfl,Sub.refl cs⟩
theorem RepL.sub {w:World}{g:Gh} : ∀ {T T1:List AV}{vs:List Value},Sub T T1→RepL w g T vs→RepL w g T1 vs
 | [],[],vs,_,h=>h
 | c::cs,d::ds,vs,hs,h=>by
  simp only [RepL] at h ⊢
  obtain ⟨u,us,e,h1,h2⟩:=h
  refine ⟨u,us,e,?_,RepL.sub hs.2 h2⟩
  rcases hs.1 with rfl | rfl
  ·exact h1
  ·simp only [Rep]
 | [],_::_,_,hs,_=>hs.elim
 | _::_,[],_,hs,_=>hs.elim
theorem ALe.sub {T T1:List AV}{h:AH}(hs:Sub T T1):ALe n0 T h T1 h:=fun w0 S0 g0 a w g st=>⟨g,st.tmps.sub hs,st.defers,st.sim,st.fr,st.le,st.bd,st.ow⟩
theorem ALe.refl {T:List AV}{h:AH}:ALe n0 T h T h:=fun w0 S0 g0 a w g st=>⟨g,st⟩
theorem ALe.trans {T T1 T2:List AV}{h h1 h2:AH}(a:ALe n0 T h T1 h1) (b:ALe n0 T1 h1 T2 h2):ALe n0 T h T2 h2:=fun w0 S0 g0 x w g st=>by
 obtain ⟨g1,s1⟩:=a w0 S0 g0 x w g st
 exact b w0 S0 g0 x w g1 s1
theorem ALe.cut {T:List AV}{h x:AH}(hn:n0≤h.length) (hT:AV.ltL h.length T=true) (hh : ∀ e∈h,e.lt h.length=true):ALe n0 T (h++x) T h:=fun w0 S0 g0 a w g st =>
 ⟨g.cut h.length,RepL.cut _ _ hT st.tmps,st.defers,st.sim.cut hh,st.fr,st.le.cut (fun i v l hl=>Nat.lt_of_lt_of_le (st.bd i v l hl) hn),st.bd,fun k hk=>st.ow k hk.of_cut⟩
theorem ALe.ice {T:List AV}{h:AH}{id ver ty s d n:Nat}{cells:List AV}(hi:h[id]?=some (.mk ver ty s cells)) (hd:T[d]?=some (.own id ver n)) (hl:n*s≤cells.length) :
  ALe n0 T h (T.set d (.sl n s false (cells.take (n*s)))) (h.set id .gone):=fun w0 S0 g0 a w g st=>by
 obtain ⟨h1,h2,h3⟩:=st.sim.ice hi
 have htm:=RepL.mono (g.le_ice h id) (fun _ _=>rfl) _ _ st.tmps
 obtain ⟨u,hu,hr⟩:=st.tmps.get hd
 have hset:=htm.set (k:=d) (h3 n u hl hr)
 have hself:a.tmps.toList.set d u=a.tmps.toList:=by
  apply List.ext_getElem?
  intro j
  by_cases hj:j=d
  ·subst hj
   have:j<a.tmps.toList.length:=(List.getElem?_eq_some_iff.1 hu).1
   rw [List.getElem?_set_self this,hu]
  ·rw [List.getElem?_set_ne (Ne.symm hj)]
 rw [hself] at hset
 exact ⟨g.ice h id,hset,st.defers,h1,st.fr,st.le.trans (g.le_ice h id),st.bd,fun k hk=>st.ow k (h2 k hk)⟩
theorem SimH.tell {w:World}{g:Gh}{h:AH}(hs:SimH w g h) {id ver ty s k:Nat}{cells:List AV}{c c':AV}(hi:h[id]?=some (.mk ver ty s cells)) (hk:cells[k]?=some c) (hc : ∀ u,Rep w g c u→Rep w g c' u) :
  SimH w g (h.set id (.mk ver ty s (cells.set k c'))) ∧ ∀ j,Ow g (h.set id (.mk ver ty s (cells.set k c'))) j→Ow g h j:=by
 have hid:id<h.length:=(List.getElem?_eq_some_iff.1 hi).1
 have hget : ∀ {i v t s':Nat} {cs:List AV},(h.set id (.mk ver ty s (cells.set k c')))[i]?=some (.mk v t s' cs) → ∃ cs',h[i]?=some (.mk v t s' cs')∧(i≠id→cs'=cs)∧(i=id→cs'=cells∧cs=cells.set k c'):=by
  intro i v t s' cs he
  by_cases hii:i=id
  ·subst hii
   rw [List.getElem?_set_self hid] at he
   cases he
   exact ⟨cells,hi,fun h=>absurd rfl h,fun _=>⟨rfl,rfl⟩⟩
  ·rw [List.getElem?_set_ne (Ne.symm hii)] at he
   exact ⟨cs,he,fun _=>rfl,fun h=>absurd h hii⟩
 have how : ∀ i j,OwAt g (h.set id (.mk ver ty s (cells.set k c'))) i j→OwAt g h i j:=by
  rintro i j ⟨v,t,s',cs,b,cap,e1,e2,e3,e4⟩
  obtain ⟨cs',f1,_⟩:=hget e1
  exact ⟨v,t,s',cs',b,cap,f1,e2,e3,e4⟩
 refine ⟨⟨?_,fun i j k' h1 h2=>hs.inj i j k' (how i k' h1) (how j k' h2),hs.lt,?_,?_,⟨hs.glob.w,hs.glob.d⟩⟩,fun j ⟨i,hj⟩=>⟨i,how i j hj⟩⟩
 ·intro i v t s' cs he
  obtain ⟨cs',f1,f2,f3⟩:=hget he
  obtain ⟨A,cap,e1,e2,e3⟩:=hs.ent _ _ _ _ _ f1
  refine ⟨A,cap,e1,e2,?_⟩
  by_cases hii:i=id
  ·obtain ⟨rfl,rfl⟩:=f3 hii
   rcases e3 with ⟨h0,h1⟩ | ⟨b,arr,rfl,x1,x2,x3,x4,x5,x6⟩
   ·rw [h0] at hk;simp at hk
   ·refine .inr ⟨b,arr,rfl,x1,x2,x3,x4,by simpa using x5,?_⟩
    obtain ⟨u,hu,hr⟩:=x6.get hk
    have:=x6.set (k:=k) (hc u hr)
    have hself:(arr.toList.take cs'.length).set k u=arr.toList.take cs'.length:=by
     apply List.ext_getElem?
     intro j
     by_cases hj:j=k
     ·subst hj
      have:j<(arr.toList.take cs'.length).length:=(List.getElem?_eq_some_iff.1 hu).1
      rw [List.getElem?_set_self this,hu]
     ·rw [List.getElem?_set_ne (Ne.symm hj)]
    rw [hself] at this
    simpa using this
  ·rw [←f2 hii];exact e3
 ·intro i v l hl
  have:=hs.fresh i v l hl
  refine ⟨by simpa using this.1,fun v' t s' cs he=>?_⟩
  obtain ⟨cs',f1,_⟩:=hget he
  exact this.2 _ _ _ _ f1
 ·intro i v l hl he
  by_cases hii:i=id
  ·subst hii;rw [List.getElem?_set_self hid] at he;cases he
  ·rw [List.getElem?_set_ne (Ne.symm hii)] at he;exact hs.free _ _ _ hl he
theorem ALe.iceCell {T:List AV}{h:AH}{id ver ty s n j v' t' s' k:Nat}{cells cs:List AV}(hi:h[id]?=some (.mk ver ty s cells)) (hj:h[j]?=some (.mk v' t' s' cs)) (hne:j≠id) (hk:cs[k]?=some (.own id ver n)) (hl:n*s≤cells.length) :
  ALe n0 T h T ((h.set id .gone).set j (.mk v' t' s' (cs.set k (.sl n s false (cells.take (n*s)))))):=fun w0 S0 g0 a w g st=>by
 obtain ⟨h1,h2,h3⟩:=st.sim.ice hi
 have htm:=RepL.mono (g.le_ice h id) (fun _ _=>rfl) _ _ st.tmps
 obtain ⟨k1,k2⟩:=h1.tell (id:=j) (by rw [List.getElem?_set_ne (Ne.symm hne)];exact hj) hk (fun u hu=>h3 n u hl (by
  simp only [Rep] at hu ⊢
  exact hu))
 exact ⟨g.ice h id,htm,st.defers,k1,st.fr,st.le.trans (g.le_ice h id),st.bd,fun i hi=>st.ow i (h2 i (k2 i hi))⟩
theorem ZcK {f:FuncId}{af:AF}(hc:ZaH P f=some af):enters P f=true:=by
 unfold ZaH at hc
 split at hc <;> try (cases hc;done)
 rename_i fn hfn
 split at hc <;> try (cases hc;done)
 rename_i hname
 split at hc <;> try (cases hc;done)
 rename_i c hb
 simp only [enters,hfn,hb]
 simp only [Bool.not_eq_true] at hname
 simp [bne,hname]
theorem ACalls.enter {f:FuncId}{af:AF}(hc:ZaH P f=some af) {args:List AV}{h:AH}{R:AE→Prop}
  (hw : ∀ n,h.length=n→(∀ e∈h,e.lt n=true)→AV.ltL n args=true→aw P n af.code (retA af.res fun x h' => ∃ z,h'=h++z∧x.lt n=true∧R x) (args++List.replicate (af.ntmps-args.length) .any) (h++[])):ACalls P f args h fun x h'=>h'=h∧R x :=
 ⟨ZcK hc,fun w g vs hs ha=>(ACalls.gc_same (ACalls.of_aw hc (by
  have:=hw h.length rfl hs.ltE (RepL.lt (fun i v l hl=>(hs.fresh i v l hl).1) _ _ ha)
  rwa [List.append_nil] at this))).2 w g vs hs ha⟩
theorem ACalls.enterG {f:FuncId}{af:AF}(hc:ZaH P f=some af) {args:List AV}{h:AH}{R:AE→AH→Prop}
  (hw : ∀ n,h.length=n→(∀ e∈h,e.lt n=true)→AV.ltL n args=true→aw P n af.code (retA af.res fun x h' => ∃ y z,h'=y++z∧y.length=n∧(∀ e∈y,e.lt n=true)∧x.lt n=true∧R x y) (args++List.replicate (af.ntmps-args.length) .any) (h++[])):ACalls P f args h R :=
 ⟨ZcK hc,fun w g vs hs ha=>(ACalls.gc (ACalls.of_aw hc (by
  have:=hw h.length rfl hs.ltE (RepL.lt (fun i v l hl=>(hs.fresh i v l hl).1) _ _ ha)
  rwa [List.append_nil] at this))).2 w g vs hs ha⟩
def LoopTo (n0:Nat) {ι:Type}(S:ι→List AV×AH) (I:ι→Prop) (m:ι→Nat) (i:ι) (T:List AV) (h:AH):Prop :=
 ∃ k,k<m i ∧ ∃ T1 h1,ALe n0 T h T1 h1 ∧ ∃ j,m j=k∧I j∧T1=(S j).1∧h1=(S j).2
theorem LoopTo.mk {ι:Type}{S:ι→List AV×AH}{I:ι→Prop}{m:ι→Nat}{i:ι}{T:List AV}{h:AH}(j:ι) (hm:m j<m i) (hI:I j) (hl:ALe n0 T h (S j).1 (S j).2):LoopTo n0 S I m i T h :=
 ⟨m j,hm,_,_,hl,j,rfl,hI,rfl,rfl⟩
theorem ZtP {a:AC}{Q:AX→List AV→AH→Prop}{T:List AV}{h:AH}{ι:Type}(S:ι→List AV×AH) (I:ι→Prop) (m:ι→Nat) (i0:ι) (hI:I i0) (h0:ALe n0 T h (S i0).1 (S i0).2)
  (round : ∀ i,I i→aw P n0 a (AX.thn (LoopTo n0 S I m i) Q) (S i).1 (S i).2):aw P n0 (.loop a) Q T h:=by
 refine ⟨fun n T h => ∃ i,m i=n∧I i∧T=(S i).1∧h=(S i).2,m i0,⟨_,_,h0,i0,rfl,hI,rfl,rfl⟩,?_⟩
 rintro n T h ⟨i,rfl,hi,rfl,rfl⟩
 exact round i hi
end
section
variable {P : Program} {n0 : Nat}
abbrev iv (n:Int):AV:=.v (.int .i64 n)
abbrev bv (b:Bool):AV:=.v (.bool b)
abbrev sv (s:ByteArray):AV:=.v (.string s)
section run
variable {Kp : AV → List AV → AH → Prop} {K : List AV → AH → Prop} {rest : List AOper} {T T' : List AV} {h h' h0 ents ents' : AH} {rs : List Nat} {d : Option Nat} {op : AOp} {c : AV}
def noD (o:AOper):Bool:=Zdh o&&!isL o.op
theorem s_val (hn:Zdh ⟨d,none,op⟩=true) (hv:aval h (Zan T) op=some c) (hp:aPut T d c=T') (hk:arun P Kp rest T' h K):arun P Kp (⟨d,none,op⟩::rest) T h K:=by
  subst hp
  refine ⟨fun _=>?_,fun h=>by cases h⟩
  have : (match aval h (Zan T) op with
      | some c=>arun P Kp rest (aPut T d c) h K
      | none=>match aeff h (Zan T) op with
        | some (c,h')=>arun P Kp rest (aPut T d c) h' K
        | none=>False):=by rw [hv];exact hk
  cases op <;> first | exact this | (simp [Zdh] at hn;done)
theorem s_eff (hn:Zdh ⟨d,none,op⟩=true) (hv:aval h (Zan T) op=none) (he:aeff h (Zan T) op=some (c,h')) (hp:aPut T d c=T') (hk:arun P Kp rest T' h' K):arun P Kp (⟨d,none,op⟩::rest) T h K:=by
  subst hp
  refine ⟨fun _=>?_,fun h=>by cases h⟩
  have : (match aval h (Zan T) op with
      | some c=>arun P Kp rest (aPut T d c) h K
      | none=>match aeff h (Zan T) op with
        | some (c,h')=>arun P Kp rest (aPut T d c) h' K
        | none=>False):=by rw [hv,he];exact hk
  cases op <;> first | exact this | (simp [Zdh] at hn;done)
theorem d_val (hn:noD ⟨d,none,op⟩=true) (hv:aval h0 (Zan T) op=some c) (hp:aPut T d c=T') (hk:adrun P rs h0 rest T' ents K):adrun P rs h0 (⟨d,none,op⟩::rest) T ents K:=by
  subst hp
  refine ⟨fun _=>?_,fun h=>by cases h⟩
  have : (match aval h0 (Zan T) op with
      | some c=>adrun P rs h0 rest (aPut T d c) ents K
      | none => ∃ c ent,(aallo (h0.length+ents.length) (Zan T) op=some (c,ent)∨ZdE (h0.length+ents.length) (Zan T) op=some (c,ent))∧adrun P rs h0 rest (aPut T d c) (ents++[ent]) K):=by rw [hv];exact hk
  cases op <;> first | exact this | (simp [noD,Zdh,isL] at hn;done)
theorem ZqW {ent:Ent}{id:Nat}(hn:noD ⟨d,none,op⟩=true) (hv:aval h0 (Zan T) op=none) (hl:h0.length+ents.length=id) (he:aallo id (Zan T) op=some (c,ent)) (hp:aPut T d c=T') (hx:ents++[ent]=ents') (hk:adrun P rs h0 rest T' ents' K):adrun P rs h0 (⟨d,none,op⟩::rest) T ents K:=by
  subst hp hx hl
  refine ⟨fun _=>?_,fun h=>by cases h⟩
  have : (match aval h0 (Zan T) op with
      | some c=>adrun P rs h0 rest (aPut T d c) ents K
      | none => ∃ c ent,(aallo (h0.length+ents.length) (Zan T) op=some (c,ent)∨ZdE (h0.length+ents.length) (Zan T) op=some (c,ent))∧adrun P rs h0 rest (aPut T d c) (ents++[ent]) K):=by rw [hv];exact ⟨c,ent,.inl he,hk⟩
  cases op <;> first | exact this | (simp [noD,Zdh,isL] at hn;done)
theorem d_effI {ent:Ent}{id:Nat}(hn:noD ⟨d,none,op⟩=true) (hv:aval h0 (Zan T) op=none) (hl:h0.length+ents.length=id) (he:ZdE id (Zan T) op=some (c,ent)) (hp:aPut T d c=T') (hx:ents++[ent]=ents') (hk:adrun P rs h0 rest T' ents' K):adrun P rs h0 (⟨d,none,op⟩::rest) T ents K:=by
  subst hp hx hl
  refine ⟨fun _=>?_,fun h=>by cases h⟩
  have : (match aval h0 (Zan T) op with
      | some c=>adrun P rs h0 rest (aPut T d c) ents K
      | none => ∃ c ent,(aallo (h0.length+ents.length) (Zan T) op=some (c,ent)∨ZdE (h0.length+ents.length) (Zan T) op=some (c,ent))∧adrun P rs h0 rest (aPut T d c) (ents++[ent]) K):=by rw [hv];exact ⟨c,ent,.inr he,hk⟩
  cases op <;> first | exact this | (simp [noD,Zdh,isL] at hn;done)
theorem d_ldP {agg:Bool}{sz id v off ty s:Nat}{cells:List AV}{x:Operand}(hx:Zan T x=.ptr id v off) (he:h0[id]?=some (.mk v ty s cells)) (hc:Zc4 agg sz (cells.drop off)=some c) (hm:id∈rs) (hp:aPut T d c=T') (hk:adrun P rs h0 rest T' ents K):adrun P rs h0 (⟨d,none,.loadR agg sz x⟩::rest) T ents K:=by
 subst hp
 refine ⟨fun _=>?_,fun h=>by cases h⟩
 simp only [adstep,hx]
 exact ⟨ty,s,cells,c,he,hc,hm,hk⟩
theorem ZqN {q:List Bool}(hk:K T h):Zc2 P rs q [] T h K:=by cases q <;> exact hk
theorem Zln {m:Bool}{q:List Bool}(hn:Zdh ⟨d,none,op⟩=true) (hv:aval h (Zan T) op=some c) (hp:aPut T d c=T') (hk:Zc2 P rs q rest T' h K):Zc2 P rs (m::q) (⟨d,none,op⟩::rest) T h K:=by
  subst hp
  refine ⟨fun _=>?_,fun h=>by cases h⟩
  have : (match aval h (Zan T) op with
      | some c=>Zc2 P rs q rest (aPut T d c) h K
      | none=>match aeff h (Zan T) op with
        | some (c,h')=>(∀ id∈(bif m then rs else []),h'[id]?=h[id]?)∧Zc2 P rs q rest (aPut T d c) h' K
        | none=>False):=by rw [hv];exact hk
  cases op <;> first | exact this | (simp [Zdh] at hn;done)
theorem Zlo {m:Bool}{q:List Bool}(hn:Zdh ⟨d,none,op⟩=true) (hv:aval h (Zan T) op=none) (he:aeff h (Zan T) op=some (c,h')) (hr : ∀ id∈(bif m then rs else []),h'[id]?=h[id]?) (hp:aPut T d c=T') (hk:Zc2 P rs q rest T' h' K):Zc2 P rs (m::q) (⟨d,none,op⟩::rest) T h K:=by
  subst hp
  refine ⟨fun _=>?_,fun h=>by cases h⟩
  have : (match aval h (Zan T) op with
      | some c=>Zc2 P rs q rest (aPut T d c) h K
      | none=>match aeff h (Zan T) op with
        | some (c,h')=>(∀ id∈(bif m then rs else []),h'[id]?=h[id]?)∧Zc2 P rs q rest (aPut T d c) h' K
        | none=>False):=by rw [hv,he];exact ⟨hr,hk⟩
  cases op <;> first | exact this | (simp [Zdh] at hn;done)
theorem k_call {m:Bool}{q:List Bool}{f:FuncId}{xs:List Operand}{ats:List AV}(hx:xs.map (Zan T)=ats) (hc:ACalls P f ats h fun r h2=>r=.ret c∧h2=h') (hr : ∀ id∈(bif m then rs else []),h'[id]?=h[id]?) (hp:aPut T d c=T') (hk:Zc2 P rs q rest T' h' K):Zc2 P rs (m::q) (⟨d,none,.call (.func f) xs⟩::rest) T h K:=by
 subst hp hx
 refine ⟨fun _=>?_,fun h=>by cases h⟩
 exact ⟨c,h',⟨rfl,rfl,hc.mono fun r h2 hr=>⟨hr.2,hr.1⟩⟩,hr,hk⟩
theorem Zg3 {g:Option (Nat×Bool)}{T:List AV}{f f':Bool→Prop}(hf : ∀ b,f b→f' b) (h:agd g T f):agd g T f':=by
 unfold agd at *
 split
 ·exact hf _ h
 ·split <;> rename_i hx <;> simp only [hx] at h <;> first | exact hf _ h | exact h
theorem ZpV : ∀ {al:List AOper}{q:List Bool}{T:List AV}{h:AH},al.all Zdh=true→arun P Kp al T h K→Zc2 P [] q al T h K
 | [],q,_,_,_,hr=>ZqN hr
 | ⟨d,g,op⟩::al,q,T,h,hn,hr=>by
  simp only [List.all_cons,Bool.and_eq_true] at hn
  simp only [arun] at hr
  simp only [Zc2]
  refine Zg3 (fun b hb=>⟨fun e=>?_,fun e=>ZpV hn.2 (hb.2 e)⟩) hr
  have h1:=hb.1 e
  have:(match aval h (Zan T) op with
   | some c=>Zc2 P [] q.tail al (aPut T d c) h K
   | none=>match aeff h (Zan T) op with
    | some (c,h')=>(∀ id∈(bif q.headD true then ([]:List Nat) else []),h'[id]?=h[id]?)∧Zc2 P [] q.tail al (aPut T d c) h' K
    | none=>False):=by
   have h2:(match aval h (Zan T) op with
    | some c=>arun P Kp al (aPut T d c) h K
    | none=>match aeff h (Zan T) op with
     | some (c,h')=>arun P Kp al (aPut T d c) h' K
     | none=>False):=by
    cases op <;> first | exact h1 | (simp [Zdh] at hn;done)
   cases hv:aval h (Zan T) op with
   | some c=>rw [hv] at h2;exact ZpV hn.2 h2
   | none =>
    rw [hv] at h2
    cases hv2:aeff h (Zan T) op with
    | some p=>rw [hv2] at h2;exact ⟨fun _ hm=>(by cases hq:q.headD true <;> rw [hq] at hm <;> cases hm),ZpV hn.2 h2⟩
    | none=>rw [hv2] at h2;exact h2
  cases op <;> first | exact this | (simp [Zdh] at hn;done)
theorem s_do {t:Nat}{b:Bool}(ht:T[t]?=some (.v (.bool b))) (hk:arun P Kp (⟨d,none,op⟩::rest) T h K):arun P Kp (⟨d,some (t,b),op⟩::rest) T h K:=by
 have h1:=hk.1 rfl
 simp only [arun,agd,ht]
 cases b <;> exact ⟨fun _=>h1,fun h=>(by cases h)⟩
theorem s_no {t:Nat}{b:Bool}(ht:T[t]?=some (.v (.bool (!b)))) (hp:aPut T d (.v undef)=T') (hk:arun P Kp rest T' h K):arun P Kp (⟨d,some (t,b),op⟩::rest) T h K:=by
 subst hp
 simp only [arun,agd,ht]
 cases b <;> exact ⟨fun h=>(by cases h),fun _=>hk⟩
theorem s_nu {t:Nat}{b:Bool}{vs:Array Value}(ht:T[t]?=some (.v (.tuple vs))) (hp:aPut T d (.v undef)=T') (hk:arun P Kp rest T' h K):arun P Kp (⟨d,some (t,b),op⟩::rest) T h K:=by
 subst hp
 simp only [arun,agd,ht]
 exact ⟨fun h=>(by cases h),fun _=>hk⟩
theorem d_do {t:Nat}{b:Bool}(ht:T[t]?=some (.v (.bool b))) (hk:adrun P rs h0 (⟨d,none,op⟩::rest) T ents K):adrun P rs h0 (⟨d,some (t,b),op⟩::rest) T ents K:=by
 have h1:=hk.1 rfl
 simp only [adrun,agd,ht]
 cases b <;> exact ⟨fun _=>h1,fun h=>(by cases h)⟩
theorem d_no {t:Nat}{b:Bool}(ht:T[t]?=some (.v (.bool (!b)))) (hp:aPut T d (.v undef)=T') (hk:adrun P rs h0 rest T' ents K):adrun P rs h0 (⟨d,some (t,b),op⟩::rest) T ents K:=by
 subst hp
 simp only [adrun,agd,ht]
 cases b <;> exact ⟨fun h=>(by cases h),fun _=>hk⟩
theorem d_nu {t:Nat}{b:Bool}{vs:Array Value}(ht:T[t]?=some (.v (.tuple vs))) (hp:aPut T d (.v undef)=T') (hk:adrun P rs h0 rest T' ents K):adrun P rs h0 (⟨d,some (t,b),op⟩::rest) T ents K:=by
 subst hp
 simp only [adrun,agd,ht]
 exact ⟨fun h=>(by cases h),fun _=>hk⟩
theorem ZgD {f:FuncId}{xs:List Operand}{ats:List AV}{R:AE→AH→Prop}(hx:xs.map (Zan T)=ats) (hc:ACalls P f ats h R) (hk : ∀ r h',R r h'→match r with
  | .ret c=>arun P Kp rest (aPut T d c) h' K
  | .pan c=>Kp c T h'):arun P Kp (⟨d,none,.call (.func f) xs⟩::rest) T h K:=by
 subst hx
 refine ⟨fun _=>?_,fun h=>by cases h⟩
 exact ⟨rfl,rfl,hc.mono fun r h' hr=>hk r h' hr⟩
theorem Zae {f:FuncId}{xs:List Operand}{ats:List AV}(hx:xs.map (Zan T)=ats) (hc:ACalls P f ats h fun r h'=>h'=h∧r=.ret c) (hp:aPut T d c=T') (hk:arun P Kp rest T' h K):arun P Kp (⟨d,none,.call (.func f) xs⟩::rest) T h K:=by
 subst hp
 refine ZgD hx hc ?_
 rintro r h' ⟨rfl,rfl⟩
 exact hk
theorem Za9 {f:FuncId}{xs:List Operand}{ats:List AV}(hx:xs.map (Zan T)=ats) (hc : ∀ h,HExt h0 h→ACalls P f ats h fun r h'=>h'=h∧r=.ret c) (hp:aPut T d c=T') (hk:adrun P rs h0 rest T' ents K):adrun P rs h0 (⟨d,none,.call (.func f) xs⟩::rest) T ents K:=by
 subst hp hx
 refine ⟨fun _=>⟨c,fun h hh=>⟨rfl,rfl,hc h hh⟩,hk⟩,fun h=>by cases h⟩
theorem s_panic {x:Operand}{t:Nat}{v:Value}(hx:Zan T x=.v (.iface t v)) (hk:Kp (.v (.iface t v)) T h):arun P Kp (⟨d,none,.panic x⟩::rest) T h K:=by
 refine ⟨fun _=>?_,fun h=>by cases h⟩
 simp only [astep,hx]
 exact hk
end run
section vals
variable {h : AH} {T : List AV} {x y i : Operand} {c : AV}
theorem v_mv (hx:Zan T x=c):aval h (Zan T) (.mv x)=some c:=by simp only [aval,hx]
theorem Zaj {a b k:Operand}(hk:Zan T k=bv true) (ha:Zan T a=c):aval h (Zan T) (.pick k a b)=some c:=by simp only [aval,hk,cond_true,ha]
theorem Zah {a b k:Operand}(hk:Zan T k=bv false) (hb:Zan T b=c):aval h (Zan T) (.pick k a b)=some c:=by simp only [aval,hk,cond_false,hb]
theorem Zac {sz id v o ty s:Nat}{cells:List AV}(hx:Zan T x=.ptr id v o) (he:h[id]?=some (.mk v ty s cells)) (hc:cells[o]?=some c):aval h (Zan T) (.load false sz x)=some c:=by
 simp only [aval,hx,Zc1,he,if_true,Option.bind_some]
 have:cells.drop o=c::cells.drop (o+1):=by
  obtain ⟨hlt,rfl⟩:=List.getElem?_eq_some_iff.1 hc
  exact List.drop_eq_getElem_cons hlt
 rw [this];rfl
theorem Zau {sz id v o ty s:Nat}{cells cs:List AV}(hx:Zan T x=.ptr id v o) (he:h[id]?=some (.mk v ty s cells)) (hc:(cells.drop o).take sz=cs) (hl:cs.length=sz):aval h (Zan T) (.load true sz x)=some (.agg cs):=by
 simp only [aval,hx,Zc1,he,if_true,Option.bind_some,Zc4]
 subst hc
 rw [List.length_take] at hl
 rw [if_pos (by omega)]
theorem ZaZ {sz:Nat}{cells:List AV}(hx:Zan T x=.rp cells) (hc:cells[0]?=some c):aval h (Zan T) (.load false sz x)=some c:=by
 simp only [aval,hx,Zc1,Option.bind_some]
 cases cells with
 | nil=>simp at hc
 | cons a l=>simp at hc;subst hc;rfl
theorem Zbk {sz:Nat}{cells cs:List AV}(hx:Zan T x=.rp cells) (hc:cells.take sz=cs) (hl:cs.length=sz):aval h (Zan T) (.load true sz x)=some (.agg cs):=by
 simp only [aval,hx,Zc1,Option.bind_some,Zc4]
 subst hc
 rw [List.length_take] at hl
 rw [if_pos (by omega)]
theorem ZaD {id v o:Nat}(hx:Zan T x=.ptr id v o):aval h (Zan T) (.nck x)=some (.ptr id v o):=by simp only [aval,hx]
theorem Zcv {off id v o:Nat}(hx:Zan T x=.ptr id v o):aval h (Zan T) (.fa off x)=some (.ptr id v (o+off)):=by simp only [aval,hx]
theorem Zaa {off id v:Nat}(hx:Zan T x=.ptr id v 0):aval h (Zan T) (.fa off x)=some (.ptr id v off):=by simp only [aval,hx,Nat.zero_add]
theorem ZcX {off:Nat}{cs ds:List AV}(hx:Zan T x=.rp cs) (hd:cs.drop off=ds):aval h (Zan T) (.fa off x)=some (.rp ds):=by simp only [aval,hx,hd]
theorem Zgf {op:BinOp}{a b:Value}(hx:Zan T x=.v a) (hy:Zan T y=.v b) (hv:vBin op a b=some c):aval h (Zan T) (.bin op x y)=some c:=by simp only [aval,hx,hy,hv]
theorem w64 {e:Int}(h1 : -9223372036854775808≤e) (h2:e≤9223372036854775807):IntKind.i64.wrap e=e:=by rw [IntKind.wrap_i64];omega
theorem ZaE {a b:Int}(hx:Zan T x=iv a) (hy:Zan T y=iv b) (h1 : -9223372036854775808≤a+b) (h2:a+b≤9223372036854775807):aval h (Zan T) (.bin .add x y)=some (iv (a+b)):=Zgf hx hy (by simp only [vBin,if_true,iBin,w64 h1 h2])
theorem ZcC {a b:Int}(hx:Zan T x=iv a) (hy:Zan T y=iv b) (h1 : -9223372036854775808≤a-b) (h2:a-b≤9223372036854775807):aval h (Zan T) (.bin .sub x y)=some (iv (a-b)):=Zgf hx hy (by simp only [vBin,if_true,iBin,w64 h1 h2])
theorem Zge {a b:Int}(hx:Zan T x=iv a) (hy:Zan T y=iv b) (h1 : -9223372036854775808≤a*b) (h2:a*b≤9223372036854775807):aval h (Zan T) (.bin .mul x y)=some (iv (a*b)):=Zgf hx hy (by simp only [vBin,if_true,iBin,w64 h1 h2])
theorem Zf7 {a b:Int}(hx:Zan T x=iv a) (hy:Zan T y=iv b) (h0:0≤a) (hb:0<b) (h2:a≤9223372036854775807):aval h (Zan T) (.bin .quo x y)=some (iv (a/b)):=Zgf hx hy (by
 have e:a.tdiv b=a/b:=Int.tdiv_eq_ediv_of_nonneg h0
 have h3:a/b≤a:=Int.ediv_le_self _ h0
 have h4:0≤a/b:=Int.ediv_nonneg h0 (by omega)
 simp only [vBin,if_true,iBin,if_neg (show ¬b=0 by omega),e,w64 (show -9223372036854775808≤a/b by omega) (show a/b≤9223372036854775807 by omega)])
theorem Zfr {a b:Int}{k:IntKind}(hx:Zan T x=.v (.int k a)) (hy:Zan T y=.v (.int k b)) (h0:0≤a) (hb:b≠0):aval h (Zan T) (.bin .rem x y)=some (.v (.int k (a%b))):=Zgf hx hy (by
 have e:a.tmod b=a%b:=Int.tmod_eq_emod_of_nonneg h0
 simp only [vBin,if_true,iBin,if_neg hb,e])
theorem Zpd {a b:Int}{k:IntKind}(hx:Zan T x=.v (.int k a)) (hy:Zan T y=.v (.int k b)) (hb:b≠0):aval h (Zan T) (.bin .rem x y)=some (.v (.int k (a.tmod b))):=Zgf hx hy (by simp only [vBin,if_true,iBin,if_neg hb])
theorem Zbu {a b:Int}{k:IntKind}(hx:Zan T x=.v (.int k a)) (hy:Zan T y=.v (.int k b)):aval h (Zan T) (.bin .lss x y)=some (bv (decide (a<b))):=Zgf hx hy (by simp only [vBin,if_true,iBin])
theorem ZeT {a b:Int}{k:IntKind}(hx:Zan T x=.v (.int k a)) (hy:Zan T y=.v (.int k b)):aval h (Zan T) (.bin .leq x y)=some (bv (decide (a≤b))):=Zgf hx hy (by simp only [vBin,if_true,iBin])
theorem ZbN {a b:Int}{k:IntKind}(hx:Zan T x=.v (.int k a)) (hy:Zan T y=.v (.int k b)):aval h (Zan T) (.bin .gtr x y)=some (bv (decide (b<a))):=Zgf hx hy (by simp only [vBin,if_true,iBin,gt_iff_lt])
theorem Zie {a b:Int}{k:IntKind}(hx:Zan T x=.v (.int k a)) (hy:Zan T y=.v (.int k b)):aval h (Zan T) (.bin .geq x y)=some (bv (decide (b≤a))):=Zgf hx hy (by simp only [vBin,if_true,iBin,ge_iff_le])
theorem ZaX {a b:Int}{k:IntKind}(hx:Zan T x=.v (.int k a)) (hy:Zan T y=.v (.int k b)):aval h (Zan T) (.bin .eql x y)=some (bv (decide (a=b))):=Zgf hx hy (by simp only [vBin,if_true,iBin];rfl)
theorem Za6 {a b:Int}{k:IntKind}(hx:Zan T x=.v (.int k a)) (hy:Zan T y=.v (.int k b)):aval h (Zan T) (.bin .neq x y)=some (bv (decide (a≠b))):=Zgf hx hy (by
 simp only [vBin,if_true,iBin]
 by_cases hab:a=b <;> simp [hab])
theorem Zdc (a b:ByteArray):(a==b)=decide (a=b):=by
 rw [beq_toListBytes,ByteArray.toList_eq,ByteArray.toList_eq]
 by_cases h:a=b
 ·subst h;simp
 ·have:a.data≠b.data:=fun e=>h (ByteArray.ext e)
  simp [h,this]
theorem Zcj {a b:ByteArray}(hx:Zan T x=sv a) (hy:Zan T y=sv b):aval h (Zan T) (.bin .eql x y)=some (bv (decide (a=b))):=Zgf hx hy (by simp only [vBin,sBin,Zdc])
theorem Zcp {a b:ByteArray}(hx:Zan T x=sv a) (hy:Zan T y=sv b):aval h (Zan T) (.bin .neq x y)=some (bv (decide (a≠b))):=Zgf hx hy (by
 simp only [vBin,sBin,Zdc]
 by_cases hab:a=b <;> simp [hab])
theorem Zc8 {a b:ByteArray}(hx:Zan T x=sv a) (hy:Zan T y=sv b) (hl:a.size+b.size≤9223372036854775807):aval h (Zan T) (.bin .add x y)=some (sv (a++b)):=Zgf hx hy (by simp only [vBin,sBin,if_pos hl])
theorem v_eqb {neg a b:Bool}(hx:Zan T x=bv a) (hy:Zan T y=bv b):aval h (Zan T) (.eqb neg x y)=some (bv (bif neg then !(a==b) else a==b)):=by simp only [aval,hx,hy]
theorem v_eqs {neg b:Bool}{ks:List LK}{cs ds:List AV}(hx:Zan T x=.agg cs) (hy:Zan T y=.agg ds) (he:ZbD ks cs ds=some b):aval h (Zan T) (.eqs neg ks x y)=some (bv (bif neg then !b else b)):=by simp only [aval,hx,hy,he,Option.map_some]
theorem v_neg {a:Int}(hx:Zan T x=iv a) (h1 : -9223372036854775807≤a) (h2:a≤9223372036854775807):aval h (Zan T) (.un .neg x)=some (iv (-a)):=by simp only [aval,hx,Int.zero_sub,w64 (show -9223372036854775808 ≤ -a by omega) (show -a≤9223372036854775807 by omega)]
theorem Zju {p:Prop} [Decidable p] (hx:Zan T x=bv (decide p)):aval h (Zan T) (.un .not x)=some (bv (decide (¬p))):=by
 simp only [aval,hx]
 by_cases hp:p <;> simp [hp]
theorem Zif {a:Int}{k':IntKind}(hx:Zan T x=.v (.int k' a)) (h1 : -9223372036854775808≤a) (h2:a≤9223372036854775807):aval h (Zan T) (.cvi .i64 x)=some (iv a):=by simp only [aval,hx,w64 h1 h2]
theorem v_ix {s:ByteArray}{j:Int}{k:IntKind}(hx:Zan T x=sv s) (hi:Zan T i=.v (.int k j)) (h0:0≤j) (h1:j<s.size):aval h (Zan T) (.ix x i)=some (.v (.int .u8 (Zaz s j.toNat).toNat)):=by simp only [aval,hx,hi,if_pos (And.intro h0 h1)]
theorem Zbb {n:Nat}{l:List AV}(hx:Zan T x=.tup l) (hl:l[n]?=some c):aval h (Zan T) (.ext x n)=some c:=by simp only [aval,hx,hl]
theorem Zbi {s:ByteArray}(hx:Zan T x=sv s):aval h (Zan T) (.len true x)=some (iv s.size):=by simp only [aval,hx]
theorem ZaK {n st:Nat}{full:Bool}{cs:List AV}(hx:Zan T x=.sl n st full cs):aval h (Zan T) (.len false x)=some (iv n):=by simp only [aval,hx]
theorem Zdr {id v n:Nat}(hx:Zan T x=.own id v n):aval h (Zan T) (.len false x)=some (iv n):=by simp only [aval,hx]
theorem v_ia {st n:Nat}{full:Bool}{cs ds:List AV}{j:Int}{k:IntKind}(hx:Zan T x=.sl n st full cs) (hi:Zan T i=.v (.int k j)) (hst:0<st) (h0:0≤j) (h1:j<n) (hd:(cs.drop (j.toNat*st)).take st=ds):aval h (Zan T) (.ia st x i)=some (.rp ds):=by
 simp [aval,hx,hi,hst,h0,h1,hd]
theorem ZkJ {st n id v ty:Nat}{cells:List AV}{j:Int}{k:IntKind}(hx:Zan T x=.own id v n) (hi:Zan T i=.v (.int k j)) (he:h[id]?=some (.mk v ty st cells)) (hst:0<st) (h0:0≤j) (h1:j<n) (hl:n*st≤cells.length):aval h (Zan T) (.ia st x i)=some (.ptr id v (j.toNat*st)):=by
 simp [aval,hx,hi,he,hst,h0,h1,hl]
theorem ZaB {zero cs:List AV}{ps:List (Nat×Nat×Operand)}(hf:Zat (Zan T) ps zero=some cs):aval h (Zan T) (.build zero ps)=some (.agg cs):=by simp only [aval,hf,Option.map_some]
theorem Zd6 {s:ByteArray}{lo hi:Option Operand}{l u:Int}(hx:Zan T x=sv s) (hl:Zb1 (Zan T) 0 lo=some l) (hh:Zb1 (Zan T) s.size hi=some u) (h0:0≤l) (h1:l≤u) (h2:u≤s.size):aval h (Zan T) (.sls x lo hi)=some (sv (s.extract l.toNat u.toNat)):=by
 simp only [aval,hx,hl,hh,if_pos (And.intro h0 (And.intro h1 h2))]
theorem v_slc {n st:Nat}{full:Bool}{cs:List AV}{lo hi:Option Operand}{l u:Int}(hx:Zan T x=.sl n st full cs) (hl:Zb1 (Zan T) 0 lo=some l) (hh:Zb1 (Zan T) n hi=some u) (h0:0≤l) (h1:l≤u) (h2:u≤n) :
  aval h (Zan T) (.slc st x lo hi none)=some (.sl (u.toNat-l.toNat) st (full&&decide (u=n)) ((cs.drop (l.toNat*st)).take ((u.toNat-l.toNat)*st))):=by
 simp [aval,hx,hl,hh,h0,h1,h2]
theorem v_mkif {t:Nat}{a:Value}(hx:Zan T x=.v a):aval h (Zan T) (.mkif t x)=some (.v (.iface t a)):=by simp only [aval,hx]
end vals
section effs
variable {h h' : AH} {T : List AV} {x y : Operand} {c : AV}
theorem Zbq {ty sz id:Nat}{z:List AV}(hl:h.length=id) (hh:h++[.mk 0 ty sz z]=h'):aeff h (Zan T) (.new ty sz z)=some (.ptr id 0 0,h'):=by subst hl hh;rfl
theorem Zcm {ty sz id:Nat}{cs:List AV}(hc:Zap (Zan T x)=some cs) (hs:cs.length=sz) (hl:h.length=id) (hh:h++[.mk 0 ty sz cs]=h'):aeff h (Zan T) (.box ty sz x)=some (.ptr id 0 0,h'):=by
 subst hl hh;simp only [aeff,hc,if_pos hs]
theorem Zeh {ty st len id:Nat}{zero cs:List AV}{ps:List (Nat×Nat×Operand)}(hf:Zat (Zan T) ps zero=some cs) (hl:h.length=id) (hh:h++[.mk 0 ty st cs]=h'):aeff h (Zan T) (.lit ty st len zero ps)=some (.own id 0 len,h'):=by
 subst hl hh;simp only [aeff,hf]
theorem Zal {sz id v o ty s:Nat}{cells cs cells':List AV}(hp:Zan T x=.ptr id v o) (hc:Zap (Zan T y)=some cs) (he:h[id]?=some (.mk v ty s cells)) (hs:cs.length=sz) (hle:o+sz≤cells.length) (hlf:cs.all leaf=true) (hst:setCells cells o cs=cells') (hh:h.set id (.mk v ty s cells')=h') :
  aeff h (Zan T) (.store sz x y)=some (.v undef,h'):=by
 subst hst hh;simp only [aeff,hp,hc,he];rw [if_pos ⟨trivial,hs,hle,hlf⟩]
theorem Zej {ty sz bytes id v n m:Nat}{cells news:List AV}(hx:Zcr h sz (Zan T y)=some (m,news)) (hs:Zan T x=.own id v n) (he:h[id]?=some (.mk v ty sz cells)) (hl:cells.length=n*sz) (hb:(n+m)*bytes≤140737488355328) (hlf:news.all leaf=true) (hh:h.set id (.mk (v+1) ty sz (cells++news))=h') :
  aeff h (Zan T) (.app ty sz bytes x y)=some (.own id (v+1) (n+m),h'):=by
 subst hh;simp only [aeff,hx,hs,he];rw [if_pos ⟨trivial,trivial,trivial,hl,hb,hlf⟩]
theorem l_litI {ty st len id:Nat}{zero cs:List AV}{ps:List (Nat×Nat×Operand)}(hf:Zat (Zan T) ps zero=some cs) (hl:cs.length=len*st):ZdE id (Zan T) (.lit ty st len zero ps)=some (.sl len st false cs,.gone):=by simp only [ZdE,hf,if_pos hl]
theorem ZqM {ty st len id:Nat}{zero cs:List AV}{ps:List (Nat×Nat×Operand)}(hf:Zat (Zan T) ps zero=some cs):aallo id (Zan T) (.lit ty st len zero ps)=some (.own id 0 len,.mk 0 ty st cs):=by simp only [aallo,hf]
end effs
section code
variable {Q : AX → List AV → AH → Prop} {T : List AV} {h : AH} {a b : AC}
theorem Zar {al:List AOper}(hr:arun P (fun c T h=>Q (.pan c) T h) al T h (fun T h=>Q .normal T h)):aw P n0 (.reg al) Q T h:=hr
theorem w_drw {bl tl:List AOper}{q:List Bool}{rs:List Nat}(hr:adrun P rs h bl T [] fun T ents=>Zc2 P rs q tl T (h++ents) (fun T h=>Q .normal T h)):aw P n0 (.drw bl q tl) Q T h:=⟨rs,hr⟩
theorem Zam (hr:aw P n0 a (AX.thn (fun T h => ∃ T1 h1,ALe n0 T h T1 h1∧aw P n0 b Q T1 h1) Q) T h):aw P n0 (.seq a b) Q T h:=hr
theorem Zao {id:Nat}(hr:aw P n0 a (AX.blk id Q) T h):aw P n0 (.block id a) Q T h:=hr
theorem ZaG {c:Operand}(hc:Zan T c=bv true) (hy:aw P n0 a Q T h):aw P n0 (.cond c a b) Q T h:=by
 simp only [aw,hc]
 exact ⟨fun _=>hy,fun e=>(by cases e)⟩
theorem ZaY {c:Operand}(hc:Zan T c=bv false) (hn:aw P n0 b Q T h):aw P n0 (.cond c a b) Q T h:=by
 simp only [aw,hc]
 exact ⟨fun e=>(by cases e),fun _=>hn⟩
theorem Zag {rs:List AR}{R:AE→AH→Prop}{c:AV}(hr:aRes rs T h=some c) (hR:R (.ret c) h):retA rs R .ret T h:=by simp only [retA,hr];exact hR
theorem Zf6 {rs:List AR}{R:AE→AH→Prop}{c:AV}(hr:aRes rs T h=some c) (hR:R (.ret c) h):retA rs R .normal T h:=by simp only [retA,hr];exact hR
end code
end
section
variable {g i j o p q r t u v w y z A B C D E F G H I J K L M N O P Q R S U V W X Y Z α β γ δ ε ζ η θ ι κ μ ν ξ π ρ σ τ υ φ χ ψ ω b60 b61 b62 b63 b64 b65 b66 b67 b68 b69 c d : AV} {l m : List AV}
class Lk (T:List AV) (o:Operand) (c:outParam AV):Prop where
  h:Zan T o=c
class Pt (T:List AV) (d:Option Nat) (c:AV) (U:outParam (List AV)):Prop where
  h:aPut T d c=U
class Gt (T:List AV) (n:Nat) (c:outParam AV):Prop where
  h:T[n]?=some c
theorem lk {T:List AV}{o:Operand}{c:AV}[i:Lk T o c]:Zan T o=c:=i.h
theorem pt {T U:List AV}{d:Option Nat}{c:AV}[i:Pt T d c U]:aPut T d c=U:=i.h
theorem gt {T:List AV}{n:Nat}{c:AV}[i:Gt T n c]:T[n]?=some c:=i.h
section
variable {A B D E F G H I J K M N O P Q R c:AV}{l m:List AV}{n:Nat}
instance:Lk (A::l) (.tmp 0) A:=⟨rfl⟩
instance:Pt (A::l) (some 0) c (c::l):=⟨rfl⟩
instance:Gt (A::l) 0 A:=⟨rfl⟩
instance:Lk (A::B::l) (.tmp 1) B:=⟨rfl⟩
instance:Pt (A::B::l) (some 1) c (A::c::l):=⟨rfl⟩
instance:Gt (A::B::l) 1 B:=⟨rfl⟩
instance:Lk (A::B::D::l) (.tmp 2) D:=⟨rfl⟩
instance:Pt (A::B::D::l) (some 2) c (A::B::c::l):=⟨rfl⟩
instance:Gt (A::B::D::l) 2 D:=⟨rfl⟩
instance:Lk (A::B::D::E::l) (.tmp 3) E:=⟨rfl⟩
instance:Pt (A::B::D::E::l) (some 3) c (A::B::D::c::l):=⟨rfl⟩
instance:Gt (A::B::D::E::l) 3 E:=⟨rfl⟩
instance:Lk (A::B::D::E::F::l) (.tmp 4) F:=⟨rfl⟩
instance:Pt (A::B::D::E::F::l) (some 4) c (A::B::D::E::c::l):=⟨rfl⟩
instance:Gt (A::B::D::E::F::l) 4 F:=⟨rfl⟩
instance:Lk (A::B::D::E::F::G::l) (.tmp 5) G:=⟨rfl⟩
instance:Pt (A::B::D::E::F::G::l) (some 5) c (A::B::D::E::F::c::l):=⟨rfl⟩
instance:Gt (A::B::D::E::F::G::l) 5 G:=⟨rfl⟩
instance:Lk (A::B::D::E::F::G::H::l) (.tmp 6) H:=⟨rfl⟩
instance:Pt (A::B::D::E::F::G::H::l) (some 6) c (A::B::D::E::F::G::c::l):=⟨rfl⟩
instance:Gt (A::B::D::E::F::G::H::l) 6 H:=⟨rfl⟩
instance:Lk (A::B::D::E::F::G::H::I::l) (.tmp 7) I:=⟨rfl⟩
instance:Pt (A::B::D::E::F::G::H::I::l) (some 7) c (A::B::D::E::F::G::H::c::l):=⟨rfl⟩
instance:Gt (A::B::D::E::F::G::H::I::l) 7 I:=⟨rfl⟩
instance:Lk (A::B::D::E::F::G::H::I::J::l) (.tmp 8) J:=⟨rfl⟩
instance:Pt (A::B::D::E::F::G::H::I::J::l) (some 8) c (A::B::D::E::F::G::H::I::c::l):=⟨rfl⟩
instance:Gt (A::B::D::E::F::G::H::I::J::l) 8 J:=⟨rfl⟩
instance:Lk (A::B::D::E::F::G::H::I::J::K::l) (.tmp 9) K:=⟨rfl⟩
instance:Pt (A::B::D::E::F::G::H::I::J::K::l) (some 9) c (A::B::D::E::F::G::H::I::J::c::l):=⟨rfl⟩
instance:Gt (A::B::D::E::F::G::H::I::J::K::l) 9 K:=⟨rfl⟩
instance:Lk (A::B::D::E::F::G::H::I::J::K::M::l) (.tmp 10) M:=⟨rfl⟩
instance:Pt (A::B::D::E::F::G::H::I::J::K::M::l) (some 10) c (A::B::D::E::F::G::H::I::J::K::c::l):=⟨rfl⟩
instance:Gt (A::B::D::E::F::G::H::I::J::K::M::l) 10 M:=⟨rfl⟩
instance:Lk (A::B::D::E::F::G::H::I::J::K::M::N::l) (.tmp 11) N:=⟨rfl⟩
instance:Pt (A::B::D::E::F::G::H::I::J::K::M::N::l) (some 11) c (A::B::D::E::F::G::H::I::J::K::M::c::l):=⟨rfl⟩
instance:Gt (A::B::D::E::F::G::H::I::J::K::M::N::l) 11 N:=⟨rfl⟩
instance:Lk (A::B::D::E::F::G::H::I::J::K::M::N::O::l) (.tmp 12) O:=⟨rfl⟩
instance:Pt (A::B::D::E::F::G::H::I::J::K::M::N::O::l) (some 12) c (A::B::D::E::F::G::H::I::J::K::M::N::c::l):=⟨rfl⟩
instance:Gt (A::B::D::E::F::G::H::I::J::K::M::N::O::l) 12 O:=⟨rfl⟩
instance:Lk (A::B::D::E::F::G::H::I::J::K::M::N::O::P::l) (.tmp 13) P:=⟨rfl⟩
instance:Pt (A::B::D::E::F::G::H::I::J::K::M::N::O::P::l) (some 13) c (A::B::D::E::F::G::H::I::J::K::M::N::O::c::l):=⟨rfl⟩
instance:Gt (A::B::D::E::F::G::H::I::J::K::M::N::O::P::l) 13 P:=⟨rfl⟩
instance:Lk (A::B::D::E::F::G::H::I::J::K::M::N::O::P::Q::l) (.tmp 14) Q:=⟨rfl⟩
instance:Pt (A::B::D::E::F::G::H::I::J::K::M::N::O::P::Q::l) (some 14) c (A::B::D::E::F::G::H::I::J::K::M::N::O::P::c::l):=⟨rfl⟩
instance:Gt (A::B::D::E::F::G::H::I::J::K::M::N::O::P::Q::l) 14 Q:=⟨rfl⟩
instance:Lk (A::B::D::E::F::G::H::I::J::K::M::N::O::P::Q::R::l) (.tmp 15) R:=⟨rfl⟩
instance:Pt (A::B::D::E::F::G::H::I::J::K::M::N::O::P::Q::R::l) (some 15) c (A::B::D::E::F::G::H::I::J::K::M::N::O::P::Q::c::l):=⟨rfl⟩
instance:Gt (A::B::D::E::F::G::H::I::J::K::M::N::O::P::Q::R::l) 15 R:=⟨rfl⟩
instance (priority := high) [i:Lk l (.tmp n) c]:Lk (A::B::D::E::F::G::H::I::J::K::M::N::O::P::Q::R::l) (.tmp (n+16)) c:=⟨i.h⟩
instance (priority := high) [i:Pt l (some n) c m]:Pt (A::B::D::E::F::G::H::I::J::K::M::N::O::P::Q::R::l) (some (n+16)) c (A::B::D::E::F::G::H::I::J::K::M::N::O::P::Q::R::m):=⟨by have h:=i.h;show _=_;simp only [aPut] at h ⊢;rw [←h];rfl⟩
instance (priority := high) [i:Gt l n c]:Gt (A::B::D::E::F::G::H::I::J::K::M::N::O::P::Q::R::l) (n+16) c:=⟨i.h⟩
end
theorem lk0:Zan (g::l) (.tmp 0)=g:=rfl
theorem pt0:aPut (g::l) (some 0) c=c::l:=rfl
theorem gt0:(g::l)[0]?=some g:=rfl
theorem lk1:Zan (g::i::l) (.tmp 1)=i:=rfl
theorem pt1:aPut (g::i::l) (some 1) c=g::c::l:=rfl
theorem gt1:(g::i::l)[1]?=some i:=rfl
theorem pt2:aPut (g::i::j::l) (some 2) c=g::i::c::l:=rfl
theorem gt2:(g::i::j::l)[2]?=some j:=rfl
theorem pt3:aPut (g::i::j::o::l) (some 3) c=g::i::j::c::l:=rfl
theorem gt3:(g::i::j::o::l)[3]?=some o:=rfl
theorem lk4:Zan (g::i::j::o::p::l) (.tmp 4)=p:=rfl
theorem pt4:aPut (g::i::j::o::p::l) (some 4) c=g::i::j::o::c::l:=rfl
theorem gt4:(g::i::j::o::p::l)[4]?=some p:=rfl
theorem lk5:Zan (g::i::j::o::p::q::l) (.tmp 5)=q:=rfl
theorem pt5:aPut (g::i::j::o::p::q::l) (some 5) c=g::i::j::o::p::c::l:=rfl
theorem gt5:(g::i::j::o::p::q::l)[5]?=some q:=rfl
theorem pt6:aPut (g::i::j::o::p::q::r::l) (some 6) c=g::i::j::o::p::q::c::l:=rfl
theorem gt6:(g::i::j::o::p::q::r::l)[6]?=some r:=rfl
theorem pt7:aPut (g::i::j::o::p::q::r::t::l) (some 7) c=g::i::j::o::p::q::r::c::l:=rfl
theorem gt7:(g::i::j::o::p::q::r::t::l)[7]?=some t:=rfl
theorem gt8:(g::i::j::o::p::q::r::t::u::l)[8]?=some u:=rfl
theorem pt9:aPut (g::i::j::o::p::q::r::t::u::v::l) (some 9) c=g::i::j::o::p::q::r::t::u::c::l:=rfl
theorem gt9:(g::i::j::o::p::q::r::t::u::v::l)[9]?=some v:=rfl
theorem pt10:aPut (g::i::j::o::p::q::r::t::u::v::w::l) (some 10) c=g::i::j::o::p::q::r::t::u::v::c::l:=rfl
theorem gt10:(g::i::j::o::p::q::r::t::u::v::w::l)[10]?=some w:=rfl
theorem lk11:Zan (g::i::j::o::p::q::r::t::u::v::w::y::l) (.tmp 11)=y:=rfl
theorem pt11:aPut (g::i::j::o::p::q::r::t::u::v::w::y::l) (some 11) c=g::i::j::o::p::q::r::t::u::v::w::c::l:=rfl
theorem lk13:Zan (g::i::j::o::p::q::r::t::u::v::w::y::z::A::l) (.tmp 13)=A:=rfl
theorem pt13:aPut (g::i::j::o::p::q::r::t::u::v::w::y::z::A::l) (some 13) c=g::i::j::o::p::q::r::t::u::v::w::y::z::c::l:=rfl
theorem pt14:aPut (g::i::j::o::p::q::r::t::u::v::w::y::z::A::B::l) (some 14) c=g::i::j::o::p::q::r::t::u::v::w::y::z::A::c::l:=rfl
theorem lk24:Zan (g::i::j::o::p::q::r::t::u::v::w::y::z::A::B::C::D::E::F::G::H::I::J::K::L::l) (.tmp 24)=L:=rfl
theorem pt24:aPut (g::i::j::o::p::q::r::t::u::v::w::y::z::A::B::C::D::E::F::G::H::I::J::K::L::l) (some 24) c=g::i::j::o::p::q::r::t::u::v::w::y::z::A::B::C::D::E::F::G::H::I::J::K::c::l:=rfl
theorem pt25:aPut (g::i::j::o::p::q::r::t::u::v::w::y::z::A::B::C::D::E::F::G::H::I::J::K::L::M::l) (some 25) c=g::i::j::o::p::q::r::t::u::v::w::y::z::A::B::C::D::E::F::G::H::I::J::K::L::c::l:=rfl
theorem pt26:aPut (g::i::j::o::p::q::r::t::u::v::w::y::z::A::B::C::D::E::F::G::H::I::J::K::L::M::N::l) (some 26) c=g::i::j::o::p::q::r::t::u::v::w::y::z::A::B::C::D::E::F::G::H::I::J::K::L::M::c::l:=rfl
theorem lk38:Zan (g::i::j::o::p::q::r::t::u::v::w::y::z::A::B::C::D::E::F::G::H::I::J::K::L::M::N::O::P::Q::R::S::U::V::W::X::Y::Z::α::l) (.tmp 38)=α:=rfl
theorem lk39:Zan (g::i::j::o::p::q::r::t::u::v::w::y::z::A::B::C::D::E::F::G::H::I::J::K::L::M::N::O::P::Q::R::S::U::V::W::X::Y::Z::α::β::l) (.tmp 39)=β:=rfl
theorem pt39:aPut (g::i::j::o::p::q::r::t::u::v::w::y::z::A::B::C::D::E::F::G::H::I::J::K::L::M::N::O::P::Q::R::S::U::V::W::X::Y::Z::α::β::l) (some 39) c=g::i::j::o::p::q::r::t::u::v::w::y::z::A::B::C::D::E::F::G::H::I::J::K::L::M::N::O::P::Q::R::S::U::V::W::X::Y::Z::α::c::l:=rfl
theorem lk40:Zan (g::i::j::o::p::q::r::t::u::v::w::y::z::A::B::C::D::E::F::G::H::I::J::K::L::M::N::O::P::Q::R::S::U::V::W::X::Y::Z::α::β::γ::l) (.tmp 40)=γ:=rfl
theorem pt40:aPut (g::i::j::o::p::q::r::t::u::v::w::y::z::A::B::C::D::E::F::G::H::I::J::K::L::M::N::O::P::Q::R::S::U::V::W::X::Y::Z::α::β::γ::l) (some 40) c=g::i::j::o::p::q::r::t::u::v::w::y::z::A::B::C::D::E::F::G::H::I::J::K::L::M::N::O::P::Q::R::S::U::V::W::X::Y::Z::α::β::c::l:=rfl
theorem lk41:Zan (g::i::j::o::p::q::r::t::u::v::w::y::z::A::B::C::D::E::F::G::H::I::J::K::L::M::N::O::P::Q::R::S::U::V::W::X::Y::Z::α::β::γ::δ::l) (.tmp 41)=δ:=rfl
theorem pt41:aPut (g::i::j::o::p::q::r::t::u::v::w::y::z::A::B::C::D::E::F::G::H::I::J::K::L::M::N::O::P::Q::R::S::U::V::W::X::Y::Z::α::β::γ::δ::l) (some 41) c=g::i::j::o::p::q::r::t::u::v::w::y::z::A::B::C::D::E::F::G::H::I::J::K::L::M::N::O::P::Q::R::S::U::V::W::X::Y::Z::α::β::γ::c::l:=rfl
theorem lk48:Zan (g::i::j::o::p::q::r::t::u::v::w::y::z::A::B::C::D::E::F::G::H::I::J::K::L::M::N::O::P::Q::R::S::U::V::W::X::Y::Z::α::β::γ::δ::ε::ζ::η::θ::ι::κ::μ::l) (.tmp 48)=μ:=rfl
theorem lk49:Zan (g::i::j::o::p::q::r::t::u::v::w::y::z::A::B::C::D::E::F::G::H::I::J::K::L::M::N::O::P::Q::R::S::U::V::W::X::Y::Z::α::β::γ::δ::ε::ζ::η::θ::ι::κ::μ::ν::l) (.tmp 49)=ν:=rfl
theorem pt49:aPut (g::i::j::o::p::q::r::t::u::v::w::y::z::A::B::C::D::E::F::G::H::I::J::K::L::M::N::O::P::Q::R::S::U::V::W::X::Y::Z::α::β::γ::δ::ε::ζ::η::θ::ι::κ::μ::ν::l) (some 49) c=g::i::j::o::p::q::r::t::u::v::w::y::z::A::B::C::D::E::F::G::H::I::J::K::L::M::N::O::P::Q::R::S::U::V::W::X::Y::Z::α::β::γ::δ::ε::ζ::η::θ::ι::κ::μ::c::l:=rfl
theorem hs0 {h:AH}{n:Nat}(hn:h.length=n) {e0 e:Ent}{l:AH}:(h++(e0::l)).set (n+0) e=h++(e::l):=by subst hn;simp
theorem hl0 {h:AH}{n:Nat}(hn:h.length=n):(h++[]).length=n+0:=by subst hn;simp
theorem ha0 {h:AH}{ e:Ent}:(h++[])++[e]=h++[e]:=by simp
theorem hg1 {h:AH}{n:Nat}(hn:h.length=n) {e0 e1:Ent}{l:AH}:(h++(e0::e1::l))[n+1]?=some e1:=by subst hn;simp
theorem hs1 {h:AH}{n:Nat}(hn:h.length=n) {e0 e1 e:Ent}{l:AH}:(h++(e0::e1::l)).set (n+1) e=h++(e0::e::l):=by subst hn;simp
theorem hl1 {h:AH}{n:Nat}(hn:h.length=n) {e0:Ent}:(h++[e0]).length=n+1:=by subst hn;simp
theorem ha1 {h:AH}{e0 e:Ent}:(h++[e0])++[e]=h++[e0,e]:=by simp
theorem hg2 {h:AH}{n:Nat}(hn:h.length=n) {e0 e1 e2:Ent}{l:AH}:(h++(e0::e1::e2::l))[n+2]?=some e2:=by subst hn;simp
theorem hs2 {h:AH}{n:Nat}(hn:h.length=n) {e0 e1 e2 e:Ent}{l:AH}:(h++(e0::e1::e2::l)).set (n+2) e=h++(e0::e1::e::l):=by subst hn;simp
theorem hl2 {h:AH}{n:Nat}(hn:h.length=n) {e0 e1:Ent}:(h++[e0,e1]).length=n+2:=by subst hn;simp
theorem ha2 {h:AH}{e0 e1 e:Ent}:(h++[e0,e1])++[e]=h++[e0,e1,e]:=by simp
theorem hs3 {h:AH}{n:Nat}(hn:h.length=n) {e0 e1 e2 e3 e:Ent}{l:AH}:(h++(e0::e1::e2::e3::l)).set (n+3) e=h++(e0::e1::e2::e::l):=by subst hn;simp
theorem hl3 {h:AH}{n:Nat}(hn:h.length=n) {e0 e1 e2:Ent}:(h++[e0,e1,e2]).length=n+3:=by subst hn;simp
theorem ha3 {h:AH}{e0 e1 e2 e:Ent}:(h++[e0,e1,e2])++[e]=h++[e0,e1,e2,e]:=by simp
theorem hs4 {h:AH}{n:Nat}(hn:h.length=n) {e0 e1 e2 e3 e4 e:Ent}{l:AH}:(h++(e0::e1::e2::e3::e4::l)).set (n+4) e=h++(e0::e1::e2::e3::e::l):=by subst hn;simp
theorem hl4 {h:AH}{n:Nat}(hn:h.length=n) {e0 e1 e2 e3:Ent}:(h++[e0,e1,e2,e3]).length=n+4:=by subst hn;simp
theorem ha4 {h:AH}{e0 e1 e2 e3 e:Ent}:(h++[e0,e1,e2,e3])++[e]=h++[e0,e1,e2,e3,e]:=by simp
theorem hg5 {h:AH}{n:Nat}(hn:h.length=n) {e0 e1 e2 e3 e4 e5:Ent}{l:AH}:(h++(e0::e1::e2::e3::e4::e5::l))[n+5]?=some e5:=by subst hn;simp
theorem hs5 {h:AH}{n:Nat}(hn:h.length=n) {e0 e1 e2 e3 e4 e5 e:Ent}{l:AH}:(h++(e0::e1::e2::e3::e4::e5::l)).set (n+5) e=h++(e0::e1::e2::e3::e4::e::l):=by subst hn;simp
theorem ha5 {h:AH}{e0 e1 e2 e3 e4 e:Ent}:(h++[e0,e1,e2,e3,e4])++[e]=h++[e0,e1,e2,e3,e4,e]:=by simp
theorem hg6 {h:AH}{n:Nat}(hn:h.length=n) {e0 e1 e2 e3 e4 e5 e6:Ent}{l:AH}:(h++(e0::e1::e2::e3::e4::e5::e6::l))[n+6]?=some e6:=by subst hn;simp
theorem hs6 {h:AH}{n:Nat}(hn:h.length=n) {e0 e1 e2 e3 e4 e5 e6 e:Ent}{l:AH}:(h++(e0::e1::e2::e3::e4::e5::e6::l)).set (n+6) e=h++(e0::e1::e2::e3::e4::e5::e::l):=by subst hn;simp
theorem hl6 {h:AH}{n:Nat}(hn:h.length=n) {e0 e1 e2 e3 e4 e5:Ent}:(h++[e0,e1,e2,e3,e4,e5]).length=n+6:=by subst hn;simp
theorem ha6 {h:AH}{e0 e1 e2 e3 e4 e5 e:Ent}:(h++[e0,e1,e2,e3,e4,e5])++[e]=h++[e0,e1,e2,e3,e4,e5,e]:=by simp
theorem hg7 {h:AH}{n:Nat}(hn:h.length=n) {e0 e1 e2 e3 e4 e5 e6 e7:Ent}{l:AH}:(h++(e0::e1::e2::e3::e4::e5::e6::e7::l))[n+7]?=some e7:=by subst hn;simp
theorem hs7 {h:AH}{n:Nat}(hn:h.length=n) {e0 e1 e2 e3 e4 e5 e6 e7 e:Ent}{l:AH}:(h++(e0::e1::e2::e3::e4::e5::e6::e7::l)).set (n+7) e=h++(e0::e1::e2::e3::e4::e5::e6::e::l):=by subst hn;simp
theorem hl7 {h:AH}{n:Nat}(hn:h.length=n) {e0 e1 e2 e3 e4 e5 e6:Ent}:(h++[e0,e1,e2,e3,e4,e5,e6]).length=n+7:=by subst hn;simp
theorem ha7 {h:AH}{e0 e1 e2 e3 e4 e5 e6 e:Ent}:(h++[e0,e1,e2,e3,e4,e5,e6])++[e]=h++[e0,e1,e2,e3,e4,e5,e6,e]:=by simp
theorem hg8 {h:AH}{n:Nat}(hn:h.length=n) {e0 e1 e2 e3 e4 e5 e6 e7 e8:Ent}{l:AH}:(h++(e0::e1::e2::e3::e4::e5::e6::e7::e8::l))[n+8]?=some e8:=by subst hn;simp
theorem hs8 {h:AH}{n:Nat}(hn:h.length=n) {e0 e1 e2 e3 e4 e5 e6 e7 e8 e:Ent}{l:AH}:(h++(e0::e1::e2::e3::e4::e5::e6::e7::e8::l)).set (n+8) e=h++(e0::e1::e2::e3::e4::e5::e6::e7::e::l):=by subst hn;simp
theorem hl8 {h:AH}{n:Nat}(hn:h.length=n) {e0 e1 e2 e3 e4 e5 e6 e7:Ent}:(h++[e0,e1,e2,e3,e4,e5,e6,e7]).length=n+8:=by subst hn;simp
theorem ha8 {h:AH}{e0 e1 e2 e3 e4 e5 e6 e7 e:Ent}:(h++[e0,e1,e2,e3,e4,e5,e6,e7])++[e]=h++[e0,e1,e2,e3,e4,e5,e6,e7,e]:=by simp
theorem hg9 {h:AH}{n:Nat}(hn:h.length=n) {e0 e1 e2 e3 e4 e5 e6 e7 e8 e9:Ent}{l:AH}:(h++(e0::e1::e2::e3::e4::e5::e6::e7::e8::e9::l))[n+9]?=some e9:=by subst hn;simp
theorem hs9 {h:AH}{n:Nat}(hn:h.length=n) {e0 e1 e2 e3 e4 e5 e6 e7 e8 e9 e:Ent}{l:AH}:(h++(e0::e1::e2::e3::e4::e5::e6::e7::e8::e9::l)).set (n+9) e=h++(e0::e1::e2::e3::e4::e5::e6::e7::e8::e::l):=by subst hn;simp
theorem hl9 {h:AH}{n:Nat}(hn:h.length=n) {e0 e1 e2 e3 e4 e5 e6 e7 e8:Ent}:(h++[e0,e1,e2,e3,e4,e5,e6,e7,e8]).length=n+9:=by subst hn;simp
theorem ha9 {h:AH}{e0 e1 e2 e3 e4 e5 e6 e7 e8 e:Ent}:(h++[e0,e1,e2,e3,e4,e5,e6,e7,e8])++[e]=h++[e0,e1,e2,e3,e4,e5,e6,e7,e8,e]:=by simp
theorem dp0 {l:List AV}:(l).drop 0=l:=rfl
theorem dp1 {g:AV}{l:List AV}:(g::l).drop 1=l:=rfl
theorem dp2 {g i:AV}{l:List AV}:(g::i::l).drop 2=l:=rfl
theorem lki {T:List AV}{k:IntKind}{n:Int}:Zan T (.const (.int k n))=.v (.int k n):=rfl
theorem lkb {T:List AV}{b:Bool}:Zan T (.const (.bool b))=bv b:=rfl
theorem lks {T:List AV}{s:ByteArray}:Zan T (.const (.string s))=sv s:=rfl
theorem lkn {T:List AV}:Zan T (.const (.slice none 0 0))=.sl 0 0 true []:=rfl
theorem lkf {T:List AV}{f:FuncId}:Zan T (.func f)=.v (.func (.func f) #[] #[]):=rfl
theorem ptn {T:List AV}{c:AV}:aPut T none c=T:=rfl
theorem mp0 {T:List AV}:([]:List Operand).map (Zan T)=[]:=rfl
theorem mp1 {T:List AV}{x:Operand}{a:AV}{xs:List Operand}{ats:List AV}(h:Zan T x=a) (hs:xs.map (Zan T)=ats):(x::xs).map (Zan T)=a::ats:=by rw [List.map_cons,h,hs]
class Mp (T:List AV) (x:List Operand) (a:outParam (List AV)):Prop where
  h:x.map (Zan T)=a
theorem mp {T:List AV}{x:List Operand}{a:List AV}[i:Mp T x a]:x.map (Zan T)=a:=i.h
instance {T:List AV}:Mp T [] []:=⟨rfl⟩
instance {T:List AV}{o:Operand}{x:List Operand}{c:AV}{a:List AV}[i:Lk T o c][j:Mp T x a]:Mp T (o::x) (c::a):=⟨mp1 i.h j.h⟩
instance {T:List AV}{k:IntKind}{n:Int}:Lk T (.const (.int k n)) (.v (.int k n)):=⟨rfl⟩
instance {T:List AV}{b:Bool}:Lk T (.const (.bool b)) (bv b):=⟨rfl⟩
instance {T:List AV}{s:ByteArray}:Lk T (.const (.string s)) (sv s):=⟨rfl⟩
instance {T:List AV}:Lk T (.const (.slice none 0 0)) (.sl 0 0 true []):=⟨rfl⟩
instance {T:List AV}{f:FuncId}:Lk T (.func f) (.v (.func (.func f) #[] #[])):=⟨rfl⟩
end
end Go.Ab
end
section
namespace Go.Ab
section
variable {P : Program} {n0 : Nat}
theorem AX.thn_mono {N N':List AV→AH→Prop}{Q Q':AX→List AV→AH→Prop}(hn : ∀ T h,N T h→N' T h) (hq : ∀ x T h,Q x T h→Q' x T h) : ∀ x T h,AX.thn N Q x T h→AX.thn N' Q' x T h:=by
 intro x T h hx
 cases x <;> simp only [AX.thn] at hx ⊢ <;> first | exact hn _ _ hx | exact hq _ _ _ hx
theorem Zq4 {f:AV}{xs:List AV}{h:AH}{R R':AE→AH→Prop}(hr : ∀ r h,R r h→R' r h) (hc:Zg6 P f xs h R):Zg6 P f xs h R':=by
 unfold Zg6 at *
 split
 ·exact ⟨hc.1,hc.2.1,hc.2.2.mono hr⟩
 ·exact hc.mono hr
 ·rename_i h1 h2
  split at hc
  ·exact absurd rfl (h1 _ _ _)
  ·exact absurd rfl (h2 _ _)
  ·exact hc
theorem Zq1 {Kp Kp':AV→List AV→AH→Prop}{K K':List AV→AH→Prop}(hp : ∀ c T h,Kp c T h→Kp' c T h) (hk : ∀ T h,K T h→K' T h) {o:AOper}{T:List AV}{h:AH}(hs:astep P Kp o T h K):astep P Kp' o T h K':=by
 unfold astep at *
 split
 ·rename_i heq
  rw [heq] at hs
  refine Zq4 ?_ hs
  intro r h' hr
  cases r <;> first | exact hk _ _ hr | exact hp _ _ _ hr
 ·rename_i heq
  rw [heq] at hs
  dsimp only at hs
  split at hs
  ·exact hp _ _ _ hs
  ·exact hs.elim
 ·rename_i heq
  rw [heq] at hs
  dsimp only at hs
  split at hs <;> rename_i hx
  ·exact fun b hb=>hk _ _ (hs b hb)
  ·exact hs.elim
 ·rename_i h1 h2 h3
  have hs':(match aval h (Zan T) o.op with
   | some c=>K (aPut T o.dst c) h
   | none=>match aeff h (Zan T) o.op with
    | some (c,h')=>K (aPut T o.dst c) h'
    | none=>False):=by
   split at hs
   ·rename_i heq;exact absurd heq (h1 _ _)
   ·rename_i heq;exact absurd heq (h2 _)
   ·rename_i heq;exact absurd heq (h3 _ _)
   ·exact hs
  cases hv:aval h (Zan T) o.op with
  | some c=>rw [hv] at hs';exact hk _ _ hs'
  | none =>
   rw [hv] at hs'
   cases hv2:aeff h (Zan T) o.op with
   | some p=>rw [hv2] at hs';exact hk _ _ hs'
   | none=>rw [hv2] at hs';exact hs'
theorem Zi6 {Kp Kp':AV→List AV→AH→Prop}{K K':List AV→AH→Prop}(hp : ∀ c T h,Kp c T h→Kp' c T h) (hk : ∀ T h,K T h→K' T h) : ∀ (l:List AOper) (T:List AV) (h:AH),arun P Kp l T h K→arun P Kp' l T h K'
 | [],T,h,hr=>hk _ _ hr
 | o::l,T,h,hr=>Zg3 (fun b ⟨h1,h2⟩=>⟨fun e=>Zq1 hp (fun T h hr=>Zi6 hp hk l T h hr) (h1 e),fun e=>Zi6 hp hk l _ _ (h2 e)⟩) hr
theorem ZoC {rs:List Nat}{K K':List AV→AH→Prop}(hk : ∀ T h,K T h→K' T h) {h0:AH}{o:AOper}{T:List AV}{ents:AH}(hs:adstep P rs h0 o T ents K):adstep P rs h0 o T ents K':=by
 unfold adstep at *
 split
 ·rename_i heq
  rw [heq] at hs
  obtain ⟨c,h1,h2⟩:=hs
  exact ⟨c,h1,hk _ _ h2⟩
 ·rename_i agg sz x heq
  rw [heq] at hs
  dsimp only at hs
  split at hs <;> rename_i hx
  ·split at hs <;> rename_i hy
   ·exact hk _ _ hs
   ·exact hs.elim
  ·obtain ⟨ty,s,cells,c,h1,h2,h3,h4⟩:=hs
   exact ⟨ty,s,cells,c,h1,h2,h3,hk _ _ h4⟩
  ·exact hs.elim
 ·rename_i h1 h1b
  have hs':(match aval h0 (Zan T) o.op with
   | some c=>K (aPut T o.dst c) ents
   | none => ∃ c ent,(aallo (h0.length+ents.length) (Zan T) o.op=some (c,ent)∨ZdE (h0.length+ents.length) (Zan T) o.op=some (c,ent))∧K (aPut T o.dst c) (ents++[ent])):=by
   split at hs
   ·rename_i heq;exact absurd heq (h1 _ _)
   ·rename_i heq;exact absurd heq (h1b _ _ _)
   ·exact hs
  cases hv:aval h0 (Zan T) o.op with
  | some c=>rw [hv] at hs';exact hk _ _ hs'
  | none =>
   rw [hv] at hs'
   obtain ⟨c,ent,h1,h2⟩:=hs'
   exact ⟨c,ent,h1,hk _ _ h2⟩
theorem ZeQ {rs:List Nat}{K K':List AV→AH→Prop}(hk : ∀ T h,K T h→K' T h) {h0:AH} : ∀ (l:List AOper) (T:List AV) (h:AH),adrun P rs h0 l T h K→adrun P rs h0 l T h K'
 | [],T,h,hr=>hk _ _ hr
 | o::l,T,h,hr=>Zg3 (fun b ⟨h1,h2⟩=>⟨fun e=>ZoC (fun T h hr=>ZeQ hk l T h hr) (h1 e),fun e=>ZeQ hk l _ _ (h2 e)⟩) hr
theorem ZoB {rs:List Nat}{K K':List AV→AH→Prop}(hk : ∀ T h,K T h→K' T h) {o:AOper}{T:List AV}{h:AH}(hs:ZhP P rs o T h K):ZhP P rs o T h K':=by
 unfold ZhP at *
 split
 ·rename_i heq
  rw [heq] at hs
  obtain ⟨c,h',h1,h2,h3⟩:=hs
  exact ⟨c,h',h1,h2,hk _ _ h3⟩
 ·rename_i heq;rw [heq] at hs;exact hs
 ·rename_i heq;rw [heq] at hs;exact hs
 ·rename_i h1 h2 h3
  have hs':(match aval h (Zan T) o.op with
   | some c=>K (aPut T o.dst c) h
   | none=>match aeff h (Zan T) o.op with
    | some (c,h')=>(∀ id∈rs,h'[id]?=h[id]?)∧K (aPut T o.dst c) h'
    | none=>False):=by
   split at hs
   ·rename_i heq;exact absurd heq (h1 _ _)
   ·rename_i heq;exact absurd heq (h2 _)
   ·rename_i heq;exact absurd heq (h3 _ _)
   ·exact hs
  cases hv:aval h (Zan T) o.op with
  | some c=>rw [hv] at hs';exact hk _ _ hs'
  | none =>
   rw [hv] at hs'
   cases hv2:aeff h (Zan T) o.op with
   | some p=>rw [hv2] at hs';exact ⟨hs'.1,hk _ _ hs'.2⟩
   | none=>rw [hv2] at hs';exact hs'
theorem Zhu {rs:List Nat}{K K':List AV→AH→Prop}(hk : ∀ T h,K T h→K' T h) : ∀ (q:List Bool) (l:List AOper) (T:List AV) (h:AH),Zc2 P rs q l T h K→Zc2 P rs q l T h K'
 | q,[],T,h,hr=>by cases q <;> exact hk _ _ hr
 | q,o::l,T,h,hr=>Zg3 (fun b ⟨h1,h2⟩=>⟨fun e=>ZoB (fun T h hr=>Zhu hk q.tail l T h hr) (h1 e),fun e=>Zhu hk q.tail l _ _ (h2 e)⟩) hr
theorem Zoz {K K':Bool×List Nat→List AV→AH→Prop}(hk : ∀ t T h,K t T h→K' t T h) {h0:AH}{o:AOper}{T:List AV}{h:AH}(hs:austep P h0 o T h K):austep P h0 o T h K':=by
 unfold austep at *
 split
 ·rename_i heq
  rw [heq] at hs
  rcases hs with ⟨c,a,b⟩ | ⟨c,a,b,d⟩ | ⟨c,n,i,e,a,b,d,k⟩
  ·exact .inl ⟨c,a,hk _ _ _ b⟩
  ·exact .inr (.inl ⟨c,a,b,hk _ _ _ d⟩)
  ·exact .inr (.inr ⟨c,n,i,e,a,b,d,hk _ _ _ k⟩)
 ·rename_i heq;rw [heq] at hs;exact hs
 ·rename_i heq;rw [heq] at hs;exact hs
 ·rename_i heq;rw [heq] at hs;exact hs
 ·rename_i h1 h2 h3 h4
  split at hs
  ·rename_i heq;exact absurd heq (h1 _ _)
  ·rename_i heq;exact absurd heq (h2 _)
  ·rename_i heq;exact absurd heq (h3 _ _)
  ·rename_i heq;exact absurd heq (h4 _ _ _)
  ·rcases hs with ⟨c,a,b⟩ | ⟨c,a,b,d⟩ | ⟨c,n,i,e,a,b⟩ | ⟨c,e,a,b⟩
   ·exact .inl ⟨c,a,hk _ _ _ b⟩
   ·exact .inr (.inl ⟨c,a,b,hk _ _ _ d⟩)
   ·exact .inr (.inr (.inl ⟨c,n,i,e,a,hk _ _ _ b⟩))
   ·exact .inr (.inr (.inr ⟨c,e,a,hk _ _ _ b⟩))
theorem Zgo {K K':List AV→AH→Prop}(hk : ∀ T h,K T h→K' T h) {h0:AH} : ∀ (q:List (List Nat)) (l:List AOper) (tc:List (Bool×List Nat)) (T:List AV) (h:AH),ZcF P h0 q l tc T h K→ZcF P h0 q l tc T h K'
 | q,[],tc,T,h,hr=>by cases q <;> exact hk _ _ hr
 | q,o::l,tc,T,h,hr=>Zg3 (fun b ⟨h1,h2⟩=>⟨fun e=>Zoz (fun t T h hr=>⟨hr.1,Zgo hk q.tail l _ T h hr.2⟩) (h1 e),fun e=>Zgo hk q.tail l _ _ _ (h2 e)⟩) hr
theorem aw_mono : ∀ (c:AC) {Q Q':AX→List AV→AH→Prop},(∀ x T h,Q x T h→Q' x T h) → ∀ T h,aw P n0 c Q T h→aw P n0 c Q' T h:=by
 intro c
 induction c with
 | skip=>intro Q Q' hq T h hw;exact hq _ _ _ hw
 | reg al=>intro Q Q' hq T h hw;exact Zi6 (fun c T h hk=>hq _ _ _ hk) (fun T h hk=>hq _ _ _ hk) _ _ _ hw
 | drw b q t =>
  intro Q Q' hq T h hw
  obtain ⟨rs,hw⟩:=hw
  exact ⟨rs,ZeQ (fun T h hk=>Zhu (fun T h hk=>hq _ _ _ hk) _ _ _ _ hk) _ _ _ hw⟩
 | drwU q al=>intro Q Q' hq T h hw;exact Zgo (fun T h hk=>hq _ _ _ hk) _ _ _ _ _ hw
 | orPan a x f al d0 iha =>
  intro Q Q' hq T h hw
  rcases hw with hw | ⟨cp,Pp,c,h1,h2,h3⟩
  ·exact .inl (iha hq _ _ hw)
  ·exact .inr ⟨cp,Pp,c,h1,h2,fun T'' h'' hp=>hq _ _ _ (h3 T'' h'' hp)⟩
 | seq a b iha ihb =>
  intro Q Q' hq T h hw
  exact iha (AX.thn_mono (fun T h ⟨T1,h1,hl,hk⟩=>⟨T1,h1,hl,ihb hq _ _ hk⟩) hq) _ _ hw
 | cond c a b iha ihb =>
  intro Q Q' hq T h hw
  simp only [aw] at hw ⊢
  split at hw <;> rename_i hx <;> try (exact hw.elim)
  exact ⟨fun e=>iha hq _ _ (hw.1 e),fun e=>ihb hq _ _ (hw.2 e)⟩
 | block id a iha =>
  intro Q Q' hq T h hw
  refine iha ?_ _ _ hw
  intro x T h hx
  cases x <;> simp only [AX.blk] at hx ⊢ <;> try (exact hq _ _ _ hx)
  split at hx
  ·rename_i e;rw [if_pos e];exact hq _ _ _ hx
  ·rename_i e;rw [if_neg e];exact hq _ _ _ hx
 | loop a iha =>
  intro Q Q' hq T h hw
  obtain ⟨I,n,h0,hr⟩:=hw
  exact ⟨I,n,h0,fun n T h hI=>iha (AX.thn_mono (fun _ _ hk=>hk) hq) _ _ (hr n T h hI)⟩
 | exit id=>intro Q Q' hq T h hw;exact hq _ _ _ hw
 | ret=>intro Q Q' hq T h hw;exact hq _ _ _ hw
def Wk (c d:AV):Prop := ∀ (w:World) (g:Gh) (v:Value),Rep w g c v→Rep w g d v
theorem Wk.refl (c:AV):Wk c c:=fun _ _ _ h=>h
theorem Wk.any (c:AV):Wk c .any:=fun _ _ _ _=>by simp only [Rep]
theorem Wk.trans {a b c:AV}(h:Wk a b) (k:Wk b c):Wk a c:=fun w g v x=>k w g v (h w g v x)
theorem Wk.nil {st st':Nat}{full:Bool}:Wk (.sl 0 st full []) (.sl 0 st' full []):=fun w g v h=>by
 simp only [Rep] at h ⊢
 obtain ⟨_,A,cap,h1,h2,h3,h4,h5,_⟩:=h
 exact ⟨by simp,A,cap,h1,h2,h3,h4,h5,fun h=>absurd rfl h⟩
theorem Wk.full {n st:Nat}{full:Bool}{cs:List AV}:Wk (.sl n st full cs) (.sl n st false cs):=fun w g v h=>by
 simp only [Rep] at h ⊢
 obtain ⟨h0,A,cap,h1,h2,h3,h4,h5,h6⟩:=h
 exact ⟨h0,A,cap,h1,h2,h3,fun h=>(by cases h),h5,h6⟩
theorem Wk.nilF {st st':Nat}{full:Bool}:Wk (.sl 0 st full []) (.sl 0 st' false []):=Wk.nil.trans Wk.full
def WkL:List AV→List AV→Prop
 | [],[]=>True
 | c::cs,d::ds=>Wk c d∧WkL cs ds
 | _,_=>False
theorem WkL.refl : ∀ l,WkL l l
 | []=>trivial
 | c::cs=>⟨Wk.refl c,WkL.refl cs⟩
theorem RepL.wk {w:World}{g:Gh} : ∀ {cs ds:List AV}{vs:List Value},WkL cs ds→RepL w g cs vs→RepL w g ds vs
 | [],[],vs,_,h=>h
 | c::cs,d::ds,vs,hs,h=>by
  simp only [RepL] at h ⊢
  obtain ⟨u,us,e,h1,h2⟩:=h
  exact ⟨u,us,e,hs.1 _ _ _ h1,RepL.wk hs.2 h2⟩
 | [],_::_,_,hs,_=>hs.elim
 | _::_,[],_,hs,_=>hs.elim
theorem Wk.agg {cs ds:List AV}(h:WkL cs ds):Wk (.agg cs) (.agg ds):=fun w g v hr=>by
 simp only [Rep] at hr ⊢
 obtain ⟨vs,e,hc⟩:=hr
 exact ⟨vs,e,hc.wk h⟩
theorem Wk.tup {cs ds:List AV}(h:WkL cs ds):Wk (.tup cs) (.tup ds):=fun w g v hr=>by
 simp only [Rep] at hr ⊢
 obtain ⟨vs,e,hc⟩:=hr
 exact ⟨vs,e,hc.wk h⟩
theorem ALe.wk {T T1:List AV}{h:AH}(hs:WkL T T1):ALe n0 T h T1 h:=fun w0 S0 g0 a w g st=>⟨g,st.tmps.wk hs,st.defers,st.sim,st.fr,st.le,st.bd,st.ow⟩
theorem ACalls.wk {f:FuncId}{as1 bs:List AV}{h:AH}{R:AE→AH→Prop}(hw:WkL as1 bs) (hc:ACalls P f bs h R):ACalls P f as1 h R:=⟨hc.1,fun w g vs hs ha=>hc.2 w g vs hs (ha.wk hw)⟩
section code
variable {Kp : AV → List AV → AH → Prop} {K N : List AV → AH → Prop} {Q : AX → List AV → AH → Prop} {T : List AV} {h : AH} {a b : AC} {i j : Nat}
theorem Zas (hk:K T h):arun P Kp [] T h K:=hk
theorem Zbt {rs:List Nat}{h0:AH}(hk:K T h):adrun P rs h0 [] T h K:=hk
theorem Zaf (hq:Q .normal T h):aw P n0 .skip Q T h:=hq
theorem Za0 (hq:Q (.exit i) T h):aw P n0 (.exit i) Q T h:=hq
theorem Zab (hq:Q .ret T h):aw P n0 .ret Q T h:=hq
theorem Zai (hr:aw P n0 b Q T h):AX.thn (fun T h => ∃ T1 h1,ALe n0 T h T1 h1∧aw P n0 b Q T1 h1) Q .normal T h:=⟨T,h,ALe.refl,hr⟩
theorem ZbQ {T1:List AV}{h1:AH}(hl:ALe n0 T h T1 h1) (hr:aw P n0 b Q T1 h1):AX.thn (fun T h => ∃ T1 h1,ALe n0 T h T1 h1∧aw P n0 b Q T1 h1) Q .normal T h:=⟨T1,h1,hl,hr⟩
theorem ZaI (hr:N T h):AX.thn N Q .normal T h:=hr
theorem ZaF (hr:Q .normal T h):AX.blk i Q .normal T h:=hr
theorem ZaO (hr:Q (.exit i) T h):AX.thn N Q (.exit i) T h:=hr
theorem Zbp (hr:Q .normal T h):AX.blk i Q (.exit i) T h:=by simp only [AX.blk,if_true];exact hr
theorem Zak (hr:Q .ret T h):AX.thn N Q .ret T h:=hr
theorem Zaq (hr:Q .ret T h):AX.blk i Q .ret T h:=hr
theorem Zaw {c:Operand}{t:Bool}(hc:Zan T c=bv t) (hy:t=true→aw P n0 a Q T h) (hn:t=false→aw P n0 b Q T h):aw P n0 (.cond c a b) Q T h:=by
 simp only [aw,hc]
 exact ⟨hy,hn⟩
theorem Zh3 {t:Nat}{c:AV}(ht:T[t]?=some c):T.set t c=T:=by
 apply List.ext_getElem?
 intro j
 by_cases hj:j=t
 ·subst hj
  have:j<T.length:=(List.getElem?_eq_some_iff.1 ht).1
  rw [List.getElem?_set_self this,ht]
 ·rw [List.getElem?_set_ne (Ne.symm hj)]
theorem ZaL {t:Nat}{p:Bool}{T1 T2:List AV}{al:List AOper}(ht:T[t]?=some (bv p)) (hp1:aPut T (some t) (bv true)=T1) (hp2:aPut T (some t) (bv false)=T2) (hy:p=true→arun P Kp al T1 h K) (hn:p=false→arun P Kp al T2 h K):arun P Kp al T h K:=by
 have hs:=Zh3 ht
 cases p
 ·rw [←hs];have:=hn rfl;rw [←hp2] at this;exact this
 ·rw [←hs];have:=hy rfl;rw [←hp1] at this;exact this
theorem Ze8 {rs:List Nat}{h0:AH}{t:Nat}{p:Bool}{T1 T2:List AV}{al:List AOper}(ht:T[t]?=some (bv p)) (hp1:aPut T (some t) (bv true)=T1) (hp2:aPut T (some t) (bv false)=T2) (hy:p=true→adrun P rs h0 al T1 h K) (hn:p=false→adrun P rs h0 al T2 h K):adrun P rs h0 al T h K:=by
 have hs:=Zh3 ht
 cases p
 ·rw [←hs];have:=hn rfl;rw [←hp2] at this;exact this
 ·rw [←hs];have:=hy rfl;rw [←hp1] at this;exact this
theorem Zhk {t:Nat}{p b:Bool}{T1:List AV}{al:List AOper}(ht:T[t]?=some (bv p)) (hb:p=b) (hp1:aPut T (some t) (bv b)=T1) (hy:arun P Kp al T1 h K):arun P Kp al T h K:=by
 have hs:=Zh3 ht
 subst hb
 rw [←hs];rw [←hp1] at hy;exact hy
theorem ZiU {rs:List Nat}{h0:AH}{t:Nat}{p b:Bool}{T1:List AV}{al:List AOper}(ht:T[t]?=some (bv p)) (hb:p=b) (hp1:aPut T (some t) (bv b)=T1) (hy:adrun P rs h0 al T1 h K):adrun P rs h0 al T h K:=by
 have hs:=Zh3 ht
 subst hb
 rw [←hs];rw [←hp1] at hy;exact hy
theorem ZcW {c:Operand}{p:Bool}(hc:Zan T c=bv p) (hp:p=true) (hy:aw P n0 a Q T h):aw P n0 (.cond c a b) Q T h:=ZaG (by rw [hc,hp]) hy
theorem ZcD {c:Operand}{p:Bool}(hc:Zan T c=bv p) (hp:p=false) (hy:aw P n0 b Q T h):aw P n0 (.cond c a b) Q T h:=ZaY (by rw [hc,hp]) hy
theorem w_seqc {ι:Type}(S:ι→List AV×AH) (J:ι→Prop) (ha:aw P n0 a (AX.thn (fun T h => ∃ i,J i∧ALe n0 T h (S i).1 (S i).2) Q) T h) (hb : ∀ i,J i→aw P n0 b Q (S i).1 (S i).2):aw P n0 (.seq a b) Q T h :=
 aw_mono a (AX.thn_mono (fun T h ⟨i,hi,hl⟩=>⟨_,_,hl,hb i hi⟩) (fun _ _ _ hq=>hq)) T h ha
def ZdU:List AV→List (Nat×AV)→List AV
 | T,[]=>T
 | T,(k,c)::ps=>ZdU (T.set k c) ps
def Zfw:AH→List (Nat×Ent)→AH
 | E,[]=>E
 | E,(k,e)::ps=>Zfw (E.set k e) ps
theorem Zfq {b:AC}{E:AH}{h0:AH}{ι:Type}(f:ι→List (Nat×AV)) (g:ι→List (Nat×Ent)) (J:ι→Prop) (ha:aw P n0 a (AX.thn (fun T' h' => ∃ i,J i∧ALe n0 T' h' (ZdU T (f i)) (h0++Zfw E (g i))) Q) T (h0++E)) (hb : ∀ i,J i→aw P n0 b Q (ZdU T (f i)) (h0++Zfw E (g i))):aw P n0 (.seq a b) Q T (h0++E) :=
 w_seqc (fun i=>(ZdU T (f i),h0++Zfw E (g i))) J ha hb
theorem ZhD {E:AH}{h0:AH}{ι:Type}(f:ι→List (Nat×AV)) (g:ι→List (Nat×Ent)) (I:ι→Prop) (m:ι→Nat) (i0:ι) (hI:I i0) (hl:ALe n0 T (h0++E) (ZdU T (f i0)) (h0++Zfw E (g i0)))
  (round : ∀ i,I i→aw P n0 a (AX.thn (LoopTo n0 (fun i=>(ZdU T (f i),h0++Zfw E (g i))) I m i) Q) (ZdU T (f i)) (h0++Zfw E (g i))):aw P n0 (.loop a) Q T (h0++E) :=
 ZtP (fun i=>(ZdU T (f i),h0++Zfw E (g i))) I m i0 hI hl round
theorem ALe.back {T T1:List AV}{h0 E E1 x:AH}{k:Nat}(hs:WkL T T1) (he:E=E1++x) (hk:h0.length+E1.length=k) (hn:n0≤k) (hT:AV.ltL k T1=true) (hh : ∀ e∈h0,e.lt k=true) (hE:E1.all (Ent.lt k)=true):ALe n0 T (h0++E) T1 (h0++E1):=by
 subst he hk
 refine (ALe.wk hs).trans ?_
 have hl:(h0++E1).length=h0.length+E1.length:=by simp
 rw [←List.append_assoc]
 refine ALe.cut (by rw [hl];exact hn) (by rw [hl];exact hT) ?_
 rw [hl]
 intro e he
 rcases List.mem_append.1 he with h1 | h1
 ·exact hh e h1
 ·exact List.all_eq_true.1 hE e h1
theorem ALe.same {T T1:List AV}{h h1:AH}(hs:WkL T T1) (he:h=h1):ALe n0 T h T1 h1:=by subst he;exact ALe.wk hs
theorem wk1 {c d:AV}{cs ds:List AV}(h:d=c) (hs:WkL cs ds):WkL (c::cs) (d::ds):=⟨by subst h;exact Wk.refl _,hs⟩
theorem wka {c:AV}{cs ds:List AV}(hs:WkL cs ds):WkL (c::cs) (.any::ds):=⟨Wk.any _,hs⟩
theorem wkw {c d:AV}{cs ds:List AV}(h:Wk c d) (hs:WkL cs ds):WkL (c::cs) (d::ds):=⟨h,hs⟩
theorem wk0:WkL [] []:=trivial
theorem ivx {a b:Int}(h:a=b):iv a=iv b:=by rw [h]
theorem hga {l:AH}{n k:Nat}{e:Ent}(hn:h.length=n) (hk:l[k]?=some e):(h++l)[n+k]?=some e:=by subst hn;rw [List.getElem?_append_right (by omega),Nat.add_sub_cancel_left,hk]
theorem ltw {n m:Nat}(h:n≤m) {l:AH}(hl : ∀ e∈l,e.lt n=true) : ∀ e∈l,e.lt m=true:=fun e he=>Ent.lt_mono h (hl e he)
end code
section run
variable {Kp : AV → List AV → AH → Prop} {K : List AV → AH → Prop} {rest : List AOper} {T T' : List AV} {h h' h0 ents ents' : AH} {d : Option Nat} {op : AOp} {c : AV}
theorem s_eqn {neg:Bool}{x:Operand}{n st:Nat}{full:Bool}{cs:List AV}{T1:Bool→List AV}(hx:Zan T x=.sl n st full cs) (hp : ∀ b,aPut T d (bv b)=T1 b) (hk : ∀ b,(0<n→b=neg)→arun P Kp rest (T1 b) h K):arun P Kp (⟨d,none,.eqn neg x⟩::rest) T h K:=by
 refine ⟨fun _=>?_,fun h=>by cases h⟩
 simp only [astep,hx]
 intro b hb
 rw [hp]
 exact hk b hb
theorem Ziu {f:FuncId}{x:Operand}{xs:List Operand}{as1:List AV}(hf:Zan T x=.v (.func (.func f) #[] #[])) (hx:xs.map (Zan T)=as1) (hc:ACalls P f as1 h fun r h'=>h'=h∧r=.ret c) (hp:aPut T d c=T') (hk:arun P Kp rest T' h K):arun P Kp (⟨d,none,.call x xs⟩::rest) T h K:=by
 subst hp hx
 refine ⟨fun _=>?_,fun h=>by cases h⟩
 simp only [astep,hf,Zg6]
 refine ⟨trivial,trivial,hc.mono ?_⟩
 rintro r h' ⟨rfl,rfl⟩
 exact hk
theorem ZeV {f:FuncId}{xs:List Operand}{as1:List AV}(hx:xs.map (Zan T)=as1) (hc:ACalls P f as1 h fun r h''=>r=.ret c∧h''=h') (hp:aPut T d c=T') (hk:arun P Kp rest T' h' K):arun P Kp (⟨d,none,.call (.func f) xs⟩::rest) T h K:=by
 subst hp
 refine ZgD hx hc ?_
 rintro r h' ⟨rfl,rfl⟩
 exact hk
theorem s_calla {f:FuncId}{xs:List Operand}{as1 cells:List AV}{ty st id m:Nat}{H:Nat→AH}{T1:Nat→List AV}(hx:xs.map (Zan T)=as1) (hc:ACalls P f as1 h fun r h'' => ∃ v,r=.ret (.own h.length v m)∧h''=h++[.mk v ty st cells]) (hl:h.length=id) (hh : ∀ v,h++[.mk v ty st cells]=H v) (hp : ∀ v,aPut T d (.own id v m)=T1 v) (hk : ∀ v,arun P Kp rest (T1 v) (H v) K):arun P Kp (⟨d,none,.call (.func f) xs⟩::rest) T h K:=by
 subst hl
 refine ZgD hx hc ?_
 rintro r h' ⟨v,rfl,rfl⟩
 have:=hk v
 rw [←hp,←hh] at this
 exact this
theorem Zsw {f:FuncId}{xs:List Operand}{as1:List AV}{e e2:Ent}{id id2:Nat}{h1:AH}(hx:xs.map (Zan T)=as1) (hc:ACalls P f as1 h fun r h''=>r=.ret c∧h''=(h.set id e).set id2 e2) (hh:h.set id e=h1) (hh2:h1.set id2 e2=h') (hp:aPut T d c=T') (hk:arun P Kp rest T' h' K):arun P Kp (⟨d,none,.call (.func f) xs⟩::rest) T h K:=by
 subst hp hh2 hh
 refine ZgD hx hc ?_
 rintro r h' ⟨rfl,rfl⟩
 exact hk
theorem ZaA {f:FuncId}{xs:List Operand}{as1:List AV}{e:Ent}{id:Nat}(hx:xs.map (Zan T)=as1) (hc:ACalls P f as1 h fun r h''=>r=.ret c∧h''=h.set id e) (hh:h.set id e=h') (hp:aPut T d c=T') (hk:arun P Kp rest T' h' K):arun P Kp (⟨d,none,.call (.func f) xs⟩::rest) T h K:=by
 subst hp hh
 refine ZgD hx hc ?_
 rintro r h' ⟨rfl,rfl⟩
 exact hk
theorem Ztj {m:Bool}{q:List Bool}{rs:List Nat}{f:FuncId}{xs:List Operand}{as1:List AV}{e:Ent}{id:Nat}(hx:xs.map (Zan T)=as1) (hc:ACalls P f as1 h fun r h''=>r=.ret c∧h''=h.set id e) (hh:h.set id e=h') (hr : ∀ id∈(bif m then rs else []),h'[id]?=h[id]?) (hp:aPut T d c=T') (hk:Zc2 P rs q rest T' h' K):Zc2 P rs (m::q) (⟨d,none,.call (.func f) xs⟩::rest) T h K:=by
 subst hh
 exact k_call hx hc hr hp hk
end run
section more
variable {Q : AX → List AV → AH → Prop} {T : List AV} {h : AH} {a : AC}
theorem ZbG {c:AC}{h1:AH}(he:h1=h) (hw:aw P n0 c Q T h1):aw P n0 c Q T h:=by subst he;exact hw
theorem ZrV {ι:Type}(f:ι→List (Nat×AV)) (H:ι→AH) (I:ι→Prop) (m:ι→Nat) (i0:ι) (hI:I i0) (hl:ALe n0 T h (ZdU T (f i0)) (H i0))
  (round : ∀ i,I i→aw P n0 a (AX.thn (LoopTo n0 (fun i=>(ZdU T (f i),H i)) I m i) Q) (ZdU T (f i)) (H i)):aw P n0 (.loop a) Q T h :=
 ZtP (fun i=>(ZdU T (f i),H i)) I m i0 hI hl round
theorem ZaC {h E:AH}{id:Nat}{e:Ent}(hid:id<h.length):(h.set id e++E)[id]?=some e:=by
 rw [List.getElem?_append_left (by simpa using hid),List.getElem?_set_self hid]
theorem Zax {h E:AH}{id:Nat}{e e':Ent}(hid:id<h.length):(h.set id e++E).set id e'=h.set id e'++E:=by
 rw [List.set_append_left _ _ (by simpa using hid),List.set_set]
theorem ZbU {h:AH}{id:Nat}{e:Ent}(he:h[id]?=some e):h.set id e=h:=by
 apply List.ext_getElem?
 intro j
 by_cases hj:j=id
 ·subst hj
  have:j<h.length:=(List.getElem?_eq_some_iff.1 he).1
  rw [List.getElem?_set_self this,he]
 ·rw [List.getElem?_set_ne (Ne.symm hj)]
theorem Zad {h:AH}{id n:Nat}{e:Ent}(hn:h.length=n):(h.set id e).length=n:=by simpa using hn
theorem ZaR {h:AH}{id n:Nat}{e:Ent}(hlt : ∀ x∈h,x.lt n=true) (he:e.lt n=true) : ∀ x∈h.set id e,x.lt n=true:=by
 intro x hx
 rcases List.mem_or_eq_of_mem_set hx with h1 | rfl
 ·exact hlt x h1
 ·exact he
theorem ALe.iceR {T T':List AV}{h h':AH}{id ver ty s d n:Nat}{cells cs:List AV}(hi:h[id]?=some (.mk ver ty s cells)) (hd:T[d]?=some (.own id ver n)) (hc:cells.take (n*s)=cs) (hl:n*s≤cells.length) (hp:aPut T (some d) (.sl n s false cs)=T') (hh:h.set id .gone=h'):ALe n0 T h T' h':=by
 subst hp hh hc
 exact ALe.ice hi hd hl
theorem ALe.iceCellR {T:List AV}{h h1 h2:AH}{id j ver ty s n k v' t' s':Nat}{cells cs cs' ds:List AV}(hi:h[id]?=some (.mk ver ty s cells)) (hj:h[j]?=some (.mk v' t' s' cs)) (hne:j≠id) (hk:cs[k]?=some (.own id ver n)) (hc:cells.take (n*s)=ds) (hl:n*s≤cells.length) (hp:aPut cs (some k) (.sl n s false ds)=cs') (e1:h.set id .gone=h1) (e2:h1.set j (.mk v' t' s' cs')=h2):ALe n0 T h T h2:=by
 subst e2 e1 hp hc
 exact ALe.iceCell hi hj hne hk hl
theorem ALe.iceN {T T':List AV}{h h':AH}{id ver ty s d n n':Nat}{cells cs:List AV}(hi:h[id]?=some (.mk ver ty s cells)) (hd:T[d]?=some (.own id ver n)) (hc:cells.take (n*s)=cs) (hl:n*s≤cells.length) (hn:n=n') (hp:aPut T (some d) (.sl n' s false cs)=T') (hh:h.set id .gone=h'):ALe n0 T h T' h':=by
 subst hn
 exact ALe.iceR hi hd hc hl hp hh
theorem SimH.tell1 {w:World}{g:Gh}{h:AH}(hs:SimH w g h) {id ver ty s k:Nat}{cells:List AV}{c c':AV}(hi:h[id]?=some (.mk ver ty s cells)) (hk:cells[k]?=some c)
  (hc : ∀ b cap u,g.loc id ver=some (some ⟨b,0,none⟩,cap)→w.cell? ⟨b,k,none⟩=some u→Rep w g c u→Rep w g c' u) :
  SimH w g (h.set id (.mk ver ty s (cells.set k c'))) ∧ ∀ j,Ow g (h.set id (.mk ver ty s (cells.set k c'))) j→Ow g h j:=by
 have hid:id<h.length:=(List.getElem?_eq_some_iff.1 hi).1
 have hget : ∀ {i v t s':Nat} {cs:List AV},(h.set id (.mk ver ty s (cells.set k c')))[i]?=some (.mk v t s' cs) → ∃ cs',h[i]?=some (.mk v t s' cs')∧(i≠id→cs'=cs)∧(i=id→v=ver∧cs'=cells∧cs=cells.set k c'):=by
  intro i v t s' cs he
  by_cases hii:i=id
  ·subst hii
   rw [List.getElem?_set_self hid] at he
   cases he
   exact ⟨cells,hi,fun h=>absurd rfl h,fun _=>⟨rfl,rfl,rfl⟩⟩
  ·rw [List.getElem?_set_ne (Ne.symm hii)] at he
   exact ⟨cs,he,fun _=>rfl,fun h=>absurd h hii⟩
 have how : ∀ i j,OwAt g (h.set id (.mk ver ty s (cells.set k c'))) i j→OwAt g h i j:=by
  rintro i j ⟨v,t,s',cs,b,cap,e1,e2,e3,e4⟩
  obtain ⟨cs',f1,_⟩:=hget e1
  exact ⟨v,t,s',cs',b,cap,f1,e2,e3,e4⟩
 refine ⟨⟨?_,fun i j k' h1 h2=>hs.inj i j k' (how i k' h1) (how j k' h2),hs.lt,?_,?_,⟨hs.glob.w,hs.glob.d⟩⟩,fun j ⟨i,hj⟩=>⟨i,how i j hj⟩⟩
 ·intro i v t s' cs he
  obtain ⟨cs',f1,f2,f3⟩:=hget he
  obtain ⟨A,cap,e1,e2,e3⟩:=hs.ent _ _ _ _ _ f1
  refine ⟨A,cap,e1,e2,?_⟩
  by_cases hii:i=id
  ·obtain ⟨rfl,rfl,rfl⟩:=f3 hii
   rcases e3 with ⟨h0,h1⟩ | ⟨b,arr,rfl,x1,x2,x3,x4,x5,x6⟩
   ·rw [h0] at hk;simp at hk
   ·refine .inr ⟨b,arr,rfl,x1,x2,x3,x4,by simpa using x5,?_⟩
    obtain ⟨u,hu,hr⟩:=x6.get hk
    have hcell:w.cell? ⟨b,k,none⟩=some u:=by
     rw [cell_of_row w b k arr t (0,0) x3]
     rw [List.getElem?_take] at hu
     split at hu
     ·simpa using hu
     ·cases hu
    subst hii
    have:=x6.set (k:=k) (hc b cap u e1 hcell hr)
    have hself:(arr.toList.take cs'.length).set k u=arr.toList.take cs'.length:=by
     apply List.ext_getElem?
     intro j
     by_cases hj:j=k
     ·subst hj
      have:j<(arr.toList.take cs'.length).length:=(List.getElem?_eq_some_iff.1 hu).1
      rw [List.getElem?_set_self this,hu]
     ·rw [List.getElem?_set_ne (Ne.symm hj)]
    rw [hself] at this
    simpa using this
  ·rw [←f2 hii];exact e3
 ·intro i v l hl
  have:=hs.fresh i v l hl
  refine ⟨by simpa using this.1,fun v' t s' cs he=>?_⟩
  obtain ⟨cs',f1,_⟩:=hget he
  exact this.2 _ _ _ _ f1
 ·intro i v l hl he
  by_cases hii:i=id
  ·subst hii;rw [List.getElem?_set_self hid] at he;cases he
  ·rw [List.getElem?_set_ne (Ne.symm hii)] at he;exact hs.free _ _ _ hl he
theorem ZeC {h E:AH}{i j:Nat}{e f:Ent}(hne:i≠j) (hi:i<h.length):((h.set i e).set j f++E)[i]?=some e:=by
 rw [List.getElem?_append_left (by simpa using hi),List.getElem?_set_ne (Ne.symm hne),List.getElem?_set_self hi]
theorem Ze5 {h E:AH}{i j:Nat}{e f:Ent}(hj:j<h.length):((h.set i e).set j f++E)[j]?=some f:=by
 rw [List.getElem?_append_left (by simpa using hj),List.getElem?_set_self (by simpa using hj)]
theorem Zep {h E:AH}{i j:Nat}{e f e':Ent}(hne:i≠j) (hi:i<h.length):((h.set i e).set j f++E).set i e'=(h.set i e').set j f++E:=by
 rw [List.set_append_left _ _ (by simpa using hi),List.set_comm _ _ (Ne.symm hne),List.set_set]
theorem ZdZ {h E:AH}{i j:Nat}{e f f':Ent}(hj:j<h.length):((h.set i e).set j f++E).set j f'=(h.set i e).set j f'++E:=by
 rw [List.set_append_left _ _ (by simpa using hj),List.set_set]
theorem ZgR {h:AH}{i j:Nat}{e f:Ent}(he:h[i]?=some e) (hf:h[j]?=some f):(h.set i e).set j f=h:=by
 rw [ZbU he,ZbU hf]
theorem Za7 {h:AH}{i j n:Nat}{e f:Ent}(hn:h.length=n):((h.set i e).set j f).length=n:=by simpa using hn
theorem ZdQ {h:AH}{i j n:Nat}{e f:Ent}(hlt : ∀ x∈h,x.lt n=true) (he:e.lt n=true) (hf:f.lt n=true) : ∀ x∈(h.set i e).set j f,x.lt n=true:=ZaR (ZaR hlt he) hf
theorem Zm1 {h E:AH}{i:Nat}{e:Ent}(he:h[i]?=some e):(h++E)[i]?=some e:=by
 rw [List.getElem?_append_left (List.getElem?_eq_some_iff.1 he).1];exact he
theorem ALe.own0Cell {T:List AV}{h h1:AH}{j v' t' s' k st st' ty id:Nat}{cs ds cs':List AV}(hj:h[j]?=some (.mk v' t' s' cs)) (hk:cs[k]?=some (.sl 0 st true ds)) (hl:h.length=id) (hp:aPut cs (some k) (.own id 0 0)=cs') (he:(h++[Ent.mk 0 ty st' []]:AH).set j (Ent.mk v' t' s' cs')=h1):ALe n0 T h T h1:=fun w0 S0 g0 a w g s=>by
 subst hl he hp
 obtain ⟨A1,cap1,l1,l2,l3⟩:=s.sim.ent _ _ _ _ _ hj
 have hjl:j<h.length:=(List.getElem?_eq_some_iff.1 hj).1
 rcases l3 with ⟨h0,_⟩ | ⟨b,arr,rfl,x1,x2,x3,x4,x5,x6⟩
 ·rw [h0] at hk;simp at hk
 obtain ⟨u,hu,hr⟩:=x6.get hk
 have hcell:w.cell? ⟨b,k,none⟩=some u:=by
  rw [cell_of_row w b k arr t' (0,0) x3]
  rw [List.getElem?_take] at hu
  split at hu
  ·simpa using hu
  ·cases hu
 simp only [Rep] at hr
 obtain ⟨_,A,cap,rfl,_,_,hc,_,_⟩:=hr
 obtain rfl:cap=0:=(hc trivial).symm
 obtain ⟨q1,q2,q3⟩:=s.sim.add0 (w':=w) A ty st' (fun _ _=>rfl) (Nat.le_refl _)
 have htm:=RepL.mono q2 (fun _ _=>rfl) _ _ s.tmps
 obtain ⟨r1,r2⟩:=q1.tell1 (id:=j) (c':=.own h.length 0 0) (by rw [List.getElem?_append_left hjl];exact hj) hk (by
  intro b' cap' u' e1 e2 _
  have:=q2.loc _ _ _ l1
  rw [this] at e1
  simp only [Option.some.injEq,Prod.mk.injEq,Addr.mk.injEq] at e1
  obtain ⟨⟨rfl,_⟩,_⟩:=e1
  rw [hcell] at e2
  cases e2
  exact Zcs (Nat.le_refl _) (by simp [maxLen]))
 exact ⟨_,htm,s.defers,r1,s.fr,s.le.trans q2,s.bd,fun i hi=>(q3 i (r2 i hi)).elim (s.ow i) (fun h=>.inr (Nat.le_trans s.fr.size h))⟩
theorem ALe.own0 {T:List AV}{d st st' ty:Nat}{cs:List AV}(hd:T[d]?=some (.sl 0 st true cs)):ALe n0 T h (T.set d (.own h.length 0 0)) (h++[.mk 0 ty st' []]):=fun w0 S0 g0 a w g s=>by
 obtain ⟨u,hu,hr⟩:=s.tmps.get hd
 simp only [Rep] at hr
 obtain ⟨_,A,cap,rfl,_,_,hc,_,_⟩:=hr
 obtain rfl:cap=0:=(hc trivial).symm
 obtain ⟨h1,h2,h3⟩:=s.sim.add0 (w':=w) A ty st' (fun _ _=>rfl) (Nat.le_refl _)
 have htm:=RepL.mono h2 (fun _ _=>rfl) _ _ s.tmps
 have hset:=htm.set (k:=d) (c:=.own h.length 0 0) (u:=.slice A 0 0) (Zcs (Nat.le_refl _) (by simp [maxLen]))
 have hself:a.tmps.toList.set d (.slice A 0 0)=a.tmps.toList:=by
  apply List.ext_getElem?
  intro j
  by_cases hj:j=d
  ·subst hj
   have:j<a.tmps.toList.length:=(List.getElem?_eq_some_iff.1 hu).1
   rw [List.getElem?_set_self this,hu]
  ·rw [List.getElem?_set_ne (Ne.symm hj)]
 rw [hself] at hset
 exact ⟨_,hset,s.defers,h1,s.fr,s.le.trans h2,s.bd,fun k hk=>(h3 k hk).elim (s.ow k) (fun h=>.inr (Nat.le_trans s.fr.size h))⟩
theorem ALe.own0' {T T':List AV}{h h':AH}{d st st' ty id:Nat}{cs:List AV}(hd:T[d]?=some (.sl 0 st true cs)) (hl:h.length=id) (hp:aPut T (some d) (.own id 0 0)=T') (hh:h++[.mk 0 ty st' []]=h'):ALe n0 T h T' h':=by
 subst hl hp hh
 exact ALe.own0 hd
end more
end
section
variable {P : Program} {n0 : Nat}
mutual
/-- how long slices are -/
def AV.bd:AV→Prop
 | .sl n _ _ cs=>n≤9223372036854775807∧AV.bdL cs
 | .own _ _ n=>n≤9223372036854775807
 | .rp cs=>AV.bdL cs
 | .agg cs=>AV.bdL cs
 | .tup cs=>AV.bdL cs
 | .clo _ cs=>AV.bdL cs
 | _=>True
def AV.bdL:List AV→Prop
 | []=>True
 | c::cs=>AV.bd c∧AV.bdL cs
end
mutual
theorem Rep.bd {w:World}{g:Gh} : ∀ (c:AV) (y:Value),Rep w g c y→c.bd
 | .v x,y,_=>by simp only [AV.bd]
 | .any,y,_=>by simp only [AV.bd]
 | .sl n st full cells,y,h=>by
  simp only [Rep] at h
  obtain ⟨_,A,cap,h1,h2,h3,h4,h5,h6⟩:=h
  simp only [AV.bd]
  refine ⟨by simp only [maxLen] at h3;omega,?_⟩
  by_cases hc:cells=[]
  ·subst hc;simp only [AV.bdL]
  ·obtain ⟨b,off,_,_,h7⟩:=h6 hc
   exact RepC.bd cells b off h7
 | .own id ver n,y,h=>by
  simp only [Rep] at h
  obtain ⟨A,cap,h1,h2,h3,_⟩:=h
  simp only [AV.bd]
  simp only [maxLen] at h3
  omega
 | .ptr id ver off,y,h=>by simp only [AV.bd]
 | .rp cells,y,h=>by
  simp only [Rep] at h
  obtain ⟨b,off,e,hd,hc⟩:=h
  simp only [AV.bd]
  exact RepC.bd cells b off hc
 | .agg cells,y,h=>by
  simp only [Rep] at h
  obtain ⟨vs,e,hc⟩:=h
  simp only [AV.bd]
  exact RepL.bd cells _ hc
 | .tup cells,y,h=>by
  simp only [Rep] at h
  obtain ⟨vs,e,hc⟩:=h
  simp only [AV.bd]
  exact RepL.bd cells _ hc
 | .clo fn cells,y,h=>by
  simp only [Rep] at h
  obtain ⟨vs,e,hc⟩:=h
  simp only [AV.bd]
  exact RepL.bd cells _ hc
theorem RepC.bd {w:World}{g:Gh} : ∀ (cs:List AV) (b off:Nat),RepC w g cs b off→AV.bdL cs
 | [],_,_,_=>by simp only [AV.bdL]
 | c::cs,b,off,h=>by
  simp only [RepC] at h
  obtain ⟨⟨u,h1,h2⟩,h3⟩:=h
  simp only [AV.bdL]
  exact ⟨Rep.bd c u h2,RepC.bd cs b (off+1) h3⟩
theorem RepL.bd {w:World}{g:Gh} : ∀ (cs:List AV) (vs:List Value),RepL w g cs vs→AV.bdL cs
 | [],_,_=>by simp only [AV.bdL]
 | c::cs,vs,h=>by
  simp only [RepL] at h
  obtain ⟨u,us,e,h1,h2⟩:=h
  simp only [AV.bdL]
  exact ⟨Rep.bd c u h1,RepL.bd cs us h2⟩
end
theorem ACalls.into {f:FuncId}{af:AF}(hc:ZaH P f=some af) {args T0:List AV}{h:AH}{R:AE→Prop}(hT:args++List.replicate (af.ntmps-args.length) .any=T0)
  (hw : ∀ n,h.length=n→(∀ e∈h,e.lt n=true)→AV.ltL n args=true→AV.bdL args→aw P n af.code (retA af.res fun x h' => ∃ z,h'=h++z∧x.lt n=true∧R x) T0 (h++[])):ACalls P f args h fun x h'=>h'=h∧R x:=by
 subst hT
 exact ⟨ZcK hc,fun w g vs hs ha=>(ACalls.enter (R:=R) hc fun n h1 h2 h3=>hw n h1 h2 h3 (RepL.bd _ _ ha)).2 w g vs hs ha⟩
theorem ACalls.intoG {f:FuncId}{af:AF}(hc:ZaH P f=some af) {args T0:List AV}{h:AH}{R:AE→AH→Prop}(hT:args++List.replicate (af.ntmps-args.length) .any=T0)
  (hw : ∀ n,h.length=n→(∀ e∈h,e.lt n=true)→AV.ltL n args=true→AV.bdL args→aw P n af.code (retA af.res fun x h' => ∃ y z,h'=y++z∧y.length=n∧(∀ e∈y,e.lt n=true)∧x.lt n=true∧R x y) T0 (h++[])):ACalls P f args h R:=by
 subst hT
 exact ⟨ZcK hc,fun w g vs hs ha=>(ACalls.enterG (R:=R) hc fun n h1 h2 h3=>hw n h1 h2 h3 (RepL.bd _ _ ha)).2 w g vs hs ha⟩
theorem ACalls.intoN {f:FuncId}{af:AF}(hc:ZaH P f=some af) {args T0:List AV}{h:AH}{R:AE→AH→Prop}(hT:args++List.replicate (af.ntmps-args.length) .any=T0)
  (hw : ∀ n,h.length=n→(∀ e∈h,e.lt n=true)→AV.ltL n args=true→AV.bdL args→aw P n af.code (retA af.res R) T0 (h++[])):ACalls P f args h R:=by
 subst hT
 refine ⟨ZcK hc,fun w g vs hs ha=>(ACalls.of_aw (R:=R) hc ?_).2 w g vs hs ha⟩
 have:=hw h.length rfl hs.ltE (RepL.lt (fun i v l hl=>(hs.fresh i v l hl).1) _ _ ha) (RepL.bd _ _ ha)
 rwa [List.append_nil] at this
theorem ACalls.weak {f:FuncId}{args:List AV}{h:AH}{res:AV}(hc:ACalls P f args h fun x h'=>h'=h ∧ ∃ c,x=.ret c∧Wk c res):ACalls P f args h fun x h'=>h'=h∧x=.ret res:=by
 refine ⟨hc.1,fun w g vs hs ha=>(hc.2 w g vs hs ha).mono ?_⟩
 rintro e w' ⟨x,h',g',h1,h2,h3,h4,h5,rfl,c,rfl,hw⟩
 refine ⟨.ret res,_,g',?_,h2,h3,h4,h5,rfl,rfl⟩
 cases e <;> simp only [EndR] at h1 ⊢
 exact hw _ _ _ h1
theorem rtw {n:Nat}{h E:AH}{c res:AV}(hl:c.lt n=true) (he:Wk c res) : ∃ z,h++E=h++z∧(AE.ret c).lt n=true ∧ ∃ d,AE.ret c=.ret d∧Wk d res:=⟨E,rfl,hl,c,rfl,he⟩
theorem rt {n:Nat}{h E:AH}{c res:AV}(hl:c.lt n=true) (he:c=res) : ∃ z,h++E=h++z∧(AE.ret c).lt n=true∧AE.ret c=.ret res:=⟨E,rfl,hl,by rw [he]⟩
section
variable {T : List AV} {h : AH} {x y i : Operand} {c : AV}
theorem cvl {cs:List AV}(hx:Zan T x=c) (hc:Zap c=some cs):Zap (Zan T x)=some cs:=by rw [hx];exact hc
theorem oi {τ:Operand→AV}{d:Int}{k:IntKind}{j:Int}(hx:τ x=.v (.int k j)):Zb1 τ d (some x)=some j:=by simp only [Zb1,hx]
theorem on_ {τ:Operand→AV}{d:Int}:Zb1 τ d none=some d:=rfl
theorem Zav {b:Bool}(hx:Zan T x=bv b):aval h (Zan T) (.un .not x)=some (bv (!b)):=by simp only [aval,hx]
theorem v_eqsT {b:Bool}{ks:List LK}{cs ds:List AV}(hx:Zan T x=.agg cs) (hy:Zan T y=.agg ds) (he:ZbD ks cs ds=some b):aval h (Zan T) (.eqs false ks x y)=some (bv b):=v_eqs hx hy he
theorem Zgx {p:Prop} [Decidable p] {ks:List LK}{cs ds:List AV}(hx:Zan T x=.agg cs) (hy:Zan T y=.agg ds) (he:ZbD ks cs ds=some (decide p)):aval h (Zan T) (.eqs true ks x y)=some (bv (decide (¬p))):=by
 rw [v_eqs hx hy he]
 by_cases hp:p <;> simp [hp]
theorem ZdP {a b:Bool}(hx:Zan T x=bv a) (hy:Zan T y=bv b):aval h (Zan T) (.eqb true x y)=some (bv (decide (a≠b))):=by
 rw [v_eqb hx hy]
 cases a <;> cases b <;> rfl
theorem sc_sl {m st sz:Nat}{full:Bool}{cs:List AV}(hx:Zan T x=.sl m st full cs) (hl:cs.length=m*sz):Zcr h sz (Zan T x)=some (m,cs):=by
 simp only [Zcr,hx,Zen,if_pos hl]
theorem Zc9 {id v m ty st sz:Nat}{cells cs:List AV}(hx:Zan T x=.own id v m) (he:h[id]?=some (.mk v ty st cells)) (hs:st=sz) (hc:cells.take (m*sz)=cs) (hl:m*sz≤cells.length):Zcr h sz (Zan T x)=some (m,cs):=by
 subst hc hs
 have:(cells.take (m*st)).length=m*st:=by rw [List.length_take];omega
 simp only [Zcr,hx,Zen,he,if_pos (And.intro trivial hl),if_pos this]
theorem sc_str {s:ByteArray}(hx:Zan T x=sv s):Zcr h 1 (Zan T x)=some (s.size,s.data.toList.map fun b=>.v (.int .u8 b.toNat)):=by simp only [Zcr,hx,if_true]
def rows {α:Type}(f:α→List AV) (l:List α):List AV:=l.flatMap f
theorem Zbw {α:Type}{f:α→List AV}{st:Nat}(hf : ∀ x,(f x).length=st) : ∀ l,(rows f l).length=l.length*st
 | []=>by simp [rows]
 | x::l=>by
  have:=Zbw hf l
  simp only [rows] at this
  simp only [rows,List.flatMap_cons,List.length_append,hf,this,List.length_cons,Nat.add_mul,Nat.one_mul]
  omega
theorem Ziw {α:Type}{f:α→List AV}{st:Nat}(hf : ∀ x,(f x).length=st) : ∀ (k:Nat) (l:List α),(rows f l).drop (k*st)=rows f (l.drop k)
 | 0,l=>by simp
 | k+1,[]=>by simp [rows]
 | k+1,x::l=>by
  have:=Ziw hf k l
  simp only [rows] at this
  simp only [rows,List.flatMap_cons,List.drop_succ_cons]
  rw [Nat.add_mul,Nat.one_mul,Nat.add_comm,←List.drop_drop,←hf x,List.drop_left,hf x]
  exact this
theorem ZsC {α:Type}{f:α→List AV}{st:Nat}(hf : ∀ x,(f x).length=st) {l:List α}{k:Nat}(hk:k<l.length):((rows f l).drop (k*st)).take st=f l[k]:=by
 rw [Ziw hf,List.drop_eq_getElem_cons hk]
 simp only [rows,List.flatMap_cons]
 rw [←hf l[k],List.take_left]
theorem Zbo {α:Type}{f:α→List AV}(l m:List α):rows f (l++m)=rows f l++rows f m:=by simp [rows]
theorem Zbv {α:Type}{f:α→List AV}(x:α):rows f [x]=f x:=by simp [rows]
theorem Zfz {α:Type}{f:α→List AV}(hf : ∀ n x,AV.ltL n (f x)=true) {n:Nat} : ∀ l,AV.ltL n (rows f l)=true
 | []=>rfl
 | x::l=>by
  have:=Zfz hf (n:=n) l
  simp only [rows] at this
  simp only [rows,List.flatMap_cons]
  have key : ∀ a b:List AV,AV.ltL n a=true→AV.ltL n b=true→AV.ltL n (a++b)=true:=by
   intro a
   induction a with
   | nil=>intro b _ hb;exact hb
   | cons c cs ih=>intro b ha hb;simp only [AV.ltL,List.cons_append,Bool.and_eq_true] at ha ⊢;exact ⟨ha.1,ih b ha.2 hb⟩
  exact key _ _ (hf n x) this
theorem Ziv {α:Type}{f:α→List AV}(hf : ∀ x,(f x).all leaf=true) : ∀ l,(rows f l).all leaf=true
 | []=>rfl
 | x::l=>by
  have:=Ziv hf l
  simp only [rows] at this
  simp only [rows,List.flatMap_cons,List.all_append,hf x,this,Bool.and_self]
theorem Zbg {α:Type}{f:α→List AV}{st n k:Nat}{full:Bool}{l:List α}{j:Int}{kd:IntKind}{ds:List AV}(hx:Zan T x=.sl n st full (rows f l)) (hi:Zan T i=.v (.int kd j)) (hf : ∀ x,(f x).length=st) (hst:0<st) (hj:j=(k:Int)) (hk:k<l.length) (hn:n=l.length) (hd:f l[k]=ds):aval h (Zan T) (.ia st x i)=some (.rp ds):=by
 subst hj hn hd
 exact v_ia hx hi hst (by omega) (by omega) (by rw [Int.toNat_natCast];exact ZsC hf hk)
theorem v_lo {α:Type}{f:α→List AV}{st n k:Nat}{full:Bool}{l:List α}{j:Int}{kd:IntKind}{lo:Operand}(hx:Zan T x=.sl n st full (rows f l)) (hi:Zan T lo=.v (.int kd j)) (hf : ∀ x,(f x).length=st) (hj:j=(k:Int)) (hk:k≤l.length) (hn:n=l.length) :
  aval h (Zan T) (.slc st x (some lo) none none)=some (.sl (l.drop k).length st full (rows f (l.drop k))):=by
 subst hj hn
 rw [v_slc hx (oi hi) on_ (by omega) (by omega) (by omega)]
 simp only [Int.toNat_natCast,decide_true,Bool.and_true,Ziw hf,List.length_drop]
 congr 2
 rw [List.take_of_length_le]
 rw [Zbw hf,List.length_drop]
 exact Nat.le_refl _
theorem ZrX {α:Type}{f:α→List AV}{st n k id v ty:Nat}{l:List α}{j:Int}{kd:IntKind}(hx:Zan T x=.own id v n) (hi:Zan T i=.v (.int kd j)) (he:h[id]?=some (.mk v ty st (rows f l))) (hf : ∀ x,(f x).length=st) (hst:0<st) (hj:j=(k:Int)) (hk:k<l.length) (hn:n=l.length):aval h (Zan T) (.ia st x i)=some (.ptr id v (k*st)):=by
 subst hj hn
 rw [ZkJ hx hi he hst (by omega) (by omega) (by rw [Zbw hf];exact Nat.le_refl _),Int.toNat_natCast]
theorem ZrW {α:Type}{f:α→List AV}{k id v ty s:Nat}{l:List α}(hx:Zan T x=.ptr id v (k*1)) (he:h[id]?=some (.mk v ty s (rows f l))) (hf : ∀ x,(f x).length=1) (hk:k<l.length) (hc:f l[k]=[c]):aval h (Zan T) (.load false 1 x)=some c:=by
 refine Zac hx he ?_
 have h1:=ZsC hf hk
 rw [hc] at h1
 have:=congrArg (·[0]?) h1
 simpa [List.getElem?_drop] using this
theorem ZhF (f1:List AV) : ∀ (cs a b:List AV),cs.length=a.length→setCells (f1++(a++b)) f1.length cs=f1++(cs++b)
 | [],[],b,_=>rfl
 | [],_::_,_,h=>by simp at h
 | _::_,[],_,h=>by simp at h
 | c::cs,x::a,b,h=>by
  simp only [setCells]
  have h1:(f1++(x::a++b)).set f1.length c=(f1++[c])++(a++b):=by simp
  rw [h1]
  have h2:f1.length+1=(f1++[c]).length:=by simp
  rw [h2,ZhF (f1++[c]) cs a b (by simpa using h)]
  simp
theorem rows_set {α:Type}{f:α→List AV}{st:Nat}(hf : ∀ x,(f x).length=st) {l:List α}{k:Nat}(hk:k<l.length) (x:α):setCells (rows f l) (k*st) (f x)=rows f (l.set k x):=by
 have h1:rows f l=rows f (l.take k)++(f l[k]++rows f (l.drop (k+1))):=by
  have:l=l.take k++(l[k]::l.drop (k+1)):=by rw [←List.drop_eq_getElem_cons hk,List.take_append_drop]
  calc rows f l=rows f (l.take k++(l[k]::l.drop (k+1))):=by rw [←this]
   _=_:=by rw [Zbo];simp only [rows,List.flatMap_cons]
 have h2:(rows f (l.take k)).length=k*st:=by rw [Zbw hf,List.length_take,Nat.min_eq_left (by omega)]
 rw [h1,←h2,ZhF _ _ _ _ (by rw [hf,hf])]
 have h3:l.set k x=l.take k++(x::l.drop (k+1)):=by
  rw [List.set_eq_take_append_cons_drop,if_pos hk]
 rw [h3,Zbo]
 simp [rows]
theorem e_stOR {α:Type}{f:α→List AV}{sz k id v ty s:Nat}{l:List α}{y:Operand}{z:α}{h':AH}(hx:Zan T x=.ptr id v (k*sz)) (hc:Zap (Zan T y)=some (f z)) (he:h[id]?=some (.mk v ty s (rows f l))) (hf : ∀ x,(f x).length=sz) (hlf:(f z).all leaf=true) (hk:k<l.length) (hh:h.set id (.mk v ty s (rows f (l.set k z)))=h') :
  aeff h (Zan T) (.store sz x y)=some (.v undef,h') :=
 Zal hx hc he (hf z) (by rw [Zbw hf];have:=Nat.mul_le_mul_right sz hk;rw [Nat.succ_mul] at this;exact this) hlf (rows_set hf hk z) hh
theorem Zcl {s:ByteArray}{k:Nat}(hk:k<s.size):Zaz s k=s[k]:=by
 unfold Zaz
 rw [List.getD_eq_getElem?_getD,List.getElem?_eq_getElem (by simpa using hk)]
 rfl
theorem rr_t {t:Nat}(ht:T[t]?=some c):Zg4 T h (.tmp t)=some c:=ht
theorem rr_c {t id v o ty s sz:Nat}{agg:Bool}{cells:List AV}(ht:T[t]?=some (.ptr id v o)) (he:h[id]?=some (.mk v ty s cells)) (hl:Zc4 agg sz (cells.drop o)=some c):Zg4 T h (.cell t agg sz)=some c:=by
 simp only [Zg4,ht,Zc1,he,if_true,Option.bind_some,hl]
theorem ld0 {sz:Nat}{l:List AV}{o:Nat}(hc:l[o]?=some c):Zc4 false sz (l.drop o)=some c:=by
 have:l.drop o=c::l.drop (o+1):=by
  obtain ⟨hlt,rfl⟩:=List.getElem?_eq_some_iff.1 hc
  exact List.drop_eq_getElem_cons hlt
 rw [this];rfl
theorem ld1 {sz:Nat}{l cs:List AV}{o:Nat}(hc:(l.drop o).take sz=cs) (hl:cs.length=sz):Zc4 true sz (l.drop o)=some (.agg cs):=by
 subst hc
 rw [List.length_take] at hl
 simp only [Zc4]
 rw [if_pos (by omega)]
theorem rm0:([]:List AR).mapM (Zg4 T h)=some []:=rfl
theorem rm1 {r:AR}{rs:List AR}{cs:List AV}(h1:Zg4 T h r=some c) (h2:rs.mapM (Zg4 T h)=some cs):(r::rs).mapM (Zg4 T h)=some (c::cs):=by
 simp only [List.mapM_cons,h1,h2];rfl
theorem rs1 {r:AR}(h1:Zg4 T h r=some c):aRes [r] T h=some c:=by simp only [aRes,rm1 h1 rm0]
theorem rsn {rs:List AR}{c1 c2:AV}{cs:List AV}(hm:rs.mapM (Zg4 T h)=some (c1::c2::cs)):aRes rs T h=some (.tup (c1::c2::cs)):=by simp only [aRes,hm]
theorem rs0:aRes [] T h=some (.tup []):=rfl
end
section
variable {Kp : AV → List AV → AH → Prop} {K : List AV → AH → Prop} {Q : AX → List AV → AH → Prop} {T : List AV} {h h0 E E' ents : AH}
theorem ZbJ {bl tl:List AOper}{q:List Bool}(hr:adrun P [] (h0++E) bl T [] fun T ents=>arun P (fun c T h=>Q (.pan c) T h) tl T (h0++(E++ents)) (fun T h=>Q .normal T h)) (hn:tl.all Zdh=true:=by rfl):aw P n0 (.drw bl q tl) Q T (h0++E):=by
 refine w_drw (rs:=[]) (ZeQ ?_ _ _ _ hr)
 intro T ents hk
 rw [List.append_assoc];exact ZpV hn hk
theorem Zl8 (rs:List Nat) {bl tl:List AOper}{q:List Bool}(hr:adrun P rs (h0++E) bl T [] fun T ents=>Zc2 P rs q tl T (h0++(E++ents)) (fun T h=>Q .normal T h)):aw P n0 (.drw bl q tl) Q T (h0++E):=by
 refine w_drw (rs:=rs) (ZeQ ?_ _ _ _ hr)
 intro T ents hk
 rw [List.append_assoc];exact hk
theorem Zof {rs:List Nat}{q:List Bool}{tl:List AOper}(hr:Zc2 P rs q tl T (h0++E) K):Zc2 P rs q tl T (h0++(E++[])) K:=by rw [List.append_nil];exact hr
theorem Zti {rs:List Nat}{q:List Bool}{tl:List AOper}(he:E++ents=E') (hr:Zc2 P rs q tl T (h0++E') K):Zc2 P rs q tl T (h0++(E++ents)) K:=by rw [he];exact hr
theorem Zb4 {tl:List AOper}(hr:arun P Kp tl T (h0++E) K):arun P Kp tl T (h0++(E++[])) K:=by rw [List.append_nil];exact hr
theorem ZqT {tl:List AOper}(he:E++ents=E') (hr:arun P Kp tl T (h0++E') K):arun P Kp tl T (h0++(E++ents)) K:=by rw [he];exact hr
theorem hlk {n k:Nat}(hn:h.length=n) (hk:E.length+ents.length=k):(h++E).length+ents.length=n+k:=by subst hn hk;simp;omega
end
end
section
variable {K : List AV → AH → Prop} {Q : AX → List AV → AH → Prop} {T T' : List AV} {h h' h0 : AH} {q : List (List Nat)} {tc : List (Bool × List Nat)} {rest : List AOper} {d : Option Nat} {op : AOp} {c : AV} {P : Program} {n0 : Nat}
theorem w_orl {a:AC}{x:Operand}{f:FuncId}{al:List AOper}{d0:Nat}(hr:aw P n0 a Q T h):aw P n0 (.orPan a x f al d0) Q T h:=.inl hr
theorem w_orp {a:AC}{x:Operand}{f:FuncId}{al:List AOper}{d0:Nat}{cp:AV}{Pp:AH→Prop}(hc:ACalls P f [c] h fun r h''=>r=.pan cp∧Pp h'') (hr:adrun P [] h al T [] fun T' ents=>ents=[]∧T'[d0]?=some c) (hQ : ∀ (T'':List AV) (h'':AH),Pp h''→Q (.pan cp) T'' h''):aw P n0 (.orPan a x f al d0) Q T h:=.inr ⟨cp,Pp,c,hr,hc,hQ⟩
theorem Zco {al:List AOper}(hr:ZcF P h q al [] T h fun T h=>Q .normal T h):aw P n0 (.drwU q al) Q T h:=hr
def ZpJ (op:AOp):Bool:=match op with
 | .call _ _=>false
 | .panic _=>false
 | .eqn _ _=>false
 | .loadR _ _ _=>false
 | _=>true
theorem Zg1 {gd : Option (Nat × Bool)} {K : Bool × List Nat → List AV → AH → Prop} (hn : ZpJ op = true) (hk : (∃ c, aval [] (Zan T) op = some c ∧ K (false, []) (aPut T d c) h) ∨
      (∃ c,aval h0 (Zan T) op=some c∧HExt h0 h∧K (true,List.range h0.length) (aPut T d c) h) ∨
      (∃ c need id e2,aupd h (Zan T) op=some (c,need,id,e2)∧K (false,need.map (·.1)) (aPut T d c) (h.set id e2)) ∨
      ∃ c ent,(aallo h.length (Zan T) op=some (c,ent)∨ZdE h.length (Zan T) op=some (c,ent))∧K (false,[h.length]) (aPut T d c) (h++[ent])):austep P h0 ⟨d,gd,op⟩ T h K:=by
  cases op <;> first | exact hk | cases hn
theorem Zds (hk:K T h):ZcF P h0 q [] tc T h K:=hk
theorem u_fr (hn:ZpJ op=true) (hv:aval [] (Zan T) op=some c) (hp:aPut T d c=T') (hk:ZcF P h0 q.tail rest (tc++[(false,[])]) T' h K):ZcF P h0 q (⟨d,none,op⟩::rest) tc T h K:=by
 subst hp
 exact ⟨fun _=>Zg1 hn (.inl ⟨c,hv,fun i _=>.inr fun x _=>by simp,hk⟩),fun h=>by cases h⟩
theorem u_rd (hn:ZpJ op=true) (hv:aval h0 (Zan T) op=some c) (hx:HExt h0 h) (hc : ∀ i∈q.headD [],Zhp (tc.getD i (false,[])) (true,List.range h0.length)) (hp:aPut T d c=T') (hk:ZcF P h0 q.tail rest (tc++[(true,List.range h0.length)]) T' h K):ZcF P h0 q (⟨d,none,op⟩::rest) tc T h K:=by
 subst hp
 exact ⟨fun _=>Zg1 hn (.inr (.inl ⟨c,hv,hx,hc,hk⟩)),fun h=>by cases h⟩
theorem u_st {sz id v off:Nat}{p x:Operand}(he:aeff h (Zan T) (.store sz p x)=some (c,h')) (hp':Zan T p=.ptr id v off) (hc : ∀ i∈q.headD [],Zhp (tc.getD i (false,[])) (false,[id])) (hp:aPut T d c=T') (hk:ZcF P h0 q.tail rest (tc++[(false,[id])]) T' h' K):ZcF P h0 q (⟨d,none,.store sz p x⟩::rest) tc T h K:=by
 subst hp
 refine ⟨fun _=>Zg1 rfl (.inr (.inr (.inl ?_))),fun h=>by cases h⟩
 simp only [aeff,hp'] at he
 split at he <;> try (cases he;done)
 rename_i e1 cs hid hcs
 cases hid
 split at he <;> try (cases he;done)
 rename_i v' ty s cells hcell
 split at he <;> try (cases he;done)
 rename_i hcond
 cases he
 exact ⟨_,[(_,.mk v' ty s cells)],_,_,by simp only [aupd,hp',hcs,hcell];rw [if_pos hcond],hc,hk⟩
theorem u_al {id:Nat} (hk1:(match op with | .new _ _ _=>true | .box _ _ _=>true | .lit _ _ _ _ _=>true | _=>false)=true) (he:aeff h (Zan T) op=some (c,h')) (hl:h.length=id) (hc : ∀ i∈q.headD [],Zhp (tc.getD i (false,[])) (false,[id])) (hp:aPut T d c=T') (hk:ZcF P h0 q.tail rest (tc++[(false,[id])]) T' h' K):ZcF P h0 q (⟨d,none,op⟩::rest) tc T h K:=by
 subst hp hl
 cases op <;> simp only at hk1 <;> try (cases hk1;done)
 all_goals refine ⟨fun _=>Zg1 rfl (.inr (.inr (.inr ?_))),fun h=>by cases h⟩
 all_goals simp only [aeff] at he
 ·cases he
  exact ⟨_,_,.inl rfl,hc,hk⟩
 ·split at he <;> try (cases he;done)
  rename_i cs hcs
  split at he <;> try (cases he;done)
  rename_i hsz
  cases he
  exact ⟨_,_,.inl (by simp only [aallo,hcs];rw [if_pos hsz]),hc,hk⟩
 ·split at he <;> try (cases he;done)
  rename_i cs hcs
  cases he
  exact ⟨_,_,.inl (by simp only [aallo,hcs]),hc,hk⟩
theorem hx_l {E F E':AH}(he:E++F=E'):HExt (h++E) (h++E'):=by subst he;rw [←List.append_assoc];exact HExt.append _ _
theorem ZdH {f:FuncId}{xs:List Operand}{as1:List AV}{id:Nat}{e e2:Ent}(hx:xs.map (Zan T)=as1) (he:h[id]?=some e) (hc : ∀ h,h[id]?=some e→ACalls P f as1 h fun r h'=>r=.ret c∧h'=h.set id e2) (hh : ∀ i∈q.headD [],Zhp (tc.getD i (false,[])) (false,[id])) (hs:h.set id e2=h') (hp:aPut T d c=T') (hk:ZcF P h0 q.tail rest (tc++[(false,[id])]) T' h' K):ZcF P h0 q (⟨d,none,.call (.func f) xs⟩::rest) tc T h K:=by
 subst hp hs hx
 unfold ZcF agd
 refine ⟨fun _=>?_,fun h=>by cases h⟩
 exact .inr (.inr ⟨c,[(id,e)],id,e2,fun h hn=>⟨rfl,rfl,(hc h (hn (id,e) (by simp))).mono fun r h' hr=>⟨hr.2,hr.1⟩⟩,fun p hp=>by simp at hp;subst hp;exact he,⟨e,by simp⟩,hh,hk⟩)
theorem u_rdn {n:Nat}(hn:ZpJ op=true) (hv:aval h0 (Zan T) op=some c) (hx:HExt h0 h) (hl:h0.length=n) (hc : ∀ i∈q.headD [],Zhp (tc.getD i (false,[])) (true,List.range n)) (hp:aPut T d c=T') (hk:ZcF P h0 q.tail rest (tc++[(true,List.range n)]) T' h K):ZcF P h0 q (⟨d,none,op⟩::rest) tc T h K:=by
 subst hl;exact u_rd hn hv hx hc hp hk
end
end Go.Ab
end
section
namespace Go.Ab
section
theorem lt' {p:Prop}(h:p:=by first | rfl | (simp only [AV.lt,AV.ltL,Ent.lt,List.all_cons,List.all_nil,Bool.and_true,Bool.and_self,decide_true];done) | (simp [AV.lt,AV.ltL,Ent.lt, *];done) | (simp [AV.lt,AV.ltL,Ent.lt, *];omega)):p:=h
theorem rT' {n:Nat}{h E:AH}{c res:AV}(he:c=res) (hl:c.lt n=true:=by exact lt') : ∃ z,h++E=h++z∧(AE.ret c).lt n=true∧AE.ret c=.ret res:=rt hl he
theorem rtW' {n:Nat}{h E:AH}{c res:AV}(he:Wk c res) (hl:c.lt n=true:=by exact lt') : ∃ z,h++E=h++z∧(AE.ret c).lt n=true ∧ ∃ d,AE.ret c=.ret d∧Wk d res:=rtw hl he
theorem wA' {cs ds:List AV}(h:WkL cs ds:=by repeat (first | exact wk0 | refine wka ?_ | refine wk1 rfl ?_ | refine wk1 (by first | exact ivx (by omega) | (simp;done)) ?_)):WkL cs ds:=h
theorem z' {α:Type}{x b:α}{l:List α}:(x::l).set 0 b=b::l:=rfl
theorem s' {α:Type}{x b:α}{n:Nat}{l:List α}:(x::l).set (n+1) b=x::l.set n b:=rfl
theorem la' {α:Type}{x:α}{l m:List α}:(x::l)++m=x::(l++m):=rfl
theorem ln' {α:Type}{m:List α}:[]++m=m:=rfl
def rn' (a:Nat):Nat→List (Nat×AV)
 | 0=>[]
 | k+1=>(a,.any)::rn' (a+1) k
def tA':List AV→Nat→List AV
 | _,0=>[]
 | x::l,m+1=>x::tA' l m
 | [],m+1=>.any::tA' [] m
theorem Zmd : ∀ (l:List AV) (m:Nat),l.length≤m→l++List.replicate (m-l.length) .any=tA' l m
 | [],0,_=>rfl
 | [],m+1,_=>by
  have:=Zmd [] m (Nat.zero_le _)
  simp only [List.nil_append,List.length_nil,Nat.sub_zero] at this ⊢
  rw [List.replicate_succ,this];rfl
 | x::l,0,h=>by simp at h
 | x::l,m+1,h=>by
  have:=Zmd l m (by simpa using h)
  simp only [List.cons_append,List.length_cons,Nat.add_sub_add_right,this];rfl
variable {P : Program} {f : FuncId} {c : AC} {rs : List AR} {m : Nat} {args : List AV} {h : AH}
theorem tI' {R:AE→Prop}(hc:ZaH P f=some ⟨c,rs,m⟩) (hw : ∀ n,h.length=n→(∀ e∈h,e.lt n=true)→AV.ltL n args=true→AV.bdL args→aw P n c (retA rs fun x h' => ∃ z,h'=h++z∧x.lt n=true∧R x) (tA' args m) (h++[])) (hl:Nat.ble args.length m=true:=by rfl):ACalls P f args h fun x h'=>h'=h∧R x :=
 ACalls.into hc (Zmd _ _ (Nat.le_of_ble_eq_true hl)) hw
theorem tW' {res:AV}(hc:ZaH P f=some ⟨c,rs,m⟩) (hw : ∀ n,h.length=n→(∀ e∈h,e.lt n=true)→AV.ltL n args=true→AV.bdL args→aw P n c (retA rs fun x h' => ∃ z,h'=h++z∧x.lt n=true ∧ ∃ c,x=.ret c∧Wk c res) (tA' args m) (h++[])) (hl:Nat.ble args.length m=true:=by rfl):ACalls P f args h fun x h'=>h'=h∧x=.ret res :=
 ACalls.weak (tI' hc hw hl)
theorem tN' {R:AE→AH→Prop}(hc:ZaH P f=some ⟨c,rs,m⟩) (hw : ∀ n,h.length=n→(∀ e∈h,e.lt n=true)→AV.ltL n args=true→AV.bdL args→aw P n c (retA rs R) (tA' args m) (h++[])) (hl:Nat.ble args.length m=true:=by rfl):ACalls P f args h R :=
 ACalls.intoN hc (Zmd _ _ (Nat.le_of_ble_eq_true hl)) hw
theorem tJ' {R:AE→AH→Prop}(hc:ZaH P f=some ⟨c,rs,m⟩) (hw : ∀ n,h.length=n→(∀ e∈h,e.lt n=true)→AV.ltL n args=true→AV.bdL args→aw P n c (retA rs fun x h' => ∃ y z,h'=y++z∧y.length=n∧(∀ e∈y,e.lt n=true)∧x.lt n=true∧R x y) (tA' args m) (h++[])) (hl:Nat.ble args.length m=true:=by rfl):ACalls P f args h R :=
 ACalls.intoG hc (Zmd _ _ (Nat.le_of_ble_eq_true hl)) hw
end
section
variable {P : Program} {n0 : Nat} {T T1 : List AV} {a : AC} {Q : AX → List AV → AH → Prop}
theorem bkE' {h0 E E1 x:AH}{N:Nat}(K:Nat) (hn:h0.length=N) (hh : ∀ e∈h0,e.lt N=true) (hs:WkL T T1) (he:E=E1++x:=by rfl) (hT:AV.ltL (N+K) T1=true:=by exact lt') (hE:E1.all (Ent.lt (N+K))=true:=by exact lt') (hK:E1.length=K:=by rfl) (h0':n0≤N+K:=by omega):ALe n0 T (h0++E) T1 (h0++E1) :=
 ALe.back hs he (by rw [hn,hK]) h0' hT (ltw (Nat.le_add_right _ _) hh) hE
theorem bk' {h0 E E1 x:AH}{N:Nat}(K:Nat) (hn:h0.length=N) (hh : ∀ e∈h0,e.lt N=true) (he:E=E1++x:=by rfl) (hs:WkL T T1:=by exact wA') (hT:AV.ltL (N+K) T1=true:=by exact lt') (hE:E1.all (Ent.lt (N+K))=true:=by exact lt') (hK:E1.length=K:=by rfl) (h0':n0≤N+K:=by omega):ALe n0 T (h0++E) T1 (h0++E1) :=
 bkE' K hn hh hs he hT hE hK h0'
theorem lU' {ι:Type}{S:ι→List AV×AH}{I:ι→Prop}{m:ι→Nat}{i:ι}{h:AH}(j:ι) (hI:I j) (hl:ALe n0 T h (S j).1 (S j).2) (hm:m j<m i:=by first | omega | (dsimp only;omega)):LoopTo n0 S I m i T h:=LoopTo.mk j hm hI hl
theorem lT' {ι:Type}{S:ι→List AV×AH}{I:ι→Prop}{m:ι→Nat}{i:ι}{h:AH}(j:ι) (hI:I j) (hm:m j<m i:=by first | omega | (dsimp only;omega)) (hl:ALe n0 T h (S j).1 (S j).2:=by (try dsimp only);(try simp only [ZdU,Zfw,z',s',rn',la',ln',Nat.reduceAdd]);exact ALe.same wA' rfl):LoopTo n0 S I m i T h:=LoopTo.mk j hm hI hl
theorem cT' {ι:Type}{J:ι→Prop}{A:ι→List AV}{B:ι→AH}{h:AH}(j:ι) (hI:J j) (hl:ALe n0 T h (A j) (B j):=by (try dsimp only);(try simp only [ZdU,Zfw,z',s',rn',la',ln',Nat.reduceAdd]);exact ALe.same wA' rfl) : ∃ i,J i∧ALe n0 T h (A i) (B i):=⟨j,hI,hl⟩
theorem w_lp {E:AH}{h0:AH}{ι:Type}(f:ι→List (Nat×AV)) (g:ι→List (Nat×Ent)) (I:ι→Prop) (m:ι→Nat) (i0:ι) (hI:I i0)
  (round : ∀ i,I i→aw P n0 a (AX.thn (LoopTo n0 (fun i=>(ZdU T (f i),h0++Zfw E (g i))) I m i) Q) (ZdU T (f i)) (h0++Zfw E (g i))) (hl:ALe n0 T (h0++E) (ZdU T (f i0)) (h0++Zfw E (g i0)):=by (try simp only [ZdU,Zfw,z',s',rn',la',ln',Nat.reduceAdd]);exact ALe.same wA' rfl):aw P n0 (.loop a) Q T (h0++E):=ZhD f g I m i0 hI hl round
end
section
variable {K : List AV → AH → Prop} {Q : AX → List AV → AH → Prop} {T T' : List AV} {h : AH} {Kp : AV → List AV → AH → Prop} {rest : List AOper} {d : Option Nat} {c : AV} {P : Program} {n0 : Nat} {a b : AC} {al : List AOper}
theorem mv' {x:Operand}(hx:Zan T x=c) (hp:aPut T d c=T') (hk:arun P Kp rest T' h K):arun P Kp (⟨d,none,.mv x⟩::rest) T h K:=s_val rfl (v_mv hx) hp hk
theorem sn' (hr:aw P n0 b Q T h):arun P Kp [] T h (fun T h=>AX.thn (fun T h => ∃ T1 h1,ALe n0 T h T1 h1∧aw P n0 b Q T1 h1) Q .normal T h):=Zas (Zai hr)
theorem wr' (hr:arun P (fun c T h=>AX.thn (fun T h => ∃ T1 h1,ALe n0 T h T1 h1∧aw P n0 b Q T1 h1) Q (.pan c) T h) al T h (fun T h=>AX.thn (fun T h => ∃ T1 h1,ALe n0 T h T1 h1∧aw P n0 b Q T1 h1) Q .normal T h)):aw P n0 (.seq (.reg al) b) Q T h:=Zam (Zar hr)
theorem cd' {c:Operand}{v:Bool}{p q:Prop}(hc:Zan T c=bv v) (hy:p→aw P n0 a Q T h) (hn:q→aw P n0 b Q T h) (h1:v=true→p:=by first | exact fun e=>of_decide_eq_true e | exact fun e=>e) (h2:v=false→q:=by first | exact fun e=>of_decide_eq_false e | exact fun e=>e):aw P n0 (.cond c a b) Q T h:=Zaw hc (fun e=>hy (h1 e)) (fun e=>hn (h2 e))
theorem V' {op:AOp}(hv:aval h (Zan T) op=some c) (hp:aPut T d c=T') (hk:arun P Kp rest T' h K) (hn:Zdh ⟨d,none,op⟩=true:=by rfl):arun P Kp (⟨d,none,op⟩::rest) T h K:=s_val hn hv hp hk
theorem E' {op:AOp}{h':AH}(he:aeff h (Zan T) op=some (c,h')) (hp:aPut T d c=T') (hk:arun P Kp rest T' h' K) (hn:Zdh ⟨d,none,op⟩=true:=by rfl) (hv:aval h (Zan T) op=none:=by rfl):arun P Kp (⟨d,none,op⟩::rest) T h K:=s_eff hn hv he hp hk
theorem D' {op:AOp}{rs:List Nat}{h0:AH}{ents:AH}(hv:aval h0 (Zan T) op=some c) (hp:aPut T d c=T') (hk:adrun P rs h0 rest T' ents K) (hn:noD ⟨d,none,op⟩=true:=by rfl):adrun P rs h0 (⟨d,none,op⟩::rest) T ents K:=d_val hn hv hp hk
theorem sp' {t:Nat}{v:Bool}{p q:Prop}{T1 T2:List AV}(ht:T[t]?=some (bv v)) (hp1:aPut T (some t) (bv true)=T1) (hp2:aPut T (some t) (bv false)=T2) (hy:p→arun P Kp al T1 h K) (hn:q→arun P Kp al T2 h K) (h1:v=true→p:=by first | exact fun e=>of_decide_eq_true e | exact fun e=>e) (h2:v=false→q:=by first | exact fun e=>of_decide_eq_false e | exact fun e=>e):arun P Kp al T h K:=ZaL ht hp1 hp2 (fun e=>hy (h1 e)) (fun e=>hn (h2 e))
theorem dq' {rs:List Nat}{h0:AH}{t:Nat}{v:Bool}{p q:Prop}{T1 T2:List AV}(ht:T[t]?=some (bv v)) (hp1:aPut T (some t) (bv true)=T1) (hp2:aPut T (some t) (bv false)=T2) (hy:p→adrun P rs h0 al T1 h K) (hn:q→adrun P rs h0 al T2 h K) (h1:v=true→p:=by first | exact fun e=>of_decide_eq_true e | exact fun e=>e) (h2:v=false→q:=by first | exact fun e=>of_decide_eq_false e | exact fun e=>e):adrun P rs h0 al T h K:=Ze8 ht hp1 hp2 (fun e=>hy (h1 e)) (fun e=>hn (h2 e))
theorem nb' {n m:Nat}(h:Nat.ble n m=true):n≤m:=Nat.le_of_ble_eq_true h
@[reducible] def Mv (d x:Nat):AOper:=⟨some d,none,.mv (.tmp x)⟩
@[reducible] def Nk (d x:Nat):AOper:=⟨some d,none,.nck (.tmp x)⟩
@[reducible] def Fa (d k x:Nat):AOper:=⟨some d,none,.fa k (.tmp x)⟩
@[reducible] def Ld (d x:Nat):AOper:=⟨some d,none,.load false 1 (.tmp x)⟩
@[reducible] def Ex (d x k:Nat):AOper:=⟨some d,none,.ext (.tmp x) k⟩
@[reducible] def Oo (d:Nat) (o:AOp):AOper:=⟨some d,none,o⟩
@[reducible] def Ot (d g:Nat) (o:AOp):AOper:=⟨some d,some (g,true),o⟩
@[reducible] def Of (d g:Nat) (o:AOp):AOper:=⟨some d,some (g,false),o⟩
@[reducible] def Ci (n:Int):Operand:=.const (.int .i64 n)
@[reducible] def Ss:AV:=.v (.string ⟨#[]⟩)
end
theorem rz {T:List AV}{h:AH}{t:Nat}{c:AV}[i:Gt T t c]:aRes [.tmp t] T h=some c:=rs1 (rr_t i.h)
theorem ry {T:List AV}{h:AH}{t s:Nat}{c d:AV}[i:Gt T t c][j:Gt T s d]:aRes [.tmp t,.tmp s] T h=some (.tup [c,d]):=rsn (rm1 (rr_t i.h) (rm1 (rr_t j.h) rm0))
theorem rx {T:List AV}{h:AH}{t s r:Nat}{c d e:AV}[i:Gt T t c][j:Gt T s d][k:Gt T r e]:aRes [.tmp t,.tmp s,.tmp r] T h=some (.tup [c,d,e]):=rsn (rm1 (rr_t i.h) (rm1 (rr_t j.h) (rm1 (rr_t k.h) rm0)))
theorem nh {p:Prop}(h:p:=by first | (simp [Zhp];done) | (simp [Zhp];omega) | (simp [Zhp] <;> (try intros) <;> omega)):p:=h
theorem ro {p:Prop}(h:p:=by first | rfl | omega):p:=h
theorem tb':(∀ l,tA' l 0=[])∧(∀ x l m,tA' (x::l) (m+1)=x::tA' l m)∧(∀ m,tA' [] (m+1)=.any::tA' [] m)∧(AV.bdL []=True)∧(∀ c l,AV.bdL (c::l)=(AV.bd c∧AV.bdL l))∧(∀ p:Prop,(p∧True)=p)∧(∀ p:Prop,(True∧p)=p)∧(∀ n a b l,AV.bd (.sl n a b l)=(n≤9223372036854775807∧AV.bdL l))∧(∀ a b n,AV.bd (.own a b n)=(n≤9223372036854775807))∧(∀ l,AV.bd (.rp l)=AV.bdL l)∧(∀ l,AV.bd (.agg l)=AV.bdL l)∧(∀ l,AV.bd (.tup l)=AV.bdL l)∧(∀ f l,AV.bd (.clo f l)=AV.bdL l)∧(∀ v,AV.bd (.v v)=True)∧(AV.bd .any=True)∧(∀ a b c,AV.bd (.ptr a b c)=True):=⟨fun l=>by cases l<;>rfl,fun _ _ _=>rfl,fun _=>rfl,by simp only [AV.bdL],fun _ _=>by simp only [AV.bdL],fun _=>and_true _,fun _=>true_and _,fun _ _ _ _=>by simp only [AV.bd],fun _ _ _=>by simp only [AV.bd],fun _=>by simp only [AV.bd],fun _=>by simp only [AV.bd],fun _=>by simp only [AV.bd],fun _ _=>by simp only [AV.bd],fun _=>by simp only [AV.bd],by simp only [AV.bd],fun _ _ _=>by simp only [AV.bd]⟩
theorem sm':(∀ T,ZdU T []=T)∧(∀ T k c l,ZdU T ((k,c)::l)=ZdU (T.set k c) l)∧(∀ T,Zfw T []=T)∧(∀ T k c l,Zfw T ((k,c)::l)=Zfw (T.set k c) l)∧(∀ (α:Type) (x b:α) l,(x::l).set 0 b=b::l)∧(∀ (α:Type) (x b:α) n l,(x::l).set (n+1) b=x::l.set n b)∧(∀ a,rn' a 0=[])∧(∀ a k,rn' a (k+1)=(a,.any)::rn' (a+1) k)∧(∀ (α:Type) (x:α) l m,(x::l)++m=x::(l++m))∧(∀ (α:Type) (m:List α),[]++m=m):=⟨fun _=>rfl,fun _ _ _ _=>rfl,fun _=>rfl,fun _ _ _ _=>rfl,fun _ _ _ _=>rfl,fun _ _ _ _ _=>rfl,fun _=>rfl,fun _ _=>rfl,fun _ _ _ _=>rfl,fun _ _=>rfl⟩
abbrev Ac (f:FuncId) (a:List AV) (h:AH) (c:AV):Prop:=ACalls Go.Proofs.Tryz.prog f a h fun x h' => h'=h∧x = .ret c
@[reducible] def Bn (d:Nat) (o:BinOp) (x y:Nat):AOper:=⟨some d,none,.bin o (.tmp x) (.tmp y)⟩
@[reducible] def Bc (d:Nat) (o:BinOp) (x:Nat) (n:Int):AOper:=⟨some d,none,.bin o (.tmp x) (.const (.int .i64 n))⟩
@[reducible] def Pk (d c a b:Nat):AOper:=⟨some d,none,.pick (.tmp c) (.tmp a) (.tmp b)⟩
@[reducible] def Cl (d f:Nat) (l:List Operand):AOper:=⟨some d,none,.call (.func f) l⟩
@[reducible] def Mc (d:Nat) (n:Int):AOper:=⟨some d,none,.mv (.const (.int .i64 n))⟩
@[reducible] def Mb (d:Nat) (b:Bool):AOper:=⟨some d,none,.mv (.const (.bool b))⟩
@[reducible] def Ms (d:Nat):AOper:=⟨some d,none,.mv (.const (.string ⟨#[]⟩))⟩
@[reducible] def Sc (p x:Nat):AOper:=⟨none,none,.store 1 (.tmp p) (.tmp x)⟩
@[reducible] def mt (x:Nat):AOp:=.mv (.tmp x)
@[reducible] def Cd (x:Nat) (a b:AC):AC:=.cond (.tmp x) a b
@[reducible] def Sr (l:List AOper) (b:AC):AC:=.seq (.reg l) b
@[reducible] def Sd (l:List AOper) (b:AC):AC:=.seq (.drw l [] []) b
@[reducible] def Ex0 (x i:Nat) (b:AC):AC:=.seq (.cond (.tmp x) .skip (.exit i)) b
end Go.Ab
end
section
namespace Go.Proofs.YtgjchdhdopgkkaaGreatDoor
namespace Civ
def Zjv (y:Int):Bool:=y%4==0&&(y%100 != 0||y%400==0)
def lp (y:Int):Int:=if Zjv y then 1 else 0
def bef (y:Int):Int:=365*(y-1)+(y-1)/4-(y-1)/100+(y-1)/400
def mlen (y m:Int):Int :=
 if m=2 then 28+lp y else if m=4 then 30 else if m=6 then 30 else if m=9 then 30 else if m=11 then 30 else 31
def cum (y m:Int):Int:=if m≤2 then 31*(m-1) else 59+lp y+(153*(m-3)+2)/5
def num (y m d:Int):Int:=bef y-719162+d-1+cum y m
def Zby (y m d:Int):Bool:=decide (1≤y)&&decide (y≤9999)&&decide (1≤m)&&decide (m≤12)&&decide (1≤d)&&decide (d≤mlen y m)
theorem ZcB {y m d:Int}:Zby y m d=true↔1≤y∧y≤9999∧1≤m∧m≤12∧1≤d∧d≤mlen y m:=by
 simp [Zby,and_assoc]
theorem lp_iff (y:Int):lp y=if y%4=0∧(y%100≠0∨y%400=0) then 1 else 0:=by
 unfold lp Zjv
 congr 1
 simp
theorem ZqF (y:Int):0≤lp y∧lp y≤1:=by unfold lp;split <;> omega
theorem ZfX (y:Int):bef (y+1)=bef y+365+lp y:=by
 rw [lp_iff];unfold bef;split <;> omega
theorem Zg0 {a b:Int}(h:a≤b):bef a≤bef b:=by unfold bef;omega
theorem ZlD {a b:Int}(h:a<b):bef a+365≤bef b:=by unfold bef;omega
theorem bef_bd {y:Int}(h0:1≤y) (h:y≤20000):0≤bef y∧bef y≤8000000:=by unfold bef;omega
theorem bef_1970:bef 1970=719162:=by decide
theorem bef_1:bef 1=0:=by decide
theorem ZdD:bef 10000=3652059:=by decide
theorem ZdL (y m:Int):28≤mlen y m∧mlen y m≤31:=by
 have:=ZqF y;unfold mlen;split <;> (try split) <;> (try split) <;> (try split) <;> (try split) <;> omega
theorem ZgW {y m:Int}(h1:1≤m) (h2:m≤12):cum y (m+1)=cum y m+mlen y m:=by
 have:m=1∨m=2∨m=3∨m=4∨m=5∨m=6∨m=7∨m=8∨m=9∨m=10∨m=11∨m=12:=by omega
 rcases this with h | h | h | h | h | h | h | h | h | h | h | h <;> subst h <;> simp [cum,mlen] <;> omega
theorem ZtL (y:Int):cum y 1=0:=by simp [cum]
theorem ZtK (y:Int):cum y 13=365+lp y:=by simp [cum];omega
theorem Zqh {y m:Int}(h1:1≤m) (h2:m≤13):0≤cum y m∧cum y m≤366:=by
 have:=ZqF y;unfold cum;split <;> omega
theorem cum_le {y a b:Int}(h1:1≤a) (h:a≤b):cum y a≤cum y b:=by
 have:=ZqF y;unfold cum;split <;> split <;> omega
theorem Zqg {y a b:Int}(h1:1≤a) (h:a<b) (h2:b≤13):cum y a+mlen y a≤cum y b:=by
 rw [←ZgW (y:=y) h1 (by omega)]
 exact cum_le (by omega) (by omega)
theorem Zlc {y m d:Int}(h:Zby y m d=true):bef y≤num y m d+719162∧num y m d+719162<bef (y+1):=by
 rw [ZcB] at h
 have hs:=ZfX y
 have hc:=Zqh (y:=y) (m:=m) (by omega) (by omega)
 have:cum y m+mlen y m≤365+lp y:=by rw [←ZtK];exact Zqg h.2.2.1 (by omega) (by omega)
 unfold num;omega
theorem num_bd {y m d:Int}(h:Zby y m d=true) : -719162≤num y m d∧num y m d≤2932896:=by
 have h1:=Zlc h
 rw [ZcB] at h
 have a:=Zg0 (a:=1) (b:=y) (by omega)
 have b:=Zg0 (a:=y+1) (b:=10000) (by omega)
 rw [bef_1] at a;rw [ZdD] at b;omega
theorem ZiG {y m d y' m' d':Int}(h:Zby y m d=true) (h':Zby y' m' d'=true) (hl:y<y'):num y m d<num y' m' d':=by
 have a:=Zlc h;have b:=Zlc h'
 have c:=Zg0 (a:=y+1) (b:=y') (by omega);omega
theorem ZhJ {y m d m' d':Int}(h:Zby y m d=true) (h':Zby y m' d'=true) (hl:m<m'):num y m d<num y m' d':=by
 rw [ZcB] at h h'
 have:=Zqg (y:=y) h.2.2.1 hl (by omega)
 unfold num;omega
theorem Zj5 {y m d y' m' d':Int}(h:Zby y m d=true) (h':Zby y' m' d'=true) :
  num y m d<num y' m' d'↔y<y'∨y=y'∧(m<m'∨m=m'∧d<d'):=by
 constructor
 ·intro hlt
  rcases Int.lt_trichotomy y y' with a | a | a
  ·exact .inl a
  ·subst a
   rcases Int.lt_trichotomy m m' with b | b | b
   ·exact .inr ⟨rfl,.inl b⟩
   ·subst b;refine .inr ⟨rfl,.inr ⟨rfl,?_⟩⟩;unfold num at hlt;omega
   ·have:=ZhJ h' h b;omega
  ·have:=ZiG h' h a;omega
 ·rintro (a | ⟨rfl,a | ⟨rfl,a⟩⟩)
  ·exact ZiG h h' a
  ·exact ZhJ h h' a
  ·unfold num;omega
theorem num_inj {y m d y' m' d':Int}(h:Zby y m d=true) (h':Zby y' m' d'=true) (he:num y m d=num y' m' d'):y=y'∧m=m'∧d=d':=by
 have a:=(Zj5 h h').2;have b:=(Zj5 h' h).2
 rcases Int.lt_trichotomy y y' with c | c | c
 ·have:=a (.inl c);omega
 ·subst c
  rcases Int.lt_trichotomy m m' with c | c | c
  ·have:=a (.inr ⟨rfl,.inl c⟩);omega
  ·subst c;unfold num at he;exact ⟨rfl,rfl,by omega⟩
  ·have:=b (.inr ⟨rfl,.inl c⟩);omega
 ·have:=b (.inl c);omega
def yrUp:Nat→Int→Int→Int
 | 0,_,y=>y
 | k+1,n,y=>if bef (y+1)≤n then yrUp k n (y+1) else y
def moUp:Nat→Int→Int→Int→Int×Int
 | 0,_,m,r=>(m,r)
 | k+1,y,m,r=>if mlen y m≤r then moUp k y (m+1) (r-mlen y m) else (m,r)
def yrOf (days:Int):Int:=yrUp 60 (days+719162) ((days+719162)/366+1)
def ZdR (days:Int):Int×Int×Int :=
 let y:=yrOf days
 let p:=moUp 12 y 1 (days+719162-bef y)
 (y,p.1,p.2+1)
theorem Zl2 : ∀ (k:Nat) (n y:Int),bef y≤n→n<bef y+365*(k:Int)+365→bef (yrUp k n y)≤n∧n<bef (yrUp k n y+1)
 | 0,n,y,h1,h2=>by
  simp only [yrUp]
  have:=ZfX y;have:=ZqF y
  exact ⟨h1,by simp at h2;omega⟩
 | k+1,n,y,h1,h2=>by
  simp only [yrUp]
  split
  ·rename_i h
   refine Zl2 k n (y+1) h ?_
   have:=ZlD (a:=y) (b:=y+1) (by omega)
   simp only [Int.natCast_add,Int.cast_ofNat_Int] at h2;omega
  ·exact ⟨h1,by omega⟩
theorem ZpX {n:Int}(h0:0≤n):bef (n/366+1)≤n:=by unfold bef;omega
theorem Zj9 {n:Int}(h0:0≤n) (h1:n≤3652058):n<bef (n/366+1)+365*60:=by unfold bef;omega
theorem Zl3 {days:Int}(h0 : -719162≤days) (h1:days≤2932896):bef (yrOf days)≤days+719162∧days+719162<bef (yrOf days+1):=by
 refine Zl2 60 _ _ (ZpX (by omega)) ?_
 have:=Zj9 (n:=days+719162) (by omega) (by omega)
 simp;omega
theorem ZmQ (y:Int) : ∀ (k:Nat) (m r:Int),1≤m→m+k=13→0≤r→cum y m+r<365+lp y →
  1≤(moUp k y m r).1∧(moUp k y m r).1≤12∧0≤(moUp k y m r).2∧(moUp k y m r).2<mlen y (moUp k y m r).1∧cum y (moUp k y m r).1+(moUp k y m r).2=cum y m+r
 | 0,m,r,h1,h2,h3,h4=>by
  have:m=13:=by simpa using h2
  subst this;rw [ZtK] at h4;omega
 | k+1,m,r,h1,h2,h3,h4=>by
  simp only [Int.natCast_add,Int.cast_ofNat_Int] at h2
  have hs:=ZgW (y:=y) (m:=m) h1 (by omega)
  simp only [moUp]
  split
  ·rename_i h
   have ih:=ZmQ y k (m+1) (r-mlen y m) (by omega) (by omega) (by omega) (by omega)
   omega
  ·exact ⟨h1,by omega,h3,by show r<mlen y m;omega,rfl⟩
theorem Zor {days:Int}(h0 : -719162≤days) (h1:days≤2932896) :
  Zby (ZdR days).1 (ZdR days).2.1 (ZdR days).2.2=true∧num (ZdR days).1 (ZdR days).2.1 (ZdR days).2.2=days:=by
 have hy:=Zl3 h0 h1
 have hs:=ZfX (yrOf days)
 have hm:=ZmQ (yrOf days) 12 1 (days+719162-bef (yrOf days)) (by omega) (by omega) (by omega) (by rw [ZtL];omega)
 rw [ZtL] at hm
 rw [ZcB]
 have y1:1≤yrOf days:=by
  rcases Int.lt_or_le (yrOf days) 1 with c | c
  ·have:=Zg0 (a:=yrOf days+1) (b:=1) (by omega);rw [bef_1] at this;omega
  ·exact c
 have y2:yrOf days≤9999:=by
  rcases Int.lt_or_le 9999 (yrOf days) with c | c
  ·have:=Zg0 (a:=10000) (b:=yrOf days) (by omega);rw [ZdD] at this;omega
  ·exact c
 unfold ZdR num
 dsimp only
 refine ⟨⟨y1,y2,hm.1,hm.2.1,by omega,by omega⟩,by omega⟩
theorem ZqV {y m d:Int}(h:Zby y m d=true):ZdR (num y m d)=(y,m,d):=by
 have hb:=num_bd h
 have hs:=Zor hb.1 hb.2
 obtain ⟨a,b,c⟩:=num_inj hs.1 h hs.2
 ext <;> simp [a,b,c]
theorem ZtJ {days y m d:Int}(h:Zby y m d=true) (hn:num y m d=days):ZdR days=(y,m,d):=by
 rw [←hn];exact ZqV h
def wd (n:Int):Int:=(n+4)%7
theorem wd_bd (n:Int):0≤wd n∧wd n≤6:=by unfold wd;omega
theorem Zqn (n:Int):n.tmod 7=if 0≤n then n%7 else -((-n)%7):=by
 split
 ·rename_i h;exact Int.tmod_eq_emod_of_nonneg h
 ·rename_i h
  have:n = - (-n):=by omega
  rw [this,Int.neg_tmod,Int.tmod_eq_emod_of_nonneg (by omega)];simp
theorem wd_go (n:Int):(((n.tmod 7+4).tmod 7)+7).tmod 7=wd n:=by
 simp only [Zqn,wd]
 repeat' split
 all_goals omega
end Civ
end Go.Proofs.YtgjchdhdopgkkaaGreatDoor
namespace Go.Proofs.YtgjchdhdopgkkaaGreatDoor
def wi (n a b:Int):Bool:=decide (a≤n)&&decide (n≤b)
end Go.Proofs.YtgjchdhdopgkkaaGreatDoor
end
section
namespace Go.Proofs.YtgjchdhdopgkkaaGreatDoor
open Civ
def letB (n:Int):Bool:=decide (97≤n∧n≤122∨65≤n∧n≤90)
def digB (n:Int):Bool:=decide (48≤n∧n≤57)
def ZbS (n:Int):Bool:=letB n||digB n||n==43||n==45
def allB (p:Int→Bool) (s:ByteArray):Bool:=s.data.toList.all fun c=>p c.toNat
theorem Zi7 {p:Int→Bool}{s:ByteArray}{k:Nat}(hk:k<s.size) (h:p s[k].toNat=false):allB p s=false:=by
 unfold allB
 rw [List.all_eq_false]
 refine ⟨s[k],?_,by simpa using h⟩
 have:s[k]=s.data.toList[k]'(by simpa using hk):=rfl
 rw [this];exact List.getElem_mem _
theorem Zg2 {p:Int→Bool}{s:ByteArray}(h : ∀ k (hk:k<s.size),p s[k].toNat=true):allB p s=true:=by
 unfold allB
 rw [List.all_eq_true]
 intro x hx
 obtain ⟨i,hi,rfl⟩:=List.getElem_of_mem hx
 exact h i (by simpa using hi)
end Go.Proofs.YtgjchdhdopgkkaaGreatDoor
end
section
namespace Go.Proofs.YtgjchdhdopgkkaaGreatDoor
open Go.Ab Civ
def c116:AC:=(Sr [Mb 2 false] (Sr [Mv 3 0,Oo 4 (.bin .geq (.tmp 3) (.const (.int .u8 97))),Mv 5 4,Ot 6 5 (mt 0),Ot 7 5 (.bin .leq (.tmp 6) (.const (.int .u8 122))),Oo 8 (.pick (.tmp 5) (.tmp 7) (.const (.bool false))),Mv 9 8,Of 10 9 (mt 0),Of 11 9 (.bin .geq (.tmp 10) (.const (.int .u8 65))),Of 12 9 (mt 11),Ot 13 12 (mt 0),Ot 14 12 (.bin .leq (.tmp 13) (.const (.int .u8 90))),Of 15 9 (.pick (.tmp 12) (.tmp 14) (.const (.bool false))),Oo 16 (.pick (.tmp 9) (.const (.bool true)) (.tmp 15)),Mv 2 16] .ret))
theorem k116:ZaH Tryz.prog 116=some ⟨c116,[(.tmp 2)],17⟩:=by kernel_rfl
def c119:AC:=(Sr [Mb 2 false] (Sr [Mv 3 0,Oo 4 (.bin .geq (.tmp 3) (.const (.int .u8 48))),Mv 5 4,Ot 6 5 (mt 0),Ot 7 5 (.bin .leq (.tmp 6) (.const (.int .u8 57))),Oo 8 (.pick (.tmp 5) (.tmp 7) (.const (.bool false))),Mv 2 8] .ret))
theorem k119:ZaH Tryz.prog 119=some ⟨c119,[(.tmp 2)],9⟩:=by kernel_rfl
def c179:AC:=(Sr [Mb 2 false] (Sr [Mv 3 0,Cl 4 116 [(.tmp 3)],Mv 5 4,Of 6 5 (mt 0),Of 7 5 (.call (.func 119) [(.tmp 6)]),Oo 8 (.pick (.tmp 5) (.const (.bool true)) (.tmp 7)),Mv 9 8,Of 10 9 (mt 0),Of 11 9 (.bin .eql (.tmp 10) (.const (.int .u8 43))),Oo 12 (.pick (.tmp 9) (.const (.bool true)) (.tmp 11)),Mv 13 12,Of 14 13 (mt 0),Of 15 13 (.bin .eql (.tmp 14) (.const (.int .u8 45))),Oo 16 (.pick (.tmp 13) (.const (.bool true)) (.tmp 15)),Mv 2 16] .ret))
theorem k179:ZaH Tryz.prog 179=some ⟨c179,[(.tmp 2)],17⟩:=by kernel_rfl
def c117:AC:=(Sr [Mb 4 false] (.seq (Sr [Mv 6 0,Oo 7 (.len true (.tmp 6)),Mc 8 0] (.block 0 (.loop (Sr [Bn 9 .lss 8 7] (.seq (Cd 9 .skip (.exit 0)) (.seq (.block 1 (Sr [Mv 10 8,Mv 5 10] (Sr [Mv 11 1,Mv 12 0,Mv 13 5,Oo 14 (.ix (.tmp 12) (.tmp 13)),Oo 15 (.call (.tmp 11) [(.tmp 14)]),Oo 16 (.un .not (.tmp 15))] (Cd 16 (Sr [Mb 4 false] .ret) .skip)))) (.reg [Bc 17 .add 8 1,Mv 8 17]))))))) (Sr [Mb 4 true] .ret)))
theorem k117:ZaH Tryz.prog 117=some ⟨c117,[(.tmp 4)],18⟩:=by kernel_rfl
def c159:AC:=(Sr [Mb 2 false] (Sr [Mv 3 0,Cl 4 117 [(.tmp 3),(.func 179)],Mv 2 4] .ret))
theorem k159:ZaH Tryz.prog 159=some ⟨c159,[(.tmp 2)],5⟩:=by kernel_rfl
def c150:AC:=(Sr [Mc 2 0] (Sr [Mv 3 0,Bc 4 .sub 3 1,Mv 0 4] (Sr [Mv 5 0,Oo 6 (.bin .mul (Ci 365) (.tmp 5)),Mv 7 0,Bc 8 .quo 7 4,Bn 9 .add 6 8,Mv 10 0,Bc 11 .quo 10 100,Bn 12 .sub 9 11,Mv 13 0,Bc 14 .quo 13 400,Bn 15 .add 12 14,Mv 2 15] .ret)))
theorem k150:ZaH Tryz.prog 150=some ⟨c150,[(.tmp 2)],16⟩:=by kernel_rfl
def c151:AC:=(Sr [Mc 0 0] (Sr [Cl 1 150 [(Ci 1970)],Mv 0 1] .ret))
theorem k151:ZaH Tryz.prog 151=some ⟨c151,[(.tmp 0)],2⟩:=by kernel_rfl
def c155:AC:=(Sr [Mc 0 0] (Sr [Cl 1 151 [],Oo 2 (.un .neg (.tmp 1)),Mv 0 2] .ret))
theorem k155:ZaH Tryz.prog 155=some ⟨c155,[(.tmp 0)],3⟩:=by kernel_rfl
def c156:AC:=(Sr [Mc 0 0] (Sr [Cl 1 150 [(Ci 10000)],Cl 2 151 [],Bn 3 .sub 1 2,Bc 4 .sub 3 1,Mv 0 4] .ret))
theorem k156:ZaH Tryz.prog 156=some ⟨c156,[(.tmp 0)],5⟩:=by kernel_rfl
abbrev uv (n:Int):AV:=.v (.int .u8 n)
theorem bvx {a b:Bool}(h:a=b):bv a=bv b:=by rw [h]
theorem Zh8 {n:Int}{h:AH}:Ac 116 [uv n] h (bv (letB n)):=by
 refine tI' k116 fun N hn hlt hlA hbd=>?_
 simp only [tb'] at hbd ⊢
 refine wr'<|mv' lkb pt<|sn'<|wr'<|mv' lk pt<|V' (Zie lk lki) pt<|mv' lk pt<|?_
 refine sp' (t:=5) gt pt pt (fun hg5=>?_) (fun hg5=>?_)
 ·refine s_do gt<|mv' lk pt<|s_do gt<|V' (ZeT lk lki) pt<|V' (Zaj lk lk) pt<|mv' lk pt<|?_
  refine sp' (t:=9) gt pt pt (fun hg9=>?_) (fun hg9=>?_)
  ·refine s_no gt pt<|s_no gt pt<|s_no gt pt<|s_nu gt pt<|s_nu gt pt<|s_no gt pt<|V' (Zaj lk lkb) pt<|mv' lk pt<|sn'<|Zab<|Zag rz<|rT'<|?_
   refine bvx ?_;unfold letB;rw [Bool.eq_iff_iff];simp;omega
  refine s_do gt<|mv' lk pt<|s_do gt<|V' (Zie lk lki) pt<|s_do gt<|mv' lk pt<|?_
  refine sp' (t:=12) gt pt pt (fun hg12=>?_) (fun hg12=>?_)
  ·refine s_do gt<|mv' lk pt<|s_do gt<|V' (ZeT lk lki) pt<|s_do gt<|V' (Zaj lk lk) pt<|V' (Zah lk lk) pt<|mv' lk pt<|sn'<|Zab<|Zag rz<|rT'<|?_
   refine bvx ?_;unfold letB;rw [Bool.eq_iff_iff];simp;omega
  refine s_no gt pt<|s_no gt pt<|s_do gt<|V' (Zah lk lkb) pt<|V' (Zah lk lk) pt<|mv' lk pt<|sn'<|Zab<|Zag rz<|rT'<|?_
  refine bvx ?_;unfold letB;rw [Bool.eq_iff_iff];simp;omega
 refine s_no gt pt<|s_no gt pt<|V' (Zah lk lkb) pt<|mv' lk pt<|s_do gt<|mv' lk pt<|s_do gt<|V' (Zie lk lki) pt<|s_do gt<|mv' lk pt<|?_
 refine sp' (t:=12) gt pt pt (fun hg12=>?_) (fun hg12=>?_)
 ·refine s_do gt<|mv' lk pt<|s_do gt<|V' (ZeT lk lki) pt<|s_do gt<|V' (Zaj lk lk) pt<|V' (Zah lk lk) pt<|mv' lk pt<|sn'<|Zab<|Zag rz<|rT'<|?_
  refine bvx ?_;unfold letB;rw [Bool.eq_iff_iff];simp;omega
 refine s_no gt pt<|s_no gt pt<|s_do gt<|V' (Zah lk lkb) pt<|V' (Zah lk lk) pt<|mv' lk pt<|sn'<|Zab<|Zag rz<|rT'<|?_
 refine bvx ?_;unfold letB;rw [Bool.eq_iff_iff];simp;omega
theorem Zlw {n:Int}{h:AH}:Ac 119 [uv n] h (bv (digB n)):=by
 refine tI' k119 fun N hn hlt hlA hbd=>?_
 simp only [tb'] at hbd ⊢
 refine wr'<|mv' lkb pt<|sn'<|wr'<|mv' lk pt<|V' (Zie lk lki) pt<|mv' lk pt<|?_
 refine sp' (t:=5) gt pt pt (fun hg5=>?_) (fun hg5=>?_)
 ·refine s_do gt<|mv' lk pt<|s_do gt<|V' (ZeT lk lki) pt<|V' (Zaj lk lk) pt<|mv' lk pt<|sn'<|Zab<|Zag rz<|rT'<|?_
  refine bvx ?_;unfold digB;rw [Bool.eq_iff_iff];simp;omega
 refine s_no gt pt<|s_no gt pt<|V' (Zah lk lkb) pt<|mv' lk pt<|sn'<|Zab<|Zag rz<|rT'<|?_
 refine bvx ?_;unfold digB;rw [Bool.eq_iff_iff];simp;omega
theorem plain1_a {n:Int}{h:AH}:Ac 179 [uv n] h (bv (ZbS n)):=by
 refine tI' k179 fun N hn hlt hlA hbd=>?_
 simp only [tb'] at hbd ⊢
 refine wr'<|mv' lkb pt<|sn'<|wr'<|mv' lk pt<|Zae mp (Zh8) pt<|mv' lk pt<|?_
 refine ZaL (t:=5) gt pt pt (fun hg5=>?_) (fun hg5=>?_)
 ·refine s_no gt pt<|s_no gt pt<|V' (Zaj lk lkb) pt<|mv' lk pt<|s_no gt pt<|s_no gt pt<|V' (Zaj lk lkb) pt<|mv' lk pt<|s_no gt pt<|s_no gt pt<|V' (Zaj lk lkb) pt<|mv' lk pt<|sn'<|?_
  refine Zab<|Zag rz<|rT'<|?_
  refine bvx ?_;unfold ZbS;rw [Bool.eq_iff_iff];simp_all
 refine s_do gt<|mv' lk pt<|s_do gt<|Zae mp (Zlw) pt<|V' (Zah lk lk) pt<|mv' lk pt<|?_
 refine ZaL (t:=9) gt pt pt (fun hg9=>?_) (fun hg9=>?_)
 ·refine s_no gt pt<|s_no gt pt<|V' (Zaj lk lkb) pt<|mv' lk pt<|s_no gt pt<|s_no gt pt<|V' (Zaj lk lkb) pt<|mv' lk pt<|sn'<|Zab<|Zag rz<|rT'<|?_
  refine bvx ?_;unfold ZbS;rw [Bool.eq_iff_iff];simp_all
 refine s_do gt<|mv' lk pt<|s_do gt<|V' (ZaX lk lki) pt<|V' (Zah lk lk) pt<|mv' lk pt<|?_
 refine sp' (t:=13) gt pt pt (fun hg13=>?_) (fun hg13=>?_)
 ·refine s_no gt pt<|s_no gt pt<|V' (Zaj lk lkb) pt<|mv' lk pt<|sn'<|Zab<|Zag rz<|rT'<|?_
  refine bvx ?_;unfold ZbS;rw [Bool.eq_iff_iff];simp_all
 refine s_do gt<|mv' lk pt<|s_do gt<|V' (ZaX lk lki) pt<|V' (Zah lk lk) pt<|mv' lk pt<|sn'<|Zab<|Zag rz<|rT'<|?_
 refine bvx ?_;unfold ZbS;rw [Bool.eq_iff_iff];simp_all
theorem all_a {p:Int→Bool}{f:FuncId}(hp : ∀ (n:Int) (h:AH),ACalls Tryz.prog f [uv n] h fun x h'=>h'=h∧x=.ret (bv (p n))) {s:ByteArray}(hs:s.size≤maxLen) {h:AH} :
  Ac 117 [sv s,.v (.func (.func f) #[] #[])] h (bv (allB p s)):=by
 have hm:s.size≤9223372036854775807:=by simpa [maxLen] using hs
 refine tI' k117 fun N hn hlt hlA hbd=>?_
 simp only [tb'] at hbd ⊢
 refine wr'<|mv' lkb pt<|sn'<|Zam<|wr'<|mv' lk pt<|V' (Zbi lk) pt<|mv' lki pt<|sn'<|Zao<|?_
 refine w_lp (ι:=Nat) (fun (k:Nat)=>[(8,iv (k:Int)),(4,.any),(5,.any)]++rn' 9 9) (fun (k:Nat)=>[]) (fun (k:Nat)=>k≤s.size ∧ ∀ j (hj:j<s.size),j<k→p s[j].toNat=true) (fun (k:Nat)=>s.size-k) (0) (by exact ⟨by omega,fun j hj h0=>absurd h0 (by omega)⟩) ?_
 rintro k hi1
 try simp only [sm',Nat.reduceAdd]
 obtain ⟨hk1,hk2⟩:=hi1
 refine wr'<|V' (Zbu lk lk) pt<|sn'<|Zam<|?_
 refine cd' lk (fun hc1=>?_) (fun hc1=>?_)
 ·refine Zaf<|Zai<|Zam<|Zao<|wr'<|mv' lk pt<|mv' lk pt<|sn'<|wr'<|mv' lk pt<|mv' lk pt<|?_
  refine mv' lk pt ?_
  refine V' (v_ix lk lk (by omega) (by omega)) pt ?_
  refine Ziu lk mp (hp _ _) pt<|V' (Zav lk) pt<|sn'<|?_
  rw [Zcl (by omega)] at *
  refine Zaw lk (fun hc2=>?_) (fun hc2=>?_)
  ·refine wr'<|mv' lkb pt<|sn'<|Zab<|Zaq<|Zak<|Zak<|Zaq<|Zak<|Zag rz<|rT'<|?_
   refine bvx ?_;rw [Zi7 (k:=k) (by omega) (by simpa [Zcl (show k<s.size by omega)] using hc2)]
  refine Zaf<|ZaF<|Zai<|Zar<|?_
  refine V' (ZaE lk lki (by omega) (by omega)) pt ?_
  refine mv' lk pt<|Zas<|ZaI<|?_
  refine lT' (k+1) (by (try dsimp only);refine ⟨by omega,fun j hj h0=>?_⟩;by_cases e:j=k;subst e;simpa [Zcl hj] using hc2;exact hk2 j hj (by omega))
 refine Za0<|ZaO<|ZaO<|Zbp<|Zai<|wr'<|mv' lkb pt<|sn'<|Zab<|Zag rz<|rT'<|?_
 refine bvx ?_;rw [Zg2 fun j hj=>hk2 j hj (by omega)]
theorem Zk7 {s:ByteArray}{h:AH}(hs:s.size≤maxLen:=by first | assumption | omega):Ac 159 [sv s] h (bv (allB ZbS s)):=by
 refine tI' k159 fun N hn hlt hlA hbd=>?_
 simp only [tb'] at hbd ⊢
 refine wr'<|mv' lkb pt<|sn'<|wr'<|mv' lk pt<|?_
 refine Zae mp (all_a (fun _ _=>plain1_a) hs) pt ?_
 exact mv' lk pt<|sn'<|Zab<|Zag rz<|rT' rfl
theorem ZgZ {y:Int}{h:AH}(h0:1≤y) (h1:y≤20000):Ac 150 [iv y] h (iv (bef y)):=by
 refine tI' k150 fun N hn hlt hlA hbd=>?_
 simp only [tb'] at hbd ⊢
 refine wr'<|mv' lki pt<|sn'<|wr'<|mv' lk pt<|?_
 refine V' (ZcC lk lki (by omega) (by omega)) pt ?_
 refine mv' lk pt<|sn'<|wr'<|mv' lk pt<|?_
 refine V' (Zge lki lk (by omega) (by omega)) pt ?_
 refine mv' lk pt ?_
 refine V' (Zf7 lk lki (by omega) (by omega) (by omega)) pt ?_
 refine V' (ZaE lk lk (by omega) (by omega)) pt ?_
 refine mv' lk pt ?_
 refine V' (Zf7 lk lki (by omega) (by omega) (by omega)) pt ?_
 refine V' (ZcC lk lk (by omega) (by omega)) pt ?_
 refine mv' lk pt ?_
 refine V' (Zf7 lk lki (by omega) (by omega) (by omega)) pt ?_
 refine V' (ZaE lk lk (by omega) (by omega)) pt ?_
 refine mv' lk pt<|sn'<|Zab<|Zag rz<|rT'<|?_
 unfold bef;rfl
theorem Zlu {h:AH}:Ac 151 [] h (iv 719162):=by
 refine tI' k151 fun N hn hlt hlA hbd=>?_
 simp only [tb'] at hbd ⊢
 refine wr'<|mv' lki pt<|sn'<|wr'<|?_
 refine Zae mp (ZgZ (by first | assumption | omega) (by first | assumption | omega)) pt ?_
 refine mv' lk pt<|sn'<|Zab<|Zag rz<|rT'<|?_
 rw [bef_1970]
theorem first_a {h:AH}:Ac 155 [] h (iv (-719162)):=by
 refine tI' k155 fun N hn hlt hlA hbd=>?_
 simp only [tb'] at hbd ⊢
 refine wr'<|mv' lki pt<|sn'<|wr'<|Zae mp0 (Zlu) pt<|?_
 refine V' (v_neg lk (by omega) (by omega)) pt ?_
 exact mv' lk pt<|sn'<|Zab<|Zag rz<|rT' rfl
theorem last_a {h:AH}:Ac 156 [] h (iv 2932896):=by
 refine tI' k156 fun N hn hlt hlA hbd=>?_
 simp only [tb'] at hbd ⊢
 refine wr'<|mv' lki pt<|sn'<|wr'<|?_
 refine Zae mp (ZgZ (by omega) (by omega)) pt ?_
 refine Zae mp0 (Zlu) pt ?_
 refine V' (ZcC lk lk (by rw [ZdD];omega) (by rw [ZdD];omega)) pt ?_
 refine V' (ZcC lk lki (by rw [ZdD];omega) (by rw [ZdD];omega)) pt ?_
 refine mv' lk pt<|sn'<|Zab<|Zag rz<|rT'<|?_
 rw [ZdD];rfl
end Go.Proofs.YtgjchdhdopgkkaaGreatDoor
end
section
namespace Go.Ab
section
variable {P : Program} {n0 : Nat} {T T' : List AV} {h h' h0 : AH} {c : AV} {d : Option Nat} {rest : List AOper} {K : List AV → AH → Prop} {Kp : AV → List AV → AH → Prop} {Q : AX → List AV → AH → Prop} {rs : List Nat} {ents : AH} {K2 : List AV → AH → Prop}
theorem Zmr {f:FuncId}{xs:List Operand}{as1:List AV}(hx:xs.map (Zan T)=as1) (hc:ACalls P f as1 h fun r h''=>r=.pan c∧h''=h') (hk:Kp c T h'):arun P Kp (⟨d,none,.call (.func f) xs⟩::rest) T h K :=
 ZgD hx hc fun r h'' ⟨h1,h2⟩=>by subst h1 h2;exact hk
theorem Zay {f:FuncId}{xs:List Operand}{as1:List AV}(hx:xs.map (Zan T)=as1) (hc:ACalls P f as1 h fun r h''=>h''=h∧r=.pan c) (hk:Kp c T h):arun P Kp (⟨d,none,.call (.func f) xs⟩::rest) T h K :=
 ZgD hx hc fun r h'' ⟨h1,h2⟩=>by subst h1 h2;exact hk
theorem ZaP {f:FuncId}{xs:List Operand}{as1:List AV}{Pp:AH→Prop}(hx:xs.map (Zan T)=as1) (hc:ACalls P f as1 h fun r h''=>r=.pan c∧Pp h'') (hk : ∀ h'',Pp h''→Kp c T h''):arun P Kp (⟨d,none,.call (.func f) xs⟩::rest) T h K :=
 ZgD hx hc fun r h'' ⟨h1,h2⟩=>by subst h1;exact hk _ h2
theorem ZaS {N:List AV→AH→Prop}(hr:Q (.pan c) T h):AX.thn N Q (.pan c) T h:=hr
theorem ZcQ {i:Nat}(hr:Q (.pan c) T h):AX.blk i Q (.pan c) T h:=hr
theorem Zba {rr:List AR}{R:AE→AH→Prop}(hR:R (.pan c) h):retA rr R (.pan c) T h:=hR
theorem d_callT {f:FuncId}{x:Operand}{xs:List Operand}{as1:List AV}(hf:Zan T x=.v (.func (.func f) #[] #[])) (hx:xs.map (Zan T)=as1) (hc : ∀ h,HExt h0 h→ACalls P f as1 h fun r h'=>h'=h∧r=.ret c) (hp:aPut T d c=T') (hk:adrun P rs h0 rest T' ents K2) :
  adrun P rs h0 (⟨d,none,.call x xs⟩::rest) T ents K2:=by
 unfold adrun agd
 refine ⟨fun _=>?_,fun h=>by cases h⟩
 unfold adstep
 simp only [hf]
 refine ⟨c,fun h hE=>?_,by rw [hp];exact hk⟩
 unfold Zg6
 exact ⟨rfl,rfl,by rw [hx];exact hc h hE⟩
end
end Go.Ab
end
section
namespace Go.Proofs.YtgjchdhdopgkkaaGreatDoor
open Go.Ab
abbrev Bs:=List UInt8
def bA (l:Bs):ByteArray:=⟨l.toArray⟩
def aB (s:ByteArray):Bs:=s.data.toList
theorem Zhw (l:Bs):aB (bA l)=l:=rfl
theorem Znf (s:ByteArray):bA (aB s)=s:=rfl
theorem Zbr (s:ByteArray):(aB s).length=s.size:=rfl
theorem ZaQ (l:Bs):(bA l).size=l.length:=rfl
theorem Zi5 {a b:Bs}(h:bA a=bA b):a=b:=by rw [←Zhw a,h,Zhw]
theorem Zdd (a b:Bs):bA a++bA b=bA (a++b):=by
 apply ByteArray.ext
 rw [ByteArray.data_append]
 show a.toArray++b.toArray=(a++b).toArray
 simp
theorem aB_app (a b:ByteArray):aB (a++b)=aB a++aB b:=by
 rw [←Znf a,←Znf b,Zdd];rfl
theorem Zet (s:ByteArray) (a b:Nat):s.extract a b=bA (((aB s).drop a).take (b-a)):=by
 apply ByteArray.ext
 rw [ByteArray.data_extract]
 apply Array.ext'
 rw [Array.toList_extract,List.extract_eq_take_drop]
 rfl
theorem ZdO {s:ByteArray}{k:Nat}(h:k<s.size):(aB s).drop k=Zaz s k::(aB s).drop (k+1):=by
 have h':k<s.data.toList.length:=h
 unfold aB Zaz
 rw [List.drop_eq_getElem_cons h',List.getD_eq_getElem?_getD,List.getElem?_eq_getElem h']
 rfl
theorem Zkk {s:ByteArray}{k:Nat}(h:s.size≤k):(aB s).drop k=[]:=List.drop_of_length_le h
theorem Zes {f:ByteArray}:f=⟨#[]⟩↔f.size=0:=by
 constructor
 ·rintro rfl;rfl
 ·intro h
  exact ByteArray.ext (Array.eq_empty_of_size_eq_zero h)
theorem byte_lt (c:UInt8):(0:Int)≤(c.toNat:Int)∧(c.toNat:Int)<256:=by have:=c.toNat_lt;omega
def blkN (n:Int):Bool:=decide (n=32∨n=9)
def plnN (n:Int):Bool:=decide (32≤n∧n≤126∨n=9)
def ZeK:Bs→Bool
 | []=>false
 | c::_=>decide ((c.toNat:Int)≠35)
def ZgS:Bs→Int
 | []=>0
 | c::_=>c.toNat
def runL (p:Int→Bool):Bs→Option Nat
 | []=>some 0
 | c::l=>if p c.toNat=true then (if plnN c.toNat=true then (runL p l).map (· + 1) else none) else some 0
theorem Zhl {p:Int→Bool} : ∀ {l:Bs}{n:Nat},runL p l=some n→n≤l.length
 | [],n,h=>by simp [runL] at h;omega
 | c::l,n,h=>by
  unfold runL at h
  split at h
  ·split at h
   ·rw [Option.map_eq_some_iff] at h
    obtain ⟨m,hm,rfl⟩:=h
    have:=Zhl hm
    simp;omega
   ·cases h
  ·simp at h;subst h;omega
theorem ZkY {p:Int→Bool}{s:ByteArray}{k:Nat}(h:s.size≤k):runL p ((aB s).drop k)=some 0:=by rw [Zkk h];rfl
theorem Zfy {p:Int→Bool}{s:ByteArray}{k:Nat}(h:k<s.size) (hp:p (Zaz s k).toNat=false):runL p ((aB s).drop k)=some 0:=by
 rw [ZdO h,runL,if_neg (by simp [hp])]
theorem Zk0 {p:Int→Bool}{s:ByteArray}{k:Nat}(h:k<s.size) (hp:p (Zaz s k).toNat=true) (hq:plnN (Zaz s k).toNat=false):runL p ((aB s).drop k)=none:=by
 rw [ZdO h,runL,if_pos hp,if_neg (by simp [hq])]
theorem ZnT {p:Int→Bool}{s:ByteArray}{k:Nat}(h:k<s.size) (hp:p (Zaz s k).toNat=true) (hq:plnN (Zaz s k).toNat=true):runL p ((aB s).drop k)=(runL p ((aB s).drop (k+1))).map (· + 1):=by
 rw [ZdO h,runL,if_pos hp,if_pos hq]
theorem Zci {s:ByteArray}{k:Nat}:ZeK ((aB s).drop k)=(decide (k<s.size)&&decide (((Zaz s k).toNat:Int)≠35)):=by
 rcases Nat.lt_or_ge k s.size with h | h
 ·rw [ZdO h,ZeK];simp [h]
 ·rw [Zkk h,ZeK];simp [Nat.not_lt.2 h]
theorem Zdq {s:ByteArray}{k:Nat}(h:k<s.size):ZgS ((aB s).drop k)=((Zaz s k).toNat:Int):=by rw [ZdO h];rfl
def quoP (n:Int):Bool:=decide (n≠34)
def fldP (n:Int):Bool:=!blkN n&&decide (n≠35)&&decide (n≠34)
def Zce:Bs→Option (Nat×Nat×Nat)
  | []=>none
  | c :: l => if (c.toNat : Int) = 34 then
      match runL quoP l with
      | none=>none
      | some n=>if n=l.length then none else if ZeK (l.drop (n+1))=true∧blkN (ZgS (l.drop (n+1)))=false then none else some (1,n,n+2)
    else match runL fldP (c::l) with
      | none=>none
      | some n=>if ZeK ((c::l).drop n)=true∧ZgS ((c::l).drop n)=34 then none else some (0,n,n)
def cutF (l:Bs) (x:Nat×Nat×Nat):ByteArray:=bA ((l.drop x.1).take x.2.1)
def Zdv (l:Bs):Nat:=(l.takeWhile fun c=>blkN c.toNat).length
def Zgk:Nat→List ByteArray→Bs→List ByteArray×Int
  | 0,acc,_=>(acc,0)
  | k + 1, acc, l => if ZeK (l.drop (Zdv l)) = true then
      match Zce (l.drop (Zdv l)) with
      | none=>([],1)
      | some x=>if 24<x.2.1∨12<acc.length+1 then ([],2) else Zgk k (acc++[cutF (l.drop (Zdv l)) x]) ((l.drop (Zdv l)).drop x.2.2)
    else (acc,0)
def ZcR (l:Bs):List ByteArray×Int:=Zgk 13 [] l
theorem ZkZ : ∀ l:Bs,runL blkN l=some (Zdv l)
 | []=>rfl
 | c::l=>by
  unfold runL Zdv
  by_cases h:blkN c.toNat=true
  ·have hp:plnN c.toNat=true:=by unfold blkN at h;unfold plnN;simp at h ⊢;omega
   rw [if_pos h,if_pos hp,ZkZ l]
   simp [Zdv,List.takeWhile_cons,h]
  ·rw [if_neg h]
   simp [List.takeWhile_cons,h]
theorem ZiP {l:Bs}{x:Nat×Nat×Nat}(h:Zce l=some x):x.1+x.2.1≤x.2.2∧x.2.2≤l.length∧(x.1=0∨x.1=1):=by
 cases l with
 | nil=>cases h
 | cons c l =>
  by_cases hc:(c.toNat:Int)=34
  ·rw [Zce,if_pos hc] at h
   cases hr:runL quoP l with
   | none=>rw [hr] at h;cases h
   | some n =>
    have:=Zhl hr
    rw [hr] at h
    simp only at h
    split at h
    ·cases h
    ·split at h
     ·cases h
     ·rename_i h1 _
      cases h
      refine ⟨by simp;omega,by simp;omega,.inr rfl⟩
  ·rw [Zce,if_neg hc] at h
   cases hr:runL fldP (c::l) with
   | none=>rw [hr] at h;cases h
   | some n =>
    have:=Zhl hr
    rw [hr] at h
    simp only at h
    split at h
    ·cases h
    ·cases h
     exact ⟨by simp,this,.inl rfl⟩
end Go.Proofs.YtgjchdhdopgkkaaGreatDoor
end
section
namespace Go.Proofs.YtgjchdhdopgkkaaGreatDoor
open Go.Ab
section
theorem Zgw {a0 a1 c0:AV}{l:List AV}:setCells (a0::a1::l) 1 [c0]=a0::c0::l:=rfl
end
def c77:AC:=(Sr [Mb 2 false] (Sr [Mv 3 0,Oo 4 (.bin .eql (.tmp 3) (.const (.int .u8 32))),Mv 5 4,Of 6 5 (mt 0),Of 7 5 (.bin .eql (.tmp 6) (.const (.int .u8 9))),Oo 8 (.pick (.tmp 5) (.const (.bool true)) (.tmp 7)),Mv 2 8] .ret))
theorem k77:ZaH Tryz.prog 77=some ⟨c77,[(.tmp 2)],9⟩:=by kernel_rfl
def c132:AC:=(Sr [Mb 2 false] (Sr [Mv 3 0,Oo 4 (.bin .geq (.tmp 3) (.const (.int .u8 32))),Mv 5 4,Ot 6 5 (mt 0),Ot 7 5 (.bin .leq (.tmp 6) (.const (.int .u8 126))),Oo 8 (.pick (.tmp 5) (.tmp 7) (.const (.bool false))),Mv 9 8,Of 10 9 (mt 0),Of 11 9 (.bin .eql (.tmp 10) (.const (.int .u8 9))),Oo 12 (.pick (.tmp 9) (.const (.bool true)) (.tmp 11)),Mv 2 12] .ret))
theorem k132:ZaH Tryz.prog 132=some ⟨c132,[(.tmp 2)],13⟩:=by kernel_rfl
def c110:AC:=(.reg [Mv 2 0,Oo 3 (.mkif 27 (.tmp 2)),⟨none,none,(.panic (.tmp 3))⟩])
theorem k110:ZaH Tryz.prog 110=some ⟨c110,[],4⟩:=by kernel_rfl
def c107:AC:=(Sr [Ms 4] (Sr [Mv 6 0,Nk 7 6,Fa 8 1 7,Ld 9 8,Mv 5 9] (.seq (.block 0 (.loop (.seq (Sd [Mv 10 0,Nk 11 10,Fa 12 1 11,Ld 13 12,Mv 14 0,Nk 15 14,Fa 16 0 15,Ld 17 16,Oo 18 (.len true (.tmp 17)),Bn 19 .lss 13 18,Mv 20 19,Ot 21 20 (mt 1),Ot 22 20 (mt 0),Ot 23 20 (.nck (.tmp 22)),Ot 24 20 (.fa 0 (.tmp 23)),Ot 25 20 (.load false 1 (.tmp 24)),Ot 26 20 (mt 0),Ot 27 20 (.nck (.tmp 26)),Ot 28 20 (.fa 1 (.tmp 27)),Ot 29 20 (.load false 1 (.tmp 28)),Ot 30 20 (.ix (.tmp 25) (.tmp 29)),Ot 31 20 (.call (.tmp 21) [(.tmp 30)]),Oo 32 (.pick (.tmp 20) (.tmp 31) (.const (.bool false)))] (Cd 32 .skip (.exit 0))) (.block 1 (.seq (Sd [Mv 33 0,Nk 34 33,Fa 35 0 34,Ld 36 35,Mv 37 0,Nk 38 37,Fa 39 1 38,Ld 40 39,Oo 41 (.ix (.tmp 36) (.tmp 40)),Cl 42 132 [(.tmp 41)],Oo 43 (.un .not (.tmp 42))] (Cd 43 (.reg [Cl 44 110 [(Ci 1)]]) .skip)) (.reg [Mv 45 0,Nk 46 45,Fa 47 1 46,Ld 48 47,Bc 49 .add 48 1,Nk 50 45,Fa 51 1 50,Sc 51 49])))))) (Sd [Mv 52 0,Nk 53 52,Fa 54 0 53,Ld 55 54,Mv 56 5,Mv 57 0,Nk 58 57,Fa 59 1 58,Ld 60 59,Oo 61 (.sls (.tmp 55) (some (.tmp 56)) (some (.tmp 60))),Mv 4 61] .ret))))
theorem k107:ZaH Tryz.prog 107=some ⟨c107,[(.tmp 4)],62⟩:=by kernel_rfl
def c108:AC:=(Sr [Mb 2 false] (Sd [Mv 3 0,Nk 4 3,Fa 5 1 4,Ld 6 5,Mv 7 0,Nk 8 7,Fa 9 0 8,Ld 10 9,Oo 11 (.len true (.tmp 10)),Bn 12 .lss 6 11,Mv 13 12,Ot 14 13 (mt 0),Ot 15 13 (.nck (.tmp 14)),Ot 16 13 (.fa 0 (.tmp 15)),Ot 17 13 (.load false 1 (.tmp 16)),Ot 18 13 (mt 0),Ot 19 13 (.nck (.tmp 18)),Ot 20 13 (.fa 1 (.tmp 19)),Ot 21 13 (.load false 1 (.tmp 20)),Ot 22 13 (.ix (.tmp 17) (.tmp 21)),Ot 23 13 (.bin .neq (.tmp 22) (.const (.int .u8 35))),Oo 24 (.pick (.tmp 13) (.tmp 23) (.const (.bool false))),Mv 2 24] .ret))
theorem k108:ZaH Tryz.prog 108=some ⟨c108,[(.tmp 2)],25⟩:=by kernel_rfl
def c140:AC:=(Sr [Ms 2] (Sr [Mv 4 0,Nk 5 4,Fa 6 1 5,Ld 7 6,Bc 8 .add 7 1,Nk 9 4,Fa 10 1 9,Sc 10 8] (Sr [Mv 11 0,Cl 12 107 [(.tmp 11),(.func 171)],Mv 3 12] (.seq (Sd [Mv 13 0,Nk 14 13,Fa 15 1 14,Ld 16 15,Mv 17 0,Nk 18 17,Fa 19 0 18,Ld 20 19,Oo 21 (.len true (.tmp 20)),Bn 22 .eql 16 21] (Cd 22 (.reg [Cl 23 110 [(Ci 1)]]) .skip)) (Sr [Mv 24 0,Nk 25 24,Fa 26 1 25,Ld 27 26,Bc 28 .add 27 1,Nk 29 24,Fa 30 1 29,Sc 30 28] (.seq (Sd [Mv 31 0,Cl 32 108 [(.tmp 31)],Mv 33 32,Ot 34 33 (mt 0),Ot 35 33 (.nck (.tmp 34)),Ot 36 33 (.fa 0 (.tmp 35)),Ot 37 33 (.load false 1 (.tmp 36)),Ot 38 33 (mt 0),Ot 39 33 (.nck (.tmp 38)),Ot 40 33 (.fa 1 (.tmp 39)),Ot 41 33 (.load false 1 (.tmp 40)),Ot 42 33 (.ix (.tmp 37) (.tmp 41)),Ot 43 33 (.call (.func 77) [(.tmp 42)]),Ot 44 33 (.un .not (.tmp 43)),Oo 45 (.pick (.tmp 33) (.tmp 44) (.const (.bool false)))] (Cd 45 (.reg [Cl 46 110 [(Ci 1)]]) .skip)) (Sr [Mv 47 3,Mv 2 47] .ret)))))))
theorem k140:ZaH Tryz.prog 140=some ⟨c140,[(.tmp 2)],48⟩:=by kernel_rfl
def c109:AC:=(Sr [Ms 2] (.seq (Sd [Mv 4 0,Nk 5 4,Fa 6 0 5,Ld 7 6,Mv 8 0,Nk 9 8,Fa 10 1 9,Ld 11 10,Oo 12 (.ix (.tmp 7) (.tmp 11)),Oo 13 (.bin .eql (.tmp 12) (.const (.int .u8 34)))] (Cd 13 (Sr [Mv 14 0,Cl 15 140 [(.tmp 14)],Mv 2 15] .ret) .skip)) (Sr [Mv 16 0,Cl 17 107 [(.tmp 16),(.func 141)],Mv 3 17] (.seq (Sd [Mv 18 0,Cl 19 108 [(.tmp 18)],Mv 20 19,Ot 21 20 (mt 0),Ot 22 20 (.nck (.tmp 21)),Ot 23 20 (.fa 0 (.tmp 22)),Ot 24 20 (.load false 1 (.tmp 23)),Ot 25 20 (mt 0),Ot 26 20 (.nck (.tmp 25)),Ot 27 20 (.fa 1 (.tmp 26)),Ot 28 20 (.load false 1 (.tmp 27)),Ot 29 20 (.ix (.tmp 24) (.tmp 28)),Ot 30 20 (.bin .eql (.tmp 29) (.const (.int .u8 34))),Oo 31 (.pick (.tmp 20) (.tmp 30) (.const (.bool false)))] (Cd 31 (.reg [Cl 32 110 [(Ci 1)]]) .skip)) (Sr [Mv 33 3,Mv 2 33] .ret)))))
theorem k109:ZaH Tryz.prog 109=some ⟨c109,[(.tmp 2)],34⟩:=by kernel_rfl
def c171:AC:=(Sr [Mb 2 false] (Sr [Mv 3 0,Oo 4 (.bin .neq (.tmp 3) (.const (.int .u8 34))),Mv 2 4] .ret))
theorem k171:ZaH Tryz.prog 171=some ⟨c171,[(.tmp 2)],5⟩:=by kernel_rfl
def c141:AC:=(Sr [Mb 2 false] (Sr [Mv 3 0,Cl 4 77 [(.tmp 3)],Oo 5 (.un .not (.tmp 4)),Mv 6 5,Ot 7 6 (mt 0),Ot 8 6 (.bin .neq (.tmp 7) (.const (.int .u8 35))),Oo 9 (.pick (.tmp 6) (.tmp 8) (.const (.bool false))),Mv 10 9,Ot 11 10 (mt 0),Ot 12 10 (.bin .neq (.tmp 11) (.const (.int .u8 34))),Oo 13 (.pick (.tmp 10) (.tmp 12) (.const (.bool false))),Mv 2 13] .ret))
theorem k141:ZaH Tryz.prog 141=some ⟨c141,[(.tmp 2)],14⟩:=by kernel_rfl
abbrev u8v (n:Int):AV:=.v (.int .u8 n)
abbrev fnv (k:Nat):AV:=.v (.func (.func k) #[] #[])
abbrev erA (n:Int):AV:=.v (.iface 27 (.int .i64 n))
theorem ZfA {n:Int}{h:AH}:Ac 77 [u8v n] h (bv (blkN n)):=by
 refine tI' k77 fun N hn hlt hlA hbd=>?_
 simp only [tb'] at hbd ⊢
 refine wr'<|mv' lkb pt<|sn'<|wr'<|mv' lk pt<|V' (ZaX lk lki) pt<|mv' lk pt<|?_
 refine sp' (t:=5) gt pt pt (fun hg5=>?_) (fun hg5=>?_)
 ·refine s_no gt pt<|s_no gt pt<|V' (Zaj lk lkb) pt<|mv' lk pt<|sn'<|Zab<|Zag rz<|rT'<|?_
  refine bvx ?_;unfold blkN;simp_all
 refine s_do gt<|mv' lk pt<|s_do gt<|V' (ZaX lk lki) pt<|V' (Zah lk lk) pt<|mv' lk pt<|sn'<|Zab<|Zag rz<|rT'<|?_
 refine bvx ?_;unfold blkN;simp_all
theorem ZmT {n:Int}{h:AH}:Ac 132 [u8v n] h (bv (plnN n)):=by
 refine tI' k132 fun N hn hlt hlA hbd=>?_
 simp only [tb'] at hbd ⊢
 refine wr'<|mv' lkb pt<|sn'<|wr'<|mv' lk pt<|V' (Zie lk lki) pt<|mv' lk pt<|?_
 refine sp' (t:=5) gt pt pt (fun hg5=>?_) (fun hg5=>?_)
 ·refine s_do gt<|mv' lk pt<|s_do gt<|V' (ZeT lk lki) pt<|V' (Zaj lk lk) pt<|mv' lk pt<|?_
  refine sp' (t:=9) gt pt pt (fun hg9=>?_) (fun hg9=>?_)
  ·refine s_no gt pt<|s_no gt pt<|V' (Zaj lk lkb) pt<|mv' lk pt<|sn'<|Zab<|Zag rz<|rT'<|?_
   refine bvx ?_;unfold plnN;rw [Bool.eq_iff_iff];simp;omega
  refine s_do gt<|mv' lk pt<|s_do gt<|V' (ZaX lk lki) pt<|V' (Zah lk lk) pt<|mv' lk pt<|sn'<|Zab<|Zag rz<|rT'<|?_
  refine bvx ?_;unfold plnN;rw [Bool.eq_iff_iff];simp;omega
 refine s_no gt pt<|s_no gt pt<|V' (Zah lk lkb) pt<|mv' lk pt<|s_do gt<|mv' lk pt<|s_do gt<|V' (ZaX lk lki) pt<|V' (Zah lk lk) pt<|mv' lk pt<|sn'<|Zab<|Zag rz<|?_
 refine rT' ?_
 refine bvx ?_;unfold plnN;rw [Bool.eq_iff_iff];simp;omega
theorem ZsZ {n:Int}{h:AH}:Ac 171 [u8v n] h (bv (quoP n)):=by
 refine tI' k171 fun N hn hlt hlA hbd=>?_
 simp only [tb'] at hbd ⊢
 exact wr'<|mv' lkb pt<|sn'<|wr'<|mv' lk pt<|V' (Za6 lk lki) pt<|mv' lk pt<|sn'<|Zab<|Zag rz<|rT' rfl
theorem Zs1 {n:Int}{h:AH}:Ac 141 [u8v n] h (bv (fldP n)):=by
 refine tI' k141 fun N hn hlt hlA hbd=>?_
 simp only [tb'] at hbd ⊢
 refine wr'<|mv' lkb pt<|sn'<|wr'<|mv' lk pt<|Zae mp (ZfA) pt<|V' (Zav lk) pt<|mv' lk pt<|?_
 refine ZaL (t:=6) gt pt pt (fun hg6=>?_) (fun hg6=>?_)
 ·refine s_do gt<|mv' lk pt<|s_do gt<|V' (Za6 lk lki) pt<|V' (Zaj lk lk) pt<|mv' lk pt<|?_
  refine sp' (t:=10) gt pt pt (fun hg10=>?_) (fun hg10=>?_)
  ·refine s_do gt<|mv' lk pt<|s_do gt<|V' (Za6 lk lki) pt<|V' (Zaj lk lk) pt<|mv' lk pt<|sn'<|Zab<|Zag rz<|rT'<|?_
   refine bvx ?_;unfold fldP;simp_all
  refine s_no gt pt<|s_no gt pt<|V' (Zah lk lkb) pt<|mv' lk pt<|sn'<|Zab<|Zag rz<|rT'<|?_
  refine bvx ?_;unfold fldP;simp_all
 refine s_no gt pt<|s_no gt pt<|V' (Zah lk lkb) pt<|mv' lk pt<|s_no gt pt<|s_no gt pt<|V' (Zah lk lkb) pt<|mv' lk pt<|sn'<|Zab<|Zag rz<|rT'<|?_
 refine bvx ?_;unfold fldP;simp_all
theorem ZfP {n:Int}{h:AH}:ACalls Tryz.prog 110 [iv n] h fun x h'=>h'=h∧x=.pan (erA n):=by
 refine tI' k110 fun N hn hlt hlA hbd=>?_
 simp only [tb'] at hbd ⊢
 refine Zar<|mv' lk pt<|V' (v_mkif lk) pt<|s_panic lk<|Zba<|?_
 exact ⟨_,rfl,rfl,rfl⟩
theorem Zli {s:ByteArray}{k:Nat}{O:AV}{id v0 ty:Nat}{h:AH}(h1:h[id]?=some (.mk v0 ty 3 [sv s,iv (k:Int),O])) (hk:k≤s.size) :
  Ac 108 [.ptr id v0 0] h (bv (ZeK ((aB s).drop k))):=by
 refine tI' k108 fun N hn hlt hlA hbd=>?_
 simp only [tb'] at hbd ⊢
 refine wr'<|mv' lkb pt<|sn'<|Zam<|ZbJ<|D' (v_mv lk) pt<|D' (ZaD lk) pt<|D' (Zaa lk) pt<|D' (Zac lk (Zm1 h1) gt1) pt<|D' (v_mv lk) pt<|D' (ZaD lk) pt<|D' (Zaa lk) pt<|?_
 refine D' (Zac lk (Zm1 h1) gt0) pt<|D' (Zbi lk) pt<|D' (Zbu lk lk) pt<|D' (v_mv lk) pt<|?_
 refine dq' (t:=13) gt pt pt (fun hg13=>?_) (fun hg13=>?_)
 ·refine d_do gt<|D' (v_mv lk) pt<|d_do gt<|D' (ZaD lk) pt<|d_do gt<|D' (Zaa lk) pt<|d_do gt<|D' (Zac lk (Zm1 h1) gt0) pt<|d_do gt<|D' (v_mv lk) pt<|d_do gt<|D' (ZaD lk) pt<|d_do gt<|D' (Zaa lk) pt<|?_
  refine d_do gt<|D' (Zac lk (Zm1 h1) gt1) pt<|d_do gt<|?_
  refine D' (v_ix lk lk (by omega) (by omega)) pt ?_
  refine d_do gt<|D' (Za6 lk lki) pt<|D' (Zaj lk lk) pt<|D' (v_mv lk) pt<|Zbt<|?_
  refine Zb4 ?_
  refine sn'<|Zab<|Zag rz<|rT'<|?_
  refine bvx ?_;rw [Zci];first | (simp_all;done) | (simp_all;omega)
 refine d_no gt pt<|d_no gt pt<|d_no gt pt<|d_no gt pt<|d_no gt pt<|d_no gt pt<|d_no gt pt<|d_no gt pt<|d_no gt pt<|d_no gt pt<|D' (Zah lk lkb) pt<|D' (v_mv lk) pt<|Zbt<|?_
 refine Zb4 ?_
 refine sn'<|Zab<|Zag rz<|rT'<|?_
 refine bvx ?_;rw [Zci];first | (simp_all;done) | (simp_all;omega)
def runN (p:Int→Bool):Bs→Nat
 | []=>0
 | c::l=>if p c.toNat=true∧plnN c.toNat=true then runN p l+1 else 0
theorem runN_end {p:Int→Bool}{s:ByteArray}{k:Nat}(h:s.size≤k):runN p ((aB s).drop k)=0:=by rw [Zkk h];rfl
theorem Zmx {p:Int→Bool}{s:ByteArray}{k:Nat}(h:k<s.size) (hp:¬(p (Zaz s k).toNat=true∧plnN (Zaz s k).toNat=true)):runN p ((aB s).drop k)=0:=by
 rw [ZdO h,runN,if_neg hp]
theorem runN_go {p:Int→Bool}{s:ByteArray}{k:Nat}(h:k<s.size) (hp:p (Zaz s k).toNat=true) (hq:plnN (Zaz s k).toNat=true):runN p ((aB s).drop k)=runN p ((aB s).drop (k+1))+1:=by
 rw [ZdO h,runN,if_pos ⟨hp,hq⟩]
theorem Zsz {p:Int→Bool} : ∀ {l:Bs}{n:Nat},runL p l=some n→runN p l=n
 | [],n,h=>by simp [runL] at h;subst h;rfl
 | c::l,n,h=>by
  unfold runL at h
  split at h
  ·rename_i hp
   split at h
   ·rename_i hq
    rw [Option.map_eq_some_iff] at h
    obtain ⟨m,hm,rfl⟩:=h
    rw [runN,if_pos ⟨hp,hq⟩,Zsz hm]
   cases h
  rename_i hp
  simp at h;subst h
  rw [runN,if_neg (fun e=>hp e.1)]
theorem ZmS {p:Int→Bool}{f:Nat}(hp : ∀ (n:Int) (h:AH),ACalls Tryz.prog f [u8v n] h fun x h'=>h'=h∧x=.ret (bv (p n))) {s:ByteArray}{k:Nat}{O:AV}{id v0 ty:Nat}{h:AH}(h1:h[id]?=some (.mk v0 ty 3 [sv s,iv (k:Int),O])) (hO:O.lt h.length=true) (hk:k≤s.size) (hz:s.size≤8000) :
  ACalls Tryz.prog 107 [.ptr id v0 0,fnv f] h fun x h'=>h'=h.set id (.mk v0 ty 3 [sv s,iv ((k+runN p ((aB s).drop k):Nat):Int),O])∧((runL p ((aB s).drop k)=some (runN p ((aB s).drop k))∧x=.ret (sv (bA (((aB s).drop k).take (runN p ((aB s).drop k))))))∨(runL p ((aB s).drop k)=none∧x=.pan (erA 1))):=by
 have hid:id<h.length:=(List.getElem?_eq_some_iff.1 h1).1
 refine tJ' k107 fun N hn hlt hlA hbd=>?_
 simp only [tb'] at hbd ⊢
 rw [hn] at hO
 refine ZbG (h1:=h.set id (.mk v0 ty 3 [sv s,iv (k:Int),O])++[]) (by rw [ZbU h1]) ?_
 refine wr'<|mv' lks pt<|sn'<|wr'<|mv' lk pt<|V' (ZaD lk) pt<|V' (Zaa lk) pt<|V' (Zac lk (ZaC hid) gt1) pt<|mv' lk pt<|sn'<|?_
 refine Zam<|Zao<|?_
 refine ZrV (ι:=Nat) (fun (j:Nat)=>[(5,iv (k:Int))]++rn' 10 42) (fun (j:Nat)=>h.set id (.mk v0 ty 3 [sv s,iv ((k+j:Nat):Int),O])++[]) (fun (j:Nat)=>k+j≤s.size∧runL p ((aB s).drop k)=(runL p ((aB s).drop (k+j))).map (· + j)∧runN p ((aB s).drop k)=runN p ((aB s).drop (k+j))+j) (fun (j:Nat)=>s.size-(k+j)) (0) (by exact ⟨by omega,by simp,by simp⟩) (by try simp only [sm',Nat.reduceAdd];exact ALe.same wA' (by simp)) ?_
 rintro j hi1
 try simp only [sm',Nat.reduceAdd]
 obtain ⟨hj1,hj2,hj3⟩:=hi1
 refine Zam<|Zam<|ZbJ<|D' (v_mv lk) pt<|D' (ZaD lk) pt<|D' (Zaa lk) pt<|D' (Zac lk (ZaC hid) gt1) pt<|D' (v_mv lk) pt<|D' (ZaD lk) pt<|D' (Zaa lk) pt<|D' (Zac lk (ZaC hid) gt0) pt<|D' (Zbi lk) pt<|D' (Zbu lk lk) pt<|D' (v_mv lk) pt<|?_
 refine dq' (t:=20) gt pt pt (fun hg20=>?_) (fun hg20=>?_)
 ·have hlt2:k+j<s.size:=by omega
  refine d_do gt<|D' (v_mv lk) pt<|d_do gt<|D' (v_mv lk) pt<|d_do gt<|D' (ZaD lk) pt<|d_do gt<|D' (Zaa lk) pt<|d_do gt<|D' (Zac lk (ZaC hid) gt0) pt<|d_do gt<|D' (v_mv lk) pt<|d_do gt<|D' (ZaD lk) pt<|?_
  refine d_do gt<|D' (Zaa lk) pt<|d_do gt<|D' (Zac lk (ZaC hid) gt1) pt<|d_do gt<|?_
  refine D' (v_ix lk lk (by omega) (by omega)) pt ?_
  refine d_do gt ?_
  refine d_callT lk mp (fun hE hX=>hp _ _) pt ?_
  refine D' (Zaj lk lk) pt<|Zbt<|?_
  refine Zb4 ?_
  refine sn' ?_
  refine Zaw lk (fun hc1=>?_) (fun hc1=>?_)
  ·have hc1':p (Zaz s (k+j)).toNat=true:=hc1
   refine Zaf<|Zai<|Zao<|Zam<|Zam<|ZbJ<|D' (v_mv lk) pt<|D' (ZaD lk) pt<|D' (Zaa lk) pt<|D' (Zac lk (ZaC hid) gt0) pt<|D' (v_mv lk) pt<|D' (ZaD lk) pt<|D' (Zaa lk) pt<|D' (Zac lk (ZaC hid) gt1) pt<|?_
   refine D' (v_ix lk lk (by omega) (by omega)) pt ?_
   refine Za9 mp (fun hE hX=>ZmT) pt ?_
   refine D' (Zav lk) pt<|Zbt<|?_
   refine Zb4 ?_
   refine sn' ?_
   refine Zaw lk (fun hc2=>?_) (fun hc2=>?_)
   ·have hc2':plnN (Zaz s (k+j)).toNat=false:=by have:=hc2;rw [Bool.not_eq_true'] at this;exact this
    have hB1:=Zk0 hlt2 hc1' hc2'
    have hB2:runN p ((aB s).drop (k+j))=0:=Zmx hlt2 (by simp [hc2'])
    rw [hB1] at hj2
    rw [hB2] at hj3
    refine Zar<|Zay mp (ZfP)<|ZaS<|ZcQ<|ZaS<|ZcQ<|ZaS<|Zba<|?_
    refine ⟨_,_,rfl,Zad hn,ZaR hlt (by simp [Ent.lt,AV.lt,AV.ltL, *]),rfl,by rw [hj3,Nat.zero_add],.inr ⟨by rw [hj2];rfl,rfl⟩⟩
   have hc2':plnN (Zaz s (k+j)).toNat=true:=by have:=hc2;rw [Bool.not_eq_false'] at this;exact this
   have hG1:=ZnT hlt2 hc1' hc2'
   have hG2:=runN_go hlt2 hc1' hc2'
   rw [hG1] at hj2
   rw [hG2] at hj3
   refine Zaf<|Zai<|Zar<|mv' lk pt<|V' (ZaD lk) pt<|V' (Zaa lk) pt<|V' (Zac lk (ZaC hid) gt1) pt<|?_
   refine V' (ZaE lk lki (by omega) (by omega)) pt ?_
   refine V' (ZaD lk) pt<|V' (Zaa lk) pt<|E' (Zal lk (cvl lk rfl) (ZaC hid) rfl (nb' rfl) rfl Zgw (Zax hid)) ptn<|Zas<|ZaF<|ZaI<|?_
   refine lU' (j+1) (by (try dsimp only);exact ⟨by omega,by rw [hj2,Option.map_map];rw [show k+(j+1)=k+j+1 from rfl];congr 1;funext x;simp;omega,by rw [show k+(j+1)=k+j+1 from rfl];omega⟩) (by (try dsimp only);(try simp only [sm',Nat.reduceAdd]);exact ALe.same wA' (by rw [show (((k+j:Nat):Int)+1)=((k+(j+1):Nat):Int) by omega]))
  have hc1':p (Zaz s (k+j)).toNat=false:=hc1
  have hE:runL p ((aB s).drop (k+j))=some 0∧runN p ((aB s).drop (k+j))=0:=⟨Zfy hlt2 hc1',Zmx hlt2 (by simp [hc1'])⟩
  refine Za0<|ZaO<|ZaO<|Zbp<|Zai<|Zam<|ZbJ<|D' (v_mv lk) pt<|D' (ZaD lk) pt<|D' (Zaa lk) pt<|D' (Zac lk (ZaC hid) gt0) pt<|D' (v_mv lk) pt<|D' (v_mv lk) pt<|D' (ZaD lk) pt<|?_
  refine D' (Zaa lk) pt<|D' (Zac lk (ZaC hid) gt1) pt<|?_
  refine D' (Zd6 lk (oi lk) (oi lk) (by omega) (by omega) (by omega)) pt ?_
  refine D' (v_mv lk) pt<|Zbt<|?_
  refine Zb4 ?_
  refine sn'<|Zab<|Zag rz<|?_
  rw [hE.1] at hj2;rw [hE.2,Nat.zero_add] at hj3
  refine ⟨_,_,rfl,Zad hn,ZaR hlt (by simp [Ent.lt,AV.lt,AV.ltL, *]),rfl,by rw [hj3],.inl ⟨by rw [hj2,hj3];simp,?_⟩⟩
  rw [hj3,Zet,show ((k:Int)).toNat=k from rfl,show (((k+j:Nat):Int)).toNat=k+j from rfl,Nat.add_sub_cancel_left]
 have hE:runL p ((aB s).drop (k+j))=some 0∧runN p ((aB s).drop (k+j))=0:=⟨ZkY (by omega),runN_end (by omega)⟩
 refine d_no gt pt<|d_no gt pt<|d_no gt pt<|d_no gt pt<|d_no gt pt<|d_no gt pt<|d_no gt pt<|d_no gt pt<|d_no gt pt<|d_no gt pt<|d_no gt pt<|D' (Zah lk lkb) pt<|Zbt<|?_
 refine Zb4 ?_
 refine sn'<|ZaY lk<|Za0<|ZaO<|ZaO<|Zbp<|Zai<|Zam<|ZbJ<|D' (v_mv lk) pt<|D' (ZaD lk) pt<|D' (Zaa lk) pt<|D' (Zac lk (ZaC hid) gt0) pt<|?_
 refine D' (v_mv lk) pt<|D' (v_mv lk) pt<|D' (ZaD lk) pt<|D' (Zaa lk) pt<|D' (Zac lk (ZaC hid) gt1) pt<|?_
 refine D' (Zd6 lk (oi lk) (oi lk) (by omega) (by omega) (by omega)) pt ?_
 refine D' (v_mv lk) pt<|Zbt<|?_
 refine Zb4 ?_
 refine sn'<|Zab<|Zag rz<|?_
 rw [hE.1] at hj2;rw [hE.2,Nat.zero_add] at hj3
 refine ⟨_,_,rfl,Zad hn,ZaR hlt (by simp [Ent.lt,AV.lt,AV.ltL, *]),rfl,by rw [hj3],.inl ⟨by rw [hj2,hj3];simp,?_⟩⟩
 rw [hj3,Zet,show ((k:Int)).toNat=k from rfl,show (((k+j:Nat):Int)).toNat=k+j from rfl,Nat.add_sub_cancel_left]
theorem Zlh {p:Int→Bool}{f:Nat}(hp : ∀ (n:Int) (h:AH),ACalls Tryz.prog f [u8v n] h fun x h'=>h'=h∧x=.ret (bv (p n))) {s:ByteArray}{k n:Nat}{O:AV}{id v0 ty:Nat}{h:AH}(hr:runL p ((aB s).drop k)=some n) (h1:h[id]?=some (.mk v0 ty 3 [sv s,iv (k:Int),O])) (hO:O.lt h.length=true) (hk:k≤s.size) (hz:s.size≤8000) :
  ACalls Tryz.prog 107 [.ptr id v0 0,fnv f] h fun x h'=>x=.ret (sv (bA (((aB s).drop k).take n)))∧h'=h.set id (.mk v0 ty 3 [sv s,iv ((k+n:Nat):Int),O]):=by
 refine (ZmS hp h1 hO hk hz).mono ?_
 rintro x h' ⟨rfl,⟨h3,rfl⟩ | ⟨h3,rfl⟩⟩
 ·rw [Zsz hr];exact ⟨rfl,rfl⟩
 rw [h3] at hr;cases hr
theorem ZsY {p:Int→Bool}{f:Nat}(hp : ∀ (n:Int) (h:AH),ACalls Tryz.prog f [u8v n] h fun x h'=>h'=h∧x=.ret (bv (p n))) {s:ByteArray}{k:Nat}{O:AV}{id v0 ty:Nat}{h:AH}(hr:runL p ((aB s).drop k)=none) (h1:h[id]?=some (.mk v0 ty 3 [sv s,iv (k:Int),O])) (hO:O.lt h.length=true) (hk:k≤s.size) (hz:s.size≤8000) :
  ACalls Tryz.prog 107 [.ptr id v0 0,fnv f] h fun x h'=>x=.pan (erA 1)∧h'=h.set id (.mk v0 ty 3 [sv s,iv ((k+runN p ((aB s).drop k):Nat):Int),O]):=by
 refine (ZmS hp h1 hO hk hz).mono ?_
 rintro x h' ⟨rfl,⟨h3,rfl⟩ | ⟨h3,rfl⟩⟩
 ·rw [h3] at hr;cases hr
 exact ⟨rfl,rfl⟩
theorem Zp4 {s : ByteArray} {k : Nat} (hk : k < s.size) (hq : ((Zaz s k).toNat : Int) = 34) : Zce ((aB s).drop k) = match runL quoP ((aB s).drop (k + 1)) with
      | none=>none
      | some n=>if k+1+n=s.size then none else if ZeK ((aB s).drop (k+n+2))=true∧blkN (ZgS ((aB s).drop (k+n+2)))=false then none else some (1,n,n+2):=by
  rw [ZdO hk,Zce,if_pos hq]
  cases hr:runL quoP ((aB s).drop (k+1)) with
  | none=>rfl
  | some n =>
    have hle:=Zhl hr
    have hl:((aB s).drop (k+1)).length=s.size-(k+1):=by rw [List.length_drop,Zbr]
    simp only [hl,List.drop_drop,show k+1+(n+1)=k+n+2 by omega]
    by_cases h:k+1+n=s.size
    · rw [if_pos (by omega),if_pos h]
    rw [if_neg (by omega),if_neg h]
theorem Zp5 {s : ByteArray} {k : Nat} (hk : k < s.size) (hq : ¬ ((Zaz s k).toNat : Int) = 34) : Zce ((aB s).drop k) = match runL fldP ((aB s).drop k) with
      | none=>none
      | some n=>if ZeK ((aB s).drop (k+n))=true∧ZgS ((aB s).drop (k+n))=34 then none else some (0,n,n):=by
  conv=>lhs;rw [ZdO hk,Zce,if_neg hq,←ZdO hk]
  simp only [List.drop_drop]
  all_goals cases runL fldP ((aB s).drop k) <;> rfl
theorem ZaT {α:Type}{x:Option α}(h:¬∃ n,x=some n):x=none:=by
 cases x with
 | none=>rfl
 | some n=>exact absurd ⟨n,rfl⟩ h
def fdR (s:ByteArray) (k v0 ty id:Nat) (O:AV) (h:AH) (x:AE) (h':AH):Prop :=
 (∃ y,Zce ((aB s).drop k)=some y∧x=.ret (sv (cutF ((aB s).drop k) y))∧h'=h.set id (.mk v0 ty 3 [sv s,iv ((k+y.2.2:Nat):Int),O])) ∨
 (Zce ((aB s).drop k)=none∧x=.pan (erA 1) ∧ ∃ m:Nat,h'=h.set id (.mk v0 ty 3 [sv s,iv (m:Int),O]))
theorem ZhK {s:ByteArray}{k:Nat}{O:AV}{id v0 ty:Nat}{h:AH}(h1:h[id]?=some (.mk v0 ty 3 [sv s,iv (k:Int),O])) (hO:O.lt h.length=true) (hk:k<s.size) (hz:s.size≤8000) (hq:((Zaz s k).toNat:Int)=34) :
  ACalls Tryz.prog 140 [.ptr id v0 0] h (fdR s k v0 ty id O h):=by
 have hid:id<h.length:=(List.getElem?_eq_some_iff.1 h1).1
 have hF:=Zp4 hk hq
 have hL:((aB s).drop (k+1)).length=s.size-(k+1):=by rw [List.length_drop,Zbr]
 refine tJ' k140 fun N hn hlt hlA hbd=>?_
 simp only [tb'] at hbd ⊢
 rw [hn] at hO
 refine ZbG (h1:=h.set id (.mk v0 ty 3 [sv s,iv (k:Int),O])++[]) (by rw [ZbU h1]) ?_
 refine wr'<|mv' lks pt<|sn'<|wr'<|mv' lk pt<|V' (ZaD lk) pt<|V' (Zaa lk) pt<|V' (Zac lk (ZaC hid) gt1) pt<|?_
 refine V' (ZaE lk lki (by omega) (by omega)) pt ?_
 refine V' (ZaD lk) pt<|V' (Zaa lk) pt<|E' (Zal lk (cvl lk rfl) (ZaC hid) rfl (nb' rfl) rfl Zgw (Zax hid)) ptn<|sn'<|?_
 rw [show ((k:Int)+1)=((k+1:Nat):Int) by omega]
 refine wr'<|mv' lk pt<|?_
 by_cases hs11 : ∃ n,runL quoP ((aB s).drop (k+1))=some n
 ·obtain ⟨n,hr⟩:=hs11
  have hle:=Zhl hr
  rw [hr] at hF
  simp only at hF
  refine ZaA mp (Zlh (fun _ _=>ZsZ) hr (ZaC hid) (by simp [(Zad hn)];exact hO) hk hz) (Zax hid) pt ?_
  refine mv' lk pt<|sn'<|Zam<|Zam<|ZbJ<|D' (v_mv lk) pt<|D' (ZaD lk) pt<|D' (Zaa lk) pt<|D' (Zac lk (ZaC hid) gt1) pt<|D' (v_mv lk) pt<|D' (ZaD lk) pt<|D' (Zaa lk) pt<|D' (Zac lk (ZaC hid) gt0) pt<|?_
  refine D' (Zbi lk) pt<|D' (ZaX lk lk) pt<|Zbt<|?_
  refine Zb4 ?_
  refine sn' ?_
  refine cd' lk (fun hc1=>?_) (fun hc1=>?_)
  ·rw [if_pos (by omega)] at hF
   refine Zar<|Zay mp (ZfP)<|ZaS<|Zba<|?_
   exact ⟨_,_,rfl,Zad hn,ZaR hlt (by simp [Ent.lt,AV.lt,AV.ltL, *]),rfl,.inr ⟨hF,rfl,_,rfl⟩⟩
  rw [if_neg (by omega)] at hF
  have hlt2:k+n+2≤s.size:=by omega
  refine Zaf<|Zai<|wr'<|mv' lk pt<|V' (ZaD lk) pt<|V' (Zaa lk) pt<|V' (Zac lk (ZaC hid) gt1) pt<|?_
  refine V' (ZaE lk lki (by omega) (by omega)) pt ?_
  refine V' (ZaD lk) pt<|V' (Zaa lk) pt<|E' (Zal lk (cvl lk rfl) (ZaC hid) rfl (nb' rfl) rfl Zgw (Zax hid)) ptn<|sn'<|?_
  rw [show (((k+1+n:Nat):Int)+1)=((k+n+2:Nat):Int) by omega]
  refine Zam<|Zam<|ZbJ<|D' (v_mv lk) pt<|?_
  refine Za9 mp (fun hE hX=>Zli (hX _ _ (ZaC hid)) hlt2) pt ?_
  refine D' (v_mv lk) pt ?_
  refine Ze8 (t:=33) gt pt pt (fun hg33=>?_) (fun hg33=>?_)
  ·have hm:=hg33;rw [Zci] at hm;simp only [Bool.and_eq_true,decide_eq_true_eq] at hm
   have hh:=Zdq hm.1
   refine d_do gt<|D' (v_mv lk) pt<|d_do gt<|D' (ZaD lk) pt<|d_do gt<|D' (Zaa lk) pt<|d_do gt<|D' (Zac lk (ZaC hid) gt0) pt<|d_do gt<|D' (v_mv lk) pt<|d_do gt<|D' (ZaD lk) pt<|d_do gt<|D' (Zaa lk) pt<|?_
   refine d_do gt<|D' (Zac lk (ZaC hid) gt1) pt<|d_do gt<|?_
   refine D' (v_ix lk lk (by omega) (by omega)) pt ?_
   refine d_do gt ?_
   refine Za9 mp (fun hE hX=>ZfA) pt ?_
   refine d_do gt<|D' (Zav lk) pt<|D' (Zaj lk lk) pt<|Zbt<|?_
   refine Zb4 ?_
   refine sn' ?_
   refine Zaw lk (fun hc2=>?_) (fun hc2=>?_)
   ·rw [if_pos ⟨hg33,by rw [hh];have:=hc2;rw [Bool.not_eq_true'] at this;exact this⟩] at hF
    refine Zar<|Zay mp (ZfP)<|ZaS<|Zba<|?_
    exact ⟨_,_,rfl,Zad hn,ZaR hlt (by simp [Ent.lt,AV.lt,AV.ltL, *]),rfl,.inr ⟨hF,rfl,_,rfl⟩⟩
   rw [if_neg (fun e=>by have:=hc2;rw [Bool.not_eq_false'] at this;rw [hh] at e;exact absurd (this.symm.trans e.2) (by decide))] at hF
   refine Zaf<|Zai<|wr'<|mv' lk pt<|mv' lk pt<|sn'<|Zab<|Zag rz<|?_
   exact ⟨_,_,rfl,Zad hn,ZaR hlt (by simp [Ent.lt,AV.lt,AV.ltL, *]),rfl,.inl ⟨_,hF,by simp [cutF],by simp [Nat.add_assoc]⟩⟩
  rw [if_neg (by rw [hg33];simp)] at hF
  refine d_no gt pt<|d_no gt pt<|d_no gt pt<|d_no gt pt<|d_no gt pt<|d_no gt pt<|d_no gt pt<|d_no gt pt<|d_no gt pt<|d_no gt pt<|d_no gt pt<|D' (Zah lk lkb) pt<|Zbt<|?_
  refine Zb4 ?_
  refine sn'<|ZaY lk<|Zaf<|Zai<|wr'<|mv' lk pt<|mv' lk pt<|sn'<|Zab<|Zag rz<|?_
  exact ⟨_,_,rfl,Zad hn,ZaR hlt (by simp [Ent.lt,AV.lt,AV.ltL, *]),rfl,.inl ⟨_,hF,by simp [cutF],by simp [Nat.add_assoc]⟩⟩
 have hr:=ZaT hs11
 rw [hr] at hF
 refine Zmr mp (ZsY (fun _ _=>ZsZ) hr (ZaC hid) (by simp [(Zad hn)];exact hO) hk hz) ?_
 refine ZaS<|Zba<|?_
 rw [Zax hid];exact ⟨_,_,rfl,Zad hn,ZaR hlt (by simp [Ent.lt,AV.lt,AV.ltL, *]),rfl,.inr ⟨hF,rfl,_,rfl⟩⟩
theorem ZqH {s:ByteArray}{k:Nat}{O:AV}{y:Nat×Nat×Nat}{id v0 ty:Nat}{h:AH}(hf:Zce ((aB s).drop k)=some y) (h1:h[id]?=some (.mk v0 ty 3 [sv s,iv (k:Int),O])) (hO:O.lt h.length=true) (hk:k<s.size) (hz:s.size≤8000) (hq:((Zaz s k).toNat:Int)=34) :
  ACalls Tryz.prog 140 [.ptr id v0 0] h fun x h'=>x=.ret (sv (cutF ((aB s).drop k) y))∧h'=h.set id (.mk v0 ty 3 [sv s,iv ((k+y.2.2:Nat):Int),O]):=by
 refine (ZhK h1 hO hk hz hq).mono ?_
 rintro x h' (⟨z,e,h2,h3⟩ | ⟨e,_⟩) <;> rw [e] at hf <;> cases hf
 exact ⟨h2,h3⟩
theorem ZqG {s:ByteArray}{k:Nat}{O:AV}{id v0 ty:Nat}{h:AH}(hf:Zce ((aB s).drop k)=none) (h1:h[id]?=some (.mk v0 ty 3 [sv s,iv (k:Int),O])) (hO:O.lt h.length=true) (hk:k<s.size) (hz:s.size≤8000) (hq:((Zaz s k).toNat:Int)=34) :
  ACalls Tryz.prog 140 [.ptr id v0 0] h fun x h'=>x=.pan (erA 1) ∧ ∃ m:Nat,h'=h.set id (.mk v0 ty 3 [sv s,iv (m:Int),O]):=by
 refine (ZhK h1 hO hk hz hq).mono ?_
 rintro x h' (⟨z,e,h2,h3⟩ | ⟨e,h2⟩)
 ·rw [e] at hf;cases hf
 exact h2
theorem ZiJ {s:ByteArray}{k:Nat}{O:AV}{id v0 ty:Nat}{h:AH}(h1:h[id]?=some (.mk v0 ty 3 [sv s,iv (k:Int),O])) (hO:O.lt h.length=true) (hk:k<s.size) (hz:s.size≤8000) :
  ACalls Tryz.prog 109 [.ptr id v0 0] h (fdR s k v0 ty id O h):=by
 have hid:id<h.length:=(List.getElem?_eq_some_iff.1 h1).1
 refine tJ' k109 fun N hn hlt hlA hbd=>?_
 simp only [tb'] at hbd ⊢
 rw [hn] at hO
 refine ZbG (h1:=h.set id (.mk v0 ty 3 [sv s,iv (k:Int),O])++[]) (by rw [ZbU h1]) ?_
 refine wr'<|mv' lks pt<|sn'<|Zam<|Zam<|ZbJ<|D' (v_mv lk) pt<|D' (ZaD lk) pt<|D' (Zaa lk) pt<|D' (Zac lk (ZaC hid) gt0) pt<|D' (v_mv lk) pt<|D' (ZaD lk) pt<|?_
 refine D' (Zaa lk) pt<|D' (Zac lk (ZaC hid) gt1) pt<|?_
 refine D' (v_ix lk lk (by omega) (by omega)) pt ?_
 refine D' (ZaX lk lki) pt<|Zbt<|?_
 refine Zb4 ?_
 refine sn' ?_
 refine cd' lk (fun hc1=>?_) (fun hc1=>?_)
 ·refine wr'<|mv' lk pt<|?_
  by_cases hs13 : ∃ y,Zce ((aB s).drop k)=some y
  ·obtain ⟨y,hy⟩:=hs13
   refine ZaA mp (ZqH hy (ZaC hid) (by simp [(Zad hn)];exact hO) hk hz hc1) (Zax hid) pt ?_
   refine mv' lk pt<|sn'<|Zab<|Zak<|Zag rz<|?_
   exact ⟨_,_,rfl,Zad hn,ZaR hlt (by simp [Ent.lt,AV.lt,AV.ltL, *]),rfl,.inl ⟨_,hy,rfl,rfl⟩⟩
  have hy:=ZaT hs13
  refine ZaP mp (ZqG hy (ZaC hid) (by simp [(Zad hn)];exact hO) hk hz hc1) (fun hP_ hPp_=>?_)
  refine ZaS<|ZaS<|Zba<|?_
  obtain ⟨m,rfl⟩:=hPp_
  rw [Zax hid];exact ⟨_,_,rfl,Zad hn,ZaR hlt (by simp [Ent.lt,AV.lt,AV.ltL, *]),rfl,.inr ⟨hy,rfl,_,rfl⟩⟩
 have hF:=Zp5 hk hc1
 refine Zaf<|Zai<|wr'<|mv' lk pt<|?_
 by_cases hs16 : ∃ n,runL fldP ((aB s).drop k)=some n
 ·obtain ⟨n,hr⟩:=hs16
  have hle:=Zhl hr
  have hL:((aB s).drop k).length=s.size-k:=by rw [List.length_drop,Zbr]
  rw [hr] at hF
  simp only at hF
  refine ZaA mp (Zlh (fun _ _=>Zs1) hr (ZaC hid) (by simp [(Zad hn)];exact hO) (Nat.le_of_lt hk) hz) (Zax hid) pt ?_
  refine mv' lk pt<|sn'<|Zam<|Zam<|ZbJ<|D' (v_mv lk) pt<|?_
  refine Za9 mp (fun hE hX=>Zli (hX _ _ (ZaC hid)) (by omega)) pt ?_
  refine D' (v_mv lk) pt ?_
  refine Ze8 (t:=20) gt pt pt (fun hg20=>?_) (fun hg20=>?_)
  ·have hm:=hg20;rw [Zci] at hm;simp only [Bool.and_eq_true,decide_eq_true_eq] at hm
   have hh:=Zdq hm.1
   refine d_do gt<|D' (v_mv lk) pt<|d_do gt<|D' (ZaD lk) pt<|d_do gt<|D' (Zaa lk) pt<|d_do gt<|D' (Zac lk (ZaC hid) gt0) pt<|d_do gt<|D' (v_mv lk) pt<|d_do gt<|D' (ZaD lk) pt<|d_do gt<|D' (Zaa lk) pt<|?_
   refine d_do gt<|D' (Zac lk (ZaC hid) gt1) pt<|d_do gt<|?_
   refine D' (v_ix lk lk (by omega) (by omega)) pt ?_
   refine d_do gt<|D' (ZaX lk lki) pt<|D' (Zaj lk lk) pt<|Zbt<|?_
   refine Zb4 ?_
   refine sn' ?_
   refine cd' lk (fun hc2=>?_) (fun hc2=>?_)
   ·rw [if_pos ⟨hg20,by rw [hh];exact hc2⟩] at hF
    refine Zar<|Zay mp (ZfP)<|ZaS<|Zba<|?_
    exact ⟨_,_,rfl,Zad hn,ZaR hlt (by simp [Ent.lt,AV.lt,AV.ltL, *]),rfl,.inr ⟨hF,rfl,_,rfl⟩⟩
   rw [if_neg (fun e=>by rw [hh] at e;exact hc2 e.2)] at hF
   refine Zaf<|Zai<|wr'<|mv' lk pt<|mv' lk pt<|sn'<|Zab<|Zag rz<|?_
   exact ⟨_,_,rfl,Zad hn,ZaR hlt (by simp [Ent.lt,AV.lt,AV.ltL, *]),rfl,.inl ⟨_,hF,by simp [cutF],rfl⟩⟩
  rw [if_neg (by rw [hg20];simp)] at hF
  refine d_no gt pt<|d_no gt pt<|d_no gt pt<|d_no gt pt<|d_no gt pt<|d_no gt pt<|d_no gt pt<|d_no gt pt<|d_no gt pt<|d_no gt pt<|D' (Zah lk lkb) pt<|Zbt<|?_
  refine Zb4 ?_
  refine sn'<|ZaY lk<|Zaf<|Zai<|wr'<|mv' lk pt<|mv' lk pt<|sn'<|Zab<|Zag rz<|?_
  exact ⟨_,_,rfl,Zad hn,ZaR hlt (by simp [Ent.lt,AV.lt,AV.ltL, *]),rfl,.inl ⟨_,hF,by simp [cutF],rfl⟩⟩
 have hr:=ZaT hs16
 rw [hr] at hF
 refine Zmr mp (ZsY (fun _ _=>Zs1) hr (ZaC hid) (by simp [(Zad hn)];exact hO) (Nat.le_of_lt hk) hz) ?_
 refine ZaS<|Zba<|?_
 rw [Zax hid];exact ⟨_,_,rfl,Zad hn,ZaR hlt (by simp [Ent.lt,AV.lt,AV.ltL, *]),rfl,.inr ⟨hF,rfl,_,rfl⟩⟩
theorem Zs3 {s:ByteArray}{k:Nat}{O:AV}{y:Nat×Nat×Nat}{id v0 ty:Nat}{h:AH}(hf:Zce ((aB s).drop k)=some y) (h1:h[id]?=some (.mk v0 ty 3 [sv s,iv (k:Int),O])) (hO:O.lt h.length=true) (hk:k<s.size) (hz:s.size≤8000) :
  ACalls Tryz.prog 109 [.ptr id v0 0] h fun x h'=>x=.ret (sv (cutF ((aB s).drop k) y))∧h'=h.set id (.mk v0 ty 3 [sv s,iv ((k+y.2.2:Nat):Int),O]):=by
 refine (ZiJ h1 hO hk hz).mono ?_
 rintro x h' (⟨z,e,h2,h3⟩ | ⟨e,_⟩) <;> rw [e] at hf <;> cases hf
 exact ⟨h2,h3⟩
theorem Zs2 {s:ByteArray}{k:Nat}{O:AV}{id v0 ty:Nat}{h:AH}(hf:Zce ((aB s).drop k)=none) (h1:h[id]?=some (.mk v0 ty 3 [sv s,iv (k:Int),O])) (hO:O.lt h.length=true) (hk:k<s.size) (hz:s.size≤8000) :
  ACalls Tryz.prog 109 [.ptr id v0 0] h fun x h'=>x=.pan (erA 1) ∧ ∃ m:Nat,h'=h.set id (.mk v0 ty 3 [sv s,iv (m:Int),O]):=by
 refine (ZiJ h1 hO hk hz).mono ?_
 rintro x h' (⟨z,e,h2,h3⟩ | ⟨e,h2⟩)
 ·rw [e] at hf;cases hf
 exact h2
end Go.Proofs.YtgjchdhdopgkkaaGreatDoor
end
section
namespace Go.Ab
section
variable {P : Program}
structure AFD where
 al:List AOper
 d:Nat
 k:Nat
 caps:List Operand
 af:AF
def Znc (P:Program) (f:FuncId):Option AFD :=
 match P.funcs[f]? with
 | some fn=>if fn.name == "runtime.NumGoroutine" then none else match fn.body with
  | some (.seq (.region _ ops0 false) (.seq (.region _ ops1 false) c)) =>
   match ops0.toList.mapM (Zb9 P [] ops0),ops1.toList,comp P c,fn.results.toList.mapM (Zgm P) with
   | some al,[o1,o2],some ac,some rs=>match o1.dst,o1.op,o1.guard,o2.dst,o2.op,o2.guard with
    | some d,.makeFunc (.func k) first caps,none,none,.defer cl,none=>match cl.callee with
     | .value (.tmp t)=>if first = #[]∧t=d∧cl.args = #[]∧enters P k=true then some ⟨al,d,k,caps.toList,⟨ac,rs,fn.ntmps⟩⟩ else none
     | _=>none
    | _,_,_,_,_,_=>none
   | _,_,_,_=>none
  | _=>none
 | none=>none
def ADef (P:Program) (k:FuncId) (cv:List AV) (m:Option AV) (h:AH) (R:AH→Prop):Prop :=
  ∀ w g (vs:Array Value),SimH w g h→RepL w g cv vs.toList→match m with
    | none=>CallsD P k vs .returning w fun e u' w'=>(∃ v,e=.returned v)∧u'=.returning ∧ ∃ h' g',SimH w' g' h'∧g.le g'∧Fr w (Ow g h) w'∧(∀ k,Ow g' h' k→Ow g h k∨w.heap.size≤k)∧R h'
    | some c => ∀ v, Rep w g c v → CallsD P k vs (.panicking [{ v := v, recovered := false }]) w fun e u' w' => (∃ x, e = .returned x) ∧ (∃ x, u' = .panicking [{ v := x, recovered := true }]) ∧
        ∃ h' g',SimH w' g' h'∧g.le g'∧Fr w (Ow g h) w'∧(∀ k,Ow g' h' k→Ow g h k∨w.heap.size≤k)∧R h'
def ZqU (P:Program) (k:FuncId) (cv:List AV) (rs:List AR) (R:AE→AH→Prop):AX→List AV→AH→Prop
 | .normal,T,h=>ADef P k cv none h fun h' => ∃ c,aRes rs T h'=some c∧R (.ret c) h'
 | .ret,T,h=>ADef P k cv none h fun h' => ∃ c,aRes rs T h'=some c∧R (.ret c) h'
 | .pan c,T,h=>ADef P k cv (some c) h fun h' => ∃ r,aRes rs T h'=some r∧R (.ret r) h'
 | .exit _,_,_=>False
theorem ZnS {k:FuncId}(he:enters P k=true) (cap:Array Value) (w:World):(invoke (.fn (.func k) cap) #[]).run P w=.ok (.enter k cap) w:=by
 unfold enters at he
 split at he <;> try (cases he;done)
 rename_i fd hfd
 simp only [Bool.and_eq_true,bne_iff_ne,ne_eq] at he
 have hb:fd.body≠none:=by intro e;simp [e] at he
 simp [invoke,callFunc,hfd,he.1,hb]
theorem Zl4 {id:Nat}{ops1:Array Oper}{o1 o2:Oper}{d k:Nat}{first caps:Array Operand}{cl:Call}(hops:ops1.toList=[o1,o2]) (h1:o1.dst=some d) (h2:o1.op=.makeFunc (.func k) first caps) (h3:o1.guard=none) (h4:o2.dst=none)
  (h5:o2.op=.defer cl) (h6:o2.guard=none) (h7:cl.callee=.value (.tmp d)) (h8:cl.args = #[]) (h9:first = #[]) {a:Act} {w:World} {Q:Exit→Act→World→Prop} (hd:d<a.tmps.size)
  (hQ:Q .normal { tmps:=a.tmps.setIfInBounds d (.func (.func k) #[] (caps.map a.eval)),defers:={ target:=.fn (.func k) (caps.map a.eval),args := #[] }::a.defers } w):(Code.region id ops1 false).wp P Q a w:=by
 obtain ⟨l⟩:=ops1
 simp only at hops
 subst hops h9
 refine wp_region_lit ?_
 refine wpList_plain h3 fun K1 hK1=>?_
 have e1:(execOp a.eval o1).run P w=.ok (.value (.func (.func k) #[] (caps.map a.eval))) w:=by simp [execOp,h2,Instr.makeFunc]
 unfold Oper.wp
 rw [e1,Oper.upon_value,h1]
 refine hK1 _ _ ?_
 refine wpList_plain h6 fun K2 hK2=>?_
 have e2:(Act.eval (a.put (some d) (.func (.func k) #[] (caps.map a.eval))) (.tmp d))=.func (.func k) #[] (caps.map a.eval):=by simp [Act.eval,Act.put,hd]
 have e3:(execOp (Act.eval (a.put (some d) (.func (.func k) #[] (caps.map a.eval)))) o2).run P w=.ok (.defer { target:=.fn (.func k) (caps.map a.eval),args := #[] }) w:=by
  simp [execOp,h5,resolve,h7,h8,e2,Deferred.ofValue]
 unfold Oper.wp
 rw [e3,Oper.upon_defer,h4]
 exact hK2 _ _ (wpList_nil hQ)
theorem leaves_A {fn:Func}{rs:List AR}(hrs:fn.results.toList.mapM (Zgm P)=some rs) {k:FuncId}(hk:enters P k=true) {cv:List AV}{R:AE→AH→Prop}{x:AX}{T:List AV}{h:AH}{w:World}{g:Gh}{a:Act}{vals:Array Value}{e:Exit}{RR:Ending→World→Prop}
  (hs:SimH w g h) (ht:RepL w g T a.tmps.toList) (hd:a.defers=[{ target:=.fn (.func k) vals,args := #[] }]) (hv:RepL w g cv vals.toList) (hx:ExR w g e x) (hdoor:ZqU P k cv rs R x T h)
  (hR : ∀ c v w' h' g',Rep w' g' c v→SimH w' g' h'→g.le g'→Fr w (Ow g h) w'→(∀ k,Ow g' h' k→Ow g h k∨w.heap.size≤k)→R (.ret c) h'→RR (.returned v) w'):bodyPostD P fn RR e a w:=by
 have fin : ∀ w' h' g',SimH w' g' h'→g.le g'→Fr w (Ow g h) w'→(∀ k,Ow g' h' k→Ow g h k∨w.heap.size≤k)→(∃ c,aRes rs T h'=some c∧R (.ret c) h')→Leaves P fn a.tmps RR [] .returning w':=by
  rintro w' h' g' q1 q2 q3 q4 ⟨c,q5,q6⟩
  have ht':=RepL.mono q2 (fun k hk=>q3.block k (hs.lt k hk) (fun ho=>(hs.own_not_D ho).1 hk)) _ _ ht
  obtain ⟨v,r1,r2⟩:=Zgh hrs q5 q1 ht'
  exact ⟨v,by simpa using r1,hR c v w' h' g' r2 q1 q2 q3 q4 q6⟩
 have go : ∀ {u:FrameMode},u ≠ .run→(CallsD P k vals u w fun e u' w'=>(∃ v,e=.returned v)∧settle u'=.returning∧Leaves P fn a.tmps RR [] .returning w')→Leaves P fn a.tmps RR a.defers u w:=by
  intro u hu hc
  rw [hd]
  refine leaves_cons hu (ZnS hk vals w) (hc.mono ?_)
  rintro e u' w' ⟨⟨v,rfl⟩,h2,h3⟩
  simp only [h2]
  exact h3
 cases x <;> cases e <;> simp only [ExR] at hx <;> simp only [ZqU] at hdoor <;> try (exact hdoor.elim)
 ·refine go (by simp) ((hdoor w g vals hs hv).mono ?_)
  rintro e u' w' ⟨⟨v,rfl⟩,rfl,h',g',q1,q2,q3,q4,q5⟩
  exact ⟨⟨v,rfl⟩,rfl,fin w' h' g' q1 q2 q3 q4 q5⟩
 ·refine go (by simp) ((hdoor w g vals hs hv).mono ?_)
  rintro e u' w' ⟨⟨v,rfl⟩,rfl,h',g',q1,q2,q3,q4,q5⟩
  exact ⟨⟨v,rfl⟩,rfl,fin w' h' g' q1 q2 q3 q4 q5⟩
 ·obtain ⟨v,rfl,hc⟩:=hx
  refine go (by simp) ((hdoor w g vals hs hv v hc).mono ?_)
  rintro e u' w' ⟨⟨v',rfl⟩,⟨x,rfl⟩,h',g',q1,q2,q3,q4,q5⟩
  exact ⟨⟨v',rfl⟩,rfl,fin w' h' g' q1 q2 q3 q4 q5⟩
def afterR0 (P:Program) (fd:AFD) (R:AE→AH→Prop) (x:AX) (T1:List AV) (h1:AH):Prop:=x=.normal∧fd.d<T1.length∧aw P h1.length fd.af.code (ZqU P fd.k (fd.caps.map (Zan T1)) fd.af.res R) (T1.set fd.d .any) h1
theorem ACalls.of_defer {f:FuncId}{fd:AFD}(hc:Znc P f=some fd) (he:enters P f=true) {args:List AV}{h:AH}{R:AE→AH→Prop}
  (hw:arun P (fun c T h=>afterR0 P fd R (.pan c) T h) fd.al (args++List.replicate (fd.af.ntmps-args.length) .any) h (fun T1 h1=>afterR0 P fd R .normal T1 h1)):ACalls P f args h R:=by
 unfold Znc at hc
 split at hc <;> try (cases hc;done)
 rename_i fn hfn
 split at hc <;> try (cases hc;done)
 split at hc <;> try (cases hc;done)
 rename_i i0 ops0 i1 ops1 c hb
 split at hc <;> try (cases hc;done)
 rename_i al o1 o2 ac rs hal ho12 hac hrs
 split at hc <;> try (cases hc;done)
 rename_i d k first caps cl hd1 hop1 hg1 hd2 hop2 hg2
 split at hc <;> try (cases hc;done)
 rename_i t hcal
 split at hc <;> try (cases hc;done)
 rename_i hcond
 obtain ⟨rfl,rfl,hargs,hek⟩:=hcond
 cases hc
 simp only at hw
 refine ⟨he,fun w g vs hs ha=>calls_of_wp_defers hfn hb ?_⟩
 have hlen:vs.size=args.length:=by simpa using ha.length
 have hst:St h.length w (Ow g h) ⟨g.D,g.loc,[]⟩ (args++List.replicate (fn.ntmps-args.length) .any) h { tmps:=vs++Array.replicate (fn.ntmps-vs.size) undef,defers:=[] } w g:=by
  refine ⟨?_,rfl,hs,Fr.refl _ _,⟨fun _ h=>h,fun _ _ _ h=>h⟩,fun i v l hl=>(hs.fresh i v l hl).1,fun k hk=>.inl hk⟩
  simp only [Array.toList_append,Array.toList_replicate,hlen]
  refine ha.append ?_
  have:=Zk6 w g (List.replicate (fn.ntmps-args.length) undef)
  simpa using this
 refine wp_seq (wp_mono (ZnG (n0:=h.length) (Q:=afterR0 P ⟨al,t,k,caps.toList,⟨ac,rs,fn.ntmps⟩⟩ R) hal hw w (Ow g h) ⟨g.D,g.loc,[]⟩ _ w g hst) ?_)
 rintro e1 a1 w1 ⟨x1,T1,h1,g1,st1,hx1,rfl,hl1,hw1⟩
 cases e1 <;> simp only [ExR] at hx1
 show Code.wp P _ _ a1 w1
 have hl1':=st1.tmps.length
 refine wp_seq (Zl4 ho12 hd1 hop1 hg1 hd2 hop2 hg2 hcal hargs rfl (by simp only [Array.length_toList] at hl1';rw [hl1'];exact hl1) ?_)
 show Code.wp P _ _ _ w1
 have hcv:RepL w1 g1 (caps.toList.map (Zan T1)) (caps.map a1.eval).toList:=by
  simpa using ZgJ (τ:=Zan T1) (ρ:=a1.eval) caps.toList (fun x _=>Zcz st1.tmps x)
 have st2:St h1.length w1 (Ow g1 h1) ⟨g1.D,g1.loc,[{ target:=.fn (.func k) (caps.map a1.eval),args := #[] }]⟩ (T1.set t .any) h1 { tmps:=a1.tmps.setIfInBounds t (.func (.func k) #[] (caps.map a1.eval)),defers:={ target:=.fn (.func k) (caps.map a1.eval),args := #[] }::a1.defers } w1 g1:=by
  refine ⟨?_,?_,st1.sim,Fr.refl _ _,⟨fun _ h=>h,fun _ _ _ h=>h⟩,fun i v l hl=>(st1.sim.fresh i v l hl).1,fun k hk=>.inl hk⟩
  ·simpa using st1.tmps.set (k:=t) (c:=.any) (u:=.func (.func k) #[] (caps.map a1.eval)) (by simp only [Rep])
  ·rw [st1.defers]
 refine wp_mono (Zkg c ac hac hw1 w1 (Ow g1 h1) _ _ w1 g1 st2) ?_
 rintro e2 a2 w2 ⟨x2,T2,h2,g2,st2',hx2,hdoor⟩
 have hle:g1.le g2:=⟨st2'.le.D,st2'.le.loc⟩
 refine leaves_A hrs hek st2'.sim st2'.tmps st2'.defers (RepL.mono hle (fun k hk=>st2'.fr.block k (st1.sim.lt k hk) (fun ho=>(st1.sim.own_not_D ho).1 hk)) _ _ hcv) hx2 hdoor ?_
 intro c' v w3 h3 g3 q1 q2 q3 q4 q5 q6
 have hle0:g.le g1:=⟨st1.le.D,st1.le.loc⟩
 refine ⟨.ret c',h3,g3,q1,q2,(hle0.trans hle).trans q3,?_,?_,q6⟩
 ·refine (st1.fr.trans st2'.fr ?_).trans q4 ?_
  ·intro i hi hlt
   exact (st1.ow i hi).resolve_right (by omega)
  ·intro i hi hlt
   rcases st2'.ow i hi with ho | ho
   ·exact (st1.ow i ho).resolve_right (by omega)
   ·have:=st1.fr.size;omega
 ·intro i hi
  rcases q5 i hi with ho | ho
  ·rcases st2'.ow i ho with ho | ho
   ·exact st1.ow i ho
   ·exact .inr (Nat.le_trans st1.fr.size ho)
  ·exact .inr (Nat.le_trans (Nat.le_trans st1.fr.size st2'.fr.size) ho)
theorem ACalls.intoD {f:FuncId}{fd:AFD}(hc:Znc P f=some fd) (he:enters P f=true) {args T0:List AV}{h:AH}{R:AE→AH→Prop}(hT:args++List.replicate (fd.af.ntmps-args.length) .any=T0)
  (hw : ∀ n,h.length=n→(∀ e∈h,e.lt n=true)→AV.ltL n args=true→AV.bdL args→arun P (fun c T h=>afterR0 P fd R (.pan c) T h) fd.al T0 (h++[]) (fun T1 h1=>afterR0 P fd R .normal T1 h1)):ACalls P f args h R:=by
 subst hT
 refine ⟨he,fun w g vs hs ha=>(ACalls.of_defer (R:=R) hc he ?_).2 w g vs hs ha⟩
 have:=hw h.length rfl hs.ltE (RepL.lt (fun i v l hl=>(hs.fresh i v l hl).1) _ _ ha) (RepL.bd _ _ ha)
 rwa [List.append_nil] at this
theorem afterR0.mk {fd:AFD}{R:AE→AH→Prop}{T T1 cv:List AV}{h:AH}{n:Nat}(hd:fd.d<T.length) (hp:aPut T (some fd.d) .any=T1) (hc:fd.caps.map (Zan T)=cv) (hn:h.length=n) (hw : ∀ M,M=n→aw P M fd.af.code (ZqU P fd.k cv fd.af.res R) T1 h):afterR0 P fd R .normal T h:=by
 subst hp hc;exact ⟨rfl,hd,hw _ hn⟩
theorem Zqb {k:Nat}{cv T:List AV}{rs:List AR}{R:AE→AH→Prop}{h:AH}(hd:ADef P k cv none h fun h' => ∃ c,aRes rs T h'=some c∧R (.ret c) h'):ZqU P k cv rs R .ret T h:=hd
theorem Zib {k:Nat}{cv T:List AV}{rs:List AR}{R:AE→AH→Prop}{c:AV}{h:AH}(hd:ADef P k cv (some c) h fun h' => ∃ c,aRes rs T h'=some c∧R (.ret c) h'):ZqU P k cv rs R (.pan c) T h:=hd
end
end Go.Ab
end
section
namespace Go.Proofs.YtgjchdhdopgkkaaGreatDoor
open Go.Ab
section
theorem ZlU {τ:Operand→AV}{y0:Operand}{x0_0:AV}(h0:Zap (τ y0)=some [x0_0]) (l0:[x0_0].all leaf=true):Zat τ [(0,1,y0)] [(.v (.string ⟨#[]⟩)),(.v (.int .i64 0)),(.sl 0 0 true [])]=some [x0_0,(.v (.int .i64 0)),(.sl 0 0 true [])]:=by
 simp only [Zat,h0,l0]
 rfl
theorem ZjF {τ:Operand→AV}{y0:Operand}{x0_0:AV}(h0:Zap (τ y0)=some [x0_0]) (l0:[x0_0].all leaf=true):Zat τ [(0,1,y0)] [(.v (.string ⟨#[]⟩))]=some [x0_0]:=by
 simp only [Zat,h0,l0]
 rfl
theorem ZrL {a0:AV}{l:List AV}:(a0::l).take 1=[a0]:=rfl
theorem Zo9 {a0 a1 a2 c0:AV}{l:List AV}:setCells (a0::a1::a2::l) 2 [c0]=a0::a1::c0::l:=rfl
theorem Zjr {a0 c0:AV}{l:List AV}:setCells (a0::l) 0 [c0]=c0::l:=rfl
end
def c76:AC:=(Sr [Mv 7 0,Oo 8 (.build [Ss,(iv 0),(.sl 0 0 true [])] [(0,(1,(.tmp 7)))]),Oo 9 (.box 141 3 (.tmp 8)),Mv 4 9] (.seq (Sr [Mv 10 4,Cl 11 107 [(.tmp 10),(.func 77)]] (.block 0 (.loop (.seq (Sr [Mv 12 4,Cl 13 108 [(.tmp 12)]] (Cd 13 .skip (.exit 0))) (.seq (.block 1 (Sr [Mv 16 4,Cl 17 109 [(.tmp 16)],Mv 5 17] (Sr [Mv 18 4,Mv 19 4,Nk 20 19,Fa 21 2 20,Ld 22 21,Mv 23 5,Oo 24 (.lit 9 1 1 [Ss] [(0,(1,(.tmp 23)))]),Oo 25 (.app 9 1 16 (.tmp 22) (.tmp 24)),Nk 26 18,Fa 27 2 26,Sc 27 25] (Sr [Mv 28 5,Oo 29 (.len true (.tmp 28)),Bc 30 .gtr 29 24,Mv 31 30,Of 32 31 (mt 4),Of 33 31 (.nck (.tmp 32)),Of 34 31 (.fa 2 (.tmp 33)),Of 35 31 (.load false 1 (.tmp 34)),Of 36 31 (.len false (.tmp 35)),Of 37 31 (.bin .gtr (.tmp 36) (Ci 12)),Oo 38 (.pick (.tmp 31) (.const (.bool true)) (.tmp 37))] (Cd 38 (.reg [Cl 39 110 [(Ci 2)]]) .skip))))) (.reg [Mv 14 4,Cl 15 107 [(.tmp 14),(.func 77)]])))))) (Sr [Mv 40 4,Nk 41 40,Fa 42 2 41,Ld 43 42,Sc 2 43,⟨none,none,(.store 1 (.tmp 3) (Ci 0))⟩] .ret)))
abbrev fd76:AFD:=⟨[⟨(some 2),none,(.new 65 1 [(.sl 0 0 true [])])⟩,⟨(some 3),none,(.new 27 1 [(.v (.int .i64 0))])⟩],6,106,[(.tmp 2),(.tmp 3)],⟨c76,[(.cell 2 false 1),(.cell 3 false 1)],44⟩⟩
theorem k76:Znc Tryz.prog 76=some fd76:=by kernel_rfl
theorem d76 {a0:AV}{h:AH}{R:AE→AH→Prop}(hw : ∀ n,h.length=n→(∀ e∈h,e.lt n=true)→AV.ltL n [a0]=true→AV.bdL [a0]→arun Tryz.prog (fun c T h=>afterR0 Tryz.prog fd76 R (.pan c) T h) [⟨(some 2),none,(.new 65 1 [(.sl 0 0 true [])])⟩,⟨(some 3),none,(.new 27 1 [(.v (.int .i64 0))])⟩] [a0,.any,.any,.any,.any,.any,.any,.any,.any,.any,.any,.any,.any,.any,.any,.any,.any,.any,.any,.any,.any,.any,.any,.any,.any,.any,.any,.any,.any,.any,.any,.any,.any,.any,.any,.any,.any,.any,.any,.any,.any,.any,.any,.any] (h++[]) (fun T1 h1=>afterR0 Tryz.prog fd76 R .normal T1 h1)):ACalls Tryz.prog 76 [a0] h R:=ACalls.intoD k76 (by kernel_rfl) rfl hw
theorem taErrno (v:Value) (t:TypeId) (w:World):(Instr.typeAssert (.iface 27 v) t 27 true).run Tryz.prog w=.ok (.tuple #[v,.bool true]) w:=by
 simp [Instr.typeAssert,run_underlying Tryz.underlying27]
theorem catchS_p (pi pj:Addr) (x y:Value) (e:Int) (w:World) (h1:w.cell? pi=some x) (h2:w.frozen? pi=false) (h3:w.cell? pj=some y) (h4:w.frozen? pj=false) (hne:pi≠pj) :
  CallsD Tryz.prog 106 #[.pointer (some pi),.pointer (some pj)] (.panicking [{ v:=.iface 27 (.int .i64 e),recovered:=false }]) w fun e' u' w' =>
   e'=.returned (.tuple #[])∧u'=.panicking [{ v:=.iface 27 (.int .i64 e),recovered:=true }]∧w'=(w.setCell pi (.slice none 0 0)).setCell pj (.int .i64 e):=by
 refine callsD_of_wpS Tryz.func106 rfl fun c₀ cs hu=>?_
 apply wpS_seq
 apply wpS_region
 simp [wpOpsS,go_sem,recoverD,hu,Tryz.ntmps106,Exit.thenS]
 apply wpS_seq
 apply wpS_region
 simp [wpOpsS,go_sem,Exit.thenS]
 refine wpS_cond (t:=true) (by simp [Act.eval,Array.replicate]) ?_
 simp only [if_true]
 apply wpS_seq
 apply wpS_region
 simp [wpOpsS,go_sem,Exit.thenS,taErrno]
 apply wpS_seq
 apply wpS_seq
 apply wpS_region
 simp [wpOpsS,go_sem,Exit.thenS]
 refine wpS_cond (t:=false) (by simp [Act.eval,Act.put,Array.replicate]) ?_
 simp only [if_false,Bool.false_eq_true]
 refine wpS_of_wp (wp_skip ?_)
 show Code.wpS _ _ _ _ _ _
 apply wpS_region
 simp [wpOpsS,go_sem,h1,h2,World.cell?_setCell_other,World.frozen?_setCell,h3,h4,hne,Ne.symm hne,bodyPostS,results,Tryz.results106]
theorem catchS_r (pi pj:Addr) (w:World) :
  CallsD Tryz.prog 106 #[.pointer (some pi),.pointer (some pj)] .returning w fun e' u' w'=>e'=.returned (.tuple #[])∧u'=.returning∧w'=w:=by
 refine callsD_of_wpS Tryz.func106 rfl fun c₀ cs hu=>?_
 apply wpS_seq
 apply wpS_region
 simp [wpOpsS,go_sem,recoverD,hu,Tryz.ntmps106,Exit.thenS]
 apply wpS_seq
 apply wpS_region
 simp [wpOpsS,go_sem,Exit.thenS]
 refine wpS_cond (t:=false) (by simp [Act.eval,Array.replicate]) ?_
 simp only [if_false,Bool.false_eq_true]
 refine wpS_of_wp (wp_skip ?_)
 cases c₀
 simp_all [bodyPostS,results,Tryz.results106]
theorem adefS_r {i j:Nat}{h:AH}{R:AH→Prop}(hR:R h):ADef Tryz.prog 106 [.ptr i 0 0,.ptr j 0 0] none h R:=by
 intro w g vs hs hr
 simp only [RepL,Rep] at hr
 obtain ⟨u1,us1,e1,⟨b1,c1,l1,rfl⟩,u2,us2,rfl,⟨b2,c2,l2,rfl⟩,rfl⟩:=hr
 obtain rfl:vs = #[.pointer (some ⟨b1,0,none⟩),.pointer (some ⟨b2,0,none⟩)]:=by cases vs;simp_all
 refine (catchS_r _ _ w).mono ?_
 rintro e u' w' ⟨rfl,rfl,rfl⟩
 exact ⟨⟨_,rfl⟩,rfl,h,g,hs,Gh.le.refl g,Fr.refl _ _,fun k hk=>.inl hk,hR⟩
theorem ZoD {i j ti tj:Nat}{e:Int}{ci cj:AV}{h:AH}{R:AH→Prop}(hi:h[i]?=some (.mk 0 ti 1 [ci])) (hj:h[j]?=some (.mk 0 tj 1 [cj])) (hij:i≠j) (hR:R ((h.set i (.mk 0 ti 1 [.sl 0 1 false []])).set j (.mk 0 tj 1 [iv e]))) :
  ADef Tryz.prog 106 [.ptr i 0 0,.ptr j 0 0] (some (erA e)) h R:=by
 intro w g vs hs hr v hv
 simp only [RepL,Rep] at hr hv
 subst hv
 obtain ⟨u1,us1,e1,⟨b1,c1,l1,rfl⟩,u2,us2,rfl,⟨b2,c2,l2,rfl⟩,rfl⟩:=hr
 obtain rfl:vs = #[.pointer (some ⟨b1,0,none⟩),.pointer (some ⟨b2,0,none⟩)]:=by cases vs;simp_all
 obtain ⟨s1,n1,f1,o1⟩:=hs.store hi l1 (k:=0) (c:=.sl 0 1 false []) (u:=.slice none 0 0) (by simp) (by simp only [Rep];exact ⟨rfl,none,0,rfl,Nat.le_refl _,Nat.zero_le _,fun _=>rfl,fun _=>rfl,fun h=>absurd rfl h⟩)
 obtain ⟨_,n2,f2,o2⟩:=hs.store hj l2 (k:=0) (c:=iv e) (u:=.int .i64 e) (by simp) (by simp only [Rep])
 have hj':(h.set i (.mk 0 ti 1 ([ci].set 0 (.sl 0 1 false []))))[j]?=some (.mk 0 tj 1 [cj]):=by rw [List.getElem?_set_ne hij];exact hj
 obtain ⟨s2,_,_,_⟩:=s1.store hj' l2 (k:=0) (c:=iv e) (u:=.int .i64 e) (by simp) (by simp only [Rep])
 have hne:b1≠b2:=fun hb=>hij (hs.inj i j b1 o1 (hb ▸ o2))
 obtain ⟨x1,hx1⟩:=Option.ne_none_iff_exists'.1 n1
 obtain ⟨x2,hx2⟩:=Option.ne_none_iff_exists'.1 n2
 refine (catchS_p ⟨b1,0,none⟩ ⟨b2,0,none⟩ x1 x2 e w hx1 f1 hx2 f2 (by simpa using hne)).mono ?_
 rintro e' u' w' ⟨rfl,rfl,rfl⟩
 refine ⟨⟨_,rfl⟩,⟨_,rfl⟩,_,g,s2,Gh.le.refl g,⟨rfl,rfl,rfl,by simp [World.setCell],?_⟩,?_,hR⟩
 ·intro k hk ho
  rw [heap_setCell_other _ _ _ _ (fun e=>ho ⟨j,by simpa [e] using o2⟩),heap_setCell_other _ _ _ _ (fun e=>ho ⟨i,by simpa [e] using o1⟩)]
 rintro k ⟨m,v,ty,s,c,b,cap,q1,q2,q3,q4⟩
 refine .inl ?_
 by_cases hm:m=j
 ·subst hm
  rw [List.getElem?_set_self (by simpa using (List.getElem?_eq_some_iff.1 hj).1)] at q1
  cases q1
  exact ⟨m,_,_,_,_,b,cap,hj,q2,q3,q4⟩
 rw [List.getElem?_set_ne (Ne.symm hm)] at q1
 by_cases hm2:m=i
 ·subst hm2
  rw [List.getElem?_set_self (List.getElem?_eq_some_iff.1 hi).1] at q1
  cases q1
  exact ⟨m,_,_,_,_,b,cap,hi,q2,q3,q4⟩
 rw [List.getElem?_set_ne (Ne.symm hm2)] at q1
 exact ⟨m,v,ty,s,c,b,cap,q1,q2,q3,q4⟩
abbrev strC (s:ByteArray):List AV:=[sv s]
theorem Zbd {n:Nat}(l:List ByteArray):AV.ltL n (rows strC l)=true:=Zfz (fun _ _=>rfl) l
attribute [local simp] Zbd
theorem Za2 : ∀ x,(strC x).length=1:=fun _=>rfl
theorem ZdK (l:List ByteArray):(rows strC l).length=l.length*1:=Zbw Za2 l
theorem Zpt (l:List ByteArray):(rows strC l).all leaf=true:=Ziv (fun _=>rfl) l
def ZgT (m:Nat) (acc:List ByteArray) (l:Bs):List ByteArray×Int :=
  if ZeK l = true then
      match Zce l with
      | none=>([],1)
      | some x=>if 24<x.2.1∨12<acc.length+1 then ([],2) else Zgk m (acc++[cutF l x]) (l.drop x.2.2)
    else (acc,0)
theorem Ztv (m:Nat) (acc:List ByteArray) (l:Bs):Zgk (m+1) acc l=ZgT m acc (l.drop (Zdv l)):=rfl
theorem ZpA (l:Bs):Zdv l≤l.length:=by
 unfold Zdv
 exact (List.takeWhile_sublist _).length_le
theorem ZiW {l:Bs}{y:Nat×Nat×Nat}(h:Zce l=some y):(cutF l y).size=y.2.1:=by
 obtain ⟨h1,h2,h3⟩:=ZiP h
 unfold cutF
 rw [ZaQ,List.length_take,List.length_drop];omega
theorem Zls {m:Nat}{fs:List ByteArray}{l:Bs}(h:ZeK l=false):ZgT m fs l=(fs,0):=by rw [ZgT,if_neg (by simp [h])]
theorem ZdC {m:Nat}{fs:List ByteArray}{l:Bs}(h:ZeK l=true) (hf:Zce l=none):ZgT m fs l=([],1):=by rw [ZgT,if_pos h,hf]
theorem ZfS {m:Nat}{fs:List ByteArray}{l:Bs}{y:Nat×Nat×Nat}(h:ZeK l=true) (hf:Zce l=some y) (hm:24<y.2.1∨12<fs.length+1):ZgT m fs l=([],2):=by rw [ZgT,if_pos h,hf];exact if_pos hm
theorem fldsT_go {m:Nat}{fs:List ByteArray}{l:Bs}{y:Nat×Nat×Nat}(h:ZeK l=true) (hf:Zce l=some y) (hm:¬(24<y.2.1∨12<fs.length+1)):ZgT (m+1) fs l=ZgT m (fs++[cutF l y]) ((l.drop y.2.2).drop (Zdv (l.drop y.2.2))):=by rw [ZgT,if_pos h,hf];exact if_neg hm
theorem Zp2 {m k:Nat}{fs:List ByteArray}{l:Bs}{y:Nat×Nat×Nat}(h:ZeK (l.drop k)=true) (hf:Zce (l.drop k)=some y) (hm:¬(24<y.2.1∨12<fs.length+1)) :
  ZgT (m+1) fs (l.drop k)=ZgT m (fs++[cutF (l.drop k) y]) (l.drop (k+y.2.2+Zdv (l.drop (k+y.2.2)))):=by
 rw [fldsT_go h hf hm]
 simp only [List.drop_drop]
theorem ZsX {s:ByteArray}{h:AH}(hz:s.size≤8000):Ac 76 [sv s] h (.tup [.sl (ZcR (aB s)).1.length 1 false (rows strC (ZcR (aB s)).1),iv (ZcR (aB s)).2]):=by
 refine ACalls.gc_same (d76 ?_)
 intro N hn hlt hlA hbd
 try simp only [AV.bdL,AV.bd,and_true,true_and] at hbd
 refine E' (Zbq (hl0 hn) ha0) pt<|E' (Zbq (hl1 hn) ha1) pt<|Zas<|?_
 refine afterR0.mk (nb' rfl) pt mp (hl2 hn) (fun M hM=>?_)
 subst hM
 refine wr'<|mv' lk pt<|V' (ZaB (ZlU (cvl lk rfl) rfl)) pt<|E' (Zcm (cvl lk rfl) rfl (hl2 hn) ha2) pt<|mv' lk pt<|Zas<|?_
 refine ZbQ (ALe.own0Cell (st':=1) (ty:=9) (hga hn rfl) gt2 (hl3 hn) pt2 (Eq.trans (congrArg (fun z=>List.set z _ _) ha3) (hs2 hn))) ?_
 refine Zam<|wr'<|mv' lk pt<|?_
 refine ZaA mp (Zlh (fun _ _=>ZfA) (ZkZ _) (hga hn rfl) (by simp [AV.lt] <;> omega) (Nat.zero_le _) hz) (hs2 hn) pt ?_
 refine sn'<|Zao<|?_
 refine ZhD (ι:=Nat×List ByteArray×Nat×Nat) (fun (x_:Nat×List ByteArray×Nat×Nat)=>match x_ with | ⟨k,fs,v,m⟩=>[(5,.any)]++rn' 12 28) (fun (x_:Nat×List ByteArray×Nat×Nat)=>match x_ with | ⟨k,fs,v,m⟩=>[(2,.mk 0 141 3 [sv s,iv (k:Int),.own (N+3) v fs.length]),(3,.mk v 9 1 (rows strC fs))]) (fun (x_:Nat×List ByteArray×Nat×Nat)=>match x_ with | ⟨k,fs,v,m⟩=>k≤s.size∧fs.length+m=12∧ZcR (aB s)=ZgT m fs ((aB s).drop k)) (fun (x_:Nat×List ByteArray×Nat×Nat)=>match x_ with | ⟨k,fs,v,m⟩=>m) (⟨Zdv (aB s),[],0,12⟩) (by exact ⟨ZpA _,rfl,rfl⟩) (by try simp only [sm',Nat.reduceAdd];exact ALe.same wA' (by simp [rows])) ?_
 rintro ⟨k,fs,v,m⟩ hi1
 try simp only [sm',Nat.reduceAdd]
 obtain ⟨hi1,hi2,hi3⟩:=hi1
 refine Zam<|wr'<|mv' lk pt<|Zae mp (Zli (hga hn rfl) hi1) pt<|sn'<|?_
 refine Zaw lk (fun hc1=>?_) (fun hc1=>?_)
 ·have hm:=hc1;rw [Zci] at hm;simp only [Bool.and_eq_true,decide_eq_true_eq] at hm
  refine Zaf<|Zai<|Zam<|Zao<|wr'<|mv' lk pt<|?_
  by_cases hs10 : ∃ y,Zce ((aB s).drop k)=some y
  ·obtain ⟨y,hy⟩:=hs10
   have hle:=ZiP hy
   have hcs:=ZiW hy
   have hL:((aB s).drop k).length=s.size-k:=by rw [List.length_drop,Zbr]
   refine ZaA mp (Zs3 hy (hga hn rfl) (by simp [AV.lt] <;> omega) hm.1 hz) (hs2 hn) pt ?_
   refine mv' lk pt<|sn'<|wr'<|mv' lk pt<|mv' lk pt<|V' (ZaD lk) pt<|V' (Zaa lk) pt<|V' (Zac lk (hga hn rfl) gt2) pt<|mv' lk pt<|E' (Zeh (ZjF (cvl lk rfl) rfl) (hl4 hn) ha4) pt<|?_
   refine E' (Zej (Zc9 lk (hga hn rfl) rfl ZrL (nb' rfl)) lk (hga hn rfl) (ZdK _) (by omega) rfl (hs3 hn)) pt ?_
   refine V' (ZaD lk) pt<|V' (Zaa lk) pt<|E' (Zal lk (cvl lk rfl) (hga hn rfl) rfl (nb' rfl) rfl Zo9 (hs2 hn)) ptn<|sn'<|wr'<|mv' lk pt<|V' (Zbi lk) pt<|V' (ZbN lk lki) pt<|mv' lk pt<|?_
   refine sp' (t:=31) gt pt pt (fun hg31=>?_) (fun hg31=>?_)
   ·rw [hcs] at hg31;rw [ZfS hc1 hy (.inl (by omega))] at hi3
    refine s_no gt pt<|s_no gt pt<|s_no gt pt<|s_no gt pt<|s_no gt pt<|s_no gt pt<|V' (Zaj lk lkb) pt<|sn'<|ZaG lk<|Zar<|Zay mp (ZfP)<|ZcQ<|ZaS<|?_
    refine ZaS<|ZcQ<|ZaS<|?_
    refine Zib (ZoD (hga hn rfl) (hga hn rfl) (by omega) ?_)
    rw [hs0 hn,hs1 hn]
    exact ⟨_,rsn (rm1 (rr_c gt (hga hn rfl) (ld0 gt)) (rm1 (rr_c gt (hga hn rfl) (ld0 gt)) rm0)),_,rfl,rfl,by rw [hi3];rfl⟩
   rw [hcs] at hg31
   refine s_do gt<|mv' lk pt<|s_do gt<|V' (ZaD lk) pt<|s_do gt<|V' (Zaa lk) pt<|s_do gt<|V' (Zac lk (hga hn rfl) gt2) pt<|s_do gt<|V' (Zdr lk) pt<|s_do gt<|V' (ZbN lk lki) pt<|V' (Zah lk lk) pt<|Zas<|?_
   refine Zai ?_
   refine cd' lk (fun hc2=>?_) (fun hc2=>?_)
   ·rw [ZfS hc1 hy (.inr (by omega))] at hi3
    refine Zar<|Zay mp (ZfP)<|ZcQ<|ZaS<|ZaS<|ZcQ<|ZaS<|?_
    refine Zib (ZoD (hga hn rfl) (hga hn rfl) (by omega) ?_)
    rw [hs0 hn,hs1 hn]
    exact ⟨_,rsn (rm1 (rr_c gt (hga hn rfl) (ld0 gt)) (rm1 (rr_c gt (hga hn rfl) (ld0 gt)) rm0)),_,rfl,rfl,by rw [hi3];rfl⟩
   obtain ⟨m',rfl⟩ : ∃ m',m=m'+1:=⟨m-1,by omega⟩
   rw [Zp2 hc1 hy (by omega)] at hi3
   have hsk:=ZpA ((aB s).drop (k+y.2.2))
   rw [List.length_drop,Zbr] at hsk
   refine Zaf<|ZaF<|Zai<|Zar<|mv' lk pt<|?_
   refine ZaA mp (Zlh (fun _ _=>ZfA) (ZkZ _) (hga hn rfl) (by simp [AV.lt] <;> omega) (by omega) hz) (hs2 hn) pt ?_
   refine Zas<|ZaI<|?_
   refine lU' (⟨k+y.2.2+Zdv ((aB s).drop (k+y.2.2)),fs++[cutF ((aB s).drop k) y],v+1,m'⟩) (by (try dsimp only);exact ⟨by omega,by simp;omega,hi3⟩) (by (try dsimp only);(try simp only [sm',Nat.reduceAdd]);exact bk' 4 hn hlt (by simp only [Zbo,Zbv,strC,List.length_append,List.length_singleton];rfl)) (by exact Nat.lt_succ_self _)
  have hy:=ZaT hs10
  rw [ZdC hc1 hy] at hi3
  refine ZaP mp (Zs2 hy (hga hn rfl) (by simp [AV.lt] <;> omega) hm.1 hz) (fun hP_ hPp_=>?_)
  refine ZaS<|ZcQ<|ZaS<|ZaS<|ZcQ<|ZaS<|?_
  obtain ⟨m',rfl⟩:=hPp_
  rw [hs2 hn]
  refine Zib (ZoD (hga hn rfl) (hga hn rfl) (by omega) ?_)
  rw [hs0 hn,hs1 hn]
  exact ⟨_,rsn (rm1 (rr_c gt (hga hn rfl) (ld0 gt)) (rm1 (rr_c gt (hga hn rfl) (ld0 gt)) rm0)),_,rfl,rfl,by rw [hi3];rfl⟩
 rw [Zls hc1] at hi3
 refine Za0<|ZaO<|ZaO<|Zbp<|Zai<|wr'<|mv' lk pt<|V' (ZaD lk) pt<|V' (Zaa lk) pt<|V' (Zac lk (hga hn rfl) gt2) pt<|E' (Zal lk (cvl lk rfl) (hga hn rfl) rfl (nb' rfl) rfl Zjr (hs0 hn)) ptn<|E' (Zal lk (cvl lki rfl) (hga hn rfl) rfl (nb' rfl) rfl Zjr (hs1 hn)) ptn<|Zas<|?_
 refine ZbQ (ALe.iceCellR (hga hn rfl) (hga hn rfl) (by omega) gt0 (List.take_of_length_le (by rw [Zbw Za2];first | exact Nat.le_refl _ | omega)) (by rw [Zbw Za2];first | exact Nat.le_refl _ | omega) pt0 (hs3 hn) (hs0 hn)) ?_
 refine Zab ?_
 refine Zqb (adefS_r ⟨_,rsn (rm1 (rr_c gt (hga hn rfl) (ld0 gt)) (rm1 (rr_c gt (hga hn rfl) (ld0 gt)) rm0)),_,rfl,?_,?_⟩)
 simp [AE.lt,AV.lt,AV.ltL,Zbd]
 rw [hi3]
end Go.Proofs.YtgjchdhdopgkkaaGreatDoor
end
section
namespace Go.Proofs.YtgjchdhdopgkkaaGreatDoor
open Go.Ab
def cutC (x:UInt8):Bs→List Bs
 | []=>[[]]
 | c::l=>if c=x then []::cutC x l else match cutC x l with
  | []=>[[c]]
  | y::ys=>(c::y)::ys
theorem ZiX (x:UInt8) : ∀ l,cutC x l≠[]
 | []=>by simp [cutC]
 | c::l=>by
  unfold cutC
  split
  ·simp
  ·split <;> simp
theorem Zgb {x:UInt8} : ∀ {l:Bs},Lib.index l [x] = -1→cutC x l=[l]
 | [],_=>rfl
 | c::l,h=>by
  unfold Lib.index at h
  by_cases hc:x=c
  ·subst hc;simp at h
  ·have h0:[x].isPrefixOf (c::l)=false:=by simp [List.isPrefixOf,hc]
   rw [h0] at h
   simp only [Bool.false_eq_true,if_false] at h
   have hm:Lib.index l [x] = -1:=by
    by_cases e:Lib.index l [x] = -1
    ·exact e
    ·rw [if_neg (by simpa using e)] at h
     have:=Lib.index_ge l [x]
     omega
   rw [cutC,if_neg (Ne.symm hc),Zgb hm]
theorem Ze4 {x:UInt8} : ∀ {l:Bs}{i:Nat},Lib.index l [x]=i→cutC x l=l.take i::cutC x (l.drop (i+1))∧i<l.length∧l[i]?=some x
 | [],i,h=>by simp [Lib.index] at h
 | c::l,i,h=>by
  unfold Lib.index at h
  by_cases hc:x=c
  ·subst hc
   simp at h
   obtain rfl:i=0:=by omega
   simp [cutC]
  ·have h0:[x].isPrefixOf (c::l)=false:=by simp [List.isPrefixOf,hc]
   rw [h0] at h
   simp only [Bool.false_eq_true,if_false] at h
   have hge:=Lib.index_ge l [x]
   by_cases e:Lib.index l [x] = -1
   ·rw [if_pos (by simpa using e)] at h;omega
   ·rw [if_neg (by simpa using e)] at h
    obtain ⟨j,rfl⟩ : ∃ j,i=j+1:=⟨i-1,by omega⟩
    have hj:Lib.index l [x]=(j:Int):=by
     omega
    obtain ⟨h1,h2,h3⟩:=Ze4 hj
    refine ⟨?_,by simp;omega,by simpa using h3⟩
    rw [cutC,if_neg (Ne.symm hc),h1]
    rfl
theorem ZjP {x:UInt8} : ∀ (n:Nat) (l:Bs),l.length≤n→Lib.splitK [x] 0 (Lib.count l [x]) l=cutC x l
 | n,l,hn=>by
  rcases Lib.index_spec l [x] with ⟨h1,_⟩ | ⟨i,h1,h2,_⟩
  ·rw [Lib.count_miss h1,Zgb h1];rfl
  ·obtain ⟨e1,e2,_⟩:=Ze4 h1
   rw [Lib.count_hit (by simp) h1,Nat.add_comm 1,Lib.splitK]
   have:¬(Lib.index l [x] == -1)=true:=by rw [h1];simp
   rw [if_neg this,h1,e1]
   simp only [Int.toNat_natCast,Nat.add_zero,List.length_singleton]
   cases n with
   | zero=>omega
   | succ n=>rw [ZjP n _ (by rw [List.length_drop];omega)]
theorem ZjQ (x:UInt8) (s:ByteArray):Lib.splitB (bA [x]) 0 (Lib.countB s (bA [x])) s=(cutC x (aB s)).map bA:=by
 have h:=Lib.splitB_data (bA [x]) 0 (Lib.countB s (bA [x])) s
 rw [show (bA [x]).data.toList=[x] from rfl] at h
 have h2:=ZjP (x:=x) _ (aB s) (Nat.le_refl _)
 have h3:(Lib.splitB (bA [x]) 0 (Lib.countB s (bA [x])) s).map aB=cutC x (aB s):=h.trans h2
 rw [←h3,List.map_map]
 have:(bA ∘ aB)=id:=by funext z;rfl
 rw [this,List.map_id]
theorem ZqX (x:UInt8) (s:ByteArray):Lib.countB s (bA [x])+1=(cutC x (aB s)).length:=by
 have h:=Lib.splitB_all (bA [x]) (Nat.le_refl _) 0 _ s rfl
 rw [←h,ZjQ,List.length_map]
end Go.Proofs.YtgjchdhdopgkkaaGreatDoor
end
section
namespace Go.Ab
open Go.RowKit
section
variable {P : Program}
theorem ACalls.of_below {f:FuncId}{args:List AV}{h:AH}{c:AV}(he:enters P f=true)
  (hc : ∀ w g (vs:Array Value),SimH w g h→RepL w g args vs.toList→Calls P f vs w fun e w' => ∃ v,e=.returned v∧Below w.heap.size w w'∧Rep w' g c v):ACalls P f args h fun x h'=>h'=h∧x=.ret c:=by
 refine ⟨he,fun w g vs hs ha=>(hc w g vs hs ha).mono ?_⟩
 rintro e w' ⟨v,rfl,hb,hr⟩
 have hold : ∀ k,k<w.heap.size→w'.heap[k]?=w.heap[k]?:=fun k hk=>hb.block k hk
 have hs':SimH w' g h:=hs.world (fun k hk=>hold k (hk.elim (hs.lt k) (fun ho=>(hs.own_not_D ho).2))) hb.size
 exact ⟨.ret c,h,g,hr,hs',Gh.le.refl g,⟨hb.os,hb.tape,hb.output,hb.size,fun k hk _=>hold k hk⟩,fun k hk=>.inl hk,rfl,rfl⟩
theorem ACalls.of_newrow {f:FuncId}{args:List AV}{h:AH}{n st:Nat}{cs:List AV}(he:enters P f=true) (hcs:cs.length=n*st) (hleaf : ∀ w g w' g' us,RepL w g cs us→RepL w' g' cs us)
  (hc : ∀ w g (vs:Array Value),SimH w g h→RepL w g args vs.toList→Calls P f vs w fun e w' => ∃ b cap arr ty fr,e=.returned (.slice (some ⟨b,0,none⟩) n cap)∧n≤cap∧cap≤maxLen∧w.heap.size≤b∧w'.heap[b]?=some (.cells arr ty fr)∧Below w.heap.size w w'∧RepL w' g cs (arr.toList.take cs.length)) :
  ACalls P f args h fun x h'=>h'=h∧x=.ret (.sl n st false cs):=by
 refine ⟨he,fun w g vs hs ha=>(hc w g vs hs ha).mono ?_⟩
 rintro e w' ⟨b,cap,arr,ty,fr,rfl,h1,h2,h3,hb,hbw,hr⟩
 have hb':b<w'.heap.size:=(Array.getElem?_eq_some_iff.1 hb).1
 let g':Gh:=⟨fun k=>g.D k∨k=b,g.loc,g.df⟩
 have hle:g.le g':=⟨fun _ h=>.inl h,fun _ _ _ h=>h⟩
 have hold : ∀ k,k<w.heap.size→w'.heap[k]?=w.heap[k]?:=fun k hk=>hbw.block k hk
 have hs':SimH w' g' h:=by
  refine ⟨?_,fun i j k h1 h2=>hs.inj i j k h1 h2,?_,fun id ver l hl=>hs.fresh id ver l hl,fun id ver l hl=>hs.free id ver l hl,hs.glob.mono hle.D (fun k hk=>hold k (hs.lt k hk))⟩
  ·intro id ver ty st cells he
   obtain ⟨A0,cap0,f1,f2,f3⟩:=hs.ent id ver ty st cells he
   refine ⟨A0,cap0,f1,f2,f3.mono hle ?_ (fun k hk=>hold k (hs.lt k hk)) ?_⟩
   ·intro k hk h0 hd
    rcases hd with hd | rfl
    ·exact hd
    ·have:=(hs.own_not_D (k:=k) ⟨id,by
      obtain ⟨a0,ea,rfl⟩:=Option.map_eq_some_iff.1 hk
      exact ⟨ver,ty,st,cells,a0,cap0,he,by rw [f1,ea],h0,rfl⟩⟩).2
     omega
   ·intro k hk h0
    refine hold k (hs.own_not_D (k:=k) ⟨id,?_⟩).2
    obtain ⟨a0,ea,rfl⟩:=Option.map_eq_some_iff.1 hk
    exact ⟨ver,ty,st,cells,a0,cap0,he,by rw [f1,ea],h0,rfl⟩
  ·rintro k (hk | rfl)
   ·exact Nat.lt_of_lt_of_le (hs.lt k hk) hbw.size
   ·exact hb'
 refine ⟨.ret (.sl n st false cs),h,g',?_,hs',hle,⟨hbw.os,hbw.tape,hbw.output,hbw.size,fun k hk _=>hold k hk⟩,fun k hk=>.inl hk,rfl,rfl⟩
 simp only [EndR,Rep]
 refine ⟨hcs,_,_,rfl,h1,h2,(fun h=>by simp at h),(fun h=>by simp at h),fun _=>⟨b,0,rfl,.inr rfl,RepC.of_row hb _ 0 ?_⟩⟩
 rw [List.drop_zero]
 exact hleaf _ _ _ _ _ hr
theorem ZpH {α:Type}(f:α→Value) {w:World}{g:Gh} : ∀ {l:List α}{vs:List Value},RepL w g (rows (fun x=>[AV.v (f x)]) l) vs↔vs=l.map f
 | [],vs=>by simp [rows,RepL]
 | n::l,vs=>by
  rw [show rows (fun x=>[AV.v (f x)]) (n::l)=AV.v (f n)::rows (fun x=>[AV.v (f x)]) l from rfl]
  simp only [RepL,Rep,List.map_cons]
  constructor
  ·rintro ⟨u,us,rfl,rfl,h⟩
   rw [(ZpH f).1 h]
  ·rintro rfl
   exact ⟨_,_,rfl,rfl,(ZpH f).2 rfl⟩
end
end Go.Ab
end
section
namespace Go.Proofs
open Go.Shelf
def Tryz.lays156_ren:Go.Shelf.Ren:=⟨fun | 156=>64 | 165=>97 | 166=>61 | 169=>66 | 240=>95 | 241=>135 | 276=>133 | 277=>166 | n=>n,fun | 31=>65 | 9=>9 | 3=>3 | 4=>4 | 0=>0 | 20=>20 | 72=>102 | 76=>106 | 70=>99 | 37=>100 | 75=>105 | 127=>132 | 164=>156 | 5=>5 | 80=>91 | n=>n,fun | n=>n⟩
theorem Tryz.lays156:Go.Proofs.Lays.n156 Tryz.prog Tryz.lays156_ren:={
 mixed:=by kernel_rfl
 f156:=Tryz.func64.trans (congrArg some (by kernel_rfl))
 f165:=Tryz.func97.trans (congrArg some (by kernel_rfl))
 f166:=Tryz.func61.trans (congrArg some (by kernel_rfl))
 f169:=Tryz.func66.trans (congrArg some (by kernel_rfl))
 f240:=Tryz.func95.trans (congrArg some (by kernel_rfl))
 f241:=Tryz.func135.trans (congrArg some (by kernel_rfl))
 f276:=Tryz.func133.trans (congrArg some (by kernel_rfl))
 f277:=Tryz.func166.trans (congrArg some (by kernel_rfl))
 t0:=Tryz.underlying0
 a0:=Tryz.isAgg0
 z0:=Tryz.sizeOf0
 v0:=Tryz.zeroValue0
 t3:=Tryz.underlying3
 a3:=Tryz.isAgg3
 z3:=Tryz.sizeOf3
 v3:=Tryz.zeroValue3
 t4:=Tryz.underlying4
 a4:=Tryz.isAgg4
 z4:=Tryz.sizeOf4
 v4:=Tryz.zeroValue4
 t9:=Tryz.underlying9
 a9:=Tryz.isAgg9
 z9:=Tryz.sizeOf9
 v9:=Tryz.zeroValue9
 t20:=Tryz.underlying20
 a20:=Tryz.isAgg20
 z20:=Tryz.sizeOf20
 v20:=Tryz.zeroValue20
 t31:=Tryz.underlying65
 a31:=Tryz.isAgg65
 z31:=Tryz.sizeOf65
 v31:=Tryz.zeroValue65
 t37:=Tryz.underlying100
 a37:=Tryz.isAgg100
 z37:=Tryz.sizeOf100
 v37:=Tryz.zeroValue100
 t70:=Tryz.underlying99
 a70:=Tryz.isAgg99
 z70:=Tryz.sizeOf99
 v70:=Tryz.zeroValue99
 t72:=Tryz.underlying102
 a72:=Tryz.isAgg102
 z72:=Tryz.sizeOf102
 v72:=Tryz.zeroValue102
 t75:=Tryz.underlying105
 a75:=Tryz.isAgg105
 z75:=Tryz.sizeOf105
 v75:=Tryz.zeroValue105
 t76:=Tryz.underlying106
 a76:=Tryz.isAgg106
 z76:=Tryz.sizeOf106
 v76:=Tryz.zeroValue106
 t127:=Tryz.underlying132
 a127:=Tryz.isAgg132
 z127:=Tryz.sizeOf132
 v127:=Tryz.zeroValue132
 t164:=Tryz.underlying156
 a164:=Tryz.isAgg156
 z164:=Tryz.sizeOf156
 v164:=Tryz.zeroValue156 }
theorem Tryz.Builder_Extra_156:Builder.Extra Tryz.prog Tryz.lays156_ren:={
 sizeBuilder:=by kernel_rfl
 liesBuilder:=by kernel_rfl
 t5:=Tryz.underlying5
 a5:=Tryz.isAgg5
 z5:=Tryz.sizeOf5
 v5:=Tryz.zeroValue5
 infoByte:=by kernel_rfl
 cellsByte:=by kernel_rfl
 sizeByte:=by kernel_rfl
 neB5:=by decide }
open Go.RowKit in
theorem Tryz.strings_Join (bk o c:Nat) (xs:List ByteArray) (sep:ByteArray) (w:World) (hcells : ∀ (j:Nat) x,xs[j]?=some x→w.cell? ⟨bk,o+j,none⟩=some (.string x)) (hbk:bk<w.heap.size) (hN:xs.length≤140737488355328) (hcap:xs.length≤c) (hlen:(Lib.join (xs.map (·.data.toList)) sep.data.toList).length≤140737488355328) :
  Calls Tryz.prog 64 #[.slice (some ⟨bk,o,none⟩) xs.length c,.string sep] w fun e w'=>e=.returned (.string ⟨(Lib.join (xs.map (·.data.toList)) sep.data.toList).toArray⟩)∧Below w.heap.size w w':=Any.strings_Join Tryz.lays156 Tryz.Builder_Extra_156 bk o c xs sep w hcells hbk hN hcap hlen
def Tryz.lays137_ren:Go.Shelf.Ren:=⟨fun | 137=>120 | 217=>148 | 266=>177 | n=>n,fun | 9=>9 | 5=>5 | 3=>3 | n=>n,fun | n=>n⟩
theorem Tryz.lays137:Go.Proofs.Lays.n137 Tryz.prog Tryz.lays137_ren:={
 mixed:=by kernel_rfl
 f137:=Tryz.func120.trans (congrArg some (by kernel_rfl))
 f217:=Tryz.func148.trans (congrArg some (by kernel_rfl))
 f266:=Tryz.func177.trans (congrArg some (by kernel_rfl))
 t3:=Tryz.underlying3
 a3:=Tryz.isAgg3
 z3:=Tryz.sizeOf3
 v3:=Tryz.zeroValue3
 t5:=Tryz.underlying5
 a5:=Tryz.isAgg5
 z5:=Tryz.sizeOf5
 v5:=Tryz.zeroValue5
 t9:=Tryz.underlying9
 a9:=Tryz.isAgg9
 z9:=Tryz.sizeOf9
 v9:=Tryz.zeroValue9 }
open Go.RowKit in
theorem Tryz.strings_IndexByte (s:ByteArray) (c:Int) (w:World) :
  Calls Tryz.prog 120 #[.string s,.int .u8 c] w fun e w'=>e=.returned (.int .i64 (Lib.indexByte s.data.toList c.toNat.toUInt8))∧w'=w:=Any.strings_IndexByte Tryz.lays137 s c w
def Tryz.lays103_ren:Go.Shelf.Ren:=⟨fun | 103=>172 | 210=>189 | 206=>199 | n=>n,fun | 9=>9 | 4=>4 | 24=>175 | 3=>3 | n=>n,fun | n=>n⟩
theorem Tryz.lays103:Go.Proofs.Lays.n103 Tryz.prog Tryz.lays103_ren:={
 mixed:=by kernel_rfl
 f103:=Tryz.func172.trans (congrArg some (by kernel_rfl))
 f206:=Tryz.func199.trans (congrArg some (by kernel_rfl))
 f210:=Tryz.func189.trans (congrArg some (by kernel_rfl))
 t3:=Tryz.underlying3
 a3:=Tryz.isAgg3
 z3:=Tryz.sizeOf3
 v3:=Tryz.zeroValue3
 t4:=Tryz.underlying4
 a4:=Tryz.isAgg4
 z4:=Tryz.sizeOf4
 v4:=Tryz.zeroValue4
 t9:=Tryz.underlying9
 a9:=Tryz.isAgg9
 z9:=Tryz.sizeOf9
 v9:=Tryz.zeroValue9
 t24:=Tryz.underlying175
 a24:=Tryz.isAgg175
 z24:=Tryz.sizeOf175
 v24:=Tryz.zeroValue175 }
open Go.RowKit in
theorem Tryz.strings_CutPrefix (s p:ByteArray) (w:World) :
  Calls Tryz.prog 172 #[.string s,.string p] w fun e w'=>e=.returned (.tuple #[.string ⟨(Lib.trimPrefix s.data.toList p.data.toList).toArray⟩,.bool (Lib.hasPrefix s.data.toList p.data.toList)])∧w'=w:=Any.strings_CutPrefix Tryz.lays103 s p w
def Tryz.lays172_ren:Go.Shelf.Ren:=⟨fun | 172=>175 | 244=>190 | 245=>191 | 247=>200 | 279=>201 | 280=>202 | 281=>203 | 282=>204 | 287=>207 | 316=>208 | 171=>92 | 205=>209 | 321=>210 | 322=>211 | 243=>131 | 246=>161 | 283=>180 | 284=>181 | 285=>182 | 286=>183 | 129=>194 | 317=>193 | 318=>195 | 319=>196 | 320=>197 | 337=>205 | 338=>206 | n=>n,fun | 9=>9 | 3=>3 | 75=>105 | 76=>106 | 4=>4 | 5=>5 | 167=>204 | 37=>100 | 0=>0 | 85=>205 | 2=>2 | 168=>207 | 53=>184 | 175=>211 | 46=>190 | 210=>214 | 127=>132 | 145=>221 | 143=>219 | 21=>21 | 171=>183 | 173=>187 | 212=>194 | 51=>195 | 20=>20 | 213=>196 | 232=>216 | 233=>217 | 80=>91 | n=>n,fun | 15=>4 | 16=>5 | 17=>1 | 18=>6 | 19=>7 | n=>n⟩
theorem Tryz.lays172:Go.Proofs.Lays.n172 Tryz.prog Tryz.lays172_ren:={
 mixed:=by kernel_rfl
 f129:=Tryz.func194.trans (congrArg some (by kernel_rfl))
 f171:=Tryz.func92.trans (congrArg some (by kernel_rfl))
 f172:=Tryz.func175.trans (congrArg some (by kernel_rfl))
 f205:=Tryz.func209.trans (congrArg some (by kernel_rfl))
 f243:=Tryz.func131.trans (congrArg some (by kernel_rfl))
 f244:=Tryz.func190.trans (congrArg some (by kernel_rfl))
 f245:=Tryz.func191.trans (congrArg some (by kernel_rfl))
 f246:=Tryz.func161.trans (congrArg some (by kernel_rfl))
 f247:=Tryz.func200.trans (congrArg some (by kernel_rfl))
 f279:=Tryz.func201.trans (congrArg some (by kernel_rfl))
 f280:=Tryz.func202.trans (congrArg some (by kernel_rfl))
 f281:=Tryz.func203.trans (congrArg some (by kernel_rfl))
 f282:=Tryz.func204.trans (congrArg some (by kernel_rfl))
 f283:=Tryz.func180.trans (congrArg some (by kernel_rfl))
 f284:=Tryz.func181.trans (congrArg some (by kernel_rfl))
 f285:=Tryz.func182.trans (congrArg some (by kernel_rfl))
 f286:=Tryz.func183.trans (congrArg some (by kernel_rfl))
 f287:=Tryz.func207.trans (congrArg some (by kernel_rfl))
 f316:=Tryz.func208.trans (congrArg some (by kernel_rfl))
 f317:=Tryz.func193.trans (congrArg some (by kernel_rfl))
 f318:=Tryz.func195.trans (congrArg some (by kernel_rfl))
 f319:=Tryz.func196.trans (congrArg some (by kernel_rfl))
 f320:=Tryz.func197.trans (congrArg some (by kernel_rfl))
 f321:=Tryz.func210.trans (congrArg some (by kernel_rfl))
 f322:=Tryz.func211.trans (congrArg some (by kernel_rfl))
 f337:=Tryz.func205.trans (congrArg some (by kernel_rfl))
 f338:=Tryz.func206.trans (congrArg some (by kernel_rfl))
 t0:=Tryz.underlying0
 a0:=Tryz.isAgg0
 z0:=Tryz.sizeOf0
 v0:=Tryz.zeroValue0
 t2:=Tryz.underlying2
 a2:=Tryz.isAgg2
 z2:=Tryz.sizeOf2
 v2:=Tryz.zeroValue2
 t3:=Tryz.underlying3
 a3:=Tryz.isAgg3
 z3:=Tryz.sizeOf3
 v3:=Tryz.zeroValue3
 t4:=Tryz.underlying4
 a4:=Tryz.isAgg4
 z4:=Tryz.sizeOf4
 v4:=Tryz.zeroValue4
 t5:=Tryz.underlying5
 a5:=Tryz.isAgg5
 z5:=Tryz.sizeOf5
 v5:=Tryz.zeroValue5
 t9:=Tryz.underlying9
 a9:=Tryz.isAgg9
 z9:=Tryz.sizeOf9
 v9:=Tryz.zeroValue9
 t20:=Tryz.underlying20
 a20:=Tryz.isAgg20
 z20:=Tryz.sizeOf20
 v20:=Tryz.zeroValue20
 t21:=Tryz.underlying21
 a21:=Tryz.isAgg21
 z21:=Tryz.sizeOf21
 v21:=Tryz.zeroValue21
 t37:=Tryz.underlying100
 a37:=Tryz.isAgg100
 z37:=Tryz.sizeOf100
 v37:=Tryz.zeroValue100
 t46:=Tryz.underlying190
 a46:=Tryz.isAgg190
 z46:=Tryz.sizeOf190
 v46:=Tryz.zeroValue190
 t51:=Tryz.underlying195
 a51:=Tryz.isAgg195
 z51:=Tryz.sizeOf195
 v51:=Tryz.zeroValue195
 t53:=Tryz.underlying184
 a53:=Tryz.isAgg184
 z53:=Tryz.sizeOf184
 v53:=Tryz.zeroValue184
 t75:=Tryz.underlying105
 a75:=Tryz.isAgg105
 z75:=Tryz.sizeOf105
 v75:=Tryz.zeroValue105
 t76:=Tryz.underlying106
 a76:=Tryz.isAgg106
 z76:=Tryz.sizeOf106
 v76:=Tryz.zeroValue106
 t85:=Tryz.underlying205
 a85:=Tryz.isAgg205
 z85:=Tryz.sizeOf205
 v85:=Tryz.zeroValue205
 t127:=Tryz.underlying132
 a127:=Tryz.isAgg132
 z127:=Tryz.sizeOf132
 v127:=Tryz.zeroValue132
 t143:=Tryz.underlying219
 a143:=Tryz.isAgg219
 z143:=Tryz.sizeOf219
 v143:=Tryz.zeroValue219
 t145:=Tryz.underlying221
 a145:=Tryz.isAgg221
 z145:=Tryz.sizeOf221
 v145:=Tryz.zeroValue221
 t167:=Tryz.underlying204
 a167:=Tryz.isAgg204
 z167:=Tryz.sizeOf204
 v167:=Tryz.zeroValue204
 t168:=Tryz.underlying207
 a168:=Tryz.isAgg207
 z168:=Tryz.sizeOf207
 v168:=Tryz.zeroValue207
 t171:=Tryz.underlying183
 a171:=Tryz.isAgg183
 z171:=Tryz.sizeOf183
 v171:=Tryz.zeroValue183
 t173:=Tryz.underlying187
 a173:=Tryz.isAgg187
 z173:=Tryz.sizeOf187
 v173:=Tryz.zeroValue187
 t175:=Tryz.underlying211
 a175:=Tryz.isAgg211
 z175:=Tryz.sizeOf211
 v175:=Tryz.zeroValue211
 t210:=Tryz.underlying214
 a210:=Tryz.isAgg214
 z210:=Tryz.sizeOf214
 v210:=Tryz.zeroValue214
 t212:=Tryz.underlying194
 a212:=Tryz.isAgg194
 z212:=Tryz.sizeOf194
 v212:=Tryz.zeroValue194
 t213:=Tryz.underlying196
 a213:=Tryz.isAgg196
 z213:=Tryz.sizeOf196
 t232:=Tryz.underlying216
 a232:=Tryz.isAgg216
 z232:=Tryz.sizeOf216
 v232:=Tryz.zeroValue216
 t233:=Tryz.underlying217
 a233:=Tryz.isAgg217
 z233:=Tryz.sizeOf217
 v233:=Tryz.zeroValue217
 g15:=by kernel_rfl
 g16:=by kernel_rfl
 g17:=by kernel_rfl
 g18:=by kernel_rfl
 g19:=by kernel_rfl }
open Go.RowKit in
theorem Tryz.strconv_Atoi (s:ByteArray) (n:Int) (hl:s.size≤18) (h:Lib.atoi s.data.toList=some n) (w:World) :
  Calls Tryz.prog 175 #[.string s] w fun e w'=>e=.returned (.tuple #[.int .i64 n,.nilIface]) ∧ ∃ t,w'=Lib.bytesWorld w 5 t:=Any.strconv_Atoi Tryz.lays172 s n hl h w
def Tryz.laysM171_ren:Go.Shelf.Ren:=⟨fun | 171=>92 | 243=>131 | 246=>161 | 283=>180 | 284=>181 | 285=>182 | 286=>183 | 129=>194 | 317=>193 | 318=>195 | 319=>196 | 320=>197 | 337=>205 | 338=>206 | n=>n,fun | 3=>3 | 9=>9 | 2=>2 | 4=>4 | 171=>183 | 0=>0 | 53=>184 | 37=>100 | 5=>5 | 173=>187 | 212=>194 | 51=>195 | 20=>20 | 213=>196 | 46=>190 | 232=>216 | 233=>217 | n=>n,fun | 17=>1 | 18=>6 | 19=>7 | n=>n⟩
theorem Tryz.laysM171:Go.Proofs.LaysM.n171 Tryz.prog Tryz.laysM171_ren:={
 mixed:=by kernel_rfl
 f129:=Tryz.func194.trans (congrArg some (by kernel_rfl))
 f171:=Tryz.func92.trans (congrArg some (by kernel_rfl))
 f243:=Tryz.func131.trans (congrArg some (by kernel_rfl))
 f246:=Tryz.func161.trans (congrArg some (by kernel_rfl))
 f283:=Tryz.func180.trans (congrArg some (by kernel_rfl))
 f284:=Tryz.func181.trans (congrArg some (by kernel_rfl))
 f285:=Tryz.func182.trans (congrArg some (by kernel_rfl))
 f286:=Tryz.func183.trans (congrArg some (by kernel_rfl))
 f317:=Tryz.func193.trans (congrArg some (by kernel_rfl))
 f318:=Tryz.func195.trans (congrArg some (by kernel_rfl))
 f319:=Tryz.func196.trans (congrArg some (by kernel_rfl))
 f320:=Tryz.func197.trans (congrArg some (by kernel_rfl))
 f337:=Tryz.func205.trans (congrArg some (by kernel_rfl))
 f338:=Tryz.func206.trans (congrArg some (by kernel_rfl))
 t0:=Tryz.underlying0
 a0:=Tryz.isAgg0
 z0:=Tryz.sizeOf0
 v0:=Tryz.zeroValue0
 t2:=Tryz.underlying2
 a2:=Tryz.isAgg2
 z2:=Tryz.sizeOf2
 v2:=Tryz.zeroValue2
 t3:=Tryz.underlying3
 a3:=Tryz.isAgg3
 z3:=Tryz.sizeOf3
 v3:=Tryz.zeroValue3
 t4:=Tryz.underlying4
 a4:=Tryz.isAgg4
 z4:=Tryz.sizeOf4
 v4:=Tryz.zeroValue4
 t5:=Tryz.underlying5
 a5:=Tryz.isAgg5
 z5:=Tryz.sizeOf5
 v5:=Tryz.zeroValue5
 t9:=Tryz.underlying9
 a9:=Tryz.isAgg9
 z9:=Tryz.sizeOf9
 v9:=Tryz.zeroValue9
 t20:=Tryz.underlying20
 a20:=Tryz.isAgg20
 z20:=Tryz.sizeOf20
 v20:=Tryz.zeroValue20
 t37:=Tryz.underlying100
 a37:=Tryz.isAgg100
 z37:=Tryz.sizeOf100
 v37:=Tryz.zeroValue100
 t46:=Tryz.underlying190
 a46:=Tryz.isAgg190
 z46:=Tryz.sizeOf190
 v46:=Tryz.zeroValue190
 t51:=Tryz.underlying195
 a51:=Tryz.isAgg195
 z51:=Tryz.sizeOf195
 v51:=Tryz.zeroValue195
 t53:=Tryz.underlying184
 a53:=Tryz.isAgg184
 z53:=Tryz.sizeOf184
 v53:=Tryz.zeroValue184
 t171:=Tryz.underlying183
 a171:=Tryz.isAgg183
 z171:=Tryz.sizeOf183
 v171:=Tryz.zeroValue183
 t173:=Tryz.underlying187
 a173:=Tryz.isAgg187
 z173:=Tryz.sizeOf187
 v173:=Tryz.zeroValue187
 t212:=Tryz.underlying194
 a212:=Tryz.isAgg194
 z212:=Tryz.sizeOf194
 v212:=Tryz.zeroValue194
 t213:=Tryz.underlying196
 a213:=Tryz.isAgg196
 z213:=Tryz.sizeOf196
 t232:=Tryz.underlying216
 a232:=Tryz.isAgg216
 z232:=Tryz.sizeOf216
 v232:=Tryz.zeroValue216
 t233:=Tryz.underlying217
 a233:=Tryz.isAgg217
 z233:=Tryz.sizeOf217
 v233:=Tryz.zeroValue217
 g17:=by kernel_rfl
 g18:=by kernel_rfl
 g19:=by kernel_rfl
 i0:=by kernel_rfl
 i2:=by kernel_rfl
 i3:=by kernel_rfl
 i4:=by kernel_rfl
 i5:=by kernel_rfl
 i9:=by kernel_rfl
 i20:=by kernel_rfl
 i37:=by kernel_rfl
 i46:=by kernel_rfl
 i51:=by kernel_rfl
 i53:=by kernel_rfl
 i171:=by kernel_rfl
 i173:=by kernel_rfl
 i212:=by kernel_rfl
 i232:=by kernel_rfl
 i233:=by kernel_rfl
 m17:=by kernel_rfl
 m18:=by kernel_rfl
 m19:=by kernel_rfl }
open Go.RowKit Go.Sort Go.Lib in
theorem Tryz.strconv_Itoa (n:Int) (h0 : -9223372036854775808≤n) (h1:n≤9223372036854775807) (w:World) (htab:Lib.TabIs Tryz.prog w "internal/strconv.uint64pow10" .u64 Lib.pow10Tab) :
  Calls Tryz.prog 92 #[.int .i64 n] w fun e w'=>e=.returned (.string ⟨(Lib.itoa n).toArray⟩) ∧ ∃ k os,w'=grow (w.drewN k) os:=Any.strconv_Itoa Tryz.laysM171 n h0 h1 w htab
def Tryz.lays145_ren:Go.Shelf.Ren:=⟨fun | 145=>158 | 220=>178 | 219=>170 | 217=>148 | 225=>186 | 224=>185 | 267=>188 | 266=>177 | 314=>198 | n=>n,fun | 9=>9 | 4=>4 | 59=>164 | 3=>3 | 5=>5 | 46=>190 | 146=>202 | 51=>195 | n=>n,fun | 1=>0 | n=>n⟩
theorem Tryz.lays145:Go.Proofs.Lays.n145 Tryz.prog Tryz.lays145_ren:={
 mixed:=by kernel_rfl
 f145:=Tryz.func158.trans (congrArg some (by kernel_rfl))
 f217:=Tryz.func148.trans (congrArg some (by kernel_rfl))
 f219:=Tryz.func170.trans (congrArg some (by kernel_rfl))
 f220:=Tryz.func178.trans (congrArg some (by kernel_rfl))
 f224:=Tryz.func185.trans (congrArg some (by kernel_rfl))
 f225:=Tryz.func186.trans (congrArg some (by kernel_rfl))
 f266:=Tryz.func177.trans (congrArg some (by kernel_rfl))
 f267:=Tryz.func188.trans (congrArg some (by kernel_rfl))
 f314:=Tryz.func198.trans (congrArg some (by kernel_rfl))
 t3:=Tryz.underlying3
 a3:=Tryz.isAgg3
 z3:=Tryz.sizeOf3
 v3:=Tryz.zeroValue3
 t4:=Tryz.underlying4
 a4:=Tryz.isAgg4
 z4:=Tryz.sizeOf4
 v4:=Tryz.zeroValue4
 t5:=Tryz.underlying5
 a5:=Tryz.isAgg5
 z5:=Tryz.sizeOf5
 v5:=Tryz.zeroValue5
 t9:=Tryz.underlying9
 a9:=Tryz.isAgg9
 z9:=Tryz.sizeOf9
 v9:=Tryz.zeroValue9
 t46:=Tryz.underlying190
 a46:=Tryz.isAgg190
 z46:=Tryz.sizeOf190
 v46:=Tryz.zeroValue190
 t51:=Tryz.underlying195
 a51:=Tryz.isAgg195
 z51:=Tryz.sizeOf195
 v51:=Tryz.zeroValue195
 t59:=Tryz.underlying164
 a59:=Tryz.isAgg164
 z59:=Tryz.sizeOf164
 v59:=Tryz.zeroValue164
 t146:=Tryz.underlying202
 a146:=Tryz.isAgg202
 z146:=Tryz.sizeOf202
 v146:=Tryz.zeroValue202
 g1:=by kernel_rfl }
open Go.RowKit Go.Lib in
theorem Tryz.strings_Cut (s sep:ByteArray) (m:Int) (w:World) (hs:s.size<4294967281) (hm:w.cell? ⟨0,0,none⟩=some (.int .i64 m)) :
  Calls Tryz.prog 158 #[.string s,.string sep] w fun e w'=>e=.returned (.tuple #[.string ⟨(Lib.cut s.data.toList sep.data.toList).1.toArray⟩,.string ⟨(Lib.cut s.data.toList sep.data.toList).2.1.toArray⟩,.bool (Lib.cut s.data.toList sep.data.toList).2.2]) ∧ ∃ n,w'=w.drewN n:=Any.strings_Cut Tryz.lays145 s sep m w hs hm
def Tryz.lays146_ren:Go.Shelf.Ren:=⟨fun | 146=>75 | 221=>105 | 268=>137 | 138=>138 | 143=>139 | 195=>167 | 197=>168 | 218=>169 | 219=>170 | 260=>187 | 217=>148 | 225=>186 | 224=>185 | 267=>188 | 266=>177 | 314=>198 | n=>n,fun | 9=>9 | 31=>65 | 3=>3 | 4=>4 | 0=>0 | 105=>173 | 21=>21 | 5=>5 | 46=>190 | 119=>198 | 139=>201 | 138=>200 | 146=>202 | 51=>195 | n=>n,fun | 1=>0 | 3=>2 | 4=>3 | n=>n⟩
theorem Tryz.lays146:Go.Proofs.Lays.n146 Tryz.prog Tryz.lays146_ren:={
 mixed:=by kernel_rfl
 f138:=Tryz.func138.trans (congrArg some (by kernel_rfl))
 f143:=Tryz.func139.trans (congrArg some (by kernel_rfl))
 f146:=Tryz.func75.trans (congrArg some (by kernel_rfl))
 f195:=Tryz.func167.trans (congrArg some (by kernel_rfl))
 f197:=Tryz.func168.trans (congrArg some (by kernel_rfl))
 f217:=Tryz.func148.trans (congrArg some (by kernel_rfl))
 f218:=Tryz.func169.trans (congrArg some (by kernel_rfl))
 f219:=Tryz.func170.trans (congrArg some (by kernel_rfl))
 f221:=Tryz.func105.trans (congrArg some (by kernel_rfl))
 f224:=Tryz.func185.trans (congrArg some (by kernel_rfl))
 f225:=Tryz.func186.trans (congrArg some (by kernel_rfl))
 f260:=Tryz.func187.trans (congrArg some (by kernel_rfl))
 f266:=Tryz.func177.trans (congrArg some (by kernel_rfl))
 f267:=Tryz.func188.trans (congrArg some (by kernel_rfl))
 f268:=Tryz.func137.trans (congrArg some (by kernel_rfl))
 f314:=Tryz.func198.trans (congrArg some (by kernel_rfl))
 t0:=Tryz.underlying0
 a0:=Tryz.isAgg0
 z0:=Tryz.sizeOf0
 v0:=Tryz.zeroValue0
 t3:=Tryz.underlying3
 a3:=Tryz.isAgg3
 z3:=Tryz.sizeOf3
 v3:=Tryz.zeroValue3
 t4:=Tryz.underlying4
 a4:=Tryz.isAgg4
 z4:=Tryz.sizeOf4
 v4:=Tryz.zeroValue4
 t5:=Tryz.underlying5
 a5:=Tryz.isAgg5
 z5:=Tryz.sizeOf5
 v5:=Tryz.zeroValue5
 t9:=Tryz.underlying9
 a9:=Tryz.isAgg9
 z9:=Tryz.sizeOf9
 v9:=Tryz.zeroValue9
 t21:=Tryz.underlying21
 a21:=Tryz.isAgg21
 z21:=Tryz.sizeOf21
 v21:=Tryz.zeroValue21
 t31:=Tryz.underlying65
 a31:=Tryz.isAgg65
 z31:=Tryz.sizeOf65
 v31:=Tryz.zeroValue65
 t46:=Tryz.underlying190
 a46:=Tryz.isAgg190
 z46:=Tryz.sizeOf190
 v46:=Tryz.zeroValue190
 t51:=Tryz.underlying195
 a51:=Tryz.isAgg195
 z51:=Tryz.sizeOf195
 v51:=Tryz.zeroValue195
 t105:=Tryz.underlying173
 a105:=Tryz.isAgg173
 z105:=Tryz.sizeOf173
 v105:=Tryz.zeroValue173
 t119:=Tryz.underlying198
 a119:=Tryz.isAgg198
 z119:=Tryz.sizeOf198
 t138:=Tryz.underlying200
 a138:=Tryz.isAgg200
 z138:=Tryz.sizeOf200
 v138:=Tryz.zeroValue200
 t139:=Tryz.underlying201
 a139:=Tryz.isAgg201
 z139:=Tryz.sizeOf201
 v139:=Tryz.zeroValue201
 t146:=Tryz.underlying202
 a146:=Tryz.isAgg202
 z146:=Tryz.sizeOf202
 v146:=Tryz.zeroValue202
 g1:=by kernel_rfl
 g3:=by kernel_rfl
 g4:=by kernel_rfl }
open Go.RowKit Go.Lib in
theorem Tryz.strings_Split (s sep:ByteArray) (m:Int) (w:World) (hs:s.size<4294967281) (hm:w.cell? ⟨0,0,none⟩=some (.int .i64 m)) (h1:1≤sep.size) :
  Calls Tryz.prog 75 #[.string s,.string sep] w fun e w' =>
   e=.returned (.slice (some ⟨w.heap.size,0,none⟩) (Lib.countB s sep+1) (Lib.countB s sep+1))∧w'=w.alloc (.cells ((Lib.splitB sep 0 (Lib.countB s sep) s).map Value.string).toArray 9):=Any.strings_Split Tryz.lays146 (by kernel_rfl) s sep m w hs hm h1
def Tryz.lays150_ren:Go.Shelf.Ren:=⟨fun | 150=>96 | 153=>134 | 152=>162 | 226=>163 | 227=>164 | 228=>165 | 137=>120 | 119=>184 | 224=>185 | 225=>186 | 217=>148 | 266=>177 | n=>n,fun | 9=>9 | 4=>4 | 3=>3 | 5=>5 | 21=>21 | 117=>170 | 116=>169 | 0=>0 | 46=>190 | 124=>191 | n=>n,fun | n=>n⟩
theorem Tryz.lays150:Go.Proofs.Lays.n150 Tryz.prog Tryz.lays150_ren:={
 mixed:=by kernel_rfl
 f119:=Tryz.func184.trans (congrArg some (by kernel_rfl))
 f137:=Tryz.func120.trans (congrArg some (by kernel_rfl))
 f150:=Tryz.func96.trans (congrArg some (by kernel_rfl))
 f152:=Tryz.func162.trans (congrArg some (by kernel_rfl))
 f153:=Tryz.func134.trans (congrArg some (by kernel_rfl))
 f217:=Tryz.func148.trans (congrArg some (by kernel_rfl))
 f224:=Tryz.func185.trans (congrArg some (by kernel_rfl))
 f225:=Tryz.func186.trans (congrArg some (by kernel_rfl))
 f226:=Tryz.func163.trans (congrArg some (by kernel_rfl))
 f227:=Tryz.func164.trans (congrArg some (by kernel_rfl))
 f228:=Tryz.func165.trans (congrArg some (by kernel_rfl))
 f266:=Tryz.func177.trans (congrArg some (by kernel_rfl))
 t0:=Tryz.underlying0
 a0:=Tryz.isAgg0
 z0:=Tryz.sizeOf0
 v0:=Tryz.zeroValue0
 t3:=Tryz.underlying3
 a3:=Tryz.isAgg3
 z3:=Tryz.sizeOf3
 v3:=Tryz.zeroValue3
 t4:=Tryz.underlying4
 a4:=Tryz.isAgg4
 z4:=Tryz.sizeOf4
 v4:=Tryz.zeroValue4
 t5:=Tryz.underlying5
 a5:=Tryz.isAgg5
 z5:=Tryz.sizeOf5
 v5:=Tryz.zeroValue5
 t9:=Tryz.underlying9
 a9:=Tryz.isAgg9
 z9:=Tryz.sizeOf9
 v9:=Tryz.zeroValue9
 t21:=Tryz.underlying21
 a21:=Tryz.isAgg21
 z21:=Tryz.sizeOf21
 v21:=Tryz.zeroValue21
 t46:=Tryz.underlying190
 a46:=Tryz.isAgg190
 z46:=Tryz.sizeOf190
 v46:=Tryz.zeroValue190
 t116:=Tryz.underlying169
 a116:=Tryz.isAgg169
 z116:=Tryz.sizeOf169
 t117:=Tryz.underlying170
 a117:=Tryz.isAgg170
 z117:=Tryz.sizeOf170
 v117:=Tryz.zeroValue170
 t124:=Tryz.underlying191
 a124:=Tryz.isAgg191
 z124:=Tryz.sizeOf191
 v124:=Tryz.zeroValue191 }
open Go.RowKit Go.Lib in
theorem Tryz.strings_ContainsAny (hv116 : ∀ w,(zeroValue 169).run Tryz.prog w=.ok (.agg (Array.replicate 256 (.bool false))) w) (s chars:ByteArray) (w:World) (hs:s.size<4294967281) (hcs:chars.size<4294967281) (has : ∀ (j:Nat) b,s.data.toList[j]?=some b→b.toNat<128) (hac : ∀ (j:Nat) b,chars.data.toList[j]?=some b→b.toNat<128) :
  Calls Tryz.prog 96 #[.string s,.string chars] w fun e w'=>e=.returned (.bool (Lib.containsAny s.data.toList chars.data.toList))∧Below w.heap.size w w':=Any.strings_ContainsAny Tryz.lays150 hv116 (by kernel_rfl) s chars w hs hcs has hac
end Go.Proofs
end
section
namespace Go.Proofs.YtgjchdhdopgkkaaGreatDoor
open Go.Ab Go.RowKit
attribute [local simp] Zbd
section
theorem ZjE {τ:Operand→AV}{y0 y1 y2:Operand}{x0_0 x1_0 x2_0:AV}(h0:Zap (τ y0)=some [x0_0]) (l0:[x0_0].all leaf=true) (h1:Zap (τ y1)=some [x1_0]) (l1:[x1_0].all leaf=true) (h2:Zap (τ y2)=some [x2_0]) (l2:[x2_0].all leaf=true):Zat τ [(0,1,y0),(1,1,y1),(2,1,y2)] [(.v (.int .i64 0)),(.v (.bool false)),(.sl 0 0 true [])]=some [x0_0,x1_0,x2_0]:=by
 simp only [Zat,h0,l0,h1,l1,h2,l2]
 rfl
theorem ZjD {τ:Operand→AV}{y0:Operand}{x0_0 x0_1 x0_2:AV}(h0:Zap (τ y0)=some [x0_0,x0_1,x0_2]) (l0:[x0_0,x0_1,x0_2].all leaf=true):Zat τ [(0,3,y0)] [(.v (.int .i64 0)),(.v (.bool false)),(.sl 0 0 true [])]=some [x0_0,x0_1,x0_2]:=by
 simp only [Zat,h0,l0]
 rfl
theorem ZrK {a0 a1 a2:AV}{l:List AV}:(a0::a1::a2::l).take 3=[a0,a1,a2]:=rfl
end
def c39:AC:=(Sr [Oo 2 (.mv (.const (.slice none 0 0))),Mc 3 0,Mc 4 0] (.seq (Sr [Mv 10 0,Oo 11 (.len true (.tmp 10)),Bc 12 .gtr 11 8000] (Cd 12 (Sr [Oo 2 (.mv (.const (.slice none 0 0))),Mc 3 0,Mc 4 2] .ret) .skip)) (Sr [Oo 5 (.mv (.const (.slice none 0 0)))] (.seq (Sr [Mv 13 0,Oo 14 (.call (.func 75) [(.tmp 13),(.const (.string ⟨#[10]⟩))]),Oo 15 (.len false (.tmp 14)),Mc 16 0] (.block 0 (.loop (Sr [Bn 17 .lss 16 15] (.seq (Cd 17 .skip (.exit 0)) (.seq (.block 1 (Sr [Mv 18 16,Oo 19 (.ia 1 (.tmp 14) (.tmp 16)),Ld 20 19,Mv 6 18,Mv 7 20] (Sr [Mv 22 7,Cl 23 76 [(.tmp 22)],Mv 21 23,Ex 24 21 0,Ex 25 21 1,Mv 8 24,Mv 9 25] (.seq (Sr [Mv 26 9,Bc 27 .neq 26 0] (Cd 27 (Sr [Mv 28 6,Bc 29 .add 28 1,Mv 30 9,Oo 2 (.mv (.const (.slice none 0 0))),Mv 3 29,Mv 4 30] .ret) .skip)) (Sr [Mv 31 8,Oo 32 (.len false (.tmp 31)),Bc 33 .gtr 32 0] (Cd 33 (.reg [Mv 34 5,Mv 35 6,Bc 36 .add 35 1,Mv 37 7,Oo 38 (.ix (.tmp 37) (Ci 0)),Cl 39 77 [(.tmp 38)],Mv 40 8,Oo 41 (.build [(iv 0),(.v (.bool false)),(.sl 0 0 true [])] [(0,(1,(.tmp 36))),(1,(1,(.tmp 39))),(2,(1,(.tmp 40)))]),Oo 42 (.lit 67 3 1 [(iv 0),(.v (.bool false)),(.sl 0 0 true [])] [(0,(3,(.tmp 41)))]),Oo 43 (.app 67 3 40 (.tmp 34) (.tmp 42)),Mv 5 43]) .skip)))))) (.reg [Bc 44 .add 16 1,Mv 16 44]))))))) (.seq (Sr [Mv 45 5,Oo 46 (.len false (.tmp 45)),Bc 47 .gtr 46 200] (Cd 47 (Sr [Oo 2 (.mv (.const (.slice none 0 0))),Mc 3 0,Mc 4 2] .ret) .skip)) (Sr [Mv 48 5,Mv 2 48,Mc 3 0,Mc 4 0] .ret))))))
theorem k39:ZaH Tryz.prog 39=some ⟨c39,[(.tmp 2),(.tmp 3),(.tmp 4)],49⟩:=by kernel_rfl
theorem Zh5 {w:World}{g:Gh}{l:List ByteArray}{vs:List Value}:RepL w g (rows strC l) vs↔vs=l.map Value.string:=ZpH Value.string
theorem ZgV (x:UInt8) : ∀ {l y:Bs},y∈cutC x l→y.length≤l.length
 | [],y,h=>by simp [cutC] at h;subst h;exact Nat.le_refl _
 | c::l,y,h=>by
  unfold cutC at h
  split at h
  ·rcases List.mem_cons.1 h with rfl | h
   ·simp
   have:=ZgV x h;simp;omega
  split at h
  ·rename_i he;exact absurd he (ZiX x l)
  rename_i z zs he
  rcases List.mem_cons.1 h with rfl | h
  ·have:=ZgV x (l:=l) (y:=z) (by rw [he];simp);simp;omega
  have:=ZgV x (l:=l) (y:=y) (by rw [he];simp [h]);simp;omega
theorem Zlx (x:UInt8) : ∀ l:Bs,(cutC x l).length≤l.length+1
 | []=>by simp [cutC]
 | c::l=>by
  have:=Zlx x l
  unfold cutC
  split
  ·simp;omega
  split
  ·simp
  rename_i he;rw [he] at this;simp at this ⊢;omega
theorem ZjN {s:ByteArray}{x:UInt8}{h:AH}(hz:s.size≤8000):ACalls Tryz.prog 75 [sv s,sv (bA [x])] h fun r h'=>h'=h∧r=.ret (.sl (cutC x (aB s)).length 1 false (rows strC ((cutC x (aB s)).map bA))):=by
 have hcl:=Zlx x (aB s)
 rw [Zbr] at hcl
 refine ACalls.of_newrow (by kernel_rfl) (by rw [ZdK,List.length_map]) (fun w g w' g' us h=>Zh5.2 (Zh5.1 h)) fun w g vs hs ha=>?_
 simp only [RepL,Rep] at ha
 obtain ⟨u1,us1,e1,rfl,u2,us2,rfl,rfl,rfl⟩:=ha
 obtain rfl:vs = #[.string s,.string (bA [x])]:=by cases vs;simp_all
 obtain ⟨m,hm⟩:=hs.glob.w.maxLen
 refine (Tryz.strings_Split s (bA [x]) m w (by omega) hm (Nat.le_refl _)).mono ?_
 rintro e w' ⟨rfl,rfl⟩
 have hcb:=ZqX x s
 refine ⟨w.heap.size,_,_,_,_,by rw [hcb],Nat.le_refl _,by unfold maxLen;omega,Nat.le_refl _,heap_alloc_new w _,(Below.refl _ w).alloc (Nat.le_refl _) _,?_⟩
 rw [ZdK,List.length_map,ZjQ,Nat.mul_one,←hcb]
 refine Zh5.2 ?_
 rw [List.take_of_length_le]
 rw [List.length_map,List.length_map,hcb];exact Nat.le_refl _
abbrev Ln:=Int×Bool×List ByteArray
abbrev lnC (x:Ln):List AV:=[iv x.1,bv x.2.1,.sl x.2.2.length 1 false (rows strC x.2.2)]
theorem Zdi {n:Nat}(l:List Ln):AV.ltL n (rows lnC l)=true:=Zfz (fun n x=>by simp [AV.ltL,AV.lt,Zbd]) l
attribute [local simp] Zdi
theorem Zbx : ∀ x,(lnC x).length=3:=fun _=>rfl
theorem Zga (l:List Ln):(rows lnC l).length=l.length*3:=Zbw Zbx l
def ZbW:Int→List Bs→List Ln→List Ln×Int×Int
 | _,[],acc=>(acc,0,0)
 | n,x::xs,acc=>if (ZcR x).2≠0 then ([],n,(ZcR x).2) else ZbW (n+1) xs (if (ZcR x).1=[] then acc else acc++[(n,blkN (ZgS x),(ZcR x).1)])
def ZbB (s:ByteArray):List Ln×Int×Int :=
 if 8000<s.size then ([],0,2) else
  if (ZbW 1 (cutC 10 (aB s)) []).2.2≠0 then ZbW 1 (cutC 10 (aB s)) [] else if 200<(ZbW 1 (cutC 10 (aB s)) []).1.length then ([],0,2) else ZbW 1 (cutC 10 (aB s)) []
theorem Zll {x:Bs}(h:(ZcR x).1≠[]):0<x.length:=by
 cases x with
 | nil=>exact absurd rfl h
 | cons c l=>simp
theorem Zs5 {s:ByteArray}{h:AH}:Ac 39 [sv s] h (.tup [.sl (ZbB s).1.length 3 false (rows lnC (ZbB s).1),iv (ZbB s).2.1,iv (ZbB s).2.2]):=by
 refine tW' k39 fun N hn hlt hlA hbd=>?_
 simp only [tb'] at hbd ⊢
 refine wr'<|mv' lkn pt<|mv' lki pt<|mv' lki pt<|sn'<|Zam<|wr'<|mv' lk pt<|V' (Zbi lk) pt<|V' (ZbN lk lki) pt<|Zas<|?_
 refine Zai ?_
 refine cd' lk (fun hc1=>?_) (fun hc1=>?_)
 ·have hS:ZbB s=([],0,2):=if_pos (by omega)
  refine wr'<|mv' lkn pt<|mv' lki pt<|mv' lki pt<|sn'<|Zab<|Zak<|Zag rx<|rtW'<|?_
  rw [hS];exact Wk.tup (wkw Wk.nilF (wk1 rfl (wk1 rfl wk0)))
 have hz:s.size≤8000:=by omega
 have hcl:=Zlx 10 (aB s)
 rw [Zbr] at hcl
 obtain ⟨L,hL⟩ : ∃ L,L=cutC 10 (aB s):=⟨_,rfl⟩
 have hS:ZbB s=if (ZbW 1 L []).2.2≠0 then ZbW 1 L [] else if 200<(ZbW 1 L []).1.length then ([],0,2) else ZbW 1 L []:=by rw [hL];exact if_neg (by omega)
 have hmem : ∀ y∈L,y.length≤8000:=fun y hy=>Nat.le_trans (ZgV 10 (hL ▸ hy)) hz
 rw [←hL] at hcl
 refine Zaf<|Zai<|wr'<|mv' lkn pt5<|Zas<|ZbQ (ALe.own0' (st':=3) (ty:=67) gt5 (hl0 hn) pt5 ha0)<|Zam<|wr'<|mv' lk0 pt13<|Zae (mp1 lk13 (mp1 lks mp0)) (ZjN (x:=10) hz) pt14<|?_
 rw [←hL]
 refine V' (ZaK lk) pt<|mv' lki pt<|sn'<|Zao<|?_
 refine w_lp (ι:=Nat×List Ln×Nat) (fun (x_:Nat×List Ln×Nat)=>match x_ with | ⟨k,acc,v⟩=>[(5,.own (N+0) v acc.length),(16,iv (k:Int))]++rn' 2 3++rn' 6 4++rn' 17 28) (fun (x_:Nat×List Ln×Nat)=>match x_ with | ⟨k,acc,v⟩=>[(0,.mk v 67 3 (rows lnC acc))]) (fun (x_:Nat×List Ln×Nat)=>match x_ with | ⟨k,acc,v⟩=>k≤L.length∧acc.length≤k∧ZbW 1 L []=ZbW ((k:Int)+1) (L.drop k) acc) (fun (x_:Nat×List Ln×Nat)=>match x_ with | ⟨k,acc,v⟩=>L.length-k) (⟨0,[],0⟩) (by exact ⟨Nat.zero_le _,Nat.le_refl _,rfl⟩) ?_
 rintro ⟨k,acc,v⟩ hi1
 try simp only [sm',Nat.reduceAdd]
 obtain ⟨hk1,hk2,hk3⟩:=hi1
 refine wr'<|V' (Zbu lk lk) pt<|sn'<|Zam<|?_
 refine cd' lk (fun hc2=>?_) (fun hc2=>?_)
 ·have hk:k<L.length:=by omega
  have hsz:=hmem _ (List.getElem_mem hk)
  rw [List.drop_eq_getElem_cons hk,ZbW] at hk3
  have hgm:(L.map bA)[k]'(by simpa using hk)=bA L[k]:=List.getElem_map _
  refine Zaf<|Zai<|Zam<|Zao<|wr'<|mv' lk pt<|?_
  refine V' (Zbg (l:=L.map bA) (k:=k) lk lk Za2 (nb' rfl) ro (by simpa using hk) (by simp) rfl) pt ?_
  refine V' (ZaZ lk gt) pt ?_
  rw [hgm]
  refine mv' lk pt<|mv' lk pt<|sn'<|wr'<|mv' lk pt<|Zae mp (ZsX (s:=bA L[k]) hsz) pt<|mv' lk pt<|?_
  rw [Zhw]
  refine V' (Zbb lk gt) pt<|V' (Zbb lk gt) pt<|mv' lk pt<|mv' lk pt<|sn'<|Zam<|wr'<|mv' lk pt<|V' (Za6 lk lki) pt<|sn'<|?_
  refine cd' lk (fun hc3=>?_) (fun hc3=>?_)
  ·have hc3':(ZcR L[k]).2≠0:=hc3
   rw [if_pos hc3'] at hk3
   rw [hk3,if_pos hc3'] at hS
   refine wr'<|mv' lk pt<|?_
   refine V' (ZaE lk lki (by omega) (by omega)) pt ?_
   refine mv' lk pt<|mv' lkn pt<|mv' lk pt<|mv' lk pt<|sn'<|Zab<|Zak<|Zaq<|Zak<|Zak<|Zaq<|Zak<|Zag rx<|?_
   refine rtW' ?_
   rw [hS];exact Wk.tup (wkw Wk.nilF (wk1 rfl (wk1 rfl wk0)))
  rw [if_neg hc3] at hk3
  refine Zaf<|Zai<|wr'<|mv' lk pt<|V' (ZaK lk) pt<|V' (ZbN lk lki) pt<|sn'<|?_
  refine cd' lk (fun hc4=>?_) (fun hc4=>?_)
  ·have hne:(ZcR L[k]).1≠[]:=fun e=>by rw [e] at hc4;simp at hc4
   have hp:=Zll hne
   rw [if_neg hne] at hk3
   refine Zar<|mv' lk pt<|mv' lk pt<|?_
   refine V' (ZaE lk lki (by omega) (by omega)) pt ?_
   refine mv' lk pt ?_
   refine V' (v_ix lk lki (by first | omega | (rw [ZaQ];omega)) (by first | omega | (rw [ZaQ];omega))) pt ?_
   refine Zae mp (ZfA) pt<|mv' lk pt<|V' (ZaB (ZjE (cvl lk rfl) rfl (cvl lk rfl) rfl (cvl lk rfl) rfl)) pt<|E' (Zeh (ZjD (cvl lk rfl) rfl) (hl1 hn) ha1) pt<|?_
   refine E' (Zej (Zc9 lk (hga hn rfl) rfl ZrK (nb' rfl)) lk (hga hn rfl) (Zga _) (by omega) rfl (hs0 hn)) pt ?_
   refine mv' lk pt<|Zas<|ZaF<|Zai<|Zar<|?_
   refine V' (ZaE lk lki (by omega) (by omega)) pt ?_
   refine mv' lk pt<|Zas<|ZaI<|?_
   refine lU' (⟨k+1,acc++[((k:Int)+1,blkN (ZgS L[k]),(ZcR L[k]).1)],v+1⟩) (by (try dsimp only);exact ⟨by omega,by simp;omega,by rw [hk3];congr 1⟩) (by (try dsimp only);(try simp only [sm',Nat.reduceAdd]);exact bkE' 1 hn hlt (by repeat (first | exact wk0 | refine wka ?_ | refine wk1 rfl ?_ | refine wk1 (by first | rfl | exact ivx (by omega) | (simp;done)) ?_)) (by simp only [Zbo,Zbv,lnC];rw [show ZgS L[k]=((Zaz (bA L[k]) 0).toNat:Int) from Zdq (s:=bA L[k]) (k:=0) hp];rfl))
  have hne:(ZcR L[k]).1=[]:=List.eq_nil_of_length_eq_zero (by omega)
  rw [if_pos hne] at hk3
  refine Zaf<|ZaF<|Zai<|Zar<|?_
  refine V' (ZaE lk lki (by omega) (by omega)) pt ?_
  refine mv' lk pt<|Zas<|ZaI<|?_
  refine lU' (⟨k+1,acc,v⟩) (by (try dsimp only);exact ⟨by omega,by omega,by rw [hk3];congr 1⟩) (by (try dsimp only);(try simp only [sm',Nat.reduceAdd]);exact ALe.same (by repeat (first | exact wk0 | refine wka ?_ | refine wk1 rfl ?_ | refine wk1 (by first | rfl | exact ivx (by omega) | (simp;done)) ?_)) rfl)
 have hkl:k=L.length:=by omega
 rw [List.drop_of_length_le (by omega),ZbW] at hk3
 rw [hk3,if_neg (by simp)] at hS
 refine Za0<|ZaO<|ZaO<|Zbp<|Zai<|Zam<|wr'<|mv' lk pt<|V' (Zdr lk) pt<|V' (ZbN lk lki) pt<|sn'<|?_
 refine cd' lk (fun hc5=>?_) (fun hc5=>?_)
 ·rw [if_pos (show 200<acc.length by omega)] at hS
  refine wr'<|mv' lkn pt<|mv' lki pt<|mv' lki pt<|sn'<|Zab<|Zak<|Zag rx<|rtW'<|?_
  rw [hS];exact Wk.tup (wkw Wk.nilF (wk1 rfl (wk1 rfl wk0)))
 rw [if_neg (show ¬200<acc.length by omega)] at hS
 refine Zaf<|Zai<|wr'<|mv' lk pt<|mv' lk pt<|mv' lki pt<|mv' lki pt<|Zas<|?_
 refine ZbQ (ALe.iceR (hga hn rfl) gt2 (List.take_of_length_le (by rw [Zga];exact Nat.le_refl _)) (by rw [Zga];exact Nat.le_refl _) pt2 (hs0 hn)) ?_
 refine Zab<|Zag rx<|rtW'<|?_
 rw [hS];exact Wk.refl _
end Go.Proofs.YtgjchdhdopgkkaaGreatDoor
end
section
namespace Go.Proofs.YtgjchdhdopgkkaaGreatDoor
open Go.Ab
attribute [local simp] Zbd
section
theorem Zhb {τ:Operand→AV}{y0:Operand}{x0_0:AV}(h0:Zap (τ y0)=some [x0_0]) (l0:[x0_0].all leaf=true):Zat τ [(0,1,y0)] [(.v (.string ⟨#[]⟩))]=some [x0_0]:=by
 simp only [Zat,h0,l0]
 rfl
theorem ZrI {a0:AV}{l:List AV}:(a0::l).take 1=[a0]:=rfl
end
def c68:AC:=(Sr [Mb 6 false] (Sr [Mv 7 0,Mv 8 1,Bn 9 .geq 7 8,Mv 10 9,Ot 11 10 (mt 0),Ot 12 10 (mt 2),Ot 13 10 (.bin .leq (.tmp 11) (.tmp 12)),Oo 14 (.pick (.tmp 10) (.tmp 13) (.const (.bool false))),Mv 6 14] .ret))
theorem k68:ZaH Tryz.prog 68=some ⟨c68,[(.tmp 6)],15⟩:=by kernel_rfl
def c28:AC:=(Sr [Mb 2 false] (Sr [Mv 3 0,Oo 4 (.bin .eql (.tmp 3) (.const (.int .u8 32))),Mv 5 4,Of 6 5 (mt 0),Of 7 5 (.bin .eql (.tmp 6) (.const (.int .u8 9))),Oo 8 (.pick (.tmp 5) (.const (.bool true)) (.tmp 7)),Mv 2 8] .ret))
theorem k28:ZaH Tryz.prog 28=some ⟨c28,[(.tmp 2)],9⟩:=by kernel_rfl
def c27:AC:=(Sr [Mb 2 false] (Sr [Mv 3 0,Oo 4 (.cvi .i64 (.tmp 3)),Cl 5 68 [(.tmp 4),(Ci 32),(Ci 126)],Mv 6 5,Of 7 6 (mt 0),Of 8 6 (.bin .eql (.tmp 7) (.const (.int .u8 9))),Oo 9 (.pick (.tmp 6) (.const (.bool true)) (.tmp 8)),Mv 2 9] .ret))
theorem k27:ZaH Tryz.prog 27=some ⟨c27,[(.tmp 2)],10⟩:=by kernel_rfl
def c86:AC:=(Sr [Oo 2 (.mv (.const (.slice none 0 0))),Mc 3 0] (Sr [Oo 4 (.mv (.const (.slice none 0 0)))] (Sr [Mc 5 0] (.block 0 (.loop (.block 1 (.seq (.block 2 (.loop (.seq (Sr [Mv 7 5,Mv 8 0,Oo 9 (.len true (.tmp 8)),Bn 10 .lss 7 9,Mv 11 10,Ot 12 11 (mt 0),Ot 13 11 (mt 5),Ot 14 11 (.ix (.tmp 12) (.tmp 13)),Ot 15 11 (.call (.func 28) [(.tmp 14)]),Oo 16 (.pick (.tmp 11) (.tmp 15) (.const (.bool false)))] (Cd 16 .skip (.exit 2))) (.block 3 (.reg [Mv 17 5,Bc 18 .add 17 1,Mv 5 18]))))) (.seq (Sr [Mv 19 5,Mv 20 0,Oo 21 (.len true (.tmp 20)),Bn 22 .eql 19 21,Mv 23 22,Of 24 23 (mt 0),Of 25 23 (mt 5),Of 26 23 (.ix (.tmp 24) (.tmp 25)),Of 27 23 (.bin .eql (.tmp 26) (.const (.int .u8 35))),Oo 28 (.pick (.tmp 23) (.const (.bool true)) (.tmp 27))] (Cd 28 (Sr [Mv 29 4,Mv 2 29,Mc 3 0] .ret) .skip)) (Sr [Ms 6] (.seq (Sr [Mv 30 0,Mv 31 5,Oo 32 (.ix (.tmp 30) (.tmp 31)),Oo 33 (.bin .eql (.tmp 32) (.const (.int .u8 34)))] (Cd 33 (Sr [Mv 34 5,Bc 35 .add 34 1,Mv 5 35] (.seq (.block 4 (.loop (.seq (Sr [Mv 36 5,Mv 37 0,Oo 38 (.len true (.tmp 37)),Bn 39 .lss 36 38,Mv 40 39,Ot 41 40 (mt 0),Ot 42 40 (mt 5),Ot 43 40 (.ix (.tmp 41) (.tmp 42)),Ot 44 40 (.bin .neq (.tmp 43) (.const (.int .u8 34))),Oo 45 (.pick (.tmp 40) (.tmp 44) (.const (.bool false)))] (Cd 45 .skip (.exit 4))) (.block 5 (.seq (Sr [Mv 46 0,Mv 47 5,Oo 48 (.ix (.tmp 46) (.tmp 47)),Cl 49 27 [(.tmp 48)],Oo 50 (.un .not (.tmp 49))] (Cd 50 (Sr [Oo 2 (.mv (.const (.slice none 0 0))),Mc 3 1] .ret) .skip)) (Sr [Mv 51 6,Mv 52 0,Mv 53 5,Mv 54 5,Bc 55 .add 54 1,Oo 56 (.sls (.tmp 52) (some (.tmp 53)) (some (.tmp 55))),Bn 57 .add 51 56,Mv 6 57] (.reg [Mv 58 5,Bc 59 .add 58 1,Mv 5 59]))))))) (.seq (Sr [Mv 60 5,Mv 61 0,Oo 62 (.len true (.tmp 61)),Bn 63 .eql 60 62] (Cd 63 (Sr [Oo 2 (.mv (.const (.slice none 0 0))),Mc 3 1] .ret) .skip)) (Sr [Mv 64 5,Bc 65 .add 64 1,Mv 5 65] (Sr [Mv 66 5,Mv 67 0,Oo 68 (.len true (.tmp 67)),Bn 69 .lss 66 68,Mv 70 69,Ot 71 70 (mt 0),Ot 72 70 (mt 5),Ot 73 70 (.ix (.tmp 71) (.tmp 72)),Ot 74 70 (.call (.func 28) [(.tmp 73)]),Ot 75 70 (.un .not (.tmp 74)),Oo 76 (.pick (.tmp 70) (.tmp 75) (.const (.bool false))),Mv 77 76,Ot 78 77 (mt 0),Ot 79 77 (mt 5),Ot 80 77 (.ix (.tmp 78) (.tmp 79)),Ot 81 77 (.bin .neq (.tmp 80) (.const (.int .u8 35))),Oo 82 (.pick (.tmp 77) (.tmp 81) (.const (.bool false)))] (Cd 82 (Sr [Oo 2 (.mv (.const (.slice none 0 0))),Mc 3 1] .ret) .skip)))))) (.block 6 (.loop (.seq (Sr [Mv 83 5,Mv 84 0,Oo 85 (.len true (.tmp 84)),Bn 86 .lss 83 85,Mv 87 86,Ot 88 87 (mt 0),Ot 89 87 (mt 5),Ot 90 87 (.ix (.tmp 88) (.tmp 89)),Ot 91 87 (.call (.func 28) [(.tmp 90)]),Ot 92 87 (.un .not (.tmp 91)),Oo 93 (.pick (.tmp 87) (.tmp 92) (.const (.bool false))),Mv 94 93,Ot 95 94 (mt 0),Ot 96 94 (mt 5),Ot 97 94 (.ix (.tmp 95) (.tmp 96)),Ot 98 94 (.bin .neq (.tmp 97) (.const (.int .u8 35))),Oo 99 (.pick (.tmp 94) (.tmp 98) (.const (.bool false)))] (Cd 99 .skip (.exit 6))) (.block 7 (.seq (Sr [Mv 100 0,Mv 101 5,Oo 102 (.ix (.tmp 100) (.tmp 101)),Cl 103 27 [(.tmp 102)],Oo 104 (.un .not (.tmp 103)),Mv 105 104,Of 106 105 (mt 0),Of 107 105 (mt 5),Of 108 105 (.ix (.tmp 106) (.tmp 107)),Of 109 105 (.bin .eql (.tmp 108) (.const (.int .u8 34))),Oo 110 (.pick (.tmp 105) (.const (.bool true)) (.tmp 109))] (Cd 110 (Sr [Oo 2 (.mv (.const (.slice none 0 0))),Mc 3 1] .ret) .skip)) (Sr [Mv 111 6,Mv 112 0,Mv 113 5,Mv 114 5,Bc 115 .add 114 1,Oo 116 (.sls (.tmp 112) (some (.tmp 113)) (some (.tmp 115))),Bn 117 .add 111 116,Mv 6 117] (.reg [Mv 118 5,Bc 119 .add 118 1,Mv 5 119]))))))))) (Sr [Mv 120 4,Mv 121 6,Oo 122 (.lit 9 1 1 [Ss] [(0,(1,(.tmp 121)))]),Oo 123 (.app 9 1 16 (.tmp 120) (.tmp 122)),Mv 4 123] (Sr [Mv 124 6,Oo 125 (.len true (.tmp 124)),Bc 126 .gtr 125 24,Mv 127 126,Of 128 127 (mt 4),Of 129 127 (.len false (.tmp 128)),Of 130 127 (.bin .gtr (.tmp 129) (Ci 12)),Oo 131 (.pick (.tmp 127) (.const (.bool true)) (.tmp 130))] (Cd 131 (Sr [Oo 2 (.mv (.const (.slice none 0 0))),Mc 3 2] .ret) .skip)))))))))))))
theorem k86:ZaH Tryz.prog 86=some ⟨c86,[(.tmp 2),(.tmp 3)],132⟩:=by kernel_rfl
theorem Zbe {n a b:Int}{h:AH}:Ac 68 [iv n,iv a,iv b] h (bv (wi n a b)):=by
 refine tI' k68 fun N hn hlt hlA hbd=>?_
 simp only [tb'] at hbd ⊢
 refine wr'<|mv' lkb pt<|sn'<|wr'<|mv' lk pt<|mv' lk pt<|V' (Zie lk lk) pt<|mv' lk pt<|?_
 refine sp' (t:=10) gt pt pt (fun hg10=>?_) (fun hg10=>?_)
 ·refine s_do gt<|mv' lk pt<|s_do gt<|mv' lk pt<|s_do gt<|V' (ZeT lk lk) pt<|V' (Zaj lk lk) pt<|mv' lk pt<|sn'<|Zab<|Zag rz<|rT'<|?_
  refine bvx ?_;unfold wi;rw [Bool.eq_iff_iff];simp;omega
 refine s_no gt pt<|s_no gt pt<|s_no gt pt<|V' (Zah lk lkb) pt<|mv' lk pt<|sn'<|Zab<|Zag rz<|rT'<|?_
 refine bvx ?_;unfold wi;rw [Bool.eq_iff_iff];simp;omega
theorem Zd1 {n:Int}{h:AH}:Ac 28 [u8v n] h (bv (blkN n)):=by
 refine tI' k28 fun N hn hlt hlA hbd=>?_
 simp only [tb'] at hbd ⊢
 refine wr'<|mv' lkb pt<|sn'<|wr'<|mv' lk pt<|V' (ZaX lk lki) pt<|mv' lk pt<|?_
 refine sp' (t:=5) gt pt pt (fun hg5=>?_) (fun hg5=>?_)
 ·refine s_no gt pt<|s_no gt pt<|V' (Zaj lk lkb) pt<|mv' lk pt<|sn'<|Zab<|Zag rz<|rT'<|?_
  refine bvx ?_;unfold blkN;simp_all
 refine s_do gt<|mv' lk pt<|s_do gt<|V' (ZaX lk lki) pt<|V' (Zah lk lk) pt<|mv' lk pt<|sn'<|Zab<|Zag rz<|rT'<|?_
 refine bvx ?_;unfold blkN;simp_all
theorem ZjZ {c:UInt8}{h:AH}:Ac 27 [u8v c.toNat] h (bv (plnN c.toNat)):=by
 have hb:=byte_lt c
 refine tI' k27 fun N hn hlt hlA hbd=>?_
 simp only [tb'] at hbd ⊢
 refine wr'<|mv' lkb pt<|sn'<|wr'<|mv' lk pt<|?_
 refine V' (Zif lk (by omega) (by omega)) pt ?_
 refine Zae mp (Zbe) pt<|mv' lk pt<|?_
 refine ZaL (t:=6) gt pt pt (fun hg6=>?_) (fun hg6=>?_)
 ·refine s_no gt pt<|s_no gt pt<|V' (Zaj lk lkb) pt<|mv' lk pt<|sn'<|Zab<|Zag rz<|rT'<|?_
  refine bvx ?_;unfold wi at *;unfold plnN;first | (simp_all;done) | (simp_all;omega)
 refine s_do gt<|mv' lk pt<|s_do gt<|V' (ZaX lk lki) pt<|V' (Zah lk lk) pt<|mv' lk pt<|sn'<|Zab<|Zag rz<|rT'<|?_
 refine bvx ?_;unfold wi at *;unfold plnN;first | (simp_all;done) | (simp_all;omega)
theorem Zp6 {s:ByteArray}{a n:Nat}(h:a+n<s.size):bA (((aB s).drop a).take n)++s.extract (a+n) (a+n+1)=bA (((aB s).drop a).take (n+1)):=by
 rw [Zet,Zdd,Nat.add_sub_cancel_left,List.take_add,List.drop_drop]
theorem Zsl {s:ByteArray}{k:Nat}(h:s.size≤k):Zdv ((aB s).drop k)=0:=by rw [Zkk h];rfl
theorem Zqy {s:ByteArray}{k:Nat}(h:k<s.size) (hp:blkN (Zaz s k).toNat=false):Zdv ((aB s).drop k)=0:=by
 rw [ZdO h];simp [Zdv,List.takeWhile_cons,hp]
theorem skipN_go {s:ByteArray}{k:Nat}(h:k<s.size) (hp:blkN (Zaz s k).toNat=true):Zdv ((aB s).drop k)=Zdv ((aB s).drop (k+1))+1:=by
 rw [ZdO h];simp [Zdv,List.takeWhile_cons,hp]
theorem Zoo {n:Int}(h1:blkN n=false) (h2:n≠35) (h3:n≠34):fldP n=true:=by unfold fldP;simp [h1,h2,h3]
theorem Ziy {s:ByteArray}{h:AH}(hz:s.size≤8000):Ac 86 [sv s] h (.tup [.sl (ZcR (aB s)).1.length 1 false (rows strC (ZcR (aB s)).1),iv (ZcR (aB s)).2]):=by
 refine tW' k86 fun N hn hlt hlA hbd=>?_
 simp only [tb'] at hbd ⊢
 refine wr'<|mv' lkn pt2<|mv' lki pt3<|sn'<|wr'<|mv' lkn pt4<|Zas<|ZbQ (ALe.own0' (st':=1) (ty:=9) gt4 (hl0 hn) pt4 ha0)<|wr'<|mv' lki pt5<|?_
 refine sn'<|Zao<|?_
 refine w_lp (ι:=Nat×List ByteArray×Nat×Nat) (fun (x_:Nat×List ByteArray×Nat×Nat)=>match x_ with | ⟨k,fs,v,m⟩=>[(4,.own (N+0) v fs.length),(5,iv (k:Int)),(2,.any),(3,.any)]++rn' 6 126) (fun (x_:Nat×List ByteArray×Nat×Nat)=>match x_ with | ⟨k,fs,v,m⟩=>[(0,.mk v 9 1 (rows strC fs))]) (fun (x_:Nat×List ByteArray×Nat×Nat)=>match x_ with | ⟨k,fs,v,m⟩=>k≤s.size∧fs.length+m=12∧ZcR (aB s)=Zgk (m+1) fs ((aB s).drop k)) (fun (x_:Nat×List ByteArray×Nat×Nat)=>match x_ with | ⟨k,fs,v,m⟩=>m) (⟨0,[],0,12⟩) (by exact ⟨Nat.zero_le _,rfl,rfl⟩) ?_
 rintro ⟨k,fs,v,m⟩ hi1
 try simp only [sm',Nat.reduceAdd]
 obtain ⟨hi1,hi2,hi3⟩:=hi1
 rw [Ztv,List.drop_drop] at hi3
 refine Zao ?_
 refine Zfq (ι:=Nat) (fun (p:Nat)=>[(5,iv (p:Int))]++rn' 7 12) (fun (p:Nat)=>[]) (fun (p:Nat)=>p≤s.size∧ZcR (aB s)=ZgT m fs ((aB s).drop p)) ?_ ?_
 ·try simp only [sm',Nat.reduceAdd]
  refine Zao ?_
  refine w_lp (ι:=Nat) (fun (j:Nat)=>[(5,iv ((k+j:Nat):Int))]++rn' 7 12) (fun (j:Nat)=>[]) (fun (j:Nat)=>k+j≤s.size∧Zdv ((aB s).drop k)=Zdv ((aB s).drop (k+j))+j) (fun (j:Nat)=>s.size-(k+j)) (0) (by exact ⟨hi1,rfl⟩) ?_
  rintro j hi2
  try simp only [sm',Nat.reduceAdd]
  obtain ⟨hj1,hj2⟩:=hi2
  refine Zam<|wr'<|mv' lk pt<|mv' lk pt<|V' (Zbi lk) pt<|V' (Zbu lk lk) pt<|mv' lk pt<|?_
  refine sp' (t:=11) gt pt pt (fun hg11=>?_) (fun hg11=>?_)
  ·refine s_do gt<|mv' lk pt<|s_do gt<|mv' lk pt<|s_do gt<|?_
   refine V' (v_ix lk lk (by omega) (by omega)) pt ?_
   refine s_do gt<|Zae mp (Zd1) pt<|V' (Zaj lk lk) pt<|sn'<|?_
   refine Zaw lk (fun hc1=>?_) (fun hc1=>?_)
   ·have hG:=skipN_go (s:=s) (k:=k+j) (by omega) hc1
    rw [hG] at hj2
    refine Zaf<|Zai<|Zao<|Zar<|mv' lk pt<|?_
    refine V' (ZaE lk lki (by omega) (by omega)) pt ?_
    refine mv' lk pt<|Zas<|ZaF<|ZaI<|?_
    refine lT' (j+1) (by (try dsimp only);exact ⟨by omega,by rw [show k+(j+1)=k+j+1 from rfl];omega⟩)
   have hE:=Zqy (s:=s) (k:=k+j) (by omega) hc1
   rw [hE,Nat.zero_add] at hj2
   rw [hj2] at hi3
   refine Za0<|ZaO<|ZaO<|Zbp<|ZaI<|?_
   exact cT' (k+j) (by exact ⟨hj1,hi3⟩)
  have hE:=Zsl (s:=s) (k:=k+j) (by omega)
  rw [hE,Nat.zero_add] at hj2
  rw [hj2] at hi3
  refine s_no gt pt<|s_no gt pt<|s_no gt pt<|s_no gt pt<|V' (Zah lk lkb) pt<|sn'<|ZaY lk<|Za0<|ZaO<|ZaO<|Zbp<|ZaI<|?_
  exact cT' (k+j) (by exact ⟨hj1,hi3⟩)
 rintro p hq6
 try simp only [sm',Nat.reduceAdd]
 obtain ⟨hp1,hp2⟩:=hq6
 refine Zam<|wr'<|mv' lk pt<|mv' lk pt<|V' (Zbi lk) pt<|V' (ZaX lk lk) pt<|mv' lk pt<|?_
 refine sp' (t:=23) gt pt pt (fun hg23=>?_) (fun hg23=>?_)
 ·rw [Zls (by rw [Zci];simp;omega)] at hp2
  refine s_no gt pt<|s_no gt pt<|s_no gt pt<|s_no gt pt<|V' (Zaj lk lkb) pt<|sn'<|ZaG lk<|wr'<|mv' lk pt<|mv' lk pt<|mv' lki pt<|Zas<|?_
  refine ZbQ (ALe.iceR (hga hn rfl) gt2 (List.take_of_length_le (by rw [Zbw Za2];first | exact Nat.le_refl _ | omega)) (by rw [Zbw Za2];first | exact Nat.le_refl _ | omega) pt2 (hs0 hn)) ?_
  refine Zab<|Zak<|Zaq<|Zak<|Zaq<|Zag ry<|rtW'<|?_
  rw [hp2];exact Wk.tup (wkw (Wk.refl _) (wk1 rfl wk0))
 refine s_do gt<|mv' lk pt<|s_do gt<|mv' lk pt<|s_do gt<|?_
 refine V' (v_ix lk lk (by omega) (by omega)) pt ?_
 refine s_do gt<|V' (ZaX lk lki) pt<|V' (Zah lk lk) pt<|sn'<|?_
 refine cd' lk (fun hc2=>?_) (fun hc2=>?_)
 ·have hc2':((Zaz s p).toNat:Int)=35:=hc2
  rw [Zls (by rw [Zci];simp [hc2'])] at hp2
  refine wr'<|mv' lk pt<|mv' lk pt<|mv' lki pt<|Zas<|?_
  refine ZbQ (ALe.iceR (hga hn rfl) gt2 (List.take_of_length_le (by rw [Zbw Za2];first | exact Nat.le_refl _ | omega)) (by rw [Zbw Za2];first | exact Nat.le_refl _ | omega) pt2 (hs0 hn)) ?_
  refine Zab<|Zak<|Zaq<|Zak<|Zaq<|Zag ry<|rtW'<|?_
  rw [hp2];exact Wk.tup (wkw (Wk.refl _) (wk1 rfl wk0))
 have hps:p<s.size:=by omega
 have hc2':¬((Zaz s p).toNat:Int)=35:=hc2
 have hm:ZeK ((aB s).drop p)=true:=by rw [Zci];simp only [hps,hc2',decide_true,Bool.and_self,ne_eq,not_false_eq_true]
 refine Zaf<|Zai<|wr'<|mv' lks pt<|sn'<|?_
 refine Zfq (ι:=Nat×Nat×Nat) (fun (y:Nat×Nat×Nat)=>[(5,iv ((p+y.2.2:Nat):Int)),(6,sv (cutF ((aB s).drop p) y)),(2,.any),(3,.any)]++rn' 30 90) (fun (y:Nat×Nat×Nat)=>[]) (fun (y:Nat×Nat×Nat)=>Zce ((aB s).drop p)=some y) ?_ ?_
 ·try simp only [sm',Nat.reduceAdd]
  refine wr'<|mv' lk pt<|mv' lk pt<|?_
  refine V' (v_ix lk lk (by omega) (by omega)) pt ?_
  refine V' (ZaX lk lki) pt<|sn'<|?_
  refine cd' lk (fun hc3=>?_) (fun hc3=>?_)
  ·have hF:=Zp4 hps hc3
   refine wr'<|mv' lk pt<|?_
   refine V' (ZaE lk lki (by omega) (by omega)) pt ?_
   refine mv' lk pt<|sn'<|Zam<|Zao<|?_
   refine w_lp (ι:=Nat) (fun (n:Nat)=>[(5,iv ((p+1+n:Nat):Int)),(6,sv (bA (((aB s).drop (p+1)).take n))),(2,.any),(3,.any)]++rn' 36 24) (fun (n:Nat)=>[]) (fun (n:Nat)=>p+1+n≤s.size∧runL quoP ((aB s).drop (p+1))=(runL quoP ((aB s).drop (p+1+n))).map (· + n)) (fun (n:Nat)=>s.size-(p+1+n)) (0) (by exact ⟨by omega,by simp⟩) ?_
   rintro n hi3
   try simp only [sm',Nat.reduceAdd]
   obtain ⟨hn1,hn2⟩:=hi3
   refine Zam<|wr'<|mv' lk pt<|mv' lk pt<|V' (Zbi lk) pt<|V' (Zbu lk lk) pt<|mv' lk pt<|?_
   refine sp' (t:=40) gt pt pt (fun hg40=>?_) (fun hg40=>?_)
   ·refine s_do gt<|mv' lk pt<|s_do gt<|mv' lk pt<|s_do gt<|?_
    refine V' (v_ix lk lk (by omega) (by omega)) pt ?_
    refine s_do gt<|V' (Za6 lk lki) pt<|V' (Zaj lk lk) pt<|sn'<|?_
    refine cd' lk (fun hc4=>?_) (fun hc4=>?_)
    ·have hq:quoP (Zaz s (p+1+n)).toNat=true:=decide_eq_true hc4
     refine Zaf<|Zai<|Zao<|Zam<|wr'<|mv' lk pt<|mv' lk pt<|?_
     refine V' (v_ix lk lk (by omega) (by omega)) pt ?_
     refine Zae mp (ZjZ) pt<|V' (Zav lk) pt<|sn'<|?_
     refine Zaw lk (fun hc5=>?_) (fun hc5=>?_)
     ·rw [Zk0 (s:=s) (k:=p+1+n) (by omega) hq (by have:=hc5;rw [Bool.not_eq_true'] at this;exact this)] at hn2
      simp only [Option.map_none] at hn2
      rw [hn2] at hF
      rw [ZdC hm hF] at hp2
      refine wr'<|mv' lkn pt<|mv' lki pt<|sn'<|Zab<|Zak<|Zaq<|Zak<|Zaq<|Zak<|Zak<|Zaq<|?_
      refine Zak<|Zaq<|Zag ry<|rtW'<|?_
      rw [hp2];exact Wk.tup (wkw Wk.nilF (wk1 rfl wk0))
     rw [ZnT (s:=s) (k:=p+1+n) (by omega) hq (by have:=hc5;rw [Bool.not_eq_false'] at this;exact this)] at hn2
     have hsn:=Zp6 (s:=s) (a:=p+1) (n:=n) (by omega)
     refine Zaf<|Zai<|wr'<|mv' lk pt<|mv' lk pt<|mv' lk pt<|mv' lk pt<|?_
     refine V' (ZaE lk lki (by omega) (by omega)) pt ?_
     refine V' (Zd6 lk (oi lk) (oi lk) (by omega) (by omega) (by omega)) pt ?_
     refine V' (Zc8 lk lk (by first | omega | (rw [ZaQ,List.length_take,ByteArray.size_extract];omega))) pt ?_
     refine mv' lk pt<|sn'<|Zar<|mv' lk pt<|?_
     refine V' (ZaE lk lki (by omega) (by omega)) pt ?_
     refine mv' lk pt<|Zas<|ZaF<|ZaI<|?_
     refine lU' (n+1) (by (try dsimp only);exact ⟨by omega,by rw [hn2,Option.map_map];rw [show p+1+(n+1)=p+1+n+1 from rfl];congr 1;funext x;simp;omega⟩) (by (try dsimp only);(try simp only [sm',Nat.reduceAdd]);exact ALe.same (by repeat (first | exact wk0 | refine wka ?_ | refine wk1 rfl ?_ | refine wk1 (by first | rfl | exact ivx (by omega) | (exact congrArg sv hsn.symm)) ?_)) rfl)
    have hc4':((Zaz s (p+1+n)).toNat:Int)=34:=Decidable.of_not_not hc4
    rw [Zfy (s:=s) (k:=p+1+n) (by omega) (by rw [hc4'];decide)] at hn2
    simp only [Option.map_some,Nat.zero_add] at hn2
    rw [hn2] at hF
    simp only at hF
    refine Za0<|ZaO<|ZaO<|Zbp<|Zai<|Zam<|wr'<|mv' lk pt<|mv' lk pt<|V' (Zbi lk) pt<|V' (ZaX lk lk) pt<|sn'<|?_
    refine cd' lk (fun hc6=>?_) (fun hc6=>?_)
    ·rw [if_pos (by omega)] at hF
     rw [ZdC hm hF] at hp2
     refine wr'<|mv' lkn pt<|mv' lki pt<|sn'<|Zab<|Zak<|Zak<|Zaq<|Zak<|Zaq<|Zag ry<|rtW'<|?_
     rw [hp2];exact Wk.tup (wkw Wk.nilF (wk1 rfl wk0))
    rw [if_neg (by omega)] at hF
    refine Zaf<|Zai<|wr'<|mv' lk pt<|?_
    refine V' (ZaE lk lki (by omega) (by omega)) pt ?_
    refine mv' lk pt<|sn'<|?_
    rw [show (((p+1+n:Nat):Int)+1)=((p+n+2:Nat):Int) by omega]
    refine wr'<|mv' lk pt<|mv' lk pt<|V' (Zbi lk) pt<|V' (Zbu lk lk) pt<|mv' lk pt<|?_
    refine sp' (t:=70) gt pt pt (fun hg70=>?_) (fun hg70=>?_)
    ·refine s_do gt<|mv' lk pt<|s_do gt<|mv' lk pt<|s_do gt<|?_
     refine V' (v_ix lk lk (by omega) (by omega)) pt ?_
     refine s_do gt<|Zae mp (Zd1) pt<|s_do gt<|V' (Zav lk) pt<|V' (Zaj lk lk) pt<|mv' lk pt<|?_
     refine ZaL (t:=77) gt pt pt (fun hg77=>?_) (fun hg77=>?_)
     ·refine s_do gt<|mv' lk pt<|s_do gt<|mv' lk pt<|s_do gt<|?_
      refine V' (v_ix lk lk (by omega) (by omega)) pt ?_
      refine s_do gt<|V' (Za6 lk lki) pt<|V' (Zaj lk lk) pt<|sn'<|?_
      refine cd' lk (fun hc7=>?_) (fun hc7=>?_)
      ·have hb:blkN (Zaz s (p+n+2)).toNat=false:=by have:=hg77;rw [Bool.not_eq_true'] at this;exact this
       have hc7':((Zaz s (p+n+2)).toNat:Int)≠35:=hc7
       rw [if_pos ⟨by rw [Zci];simp only [show p+n+2<s.size by omega,hc7',decide_true,Bool.and_self,ne_eq,not_false_eq_true],by rw [Zdq (by omega),hb]⟩] at hF
       rw [ZdC hm hF] at hp2
       refine wr'<|mv' lkn pt<|mv' lki pt<|sn'<|Zab<|Zak<|Zaq<|Zak<|Zaq<|Zag ry<|rtW'<|?_
       rw [hp2];exact Wk.tup (wkw Wk.nilF (wk1 rfl wk0))
      have hc7':((Zaz s (p+n+2)).toNat:Int)=35:=Decidable.of_not_not hc7
      rw [if_neg (by rw [Zci];simp [hc7'])] at hF
      refine Zaf<|ZaI<|?_
      exact cT' ((1,n,n+2)) (by exact hF) (by (try dsimp only);(try simp only [sm',Nat.reduceAdd]);exact ALe.same (by repeat (first | exact wk0 | refine wka ?_ | refine wk1 rfl ?_ | refine wk1 (by first | rfl | exact ivx (by simp;omega) | (simp [cutF,List.drop_drop];done)) ?_)) rfl)
     have hb:blkN (Zaz s (p+n+2)).toNat=true:=by have:=hg77;rw [Bool.not_eq_false'] at this;exact this
     rw [if_neg (by rw [Zdq (by omega),hb];simp)] at hF
     refine s_no gt pt<|s_no gt pt<|s_no gt pt<|s_no gt pt<|V' (Zah lk lkb) pt<|sn'<|ZaY lk<|Zaf<|ZaI<|?_
     exact cT' ((1,n,n+2)) (by exact hF) (by (try dsimp only);(try simp only [sm',Nat.reduceAdd]);exact ALe.same (by repeat (first | exact wk0 | refine wka ?_ | refine wk1 rfl ?_ | refine wk1 (by first | rfl | exact ivx (by simp;omega) | (simp [cutF,List.drop_drop];done)) ?_)) rfl)
    rw [if_neg (by rw [Zci];simp;omega)] at hF
    refine s_no gt pt<|s_no gt pt<|s_no gt pt<|s_no gt pt<|s_no gt pt<|V' (Zah lk lkb) pt<|mv' lk pt<|s_no gt pt<|s_no gt pt<|s_no gt pt<|s_no gt pt<|V' (Zah lk lkb) pt<|sn'<|?_
    refine ZaY lk<|Zaf<|ZaI<|?_
    exact cT' ((1,n,n+2)) (by exact hF) (by (try dsimp only);(try simp only [sm',Nat.reduceAdd]);exact ALe.same (by repeat (first | exact wk0 | refine wka ?_ | refine wk1 rfl ?_ | refine wk1 (by first | rfl | exact ivx (by simp;omega) | (simp [cutF,List.drop_drop];done)) ?_)) rfl)
   rw [ZkY (s:=s) (k:=p+1+n) (by omega)] at hn2
   simp only [Option.map_some,Nat.zero_add] at hn2
   rw [hn2] at hF
   simp only at hF
   refine s_no gt pt<|s_no gt pt<|s_no gt pt<|s_no gt pt<|V' (Zah lk lkb) pt<|sn'<|ZaY lk<|Za0<|ZaO<|ZaO<|Zbp<|Zai<|Zam<|?_
   refine wr'<|mv' lk pt<|mv' lk pt<|V' (Zbi lk) pt<|V' (ZaX lk lk) pt<|sn'<|?_
   refine cd' lk (fun hc6=>?_) (fun hc6=>?_)
   ·rw [if_pos (by omega)] at hF
    rw [ZdC hm hF] at hp2
    refine wr'<|mv' lkn pt<|mv' lki pt<|sn'<|Zab<|Zak<|Zak<|Zaq<|Zak<|Zaq<|Zag ry<|rtW'<|?_
    rw [hp2];exact Wk.tup (wkw Wk.nilF (wk1 rfl wk0))
   rw [if_neg (by omega)] at hF
   refine Zaf<|Zai<|wr'<|mv' lk pt<|?_
   refine V' (ZaE lk lki (by omega) (by omega)) pt ?_
   refine mv' lk pt<|sn'<|?_
   rw [show (((p+1+n:Nat):Int)+1)=((p+n+2:Nat):Int) by omega]
   refine wr'<|mv' lk pt<|mv' lk pt<|V' (Zbi lk) pt<|V' (Zbu lk lk) pt<|mv' lk pt<|?_
   refine sp' (t:=70) gt pt pt (fun hg70=>?_) (fun hg70=>?_)
   ·refine s_do gt<|mv' lk pt<|s_do gt<|mv' lk pt<|s_do gt<|?_
    refine V' (v_ix lk lk (by omega) (by omega)) pt ?_
    refine s_do gt<|Zae mp (Zd1) pt<|s_do gt<|V' (Zav lk) pt<|V' (Zaj lk lk) pt<|mv' lk pt<|?_
    refine ZaL (t:=77) gt pt pt (fun hg77=>?_) (fun hg77=>?_)
    ·refine s_do gt<|mv' lk pt<|s_do gt<|mv' lk pt<|s_do gt<|?_
     refine V' (v_ix lk lk (by omega) (by omega)) pt ?_
     refine s_do gt<|V' (Za6 lk lki) pt<|V' (Zaj lk lk) pt<|sn'<|?_
     refine cd' lk (fun hc7=>?_) (fun hc7=>?_)
     ·have hb:blkN (Zaz s (p+n+2)).toNat=false:=by have:=hg77;rw [Bool.not_eq_true'] at this;exact this
      have hc7':((Zaz s (p+n+2)).toNat:Int)≠35:=hc7
      rw [if_pos ⟨by rw [Zci];simp only [show p+n+2<s.size by omega,hc7',decide_true,Bool.and_self,ne_eq,not_false_eq_true],by rw [Zdq (by omega),hb]⟩] at hF
      rw [ZdC hm hF] at hp2
      refine wr'<|mv' lkn pt<|mv' lki pt<|sn'<|Zab<|Zak<|Zaq<|Zak<|Zaq<|Zag ry<|rtW'<|?_
      rw [hp2];exact Wk.tup (wkw Wk.nilF (wk1 rfl wk0))
     have hc7':((Zaz s (p+n+2)).toNat:Int)=35:=Decidable.of_not_not hc7
     rw [if_neg (by rw [Zci];simp [hc7'])] at hF
     refine Zaf<|ZaI<|?_
     exact cT' ((1,n,n+2)) (by exact hF) (by (try dsimp only);(try simp only [sm',Nat.reduceAdd]);exact ALe.same (by repeat (first | exact wk0 | refine wka ?_ | refine wk1 rfl ?_ | refine wk1 (by first | rfl | exact ivx (by simp;omega) | (simp [cutF,List.drop_drop];done)) ?_)) rfl)
    have hb:blkN (Zaz s (p+n+2)).toNat=true:=by have:=hg77;rw [Bool.not_eq_false'] at this;exact this
    rw [if_neg (by rw [Zdq (by omega),hb];simp)] at hF
    refine s_no gt pt<|s_no gt pt<|s_no gt pt<|s_no gt pt<|V' (Zah lk lkb) pt<|sn'<|ZaY lk<|Zaf<|ZaI<|?_
    exact cT' ((1,n,n+2)) (by exact hF) (by (try dsimp only);(try simp only [sm',Nat.reduceAdd]);exact ALe.same (by repeat (first | exact wk0 | refine wka ?_ | refine wk1 rfl ?_ | refine wk1 (by first | rfl | exact ivx (by simp;omega) | (simp [cutF,List.drop_drop];done)) ?_)) rfl)
   rw [if_neg (by rw [Zci];simp;omega)] at hF
   refine s_no gt pt<|s_no gt pt<|s_no gt pt<|s_no gt pt<|s_no gt pt<|V' (Zah lk lkb) pt<|mv' lk pt<|s_no gt pt<|s_no gt pt<|s_no gt pt<|s_no gt pt<|V' (Zah lk lkb) pt<|sn'<|?_
   refine ZaY lk<|Zaf<|ZaI<|?_
   exact cT' ((1,n,n+2)) (by exact hF) (by (try dsimp only);(try simp only [sm',Nat.reduceAdd]);exact ALe.same (by repeat (first | exact wk0 | refine wka ?_ | refine wk1 rfl ?_ | refine wk1 (by first | rfl | exact ivx (by simp;omega) | (simp [cutF,List.drop_drop];done)) ?_)) rfl)
  have hF:=Zp5 hps hc3
  refine Zao ?_
  refine w_lp (ι:=Nat) (fun (n:Nat)=>[(5,iv ((p+n:Nat):Int)),(6,sv (bA (((aB s).drop p).take n))),(2,.any),(3,.any)]++rn' 83 37) (fun (n:Nat)=>[]) (fun (n:Nat)=>p+n≤s.size∧runL fldP ((aB s).drop p)=(runL fldP ((aB s).drop (p+n))).map (· + n)) (fun (n:Nat)=>s.size-(p+n)) (0) (by exact ⟨by omega,by simp⟩) ?_
  rintro n hi4
  try simp only [sm',Nat.reduceAdd]
  obtain ⟨hn1,hn2⟩:=hi4
  refine Zam<|wr'<|mv' lk pt<|mv' lk pt<|V' (Zbi lk) pt<|V' (Zbu lk lk) pt<|mv' lk pt<|?_
  refine sp' (t:=87) gt pt pt (fun hg87=>?_) (fun hg87=>?_)
  ·refine s_do gt<|mv' lk pt<|s_do gt<|mv' lk pt<|s_do gt<|?_
   refine V' (v_ix lk lk (by omega) (by omega)) pt ?_
   refine s_do gt<|Zae mp (Zd1) pt<|s_do gt<|V' (Zav lk) pt<|V' (Zaj lk lk) pt<|mv' lk pt<|?_
   refine ZaL (t:=94) gt pt pt (fun hg94=>?_) (fun hg94=>?_)
   ·refine s_do gt<|mv' lk pt<|s_do gt<|mv' lk pt<|s_do gt<|?_
    refine V' (v_ix lk lk (by omega) (by omega)) pt ?_
    refine s_do gt<|V' (Za6 lk lki) pt<|V' (Zaj lk lk) pt<|sn'<|?_
    refine cd' lk (fun hc8=>?_) (fun hc8=>?_)
    ·have hb:blkN (Zaz s (p+n)).toNat=false:=by have:=hg94;rw [Bool.not_eq_true'] at this;exact this
     have hc8':((Zaz s (p+n)).toNat:Int)≠35:=hc8
     refine Zaf<|Zai<|Zao<|Zam<|wr'<|mv' lk pt<|mv' lk pt<|?_
     refine V' (v_ix lk lk (by omega) (by omega)) pt ?_
     refine Zae mp (ZjZ) pt<|V' (Zav lk) pt<|mv' lk pt<|?_
     refine ZaL (t:=105) gt pt pt (fun hg105=>?_) (fun hg105=>?_)
     ·have hpl:plnN (Zaz s (p+n)).toNat=false:=by have:=hg105;rw [Bool.not_eq_true'] at this;exact this
      have hfp:fldP (Zaz s (p+n)).toNat=true:=Zoo hb hc8' (fun e=>by rw [e] at hpl;revert hpl;decide)
      rw [Zk0 (s:=s) (k:=p+n) (by omega) hfp hpl] at hn2
      simp only [Option.map_none] at hn2
      rw [hn2] at hF
      rw [ZdC hm hF] at hp2
      refine s_no gt pt<|s_no gt pt<|s_no gt pt<|s_no gt pt<|V' (Zaj lk lkb) pt<|sn'<|ZaG lk<|wr'<|mv' lkn pt<|mv' lki pt<|sn'<|?_
      refine Zab<|Zak<|Zaq<|Zak<|Zaq<|Zak<|Zaq<|Zak<|Zaq<|Zag ry<|rtW'<|?_
      rw [hp2];exact Wk.tup (wkw Wk.nilF (wk1 rfl wk0))
     have hpl:plnN (Zaz s (p+n)).toNat=true:=by have:=hg105;rw [Bool.not_eq_false'] at this;exact this
     refine s_do gt<|mv' lk pt<|s_do gt<|mv' lk pt<|s_do gt<|?_
     refine V' (v_ix lk lk (by omega) (by omega)) pt ?_
     refine s_do gt<|V' (ZaX lk lki) pt<|V' (Zah lk lk) pt<|sn'<|?_
     refine cd' lk (fun hc9=>?_) (fun hc9=>?_)
     ·have hc9':((Zaz s (p+n)).toNat:Int)=34:=hc9
      rw [Zfy (s:=s) (k:=p+n) (by omega) (by rw [hc9'];decide)] at hn2
      simp only [Option.map_some,Nat.zero_add] at hn2
      rw [hn2] at hF
      simp only at hF
      rw [if_pos ⟨by rw [Zci,hc9'];simp;omega,by rw [Zdq (by omega),hc9']⟩] at hF
      rw [ZdC hm hF] at hp2
      refine wr'<|mv' lkn pt<|mv' lki pt<|sn'<|Zab<|Zak<|Zaq<|Zak<|Zaq<|Zak<|Zaq<|Zak<|?_
      refine Zaq<|Zag ry<|rtW'<|?_
      rw [hp2];exact Wk.tup (wkw Wk.nilF (wk1 rfl wk0))
     have hc9':((Zaz s (p+n)).toNat:Int)≠34:=hc9
     rw [ZnT (s:=s) (k:=p+n) (by omega) (Zoo hb hc8' hc9') hpl] at hn2
     have hsn:=Zp6 (s:=s) (a:=p) (n:=n) (by omega)
     refine Zaf<|Zai<|wr'<|mv' lk pt<|mv' lk pt<|mv' lk pt<|mv' lk pt<|?_
     refine V' (ZaE lk lki (by omega) (by omega)) pt ?_
     refine V' (Zd6 lk (oi lk) (oi lk) (by omega) (by omega) (by omega)) pt ?_
     refine V' (Zc8 lk lk (by first | omega | (rw [ZaQ,List.length_take,ByteArray.size_extract];omega))) pt ?_
     refine mv' lk pt<|sn'<|Zar<|mv' lk pt<|?_
     refine V' (ZaE lk lki (by omega) (by omega)) pt ?_
     refine mv' lk pt<|Zas<|ZaF<|ZaI<|?_
     refine lU' (n+1) (by (try dsimp only);exact ⟨by omega,by rw [hn2,Option.map_map];rw [show p+(n+1)=p+n+1 from rfl];congr 1;funext x;simp;omega⟩) (by (try dsimp only);(try simp only [sm',Nat.reduceAdd]);exact ALe.same (by repeat (first | exact wk0 | refine wka ?_ | refine wk1 rfl ?_ | refine wk1 (by first | rfl | exact ivx (by omega) | (exact congrArg sv hsn.symm)) ?_)) rfl)
    have hc8':((Zaz s (p+n)).toNat:Int)=35:=Decidable.of_not_not hc8
    rw [Zfy (s:=s) (k:=p+n) (by omega) (by rw [hc8'];decide)] at hn2
    simp only [Option.map_some,Nat.zero_add] at hn2
    rw [hn2] at hF
    simp only at hF
    rw [if_neg (by rw [Zdq (by omega),hc8'];simp)] at hF
    refine Za0<|ZaO<|ZaO<|Zbp<|ZaI<|?_
    exact cT' ((0,n,n)) (by exact hF) (by (try dsimp only);(try simp only [sm',Nat.reduceAdd]);exact ALe.same (by repeat (first | exact wk0 | refine wka ?_ | refine wk1 rfl ?_ | refine wk1 (by first | rfl | exact ivx (by simp;omega) | (simp [cutF,List.drop_drop];done)) ?_)) rfl)
   have hb:blkN (Zaz s (p+n)).toNat=true:=by have:=hg94;rw [Bool.not_eq_false'] at this;exact this
   rw [Zfy (s:=s) (k:=p+n) (by omega) (by unfold fldP;rw [hb];rfl)] at hn2
   simp only [Option.map_some,Nat.zero_add] at hn2
   rw [hn2] at hF
   simp only at hF
   rw [if_neg (by rw [Zdq (by omega)];rintro ⟨_,e⟩;rw [e] at hb;revert hb;decide)] at hF
   refine s_no gt pt<|s_no gt pt<|s_no gt pt<|s_no gt pt<|V' (Zah lk lkb) pt<|sn'<|ZaY lk<|Za0<|ZaO<|ZaO<|Zbp<|ZaI<|?_
   exact cT' ((0,n,n)) (by exact hF) (by (try dsimp only);(try simp only [sm',Nat.reduceAdd]);exact ALe.same (by repeat (first | exact wk0 | refine wka ?_ | refine wk1 rfl ?_ | refine wk1 (by first | rfl | exact ivx (by simp;omega) | (simp [cutF,List.drop_drop];done)) ?_)) rfl)
  rw [ZkY (s:=s) (k:=p+n) (by omega)] at hn2
  simp only [Option.map_some,Nat.zero_add] at hn2
  rw [hn2] at hF
  simp only at hF
  rw [if_neg (by rw [Zci];simp;omega)] at hF
  refine s_no gt pt<|s_no gt pt<|s_no gt pt<|s_no gt pt<|s_no gt pt<|V' (Zah lk lkb) pt<|mv' lk pt<|s_no gt pt<|s_no gt pt<|s_no gt pt<|s_no gt pt<|V' (Zah lk lkb) pt<|sn'<|?_
  refine ZaY lk<|Za0<|ZaO<|ZaO<|Zbp<|ZaI<|?_
  exact cT' ((0,n,n)) (by exact hF) (by (try dsimp only);(try simp only [sm',Nat.reduceAdd]);exact ALe.same (by repeat (first | exact wk0 | refine wka ?_ | refine wk1 rfl ?_ | refine wk1 (by first | rfl | exact ivx (by simp;omega) | (simp [cutF,List.drop_drop];done)) ?_)) rfl)
 rintro y hq32
 try simp only [sm',Nat.reduceAdd]
 refine wr'<|mv' lk pt<|mv' lk pt<|E' (Zeh (Zhb (cvl lk rfl) rfl) (hl1 hn) ha1) pt<|?_
 refine E' (Zej (Zc9 lk (hga hn rfl) rfl ZrI (nb' rfl)) lk (hga hn rfl) (ZdK _) (by omega) rfl (hs0 hn)) pt ?_
 refine mv' lk pt<|sn'<|wr'<|mv' lk pt<|V' (Zbi lk) pt<|V' (ZbN lk lki) pt<|mv' lk pt<|?_
 refine sp' (t:=127) gt pt pt (fun hg127=>?_) (fun hg127=>?_)
 ·have hcs:=ZiW hq32
  rw [hcs] at hg127;rw [ZfS hm hq32 (.inl (by omega))] at hp2
  refine s_no gt pt<|s_no gt pt<|s_no gt pt<|V' (Zaj lk lkb) pt<|sn'<|ZaG lk<|wr'<|mv' lkn pt<|mv' lki pt<|sn'<|Zab<|?_
  refine Zaq<|Zak<|Zaq<|Zag ry<|rtW'<|?_
  rw [hp2];exact Wk.tup (wkw Wk.nilF (wk1 rfl wk0))
 have hcs:=ZiW hq32
 rw [hcs] at hg127
 refine s_do gt<|mv' lk pt<|s_do gt<|V' (Zdr lk) pt<|s_do gt<|V' (ZbN lk lki) pt<|V' (Zah lk lk) pt<|sn'<|?_
 refine cd' lk (fun hc10=>?_) (fun hc10=>?_)
 ·rw [ZfS hm hq32 (.inr (by omega))] at hp2
  refine wr'<|mv' lkn pt<|mv' lki pt<|sn'<|Zab<|Zaq<|Zak<|Zaq<|Zag ry<|rtW'<|?_
  rw [hp2];exact Wk.tup (wkw Wk.nilF (wk1 rfl wk0))
 have hle:=ZiP hq32
 have hL:((aB s).drop p).length=s.size-p:=by rw [List.length_drop,Zbr]
 obtain ⟨m',rfl⟩ : ∃ m',m=m'+1:=⟨m-1,by omega⟩
 rw [Zp2 hm hq32 (by omega)] at hp2
 refine Zaf<|ZaF<|ZaI<|?_
 refine lU' (⟨p+y.2.2,fs++[cutF ((aB s).drop p) y],v+1,m'⟩) (by (try dsimp only);exact ⟨by omega,by simp;omega,by rw [Ztv,List.drop_drop];exact hp2⟩) (by (try dsimp only);(try simp only [sm',Nat.reduceAdd]);exact bkE' 1 hn hlt (by repeat (first | exact wk0 | refine wka ?_ | refine wk1 rfl ?_ | refine wk1 (by first | rfl | exact ivx (by omega) | (simp;done)) ?_)) (by simp only [Zbo,Zbv,strC];rfl)) (by exact Nat.lt_succ_self _)
end Go.Proofs.YtgjchdhdopgkkaaGreatDoor
end
section
namespace Go.Proofs.YtgjchdhdopgkkaaGreatDoor
open Go.Ab
attribute [local simp] Zbd Zdi
section
theorem Zfn {τ:Operand→AV}{y0 y1 y2:Operand}{x0_0 x1_0 x2_0:AV}(h0:Zap (τ y0)=some [x0_0]) (l0:[x0_0].all leaf=true) (h1:Zap (τ y1)=some [x1_0]) (l1:[x1_0].all leaf=true) (h2:Zap (τ y2)=some [x2_0]) (l2:[x2_0].all leaf=true):Zat τ [(0,1,y0),(1,1,y1),(2,1,y2)] [(.v (.int .i64 0)),(.v (.bool false)),(.sl 0 0 true [])]=some [x0_0,x1_0,x2_0]:=by
 simp only [Zat,h0,l0,h1,l1,h2,l2]
 rfl
theorem Zfm {τ:Operand→AV}{y0:Operand}{x0_0 x0_1 x0_2:AV}(h0:Zap (τ y0)=some [x0_0,x0_1,x0_2]) (l0:[x0_0,x0_1,x0_2].all leaf=true):Zat τ [(0,3,y0)] [(.v (.int .i64 0)),(.v (.bool false)),(.sl 0 0 true [])]=some [x0_0,x0_1,x0_2]:=by
 simp only [Zat,h0,l0]
 rfl
theorem ZkH {a0 a1 a2:AV}{l:List AV}:(a0::a1::a2::l).take 3=[a0,a1,a2]:=rfl
end
def c48:AC:=(Sr [Oo 2 (.mv (.const (.slice none 0 0))),Mc 3 0,Mc 4 0] (.seq (Sr [Mv 11 0,Oo 12 (.len true (.tmp 11)),Bc 13 .gtr 12 8000] (Cd 13 (Sr [Oo 2 (.mv (.const (.slice none 0 0))),Mc 3 0,Mc 4 2] .ret) .skip)) (Sr [Oo 5 (.mv (.const (.slice none 0 0)))] (Sr [Mc 6 0,Mc 7 1] (.seq (Sr [Mc 8 0] (.block 0 (.loop (.seq (Sr [Mv 14 8,Mv 15 0,Oo 16 (.len true (.tmp 15)),Bn 17 .leq 14 16] (Cd 17 .skip (.exit 0))) (.seq (.block 1 (.seq (Sr [Mv 20 8,Mv 21 0,Oo 22 (.len true (.tmp 21)),Bn 23 .lss 20 22,Mv 24 23,Ot 25 24 (mt 0),Ot 26 24 (mt 8),Ot 27 24 (.ix (.tmp 25) (.tmp 26)),Ot 28 24 (.bin .neq (.tmp 27) (.const (.int .u8 10))),Oo 29 (.pick (.tmp 24) (.tmp 28) (.const (.bool false)))] (Cd 29 (.exit 1) .skip)) (Sr [Mv 31 0,Mv 32 6,Mv 33 8,Oo 34 (.sls (.tmp 31) (some (.tmp 32)) (some (.tmp 33))),Cl 35 86 [(.tmp 34)],Mv 30 35,Ex 36 30 0,Ex 37 30 1,Mv 9 36,Mv 10 37] (.seq (Sr [Mv 38 10,Bc 39 .neq 38 0] (Cd 39 (Sr [Mv 40 7,Mv 41 10,Oo 2 (.mv (.const (.slice none 0 0))),Mv 3 40,Mv 4 41] .ret) .skip)) (.seq (Sr [Mv 42 9,Oo 43 (.len false (.tmp 42)),Bc 44 .gtr 43 0] (Cd 44 (.reg [Mv 45 5,Mv 46 7,Mv 47 0,Mv 48 6,Oo 49 (.ix (.tmp 47) (.tmp 48)),Cl 50 28 [(.tmp 49)],Mv 51 9,Oo 52 (.build [(iv 0),(.v (.bool false)),(.sl 0 0 true [])] [(0,(1,(.tmp 46))),(1,(1,(.tmp 50))),(2,(1,(.tmp 51)))]),Oo 53 (.lit 67 3 1 [(iv 0),(.v (.bool false)),(.sl 0 0 true [])] [(0,(3,(.tmp 52)))]),Oo 54 (.app 67 3 40 (.tmp 45) (.tmp 53)),Mv 5 54]) .skip)) (Sr [Mv 55 8,Bc 56 .add 55 1,Mv 6 56] (.reg [Mv 57 7,Bc 58 .add 57 1,Mv 7 58]))))))) (.reg [Mv 18 8,Bc 19 .add 18 1,Mv 8 19])))))) (.seq (Sr [Mv 59 5,Oo 60 (.len false (.tmp 59)),Bc 61 .gtr 60 200] (Cd 61 (Sr [Oo 2 (.mv (.const (.slice none 0 0))),Mc 3 0,Mc 4 2] .ret) .skip)) (Sr [Mv 62 5,Mv 2 62,Mc 3 0,Mc 4 0] .ret)))))))
theorem k48:ZaH Tryz.prog 48=some ⟨c48,[(.tmp 2),(.tmp 3),(.tmp 4)],63⟩:=by kernel_rfl
theorem ZfU {x:UInt8} : ∀ {a:Bs},x ∉ a→cutC x a=[a]
 | [],_=>rfl
 | c::l,h=>by
  simp only [List.mem_cons,not_or] at h
  rw [cutC,if_neg (Ne.symm h.1),ZfU h.2]
theorem Zht {x:UInt8} : ∀ {a b:Bs},x ∉ a→cutC x (a++x::b)=a::cutC x b
 | [],b,_=>by simp [cutC]
 | c::l,b,h=>by
  simp only [List.mem_cons,not_or] at h
  rw [List.cons_append,cutC,if_neg (Ne.symm h.1),Zht h.2]
def clean (x:UInt8) (s:ByteArray) (f i:Nat):Prop:=x ∉ ((aB s).drop f).take (i-f)
theorem Zdk {x:UInt8}{s:ByteArray}{f:Nat}:clean x s f f:=by simp [clean]
theorem Zqi {x:UInt8}{s:ByteArray}{f i:Nat}(h:clean x s f i) (hf:f≤i) (hi:i<s.size) (hx:Zaz s i≠x):clean x s f (i+1):=by
 unfold clean at *
 rw [show i+1-f=(i-f)+1 by omega,List.take_add,List.drop_drop,show f+(i-f)=i by omega,ZdO hi]
 simp only [List.take_succ_cons,List.take_zero,List.mem_append,List.mem_singleton,not_or]
 exact ⟨h,fun e=>hx e.symm⟩
theorem Zqf {x:UInt8}{s:ByteArray}{f i:Nat}(h:clean x s f i) (hf:f≤i) (hi:i<s.size) (hx:Zaz s i=x):cutC x ((aB s).drop f)=aB (s.extract f i)::cutC x ((aB s).drop (i+1)):=by
 have e:(aB s).drop f=((aB s).drop f).take (i-f)++x::(aB s).drop (i+1):=by
  conv=>lhs;rw [←List.take_append_drop (i-f) ((aB s).drop f)]
  rw [List.drop_drop,show f+(i-f)=i by omega,ZdO hi,hx]
 rw [e,Zht h,Zet,Zhw]
theorem Znb {x:UInt8}{s:ByteArray}{f i:Nat}(h:clean x s f i) (hf:f≤i) (hi:i=s.size):cutC x ((aB s).drop f)=[aB (s.extract f i)]:=by
 have e:((aB s).drop f).take (i-f)=(aB s).drop f:=List.take_of_length_le (by rw [List.length_drop,Zbr];omega)
 unfold clean at h
 rw [e] at h
 rw [ZfU h,Zet,Zhw,e]
theorem Zi2 {c:UInt8}{n:Nat}(hn:n<256) (h:(c.toNat:Int)=n):c=UInt8.ofNat n:=by
 have:c.toNat=n:=by omega
 rw [←this];simp
theorem ZlC {c:UInt8}{n:Nat}(hn:n<256) (h:¬(c.toNat:Int)=n):c≠UInt8.ofNat n:=by
 rintro rfl
 apply h
 simp [UInt8.toNat_ofNat,Nat.mod_eq_of_lt hn]
theorem Zm2 {s:ByteArray}{f i:Nat}(h:f<i) (hi:i≤s.size):ZgS (aB (s.extract f i))=((Zaz s f).toNat:Int):=by
 rw [Zet,Zhw,ZdO (by omega),show i-f=(i-f-1)+1 by omega]
 rfl
theorem ZqA {s:ByteArray}{h:AH}:Ac 48 [sv s] h (.tup [.sl (ZbB s).1.length 3 false (rows lnC (ZbB s).1),iv (ZbB s).2.1,iv (ZbB s).2.2]):=by
 refine tW' k48 fun N hn hlt hlA hbd=>?_
 simp only [tb'] at hbd ⊢
 refine wr'<|mv' lkn pt<|mv' lki pt<|mv' lki pt<|sn'<|Zam<|wr'<|mv' lk pt<|V' (Zbi lk) pt<|V' (ZbN lk lki) pt<|Zas<|?_
 refine Zai ?_
 refine cd' lk (fun hc1=>?_) (fun hc1=>?_)
 ·have hS:ZbB s=([],0,2):=if_pos (by omega)
  refine wr'<|mv' lkn pt<|mv' lki pt<|mv' lki pt<|sn'<|Zab<|Zak<|Zag rx<|rtW'<|?_
  rw [hS];exact Wk.tup (wkw Wk.nilF (wk1 rfl (wk1 rfl wk0)))
 have hz:s.size≤8000:=by omega
 have hS:ZbB s=if (ZbW 1 (cutC 10 (aB s)) []).2.2≠0 then ZbW 1 (cutC 10 (aB s)) [] else if 200<(ZbW 1 (cutC 10 (aB s)) []).1.length then ([],0,2) else ZbW 1 (cutC 10 (aB s)) []:=if_neg (by omega)
 obtain ⟨X,hX⟩ : ∃ X,X=ZbW 1 (cutC 10 (aB s)) []:=⟨_,rfl⟩
 rw [←hX] at hS
 refine Zaf<|Zai<|wr'<|mv' lkn pt5<|Zas<|ZbQ (ALe.own0' (st':=3) (ty:=67) gt5 (hl0 hn) pt5 ha0)<|wr'<|mv' lki pt6<|mv' lki pt7<|sn'<|Zam<|?_
 refine wr'<|mv' lki pt<|sn'<|Zao<|?_
 refine w_lp (ι:=Nat×Nat×Nat×List Ln×Nat) (fun (x_:Nat×Nat×Nat×List Ln×Nat)=>match x_ with | ⟨f,i,q,acc,v⟩=>[(5,.own (N+0) v acc.length),(6,iv (f:Int)),(7,iv (q:Int)),(8,iv (i:Int)),(9,.any),(10,.any)]++rn' 2 3++rn' 14 45) (fun (x_:Nat×Nat×Nat×List Ln×Nat)=>match x_ with | ⟨f,i,q,acc,v⟩=>[(0,.mk v 67 3 (rows lnC acc))]) (fun (x_:Nat×Nat×Nat×List Ln×Nat)=>match x_ with | ⟨f,i,q,acc,v⟩=>i≤s.size+1∧f≤i∧q≤i+1∧acc.length≤i∧(i≤s.size→clean 10 s f i∧X=ZbW (q:Int) (cutC 10 ((aB s).drop f)) acc)∧(i=s.size+1→X=(acc,0,0))) (fun (x_:Nat×Nat×Nat×List Ln×Nat)=>match x_ with | ⟨f,i,q,acc,v⟩=>s.size+1-i) (⟨0,0,1,[],0⟩) (by exact ⟨by omega,by omega,by omega,by simp,fun _=>⟨Zdk,hX⟩,fun h=>by omega⟩) ?_
 rintro ⟨f,i,q,acc,v⟩ hi1
 try simp only [sm',Nat.reduceAdd]
 obtain ⟨hk1,hk2,hk3,hk4,hk5,hk6⟩:=hi1
 refine Zam<|wr'<|mv' lk pt<|mv' lk pt<|V' (Zbi lk) pt<|V' (ZeT lk lk) pt<|sn'<|?_
 refine cd' lk (fun hc2=>?_) (fun hc2=>?_)
 ·have hi:i≤s.size:=by omega
  obtain ⟨hk7,hk8⟩:=hk5 hi
  refine Zaf<|Zai<|Zam<|Zao<|Zam<|wr'<|mv' lk pt<|mv' lk pt<|V' (Zbi lk) pt<|V' (Zbu lk lk) pt<|mv' lk pt<|?_
  refine sp' (t:=24) gt pt pt (fun hg24=>?_) (fun hg24=>?_)
  ·refine s_do gt<|mv' lk pt<|s_do gt<|mv' lk pt<|s_do gt<|?_
   refine V' (v_ix lk lk (by omega) (by omega)) pt ?_
   refine s_do gt<|V' (Za6 lk lki) pt<|V' (Zaj lk lk) pt<|sn'<|?_
   refine cd' lk (fun hc3=>?_) (fun hc3=>?_)
   ·have hx:Zaz s i≠10:=fun e=>hc3 (show ((Zaz s i).toNat:Int)=10 by rw [e];rfl)
    have hcl:=Zqi hk7 hk2 (by omega) hx
    refine Za0<|ZaO<|Zbp<|Zai<|Zar<|mv' lk pt<|?_
    refine V' (ZaE lk lki (by omega) (by omega)) pt ?_
    refine mv' lk pt<|Zas<|ZaI<|?_
    refine lU' (⟨f,i+1,q,acc,v⟩) (by (try dsimp only);exact ⟨by omega,by omega,by omega,by omega,fun _=>⟨hcl,hk8⟩,fun h=>by omega⟩) (by (try dsimp only);(try simp only [sm',Nat.reduceAdd]);exact ALe.same (by repeat (first | exact wk0 | refine wka ?_ | refine wk1 rfl ?_ | refine wk1 (by first | rfl | exact ivx (by omega) | (simp;done)) ?_)) rfl)
   have hx:Zaz s i=10:=Zi2 (n:=10) (by omega) (Decidable.of_not_not hc3)
   have hseg:=Zqf hk7 hk2 (by omega) hx
   obtain ⟨R,hR⟩ : ∃ R:List Bs,R=cutC 10 ((aB s).drop (i+1)):=⟨_,rfl⟩
   rw [hseg,←hR] at hk8
   have hR2:(i+1≤s.size→R=cutC 10 ((aB s).drop (i+1)))∧(i=s.size→R=[]):=⟨fun _=>hR,fun h=>by omega⟩
   refine Zaf<|Zai<|?_
   rw [ZbW] at hk8
   obtain ⟨y,hy⟩ : ∃ y,y=s.extract f i:=⟨_,rfl⟩
   have hys:y.size=i-f:=by rw [hy,ByteArray.size_extract];omega
   refine wr'<|mv' lk pt<|mv' lk pt<|mv' lk pt<|?_
   refine V' (Zd6 lk (oi lk) (oi lk) (by omega) (by omega) (by omega)) pt ?_
   rw [show s.extract (f:Int).toNat (i:Int).toNat=y from hy.symm]
   refine Zae mp (Ziy (s:=y) (by omega)) pt ?_
   rw [←hy] at hk8
   refine mv' lk pt<|V' (Zbb lk gt) pt<|V' (Zbb lk gt) pt<|mv' lk pt<|mv' lk pt<|sn'<|Zam<|wr'<|mv' lk pt<|V' (Za6 lk lki) pt<|sn'<|?_
   refine cd' lk (fun hc4=>?_) (fun hc4=>?_)
   ·have hc4':(ZcR (aB y)).2≠0:=hc4
    rw [if_pos hc4'] at hk8
    rw [hk8,if_pos hc4'] at hS
    refine wr'<|mv' lk pt<|mv' lk pt<|mv' lkn pt<|mv' lk pt<|mv' lk pt<|sn'<|Zab<|Zak<|Zaq<|Zak<|Zak<|?_
    refine Zaq<|Zak<|Zag rx<|rtW'<|?_
    rw [hS];exact Wk.tup (wkw Wk.nilF (wk1 rfl (wk1 rfl wk0)))
   rw [if_neg hc4] at hk8
   refine Zaf<|Zai<|Zam<|wr'<|mv' lk pt<|V' (ZaK lk) pt<|V' (ZbN lk lki) pt<|sn'<|?_
   refine cd' lk (fun hc5=>?_) (fun hc5=>?_)
   ·have hne:(ZcR (aB y)).1≠[]:=fun e=>by rw [e] at hc5;simp at hc5
    have hp:=Zll hne
    rw [Zbr] at hp
    rw [if_neg hne] at hk8
    have hh:ZgS (aB y)=((Zaz s f).toNat:Int):=by rw [hy];exact Zm2 (by omega) hi
    rw [hh] at hk8
    refine Zar<|mv' lk pt<|mv' lk pt<|mv' lk pt<|mv' lk pt<|?_
    refine V' (v_ix lk lk (by omega) (by omega)) pt ?_
    refine Zae mp (Zd1) pt<|mv' lk pt<|V' (ZaB (Zfn (cvl lk rfl) rfl (cvl lk rfl) rfl (cvl lk rfl) rfl)) pt<|E' (Zeh (Zfm (cvl lk rfl) rfl) (hl1 hn) ha1) pt<|?_
    refine E' (Zej (Zc9 lk (hga hn rfl) rfl ZkH (nb' rfl)) lk (hga hn rfl) (Zga _) (by omega) rfl (hs0 hn)) pt ?_
    refine mv' lk pt<|sn'<|wr'<|mv' lk pt<|?_
    refine V' (ZaE lk lki (by omega) (by omega)) pt ?_
    refine mv' lk pt<|sn'<|Zar<|mv' lk pt<|?_
    refine V' (ZaE lk lki (by omega) (by omega)) pt ?_
    refine mv' lk pt<|Zas<|ZaF<|Zai<|Zar<|mv' lk pt<|?_
    refine V' (ZaE lk lki (by omega) (by omega)) pt ?_
    refine mv' lk pt<|Zas<|ZaI<|?_
    refine lU' (⟨i+1,i+1,q+1,acc++[((q:Int),blkN ((Zaz s f).toNat:Int),(ZcR (aB y)).1)],v+1⟩) (by (try dsimp only);exact ⟨by omega,by omega,by omega,by simp;omega,fun h=>⟨Zdk,by rw [←hR2.1 h];exact hk8⟩,fun h=>by rw [hR2.2 (by omega),ZbW] at hk8;exact hk8⟩) (by (try dsimp only);(try simp only [sm',Nat.reduceAdd]);exact bkE' 1 hn hlt (by repeat (first | exact wk0 | refine wka ?_ | refine wk1 rfl ?_ | refine wk1 (by first | rfl | exact ivx (by omega) | (simp;done)) ?_)) (by simp only [Zbo,Zbv,lnC];rfl))
   have hne:(ZcR (aB y)).1=[]:=List.eq_nil_of_length_eq_zero (by omega)
   rw [if_pos hne] at hk8
   refine Zaf<|Zai<|wr'<|mv' lk pt<|?_
   refine V' (ZaE lk lki (by omega) (by omega)) pt ?_
   refine mv' lk pt<|sn'<|Zar<|mv' lk pt<|?_
   refine V' (ZaE lk lki (by omega) (by omega)) pt ?_
   refine mv' lk pt<|Zas<|ZaF<|Zai<|Zar<|mv' lk pt<|?_
   refine V' (ZaE lk lki (by omega) (by omega)) pt ?_
   refine mv' lk pt<|Zas<|ZaI<|?_
   refine lU' (⟨i+1,i+1,q+1,acc,v⟩) (by (try dsimp only);exact ⟨by omega,by omega,by omega,by omega,fun h=>⟨Zdk,by rw [←hR2.1 h];exact hk8⟩,fun h=>by rw [hR2.2 (by omega),ZbW] at hk8;exact hk8⟩) (by (try dsimp only);(try simp only [sm',Nat.reduceAdd]);exact ALe.same (by repeat (first | exact wk0 | refine wka ?_ | refine wk1 rfl ?_ | refine wk1 (by first | rfl | exact ivx (by omega) | (simp;done)) ?_)) rfl)
  have hseg:cutC 10 ((aB s).drop f)=[aB (s.extract f i)]:=Znb hk7 hk2 (by omega)
  obtain ⟨R,hR⟩ : ∃ R:List Bs,R=[]:=⟨_,rfl⟩
  rw [hseg,←hR] at hk8
  have hR2:(i+1≤s.size→R=cutC 10 ((aB s).drop (i+1)))∧(i=s.size→R=[]):=⟨fun h=>by omega,fun _=>hR⟩
  refine s_no gt pt<|s_no gt pt<|s_no gt pt<|s_no gt pt<|V' (Zah lk lkb) pt<|sn'<|ZaY lk<|Zaf<|Zai<|?_
  rw [ZbW] at hk8
  obtain ⟨y,hy⟩ : ∃ y,y=s.extract f i:=⟨_,rfl⟩
  have hys:y.size=i-f:=by rw [hy,ByteArray.size_extract];omega
  refine wr'<|mv' lk pt<|mv' lk pt<|mv' lk pt<|?_
  refine V' (Zd6 lk (oi lk) (oi lk) (by omega) (by omega) (by omega)) pt ?_
  rw [show s.extract (f:Int).toNat (i:Int).toNat=y from hy.symm]
  refine Zae mp (Ziy (s:=y) (by omega)) pt ?_
  rw [←hy] at hk8
  refine mv' lk pt<|V' (Zbb lk gt) pt<|V' (Zbb lk gt) pt<|mv' lk pt<|mv' lk pt<|sn'<|Zam<|wr'<|mv' lk pt<|V' (Za6 lk lki) pt<|sn'<|?_
  refine cd' lk (fun hc4=>?_) (fun hc4=>?_)
  ·have hc4':(ZcR (aB y)).2≠0:=hc4
   rw [if_pos hc4'] at hk8
   rw [hk8,if_pos hc4'] at hS
   refine wr'<|mv' lk pt<|mv' lk pt<|mv' lkn pt<|mv' lk pt<|mv' lk pt<|sn'<|Zab<|Zak<|Zaq<|Zak<|Zak<|?_
   refine Zaq<|Zak<|Zag rx<|rtW'<|?_
   rw [hS];exact Wk.tup (wkw Wk.nilF (wk1 rfl (wk1 rfl wk0)))
  rw [if_neg hc4] at hk8
  refine Zaf<|Zai<|Zam<|wr'<|mv' lk pt<|V' (ZaK lk) pt<|V' (ZbN lk lki) pt<|sn'<|?_
  refine cd' lk (fun hc5=>?_) (fun hc5=>?_)
  ·have hne:(ZcR (aB y)).1≠[]:=fun e=>by rw [e] at hc5;simp at hc5
   have hp:=Zll hne
   rw [Zbr] at hp
   rw [if_neg hne] at hk8
   have hh:ZgS (aB y)=((Zaz s f).toNat:Int):=by rw [hy];exact Zm2 (by omega) hi
   rw [hh] at hk8
   refine Zar<|mv' lk pt<|mv' lk pt<|mv' lk pt<|mv' lk pt<|?_
   refine V' (v_ix lk lk (by omega) (by omega)) pt ?_
   refine Zae mp (Zd1) pt<|mv' lk pt<|V' (ZaB (Zfn (cvl lk rfl) rfl (cvl lk rfl) rfl (cvl lk rfl) rfl)) pt<|E' (Zeh (Zfm (cvl lk rfl) rfl) (hl1 hn) ha1) pt<|?_
   refine E' (Zej (Zc9 lk (hga hn rfl) rfl ZkH (nb' rfl)) lk (hga hn rfl) (Zga _) (by omega) rfl (hs0 hn)) pt ?_
   refine mv' lk pt<|sn'<|wr'<|mv' lk pt<|?_
   refine V' (ZaE lk lki (by omega) (by omega)) pt ?_
   refine mv' lk pt<|sn'<|Zar<|mv' lk pt<|?_
   refine V' (ZaE lk lki (by omega) (by omega)) pt ?_
   refine mv' lk pt<|Zas<|ZaF<|Zai<|Zar<|mv' lk pt<|?_
   refine V' (ZaE lk lki (by omega) (by omega)) pt ?_
   refine mv' lk pt<|Zas<|ZaI<|?_
   refine lU' (⟨i+1,i+1,q+1,acc++[((q:Int),blkN ((Zaz s f).toNat:Int),(ZcR (aB y)).1)],v+1⟩) (by (try dsimp only);exact ⟨by omega,by omega,by omega,by simp;omega,fun h=>⟨Zdk,by rw [←hR2.1 h];exact hk8⟩,fun h=>by rw [hR2.2 (by omega),ZbW] at hk8;exact hk8⟩) (by (try dsimp only);(try simp only [sm',Nat.reduceAdd]);exact bkE' 1 hn hlt (by repeat (first | exact wk0 | refine wka ?_ | refine wk1 rfl ?_ | refine wk1 (by first | rfl | exact ivx (by omega) | (simp;done)) ?_)) (by simp only [Zbo,Zbv,lnC];rfl))
  have hne:(ZcR (aB y)).1=[]:=List.eq_nil_of_length_eq_zero (by omega)
  rw [if_pos hne] at hk8
  refine Zaf<|Zai<|wr'<|mv' lk pt<|?_
  refine V' (ZaE lk lki (by omega) (by omega)) pt ?_
  refine mv' lk pt<|sn'<|Zar<|mv' lk pt<|?_
  refine V' (ZaE lk lki (by omega) (by omega)) pt ?_
  refine mv' lk pt<|Zas<|ZaF<|Zai<|Zar<|mv' lk pt<|?_
  refine V' (ZaE lk lki (by omega) (by omega)) pt ?_
  refine mv' lk pt<|Zas<|ZaI<|?_
  refine lU' (⟨i+1,i+1,q+1,acc,v⟩) (by (try dsimp only);exact ⟨by omega,by omega,by omega,by omega,fun h=>⟨Zdk,by rw [←hR2.1 h];exact hk8⟩,fun h=>by rw [hR2.2 (by omega),ZbW] at hk8;exact hk8⟩) (by (try dsimp only);(try simp only [sm',Nat.reduceAdd]);exact ALe.same (by repeat (first | exact wk0 | refine wka ?_ | refine wk1 rfl ?_ | refine wk1 (by first | rfl | exact ivx (by omega) | (simp;done)) ?_)) rfl)
 have hXe:=hk6 (by omega)
 rw [hXe,if_neg (by simp)] at hS
 refine Za0<|ZaO<|ZaO<|Zbp<|Zai<|Zam<|wr'<|mv' lk pt<|V' (Zdr lk) pt<|V' (ZbN lk lki) pt<|sn'<|?_
 refine cd' lk (fun hc6=>?_) (fun hc6=>?_)
 ·rw [if_pos (show 200<acc.length by omega)] at hS
  refine wr'<|mv' lkn pt<|mv' lki pt<|mv' lki pt<|sn'<|Zab<|Zak<|Zag rx<|rtW'<|?_
  rw [hS];exact Wk.tup (wkw Wk.nilF (wk1 rfl (wk1 rfl wk0)))
 rw [if_neg (show ¬200<acc.length by omega)] at hS
 refine Zaf<|Zai<|wr'<|mv' lk pt<|mv' lk pt<|mv' lki pt<|mv' lki pt<|Zas<|?_
 refine ZbQ (ALe.iceR (hga hn rfl) gt2 (List.take_of_length_le (by rw [Zga];exact Nat.le_refl _)) (by rw [Zga];exact Nat.le_refl _) pt2 (hs0 hn)) ?_
 refine Zab<|Zag rx<|rtW'<|?_
 rw [hS];exact Wk.refl _
end Go.Proofs.YtgjchdhdopgkkaaGreatDoor
end
section
namespace Go.Proofs.YtgjchdhdopgkkaaGreatDoor
open Go.Ab
abbrev Dat:=Int×Int×Int
abbrev Frm:=Int×Int×Int
abbrev Rul:=ByteArray×Int×Int×Int×Frm×Int×Int×Int×ByteArray
abbrev Unt:=Dat×Int×Int
abbrev Era:=Int×ByteArray×Int×ByteArray×Bool×Unt
abbrev Zon:=ByteArray×List Era
abbrev Lnk:=ByteArray×ByteArray
abbrev Src:=List Rul×List Zon×List Lnk
set_option synthInstance.maxSize 4096 in
instance decEra:DecidableEq Era:=inferInstance
set_option synthInstance.maxSize 4096 in
instance decRul:DecidableEq Rul:=inferInstance
instance decZon:DecidableEq Zon:=inferInstance
instance decLnk:DecidableEq Lnk:=inferInstance
instance decSrc:DecidableEq Src:=inferInstance
abbrev rulC (r:Rul):List AV:=[sv r.1,iv r.2.1,iv r.2.2.1,iv r.2.2.2.1,iv r.2.2.2.2.1.1,iv r.2.2.2.2.1.2.1,iv r.2.2.2.2.1.2.2,iv r.2.2.2.2.2.1,iv r.2.2.2.2.2.2.1,iv r.2.2.2.2.2.2.2.1,sv r.2.2.2.2.2.2.2.2]
abbrev untC (u:Unt):List AV:=[iv u.1.1,iv u.1.2.1,iv u.1.2.2,iv u.2.1,iv u.2.2]
abbrev eraC (x:Era):List AV:=[iv x.1,sv x.2.1,iv x.2.2.1,sv x.2.2.2.1,bv x.2.2.2.2.1,iv x.2.2.2.2.2.1.1,iv x.2.2.2.2.2.1.2.1,iv x.2.2.2.2.2.1.2.2,iv x.2.2.2.2.2.2.1,iv x.2.2.2.2.2.2.2]
abbrev zonC (z:Zon):List AV:=[sv z.1,.sl z.2.length 10 false (rows eraC z.2)]
abbrev lnkC (l:Lnk):List AV:=[sv l.1,sv l.2]
abbrev srcC (s:Src):List AV:=[.sl s.1.length 11 false (rows rulC s.1),.sl s.2.1.length 2 false (rows zonC s.2.1),.sl s.2.2.length 2 false (rows lnkC s.2.2)]
theorem Za4 {n:Nat}(l:List Rul):AV.ltL n (rows rulC l)=true:=Zfz (fun n x=>by simp [AV.ltL,AV.lt]) l
theorem Zbj {n:Nat}(l:List Era):AV.ltL n (rows eraC l)=true:=Zfz (fun n x=>by simp [AV.ltL,AV.lt]) l
theorem Zca {n:Nat}(l:List Zon):AV.ltL n (rows zonC l)=true:=Zfz (fun n x=>by simp [AV.ltL,AV.lt,Zbj]) l
theorem Za5 {n:Nat}(l:List Lnk):AV.ltL n (rows lnkC l)=true:=Zfz (fun n x=>by simp [AV.ltL,AV.lt]) l
theorem Zem : ∀ x,(rulC x).length=11:=fun _=>rfl
theorem Zeq : ∀ x,(eraC x).length=10:=fun _=>rfl
theorem ZdT : ∀ x,(zonC x).length=2:=fun _=>rfl
theorem ZdV : ∀ x,(lnkC x).length=2:=fun _=>rfl
theorem Zhm (l:List Rul):(rows rulC l).length=l.length*11:=Zbw Zem l
theorem Ze6 (l:List Era):(rows eraC l).length=l.length*10:=Zbw Zeq l
theorem ZdG (l:List Zon):(rows zonC l).length=l.length*2:=Zbw ZdT l
theorem Zhq (l:List Lnk):(rows lnkC l).length=l.length*2:=Zbw ZdV l
end Go.Proofs.YtgjchdhdopgkkaaGreatDoor
end
section
namespace Go.Proofs.YtgjchdhdopgkkaaGreatDoor
open Go.Ab Go.RowKit
theorem Zoy {w w':World}(h:Below w.heap.size w w') : ∀ n:Nat,Below w.heap.size w (w'.drewN n)
 | n=>⟨h.os,h.tape,h.output,h.size,h.block⟩
theorem Zoh {s:ByteArray}{n:Int}{h:AH}:Ac 120 [sv s,uv n] h (iv (Lib.indexByte (aB s) n.toNat.toUInt8)):=by
 refine ACalls.of_below (by kernel_rfl) fun w g vs hs ha=>?_
 simp only [RepL,Rep] at ha
 obtain ⟨u1,us1,e1,rfl,u2,us2,rfl,rfl,rfl⟩:=ha
 obtain rfl:vs = #[.string s,.int .u8 n]:=by cases vs;simp_all
 refine (Tryz.strings_IndexByte s n w).mono ?_
 rintro e w' ⟨rfl,rfl⟩
 refine ⟨_,rfl,Below.refl _ _,?_⟩
 simp only [Rep];rfl
theorem ZiV {s p:ByteArray}{h:AH}:Ac 172 [sv s,sv p] h (.tup [sv (bA (Lib.trimPrefix (aB s) (aB p))),bv (Lib.hasPrefix (aB s) (aB p))]):=by
 refine ACalls.of_below (by kernel_rfl) fun w g vs hs ha=>?_
 simp only [RepL,Rep] at ha
 obtain ⟨u1,us1,e1,rfl,u2,us2,rfl,rfl,rfl⟩:=ha
 obtain rfl:vs = #[.string s,.string p]:=by cases vs;simp_all
 refine (Tryz.strings_CutPrefix s p w).mono ?_
 rintro e w' ⟨rfl,rfl⟩
 refine ⟨_,rfl,Below.refl _ _,?_⟩
 simp only [Rep,RepL]
 exact ⟨_,rfl,_,_,rfl,rfl,_,_,rfl,rfl,rfl⟩
theorem cut_a {s p:ByteArray}{h:AH}(hz:s.size<4294967281):Ac 158 [sv s,sv p] h (.tup [sv (bA (Lib.cut (aB s) (aB p)).1),sv (bA (Lib.cut (aB s) (aB p)).2.1),bv (Lib.cut (aB s) (aB p)).2.2]):=by
 refine ACalls.of_below (by kernel_rfl) fun w g vs hs ha=>?_
 simp only [RepL,Rep] at ha
 obtain ⟨u1,us1,e1,rfl,u2,us2,rfl,rfl,rfl⟩:=ha
 obtain rfl:vs = #[.string s,.string p]:=by cases vs;simp_all
 obtain ⟨m,hm⟩:=hs.glob.w.maxLen
 refine (Tryz.strings_Cut s p m w hz hm).mono ?_
 rintro e w' ⟨rfl,n,rfl⟩
 refine ⟨_,rfl,Zoy (Below.refl _ _) n,?_⟩
 simp only [Rep,RepL]
 exact ⟨_,rfl,_,_,rfl,rfl,_,_,rfl,rfl,_,_,rfl,rfl,rfl⟩
theorem atoi_a {s:ByteArray}{n:Int}{h:AH}(hz:s.size≤18) (hn:Lib.atoi (aB s)=some n):Ac 175 [sv s] h (.tup [iv n,.v .nilIface]):=by
 refine ACalls.of_below (by kernel_rfl) fun w g vs hs ha=>?_
 simp only [RepL,Rep] at ha
 obtain ⟨u1,us1,e1,rfl,rfl⟩:=ha
 obtain rfl:vs = #[.string s]:=by cases vs;simp_all
 refine (Tryz.strconv_Atoi s n hz hn w).mono ?_
 rintro e w' ⟨rfl,t,rfl⟩
 refine ⟨_,rfl,Lib.bytesWorld_below w _ t,?_⟩
 simp only [Rep,RepL]
 exact ⟨_,rfl,_,_,rfl,rfl,_,_,rfl,rfl,rfl⟩
theorem ZpW {n:Int}{h:AH}(h0 : -9223372036854775808≤n) (h1:n≤9223372036854775807):Ac 92 [iv n] h (sv (bA (Lib.itoa n))):=by
 refine ACalls.of_below (by kernel_rfl) fun w g vs hs ha=>?_
 simp only [RepL,Rep] at ha
 obtain ⟨u1,us1,e1,rfl,rfl⟩:=ha
 obtain rfl:vs = #[.int .i64 n]:=by cases vs;simp_all
 refine (Tryz.strconv_Itoa n h0 h1 w hs.glob.w.pow10).mono ?_
 rintro e w' ⟨rfl,k,os,rfl⟩
 refine ⟨_,rfl,⟨rfl,rfl,rfl,by show w.heap.size≤(w.heap++os).size;simp,fun j hj=>?_⟩,?_⟩
 ·show (w.heap++os)[j]?=w.heap[j]?
  rw [Array.getElem?_append_left hj]
 ·simp only [Rep];rfl
end Go.Proofs.YtgjchdhdopgkkaaGreatDoor
end
section
namespace Go.Proofs.YtgjchdhdopgkkaaGreatDoor
open Go.Ab Civ
section
theorem ZjJ {τ:Operand→AV}{y0 y1 y2 y3 y4 y5 y6 y7 y8 y9 y10 y11:Operand}{x0_0 x1_0 x2_0 x3_0 x4_0 x5_0 x6_0 x7_0 x8_0 x9_0 x10_0 x11_0:AV}(h0:Zap (τ y0)=some [x0_0]) (l0:[x0_0].all leaf=true) (h1:Zap (τ y1)=some [x1_0]) (l1:[x1_0].all leaf=true) (h2:Zap (τ y2)=some [x2_0]) (l2:[x2_0].all leaf=true) (h3:Zap (τ y3)=some [x3_0]) (l3:[x3_0].all leaf=true) (h4:Zap (τ y4)=some [x4_0]) (l4:[x4_0].all leaf=true) (h5:Zap (τ y5)=some [x5_0]) (l5:[x5_0].all leaf=true) (h6:Zap (τ y6)=some [x6_0]) (l6:[x6_0].all leaf=true) (h7:Zap (τ y7)=some [x7_0]) (l7:[x7_0].all leaf=true) (h8:Zap (τ y8)=some [x8_0]) (l8:[x8_0].all leaf=true) (h9:Zap (τ y9)=some [x9_0]) (l9:[x9_0].all leaf=true) (h10:Zap (τ y10)=some [x10_0]) (l10:[x10_0].all leaf=true) (h11:Zap (τ y11)=some [x11_0]) (l11:[x11_0].all leaf=true):Zat τ [(0,1,y0),(1,1,y1),(2,1,y2),(3,1,y3),(4,1,y4),(5,1,y5),(6,1,y6),(7,1,y7),(8,1,y8),(9,1,y9),(10,1,y10),(11,1,y11)] [(.v (.int .i64 0)),(.v (.int .i64 0)),(.v (.int .i64 0)),(.v (.int .i64 0)),(.v (.int .i64 0)),(.v (.int .i64 0)),(.v (.int .i64 0)),(.v (.int .i64 0)),(.v (.int .i64 0)),(.v (.int .i64 0)),(.v (.int .i64 0)),(.v (.int .i64 0))]=some [x0_0,x1_0,x2_0,x3_0,x4_0,x5_0,x6_0,x7_0,x8_0,x9_0,x10_0,x11_0]:=by
 simp only [Zat,h0,l0,h1,l1,h2,l2,h3,l3,h4,l4,h5,l5,h6,l6,h7,l7,h8,l8,h9,l9,h10,l10,h11,l11]
 rfl
theorem ZeS {a0 a1 a2:AV}{l:List AV}:((a0::a1::a2::l).drop 0).take 3=[a0,a1,a2]:=rfl
theorem ZnH {τ:Operand→AV}{y0 y1 y2:Operand}{x0_0 x1_0 x2_0:AV}(h0:Zap (τ y0)=some [x0_0]) (l0:[x0_0].all leaf=true) (h1:Zap (τ y1)=some [x1_0]) (l1:[x1_0].all leaf=true) (h2:Zap (τ y2)=some [x2_0]) (l2:[x2_0].all leaf=true):Zat τ [(0,1,y0),(1,1,y1),(2,1,y2)] [(.v (.int .i64 0)),(.v (.int .i64 0)),(.v (.int .i64 0))]=some [x0_0,x1_0,x2_0]:=by
 simp only [Zat,h0,l0,h1,l1,h2,l2]
 rfl
theorem ZhA {a0 a1 a2 c0 c1 c2:AV}{l:List AV}:setCells (a0::a1::a2::l) 0 [c0,c1,c2]=c0::c1::c2::l:=rfl
theorem Zt8 {τ:Operand→AV}:Zat τ [] [(.v (.int .i64 0)),(.v (.int .i64 0)),(.v (.int .i64 0))]=some [(.v (.int .i64 0)),(.v (.int .i64 0)),(.v (.int .i64 0))]:=rfl
end
def c149:AC:=(Sr [Mb 6 false] (Sr [Mv 7 0,Mv 8 1,Bn 9 .geq 7 8,Mv 10 9,Ot 11 10 (mt 0),Ot 12 10 (mt 2),Ot 13 10 (.bin .leq (.tmp 11) (.tmp 12)),Oo 14 (.pick (.tmp 10) (.tmp 13) (.const (.bool false))),Mv 6 14] .ret))
theorem k149:ZaH Tryz.prog 149=some ⟨c149,[(.tmp 6)],15⟩:=by kernel_rfl
def c154:AC:=(Sr [Mb 2 false] (Sr [Mv 3 0,Bc 4 .rem 3 4,Bc 5 .eql 4 0,Mv 6 5,Ot 7 6 (mt 0),Ot 8 6 (.bin .rem (.tmp 7) (Ci 100)),Ot 9 6 (.bin .neq (.tmp 8) (Ci 0)),Ot 10 6 (mt 9),Of 11 10 (mt 0),Of 12 10 (.bin .rem (.tmp 11) (Ci 400)),Of 13 10 (.bin .eql (.tmp 12) (Ci 0)),Ot 14 6 (.pick (.tmp 10) (.const (.bool true)) (.tmp 13)),Oo 15 (.pick (.tmp 6) (.tmp 14) (.const (.bool false))),Mv 2 15] .ret))
theorem k154:ZaH Tryz.prog 154=some ⟨c154,[(.tmp 2)],16⟩:=by kernel_rfl
def c153:AC:=(Sr [Oo 0 (.mv (.const (.slice none 0 0)))] (Sr [Oo 1 (.lit 3 1 12 [(iv 0),(iv 0),(iv 0),(iv 0),(iv 0),(iv 0),(iv 0),(iv 0),(iv 0),(iv 0),(iv 0),(iv 0)] [(0,(1,(Ci 31))),(1,(1,(Ci 28))),(2,(1,(Ci 31))),(3,(1,(Ci 30))),(4,(1,(Ci 31))),(5,(1,(Ci 30))),(6,(1,(Ci 31))),(7,(1,(Ci 31))),(8,(1,(Ci 30))),(9,(1,(Ci 31))),(10,(1,(Ci 30))),(11,(1,(Ci 31)))]),Mv 0 1] .ret))
theorem k153:ZaH Tryz.prog 153=some ⟨c153,[(.tmp 0)],2⟩:=by kernel_rfl
def c124:AC:=(Sr [Mc 4 0] (Sr [Cl 6 153 [],Mv 7 1,Bc 8 .sub 7 1,Oo 9 (.ia 1 (.tmp 6) (.tmp 8)),Ld 10 9,Mv 5 10] (.seq (Sr [Mv 11 1,Bc 12 .eql 11 2,Mv 13 12,Ot 14 13 (mt 0),Ot 15 13 (.call (.func 154) [(.tmp 14)]),Oo 16 (.pick (.tmp 13) (.tmp 15) (.const (.bool false)))] (Cd 16 (.reg [Mv 17 5,Bc 18 .add 17 1,Mv 5 18]) .skip)) (Sr [Mv 19 5,Mv 4 19] .ret))))
theorem k124:ZaH Tryz.prog 124=some ⟨c124,[(.tmp 4)],20⟩:=by kernel_rfl
def c122:AC:=(Sr [Oo 1 (.box 60 3 (.tmp 0)),Mc 2 0] (Sd [Fa 5 0 1,Ld 6 5,Cl 7 150 [(.tmp 6)],Cl 8 151 [],Bn 9 .sub 7 8,Fa 10 2 1,Ld 11 10,Bn 12 .add 9 11,Bc 13 .sub 12 1,Mv 3 13] (.seq (Sr [Mc 4 1] (.block 0 (.loop (.seq (Sr [Mv 14 4,Fa 15 1 1,Ld 16 15,Bn 17 .lss 14 16] (Cd 17 .skip (.exit 0))) (.seq (.block 1 (.reg [Mv 20 3,Fa 21 0 1,Ld 22 21,Mv 23 4,Cl 24 124 [(.tmp 22),(.tmp 23)],Bn 25 .add 20 24,Mv 3 25])) (.reg [Mv 18 4,Bc 19 .add 18 1,Mv 4 19])))))) (Sr [Mv 26 3,Mv 2 26] .ret))))
theorem k122:ZaH Tryz.prog 122=some ⟨c122,[(.tmp 2)],27⟩:=by kernel_rfl
end Go.Proofs.YtgjchdhdopgkkaaGreatDoor
end
