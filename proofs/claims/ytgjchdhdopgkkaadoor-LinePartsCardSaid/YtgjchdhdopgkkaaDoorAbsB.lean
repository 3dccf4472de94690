/-
  What each operation does to the proof's plain values. No condition.
-/
import Derived.Test.YtgjchdhdopgkkaaDoorAbsA
import Derived.Laws.StructEq
import Derived.Laws.Slices
import Derived.Laws.BytesString
import Derived.Lib.AppendZerosOnto
import Derived.Orders
import Derived.Still
import Derived.Laws.Cover3
import Derived.Lib.SliceRun
set_option linter.unusedVariables false
set_option linter.unusedSimpArgs false
namespace Go.Ab
section

inductive LK where
  | int | str | bool
  deriving DecidableEq
/-- operations, what they need of types written out -/
inductive AOp where
  | mv (x : Operand)
  | pick (c a b : Operand)
  | new (ty sz : Nat) (zero : List AV)
  | box (ty sz : Nat) (x : Operand)
  | build (zero : List AV) (parts : List (Nat × Nat × Operand))
  | lit (ty st len : Nat) (zero : List AV) (parts : List (Nat × Nat × Operand))
  | load (agg : Bool) (sz : Nat) (x : Operand)
  | loadR (agg : Bool) (sz : Nat) (x : Operand)
  | store (sz : Nat) (p x : Operand)
  | nck (x : Operand)
  | bin (op : BinOp) (x y : Operand)
  | eqb (neg : Bool) (x y : Operand)
  | eqs (neg : Bool) (ks : List LK) (x y : Operand)
  | eqn (neg : Bool) (x : Operand)
  | un (op : UnOp) (x : Operand)
  | cvi (k : IntKind) (x : Operand)
  | cvs (x : Operand)
  | b2s (x : Operand)
  | mkif (t : Nat) (x : Operand)
  | mkfn (f : Nat) (caps : List Operand)
  | slc (st : Nat) (x : Operand) (lo hi mx : Option Operand)
  | sls (x : Operand) (lo hi : Option Operand)
  | fa (off : Nat) (x : Operand)
  | fld (agg : Bool) (off sz : Nat) (x : Operand)
  | ia (st : Nat) (x i : Operand)
  | ix (x i : Operand)
  | ext (x : Operand) (n : Nat)
  | len (str : Bool) (x : Operand)
  | mm (isMax : Bool) (x y : Operand)
  | app (ty sz bytes : Nat) (s x : Operand)
  | appz (ty sz bytes : Nat) (s x : Operand)
  | cap (x : Operand)
  | call (f : Operand) (args : List Operand)
  | panic (x : Operand)
structure AOper where
  dst : Option Nat
  guard : Option (Nat × Bool)
  op : AOp

/-- cells of a value -/
def cellsV : AV → Option (List AV)
  | .agg cs => some cs
  | .v (.agg _) => none
  | .v (.tuple _) => none
  | .any => none
  | .tup _ => none
  | x => some [x]
def leaf : AV → Bool
  | .v (.agg _) => false
  | .v (.tuple _) => false
  | .any => false
  | .agg _ => false
  | .tup _ => false
  | _ => true
def loadAV : Bool → Nat → List AV → Option AV
  | true, sz, cs => if sz ≤ cs.length then some (.agg (cs.take sz)) else none
  | false, _, c :: _ => some c
  | false, _, [] => none
def partAV (agg : Bool) (off sz : Nat) (cs : List AV) : Option AV := loadAV agg sz (cs.drop off)

def iBin (op : BinOp) (k : IntKind) (a b : Int) : Option AV :=
  match op with
  | .add => some (.v (.int k (k.wrap (a + b))))
  | .sub => some (.v (.int k (k.wrap (a - b))))
  | .mul => some (.v (.int k (k.wrap (a * b))))
  | .quo => if b = 0 then none else some (.v (.int k (k.wrap (a.tdiv b))))
  | .rem => if b = 0 then none else some (.v (.int k (a.tmod b)))
  | .and => some (.v (.int k (k.wrap (BitVec.ofInt k.bits a &&& BitVec.ofInt k.bits b).toNat)))
  | .or => some (.v (.int k (k.wrap (BitVec.ofInt k.bits a ||| BitVec.ofInt k.bits b).toNat)))
  | .xor => some (.v (.int k (k.wrap (BitVec.ofInt k.bits a ^^^ BitVec.ofInt k.bits b).toNat)))
  | .eql => some (.v (.bool (a == b)))
  | .neq => some (.v (.bool (a != b)))
  | .lss => some (.v (.bool (decide (a < b))))
  | .leq => some (.v (.bool (decide (a ≤ b))))
  | .gtr => some (.v (.bool (decide (a > b))))
  | .geq => some (.v (.bool (decide (a ≥ b))))
  | _ => none
def sBin (op : BinOp) (a b : ByteArray) : Option AV :=
  match op with
  | .add => if a.size + b.size ≤ 9223372036854775807 then some (.v (.string (a ++ b))) else none
  | .eql => some (.v (.bool (a == b)))
  | .neq => some (.v (.bool (!(a == b))))
  | .lss => some (.v (.bool (Op.bytesLess a.toList b.toList)))
  | .leq => some (.v (.bool (Op.bytesLess a.toList b.toList || a.toList == b.toList)))
  | .gtr => some (.v (.bool (!(Op.bytesLess a.toList b.toList || a.toList == b.toList))))
  | .geq => some (.v (.bool (!(Op.bytesLess a.toList b.toList))))
  | _ => none
def vBin (op : BinOp) : Value → Value → Option AV
  | .int k a, .int k' b => match op with
    | .shl => if b < 0 then none else some (.v (.int k (k.wrap (a * 2 ^ (min b.toNat k.bits)))))
    | .shr => if b < 0 then none else some (.v (.int k (a.fdiv (2 ^ (min b.toNat k.bits)))))
    | op => if k = k' then iBin op k a b else none
  | .string a, .string b => sBin op a b
  | _, _ => none
def eqLeaf : LK → Value → Value → Option Bool
  | .int, .int k a, .int k' b => if k = k' then some (a == b) else none
  | .str, .string a, .string b => some (a == b)
  | .bool, .bool a, .bool b => some (a == b)
  | _, _, _ => none
def eqCells : List LK → List AV → List AV → Option Bool
  | [], [], [] => some true
  | k :: ks, .v a :: xs, .v b :: ys => match eqLeaf k a b, eqCells ks xs ys with
    | some p, some q => some (p && q)
    | _, _ => none
  | _, _, _ => none
def byteAt (s : ByteArray) (i : Nat) : UInt8 := s.data.toList.getD i 0
def bytesOf : List AV → Option (List UInt8)
  | [] => some []
  | .v (.int .u8 n) :: cs => (bytesOf cs).map (UInt8.ofNat n.toNat :: ·)
  | _ => none
def allV : List AV → Option (List Value)
  | [] => some []
  | .v x :: cs => (allV cs).map (x :: ·)
  | _ => none
def setCells (cells : List AV) (off : Nat) : List AV → List AV
  | [] => cells
  | c :: cs => setCells (cells.set off c) (off + 1) cs
def fillAV (τ : Operand → AV) : List (Nat × Nat × Operand) → List AV → Option (List AV)
  | [], cells => some cells
  | (off, sz, x) :: ps, cells => match cellsV (τ x) with
    | some cs => if cs.length = sz ∧ off + sz ≤ cells.length ∧ cs.all leaf then fillAV τ ps (setCells cells off cs) else none
    | none => none
def optInt (τ : Operand → AV) (d : Int) : Option Operand → Option Int
  | none => some d
  | some x => match τ x with
    | .v (.int _ i) => some i
    | _ => none

/-- operations that look, and make nothing -/
def aval (h : AH) (τ : Operand → AV) : AOp → Option AV
  | .mv x => some (τ x)
  | .pick c a b => match τ c with
    | .v (.bool c) => some (bif c then τ a else τ b)
    | _ => none
  | .build zero ps => (fillAV τ ps zero).map .agg
  | .load agg sz x => (cellsAt h (τ x)).bind (loadAV agg sz)
  | .loadR agg sz x => match τ x with
    | .rp cs => loadAV agg sz cs
    | _ => none
  | .nck x => match τ x with
    | .ptr i v o => some (.ptr i v o)
    | .rp cs => some (.rp cs)
    | .v (.func (.func f) a b) => some (.v (.func (.func f) a b))
    | .clo (.func f) cs => some (.clo (.func f) cs)
    | _ => none
  | .bin op x y => match τ x, τ y with
    | .v a, .v b => vBin op a b
    | _, _ => none
  | .eqb neg x y => match τ x, τ y with
    | .v (.bool a), .v (.bool b) => some (.v (.bool (bif neg then !(a == b) else a == b)))
    | _, _ => none
  | .eqs neg ks x y => match τ x, τ y with
    | .agg xs, .agg ys => (eqCells ks xs ys).map fun b => .v (.bool (bif neg then !b else b))
    | _, _ => none
  | .un op x => match op, τ x with
    | .neg, .v (.int k n) => some (.v (.int k (k.wrap (0 - n))))
    | .not, .v (.bool b) => some (.v (.bool (!b)))
    | _, _ => none
  | .cvi k x => match τ x with
    | .v (.int _ n) => some (.v (.int k (k.wrap n)))
    | _ => none
  | .cvs x => match τ x with
    | .v (.string s) => some (.v (.string s))
    | _ => none
  | .b2s x => match rowsAt h (τ x) with
    | some (n, cs) => if cs.length = n then (bytesOf cs).map fun l => .v (.string ⟨l.toArray⟩) else none
    | none => none
  | .mkif t x => match τ x with
    | .v a => some (.v (.iface t a))
    | .agg cs => (allV cs).map fun l => .v (.iface t (.agg l.toArray))
    | _ => none
  | .mkfn f caps => some (.clo (.func f) (caps.map τ))
  | .slc st x lo hi mx => match τ x with
    | .sl n st' full cs =>
      match optInt τ 0 lo, optInt τ n hi with
      | some l, some h => if st = st' ∧ 0 ≤ l ∧ l ≤ h ∧ h ≤ n then
          match mx with
          | none => some (.sl (h.toNat - l.toNat) st (full && decide (h = n)) ((cs.drop (l.toNat * st)).take ((h.toNat - l.toNat) * st)))
          | some m => match hi, τ m with
            | some _, .v (.int _ m) => if h ≤ m ∧ m ≤ n then some (.sl (h.toNat - l.toNat) st (decide (h = m)) ((cs.drop (l.toNat * st)).take ((h.toNat - l.toNat) * st))) else none
            | _, _ => none
        else none
      | _, _ => none
    | .own i v n =>
      match lo, optInt τ n hi, mx with
      | none, some h, none => if 0 ≤ h ∧ h ≤ n then some (.own i v h.toNat) else none
      | _, some h, some m => match optInt τ 0 lo, τ m with
        | some 0, .v (.int _ 0) => if h = 0 ∧ hi.isSome = true then some (.sl 0 0 true []) else none
        | _, _ => none
      | _, _, _ => none
    | _ => none
  | .sls x lo hi => match τ x with
    | .v (.string s) => match optInt τ 0 lo, optInt τ s.size hi with
      | some l, some h => if 0 ≤ l ∧ l ≤ h ∧ h ≤ s.size then some (.v (.string (s.extract l.toNat h.toNat))) else none
      | _, _ => none
    | _ => none
  | .fa off x => match τ x with
    | .ptr i v o => some (.ptr i v (o + off))
    | .rp cs => some (.rp (cs.drop off))
    | _ => none
  | .fld agg off sz x => match τ x with
    | .agg cs => partAV agg off sz cs
    | _ => none
  | .ia st x i => match τ x, τ i with
    | .sl n st' _ cs, .v (.int _ i) => if st = st' ∧ 0 < st ∧ 0 ≤ i ∧ i < n then some (.rp ((cs.drop (i.toNat * st)).take st)) else none
    | .own id v n, .v (.int _ i) => match h[id]? with
      | some (.mk v' _ s cells) => if v' = v ∧ s = st ∧ 0 < st ∧ 0 ≤ i ∧ i < n ∧ n * st ≤ cells.length then some (.ptr id v (i.toNat * st)) else none
      | _ => none
    | _, _ => none
  | .ix x i => match τ x, τ i with
    | .v (.string s), .v (.int _ i) => if 0 ≤ i ∧ i < s.size then some (.v (.int .u8 (byteAt s i.toNat).toNat)) else none
    | _, _ => none
  | .ext x n => match τ x with
    | .tup l => l[n]?
    | _ => none
  | .len str x => match str, τ x with
    | true, .v (.string s) => some (.v (.int .i64 s.size))
    | false, .sl n _ _ _ => some (.v (.int .i64 n))
    | false, .own _ _ n => some (.v (.int .i64 n))
    | _, _ => none
  | .cap x => match τ x with
    | .sl n _ true _ => some (.v (.int .i64 n))
    | _ => none
  | .mm isMax x y => match τ x, τ y with
    | .v (.int k a), .v (.int _ b) => some (.v (.int k (bif isMax then (if b > a then b else a) else (if b < a then b else a))))
    | _, _ => none
  | _ => none

/-- what append takes: how many, the cells -/
def srcCells (h : AH) (sz : Nat) : AV → Option (Nat × List AV)
  | .v (.string s) => if sz = 1 then some (s.size, s.data.toList.map fun b => .v (.int .u8 b.toNat)) else none
  | x => match rowsAt h x with
    | some (m, cs) => if cs.length = m * sz then some (m, cs) else none
    | none => none

/-- operations that make memory or write -/
def aeff (h : AH) (τ : Operand → AV) : AOp → Option (AV × AH)
  | .new ty sz zero => some (.ptr h.length 0 0, h ++ [.mk 0 ty sz zero])
  | .box ty sz x => match cellsV (τ x) with
    | some cs => if cs.length = sz then some (.ptr h.length 0 0, h ++ [.mk 0 ty sz cs]) else none
    | none => none
  | .lit ty st len zero ps => match fillAV τ ps zero with
    | some cs => some (.own h.length 0 len, h ++ [.mk 0 ty st cs])
    | none => none
  | .store sz p x => match τ p, cellsV (τ x) with
    | .ptr id ver off, some cs => match h[id]? with
      | some (.mk v ty s cells) => if v = ver ∧ cs.length = sz ∧ off + sz ≤ cells.length ∧ cs.all leaf then some (.v undef, h.set id (.mk v ty s (setCells cells off cs))) else none
      | _ => none
    | _, _ => none
  | .app ty sz bytes s x => match srcCells h sz (τ x) with
    | some (m, news) => match τ s with
      | .own id ver n => match h[id]? with
        | some (.mk v ty' st cells) => if v = ver ∧ ty' = ty ∧ st = sz ∧ cells.length = n * sz ∧ (n + m) * bytes ≤ 140737488355328 ∧ news.all leaf then some (.own id (ver + 1) (n + m), h.set id (.mk (ver + 1) ty sz (cells ++ news))) else none
        | _ => none
      | .sl 0 _ true _ => if m * bytes ≤ 140737488355328 ∧ news.all leaf then some (.own h.length 0 m, h ++ [.mk 0 ty sz news]) else none
      | _ => none
    | none => none
  | .appz ty sz bytes s x => match τ s, τ x with
    | .sl 0 _ true _, .v (.int _ k) => if 0 < k ∧ 0 < sz ∧ 0 < bytes ∧ k * bytes ≤ 140737488355328 then some (.own h.length 0 k.toNat, h ++ [.mk 0 ty sz []]) else none
    | _, _ => none
  | _ => none

end
section
variable {P : Program}

theorem leaf_oneCell {w : World} {g : Gh} {c : AV} {u : Value} (hl : leaf c = true) (hr : Rep w g c u) : u.oneCell' = true := by
  cases c <;> simp only [Rep] at hr <;> try (simp [leaf] at hl; done)
  case v x => subst hr; cases u <;> first | rfl | (simp [leaf] at hl; done)
  case sl => obtain ⟨_, _, _, rfl, _⟩ := hr; rfl
  case own => obtain ⟨_, _, _, _, _, rfl⟩ := hr; rfl
  case ptr => obtain ⟨_, _, _, rfl⟩ := hr; rfl
  case rp => obtain ⟨_, _, rfl, _⟩ := hr; rfl
  case clo => obtain ⟨_, rfl, _⟩ := hr; rfl
theorem leafs_oneCell {w : World} {g : Gh} : ∀ {cs : List AV} {us : List Value}, cs.all leaf = true → RepL w g cs us → ∀ u ∈ us, u.oneCell' = true
  | [], us, _, h, u, hu => by simp only [RepL] at h; subst h; simp at hu
  | c :: cs, us, hl, h, u, hu => by
    simp only [RepL] at h
    obtain ⟨u', us', rfl, h1, h2⟩ := h
    simp only [List.all_cons, Bool.and_eq_true] at hl
    rcases List.mem_cons.1 hu with rfl | hu
    · exact leaf_oneCell hl.1 h1
    · exact leafs_oneCell hl.2 h2 u hu
theorem cellsV_rep {w : World} {g : Gh} {c : AV} {u : Value} {cs : List AV} (hc : cellsV c = some cs) (hr : Rep w g c u) : RepL w g cs u.cells.toList := by
  cases c <;> simp only [Rep] at hr
  case v x =>
    subst hr
    cases u <;> simp only [cellsV] at hc <;> first | (cases hc; done) | (cases hc; simp only [Value.cells, RepL]; exact ⟨_, [], rfl, by simp only [Rep], rfl⟩)
  case any => simp [cellsV] at hc
  case tup => simp [cellsV] at hc
  case agg l => simp only [cellsV] at hc; cases hc; obtain ⟨vs, rfl, h⟩ := hr; exact h
  case sl => simp only [cellsV] at hc; cases hc; obtain ⟨h0, A, cap, rfl, h⟩ := hr; simp only [Value.cells, RepL]; exact ⟨_, [], rfl, by simp only [Rep]; exact ⟨h0, A, cap, rfl, h⟩, rfl⟩
  case own => simp only [cellsV] at hc; cases hc; obtain ⟨A, cap, h1, h2, h3, rfl⟩ := hr; simp only [Value.cells, RepL]; exact ⟨_, [], rfl, by simp only [Rep]; exact ⟨A, cap, h1, h2, h3, rfl⟩, rfl⟩
  case ptr => simp only [cellsV] at hc; cases hc; obtain ⟨A, cap, h1, rfl⟩ := hr; simp only [Value.cells, RepL]; exact ⟨_, [], rfl, by simp only [Rep]; exact ⟨A, cap, h1, rfl⟩, rfl⟩
  case rp => simp only [cellsV] at hc; cases hc; obtain ⟨A, cap, rfl, h⟩ := hr; simp only [Value.cells, RepL]; exact ⟨_, [], rfl, by simp only [Rep]; exact ⟨A, cap, rfl, h⟩, rfl⟩
  case clo => simp only [cellsV] at hc; cases hc; obtain ⟨A, rfl, h⟩ := hr; simp only [Value.cells, RepL]; exact ⟨_, [], rfl, by simp only [Rep]; exact ⟨A, rfl, h⟩, rfl⟩

theorem Addr.add_off (b off j : Nat) : (⟨b, off, none⟩ : Addr).add j = ⟨b, off + j, none⟩ := by unfold Addr.add; split <;> simp_all

/-- a load -/
theorem run_loadAV {w : World} {g : Gh} {cs : List AV} {b off sz : Nat} {agg : Bool} {av : AV} {t : TypeId} (hc : RepC w g cs b off) (hl : loadAV agg sz cs = some av)
    (hagg : (isAgg t).run P w = .ok agg w) (hsz : (sizeOf t).run P w = .ok sz w) : ∃ v, (Instr.loadAt t (.pointer (some ⟨b, off, none⟩))).run P w = .ok v w ∧ Rep w g av v := by
  cases agg
  · cases cs with
    | nil => simp [loadAV] at hl
    | cons c cs =>
      simp only [loadAV, Option.some.injEq] at hl
      subst hl
      simp only [RepC] at hc
      obtain ⟨⟨u, h1, h2⟩, _⟩ := hc
      exact ⟨u, by simp [Instr.loadAt, Instr.sureAddr, loadVar, hagg, h1], h2⟩
  · simp only [loadAV] at hl
    split at hl <;> try (cases hl; done)
    rename_i hle
    cases hl
    obtain ⟨us, h1, h2⟩ := (hc.take sz).list
    have hlen : us.length = sz := by rw [h1.length, List.length_take]; omega
    have hload := run_loadCells_list (P := P) (w := w) ⟨b, off, none⟩ us (fun j v hj => by rw [Addr.add_off]; exact h2 j v hj)
    rw [hlen] at hload
    refine ⟨.agg us.toArray, by simp [Instr.loadAt, Instr.sureAddr, loadVar, hagg, hsz, hload], ?_⟩
    simp only [Rep]
    exact ⟨_, rfl, by simpa using h1⟩

theorem part_rep {w : World} {g : Gh} {cs : List AV} {vs : Array Value} {off sz : Nat} {agg : Bool} {av : AV} {t : TypeId} (hr : RepL w g cs vs.toList) (hl : partAV agg off sz cs = some av)
    (hagg : (isAgg t).run P w = .ok agg w) (hsz : (sizeOf t).run P w = .ok sz w) : ∃ v, (part t vs off).run P w = .ok v w ∧ Rep w g av v := by
  unfold partAV at hl
  have hd := hr.drop off
  cases agg
  · cases hcs : cs.drop off with
    | nil => rw [hcs] at hl; simp [loadAV] at hl
    | cons c cs' =>
      rw [hcs] at hl hd
      simp only [loadAV, Option.some.injEq] at hl
      subst hl
      obtain ⟨u, h1, h2⟩ := hd.get (k := 0) (c := c) (by simp)
      have h1' : vs[off]? = some u := by simpa [List.getElem?_drop] using h1
      exact ⟨u, by simp [part, hagg, h1'], h2⟩
  · simp only [loadAV] at hl
    split at hl <;> try (cases hl; done)
    rename_i hle
    cases hl
    refine ⟨.agg (vs.extract off (off + sz)), by simp [part, hagg, hsz], ?_⟩
    simp only [Rep]
    refine ⟨_, rfl, ?_⟩
    have := hd.take sz
    rw [Array.toList_extract, List.extract_eq_take_drop]
    simpa using this

theorem bytesOf_rep {w : World} {g : Gh} : ∀ {cs : List AV} {l : List UInt8} {us : List Value}, bytesOf cs = some l → RepL w g cs us → ∃ ns : List Int, us = ns.map (Value.int .u8) ∧ l = ns.map fun n => UInt8.ofNat n.toNat
  | [], l, us, h, hr => by simp only [bytesOf, Option.some.injEq] at h; simp only [RepL] at hr; subst h; subst hr; exact ⟨[], rfl, rfl⟩
  | c :: cs, l, us, h, hr => by
    simp only [RepL] at hr
    obtain ⟨u, us', rfl, h1, h2⟩ := hr
    cases c <;> try (simp [bytesOf] at h; done)
    rename_i x
    cases x <;> try (simp [bytesOf] at h; done)
    rename_i k n
    cases k <;> try (simp [bytesOf] at h; done)
    simp only [bytesOf, Option.map_eq_some_iff] at h
    obtain ⟨l', hl', rfl⟩ := h
    simp only [Rep] at h1
    obtain ⟨ns, rfl, rfl⟩ := bytesOf_rep hl' h2
    exact ⟨n :: ns, by simp [h1], rfl⟩

def isAggD : TypeDesc → Bool
  | .struct _ => true
  | .array _ _ => true
  | _ => false
theorem run_isAgg {t : TypeId} {d : TypeDesc} (h : P.underlying t = some d) (w : World) : (isAgg t).run P w = .ok (isAggD d) w := by
  cases d <;> simp [isAgg, run_underlying h, isAggD]
theorem run_sizeOf {t : TypeId} {i : TypeInfo} (h : P.info? t = some i) (w : World) : (sizeOf t).run P w = .ok i.size w := by simp [sizeOf, typeInfo, h]

/-- the leaves of a type that can be compared, in their order -/
def leafsF (f : TypeId → Option (List LK)) : List Field → Nat → Option (List LK)
  | [], _ => some []
  | fd :: fs, off => if fd.offset = off ∧ fd.name ≠ "_" then match f fd.type with
    | some ks => (leafsF f fs (off + ks.length)).map (ks ++ ·)
    | none => none
    else none
def leafs (P : Program) : Nat → TypeId → Option (List LK)
  | 0, _ => none
  | d + 1, t => match P.underlying t with
    | some (.int _) => some [.int]
    | some .string => some [.str]
    | some .bool => some [.bool]
    | some (.struct fs) => if P.stoodInHeld t = false then match leafsF (leafs P d) fs.toList 0, P.info? t with
      | some ks, some i => if i.size = ks.length then some ks else none
      | _, _ => none
      else none
    | _ => none

def strideOf (P : Program) (t : TypeId) : Option Nat := match P.underlying t with
  | some (.slice e) => (P.info? e).map (·.size)
  | _ => none
def zeroOf (P : Program) (t : TypeId) : Option (List AV) := match P.info? t with
  | some i => match i.zero with
    | some z => if z.cells.size = i.size then some (z.cells.toList.map AV.ofCell) else none
    | none => none
  | none => none
def partsOf (P : Program) (fs : Array Field) : List (Nat × Operand) → Option (List (Nat × Nat × Operand))
  | [] => some []
  | (i, x) :: ps => match fs[i]? with
    | some f => match P.info? f.type with
      | some j => (partsOf P fs ps).map ((f.offset, j.size, x) :: ·)
      | none => none
    | none => none
def litZero (z : Array Value) (n : Nat) : List AV := ((Array.range n).map (z[· % z.size]!)).toList.map AV.ofCell

def compBin (P : Program) (op : BinOp) (t : TypeId) (x y : Operand) : Option AOp :=
  match P.underlying t with
  | some (.int _) => some (.bin op x y)
  | some .string => some (.bin op x y)
  | some .bool => match op with
    | .eql => some (.eqb false x y)
    | .neq => some (.eqb true x y)
    | _ => none
  | some (.struct _) => match op, leafs P 20 t with
    | .eql, some ks => if P.eqGuardType P.depth t = false then some (.eqs false ks x y) else none
    | .neq, some ks => if P.eqGuardType P.depth t = false then some (.eqs true ks x y) else none
    | _, _ => none
  | some (.slice _) => match op, y with
    | .eql, .const (.slice none 0 0) => some (.eqn false x)
    | .neq, .const (.slice none 0 0) => some (.eqn true x)
    | _, _ => none
  | _ => none
def compCvt (P : Program) (s d : TypeId) (x : Operand) : Option AOp :=
  match P.underlying s, P.underlying d with
  | some (.int _), some (.int k) => some (.cvi k x)
  | some .string, some .string => some (.cvs x)
  | some (.slice e), some .string => match P.underlying e with
    | some (.int .u8) => some (.b2s x)
    | _ => none
  | _, _ => none
def compCall (P : Program) (c : Call) : Option AOp :=
  match c.callee with
  | .value f => some (.call f c.args.toList)
  | .invoke _ _ => none
  | .builtin .len => match c.args.toList, c.argTypes.toList with
    | [x], [t] => match P.underlying t with
      | some .string => some (.len true x)
      | some (.slice _) => some (.len false x)
      | _ => none
    | _, _ => none
  | .builtin .cap => match c.args.toList, c.argTypes.toList with
    | [x], [t] => match P.underlying t with
      | some (.slice _) => some (.cap x)
      | _ => none
    | _, _ => none
  | .builtin .max => match c.args.toList with
    | [x, y] => some (.mm true x y)
    | _ => none
  | .builtin .min => match c.args.toList with
    | [x, y] => some (.mm false x y)
    | _ => none
  | .builtin .append => match c.args.toList, c.argTypes.toList with
    | [s, x], [t, u] => match P.underlying t, P.underlying u with
      | some (.slice e), some (.slice e') => match P.info? e, zeroOf P e with
        | some i, some _ => if e = e' ∧ 0 < i.bytes then some (.app e i.size i.bytes s x) else none
        | _, _ => none
      | some (.slice e), some (.int _) => match P.info? e, zeroOf P e with
        | some i, some _ => some (.appz e i.size i.bytes s x)
        | _, _ => none
      | some (.slice e), some .string => match P.info? e, zeroOf P e with
        | some i, some _ => if 0 < i.bytes then some (.app e i.size i.bytes s x) else none
        | _, _ => none
      | _, _ => none
    | _, _ => none
  | _ => none
def compOp (P : Program) (o : Oper) : Option AOp :=
  match o.op with
  | .move x => some (.mv x)
  | .assign x => some (.mv x)
  | .pick c a b => some (.pick c a b)
  | .alloc e => match P.info? e, zeroOf P e with
    | some i, some z => some (.new e i.size z)
    | _, _ => none
  | .box e x => (P.info? e).map fun i => .box e i.size x
  | .build t ps => match P.underlying t, zeroOf P t with
    | some (.struct fs), some z => if (fs.toList.all fun f => (P.info? f.type).isSome) then (partsOf P fs ps.toList).map (.build z) else none
    | _, _ => none
  | .buildSlice t n ps => match P.underlying t with
    | some (.slice e) => match P.info? e with
      | some i => match i.zero with
        | some z => if n = 0 ∧ ps = #[] then some (.lit e i.size 0 [] []) else if n ≠ 0 ∧ n ≤ maxLen ∧ n * i.size ≤ 16777216 then some (.lit e i.size n (litZero z.cells (n * i.size)) (ps.toList.map fun p => (p.1 * i.size, i.size, p.2))) else none
        | none => none
      | none => none
    | _ => none
  | .load t x => match P.underlying t, P.info? t with
    | some d, some i => some (.load (isAggD d) i.size x)
    | _, _ => none
  | .store t p x => (P.info? t).map fun i => .store i.size p x
  | .nilCheck x => some (.nck x)
  | .binOp op t x y _ => compBin P op t x y
  | .unOp op _ x => some (.un op x)
  | .convert s d x => compCvt P s d x
  | .makeInterface t x => match P.underlying t with
    | some (.interface _) => none
    | some _ => some (.mkif t x)
    | none => none
  | .makeFunc (.func f) first caps => if first = #[] then some (.mkfn f caps.toList) else none
  | .slice t x lo hi mx => match P.underlying t with
    | some (.slice e) => (P.info? e).map fun i => .slc i.size x lo hi mx
    | some .string => match mx with
      | none => some (.sls x lo hi)
      | some _ => none
    | _ => none
  | .fieldAddr s x f => match P.underlying s with
    | some (.struct fs) => match fs[f]? with
      | some fd => match P.info? fd.type with
        | some i => if i.size ≠ 0 then some (.fa fd.offset x) else none
        | none => none
      | none => none
    | _ => none
  | .field s x f => match P.underlying s with
    | some (.struct fs) => match fs[f]? with
      | some fd => match P.underlying fd.type, P.info? fd.type with
        | some d, some i => some (.fld (isAggD d) fd.offset i.size x)
        | _, _ => none
      | none => none
    | _ => none
  | .indexAddr t x i => (strideOf P t).map fun s => .ia s x i
  | .index t x i => match P.underlying t with
    | some .string => some (.ix x i)
    | _ => none
  | .extract x n => some (.ext x n)
  | .call c => compCall P c
  | .panic x => some (.panic x)
  | _ => none
/-- a load that goes through a pointer to what is read alone -/
def toR : AOp → AOp
  | .load agg sz x => .loadR agg sz x
  | x => x
def compOpS (P : Program) (S : List Nat) (o : Oper) : Option AOp :=
  if (match o.dst with
    | some d => S.contains d
    | none => false) then (compOp P o).map toR else compOp P o

end
section
variable {P : Program}

def ASound (P : Program) (o : Oper) (ao : AOp) : Prop := ∀ (h : AH) (τ : Operand → AV) (av : AV), aval h τ ao = some av → ∀ (w : World) (g : Gh) (ρ : Operand → Value), SimH w g h → (∀ x ∈ o.op.operands, Rep w g (τ x) (ρ x)) →
  ∃ v, (execOp ρ o).run P w = .ok (.value v) w ∧ Rep w g av v

theorem rep_v (w : World) (g : Gh) (x : Value) : Rep w g (.v x) x := by simp only [Rep]
theorem snd_mv {dst type pos after guard} (x : Operand) (op : Op) (hop : op = .move x ∨ op = .assign x) : ASound P ⟨dst, op, type, pos, after, guard⟩ (.mv x) := by
  intro h τ av hv w g ρ hs hr
  simp only [aval, Option.some.injEq] at hv
  subst hv
  rcases hop with rfl | rfl <;> exact ⟨ρ x, by simp [execOp], hr x (by simp [Op.operands])⟩
theorem snd_pick {dst type pos after guard} (c a b : Operand) : ASound P ⟨dst, .pick c a b, type, pos, after, guard⟩ (.pick c a b) := by
  intro h τ av hv w g ρ hs hr
  simp only [aval] at hv
  have h1 := hr c (by simp [Op.operands])
  split at hv <;> try (cases hv; done)
  rename_i x hx
  rw [hx] at h1
  simp only [Rep] at h1
  cases hv
  cases x
  · exact ⟨ρ b, by simp [execOp, h1, asBool], hr b (by simp [Op.operands])⟩
  · exact ⟨ρ a, by simp [execOp, h1, asBool], hr a (by simp [Op.operands])⟩
theorem snd_load {dst type pos after guard} {t : TypeId} (x : Operand) {d : TypeDesc} {i : TypeInfo} (hd : P.underlying t = some d) (hi : P.info? t = some i) : ASound P ⟨dst, .load t x, type, pos, after, guard⟩ (.load (isAggD d) i.size x) := by
  intro h τ av hv w g ρ hs hr
  simp only [aval, Option.bind_eq_some_iff] at hv
  obtain ⟨cs, h1, h2⟩ := hv
  obtain ⟨b, off, e, hc⟩ := cellsAt_rep hs (hr x (by simp [Op.operands])) h1
  obtain ⟨v, h3, h4⟩ := run_loadAV hc h2 (run_isAgg hd w) (run_sizeOf hi w)
  exact ⟨v, by simp [execOp, e, h3], h4⟩
theorem snd_nck {dst type pos after guard} (x : Operand) : ASound P ⟨dst, .nilCheck x, type, pos, after, guard⟩ (.nck x) := by
  intro h τ av hv w g ρ hs hr
  simp only [aval] at hv
  have h1 := hr x (by simp [Op.operands])
  split at hv <;> try (cases hv; done)
  all_goals
    rename_i hx
    rw [hx] at h1
    cases hv
    refine ⟨ρ x, ?_, h1⟩
    simp only [Rep] at h1
  · obtain ⟨b, cap, _, e⟩ := h1; simp [execOp, e]
  · obtain ⟨b, cap, e, _⟩ := h1; simp [execOp, e]
  · simp [execOp, h1]
  · obtain ⟨vs, e, _⟩ := h1; simp [execOp, e]

theorem run_iBin {op : BinOp} {k : IntKind} {a b : Int} {av : AV} (h : iBin op k a b = some av) (hsl : op ≠ .shl) (hsr : op ≠ .shr) (t : TypeId) (w : World) : ∃ v, (binOp op t (.int k a) (.int k b)).run P w = .ok v w ∧ av = .v v := by
  cases op <;> simp only [iBin] at h <;> first
    | (cases h; done)
    | (exact absurd rfl hsl)
    | (exact absurd rfl hsr)
    | (cases h; exact ⟨_, by simp [binOp, Op.intArith, Op.intBits, Op.intCmp], rfl⟩)
    | skip
  all_goals
    split at h
    · cases h
    · rename_i hb; cases h; exact ⟨_, by simp [binOp, Op.intDiv, hb], rfl⟩
theorem run_sBin {op : BinOp} {a b : ByteArray} {av : AV} (h : sBin op a b = some av) (t : TypeId) (w : World) : ∃ v, (binOp op t (.string a) (.string b)).run P w = .ok v w ∧ av = .v v := by
  cases op <;> simp only [sBin] at h <;> first
    | (cases h; done)
    | (cases h; refine ⟨_, ?_, rfl⟩; simp [binOp, Op.stringOp, beq_toListBytes]; done)
    | (split at h <;> try (cases h; done)
       cases h; rename_i hb
       refine ⟨.string (a ++ b), ?_, rfl⟩
       have : ¬ (IntKind.i64.max < ((a.size : Int) + (b.size : Int))) := by simp [IntKind.max, IntKind.signed, IntKind.bits]; omega
       simp [binOp, Op.stringOp, this]; omega)
theorem run_vBin {op : BinOp} {a b : Value} {av : AV} (h : vBin op a b = some av) (t : TypeId) (w : World) : ∃ v, (binOp op t a b).run P w = .ok v w ∧ av = .v v := by
  unfold vBin at h
  split at h
  · rename_i k a k' b
    split at h
    · split at h <;> try (cases h; done)
      rename_i hb
      cases h
      exact ⟨_, by simp [binOp, Op.shift, hb], rfl⟩
    · split at h <;> try (cases h; done)
      rename_i hb
      cases h
      exact ⟨_, by simp [binOp, Op.shift, hb], rfl⟩
    · rename_i h1 h2
      split at h <;> try (cases h; done)
      rename_i hk
      subst hk
      exact run_iBin h (fun e => h1 e) (fun e => h2 e) t w
  · exact run_sBin h t w
  · cases h
theorem run_eqGuard_plain (op : BinOp) (t : TypeId) (x y : Operand) (a b : Value) (ha : a.oneCell' = true) (hn : a ≠ .nilIface) (w : World) : (eqGuard op t x y a b).run P w = .ok () w := by
  unfold eqGuard
  cases op <;> simp
  all_goals (cases a <;> first | (simp [Value.oneCell'] at ha; done) | (exact absurd rfl hn) | (cases b <;> simp))
theorem snd_bin {dst type pos after guard} {op : BinOp} {t yt : TypeId} (x y : Operand) : ASound P ⟨dst, .binOp op t x y yt, type, pos, after, guard⟩ (.bin op x y) := by
  intro h τ av hv w g ρ hs hr
  simp only [aval] at hv
  have h1 := hr x (by simp [Op.operands])
  have h2 := hr y (by simp [Op.operands])
  split at hv <;> try (cases hv; done)
  rename_i a b ha hb
  rw [ha] at h1
  rw [hb] at h2
  simp only [Rep] at h1 h2
  obtain ⟨v, h3, rfl⟩ := run_vBin (P := P) hv t w
  refine ⟨v, ?_, by simp only [Rep]⟩
  have hg : (eqGuard op t x y a b).run P w = .ok () w := by
    refine run_eqGuard_plain op t x y a b ?_ ?_ w
    · cases a <;> simp [vBin] at hv ⊢ <;> rfl
    · rintro rfl; simp [vBin] at hv
  simp [execOp, h1, h2, hg, h3]
theorem snd_eqb {dst type pos after guard} {op : BinOp} {t yt : TypeId} (neg : Bool) (x y : Operand) (ht : P.underlying t = some .bool) (hop : op = bif neg then .neq else .eql) : ASound P ⟨dst, .binOp op t x y yt, type, pos, after, guard⟩ (.eqb neg x y) := by
  intro h τ av hv w g ρ hs hr
  simp only [aval] at hv
  have h1 := hr x (by simp [Op.operands])
  have h2 := hr y (by simp [Op.operands])
  split at hv <;> try (cases hv; done)
  rename_i a b ha hb
  rw [ha] at h1
  rw [hb] at h2
  simp only [Rep] at h1 h2
  cases hv
  refine ⟨.bool (bif neg then !(a == b) else a == b), ?_, by simp only [Rep]⟩
  have hg : (eqGuard op t x y (.bool a) (.bool b)).run P w = .ok () w := run_eqGuard_plain op t x y _ _ rfl (by simp) w
  cases neg <;> simp at hop <;> subst hop <;> simp [execOp, h1, h2, hg, run_eql_bool w t a b ht, run_neq_bool w t a b ht]

end
section
variable {P : Program}
theorem snd_un {dst type pos after guard} {op : UnOp} {t : TypeId} (x : Operand) : ASound P ⟨dst, .unOp op t x, type, pos, after, guard⟩ (.un op x) := by
  intro h τ av hv w g ρ hs hr
  simp only [aval] at hv
  have h1 := hr x (by simp [Op.operands])
  split at hv <;> try (cases hv; done)
  all_goals
    rename_i hx
    rw [hx] at h1
    simp only [Rep] at h1
    cases hv
    refine ⟨_, ?_, rep_v _ _ _⟩
    simp [execOp, h1, Op.unary, Op.intArith]
theorem snd_cvi {dst type pos after guard} {s d : TypeId} {j k : IntKind} (x : Operand) (h1 : P.underlying s = some (.int j)) (h2 : P.underlying d = some (.int k)) : ASound P ⟨dst, .convert s d x, type, pos, after, guard⟩ (.cvi k x) := by
  intro h τ av hv w g ρ hs hr
  simp only [aval] at hv
  have h3 := hr x (by simp [Op.operands])
  split at hv <;> try (cases hv; done)
  rename_i hx
  rw [hx] at h3
  simp only [Rep] at h3
  cases hv
  refine ⟨_, ?_, rep_v _ _ _⟩
  simp [execOp, h3, convert, run_underlying h1, run_underlying h2, Conv.intToInt]
theorem snd_cvs {dst type pos after guard} {s d : TypeId} (x : Operand) (h1 : P.underlying s = some .string) (h2 : P.underlying d = some .string) : ASound P ⟨dst, .convert s d x, type, pos, after, guard⟩ (.cvs x) := by
  intro h τ av hv w g ρ hs hr
  simp only [aval] at hv
  have h3 := hr x (by simp [Op.operands])
  split at hv <;> try (cases hv; done)
  rename_i hx
  rw [hx] at h3
  simp only [Rep] at h3
  cases hv
  refine ⟨_, ?_, rep_v _ _ _⟩
  simp [execOp, h3, convert, run_underlying h1, run_underlying h2]
theorem foldl_push (ns : List Int) : ∀ (s : ByteArray), ns.foldl (fun r n => r.push (UInt8.ofNat n.toNat)) s = ⟨s.data ++ (ns.map fun n => UInt8.ofNat n.toNat).toArray⟩ := by
  induction ns with
  | nil => intro s; simp
  | cons n ns ih =>
    intro s
    simp only [List.foldl_cons, ih, List.map_cons]
    congr 1
    apply Array.ext'
    simp [ByteArray.push]
theorem snd_b2s {dst type pos after guard} {s d e : TypeId} (x : Operand) (h1 : P.underlying s = some (.slice e)) (h2 : P.underlying d = some .string) (h3 : P.underlying e = some (.int .u8)) : ASound P ⟨dst, .convert s d x, type, pos, after, guard⟩ (.b2s x) := by
  intro h τ av hv w g ρ hs hr
  simp only [aval] at hv
  have hx := hr x (by simp [Op.operands])
  split at hv <;> try (cases hv; done)
  rename_i n cs hrow
  split at hv <;> try (cases hv; done)
  rename_i hcn
  simp only [Option.map_eq_some_iff] at hv
  obtain ⟨l, hl, rfl⟩ := hv
  obtain ⟨A, cap, eq, hle, _, hne⟩ := rowsAt_rep hs hx hrow
  have hrun := run_convert_bytes_string (P := P) w s d e A n cap h1 h3 h2
  refine ⟨_, ?_, rep_v _ _ _⟩
  simp only [execOp, eq]
  have key : (Conv.bytesToString (.slice A n cap)).run P w = .ok (.string ⟨l.toArray⟩) w := by
    by_cases hc : cs = []
    · subst hc
      simp only [List.length_nil] at hcn
      subst hcn
      simp only [bytesOf, Option.some.injEq] at hl
      subst hl
      cases A with
      | none => simp [Conv.bytesToString]; rfl
      | some a =>
        have := run_bytesToString (P := P) w a 0 cap [] (by simp [loadCells, loadCellsFrom])
        rw [this]; rfl
    · obtain ⟨b, off, rfl, hrc⟩ := hne hc
      obtain ⟨us, g1, g2⟩ := hrc.list
      obtain ⟨ns, rfl, rfl⟩ := bytesOf_rep hl g1
      have hlen : (ns.map (Value.int .u8)).length = n := by rw [g1.length, hcn]
      have hload := run_loadCells_list (P := P) (w := w) ⟨b, off, none⟩ _ (fun j v hj => by rw [Addr.add_off]; exact g2 j v hj)
      rw [hlen] at hload
      rw [run_bytesToString w _ n cap ns hload, foldl_push]
      simp
  simp [hrun, key]
theorem allV_rep {w : World} {g : Gh} : ∀ {cs : List AV} {l us : List Value}, allV cs = some l → RepL w g cs us → us = l
  | [], l, us, h, hr => by simp only [allV, Option.some.injEq] at h; simp only [RepL] at hr; rw [hr, h]
  | c :: cs, l, us, h, hr => by
    simp only [RepL] at hr
    obtain ⟨u, us', rfl, h1, h2⟩ := hr
    cases c <;> try (simp [allV] at h; done)
    simp only [allV, Option.map_eq_some_iff] at h
    obtain ⟨l', hl', rfl⟩ := h
    simp only [Rep] at h1
    rw [allV_rep hl' h2, h1]
theorem snd_mkif {dst type pos after guard} {t : TypeId} {d : TypeDesc} (x : Operand) (ht : P.underlying t = some d) (hd : ∀ ms, d ≠ .interface ms) : ASound P ⟨dst, .makeInterface t x, type, pos, after, guard⟩ (.mkif t x) := by
  intro h τ av hv w g ρ hs hr
  simp only [aval] at hv
  have h1 := hr x (by simp [Op.operands])
  have hrun : ∀ v, (Instr.makeInterface t v).run P w = .ok (.iface t v) w := by
    intro v
    cases d <;> first | (exact absurd rfl (hd _)) | simp [Instr.makeInterface, run_underlying ht]
  split at hv <;> try (cases hv; done)
  · rename_i hx
    rw [hx] at h1
    simp only [Rep] at h1
    cases hv
    refine ⟨_, ?_, rep_v _ _ _⟩
    simp [execOp, h1, hrun]
  · rename_i cs hx
    rw [hx] at h1
    simp only [Rep] at h1
    simp only [Option.map_eq_some_iff] at hv
    obtain ⟨l, hl, rfl⟩ := hv
    obtain ⟨vs, e, hrl⟩ := h1
    have := allV_rep hl hrl
    refine ⟨_, ?_, rep_v _ _ _⟩
    rw [← this]
    simp [execOp, e, hrun]
theorem repL_map {w : World} {g : Gh} {τ : Operand → AV} {ρ : Operand → Value} : ∀ (xs : List Operand), (∀ x ∈ xs, Rep w g (τ x) (ρ x)) → RepL w g (xs.map τ) (xs.map ρ)
  | [], _ => by simp only [List.map_nil, RepL]
  | x :: xs, h => by simp only [List.map_cons, RepL]; exact ⟨_, _, rfl, h x (by simp), repL_map xs fun y hy => h y (by simp [hy])⟩
theorem snd_mkfn {dst type pos after guard} {f : FuncId} {caps : Array Operand} : ASound P ⟨dst, .makeFunc (.func f) #[] caps, type, pos, after, guard⟩ (.mkfn f caps.toList) := by
  intro h τ av hv w g ρ hs hr
  simp only [aval, Option.some.injEq] at hv
  subst hv
  refine ⟨_, by simp [execOp, Instr.makeFunc]; rfl, ?_⟩
  simp only [Rep]
  exact ⟨_, rfl, by simpa using repL_map caps.toList fun x hx => hr x (by simpa [Op.operands] using hx)⟩
theorem snd_fa {dst type pos after guard} {s : TypeId} {f : Nat} {fs : Array Field} {fd : Field} {i : TypeInfo} (x : Operand) (hu : P.underlying s = some (.struct fs)) (hf : fs[f]? = some fd) (hi : P.info? fd.type = some i) (hn : i.size ≠ 0) :
    ASound P ⟨dst, .fieldAddr s x f, type, pos, after, guard⟩ (.fa fd.offset x) := by
  intro h τ av hv w g ρ hs hr
  simp only [aval] at hv
  have h1 := hr x (by simp [Op.operands])
  have hrun : ∀ b off, (Instr.fieldAt s (.pointer (some ⟨b, off, none⟩)) f).run P w = .ok (.pointer (some ⟨b, off + fd.offset, none⟩)) w := by
    intro b off
    simp [Instr.fieldAt, run_underlying hu, hf, Instr.sureAddr, fieldPlace, run_sizeOf hi, hn, Addr.add_off]
  split at hv <;> try (cases hv; done)
  · rename_i id v o hx
    rw [hx] at h1
    simp only [Rep] at h1
    obtain ⟨b, cap, e1, e2⟩ := h1
    cases hv
    refine ⟨_, by simp [execOp, e2, hrun]; rfl, ?_⟩
    simp only [Rep]
    exact ⟨b, cap, e1, rfl⟩
  · rename_i cs hx
    rw [hx] at h1
    simp only [Rep] at h1
    obtain ⟨b, off, e1, hd, e2⟩ := h1
    cases hv
    refine ⟨_, by simp [execOp, e1, hrun]; rfl, ?_⟩
    simp only [Rep]
    exact ⟨b, _, rfl, hd, e2.drop _⟩
theorem snd_fld {dst type pos after guard} {s : TypeId} {f : Nat} {fs : Array Field} {fd : Field} {i : TypeInfo} {d : TypeDesc} (x : Operand) (hu : P.underlying s = some (.struct fs)) (hf : fs[f]? = some fd) (hd : P.underlying fd.type = some d) (hi : P.info? fd.type = some i) :
    ASound P ⟨dst, .field s x f, type, pos, after, guard⟩ (.fld (isAggD d) fd.offset i.size x) := by
  intro h τ av hv w g ρ hs hr
  simp only [aval] at hv
  have h1 := hr x (by simp [Op.operands])
  split at hv <;> try (cases hv; done)
  rename_i cs hx
  rw [hx] at h1
  simp only [Rep] at h1
  obtain ⟨vs, e, hrl⟩ := h1
  obtain ⟨v, h3, h4⟩ := part_rep (P := P) hrl hv (run_isAgg hd w) (run_sizeOf hi w)
  exact ⟨v, by simp [execOp, e, Instr.field, run_underlying hu, hf, asAgg, h3], h4⟩
theorem strideOf_spec {t : TypeId} {st : Nat} (h : strideOf P t = some st) : ∃ e i, P.underlying t = some (.slice e) ∧ P.info? e = some i ∧ i.size = st := by
  unfold strideOf at h
  split at h <;> try (cases h; done)
  rename_i e he
  simp only [Option.map_eq_some_iff] at h
  obtain ⟨i, hi, rfl⟩ := h
  exact ⟨e, i, he, hi, rfl⟩
theorem snd_ia {dst type pos after guard} {t : TypeId} {st : Nat} (x i : Operand) (hst : strideOf P t = some st) : ASound P ⟨dst, .indexAddr t x i, type, pos, after, guard⟩ (.ia st x i) := by
  obtain ⟨e, inf, hu, hi, rfl⟩ := strideOf_spec hst
  intro h τ av hv w g ρ hs hr
  simp only [aval] at hv
  have h1 := hr x (by simp [Op.operands])
  have h2 := hr i (by simp [Op.operands])
  have hrun : ∀ (b off : Nat) (k : IntKind) (j : Int) (n cap : Nat), 0 ≤ j → j < n → (Instr.indexAt t (.slice (some ⟨b, off, none⟩) n cap) (.int k j)).run P w = .ok (.pointer (some ⟨b, off + j.toNat * inf.size, none⟩)) w := by
    intro b off k j n cap hj0 hj1
    simp [Instr.indexAt, asIntOf, run_underlying hu, run_sizeOf hi, hj0, hj1, Addr.add_off]
  split at hv <;> try (cases hv; done)
  · rename_i n st' full cs k j hx hj
    split at hv <;> try (cases hv; done)
    rename_i hc
    obtain ⟨rfl, hpos, hj0, hj1⟩ := hc
    cases hv
    rw [hx] at h1
    rw [hj] at h2
    simp only [Rep] at h1 h2
    obtain ⟨hlen, A, cap, e1, _, _, _, _, hne⟩ := h1
    have hjn : j.toNat < n := by omega
    have hle : (j.toNat + 1) * inf.size ≤ n * inf.size := Nat.mul_le_mul_right _ hjn
    rw [Nat.add_mul] at hle
    have hcs : cs ≠ [] := by rintro rfl; simp at hlen; omega
    obtain ⟨b, off, rfl, hd, hrc⟩ := hne hcs
    refine ⟨_, by simp only [execOp, e1, h2]; simp [hrun b off k j n cap hj0 hj1]; rfl, ?_⟩
    simp only [Rep]
    exact ⟨b, _, rfl, hd, (hrc.drop _).take _⟩
  · rename_i id v n k j hx hj
    split at hv <;> try (cases hv; done)
    rename_i v' ty s cells hent
    split at hv <;> try (cases hv; done)
    rename_i hc
    obtain ⟨rfl, rfl, hpos, hj0, hj1, hle⟩ := hc
    cases hv
    rw [hx] at h1
    rw [hj] at h2
    simp only [Rep] at h1 h2
    obtain ⟨A, cap, e1, e2, e3, e4⟩ := h1
    obtain ⟨A', cap', f1, _, f3⟩ := hs.ent _ _ _ _ _ hent
    rw [e1] at f1
    simp only [Option.some.injEq, Prod.mk.injEq] at f1
    obtain ⟨rfl, rfl⟩ := f1
    have hjn : j.toNat < n := by omega
    have hle' : (j.toNat + 1) * inf.size ≤ n * inf.size := Nat.mul_le_mul_right _ hjn
    rw [Nat.add_mul] at hle'
    rcases f3 with ⟨rfl, _⟩ | ⟨b, arr, rfl, _⟩
    · simp at hle; omega
    · have := hrun b 0 k j n cap hj0 hj1
      rw [Nat.zero_add] at this
      refine ⟨_, by simp only [execOp, e4, h2]; simp [this]; rfl, ?_⟩
      simp only [Rep]
      exact ⟨b, _, e1, rfl⟩

theorem snd_ix {dst type pos after guard} {t : TypeId} (x i : Operand) (hu : P.underlying t = some .string) : ASound P ⟨dst, .index t x i, type, pos, after, guard⟩ (.ix x i) := by
  intro h τ av hv w g ρ hs hr
  simp only [aval] at hv
  have h1 := hr x (by simp [Op.operands])
  have h2 := hr i (by simp [Op.operands])
  split at hv <;> try (cases hv; done)
  rename_i s k j hx hj
  split at hv <;> try (cases hv; done)
  rename_i hc
  obtain ⟨hj0, hj1⟩ := hc
  cases hv
  rw [hx] at h1
  rw [hj] at h2
  simp only [Rep] at h1 h2
  refine ⟨_, ?_, rep_v _ _ _⟩
  have hlt : j.toNat < s.size := by omega
  have hb : byteAt s j.toNat = s[j.toNat] := by
    unfold byteAt
    rw [List.getD_eq_getElem?_getD, List.getElem?_eq_getElem (by simpa using hlt)]
    rfl
  rw [hb]
  simp [execOp, h1, h2, Instr.index, asIntOf, run_underlying hu, hj0, ByteArray.getElem?_lt' s _ hlt]
theorem snd_ext {dst type pos after guard} (x : Operand) (n : Nat) : ASound P ⟨dst, .extract x n, type, pos, after, guard⟩ (.ext x n) := by
  intro h τ av hv w g ρ hs hr
  simp only [aval] at hv
  have h1 := hr x (by simp [Op.operands])
  split at hv <;> try (cases hv; done)
  rename_i l hx
  rw [hx] at h1
  simp only [Rep] at h1
  obtain ⟨vs, e, hrl⟩ := h1
  obtain ⟨u, h2, h3⟩ := hrl.get hv
  exact ⟨u, by simp [execOp, e, Instr.extract, (by simpa using h2 : vs[n]? = some u)], h3⟩
theorem snd_lenS {dst type pos after guard} {t : TypeId} (x : Operand) (hu : P.underlying t = some .string) :
    ASound P ⟨dst, .call { callee := .builtin .len, args := #[x], argTypes := #[t] }, type, pos, after, guard⟩ (.len true x) := by
  intro h τ av hv w g ρ hs hr
  simp only [aval] at hv
  have h1 := hr x (by simp [Op.operands, Call.operands])
  split at hv <;> try (cases hv; done)
  · rename_i s _ hx
    rw [hx] at h1
    simp only [Rep] at h1
    cases hv
    refine ⟨_, ?_, rep_v _ _ _⟩
    simp [execOp, resolve, invoke, builtin, Builtin.len_, h1, run_underlying hu, goInt]
  · rename_i heq _; cases heq
  · rename_i heq _; cases heq
theorem snd_lenL {dst type pos after guard} {t e : TypeId} (x : Operand) (hu : P.underlying t = some (.slice e)) :
    ASound P ⟨dst, .call { callee := .builtin .len, args := #[x], argTypes := #[t] }, type, pos, after, guard⟩ (.len false x) := by
  intro h τ av hv w g ρ hs hr
  simp only [aval] at hv
  have h1 := hr x (by simp [Op.operands, Call.operands])
  split at hv <;> try (cases hv; done)
  · rename_i heq _; cases heq
  · rename_i n st full cs _ hx
    rw [hx] at h1
    simp only [Rep] at h1
    obtain ⟨_, A, cap, e1, _⟩ := h1
    cases hv
    refine ⟨_, ?_, rep_v _ _ _⟩
    simp [execOp, resolve, invoke, builtin, Builtin.len_, e1, run_underlying hu, goInt]
  · rename_i id v n _ hx
    rw [hx] at h1
    simp only [Rep] at h1
    obtain ⟨A, cap, _, _, _, e1⟩ := h1
    cases hv
    refine ⟨_, ?_, rep_v _ _ _⟩
    simp [execOp, resolve, invoke, builtin, Builtin.len_, e1, run_underlying hu, goInt]
theorem snd_mm {dst type pos after guard} {ts : Array TypeId} (isMax : Bool) (x y : Operand) :
    ASound P ⟨dst, .call { callee := .builtin (bif isMax then .max else .min), args := #[x, y], argTypes := ts }, type, pos, after, guard⟩ (.mm isMax x y) := by
  intro h τ av hv w g ρ hs hr
  simp only [aval] at hv
  have h1 := hr x (by cases isMax <;> simp [Op.operands, Call.operands])
  have h2 := hr y (by cases isMax <;> simp [Op.operands, Call.operands])
  split at hv <;> try (cases hv; done)
  rename_i k a k' b hx hy
  rw [hx] at h1
  rw [hy] at h2
  simp only [Rep] at h1 h2
  cases hv
  refine ⟨_, ?_, rep_v _ _ _⟩
  cases isMax <;> simp [execOp, resolve, invoke, builtin, h1, h2, run_max_int2, run_min_int2]

theorem optInt_bound {w : World} {g : Gh} {τ : Operand → AV} {ρ : Operand → Value} {d : Int} {x : Operand} {l : Int} (h : optInt τ d (some x) = some l) (hr : Rep w g (τ x) (ρ x)) : ∃ k, ρ x = .int k l := by
  simp only [optInt] at h
  split at h <;> try (cases h; done)
  rename_i k i hx
  cases h
  rw [hx] at hr
  simp only [Rep] at hr
  exact ⟨k, hr⟩
theorem run_sls {w : World} {g : Gh} {τ : Operand → AV} {ρ : Operand → Value} {t : TypeId} {s : ByteArray} {lo hi : Option Operand} {l h : Int} (hu : P.underlying t = some .string)
    (hl : optInt τ 0 lo = some l) (hh : optInt τ s.size hi = some h) (h0 : 0 ≤ l) (h1 : l ≤ h) (h2 : h ≤ s.size)
    (hlo : ∀ x, lo = some x → Rep w g (τ x) (ρ x)) (hhi : ∀ x, hi = some x → Rep w g (τ x) (ρ x)) : (Instr.sliceAt t (.string s) (lo.map ρ) (hi.map ρ) none).run P w = .ok (.string (s.extract l.toNat h.toNat)) w := by
  cases lo with
  | none =>
    simp only [optInt, Option.some.injEq] at hl
    subst hl
    cases hi with
    | none =>
      simp only [optInt, Option.some.injEq] at hh
      subst hh
      simp [Instr.sliceAt, Instr.slice, run_underlying hu, Instr.sliceBounds]
    | some y =>
      obtain ⟨k, e⟩ := optInt_bound hh (hhi y rfl)
      simp [Instr.sliceAt, Instr.slice, run_underlying hu, Instr.sliceBounds, e, run_sliceBound _ _ h _ _ h1 h2]
  | some x =>
    obtain ⟨k, e⟩ := optInt_bound hl (hlo x rfl)
    cases hi with
    | none =>
      simp only [optInt, Option.some.injEq] at hh
      subst hh
      simp [Instr.sliceAt, Instr.slice, run_underlying hu, Instr.sliceBounds, e, run_sliceBound _ _ l _ _ h0 h1]
    | some y =>
      obtain ⟨k', e'⟩ := optInt_bound hh (hhi y rfl)
      have h3 : l ≤ (h.toNat : Int) := by omega
      simp [Instr.sliceAt, Instr.slice, run_underlying hu, Instr.sliceBounds, e, e', run_sliceBound _ _ h _ _ (by omega : 0 ≤ h) h2, run_sliceBound _ _ l h.toNat _ h0 h3]
theorem snd_sls {dst type pos after guard} {t : TypeId} (x : Operand) (lo hi : Option Operand) (hu : P.underlying t = some .string) : ASound P ⟨dst, .slice t x lo hi none, type, pos, after, guard⟩ (.sls x lo hi) := by
  intro h τ av hv w g ρ hs hr
  simp only [aval] at hv
  have h1 := hr x (by simp [Op.operands])
  split at hv <;> try (cases hv; done)
  rename_i s hx
  rw [hx] at h1
  simp only [Rep] at h1
  split at hv <;> try (cases hv; done)
  rename_i l hh hl2 hh2
  split at hv <;> try (cases hv; done)
  rename_i hc
  obtain ⟨c1, c2, c3⟩ := hc
  cases hv
  refine ⟨_, ?_, rep_v _ _ _⟩
  have := run_sls (P := P) (w := w) (g := g) (ρ := ρ) hu hl2 hh2 c1 c2 c3 (fun y hy => hr y (by subst hy; simp [Op.operands])) (fun y hy => hr y (by subst hy; simp [Op.operands]))
  simp [execOp, h1, this]

end
section
variable {P : Program}
theorem run_slc {w : World} {g : Gh} {τ : Operand → AV} {ρ : Operand → Value} {t e : TypeId} {i : TypeInfo} {A : Option Addr} {n cap : Nat} {lo hi mx : Option Operand} {l h m : Int} (hu : P.underlying t = some (.slice e)) (hi' : P.info? e = some i)
    (hl : optInt τ 0 lo = some l) (hh : optInt τ n hi = some h) (hm : optInt τ cap mx = some m) (hmh : mx = none ∨ hi.isSome = true) (h0 : 0 ≤ l) (h1 : l ≤ h) (h2 : h ≤ m) (h3 : m ≤ cap)
    (hlo : ∀ x, lo = some x → Rep w g (τ x) (ρ x)) (hhi : ∀ x, hi = some x → Rep w g (τ x) (ρ x)) (hmx : ∀ x, mx = some x → Rep w g (τ x) (ρ x)) :
    (Instr.sliceAt t (.slice A n cap) (lo.map ρ) (hi.map ρ) (mx.map ρ)).run P w = .ok (.slice (if m.toNat = l.toNat then A else A.map (·.add (l.toNat * i.size))) (h.toNat - l.toNat) (m.toNat - l.toNat)) w := by
  have hc : h ≤ (cap : Int) := by omega
  have e1 : h ≤ (m.toNat : Int) := by omega
  have e2 : l ≤ (h.toNat : Int) := by omega
  have e3 : (0 : Int) ≤ h := by omega
  have e4 : (0 : Int) ≤ m := by omega
  cases mx with
  | none =>
    simp only [optInt, Option.some.injEq] at hm
    subst hm
    cases lo with
    | none =>
      simp only [optInt, Option.some.injEq] at hl
      subst hl
      cases hi with
      | none =>
        simp only [optInt, Option.some.injEq] at hh
        subst hh
        simp [Instr.sliceAt, Instr.slice, run_underlying hu, Instr.sliceBounds, run_sizeOf hi']
      | some y =>
        obtain ⟨k, e⟩ := optInt_bound hh (hhi y rfl)
        simp [Instr.sliceAt, Instr.slice, run_underlying hu, Instr.sliceBounds, e, run_sliceBound _ _ h _ _ e3 hc, run_sizeOf hi']
    | some x =>
      obtain ⟨k, e⟩ := optInt_bound hl (hlo x rfl)
      cases hi with
      | none =>
        simp only [optInt, Option.some.injEq] at hh
        subst hh
        simp [Instr.sliceAt, Instr.slice, run_underlying hu, Instr.sliceBounds, e, run_sliceBound _ _ l _ _ h0 h1, run_sizeOf hi']
      | some y =>
        obtain ⟨k', e'⟩ := optInt_bound hh (hhi y rfl)
        simp [Instr.sliceAt, Instr.slice, run_underlying hu, Instr.sliceBounds, e, e', run_sliceBound _ _ h _ _ e3 hc, run_sliceBound _ _ l h.toNat _ h0 e2, run_sizeOf hi']
  | some z =>
    obtain ⟨km, em⟩ := optInt_bound hm (hmx z rfl)
    cases hi with
    | none => simp at hmh
    | some y =>
      obtain ⟨k', e'⟩ := optInt_bound hh (hhi y rfl)
      cases lo with
      | none =>
        simp only [optInt, Option.some.injEq] at hl
        subst hl
        simp [Instr.sliceAt, Instr.slice, run_underlying hu, Instr.sliceBounds, e', em, run_sliceBound _ _ m _ _ e4 h3, run_sliceBound _ _ h _ _ e3 e1, run_sizeOf hi']
      | some x =>
        obtain ⟨k, e⟩ := optInt_bound hl (hlo x rfl)
        simp [Instr.sliceAt, Instr.slice, run_underlying hu, Instr.sliceBounds, e, e', em, run_sliceBound _ _ m _ _ e4 h3, run_sliceBound _ _ h _ _ e3 e1, run_sliceBound _ _ l h.toNat _ h0 e2, run_sizeOf hi']

/-- a cut of a slice that is read alone -/
theorem rep_slc {w : World} {g : Gh} {A : Option Addr} {n st cap : Nat} {cs : List AV} {l h m : Nat} {full' : Bool} (hlen : cs.length = n * st) (hn : n ≤ cap) (hcm : cap ≤ maxLen) (hA : A = none → cap = 0)
    (hne : cs ≠ [] → ∃ b off, A = some ⟨b, off, none⟩ ∧ g.D b ∧ RepC w g cs b off) (h1 : l ≤ h) (h2 : h ≤ m) (h3 : m ≤ cap) (hhn : h ≤ n) (hf : full' = true → h = m) :
    Rep w g (.sl (h - l) st full' ((cs.drop (l * st)).take ((h - l) * st))) (.slice (if m = l then A else A.map (·.add (l * st))) (h - l) (m - l)) := by
  simp only [Rep]
  have hcut : ((cs.drop (l * st)).take ((h - l) * st)).length = (h - l) * st := by
    have hle : h * st ≤ n * st := Nat.mul_le_mul_right _ hhn
    have hs : (h - l) * st = h * st - l * st := Nat.sub_mul _ _ _
    rw [List.length_take, List.length_drop, hlen]
    omega
  refine ⟨hcut, _, _, rfl, by omega, by omega, fun hf' => by have := hf hf'; omega, ?_, ?_⟩
  · intro hnone
    split at hnone
    · have := hA hnone; omega
    · have : A = none := by cases A <;> simp_all
      have := hA this; omega
  · intro hc
    have hcs : cs ≠ [] := by rintro rfl; simp at hc
    obtain ⟨b, off, rfl, hd, hrc⟩ := hne hcs
    have hlm : ¬ m = l := by
      intro e
      have : h - l = 0 := by omega
      rw [this] at hc
      simp at hc
    rw [if_neg hlm]
    exact ⟨b, _, by simp only [Option.map_some, Addr.add_off], hd, (hrc.drop _).take _⟩
theorem snd_slc {dst type pos after guard} {t e : TypeId} {i : TypeInfo} (x : Operand) (lo hi mx : Option Operand) (hu : P.underlying t = some (.slice e)) (hi' : P.info? e = some i) : ASound P ⟨dst, .slice t x lo hi mx, type, pos, after, guard⟩ (.slc i.size x lo hi mx) := by
  intro H τ av hv w g ρ hs hr
  simp only [aval] at hv
  have h1 := hr x (by simp [Op.operands])
  have hlo : ∀ y, lo = some y → Rep w g (τ y) (ρ y) := fun y hy => hr y (by subst hy; simp [Op.operands])
  have hhi : ∀ y, hi = some y → Rep w g (τ y) (ρ y) := fun y hy => hr y (by subst hy; simp [Op.operands])
  have hmx : ∀ y, mx = some y → Rep w g (τ y) (ρ y) := fun y hy => hr y (by subst hy; simp [Op.operands])
  split at hv <;> try (cases hv; done)
  · rename_i n st' full cs hx
    rw [hx] at h1
    simp only [Rep] at h1
    obtain ⟨hlen, A, cap, e1, hn, hcm, hfull, hA, hne⟩ := h1
    split at hv <;> try (cases hv; done)
    rename_i l h hl hh
    split at hv <;> try (cases hv; done)
    rename_i hc
    obtain ⟨rfl, c1, c2, c3⟩ := hc
    split at hv
    · cases hv
      have hrun := run_slc (P := P) (w := w) (g := g) (ρ := ρ) (A := A) (cap := cap) (mx := none) (m := cap) hu hi' hl hh rfl (.inl rfl) c1 c2 (by omega) (Int.le_refl _) hlo hhi hmx
      refine ⟨_, by simp only [execOp, e1]; simp only [Option.map_none] at hrun ⊢; simp [hrun]; rfl, ?_⟩
      have := rep_slc (w := w) (g := g) (A := A) (m := cap) (full' := full && decide (h = n)) (l := l.toNat) (h := h.toNat) hlen hn hcm hA hne (by omega) (by omega) (Nat.le_refl _) (by omega) (by
        intro hf
        simp only [Bool.and_eq_true, decide_eq_true_eq] at hf
        have := hfull hf.1
        omega)
      simpa using this
    · rename_i m
      split at hv <;> try (cases hv; done)
      rename_i y k mi hmi
      split at hv <;> try (cases hv; done)
      rename_i hc2
      obtain ⟨c4, c5⟩ := hc2
      cases hv
      have hm' : optInt τ cap (some m) = some mi := by simp only [optInt, hmi]
      have hrun := run_slc (P := P) (w := w) (g := g) (ρ := ρ) (A := A) (cap := cap) (mx := some m) (m := mi) hu hi' hl hh hm' (.inr rfl) c1 c2 c4 (by omega) hlo hhi hmx
      refine ⟨_, by simp only [execOp, e1]; simp only [Option.map_some] at hrun ⊢; simp [hrun]; rfl, ?_⟩
      have := rep_slc (w := w) (g := g) (A := A) (m := mi.toNat) (full' := decide (h = mi)) (l := l.toNat) (h := h.toNat) hlen hn hcm hA hne (by omega) (by omega) (by omega) (by omega) (by
        intro hf
        simp only [decide_eq_true_eq] at hf
        omega)
      simpa using this
  · rename_i id v n hx
    rw [hx] at h1
    simp only [Rep] at h1
    obtain ⟨A, cap, hloc, hn, hcm, e1⟩ := h1
    split at hv <;> try (cases hv; done)
    · rename_i h hh
      split at hv <;> try (cases hv; done)
      rename_i hc
      obtain ⟨c1, c2⟩ := hc
      cases hv
      have hrun := run_slc (P := P) (w := w) (g := g) (ρ := ρ) (A := A) (cap := cap) (lo := none) (mx := none) (m := cap) (l := 0) hu hi' rfl hh rfl (.inl rfl) (by omega) c1 (by omega) (Int.le_refl _) hlo hhi hmx
      refine ⟨_, by simp only [execOp, e1]; simp only [Option.map_none] at hrun ⊢; simp [hrun]; rfl, ?_⟩
      simp only [Rep]
      refine ⟨A, cap, hloc, by omega, hcm, ?_⟩
      have : (if (cap : Nat) = 0 then A else Option.map (fun x => x.add 0) A) = A := by
        split
        · rfl
        · cases A <;> simp [Addr.add]
      simpa using this
    · rename_i _ h m hh
      split at hv <;> try (cases hv; done)
      rename_i k hl hmi
      split at hv <;> try (cases hv; done)
      rename_i hc
      obtain ⟨rfl, his⟩ := hc
      cases hv
      have hm' : optInt τ cap (some m) = some 0 := by simp only [optInt, hmi]
      have hrun := run_slc (P := P) (w := w) (g := g) (ρ := ρ) (A := A) (cap := cap) (mx := some m) (m := 0) hu hi' hl hh hm' (.inr his) (Int.le_refl _) (Int.le_refl _) (Int.le_refl _) (by omega) hlo hhi hmx
      refine ⟨_, by simp only [execOp, e1]; simp only [Option.map_some] at hrun ⊢; simp [hrun]; rfl, ?_⟩
      simp only [Rep]
      exact ⟨rfl, A, 0, by simp, Nat.le_refl _, by simp [maxLen], fun _ => rfl, fun _ => rfl, fun h => absurd rfl h⟩

end
section
variable {P : Program}
def setL (vs : List Value) (off : Nat) : List Value → List Value
  | [] => vs
  | u :: us => setL (vs.set off u) (off + 1) us
theorem setL_length : ∀ (us vs : List Value) (off : Nat), (setL vs off us).length = vs.length
  | [], vs, off => rfl
  | u :: us, vs, off => by simp only [setL]; rw [setL_length us]; simp
theorem setCells_length : ∀ (us vs : List AV) (off : Nat), (setCells vs off us).length = vs.length
  | [], vs, off => rfl
  | u :: us, vs, off => by simp only [setCells]; rw [setCells_length us]; simp
theorem foldl_setL : ∀ (us : List Value) (k off : Nat) (cs : Array Value), ((us.zipIdx k).foldl (fun cs p => cs.setIfInBounds (off + p.2) p.1) cs).toList = setL cs.toList (off + k) us
  | [], k, off, cs => rfl
  | u :: us, k, off, cs => by
    simp only [List.zipIdx_cons, List.foldl_cons, setL]
    rw [foldl_setL us (k + 1) off]
    simp [Array.toList_setIfInBounds, Nat.add_assoc]
/-- cells are written into a row of the proof's -/
theorem RepL.setCells {w : World} {g : Gh} : ∀ {cs : List AV} {us : List Value} {cells : List AV} {vs : List Value} (off : Nat), RepL w g cells vs → RepL w g cs us → RepL w g (setCells cells off cs) (setL vs off us)
  | [], us, cells, vs, off, h, hu => by simp only [RepL] at hu; subst hu; exact h
  | c :: cs, us, cells, vs, off, h, hu => by
    simp only [RepL] at hu
    obtain ⟨u, us', rfl, h1, h2⟩ := hu
    exact RepL.setCells (off + 1) (h.set (k := off) h1) h2

theorem fill_rep {w : World} {g : Gh} {τ : Operand → AV} {ρ : Operand → Value} (place : Nat → Option (Nat × Nat)) : ∀ (ps : List (Nat × Operand)) (qs : List (Nat × Nat × Operand)) (cells : List AV) (arr : Array Value) (out : List AV),
    (ps.map fun p => (place p.1).map fun q => (q.1, q.2, p.2)) = qs.map some → (∀ p ∈ ps, Rep w g (τ p.2) (ρ p.2)) → fillAV τ qs cells = some out → RepL w g cells arr.toList →
    ∃ arr', Instr.fill place arr (ps.map fun p => (p.1, ρ p.2)) = some arr' ∧ RepL w g out arr'.toList ∧ arr'.size = arr.size
  | [], qs, cells, arr, out, he, hr, hf, hc => by
    cases qs with
    | nil => simp only [fillAV, Option.some.injEq] at hf; subst hf; exact ⟨arr, rfl, hc, rfl⟩
    | cons => simp at he
  | p :: ps, qs, cells, arr, out, he, hr, hf, hc => by
    cases qs with
    | nil => simp at he
    | cons q qs =>
      obtain ⟨off, sz, x⟩ := q
      simp only [List.map_cons, List.cons.injEq, Option.map_eq_some_iff] at he
      obtain ⟨⟨pl, hp, e⟩, he⟩ := he
      simp only [Prod.mk.injEq] at e
      obtain ⟨rfl, rfl, rfl⟩ := e
      simp only [fillAV] at hf
      split at hf <;> try (cases hf; done)
      rename_i cs hcs
      split at hf <;> try (cases hf; done)
      rename_i hcond
      obtain ⟨h1, h2, h3⟩ := hcond
      have hrx := cellsV_rep hcs (hr p (by simp))
      have hsz : (ρ p.2).cells.size = pl.2 := by have := hrx.length; simpa [h1] using this
      have hclen : arr.size = cells.length := by simpa using hc.length
      obtain ⟨arr', g1, g2, g3⟩ := fill_rep place ps qs _ ((ρ p.2).cells.zipIdx.foldl (fun cs (c, j) => cs.setIfInBounds (pl.1 + j) c) arr) out he (fun q hq => hr q (by simp [hq])) hf (by
        have := hc.setCells pl.1 hrx
        rw [← Array.foldl_toList, Array.toList_zipIdx]
        rw [show (fun (cs : Array Value) (x : Value × Nat) => match x with | (c, j) => cs.setIfInBounds (pl.1 + j) c) = fun cs p => cs.setIfInBounds (pl.1 + p.2) p.1 from rfl, foldl_setL]
        simpa using this)
      refine ⟨arr', ?_, g2, ?_⟩
      · simp only [List.map_cons, Instr.fill, hp]
        rw [if_neg (by rw [Bool.or_eq_true]; simp only [bne_iff_ne, ne_eq, decide_eq_true_eq]; omega)]
        exact g1
      · have := setL_length (ρ p.2).cells.toList arr.toList pl.1
        have h2 := congrArg List.length (foldl_setL (ρ p.2).cells.toList 0 pl.1 arr)
        rw [g3, ← Array.foldl_toList, Array.toList_zipIdx]
        rw [show (fun (cs : Array Value) (x : Value × Nat) => match x with | (c, j) => cs.setIfInBounds (pl.1 + j) c) = fun cs p => cs.setIfInBounds (pl.1 + p.2) p.1 from rfl]
        simp only [Array.length_toList, Nat.add_zero] at h2 this
        rw [h2, this]

end
section
variable {P : Program}
theorem run_mapM_list {α β : Type} (f : α → Sem β) (k : α → β) (w : World) : ∀ (l : List α), (∀ x ∈ l, (f x).run P w = .ok (k x) w) → (l.mapM f).run P w = .ok (l.map k) w
  | [], _ => by simp
  | x :: l, h => by
    simp only [List.mapM_cons, Sem.run_bind, h x (by simp), Result.andThen_ok, run_mapM_list f k w l (fun y hy => h y (by simp [hy])), Sem.run_pure, List.map_cons]
theorem partsOf_spec {fs : Array Field} : ∀ {ps : List (Nat × Operand)} {qs : List (Nat × Nat × Operand)}, partsOf P fs ps = some qs →
    (ps.map fun p => ((fs.map fun f => (f.offset, ((P.info? f.type).map (·.size)).getD 0))[p.1]?).map fun q => (q.1, q.2, p.2)) = qs.map some
  | [], qs, h => by simp only [partsOf, Option.some.injEq] at h; subst h; rfl
  | (i, x) :: ps, qs, h => by
    simp only [partsOf] at h
    split at h <;> try (cases h; done)
    rename_i f hf
    split at h <;> try (cases h; done)
    rename_i j hj
    simp only [Option.map_eq_some_iff] at h
    obtain ⟨qs', h1, rfl⟩ := h
    simp only [List.map_cons, partsOf_spec h1]
    simp [hf, hj]
theorem zeroOf_spec {t : TypeId} {z : List AV} (h : zeroOf P t = some z) : ∃ i v, P.info? t = some i ∧ i.zero = some v ∧ v.cells.size = i.size ∧ z = v.cells.toList.map AV.ofCell := by
  unfold zeroOf at h
  split at h <;> try (cases h; done)
  rename_i i hi
  split at h <;> try (cases h; done)
  rename_i v hv
  split at h <;> try (cases h; done)
  rename_i hs
  cases h
  exact ⟨i, v, hi, hv, hs, rfl⟩
theorem snd_build {dst type pos after guard} {t : TypeId} {fs : Array Field} {z : List AV} {ps : Array (Nat × Operand)} {qs : List (Nat × Nat × Operand)} (hu : P.underlying t = some (.struct fs)) (hz : zeroOf P t = some z)
    (hall : (fs.toList.all fun f => (P.info? f.type).isSome) = true) (hp : partsOf P fs ps.toList = some qs) : ASound P ⟨dst, .build t ps, type, pos, after, guard⟩ (.build z qs) := by
  intro h τ av hv w g ρ hs hr
  obtain ⟨i, v, hi, hzv, hsz, rfl⟩ := zeroOf_spec hz
  simp only [aval, Option.map_eq_some_iff] at hv
  obtain ⟨out, ho, rfl⟩ := hv
  have hops : ∀ p ∈ ps.toList, Rep w g (τ p.2) (ρ p.2) := fun p hp => hr p.2 (by simp only [Op.operands]; simp; exact ⟨p.1, by simpa using hp⟩)
  obtain ⟨arr', h1, h2, _⟩ := fill_rep (w := w) (g := g) (τ := τ) (ρ := ρ) ((fs.map fun f => (f.offset, ((P.info? f.type).map (·.size)).getD 0))[·]?) ps.toList qs _ v.cells out (partsOf_spec hp) hops ho (repL_ofCell w g _)
  have hmap : (fs.mapM fun f => (do pure (f.offset, ← sizeOf f.type) : Sem (Nat × Nat))).run P w = .ok (fs.map fun f => (f.offset, ((P.info? f.type).map (·.size)).getD 0)) w := by
    rw [Array.mapM_eq_mapM_toList]
    rw [Sem.run_map, run_mapM_list _ (fun f : Field => (f.offset, ((P.info? f.type).map (·.size)).getD 0)) w fs.toList]
    · simp only [Result.andThen_ok]
      congr 1
      apply Array.ext'
      simp
    · intro f hf
      have := List.all_eq_true.1 hall f hf
      obtain ⟨j, hj⟩ := Option.isSome_iff_exists.1 this
      simp [sizeOf, typeInfo, hj]
  refine ⟨.agg arr', ?_, by simp only [Rep]; exact ⟨arr', rfl, h2⟩⟩
  have hpl : (ps.map fun (x : Nat × Operand) => (x.1, ρ x.2)).toList = ps.toList.map fun p => (p.1, ρ p.2) := by simp
  simp only [execOp, Instr.build, Sem.run_bind, zeroValue, typeInfo, run_program, Result.andThen_ok, hi, Sem.run_pure, hzv, run_underlying hu, hmap]
  simp only [hpl, h1, Sem.run_pure, Result.andThen_ok]

end
section
variable {P : Program}
def eqVals : List LK → List Value → List Value → Option Bool
  | [], [], [] => some true
  | k :: ks, a :: xs, b :: ys => match eqLeaf k a b, eqVals ks xs ys with
    | some p, some q => some (p && q)
    | _, _ => none
  | _, _, _ => none
theorem eqCells_vals {w : World} {g : Gh} : ∀ {ks : List LK} {cs ds : List AV} {us vs : List Value} {b : Bool}, eqCells ks cs ds = some b → RepL w g cs us → RepL w g ds vs → eqVals ks us vs = some b
  | [], [], [], us, vs, b, h, h1, h2 => by simp only [RepL] at h1 h2; subst h1; subst h2; simpa [eqCells, eqVals] using h
  | [], _ :: _, _, _, _, _, h, _, _ => by simp [eqCells] at h
  | [], [], _ :: _, _, _, _, h, _, _ => by simp [eqCells] at h
  | _ :: _, [], _, _, _, _, h, _, _ => by simp [eqCells] at h
  | k :: ks, c :: cs, [], us, vs, b, h, h1, h2 => by cases c <;> simp [eqCells] at h
  | k :: ks, c :: cs, d :: ds, us, vs, b, h, h1, h2 => by
    cases c <;> cases d <;> try (simp [eqCells] at h; done)
    simp only [RepL] at h1 h2
    obtain ⟨u, us', rfl, e1, h1⟩ := h1
    obtain ⟨v, vs', rfl, e2, h2⟩ := h2
    simp only [Rep] at e1 e2
    subst e1
    subst e2
    simp only [eqCells] at h
    split at h <;> try (cases h; done)
    rename_i p q hp hq
    simp only [eqVals, hp, eqCells_vals hq h1 h2]
    exact h
theorem eqVals_len : ∀ {ks : List LK} {us vs : List Value} {b : Bool}, eqVals ks us vs = some b → us.length = ks.length ∧ vs.length = ks.length
  | [], [], [], _, _ => ⟨rfl, rfl⟩
  | [], _ :: _, _, _, h => by simp [eqVals] at h
  | [], [], _ :: _, _, h => by simp [eqVals] at h
  | _ :: _, [], _, _, h => by simp [eqVals] at h
  | _ :: _, _ :: _, [], _, h => by simp [eqVals] at h
  | k :: ks, u :: us, v :: vs, b, h => by
    simp only [eqVals] at h
    split at h <;> try (cases h; done)
    rename_i p q hp hq
    have := eqVals_len hq
    simp [this]
theorem eqVals_append : ∀ {k1 k2 : List LK} {us vs : List Value} {b : Bool}, eqVals (k1 ++ k2) us vs = some b →
    ∃ b1 b2, eqVals k1 (us.take k1.length) (vs.take k1.length) = some b1 ∧ eqVals k2 (us.drop k1.length) (vs.drop k1.length) = some b2 ∧ b = (b1 && b2)
  | [], k2, us, vs, b, h => ⟨true, b, by simp [eqVals], by simpa using h, by simp⟩
  | k :: k1, k2, [], vs, b, h => by simp [eqVals] at h
  | k :: k1, k2, _ :: _, [], b, h => by simp [eqVals] at h
  | k :: k1, k2, u :: us, v :: vs, b, h => by
    simp only [List.cons_append, eqVals] at h
    split at h <;> try (cases h; done)
    rename_i p q hp hq
    cases h
    obtain ⟨b1, b2, h1, h2, rfl⟩ := eqVals_append hq
    exact ⟨p && b1, b2, by simp [eqVals, hp, h1], by simpa using h2, by rw [Bool.and_assoc]⟩

def isStructT (P : Program) (t : TypeId) : Bool := match P.underlying t with
  | some d => isAggD d
  | none => false
def LeafOk (P : Program) (d : Nat) : Prop := ∀ (t : TypeId) (ks : List LK), leafs P d t = some ks → ∀ (D : Nat), d ≤ D → ∀ (w : World) (xs ys : Array Value) (off : Nat) (b : Bool),
  eqVals ks ((xs.toList.drop off).take ks.length) ((ys.toList.drop off).take ks.length) = some b →
    ∃ X Y, (part t xs off).run P w = .ok X w ∧ (part t ys off).run P w = .ok Y w ∧ (Op.equalIn D t X Y).run P w = .ok b w
theorem run_eqFields {d : Nat} (hd : LeafOk P d) : ∀ (fs : List Field) (ks : List LK) (off D : Nat) (w : World) (xs ys : Array Value) (b : Bool), leafsF (leafs P d) fs off = some ks → d ≤ D →
    eqVals ks (xs.toList.drop off) (ys.toList.drop off) = some b → (Op.eqFields D xs ys fs).run P w = .ok b w
  | [], ks, off, D, w, xs, ys, b, h, _, he => by
    simp only [leafsF, Option.some.injEq] at h
    subst h
    have : b = true := by
      cases h1 : xs.toList.drop off <;> cases h2 : ys.toList.drop off <;> simp [h1, h2, eqVals] at he
      exact he
    simp [Op.eqFields, this]
  | f :: fs, ks, off, D, w, xs, ys, b, h, hD, he => by
    simp only [leafsF] at h
    split at h <;> try (cases h; done)
    rename_i hc
    obtain ⟨ho, hn⟩ := hc
    split at h <;> try (cases h; done)
    rename_i k1 hk1
    simp only [Option.map_eq_some_iff] at h
    obtain ⟨k2, hk2, rfl⟩ := h
    obtain ⟨b1, b2, e1, e2, rfl⟩ := eqVals_append he
    obtain ⟨X, Y, g1, g2, g3⟩ := hd f.type k1 hk1 D hD w xs ys off b1 e1
    have ih := run_eqFields hd fs k2 (off + k1.length) D w xs ys b2 hk2 hD (by rw [List.drop_drop, List.drop_drop] at e2; exact e2)
    subst ho
    cases b1
    · simp [Op.eqFields, hn, g1, g2, g3]
    · simp [Op.eqFields, hn, g1, g2, g3, ih]
theorem leafOk : ∀ d, LeafOk P d
  | 0 => by intro t ks h; simp [leafs] at h
  | d + 1 => by
    intro t ks h D hD w xs ys off b he
    obtain ⟨D, rfl⟩ : ∃ D', D = D' + 1 := ⟨D - 1, by omega⟩
    simp only [leafs] at h
    have one : ∀ k, ks = [k] → ∃ X Y, xs[off]? = some X ∧ ys[off]? = some Y ∧ eqLeaf k X Y = some b := by
      rintro k rfl
      simp only [List.length_singleton] at he
      cases h1 : xs.toList.drop off with
      | nil => simp [h1, eqVals] at he
      | cons X xs' =>
        cases h2 : ys.toList.drop off with
        | nil => simp [h1, h2, eqVals] at he
        | cons Y ys' =>
          simp [h1, h2, eqVals] at he
          have e1 : xs[off]? = some X := by have := congrArg (·[0]?) h1; simpa [List.getElem?_drop] using this
          have e2 : ys[off]? = some Y := by have := congrArg (·[0]?) h2; simpa [List.getElem?_drop] using this
          refine ⟨X, Y, e1, e2, ?_⟩
          cases hq : eqLeaf k X Y with
          | none => simp [hq] at he
          | some q => simp [hq] at he; simp [he]
    split at h
    · rename_i k hu
      cases h
      obtain ⟨X, Y, e1, e2, e3⟩ := one _ rfl
      refine ⟨X, Y, by simp [part, run_isAgg hu, isAggD, e1], by simp [part, run_isAgg hu, isAggD, e2], ?_⟩
      cases X <;> cases Y <;> simp [eqLeaf] at e3
      obtain ⟨rfl, rfl⟩ := e3
      exact run_equalIn_int w D t _ _ _ _ hu
    · rename_i hu
      cases h
      obtain ⟨X, Y, e1, e2, e3⟩ := one _ rfl
      refine ⟨X, Y, by simp [part, run_isAgg hu, isAggD, e1], by simp [part, run_isAgg hu, isAggD, e2], ?_⟩
      cases X <;> cases Y <;> simp [eqLeaf] at e3
      subst e3
      rw [run_equalIn_string w D t _ _ hu, beq_toListBytes]
    · rename_i hu
      cases h
      obtain ⟨X, Y, e1, e2, e3⟩ := one _ rfl
      refine ⟨X, Y, by simp [part, run_isAgg hu, isAggD, e1], by simp [part, run_isAgg hu, isAggD, e2], ?_⟩
      cases X <;> cases Y <;> simp [eqLeaf] at e3
      subst e3
      exact run_equalIn_bool w D t _ _ hu
    · rename_i fs hu
      split at h <;> try (cases h; done)
      rename_i hp
      split at h <;> try (cases h; done)
      rename_i ks' i hks hi
      split at h <;> try (cases h; done)
      rename_i hsz
      cases h
      have hfs : P.fieldsOf t = fs := by simp [Program.fieldsOf, hu]
      refine ⟨.agg (xs.extract off (off + i.size)), .agg (ys.extract off (off + i.size)), by simp [part, run_isAgg hu, isAggD, run_sizeOf hi], by simp [part, run_isAgg hu, isAggD, run_sizeOf hi], ?_⟩
      rw [run_equalIn_struct w D t _ _ (by rw [hfs]; exact hu) hp, hfs]
      refine run_eqFields (leafOk d) fs.toList ks 0 D w _ _ b hks (by omega) ?_
      rw [Array.toList_extract, Array.toList_extract, List.extract_eq_take_drop, List.extract_eq_take_drop]
      simpa [hsz] using he
    · cases h
theorem leafs_struct {d : Nat} {t : TypeId} {fs : Array Field} {ks : List LK} (hu : P.underlying t = some (.struct fs)) (hk : leafs P (d + 1) t = some ks) : P.stoodInHeld t = false ∧ leafsF (leafs P d) fs.toList 0 = some ks := by
  simp only [leafs, hu] at hk
  split at hk <;> try (cases hk; done)
  rename_i hp
  split at hk <;> try (cases hk; done)
  rename_i ks' i hks hi
  split at hk <;> try (cases hk; done)
  cases hk
  exact ⟨hp, hks⟩
theorem snd_eqs {dst type pos after guard} {op : BinOp} {t yt : TypeId} {ks : List LK} {fs : Array Field} (neg : Bool) (x y : Operand) (hu : P.underlying t = some (.struct fs)) (hk : leafs P 20 t = some ks) (hg : P.eqGuardType P.depth t = false) (hop : op = bif neg then .neq else .eql) :
    ASound P ⟨dst, .binOp op t x y yt, type, pos, after, guard⟩ (.eqs neg ks x y) := by
  intro h τ av hv w g ρ hs hr
  simp only [aval] at hv
  have h1 := hr x (by simp [Op.operands])
  have h2 := hr y (by simp [Op.operands])
  split at hv <;> try (cases hv; done)
  rename_i cs ds hx hy
  rw [hx] at h1
  rw [hy] at h2
  simp only [Rep] at h1 h2
  obtain ⟨us, e1, r1⟩ := h1
  obtain ⟨vs, e2, r2⟩ := h2
  simp only [Option.map_eq_some_iff] at hv
  obtain ⟨b, hb, rfl⟩ := hv
  refine ⟨_, ?_, rep_v _ _ _⟩
  have hev := eqCells_vals hb r1 r2
  have hlen := eqVals_len hev
  obtain ⟨hp, hks⟩ := leafs_struct (d := 19) hu hk
  have hfs : P.fieldsOf t = fs := by simp [Program.fieldsOf, hu]
  have hrun : (Op.equalIn 10000 t (.agg us) (.agg vs)).run P w = .ok b w := by
    rw [run_equalIn_struct w 9999 t _ _ (by rw [hfs]; exact hu) hp, hfs]
    exact run_eqFields (leafOk 19) fs.toList ks 0 9999 w _ _ b hks (by omega) (by simpa using hev)
  cases neg <;> simp at hop <;> subst hop <;> simp [execOp, e1, e2, run_eqGuard_agg w _ t x y us vs hg, run_eql_struct, run_neq_struct, hrun]

end
section
variable {P : Program}

def ESound (P : Program) (o : Oper) (ao : AOp) : Prop := ∀ (h : AH) (τ : Operand → AV) (av : AV) (h' : AH), aeff h τ ao = some (av, h') → ∀ (w : World) (g : Gh) (ρ : Operand → Value), SimH w g h → (∀ x ∈ o.op.operands, Rep w g (τ x) (ρ x)) →
  ∃ n v w' g', (execOp ρ o).run P w = .ok n w' ∧ (n = .value v ∨ (n = .skip ∧ v = undef)) ∧ Rep w' g' av v ∧ SimH w' g' h' ∧ g.le g' ∧ Fr w (Ow g h) w' ∧ ∀ k, Ow g' h' k → Ow g h k ∨ w.heap.size ≤ k

theorem rep_ptr_new {w : World} {g : Gh} {id cap b : Nat} : Rep w (g.add id 0 (some ⟨b, 0, none⟩, cap)) (.ptr id 0 0) (.pointer (some ⟨b, 0, none⟩)) := by
  simp only [Rep]
  exact ⟨b, cap, by simp [Gh.add], rfl⟩
theorem snd_new {dst type pos after guard} {e : TypeId} {i : TypeInfo} {z : List AV} (hi : P.info? e = some i) (hz : zeroOf P e = some z) : ESound P ⟨dst, .alloc e, type, pos, after, guard⟩ (.new e i.size z) := by
  intro h τ av h' hv w g ρ hs hr
  obtain ⟨i', v, hi', hzv, hsz, rfl⟩ := zeroOf_spec hz
  rw [hi] at hi'
  cases hi'
  simp only [aeff, Option.some.injEq, Prod.mk.injEq] at hv
  obtain ⟨rfl, rfl⟩ := hv
  obtain ⟨h1, h2, h3, h4⟩ := hs.alloc (arr := v.cells) (cells := v.cells.toList.map AV.ofCell) e i.size 1 (by have := repL_ofCell w g v.cells.toList; rw [List.take_of_length_le (by simp)]; exact this) (by simp) (by omega) (by simp [maxLen]) (by simp)
  exact ⟨_, _, _, _, by simp [execOp, Instr.alloc, zeroValue, typeInfo, hi, hzv, newVar, newRow], .inl rfl, rep_ptr_new, h1, h2, h3, h4⟩
theorem snd_box {dst type pos after guard} {e : TypeId} {sz : Nat} (x : Operand) : ESound P ⟨dst, .box e x, type, pos, after, guard⟩ (.box e sz x) := by
  intro h τ av h' hv w g ρ hs hr
  simp only [aeff] at hv
  split at hv <;> try (cases hv; done)
  rename_i cs hcs
  split at hv <;> try (cases hv; done)
  rename_i hsz
  simp only [Option.some.injEq, Prod.mk.injEq] at hv
  obtain ⟨rfl, rfl⟩ := hv
  have hrl := cellsV_rep hcs (hr x (by simp [Op.operands]))
  have hlen : (ρ x).cells.size = cs.length := by simpa using hrl.length
  obtain ⟨h1, h2, h3, h4⟩ := hs.alloc (arr := (ρ x).cells) (cells := cs) e sz 1 (by rw [List.take_of_length_le (by simp [hlen])]; exact hrl) (by omega) (by omega) (by simp [maxLen]) (by simp)
  exact ⟨_, _, _, _, by simp [execOp, Instr.box, newVar, newRow], .inl rfl, rep_ptr_new, h1, h2, h3, h4⟩

/-- a store of some cells, one by one -/
theorem run_storeCells_sim {id ver ty s b cap : Nat} : ∀ (cs : List AV) (us : List Value) (w : World) (g : Gh) (h : AH) (cells : List AV) (off i : Nat), SimH w g h → h[id]? = some (.mk ver ty s cells) → g.loc id ver = some (some ⟨b, 0, none⟩, cap) →
    off + i + cs.length ≤ cells.length → cs.all leaf = true → RepL w g cs us →
    ∃ w', (storeCells ⟨b, off, none⟩ us i).run P w = .ok () w' ∧ SimH w' g (h.set id (.mk ver ty s (setCells cells (off + i) cs))) ∧ Fr w (Ow g h) w'
  | [], us, w, g, h, cells, off, i, hs, he, hl, hle, hlf, hr => by
    simp only [RepL] at hr
    subst hr
    refine ⟨w, by simp [storeCells], ?_, Fr.refl _ _⟩
    simp only [setCells]
    have hid : id < h.length := (List.getElem?_eq_some_iff.1 he).1
    have hself : h.set id (.mk ver ty s cells) = h := by
      apply List.ext_getElem?
      intro j
      by_cases hj : j = id
      · subst hj; rw [List.getElem?_set_self hid, he]
      · rw [List.getElem?_set_ne (Ne.symm hj)]
    rw [hself]; exact hs
  | c :: cs, us, w, g, h, cells, off, i, hs, he, hl, hle, hlf, hr => by
    simp only [RepL] at hr
    obtain ⟨u, us', rfl, h1, h2⟩ := hr
    simp only [List.all_cons, Bool.and_eq_true] at hlf
    simp only [List.length_cons] at hle
    obtain ⟨g1, g2, g3, g4⟩ := hs.store (k := off + i) he hl (by omega) h1
    have hid : id < h.length := (List.getElem?_eq_some_iff.1 he).1
    have hfr : Fr w (Ow g h) (w.setCell ⟨b, off + i, none⟩ u) := ⟨rfl, rfl, rfl, by simp, fun k hk hn => heap_setCell_other w _ _ _ (fun e => hn ⟨id, by simpa [e] using g4⟩)⟩
    have hmono : RepL (w.setCell ⟨b, off + i, none⟩ u) g cs us' := RepL.mono (Gh.le.refl g) (fun k hk => hfr.block k (hs.lt k hk) (fun ho => (hs.own_not_D ho).1 hk)) _ _ h2
    obtain ⟨w', k1, k2, k3⟩ := run_storeCells_sim cs us' _ g _ (cells.set (off + i) c) off (i + 1) g1 (by rw [List.getElem?_set_self hid]) hl (by simp; omega) hlf.2 hmono
    refine ⟨w', ?_, ?_, ?_⟩
    · simp only [storeCells, Sem.run_bind, Addr.add_off]
      rw [run_store P w ⟨b, off + i, none⟩ u _ (leaf_oneCell hlf.1 h1)]
      cases hc : w.cell? ⟨b, off + i, none⟩ with
      | none => exact absurd hc g2
      | some u0 => simp [g3, k1]
    · simp only [setCells]
      rw [List.set_set] at k2
      exact k2
    · refine hfr.trans k3 ?_
      rintro k ⟨j, v, ty', s', c', b', cap', e1, e2, e3, e4⟩ _
      by_cases hj : j = id
      · subst hj
        rw [List.getElem?_set_self hid] at e1
        cases e1
        exact ⟨j, ver, ty, s, cells, b', cap', he, e2, e3, e4⟩
      · rw [List.getElem?_set_ne (Ne.symm hj)] at e1
        exact ⟨j, v, ty', s', c', b', cap', e1, e2, e3, e4⟩
theorem Ow.of_set {g : Gh} {h : AH} {id ver ty s k : Nat} {cells cells' : List AV} (he : h[id]? = some (.mk ver ty s cells)) (hk : Ow g (h.set id (.mk ver ty s cells')) k) : Ow g h k := by
  have hid : id < h.length := (List.getElem?_eq_some_iff.1 he).1
  obtain ⟨j, v, ty', s', c', b', cap', e1, e2, e3, e4⟩ := hk
  by_cases hj : j = id
  · subst hj
    rw [List.getElem?_set_self hid] at e1
    cases e1
    exact ⟨j, ver, ty, s, cells, b', cap', he, e2, e3, e4⟩
  · rw [List.getElem?_set_ne (Ne.symm hj)] at e1
    exact ⟨j, v, ty', s', c', b', cap', e1, e2, e3, e4⟩
theorem snd_store {dst type pos after guard} {t : TypeId} {i : TypeInfo} (p x : Operand) (hi : P.info? t = some i) : ESound P ⟨dst, .store t p x, type, pos, after, guard⟩ (.store i.size p x) := by
  intro h τ av h' hv w g ρ hs hr
  simp only [aeff] at hv
  split at hv <;> try (cases hv; done)
  rename_i id ver off cs hp hcs
  split at hv <;> try (cases hv; done)
  rename_i v ty s cells he
  split at hv <;> try (cases hv; done)
  rename_i hc
  obtain ⟨rfl, hl, hle, hlf⟩ := hc
  simp only [Option.some.injEq, Prod.mk.injEq] at hv
  obtain ⟨rfl, rfl⟩ := hv
  have hrp := hr p (by simp [Op.operands])
  have hrx := cellsV_rep hcs (hr x (by simp [Op.operands]))
  rw [hp] at hrp
  simp only [Rep] at hrp
  obtain ⟨b, cap, hloc, e1⟩ := hrp
  obtain ⟨w', k1, k2, k3⟩ := run_storeCells_sim (P := P) (b := b) (cap := cap) cs _ w g h cells off 0 hs he hloc (by omega) hlf hrx
  have hsz : (ρ x).cells.size = i.size := by have := hrx.length; simpa [hl] using this
  refine ⟨.skip, undef, w', g, ?_, .inr ⟨rfl, rfl⟩, by simp only [Rep], k2, Gh.le.refl _, k3, fun k hk => .inl (Ow.of_set he hk)⟩
  simp only [execOp, e1]
  simp [Instr.storeAt, Instr.sureAddr, storeVar, run_sizeOf hi, hsz, k1]

end
section
variable {P : Program}
theorem rep_own_new {w : World} {g : Gh} {id ver cap n : Nat} {A : Option Addr} (h : n ≤ cap) (hm : cap ≤ maxLen) : Rep w (g.add id ver (A, cap)) (.own id ver n) (.slice A n cap) := by
  simp only [Rep]
  exact ⟨A, cap, by simp [Gh.add], h, hm, rfl⟩
theorem setCells_len (cells : List AV) (off : Nat) (cs : List AV) : (setCells cells off cs).length = cells.length := setCells_length cs cells off
theorem fillAV_len {τ : Operand → AV} : ∀ {ps : List (Nat × Nat × Operand)} {cells out : List AV}, fillAV τ ps cells = some out → out.length = cells.length
  | [], cells, out, h => by simp only [fillAV, Option.some.injEq] at h; rw [h]
  | (off, sz, x) :: ps, cells, out, h => by
    simp only [fillAV] at h
    split at h <;> try (cases h; done)
    split at h <;> try (cases h; done)
    rw [fillAV_len h, setCells_len]
/-- a slice of no room -/
theorem SimH.add0 {w w' : World} {g : Gh} {h : AH} (hs : SimH w g h) (A : Option Addr) (ty stride : Nat) (hw : ∀ k, k < w.heap.size → w'.heap[k]? = w.heap[k]?) (hsz : w.heap.size ≤ w'.heap.size) :
    SimH w' (g.add h.length 0 (A, 0)) (h ++ [.mk 0 ty stride []]) ∧ g.le (g.add h.length 0 (A, 0)) ∧ ∀ k, Ow (g.add h.length 0 (A, 0)) (h ++ [.mk 0 ty stride []]) k → Ow g h k ∨ w.heap.size ≤ k := by
  have hf : ∀ v l, g.loc h.length v = some l → False := fun v l hl => absurd (hs.fresh _ _ _ hl).1 (Nat.lt_irrefl _)
  have hloc : ∀ i v l, g.loc i v = some l → (g.add h.length 0 (A, 0)).loc i v = some l := by
    intro i v l hi
    simp only [Gh.add]
    rw [if_neg]
    · exact hi
    · rintro ⟨rfl, rfl⟩; exact hf _ _ hi
  have how : ∀ k, g.D k ∨ (∃ i, i ≠ h.length ∧ OwAt g h i k) → k < w.heap.size := by
    rintro k (hk | ⟨i, _, hk⟩)
    · exact hs.lt k hk
    · exact (hs.own_not_D ⟨i, hk⟩).2
  have := hs.put (w' := w') (g' := g.add h.length 0 (A, 0)) (h' := h ++ [.mk 0 ty stride []]) h.length 0 ty stride [] A 0 ?_ ?_ ?_ rfl hloc ?_ ?_ (fun v l hl => (hf v l hl).elim) (fun k hk => hw k (how k hk)) hsz (by simp [maxLen]) (.inl ⟨rfl, rfl⟩) (fun _ _ h => absurd rfl h)
  · exact ⟨this.1, this.2.1, fun k hk => .inl ((this.2.2 k hk).resolve_right (fun h => h.2 rfl))⟩
  · intro i hi
    by_cases hlt : i < h.length
    · rw [List.getElem?_append_left hlt]
    · rw [List.getElem?_eq_none (by simp; omega), List.getElem?_eq_none (by omega)]
  · simp
  · simp
  · intro i v l hi
    simp only [Gh.add] at hi
    split at hi
    · right; assumption
    · left; exact hi
  · simp [Gh.add]
theorem snd_lit0 {dst type pos after guard} {t e : TypeId} {i : TypeInfo} {z : Value} (hu : P.underlying t = some (.slice e)) (hi : P.info? e = some i) :
    ESound P ⟨dst, .buildSlice t 0 #[], type, pos, after, guard⟩ (.lit e i.size 0 [] []) := by
  intro h τ av h' hv w g ρ hs hr
  simp only [aeff, fillAV, Option.some.injEq, Prod.mk.injEq] at hv
  obtain ⟨rfl, rfl⟩ := hv
  have hold : ∀ k, k < w.heap.size → (w.alloc (.cells #[] e)).heap[k]? = w.heap[k]? := fun k hk => heap_alloc_old w _ k hk
  obtain ⟨k1, k2, k3⟩ := hs.add0 (w' := w.alloc (.cells #[] e)) (some ⟨w.heap.size, 0, none⟩) e i.size hold (by simp)
  refine ⟨.value (.slice (some ⟨w.heap.size, 0, none⟩) 0 0), _, _, _, ?_, .inl rfl, rep_own_new (Nat.le_refl _) (by simp [maxLen]), k1, k2, ⟨rfl, rfl, rfl, by simp, fun k hk _ => hold k hk⟩, k3⟩
  have hempty : (Array.range 0).map (fun x => (#[] : Array Value)[x % (#[] : Array Value).size]!) = #[] := Array.size_eq_zero_iff.1 (by simp)
  simp only [execOp, Instr.buildSlice, Sem.run_bind, run_underlying hu, Result.andThen_ok, run_sizeOf hi, Nat.zero_mul]
  simp only [show ¬ (0 > 2 ^ 24) by omega, if_false, if_true, Sem.run_bind, Sem.run_pure, Result.andThen_ok, hempty]
  simp [newRow, Instr.fill]
theorem snd_lit {dst type pos after guard} {t e : TypeId} {i : TypeInfo} {z : Value} {n : Nat} {ps : Array (Nat × Operand)} (hu : P.underlying t = some (.slice e)) (hi : P.info? e = some i) (hz : i.zero = some z) (hb : n * i.size ≤ 16777216) (hn0 : n ≠ 0) (hnm : n ≤ maxLen) :
    ESound P ⟨dst, .buildSlice t n ps, type, pos, after, guard⟩ (.lit e i.size n (litZero z.cells (n * i.size)) (ps.toList.map fun p => (p.1 * i.size, i.size, p.2))) := by
  intro h τ av h' hv w g ρ hs hr
  simp only [aeff] at hv
  split at hv <;> try (cases hv; done)
  rename_i cs hcs
  simp only [Option.some.injEq, Prod.mk.injEq] at hv
  obtain ⟨rfl, rfl⟩ := hv
  have hops : ∀ p ∈ ps.toList, Rep w g (τ p.2) (ρ p.2) := fun p hp => hr p.2 (by simp only [Op.operands]; simp; exact ⟨p.1, by simpa using hp⟩)
  obtain ⟨arr', h1, h2, h3⟩ := fill_rep (w := w) (g := g) (τ := τ) (ρ := ρ) (fun k => some (k * i.size, i.size)) ps.toList _ _ ((Array.range (n * i.size)).map (z.cells[· % z.cells.size]!)) cs (by simp) hops hcs (repL_ofCell w g _)
  have hsz : arr'.size = n * i.size := by rw [h3]; simp
  have hcl : cs.length = arr'.size := by have := h2.length; simpa using this.symm
  obtain ⟨k1, k2, k3, k4⟩ := hs.alloc (arr := arr') (cells := cs) e i.size n (by rw [List.take_of_length_le (by simp [hcl])]; exact h2) (by omega) hsz hnm hn0
  have hpl : (ps.map fun (x : Nat × Operand) => (x.1, ρ x.2)).toList = ps.toList.map fun p => (p.1, ρ p.2) := by simp
  have hlim : ¬ (2 ^ 24 < n * i.size) := by omega
  refine ⟨.value (.slice (some ⟨w.heap.size, 0, none⟩) n n), _, _, _, ?_, .inl rfl, rep_own_new (Nat.le_refl _) hnm, k1, k2, k3, k4⟩
  by_cases hzero : n * i.size = 0
  · have harr : ((Array.range (n * i.size)).map (z.cells[· % z.cells.size]!)) = #[] := Array.size_eq_zero_iff.1 (by simp [hzero])
    have hempty : (Array.range 0).map (fun x => (#[] : Array Value)[x % (#[] : Array Value).size]!) = #[] := Array.size_eq_zero_iff.1 (by simp)
    rw [harr] at h1
    simp only [execOp, Instr.buildSlice, Sem.run_bind, run_underlying hu, Result.andThen_ok, run_sizeOf hi, hzero]
    simp only [show ¬ (0 > 2 ^ 24) by omega, if_false, if_true, Sem.run_bind, Sem.run_pure, Result.andThen_ok, hpl, hempty, h1]
    simp [newRow]
  · simp only [execOp, Instr.buildSlice, Sem.run_bind, run_underlying hu, Result.andThen_ok, run_sizeOf hi, show ¬ (n * i.size > 2 ^ 24) by omega, if_false, hzero]
    simp only [zeroValue, typeInfo, Sem.run_bind, run_program, Result.andThen_ok, hi, hz, Sem.run_pure, hpl, h1]
    simp [newRow]

end
section
variable {P : Program}
theorem repL_vmap {w : World} {g : Gh} {α : Type} (f : α → Value) : ∀ (l : List α), RepL w g (l.map fun b => .v (f b)) (l.map f)
  | [] => by simp only [List.map_nil, RepL]
  | b :: l => by simp only [List.map_cons, RepL]; exact ⟨_, _, rfl, by simp only [Rep], repL_vmap f l⟩
theorem src_rep {w : World} {g : Gh} {h : AH} (hs : SimH w g h) {sz : Nat} {c : AV} {y : Value} {m : Nat} {news : List AV} (hc : srcCells h sz c = some (m, news)) (hr : Rep w g c y) :
    ∃ us : List Value, RepL w g news us ∧ us.length = m * sz ∧ (∀ w', (Builtin.lenOf y).run P w' = .ok m w') ∧ (Builtin.firstCells sz m y).run P w = .ok us.toArray w ∧ (Builtin.firstCells sz m y).run P w.drew = .ok us.toArray w.drew := by
  have viaRows : ∀ n cs, rowsAt h c = some (n, cs) → cs.length = n * sz → m = n → news = cs → ∃ us : List Value, RepL w g news us ∧ us.length = m * sz ∧ (∀ w', (Builtin.lenOf y).run P w' = .ok m w') ∧ (Builtin.firstCells sz m y).run P w = .ok us.toArray w ∧ (Builtin.firstCells sz m y).run P w.drew = .ok us.toArray w.drew := by
    rintro n cs hrow hlen rfl rfl
    obtain ⟨A, cap, rfl, _, _, hne⟩ := rowsAt_rep hs hr hrow
    by_cases hz : news = []
    · subst hz
      have hm : m * sz = 0 := by simpa using hlen.symm
      refine ⟨[], by simp only [RepL], by simp [hm], fun w' => by simp [Builtin.lenOf], ?_, ?_⟩ <;> cases A <;> simp [Builtin.firstCells, loadCells, hm, loadCellsFrom]
    · obtain ⟨b, off, rfl, hrc⟩ := hne hz
      obtain ⟨us, g1, g2⟩ := hrc.list
      have hul : us.length = m * sz := by rw [g1.length, hlen]
      refine ⟨us, g1, hul, fun w' => by simp [Builtin.lenOf], run_firstCells_some w sz m _ m cap us hul (fun j v hj => by rw [Addr.add_off]; exact g2 j v hj), run_firstCells_some w.drew sz m _ m cap us hul (fun j v hj => by rw [Addr.add_off]; exact g2 j v hj)⟩
  unfold srcCells at hc
  split at hc
  · rename_i s
    split at hc <;> try (cases hc; done)
    rename_i h1
    subst h1
    cases hc
    simp only [Rep] at hr
    subst hr
    have hext : s.extract 0 s.size = s := ByteArray.extract_zero_size
    refine ⟨s.data.toList.map fun b => .int .u8 b.toNat, repL_vmap _ _, by simp, fun w' => by simp [Builtin.lenOf], ?_, ?_⟩ <;> (simp [Builtin.firstCells, hext]; apply Array.ext'; simp)
  · split at hc <;> try (cases hc; done)
    rename_i n cs hrow
    split at hc <;> try (cases hc; done)
    rename_i hlen
    cases hc
    exact viaRows _ _ hrow hlen rfl rfl
theorem snd_app {dst type pos after guard} {t u e : TypeId} {du : TypeDesc} {i : TypeInfo} {z : List AV} (s x : Operand) (ht : P.underlying t = some (.slice e)) (hu : P.underlying u = some du) (hdu : du = .slice e ∨ du = .string)
    (hi : P.info? e = some i) (hz : zeroOf P e = some z) (hby : 0 < i.bytes) : ESound P ⟨dst, .call { callee := .builtin .append, args := #[s, x], argTypes := #[t, u] }, type, pos, after, guard⟩ (.app e i.size i.bytes s x) := by
  intro h τ av h' hv w g ρ hs hr
  obtain ⟨i', v, hi', hzv, hsz, rfl⟩ := zeroOf_spec hz
  rw [hi] at hi'
  cases hi'
  have hrs := hr s (by simp [Op.operands, Call.operands])
  have hrx := hr x (by simp [Op.operands, Call.operands])
  have hexec : ∀ y A n cap, ρ s = .slice A n cap → ρ x = y → (execOp ρ ⟨dst, .call { callee := .builtin .append, args := #[s, x], argTypes := #[t, u] }, type, pos, after, guard⟩).run P w = ((Builtin.append_ #[t, u] type #[.slice A n cap, y]).run P w).andThen fun v w' => .ok (.value v) w' := by
    intro y A n cap h1 h2
    simp [execOp, resolve, invoke, builtin, h1, h2]
  simp only [aeff] at hv
  split at hv <;> try (cases hv; done)
  rename_i m news hsrc
  obtain ⟨us, u1, u2, u3, u4, u5⟩ := src_rep (P := P) hs hsrc hrx
  have hnl : news.length = m * i.size := by rw [← u1.length]; exact u2
  split at hv <;> try (cases hv; done)
  · rename_i id ver n hτs
    rw [hτs] at hrs
    simp only [Rep] at hrs
    obtain ⟨A, cap, hloc, hn, hcm, es⟩ := hrs
    split at hv <;> try (cases hv; done)
    rename_i v' ty' st cells he
    split at hv <;> try (cases hv; done)
    rename_i hc
    obtain ⟨rfl, rfl, rfl, hcl, hbytes, hlf⟩ := hc
    simp only [Option.some.injEq, Prod.mk.injEq] at hv
    obtain ⟨rfl, rfl⟩ := hv
    have h63 : n + m ≤ maxLen := by
      have : (n + m) * 1 ≤ (n + m) * i.bytes := Nat.mul_le_mul_left _ hby
      simp only [maxLen]; omega
    obtain ⟨A', cap', f1, _, f3⟩ := hs.ent _ _ _ _ _ he
    rw [hloc] at f1
    simp only [Option.some.injEq, Prod.mk.injEq] at f1
    obtain ⟨rfl, rfl⟩ := f1
    have hid : id < h.length := (List.getElem?_eq_some_iff.1 he).1
    have base : ∃ olds : List Value, RepL w g cells olds ∧ olds.length = n * i.size ∧ (cap = 0 ∨ ∃ b arr, A = some ⟨b, 0, none⟩ ∧ w.heap[b]? = some (.cells arr ty' (0, 0)) ∧ arr.size = cap * i.size ∧ arr.toList.take (n * i.size) = olds) := by
      rcases f3 with ⟨rfl, h0⟩ | ⟨b, arr, rfl, hc0, hd, hb, hsz', hle, hrl⟩
      · exact ⟨[], by simp only [RepL], by simpa using hcl, .inl h0⟩
      · exact ⟨_, hrl, by rw [hrl.length, hcl], .inr ⟨b, arr, rfl, hb, hsz', by rw [hcl]⟩⟩
    obtain ⟨olds, o1, o2, o3⟩ := base
    obtain ⟨A2, cap2, w', hrun, hle2, hcm2, hgrow, hrow⟩ := run_append_any (P := P) w t u type ty' i v du ht hu hdu hi hzv hsz A n cap olds o2 hn hcm o3 (ρ x) m us u2 (leafs_oneCell hlf u1) u3 u4 u5 h63 hbytes
    have how : ∀ k, A.map (·.block) = some k → cap ≠ 0 → OwAt g h id k := by
      intro k hk h0
      cases A with
      | none => simp at hk
      | some b => exact ⟨_, _, _, _, b, cap, he, hloc, h0, by simpa using hk⟩
    have hrowk : ∀ k, (if cap = 0 then none else A.map (·.block)) = some k → OwAt g h id k := by
      intro k hk
      split at hk
      · cases hk
      · rename_i h0; exact how k hk h0
    have hfr : Fr w (Ow g h) w' := ⟨hgrow.os, hgrow.tape, hgrow.output, hgrow.size, fun k hk hn => hgrow.block k hk (fun e => hn ⟨id, hrowk k e.symm⟩)⟩
    have hfresh : ∀ l, g.loc id (v' + 1) = some l → False := fun l hl => by have := (hs.fresh _ _ _ hl).2 _ _ _ _ he; omega
    have hlocm : ∀ j vv l, g.loc j vv = some l → (g.add id (v' + 1) (A2, cap2)).loc j vv = some l := by
      intro j vv l hj
      simp only [Gh.add]
      rw [if_neg]
      · exact hj
      · rintro ⟨rfl, rfl⟩; exact hfresh _ hj
    have hle' : g.le (g.add id (v' + 1) (A2, cap2)) := Gh.le_of_put rfl hlocm
    have hDw : ∀ k, g.D k → w'.heap[k]? = w.heap[k]? := fun k hk => hfr.block k (hs.lt k hk) (fun ho => (hs.own_not_D ho).1 hk)
    have hput := hs.put (w' := w') (g' := g.add id (v' + 1) (A2, cap2)) (h' := h.set id (.mk (v' + 1) ty' i.size (cells ++ news))) id (v' + 1) ty' i.size (cells ++ news) A2 cap2
      (fun j hj => by rw [List.getElem?_set_ne (Ne.symm hj)]) (by rw [List.getElem?_set_self hid]) (by simp) rfl hlocm
      (fun j vv l hj => by
        simp only [Gh.add] at hj
        split at hj
        · right; assumption
        · left; exact hj) (by simp [Gh.add]) (fun vv l hl => by have := (hs.fresh _ _ _ hl).2 _ _ _ _ he; omega)
      (by
        rintro k (hk | ⟨j, hj, hk⟩)
        · exact hDw k hk
        · refine hgrow.block k (hs.own_not_D ⟨j, hk⟩).2 (fun e => hj (hs.inj j id k hk (hrowk k e.symm)))) hgrow.size hcm2
      (by
        rcases hrow with h0 | ⟨b', arr', rfl, hc0, hb', hs', htk, hor⟩
        · left
          have hn0 : n + m = 0 := by omega
          refine ⟨?_, h0⟩
          have l1 : cells.length = 0 := by rw [hcl]; have : n = 0 := by omega
                                           simp [this]
          have l2 : news.length = 0 := by rw [hnl]; have : m = 0 := by omega
                                          simp [this]
          rw [List.length_eq_zero_iff.1 l1, List.length_eq_zero_iff.1 l2]; rfl
        · refine .inr ⟨b', arr', rfl, hc0, ?_, hb', hs', ?_, ?_⟩
          · rcases hor with hge | ⟨h0, rfl⟩
            · exact fun hd => by have := hs.lt _ hd; omega
            · exact (hs.own_not_D ⟨id, how b' rfl h0⟩).1
          · rw [List.length_append, hcl, hnl, hs', ← Nat.add_mul]; exact Nat.mul_le_mul_right _ hle2
          · have : (cells ++ news).length = (n + m) * i.size := by rw [List.length_append, hcl, hnl, Nat.add_mul]
            rw [this, htk]
            exact RepL.mono hle' hDw _ _ (o1.append u1))
      (by
        rintro k hk h0 j hj ho
        rcases hrow with h0' | ⟨b', arr', rfl, hc0, hb', hs', htk, hor⟩
        · exact h0 h0'
        · simp at hk
          subst hk
          rcases hor with hge | ⟨h0, rfl⟩
          · have := (hs.own_not_D ⟨j, ho⟩).2; omega
          · exact hj (hs.inj j id b' ho (how b' rfl h0)))
    refine ⟨.value (.slice A2 (n + m) cap2), _, w', _, by rw [hexec (ρ x) A n cap es rfl, hrun]; rfl, .inl rfl, rep_own_new hle2 hcm2, hput.1, hput.2.1, hfr, ?_⟩
    intro k hk
    rcases hput.2.2 k hk with ho | ⟨hk1, hk2⟩
    · exact .inl ho
    · rcases hrow with h0' | ⟨b', arr', rfl, hc0, hb', hs', htk, hor⟩
      · exact absurd h0' hk2
      · simp at hk1
        subst hk1
        rcases hor with hge | ⟨h0, rfl⟩
        · exact .inr hge
        · exact .inl ⟨id, how b' rfl h0⟩
  · rename_i st0 cells0 hτs
    rw [hτs] at hrs
    simp only [Rep] at hrs
    obtain ⟨_, A, cap, es, hn, hcm, hfull, _, _⟩ := hrs
    have hc0 : cap = 0 := by have := hfull trivial; omega
    subst hc0
    split at hv <;> try (cases hv; done)
    rename_i hc
    obtain ⟨hbytes, hlf⟩ := hc
    simp only [Option.some.injEq, Prod.mk.injEq] at hv
    obtain ⟨rfl, rfl⟩ := hv
    have h63 : 0 + m ≤ maxLen := by
      have : m * 1 ≤ m * i.bytes := Nat.mul_le_mul_left _ hby
      simp only [maxLen]; omega
    obtain ⟨A2, cap2, w', hrun, hle2, hcm2, hgrow, hrow⟩ := run_append_any (P := P) w t u type e i v du ht hu hdu hi hzv hsz A 0 0 [] (by simp) (Nat.le_refl _) hcm (.inl rfl) (ρ x) m us u2 (leafs_oneCell hlf u1) u3 u4 u5 h63 (by simpa using hbytes)
    simp only [if_true, Nat.zero_add, List.nil_append] at hgrow hrow hrun hle2
    have hfr : Fr w (Ow g h) w' := ⟨hgrow.os, hgrow.tape, hgrow.output, hgrow.size, fun k hk _ => hgrow.block k hk (by simp)⟩
    have hf : ∀ v l, g.loc h.length v = some l → False := fun v l hl => absurd (hs.fresh _ _ _ hl).1 (Nat.lt_irrefl _)
    have hlocm : ∀ j vv l, g.loc j vv = some l → (g.add h.length 0 (A2, cap2)).loc j vv = some l := by
      intro j vv l hj
      simp only [Gh.add]
      rw [if_neg]
      · exact hj
      · rintro ⟨rfl, rfl⟩; exact hf _ _ hj
    have hle' : g.le (g.add h.length 0 (A2, cap2)) := Gh.le_of_put rfl hlocm
    have hold : ∀ k, k < w.heap.size → w'.heap[k]? = w.heap[k]? := fun k hk => hgrow.block k hk (by simp)
    have hDw : ∀ k, g.D k → w'.heap[k]? = w.heap[k]? := fun k hk => hold k (hs.lt k hk)
    have hnew : ∀ (b' : Nat) (arr' : Array Value), A2 = some ⟨b', 0, none⟩ → cap2 ≠ 0 → (w.heap.size ≤ b' ∨ ((0 : Nat) ≠ 0 ∧ A = some ⟨b', 0, none⟩)) → w.heap.size ≤ b' := by
      rintro b' arr' _ _ (h | ⟨h, _⟩)
      · exact h
      · exact absurd rfl h
    have hput := hs.put (w' := w') (g' := g.add h.length 0 (A2, cap2)) (h' := h ++ [.mk 0 e i.size news]) h.length 0 e i.size news A2 cap2
      (fun j hj => by
        by_cases hlt : j < h.length
        · rw [List.getElem?_append_left hlt]
        · rw [List.getElem?_eq_none (by simp; omega), List.getElem?_eq_none (by omega)]) (by simp) (by simp) rfl hlocm
      (fun j vv l hj => by
        simp only [Gh.add] at hj
        split at hj
        · right; assumption
        · left; exact hj) (by simp [Gh.add]) (fun vv l hl => (hf vv l hl).elim)
      (by
        rintro k (hk | ⟨j, hj, hk⟩)
        · exact hDw k hk
        · exact hold k (hs.own_not_D ⟨j, hk⟩).2) hgrow.size hcm2
      (by
        rcases hrow with h0 | ⟨b', arr', rfl, hc0, hb', hs', htk, hor⟩
        · left
          refine ⟨?_, h0⟩
          have l2 : news.length = 0 := by rw [hnl]; have : m = 0 := by omega
                                          simp [this]
          exact List.length_eq_zero_iff.1 l2
        · have hge := hnew b' arr' rfl hc0 hor
          refine .inr ⟨b', arr', rfl, hc0, fun hd => by have := hs.lt _ hd; omega, hb', hs', ?_, ?_⟩
          · rw [hnl, hs']; exact Nat.mul_le_mul_right _ hle2
          · rw [hnl, htk]
            exact RepL.mono hle' hDw _ _ u1)
      (by
        rintro k hk h0 j hj ho
        rcases hrow with h0' | ⟨b', arr', rfl, hc0, hb', hs', htk, hor⟩
        · exact h0 h0'
        · simp at hk
          subst hk
          have hge := hnew b' arr' rfl hc0 hor
          have := (hs.own_not_D ⟨j, ho⟩).2; omega)
    refine ⟨.value (.slice A2 m cap2), _, w', _, by rw [hexec (ρ x) A 0 0 es rfl, hrun]; rfl, .inl rfl, rep_own_new hle2 hcm2, hput.1, hput.2.1, hfr, ?_⟩
    intro k hk
    rcases hput.2.2 k hk with ho | ⟨hk1, hk2⟩
    · exact .inl ho
    · rcases hrow with h0' | ⟨b', arr', rfl, hc0, hb', hs', htk, hor⟩
      · exact absurd h0' hk2
      · simp at hk1
        subst hk1
        exact .inr (hnew b' arr' rfl hc0 hor)
theorem snd_cap {dst type pos after guard} {t e : TypeId} (x : Operand) (hu : P.underlying t = some (.slice e)) :
    ASound P ⟨dst, .call { callee := .builtin .cap, args := #[x], argTypes := #[t] }, type, pos, after, guard⟩ (.cap x) := by
  intro h τ av hv w g ρ hs hr
  simp only [aval] at hv
  have h1 := hr x (by simp [Op.operands, Call.operands])
  split at hv <;> try (cases hv; done)
  rename_i n st cs hx
  rw [hx] at h1
  simp only [Rep] at h1
  obtain ⟨_, A, cap, e1, _, _, hf, _⟩ := h1
  have := hf trivial
  subst this
  cases hv
  refine ⟨_, ?_, rep_v _ _ _⟩
  simp [execOp, resolve, invoke, builtin, Builtin.cap_, e1, run_underlying hu, goInt]
theorem snd_appz {dst type pos after guard} {t u e : TypeId} {kn : IntKind} {i : TypeInfo} {z : List AV} (s x : Operand) (ht : P.underlying t = some (.slice e)) (hu : P.underlying u = some (.int kn))
    (hi : P.info? e = some i) (hz : zeroOf P e = some z) : ESound P ⟨dst, .call { callee := .builtin .append, args := #[s, x], argTypes := #[t, u] }, type, pos, after, guard⟩ (.appz e i.size i.bytes s x) := by
  intro h τ av h' hv w g ρ hs hr
  obtain ⟨i', v, hi', hzv, hsz, rfl⟩ := zeroOf_spec hz
  rw [hi] at hi'
  cases hi'
  have hrs := hr s (by simp [Op.operands, Call.operands])
  have hrx := hr x (by simp [Op.operands, Call.operands])
  simp only [aeff] at hv
  split at hv <;> try (cases hv; done)
  rename_i st cs kq k hτs hτx
  split at hv <;> try (cases hv; done)
  rename_i hc
  obtain ⟨hk0, hsz0, hb0, hby⟩ := hc
  simp only [Option.some.injEq, Prod.mk.injEq] at hv
  obtain ⟨rfl, rfl⟩ := hv
  rw [hτs] at hrs
  rw [hτx] at hrx
  simp only [Rep] at hrs hrx
  obtain ⟨_, A, cap, es, _, _, hf, _⟩ := hrs
  obtain rfl : cap = 0 := (hf trivial).symm
  obtain ⟨m, rfl⟩ : ∃ m : Nat, k = (m : Int) := ⟨k.toNat, by omega⟩
  have hm0 : 0 < m := by omega
  have hmb : m * i.bytes ≤ 140737488355328 := by
    have h5 := hby
    rw [← Int.natCast_mul] at h5
    omega
  have hd0 : SimH w.drew g h := hs.world (fun _ _ => rfl) (Nat.le_refl _)
  · have h63 : m ≤ 140737488355328 := Nat.le_trans (Nat.le_mul_of_pos_right m (by omega)) hmb
    have hfc : (Builtin.firstCells i.size 0 (.slice A 0 0)).run P w.drew = .ok ([] : List Value).toArray w.drew := by
      cases A <;> simp [Builtin.firstCells, loadCells, loadCellsFrom]
    have hrun := Lib.run_append_grow_zeros (P := P) w t u type e i v kq kn ht hu hi hzv A 0 0 [] hfc m hm0 hsz0 (by omega) (by omega) (by omega) (growslice_fits (by omega) (by simpa using hmb))
    have hG := grownCap_ge w (0 + m) 0 e
    have hG2 := grownCap_le_maxLen w (0 + m) 0 e (by simp only [maxLen]; omega)
    generalize grownCap w (0 + m) 0 e = G at hrun hG hG2
    rw [Nat.zero_add] at hrun hG
    obtain ⟨h1, h2, h3, h4⟩ := hd0.alloc (arr := #[] ++ Builtin.zeroCells v.cells m ++ Builtin.zeroCells v.cells (G - m)) (cells := []) e i.size G (by simp only [List.length_nil, List.take_zero, RepL]) (by simp) (by
      simp only [Array.size_append, size_zeroCells, hsz, List.size_toArray, List.length_nil, Nat.zero_add, ← Nat.add_mul]
      congr 1
      all_goals omega) hG2 (by omega)
    refine ⟨_, .slice (some ⟨w.heap.size, 0, none⟩) m G, _, _, ?_, .inl rfl, ?_, h1, h2, ⟨h3.os, h3.tape, h3.output, h3.size, h3.block⟩, h4⟩
    · simp only [execOp, resolve, invoke, builtin]
      simp [es, hrx, hrun]
    · simp only [Rep, Int.toNat_natCast]
      exact ⟨some ⟨w.heap.size, 0, none⟩, G, by simp [Gh.add], hG, hG2, rfl⟩

end
section
variable {P : Program}

theorem compBin_sound {dst type pos after guard} {op : BinOp} {t yt : TypeId} {x y : Operand} {ao : AOp} (h : compBin P op t x y = some ao) : (ASound P ⟨dst, .binOp op t x y yt, type, pos, after, guard⟩ ao ∧ (∀ h τ, aeff h τ ao = none) ∧ ∀ n x, ao ≠ .eqn n x) ∨
    (∃ neg x' t' yt' e, ao = .eqn neg x' ∧ Op.binOp op t x y yt = .binOp (bif neg then .neq else .eql) t' x' (.const (.slice none 0 0)) yt' ∧ P.underlying t' = some (.slice e)) := by
  unfold compBin at h
  split at h <;> try (cases h; done)
  · cases h; exact .inl ⟨snd_bin x y, fun _ _ => rfl, by simp⟩
  · cases h; exact .inl ⟨snd_bin x y, fun _ _ => rfl, by simp⟩
  · rename_i hu
    split at h <;> try (cases h; done)
    · cases h; exact .inl ⟨snd_eqb false x y hu rfl, fun _ _ => rfl, by simp⟩
    · cases h; exact .inl ⟨snd_eqb true x y hu rfl, fun _ _ => rfl, by simp⟩
  · rename_i fs hu
    split at h <;> try (cases h; done)
    · rename_i ks hk
      split at h <;> try (cases h; done)
      rename_i hg
      cases h; exact .inl ⟨snd_eqs false x y hu hk hg rfl, fun _ _ => rfl, by simp⟩
    · rename_i ks hk
      split at h <;> try (cases h; done)
      rename_i hg
      cases h; exact .inl ⟨snd_eqs true x y hu hk hg rfl, fun _ _ => rfl, by simp⟩
  · rename_i e hu
    split at h <;> try (cases h; done)
    · cases h; exact .inr ⟨false, _, _, _, e, rfl, rfl, hu⟩
    · cases h; exact .inr ⟨true, _, _, _, e, rfl, rfl, hu⟩
theorem compCvt_sound {dst type pos after guard} {s d : TypeId} {x : Operand} {ao : AOp} (h : compCvt P s d x = some ao) : ASound P ⟨dst, .convert s d x, type, pos, after, guard⟩ ao ∧ ∀ h τ, aeff h τ ao = none := by
  unfold compCvt at h
  split at h <;> try (cases h; done)
  · rename_i h1 h2; cases h; exact ⟨snd_cvi x h1 h2, fun _ _ => rfl⟩
  · rename_i h1 h2; cases h; exact ⟨snd_cvs x h1 h2, fun _ _ => rfl⟩
  · rename_i h1 h2
    split at h <;> try (cases h; done)
    rename_i h3
    cases h; exact ⟨snd_b2s x h1 h2 h3, fun _ _ => rfl⟩
/-- what is asked of an operation that is written out -/
def OSound (P : Program) (o : Oper) (ao : AOp) : Prop :=
  (ASound P o ao ∧ ESound P o ao ∧ (∀ f xs, ao ≠ .call f xs) ∧ (∀ x, ao ≠ .panic x) ∧ ∀ n x, ao ≠ .eqn n x) ∨
  (∃ f xs ts, ao = .call f xs ∧ o.op = .call { callee := .value f, args := xs.toArray, argTypes := ts }) ∨ (∃ x, ao = .panic x ∧ o.op = .panic x) ∨ (∃ neg x t yt e, ao = .eqn neg x ∧ o.op = .binOp (bif neg then .neq else .eql) t x (.const (.slice none 0 0)) yt ∧ P.underlying t = some (.slice e))
theorem OSound.a {o : Oper} {ao : AOp} (h : ASound P o ao) (he : ∀ h τ, aeff h τ ao = none) (hc : ∀ f xs, ao ≠ .call f xs) (hp : ∀ x, ao ≠ .panic x) (hq : ∀ n x, ao ≠ .eqn n x) : OSound P o ao :=
  .inl ⟨h, (by intro h τ av h' hv; rw [he] at hv; cases hv), hc, hp, hq⟩
theorem OSound.e {o : Oper} {ao : AOp} (h : ESound P o ao) (he : ∀ h τ, aval h τ ao = none) (hc : ∀ f xs, ao ≠ .call f xs) (hp : ∀ x, ao ≠ .panic x) (hq : ∀ n x, ao ≠ .eqn n x) : OSound P o ao :=
  .inl ⟨(by intro h τ av hv; rw [he] at hv; cases hv), h, hc, hp, hq⟩
theorem list1 {α : Type} {a : Array α} {x : α} (h : a.toList = [x]) : a = #[x] := by rw [← Array.toArray_toList (xs := a), h]
theorem list2 {α : Type} {a : Array α} {x y : α} (h : a.toList = [x, y]) : a = #[x, y] := by rw [← Array.toArray_toList (xs := a), h]
theorem compCall_sound {dst type pos after guard} {c : Call} {ao : AOp} (h : compCall P c = some ao) : OSound P ⟨dst, .call c, type, pos, after, guard⟩ ao := by
  obtain ⟨callee, args, ts⟩ := c
  unfold compCall at h
  dsimp only at h
  split at h <;> try (cases h; done)
  · rename_i f
    cases h
    exact .inr (.inl ⟨f, args.toList, ts, rfl, by simp⟩)
  · split at h <;> try (cases h; done)
    rename_i x t ha ht
    have ha := list1 ha
    have ht := list1 ht
    subst ha
    subst ht
    split at h <;> try (cases h; done)
    · rename_i hu; cases h; exact .a (snd_lenS x hu) (fun _ _ => rfl) (by simp) (by simp) (by simp)
    · rename_i hu; cases h; exact .a (snd_lenL x hu) (fun _ _ => rfl) (by simp) (by simp) (by simp)
  · split at h <;> try (cases h; done)
    rename_i x t ha ht
    have ha := list1 ha
    have ht := list1 ht
    subst ha
    subst ht
    split at h <;> try (cases h; done)
    rename_i hu; cases h; exact .a (snd_cap x hu) (fun _ _ => rfl) (by simp) (by simp) (by simp)
  · split at h <;> try (cases h; done)
    rename_i x y ha
    have ha := list2 ha
    subst ha
    cases h; exact .a (snd_mm true x y) (fun _ _ => rfl) (by simp) (by simp) (by simp)
  · split at h <;> try (cases h; done)
    rename_i x y ha
    have ha := list2 ha
    subst ha
    cases h; exact .a (snd_mm false x y) (fun _ _ => rfl) (by simp) (by simp) (by simp)
  · split at h <;> try (cases h; done)
    rename_i s x t u ha ht
    have ha := list2 ha
    have ht := list2 ht
    subst ha
    subst ht
    split at h <;> try (cases h; done)
    · rename_i e e' h1 h2
      split at h <;> try (cases h; done)
      rename_i i z hi hz
      split at h <;> try (cases h; done)
      rename_i hcond
      obtain ⟨rfl, hb⟩ := hcond
      cases h; exact .e (snd_app s x h1 h2 (.inl rfl) hi hz hb) (fun _ _ => rfl) (by simp) (by simp) (by simp)
    · rename_i e kn h1 h2
      split at h <;> try (cases h; done)
      rename_i i z hi hz
      cases h; exact .e (snd_appz s x h1 h2 hi hz) (fun _ _ => rfl) (by simp) (by simp) (by simp)
    · rename_i e h1 h2
      split at h <;> try (cases h; done)
      rename_i i z hi hz
      split at h <;> try (cases h; done)
      rename_i hb
      cases h; exact .e (snd_app s x h1 h2 (.inr rfl) hi hz hb) (fun _ _ => rfl) (by simp) (by simp) (by simp)
theorem compOp_sound {o : Oper} {ao : AOp} (h : compOp P o = some ao) : OSound P o ao := by
  obtain ⟨dst, op, type, pos, after, guard⟩ := o
  unfold compOp at h
  dsimp only at h
  split at h <;> try (cases h; done)
  · cases h; exact .a (snd_mv _ _ (.inl rfl)) (fun _ _ => rfl) (by simp) (by simp) (by simp)
  · cases h; exact .a (snd_mv _ _ (.inr rfl)) (fun _ _ => rfl) (by simp) (by simp) (by simp)
  · cases h; exact .a (snd_pick _ _ _) (fun _ _ => rfl) (by simp) (by simp) (by simp)
  · split at h <;> try (cases h; done)
    rename_i i z hi hz
    cases h; exact .e (snd_new hi hz) (fun _ _ => rfl) (by simp) (by simp) (by simp)
  · simp only [Option.map_eq_some_iff] at h
    obtain ⟨i, hi, rfl⟩ := h
    exact .e (snd_box _) (fun _ _ => rfl) (by simp) (by simp) (by simp)
  · split at h <;> try (cases h; done)
    rename_i fs z hu hz
    split at h <;> try (cases h; done)
    rename_i hall
    simp only [Option.map_eq_some_iff] at h
    obtain ⟨qs, hq, rfl⟩ := h
    exact .a (snd_build hu hz hall hq) (fun _ _ => rfl) (by simp) (by simp) (by simp)
  · split at h <;> try (cases h; done)
    rename_i e hu
    split at h <;> try (cases h; done)
    rename_i i hi
    split at h <;> try (cases h; done)
    rename_i z hz
    split at h
    · rename_i hc
      obtain ⟨rfl, rfl⟩ := hc
      cases h; exact .e (snd_lit0 (z := z) hu hi) (fun _ _ => rfl) (by simp) (by simp) (by simp)
    · split at h <;> try (cases h; done)
      rename_i hc
      obtain ⟨h0, hm, hb⟩ := hc
      cases h; exact .e (snd_lit hu hi hz hb h0 hm) (fun _ _ => rfl) (by simp) (by simp) (by simp)
  · split at h <;> try (cases h; done)
    rename_i d i hd hi
    cases h; exact .a (snd_load _ hd hi) (fun _ _ => rfl) (by simp) (by simp) (by simp)
  · simp only [Option.map_eq_some_iff] at h
    obtain ⟨i, hi, rfl⟩ := h
    exact .e (snd_store _ _ hi) (fun _ _ => rfl) (by simp) (by simp) (by simp)
  · cases h; exact .a (snd_nck _) (fun _ _ => rfl) (by simp) (by simp) (by simp)
  · rcases compBin_sound (dst := dst) (type := type) (pos := pos) (after := after) (guard := guard) (yt := _) h with ⟨h1, h2, h3⟩ | hq
    · refine .a h1 h2 ?_ ?_ h3
      all_goals
        unfold compBin at h
        intros
        rintro rfl
        (repeat' split at h) <;> cases h
    · obtain ⟨neg, x', t', yt', e, q1, q2, q3⟩ := hq
      exact .inr (.inr (.inr ⟨neg, x', t', yt', e, q1, q2, q3⟩))
  · cases h; exact .a (snd_un _) (fun _ _ => rfl) (by simp) (by simp) (by simp)
  · obtain ⟨h1, h2⟩ := compCvt_sound (dst := dst) (type := type) (pos := pos) (after := after) (guard := guard) h
    refine .a h1 h2 ?_ ?_ ?_
    all_goals
      unfold compCvt at h
      intros
      rintro rfl
      (repeat' split at h) <;> cases h
  · split at h <;> try (cases h; done)
    rename_i d hni hd
    cases h; exact .a (snd_mkif _ hd (fun ms e => hni ms e)) (fun _ _ => rfl) (by simp) (by simp) (by simp)
  · split at h <;> try (cases h; done)
    rename_i h1
    cases h; subst h1; exact .a snd_mkfn (fun _ _ => rfl) (by simp) (by simp) (by simp)
  · split at h <;> try (cases h; done)
    · rename_i e hu
      simp only [Option.map_eq_some_iff] at h
      obtain ⟨i, hi, rfl⟩ := h
      exact .a (snd_slc _ _ _ _ hu hi) (fun _ _ => rfl) (by simp) (by simp) (by simp)
    · rename_i hu
      split at h <;> try (cases h; done)
      cases h; exact .a (snd_sls _ _ _ hu) (fun _ _ => rfl) (by simp) (by simp) (by simp)
  · split at h <;> try (cases h; done)
    rename_i fs hu
    split at h <;> try (cases h; done)
    rename_i fd hf
    split at h <;> try (cases h; done)
    rename_i i hi
    split at h <;> try (cases h; done)
    rename_i hn
    cases h; exact .a (snd_fa _ hu hf hi hn) (fun _ _ => rfl) (by simp) (by simp) (by simp)
  · split at h <;> try (cases h; done)
    rename_i fs hu
    split at h <;> try (cases h; done)
    rename_i fd hf
    split at h <;> try (cases h; done)
    rename_i d i hd hi
    cases h; exact .a (snd_fld _ hu hf hd hi) (fun _ _ => rfl) (by simp) (by simp) (by simp)
  · simp only [Option.map_eq_some_iff] at h
    obtain ⟨st, hst, rfl⟩ := h
    exact .a (snd_ia _ _ hst) (fun _ _ => rfl) (by simp) (by simp) (by simp)
  · split at h <;> try (cases h; done)
    rename_i hu
    cases h; exact .a (snd_ix _ _ hu) (fun _ _ => rfl) (by simp) (by simp) (by simp)
  · cases h; exact .a (snd_ext _ _) (fun _ _ => rfl) (by simp) (by simp) (by simp)
  · exact compCall_sound h
  · cases h; exact .inr (.inr (.inl ⟨_, rfl, rfl⟩))
theorem compOp_not_loadR {o : Oper} {agg : Bool} {sz : Nat} {x : Operand} : compOp P o ≠ some (.loadR agg sz x) := by
  intro h
  obtain ⟨dst, op, type, pos, after, guard⟩ := o
  cases op <;> simp only [compOp] at h <;> (try unfold compBin at h) <;> (try unfold compCvt at h) <;> (try unfold compCall at h) <;> (repeat' split at h) <;> first | (cases h; done) | (simp [Option.map_eq_some_iff] at h; done)
theorem OSound.toR {o : Oper} {ao : AOp} (h : OSound P o ao) : OSound P o (toR ao) := by
  cases ao <;> try (exact h)
  rename_i agg sz x
  rcases h with ⟨ha, he, hc, hp, hq⟩ | ⟨f, xs, ts, e, _⟩ | ⟨x, e, _⟩ | ⟨_, _, _, _, _, e, _⟩ <;> try (cases e; done)
  refine OSound.a ?_ (fun _ _ => rfl) (by simp [Go.Ab.toR]) (by simp [Go.Ab.toR]) (by simp [Go.Ab.toR])
  intro h τ av hv
  refine ha h τ av ?_
  simp only [Go.Ab.toR, aval] at hv
  split at hv <;> try (cases hv; done)
  rename_i cs hx
  simp only [aval, hx, cellsAt, Option.bind_some]
  exact hv
theorem compOpS_sound {S : List Nat} {o : Oper} {ao : AOp} (h : compOpS P S o = some ao) : OSound P o ao := by
  unfold compOpS at h
  split at h <;> split at h
  all_goals first
    | exact compOp_sound h
    | (simp only [Option.map_eq_some_iff] at h
       obtain ⟨a, h1, rfl⟩ := h
       exact (compOp_sound h1).toR)

end
section
variable {P : Program} {n0 : Nat}

/-- a call of a function value -/
def aCall (P : Program) (f : AV) (args : List AV) (h : AH) (R : AE → AH → Prop) : Prop :=
  match f with
  | .v (.func (.func k) a b) => a = #[] ∧ b = #[] ∧ ACalls P k args h R
  | .clo (.func k) caps => ACalls P k (args ++ caps) h R
  | _ => False
/-- a guard -/
def agd (g : Option (Nat × Bool)) (T : List AV) (f : Bool → Prop) : Prop :=
  match g with
  | none => f true
  | some (t, want) => match T[t]? with
    | some (.v (.bool b)) => f (b == want)
    | some (.v (.tuple _)) => f false
    | _ => False
def astep (P : Program) (Kp : AV → List AV → AH → Prop) (o : AOper) (T : List AV) (h : AH) (K : List AV → AH → Prop) : Prop :=
  match o.op with
  | .call f xs => aCall P (aEval T f) (xs.map (aEval T)) h fun r h' => match r with
    | .ret c => K (aPut T o.dst c) h'
    | .pan c => Kp c T h'
  | .panic x => match aEval T x with
    | .v (.iface t v) => Kp (.v (.iface t v)) T h
    | _ => False
  | .eqn neg x => match aEval T x with
    | .sl n _ _ _ => ∀ b, (0 < n → b = neg) → K (aPut T o.dst (.v (.bool b))) h
    | _ => False
  | op => match aval h (aEval T) op with
    | some c => K (aPut T o.dst c) h
    | none => match aeff h (aEval T) op with
      | some (c, h') => K (aPut T o.dst c) h'
      | none => False
def arun (P : Program) (Kp : AV → List AV → AH → Prop) : List AOper → List AV → AH → (List AV → AH → Prop) → Prop
  | [], T, h, K => K T h
  | o :: rest, T, h, K => agd o.guard T fun b => (b = true → astep P Kp o T h fun T h => arun P Kp rest T h K) ∧ (b = false → arun P Kp rest (aPut T o.dst (.v undef)) h K)

def compGuard (ops : Array Oper) : Option (Nat × Bool) → Option (Option (Nat × Bool))
  | none => some none
  | some (j, b) => match (ops[j]?).bind (·.dst) with
    | some t => some (some (t, b))
    | none => none
def compOper (P : Program) (S : List Nat) (ops : Array Oper) (o : Oper) : Option AOper :=
  match compOpS P S o, compGuard ops o.guard with
  | some ao, some gd => some ⟨o.dst, gd, ao⟩
  | _, _ => none

theorem agd_wanted {ops : Array Oper} {o : Oper} {gd : Option (Nat × Bool)} (hg : compGuard ops o.guard = some gd) {T : List AV} {f : Bool → Prop} (h : agd gd T f) {w : World} {g : Gh} {a : Act} (ht : RepL w g T a.tmps.toList) :
    ∃ b, Region.wanted o (yielded ops a.tmps) = b ∧ f b := by
  unfold compGuard at hg
  split at hg
  · rename_i hn
    cases hg
    exact ⟨true, by simp [Region.wanted, hn], h⟩
  · rename_i j b hn
    split at hg <;> try (cases hg; done)
    rename_i t hd
    cases hg
    simp only [agd] at h
    split at h <;> try (exact h.elim)
    · rename_i c hT
      obtain ⟨u, h1, h2⟩ := ht.get hT
      simp only [Rep] at h2
      subst h2
      have h1' : a.tmps[t]? = some (.bool c) := by simpa using h1
      refine ⟨c == b, ?_, h⟩
      simp only [Region.wanted, hn, yielded, hd]
      simp [h1']
    · rename_i vs hT
      obtain ⟨u, h1, h2⟩ := ht.get hT
      simp only [Rep] at h2
      subst h2
      have h1' : a.tmps[t]? = some (.tuple vs) := by simpa using h1
      refine ⟨false, ?_, h⟩
      simp only [Region.wanted, hn, yielded, hd]
      simp [h1']

theorem rep_undef (w : World) (g : Gh) : Rep w g (.v undef) undef := by simp only [Rep]
theorem ops_rep {w : World} {g : Gh} {T : List AV} {a : Act} (ht : RepL w g T a.tmps.toList) (xs : Array Operand) : ∀ x ∈ xs, Rep w g (aEval T x) (a.eval x) := fun x _ => aEval_rep ht x

/-- what stands behind an operation, told of the run -/
def KP (n0 : Nat) (w0 : World) (S0 : Nat → Prop) (g0 : Gh) (K : List AV → AH → Prop) : Act → World → Prop := fun a w => ∃ T h g, St n0 w0 S0 g0 T h a w g ∧ K T h
theorem run_call {o : Oper} {f : Operand} {xs : List Operand} {ts : Array TypeId} (ho : o.op = .call { callee := .value f, args := xs.toArray, argTypes := ts }) {ρ : Operand → Value} {fn : FuncId} {caps : Array Value} (hf : ρ f = .func (.func fn) #[] caps) (he : enters P fn = true) (w : World) :
    (execOp ρ o).run P w = .ok (.enter fn ((xs.map ρ).toArray ++ caps)) w := by
  unfold enters at he
  split at he <;> try (cases he; done)
  rename_i fd hfd
  simp only [Bool.and_eq_true, bne_iff_ne, ne_eq] at he
  have hb : fd.body ≠ none := by intro e; simp [e] at he
  simp [execOp, ho, resolve, hf, Deferred.ofValue, invoke, callFunc, hfd, he.1, hb]

theorem aCall_run {f : Operand} {xs : List Operand} {T : List AV} {h : AH} {R : AE → AH → Prop} (hc : aCall P (aEval T f) (xs.map (aEval T)) h R) {w : World} {g : Gh} {ρ : Operand → Value} (hs : SimH w g h) (hf : Rep w g (aEval T f) (ρ f)) (hx : ∀ x ∈ xs, Rep w g (aEval T x) (ρ x)) :
    ∃ fn caps, ρ f = .func (.func fn) #[] caps ∧ enters P fn = true ∧ Calls P fn ((xs.map ρ).toArray ++ caps) w fun e w' => ∃ x h' g', EndR w' g' e x ∧ SimH w' g' h' ∧ g.le g' ∧ Fr w (Ow g h) w' ∧ (∀ k, Ow g' h' k → Ow g h k ∨ w.heap.size ≤ k) ∧ R x h' := by
  unfold aCall at hc
  split at hc <;> try (exact hc.elim)
  · rename_i k a b he
    rw [he] at hf
    simp only [Rep] at hf
    obtain ⟨rfl, rfl, hen, hcall⟩ := hc
    exact ⟨k, #[], hf, hen, hcall w g _ hs (by simpa using repL_map xs hx)⟩
  · rename_i k caps he
    rw [he] at hf
    simp only [Rep] at hf
    obtain ⟨vs, e, hr⟩ := hf
    obtain ⟨hen, hcall⟩ := hc
    exact ⟨k, vs, e, hen, hcall w g _ hs (by simpa using (repL_map xs hx).append hr)⟩

theorem astep_sound {o : Oper} {ao : AOp} {dst : Option Nat} {gd : Option (Nat × Bool)} (hd : dst = o.dst) (hos : OSound P o ao) {Q : AX → List AV → AH → Prop} {K : List AV → AH → Prop} {T : List AV} {h : AH}
    (hstep : astep P (fun c T h => Q (.pan c) T h) ⟨dst, gd, ao⟩ T h K) {w0 : World} {S0 : Nat → Prop} {g0 : Gh} {a : Act} {w : World} {g : Gh} (hs : St n0 w0 S0 g0 T h a w g) :
    o.wp P a w (KP n0 w0 S0 g0 K) (APost n0 w0 S0 g0 Q) := by
  subst hd
  unfold Oper.wp
  rcases hos with ⟨ha, he, hnc, hnp, hnq⟩ | ⟨f, xs, ts, rfl, ho⟩ | ⟨x, rfl, ho⟩ | ⟨neg, x, t, yt, e, rfl, ho, hu⟩
  · have hstep' : match aval h (aEval T) ao with
        | some c => K (aPut T o.dst c) h
        | none => match aeff h (aEval T) ao with
          | some (c, h') => K (aPut T o.dst c) h'
          | none => False := by
      cases ao <;> first | exact hstep | exact absurd rfl (hnc _ _) | exact absurd rfl (hnp _) | exact absurd rfl (hnq _ _)
    have hr : ∀ x ∈ o.op.operands, Rep w g (aEval T x) (a.eval x) := fun x _ => aEval_rep hs.tmps x
    cases hv : aval h (aEval T) ao with
    | some c =>
      rw [hv] at hstep'
      obtain ⟨v, h1, h2⟩ := ha h (aEval T) c hv w g a.eval hs.sim hr
      rw [h1]
      exact ⟨_, h, g, hs.aput h2, hstep'⟩
    | none =>
      rw [hv] at hstep'
      cases hv2 : aeff h (aEval T) ao with
      | none => rw [hv2] at hstep'; exact hstep'.elim
      | some p =>
        obtain ⟨c, h'⟩ := p
        rw [hv2] at hstep'
        obtain ⟨n, v, w', g', h1, h2, h3, h4, h5, h6, h7⟩ := he h (aEval T) c h' hv2 w g a.eval hs.sim hr
        rw [h1]
        have hst := hs.call h4 h5 h6 h7
        rcases h2 with rfl | ⟨rfl, rfl⟩
        · exact ⟨_, h', g', hst.aput h3, hstep'⟩
        · exact ⟨_, h', g', hst.aput h3, hstep'⟩
  · simp only [astep] at hstep
    obtain ⟨fn, caps, h1, h2, h3⟩ := aCall_run hstep hs.sim (aEval_rep hs.tmps f) (fun x _ => aEval_rep hs.tmps x)
    rw [run_call ho h1 h2 w]
    refine h3.mono ?_
    rintro e w' ⟨x, h', g', k1, k2, k3, k4, k5, k6⟩
    have hst := hs.call k2 k3 k4 k5
    cases x <;> cases e <;> simp only [EndR] at k1 <;> simp only at k6
    · exact ⟨_, h', g', hst.aput k1, k6⟩
    · exact ⟨_, _, h', g', hst, by simp only [ExR]; exact k1, k6⟩
  · simp only [astep] at hstep
    split at hstep <;> try (exact hstep.elim)
    rename_i t v he
    have hx := aEval_rep hs.tmps x
    rw [he] at hx
    simp only [Rep] at hx
    have hrun : (execOp a.eval o).run P w = .halt (.panic (.iface t v)) w := by
      simp [execOp, ho, hx, Instr.panic]
    rw [hrun]
    exact ⟨_, T, h, g, hs, by simp only [ExR]; exact ⟨_, rfl, by simp only [Rep]⟩, hstep⟩
  · have key : ∀ (A : Option Addr) (n cap : Nat), a.eval x = .slice A n cap → (∀ b, (0 < n → b = neg) → K (aPut T o.dst (.v (.bool b))) h) → (0 < n → A ≠ none) → Oper.upon P o a (KP n0 w0 S0 g0 K) (APost n0 w0 S0 g0 Q) ((execOp a.eval o).run P w) := by
      intro A n cap hx hk hA
      have hg : ∀ op, (eqGuard op t x (.const (.slice none 0 0)) (.slice A n cap) (.slice none 0 0)).run P w = .ok () w := by
        intro op
        unfold eqGuard
        cases op <;> simp
      have hcn : a.eval (.const (.slice none 0 0)) = .slice none 0 0 := rfl
      have hrun : (execOp a.eval o).run P w = .ok (.value (.bool (bif neg then !A.isNone else A.isNone))) w := by
        cases neg
        · have := Lib.run_eql_slice_nil (P := P) w t e A n cap 0 0 hu
          simp only [execOp, ho, hx, cond_false, hcn, Sem.run_bind, hg, Result.andThen_ok, this, Sem.run_pure]
        · have := run_neq_slice_nil (P := P) (w := w) t e A n cap hu
          simp only [execOp, ho, hx, cond_true, hcn, Sem.run_bind, hg, Result.andThen_ok, this, Sem.run_pure]
      rw [hrun]
      refine ⟨_, h, g, hs.aput (c := .v (.bool (bif neg then !A.isNone else A.isNone))) (by simp only [Rep]), hk _ ?_⟩
      intro h0
      cases A with
      | none => exact absurd rfl (hA h0)
      | some b => cases neg <;> rfl
    simp only [astep] at hstep
    have hx := aEval_rep hs.tmps x
    split at hstep <;> try (exact hstep.elim)
    rename_i n st full cs he
    rw [he] at hx
    simp only [Rep] at hx
    obtain ⟨_, A, cap, h1, h2, _, _, h3, _⟩ := hx
    exact key A n cap h1 hstep (fun h0 hn => by have := h3 hn; omega)

theorem arun_sound {S : List Nat} {ops : Array Oper} {Q : AX → List AV → AH → Prop} {w0 : World} {S0 : Nat → Prop} {g0 : Gh} : ∀ (l : List Oper) (al : List AOper) (k : Nat), ops.toList.drop k = l → l.mapM (compOper P S ops) = some al →
    ∀ (T : List AV) (h : AH) (a : Act) (w : World) (g : Gh), arun P (fun c T h => Q (.pan c) T h) al T h (fun T h => Q .normal T h) → St n0 w0 S0 g0 T h a w g → wpOps P ops (APost n0 w0 S0 g0 Q) (List.range' k l.length) a w
  | [], al, k, hl, hm, T, h, a, w, g, hr, hs => by
    simp at hm
    subst hm
    simp only [List.length_nil, List.range'_zero, wpOps]
    exact ⟨.normal, T, h, g, hs, trivial, hr⟩
  | o :: l, al, k, hl, hm, T, h, a, w, g, hr, hs => by
    simp only [List.mapM_cons, Option.bind_eq_bind, Option.bind_eq_some_iff, Option.pure_def, Option.some.injEq] at hm
    obtain ⟨ao, h1, al', h2, rfl⟩ := hm
    unfold compOper at h1
    split at h1 <;> try (cases h1; done)
    rename_i aop gd hao hgd
    cases h1
    have hk : ops[k]? = some o := by have := congrArg (·[0]?) hl; simpa [List.getElem?_drop] using this
    have hk1 : ops.toList.drop (k + 1) = l := by rw [← List.tail_drop, hl]; rfl
    have ih := arun_sound (Q := Q) (w0 := w0) (S0 := S0) (g0 := g0) l al' (k + 1) hk1 h2
    simp only [List.length_cons, List.range'_succ]
    rw [wpOps_cons]
    unfold wpOp
    simp only [hk]
    simp only [arun] at hr
    obtain ⟨b, hb, hf⟩ := agd_wanted hgd hr hs.tmps
    rw [hb]
    cases b
    · simp only [Bool.false_eq_true, if_false]
      exact ih _ h _ w g (hf.2 rfl) (hs.aput (rep_undef w g))
    · simp only [if_true]
      left
      refine Oper.wp_mono ?_ (astep_sound rfl (compOpS_sound hao) (hf.1 rfl) hs)
      rintro a' w' ⟨T', h', g', hs', hk'⟩
      exact ih T' h' a' w' g' hk' hs'
theorem AW_region {S : List Nat} {id : Nat} {ops : Array Oper} {al : List AOper} {Q : AX → List AV → AH → Prop} {T : List AV} {h : AH} (hm : ops.toList.mapM (compOper P S ops) = some al)
    (hr : arun P (fun c T h => Q (.pan c) T h) al T h (fun T h => Q .normal T h)) : AW P n0 (.region id ops false) Q T h := by
  intro w0 S0 g0 a w g hs
  refine wp_region ?_
  have := arun_sound (P := P) (Q := Q) (w0 := w0) (S0 := S0) (g0 := g0) ops.toList al 0 (by simp) hm T h a w g hr hs
  rw [List.range_eq_range']
  have this' : wpOps P ops (APost n0 w0 S0 g0 Q) (List.range' 0 ops.size) a w := by simpa using this
  exact this'

end
end Go.Ab
