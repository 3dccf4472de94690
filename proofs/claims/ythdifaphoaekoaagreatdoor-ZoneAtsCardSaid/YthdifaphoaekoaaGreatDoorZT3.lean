/-
  Part 3 of the proof: own lemmas and contracts on plain data. No condition beyond those that each lemma states.
-/
import Derived.Test.YthdifaphoaekoaaGreatDoorZT2
import Derived.Sort.OwnSorted
import Derived.Lib.RowBridge
import Derived.Lib.IndexBytes
set_option linter.all false
set_option maxRecDepth 1000000
set_option maxHeartbeats 4000000
section
namespace Go.Ab
section
variable {P : Program} {n0 : Nat}
theorem tU' {f:FuncId}{c:AC}{rs:List AR}{m:Nat}{args:List AV}{h:AH}{R:AE→Prop}(hc:ZjL P f=some ⟨c,rs,m⟩) (hw : ∀ n,h.length=n→(∀ e∈h,e.lt n=true)→AV.ltL n args=true→AV.bdL args→aw P n c (retA rs fun x h' => ∃ z,h'=h++z∧x.lt n=true∧R x) (tA' args m) (h++[])) (hl:Nat.ble args.length m=true:=by rfl):ACalls P f args h fun x h'=>h'=h∧R x:=by
 refine ACalls.gc_same ⟨ZhE hc,fun w g vs hs ha=>(ACalls.of_awU hc ?_).2 w g vs hs ha⟩
 have:=hw h.length rfl hs.ltE (RepL.lt (fun i v l hl=>(hs.fresh i v l hl).1) _ _ ha) (RepL.bd _ _ ha)
 rw [List.append_nil] at this
 show aw P h.length c _ (args++List.replicate (m-args.length) .any) h
 rw [Zh7 _ _ (Nat.le_of_ble_eq_true hl)]
 exact this
theorem ZkF {w:World}{g:Gh} : ∀ {vs us:List Value},RepL w g (vs.map .v) us↔us=vs
 | [],us=>by simp only [List.map_nil,RepL]
 | v::vs,us=>by
  simp only [List.map_cons,RepL,Rep,ZkF (vs:=vs)]
  constructor
  ·rintro ⟨u,us',rfl,rfl,rfl⟩;rfl
  ·rintro rfl;exact ⟨_,_,rfl,rfl,rfl⟩
theorem ACalls.of_turnR {f:FuncId}{args:List AV}{h:AH}{id ver ty st:Nat}{cells cells':List AV}{c:AV}(he:enters P f=true) (hi:h[id]?=some (.mk ver ty st cells)) (hne:cells≠[])
  (hc : ∀ w g (vs:Array Value) b cap arr,SimH w g h→RepL w g args vs.toList→g.loc id ver=some (some ⟨b,0,none⟩,cap)→w.heap[b]?=some (.cells arr ty (0,0))→arr.size=cap*st→cells.length≤arr.size→RepL w g cells (arr.toList.take cells.length) →
   Calls P f vs w fun e w' => ∃ (v:Value) (vs':List Value) (arr':Array Value),e=.returned v∧cells'=vs'.map .v∧w'.heap[b]?=some (.cells arr' ty (0,0))∧arr'.size=arr.size∧vs'.length=cells.length∧arr'.toList.take cells.length=vs' ∧
    w'.os=w.os∧w'.tape=w.tape∧w'.output=w.output∧w.heap.size≤w'.heap.size∧(∀ k,k<w.heap.size→k≠b→w'.heap[k]?=w.heap[k]?)∧Rep w' g c v) :
  ACalls P f args h fun x h'=>x=.ret c∧h'=h.set id (.mk ver ty st cells'):=by
 refine ⟨he,fun w g vs hs ha=>?_⟩
 obtain ⟨A,cap,f1,fm,f3⟩:=hs.ent _ _ _ _ _ hi
 rcases f3 with ⟨e,_⟩ | ⟨b,arr,rfl,hc0,hd,hb,hsz,hle,hrl⟩
 ·exact absurd e hne
 have hid:id<h.length:=(List.getElem?_eq_some_iff.1 hi).1
 have how:OwAt g h id b:=⟨ver,ty,st,cells,_,cap,hi,f1,hc0,rfl⟩
 refine (hc w g vs b cap arr hs ha f1 hb hsz hle hrl).mono ?_
 rintro e w' ⟨v,vs',arr',rfl,rfl,h1,h2,h3,h4,h5,h6,h7,h8,h9,hv⟩
 have hother : ∀ j,g.D j∨(∃ i,i≠id∧OwAt g h i j)∨(∃ i,RwAt h i j)→w'.heap[j]?=w.heap[j]?:=by
  rintro j (hj | ⟨i,hne',hj⟩ | ⟨i,hj⟩)
  rotate_left 2
  ·exact h9 j (hs.own_not_D (.inr ⟨i,hj⟩)).2 (fun e=>by subst e;exact hs.own_ne_raw how hj)
  ·exact h9 j (hs.lt j hj) (fun e=>hd (e ▸ hj))
  ·exact h9 j (hs.own_not_D (.inl ⟨i,hj⟩)).2 (fun e=>hne' (hs.inj i id j hj (e ▸ how)))
 obtain ⟨k1,k2,k3⟩:=hs.put (w':=w') (g':=g) (h':=h.set id (.mk ver ty st (vs'.map .v))) id ver ty st (vs'.map .v) (some ⟨b,0,none⟩) cap
  (fun i hne'=>by rw [List.getElem?_set_ne (Ne.symm hne')]) (by rw [List.getElem?_set_self hid]) (by simp) rfl (fun _ _ _ h=>h) (fun _ _ _ h=>.inl h) f1 (fun v l hv=>(hs.fresh _ _ _ hv).2 _ _ _ _ hi) hother h8 fm
  (.inr ⟨b,arr',rfl,hc0,hd,h1,by rw [h2,hsz],by rw [List.length_map,h3,h2];exact hle,by rw [List.length_map,h3,h4];exact ZkF.2 rfl⟩)
  (fun j hj _ i hne' ho=>by
   simp at hj
   subst hj
   exact hne' (hs.inj i id _ ho how))
 refine ⟨.ret c,_,g,hv,k1,k2,⟨h5,h6,h7,h8,fun k hk hn=>h9 k hk (fun e=>hn (.inl ⟨id,e ▸ how⟩))⟩,fun k hk=>?_,rfl,rfl⟩
 ·rcases k3 k hk with ho | ⟨ho,_⟩
  ·exact .inl ho
  ·simp at ho;subst ho;exact .inl (.inl ⟨id,how⟩)
end
end Go.Ab
end
section
namespace Go.Proofs.YthdifaphoaekoaaGreatDoor
open Go.Ab Go.Sort
def bsL (l:List ByteArray):List Bs:=l.map aB
def sbL (l:List Bs):List ByteArray:=l.map bA
theorem sb_bs (l:List ByteArray):sbL (bsL l)=l:=by
 unfold sbL bsL;rw [List.map_map]
 have:(bA ∘ aB)=id:=by funext z;rfl
 rw [this,List.map_id]
theorem ZkC (l:List Bs):rows strC (sbL l)=(l.map encStr).map .v:=by
 unfold sbL
 induction l with
 | nil=>rfl
 | cons x l ih=>rw [List.map_cons,List.map_cons,List.map_cons,←ih];rfl
theorem Zej (l:List ByteArray):rows strC l=((bsL l).map encStr).map .v:=by rw [←ZkC,sb_bs]
def Zeu (l:List ByteArray):List ByteArray:=sbL ((bsL l).mergeSort fun x y=>decide (x≤y))
def ZfI (l:List ByteArray):List Bs:=Lib.compact (bsL l)
theorem ZqW (l:List ByteArray):(Zeu l).length=l.length:=by simp [Zeu,sbL,bsL]
theorem ZqV {l:List ByteArray}{id v ty:Nat}{h:AH}(he:h[id]?=some (.mk v ty 1 (rows strC l))) (h0:l≠[]) (hl:l.length<4611686018427387904) :
  ACalls Tryz.prog 93 [.own id v l.length] h fun r h'=>r=.ret (.tup [])∧h'=h.set id (.mk v ty 1 (rows strC (Zeu l))):=by
 refine ACalls.of_turnR (by kernel_rfl) he ?_ ?_
 ·rw [Zej];simpa [bsL] using h0
 ·intro w g vs b cap arr hs ha hloc hb hsz hle hr
  simp only [RepL,Rep,hloc] at ha
  obtain ⟨u1,us1,e1,⟨A,c,e2,hn1,hn2,rfl⟩,rfl⟩:=ha
  simp only [Option.some.injEq,Prod.mk.injEq] at e2
  obtain ⟨rfl,rfl⟩:=e2
  obtain rfl:vs = #[.slice (some ⟨b,0,none⟩) l.length cap]:=by cases vs;simp_all
  have hlen:(rows strC l).length=(bsL l).length:=by rw [Zej];simp
  have hbl:(bsL l).length=l.length:=by simp [bsL]
  rw [hlen] at hr hle
  rw [Zej] at hr
  have hr2:=ZkF.1 hr
  have hb':b<w.heap.size:=(Array.getElem?_eq_some_iff.1 hb).1
  have:=Tryz.slices_Sort_string b 0 cap (bsL l) w (holds_of_block hb hr2) hb' (by rw [hbl];exact hl)
  rw [hbl] at this
  refine this.mono ?_
  rintro e w' ⟨rfl,n,os,rfl⟩
  obtain ⟨q1,q2,q3,q4,q5⟩:=grownBy_sorted (w:=w) (g:=b) (n:=n) (os:=os) ((bsL l).mergeSort fun x y=>decide (x≤y)).toArray
  have hml:((bsL l).mergeSort fun x y=>decide (x≤y)).length=(bsL l).length:=List.length_mergeSort _
  refine ⟨_,((bsL l).mergeSort fun x y=>decide (x≤y)).map encStr,_,rfl,by unfold Zeu;rw [ZkC],heap_sorted _ hb,by simp [putCells],by rw [hlen];simp,?_,q1,q2,q3,q4,fun k hk hne=>q5 k hk (by simpa using hne),?_⟩
  ·rw [hlen,←hml]
   exact take_putCells arr _ (by rw [hml];exact hle)
  ·simp only [Rep];exact ⟨#[],rfl,by simp only [RepL]⟩
theorem Zsi {l:List ByteArray}{id v ty:Nat}{h:AH}(he:h[id]?=some (.mk v ty 1 (rows strC l))) (h0:l≠[]) (hl:l.length≤9223372036854775807) :
  ACalls Tryz.prog 94 [.own id v l.length] h fun r h'=>r=.ret (.own id v (ZfI l).length)∧h'=h.set id (.mk v ty 1 (rows strC (sbL (ZfI l++List.replicate ((bsL l).length-(ZfI l).length) [])))):=by
 refine ACalls.of_turnR (by kernel_rfl) he ?_ ?_
 ·rw [Zej];simpa [bsL] using h0
 ·intro w g vs b cap arr hs ha hloc hb hsz hle hr
  simp only [RepL,Rep,hloc] at ha
  obtain ⟨u1,us1,e1,⟨A,c,e2,hn1,hn2,rfl⟩,rfl⟩:=ha
  simp only [Option.some.injEq,Prod.mk.injEq] at e2
  obtain ⟨rfl,rfl⟩:=e2
  obtain rfl:vs = #[.slice (some ⟨b,0,none⟩) l.length cap]:=by cases vs;simp_all
  have hlen:(rows strC l).length=(bsL l).length:=by rw [Zej];simp
  have hbl:(bsL l).length=l.length:=by simp [bsL]
  rw [hlen] at hr hle
  rw [Zej] at hr
  have hr2:=ZkF.1 hr
  have hcl:(ZfI l).length≤(bsL l).length:=Lib.compact_length_le _
  have:=Tryz.slices_Compact_string b 0 cap (bsL l) w (holds_of_block hb hr2) (by rw [hbl];exact hl) (by rw [hbl];omega)
  rw [hbl] at this
  refine this.mono ?_
  rintro e w' ⟨rfl,q,rfl⟩
  have e0:putRow encStr (Sort.ahead w q) b 0 (Lib.compact (bsL l)++List.replicate (l.length-(Lib.compact (bsL l)).length) []).toArray=grow (putRow encStr (Sort.ahead w q) b 0 (ZfI l++List.replicate ((bsL l).length-(ZfI l).length) []).toArray) #[]:=by rw [grow_empty,hbl];rfl
  rw [e0]
  obtain ⟨q1,q2,q3,q4,q5⟩:=grownBy_sorted (w:=w) (g:=b) (n:=q) (os := #[]) (ZfI l++List.replicate ((bsL l).length-(ZfI l).length) []).toArray
  have hml:(ZfI l++List.replicate ((bsL l).length-(ZfI l).length) []).length=(bsL l).length:=by rw [List.length_append,List.length_replicate];omega
  refine ⟨_,(ZfI l++List.replicate ((bsL l).length-(ZfI l).length) []).map encStr,_,rfl,by rw [ZkC],heap_sorted _ hb,by simp [putCells],by rw [hlen,List.length_map,hml],?_,q1,q2,q3,q4,fun k hk hne=>q5 k hk (by simpa using hne),?_⟩
  ·rw [hlen]
   exact (congrArg (fun n=>List.take n _) hml.symm).trans (take_putCells arr _ (by rw [hml];exact hle))
  ·simp only [Rep];exact ⟨_,_,hloc,by omega,hn2,rfl⟩
theorem ZmN {l:List ByteArray}{id v ty:Nat}{h:AH}(he:h[id]?=some (.mk v ty 1 (rows strC l))) (hl:l.length<4611686018427387904) :
  ACalls Tryz.prog 93 [.own id v l.length] h fun r h'=>r=.ret (.tup [])∧h'=h.set id (.mk v ty 1 (rows strC (Zeu l))):=by
 by_cases h0:l=[]
 ·subst h0
  refine ⟨by kernel_rfl,fun w g vs hs ha=>?_⟩
  simp only [RepL,Rep] at ha
  obtain ⟨val,us,e,⟨A,cap,e1,e2,e3,rfl⟩,rfl⟩:=ha
  obtain rfl:vs = #[.slice A 0 cap]:=by cases vs;simp_all
  refine (Tryz.slices_Sort_string_none A cap w).mono ?_
  rintro e w' ⟨rfl,rfl⟩
  refine ⟨.ret (.tup []),h,g,?_,hs,Gh.le.refl g,Fr.refl _ _,fun k hk=>.inl hk,rfl,?_⟩
  ·exact (by simp only [EndR,Rep];exact ⟨#[],rfl,by simp [RepL]⟩)
  ·rw [show Zeu []=[] by simp [Zeu,bsL,sbL]]
   exact (Zc8 he).symm
 ·exact ZqV he h0 hl
theorem Znn {l:List ByteArray}{id v ty:Nat}{h:AH}(he:h[id]?=some (.mk v ty 1 (rows strC l))) (hl:l.length≤9223372036854775807) :
  ACalls Tryz.prog 94 [.own id v l.length] h fun r h'=>r=.ret (.own id v (ZfI l).length)∧h'=h.set id (.mk v ty 1 (rows strC (sbL (ZfI l++List.replicate ((bsL l).length-(ZfI l).length) [])))):=by
 by_cases h0:l=[]
 ·subst h0
  refine ⟨by kernel_rfl,fun w g vs hs ha=>?_⟩
  simp only [RepL,Rep] at ha
  obtain ⟨val,us,e,⟨A,cap,e1,e2,e3,rfl⟩,rfl⟩:=ha
  obtain rfl:vs = #[.slice A 0 cap]:=by cases vs;simp_all
  refine (Tryz.slices_Compact_string_empty A cap w).mono ?_
  rintro e w' ⟨rfl,rfl⟩
  refine ⟨.ret (.own id v 0),h,g,?_,hs,Gh.le.refl g,Fr.refl _ _,fun k hk=>.inl hk,rfl,?_⟩
  ·exact (by simp only [EndR,Rep];exact ⟨A,cap,e1,Nat.zero_le _,e3,rfl⟩)
  ·exact (Zc8 he).symm
 ·exact Zsi he h0 hl
theorem le_tr (a b c:Bs):a≤b→b≤c→a≤c:=fun h1 h2=>List.le_trans h1 h2
theorem ZqC {l:List ByteArray}:decide ((ZfI (Zeu l)).length<l.length)=decide (¬l.Nodup):=by
 have hperm:(bsL (Zeu l)).Perm (bsL l):=by
  have:bsL (Zeu l)=(bsL l).mergeSort fun x y=>decide (x≤y):=by
   unfold Zeu sbL bsL
   rw [List.map_map]
   have:(aB ∘ bA)=id:=by funext z;simp [aB,bA]
   rw [this,List.map_id]
  rw [this];exact List.mergeSort_perm _ _
 have hsort:(bsL (Zeu l)).Pairwise (· ≤ ·):=by
  have e:bsL (Zeu l)=(bsL l).mergeSort fun x y=>decide (x≤y):=by
   unfold Zeu sbL bsL
   rw [List.map_map]
   have:(aB ∘ bA)=id:=by funext z;simp [aB,bA]
   rw [this,List.map_id]
  rw [e]
  have h:=List.pairwise_mergeSort (le:=fun a b:Bs=>decide (a≤b)) (fun a b c h1 h2=>by simp only [decide_eq_true_eq] at *;exact le_tr _ _ _ h1 h2) (fun a b=>by simp only [Bool.or_eq_true,decide_eq_true_eq];exact List.le_total a b) (bsL l)
  exact h.imp fun h=>by simpa using h
 have hnd:l.Nodup↔(bsL (Zeu l)).Nodup:=by
  rw [hperm.nodup_iff]
  unfold bsL
  constructor
  ·intro h
   exact List.pairwise_map.2 (h.imp fun hne e=>hne (by have:=congrArg bA e;exact this))
  ·intro h
   exact (List.pairwise_map.1 h).imp fun hne e=>hne (by rw [e])
 have hlen:(bsL (Zeu l)).length=l.length:=by rw [hperm.length_eq];simp [bsL]
 rw [Bool.eq_iff_iff,decide_eq_true_iff,decide_eq_true_iff,hnd,←hlen]
 show (Lib.compact (bsL (Zeu l))).length<_↔_
 generalize bsL (Zeu l)=L at hsort
 have e:(Lib.compact L).length=((List.range L.length).filter (Lib.keeps L.toArray)).length:=by unfold Lib.compact Lib.compactUpTo;rw [List.length_map]
 rw [e]
 have hr:L.length=(List.range L.length).length:=by simp
 conv=>lhs;rhs;rw [hr]
 rw [List.length_filter_lt_length_iff_exists]
 have hget : ∀ j (h:j<L.length),L.toArray[j]! = L[j]:=fun j h=>by simp [h]
 constructor
 ·rintro ⟨j,hj,hk⟩ hnd
  have hj:=List.mem_range.1 hj
  unfold Lib.keeps at hk
  simp only [decide_eq_true_eq,not_or,Decidable.not_not] at hk
  obtain ⟨h0,h1⟩:=hk
  rw [hget j hj,hget (j-1) (by omega)] at h1
  exact List.pairwise_iff_getElem.1 hnd (j-1) j (by omega) hj (by omega) h1.symm
 ·intro hnd
  refine Decidable.byContradiction fun hne=>hnd (List.pairwise_iff_getElem.2 fun i j hi hj hij e=>hne ⟨j,List.mem_range.2 hj,?_⟩)
  unfold Lib.keeps
  simp only [decide_eq_true_eq,not_or,Decidable.not_not]
  refine ⟨by omega,?_⟩
  rw [hget j hj,hget (j-1) (by omega)]
  have h1:L[j-1]≤L[j]:=List.pairwise_iff_getElem.1 hsort (j-1) j (by omega) hj (by omega)
  have h2:L[i]≤L[j-1]:=by
   by_cases hh:i=j-1
   ·subst hh;exact List.le_refl _
   ·exact List.pairwise_iff_getElem.1 hsort i (j-1) hi (by omega) (by omega)
  rw [←e] at h1
  rw [←e]
  exact List.le_antisymm h2 h1
end Go.Proofs.YthdifaphoaekoaaGreatDoor
end
section
namespace Go.Proofs.YthdifaphoaekoaaGreatDoor
open Go.Ab Go.RowKit Civ
attribute [local simp] Zby ZbO ZbD ZbK Zd6 Zd5 Zb7
section
theorem ZgH {a0 a1:AV}{l:List AV}:(a0::a1::l).take 2=[a0,a1]:=rfl
theorem ZfB {a0 a1 c0 c1:AV}{l:List AV}:setCells (a0::a1::l) 0 [c0,c1]=c0::c1::l:=rfl
theorem ZgK {τ:Operand→AV}{y0:Operand}{x0_0:AV}(h0:Zax (τ y0)=some [x0_0]) (l0:[x0_0].all leaf=true):Zau τ [(0,1,y0)] [(.v (.string ⟨#[]⟩))]=some [x0_0]:=by
 simp only [Zau,h0,l0]
 rfl
theorem ZgI {a0:AV}{l:List AV}:(a0::l).take 1=[a0]:=rfl
theorem ZgJ {τ:Operand→AV}{y0:Operand}{x0_0:AV}(h0:Zax (τ y0)=some [x0_0]) (l0:[x0_0].all leaf=true):Zau τ [(0,1,y0)] [(.v (.string ⟨#[]⟩))]=some [x0_0]:=by
 simp only [Zau,h0,l0]
 rfl
theorem Zmm {a0 a1 a2:AV}{l:List AV}:(a0::a1::a2::l).take 3=[a0,a1,a2]:=rfl
end
def c92:AC:=(Sr [Oo 1 (.box 26 3 (.tmp 0)),Oo 2 (.mv (.const (.slice none 0 0)))] (Sr [Oo 3 (.mv (.const (.slice none 0 0)))] (.seq (Sr [Fa 8 1 1,Ld 9 8,Oo 10 (.len false (.tmp 9)),Mc 11 0] (.block 0 (.loop (Sr [Bn 12 .lss 11 10] (.seq (Cd 12 .skip (.exit 0)) (.seq (.block 1 (Sr [Oo 13 (.ia 2 (.tmp 9) (.tmp 11)),Oo 14 (.load true 2 (.tmp 13)),Oo 5 (.new 44 2 [Ss,(.sl 0 0 true [])]),⟨none,none,(.store 2 (.tmp 5) (.tmp 14))⟩] (.reg [Mv 15 3,Fa 16 0 5,Ld 17 16,Oo 18 (.lit 9 1 1 [Ss] [(0,(1,(.tmp 17)))]),Oo 19 (.app 9 1 16 (.tmp 15) (.tmp 18)),Mv 3 19]))) (.reg [Bc 20 .add 11 1,Mv 11 20]))))))) (.seq (Sr [Fa 21 2 1,Ld 22 21,Oo 23 (.len false (.tmp 22)),Mc 24 0] (.block 2 (.loop (Sr [Bn 25 .lss 24 23] (.seq (Cd 25 .skip (.exit 2)) (.seq (.block 3 (Sr [Oo 26 (.ia 2 (.tmp 22) (.tmp 24)),Oo 27 (.load true 2 (.tmp 26)),Oo 7 (.new 35 2 [Ss,Ss]),⟨none,none,(.store 2 (.tmp 7) (.tmp 27))⟩] (.reg [Mv 28 3,Fa 29 1 7,Ld 30 29,Oo 31 (.lit 9 1 1 [Ss] [(0,(1,(.tmp 30)))]),Oo 32 (.app 9 1 16 (.tmp 28) (.tmp 31)),Mv 3 32]))) (.reg [Bc 33 .add 24 1,Mv 24 33]))))))) (Sr [Mv 34 3,Mv 2 34] .ret)))))
theorem k92:ZaD Tryz.prog 92=some ⟨c92,[(.tmp 2)],35⟩:=by kernel_rfl
def c43:AC:=(Sr [Oo 1 (.box 26 3 (.tmp 0)),Mb 2 false] (Sr [Oo 4 (.load true 3 (.tmp 1)),Cl 5 92 [(.tmp 4)],Mv 3 5] (Sr [Mv 6 3,Cl 7 93 [(.tmp 6)]] (.seq (.drwU [[],[],[],[0,1,2],[2],[2],[],[]] [Mv 8 3,Cl 9 94 [(.tmp 8)],Oo 10 (.len false (.tmp 9)),Oo 11 (.load true 3 (.tmp 1)),Cl 12 92 [(.tmp 11)],Oo 13 (.len false (.tmp 12)),Bn 14 .lss 10 13,Mv 2 14]) .ret))))
theorem k43:ZjL Tryz.prog 43=some ⟨c43,[(.tmp 2)],15⟩:=by kernel_rfl
def Zcj (z:List Zon) (k:List Lnk):List ByteArray:=z.map (·.1)++k.map (·.2)
theorem Zfq (z:List Zon) (k:List Lnk):(Zcj z k).length=z.length+k.length:=by simp [Zcj]
theorem ZgX (x:ByteArray):rows strC [x]=[sv x]:=rfl
theorem names_o {a:List Rul}{z:List Zon}{k:List Lnk}{h:AH}{q:Nat}(hq:h.length+1=q) (hz:z.length≤20) (hk:k.length≤20):ACalls Tryz.prog 92 [.agg (srcB a z k)] h fun x h'=>x=.ret (.own q (Zcj z k).length (Zcj z k).length)∧h'=h++[.mk 0 26 3 (srcB a z k),.mk (Zcj z k).length 9 1 (rows strC (Zcj z k))]:=by
 have hnl:=Zfq z k
 have hkk:=hk
 refine tN' k92 fun N hn hlt hlA hbd=>?_
 simp only [tb'] at hbd ⊢
 refine wr'<|E' (Zbi (cvl lk0 rfl) rfl (hl0 hn) ha0) pt1<|mv' lkn pt2<|sn'<|wr'<|mv' lkn pt3<|Zaq<|Za8 (ALe.own0' (st':=1) (ty:=9) gt3 (hl1 hn) pt3 ha1)<|Zah<|wr'<|?_
 refine V' (Zac lk) pt<|V' (Zab lk (hga hn rfl) gt1) pt<|V' (ZaI lk) pt<|mv' lki pt<|sn'<|Zan<|?_
 refine w_lp (ι:=Nat) (fun (i:Nat)=>[(3,.own (N+1) i i),(11,iv (i:Int)),(5,.any)]++rn' 12 9) (fun (i:Nat)=>[(1,.mk i 9 1 (rows strC ((z.map (·.1)).take i)))]) (fun (i:Nat)=>i≤z.length) (fun (i:Nat)=>z.length-i) (0) (by exact Nat.zero_le _) ?_
 rintro i hi1
 try simp only [sm',Nat.reduceAdd]
 replace hi1:i≤z.length:=hi1
 have htl:((z.map (·.1)).take i).length=i:=by rw [List.length_take,List.length_map];omega
 refine wr'<|V' (ZaZ lk lk) pt<|sn'<|Zah<|?_
 refine cd' lk (fun hc1=>?_) (fun hc1=>?_)
 ·have hi:i<z.length:=by omega
  have htk:(z.map (·.1)).take (i+1)=(z.map (·.1)).take i++[z[i].1]:=by rw [List.take_succ_eq_append_getElem (by simpa using hi)];simp
  refine Zad<|Zaf<|Zah<|Zan<|wr'<|?_
  refine V' (ZaJ lk lk Zbs (nb' rfl) ro (by omega) ro rfl) pt ?_
  refine V' (ZaF lk ZgH rfl) pt<|E' (Za6 (hl2 hn) ha2) pt<|E' (Zal lk (cvl lk rfl) (hga hn rfl) rfl (nb' rfl) rfl ZfB (hs2 hn)) ptn<|sn'<|Zat<|mv' lk pt<|V' (Zac lk) pt<|V' (Zab lk (hga hn rfl) gt0) pt<|E' (Zda (ZgK (cvl lk rfl) rfl) (hl3 hn) ha3) pt<|?_
  refine E' (Zcw (ZbI lk (hga hn rfl) rfl ZgI (nb' rfl)) lk (hga hn rfl) ((ZdR _).trans (by rw [htl])) (by omega) rfl (hs1 hn)) pt ?_
  refine mv' lk pt<|Zaq<|Zay<|Zaf<|Zat<|?_
  refine V' (Zav lk lki (by omega) (by omega)) pt ?_
  refine mv' lk pt<|Zaq<|ZaB<|?_
  refine lU' (i+1) (by (try dsimp only);omega) (by (try dsimp only);(try simp only [sm',Nat.reduceAdd]);exact bk' 2 hn hlt (by rw [htk,ZaU,ZgX];rfl))
 have hie:i=z.length:=by omega
 subst hie
 rw [show (z.map (·.1)).take z.length=z.map (·.1) from List.take_of_length_le (by simp)]
 refine ZaE<|Zaz<|Zaz<|ZaX<|Zaf<|Zah<|wr'<|V' (Zac lk) pt<|V' (Zab lk (hga hn rfl) gt2) pt<|V' (ZaI lk) pt<|mv' lki pt<|sn'<|?_
 refine Zan ?_
 refine Ze0 (ι:=Nat) (fun (j:Nat)=>[(3,.own (N+1) (z.length+j) (z.length+j)),(24,iv (j:Int)),(7,.any)]++rn' 25 9) (fun (j:Nat)=>[(1,.mk (z.length+j) 9 1 (rows strC (z.map (·.1)++(k.map (·.2)).take j)))]) (fun (j:Nat)=>j≤k.length) (fun (j:Nat)=>k.length-j) (0) (by exact Nat.zero_le _) (by try simp only [sm',Nat.reduceAdd];exact ALe.same wA' (by rw [List.take_zero,List.append_nil];rfl)) ?_
 rintro j hi2
 try simp only [sm',Nat.reduceAdd]
 replace hi2:j≤k.length:=hi2
 have htl2:(z.map (·.1)++(k.map (·.2)).take j).length=z.length+j:=by rw [List.length_append,List.length_map,List.length_take,List.length_map];omega
 refine wr'<|V' (ZaZ lk lk) pt<|sn'<|Zah<|?_
 refine cd' lk (fun hc2=>?_) (fun hc2=>?_)
 ·have hj:j<k.length:=by omega
  have htk2:(k.map (·.2)).take (j+1)=(k.map (·.2)).take j++[k[j].2]:=by rw [List.take_succ_eq_append_getElem (by simpa using hj)];simp
  refine Zad<|Zaf<|Zah<|Zan<|wr'<|?_
  refine V' (ZaJ lk lk ZcH (nb' rfl) ro (by omega) ro rfl) pt ?_
  refine V' (ZaF lk ZgH rfl) pt<|E' (Za6 (hl2 hn) ha2) pt<|E' (Zal lk (cvl lk rfl) (hga hn rfl) rfl (nb' rfl) rfl ZfB (hs2 hn)) ptn<|sn'<|Zat<|mv' lk pt<|V' (Zac lk) pt<|V' (Zab lk (hga hn rfl) gt1) pt<|E' (Zda (ZgJ (cvl lk rfl) rfl) (hl3 hn) ha3) pt<|?_
  refine E' (Zcw (ZbI lk (hga hn rfl) rfl ZgI (nb' rfl)) lk (hga hn rfl) ((ZdR _).trans (by rw [htl2])) (by omega) rfl (hs1 hn)) pt ?_
  refine mv' lk pt<|Zaq<|Zay<|Zaf<|Zat<|?_
  refine V' (Zav lk lki (by omega) (by omega)) pt ?_
  refine mv' lk pt<|Zaq<|ZaB<|?_
  refine lU' (j+1) (by (try dsimp only);omega) (by (try dsimp only);(try simp only [sm',Nat.reduceAdd]);exact bk' 2 hn hlt (by simp only [htk2,ZaU,ZgX,List.append_assoc];rfl))
 have hje:j=k.length:=by omega
 subst hje
 rw [show (k.map (·.2)).take k.length=k.map (·.2) from List.take_of_length_le (by simp)]
 refine ZaE<|Zaz<|Zaz<|ZaX<|Zaf<|wr'<|mv' lk pt<|mv' lk pt<|sn'<|Zaa<|Zag rz<|?_
 rw [←hq,hnl,hn];exact ⟨rfl,rfl⟩
theorem names_q {a:List Rul}{z:List Zon}{k:List Lnk}{h:AH}(hz:z.length≤20) (hk:k.length≤20):Ac 92 [.agg (srcB a z k)] h (.sl (Zcj z k).length 1 false (rows strC (Zcj z k))):=by
 have hnl:=Zfq z k
 have hkk:=hk
 refine tW' k92 fun N hn hlt hlA hbd=>?_
 simp only [tb'] at hbd ⊢
 refine wr'<|E' (Zbi (cvl lk0 rfl) rfl (hl0 hn) ha0) pt1<|mv' lkn pt2<|sn'<|wr'<|mv' lkn pt3<|Zaq<|Za8 (ALe.own0' (st':=1) (ty:=9) gt3 (hl1 hn) pt3 ha1)<|Zah<|wr'<|?_
 refine V' (Zac lk) pt<|V' (Zab lk (hga hn rfl) gt1) pt<|V' (ZaI lk) pt<|mv' lki pt<|sn'<|Zan<|?_
 refine w_lp (ι:=Nat) (fun (i:Nat)=>[(3,.own (N+1) i i),(11,iv (i:Int)),(5,.any)]++rn' 12 9) (fun (i:Nat)=>[(1,.mk i 9 1 (rows strC ((z.map (·.1)).take i)))]) (fun (i:Nat)=>i≤z.length) (fun (i:Nat)=>z.length-i) (0) (by exact Nat.zero_le _) ?_
 rintro i hi1
 try simp only [sm',Nat.reduceAdd]
 replace hi1:i≤z.length:=hi1
 have htl:((z.map (·.1)).take i).length=i:=by rw [List.length_take,List.length_map];omega
 refine wr'<|V' (ZaZ lk lk) pt<|sn'<|Zah<|?_
 refine cd' lk (fun hc1=>?_) (fun hc1=>?_)
 ·have hi:i<z.length:=by omega
  have htk:(z.map (·.1)).take (i+1)=(z.map (·.1)).take i++[z[i].1]:=by rw [List.take_succ_eq_append_getElem (by simpa using hi)];simp
  refine Zad<|Zaf<|Zah<|Zan<|wr'<|?_
  refine V' (ZaJ lk lk Zbs (nb' rfl) ro (by omega) ro rfl) pt ?_
  refine V' (ZaF lk ZgH rfl) pt<|E' (Za6 (hl2 hn) ha2) pt<|E' (Zal lk (cvl lk rfl) (hga hn rfl) rfl (nb' rfl) rfl ZfB (hs2 hn)) ptn<|sn'<|Zat<|mv' lk pt<|V' (Zac lk) pt<|V' (Zab lk (hga hn rfl) gt0) pt<|E' (Zda (ZgK (cvl lk rfl) rfl) (hl3 hn) ha3) pt<|?_
  refine E' (Zcw (ZbI lk (hga hn rfl) rfl ZgI (nb' rfl)) lk (hga hn rfl) ((ZdR _).trans (by rw [htl])) (by omega) rfl (hs1 hn)) pt ?_
  refine mv' lk pt<|Zaq<|Zay<|Zaf<|Zat<|?_
  refine V' (Zav lk lki (by omega) (by omega)) pt ?_
  refine mv' lk pt<|Zaq<|ZaB<|?_
  refine lU' (i+1) (by (try dsimp only);omega) (by (try dsimp only);(try simp only [sm',Nat.reduceAdd]);exact bk' 2 hn hlt (by rw [htk,ZaU,ZgX];rfl))
 have hie:i=z.length:=by omega
 subst hie
 rw [show (z.map (·.1)).take z.length=z.map (·.1) from List.take_of_length_le (by simp)]
 refine ZaE<|Zaz<|Zaz<|ZaX<|Zaf<|Zah<|wr'<|V' (Zac lk) pt<|V' (Zab lk (hga hn rfl) gt2) pt<|V' (ZaI lk) pt<|mv' lki pt<|sn'<|?_
 refine Zan ?_
 refine Ze0 (ι:=Nat) (fun (j:Nat)=>[(3,.own (N+1) (z.length+j) (z.length+j)),(24,iv (j:Int)),(7,.any)]++rn' 25 9) (fun (j:Nat)=>[(1,.mk (z.length+j) 9 1 (rows strC (z.map (·.1)++(k.map (·.2)).take j)))]) (fun (j:Nat)=>j≤k.length) (fun (j:Nat)=>k.length-j) (0) (by exact Nat.zero_le _) (by try simp only [sm',Nat.reduceAdd];exact ALe.same wA' (by rw [List.take_zero,List.append_nil];rfl)) ?_
 rintro j hi2
 try simp only [sm',Nat.reduceAdd]
 replace hi2:j≤k.length:=hi2
 have htl2:(z.map (·.1)++(k.map (·.2)).take j).length=z.length+j:=by rw [List.length_append,List.length_map,List.length_take,List.length_map];omega
 refine wr'<|V' (ZaZ lk lk) pt<|sn'<|Zah<|?_
 refine cd' lk (fun hc2=>?_) (fun hc2=>?_)
 ·have hj:j<k.length:=by omega
  have htk2:(k.map (·.2)).take (j+1)=(k.map (·.2)).take j++[k[j].2]:=by rw [List.take_succ_eq_append_getElem (by simpa using hj)];simp
  refine Zad<|Zaf<|Zah<|Zan<|wr'<|?_
  refine V' (ZaJ lk lk ZcH (nb' rfl) ro (by omega) ro rfl) pt ?_
  refine V' (ZaF lk ZgH rfl) pt<|E' (Za6 (hl2 hn) ha2) pt<|E' (Zal lk (cvl lk rfl) (hga hn rfl) rfl (nb' rfl) rfl ZfB (hs2 hn)) ptn<|sn'<|Zat<|mv' lk pt<|V' (Zac lk) pt<|V' (Zab lk (hga hn rfl) gt1) pt<|E' (Zda (ZgJ (cvl lk rfl) rfl) (hl3 hn) ha3) pt<|?_
  refine E' (Zcw (ZbI lk (hga hn rfl) rfl ZgI (nb' rfl)) lk (hga hn rfl) ((ZdR _).trans (by rw [htl2])) (by omega) rfl (hs1 hn)) pt ?_
  refine mv' lk pt<|Zaq<|Zay<|Zaf<|Zat<|?_
  refine V' (Zav lk lki (by omega) (by omega)) pt ?_
  refine mv' lk pt<|Zaq<|ZaB<|?_
  refine lU' (j+1) (by (try dsimp only);omega) (by (try dsimp only);(try simp only [sm',Nat.reduceAdd]);exact bk' 2 hn hlt (by simp only [htk2,ZaU,ZgX,List.append_assoc];rfl))
 have hje:j=k.length:=by omega
 subst hje
 rw [show (k.map (·.2)).take k.length=k.map (·.2) from List.take_of_length_le (by simp)]
 refine ZaE<|Zaz<|Zaz<|ZaX<|?_
 refine Za8 (ALe.iceR (hga hn rfl) gt3 (List.take_of_length_le (by rw [ZdR];simp)) (by rw [ZdR];simp) pt3 (hs1 hn)) ?_
 refine wr'<|mv' lk pt<|mv' lk pt<|sn'<|Zaa<|Zag rz<|rtW'<|?_
 rw [hnl];exact Wk.full
theorem twice_a {a:List Rul}{z:List Zon}{k:List Lnk}{h:AH}(hz:z.length≤20) (hk:k.length≤20):Ac 43 [.agg (srcB a z k)] h (bv (decide (¬(Zcj z k).Nodup))):=by
 have hnl:=Zfq z k
 have hsl:=ZqW (Zcj z k)
 refine tU' k43 fun N hn hlt hlA hbd=>?_
 simp only [tb'] at hbd ⊢
 refine wr'<|E' (Zbi (cvl lk rfl) rfl (hl0 hn) ha0) pt<|mv' lkb pt<|Zaq<|?_
 refine Za8 (ALe.icePtr (hga hn rfl) gt1 (by simp) pt1 (hs0 hn)) ?_
 refine wr'<|V' (ZaF lk Zmm rfl) pt<|?_
 refine s_callh mp ((names_o (q:=N+2) (by rw [hl1 hn]) hz hk).mono (fun x h' hh=>⟨hh.1,hh.2.trans (show _=h++[_,_,_] from List.append_assoc _ _ _)⟩)) pt ?_
 refine mv' lk pt<|sn'<|wr'<|mv' lk pt<|?_
 refine ZaT mp (ZmN (hga hn rfl) (by omega)) (hs2 hn) pt ?_
 refine sn'<|Zah<|Zca<|u_fr rfl (v_mv lk) pt<|?_
 refine Zc7 mp (hga hn rfl) (fun hU hUe=>(by have:=Znn (h:=hU) (l:=Zeu (Zcj z k)) hUe (by omega);rwa [hsl] at this)) nh (hs2 hn) pt ?_
 refine u_fr rfl (ZcC lk) pt<|u_fr rfl (ZaF lk Zmm rfl) pt<|?_
 refine u_callF mp (fun hU=>names_q hz hk) pt ?_
 refine u_fr rfl (ZaI lk) pt<|u_fr rfl (ZaZ lk lk) pt<|u_fr rfl (v_mv lk) pt<|Zc6<|Zaf<|Zaa<|Zag rz<|rT'<|?_
 exact bvx (by rw [←ZqC];simp)
end Go.Proofs.YthdifaphoaekoaaGreatDoor
end
section
namespace Go.Proofs.YthdifaphoaekoaaGreatDoor
open Go.Ab Go.RowKit Civ
attribute [local simp] Zby ZbO ZbD ZbK Zd6 Zd5 ZeR
section
theorem ZnF {a0 a1 a2 a3 a4 a5 a6 a7 a8 a9 c0 c1 c2 c3 c4 c5 c6 c7 c8 c9:AV}{l:List AV}:setCells (a0::a1::a2::a3::a4::a5::a6::a7::a8::a9::l) 0 [c0,c1,c2,c3,c4,c5,c6,c7,c8,c9]=c0::c1::c2::c3::c4::c5::c6::c7::c8::c9::l:=rfl
theorem ZdJ {a0 c0:AV}{l:List AV}:setCells (a0::l) 0 [c0]=c0::l:=rfl
theorem ZgG {a0 a1 a2:AV}{l:List AV}:(a0::a1::a2::l).take 3=[a0,a1,a2]:=rfl
end
def c14p:AC:=(.seq (.reg [⟨(some 1),none,(.box 26 3 (.tmp 0))⟩,⟨(some 2),none,(.new 28 1 [(.v (.int .i64 0))])⟩]) (.seq (.reg [⟨(some 7),none,(.load true 3 (.tmp 1))⟩,⟨(some 8),none,(.call (.func 42) [(.tmp 7)])⟩,⟨(some 3),none,(.mv (.tmp 8))⟩]) (.seq (.block 0 (.seq (.reg [⟨(some 10),none,(.mv (.tmp 3))⟩,⟨(some 11),none,(.bin .neq (.tmp 10) (.const (.int .i64 0)))⟩,⟨(some 9),none,(.mv (.tmp 11))⟩]) (.cond (.tmp 9) (.seq (.reg [⟨(some 12),none,(.mv (.tmp 3))⟩,⟨none,none,(.store 1 (.tmp 2) (.tmp 12))⟩]) .ret) (.seq (.reg [⟨(some 14),none,(.load true 3 (.tmp 1))⟩,⟨(some 15),none,(.call (.func 43) [(.tmp 14)])⟩,⟨(some 13),none,(.mv (.tmp 15))⟩]) (.cond (.tmp 13) (.seq (.reg [⟨none,none,(.store 1 (.tmp 2) (.const (.int .i64 6)))⟩]) .ret) (.seq (.reg [⟨(some 17),none,(.load true 3 (.tmp 1))⟩,⟨(some 18),none,(.call (.func 44) [(.tmp 17)])⟩,⟨(some 16),none,(.mv (.tmp 18))⟩]) (.cond (.tmp 16) (.seq (.reg [⟨none,none,(.store 1 (.tmp 2) (.const (.int .i64 5)))⟩]) .ret) .skip))))))) (.seq (.reg [⟨(some 19),none,(.load true 3 (.tmp 1))⟩,⟨(some 20),none,(.call (.func 45) [(.tmp 19)])⟩]) .skip))))
def c14a:AC:=(.reg [⟨(some 4),none,(.new 67 10 [(.v (.int .i64 0)),(.v (.string ⟨#[]⟩)),(.v (.int .i64 0)),(.v (.string ⟨#[]⟩)),(.v (.bool false)),(.v (.int .i64 0)),(.v (.int .i64 0)),(.v (.int .i64 0)),(.v (.int .i64 0)),(.v (.int .i64 0))])⟩,⟨none,none,(.store 10 (.tmp 4) (.tmp 21))⟩])
def c14b:AC:=(.block 2 (.seq (.seq (.reg [⟨(some 22),none,(.fa 1 (.tmp 4))⟩,⟨(some 23),none,(.load false 1 (.tmp 22))⟩,⟨(some 24),none,(.bin .eql (.tmp 23) (.const (.string ⟨#[]⟩)))⟩]) (.cond (.tmp 24) (.exit 2) .skip)) (.seq (.reg [⟨(some 26),none,(.fa 0 (.tmp 1))⟩,⟨(some 27),none,(.load false 1 (.tmp 26))⟩,⟨(some 28),none,(.fa 1 (.tmp 4))⟩,⟨(some 29),none,(.load false 1 (.tmp 28))⟩,⟨(some 30),none,(.fa 0 (.tmp 4))⟩,⟨(some 31),none,(.load false 1 (.tmp 30))⟩,⟨(some 32),none,(.call (.func 28) [(.tmp 27),(.tmp 29),(.tmp 31)])⟩,⟨(some 25),none,(.mv (.tmp 32))⟩,⟨(some 33),none,(.ext (.tmp 25) 0)⟩,⟨(some 34),none,(.ext (.tmp 25) 1)⟩,⟨(some 5),none,(.mv (.tmp 33))⟩,⟨(some 6),none,(.mv (.tmp 34))⟩]) (.seq (.reg [⟨(some 35),none,(.mv (.tmp 6))⟩,⟨(some 36),none,(.bin .neq (.tmp 35) (.const (.int .i64 0)))⟩]) (.cond (.tmp 36) (.seq (.reg [⟨(some 37),none,(.mv (.tmp 6))⟩,⟨none,none,(.store 1 (.tmp 2) (.tmp 37))⟩]) .ret) .skip)))))
def c14q:AC:=(.seq (.reg [⟨(some 38),none,(.fa 1 (.tmp 1))⟩,⟨(some 39),none,(.load false 1 (.tmp 38))⟩,⟨(some 40),none,(.call (.func 46) [(.tmp 39),(.func 47)])⟩]) (.seq (.cond (.tmp 40) (.seq (.reg [⟨none,none,(.store 1 (.tmp 2) (.const (.int .i64 4)))⟩]) .ret) .skip) (.seq (.reg [⟨none,none,(.store 1 (.tmp 2) (.const (.int .i64 0)))⟩]) (.seq .ret .skip))))
abbrev fr14:AFR:=⟨[(.reg [⟨(some 1),none,(.box 26 3 (.tmp 0))⟩,⟨(some 2),none,(.new 28 1 [(.v (.int .i64 0))])⟩]),(.reg [⟨(some 7),none,(.load true 3 (.tmp 1))⟩,⟨(some 8),none,(.call (.func 42) [(.tmp 7)])⟩,⟨(some 3),none,(.mv (.tmp 8))⟩]),(.block 0 (.seq (.reg [⟨(some 10),none,(.mv (.tmp 3))⟩,⟨(some 11),none,(.bin .neq (.tmp 10) (.const (.int .i64 0)))⟩,⟨(some 9),none,(.mv (.tmp 11))⟩]) (.cond (.tmp 9) (.seq (.reg [⟨(some 12),none,(.mv (.tmp 3))⟩,⟨none,none,(.store 1 (.tmp 2) (.tmp 12))⟩]) .ret) (.seq (.reg [⟨(some 14),none,(.load true 3 (.tmp 1))⟩,⟨(some 15),none,(.call (.func 43) [(.tmp 14)])⟩,⟨(some 13),none,(.mv (.tmp 15))⟩]) (.cond (.tmp 13) (.seq (.reg [⟨none,none,(.store 1 (.tmp 2) (.const (.int .i64 6)))⟩]) .ret) (.seq (.reg [⟨(some 17),none,(.load true 3 (.tmp 1))⟩,⟨(some 18),none,(.call (.func 44) [(.tmp 17)])⟩,⟨(some 16),none,(.mv (.tmp 18))⟩]) (.cond (.tmp 16) (.seq (.reg [⟨none,none,(.store 1 (.tmp 2) (.const (.int .i64 5)))⟩]) .ret) .skip))))))),(.reg [⟨(some 19),none,(.load true 3 (.tmp 1))⟩,⟨(some 20),none,(.call (.func 45) [(.tmp 19)])⟩])],(.tmp 20),#[21],c14a,c14b,c14q,[(.cell 2 false 1)],41⟩
theorem k14:Zhy Tryz.prog 14=some fr14:=by kernel_rfl
def errX (a:List Rul) (x:Era):Int:=if xRl x=⟨#[]⟩ then 0 else (Zba a (xRl x) (xSh x)).2
def ZbE (s:Src):Int :=
 if ZbQ s≠0 then ZbQ s else if ¬(Zcj s.2.1 s.2.2).Nodup then 6 else if Ze7 s=true then 5
 else if Za0 (errX s.1) (ZcN s.2.1)≠0 then Za0 (errX s.1) (ZcN s.2.1)
 else if (s.2.1.any fun z=>!risL (ZaO z.2))=true then 4 else 0
theorem ZfY {p:Era→Int}{l:List Era}:Za0 p l=match l.find? (fun x=>decide (p x≠0)) with
  | none=>0
  | some x=>p x:=by
 induction l with
 | nil=>rfl
 | cons x l ih =>
  rw [Za0,List.find?_cons]
  by_cases h:p x≠0
  ·rw [if_pos h,decide_eq_true h]
  rw [if_neg h,decide_eq_false h];exact ih
theorem Zc0 {s:Src}(h:ZbQ s=0):s.1.length≤40∧s.2.1.length≤20∧s.2.2.length≤20∧(∀ z∈s.2.1,z.2.length≤8)∧(∀ r∈s.1,Zbo r=0)∧(∀ z∈s.2.1,ZeZ z=0) ∧ ∀ l∈s.2.2,ZeB l=0:=by
 unfold ZbQ at h
 split at h
 ·cases h
 rename_i h1
 split at h
 ·rename_i h2;exact absurd h h2
 rename_i h2
 split at h
 ·rename_i h3;exact absurd h h3
 rename_i h3
 have h1:ZeY s=false:=by simpa using h1
 unfold ZeY at h1
 simp only [Bool.or_eq_false_iff,decide_eq_false_iff_not,List.any_eq_false,decide_eq_true_eq] at h1
 exact ⟨by omega,by omega,by omega,fun z hz=>by have:=h1.1.1.1 z hz;omega,Zc9 (Decidable.of_not_not h2),Zc9 (Decidable.of_not_not h3),Zc9 h⟩
theorem Zdd {s:Src}(h:ZbQ s=0) {z:Zon}(hz:z∈s.2.1):okZ z.2:=by
 obtain ⟨_,_,_,h4,_,h6,_⟩:=Zc0 h
 exact okZ_of (h6 z hz) (h4 z hz)
abbrev chkT (N:Nat) (a:List Rul) (z:List Zon) (k:List Lnk) (x:AV):List AV:=[.any,.rp (srcB a z k),.ptr (N+1) 0 0,.any,.any,.any,.any,.any,.any,.any,.any,.any,.any,.any,.any,.any,.any,.any,.any,.any,.clo (.func 100) [.rp (srcB a z k)],x,.any,.any,.any,.any,.any,.any,.any,.any,.any,.any,.any,.any,.any,.any,.any,.any,.any,.any,.any]
theorem chkT_lt {N:Nat}{a:List Rul}{z:List Zon}{k:List Lnk}:AV.ltL (N+4) (chkT N a z k .any)=true:=by simp [AV.ltL,AV.lt,Zby,ZbD,ZbK]
theorem ZiD {h:AH}{lp N D:Nat}{rdy bsy fin:Obj}{a:List Rul}{z:List Zon}{k:List Lnk}{vs:List Value}(hn:h.length=N) (hlt : ∀ e∈h,e.lt N=true) (ha:a.length≤9223372036854775807) (hok:okRs a)
  (hY:Zle Tryz.prog fr14 (N+2+1) lp rdy bsy fin (chkT N a z k .any) vs) {x:Era} {e f:Ent} :
  AYield Tryz.prog lp [.agg (eraC x)] (ergJ h D lp 28 rdy (chkT N a z k .any) vs (iv 0) e f) fun r h''=>r=.ret (.v (.bool (!decide (errX a x≠0))))∧h''=ergJ h D lp 28 (if errX a x≠0 then fin else rdy) (chkT N a z k .any) vs (iv (errX a x)) e f:=by
 refine y_go hY (hga (k:=3) hn rfl) rfl fun n0 hn0 hlt0 q1 q2 q3=>?_
 have hm:n0=N+6:=by rw [←hn0];simp [hn]
 have hE:=hlt0 e (by simp)
 have hF:=hlt0 f (by simp)
 have hR:=hlt0 (.raw lp rdy (chkT N a z k .any) vs) (by simp)
 show aw _ _ c14a _ _ _
 show aw _ _ _ _ (chkT N a z k (.agg (eraC x))) (h++[.gone,.mk 0 28 1 [iv 0],mkD D,.raw lp rdy (chkT N a z k .any) vs,e,f])
 refine Zat<|E' (Za6 (hl6 hn) ha6) pt<|E' (Zal lk (cvl lk rfl) (hga hn rfl) rfl (nb' rfl) rfl ZnF (hs6 hn)) ptn<|Zaq<|?_
 refine Zsr (i:=N+3) (hga hn rfl) (hs3 hn) fun n1 hn1 hlt1=>?_
 have hro : ∀ o:Obj,Ent.lt n0 (.raw lp o (chkT N a z k .any) vs)=true:=fun o=>by simpa [Ent.lt] using hR
 have fin2 : ∀ (n:Int) (b:Bool) (o:Obj) (E:Ent),n=errX a x→b=!decide (errX a x≠0)→o=(if errX a x≠0 then fin else rdy) → ∃ y z',h++[.gone,.mk 0 28 1 [iv n],mkD D,.raw lp o (chkT N a z k .any) vs,e,f,E]=y++z'∧y.length=n0∧(∀ e∈y,e.lt n0=true)∧(AE.ret (.v (.bool b))).lt n0=true∧AE.ret (.v (.bool b))=.ret (.v (.bool (!decide (errX a x≠0))))∧y=ergJ h D lp 28 (if errX a x≠0 then fin else rdy) (chkT N a z k .any) vs (iv (errX a x)) e f:=by
  rintro n b o E rfl rfl rfl
  refine ⟨_,_,app61,by rw [←hn0];simp,fun y hy=>?_,rfl,rfl,rfl⟩
  rcases List.mem_append.1 hy with hy | hy
  ·exact ltw (by omega) hlt y hy
  simp only [List.mem_cons,List.not_mem_nil,or_false] at hy
  rcases hy with rfl | rfl | rfl | rfl | rfl | rfl
  ·simp [Ent.lt]
  ·simp [Ent.lt,AV.ltL,AV.lt]
  ·simp [Ent.lt,AV.ltL]
  ·exact hro _
  ·exact hE
  exact hF
 show aw _ _ c14b _ _ _
 refine Zan<|Zah<|wr'<|V' (Zac lk) pt<|V' (Zab lk (hga hn rfl) gt1) pt<|V' (Zci lk lks) pt<|sn'<|?_
 refine cd' lk (fun hc1=>?_) (fun hc1=>?_)
 ·have hP:errX a x=0:=if_pos hc1
  refine ZaE<|Zaz<|ZaX<|?_
  exact ZiH (i:=N+3) (hga hn rfl) (hs3 hn) (fin2 0 true rdy _ hP.symm (by rw [hP];rfl) (by rw [hP];rfl))
 have hP:errX a x=(Zba a (xRl x) (xSh x)).2:=if_neg hc1
 refine Zad<|Zaf<|wr'<|V' (ZaS lk dp0) pt<|V' (Zar lk gt) pt<|V' (Zac lk) pt<|V' (Zab lk (hga hn rfl) gt1) pt<|V' (Zac lk) pt<|V' (Zab lk (hga hn rfl) gt0) pt<|Zae mp (ZqK hok ha) pt<|mv' lk pt<|V' (Za7 lk gt) pt<|V' (Za7 lk gt) pt<|?_
 refine mv' lk pt<|mv' lk pt<|sn'<|wr'<|mv' lk pt<|V' (Za5 lk lki) pt<|sn'<|?_
 refine cd' lk (fun hc2=>?_) (fun hc2=>?_)
 ·have hP2:errX a x≠0:=by rw [hP];exact hc2
  refine wr'<|mv' lk pt<|E' (Zal lk (cvl lk rfl) (hga hn rfl) rfl (nb' rfl) rfl ZdJ (hs1 hn)) ptn<|sn'<|Zaa<|Zas<|?_
  refine ZoP (i:=N+3) (hga hn rfl) (hs3 hn) (fin2 _ false fin _ hP.symm (by rw [decide_eq_true hP2];rfl) (by rw [if_pos hP2]))
 have hP2:errX a x=0:=by rw [hP];exact Decidable.of_not_not hc2
 refine Zad<|Zay<|?_
 exact ZiH (i:=N+3) (hga hn rfl) (hs3 hn) (fin2 0 true rdy _ hP2.symm (by rw [hP2];rfl) (by rw [hP2];rfl))
theorem Zpy {h:AH}{lp N D:Nat}{rdy bsy fin:Obj}{a:List Rul}{z:List Zon}{k:List Lnk}{vs:List Value}(hn:h.length=N) (hlt : ∀ e∈h,e.lt N=true) (hok:okRs a) (hc:ZbQ (a,z,k)=0)
    (hY:Zle Tryz.prog fr14 (N+2+1) lp rdy bsy fin (chkT N a z k .any) vs) (hnd:(Zcj z k).Nodup) (hms:Ze7 (a,z,k)=false) {R:AE→AH→Prop} (hR:R=fun x h' => ∃ z',h'=h++z'∧x.lt N=true∧x=.ret (iv (ZbE (a,z,k)))) :
    ACalls Tryz.prog 100 (.v (.func (.yield lp) #[] #[])::[.rp (srcB a z k)]) (ergH h D lp 28 rdy (chkT N a z k .any) vs (iv 0)) fun r h3=>(∃ c,r=.ret c) ∧
      ((h3[N+2+1]?=some (.raw lp rdy (chkT N a z k .any) vs) ∧ ∀ n0,(h3.set (N+2+1) .gone).length=n0→(∀ e∈h3.set (N+2+1) .gone,e.lt n0=true)→aw Tryz.prog n0 fr14.post (Ze6 fr14.res (N+2) D R) (chkT N a z k .any) (h3.set (N+2+1) .gone)) ∨
       (h3[N+2+1]?=some (.raw lp fin (chkT N a z k .any) vs)∧Ze6 fr14.res (N+2) D R .ret (chkT N a z k .any) (h3.set (N+2+1) .gone))):=by
  obtain ⟨q1,q2,q3,q4,q5,q6,q7⟩:=Zc0 hc
  simp only at q1 q2 q3 q4 q5 q6 q7
  have hZ:ZbE (a,z,k)=if Za0 (errX a) (ZcN z)≠0 then Za0 (errX a) (ZcN z) else if (z.any fun z=>!risL (ZaO z.2))=true then 4 else 0:=by
    unfold ZbE
    rw [if_neg (by rw [hc];simp),if_neg (by simpa using hnd),if_neg (by rw [hms];simp)]
  refine (Zr7 (h:=ergH h D lp 28 rdy (chkT N a z k .any) vs (iv 0)) (p:=fun x=>decide (errX a x≠0)) (hS:=fun x=>ergH h D lp 28 fin (chkT N a z k .any) vs (iv (errX a x))) q2 q4 (fun _=>(hl4 hn).trans (hl4 hn).symm) (fun _=>by rw [hl4 hn];exact Zr6 hlt chkT_lt rfl) (fun x _ e f hp=>?_) (fun x _ e f hp=>?_)).mono ?_
  · have hp':errX a x=0:=by simpa using hp
    have:=ZiD (e:=e) (f:=f) (D:=D) (x:=x) hn hlt (by omega) hok hY
    rw [hp'] at this
    rw [Zg8]
    exact this
  · have hp':errX a x≠0:=by simpa using hp
    have:=ZiD (e:=e) (f:=f) (D:=D) (x:=x) hn hlt (by omega) hok hY
    rw [if_pos hp',decide_eq_true hp'] at this
    rw [Zg8,Zg8]
    exact this
  rintro x h3 ⟨rfl,rfl⟩
  refine ⟨⟨_,rfl⟩,?_⟩
  rw [ZfY] at hZ
  subst hR
  cases hf:(ZcN z).find? (fun x=>decide (errX a x≠0)) with
  | none =>
    rw [hf] at hZ
    simp only [ne_eq,not_true_eq_false,if_false] at hZ
    refine .inl ⟨hga (k:=3) hn rfl,fun n0 hn0 _=>?_⟩
    have hs:(ergH h D lp 28 rdy (chkT N a z k .any) vs (iv 0)).set (N+2+1) .gone=h++[.gone,.mk 0 28 1 [iv 0],mkD D,.gone]:=hs3 hn
    show aw _ _ _ _ _ ((ergH h D lp 28 rdy (chkT N a z k .any) vs (iv 0)).set (N+2+1) .gone)
    rw [hs]
    show aw _ _ c14q _ _ _
    refine wr'<|V' (ZaS lk dp1) pt<|V' (Zar lk gt) pt<|?_
    refine Zae mp (ZrW (p:=fun z:Zon=>!risL (ZaO z.2)) (fun c hc' _=>check1_a (Zdd (s:=(a,z,k)) hc hc')) (by omega)) pt ?_
    refine sn'<|Zah<|?_
    refine Zaw lk (fun hc1=>?_) (fun hc1=>?_)
    · rw [if_pos hc1] at hZ
      refine wr'<|E' (Zal lk (cvl lki rfl) (hga hn rfl) rfl (nb' rfl) rfl ZdJ (hs1 hn)) ptn<|sn'<|Zaa<|Zaj<|?_
      refine Zd3 (hga hn rfl) (hs2 hn) (rs1 (rr_c gt (hga hn rfl) (ld0 gt))) ?_
      refine rT' ?_
      rw [hZ]
    rw [if_neg (by rw [hc1];simp)] at hZ
    refine Zad<|Zaf<|wr'<|E' (Zal lk (cvl lki rfl) (hga hn rfl) rfl (nb' rfl) rfl ZdJ (hs1 hn)) ptn<|sn'<|Zah<|Zaa<|Zaj<|?_
    refine Zd3 (hga hn rfl) (hs2 hn) (rs1 (rr_c gt (hga hn rfl) (ld0 gt))) ?_
    refine rT' ?_
    rw [hZ]
  | some x =>
    rw [hf] at hZ
    have hx:errX a x≠0:=by have:=List.find?_some hf;simpa using this
    simp only at hZ
    rw [if_pos hx] at hZ
    refine .inr ⟨hga (k:=3) hn rfl,?_⟩
    have hs:(ergH h D lp 28 fin (chkT N a z k .any) vs (iv (errX a x))).set (N+2+1) .gone=h++[.gone,.mk 0 28 1 [iv (errX a x)],mkD D,.gone]:=hs3 hn
    show Ze6 _ _ _ _ _ _ ((ergH h D lp 28 fin (chkT N a z k .any) vs (iv (errX a x))).set (N+2+1) .gone)
    rw [hs]
    exact Zd3 (hga (k:=2) hn rfl) (hs2 hn) (rs1 (rr_c gt (hga (k:=1) hn rfl) (ld0 gt))) (rT' (by rw [hZ]))
theorem ZkL {s:Src}(h:Zeb s):okRs s.1:=fun r hr=>h.1 r hr
theorem Zf8 {a:List Rul}{z:List Zon}{k:List Lnk}{h:AH}(hok:Zeb (a,z,k)):Ac 14 [.agg (srcB a z k)] h (iv (ZbE (a,z,k))):=by
 refine tR' k14 fun N hn hlt hlA hbd=>?_
 show aw _ _ c14p _ _ _
 show aw _ _ _ _ [.agg (srcB a z k),.any,.any,.any,.any,.any,.any,.any,.any,.any,.any,.any,.any,.any,.any,.any,.any,.any,.any,.any,.any,.any,.any,.any,.any,.any,.any,.any,.any,.any,.any,.any,.any,.any,.any,.any,.any,.any,.any,.any,.any] _
 refine wr'<|E' (Zbi (cvl lk rfl) rfl (hl0 hn) ha0) pt<|E' (Za6 (hl1 hn) ha1) pt<|Zaq<|?_
 refine Za8 (ALe.icePtr (hga hn rfl) gt1 (by simp) pt1 (hs0 hn)) ?_
 refine wr'<|V' (ZaF lk ZgG rfl) pt<|Zae mp (scheck_b hok) pt<|mv' lk pt<|sn'<|Zah<|Zan<|wr'<|mv' lk pt<|V' (Za5 lk lki) pt<|mv' lk pt<|?_
 refine sn' ?_
 refine cd' lk (fun hc1=>?_) (fun hc1=>?_)
 ·have hZ:ZbE (a,z,k)=ZbQ (a,z,k):=if_pos hc1
  refine wr'<|mv' lk pt<|E' (Zal lk (cvl lk rfl) (hga hn rfl) rfl (nb' rfl) rfl ZdJ (hs1 hn)) ptn<|sn'<|Zaa<|Zas<|Zaj<|?_
  refine Zih (rs1 (rr_c gt (hga hn rfl) (ld0 gt))) ?_
  refine rT' ?_
  rw [hZ]
 have hc:ZbQ (a,z,k)=0:=Decidable.of_not_not hc1
 obtain ⟨q1,q2,q3,q4,q5,q6,q7⟩:=Zc0 hc
 simp only at q1 q2 q3 q4 q5 q6 q7
 refine wr'<|V' (ZaF lk ZgG rfl) pt<|Zae mp (twice_a q2 q3) pt<|mv' lk pt<|sn'<|?_
 refine Zaw lk (fun hc2=>?_) (fun hc2=>?_)
 ·have hZ:ZbE (a,z,k)=6:=by unfold ZbE;rw [if_neg hc1,if_pos (of_decide_eq_true hc2)]
  refine wr'<|E' (Zal lk (cvl lki rfl) (hga hn rfl) rfl (nb' rfl) rfl ZdJ (hs1 hn)) ptn<|sn'<|Zaa<|Zas<|Zaj<|?_
  refine Zih (rs1 (rr_c gt (hga hn rfl) (ld0 gt))) ?_
  refine rT' ?_
  rw [hZ]
 have hnd:(Zcj z k).Nodup:=Decidable.of_not_not (of_decide_eq_false hc2)
 refine wr'<|V' (ZaF lk ZgG rfl) pt<|?_
 refine Zae mp (ZrC (by omega) q2 q4 (by omega)) pt ?_
 refine mv' lk pt<|sn'<|?_
 refine Zaw lk (fun hc3=>?_) (fun hc3=>?_)
 ·have hZ:ZbE (a,z,k)=5:=by unfold ZbE;rw [if_neg hc1,if_neg (by simpa using hnd),if_pos hc3]
  refine wr'<|E' (Zal lk (cvl lki rfl) (hga hn rfl) rfl (nb' rfl) rfl ZdJ (hs1 hn)) ptn<|sn'<|Zaa<|Zas<|Zaj<|?_
  refine Zih (rs1 (rr_c gt (hga hn rfl) (ld0 gt))) ?_
  refine rT' ?_
  rw [hZ]
 refine Zad<|Zay<|Zaf<|wr'<|V' (ZaF lk ZgG rfl) pt<|Zae mp (eras_a) pt<|sn'<|Zad<|?_
 refine Zrn (T1:=chkT N a z k .any) (ALe.same wA' rfl) rfl (hl2 hn) fun lp D rdy bsy fin vs hle hlT hY=>?_
 have hgo:=Zpy (D:=D) hn hlt (ZkL hok) hc hY hnd hc3 rfl
 rw [show (h++[Ent.gone,Ent.mk 0 28 1 [iv 0]]++[mkD D,Ent.raw lp rdy (chkT N a z k .any) vs]:AH)=ergH h D lp 28 rdy (chkT N a z k .any) vs (iv 0) by simp]
 exact hgo
end Go.Proofs.YthdifaphoaekoaaGreatDoor
end
section
namespace Go.Proofs.YthdifaphoaekoaaGreatDoor
open Go.Ab Go.RowKit Civ
attribute [local simp] Zby ZbO ZbD ZbK Zd6 Zd5 ZeR
section
theorem ZfA {a0 a1 a2:AV}{l:List AV}:((a0::a1::a2::l).drop 0).take 3=[a0,a1,a2]:=rfl
theorem ZnE {τ:Operand→AV}:Zau τ [] [(.v (.string ⟨#[]⟩)),(.sl 0 0 true [])]=some [(.v (.string ⟨#[]⟩)),(.sl 0 0 true [])]:=rfl
theorem ZdI {a0 a1 c0 c1:AV}{l:List AV}:setCells (a0::a1::l) 0 [c0,c1]=c0::c1::l:=rfl
theorem ZdH {a0 a1:AV}{l:List AV}:((a0::a1::l).drop 0).take 2=[a0,a1]:=rfl
theorem Zml {τ:Operand→AV}:Zau τ [] [(.v (.string ⟨#[]⟩)),(.sl 0 0 true [])]=some [(.v (.string ⟨#[]⟩)),(.sl 0 0 true [])]:=rfl
theorem ZsF {a0 a1:AV}{l:List AV}:(a0::a1::l).take 2=[a0,a1]:=rfl
theorem ZpO {τ:Operand→AV}:Zau τ [] []=some []:=rfl
theorem ZpN {a0 a1 c0:AV}{l:List AV}:setCells (a0::a1::l) 1 [c0]=a0::c0::l:=rfl
end
def c50:AC:=(Sr [Oo 2 (.box 26 3 (.tmp 0)),Oo 4 (.new 44 2 [Ss,(.sl 0 0 true [])]),Mc 5 0] (.seq (Sr [Oo 8 (.load true 3 (.tmp 2)),Cl 9 14 [(.tmp 8)],Mv 6 9] (Sr [Mv 10 6,Bc 11 .neq 10 0] (Cd 11 (Sr [Oo 12 (.build [Ss,(.sl 0 0 true [])] []),Mv 13 6,⟨none,none,(.store 2 (.tmp 4) (.tmp 12))⟩,Mv 5 13] .ret) .skip))) (Sr [Oo 14 (.load true 3 (.tmp 2)),Mv 15 1,Cl 16 102 [(.tmp 14),(.tmp 15)],Mv 7 16] (.seq (Sr [Mv 17 7,Bc 18 .lss 17 0] (Cd 18 (Sr [Oo 19 (.build [Ss,(.sl 0 0 true [])] []),⟨none,none,(.store 2 (.tmp 4) (.tmp 19))⟩,Mc 5 5] .ret) .skip)) (Sr [Fa 20 1 2,Ld 21 20,Mv 22 7,Oo 23 (.ia 2 (.tmp 21) (.tmp 22)),Oo 24 (.load true 2 (.tmp 23)),⟨none,none,(.store 2 (.tmp 4) (.tmp 24))⟩,Mc 5 0] .ret)))))
theorem k50:ZaD Tryz.prog 50=some ⟨c50,[(.cell 4 true 2),(.tmp 5)],25⟩:=by kernel_rfl
def c16:AC:=(Sr [Oo 2 (.box 26 3 (.tmp 0)),Oo 4 (.new 44 2 [Ss,(.sl 0 0 true [])]),Mc 5 0] (Sr [Oo 9 (.load true 3 (.tmp 2)),Mv 10 1,Cl 11 50 [(.tmp 9),(.tmp 10)],Mv 8 11,Ex 12 8 0,Ex 13 8 1,Oo 6 (.new 44 2 [Ss,(.sl 0 0 true [])]),⟨none,none,(.store 2 (.tmp 6) (.tmp 12))⟩,Mv 7 13] (Sr [Fa 14 1 6,Ld 15 14,Cl 16 54 [(.tmp 15)],Fa 17 1 6,Sc 17 16] (Sr [Oo 18 (.load true 2 (.tmp 6)),Mv 19 7,⟨none,none,(.store 2 (.tmp 4) (.tmp 18))⟩,Mv 5 19] .ret))))
theorem k16:ZaD Tryz.prog 16=some ⟨c16,[(.cell 4 true 2),(.tmp 5)],20⟩:=by kernel_rfl
def c17:AC:=(Sr [Oo 2 (.box 26 3 (.tmp 0)),Oo 4 (.mv (.const (.slice none 0 0))),Mc 5 0] (Sr [Oo 9 (.load true 3 (.tmp 2)),Mv 10 1,Cl 11 50 [(.tmp 9),(.tmp 10)],Mv 8 11,Ex 12 8 0,Ex 13 8 1,Oo 6 (.new 44 2 [Ss,(.sl 0 0 true [])]),⟨none,none,(.store 2 (.tmp 6) (.tmp 12))⟩,Mv 7 13] (.seq (Sr [Mv 14 7,Bc 15 .neq 14 0] (Cd 15 (Sr [Mv 16 7,Oo 4 (.mv (.const (.slice none 0 0))),Mv 5 16] .ret) .skip)) (Sr [Oo 17 (.load true 2 (.tmp 6)),Cl 18 49 [(.tmp 17)],Mv 4 18,Mc 5 0] .ret))))
theorem k17:ZaD Tryz.prog 17=some ⟨c17,[(.tmp 4),(.tmp 5)],19⟩:=by kernel_rfl
def c54:AC:=(Sr [Oo 2 (.mv (.const (.slice none 0 0)))] (.seq (Sr [Mv 3 0,Oo 4 (.eqn false (.tmp 3))] (Cd 4 (Sr [Oo 2 (.mv (.const (.slice none 0 0)))] .ret) .skip)) (Sr [Oo 5 (.lit 67 10 0 [] []),Mv 6 0,Oo 7 (.app 67 10 96 (.tmp 5) (.tmp 6)),Mv 2 7] .ret)))
theorem k54:ZaD Tryz.prog 54=some ⟨c54,[(.tmp 2)],8⟩:=by kernel_rfl
def zonO:Zon:=(⟨#[]⟩,[])
def tgtV (s:Src) (nm:ByteArray):ByteArray:=match s.2.2[s.2.2.findIdx fun l=>decide (l.2=nm)]? with
 | some l=>l.1
 | none=>nm
def ZbT (s:Src) (nm:ByteArray):Zon×Int :=
 if ZbE s≠0 then (zonO,ZbE s) else match s.2.1[s.2.1.findIdx fun z=>decide (z.1=tgtV s nm)]? with
 | some z=>(z,0)
 | none=>(zonO,5)
theorem Zg7 {s:Src}{nm:ByteArray}(h0:ZbE s=0) (h:¬s.2.1.findIdx (fun z=>decide (z.1=tgtV s nm))<s.2.1.length):ZbT s nm=(zonO,5):=by
 unfold ZbT;rw [if_neg (by simp [h0]),List.getElem?_eq_none (Nat.le_of_not_lt h)]
theorem Zg6 {s:Src}{nm:ByteArray}(h0:ZbE s=0) (h:s.2.1.findIdx (fun z=>decide (z.1=tgtV s nm))<s.2.1.length):ZbT s nm=(s.2.1[s.2.1.findIdx fun z=>decide (z.1=tgtV s nm)],0):=by
 unfold ZbT;rw [if_neg (by simp [h0]),List.getElem?_eq_getElem h]
theorem Zqv {e:AV}:Wk (.tup [.agg [sv ⟨#[]⟩,.sl 0 0 true []],e]) (.tup [.agg (zonC zonO),e]):=Wk.tup (wkw (Wk.agg (wk1 rfl (wkw Wk.nilF wk0))) (wk1 rfl wk0))
theorem Zr5 {a:List Rul}{z:List Zon}{k:List Lnk}{nm:ByteArray}{h:AH}(hok:Zeb (a,z,k)):Ac 50 [.agg (srcB a z k),sv nm] h (.tup [.agg (zonC (ZbT (a,z,k) nm).1),iv (ZbT (a,z,k) nm).2]):=by
 refine tW' k50 fun N hn hlt hlA hbd=>?_
 simp only [tb'] at hbd ⊢
 refine wr'<|E' (Zbi (cvl lk rfl) rfl (hl0 hn) ha0) pt<|E' (Za6 (hl1 hn) ha1) pt<|mv' lki pt<|sn'<|Zah<|wr'<|V' (Zap lk (hga hn rfl) ZfA rfl) pt<|Zae mp (Zf8 hok) pt<|mv' lk pt<|Zaq<|?_
 refine Zaf<|wr'<|mv' lk pt<|V' (Za5 lk lki) pt<|sn'<|?_
 refine cd' lk (fun hc1=>?_) (fun hc1=>?_)
 ·have hF:ZbT (a,z,k) nm=(zonO,ZbE (a,z,k)):=if_pos hc1
  refine wr'<|V' (ZaA ZnE) pt<|mv' lk pt<|E' (Zal lk (cvl lk rfl) (hga hn rfl) rfl (nb' rfl) rfl ZdI (hs1 hn)) ptn<|mv' lk pt<|sn'<|Zaa<|Zaj<|Zag (rsn (rm1 (rr_c gt (hga hn rfl) (ld1 ZdH rfl)) (rm1 (rr_t gt) rm0)))<|rtW'<|?_
  rw [hF];exact Zqv
 have hz0:ZbE (a,z,k)=0:=Decidable.of_not_not hc1
 have hce:ZbQ (a,z,k)=0:=by unfold ZbE at hz0;split at hz0;(rename_i hh;exact absurd hz0 hh);(rename_i hh;exact Decidable.of_not_not hh)
 obtain ⟨q1,q2,q3,q4,q5,q6,q7⟩:=Zc0 hce
 simp only at q1 q2 q3 q4 q5 q6 q7
 refine Zad<|Zaf<|wr'<|V' (Zap lk (hga hn rfl) ZfA rfl) pt<|mv' lk pt<|?_
 refine Zae mp (look_a (by omega) (by omega)) pt ?_
 refine mv' lk pt<|sn'<|Zah<|wr'<|mv' lk pt<|V' (ZaZ lk lki) pt<|sn'<|?_
 refine cd' lk (fun hc2=>?_) (fun hc2=>?_)
 ·have hlt':¬z.findIdx (fun y:Zon=>decide (y.1=tgtV (a,z,k) nm))<z.length:=fun hh=>by have:ZeA (a,z,k) nm=((z.findIdx fun y:Zon=>decide (y.1=tgtV (a,z,k) nm):Nat):Int):=if_pos hh;omega
  have hF:ZbT (a,z,k) nm=(zonO,5):=Zg7 hz0 hlt'
  refine wr'<|V' (ZaA Zml) pt<|E' (Zal lk (cvl lk rfl) (hga hn rfl) rfl (nb' rfl) rfl ZdI (hs1 hn)) ptn<|mv' lki pt<|sn'<|Zaa<|Zaj<|Zag (rsn (rm1 (rr_c gt (hga hn rfl) (ld1 ZdH rfl)) (rm1 (rr_t gt) rm0)))<|rtW'<|?_
  rw [hF];exact Zqv
 have hlt':z.findIdx (fun y:Zon=>decide (y.1=tgtV (a,z,k) nm))<z.length:=Decidable.byContradiction fun hh=>by have:ZeA (a,z,k) nm = -1:=if_neg hh;omega
 have hix:ZeA (a,z,k) nm=((z.findIdx fun y:Zon=>decide (y.1=tgtV (a,z,k) nm):Nat):Int):=if_pos hlt'
 have hF:ZbT (a,z,k) nm=(z[z.findIdx fun y:Zon=>decide (y.1=tgtV (a,z,k) nm)],0):=Zg6 hz0 hlt'
 refine Zad<|Zaf<|wr'<|V' (Zac lk) pt<|V' (Zab lk (hga hn rfl) gt1) pt<|mv' lk pt<|?_
 refine V' (ZaJ lk lk (fun _=>rfl) (nb' rfl) ro (by omega) ro rfl) pt ?_
 refine V' (ZaF lk ZsF rfl) pt<|E' (Zal lk (cvl lk rfl) (hga hn rfl) rfl (nb' rfl) rfl ZdI (hs1 hn)) ptn<|mv' lki pt<|sn'<|Zaa<|Zag (rsn (rm1 (rr_c gt (hga hn rfl) (ld1 ZdH rfl)) (rm1 (rr_t gt) rm0)))<|rtW'<|?_
 rw [hF];exact Wk.refl _
theorem Zfu {s:Src}(h:ZbE s=0):ZbQ s=0:=by
 unfold ZbE at h
 split at h
 ·rename_i hh;exact absurd h hh
 rename_i hh;exact Decidable.of_not_not hh
theorem Zne {s:Src}{nm:ByteArray}(h:(ZbT s nm).2=0):ZbE s=0∧(ZbT s nm).1∈s.2.1∧(ZbT s nm).1.1=tgtV s nm:=by
 unfold ZbT at h ⊢
 split at h
 ·rename_i h1;exact absurd h h1
 rename_i h1
 rw [if_neg h1]
 split at h
 ·rename_i z hz
  refine ⟨Decidable.of_not_not h1,List.mem_of_getElem? hz,?_⟩
  obtain ⟨hlt,rfl⟩:=List.getElem?_eq_some_iff.1 hz
  have:=List.findIdx_getElem (w:=hlt)
  simpa using this
 cases h
theorem ZoC {s:Src}{nm:ByteArray}(h:(ZbT s nm).2≠0):(ZbT s nm).1=zonO:=by
 unfold ZbT at h ⊢
 split
 ·rfl
 rename_i h1
 rw [if_neg h1] at h
 split
 ·rename_i z hz;rw [hz] at h;exact absurd rfl h
 rfl
theorem Zpz {s:Src}(h:ZbE s=0):ZbQ s=0∧(Zcj s.2.1 s.2.2).Nodup∧Ze7 s=false∧(∀ x∈ZcN s.2.1,errX s.1 x=0) ∧ ∀ z∈s.2.1,risL (ZaO z.2)=true:=by
 have hE:=Zfu h
 unfold ZbE at h
 rw [if_neg (by simp [hE])] at h
 split at h
 ·cases h
 rename_i h1
 split at h
 ·cases h
 rename_i h2
 split at h
 ·rename_i h3;exact absurd h h3
 rename_i h3
 split at h
 ·cases h
 rename_i h4
 refine ⟨hE,Decidable.of_not_not h1,by simpa using h2,Zc9 (Decidable.of_not_not h3),fun z hz=>?_⟩
 simp only [List.any_eq_true,not_exists,not_and,Bool.not_eq_true',Bool.not_eq_false] at h4
 exact h4 z hz
theorem cloneE_a {l:List Era}{full:Bool}{h:AH}(hl:l.length≤300000000000):ACalls Tryz.prog 54 [.sl l.length 10 full (rows eraC l)] h fun r h' => ∃ v,r=.ret (.own h.length v l.length)∧h'=h++[.mk v 67 10 (rows eraC l)]:=by
 refine tN' k54 fun N hn hlt hlA hbd=>?_
 simp only [tb'] at hbd ⊢
 refine wr'<|mv' lkn pt<|sn'<|Zah<|wr'<|mv' lk pt<|?_
 refine s_eqn lk (fun _=>pt) (fun bn3 hbn3=>?_)
 refine sn' ?_
 refine cd' lk (fun hc1=>?_) (fun hc1=>?_)
 ·refine wr'<|mv' lkn pt2<|Zaq<|Za8 (ALe.own0 (d:=2) (st':=10) (ty:=67) rfl)<|Zaa<|Zaj<|Zag (rs1 (rr_t gt2))<|?_
  have h0:l=[]:=List.eq_nil_of_length_eq_zero ((Nat.eq_zero_or_pos _).resolve_right (fun e=>by have:=hbn3 e;rw [hc1] at this;cases this))
  subst h0
  exact ⟨0,by simp,by simp [rows]⟩
 refine Zad<|Zaf<|wr'<|E' (Zda ZpO (hl0 hn) ha0) pt<|mv' lk pt<|?_
 refine E' (Zcw (sc_sl lk (ZkV _)) lk (hga hn rfl) rfl (by omega) (era_leaf _) (hs0 hn)) pt ?_
 refine mv' lk pt<|sn'<|Zaa<|Zag rz<|?_
 exact ⟨0+1,by simp [hn],by simp⟩
theorem Zl4 {s:Src}{nm:ByteArray}:(ZbT s nm).1.2.length≤8:=by
 by_cases h:(ZbT s nm).2=0
 ·obtain ⟨h1,h2,_⟩:=Zne h
  exact (Zc0 (Zfu h1)).2.2.2.1 _ h2
 rw [ZoC h];simp [zonO]
theorem Zqr {a:List Rul}{z:List Zon}{k:List Lnk}{nm:ByteArray}{h:AH}(hok:Zeb (a,z,k)):Ac 16 [.agg (srcB a z k),sv nm] h (.tup [.agg (zonC (ZbT (a,z,k) nm).1),iv (ZbT (a,z,k) nm).2]):=by
 have hfl:=Zl4 (s:=(a,z,k)) (nm:=nm)
 refine tW' k16 fun N hn hlt hlA hbd=>?_
 simp only [tb'] at hbd ⊢
 refine wr'<|E' (Zbi (cvl lk rfl) rfl (hl0 hn) ha0) pt<|E' (Za6 (hl1 hn) ha1) pt<|mv' lki pt<|sn'<|wr'<|V' (Zap lk (hga hn rfl) ZfA rfl) pt<|mv' lk pt<|Zae mp (Zr5 hok) pt<|mv' lk pt<|V' (Za7 lk gt) pt<|?_
 refine V' (Za7 lk gt) pt<|E' (Za6 (hl2 hn) ha2) pt<|E' (Zal lk (cvl lk rfl) (hga hn rfl) rfl (nb' rfl) rfl ZdI (hs2 hn)) ptn<|mv' lk pt<|sn'<|wr'<|V' (Zac lk) pt<|V' (Zab lk (hga hn rfl) gt1) pt<|?_
 refine s_calla mp (cloneE_a (by omega)) (hl3 hn) (fun _=>ha3) (fun _=>pt) (fun va15=>?_)
 refine V' (Zac lk) pt<|E' (Zal lk (cvl lk rfl) (hga hn rfl) rfl (nb' rfl) rfl ZpN (hs2 hn)) ptn<|Zaq<|?_
 refine Za8 (ALe.iceCellR (hga hn rfl) (hga hn rfl) (by omega) gt1 (List.take_of_length_le (by rw [Zbd ZbG];first | exact Nat.le_refl _ | omega)) (by rw [Zbd ZbG];first | exact Nat.le_refl _ | omega) pt1 (hs3 hn) (hs2 hn)) ?_
 refine wr'<|V' (Zap lk (hga hn rfl) ZdH rfl) pt<|mv' lk pt<|E' (Zal lk (cvl lk rfl) (hga hn rfl) rfl (nb' rfl) rfl ZdI (hs1 hn)) ptn<|mv' lk pt<|sn'<|Zaa<|Zag (rsn (rm1 (rr_c gt (hga hn rfl) (ld1 ZdH rfl)) (rm1 (rr_t gt) rm0)))<|rtW'<|?_
 exact Wk.tup (wkw (Wk.agg (wk1 rfl (wkw Wk.full wk0))) (wk1 rfl wk0))
theorem wk_nil2 {e:AV}{c:Int→List AV}{st:Nat}:Wk (.tup [.sl 0 0 true [],e]) (.tup [.sl ([]:List Int).length st false (rows c []),e]):=Wk.tup (wkw Wk.nilF (wk1 rfl wk0))
theorem Zqs {a:List Rul}{z:List Zon}{k:List Lnk}{nm:ByteArray}{h:AH}(hok:Zeb (a,z,k)):Ac 17 [.agg (srcB a z k),sv nm] h (.tup [.sl (ZaO (ZbT (a,z,k) nm).1.2).length 1 false (rows intC (ZaO (ZbT (a,z,k) nm).1.2)),iv (ZbT (a,z,k) nm).2]):=by
 refine tW' k17 fun N hn hlt hlA hbd=>?_
 simp only [tb'] at hbd ⊢
 refine wr'<|E' (Zbi (cvl lk rfl) rfl (hl0 hn) ha0) pt<|mv' lkn pt<|mv' lki pt<|sn'<|wr'<|V' (Zap lk (hga hn rfl) ZfA rfl) pt<|mv' lk pt<|Zae mp (Zr5 hok) pt<|mv' lk pt<|V' (Za7 lk gt) pt<|?_
 refine V' (Za7 lk gt) pt<|E' (Za6 (hl1 hn) ha1) pt<|E' (Zal lk (cvl lk rfl) (hga hn rfl) rfl (nb' rfl) rfl ZdI (hs1 hn)) ptn<|mv' lk pt<|sn'<|Zah<|wr'<|mv' lk pt<|V' (Za5 lk lki) pt<|sn'<|?_
 refine cd' lk (fun hc1=>?_) (fun hc1=>?_)
 ·have hb:=ZoC hc1
  refine wr'<|mv' lk pt<|mv' lkn pt<|mv' lk pt<|sn'<|Zaa<|Zaj<|Zag ry<|rtW'<|?_
  rw [hb];exact wk_nil2
 obtain ⟨hz0,hm,_⟩:=Zne (Decidable.of_not_not hc1)
 refine Zad<|Zaf<|wr'<|V' (Zap lk (hga hn rfl) ZdH rfl) pt<|Zae mp (Zr9 (Zdd (Zfu hz0) hm)) pt<|mv' lk pt<|mv' lki pt<|sn'<|Zaa<|Zag ry<|rtW'<|?_
 rw [show (ZbT (a,z,k) nm).2=0 from Decidable.of_not_not hc1];exact Wk.refl _
theorem Zrr : ∀ {l:List Trn}{sh sa:Int}{t:Tim},t∈outV sh sa l→(0≤sa∧sa≤10800)→(∀ u∈l,Zbo u.2=0) → ∃ u∈l,∃ sa',(0≤sa'∧sa'≤10800)∧t=timV sh sa' u
 | u::l,sh,sa,t,ht,hs,hr=>by
  rw [outV] at ht
  rcases List.mem_cons.1 ht with rfl | ht
  ·exact ⟨u,by simp,sa,hs,rfl⟩
  have h8:=(ZbR (hr u (by simp))).2.2.2.2.2.2.2
  obtain ⟨v,hv,sa',h1,h2⟩:=Zrr ht h8 fun x hx=>hr x (by simp [hx])
  exact ⟨v,by simp [hv],sa',h1,h2⟩
theorem ruleE_lt {r:Rul}(h:Zbo r=0):(rLt r).size≤24:=by
 unfold Zbo at h
 split at h
 ·cases h
 rename_i h1
 have:=(Decidable.of_not_not h1).2
 unfold ZcA at this
 simp only [Bool.and_eq_true,decide_eq_true_eq] at this
 exact this.1
theorem Zlq {l:List Rul}{nm:ByteArray}{sh:Int}{t:Tim}(ht:t∈(Zba l nm sh).1):(-2600000000≤t.1∧t.1≤4330172800)∧(0≤t.2.1∧t.2.1≤10800)∧t.2.2.size≤24:=by
 unfold Zba at ht
 split at ht
 ·cases ht
 rename_i h1
 split at ht
 ·cases ht
 split at ht
 ·cases ht
 obtain ⟨g1,g2,g3,_⟩:=Zgn (Decidable.of_not_not h1)
 have hm : ∀ u∈srtT (Zbh l nm),Zbo u.2=0 ∧ -2592000000≤u.1∧u.1≤4320172800:=fun u hu=>ZhM g2 ((Zkt _).mem_iff.1 hu)
 obtain ⟨u,hu,sa',hs,rfl⟩:=Zrr ht (by omega) fun u hu=>(hm u hu).1
 obtain ⟨hr,hb1,hb2⟩:=hm u hu
 have ho:=Zrv (r:=u.2) g3 hs
 obtain ⟨_,_,_,_,_,_,_,h8⟩:=ZbR hr
 exact ⟨⟨by show -2600000000≤u.1-offV u.2 sh sa';omega,by show u.1-offV u.2 sh sa'≤4330172800;omega⟩,h8,ruleE_lt hr⟩
theorem Zh2 {l:List Rul}{nm:ByteArray}{sh:Int}:(Zba l nm sh).1.length≤1000:=by
 unfold Zba
 split
 ·simp
 split
 ·simp
 split
 ·simp
 rw [Zd4,srt_len];omega
theorem Zrq : ∀ {l:List Trn}{sh sa:Int},(-64800≤sh∧sh≤64800)→(0≤sa∧sa≤10800)→(∀ u∈l,Zbo u.2=0)→gapB l=false→(outV sh sa l).Pairwise fun a b=>a.1<b.1
 | [],_,_,_,_,_,_=>.nil
 | [u],_,_,_,_,_,_=>by simp [outV]
 | u::v::l,sh,sa,h1,h2,hr,hg=>by
  rw [Zgp,Bool.or_eq_false_iff] at hg
  have hu8:=(ZbR (hr u (by simp))).2.2.2.2.2.2.2
  have ih:=Zrq (l:=v::l) (sh:=sh) (sa:=rSv u.2) h1 hu8 (fun x hx=>hr x (by simp [hx])) hg.2
  rw [outV,List.pairwise_cons]
  refine ⟨fun t ht=>?_,ih⟩
  have hgap:172800≤v.1-u.1:=by have:=hg.1;simp only [decide_eq_false_iff_not] at this;omega
  have hfirst:(timV sh sa u).1<(timV sh (rSv u.2) v).1:=by
   show u.1-offV u.2 sh sa<v.1-offV v.2 sh (rSv u.2)
   unfold offV
   split <;> split <;> (try split) <;> (try split) <;> omega
  rw [outV] at ht
  rcases List.mem_cons.1 ht with rfl | ht
  ·exact hfirst
  rw [outV,List.pairwise_cons] at ih
  have:=ih.1 t ht
  omega
theorem ZqJ {l:List Rul}{nm:ByteArray}{sh:Int}:(Zba l nm sh).1.Pairwise fun a b=>a.1<b.1:=by
 unfold Zba
 split
 ·exact .nil
 rename_i h1
 split
 ·exact .nil
 rename_i h2
 split
 ·exact .nil
 obtain ⟨g1,g2,g3,_⟩:=Zgn (Decidable.of_not_not h1)
 exact Zrq g3 (by omega) (fun u hu=>(ZhM g2 ((Zkt _).mem_iff.1 hu)).1) (by simpa using h2)
theorem risT_all (rl:List Rul) (x:Era):risT rl x:=by
 unfold risT Za3
 split
 ·exact .nil
 exact ZqJ
theorem Zji {rl:List Rul}{x:Era}{t:Tim}(ht:t∈Za3 rl x):(-2600000000≤t.1∧t.1≤4330172800)∧(0≤t.2.1∧t.2.1≤10800)∧t.2.2.size≤24:=by
 unfold Za3 at ht
 split at ht
 ·cases ht
 exact Zlq ht
theorem Zfl {rl:List Rul}{x:Era}:(Za3 rl x).length≤1000:=by
 unfold Za3
 split
 ·simp
 exact Zh2
theorem Ziv {fm:ByteArray}(h:ZbF fm=true):fm.size≤24:=by
 unfold ZbF at h
 split at h
 ·cases h
 rename_i h1;omega
end Go.Proofs.YthdifaphoaekoaaGreatDoor
end
section
namespace Go.Proofs.YthdifaphoaekoaaGreatDoor
open Go.Ab Go.RowKit Civ
attribute [local simp] Zby ZbO ZbD ZbK Zd6 Zd5 ZeR
section
theorem Zfz {a0 a1 a2 a3 a4 a5 a6 a7 a8 a9:AV}{l:List AV}:(a0::a1::a2::a3::a4::a5::a6::a7::a8::a9::l).take 10=[a0,a1,a2,a3,a4,a5,a6,a7,a8,a9]:=rfl
theorem ZnD {τ:Operand→AV}{y0:Operand}{x0_0:AV}(h0:Zax (τ y0)=some [x0_0]) (l0:[x0_0].all leaf=true):Zau τ [(1,1,y0)] [(.v (.int .i64 0)),(.v (.int .i64 0)),(.v (.string ⟨#[]⟩))]=some [(.v (.int .i64 0)),x0_0,(.v (.string ⟨#[]⟩))]:=by
 simp only [Zau,h0,l0]
 rfl
theorem ZnC {τ:Operand→AV}{y0 y1:Operand}{x0_0 x1_0 x1_1 x1_2:AV}(h0:Zax (τ y0)=some [x0_0]) (l0:[x0_0].all leaf=true) (h1:Zax (τ y1)=some [x1_0,x1_1,x1_2]) (l1:[x1_0,x1_1,x1_2].all leaf=true):Zau τ [(0,1,y0),(1,3,y1)] [(.v (.int .i64 0)),(.v (.int .i64 0)),(.v (.int .i64 0)),(.v (.string ⟨#[]⟩))]=some [x0_0,x1_0,x1_1,x1_2]:=by
 simp only [Zau,h0,l0,h1,l1]
 rfl
theorem ZnB {τ:Operand→AV}{y0:Operand}{x0_0 x0_1 x0_2 x0_3:AV}(h0:Zax (τ y0)=some [x0_0,x0_1,x0_2,x0_3]) (l0:[x0_0,x0_1,x0_2,x0_3].all leaf=true):Zau τ [(0,4,y0)] [(.v (.int .i64 0)),(.v (.int .i64 0)),(.v (.int .i64 0)),(.v (.string ⟨#[]⟩))]=some [x0_0,x0_1,x0_2,x0_3]:=by
 simp only [Zau,h0,l0]
 rfl
theorem ZnA {τ:Operand→AV}:Zau τ [] [(.v (.int .i64 0)),(.v (.int .i64 0)),(.v (.string ⟨#[]⟩))]=some [(.v (.int .i64 0)),(.v (.int .i64 0)),(.v (.string ⟨#[]⟩))]:=rfl
theorem Znz {τ:Operand→AV}{y0 y1:Operand}{x0_0 x1_0 x1_1 x1_2:AV}(h0:Zax (τ y0)=some [x0_0]) (l0:[x0_0].all leaf=true) (h1:Zax (τ y1)=some [x1_0,x1_1,x1_2]) (l1:[x1_0,x1_1,x1_2].all leaf=true):Zau τ [(0,1,y0),(1,3,y1)] [(.v (.int .i64 0)),(.v (.int .i64 0)),(.v (.int .i64 0)),(.v (.string ⟨#[]⟩))]=some [x0_0,x1_0,x1_1,x1_2]:=by
 simp only [Zau,h0,l0,h1,l1]
 rfl
theorem Zny {τ:Operand→AV}{y0:Operand}{x0_0 x0_1 x0_2 x0_3:AV}(h0:Zax (τ y0)=some [x0_0,x0_1,x0_2,x0_3]) (l0:[x0_0,x0_1,x0_2,x0_3].all leaf=true):Zau τ [(0,4,y0)] [(.v (.int .i64 0)),(.v (.int .i64 0)),(.v (.int .i64 0)),(.v (.string ⟨#[]⟩))]=some [x0_0,x0_1,x0_2,x0_3]:=by
 simp only [Zau,h0,l0]
 rfl
theorem ZgF {a0 a1 a2:AV}{l:List AV}:(a0::a1::a2::l).take 3=[a0,a1,a2]:=rfl
theorem Zeq {a0 a1 a2 c0 c1 c2:AV}{l:List AV}:setCells (a0::a1::a2::l) 0 [c0,c1,c2]=c0::c1::c2::l:=rfl
theorem Zdf {a0 a1 a2:AV}{l:List AV}:((a0::a1::a2::l).drop 0).take 3=[a0,a1,a2]:=rfl
theorem Znx {τ:Operand→AV}{y0 y1:Operand}{x0_0 x1_0 x1_1 x1_2:AV}(h0:Zax (τ y0)=some [x0_0]) (l0:[x0_0].all leaf=true) (h1:Zax (τ y1)=some [x1_0,x1_1,x1_2]) (l1:[x1_0,x1_1,x1_2].all leaf=true):Zau τ [(0,1,y0),(1,3,y1)] [(.v (.int .i64 0)),(.v (.int .i64 0)),(.v (.int .i64 0)),(.v (.string ⟨#[]⟩))]=some [x0_0,x1_0,x1_1,x1_2]:=by
 simp only [Zau,h0,l0,h1,l1]
 rfl
theorem ZsE { e:Ent}:([]:AH)++[e]=[e]:=rfl
theorem ZpL {e0 e1 e2 e3 d0:Ent}:([e0,e1,e2,e3]:AH)++[d0]=[e0,e1,e2,e3,d0]:=rfl
theorem ZpJ {a0 a1 a2 a3 c0 c1 c2 c3:AV}{l:List AV}:setCells (a0::a1::a2::a3::l) 0 [c0,c1,c2,c3]=c0::c1::c2::c3::l:=rfl
theorem Zj1 {a0 a1 a2 a3:AV}{l:List AV}:((a0::a1::a2::a3::l).drop 0).take 4=[a0,a1,a2,a3]:=rfl
theorem Znw {τ:Operand→AV}{y0:Operand}{x0_0 x0_1 x0_2 x0_3:AV}(h0:Zax (τ y0)=some [x0_0,x0_1,x0_2,x0_3]) (l0:[x0_0,x0_1,x0_2,x0_3].all leaf=true):Zau τ [(0,4,y0)] [(.v (.int .i64 0)),(.v (.int .i64 0)),(.v (.int .i64 0)),(.v (.string ⟨#[]⟩))]=some [x0_0,x0_1,x0_2,x0_3]:=by
 simp only [Zau,h0,l0]
 rfl
theorem ZsC {a0 a1 a2 a3:AV}{l:List AV}:(a0::a1::a2::a3::l).take 4=[a0,a1,a2,a3]:=rfl
theorem ZsD {a0 a1:AV}{l:List AV}:(a0::a1::l).take 2=[a0,a1]:=rfl
theorem Znv {a0 a1 a2 a3 a4 a5 a6 a7 a8 a9 c0 c1 c2 c3 c4 c5 c6 c7 c8 c9:AV}{l:List AV}:setCells (a0::a1::a2::a3::a4::a5::a6::a7::a8::a9::l) 0 [c0,c1,c2,c3,c4,c5,c6,c7,c8,c9]=c0::c1::c2::c3::c4::c5::c6::c7::c8::c9::l:=rfl
theorem ZiM {a0 a1 a2 a3 a4 a5 a6 a7 a8 a9:AV}{l:List AV}:((a0::a1::a2::a3::a4::a5::a6::a7::a8::a9::l).drop 0).take 10=[a0,a1,a2,a3,a4,a5,a6,a7,a8,a9]:=rfl
theorem ZpK {a0 a1 c0 c1:AV}{l:List AV}:setCells (a0::a1::l) 0 [c0,c1]=c0::c1::l:=rfl
theorem ZpM {τ:Operand→AV}:Zau τ [] [(.v (.int .i64 0)),(.v (.int .i64 0)),(.v (.string ⟨#[]⟩))]=some [(.v (.int .i64 0)),(.v (.int .i64 0)),(.v (.string ⟨#[]⟩))]:=rfl
theorem Zj2 {τ:Operand→AV}:Zau τ [] [(.v (.int .i64 0)),(.v (.int .i64 0)),(.v (.string ⟨#[]⟩))]=some [(.v (.int .i64 0)),(.v (.int .i64 0)),(.v (.string ⟨#[]⟩))]:=rfl
theorem ZpI {a0 a1:AV}{l:List AV}:((a0::a1::l).drop 0).take 2=[a0,a1]:=rfl
end
def c105:AC:=(Sr [Oo 3 (.box 26 3 (.tmp 0)),Oo 4 (.box 67 10 (.tmp 1)),Oo 6 (.mv (.const (.slice none 0 0)))] (.seq (Sr [Fa 13 1 4,Ld 14 13,Oo 15 (.bin .eql (.tmp 14) (.const (.string ⟨#[]⟩)))] (Cd 15 (Sr [Mv 16 2,Oo 17 (.load true 10 (.tmp 4)),Fa 18 2 4,Ld 19 18,Oo 20 (.build [(iv 0),(iv 0),Ss] [(1,(1,(.tmp 19)))]),Cl 21 146 [(.tmp 17),(.tmp 20)],Oo 22 (.build [(iv 0),(iv 0),(iv 0),Ss] [(0,(1,(.tmp 16))),(1,(3,(.tmp 21)))]),Oo 23 (.lit 100 4 1 [(iv 0),(iv 0),(iv 0),Ss] [(0,(4,(.tmp 22)))]),Mv 6 23] .ret) .skip)) (Sr [Fa 25 0 3,Ld 26 25,Fa 27 1 4,Ld 28 27,Fa 29 0 4,Ld 30 29,Cl 31 28 [(.tmp 26),(.tmp 28),(.tmp 30)],Mv 24 31,Ex 32 24 0,Ex 33 24 1,Mv 7 32,Mv 8 33] (Sr [Mv 34 2,Oo 35 (.load true 10 (.tmp 4)),Oo 36 (.build [(iv 0),(iv 0),Ss] []),Cl 37 146 [(.tmp 35),(.tmp 36)],Oo 38 (.build [(iv 0),(iv 0),(iv 0),Ss] [(0,(1,(.tmp 34))),(1,(3,(.tmp 37)))]),Oo 39 (.lit 100 4 1 [(iv 0),(iv 0),(iv 0),Ss] [(0,(4,(.tmp 38)))]),Mv 9 39] (.seq (Sr [Mv 40 7,Oo 41 (.len false (.tmp 40)),Mc 42 0] (.block 0 (.loop (Sr [Bn 43 .lss 42 41] (.seq (Cd 43 .skip (.exit 0)) (.seq (.block 1 (Sr [Oo 44 (.ia 3 (.tmp 40) (.tmp 42)),Oo 45 (.load true 3 (.tmp 44)),Oo 11 (.new 72 3 [(iv 0),(iv 0),Ss]),⟨none,none,(.store 3 (.tmp 11) (.tmp 45))⟩] (.seq (.drw [Mv 46 2,Fa 47 0 11,Ld 48 47,Oo 49 (.mm true (.tmp 46) (.tmp 48)),Oo 50 (.load true 10 (.tmp 4)),Oo 51 (.load true 3 (.tmp 11)),Cl 52 146 [(.tmp 50),(.tmp 51)],Oo 53 (.build [(iv 0),(iv 0),(iv 0),Ss] [(0,(1,(.tmp 49))),(1,(3,(.tmp 52)))]),Oo 12 (.new 100 4 [(iv 0),(iv 0),(iv 0),Ss])] [false] [⟨none,none,(.store 4 (.tmp 12) (.tmp 53))⟩]) (Sr [Fa 54 0 11,Ld 55 54,Mv 56 2,Bn 57 .leq 55 56] (Cd 57 (.reg [Mv 58 9,Oo 59 (.load true 4 (.tmp 12)),Oo 60 (.ia 4 (.tmp 58) (Ci 0)),⟨none,none,(.store 4 (.tmp 60) (.tmp 59))⟩]) (.reg [Mv 61 9,Oo 62 (.load true 4 (.tmp 12)),Oo 63 (.lit 100 4 1 [(iv 0),(iv 0),(iv 0),Ss] [(0,(4,(.tmp 62)))]),Oo 64 (.app 100 4 40 (.tmp 61) (.tmp 63)),Mv 9 64])))))) (.reg [Bc 65 .add 42 1,Mv 42 65]))))))) (Sr [Mv 66 9,Mv 6 66] .ret))))))
theorem k105:ZaD Tryz.prog 105=some ⟨c105,[(.tmp 6)],67⟩:=by kernel_rfl
def c53:AC:=(Sr [Oo 3 (.box 26 3 (.tmp 0)),Oo 4 (.box 44 2 (.tmp 1)),Oo 6 (.mv (.const (.slice none 0 0)))] (Sr [Oo 7 (.mv (.const (.slice none 0 0)))] (Sr [Oo 13 (.load true 2 (.tmp 4)),Cl 14 49 [(.tmp 13)],Mv 8 14] (.seq (Sr [Fa 15 1 4,Ld 16 15,Oo 17 (.len false (.tmp 16)),Mc 18 0] (.block 0 (.loop (Sr [Bn 19 .lss 18 17] (.seq (Cd 19 .skip (.exit 0)) (.seq (.block 1 (Sr [Mv 20 18,Oo 21 (.ia 10 (.tmp 16) (.tmp 18)),Oo 22 (.load true 10 (.tmp 21)),Oo 10 (.new 67 10 [(iv 0),Ss,(iv 0),Ss,(.v (.bool false)),(iv 0),(iv 0),(iv 0),(iv 0),(iv 0)]),Mv 9 20,⟨none,none,(.store 10 (.tmp 10) (.tmp 22))⟩] (.seq (Sr [Mv 23 9,Mv 24 8,Oo 25 (.len false (.tmp 24)),Bn 26 .lss 23 25,Mv 27 26,Ot 28 27 (mt 8),Ot 29 27 (mt 9),Ot 30 27 (.ia 1 (.tmp 28) (.tmp 29)),Ot 31 27 (.load false 1 (.tmp 30)),Ot 32 27 (mt 2),Ot 33 27 (.bin .leq (.tmp 31) (.tmp 32)),Oo 34 (.pick (.tmp 27) (.tmp 33) (.const (.bool false)))] (Cd 34 (.exit 1) .skip)) (Sr [Mv 35 2,Mv 11 35] (.seq (Sr [Mv 36 9,Bc 37 .gtr 36 0] (Cd 37 (.reg [Mv 38 2,Mv 39 8,Mv 40 9,Bc 41 .sub 40 1,Oo 42 (.ia 1 (.tmp 39) (.tmp 41)),Ld 43 42,Oo 44 (.mm true (.tmp 38) (.tmp 43)),Mv 11 44]) .skip)) (Sr [Oo 45 (.load true 3 (.tmp 3)),Oo 46 (.load true 10 (.tmp 10)),Mv 47 11,Cl 48 105 [(.tmp 45),(.tmp 46),(.tmp 47)],Mv 12 48] (.seq (Sr [Mv 49 9,Mv 50 8,Oo 51 (.len false (.tmp 50)),Bn 52 .lss 49 51] (Cd 52 (.reg [Mv 53 12,Mv 54 8,Mv 55 9,Oo 56 (.ia 1 (.tmp 54) (.tmp 55)),Ld 57 56,Cl 58 106 [(.tmp 53),(.tmp 57)],Mv 12 58]) .skip)) (.reg [Mv 59 7,Mv 60 12,Oo 61 (.app 100 4 40 (.tmp 59) (.tmp 60)),Mv 7 61])))))))) (.reg [Bc 62 .add 18 1,Mv 18 62]))))))) (Sr [Mv 63 7,Mv 6 63] .ret)))))
theorem k53:ZaD Tryz.prog 53=some ⟨c53,[(.tmp 6)],64⟩:=by kernel_rfl
def c15:AC:=(Sr [Oo 3 (.box 26 3 (.tmp 0)),Oo 6 (.new 31 3 [(iv 0),(iv 0),Ss]),Mc 7 0] (Sr [Oo 11 (.load true 3 (.tmp 3)),Mv 12 1,Cl 13 50 [(.tmp 11),(.tmp 12)],Mv 10 13,Ex 14 10 0,Ex 15 10 1,Oo 8 (.new 44 2 [Ss,(.sl 0 0 true [])]),⟨none,none,(.store 2 (.tmp 8) (.tmp 14))⟩,Mv 9 15] (.seq (Sr [Mv 16 9,Bc 17 .neq 16 0] (Cd 17 (Sr [Oo 18 (.build [(iv 0),(iv 0),Ss] []),Mv 19 9,⟨none,none,(.store 3 (.tmp 6) (.tmp 18))⟩,Mv 7 19] .ret) .skip)) (.seq (Sr [Mv 20 2,Cl 21 51 [],Bn 22 .lss 20 21,Mv 23 22,Of 24 23 (mt 2),Of 25 23 (.call (.func 52) []),Of 26 23 (.bin .gtr (.tmp 24) (.tmp 25)),Oo 27 (.pick (.tmp 23) (.const (.bool true)) (.tmp 26))] (Cd 27 (Sr [Oo 28 (.build [(iv 0),(iv 0),Ss] []),⟨none,none,(.store 3 (.tmp 6) (.tmp 28))⟩,Mc 7 3] .ret) .skip)) (Sr [Oo 29 (.load true 3 (.tmp 3)),Oo 30 (.load true 2 (.tmp 8)),Mv 31 2,Cl 32 53 [(.tmp 29),(.tmp 30),(.tmp 31)],Oo 33 (.ia 4 (.tmp 32) (Ci 0)),Fa 34 1 33,Oo 35 (.load true 3 (.tmp 34)),⟨none,none,(.store 3 (.tmp 6) (.tmp 35))⟩,Mc 7 0] .ret)))))
theorem k15:ZaD Tryz.prog 15=some ⟨c15,[(.cell 6 true 3),(.tmp 7)],36⟩:=by kernel_rfl
structure okX (x:Era):Prop where
 fm:ZbF (xFm x)=true
 sh : -64800≤xSh x∧xSh x≤64800
 sv:0≤xSv x∧xSv x≤10800
 no:xRl x≠⟨#[]⟩→xSv x=0
theorem Zrt {es:List Era}(h:okZ es) {x:Era}(hx:x∈es):okX x:=by
 obtain ⟨h1,h2,h3,h4⟩:=h.fm x hx
 exact ⟨h1,h2,h3,h4⟩
theorem ZkW {x:Era}{b:Int}(ts:List Tim):(eraG x b ts).length≤ts.length+1:=by
 unfold eraG
 rw [List.length_cons,List.length_map]
 have:=List.length_filter_le (fun t:Tim=>decide (b<t.1)) ts
 omega
theorem ZoG {x:Era}{b:Int}:eraG x b []=[(b,locV x (xSv x) ⟨#[]⟩)]:=rfl
theorem eraG_set {x:Era}{b:Int}{ts:List Tim}{t:Tim}(h:t.1≤b):eraG x b (ts++[t])=(eraG x b ts).set 0 (b,locV x t.2.1 t.2.2):=by
 rw [eraG_low h];rfl
theorem eraG_pos {x:Era}{b:Int}{ts:List Tim}:0<(eraG x b ts).length:=by unfold eraG;simp
theorem era_z {a:List Rul}{z:List Zon}{k:List Lnk}{x:Era}{b:Int}{h:AH}(hok:okRs a) (ha:a.length≤9223372036854775807) (hx:okX x) (hb : -9000000000000000000≤b∧b≤9000000000000000000) :
  ACalls Tryz.prog 105 [.agg (srcB a z k),.agg (eraC x),iv b] h fun y h'=>h'=h∧y=.ret (.sl (eraG x b (Za3 a x)).length 4 false (rows chgC (eraG x b (Za3 a x)))):=by
 obtain ⟨hx1,hx2,hx3,hx4⟩:=hx
 have hfl:=Ziv hx1
 refine tW' k105 fun N hn hlt hlA hbd=>?_
 simp only [tb'] at hbd ⊢
 refine wr'<|E' (Zbi (cvl lk rfl) rfl (hl0 hn) ha0) pt<|E' (Zbi (cvl lk rfl) rfl (hl1 hn) ha1) pt<|mv' lkn pt<|Zaq<|?_
 refine Za8 (ALe.trans (ALe.icePtr (hga hn rfl) gt3 (by simp) pt3 (hs0 hn)) (ALe.icePtr (hga hn rfl) gt4 (by simp) pt4 (hs1 hn))) ?_
 refine Zah<|wr'<|V' (ZaS lk dp1) pt<|V' (Zar lk gt) pt<|V' (Zci lk lks) pt<|sn'<|?_
 refine cd' lk (fun hc1=>?_) (fun hc1=>?_)
 ·have hT:Za3 a x=[]:=if_pos hc1
  refine wr'<|mv' lk pt<|V' (ZaF lk Zfz rfl) pt<|V' (ZaS lk dp2) pt<|V' (Zar lk gt) pt<|V' (ZaA (ZnD (cvl lk rfl) rfl)) pt<|?_
  refine Zae mp (Zm2 (x:=x) (t:=(0,xSv x,⟨#[]⟩)) hfl (show (0:Nat)≤24 by decide) hx2 hx3) pt ?_
  refine V' (ZaA (ZnC (cvl lk16 rfl) rfl (cvl lk21 rfl) rfl)) pt22<|E' (Zda (ZnB (cvl lk22 rfl) rfl) (hl2 hn) ha2) pt23<|mv' lk23 pt6<|Zaq<|Za8 (ALe.iceR (hga hn rfl) gt6 rfl (nb' rfl) pt6 (hs2 hn))<|Zaa<|Zaj<|Zag (rs1 (rr_t gt6))<|rtW'<|?_
  rw [hT,ZoG];exact Wk.full
 have hT:Za3 a x=(Zba a x.2.1 x.1).1:=if_neg hc1
 have hsv0:xSv x=0:=hx4 hc1
 have hTl:(Zba a x.2.1 x.1).1.length≤1000:=Zh2
 refine Zad<|Zaf<|wr'<|V' (ZaS lk dp0) pt<|V' (Zar lk gt) pt<|V' (ZaS lk dp1) pt<|V' (Zar lk gt) pt<|V' (ZaS lk dp0) pt<|V' (Zar lk gt) pt<|Zae mp (ZqK hok ha) pt<|mv' lk pt<|V' (Za7 lk gt) pt<|V' (Za7 lk gt) pt<|?_
 refine mv' lk pt<|mv' lk pt<|sn'<|wr'<|mv' lk pt<|V' (ZaF lk Zfz rfl) pt<|V' (ZaA ZnA) pt<|?_
 refine Zae mp (Zm2 (x:=x) (t:=(0,0,⟨#[]⟩)) hfl (by decide) hx2 (by decide)) pt ?_
 refine V' (ZaA (Znz (cvl lk rfl) rfl (cvl lk rfl) rfl)) pt<|E' (Zda (Zny (cvl lk rfl) rfl) (hl2 hn) ha2) pt<|mv' lk pt<|sn'<|Zah<|wr'<|mv' lk pt<|V' (ZaI lk) pt<|mv' lki pt<|sn'<|Zan<|?_
 refine Ze0 (ι:=Nat×Nat) (fun (x_:Nat×Nat)=>match x_ with | ⟨i,v⟩=>[(9,.own (N+2) v (eraG x b ((Zba a x.2.1 x.1).1.take i)).length),(42,iv (i:Int)),(11,.any),(12,.any)]++rn' 43 23) (fun (x_:Nat×Nat)=>match x_ with | ⟨i,v⟩=>[(2,.mk v 100 4 (rows chgC (eraG x b ((Zba a x.2.1 x.1).1.take i))))]) (fun (x_:Nat×Nat)=>match x_ with | ⟨i,v⟩=>i≤(Zba a x.2.1 x.1).1.length) (fun (x_:Nat×Nat)=>match x_ with | ⟨i,v⟩=>(Zba a x.2.1 x.1).1.length-i) (⟨0,0⟩) (by exact Nat.zero_le _) (by try simp only [sm',Nat.reduceAdd];exact ALe.same wA' (by rw [List.take_zero,ZoG,hsv0];rfl)) ?_
 rintro ⟨i,v⟩ hi1
 try simp only [sm',Nat.reduceAdd]
 replace hi1:i≤(Zba a x.2.1 x.1).1.length:=hi1
 refine wr'<|V' (ZaZ lk lk) pt<|sn'<|Zah<|?_
 refine cd' lk (fun hc2=>?_) (fun hc2=>?_)
 ·have hi:i<(Zba a x.2.1 x.1).1.length:=by omega
  obtain ⟨hm1,hm2,hm3⟩:=Zlq (List.getElem_mem hi)
  have hel:=ZkW (x:=x) (b:=b) ((Zba a x.2.1 x.1).1.take i)
  rw [List.length_take] at hel
  have htk:=List.take_succ_eq_append_getElem hi
  refine Zad<|Zaf<|Zah<|Zan<|wr'<|?_
  refine V' (ZaJ lk lk Zd0 (nb' rfl) ro (by omega) ro rfl) pt ?_
  refine V' (ZaF lk ZgF rfl) pt<|E' (Za6 (hl3 hn) ha3) pt<|E' (Zal lk (cvl lk rfl) (hga hn rfl) rfl (nb' rfl) rfl Zeq (hs3 hn)) ptn<|sn'<|Zah<|Zbf<|D' (v_mv lk) pt<|D' (Zac lk) pt<|D' (Zab lk (hga hn rfl) gt0) pt<|D' (v_mm lk lk) pt<|D' (ZaF lk Zfz rfl) pt<|D' (Zap lk (hga hn rfl) Zdf rfl) pt<|?_
  refine Za2 mp (fun hE hX=>Zm2 (x:=x) (t:=(Zba a x.2.1 x.1).1[i]) hfl hm3 hx2 hm2) pt ?_
  refine D' (ZaA (Znx (cvl lk rfl) rfl (cvl lk rfl) rfl)) pt<|Zha rfl rfl (hlk hn rfl) (l_new) pt ZsE<|Zbj<|?_
  refine ZhG ZpL ?_
  refine E' (Zal lk (cvl lk rfl) (hga hn rfl) rfl (nb' rfl) rfl ZpJ (hs4 hn)) ptn<|sn'<|wr'<|V' (Zac lk) pt<|V' (Zab lk (hga hn rfl) gt0) pt<|mv' lk pt<|V' (Zc5 lk lk) pt<|sn'<|?_
  refine cd' lk (fun hc3=>?_) (fun hc3=>?_)
  ·have hmx:(if (Zba a x.2.1 x.1).1[i].1>b then (Zba a x.2.1 x.1).1[i].1 else b)=b:=if_neg (by omega)
   simp only [cond_true,hmx]
   have hE:=eraG_set (x:=x) (ts:=(Zba a x.2.1 x.1).1.take i) hc3
   have hep:=eraG_pos (x:=x) (b:=b) (ts:=(Zba a x.2.1 x.1).1.take i)
   rw [←htk] at hE
   refine Zat<|mv' lk pt<|V' (Zap lk (hga hn rfl) Zj1 rfl) pt<|?_
   refine V' (Zcb (k:=0) lk lki (hga hn rfl) Zft (nb' rfl) ro (by omega) (by first | rfl | (simp;done) | omega)) pt ?_
   refine E' (Zsa (z:=(b,locV x (Zba a x.2.1 x.1).1[i].2.1 (Zba a x.2.1 x.1).1[i].2.2)) lk (cvl lk rfl) (hga hn rfl) Zft rfl (by omega) (hs2 hn)) ptn ?_
   refine Zaq<|Zay<|Zaf<|Zat<|?_
   refine V' (Zav lk lki (by omega) (by omega)) pt ?_
   refine mv' lk pt<|Zaq<|ZaB<|?_
   refine lU' (⟨i+1,v⟩) (by (try dsimp only);omega) (by (try dsimp only);(try simp only [sm',Nat.reduceAdd]);exact bkE' 3 hn hlt (by repeat (first | exact wk0 | refine wka ?_ | refine wk1 rfl ?_ | refine wk1 (by first | rfl | exact ivx (by omega) | (rw [hE,List.length_set];done) | (rw [hE,List.length_append];rfl) | (rw [hE,List.length_set])) ?_)) (by rw [hE];rfl) (hT:=by simp [AV.lt,AV.ltL,Ent.lt]) (hE:=by simp [AV.lt,AV.ltL,Ent.lt]))
  have hmx:(if (Zba a x.2.1 x.1).1[i].1>b then (Zba a x.2.1 x.1).1[i].1 else b)=(Zba a x.2.1 x.1).1[i].1:=if_pos (by omega)
  simp only [cond_true,hmx]
  have hE:=Zr8 (x:=x) (ts:=(Zba a x.2.1 x.1).1.take i) hc3
  rw [←htk] at hE
  refine Zat<|mv' lk pt<|V' (Zap lk (hga hn rfl) Zj1 rfl) pt<|E' (Zda (Znw (cvl lk rfl) rfl) (hl5 hn) ha5) pt<|?_
  refine E' (Zcw (ZbI lk (hga hn rfl) rfl ZsC (nb' rfl)) lk (hga hn rfl) (ZeK _) (by omega) rfl (hs2 hn)) pt ?_
  refine mv' lk pt<|Zaq<|Zay<|Zaf<|Zat<|?_
  refine V' (Zav lk lki (by omega) (by omega)) pt ?_
  refine mv' lk pt<|Zaq<|ZaB<|?_
  refine lU' (⟨i+1,v+1⟩) (by (try dsimp only);omega) (by (try dsimp only);(try simp only [sm',Nat.reduceAdd]);exact bkE' 3 hn hlt (by repeat (first | exact wk0 | refine wka ?_ | refine wk1 rfl ?_ | refine wk1 (by first | rfl | exact ivx (by omega) | (rw [hE,List.length_set];done) | (rw [hE,List.length_append];rfl) | (rw [hE,List.length_set])) ?_)) (by rw [hE,ZaU,Zbc];rfl) (hT:=by simp [AV.lt,AV.ltL,Ent.lt]) (hE:=by simp [AV.lt,AV.ltL,Ent.lt]))
 refine ZaE<|Zaz<|Zaz<|ZaX<|?_
 refine Za8 (ALe.iceR (hga hn rfl) gt9 (List.take_of_length_le (by rw [ZeK];exact Nat.le_refl _)) (by rw [ZeK];exact Nat.le_refl _) pt9 (hs2 hn)) ?_
 refine wr'<|mv' lk pt<|mv' lk pt<|sn'<|Zaa<|Zag rz<|rtW'<|?_
 rw [hT,List.take_of_length_le (by omega)];exact Wk.full
def Zey (es:List Era):Nat→Option Int
 | 0=>none
 | j+1=>(es[j]?).map endV
theorem Zfo {es:List Era}{i:Nat}(h:i<es.length):Zey es (i+1)=some (endV es[i]):=by
 show (es[i]?).map endV=_
 rw [List.getElem?_eq_getElem h];rfl
theorem Zpd {rl:List Rul}{f:Int}{es:List Era}{prev:Option Int}{i:Nat}(h:i<es.length) (hl:es.length≤i+1):Zcd rl f prev (es.drop i)=eraG es[i] (Zco prev f) (Za3 rl es[i]):=by
 rw [List.drop_eq_getElem_cons h,List.drop_of_length_le hl];rfl
theorem Zpc {rl:List Rul}{f:Int}{es:List Era}{prev:Option Int}{i:Nat}(h:i+1<es.length) (hc:endV es[i]≤f):Zcd rl f prev (es.drop i)=Zcd rl f (Zey es (i+1)) (es.drop (i+1)):=by
 rw [Zfo (by omega),List.drop_eq_getElem_cons (show i<es.length by omega),List.drop_eq_getElem_cons h,Zcd,if_pos hc,List.nil_append]
theorem Zpb {rl:List Rul}{f:Int}{es:List Era}{prev:Option Int}{i:Nat}(h:i+1<es.length) (hc:¬endV es[i]≤f):Zcd rl f prev (es.drop i)=cutV (eraG es[i] (Zco prev f) (Za3 rl es[i])) (endV es[i])++Zcd rl f (Zey es (i+1)) (es.drop (i+1)):=by
 rw [Zfo (by omega),List.drop_eq_getElem_cons (show i<es.length by omega),List.drop_eq_getElem_cons h,Zcd,if_neg hc]
theorem cutV_len (l:List Chg) (e:Int):(cutV l e).length≤l.length:=(List.takeWhile_sublist _).length_le
theorem Zni {es:List Era}(hz:okZ es) {i:Nat}(h:i+1<es.length) : -100000000000≤endV es[i]∧endV es[i]≤300000000000:=by
 obtain ⟨h1,h2,h3⟩:=hz.un i (by omega) h
 exact endV_bd h1 ⟨h2,h3⟩ (hz.fm _ (List.getElem_mem _)).2.1
theorem parts_a {a:List Rul}{z:List Zon}{k:List Lnk}{nm:ByteArray}{es:List Era}{f:Int}{h:AH}(hok:okRs a) (ha:a.length≤9223372036854775807) (hz:okZ es) (hf : -1000000000000≤f∧f≤1000000000000) :
  ACalls Tryz.prog 53 [.agg (srcB a z k),.agg [sv nm,.sl es.length 10 false (rows eraC es)],iv f] h fun y h'=>h'=h∧y=.ret (.sl (Zcd a f none es).length 4 false (rows chgC (Zcd a f none es))):=by
 have hel:=ZdD es
 have hlen:=hz.len
 refine tW' k53 fun N hn hlt hlA hbd=>?_
 simp only [tb'] at hbd ⊢
 refine wr'<|E' (Zbi (cvl lk rfl) rfl (hl0 hn) ha0) pt<|E' (Zbi (cvl lk rfl) rfl (hl1 hn) ha1) pt<|mv' lkn pt<|Zaq<|?_
 refine Za8 (ALe.trans (ALe.icePtr (hga hn rfl) gt3 (by simp) pt3 (hs0 hn)) (ALe.icePtr (hga hn rfl) gt4 (by simp) pt4 (hs1 hn))) ?_
 refine wr'<|mv' lkn pt7<|Zaq<|Za8 (ALe.own0' (st':=4) (ty:=100) gt7 (hl2 hn) pt7 ha2)<|wr'<|V' (ZaF lk4 ZsD rfl) pt13<|Zae (mp1 lk13 mp0) (Zr9 hz) pt14<|mv' lk14 pt8<|sn'<|Zah<|Zah<|?_
 refine Zat<|V' (ZaS lk dp1) pt<|V' (Zar lk gt) pt<|V' (ZaI lk) pt<|mv' lki pt<|sn'<|Zan<|?_
 refine w_lp (ι:=Nat×List Chg×Nat) (fun (x_:Nat×List Chg×Nat)=>match x_ with | ⟨i,O,v⟩=>[(7,.own (N+2) v O.length),(18,iv (i:Int))]++rn' 9 4++rn' 19 44) (fun (x_:Nat×List Chg×Nat)=>match x_ with | ⟨i,O,v⟩=>[(2,.mk v 100 4 (rows chgC O))]) (fun (x_:Nat×List Chg×Nat)=>match x_ with | ⟨i,O,v⟩=>i≤es.length∧Zcd a f none es=O++Zcd a f (Zey es i) (es.drop i)∧O.length≤1001*i) (fun (x_:Nat×List Chg×Nat)=>match x_ with | ⟨i,O,v⟩=>es.length-i) (⟨0,[],0⟩) (by exact ⟨Nat.zero_le _,rfl,Nat.zero_le _⟩) ?_
 rintro ⟨i,O,v⟩ hi1
 try simp only [sm',Nat.reduceAdd]
 obtain ⟨hi1,hi2,hi3⟩:=hi1
 refine wr'<|V' (ZaZ lk lk) pt<|sn'<|Zah<|?_
 refine cd' lk (fun hc1=>?_) (fun hc1=>?_)
 ·have hi:i<es.length:=by omega
  have hxo:=Zrt hz (List.getElem_mem hi)
  refine Zad<|Zaf<|Zah<|Zan<|wr'<|mv' lk pt<|?_
  refine V' (ZaJ lk lk ZbG (nb' rfl) ro (by omega) ro rfl) pt ?_
  refine V' (ZaF lk Zfz rfl) pt<|E' (Za6 (hl3 hn) ha3) pt<|mv' lk pt<|E' (Zal lk (cvl lk rfl) (hga hn rfl) rfl (nb' rfl) rfl Znv (hs3 hn)) ptn<|sn'<|Zah<|wr'<|mv' lk pt<|mv' lk pt<|V' (ZaI lk) pt<|V' (ZaZ lk lk) pt<|mv' lk pt<|?_
  refine sp' (t:=27) gt pt pt (fun hg27=>?_) (fun hg27=>?_)
  ·have hn1:i+1<es.length:=by omega
   have hen:(ZaO es)[i]'(by omega)=endV es[i]:=ZkY (by omega) hi
   have heb:=Zni hz hn1
   refine s_do gt<|mv' lk pt<|s_do gt<|mv' lk pt<|s_do gt<|?_
   refine V' (ZaJ lk lk ZcB (nb' rfl) ro (by omega) ro rfl) pt ?_
   refine s_do gt<|V' (Zar lk gt) pt<|s_do gt<|mv' lk pt<|s_do gt<|V' (Zc5 lk lk) pt<|V' (Zai lk lk) pt<|sn'<|?_
   refine cd' lk (fun hc2=>?_) (fun hc2=>?_)
   ·have hsk:=Zpc (rl:=a) (f:=f) (prev:=Zey es i) hn1 (by rw [←hen];exact hc2)
    refine ZaE<|Zaz<|ZaX<|Zaf<|Zat<|?_
    refine V' (Zav lk lki (by omega) (by omega)) pt ?_
    refine mv' lk pt<|Zaq<|ZaB<|?_
    refine lU' (⟨i+1,O,v⟩) (by (try dsimp only);exact ⟨by omega,by rw [hi2,hsk],by omega⟩) (by (try dsimp only);(try simp only [sm',Nat.reduceAdd]);exact bkE' 3 hn hlt (by repeat (first | exact wk0 | refine wka ?_ | refine wk1 rfl ?_ | refine wk1 (by first | rfl | exact ivx (by omega) | (rw [List.length_append])) ?_)) (hT:=by simp [AV.lt,AV.ltL,Ent.lt]) (hE:=by simp [AV.lt,AV.ltL,Ent.lt]))
   have hnc:¬endV es[i]≤f:=by rw [←hen];exact hc2
   refine Zad<|Zaf<|wr'<|mv' lk pt<|mv' lk pt<|sn'<|?_
   refine Zf9 (ι:=Int) (fun (B:Int)=>[(11,iv B)]++rn' 36 9) (fun (B:Int)=>[]) (fun (B:Int)=>Zco (Zey es i) f=B ∧ -9000000000000000000≤B∧B≤9000000000000000000) ?_ ?_
   ·try simp only [sm',Nat.reduceAdd]
    refine wr'<|mv' lk pt<|V' (ZbW lk lki) pt<|sn'<|?_
    refine cd' lk (fun hc3=>?_) (fun hc3=>?_)
    ·have hi0:i-1+1<es.length:=by omega
     have hen0:(ZaO es)[i-1]'(by omega)=endV (es[i-1]'(by omega)):=ZkY (by omega) (by omega)
     have heb0:=Zni hz hi0
     have hB:(if (ZaO es)[i-1]'(by omega)>f then (ZaO es)[i-1]'(by omega) else f)=Zco (Zey es i) f:=by rw [hen0,show Zey es i=some (endV (es[i-1]'(by omega))) from by have:=Zfo (es:=es) (i:=i-1) (by omega);rwa [show i-1+1=i by omega] at this];show _=max f _;omega
     have hBb : -9000000000000000000≤Zco (Zey es i) f∧Zco (Zey es i) f≤9000000000000000000:=by rw [←hB,hen0];split <;> omega
     refine Zat<|mv' lk pt<|mv' lk pt<|mv' lk pt<|?_
     refine V' (Zbn lk lki (by omega) (by omega)) pt ?_
     refine V' (ZaJ (k:=i-1) lk lk ZcB (nb' rfl) ro (by omega) ro rfl) pt ?_
     refine V' (Zar lk gt) pt<|V' (v_mm lk lk) pt<|?_
     simp only [cond_true,hB]
     refine mv' lk pt<|Zaq<|ZaB<|?_
     exact cT' (Zco (Zey es i) f) (by exact ⟨rfl,hBb.1,hBb.2⟩)
    refine Zad<|ZaB<|?_
    exact cT' (f) (by exact ⟨by rw [show i=0 by omega];rfl,by omega,by omega⟩)
   rintro B hq12
   try simp only [sm',Nat.reduceAdd]
   obtain ⟨hBd,hB1,hB2⟩:=hq12
   refine wr'<|V' (ZaF lk ZgF rfl) pt<|V' (Zap lk (hga hn rfl) ZiM rfl) pt<|mv' lk pt<|Zae mp (era_z hok ha hxo ⟨hB1,hB2⟩) pt<|mv' lk pt<|sn'<|Zah<|wr'<|mv' lk pt<|mv' lk pt<|?_
   refine V' (ZaI lk) pt<|V' (ZaZ lk lk) pt<|sn'<|?_
   have hgl:=ZkW (x:=es[i]) (b:=B) (Za3 a es[i])
   have htl:=Zfl (rl:=a) (x:=es[i])
   refine Zc4 lk (by exact decide_eq_true (by omega)) ?_
   refine Zat<|mv' lk pt<|mv' lk pt<|mv' lk pt<|?_
   refine V' (ZaJ lk lk ZcB (nb' rfl) ro (by omega) ro rfl) pt ?_
   refine V' (Zar lk gt) pt ?_
   refine Zae mp (zcut_a (by omega)) pt ?_
   have hcl:=cutV_len (eraG es[i] B (Za3 a es[i])) ((ZaO es)[i]'(by omega))
   have hT:=Zpb (rl:=a) (f:=f) (prev:=Zey es i) hn1 hnc
   rw [hBd,←hen] at hT
   refine mv' lk pt<|sn'<|Zat<|mv' lk pt<|mv' lk pt<|?_
   refine E' (Zcw (sc_sl lk (ZeK _)) lk (hga hn rfl) (ZeK _) (by omega) (ZoN _) (hs2 hn)) pt ?_
   refine mv' lk pt<|Zaq<|Zay<|Zaf<|Zat<|?_
   refine V' (Zav lk lki (by omega) (by omega)) pt ?_
   refine mv' lk pt<|Zaq<|ZaB<|?_
   refine lU' (⟨i+1,O++cutV (eraG es[i] B (Za3 a es[i])) ((ZaO es)[i]'(by omega)),v+1⟩) (by (try dsimp only);exact ⟨by omega,by rw [hi2,hT,List.append_assoc],by rw [List.length_append];omega⟩) (by (try dsimp only);(try simp only [sm',Nat.reduceAdd]);exact bkE' 3 hn hlt (by repeat (first | exact wk0 | refine wka ?_ | refine wk1 rfl ?_ | refine wk1 (by first | rfl | exact ivx (by omega) | (rw [List.length_append])) ?_)) (by rw [ZaU];rfl) (hT:=by simp [AV.lt,AV.ltL,Ent.lt]) (hE:=by simp [AV.lt,AV.ltL,Ent.lt]))
  have hn1:es.length≤i+1:=by omega
  refine s_no gt pt<|s_no gt pt<|s_no gt pt<|s_no gt pt<|s_no gt pt<|s_no gt pt<|V' (Zak lk lkb) pt<|sn'<|ZaR lk<|Zad<|Zaf<|wr'<|?_
  refine mv' lk pt<|mv' lk pt<|sn'<|?_
  refine Zf9 (ι:=Int) (fun (B:Int)=>[(11,iv B)]++rn' 36 9) (fun (B:Int)=>[]) (fun (B:Int)=>Zco (Zey es i) f=B ∧ -9000000000000000000≤B∧B≤9000000000000000000) ?_ ?_
  ·try simp only [sm',Nat.reduceAdd]
   refine wr'<|mv' lk pt<|V' (ZbW lk lki) pt<|sn'<|?_
   refine cd' lk (fun hc3=>?_) (fun hc3=>?_)
   ·have hi0:i-1+1<es.length:=by omega
    have hen0:(ZaO es)[i-1]'(by omega)=endV (es[i-1]'(by omega)):=ZkY (by omega) (by omega)
    have heb0:=Zni hz hi0
    have hB:(if (ZaO es)[i-1]'(by omega)>f then (ZaO es)[i-1]'(by omega) else f)=Zco (Zey es i) f:=by rw [hen0,show Zey es i=some (endV (es[i-1]'(by omega))) from by have:=Zfo (es:=es) (i:=i-1) (by omega);rwa [show i-1+1=i by omega] at this];show _=max f _;omega
    have hBb : -9000000000000000000≤Zco (Zey es i) f∧Zco (Zey es i) f≤9000000000000000000:=by rw [←hB,hen0];split <;> omega
    refine Zat<|mv' lk pt<|mv' lk pt<|mv' lk pt<|?_
    refine V' (Zbn lk lki (by omega) (by omega)) pt ?_
    refine V' (ZaJ (k:=i-1) lk lk ZcB (nb' rfl) ro (by omega) ro rfl) pt ?_
    refine V' (Zar lk gt) pt<|V' (v_mm lk lk) pt<|?_
    simp only [cond_true,hB]
    refine mv' lk pt<|Zaq<|ZaB<|?_
    exact cT' (Zco (Zey es i) f) (by exact ⟨rfl,hBb.1,hBb.2⟩)
   refine Zad<|ZaB<|?_
   exact cT' (f) (by exact ⟨by rw [show i=0 by omega];rfl,by omega,by omega⟩)
  rintro B hq12
  try simp only [sm',Nat.reduceAdd]
  obtain ⟨hBd,hB1,hB2⟩:=hq12
  refine wr'<|V' (ZaF lk ZgF rfl) pt<|V' (Zap lk (hga hn rfl) ZiM rfl) pt<|mv' lk pt<|Zae mp (era_z hok ha hxo ⟨hB1,hB2⟩) pt<|mv' lk pt<|sn'<|Zah<|wr'<|mv' lk pt<|mv' lk pt<|?_
  refine V' (ZaI lk) pt<|V' (ZaZ lk lk) pt<|sn'<|?_
  have hgl:=ZkW (x:=es[i]) (b:=B) (Za3 a es[i])
  have htl:=Zfl (rl:=a) (x:=es[i])
  have hT:=Zpd (rl:=a) (f:=f) (prev:=Zey es i) hi hn1
  rw [hBd] at hT
  refine Zcr lk (by exact decide_eq_false (by omega)) ?_
  refine Zad<|Zaf<|Zat<|mv' lk pt<|mv' lk pt<|?_
  refine E' (Zcw (sc_sl lk (ZeK _)) lk (hga hn rfl) (ZeK _) (by omega) (ZoN _) (hs2 hn)) pt ?_
  refine mv' lk pt<|Zaq<|Zay<|Zaf<|Zat<|?_
  refine V' (Zav lk lki (by omega) (by omega)) pt ?_
  refine mv' lk pt<|Zaq<|ZaB<|?_
  refine lU' (⟨i+1,O++eraG es[i] B (Za3 a es[i]),v+1⟩) (by (try dsimp only);exact ⟨by omega,by rw [hi2,hT,List.drop_of_length_le hn1];exact (List.append_nil _).symm,by rw [List.length_append];omega⟩) (by (try dsimp only);(try simp only [sm',Nat.reduceAdd]);exact bkE' 3 hn hlt (by repeat (first | exact wk0 | refine wka ?_ | refine wk1 rfl ?_ | refine wk1 (by first | rfl | exact ivx (by omega) | (rw [List.length_append])) ?_)) (by rw [ZaU];rfl) (hT:=by simp [AV.lt,AV.ltL,Ent.lt]) (hE:=by simp [AV.lt,AV.ltL,Ent.lt]))
 rw [List.drop_of_length_le (by omega)] at hi2
 have hPO:Zcd a f none es=O:=hi2.trans (List.append_nil _)
 refine ZaE<|Zaz<|Zaz<|ZaX<|?_
 refine Za8 (ALe.iceR (hga hn rfl) gt7 (List.take_of_length_le (by rw [ZeK];exact Nat.le_refl _)) (by rw [ZeK];exact Nat.le_refl _) pt7 (hs2 hn)) ?_
 refine wr'<|mv' lk pt<|mv' lk pt<|sn'<|Zaa<|Zag rz<|rtW'<|?_
 rw [hPO];exact Wk.full
theorem parts_ok {s:Src}{z:Zon}(h:ZbE s=0) (hm:z∈s.2.1) (f:Int):(∃ l,Zcd s.1 f none z.2=(f,ZcX s.1 z.2 f)::l)∧(Zcd s.1 f none z.2).Pairwise (fun a b=>a.1<b.1)∧(∀ c∈Zcd s.1 f none z.2,f≤c.1∧c.2=ZcX s.1 z.2 c.1) ∧
  ∀ u v,f≤u→u≤v→(∀ c∈Zcd s.1 f none z.2,¬(u<c.1∧c.1≤v))→ZcX s.1 z.2 u=ZcX s.1 z.2 v:=by
 obtain ⟨hE,_,_,_,h5⟩:=Zpz h
 exact ZlK (f:=f) (prev:=none) (Zdd hE hm).ne (fun x _=>risT_all _ x) ((ZkE _).1 (h5 z hm)) trivial
def atV (s:Src) (nm:ByteArray) (n:Int):Loc×Int :=
 if (ZbT s nm).2≠0 then (locZ,(ZbT s nm).2) else if n<tMin∨n>tMax then (locZ,3) else (ZcX s.1 (ZbT s nm).1.2 n,0)
abbrev ZrJ (l:Loc):List AV:=[iv l.1,iv l.2.1,sv l.2.2]
theorem at_a {a:List Rul}{z:List Zon}{k:List Lnk}{nm:ByteArray}{n:Int}{h:AH}(hok:Zeb (a,z,k)):Ac 15 [.agg (srcB a z k),sv nm,iv n] h (.tup [.agg (ZrJ (atV (a,z,k) nm n).1),iv (atV (a,z,k) nm n).2]):=by
 refine tI' k15 fun N hn hlt hlA hbd=>?_
 simp only [tb'] at hbd ⊢
 refine wr'<|E' (Zbi (cvl lk rfl) rfl (hl0 hn) ha0) pt<|E' (Za6 (hl1 hn) ha1) pt<|mv' lki pt<|sn'<|wr'<|V' (Zap lk (hga hn rfl) Zdf rfl) pt<|mv' lk pt<|Zae mp (Zr5 hok) pt<|mv' lk pt<|V' (Za7 lk gt) pt<|?_
 refine V' (Za7 lk gt) pt<|E' (Za6 (hl2 hn) ha2) pt<|E' (Zal lk (cvl lk rfl) (hga hn rfl) rfl (nb' rfl) rfl ZpK (hs2 hn)) ptn<|mv' lk pt<|sn'<|Zah<|wr'<|mv' lk pt<|V' (Za5 lk lki) pt<|sn'<|?_
 refine cd' lk (fun hc1=>?_) (fun hc1=>?_)
 ·have hA:atV (a,z,k) nm n=(locZ,(ZbT (a,z,k) nm).2):=if_pos hc1
  refine wr'<|V' (ZaA ZpM) pt<|mv' lk pt<|E' (Zal lk (cvl lk rfl) (hga hn rfl) rfl (nb' rfl) rfl Zeq (hs1 hn)) ptn<|mv' lk pt<|sn'<|Zaa<|Zaj<|Zag (rsn (rm1 (rr_c gt (hga hn rfl) (ld1 Zdf rfl)) (rm1 (rr_t gt) rm0)))<|rT'<|?_
  rw [hA];rfl
 have hf0:(ZbT (a,z,k) nm).2=0:=Decidable.of_not_not hc1
 obtain ⟨hz0,hm,_⟩:=Zne hf0
 have hE:=Zfu hz0
 have hal:=(Zc0 hE).1
 simp only at hal
 refine Zad<|Zaf<|Zah<|wr'<|mv' lk pt<|Zae mp0 (least_a) pt<|V' (ZaZ lk lk) pt<|mv' lk pt<|?_
 refine sp' (t:=23) gt pt pt (fun hg23=>?_) (fun hg23=>?_)
 ·have hA:atV (a,z,k) nm n=(locZ,3):=by unfold atV;rw [if_neg hc1,if_pos (.inl hg23)]
  refine s_no gt pt<|s_no gt pt<|s_no gt pt<|V' (Zai lk lkb) pt<|sn'<|ZaG lk<|wr'<|V' (ZaA Zj2) pt<|E' (Zal lk (cvl lk rfl) (hga hn rfl) rfl (nb' rfl) rfl Zeq (hs1 hn)) ptn<|mv' lki pt<|sn'<|?_
  refine Zaa<|Zaj<|Zag (rsn (rm1 (rr_c gt (hga hn rfl) (ld1 Zdf rfl)) (rm1 (rr_t gt) rm0)))<|rT'<|?_
  rw [hA];rfl
 refine s_do gt<|mv' lk pt<|s_do gt<|Zae mp0 (most_a) pt<|s_do gt<|V' (ZbW lk lk) pt<|V' (Zak lk lk) pt<|sn'<|?_
 refine cd' lk (fun hc2=>?_) (fun hc2=>?_)
 ·have hA:atV (a,z,k) nm n=(locZ,3):=by unfold atV;rw [if_neg hc1,if_pos (.inr hc2)]
  refine wr'<|V' (ZaA Zj2) pt<|E' (Zal lk (cvl lk rfl) (hga hn rfl) rfl (nb' rfl) rfl Zeq (hs1 hn)) ptn<|mv' lki pt<|sn'<|Zaa<|Zaj<|Zag (rsn (rm1 (rr_c gt (hga hn rfl) (ld1 Zdf rfl)) (rm1 (rr_t gt) rm0)))<|rT'<|?_
  rw [hA];rfl
 have hA:atV (a,z,k) nm n=(ZcX a (ZbT (a,z,k) nm).1.2 n,0):=by unfold atV;rw [if_neg hc1,if_neg (by simp only [tMin,tMax];omega)]
 obtain ⟨⟨pl,hpl⟩,_⟩:=parts_ok hz0 hm n
 simp only at hpl
 refine Zad<|Zaf<|wr'<|V' (Zap lk (hga hn rfl) Zdf rfl) pt<|V' (Zap lk (hga hn rfl) ZpI rfl) pt<|mv' lk pt<|?_
 refine Zae mp (parts_a (ZkL hok) (by omega) (Zdd hE hm) (by omega)) pt ?_
 refine V' (ZaJ (k:=0) lk lki Zft (nb' rfl) (by first | rfl | first | omega | (rw [hpl];simp)) (by first | omega | (rw [hpl];simp)) ro rfl) pt ?_
 refine V' (ZaS lk dp1) pt<|V' (ZaF lk ZgF rfl) pt<|E' (Zal lk (cvl lk rfl) (hga hn rfl) rfl (nb' rfl) rfl Zeq (hs1 hn)) ptn<|mv' lki pt<|sn'<|Zaa<|Zag (rsn (rm1 (rr_c gt (hga hn rfl) (ld1 Zdf rfl)) (rm1 (rr_t gt) rm0)))<|rT'<|?_
 simp only [hA,hpl];rfl
end Go.Proofs.YthdifaphoaekoaaGreatDoor
end
section
namespace Go.Proofs.YthdifaphoaekoaaGreatDoor
section
variable {α : Type} {r : α → α → Prop}
def insR (r:α→α→Prop) (i k:Nat) (L:List α):Prop := ∃ A x B C,L=A++x::(B++C)∧A.length=k∧A.length+B.length=i∧(A++B).Pairwise r ∧ ∀ b∈B,r x b
theorem Zpm {i:Nat}{L:List α}(h:i<L.length) (hp:(L.take i).Pairwise r):insR r i i L :=
 ⟨L.take i,L[i],[],L.drop (i+1),by simp,by simp;omega,by simp;omega,by simpa using hp,by simp⟩
theorem Zpl {i:Nat}{L:List α}(h:insR r i 0 L):(L.take (i+1)).Pairwise r:=by
 obtain ⟨A,x,B,C,rfl,h1,h2,h3,h4⟩:=h
 obtain rfl:=List.eq_nil_of_length_eq_zero h1
 simp only [List.length_nil,Nat.zero_add] at h2
 subst h2
 rw [List.nil_append,List.take_succ_cons,List.take_left]
 exact List.pairwise_cons.2 ⟨h4,by simpa using h3⟩
theorem Zpk (ht : ∀ a b c,r a b→r b c→r a c) {i k:Nat}{L:List α}(h:insR r i (k+1) L) (hk:k+1<L.length) (hc:r L[k] L[k+1]):(L.take (i+1)).Pairwise r:=by
 obtain ⟨A,x,B,C,rfl,h1,h2,h3,h4⟩:=h
 obtain ⟨A,y,rfl⟩ : ∃ A' y,A=A'++[y]:=⟨A.dropLast,A.getLast (by intro e;subst e;cases h1),(List.dropLast_concat_getLast _).symm⟩
 simp only [List.length_append,List.length_singleton] at h1
 obtain rfl:A.length=k:=by omega
 have e1:((A++[y])++x::(B++C))[A.length+1]'hk=x:=by simp
 have e2:((A++[y])++x::(B++C))[A.length]'(by omega)=y:=by simp
 rw [e1,e2] at hc
 have e3:((A++[y])++x::(B++C)).take (i+1)=(A++[y])++x::B:=by
  rw [show (A++[y])++x::(B++C)=((A++[y])++x::B)++C by simp,List.take_left' (by simp at h2 ⊢;omega)]
 rw [e3]
 rw [List.pairwise_append] at h3 ⊢
 obtain ⟨p1,p2,p3⟩:=h3
 refine ⟨p1,List.pairwise_cons.2 ⟨h4,p2⟩,fun a ha b hb=>?_⟩
 have hax:r a x:=by
  rcases List.mem_append.1 ha with h | h
  ·exact ht _ _ _ ((List.pairwise_append.1 p1).2.2 a h y (by simp)) hc
  ·simp only [List.mem_singleton] at h;subst h;exact hc
 rcases List.mem_cons.1 hb with rfl | h
 ·exact hax
 ·exact p3 a ha b h
theorem ZrS (htot : ∀ a b,r a b∨r b a) {i k:Nat}{L:List α}(h:insR r i (k+1) L) (hk:k+1<L.length) (hc:¬r L[k] L[k+1]) :
  insR r i k ((L.set (k+1) L[k]).set k L[k+1])∧((L.set (k+1) L[k]).set k L[k+1]).Perm L:=by
 obtain ⟨A,x,B,C,rfl,h1,h2,h3,h4⟩:=h
 obtain ⟨A,y,rfl⟩ : ∃ A' y,A=A'++[y]:=⟨A.dropLast,A.getLast (by intro e;subst e;cases h1),(List.dropLast_concat_getLast _).symm⟩
 simp only [List.length_append,List.length_singleton] at h1
 obtain rfl:A.length=k:=by omega
 have e1:((A++[y])++x::(B++C))[A.length+1]'hk=x:=by simp
 have e2:((A++[y])++x::(B++C))[A.length]'(by omega)=y:=by simp
 rw [e1,e2] at hc ⊢
 have e3:(((A++[y])++x::(B++C)).set (A.length+1) y).set A.length x=A++x::y::(B++C):=by
  simp
 rw [e3]
 refine ⟨⟨A,x,y::B,C,by simp,rfl,by simp at h2 ⊢;omega,by simpa using h3,fun b hb=>?_⟩,?_⟩
 ·rcases List.mem_cons.1 hb with rfl | h
  ·exact (htot _ _).resolve_left hc
  ·exact h4 b h
 ·simp only [List.append_assoc,List.singleton_append]
  exact (List.Perm.swap y x _).append_left A
end
end Go.Proofs.YthdifaphoaekoaaGreatDoor
end
section
namespace Go.Proofs.YthdifaphoaekoaaGreatDoor
open Go.Ab
abbrev TS:=List ByteArray×Bool
abbrev bad (t:TS):TS:=(t.1,true)
def ZaW (t:TS):ByteArray×TS:=if t.2=true∨t.1=[] then (⟨#[]⟩,bad t) else (t.1.headD ⟨#[]⟩,t.1.tail,false)
def decL:Int→Bs→Int
 | n,[]=>n
 | n,c::l=>decL (10*n+c.toNat-48) l
def numV (s:ByteArray) (a b:Int):Option Int:=if wi s.size a b=true∧allB digB s=true then some (decL 0 (aB s)) else none
def tNum (s:ByteArray) (a b:Int) (t:TS):Int×TS:=match numV s a b with
 | some n=>(n,t)
 | none=>(0,bad t)
def Ze2 (t:TS):ByteArray×TS:=((ZaW t).1,if ZcF (ZaW t).1=true then (ZaW t).2 else bad (ZaW t).2)
def idxL:List ByteArray→ByteArray→Int→Option Int
 | [],_,_=>none
 | x::l,s,d=>if s=x then some d else idxL l s (d+1)
def monL:List ByteArray:=[bA [74,97,110],bA [70,101,98],bA [77,97,114],bA [65,112,114],bA [77,97,121],bA [74,117,110],bA [74,117,108],bA [65,117,103],bA [83,101,112],bA [79,99,116],bA [78,111,118],bA [68,101,99]]
def dayL:List ByteArray:=[bA [83,117,110],bA [77,111,110],bA [84,117,101],bA [87,101,100],bA [84,104,117],bA [70,114,105],bA [83,97,116]]
def ZdQ (t:TS):Int×TS:=match idxL monL (ZaW t).1 1 with
 | some n=>(n,(ZaW t).2)
 | none=>(0,bad (ZaW t).2)
def Zeg (s:ByteArray) (t:TS):Int×TS:=match idxL dayL s 0 with
 | some n=>(n,t)
 | none=>(0,bad t)
def ZcU (s:ByteArray) (k:Nat):Int:=(ZaL s k).toNat
def Zec (s:ByteArray):Nat:=if 4≤s.size∧s.extract 0 4=bA [108,97,115,116] then 2 else if 5<s.size∧ZcU s 4=61∧ZcU s 3=62 then 3 else if 5<s.size∧ZcU s 4=61∧ZcU s 3=60 then 4 else 1
def Zb6 (s:ByteArray) (t:TS):Frm×TS :=
 if Zec s=2 then ((2,(Zeg (s.extract 4 s.size) t).1,0),(Zeg (s.extract 4 s.size) t).2)
 else if Zec s=1 then ((1,0,(tNum s 1 2 t).1),(tNum s 1 2 t).2)
 else ((Zec s,(Zeg (s.extract 0 3) t).1,(tNum (s.extract 5 s.size) 1 2 (Zeg (s.extract 0 3) t).2).1),(tNum (s.extract 5 s.size) 1 2 (Zeg (s.extract 0 3) t).2).2)
def ZgW (t:TS):Frm×TS:=Zb6 (ZaW t).1 (ZaW t).2
def tSix (s:ByteArray) (t:TS):Int×TS:=((tNum s 2 2 t).1,if (tNum s 2 2 t).1>59 then bad (tNum s 2 2 t).2 else (tNum s 2 2 t).2)
def Ze1 (l:List Bs) (t:TS):Int×TS:=match l with
 | [a,b]=>(3600*(tNum (bA a) 1 2 t).1+60*(tSix (bA b) (tNum (bA a) 1 2 t).2).1,(tSix (bA b) (tNum (bA a) 1 2 t).2).2)
 | [a,b,c]=>(3600*(tNum (bA a) 1 2 t).1+60*(tSix (bA b) (tNum (bA a) 1 2 t).2).1+(tSix (bA c) (tSix (bA b) (tNum (bA a) 1 2 t).2).2).1,(tSix (bA c) (tSix (bA b) (tNum (bA a) 1 2 t).2).2).2)
 | _=>(0,bad t)
def ZbN (s:ByteArray) (t:TS):Int×TS:=if s=bA [48] then (0,t) else Ze1 (cutC 58 (aB s)) t
def wsuA:ByteArray:=bA [63,119,115,117]
def ZdC (c d:Int):Nat→Int
 | 0=>d
 | k+1=>if c=ZcU wsuA (k+1) then ((k+1:Nat):Int) else ZdC c d k
def ZcT (s:ByteArray):Int:=ZcU s (s.size-1)
def Zea (d:Int) (s:ByteArray) (t:TS):(Int×Int)×TS :=
 if s.size=0 then (((ZbN s t).1,d),(ZbN s t).2)
 else if digB (ZcT s)=true then (((ZbN s t).1,ZdC (ZcT s) d 3),(ZbN s t).2)
 else let u:TS:=if ZcT s=ZcU wsuA (ZdC (ZcT s) d 3).toNat then t else bad t
  (((ZbN (s.extract 0 (s.size-1)) u).1,ZdC (ZcT s) d 3),(ZbN (s.extract 0 (s.size-1)) u).2)
def Zdi (d:Int) (t:TS):(Int×Int)×TS:=Zea d (ZaW t).1 (ZaW t).2
def Zrs:ByteArray:=bA [111,110,108,121]
def maxA:ByteArray:=bA [109,97,120]
def tTo (f:Int) (s:ByteArray) (t:TS):Int×TS:=if s=Zrs then (f,t) else if s=maxA then (2100,t) else tNum s 4 4 t
def Ze9 (s:ByteArray):Bool:=decide (s≠⟨#[]⟩)&&(decide (s=bA [45])||ZcA s)
def Zch {α β:Type}(f:TS→α×TS) (k:α→TS→β×TS) (t:TS):β×TS:=k (f t).1 (f t).2
def ret2 {α:Type}(a:α) (t:TS):α×TS:=(a,t)
def ZqO (t:TS):Int×TS:=tNum (ZaW t).1 4 4 (ZaW t).2
def tToN (f:Int) (t:TS):Int×TS:=tTo f (ZaW t).1 (ZaW t).2
def ZqQ (t:TS):Int×TS:=ZbN (ZaW t).1 (ZaW t).2
def Zdu (t:TS):ByteArray×TS:=(if (ZaW t).1=bA [45] then ⟨#[]⟩ else (ZaW t).1,if Ze9 (ZaW t).1=true then (ZaW t).2 else bad (ZaW t).2)
def Zkr:TS→Rul×TS :=
 Zch Ze2 fun nm=>Zch ZqO fun f=>Zch (tToN f) fun t2=>Zch ZdQ fun m=>Zch ZgW fun k=>Zch (Zdi 1) fun c=>Zch ZqQ fun sv=>Zch Zdu fun l=>ret2 (nm,f,t2,m,k,c.1,c.2,sv,l)
def ZhD (s:ByteArray):Int:=ZcU s 0
def Zgf (t:TS):Int×TS:=if (ZaW t).1.size≠0∧ZhD (ZaW t).1=45 then (-(ZbN ((ZaW t).1.extract 1 (ZaW t).1.size) (ZaW t).2).1,(ZbN ((ZaW t).1.extract 1 (ZaW t).1.size) (ZaW t).2).2) else ZbN (ZaW t).1 (ZaW t).2
def Zd9 (s:ByteArray) (t:TS):(Int×ByteArray)×TS :=
 if s=bA [45] then ((0,⟨#[]⟩),t)
 else if s.size≠0∧digB (ZhD s)=true then (((ZbN s (if s=bA [48] then bad t else t)).1,⟨#[]⟩),(ZbN s (if s=bA [48] then bad t else t)).2)
 else ((0,s),if ZcF s=true then t else bad t)
def ZqR (t:TS):(Int×ByteArray)×TS:=Zd9 (ZaW t).1 (ZaW t).2
def Zh6 (t:TS):ByteArray×TS:=((ZaW t).1,if ZbF (ZaW t).1=true then (ZaW t).2 else bad (ZaW t).2)
def tDay (t:TS):Int×TS:=tNum (ZaW t).1 1 2 (ZaW t).2
def ZqP (c:Int×Int) (t:TS):Unit×TS:=((),if c.2=1 then bad t else t)
def Zho:TS→Unt×TS :=
 Zch ZqO fun y=>Zch ZdQ fun m=>Zch tDay fun d=>Zch (Zdi 2) fun c=>Zch (ZqP c) fun _=>ret2 ((y,m,d),c.1,c.2)
def untZ:Unt:=((0,0,0),0,0)
def tEnd (t:TS):(Bool×Unt)×TS:=if t.1=[] then ((true,untZ),t) else ((false,(Zho t).1),(Zho t).2)
def tEra:TS→Era×TS :=
 Zch Zgf fun sh=>Zch ZqR fun r=>Zch Zh6 fun f=>Zch tEnd fun u=>ret2 (sh,r.2,r.1,f,u.1,u.2)
def Zex:List ByteArray→Option (ByteArray×List ByteArray)
 | []=>none
 | x::l=>some (x,l)
abbrev RM (α:Type):=List ByteArray→Option (α×List ByteArray)
def Zb4 {α β:Type}(f:RM α) (k:α→RM β):RM β:=fun l=>match f l with
 | none=>none
 | some p=>k p.1 p.2
def retR {α:Type}(a:α):RM α:=fun l=>some (a,l)
def ZcM {α:Type}(o:Option α):RM α:=fun l=>match o with
 | none=>none
 | some a=>some (a,l)
def Zrk:RM ByteArray:=Zb4 Zex fun s=>ZcM (if ZcF s=true then some s else none)
def Zrl:RM Int:=Zb4 Zex fun s=>ZcM (idxL monL s 1)
def sixV (s:ByteArray):Option Int:=match numV s 2 2 with
 | some n=>if n>59 then none else some n
 | none=>none
def ZfR (s:ByteArray):Option Int:=if s=bA [48] then some 0 else match cutC 58 (aB s) with
 | [a,b]=>match numV (bA a) 1 2,sixV (bA b) with
  | some x,some y=>some (3600*x+60*y)
  | _,_=>none
 | [a,b,c]=>match numV (bA a) 1 2,sixV (bA b),sixV (bA c) with
  | some x,some y,some z=>some (3600*x+60*y+z)
  | _,_,_=>none
 | _=>none
def formV (s:ByteArray):Option Frm :=
 if Zec s=2 then (match idxL dayL (s.extract 4 s.size) 0 with
  | some w=>some (2,w,0)
  | none=>none)
 else if Zec s=1 then (match numV s 1 2 with
  | some n=>some (1,0,n)
  | none=>none)
 else match idxL dayL (s.extract 0 3) 0,numV (s.extract 5 s.size) 1 2 with
  | some w,some n=>some ((Zec s:Int),w,n)
  | _,_=>none
def wsuK (c:Int):Option Int:=if c=119 then some 1 else if c=115 then some 2 else if c=117 then some 3 else none
def ZoL (d:Int) (s:ByteArray):Option (Int×Int):=match (if s.size=0 then none else wsuK (ZcT s)) with
 | some k=>(match ZfR (s.extract 0 (s.size-1)) with
  | some n=>some (n,k)
  | none=>none)
 | none=>(match ZfR s with
  | some n=>some (n,d)
  | none=>none)
def toV (f:Int) (s:ByteArray):Option Int:=if s=Zrs then some f else if s=maxA then some 2100 else numV s 4 4
def Zm5 (s:ByteArray):Option ByteArray:=if Ze9 s=true then some (if s=bA [45] then ⟨#[]⟩ else s) else none
def rRule:RM Rul :=
 Zb4 Zrk fun nm=>Zb4 (Zb4 Zex fun s=>ZcM (numV s 4 4)) fun f=>Zb4 (Zb4 Zex fun s=>ZcM (toV f s)) fun t2=>Zb4 Zrl fun m=>Zb4 (Zb4 Zex fun s=>ZcM (formV s)) fun k =>
  Zb4 (Zb4 Zex fun s=>ZcM (ZoL 1 s)) fun c=>Zb4 (Zb4 Zex fun s=>ZcM (ZfR s)) fun sv=>Zb4 (Zb4 Zex fun s=>ZcM (Zm5 s)) fun l=>retR (nm,f,t2,m,k,c.1,c.2,sv,l)
def Zq5 (s:ByteArray):Option Int:=if s.size≠0∧ZhD s=45 then (match ZfR (s.extract 1 s.size) with
  | some n=>some (-n)
  | none=>none) else ZfR s
def Zq8 (s:ByteArray):Option (Int×ByteArray) :=
 if s=bA [45] then some (0,⟨#[]⟩)
 else if s.size≠0∧digB (ZhD s)=true∧s≠bA [48] then (match ZfR s with
  | some n=>some (n,⟨#[]⟩)
  | none=>none)
 else if ZcF s=true then some (0,s) else none
def Zrj:RM Unt :=
 Zb4 (Zb4 Zex fun s=>ZcM (numV s 4 4)) fun y=>Zb4 Zrl fun m=>Zb4 (Zb4 Zex fun s=>ZcM (numV s 1 2)) fun d=>Zb4 (Zb4 Zex fun s=>ZcM (ZoL 2 s)) fun c=>Zb4 (ZcM (if c.2=1 then none else some ())) fun _=>retR ((y,m,d),c.1,c.2)
def rEnd:RM (Bool×Unt):=fun l=>if l=[] then some ((true,untZ),l) else match Zrj l with
 | some p=>some ((false,p.1),p.2)
 | none=>none
def rEra:RM Era :=
 Zb4 (Zb4 Zex fun s=>ZcM (Zq5 s)) fun sh=>Zb4 (Zb4 Zex fun s=>ZcM (Zq8 s)) fun r=>Zb4 (Zb4 Zex fun s=>ZcM (if ZbF s=true then some s else none)) fun f=>Zb4 rEnd fun u=>retR (sh,r.2,r.1,f,u.1,u.2)
def Agr {α:Type}(f:TS→α×TS) (g:RM α):Prop := ∀ l,(f (l,true)).2.2=true∧match g l with
 | none=>(f (l,false)).2.2=true
 | some p=>f (l,false)=(p.1,p.2,false)
theorem Agr.bind {α β:Type}{f:TS→α×TS}{g:RM α}{k:α→TS→β×TS}{m:α→RM β}(h:Agr f g) (hk : ∀ a,Agr (k a) (m a)):Agr (Zch f k) (Zb4 g m):=by
 have stay : ∀ (a:α) (t:TS),t.2=true→(k a t).2.2=true:=by
  rintro a ⟨l,b⟩ rfl;exact (hk a l).1
 intro l
 refine ⟨stay _ _ (h l).1,?_⟩
 have h2:=(h l).2
 unfold Zb4 Zch
 revert h2
 cases hg:g l with
 | none=>exact fun h2=>stay _ _ h2
 | some p=>intro h2;simp only at h2;rw [h2];exact (hk p.1 p.2).2
theorem Agr.ret {α:Type}(a:α):Agr (ret2 a) (retR a):=fun l=>⟨rfl,rfl⟩
theorem agr_next:Agr ZaW Zex:=by
 intro l
 cases l with
 | nil=>exact ⟨rfl,rfl⟩
 | cons x l=>exact ⟨rfl,rfl⟩
def AgO {α:Type}(o:Option α) (x:α×TS) (l:List ByteArray):Prop:=match o with
 | none=>x.2.2=true
 | some a=>x=(a,l,false)
theorem Agr.lift {α:Type}{f:TS→α×TS}{o:Option α}(hb : ∀ t:TS,t.2=true→(f t).2.2=true) (hf : ∀ l,AgO o (f (l,false)) l):Agr f (ZcM o):=by
 intro l
 refine ⟨hb _ rfl,?_⟩
 have:=hf l
 unfold ZcM
 cases o <;> exact this
theorem Zla (s:ByteArray) (a b:Int):Agr (tNum s a b) (ZcM (numV s a b)):=by
 refine Agr.lift (fun t h=>?_) (fun l=>?_)
 ·unfold tNum;split <;> simp_all
 ·unfold tNum;cases numV s a b <;> rfl
theorem Zeh {s:ByteArray}{a b:Int}{t:TS}(h:t.2=true):(tNum s a b t).2.2=true:=by unfold tNum;split <;> simp_all
theorem Zjk {s:ByteArray}{t:TS}(h:t.2=true):(Zeg s t).2.2=true:=by unfold Zeg;split <;> simp_all
theorem ZdN {s:ByteArray}{t:TS}(h:t.2=true):(tSix s t).2.2=true:=by unfold tSix;have:=Zeh (s:=s) (a:=2) (b:=2) h;split <;> simp_all
theorem Zcy {s:ByteArray}{t:TS}(h:t.2=true):(ZbN s t).2.2=true:=by
 unfold ZbN
 split
 ·exact h
 ·unfold Ze1
  split
  ·exact ZdN (Zeh h)
  ·exact ZdN (ZdN (Zeh h))
  ·rfl
theorem ZdO {s:ByteArray}{a b n:Int}{t:TS}(h:numV s a b=some n):tNum s a b t=(n,t):=by unfold tNum;rw [h]
theorem ZdP {s:ByteArray}{a b:Int}{t:TS}(h:numV s a b=none):tNum s a b t=(0,bad t):=by unfold tNum;rw [h]
theorem Zh3 {s:ByteArray}{n:Int}{t:TS}(h:sixV s=some n):tSix s t=(n,t):=by
 unfold sixV at h
 split at h
 ·rename_i m hm
  unfold tSix
  rw [ZdO hm]
  split at h
  ·cases h
  ·rename_i hle;cases h;simp [hle]
 ·cases h
theorem Zh4 {s:ByteArray}{t:TS}(h:sixV s=none):(tSix s t).2.2=true:=by
 unfold sixV at h
 split at h
 ·rename_i m hm
  unfold tSix
  rw [ZdO hm]
  split at h
  ·rename_i hle;simp [hle]
  ·cases h
 ·rename_i hm;unfold tSix;rw [ZdP hm];simp
theorem Zfy (s:ByteArray):Agr (ZbN s) (ZcM (ZfR s)):=by
 refine Agr.lift (fun t h=>Zcy h) (fun l=>?_)
 unfold ZbN ZfR
 by_cases h0:s=bA [48]
 ·simp only [if_pos h0];rfl
 ·simp only [if_neg h0]
  obtain ⟨y,hy⟩ : ∃ y,y=cutC 58 (aB s):=⟨_,rfl⟩
  simp only [←hy]
  clear hy
  match y with
  | []=>rfl
  | [_]=>rfl
  | _::_::_::_::_=>rfl
  | [a,b] =>
   simp only [Ze1]
   cases h1:numV (bA a) 1 2 with
   | none=>rw [ZdP h1];exact ZdN rfl
   | some x =>
    rw [ZdO h1]
    cases h2:sixV (bA b) with
    | none=>exact Zh4 h2
    | some y=>simp only;rw [Zh3 h2];rfl
  | [a,b,c] =>
   simp only [Ze1]
   cases h1:numV (bA a) 1 2 with
   | none=>rw [ZdP h1];exact ZdN (ZdN rfl)
   | some x =>
    rw [ZdO h1]
    cases h2:sixV (bA b) with
    | none=>exact ZdN (Zh4 h2)
    | some y =>
     simp only;rw [Zh3 h2]
     cases h3:sixV (bA c) with
     | none=>exact Zh4 h3
     | some z=>simp only;rw [Zh3 h3];rfl
theorem agr_form (s:ByteArray):Agr (Zb6 s) (ZcM (formV s)):=by
 refine Agr.lift (fun t h=>?_) (fun l=>?_)
 ·unfold Zb6
  split
  ·exact Zjk h
  ·split
   ·exact Zeh h
   ·exact Zeh (Zjk h)
 ·unfold Zb6 formV
  by_cases hk2:Zec s=2
  ·simp only [if_pos hk2]
   unfold Zeg
   cases h1:idxL dayL (s.extract 4 s.size) 0 <;> rfl
  ·simp only [if_neg hk2]
   by_cases hk1:Zec s=1
   ·simp only [if_pos hk1]
    cases h1:numV s 1 2 with
    | none=>rw [ZdP h1];rfl
    | some n=>rw [ZdO h1];rfl
   ·simp only [if_neg hk1]
    cases h1:idxL dayL (s.extract 0 3) 0 with
    | none=>refine Zeh ?_;unfold Zeg;rw [h1]
    | some w =>
     unfold Zeg;rw [h1]
     cases h2:numV (s.extract 5 s.size) 1 2 with
     | none=>rw [ZdP h2];rfl
     | some n=>rw [ZdO h2];rfl
theorem kindU3 (c d:Int):ZdC c d 3=(wsuK c).getD d:=by
 unfold ZdC ZdC ZdC ZdC wsuK
 rw [show ZcU wsuA (2+1)=117 by decide,show ZcU wsuA (1+1)=115 by decide,show ZcU wsuA (0+1)=119 by decide]
 split
 ·subst c;rfl
 ·split
  ·subst c;rfl
  ·split
   ·subst c;rfl
   ·rfl
theorem wsuK_dig {c k:Int}(h:wsuK c=some k):digB c=false∧1≤k∧k≤3∧c=ZcU wsuA k.toNat:=by
 unfold wsuK at h
 split at h
 ·subst c;cases h;decide
 ·split at h
  ·subst c;cases h;decide
  ·split at h
   ·subst c;cases h;decide
   ·cases h
theorem wsu_lit (k:Int) (h:1≤k∧k≤3):wsuK (ZcU wsuA k.toNat)=some k:=by
 obtain ⟨h1,h2⟩:=h
 have:k=1∨k=2∨k=3:=by omega
 rcases this with rfl | rfl | rfl <;> decide
theorem ZjJ {x:UInt8} : ∀ {l z:Bs},cutC x l=[z]→l=z
 | [],z,h=>by simp [cutC] at h;exact h.symm
 | c::l,z,h=>by
  unfold cutC at h
  split at h
  ·simp only [List.cons.injEq] at h;exact absurd h.2 (Zk1 x l)
  ·split at h
   ·rename_i he;exact absurd he (Zk1 x l)
   ·rename_i y ys he
    simp only [List.cons.injEq] at h
    obtain ⟨rfl,rfl⟩:=h
    rw [ZjJ he]
theorem ZhW (x:UInt8) : ∀ {l:Bs}{ys:List Bs}{y:Bs},cutC x l=ys++[y] → ∃ p,l=p++y
 | [],ys,y,h=>by
  cases ys with
  | nil=>simp [cutC] at h;exact ⟨[],by simp [h]⟩
  | cons a ys=>simp [cutC] at h
 | c::l,ys,y,h=>by
  unfold cutC at h
  split at h
  ·cases ys with
   | nil=>simp at h;exact absurd h.2 (Zk1 x l)
   | cons a ys =>
    simp only [List.cons_append,List.cons.injEq] at h
    obtain ⟨p,hp⟩:=ZhW x h.2
    exact ⟨c::p,by rw [hp];rfl⟩
  ·split at h
   ·rename_i he;exact absurd he (Zk1 x l)
   ·rename_i z zs he
    cases ys with
    | nil =>
     simp only [List.nil_append,List.cons.injEq] at h
     obtain ⟨rfl,rfl⟩:=h
     obtain ⟨p,hp⟩:=ZhW x (ys:=[]) (y:=z) (by rw [he];rfl)
     have h0:=ZjJ he
     exact ⟨[],by rw [←h0];rfl⟩
    | cons a ys =>
     simp only [List.cons_append,List.cons.injEq] at h
     obtain ⟨p,hp⟩:=ZhW x (l:=l) (ys:=z::ys) (y:=y) (by rw [he,h.2];rfl)
     exact ⟨c::p,by rw [hp];rfl⟩
theorem Zl7 : ∀ {y:Bs}(hy:y≠[]),y.drop (y.length-1)=[y.getLast hy]
 | [c],_=>rfl
 | c::d::l,_=>by have:=Zl7 (y:=d::l) (by simp);simpa using this
theorem ZrO {s:ByteArray}{p y:Bs}(h:aB s=p++y) (hy:y≠[]) : ∃ c∈y,ZcT s=(c.toNat:Int):=by
 refine ⟨y.getLast hy,List.getLast_mem hy,?_⟩
 have hl:s.size=p.length+y.length:=by rw [←Zep,h,List.length_append]
 have hp:0<y.length:=List.length_pos_iff.2 hy
 have h0:s.size-1<s.size:=by omega
 have e1:(aB s).drop (s.size-1)=ZaL s (s.size-1)::(aB s).drop (s.size-1+1):=Zfj h0
 have e2:(aB s).drop (s.size-1)=[y.getLast hy]:=by
  rw [h,show s.size-1=p.length+(y.length-1) by omega,List.drop_append,List.drop_of_length_le (by omega),List.nil_append,Nat.add_sub_cancel_left]
  exact Zl7 hy
 rw [e2] at e1
 simp only [List.cons.injEq] at e1
 unfold ZcT ZcU
 rw [e1.1]
theorem ZlP {s:ByteArray}{a b n:Int}(h:numV s a b=some n):wi s.size a b=true∧allB digB s=true∧n=decL 0 (aB s):=by
 unfold numV at h
 split at h
 ·rename_i hc;cases h;exact ⟨hc.1,hc.2,rfl⟩
 ·cases h
theorem Zq4 {s:ByteArray}{n:Int}(h:sixV s=some n):s.size=2∧allB digB s=true∧n=decL 0 (aB s)∧n≤59:=by
 unfold sixV at h
 split at h
 ·rename_i m hm
  obtain ⟨h1,h2,h3⟩:=ZlP hm
  split at h
  ·cases h
  ·cases h
   unfold wi at h1
   simp at h1
   exact ⟨by omega,h2,h3,by omega⟩
 ·cases h
theorem Zk9 {p:Int→Bool}{l:Bs}(h:allB p (bA l)=true) {c:UInt8}(hc:c∈l):p c.toNat=true:=by
 unfold allB at h
 rw [List.all_eq_true] at h
 exact h c (by simpa [bA] using hc)
theorem Zlx {s:ByteArray}{n:Int}(h:ZfR s=some n):s.size≠0∧digB (ZcT s)=true:=by
 have key : ∀ {ys:List Bs} {y:Bs} {m:Int},cutC 58 (aB s)=ys++[y]→sixV (bA y)=some m→s.size≠0∧digB (ZcT s)=true:=by
  intro ys y m h1 h2
  obtain ⟨p,hp⟩:=ZhW 58 h1
  obtain ⟨z1,z2,_⟩:=Zq4 h2
  rw [Zed] at z1
  obtain ⟨c,hc,e⟩:=ZrO hp (by rintro rfl;simp at z1)
  refine ⟨fun e0=>?_,by rw [e];exact Zk9 z2 hc⟩
  have:=congrArg List.length hp
  rw [Zep,List.length_append] at this;omega
 unfold ZfR at h
 split at h
 ·rename_i e;subst e;decide
 ·split at h
  ·rename_i a b hc
   split at h
   ·rename_i x y h1 h2;exact key (ys:=[a]) hc h2
   ·cases h
  ·rename_i a b c hc
   split at h
   ·rename_i x y z h1 h2 h3;exact key (ys:=[a,b]) hc h3
   ·cases h
  ·cases h
theorem agr_at {α:Type}{f:TS→α×TS}{o:Option α}(h:Agr f (ZcM o)) (l:List ByteArray):AgO o (f (l,false)) l:=by
 have:=(h l).2
 unfold ZcM at this
 unfold AgO
 cases o <;> exact this
theorem Zme {d:Int}(hd:d=1∨d=2) (s:ByteArray):Agr (Zea d s) (ZcM (ZoL d s)):=by
 refine Agr.lift (fun t h=>?_) (fun l=>?_)
 ·unfold Zea
  split
  ·exact Zcy h
  ·split
   ·exact Zcy h
   ·refine Zcy ?_
    split
    ·exact h
    ·rfl
 ·have hS:=agr_at (Zfy s) l
  have hX:=agr_at (Zfy (s.extract 0 (s.size-1))) l
  unfold Zea ZoL
  by_cases h0:s.size=0
  ·rw [if_pos h0,if_pos h0]
   cases h1:ZfR s with
   | none=>rw [h1] at hS;exact hS
   | some n=>exact absurd h0 (Zlx h1).1
  ·rw [if_neg h0,if_neg h0,kindU3]
   cases hk:wsuK (ZcT s) with
   | none =>
    simp only [Option.getD_none]
    cases h1:ZfR s with
    | none =>
     rw [h1] at hS
     by_cases hdg:digB (ZcT s)=true
     ·rw [if_pos hdg];exact hS
     ·rw [if_neg hdg]
      by_cases e:ZcT s=ZcU wsuA d.toNat
      ·exfalso
       have:=wsu_lit d (by omega)
       rw [←e,hk] at this;cases this
      ·rw [if_neg e]
       exact Zcy (t:=bad (l,false)) rfl
    | some n =>
     rw [h1] at hS
     rw [if_pos (Zlx h1).2]
     have hS':ZbN s (l,false)=(n,l,false):=hS
     rw [hS'];rfl
   | some k =>
    obtain ⟨w1,w2,w3,w4⟩:=wsuK_dig hk
    simp only [Option.getD_some]
    rw [if_neg (by rw [w1];exact Bool.false_ne_true),if_pos w4]
    cases h1:ZfR (s.extract 0 (s.size-1)) with
    | none=>rw [h1] at hX;exact hX
    | some n =>
     rw [h1] at hX
     have hX':ZbN (s.extract 0 (s.size-1)) (l,false)=(n,l,false):=hX
     rw [hX'];rfl
theorem agr_to (f:Int) (s:ByteArray):Agr (tTo f s) (ZcM (toV f s)):=by
 unfold tTo toV
 split
 ·exact Agr.lift (fun t h=>h) (fun l=>rfl)
 ·split
  ·exact Agr.lift (fun t h=>h) (fun l=>rfl)
  ·exact Zla s 4 4
theorem agr_name:Agr Ze2 Zrk:=by
 refine (Agr.bind agr_next (k:=fun s t=>(s,if ZcF s=true then t else bad t)) fun s=>?_:Agr (Zch ZaW _) _)
 refine Agr.lift (fun t h=>by dsimp only;split;exact h;rfl) (fun l=>?_)
 cases ZcF s <;> rfl
theorem agr_month:Agr ZdQ Zrl:=by
 refine (Agr.bind agr_next (k:=fun s t=>match idxL monL s 1 with
  | some n=>(n,t)
  | none=>(0,bad t)) fun s=>?_:Agr (Zch ZaW _) _)
 refine Agr.lift (fun t h=>by split;exact h;rfl) (fun l=>?_)
 cases idxL monL s 1 <;> rfl
theorem agr_letter:Agr Zdu (Zb4 Zex fun s=>ZcM (Zm5 s)):=by
 refine (Agr.bind agr_next (k:=fun s t=>(if s=bA [45] then ⟨#[]⟩ else s,if Ze9 s=true then t else bad t)) fun s=>?_:Agr (Zch ZaW _) _)
 refine Agr.lift (fun t h=>by dsimp only;generalize Ze9 s=b;cases b;rfl;exact h) (fun l=>?_)
 unfold Zm5
 cases Ze9 s <;> rfl
theorem agr_rule:Agr Zkr rRule:=by
 refine agr_name.bind fun nm=>?_
 refine (agr_next.bind fun s=>Zla s 4 4).bind fun f=>?_
 refine (agr_next.bind fun s=>agr_to f s).bind fun t2=>?_
 refine agr_month.bind fun m=>?_
 refine (agr_next.bind fun s=>agr_form s).bind fun k=>?_
 refine (agr_next.bind fun s=>Zme (.inl rfl) s).bind fun c=>?_
 refine (agr_next.bind fun s=>Zfy s).bind fun sv=>?_
 exact agr_letter.bind fun l=>Agr.ret _
theorem agr_shift:Agr Zgf (Zb4 Zex fun s=>ZcM (Zq5 s)):=by
 refine (Agr.bind agr_next (k:=fun s t=>if s.size≠0∧ZhD s=45 then (-(ZbN (s.extract 1 s.size) t).1,(ZbN (s.extract 1 s.size) t).2) else ZbN s t) fun s=>?_:Agr (Zch ZaW _) _)
 unfold Zq5
 split
 ·refine Agr.lift (fun t h=>Zcy h) (fun l=>?_)
  have hS:=(Zfy (s.extract 1 s.size) l).2
  unfold ZcM at hS
  cases h1:ZfR (s.extract 1 s.size) with
  | none=>simp only [h1] at hS ⊢;exact hS
  | some n=>simp only [h1] at hS ⊢;rw [hS];rfl
 ·exact Zfy s
theorem Zry:ZcF (bA [48])=false:=by decide
theorem Zsv (s:ByteArray):Agr (Zd9 s) (ZcM (Zq8 s)):=by
 unfold Zd9 Zq8
 split
 ·exact Agr.lift (fun t h=>h) (fun l=>rfl)
 ·split
  ·rename_i hm hd
   by_cases h0:s=bA [48]
   ·rw [if_neg (by rintro ⟨_,_,h⟩;exact h h0),if_neg (by rw [h0,Zry];simp)]
    refine Agr.lift (fun t h=>Zcy (by rw [if_pos h0])) (fun l=>?_)
    exact Zcy (by rw [if_pos h0])
   ·rw [if_pos ⟨hd.1,hd.2,h0⟩]
    simp only [if_neg h0]
    refine Agr.lift (fun t h=>Zcy h) (fun l=>?_)
    have hS:=(Zfy s l).2
    unfold ZcM at hS
    cases h1:ZfR s with
    | none=>simp only [h1] at hS ⊢;exact hS
    | some n=>simp only [h1] at hS ⊢;rw [hS];rfl
  ·rename_i hm hd
   rw [if_neg (by rintro ⟨h1,h2,_⟩;exact hd ⟨h1,h2⟩)]
   refine Agr.lift (fun t h=>by dsimp only;split;exact h;rfl) (fun l=>?_)
   cases ZcF s <;> rfl
theorem agr_format:Agr Zh6 (Zb4 Zex fun s=>ZcM (if ZbF s=true then some s else none)):=by
 refine (Agr.bind agr_next (k:=fun s t=>(s,if ZbF s=true then t else bad t)) fun s=>?_:Agr (Zch ZaW _) _)
 refine Agr.lift (fun t h=>by dsimp only;split;exact h;rfl) (fun l=>?_)
 cases ZbF s <;> rfl
theorem Zsu:Agr Zho Zrj:=by
 refine (agr_next.bind fun s=>Zla s 4 4).bind fun y=>?_
 refine agr_month.bind fun m=>?_
 refine (agr_next.bind fun s=>Zla s 1 2).bind fun d=>?_
 refine (agr_next.bind fun s=>Zme (.inr rfl) s).bind fun c=>?_
 refine Agr.bind (Agr.lift (fun t h=>?_) (fun l=>?_)) fun _=>Agr.ret _
 ·unfold ZqP;dsimp only;split <;> simp_all
 ·unfold ZqP;by_cases h:c.2=1 <;> simp [h] <;> rfl
theorem agr_end:Agr tEnd rEnd:=by
 intro l
 have hU:=Zsu l
 unfold tEnd rEnd
 by_cases h0:l=[]
 ·subst h0;exact ⟨rfl,rfl⟩
 ·simp only [if_neg h0]
  refine ⟨hU.1,?_⟩
  revert hU
  cases Zrj l with
  | none=>exact fun hU=>hU.2
  | some p=>intro hU;have h2:=hU.2;simp only at h2 ⊢;rw [h2]
theorem agr_era:Agr tEra rEra:=by
 refine agr_shift.bind fun sh=>?_
 refine (agr_next.bind fun s=>Zsv s).bind fun r=>?_
 refine agr_format.bind fun f=>?_
 exact agr_end.bind fun u=>Agr.ret _
end Go.Proofs.YthdifaphoaekoaaGreatDoor
end
section
namespace Go.Proofs.YthdifaphoaekoaaGreatDoor
open Go.Ab
def refN (n:Int):Bool:=letB n||digB n||decide (n=95)||decide (n=45)||decide (n=47)||decide (n=43)
theorem Zrz (c:UInt8):ZlR c.toNat=refN c.toNat:=by
 have hc:((c.toNat:Int).toNat.toUInt8)=c:=by simp
 unfold ZlR refN
 rw [hc,←Lib.contains_iff_indexByte]
 have e : ∀ x:UInt8,decide ((c.toNat:Int)=(x.toNat:Int))=(c==x):=by
  intro x
  rw [Bool.eq_iff_iff,decide_eq_true_iff,beq_iff_eq]
  exact ⟨fun h=>UInt8.toNat_inj.1 (by omega),fun h=>by rw [h]⟩
 rw [show (95:Int)=((95:UInt8).toNat:Int) from rfl,show (45:Int)=((45:UInt8).toNat:Int) from rfl,show (47:Int)=((47:UInt8).toNat:Int) from rfl,show (43:Int)=((43:UInt8).toNat:Int) from rfl,e,e,e,e]
 simp [List.contains_cons,Bool.or_assoc] <;> rfl
def fmtL:Nat→Bool→Bs→Bool
 | m,_,[]=>decide (m≤1)
 | m,b,c::l=>if c=47 then !b&&!l.isEmpty&&fmtL (m+1) false l else if c=37 then decide (l.head?=some 115)&&fmtL (m+1) false l else ZbB c.toNat&&fmtL m false l
abbrev plL (l:Bs):Bool:=allB ZbB (bA l)
theorem ZmY:plL []=true:=rfl
theorem Zgo (c:UInt8) (l:Bs):plL (c::l)=(ZbB c.toNat&&plL l):=by simp [plL,allB,bA]
theorem pl47:ZbB (47:UInt8).toNat=false:=by decide
theorem pl37:ZbB (37:UInt8).toNat=false:=by decide
theorem pl115:ZbB (115:UInt8).toNat=true:=by decide
theorem pl115':ZbB 115=true:=by decide
theorem Znb : ∀ (l:Bs) (m:Nat) (b:Bool),2≤m→fmtL m b l=false
 | [],m,b,h=>by unfold fmtL;simp;omega
 | c::l,m,b,h=>by
  unfold fmtL
  rw [Znb l (m+1) false (by omega),Znb l m false h]
  simp
theorem ZkU : ∀ (l:Bs),fmtL 1 false l=plL l
 | []=>rfl
 | c::l=>by
  unfold fmtL
  rw [Znb l (1+1) false (by omega),ZkU l,Zgo]
  split
  ·rename_i h;subst h;rw [pl47];simp
  ·split
   ·rename_i h;subst h;rw [pl37];simp
   ·rfl
theorem plL_no {c:UInt8}{l:Bs}(h:ZbB c.toNat=false) (hc:c∈l):plL l=false:=by
 cases hp:plL l
 ·rfl
 ·rw [Zk9 hp hc] at h;cases h
def cutP (l:Bs):Bool:=plL (Lib.cut l [37,115]).1&&plL (Lib.cut l [37,115]).2.1
theorem Znl (l:Bs):cutP l=if 0≤Lib.index l [37,115] then plL (l.take (Lib.index l [37,115]).toNat)&&plL (l.drop ((Lib.index l [37,115]).toNat+2)) else plL l:=by
 unfold cutP Lib.cut
 split <;> simp [ZmY]
theorem Zpn {c:UInt8}{l sub:Bs}(h:sub.isPrefixOf (c::l)=false):Lib.index (c::l) sub=if Lib.index l sub = -1 then -1 else Lib.index l sub+1:=by
 rw [Lib.index,h];simp
theorem Zl9 {c:UInt8}{l:Bs}(h:[37,115].isPrefixOf (c::l)=false):cutP (c::l)=(ZbB c.toNat&&cutP l):=by
 have hge:=Lib.index_ge l [37,115]
 rw [Znl,Znl,Zpn h]
 by_cases e:Lib.index l [37,115] = -1
 ·rw [e];simp [Zgo]
 ·obtain ⟨k,hk⟩ : ∃ k:Nat,Lib.index l [37,115]=k:=⟨(Lib.index l [37,115]).toNat,by omega⟩
  rw [hk]
  rw [if_neg (show ¬(k:Int) = -1 by omega),if_pos (by omega),if_pos (by omega)]
  rw [show ((k:Int)+1).toNat=k+1 by omega,show ((k:Int)).toNat=k by omega]
  rw [List.take_succ_cons,Zgo,show k+1+2=(k+2)+1 by omega,List.drop_succ_cons,Bool.and_assoc]
theorem ZrZ : ∀ (l:Bs) (b:Bool),47 ∉ l→fmtL 0 b l=cutP l
 | [],b,h=>rfl
 | c::l,b,h=>by
  have hc:c≠47:=fun e=>h (by simp [e])
  have hl:47 ∉ l:=fun e=>h (by simp [e])
  unfold fmtL
  rw [if_neg hc]
  by_cases hp:c=37
  ·subst hp
   rw [if_pos rfl]
   cases l with
   | nil=>decide
   | cons d l =>
    by_cases hd:d=115
    ·subst hd
     rw [ZkU,Znl]
     have e:Lib.index (37::115::l) [37,115]=0:=by unfold Lib.index;simp [List.isPrefixOf]
     rw [e]
     simp [ZmY,Zgo,pl115,pl115']
    ·rw [Zl9 (by simp [List.isPrefixOf];exact fun e=>hd e.symm),pl37]
     simp [hd]
  ·rw [if_neg hp,Zl9 (by simp [List.isPrefixOf];intro e;exact absurd e.symm hp),ZrZ l false hl]
theorem Zl2 : ∀ (l:Bs) (b:Bool),47∈l → ∃ k:Nat,Lib.index l [47]=k∧fmtL 0 b l=(!(b&&decide (k=0))&&!(l.drop (k+1)).isEmpty&&plL (l.take k)&&plL (l.drop (k+1)))
 | [],b,h=>by cases h
 | c::l,b,h=>by
  by_cases hc:c=47
  ·subst hc
   refine ⟨0,by unfold Lib.index;simp [List.isPrefixOf],?_⟩
   unfold fmtL
   rw [if_pos rfl,ZkU]
   simp [ZmY]
  ·have hl:47∈l:=by
    rcases List.mem_cons.1 h with e | e
    ·exact absurd e.symm hc
    ·exact e
   obtain ⟨k,hk,hf⟩:=Zl2 l false hl
   refine ⟨k+1,?_,?_⟩
   ·unfold Lib.index
    rw [hk]
    rw [if_neg (by simp [List.isPrefixOf];exact fun e=>hc e.symm),if_neg (by simp)]
    push_cast;rfl
   ·unfold fmtL
    rw [if_neg hc,List.take_succ_cons,List.drop_succ_cons,Zgo]
    by_cases hp:c=37
    ·subst hp
     rw [if_pos rfl,ZkU,plL_no pl47 hl,pl37]
     simp
    ·rw [if_neg hp,hf]
     simp only [Bool.false_and,Bool.not_false,Bool.true_and]
     cases ZbB c.toNat <;> simp
theorem Zjz (l:Bs):(!l.isEmpty)=decide (bA l≠⟨#[]⟩):=by
 cases l with
 | nil=>rfl
 | cons c l =>
  have:bA (c::l)≠⟨#[]⟩:=fun e=>by
   have:=congrArg ByteArray.size e
   rw [Zed] at this;cases this
  simp [this]
theorem Zna (s:ByteArray):ZbF s=(decide (s.size≠0)&&decide (s.size≤24)&&fmtL 0 true (aB s)):=by
 unfold ZbF
 by_cases hs:s.size=0∨24<s.size
 ·rw [if_pos hs]
  rcases hs with h | h
  ·simp [h]
  ·simp [show ¬s.size≤24 by omega]
 ·rw [if_neg hs]
  have h1:s.size≠0:=fun e=>hs (.inl e)
  have h2:s.size≤24:=by omega
  simp only [h1,h2,ne_eq,not_false_eq_true,decide_true,Bool.true_and]
  by_cases hm:(47:UInt8)∈aB s
  ·obtain ⟨k,hk,hf⟩:=Zl2 (aB s) true hm
   have hcut:cutL s [47]=((aB s).take k,(aB s).drop (k+1),true):=by
    unfold cutL Lib.cut
    rw [hk,if_pos (by omega)]
    simp
   rw [hcut,hf,if_pos rfl]
   simp only
   rw [Zjz]
   have e:decide (bA ((aB s).take k)≠⟨#[]⟩)=!(true&&decide (k=0)):=by
    rw [←Zjz]
    cases k with
    | zero=>rfl
    | succ k =>
     have:0<(aB s).length:=by rw [Zep];omega
     cases hq:aB s with
     | nil=>rw [hq] at this;cases this
     | cons c l=>simp
   rw [e]
  ·have hi:Lib.index (aB s) [47] = -1:=by
    have hge:=Lib.index_ge (aB s) [47]
    by_cases e:Lib.index (aB s) [47] = -1
    ·exact e
    ·obtain ⟨k,hk⟩ : ∃ k:Nat,Lib.index (aB s) [47]=k:=⟨(Lib.index (aB s) [47]).toNat,by omega⟩
     obtain ⟨_,hk1,hk2⟩:=ZeD hk
     exact absurd (List.mem_of_getElem? hk2) hm
   have hcut:(cutL s [47]).2.2=false:=by
    unfold cutL Lib.cut
    rw [hi];rfl
   rw [if_neg (by rw [hcut];simp),ZrZ _ _ hm]
   rfl
end Go.Proofs.YthdifaphoaekoaaGreatDoor
end
section
namespace Go.Proofs.YthdifaphoaekoaaGreatDoor
open Go.Ab Go.RowKit Civ
def c150:AC:=(Sr [Mb 2 false] (Sr [Mv 3 0,Oo 4 (.cvi .i64 (.tmp 3)),Cl 5 72 [(.tmp 4),(Ci 97),(Ci 122)],Mv 6 5,Of 7 6 (mt 0),Of 8 6 (.cvi .i64 (.tmp 7)),Of 9 6 (.call (.func 72) [(.tmp 8),(Ci 65),(Ci 90)]),Oo 10 (.pick (.tmp 6) (.const (.bool true)) (.tmp 9)),Mv 2 10] .ret))
theorem k150:ZaD Tryz.prog 150=some ⟨c150,[(.tmp 2)],11⟩:=by kernel_rfl
def c151:AC:=(Sr [Mb 2 false] (Sr [Mv 3 0,Oo 4 (.cvi .i64 (.tmp 3)),Cl 5 72 [(.tmp 4),(Ci 48),(Ci 57)],Mv 2 5] .ret))
theorem k151:ZaD Tryz.prog 151=some ⟨c151,[(.tmp 2)],6⟩:=by kernel_rfl
def c108:AC:=(Sr [Mb 2 false] (.seq (Sr [Mv 5 0,Oo 6 (.bin .eql (.tmp 5) (.const (.string ⟨#[]⟩))),Mv 7 6,Of 8 7 (mt 0),Of 9 7 (.len true (.tmp 8)),Of 10 7 (.bin .gtr (.tmp 9) (Ci 24)),Oo 11 (.pick (.tmp 7) (.const (.bool true)) (.tmp 10)),Mv 12 11,Of 13 12 (mt 0),Of 14 12 (.ix (.tmp 13) (Ci 0)),Of 15 12 (.call (.func 150) [(.tmp 14)]),Of 16 12 (.un .not (.tmp 15)),Oo 17 (.pick (.tmp 12) (.const (.bool true)) (.tmp 16))] (Cd 17 (Sr [Mb 2 false] .ret) .skip)) (.seq (Sr [Mc 3 0] (.block 0 (.loop (.seq (Sr [Mv 18 3,Mv 19 0,Oo 20 (.len true (.tmp 19)),Bn 21 .lss 18 20] (Cd 21 .skip (.exit 0))) (.seq (.block 1 (Sr [Mv 24 0,Mv 25 3,Oo 26 (.ix (.tmp 24) (.tmp 25)),Mv 4 26] (Sr [Mv 27 4,Cl 28 150 [(.tmp 27)],Oo 29 (.un .not (.tmp 28)),Mv 30 29,Ot 31 30 (mt 4),Ot 32 30 (.call (.func 151) [(.tmp 31)]),Ot 33 30 (.un .not (.tmp 32)),Oo 34 (.pick (.tmp 30) (.tmp 33) (.const (.bool false))),Mv 35 34,Ot 36 35 (mt 4),Ot 37 35 (.bin .neq (.tmp 36) (.const (.int .u8 95))),Oo 38 (.pick (.tmp 35) (.tmp 37) (.const (.bool false))),Mv 39 38,Ot 40 39 (mt 4),Ot 41 39 (.bin .neq (.tmp 40) (.const (.int .u8 45))),Oo 42 (.pick (.tmp 39) (.tmp 41) (.const (.bool false))),Mv 43 42,Ot 44 43 (mt 4),Ot 45 43 (.bin .neq (.tmp 44) (.const (.int .u8 47))),Oo 46 (.pick (.tmp 43) (.tmp 45) (.const (.bool false))),Mv 47 46,Ot 48 47 (mt 4),Ot 49 47 (.bin .neq (.tmp 48) (.const (.int .u8 43))),Oo 50 (.pick (.tmp 47) (.tmp 49) (.const (.bool false)))] (Cd 50 (Sr [Mb 2 false] .ret) .skip)))) (.reg [Mv 22 3,Bc 23 .add 22 1,Mv 3 23])))))) (Sr [Mb 2 true] .ret))))
theorem k108:ZaD Tryz.prog 108=some ⟨c108,[(.tmp 2)],51⟩:=by kernel_rfl
def c149:AC:=(Sr [Mb 2 false] (.seq (Sr [Mc 3 0] (.block 0 (.loop (.seq (Sr [Mv 4 3,Mv 5 0,Oo 6 (.len true (.tmp 5)),Bn 7 .lss 4 6] (Cd 7 .skip (.exit 0))) (.seq (.block 1 (Sr [Mv 10 0,Mv 11 3,Oo 12 (.ix (.tmp 10) (.tmp 11)),Cl 13 150 [(.tmp 12)],Oo 14 (.un .not (.tmp 13))] (Cd 14 (Sr [Mb 2 false] .ret) .skip))) (.reg [Mv 8 3,Bc 9 .add 8 1,Mv 3 9])))))) (Sr [Mv 15 0,Oo 16 (.len true (.tmp 15)),Bc 17 .leq 16 24,Mv 2 17] .ret)))
theorem k149:ZaD Tryz.prog 149=some ⟨c149,[(.tmp 2)],18⟩:=by kernel_rfl
def c121:AC:=(Sr [Mb 2 false] (.seq (Sr [Mc 3 0] (.block 0 (.loop (.seq (Sr [Mv 4 3,Mv 5 0,Oo 6 (.len true (.tmp 5)),Bn 7 .lss 4 6] (Cd 7 .skip (.exit 0))) (.seq (.block 1 (Sr [Mv 10 0,Mv 11 3,Oo 12 (.ix (.tmp 10) (.tmp 11)),Cl 13 150 [(.tmp 12)],Oo 14 (.un .not (.tmp 13)),Mv 15 14,Ot 16 15 (mt 0),Ot 17 15 (mt 3),Ot 18 15 (.ix (.tmp 16) (.tmp 17)),Ot 19 15 (.call (.func 151) [(.tmp 18)]),Ot 20 15 (.un .not (.tmp 19)),Oo 21 (.pick (.tmp 15) (.tmp 20) (.const (.bool false))),Mv 22 21,Ot 23 22 (mt 0),Ot 24 22 (mt 3),Ot 25 22 (.ix (.tmp 23) (.tmp 24)),Ot 26 22 (.bin .neq (.tmp 25) (.const (.int .u8 43))),Oo 27 (.pick (.tmp 22) (.tmp 26) (.const (.bool false))),Mv 28 27,Ot 29 28 (mt 0),Ot 30 28 (mt 3),Ot 31 28 (.ix (.tmp 29) (.tmp 30)),Ot 32 28 (.bin .neq (.tmp 31) (.const (.int .u8 45))),Oo 33 (.pick (.tmp 28) (.tmp 32) (.const (.bool false)))] (Cd 33 (Sr [Mb 2 false] .ret) .skip))) (.reg [Mv 8 3,Bc 9 .add 8 1,Mv 3 9])))))) (Sr [Mb 2 true] .ret)))
theorem k121:ZaD Tryz.prog 121=some ⟨c121,[(.tmp 2)],34⟩:=by kernel_rfl
def c152:AC:=(Sr [Mb 2 false] (Sr [Mc 3 0] (.seq (Sr [Mc 4 0] (.block 0 (.loop (.seq (Sr [Mv 5 4,Mv 6 0,Oo 7 (.len true (.tmp 6)),Bn 8 .lss 5 7] (Cd 8 .skip (.exit 0))) (.seq (.block 1 (.block 2 (Sr [Mv 12 0,Mv 13 4,Oo 14 (.ix (.tmp 12) (.tmp 13)),Oo 15 (.bin .eql (.tmp 14) (.const (.int .u8 47))),Mv 11 15] (Cd 11 (Sr [Mv 16 3,Bc 17 .add 16 1,Mv 3 17] (Sr [Mv 18 4,Bc 19 .eql 18 0,Mv 20 19,Of 21 20 (mt 4),Of 22 20 (mt 0),Of 23 20 (.len true (.tmp 22)),Of 24 20 (.bin .sub (.tmp 23) (Ci 1)),Of 25 20 (.bin .eql (.tmp 21) (.tmp 24)),Oo 26 (.pick (.tmp 20) (.const (.bool true)) (.tmp 25))] (Cd 26 (Sr [Mb 2 false] .ret) .skip))) (Sr [Mv 28 0,Mv 29 4,Oo 30 (.ix (.tmp 28) (.tmp 29)),Oo 31 (.bin .eql (.tmp 30) (.const (.int .u8 37))),Mv 27 31] (Cd 27 (Sr [Mv 32 3,Bc 33 .add 32 1,Mv 3 33] (Sr [Mv 34 4,Mv 35 0,Oo 36 (.len true (.tmp 35)),Bc 37 .sub 36 1,Bn 38 .eql 34 37,Mv 39 38,Of 40 39 (mt 0),Of 41 39 (mt 4),Of 42 39 (.bin .add (.tmp 41) (Ci 1)),Of 43 39 (.ix (.tmp 40) (.tmp 42)),Of 44 39 (.bin .neq (.tmp 43) (.const (.int .u8 115))),Oo 45 (.pick (.tmp 39) (.const (.bool true)) (.tmp 44))] (Cd 45 (Sr [Mb 2 false] .ret) .skip))) (Sr [Mv 47 0,Mv 48 4,Mv 49 4,Bc 50 .add 49 1,Oo 51 (.sls (.tmp 47) (some (.tmp 48)) (some (.tmp 50))),Cl 52 121 [(.tmp 51)],Oo 53 (.un .not (.tmp 52)),Mv 46 53] (Cd 46 (Sr [Mb 2 false] .ret) .skip)))))))) (.reg [Mv 9 4,Bc 10 .add 9 1,Mv 4 10])))))) (Sr [Mv 54 0,Oo 55 (.bin .neq (.tmp 54) (.const (.string ⟨#[]⟩))),Mv 56 55,Ot 57 56 (mt 0),Ot 58 56 (.len true (.tmp 57)),Ot 59 56 (.bin .leq (.tmp 58) (Ci 24)),Oo 60 (.pick (.tmp 56) (.tmp 59) (.const (.bool false))),Mv 61 60,Ot 62 61 (mt 3),Ot 63 61 (.bin .leq (.tmp 62) (Ci 1)),Oo 64 (.pick (.tmp 61) (.tmp 63) (.const (.bool false))),Mv 2 64] .ret))))
theorem k152:ZaD Tryz.prog 152=some ⟨c152,[(.tmp 2)],65⟩:=by kernel_rfl
theorem Zev {n:Int}{h:AH}(h0:0≤n) (h1:n≤255):Ac 150 [uv n] h (bv (letB n)):=by
 refine tI' k150 fun N hn hlt hlA hbd=>?_
 simp only [tb'] at hbd ⊢
 refine wr'<|mv' lkb pt<|sn'<|wr'<|mv' lk pt<|?_
 refine V' (ZhY lk (by omega) (by omega)) pt ?_
 refine Zae mp (Za4) pt<|mv' lk pt<|?_
 refine ZaM (t:=6) gt pt pt (fun hg6=>?_) (fun hg6=>?_)
 ·refine s_no gt pt<|s_no gt pt<|s_no gt pt<|V' (Zai lk lkb) pt<|mv' lk pt<|sn'<|Zaa<|Zag rz<|rT'<|?_
  refine bvx ?_;unfold wi at *;unfold letB;rw [Bool.eq_iff_iff];simp at *;omega
 refine s_do gt<|mv' lk pt<|s_do gt<|?_
 refine V' (ZhY lk (by omega) (by omega)) pt ?_
 refine s_do gt<|Zae mp (Za4) pt<|V' (Zak lk lk) pt<|mv' lk pt<|sn'<|Zaa<|Zag rz<|rT'<|?_
 refine bvx ?_;unfold wi at *;unfold letB;rw [Bool.eq_iff_iff];simp at *;omega
theorem Zek {n:Int}{h:AH}(h0:0≤n) (h1:n≤255):Ac 151 [uv n] h (bv (digB n)):=by
 refine tI' k151 fun N hn hlt hlA hbd=>?_
 simp only [tb'] at hbd ⊢
 refine wr'<|mv' lkb pt<|sn'<|wr'<|mv' lk pt<|?_
 refine V' (ZhY lk (by omega) (by omega)) pt ?_
 refine Zae mp (Za4) pt<|mv' lk pt<|sn'<|Zaa<|Zag rz<|rT'<|?_
 refine bvx ?_;unfold wi digB;rw [Bool.eq_iff_iff];simp
theorem Zfh (s:ByteArray) (k:Nat):(0:Int)≤((ZaL s k).toNat:Int)∧((ZaL s k).toNat:Int)≤255:=by
 have:=(ZaL s k).toNat_lt
 omega
theorem ZmQ {s:ByteArray}{h:AH}(hs:s.size≤maxLen):Ac 121 [sv s] h (bv (allB ZbB s)):=by
 have hm:s.size≤9223372036854775807:=by simpa [maxLen] using hs
 refine tI' k121 fun N hn hlt hlA hbd=>?_
 simp only [tb'] at hbd ⊢
 refine wr'<|mv' lkb pt<|sn'<|Zah<|wr'<|mv' lki pt<|sn'<|Zan<|?_
 refine w_lp (ι:=Nat) (fun (k:Nat)=>[(3,iv (k:Int)),(2,.any)]++rn' 4 30) (fun (k:Nat)=>[]) (fun (k:Nat)=>k≤s.size ∧ ∀ j (hj:j<s.size),j<k→ZbB s[j].toNat=true) (fun (k:Nat)=>s.size-k) (0) (by exact ⟨by omega,fun j hj h0=>absurd h0 (by omega)⟩) ?_
 rintro k hi1
 try simp only [sm',Nat.reduceAdd]
 obtain ⟨hk1,hk2⟩:=hi1
 refine Zah<|wr'<|mv' lk pt<|mv' lk pt<|V' (Zbm lk) pt<|V' (ZaZ lk lk) pt<|sn'<|?_
 refine cd' lk (fun hc1=>?_) (fun hc1=>?_)
 ·have hk:k<s.size:=by omega
  have hb:=Zfh s k
  have hbk:ZaL s k=s[k]:=ZcQ hk
  refine Zad<|Zaf<|Zah<|Zan<|wr'<|mv' lk pt<|mv' lk pt<|?_
  refine V' (v_ix lk lk (by omega) (by omega)) pt ?_
  refine Zae mp (Zev hb.1 hb.2) pt<|V' (ZaC lk) pt<|mv' lk pt<|?_
  refine ZaM (t:=15) gt pt pt (fun hg15=>?_) (fun hg15=>?_)
  ·refine s_do gt<|mv' lk pt<|s_do gt<|mv' lk pt<|s_do gt<|?_
   refine V' (v_ix lk lk (by omega) (by omega)) pt ?_
   refine s_do gt<|Zae mp (Zek hb.1 hb.2) pt<|s_do gt<|V' (ZaC lk) pt<|V' (Zai lk lk) pt<|mv' lk pt<|?_
   refine ZaM (t:=22) gt pt pt (fun hg22=>?_) (fun hg22=>?_)
   ·refine s_do gt<|mv' lk pt<|s_do gt<|mv' lk pt<|s_do gt<|?_
    refine V' (v_ix lk lk (by omega) (by omega)) pt ?_
    refine s_do gt<|V' (Za5 lk lki) pt<|V' (Zai lk lk) pt<|mv' lk pt<|?_
    refine sp' (t:=28) gt pt pt (fun hg28=>?_) (fun hg28=>?_)
    ·refine s_do gt<|mv' lk pt<|s_do gt<|mv' lk pt<|s_do gt<|?_
     refine V' (v_ix lk lk (by omega) (by omega)) pt ?_
     refine s_do gt<|V' (Za5 lk lki) pt<|V' (Zai lk lk) pt<|sn'<|?_
     refine cd' lk (fun hc2=>?_) (fun hc2=>?_)
     ·refine wr'<|mv' lkb pt<|sn'<|Zaa<|Zas<|Zaj<|Zaj<|Zas<|Zaj<|Zag rz<|rT'<|?_
      refine bvx ?_;rw [ZiJ (k:=k) hk (by rw [←hbk];unfold ZbB;simp at *;simp_all)]
     refine Zad<|Zay<|Zaf<|Zat<|mv' lk pt<|?_
     refine V' (Zav lk lki (by omega) (by omega)) pt ?_
     refine mv' lk pt<|Zaq<|ZaB<|?_
     refine lT' (k+1) (by (try dsimp only);refine ⟨by omega,fun j hj h0=>?_⟩;rcases Nat.lt_or_ge j k with e | e;exact hk2 j hj e;obtain rfl:j=k:=(by omega);rw [←hbk];unfold ZbB;simp_all)
    refine s_no gt pt<|s_no gt pt<|s_no gt pt<|s_no gt pt<|V' (Zak lk lkb) pt<|sn'<|ZaR lk<|Zad<|Zay<|Zaf<|Zat<|mv' lk pt<|?_
    refine V' (Zav lk lki (by omega) (by omega)) pt ?_
    refine mv' lk pt<|Zaq<|ZaB<|?_
    refine lT' (k+1) (by (try dsimp only);refine ⟨by omega,fun j hj h0=>?_⟩;rcases Nat.lt_or_ge j k with e | e;exact hk2 j hj e;obtain rfl:j=k:=(by omega);rw [←hbk];unfold ZbB;simp_all)
   refine s_no gt pt<|s_no gt pt<|s_no gt pt<|s_no gt pt<|V' (Zak lk lkb) pt<|mv' lk pt<|s_no gt pt<|s_no gt pt<|s_no gt pt<|s_no gt pt<|V' (Zak lk lkb) pt<|sn'<|ZaR lk<|?_
   refine Zad<|Zay<|Zaf<|Zat<|mv' lk pt<|?_
   refine V' (Zav lk lki (by omega) (by omega)) pt ?_
   refine mv' lk pt<|Zaq<|ZaB<|?_
   refine lT' (k+1) (by (try dsimp only);refine ⟨by omega,fun j hj h0=>?_⟩;rcases Nat.lt_or_ge j k with e | e;exact hk2 j hj e;obtain rfl:j=k:=(by omega);rw [←hbk];unfold ZbB;simp_all)
  refine s_no gt pt<|s_no gt pt<|s_no gt pt<|s_no gt pt<|s_no gt pt<|V' (Zak lk lkb) pt<|mv' lk pt<|s_no gt pt<|s_no gt pt<|s_no gt pt<|s_no gt pt<|V' (Zak lk lkb) pt<|mv' lk pt<|s_no gt pt<|?_
  refine s_no gt pt<|s_no gt pt<|s_no gt pt<|V' (Zak lk lkb) pt<|sn'<|ZaR lk<|Zad<|Zay<|Zaf<|Zat<|mv' lk pt<|?_
  refine V' (Zav lk lki (by omega) (by omega)) pt ?_
  refine mv' lk pt<|Zaq<|ZaB<|?_
  refine lT' (k+1) (by (try dsimp only);refine ⟨by omega,fun j hj h0=>?_⟩;rcases Nat.lt_or_ge j k with e | e;exact hk2 j hj e;obtain rfl:j=k:=(by omega);rw [←hbk];unfold ZbB;simp_all)
 refine ZaE<|Zaz<|Zaz<|ZaX<|Zaf<|wr'<|mv' lkb pt<|sn'<|Zaa<|Zag rz<|rT'<|?_
 refine bvx ?_;rw [Zgz fun j hj=>hk2 j hj (by omega)]
theorem Zhr {s:ByteArray}{h:AH}(hs:s.size≤maxLen):Ac 149 [sv s] h (bv (ZcA s)):=by
 have hm:s.size≤9223372036854775807:=by simpa [maxLen] using hs
 refine tI' k149 fun N hn hlt hlA hbd=>?_
 simp only [tb'] at hbd ⊢
 refine wr'<|mv' lkb pt<|sn'<|Zah<|wr'<|mv' lki pt<|sn'<|Zan<|?_
 refine w_lp (ι:=Nat) (fun (k:Nat)=>[(3,iv (k:Int)),(2,.any)]++rn' 4 11) (fun (k:Nat)=>[]) (fun (k:Nat)=>k≤s.size ∧ ∀ j (hj:j<s.size),j<k→letB s[j].toNat=true) (fun (k:Nat)=>s.size-k) (0) (by exact ⟨by omega,fun j hj h0=>absurd h0 (by omega)⟩) ?_
 rintro k hi1
 try simp only [sm',Nat.reduceAdd]
 obtain ⟨hk1,hk2⟩:=hi1
 refine Zah<|wr'<|mv' lk pt<|mv' lk pt<|V' (Zbm lk) pt<|V' (ZaZ lk lk) pt<|sn'<|?_
 refine cd' lk (fun hc1=>?_) (fun hc1=>?_)
 ·have hk:k<s.size:=by omega
  have hb:=Zfh s k
  have hbk:ZaL s k=s[k]:=ZcQ hk
  refine Zad<|Zaf<|Zah<|Zan<|wr'<|mv' lk pt<|mv' lk pt<|?_
  refine V' (v_ix lk lk (by omega) (by omega)) pt ?_
  refine Zae mp (Zev hb.1 hb.2) pt<|V' (ZaC lk) pt<|sn'<|?_
  refine Zaw lk (fun hc2=>?_) (fun hc2=>?_)
  ·refine wr'<|mv' lkb pt<|sn'<|Zaa<|Zas<|Zaj<|Zaj<|Zas<|Zaj<|Zag rz<|rT'<|?_
   refine bvx ?_;unfold ZcA;rw [ZiJ (k:=k) hk (by rw [←hbk];simp_all)];simp
  refine Zad<|Zay<|Zaf<|Zat<|mv' lk pt<|?_
  refine V' (Zav lk lki (by omega) (by omega)) pt ?_
  refine mv' lk pt<|Zaq<|ZaB<|?_
  refine lT' (k+1) (by (try dsimp only);refine ⟨by omega,fun j hj h0=>?_⟩;rcases Nat.lt_or_ge j k with e | e;exact hk2 j hj e;obtain rfl:j=k:=(by omega);rw [←hbk];simp_all)
 refine ZaE<|Zaz<|Zaz<|ZaX<|Zaf<|wr'<|mv' lk pt<|V' (Zbm lk) pt<|V' (Zc5 lk lki) pt<|mv' lk pt<|sn'<|Zaa<|?_
 refine Zag rz<|rT'<|?_
 refine bvx ?_;unfold ZcA;rw [Zgz fun j hj=>hk2 j hj (by omega)];rw [Bool.eq_iff_iff];simp;omega
theorem Zdk {s:ByteArray}{h:AH}(hs:s.size≤maxLen):Ac 108 [sv s] h (bv (ZcF s)):=by
 have hm:s.size≤9223372036854775807:=by simpa [maxLen] using hs
 have hem:=ZeH (f:=s)
 have hb0:=Zfh s 0
 refine tI' k108 fun N hn hlt hlA hbd=>?_
 simp only [tb'] at hbd ⊢
 refine wr'<|mv' lkb pt<|sn'<|Zah<|wr'<|mv' lk pt<|V' (Zci lk lks) pt<|mv' lk pt<|?_
 refine sp' (t:=7) gt pt pt (fun hg7=>?_) (fun hg7=>?_)
 ·refine s_no gt pt<|s_no gt pt<|s_no gt pt<|V' (Zai lk lkb) pt<|mv' lk pt<|s_no gt pt<|s_no gt pt<|s_no gt pt<|s_no gt pt<|V' (Zai lk lkb) pt<|sn'<|ZaG lk<|Zah<|?_
  refine Zat<|mv' lkb pt<|sn'<|Zaa<|Zaj<|Zag rz<|rT'<|?_
  refine bvx ?_;unfold ZcF;simp [hem.1 hg7]
 have hne:s.size≠0:=fun e=>hg7 (hem.2 e)
 refine s_do gt<|mv' lk pt<|s_do gt<|V' (Zbm lk) pt<|s_do gt<|V' (ZbW lk lki) pt<|V' (Zak lk lk) pt<|mv' lk pt<|?_
 refine sp' (t:=12) gt pt pt (fun hg12=>?_) (fun hg12=>?_)
 ·refine s_no gt pt<|s_no gt pt<|s_no gt pt<|s_no gt pt<|V' (Zai lk lkb) pt<|sn'<|ZaG lk<|wr'<|mv' lkb pt<|sn'<|Zaa<|?_
  refine Zaj<|Zag rz<|rT'<|?_
  refine bvx ?_;unfold ZcF;simp;omega
 refine s_do gt<|mv' lk pt<|s_do gt<|?_
 refine V' (v_ix lk lki (by omega) (by omega)) pt ?_
 refine s_do gt<|Zae mp (Zev hb0.1 hb0.2) pt<|s_do gt<|V' (ZaC lk) pt<|V' (Zak lk lk) pt<|sn'<|?_
 refine Zaw lk (fun hc1=>?_) (fun hc1=>?_)
 ·refine wr'<|mv' lkb pt<|sn'<|Zaa<|Zaj<|Zag rz<|rT'<|?_
  refine bvx ?_;unfold ZcF;simp_all
 have hz:s.size≤24:=by omega
 have hL:letB (ZaL s 0).toNat=true:=by simpa using hc1
 refine Zad<|Zaf<|Zah<|wr'<|mv' lki pt<|sn'<|Zan<|?_
 refine w_lp (ι:=Nat) (fun (k:Nat)=>[(3,iv (k:Int)),(2,.any),(4,.any)]++rn' 18 33) (fun (k:Nat)=>[]) (fun (k:Nat)=>k≤s.size ∧ ∀ j (hj:j<s.size),j<k→ZlR s[j].toNat=true) (fun (k:Nat)=>s.size-k) (0) (by exact ⟨by omega,fun j hj h0=>absurd h0 (by omega)⟩) ?_
 rintro k hi1
 try simp only [sm',Nat.reduceAdd]
 obtain ⟨hk1,hk2⟩:=hi1
 refine Zah<|wr'<|mv' lk pt<|mv' lk pt<|V' (Zbm lk) pt<|V' (ZaZ lk lk) pt<|sn'<|?_
 refine cd' lk (fun hc2=>?_) (fun hc2=>?_)
 ·have hk:k<s.size:=by omega
  have hb:=Zfh s k
  have hbk:ZaL s k=s[k]:=ZcQ hk
  have hR:=Zrz (ZaL s k)
  refine Zad<|Zaf<|Zah<|Zan<|wr'<|mv' lk pt<|mv' lk pt<|?_
  refine V' (v_ix lk lk (by omega) (by omega)) pt ?_
  refine mv' lk pt<|sn'<|wr'<|mv' lk pt<|Zae mp (Zev hb.1 hb.2) pt<|V' (ZaC lk) pt<|mv' lk pt<|?_
  refine ZaM (t:=30) gt pt pt (fun hg30=>?_) (fun hg30=>?_)
  ·refine s_do gt<|mv' lk pt<|s_do gt<|Zae mp (Zek hb.1 hb.2) pt<|s_do gt<|V' (ZaC lk) pt<|V' (Zai lk lk) pt<|mv' lk pt<|?_
   refine ZaM (t:=35) gt pt pt (fun hg35=>?_) (fun hg35=>?_)
   ·refine s_do gt<|mv' lk pt<|s_do gt<|V' (Za5 lk lki) pt<|V' (Zai lk lk) pt<|mv' lk pt<|?_
    refine sp' (t:=39) gt pt pt (fun hg39=>?_) (fun hg39=>?_)
    ·refine s_do gt<|mv' lk pt<|s_do gt<|V' (Za5 lk lki) pt<|V' (Zai lk lk) pt<|mv' lk pt<|?_
     refine sp' (t:=43) gt pt pt (fun hg43=>?_) (fun hg43=>?_)
     ·refine s_do gt<|mv' lk pt<|s_do gt<|V' (Za5 lk lki) pt<|V' (Zai lk lk) pt<|mv' lk pt<|?_
      refine sp' (t:=47) gt pt pt (fun hg47=>?_) (fun hg47=>?_)
      ·refine s_do gt<|mv' lk pt<|s_do gt<|V' (Za5 lk lki) pt<|V' (Zai lk lk) pt<|sn'<|?_
       refine cd' lk (fun hc3=>?_) (fun hc3=>?_)
       ·refine wr'<|mv' lkb pt<|sn'<|Zaa<|Zas<|Zaj<|Zaj<|Zas<|Zaj<|Zag rz<|rT'<|?_
        refine bvx ?_;unfold ZcF;rw [ZiJ (k:=k) hk (by rw [←hbk,hR];unfold refN;simp_all)];simp
       refine Zad<|Zay<|Zaf<|Zat<|mv' lk pt<|?_
       refine V' (Zav lk lki (by omega) (by omega)) pt ?_
       refine mv' lk pt<|Zaq<|ZaB<|?_
       refine lT' (k+1) (by (try dsimp only);refine ⟨by omega,fun j hj h0=>?_⟩;rcases Nat.lt_or_ge j k with e | e;exact hk2 j hj e;obtain rfl:j=k:=(by omega);rw [←hbk,hR];unfold refN;simp_all)
      refine s_no gt pt<|s_no gt pt<|V' (Zak lk lkb) pt<|sn'<|ZaR lk<|Zad<|Zay<|Zaf<|Zat<|mv' lk pt<|?_
      refine V' (Zav lk lki (by omega) (by omega)) pt ?_
      refine mv' lk pt<|Zaq<|ZaB<|?_
      refine lT' (k+1) (by (try dsimp only);refine ⟨by omega,fun j hj h0=>?_⟩;rcases Nat.lt_or_ge j k with e | e;exact hk2 j hj e;obtain rfl:j=k:=(by omega);rw [←hbk,hR];unfold refN;simp_all)
     refine s_no gt pt<|s_no gt pt<|V' (Zak lk lkb) pt<|mv' lk pt<|s_no gt pt<|s_no gt pt<|V' (Zak lk lkb) pt<|sn'<|ZaR lk<|Zad<|Zay<|Zaf<|Zat<|?_
     refine mv' lk pt ?_
     refine V' (Zav lk lki (by omega) (by omega)) pt ?_
     refine mv' lk pt<|Zaq<|ZaB<|?_
     refine lT' (k+1) (by (try dsimp only);refine ⟨by omega,fun j hj h0=>?_⟩;rcases Nat.lt_or_ge j k with e | e;exact hk2 j hj e;obtain rfl:j=k:=(by omega);rw [←hbk,hR];unfold refN;simp_all)
    refine s_no gt pt<|s_no gt pt<|V' (Zak lk lkb) pt<|mv' lk pt<|s_no gt pt<|s_no gt pt<|V' (Zak lk lkb) pt<|mv' lk pt<|s_no gt pt<|s_no gt pt<|V' (Zak lk lkb) pt<|sn'<|ZaR lk<|?_
    refine Zad<|Zay<|Zaf<|Zat<|mv' lk pt<|?_
    refine V' (Zav lk lki (by omega) (by omega)) pt ?_
    refine mv' lk pt<|Zaq<|ZaB<|?_
    refine lT' (k+1) (by (try dsimp only);refine ⟨by omega,fun j hj h0=>?_⟩;rcases Nat.lt_or_ge j k with e | e;exact hk2 j hj e;obtain rfl:j=k:=(by omega);rw [←hbk,hR];unfold refN;simp_all)
   refine s_no gt pt<|s_no gt pt<|V' (Zak lk lkb) pt<|mv' lk pt<|s_no gt pt<|s_no gt pt<|V' (Zak lk lkb) pt<|mv' lk pt<|s_no gt pt<|s_no gt pt<|V' (Zak lk lkb) pt<|mv' lk pt<|s_no gt pt<|s_no gt pt<|?_
   refine V' (Zak lk lkb) pt<|sn'<|ZaR lk<|Zad<|Zay<|Zaf<|Zat<|mv' lk pt<|?_
   refine V' (Zav lk lki (by omega) (by omega)) pt ?_
   refine mv' lk pt<|Zaq<|ZaB<|?_
   refine lT' (k+1) (by (try dsimp only);refine ⟨by omega,fun j hj h0=>?_⟩;rcases Nat.lt_or_ge j k with e | e;exact hk2 j hj e;obtain rfl:j=k:=(by omega);rw [←hbk,hR];unfold refN;simp_all)
  refine s_no gt pt<|s_no gt pt<|s_no gt pt<|V' (Zak lk lkb) pt<|mv' lk pt<|s_no gt pt<|s_no gt pt<|V' (Zak lk lkb) pt<|mv' lk pt<|s_no gt pt<|s_no gt pt<|V' (Zak lk lkb) pt<|mv' lk pt<|s_no gt pt<|?_
  refine s_no gt pt<|V' (Zak lk lkb) pt<|mv' lk pt<|s_no gt pt<|s_no gt pt<|V' (Zak lk lkb) pt<|sn'<|ZaR lk<|Zad<|Zay<|Zaf<|Zat<|mv' lk pt<|?_
  refine V' (Zav lk lki (by omega) (by omega)) pt ?_
  refine mv' lk pt<|Zaq<|ZaB<|?_
  refine lT' (k+1) (by (try dsimp only);refine ⟨by omega,fun j hj h0=>?_⟩;rcases Nat.lt_or_ge j k with e | e;exact hk2 j hj e;obtain rfl:j=k:=(by omega);rw [←hbk,hR];unfold refN;simp_all)
 refine ZaE<|Zaz<|Zaz<|ZaX<|Zaf<|wr'<|mv' lkb pt<|sn'<|Zaa<|Zag rz<|rT'<|?_
 refine bvx ?_;unfold ZcF;rw [Zgz fun j hj=>hk2 j hj (by omega),hL];simp [hne,hz]
theorem ZfU {s:ByteArray}{h:AH}(hs:s.size≤maxLen):Ac 152 [sv s] h (bv (ZbF s)):=by
 have hm:s.size≤9223372036854775807:=by simpa [maxLen] using hs
 have hem:=ZeH (f:=s)
 have hF:=Zna s
 refine tI' k152 fun N hn hlt hlA hbd=>?_
 simp only [tb'] at hbd ⊢
 refine wr'<|mv' lkb pt<|sn'<|wr'<|mv' lki pt<|sn'<|Zah<|wr'<|mv' lki pt<|?_
 refine sn'<|Zan<|?_
 refine w_lp (ι:=Nat×Nat) (fun (x_:Nat×Nat)=>match x_ with | ⟨k,m⟩=>[(3,iv (m:Int)),(4,iv (k:Int)),(2,.any)]++rn' 5 49) (fun (x_:Nat×Nat)=>match x_ with | ⟨k,m⟩=>[]) (fun (x_:Nat×Nat)=>match x_ with | ⟨k,m⟩=>k≤s.size∧m≤k∧fmtL 0 true (aB s)=fmtL m (decide (k=0)) ((aB s).drop k)) (fun (x_:Nat×Nat)=>match x_ with | ⟨k,m⟩=>s.size-k) (⟨0,0⟩) (by exact ⟨by omega,by omega,rfl⟩) ?_
 rintro ⟨k,m⟩ hi1
 try simp only [sm',Nat.reduceAdd]
 obtain ⟨hk1,hk2,hk3⟩:=hi1
 refine Zah<|wr'<|mv' lk pt<|mv' lk pt<|V' (Zbm lk) pt<|V' (ZaZ lk lk) pt<|sn'<|?_
 refine cd' lk (fun hc1=>?_) (fun hc1=>?_)
 ·have hk:k<s.size:=by omega
  have hb:=Zfh s k
  have hA:=Zfj hk
  rw [hA,fmtL] at hk3
  have hE:((aB s).drop (k+1)).isEmpty=decide ((k:Int)=(s.size:Int)-1):=by
   rw [Bool.eq_iff_iff,List.isEmpty_iff,List.drop_eq_nil_iff,decide_eq_true_iff,Zep];omega
  refine Zad<|Zaf<|Zah<|Zan<|Zan<|wr'<|mv' lk pt<|mv' lk pt<|?_
  refine V' (v_ix lk lk (by omega) (by omega)) pt ?_
  refine V' (ZaN lk lki) pt<|mv' lk pt<|sn'<|?_
  refine cd' lk (fun hc2=>?_) (fun hc2=>?_)
  ·have hx:ZaL s k=47:=ZiG (n:=47) (by omega) hc2
   rw [if_pos hx,hE] at hk3
   refine wr'<|mv' lk pt<|?_
   refine V' (Zav lk lki (by omega) (by omega)) pt ?_
   refine mv' lk pt<|sn'<|wr'<|mv' lk pt<|V' (ZaN lk lki) pt<|mv' lk pt<|?_
   refine sp' (t:=20) gt pt pt (fun hg20=>?_) (fun hg20=>?_)
   ·refine s_no gt pt<|s_no gt pt<|s_no gt pt<|s_no gt pt<|s_no gt pt<|V' (Zai lk lkb) pt<|sn'<|ZaG lk<|wr'<|mv' lkb pt<|sn'<|?_
    refine Zaa<|Zas<|Zas<|Zaj<|Zaj<|Zas<|Zaj<|Zag rz<|rT'<|?_
    refine bvx ?_;rw [hF,hk3];simp_all
   refine s_do gt<|mv' lk pt<|s_do gt<|mv' lk pt<|s_do gt<|V' (Zbm lk) pt<|s_do gt<|?_
   refine V' (Zbn lk lki (by omega) (by omega)) pt ?_
   refine s_do gt<|V' (ZaN lk lk) pt<|V' (Zak lk lk) pt<|sn'<|?_
   refine cd' lk (fun hc3=>?_) (fun hc3=>?_)
   ·refine wr'<|mv' lkb pt<|sn'<|Zaa<|Zas<|Zas<|Zaj<|Zaj<|Zas<|Zaj<|Zag rz<|rT'<|?_
    refine bvx ?_;rw [hF,hk3];simp_all
   have hk3':fmtL 0 true (aB s)=fmtL (m+1) false ((aB s).drop (k+1)):=by rw [hk3];simp_all
   refine Zad<|Zay<|Zay<|Zaf<|Zat<|mv' lk pt<|?_
   refine V' (Zav lk lki (by omega) (by omega)) pt ?_
   refine mv' lk pt<|Zaq<|ZaB<|?_
   refine lT' (⟨k+1,m+1⟩) (by (try dsimp only);exact ⟨by omega,by omega,by rw [hk3'];simp⟩)
  have hx:¬ZaL s k=47:=Zk5 (n:=47) (by omega) hc2
  rw [if_neg hx] at hk3
  refine wr'<|mv' lk pt<|mv' lk pt<|?_
  refine V' (v_ix lk lk (by omega) (by omega)) pt ?_
  refine V' (ZaN lk lki) pt<|mv' lk pt<|sn'<|?_
  refine cd' lk (fun hc4=>?_) (fun hc4=>?_)
  ·have hy:ZaL s k=37:=ZiG (n:=37) (by omega) hc4
   rw [if_pos hy] at hk3
   refine wr'<|mv' lk pt<|?_
   refine V' (Zav lk lki (by omega) (by omega)) pt ?_
   refine mv' lk pt<|sn'<|wr'<|mv' lk pt<|mv' lk pt<|V' (Zbm lk) pt<|?_
   refine V' (Zbn lk lki (by omega) (by omega)) pt ?_
   refine V' (ZaN lk lk) pt<|mv' lk pt<|?_
   refine sp' (t:=39) gt pt pt (fun hg39=>?_) (fun hg39=>?_)
   ·have hD:(aB s).drop (k+1)=[]:=by rw [List.drop_eq_nil_iff,Zep];omega
    refine s_no gt pt<|s_no gt pt<|s_no gt pt<|s_no gt pt<|s_no gt pt<|V' (Zai lk lkb) pt<|sn'<|ZaG lk<|wr'<|mv' lkb pt<|sn'<|?_
    refine Zaa<|Zas<|Zas<|Zaj<|Zaj<|Zas<|Zaj<|Zag rz<|rT'<|?_
    refine bvx ?_;rw [hF,hk3,hD];simp
   have hk':k+1<s.size:=by omega
   have hA':=Zfj hk'
   refine s_do gt<|mv' lk pt<|s_do gt<|mv' lk pt<|s_do gt<|?_
   refine V' (Zav lk lki (by omega) (by omega)) pt ?_
   refine s_do gt ?_
   refine V' (v_ix lk lk (by omega) (by omega)) pt ?_
   refine s_do gt<|V' (Za5 lk lki) pt<|V' (Zak lk lk) pt<|sn'<|?_
   refine cd' lk (fun hc5=>?_) (fun hc5=>?_)
   ·refine wr'<|mv' lkb pt<|sn'<|Zaa<|Zas<|Zas<|Zaj<|Zaj<|Zas<|Zaj<|Zag rz<|rT'<|?_
    refine bvx ?_;rw [hF,hk3,hA'];have h9:¬ZaL s (k+1)=115:=Zk5 (c:=ZaL s (k+1)) (n:=115) (by omega) (by simpa using hc5);simp [h9]
   have hk3':fmtL 0 true (aB s)=fmtL (m+1) false ((aB s).drop (k+1)):=by rw [hk3];have:=ZiG (c:=ZaL s (k+1)) (n:=115) (by omega) (by simpa using hc5);rw [hA'];simp [this]
   refine Zad<|Zay<|Zay<|Zaf<|Zat<|mv' lk pt<|?_
   refine V' (Zav lk lki (by omega) (by omega)) pt ?_
   refine mv' lk pt<|Zaq<|ZaB<|?_
   refine lT' (⟨k+1,m+1⟩) (by (try dsimp only);exact ⟨by omega,by omega,by rw [hk3'];simp⟩)
  have hy:¬ZaL s k=37:=Zk5 (n:=37) (by omega) hc4
  rw [if_neg hy] at hk3
  have hone:allB ZbB (s.extract k (k+1))=ZbB (ZaL s k).toNat:=by rw [Zgx,hA,Nat.add_sub_cancel_left];simp [allB,bA]
  refine wr'<|mv' lk pt<|mv' lk pt<|mv' lk pt<|?_
  refine V' (Zav lk lki (by omega) (by omega)) pt ?_
  refine V' (Zdr lk (oi lk) (oi lk) (by omega) (by omega) (by omega)) pt ?_
  refine Zae mp (ZmQ (by rw [ByteArray.size_extract];unfold maxLen at *;omega)) pt ?_
  refine V' (ZaC lk) pt<|mv' lk pt<|sn'<|?_
  refine Zaw lk (fun hc6=>?_) (fun hc6=>?_)
  ·refine wr'<|mv' lkb pt<|sn'<|Zaa<|Zas<|Zas<|Zaj<|Zaj<|Zas<|Zaj<|Zag rz<|rT'<|?_
   refine bvx ?_;rw [hF,hk3,←hone];simp_all
  have hk3':fmtL 0 true (aB s)=fmtL m false ((aB s).drop (k+1)):=by rw [hk3,←hone];simp_all
  refine Zad<|Zay<|Zay<|Zaf<|Zat<|mv' lk pt<|?_
  refine V' (Zav lk lki (by omega) (by omega)) pt ?_
  refine mv' lk pt<|Zaq<|ZaB<|?_
  refine lT' (⟨k+1,m⟩) (by (try dsimp only);exact ⟨by omega,by omega,by rw [hk3'];simp⟩)
 have hk4:fmtL 0 true (aB s)=decide (m≤1):=by rw [hk3,Zmh (by omega),fmtL]
 clear hk3
 refine ZaE<|Zaz<|Zaz<|ZaX<|Zaf<|wr'<|mv' lk pt<|V' (Zb5 lk lks) pt<|mv' lk pt<|?_
 refine sp' (t:=56) gt pt pt (fun hg56=>?_) (fun hg56=>?_)
 ·refine s_do gt<|mv' lk pt<|s_do gt<|V' (Zbm lk) pt<|s_do gt<|V' (Zc5 lk lki) pt<|V' (Zai lk lk) pt<|mv' lk pt<|?_
  refine sp' (t:=61) gt pt pt (fun hg61=>?_) (fun hg61=>?_)
  ·refine s_do gt<|mv' lk pt<|s_do gt<|V' (Zc5 lk lki) pt<|V' (Zai lk lk) pt<|mv' lk pt<|sn'<|Zaa<|Zag rz<|rT'<|?_
   refine bvx ?_;rw [hF,hk4];clear hF hk4;by_cases h0:s.size=0 <;> simp_all <;> (try intros) <;> first | omega | (rw [Bool.eq_iff_iff];simp;omega)
  refine s_no gt pt<|s_no gt pt<|V' (Zak lk lkb) pt<|mv' lk pt<|sn'<|Zaa<|Zag rz<|rT'<|?_
  refine bvx ?_;rw [hF,hk4];clear hF hk4;by_cases h0:s.size=0 <;> simp_all <;> (try intros) <;> first | omega | (rw [Bool.eq_iff_iff];simp;omega)
 refine s_no gt pt<|s_no gt pt<|s_no gt pt<|V' (Zak lk lkb) pt<|mv' lk pt<|s_no gt pt<|s_no gt pt<|V' (Zak lk lkb) pt<|mv' lk pt<|sn'<|Zaa<|Zag rz<|rT'<|?_
 refine bvx ?_;rw [hF,hk4];clear hF hk4;by_cases h0:s.size=0 <;> simp_all <;> (try intros) <;> first | omega | (rw [Bool.eq_iff_iff];simp;omega)
end Go.Proofs.YthdifaphoaekoaaGreatDoor
end
section
namespace Go.Proofs.YthdifaphoaekoaaGreatDoor
open Go.Ab
attribute [local simp] Zby ZbO ZbD ZbK
section
theorem Zke {a0 a1 a2:AV}{l:List AV}:((a0::a1::a2::l).drop 0).take 3=[a0,a1,a2]:=rfl
theorem ZnI {a0 b0:Int}{a1 b1:Int}{a2 b2:Int}:Zb3 [.int,.int,.int] [iv a0,iv a1,iv a2] [iv b0,iv b1,iv b2]=some (decide (a0=b0∧a1=b1∧a2=b2)):=by
 simp only [Zb3,Zfa,if_true,Zem,Option.some.injEq]
 simp only [Bool.decide_and,Bool.and_true]
 try (congr 1 <;> simp)
 try rfl
theorem Zkc {a0 a1 a2 a3 a4 a5 a6 a7 a8 a9:AV}{l:List AV}:(a0::a1::a2::a3::a4::a5::a6::a7::a8::a9::l).take 10=[a0,a1,a2,a3,a4,a5,a6,a7,a8,a9]:=rfl
theorem ZiW {a0 a1 a2 a3 a4 a5 a6 a7 a8 a9 c0 c1 c2 c3 c4 c5 c6 c7 c8 c9:AV}{l:List AV}:setCells (a0::a1::a2::a3::a4::a5::a6::a7::a8::a9::l) 0 [c0,c1,c2,c3,c4,c5,c6,c7,c8,c9]=c0::c1::c2::c3::c4::c5::c6::c7::c8::c9::l:=rfl
theorem Zkd {a0 a1 a2 a3 a4 a5 a6 a7 a8 a9:AV}{l:List AV}:((a0::a1::a2::a3::a4::a5::a6::a7::a8::a9::l).drop 5).take 5=[a5,a6,a7,a8,a9]:=rfl
end
def c59:AC:=(Sr [Oo 2 (.box 65 5 (.tmp 0)),Oo 3 (.box 65 5 (.tmp 1)),Mb 4 false] (Sr [Fa 5 0 2,Oo 6 (.load true 3 (.tmp 5)),Fa 7 0 3,Oo 8 (.load true 3 (.tmp 7)),Oo 9 (.eqs false [.int,.int,.int] (.tmp 6) (.tmp 8)),Mv 10 9,Ot 11 10 (.fa 3 (.tmp 2)),Ot 12 10 (.load false 1 (.tmp 11)),Ot 13 10 (.fa 3 (.tmp 3)),Ot 14 10 (.load false 1 (.tmp 13)),Ot 15 10 (.bin .eql (.tmp 12) (.tmp 14)),Oo 16 (.pick (.tmp 10) (.tmp 15) (.const (.bool false))),Mv 17 16,Ot 18 17 (.fa 4 (.tmp 2)),Ot 19 17 (.load false 1 (.tmp 18)),Ot 20 17 (.fa 4 (.tmp 3)),Ot 21 17 (.load false 1 (.tmp 20)),Ot 22 17 (.bin .eql (.tmp 19) (.tmp 21)),Oo 23 (.pick (.tmp 17) (.tmp 22) (.const (.bool false))),Mv 4 23] .ret))
theorem k59:ZaD Tryz.prog 59=some ⟨c59,[(.tmp 4)],24⟩:=by kernel_rfl
def c21:AC:=(Sr [Oo 2 (.box 44 2 (.tmp 0)),Oo 3 (.box 44 2 (.tmp 1)),Mb 4 false] (.seq (Sr [Fa 8 0 2,Ld 9 8,Fa 10 0 3,Ld 11 10,Bn 12 .neq 9 11,Mv 13 12,Of 14 13 (.fa 1 (.tmp 2)),Of 15 13 (.load false 1 (.tmp 14)),Of 16 13 (.len false (.tmp 15)),Of 17 13 (.fa 1 (.tmp 3)),Of 18 13 (.load false 1 (.tmp 17)),Of 19 13 (.len false (.tmp 18)),Of 20 13 (.bin .neq (.tmp 16) (.tmp 19)),Oo 21 (.pick (.tmp 13) (.const (.bool true)) (.tmp 20))] (Cd 21 (Sr [Mb 4 false] .ret) .skip)) (.seq (Sr [Mc 5 0] (.block 0 (.loop (.seq (Sr [Mv 22 5,Fa 23 1 2,Ld 24 23,Oo 25 (.len false (.tmp 24)),Bn 26 .lss 22 25] (Cd 26 .skip (.exit 0))) (.seq (.block 1 (.seq (.drwU [[],[],[0,1],[],[],[0,1,2,3,4],[0,1,2,3,4],[0,1,2,3,4,5,6],[0,1,2,3,4],[0,1,2,3,4],[0,1,2,3,4,5,6,7,8,9],[0,1,2,3,4,5,6,7,8,9,10],[5,6,7,8,9],[]] [Fa 29 1 2,Ld 30 29,Mv 31 5,Oo 32 (.ia 10 (.tmp 30) (.tmp 31)),Oo 33 (.load true 10 (.tmp 32)),Fa 34 1 3,Ld 35 34,Mv 36 5,Oo 37 (.ia 10 (.tmp 35) (.tmp 36)),Oo 38 (.load true 10 (.tmp 37)),Oo 6 (.new 67 10 [(iv 0),Ss,(iv 0),Ss,(.v (.bool false)),(iv 0),(iv 0),(iv 0),(iv 0),(iv 0)]),Oo 7 (.new 67 10 [(iv 0),Ss,(iv 0),Ss,(.v (.bool false)),(iv 0),(iv 0),(iv 0),(iv 0),(iv 0)]),⟨none,none,(.store 10 (.tmp 6) (.tmp 33))⟩,⟨none,none,(.store 10 (.tmp 7) (.tmp 38))⟩]) (Sr [Fa 39 0 6,Ld 40 39,Fa 41 0 7,Ld 42 41,Bn 43 .neq 40 42,Mv 44 43,Of 45 44 (.fa 1 (.tmp 6)),Of 46 44 (.load false 1 (.tmp 45)),Of 47 44 (.fa 1 (.tmp 7)),Of 48 44 (.load false 1 (.tmp 47)),Of 49 44 (.bin .neq (.tmp 46) (.tmp 48)),Oo 50 (.pick (.tmp 44) (.const (.bool true)) (.tmp 49)),Mv 51 50,Of 52 51 (.fa 2 (.tmp 6)),Of 53 51 (.load false 1 (.tmp 52)),Of 54 51 (.fa 2 (.tmp 7)),Of 55 51 (.load false 1 (.tmp 54)),Of 56 51 (.bin .neq (.tmp 53) (.tmp 55)),Oo 57 (.pick (.tmp 51) (.const (.bool true)) (.tmp 56)),Mv 58 57,Of 59 58 (.fa 3 (.tmp 6)),Of 60 58 (.load false 1 (.tmp 59)),Of 61 58 (.fa 3 (.tmp 7)),Of 62 58 (.load false 1 (.tmp 61)),Of 63 58 (.bin .neq (.tmp 60) (.tmp 62)),Oo 64 (.pick (.tmp 58) (.const (.bool true)) (.tmp 63)),Mv 65 64,Of 66 65 (.fa 4 (.tmp 6)),Of 67 65 (.load false 1 (.tmp 66)),Of 68 65 (.fa 4 (.tmp 7)),Of 69 65 (.load false 1 (.tmp 68)),Of 70 65 (.eqb true (.tmp 67) (.tmp 69)),Oo 71 (.pick (.tmp 65) (.const (.bool true)) (.tmp 70)),Mv 72 71,Of 73 72 (.fa 5 (.tmp 6)),Of 74 72 (.load true 5 (.tmp 73)),Of 75 72 (.fa 5 (.tmp 7)),Of 76 72 (.load true 5 (.tmp 75)),Of 77 72 (.call (.func 59) [(.tmp 74),(.tmp 76)]),Of 78 72 (.un .not (.tmp 77)),Oo 79 (.pick (.tmp 72) (.const (.bool true)) (.tmp 78))] (Cd 79 (Sr [Mb 4 false] .ret) .skip)))) (.reg [Mv 27 5,Bc 28 .add 27 1,Mv 5 28])))))) (Sr [Mb 4 true] .ret))))
theorem k21:ZaD Tryz.prog 21=some ⟨c21,[(.tmp 4)],80⟩:=by kernel_rfl
theorem Zdj {u v:Unt}{h:AH}:Ac 59 [.agg (untC u),.agg (untC v)] h (bv (decide (u=v))):=by
 obtain ⟨⟨y,m,d⟩,a,c⟩:=u
 obtain ⟨⟨y2,m2,d2⟩,a2,c2⟩:=v
 refine tI' k59 fun N hn hlt hlA hbd=>?_
 simp only [tb'] at hbd ⊢
 refine wr'<|E' (Zbi (cvl lk rfl) rfl (hl0 hn) ha0) pt<|E' (Zbi (cvl lk rfl) rfl (hl1 hn) ha1) pt<|mv' lkb pt<|sn'<|wr'<|V' (Zac lk) pt<|V' (Zap lk (hga hn rfl) Zke rfl) pt<|V' (Zac lk) pt<|V' (Zap lk (hga hn rfl) Zke rfl) pt<|V' (Zhn lk lk ZnI) pt<|?_
 refine mv' lk pt ?_
 refine sp' (t:=10) gt pt pt (fun hg10=>?_) (fun hg10=>?_)
 ·refine s_do gt<|V' (Zac lk) pt<|s_do gt<|V' (Zab lk (hga hn rfl) gt3) pt<|s_do gt<|V' (Zac lk) pt<|s_do gt<|V' (Zab lk (hga hn rfl) gt3) pt<|s_do gt<|V' (ZaN lk lk) pt<|V' (Zai lk lk) pt<|mv' lk pt<|?_
  refine sp' (t:=17) gt pt pt (fun hg17=>?_) (fun hg17=>?_)
  ·refine s_do gt<|V' (Zac lk) pt<|s_do gt<|V' (Zab lk (hga hn rfl) gt4) pt<|s_do gt<|V' (Zac lk) pt<|s_do gt<|V' (Zab lk (hga hn rfl) gt4) pt<|s_do gt<|V' (ZaN lk lk) pt<|V' (Zai lk lk) pt<|mv' lk pt<|sn'<|?_
   refine Zaa<|Zag rz<|rT'<|?_
   refine bvx ?_;simp_all
  refine s_no gt pt<|s_no gt pt<|s_no gt pt<|s_no gt pt<|s_no gt pt<|V' (Zak lk lkb) pt<|mv' lk pt<|sn'<|Zaa<|Zag rz<|rT'<|?_
  refine bvx ?_;simp_all
 refine s_no gt pt<|s_no gt pt<|s_no gt pt<|s_no gt pt<|s_no gt pt<|V' (Zak lk lkb) pt<|mv' lk pt<|s_no gt pt<|s_no gt pt<|s_no gt pt<|s_no gt pt<|s_no gt pt<|V' (Zak lk lkb) pt<|mv' lk pt<|?_
 refine sn'<|Zaa<|Zag rz<|rT'<|?_
 refine bvx ?_;simp_all
theorem Zpu {α:Type}{a b:List α}{k:Nat}(ha:k<a.length) (hb:k<b.length) (h:a[k]≠b[k]):a≠b:=fun e=>h (by subst e;rfl)
theorem ZfT {na nb:ByteArray}{a b:List Era}{h:AH}:Ac 21 [.agg [sv na,.sl a.length 10 false (rows eraC a)],.agg [sv nb,.sl b.length 10 false (rows eraC b)]] h (bv (decide ((na,a)=(nb,b)))):=by
 refine tI' k21 fun N hn hlt hlA hbd=>?_
 simp only [tb'] at hbd ⊢
 refine wr'<|E' (Zbi (cvl lk rfl) rfl (hl0 hn) ha0) pt<|E' (Zbi (cvl lk rfl) rfl (hl1 hn) ha1) pt<|mv' lkb pt<|sn'<|Zah<|wr'<|V' (Zac lk) pt<|V' (Zab lk (hga hn rfl) gt0) pt<|V' (Zac lk) pt<|V' (Zab lk (hga hn rfl) gt0) pt<|?_
 refine V' (Zb5 lk lk) pt<|mv' lk pt<|?_
 refine sp' (t:=13) gt pt pt (fun hg13=>?_) (fun hg13=>?_)
 ·have hD:decide ((na,a)=(nb,b))=false:=decide_eq_false (fun e=>hg13 (congrArg Prod.fst e))
  refine s_no gt pt<|s_no gt pt<|s_no gt pt<|s_no gt pt<|s_no gt pt<|s_no gt pt<|s_no gt pt<|V' (Zai lk lkb) pt<|sn'<|ZaG lk<|wr'<|mv' lkb pt<|?_
  refine sn'<|Zaa<|Zaj<|Zag rz<|rT'<|?_
  rw [hD]
 refine s_do gt<|V' (Zac lk) pt<|s_do gt<|V' (Zab lk (hga hn rfl) gt1) pt<|s_do gt<|V' (ZaI lk) pt<|s_do gt<|V' (Zac lk) pt<|s_do gt<|V' (Zab lk (hga hn rfl) gt1) pt<|s_do gt<|V' (ZaI lk) pt<|s_do gt<|V' (Za5 lk lk) pt<|?_
 refine V' (Zak lk lk) pt<|sn'<|?_
 refine cd' lk (fun hc1=>?_) (fun hc1=>?_)
 ·have hD:decide ((na,a)=(nb,b))=false:=decide_eq_false (fun e=>hc1 (by have:=(Prod.ext_iff.1 e).2;simp only at this;rw [this]))
  refine wr'<|mv' lkb pt<|sn'<|Zaa<|Zaj<|Zag rz<|rT'<|?_
  rw [hD]
 have hl:a.length=b.length:=by omega
 have hnm:na=nb:=Decidable.of_not_not hg13
 refine Zad<|Zaf<|Zah<|wr'<|mv' lki pt<|sn'<|Zan<|?_
 refine w_lp (ι:=Nat) (fun (k:Nat)=>[(5,iv (k:Int)),(4,.any),(6,.any),(7,.any)]++rn' 22 58) (fun (k:Nat)=>[]) (fun (k:Nat)=>k≤a.length∧a.take k=b.take k) (fun (k:Nat)=>a.length-k) (0) (by exact ⟨Nat.zero_le _,by simp⟩) ?_
 rintro k hi1
 try simp only [sm',Nat.reduceAdd]
 obtain ⟨hk1,hk2⟩:=hi1
 refine Zah<|wr'<|mv' lk pt<|V' (Zac lk) pt<|V' (Zab lk (hga hn rfl) gt1) pt<|V' (ZaI lk) pt<|V' (ZaZ lk lk) pt<|sn'<|?_
 refine cd' lk (fun hc2=>?_) (fun hc2=>?_)
 ·have hka:k<a.length:=by omega
  have hkb:k<b.length:=by omega
  refine Zad<|Zaf<|Zah<|Zan<|Zah<|Zca<|u_fr rfl (Zac lk) pt<|?_
  refine u_rdn rfl (Zab lk (hga hn rfl) gt1) (hx_l rfl) (hl2 hn) nh pt ?_
  refine u_fr rfl (v_mv lk) pt ?_
  refine u_fr rfl (ZaJ lk lk ZbG (nb' rfl) ro (by omega) ro rfl) pt ?_
  refine u_fr rfl (ZaF lk Zkc rfl) pt<|u_fr rfl (Zac lk) pt<|?_
  refine u_rdn rfl (Zab lk (hga hn rfl) gt1) (hx_l rfl) (hl2 hn) nh pt ?_
  refine u_fr rfl (v_mv lk) pt ?_
  refine u_fr rfl (ZaJ lk lk ZbG (nb' rfl) ro (by omega) ro rfl) pt ?_
  refine u_fr rfl (ZaF lk Zkc rfl) pt ?_
  refine u_al rfl (Za6 (hl2 hn) ha2) (hl2 hn) nh pt ?_
  refine u_al rfl (Za6 (hl3 hn) ha3) (hl3 hn) nh pt ?_
  refine u_st (Zal lk (cvl lk rfl) (hga hn rfl) rfl (nb' rfl) rfl ZiW (hs2 hn)) lk nh ptn ?_
  refine u_st (Zal lk (cvl lk rfl) (hga hn rfl) rfl (nb' rfl) rfl ZiW (hs3 hn)) lk nh ptn ?_
  refine Zc6<|Zaf<|wr'<|V' (Zac lk) pt<|V' (Zab lk (hga hn rfl) gt0) pt<|V' (Zac lk) pt<|V' (Zab lk (hga hn rfl) gt0) pt<|?_
  refine V' ((by first | exact Za5 lk lk | exact Zb5 lk lk)) pt ?_
  refine mv' lk pt ?_
  refine sp' (t:=44) gt pt pt (fun hg44=>?_) (fun hg44=>?_)
  ·refine s_no gt pt<|s_no gt pt<|s_no gt pt<|s_no gt pt<|s_no gt pt<|V' (Zai lk lkb) pt<|mv' lk pt<|s_no gt pt<|s_no gt pt<|s_no gt pt<|s_no gt pt<|s_no gt pt<|V' (Zai lk lkb) pt<|mv' lk pt<|?_
   refine s_no gt pt<|s_no gt pt<|s_no gt pt<|s_no gt pt<|s_no gt pt<|V' (Zai lk lkb) pt<|mv' lk pt<|s_no gt pt<|s_no gt pt<|s_no gt pt<|s_no gt pt<|s_no gt pt<|V' (Zai lk lkb) pt<|mv' lk pt<|?_
   refine s_no gt pt<|s_no gt pt<|s_no gt pt<|s_no gt pt<|s_no gt pt<|s_no gt pt<|V' (Zai lk lkb) pt<|sn'<|ZaG lk<|wr'<|mv' lkb pt<|Zaq<|?_
   refine Zaf<|Zaa<|Zas<|Zaj<|Zaj<|Zas<|Zaj<|Zag rz<|rT'<|?_
   exact bvx (decide_eq_false (fun e=>absurd (Prod.ext_iff.1 e).2 (Zpu hka hkb (by intro e2;simp_all)))).symm
  refine s_do gt<|V' (Zac lk) pt<|s_do gt<|V' (Zab lk (hga hn rfl) gt1) pt<|s_do gt<|V' (Zac lk) pt<|s_do gt<|V' (Zab lk (hga hn rfl) gt1) pt<|s_do gt<|?_
  refine V' ((by first | exact Za5 lk lk | exact Zb5 lk lk)) pt ?_
  refine V' (Zak lk lk) pt<|mv' lk pt<|?_
  refine sp' (t:=51) gt pt pt (fun hg51=>?_) (fun hg51=>?_)
  ·refine s_no gt pt<|s_no gt pt<|s_no gt pt<|s_no gt pt<|s_no gt pt<|V' (Zai lk lkb) pt<|mv' lk pt<|s_no gt pt<|s_no gt pt<|s_no gt pt<|s_no gt pt<|s_no gt pt<|V' (Zai lk lkb) pt<|mv' lk pt<|?_
   refine s_no gt pt<|s_no gt pt<|s_no gt pt<|s_no gt pt<|s_no gt pt<|V' (Zai lk lkb) pt<|mv' lk pt<|s_no gt pt<|s_no gt pt<|s_no gt pt<|s_no gt pt<|s_no gt pt<|s_no gt pt<|V' (Zai lk lkb) pt<|?_
   refine sn'<|ZaG lk<|wr'<|mv' lkb pt<|sn'<|Zaa<|Zas<|Zaj<|Zaj<|Zas<|Zaj<|?_
   refine Zag rz<|rT'<|?_
   exact bvx (decide_eq_false (fun e=>absurd (Prod.ext_iff.1 e).2 (Zpu hka hkb (by intro e2;simp_all)))).symm
  refine s_do gt<|V' (Zac lk) pt<|s_do gt<|V' (Zab lk (hga hn rfl) gt2) pt<|s_do gt<|V' (Zac lk) pt<|s_do gt<|V' (Zab lk (hga hn rfl) gt2) pt<|s_do gt<|?_
  refine V' ((by first | exact Za5 lk lk | exact Zb5 lk lk)) pt ?_
  refine V' (Zak lk lk) pt<|mv' lk pt<|?_
  refine sp' (t:=58) gt pt pt (fun hg58=>?_) (fun hg58=>?_)
  ·refine s_no gt pt<|s_no gt pt<|s_no gt pt<|s_no gt pt<|s_no gt pt<|V' (Zai lk lkb) pt<|mv' lk pt<|s_no gt pt<|s_no gt pt<|s_no gt pt<|s_no gt pt<|s_no gt pt<|V' (Zai lk lkb) pt<|mv' lk pt<|?_
   refine s_no gt pt<|s_no gt pt<|s_no gt pt<|s_no gt pt<|s_no gt pt<|s_no gt pt<|V' (Zai lk lkb) pt<|sn'<|ZaG lk<|wr'<|mv' lkb pt<|Zaq<|?_
   refine Zaf<|Zaa<|Zas<|Zaj<|Zaj<|Zas<|Zaj<|Zag rz<|rT'<|?_
   exact bvx (decide_eq_false (fun e=>absurd (Prod.ext_iff.1 e).2 (Zpu hka hkb (by intro e2;simp_all)))).symm
  refine s_do gt<|V' (Zac lk) pt<|s_do gt<|V' (Zab lk (hga hn rfl) gt3) pt<|s_do gt<|V' (Zac lk) pt<|s_do gt<|V' (Zab lk (hga hn rfl) gt3) pt<|s_do gt<|?_
  refine V' ((by first | exact Za5 lk lk | exact Zb5 lk lk)) pt ?_
  refine V' (Zak lk lk) pt<|mv' lk pt<|?_
  refine sp' (t:=65) gt pt pt (fun hg65=>?_) (fun hg65=>?_)
  ·refine s_no gt pt<|s_no gt pt<|s_no gt pt<|s_no gt pt<|s_no gt pt<|V' (Zai lk lkb) pt<|mv' lk pt<|s_no gt pt<|s_no gt pt<|s_no gt pt<|s_no gt pt<|s_no gt pt<|s_no gt pt<|V' (Zai lk lkb) pt<|?_
   refine sn'<|ZaG lk<|wr'<|mv' lkb pt<|sn'<|Zaa<|Zas<|Zaj<|Zaj<|Zas<|Zaj<|?_
   refine Zag rz<|rT'<|?_
   exact bvx (decide_eq_false (fun e=>absurd (Prod.ext_iff.1 e).2 (Zpu hka hkb (by intro e2;simp_all)))).symm
  refine s_do gt<|V' (Zac lk) pt<|s_do gt<|V' (Zab lk (hga hn rfl) gt4) pt<|s_do gt<|V' (Zac lk) pt<|s_do gt<|V' (Zab lk (hga hn rfl) gt4) pt<|s_do gt<|V' (ZdM lk lk) pt<|V' (Zak lk lk) pt<|mv' lk pt<|?_
  refine sp' (t:=72) gt pt pt (fun hg72=>?_) (fun hg72=>?_)
  ·refine s_no gt pt<|s_no gt pt<|s_no gt pt<|s_no gt pt<|s_no gt pt<|s_no gt pt<|V' (Zai lk lkb) pt<|sn'<|ZaG lk<|wr'<|mv' lkb pt<|Zaq<|?_
   refine Zaf<|Zaa<|Zas<|Zaj<|Zaj<|Zas<|Zaj<|Zag rz<|rT'<|?_
   exact bvx (decide_eq_false (fun e=>absurd (Prod.ext_iff.1 e).2 (Zpu hka hkb (by intro e2;simp_all)))).symm
  refine s_do gt<|V' (Zac lk) pt<|s_do gt<|V' (Zap lk (hga hn rfl) Zkd rfl) pt<|s_do gt<|V' (Zac lk) pt<|s_do gt<|V' (Zap lk (hga hn rfl) Zkd rfl) pt<|s_do gt<|Zae mp (Zdj (u:=(a[k]).2.2.2.2.2) (v:=(b[k]).2.2.2.2.2)) pt<|s_do gt<|V' (ZaC lk) pt<|V' (Zak lk lk) pt<|Zaq<|?_
  refine Zaf ?_
  refine Zaw lk (fun hc3=>?_) (fun hc3=>?_)
  ·refine wr'<|mv' lkb pt<|sn'<|Zaa<|Zas<|Zaj<|Zaj<|Zas<|Zaj<|Zag rz<|rT'<|?_
   exact bvx (decide_eq_false (fun e=>absurd (Prod.ext_iff.1 e).2 (Zpu hka hkb (by intro e2;simp_all)))).symm
  have hE:a[k]=b[k]:=by simp only [Prod.ext_iff];simp_all
  refine Zad<|Zay<|Zaf<|Zat<|mv' lk pt<|?_
  refine V' (Zav lk lki (by omega) (by omega)) pt ?_
  refine mv' lk pt<|Zaq<|ZaB<|?_
  refine lU' (k+1) (by (try dsimp only);exact ⟨by omega,by rw [List.take_succ_eq_append_getElem hka,List.take_succ_eq_append_getElem hkb,hk2,hE]⟩) (by (try dsimp only);(try simp only [sm',Nat.reduceAdd]);exact bk' 2 hn hlt)
 refine ZaE<|Zaz<|Zaz<|ZaX<|Zaf<|wr'<|mv' lkb pt<|sn'<|Zaa<|Zag rz<|rT'<|?_
 exact bvx (decide_eq_true (by rw [List.take_of_length_le (by omega),List.take_of_length_le (by omega)] at hk2;rw [hnm,hk2])).symm
theorem ZmP {a b:Zon}{h:AH}:Ac 21 [.agg (zonC a),.agg (zonC b)] h (bv (decide (a=b))):=ZfT
end Go.Proofs.YthdifaphoaekoaaGreatDoor
end
section
namespace Go.Proofs.YthdifaphoaekoaaGreatDoor
open Go.Ab Go.RowKit Civ
attribute [local simp] Zby ZbO ZbD ZbK
section
theorem Zp6 {a0 a1 a2 a3 a4 a5 a6:AV}{l:List AV}:((a0::a1::a2::a3::a4::a5::a6::l).drop 4).take 3=[a4,a5,a6]:=rfl
theorem Zp7 {a0 a1 a2 c0 c1 c2:AV}{l:List AV}:setCells (a0::a1::a2::l) 0 [c0,c1,c2]=c0::c1::c2::l:=rfl
theorem ZfE {a0 a1 a2 a3 a4 a5 a6 a7 a8 a9:AV}{l:List AV}:((a0::a1::a2::a3::a4::a5::a6::a7::a8::a9::l).drop 5).take 5=[a5,a6,a7,a8,a9]:=rfl
theorem ZcI {τ:Operand→AV}:Zau τ [] [(.v (.int .i64 0)),(.v (.int .i64 0)),(.v (.int .i64 0)),(.v (.int .i64 0)),(.v (.int .i64 0))]=some [(.v (.int .i64 0)),(.v (.int .i64 0)),(.v (.int .i64 0)),(.v (.int .i64 0)),(.v (.int .i64 0))]:=rfl
theorem ZfF {a0 a1 a2 a3 a4 a5 a6 a7:AV}{l:List AV}:((a0::a1::a2::a3::a4::a5::a6::a7::l).drop 5).take 3=[a5,a6,a7]:=rfl
theorem Zp4 {a0 a1 a2 a3 a4 a5 a6 a7 a8 a9 a10:AV}{l:List AV}:(a0::a1::a2::a3::a4::a5::a6::a7::a8::a9::a10::l).take 11=[a0,a1,a2,a3,a4,a5,a6,a7,a8,a9,a10]:=rfl
theorem Zp5 {a0 a1 a2 a3 a4 a5 a6 a7 a8 a9:AV}{l:List AV}:(a0::a1::a2::a3::a4::a5::a6::a7::a8::a9::l).take 10=[a0,a1,a2,a3,a4,a5,a6,a7,a8,a9]:=rfl
end
def c107:AC:=(Sr [Oo 1 (.box 40 11 (.tmp 0)),Mc 2 0] (.seq (Sr [Fa 5 0 1,Ld 6 5,Cl 7 108 [(.tmp 6)],Oo 8 (.un .not (.tmp 7)),Mv 9 8,Of 10 9 (.fa 10 (.tmp 1)),Of 11 9 (.load false 1 (.tmp 10)),Of 12 9 (.call (.func 149) [(.tmp 11)]),Of 13 9 (.un .not (.tmp 12)),Oo 14 (.pick (.tmp 9) (.const (.bool true)) (.tmp 13))] (Cd 14 (Sr [Mc 2 1] .ret) .skip)) (.seq (Sr [Fa 15 1 1,Ld 16 15,Fa 17 2 1,Ld 18 17,Cl 19 72 [(.tmp 16),(Ci 1900),(.tmp 18)],Oo 20 (.un .not (.tmp 19)),Mv 21 20,Of 22 21 (.fa 2 (.tmp 1)),Of 23 21 (.load false 1 (.tmp 22)),Of 24 21 (.bin .gtr (.tmp 23) (Ci 2100)),Oo 25 (.pick (.tmp 21) (.const (.bool true)) (.tmp 24)),Mv 26 25,Of 27 26 (.fa 3 (.tmp 1)),Of 28 26 (.load false 1 (.tmp 27)),Of 29 26 (.call (.func 72) [(.tmp 28),(Ci 1),(Ci 12)]),Of 30 26 (.un .not (.tmp 29)),Oo 31 (.pick (.tmp 26) (.const (.bool true)) (.tmp 30))] (Cd 31 (Sr [Mc 2 3] .ret) .skip)) (Sr [Fa 33 3 1,Ld 34 33,Fa 35 4 1,Oo 36 (.load true 3 (.tmp 35)),Cl 37 110 [(Ci 2001),(.tmp 34),(.tmp 36)],Mv 32 37,Ex 38 32 0,Ex 39 32 1,Oo 3 (.new 63 3 [(iv 0),(iv 0),(iv 0)]),⟨none,none,(.store 3 (.tmp 3) (.tmp 38))⟩,Mv 4 39] (.seq (Sr [Mv 40 4,Bc 41 .neq 40 0] (Cd 41 (Sr [Mv 42 4,Mv 2 42] .ret) .skip)) (.seq (Sr [Fa 43 7 1,Ld 44 43,Cl 45 72 [(.tmp 44),(Ci 0),(Ci 172800)],Oo 46 (.un .not (.tmp 45))] (Cd 46 (Sr [Mc 2 3] .ret) .skip)) (.seq (Sr [Fa 47 8 1,Ld 48 47,Cl 49 72 [(.tmp 48),(Ci 1),(Ci 3)],Oo 50 (.un .not (.tmp 49))] (Cd 50 (Sr [Mc 2 7] .ret) .skip)) (.seq (Sr [Fa 51 9 1,Ld 52 51,Cl 53 72 [(.tmp 52),(Ci 0),(Ci 10800)],Oo 54 (.un .not (.tmp 53))] (Cd 54 (Sr [Mc 2 3] .ret) .skip)) (Sr [Mc 2 0] .ret)))))))))
theorem k107:ZaD Tryz.prog 107=some ⟨c107,[(.tmp 2)],55⟩:=by kernel_rfl
def c109:AC:=(Sr [Oo 2 (.box 67 10 (.tmp 0)),Mc 4 0] (.seq (Sr [Fa 5 1 2,Ld 6 5,Oo 7 (.bin .neq (.tmp 6) (.const (.string ⟨#[]⟩))),Mv 8 7,Ot 9 8 (.fa 1 (.tmp 2)),Ot 10 8 (.load false 1 (.tmp 9)),Ot 11 8 (.call (.func 108) [(.tmp 10)]),Ot 12 8 (.un .not (.tmp 11)),Oo 13 (.pick (.tmp 8) (.tmp 12) (.const (.bool false))),Mv 14 13,Of 15 14 (.fa 3 (.tmp 2)),Of 16 14 (.load false 1 (.tmp 15)),Of 17 14 (.call (.func 152) [(.tmp 16)]),Of 18 14 (.un .not (.tmp 17)),Oo 19 (.pick (.tmp 14) (.const (.bool true)) (.tmp 18))] (Cd 19 (Sr [Mc 4 1] .ret) .skip)) (.seq (Sr [Fa 20 0 2,Ld 21 20,Cl 22 72 [(.tmp 21),(.const (.int .i64 (-64800))),(Ci 64800)],Oo 23 (.un .not (.tmp 22)),Mv 24 23,Of 25 24 (.fa 2 (.tmp 2)),Of 26 24 (.load false 1 (.tmp 25)),Of 27 24 (.call (.func 72) [(.tmp 26),(Ci 0),(Ci 10800)]),Of 28 24 (.un .not (.tmp 27)),Oo 29 (.pick (.tmp 24) (.const (.bool true)) (.tmp 28))] (Cd 29 (Sr [Mc 4 3] .ret) .skip)) (.seq (Sr [Fa 30 1 2,Ld 31 30,Oo 32 (.bin .neq (.tmp 31) (.const (.string ⟨#[]⟩))),Mv 33 32,Ot 34 33 (.fa 2 (.tmp 2)),Ot 35 33 (.load false 1 (.tmp 34)),Ot 36 33 (.bin .neq (.tmp 35) (Ci 0)),Oo 37 (.pick (.tmp 33) (.tmp 36) (.const (.bool false)))] (Cd 37 (Sr [Mc 4 1] .ret) .skip)) (.seq (Sr [Fa 38 4 2,Ld 39 38,Mv 40 1,Oo 41 (.eqb true (.tmp 39) (.tmp 40))] (Cd 41 (Sr [Mc 4 4] .ret) .skip)) (.seq (Sr [Fa 42 4 2,Ld 43 42] (Cd 43 (.seq (Sr [Fa 44 5 2,Oo 45 (.load true 5 (.tmp 44)),Oo 46 (.build [(iv 0),(iv 0),(iv 0),(iv 0),(iv 0)] []),Cl 47 59 [(.tmp 45),(.tmp 46)],Oo 48 (.un .not (.tmp 47))] (Cd 48 (Sr [Mc 4 1] .ret) .skip)) (Sr [Mc 4 0] .ret)) .skip)) (.seq (Sr [Fa 49 5 2,Fa 50 0 49,Oo 51 (.load true 3 (.tmp 50)),Cl 52 153 [(.tmp 51)],Oo 53 (.un .not (.tmp 52)),Mv 54 53,Of 55 54 (.fa 5 (.tmp 2)),Of 56 54 (.fa 3 (.tmp 55)),Of 57 54 (.load false 1 (.tmp 56)),Of 58 54 (.call (.func 72) [(.tmp 57),(Ci 0),(Ci 172800)]),Of 59 54 (.un .not (.tmp 58)),Oo 60 (.pick (.tmp 54) (.const (.bool true)) (.tmp 59))] (Cd 60 (Sr [Mc 4 3] .ret) .skip)) (.seq (Sr [Fa 61 5 2,Fa 62 4 61,Ld 63 62,Bc 64 .neq 63 2,Mv 65 64,Ot 66 65 (.fa 5 (.tmp 2)),Ot 67 65 (.fa 4 (.tmp 66)),Ot 68 65 (.load false 1 (.tmp 67)),Ot 69 65 (.bin .neq (.tmp 68) (Ci 3)),Oo 70 (.pick (.tmp 65) (.tmp 69) (.const (.bool false)))] (Cd 70 (Sr [Mc 4 7] .ret) .skip)) (Sr [Mc 4 0] .ret)))))))))
theorem k109:ZaD Tryz.prog 109=some ⟨c109,[(.tmp 4)],71⟩:=by kernel_rfl
def c55:AC:=(Sr [Oo 1 (.box 26 3 (.tmp 0)),Mc 2 0] (.seq (Sr [Fa 11 0 1,Ld 12 11,Oo 13 (.len false (.tmp 12)),Bc 14 .gtr 13 40,Mv 15 14,Of 16 15 (.fa 1 (.tmp 1)),Of 17 15 (.load false 1 (.tmp 16)),Of 18 15 (.len false (.tmp 17)),Of 19 15 (.bin .gtr (.tmp 18) (Ci 20)),Oo 20 (.pick (.tmp 15) (.const (.bool true)) (.tmp 19)),Mv 21 20,Of 22 21 (.fa 2 (.tmp 1)),Of 23 21 (.load false 1 (.tmp 22)),Of 24 21 (.len false (.tmp 23)),Of 25 21 (.bin .gtr (.tmp 24) (Ci 20)),Oo 26 (.pick (.tmp 21) (.const (.bool true)) (.tmp 25))] (Cd 26 (Sr [Mc 2 2] .ret) .skip)) (.seq (Sr [Mc 3 0] (.block 0 (.loop (.seq (Sr [Mv 27 3,Fa 28 1 1,Ld 29 28,Oo 30 (.len false (.tmp 29)),Bn 31 .lss 27 30] (Cd 31 .skip (.exit 0))) (.seq (.block 1 (Sr [Fa 34 1 1,Ld 35 34,Mv 36 3,Oo 37 (.ia 2 (.tmp 35) (.tmp 36)),Fa 38 1 37,Ld 39 38,Oo 40 (.len false (.tmp 39)),Bc 41 .gtr 40 8] (Cd 41 (Sr [Mc 2 2] .ret) .skip))) (.reg [Mv 32 3,Bc 33 .add 32 1,Mv 3 33])))))) (.seq (Sr [Mc 4 0] (.block 2 (.loop (.seq (Sr [Mv 42 4,Fa 43 0 1,Ld 44 43,Oo 45 (.len false (.tmp 44)),Bn 46 .lss 42 45] (Cd 46 .skip (.exit 2))) (.seq (.block 3 (Sr [Fa 49 0 1,Ld 50 49,Mv 51 4,Oo 52 (.ia 11 (.tmp 50) (.tmp 51)),Oo 53 (.load true 11 (.tmp 52)),Cl 54 107 [(.tmp 53)],Mv 5 54] (Sr [Mv 55 5,Bc 56 .neq 55 0] (Cd 56 (Sr [Mv 57 5,Mv 2 57] .ret) .skip)))) (.reg [Mv 47 4,Bc 48 .add 47 1,Mv 4 48])))))) (.seq (Sr [Mc 6 0] (.block 4 (.loop (.seq (Sr [Mv 58 6,Fa 59 1 1,Ld 60 59,Oo 61 (.len false (.tmp 60)),Bn 62 .lss 58 61] (Cd 62 .skip (.exit 4))) (.seq (.block 5 (Sr [Fa 65 1 1,Ld 66 65,Mv 67 6,Oo 68 (.ia 2 (.tmp 66) (.tmp 67)),Fa 69 1 68,Ld 70 69,Mv 7 70] (.seq (Sr [Fa 71 1 1,Ld 72 71,Mv 73 6,Oo 74 (.ia 2 (.tmp 72) (.tmp 73)),Fa 75 0 74,Ld 76 75,Cl 77 108 [(.tmp 76)],Oo 78 (.un .not (.tmp 77)),Mv 79 78,Of 80 79 (mt 7),Of 81 79 (.len false (.tmp 80)),Of 82 79 (.bin .eql (.tmp 81) (Ci 0)),Oo 83 (.pick (.tmp 79) (.const (.bool true)) (.tmp 82))] (Cd 83 (Sr [Mc 2 1] .ret) .skip)) (Sr [Mc 8 0] (.block 6 (.loop (.seq (Sr [Mv 84 8,Mv 85 7,Oo 86 (.len false (.tmp 85)),Bn 87 .lss 84 86] (Cd 87 .skip (.exit 6))) (.seq (.block 7 (Sr [Mv 90 7,Mv 91 8,Oo 92 (.ia 10 (.tmp 90) (.tmp 91)),Oo 93 (.load true 10 (.tmp 92)),Mv 94 8,Mv 95 7,Oo 96 (.len false (.tmp 95)),Bc 97 .sub 96 1,Bn 98 .eql 94 97,Cl 99 109 [(.tmp 93),(.tmp 98)],Mv 9 99] (Sr [Mv 100 9,Bc 101 .neq 100 0] (Cd 101 (Sr [Mv 102 9,Mv 2 102] .ret) .skip)))) (.reg [Mv 88 8,Bc 89 .add 88 1,Mv 8 89]))))))))) (.reg [Mv 63 6,Bc 64 .add 63 1,Mv 6 64])))))) (.seq (Sr [Mc 10 0] (.block 8 (.loop (.seq (Sr [Mv 103 10,Fa 104 2 1,Ld 105 104,Oo 106 (.len false (.tmp 105)),Bn 107 .lss 103 106] (Cd 107 .skip (.exit 8))) (.seq (.block 9 (Sr [Fa 110 2 1,Ld 111 110,Mv 112 10,Oo 113 (.ia 2 (.tmp 111) (.tmp 112)),Fa 114 0 113,Ld 115 114,Cl 116 108 [(.tmp 115)],Oo 117 (.un .not (.tmp 116)),Mv 118 117,Of 119 118 (.fa 2 (.tmp 1)),Of 120 118 (.load false 1 (.tmp 119)),Of 121 118 (mt 10),Of 122 118 (.ia 2 (.tmp 120) (.tmp 121)),Of 123 118 (.fa 1 (.tmp 122)),Of 124 118 (.load false 1 (.tmp 123)),Of 125 118 (.call (.func 108) [(.tmp 124)]),Of 126 118 (.un .not (.tmp 125)),Oo 127 (.pick (.tmp 118) (.const (.bool true)) (.tmp 126))] (Cd 127 (Sr [Mc 2 1] .ret) .skip))) (.reg [Mv 108 10,Bc 109 .add 108 1,Mv 10 109])))))) (Sr [Mc 2 0] .ret)))))))
theorem k55:ZaD Tryz.prog 55=some ⟨c55,[(.tmp 2)],128⟩:=by kernel_rfl
theorem ZlJ {nm lt:ByteArray}{f t m k w n a c s:Int}{h:AH}(hnm:nm.size≤maxLen) (hlt':lt.size≤maxLen):Ac 107 [.agg [sv nm,iv f,iv t,iv m,iv k,iv w,iv n,iv a,iv c,iv s,sv lt]] h (iv (Zbo (nm,f,t,m,(k,w,n),a,c,s,lt))):=by
 refine tI' k107 fun N hn hlt hlA hbd=>?_
 simp only [tb'] at hbd ⊢
 refine wr'<|E' (Zbi (cvl lk rfl) rfl (hl0 hn) ha0) pt<|mv' lki pt<|sn'<|Zah<|wr'<|V' (Zac lk) pt<|V' (Zab lk (hga hn rfl) gt0) pt<|Zae mp (Zdk hnm) pt<|V' (ZaC lk) pt<|mv' lk pt<|?_
 refine ZaM (t:=9) gt pt pt (fun hg9=>?_) (fun hg9=>?_)
 ·refine s_no gt pt<|s_no gt pt<|s_no gt pt<|s_no gt pt<|V' (Zai lk lkb) pt<|sn'<|ZaG lk<|wr'<|mv' lki pt<|sn'<|Zaa<|?_
  refine Zaj<|Zag rz<|rT'<|?_
  rw [show Zbo (nm,f,t,m,(k,w,n),a,c,s,lt)=1 by unfold Zbo;simp_all]
 refine s_do gt<|V' (Zac lk) pt<|s_do gt<|V' (Zab lk (hga hn rfl) gt10) pt<|s_do gt<|Zae mp (Zhr hlt') pt<|s_do gt<|V' (ZaC lk) pt<|V' (Zak lk lk) pt<|sn'<|?_
 refine Zaw lk (fun hc1=>?_) (fun hc1=>?_)
 ·refine wr'<|mv' lki pt<|sn'<|Zaa<|Zaj<|Zag rz<|rT'<|?_
  rw [show Zbo (nm,f,t,m,(k,w,n),a,c,s,lt)=1 by unfold Zbo;simp_all]
 have h1:ZcF nm=true∧ZcA lt=true:=by simp_all
 have hR:Zbo (nm,f,t,m,(k,w,n),a,c,s,lt)=if f<1900∨f>t∨t>2100∨¬wi m 1 12=true then 3 else if (onV 2001 m k w n).2≠0 then (onV 2001 m k w n).2 else if ¬wi a 0 172800=true then 3 else if ¬clkB c true=true then 7 else if ¬wi s 0 10800=true then 3 else 0:=if_neg (by simp [h1])
 have hC:clkB c true=wi c 1 3:=by unfold clkB;simp
 rw [hC] at hR
 refine Zad<|Zaf<|Zah<|wr'<|V' (Zac lk) pt<|V' (Zab lk (hga hn rfl) gt1) pt<|V' (Zac lk) pt<|V' (Zab lk (hga hn rfl) gt2) pt<|Zae mp (Za4) pt<|V' (ZaC lk) pt<|mv' lk pt<|?_
 refine ZaM (t:=21) gt pt pt (fun hg21=>?_) (fun hg21=>?_)
 ·have hw:¬wi f 1900 t=true:=by simpa using hg21
  have hw':¬(1900≤f∧f≤t):=by unfold wi at hw;simpa using hw
  rw [if_pos (by omega)] at hR
  refine s_no gt pt<|s_no gt pt<|s_no gt pt<|V' (Zai lk lkb) pt<|mv' lk pt<|s_no gt pt<|s_no gt pt<|s_no gt pt<|s_no gt pt<|V' (Zai lk lkb) pt<|sn'<|ZaG lk<|Zah<|?_
  refine Zat<|mv' lki pt<|sn'<|Zaa<|Zaj<|Zag rz<|rT'<|?_
  rw [hR]
 have hw:wi f 1900 t=true:=by simpa using hg21
 have hw':1900≤f∧f≤t:=by unfold wi at hw;simpa using hw
 refine s_do gt<|V' (Zac lk) pt<|s_do gt<|V' (Zab lk (hga hn rfl) gt2) pt<|s_do gt<|V' (ZbW lk lki) pt<|V' (Zak lk lk) pt<|mv' lk pt<|?_
 refine sp' (t:=26) gt pt pt (fun hg26=>?_) (fun hg26=>?_)
 ·rw [if_pos (.inr (.inr (.inl (by omega))))] at hR
  refine s_no gt pt<|s_no gt pt<|s_no gt pt<|s_no gt pt<|V' (Zai lk lkb) pt<|sn'<|ZaG lk<|wr'<|mv' lki pt<|sn'<|Zaa<|?_
  refine Zaj<|Zag rz<|rT'<|?_
  rw [hR]
 refine s_do gt<|V' (Zac lk) pt<|s_do gt<|V' (Zab lk (hga hn rfl) gt3) pt<|s_do gt<|Zae mp (Za4) pt<|s_do gt<|V' (ZaC lk) pt<|V' (Zak lk lk) pt<|sn'<|?_
 refine Zaw lk (fun hc2=>?_) (fun hc2=>?_)
 ·rw [if_pos (.inr (.inr (.inr (by simpa using hc2))))] at hR
  refine wr'<|mv' lki pt<|sn'<|Zaa<|Zaj<|Zag rz<|rT'<|?_
  rw [hR]
 have hw2:wi m 1 12=true:=by simpa using hc2
 have h2:¬(f<1900∨f>t∨t>2100∨¬wi m 1 12=true):=by rw [hw2];simp;omega
 rw [if_neg h2] at hR
 refine Zad<|Zaf<|wr'<|V' (Zac lk) pt<|V' (Zab lk (hga hn rfl) gt3) pt<|V' (Zac lk) pt<|V' (Zap lk (hga hn rfl) Zp6 rfl) pt<|Zae mp (ron_a) pt<|mv' lk pt<|V' (Za7 lk gt) pt<|V' (Za7 lk gt) pt<|E' (Za6 (hl1 hn) ha1) pt<|E' (Zal lk (cvl lk rfl) (hga hn rfl) rfl (nb' rfl) rfl Zp7 (hs1 hn)) ptn<|?_
 refine mv' lk pt<|sn'<|Zah<|wr'<|mv' lk pt<|V' (Za5 lk lki) pt<|sn'<|?_
 refine cd' lk (fun hc3=>?_) (fun hc3=>?_)
 ·rw [if_pos hc3] at hR
  refine wr'<|mv' lk pt<|mv' lk pt<|sn'<|Zaa<|Zaj<|Zag rz<|rT'<|?_
  rw [hR]
 rw [if_neg hc3] at hR
 refine Zad<|Zaf<|Zah<|wr'<|V' (Zac lk) pt<|V' (Zab lk (hga hn rfl) gt7) pt<|Zae mp (Za4) pt<|V' (ZaC lk) pt<|sn'<|?_
 refine Zaw lk (fun hc4=>?_) (fun hc4=>?_)
 ·rw [if_pos (by simpa using hc4)] at hR
  refine wr'<|mv' lki pt<|sn'<|Zaa<|Zaj<|Zag rz<|rT'<|?_
  rw [hR]
 rw [if_neg (by simpa using hc4)] at hR
 refine Zad<|Zaf<|Zah<|wr'<|V' (Zac lk) pt<|V' (Zab lk (hga hn rfl) gt8) pt<|Zae mp (Za4) pt<|V' (ZaC lk) pt<|sn'<|?_
 refine Zaw lk (fun hc5=>?_) (fun hc5=>?_)
 ·rw [if_pos (by simpa using hc5)] at hR
  refine wr'<|mv' lki pt<|sn'<|Zaa<|Zaj<|Zag rz<|rT'<|?_
  rw [hR]
 rw [if_neg (by simpa using hc5)] at hR
 refine Zad<|Zaf<|Zah<|wr'<|V' (Zac lk) pt<|V' (Zab lk (hga hn rfl) gt9) pt<|Zae mp (Za4) pt<|V' (ZaC lk) pt<|sn'<|?_
 refine Zaw lk (fun hc6=>?_) (fun hc6=>?_)
 ·rw [if_pos (by simpa using hc6)] at hR
  refine wr'<|mv' lki pt<|sn'<|Zaa<|Zaj<|Zag rz<|rT'<|?_
  rw [hR]
 rw [if_neg (by simpa using hc6)] at hR
 refine Zad<|Zaf<|wr'<|mv' lki pt<|sn'<|Zaa<|Zag rz<|rT'<|?_
 rw [hR]
theorem ZhH (c:Int):clkB c false=decide (c=2∨c=3):=by unfold clkB wi;rw [Bool.eq_iff_iff];simp;omega
theorem ZmU {rl fm:ByteArray}{sh sa y m d a c:Int}{op last:Bool}{h:AH}(hrl:rl.size≤maxLen) (hfm:fm.size≤maxLen):Ac 109 [.agg [iv sh,sv rl,iv sa,sv fm,bv op,iv y,iv m,iv d,iv a,iv c],bv last] h (iv (eraE sh rl sa fm op y m d a c last)):=by
 refine tI' k109 fun N hn hlt hlA hbd=>?_
 simp only [tb'] at hbd ⊢
 refine wr'<|E' (Zbi (cvl lk rfl) rfl (hl0 hn) ha0) pt<|mv' lki pt<|sn'<|Zah<|wr'<|V' (Zac lk) pt<|V' (Zab lk (hga hn rfl) gt1) pt<|V' (Zb5 lk lks) pt<|mv' lk pt<|?_
 refine sp' (t:=8) gt pt pt (fun hg8=>?_) (fun hg8=>?_)
 ·refine s_do gt<|V' (Zac lk) pt<|s_do gt<|V' (Zab lk (hga hn rfl) gt1) pt<|s_do gt<|Zae mp (Zdk hrl) pt<|s_do gt<|V' (ZaC lk) pt<|V' (Zai lk lk) pt<|mv' lk pt<|?_
  refine ZaM (t:=14) gt pt pt (fun hg14=>?_) (fun hg14=>?_)
  ·refine s_no gt pt<|s_no gt pt<|s_no gt pt<|s_no gt pt<|V' (Zai lk lkb) pt<|sn'<|ZaG lk<|wr'<|mv' lki pt<|sn'<|Zaa<|?_
   refine Zaj<|Zag rz<|rT'<|?_
   refine ivx ?_;unfold eraE;simp_all
  refine s_do gt<|V' (Zac lk) pt<|s_do gt<|V' (Zab lk (hga hn rfl) gt3) pt<|s_do gt<|Zae mp (ZfU hfm) pt<|s_do gt<|V' (ZaC lk) pt<|V' (Zak lk lk) pt<|sn'<|?_
  refine Zaw lk (fun hc1=>?_) (fun hc1=>?_)
  ·refine wr'<|mv' lki pt<|sn'<|Zaa<|Zaj<|Zag rz<|rT'<|?_
   refine ivx ?_;unfold eraE;simp_all
  refine Zad<|Zaf<|Zah<|wr'<|V' (Zac lk) pt<|V' (Zab lk (hga hn rfl) gt0) pt<|Zae mp (Za4) pt<|V' (ZaC lk) pt<|mv' lk pt<|?_
  refine ZaM (t:=24) gt pt pt (fun hg24=>?_) (fun hg24=>?_)
  ·refine s_no gt pt<|s_no gt pt<|s_no gt pt<|s_no gt pt<|V' (Zai lk lkb) pt<|sn'<|ZaG lk<|wr'<|mv' lki pt<|sn'<|Zaa<|?_
   refine Zaj<|Zag rz<|rT'<|?_
   refine ivx ?_;unfold eraE;simp_all
  refine s_do gt<|V' (Zac lk) pt<|s_do gt<|V' (Zab lk (hga hn rfl) gt2) pt<|s_do gt<|Zae mp (Za4) pt<|s_do gt<|V' (ZaC lk) pt<|V' (Zak lk lk) pt<|sn'<|?_
  refine Zaw lk (fun hc2=>?_) (fun hc2=>?_)
  ·refine wr'<|mv' lki pt<|sn'<|Zaa<|Zaj<|Zag rz<|rT'<|?_
   refine ivx ?_;unfold eraE;simp_all
  refine Zad<|Zaf<|Zah<|wr'<|V' (Zac lk) pt<|V' (Zab lk (hga hn rfl) gt1) pt<|V' (Zb5 lk lks) pt<|mv' lk pt<|?_
  refine sp' (t:=33) gt pt pt (fun hg33=>?_) (fun hg33=>?_)
  ·refine s_do gt<|V' (Zac lk) pt<|s_do gt<|V' (Zab lk (hga hn rfl) gt2) pt<|s_do gt<|V' (Za5 lk lki) pt<|V' (Zai lk lk) pt<|sn'<|?_
   refine cd' lk (fun hc3=>?_) (fun hc3=>?_)
   ·refine wr'<|mv' lki pt<|sn'<|Zaa<|Zaj<|Zag rz<|rT'<|?_
    refine ivx ?_;unfold eraE;simp_all
   refine Zad<|Zaf<|Zah<|wr'<|V' (Zac lk) pt<|V' (Zab lk (hga hn rfl) gt4) pt<|mv' lk pt<|V' (ZdM lk lk) pt<|sn'<|?_
   refine cd' lk (fun hc4=>?_) (fun hc4=>?_)
   ·refine wr'<|mv' lki pt<|sn'<|Zaa<|Zaj<|Zag rz<|rT'<|?_
    refine ivx ?_;unfold eraE;simp_all
   refine Zad<|Zaf<|Zah<|wr'<|V' (Zac lk) pt<|V' (Zab lk (hga hn rfl) gt4) pt<|sn'<|?_
   refine Zaw lk (fun hc5=>?_) (fun hc5=>?_)
   ·refine Zah<|wr'<|V' (Zac lk) pt<|V' (Zap lk (hga hn rfl) ZfE rfl) pt<|V' (ZaA ZcI) pt<|Zae mp (Zdj (u:=((y,m,d),a,c)) (v:=((0,0,0),0,0))) pt<|V' (ZaC lk) pt<|sn'<|?_
    refine Zaw lk (fun hc6=>?_) (fun hc6=>?_)
    ·refine wr'<|mv' lki pt<|sn'<|Zaa<|Zaj<|Zaj<|Zag rz<|rT'<|?_
     refine ivx ?_;unfold eraE;simp_all <;> (try intros) <;> omega
    refine Zad<|Zaf<|wr'<|mv' lki pt<|sn'<|Zaa<|Zaj<|Zag rz<|rT'<|?_
    refine ivx ?_;unfold eraE;simp_all
   refine Zad<|Zaf<|Zah<|wr'<|V' (Zac lk) pt<|V' (Zbg lk) pt<|V' (Zap lk (hga hn rfl) ZfF rfl) pt<|Zae mp (Zfm) pt<|V' (ZaC lk) pt<|mv' lk pt<|?_
   refine ZaM (t:=54) gt pt pt (fun hg54=>?_) (fun hg54=>?_)
   ·refine s_no gt pt<|s_no gt pt<|s_no gt pt<|s_no gt pt<|s_no gt pt<|V' (Zai lk lkb) pt<|sn'<|ZaG lk<|wr'<|mv' lki pt<|sn'<|?_
    refine Zaa<|Zaj<|Zag rz<|rT'<|?_
    refine ivx ?_;unfold eraE;simp_all
   refine s_do gt<|V' (Zac lk) pt<|s_do gt<|V' (Zbg lk) pt<|s_do gt<|V' (Zab lk (hga hn rfl) gt8) pt<|s_do gt<|Zae mp (Za4) pt<|s_do gt<|V' (ZaC lk) pt<|V' (Zak lk lk) pt<|sn'<|?_
   refine Zaw lk (fun hc7=>?_) (fun hc7=>?_)
   ·refine wr'<|mv' lki pt<|sn'<|Zaa<|Zaj<|Zag rz<|rT'<|?_
    refine ivx ?_;unfold eraE;simp_all
   refine Zad<|Zaf<|Zah<|wr'<|V' (Zac lk) pt<|V' (Zbg lk) pt<|V' (Zab lk (hga hn rfl) gt9) pt<|V' (Za5 lk lki) pt<|mv' lk pt<|?_
   refine sp' (t:=65) gt pt pt (fun hg65=>?_) (fun hg65=>?_)
   ·refine s_do gt<|V' (Zac lk) pt<|s_do gt<|V' (Zbg lk) pt<|s_do gt<|V' (Zab lk (hga hn rfl) gt9) pt<|s_do gt<|V' (Za5 lk lki) pt<|V' (Zai lk lk) pt<|sn'<|?_
    refine cd' lk (fun hc8=>?_) (fun hc8=>?_)
    ·refine wr'<|mv' lki pt<|sn'<|Zaa<|Zaj<|Zag rz<|rT'<|?_
     refine ivx ?_;unfold eraE;rw [ZhH];simp_all
    refine Zad<|Zaf<|wr'<|mv' lki pt<|sn'<|Zaa<|Zag rz<|rT'<|?_
    refine ivx ?_;unfold eraE;rw [ZhH];simp_all
   refine s_no gt pt<|s_no gt pt<|s_no gt pt<|s_no gt pt<|V' (Zak lk lkb) pt<|sn'<|ZaR lk<|Zad<|Zaf<|wr'<|mv' lki pt<|Zaq<|?_
   refine Zaf<|Zaa<|Zag rz<|rT'<|?_
   refine ivx ?_;unfold eraE;rw [ZhH];simp_all
  refine s_no gt pt<|s_no gt pt<|s_no gt pt<|V' (Zak lk lkb) pt<|sn'<|ZaR lk<|Zad<|Zaf<|Zah<|wr'<|V' (Zac lk) pt<|V' (Zab lk (hga hn rfl) gt4) pt<|?_
  refine mv' lk pt<|V' (ZdM lk lk) pt<|sn'<|?_
  refine cd' lk (fun hc4=>?_) (fun hc4=>?_)
  ·refine wr'<|mv' lki pt<|sn'<|Zaa<|Zaj<|Zag rz<|rT'<|?_
   refine ivx ?_;unfold eraE;simp_all
  refine Zad<|Zaf<|Zah<|wr'<|V' (Zac lk) pt<|V' (Zab lk (hga hn rfl) gt4) pt<|sn'<|?_
  refine Zaw lk (fun hc5=>?_) (fun hc5=>?_)
  ·refine Zah<|wr'<|V' (Zac lk) pt<|V' (Zap lk (hga hn rfl) ZfE rfl) pt<|V' (ZaA ZcI) pt<|Zae mp (Zdj (u:=((y,m,d),a,c)) (v:=((0,0,0),0,0))) pt<|V' (ZaC lk) pt<|sn'<|?_
   refine Zaw lk (fun hc6=>?_) (fun hc6=>?_)
   ·refine wr'<|mv' lki pt<|sn'<|Zaa<|Zaj<|Zaj<|Zag rz<|rT'<|?_
    refine ivx ?_;unfold eraE;simp_all <;> (try intros) <;> omega
   refine Zad<|Zaf<|wr'<|mv' lki pt<|sn'<|Zaa<|Zaj<|Zag rz<|rT'<|?_
   refine ivx ?_;unfold eraE;simp_all
  refine Zad<|Zaf<|Zah<|wr'<|V' (Zac lk) pt<|V' (Zbg lk) pt<|V' (Zap lk (hga hn rfl) ZfF rfl) pt<|Zae mp (Zfm) pt<|V' (ZaC lk) pt<|mv' lk pt<|?_
  refine ZaM (t:=54) gt pt pt (fun hg54=>?_) (fun hg54=>?_)
  ·refine s_no gt pt<|s_no gt pt<|s_no gt pt<|s_no gt pt<|s_no gt pt<|V' (Zai lk lkb) pt<|sn'<|ZaG lk<|wr'<|mv' lki pt<|sn'<|?_
   refine Zaa<|Zaj<|Zag rz<|rT'<|?_
   refine ivx ?_;unfold eraE;simp_all
  refine s_do gt<|V' (Zac lk) pt<|s_do gt<|V' (Zbg lk) pt<|s_do gt<|V' (Zab lk (hga hn rfl) gt8) pt<|s_do gt<|Zae mp (Za4) pt<|s_do gt<|V' (ZaC lk) pt<|V' (Zak lk lk) pt<|sn'<|?_
  refine Zaw lk (fun hc7=>?_) (fun hc7=>?_)
  ·refine wr'<|mv' lki pt<|sn'<|Zaa<|Zaj<|Zag rz<|rT'<|?_
   refine ivx ?_;unfold eraE;simp_all
  refine Zad<|Zaf<|Zah<|wr'<|V' (Zac lk) pt<|V' (Zbg lk) pt<|V' (Zab lk (hga hn rfl) gt9) pt<|V' (Za5 lk lki) pt<|mv' lk pt<|?_
  refine sp' (t:=65) gt pt pt (fun hg65=>?_) (fun hg65=>?_)
  ·refine s_do gt<|V' (Zac lk) pt<|s_do gt<|V' (Zbg lk) pt<|s_do gt<|V' (Zab lk (hga hn rfl) gt9) pt<|s_do gt<|V' (Za5 lk lki) pt<|V' (Zai lk lk) pt<|sn'<|?_
   refine cd' lk (fun hc8=>?_) (fun hc8=>?_)
   ·refine wr'<|mv' lki pt<|sn'<|Zaa<|Zaj<|Zag rz<|rT'<|?_
    refine ivx ?_;unfold eraE;rw [ZhH];simp_all
   refine Zad<|Zaf<|wr'<|mv' lki pt<|sn'<|Zaa<|Zag rz<|rT'<|?_
   refine ivx ?_;unfold eraE;rw [ZhH];simp_all
  refine s_no gt pt<|s_no gt pt<|s_no gt pt<|s_no gt pt<|V' (Zak lk lkb) pt<|sn'<|ZaR lk<|Zad<|Zaf<|wr'<|mv' lki pt<|Zaq<|?_
  refine Zaf<|Zaa<|Zag rz<|rT'<|?_
  refine ivx ?_;unfold eraE;rw [ZhH];simp_all
 refine s_no gt pt<|s_no gt pt<|s_no gt pt<|s_no gt pt<|V' (Zak lk lkb) pt<|mv' lk pt<|s_do gt<|V' (Zac lk) pt<|s_do gt<|V' (Zab lk (hga hn rfl) gt3) pt<|s_do gt<|Zae mp (ZfU hfm) pt<|s_do gt<|V' (ZaC lk) pt<|?_
 refine V' (Zak lk lk) pt<|sn'<|?_
 refine Zaw lk (fun hc1=>?_) (fun hc1=>?_)
 ·refine wr'<|mv' lki pt<|sn'<|Zaa<|Zaj<|Zag rz<|rT'<|?_
  refine ivx ?_;unfold eraE;simp_all
 refine Zad<|Zaf<|Zah<|wr'<|V' (Zac lk) pt<|V' (Zab lk (hga hn rfl) gt0) pt<|Zae mp (Za4) pt<|V' (ZaC lk) pt<|mv' lk pt<|?_
 refine ZaM (t:=24) gt pt pt (fun hg24=>?_) (fun hg24=>?_)
 ·refine s_no gt pt<|s_no gt pt<|s_no gt pt<|s_no gt pt<|V' (Zai lk lkb) pt<|sn'<|ZaG lk<|wr'<|mv' lki pt<|sn'<|Zaa<|?_
  refine Zaj<|Zag rz<|rT'<|?_
  refine ivx ?_;unfold eraE;simp_all
 refine s_do gt<|V' (Zac lk) pt<|s_do gt<|V' (Zab lk (hga hn rfl) gt2) pt<|s_do gt<|Zae mp (Za4) pt<|s_do gt<|V' (ZaC lk) pt<|V' (Zak lk lk) pt<|sn'<|?_
 refine Zaw lk (fun hc2=>?_) (fun hc2=>?_)
 ·refine wr'<|mv' lki pt<|sn'<|Zaa<|Zaj<|Zag rz<|rT'<|?_
  refine ivx ?_;unfold eraE;simp_all
 refine Zad<|Zaf<|Zah<|wr'<|V' (Zac lk) pt<|V' (Zab lk (hga hn rfl) gt1) pt<|V' (Zb5 lk lks) pt<|mv' lk pt<|?_
 refine sp' (t:=33) gt pt pt (fun hg33=>?_) (fun hg33=>?_)
 ·refine s_do gt<|V' (Zac lk) pt<|s_do gt<|V' (Zab lk (hga hn rfl) gt2) pt<|s_do gt<|V' (Za5 lk lki) pt<|V' (Zai lk lk) pt<|sn'<|?_
  refine cd' lk (fun hc3=>?_) (fun hc3=>?_)
  ·refine wr'<|mv' lki pt<|sn'<|Zaa<|Zaj<|Zag rz<|rT'<|?_
   refine ivx ?_;unfold eraE;simp_all
  refine Zad<|Zaf<|Zah<|wr'<|V' (Zac lk) pt<|V' (Zab lk (hga hn rfl) gt4) pt<|mv' lk pt<|V' (ZdM lk lk) pt<|sn'<|?_
  refine cd' lk (fun hc4=>?_) (fun hc4=>?_)
  ·refine wr'<|mv' lki pt<|sn'<|Zaa<|Zaj<|Zag rz<|rT'<|?_
   refine ivx ?_;unfold eraE;simp_all
  refine Zad<|Zaf<|Zah<|wr'<|V' (Zac lk) pt<|V' (Zab lk (hga hn rfl) gt4) pt<|sn'<|?_
  refine Zaw lk (fun hc5=>?_) (fun hc5=>?_)
  ·refine Zah<|wr'<|V' (Zac lk) pt<|V' (Zap lk (hga hn rfl) ZfE rfl) pt<|V' (ZaA ZcI) pt<|Zae mp (Zdj (u:=((y,m,d),a,c)) (v:=((0,0,0),0,0))) pt<|V' (ZaC lk) pt<|sn'<|?_
   refine Zaw lk (fun hc6=>?_) (fun hc6=>?_)
   ·refine wr'<|mv' lki pt<|sn'<|Zaa<|Zaj<|Zaj<|Zag rz<|rT'<|?_
    refine ivx ?_;unfold eraE;simp_all <;> (try intros) <;> omega
   refine Zad<|Zaf<|wr'<|mv' lki pt<|sn'<|Zaa<|Zaj<|Zag rz<|rT'<|?_
   refine ivx ?_;unfold eraE;simp_all
  refine Zad<|Zaf<|Zah<|wr'<|V' (Zac lk) pt<|V' (Zbg lk) pt<|V' (Zap lk (hga hn rfl) ZfF rfl) pt<|Zae mp (Zfm) pt<|V' (ZaC lk) pt<|mv' lk pt<|?_
  refine ZaM (t:=54) gt pt pt (fun hg54=>?_) (fun hg54=>?_)
  ·refine s_no gt pt<|s_no gt pt<|s_no gt pt<|s_no gt pt<|s_no gt pt<|V' (Zai lk lkb) pt<|sn'<|ZaG lk<|wr'<|mv' lki pt<|sn'<|?_
   refine Zaa<|Zaj<|Zag rz<|rT'<|?_
   refine ivx ?_;unfold eraE;simp_all
  refine s_do gt<|V' (Zac lk) pt<|s_do gt<|V' (Zbg lk) pt<|s_do gt<|V' (Zab lk (hga hn rfl) gt8) pt<|s_do gt<|Zae mp (Za4) pt<|s_do gt<|V' (ZaC lk) pt<|V' (Zak lk lk) pt<|sn'<|?_
  refine Zaw lk (fun hc7=>?_) (fun hc7=>?_)
  ·refine wr'<|mv' lki pt<|sn'<|Zaa<|Zaj<|Zag rz<|rT'<|?_
   refine ivx ?_;unfold eraE;simp_all
  refine Zad<|Zaf<|Zah<|wr'<|V' (Zac lk) pt<|V' (Zbg lk) pt<|V' (Zab lk (hga hn rfl) gt9) pt<|V' (Za5 lk lki) pt<|mv' lk pt<|?_
  refine sp' (t:=65) gt pt pt (fun hg65=>?_) (fun hg65=>?_)
  ·refine s_do gt<|V' (Zac lk) pt<|s_do gt<|V' (Zbg lk) pt<|s_do gt<|V' (Zab lk (hga hn rfl) gt9) pt<|s_do gt<|V' (Za5 lk lki) pt<|V' (Zai lk lk) pt<|sn'<|?_
   refine cd' lk (fun hc8=>?_) (fun hc8=>?_)
   ·refine wr'<|mv' lki pt<|sn'<|Zaa<|Zaj<|Zag rz<|rT'<|?_
    refine ivx ?_;unfold eraE;rw [ZhH];simp_all
   refine Zad<|Zaf<|wr'<|mv' lki pt<|sn'<|Zaa<|Zag rz<|rT'<|?_
   refine ivx ?_;unfold eraE;rw [ZhH];simp_all
  refine s_no gt pt<|s_no gt pt<|s_no gt pt<|s_no gt pt<|V' (Zak lk lkb) pt<|sn'<|ZaR lk<|Zad<|Zaf<|wr'<|mv' lki pt<|Zaq<|?_
  refine Zaf<|Zaa<|Zag rz<|rT'<|?_
  refine ivx ?_;unfold eraE;rw [ZhH];simp_all
 refine s_no gt pt<|s_no gt pt<|s_no gt pt<|V' (Zak lk lkb) pt<|sn'<|ZaR lk<|Zad<|Zaf<|Zah<|wr'<|V' (Zac lk) pt<|V' (Zab lk (hga hn rfl) gt4) pt<|?_
 refine mv' lk pt<|V' (ZdM lk lk) pt<|sn'<|?_
 refine cd' lk (fun hc4=>?_) (fun hc4=>?_)
 ·refine wr'<|mv' lki pt<|sn'<|Zaa<|Zaj<|Zag rz<|rT'<|?_
  refine ivx ?_;unfold eraE;simp_all
 refine Zad<|Zaf<|Zah<|wr'<|V' (Zac lk) pt<|V' (Zab lk (hga hn rfl) gt4) pt<|sn'<|?_
 refine Zaw lk (fun hc5=>?_) (fun hc5=>?_)
 ·refine Zah<|wr'<|V' (Zac lk) pt<|V' (Zap lk (hga hn rfl) ZfE rfl) pt<|V' (ZaA ZcI) pt<|Zae mp (Zdj (u:=((y,m,d),a,c)) (v:=((0,0,0),0,0))) pt<|V' (ZaC lk) pt<|sn'<|?_
  refine Zaw lk (fun hc6=>?_) (fun hc6=>?_)
  ·refine wr'<|mv' lki pt<|sn'<|Zaa<|Zaj<|Zaj<|Zag rz<|rT'<|?_
   refine ivx ?_;unfold eraE;simp_all <;> (try intros) <;> omega
  refine Zad<|Zaf<|wr'<|mv' lki pt<|sn'<|Zaa<|Zaj<|Zag rz<|rT'<|?_
  refine ivx ?_;unfold eraE;simp_all
 refine Zad<|Zaf<|Zah<|wr'<|V' (Zac lk) pt<|V' (Zbg lk) pt<|V' (Zap lk (hga hn rfl) ZfF rfl) pt<|Zae mp (Zfm) pt<|V' (ZaC lk) pt<|mv' lk pt<|?_
 refine ZaM (t:=54) gt pt pt (fun hg54=>?_) (fun hg54=>?_)
 ·refine s_no gt pt<|s_no gt pt<|s_no gt pt<|s_no gt pt<|s_no gt pt<|V' (Zai lk lkb) pt<|sn'<|ZaG lk<|wr'<|mv' lki pt<|sn'<|?_
  refine Zaa<|Zaj<|Zag rz<|rT'<|?_
  refine ivx ?_;unfold eraE;simp_all
 refine s_do gt<|V' (Zac lk) pt<|s_do gt<|V' (Zbg lk) pt<|s_do gt<|V' (Zab lk (hga hn rfl) gt8) pt<|s_do gt<|Zae mp (Za4) pt<|s_do gt<|V' (ZaC lk) pt<|V' (Zak lk lk) pt<|sn'<|?_
 refine Zaw lk (fun hc7=>?_) (fun hc7=>?_)
 ·refine wr'<|mv' lki pt<|sn'<|Zaa<|Zaj<|Zag rz<|rT'<|?_
  refine ivx ?_;unfold eraE;simp_all
 refine Zad<|Zaf<|Zah<|wr'<|V' (Zac lk) pt<|V' (Zbg lk) pt<|V' (Zab lk (hga hn rfl) gt9) pt<|V' (Za5 lk lki) pt<|mv' lk pt<|?_
 refine sp' (t:=65) gt pt pt (fun hg65=>?_) (fun hg65=>?_)
 ·refine s_do gt<|V' (Zac lk) pt<|s_do gt<|V' (Zbg lk) pt<|s_do gt<|V' (Zab lk (hga hn rfl) gt9) pt<|s_do gt<|V' (Za5 lk lki) pt<|V' (Zai lk lk) pt<|sn'<|?_
  refine cd' lk (fun hc8=>?_) (fun hc8=>?_)
  ·refine wr'<|mv' lki pt<|sn'<|Zaa<|Zaj<|Zag rz<|rT'<|?_
   refine ivx ?_;unfold eraE;rw [ZhH];simp_all
  refine Zad<|Zaf<|wr'<|mv' lki pt<|sn'<|Zaa<|Zag rz<|rT'<|?_
  refine ivx ?_;unfold eraE;rw [ZhH];simp_all
 refine s_no gt pt<|s_no gt pt<|s_no gt pt<|s_no gt pt<|V' (Zak lk lkb) pt<|sn'<|ZaR lk<|Zad<|Zaf<|wr'<|mv' lki pt<|Zaq<|?_
 refine Zaf<|Zaa<|Zag rz<|rT'<|?_
 refine ivx ?_;unfold eraE;rw [ZhH];simp_all
theorem Zhs {r:Rul}{h:AH}(h1:r.1.size≤maxLen) (h2:r.2.2.2.2.2.2.2.2.size≤maxLen):Ac 107 [.agg (rulC r)] h (iv (Zbo r)):=ZlJ h1 h2
theorem ZmV {x:Era}{last:Bool}{h:AH}(ho:Zru x):ACalls Tryz.prog 109 [.agg (eraC x),bv last] h fun y h'=>h'=h∧y=.ret (iv (eraX x last)):=ZmU ho.1 ho.2
theorem ZlI {a:List Rul}{z:List Zon}{l:List Lnk}{h:AH}(hok:Zeb (a,z,l)):Ac 55 [.agg [.sl a.length 11 false (rows rulC a),.sl z.length 2 false (rows zonC z),.sl l.length 2 false (rows lnkC l)]] h (iv (ZbQ (a,z,l))):=by
 refine tI' k55 fun N hn hlt hlA hbd=>?_
 simp only [tb'] at hbd ⊢
 refine wr'<|E' (Zbi (cvl lk rfl) rfl (hl0 hn) ha0) pt<|mv' lki pt<|sn'<|Zah<|wr'<|V' (Zac lk) pt<|V' (Zab lk (hga hn rfl) gt0) pt<|V' (ZaI lk) pt<|V' (ZbW lk lki) pt<|mv' lk pt<|?_
 refine sp' (t:=15) gt pt pt (fun hg15=>?_) (fun hg15=>?_)
 ·have hM:ZeY (a,z,l)=true:=by unfold ZeY;simp;omega
  refine s_no gt pt<|s_no gt pt<|s_no gt pt<|s_no gt pt<|V' (Zai lk lkb) pt<|mv' lk pt<|s_no gt pt<|s_no gt pt<|s_no gt pt<|s_no gt pt<|V' (Zai lk lkb) pt<|sn'<|ZaG lk<|?_
  refine wr'<|mv' lki pt<|sn'<|Zaa<|Zaj<|Zag rz<|rT'<|?_
  refine ivx ?_;unfold ZbQ;rw [if_pos hM]
 refine s_do gt<|V' (Zac lk) pt<|s_do gt<|V' (Zab lk (hga hn rfl) gt1) pt<|s_do gt<|V' (ZaI lk) pt<|s_do gt<|V' (ZbW lk lki) pt<|V' (Zak lk lk) pt<|mv' lk pt<|?_
 refine sp' (t:=21) gt pt pt (fun hg21=>?_) (fun hg21=>?_)
 ·have hM:ZeY (a,z,l)=true:=by unfold ZeY;simp;omega
  refine s_no gt pt<|s_no gt pt<|s_no gt pt<|s_no gt pt<|V' (Zai lk lkb) pt<|sn'<|ZaG lk<|wr'<|mv' lki pt<|sn'<|Zaa<|?_
  refine Zaj<|Zag rz<|rT'<|?_
  refine ivx ?_;unfold ZbQ;rw [if_pos hM]
 refine s_do gt<|V' (Zac lk) pt<|s_do gt<|V' (Zab lk (hga hn rfl) gt2) pt<|s_do gt<|V' (ZaI lk) pt<|s_do gt<|V' (ZbW lk lki) pt<|V' (Zak lk lk) pt<|sn'<|?_
 refine cd' lk (fun hc1=>?_) (fun hc1=>?_)
 ·have hM:ZeY (a,z,l)=true:=by unfold ZeY;simp;omega
  refine wr'<|mv' lki pt<|sn'<|Zaa<|Zaj<|Zag rz<|rT'<|?_
  refine ivx ?_;unfold ZbQ;rw [if_pos hM]
 refine Zad<|Zaf<|Zah<|wr'<|mv' lki pt<|sn'<|Zan<|?_
 refine w_lp (ι:=Nat) (fun (k:Nat)=>[(3,iv (k:Int)),(2,.any)]++rn' 27 15) (fun (k:Nat)=>[]) (fun (k:Nat)=>k≤z.length∧(z.take k).any (fun z=>decide (8<z.2.length))=false) (fun (k:Nat)=>z.length-k) (0) (by exact ⟨Nat.zero_le _,rfl⟩) ?_
 rintro k hi1
 try simp only [sm',Nat.reduceAdd]
 obtain ⟨hk1,hk2⟩:=hi1
 refine Zah<|wr'<|mv' lk pt<|V' (Zac lk) pt<|V' (Zab lk (hga hn rfl) gt1) pt<|V' (ZaI lk) pt<|V' (ZaZ lk lk) pt<|sn'<|?_
 refine cd' lk (fun hc2=>?_) (fun hc2=>?_)
 ·have hk:k<z.length:=by omega
  refine Zad<|Zaf<|Zah<|Zan<|wr'<|V' (Zac lk) pt<|V' (Zab lk (hga hn rfl) gt1) pt<|mv' lk pt<|?_
  refine V' (ZaJ lk lk Zbs (nb' rfl) ro (by omega) ro rfl) pt ?_
  refine V' (ZaS lk dp1) pt<|V' (Zar lk gt) pt<|?_
  refine V' ((by first | exact ZaI lk | exact ZcC lk)) pt ?_
  refine V' (ZbW lk lki) pt<|sn'<|?_
  refine cd' lk (fun hc3=>?_) (fun hc3=>?_)
  ·have hM:ZeY (a,z,l)=true:=by unfold ZeY;rw [show z.any (fun z=>decide (8<z.2.length))=true from List.any_eq_true.2 ⟨z[k],List.getElem_mem hk,decide_eq_true (by omega)⟩];simp
   refine wr'<|mv' lki pt<|sn'<|Zaa<|Zas<|Zaj<|Zaj<|Zas<|Zaj<|Zag rz<|rT'<|?_
   refine ivx ?_;unfold ZbQ;rw [if_pos hM]
  refine Zad<|Zay<|Zaf<|Zat<|mv' lk pt<|?_
  refine V' (Zav lk lki (by omega) (by omega)) pt ?_
  refine mv' lk pt<|Zaq<|ZaB<|?_
  refine lT' (k+1) (by (try dsimp only);exact ⟨by omega,by rw [List.take_succ_eq_append_getElem hk,List.any_append,hk2];simp;omega⟩)
 rw [List.take_of_length_le (by omega)] at hk2
 have hM:ZeY (a,z,l)=false:=by unfold ZeY;rw [hk2];simp;omega
 have hE:ZbQ (a,z,l)=if Za0 Zbo a≠0 then Za0 Zbo a else if Za0 ZeZ z≠0 then Za0 ZeZ z else Za0 ZeB l:=by unfold ZbQ;rw [if_neg (by rw [hM];simp)]
 refine ZaE<|Zaz<|Zaz<|ZaX<|Zaf<|Zah<|wr'<|mv' lki pt<|sn'<|Zan<|?_
 refine w_lp (ι:=Nat) (fun (i2:Nat)=>[(4,iv (i2:Int)),(2,.any),(5,.any)]++rn' 42 16) (fun (i2:Nat)=>[]) (fun (i2:Nat)=>i2≤a.length∧Za0 Zbo a=Za0 Zbo (a.drop i2)) (fun (i2:Nat)=>a.length-i2) (0) (by exact ⟨Nat.zero_le _,rfl⟩) ?_
 rintro i2 hi2
 try simp only [sm',Nat.reduceAdd]
 obtain ⟨hu1,hu2⟩:=hi2
 refine Zah<|wr'<|mv' lk pt<|V' (Zac lk) pt<|V' (Zab lk (hga hn rfl) gt0) pt<|V' (ZaI lk) pt<|V' (ZaZ lk lk) pt<|sn'<|?_
 refine cd' lk (fun hc4=>?_) (fun hc4=>?_)
 ·have hk4:i2<a.length:=by omega
  rw [Zdo hk4] at hu2
  have ho4:=hok.1 _ (List.getElem_mem hk4)
  refine Zad<|Zaf<|Zah<|Zan<|wr'<|V' (Zac lk) pt<|V' (Zab lk (hga hn rfl) gt0) pt<|mv' lk pt<|?_
  refine V' (ZaJ lk lk Zck (nb' rfl) ro (by omega) ro rfl) pt ?_
  refine V' (ZaF lk Zp4 rfl) pt<|Zae mp (Zhs (r:=a[i2]) ho4.1 ho4.2) pt<|mv' lk pt<|sn'<|wr'<|mv' lk pt<|V' (Za5 lk lki) pt<|sn'<|?_
  refine cd' lk (fun hc5=>?_) (fun hc5=>?_)
  ·rw [if_pos hc5] at hu2
   refine wr'<|mv' lk pt<|mv' lk pt<|sn'<|Zaa<|Zas<|Zaj<|Zaj<|Zas<|Zaj<|Zag rz<|rT'<|?_
   refine ivx ?_;rw [hE,hu2,if_pos hc5]
  rw [if_neg hc5] at hu2
  refine Zad<|Zay<|Zaf<|Zat<|mv' lk pt<|?_
  refine V' (Zav lk lki (by omega) (by omega)) pt ?_
  refine mv' lk pt<|Zaq<|ZaB<|?_
  refine lT' (i2+1) (by (try dsimp only);exact ⟨by omega,hu2⟩)
 rw [List.drop_of_length_le (by omega)] at hu2
 rw [hu2,if_neg (by simp [Za0])] at hE
 refine ZaE<|Zaz<|Zaz<|ZaX<|Zaf<|Zah<|wr'<|mv' lki pt<|sn'<|Zan<|?_
 refine w_lp (ι:=Nat) (fun (i3:Nat)=>[(6,iv (i3:Int)),(2,.any)]++rn' 7 3++rn' 58 45) (fun (i3:Nat)=>[]) (fun (i3:Nat)=>i3≤z.length∧Za0 ZeZ z=Za0 ZeZ (z.drop i3)) (fun (i3:Nat)=>z.length-i3) (0) (by exact ⟨Nat.zero_le _,rfl⟩) ?_
 rintro i3 hi3
 try simp only [sm',Nat.reduceAdd]
 obtain ⟨hv1,hv2⟩:=hi3
 refine Zah<|wr'<|mv' lk pt<|V' (Zac lk) pt<|V' (Zab lk (hga hn rfl) gt1) pt<|V' (ZaI lk) pt<|V' (ZaZ lk lk) pt<|sn'<|?_
 refine cd' lk (fun hc6=>?_) (fun hc6=>?_)
 ·have hk6:i3<z.length:=by omega
  rw [Zdo hk6] at hv2
  have ho6:=hok.2.1 _ (List.getElem_mem hk6)
  have h8:(z[i3]).2.length≤8:=by have:=List.any_eq_false.1 hk2 _ (List.getElem_mem hk6);simpa using this
  refine Zad<|Zaf<|Zah<|Zan<|wr'<|V' (Zac lk) pt<|V' (Zab lk (hga hn rfl) gt1) pt<|mv' lk pt<|?_
  refine V' (ZaJ lk lk Zbs (nb' rfl) ro (by omega) ro rfl) pt ?_
  refine V' (ZaS lk dp1) pt<|V' (Zar lk gt) pt<|mv' lk pt<|sn'<|Zah<|wr'<|V' (Zac lk) pt<|V' (Zab lk (hga hn rfl) gt1) pt<|mv' lk pt<|?_
  refine V' (ZaJ lk lk Zbs (nb' rfl) ro (by omega) ro rfl) pt ?_
  refine V' (ZaS lk dp0) pt<|V' (Zar lk gt) pt<|Zae mp (Zdk ho6.1) pt<|V' (ZaC lk) pt<|mv' lk pt<|?_
  refine ZaM (t:=79) gt pt pt (fun hg79=>?_) (fun hg79=>?_)
  ·have hZ:ZeZ z[i3]=1:=if_pos (.inl (by simpa using hg79))
   refine s_no gt pt<|s_no gt pt<|s_no gt pt<|V' (Zai lk lkb) pt<|sn'<|ZaG lk<|wr'<|mv' lki pt<|sn'<|Zaa<|Zaj<|?_
   refine Zas<|Zaj<|Zaj<|Zas<|Zaj<|Zag rz<|rT'<|?_
   refine ivx ?_;rw [hE,hv2,if_pos (by rw [hZ];simp),if_pos (by rw [hZ];simp),hZ]
  refine s_do gt<|mv' lk pt<|s_do gt<|?_
  refine V' ((by first | exact ZaI lk | exact ZcC lk)) pt ?_
  refine s_do gt<|V' (ZaN lk lki) pt<|V' (Zak lk lk) pt<|sn'<|?_
  refine cd' lk (fun hc7=>?_) (fun hc7=>?_)
  ·have hZ:ZeZ z[i3]=1:=if_pos (.inr (by omega))
   refine wr'<|mv' lki pt<|sn'<|Zaa<|Zaj<|Zas<|Zaj<|Zaj<|Zas<|Zaj<|Zag rz<|rT'<|?_
   refine ivx ?_;rw [hE,hv2,if_pos (by rw [hZ];simp),if_pos (by rw [hZ];simp),hZ]
  have hZ:ZeZ z[i3]=Zgq z[i3].2:=if_neg (by rintro (h1 | h1);exact h1 (by simpa using hg79);omega)
  refine Zad<|Zaf<|wr'<|mv' lki pt<|sn'<|Zan<|?_
  refine w_lp (ι:=Nat) (fun (i4:Nat)=>[(8,iv (i4:Int)),(2,.any),(9,.any)]++rn' 84 19) (fun (i4:Nat)=>[]) (fun (i4:Nat)=>i4≤(z[i3]).2.length∧Zgq (z[i3]).2=Zgq ((z[i3]).2.drop i4)) (fun (i4:Nat)=>(z[i3]).2.length-i4) (0) (by exact ⟨Nat.zero_le _,rfl⟩) ?_
  rintro i4 hi4
  try simp only [sm',Nat.reduceAdd]
  obtain ⟨hx1,hx2⟩:=hi4
  refine Zah<|wr'<|mv' lk pt<|mv' lk pt<|?_
  refine V' ((by first | exact ZaI lk | exact ZcC lk)) pt ?_
  refine V' (ZaZ lk lk) pt<|sn'<|?_
  refine cd' lk (fun hc8=>?_) (fun hc8=>?_)
  ·have hk8:i4<(z[i3]).2.length:=by omega
   rw [ZoE hk8] at hx2
   have ho8:=ho6.2 _ (List.getElem_mem hk8)
   refine Zad<|Zaf<|Zah<|Zan<|wr'<|mv' lk pt<|mv' lk pt<|?_
   refine V' (ZaJ lk lk ZbG (nb' rfl) ro (by omega) ro rfl) pt ?_
   refine V' (ZaF lk Zp5 rfl) pt<|mv' lk pt<|mv' lk pt<|?_
   refine V' ((by first | exact ZaI lk | exact ZcC lk)) pt ?_
   refine V' (Zbn lk lki (by omega) (by omega)) pt ?_
   refine V' (ZaN lk lk) pt<|Zae mp (ZmV (x:=(z[i3]).2[i4]) (last:=decide ((i4:Int)=((z[i3]).2.length:Int)-1)) ho8) pt<|mv' lk pt<|sn'<|wr'<|mv' lk pt<|V' (Za5 lk lki) pt<|sn'<|?_
   refine cd' lk (fun hc9=>?_) (fun hc9=>?_)
   ·rw [if_pos hc9] at hx2
    refine wr'<|mv' lk pt<|mv' lk pt<|sn'<|Zaa<|Zas<|Zaj<|Zaj<|Zas<|Zas<|Zaj<|Zaj<|?_
    refine Zas<|Zaj<|Zag rz<|rT'<|?_
    refine ivx ?_;rw [hE,hv2,hZ,hx2,if_pos hc9,if_pos hc9]
   rw [if_neg hc9] at hx2
   refine Zad<|Zay<|Zaf<|Zat<|mv' lk pt<|?_
   refine V' (Zav lk lki (by omega) (by omega)) pt ?_
   refine mv' lk pt<|Zaq<|ZaB<|?_
   refine lT' (i4+1) (by (try dsimp only);exact ⟨by omega,hx2⟩)
  rw [List.drop_of_length_le (by omega)] at hx2
  rw [hZ,hx2,if_neg (by simp [Zgq])] at hv2
  refine ZaE<|Zaz<|Zaz<|ZaX<|Zay<|Zaf<|Zat<|mv' lk pt<|?_
  refine V' (Zav lk lki (by omega) (by omega)) pt ?_
  refine mv' lk pt<|Zaq<|ZaB<|?_
  refine lT' (i3+1) (by (try dsimp only);exact ⟨by omega,hv2⟩)
 rw [List.drop_of_length_le (by omega)] at hv2
 rw [hv2,if_neg (by simp [Za0])] at hE
 refine ZaE<|Zaz<|Zaz<|ZaX<|Zaf<|Zah<|wr'<|mv' lki pt<|sn'<|Zan<|?_
 refine w_lp (ι:=Nat) (fun (i5:Nat)=>[(10,iv (i5:Int)),(2,.any)]++rn' 103 25) (fun (i5:Nat)=>[]) (fun (i5:Nat)=>i5≤l.length∧Za0 ZeB l=Za0 ZeB (l.drop i5)) (fun (i5:Nat)=>l.length-i5) (0) (by exact ⟨Nat.zero_le _,rfl⟩) ?_
 rintro i5 hi5
 try simp only [sm',Nat.reduceAdd]
 obtain ⟨hy1,hy2⟩:=hi5
 refine Zah<|wr'<|mv' lk pt<|V' (Zac lk) pt<|V' (Zab lk (hga hn rfl) gt2) pt<|V' (ZaI lk) pt<|V' (ZaZ lk lk) pt<|sn'<|?_
 refine cd' lk (fun hc10=>?_) (fun hc10=>?_)
 ·have hk10:i5<l.length:=by omega
  rw [Zdo hk10] at hy2
  have ho10:=hok.2.2 _ (List.getElem_mem hk10)
  refine Zad<|Zaf<|Zah<|Zan<|wr'<|V' (Zac lk) pt<|V' (Zab lk (hga hn rfl) gt2) pt<|mv' lk pt<|?_
  refine V' (ZaJ lk lk ZcH (nb' rfl) ro (by omega) ro rfl) pt ?_
  refine V' (ZaS lk dp0) pt<|V' (Zar lk gt) pt<|Zae mp (Zdk ho10.1) pt<|V' (ZaC lk) pt<|mv' lk pt<|?_
  refine ZaM (t:=118) gt pt pt (fun hg118=>?_) (fun hg118=>?_)
  ·have hK:ZeB l[i5]=1:=by unfold ZeB;simp_all
   refine s_no gt pt<|s_no gt pt<|s_no gt pt<|s_no gt pt<|s_no gt pt<|s_no gt pt<|s_no gt pt<|s_no gt pt<|V' (Zai lk lkb) pt<|sn'<|ZaG lk<|wr'<|?_
   refine mv' lki pt<|sn'<|Zaa<|Zas<|Zaj<|Zaj<|Zas<|Zaj<|Zag rz<|rT'<|?_
   refine ivx ?_;rw [hE,hy2,if_pos (by rw [hK];simp),hK]
  refine s_do gt<|V' (Zac lk) pt<|s_do gt<|V' (Zab lk (hga hn rfl) gt2) pt<|s_do gt<|mv' lk pt<|s_do gt<|?_
  refine V' (ZaJ lk lk ZcH (nb' rfl) ro (by omega) ro rfl) pt ?_
  refine s_do gt<|V' (ZaS lk dp1) pt<|s_do gt<|V' (Zar lk gt) pt<|s_do gt<|Zae mp (Zdk ho10.2) pt<|s_do gt<|V' (ZaC lk) pt<|V' (Zak lk lk) pt<|sn'<|?_
  refine Zaw lk (fun hc11=>?_) (fun hc11=>?_)
  ·have hK:ZeB l[i5]=1:=by unfold ZeB;simp_all
   refine wr'<|mv' lki pt<|sn'<|Zaa<|Zas<|Zaj<|Zaj<|Zas<|Zaj<|Zag rz<|rT'<|?_
   refine ivx ?_;rw [hE,hy2,if_pos (by rw [hK];simp),hK]
  have hK:ZeB l[i5]=0:=by unfold ZeB;simp_all
  rw [hK,if_neg (by simp)] at hy2
  refine Zad<|Zay<|Zaf<|Zat<|mv' lk pt<|?_
  refine V' (Zav lk lki (by omega) (by omega)) pt ?_
  refine mv' lk pt<|Zaq<|ZaB<|?_
  refine lT' (i5+1) (by (try dsimp only);exact ⟨by omega,hy2⟩)
 rw [List.drop_of_length_le (by omega)] at hy2
 refine ZaE<|Zaz<|Zaz<|ZaX<|Zaf<|wr'<|mv' lki pt<|sn'<|Zaa<|Zag rz<|rT'<|?_
 refine ivx ?_;rw [hE,hy2];rfl
end Go.Proofs.YthdifaphoaekoaaGreatDoor
end
section
namespace Go.Proofs.YthdifaphoaekoaaGreatDoor
open Go.Ab Go.RowKit Civ
attribute [local simp] Zby Zlo ZeR
section
theorem Zkg {a0 a1 a2 a3 a4 a5 a6 a7 a8 a9 a10:AV}{l:List AV}:(a0::a1::a2::a3::a4::a5::a6::a7::a8::a9::a10::l).take 11=[a0,a1,a2,a3,a4,a5,a6,a7,a8,a9,a10]:=rfl
theorem ZdW {a0 a1 a2:AV}{l:List AV}:(a0::a1::a2::l).take 3=[a0,a1,a2]:=rfl
theorem Zdq { e:Ent}:([]:AH)++[e]=[e]:=rfl
theorem Zqg {e0 d0:Ent}:([e0]:AH)++[d0]=[e0,d0]:=rfl
theorem Zqf {a0 a1 a2 c0 c1 c2:AV}{l:List AV}:setCells (a0::a1::a2::l) 0 [c0,c1,c2]=c0::c1::c2::l:=rfl
theorem Zqe {a0 a1 a2:AV}{l:List AV}:((a0::a1::a2::l).drop 0).take 3=[a0,a1,a2]:=rfl
theorem ZiZ {τ:Operand→AV}{y0 y1:Operand}{x0_0 x1_0 x1_1 x1_2 x1_3 x1_4 x1_5 x1_6 x1_7 x1_8 x1_9 x1_10:AV}(h0:Zax (τ y0)=some [x0_0]) (l0:[x0_0].all leaf=true) (h1:Zax (τ y1)=some [x1_0,x1_1,x1_2,x1_3,x1_4,x1_5,x1_6,x1_7,x1_8,x1_9,x1_10]) (l1:[x1_0,x1_1,x1_2,x1_3,x1_4,x1_5,x1_6,x1_7,x1_8,x1_9,x1_10].all leaf=true):Zau τ [(0,1,y0),(1,11,y1)] [(.v (.int .i64 0)),(.v (.string ⟨#[]⟩)),(.v (.int .i64 0)),(.v (.int .i64 0)),(.v (.int .i64 0)),(.v (.int .i64 0)),(.v (.int .i64 0)),(.v (.int .i64 0)),(.v (.int .i64 0)),(.v (.int .i64 0)),(.v (.int .i64 0)),(.v (.string ⟨#[]⟩))]=some [x0_0,x1_0,x1_1,x1_2,x1_3,x1_4,x1_5,x1_6,x1_7,x1_8,x1_9,x1_10]:=by
 simp only [Zau,h0,l0,h1,l1]
 rfl
theorem Zdh {e0 e1 d0:Ent}:([e0,e1]:AH)++[d0]=[e0,e1,d0]:=rfl
theorem ZnO {a0 a1 a2 a3 a4 a5 a6 a7 a8 a9 a10 a11 c0 c1 c2 c3 c4 c5 c6 c7 c8 c9 c10 c11:AV}{l:List AV}:setCells (a0::a1::a2::a3::a4::a5::a6::a7::a8::a9::a10::a11::l) 0 [c0,c1,c2,c3,c4,c5,c6,c7,c8,c9,c10,c11]=c0::c1::c2::c3::c4::c5::c6::c7::c8::c9::c10::c11::l:=rfl
theorem ZnN {a0 a1 a2 a3 a4 a5 a6 a7 a8 a9 a10 a11:AV}{l:List AV}:((a0::a1::a2::a3::a4::a5::a6::a7::a8::a9::a10::a11::l).drop 0).take 12=[a0,a1,a2,a3,a4,a5,a6,a7,a8,a9,a10,a11]:=rfl
theorem ZiY {τ:Operand→AV}{y0:Operand}{x0_0 x0_1 x0_2 x0_3 x0_4 x0_5 x0_6 x0_7 x0_8 x0_9 x0_10 x0_11:AV}(h0:Zax (τ y0)=some [x0_0,x0_1,x0_2,x0_3,x0_4,x0_5,x0_6,x0_7,x0_8,x0_9,x0_10,x0_11]) (l0:[x0_0,x0_1,x0_2,x0_3,x0_4,x0_5,x0_6,x0_7,x0_8,x0_9,x0_10,x0_11].all leaf=true):Zau τ [(0,12,y0)] [(.v (.int .i64 0)),(.v (.string ⟨#[]⟩)),(.v (.int .i64 0)),(.v (.int .i64 0)),(.v (.int .i64 0)),(.v (.int .i64 0)),(.v (.int .i64 0)),(.v (.int .i64 0)),(.v (.int .i64 0)),(.v (.int .i64 0)),(.v (.int .i64 0)),(.v (.string ⟨#[]⟩))]=some [x0_0,x0_1,x0_2,x0_3,x0_4,x0_5,x0_6,x0_7,x0_8,x0_9,x0_10,x0_11]:=by
 simp only [Zau,h0,l0]
 rfl
theorem Zqd {a0 a1 a2 a3 a4 a5 a6 a7 a8 a9 a10 a11:AV}{l:List AV}:(a0::a1::a2::a3::a4::a5::a6::a7::a8::a9::a10::a11::l).take 12=[a0,a1,a2,a3,a4,a5,a6,a7,a8,a9,a10,a11]:=rfl
theorem Zb0 {τ:Operand→AV}{y0 y1 y2:Operand}{x0_0 x1_0 x2_0:AV}(h0:Zax (τ y0)=some [x0_0]) (l0:[x0_0].all leaf=true) (h1:Zax (τ y1)=some [x1_0]) (l1:[x1_0].all leaf=true) (h2:Zax (τ y2)=some [x2_0]) (l2:[x2_0].all leaf=true):Zau τ [(0,1,y0),(1,1,y1),(2,1,y2)] [(.v (.int .i64 0)),(.v (.int .i64 0)),(.v (.string ⟨#[]⟩))]=some [x0_0,x1_0,x2_0]:=by
 simp only [Zau,h0,l0,h1,l1,h2,l2]
 rfl
theorem ZbZ {τ:Operand→AV}{y0:Operand}{x0_0 x0_1 x0_2:AV}(h0:Zax (τ y0)=some [x0_0,x0_1,x0_2]) (l0:[x0_0,x0_1,x0_2].all leaf=true):Zau τ [(0,3,y0)] [(.v (.int .i64 0)),(.v (.int .i64 0)),(.v (.string ⟨#[]⟩))]=some [x0_0,x0_1,x0_2]:=by
 simp only [Zau,h0,l0]
 rfl
end
def c57:AC:=(Sr [Oo 6 (.mv (.const (.slice none 0 0))),Mc 7 0] (.seq (Sr [Mv 22 0,Oo 23 (.len false (.tmp 22)),Bc 24 .gtr 23 40] (Cd 24 (Sr [Oo 6 (.mv (.const (.slice none 0 0))),Mc 7 2] .ret) .skip)) (.seq (Sr [Mc 8 0] (.block 0 (.loop (.seq (Sr [Mv 25 8,Mv 26 0,Oo 27 (.len false (.tmp 26)),Bn 28 .lss 25 27] (Cd 28 .skip (.exit 0))) (.seq (.block 1 (Sr [Mv 31 0,Mv 32 8,Oo 33 (.ia 11 (.tmp 31) (.tmp 32)),Oo 34 (.load true 11 (.tmp 33)),Cl 35 107 [(.tmp 34)],Mv 9 35] (Sr [Mv 36 9,Bc 37 .neq 36 0] (Cd 37 (Sr [Mv 38 9,Oo 6 (.mv (.const (.slice none 0 0))),Mv 7 38] .ret) .skip)))) (.reg [Mv 29 8,Bc 30 .add 29 1,Mv 8 30])))))) (.seq (Sr [Mv 39 2,Cl 40 72 [(.tmp 39),(.const (.int .i64 (-64800))),(Ci 64800)],Oo 41 (.un .not (.tmp 40))] (Cd 41 (Sr [Oo 6 (.mv (.const (.slice none 0 0))),Mc 7 3] .ret) .skip)) (Sr [Mb 10 false] (Sr [Oo 11 (.mv (.const (.slice none 0 0)))] (.seq (Sr [Mc 12 1900] (.block 2 (.loop (.seq (Sr [Mv 42 12,Bc 43 .leq 42 2100] (Cd 43 .skip (.exit 2))) (.seq (.block 3 (Sr [Mc 13 0] (.block 4 (.loop (.seq (Sr [Mv 46 13,Mv 47 0,Oo 48 (.len false (.tmp 47)),Bn 49 .lss 46 48] (Cd 49 .skip (.exit 4))) (.seq (.block 5 (.seq (Sr [Mv 52 0,Mv 53 13,Oo 54 (.ia 11 (.tmp 52) (.tmp 53)),Fa 55 0 54,Ld 56 55,Mv 57 1,Bn 58 .neq 56 57] (Cd 58 (.exit 5) .skip)) (Sr [Mb 10 true] (.seq (Sd [Mv 59 12,Mv 60 0,Mv 61 13,Oo 62 (.ia 11 (.tmp 60) (.tmp 61)),Fa 63 1 62,Ld 64 63,Mv 65 0,Mv 66 13,Oo 67 (.ia 11 (.tmp 65) (.tmp 66)),Fa 68 2 67,Ld 69 68,Cl 70 72 [(.tmp 59),(.tmp 64),(.tmp 69)],Oo 71 (.un .not (.tmp 70))] (Cd 71 (.exit 5) .skip)) (.seq (.drw [Mv 73 12,Mv 74 0,Mv 75 13,Oo 76 (.ia 11 (.tmp 74) (.tmp 75)),Fa 77 3 76,Ld 78 77,Mv 79 0,Mv 80 13,Oo 81 (.ia 11 (.tmp 79) (.tmp 80)),Fa 82 4 81,Oo 83 (.load true 3 (.tmp 82)),Cl 84 110 [(.tmp 73),(.tmp 78),(.tmp 83)],Mv 72 84,Ex 85 72 0,Ex 86 72 1,Oo 14 (.new 63 3 [(iv 0),(iv 0),(iv 0)])] [false,false] [⟨none,none,(.store 3 (.tmp 14) (.tmp 85))⟩,Mv 15 86]) (.seq (.drw [Oo 87 (.load true 3 (.tmp 14)),Cl 88 111 [(.tmp 87)],Bc 89 .mul 88 86400,Mv 90 0,Mv 91 13,Oo 92 (.ia 11 (.tmp 90) (.tmp 91)),Fa 93 7 92,Ld 94 93,Bn 95 .add 89 94,Mv 96 0,Mv 97 13,Oo 98 (.ia 11 (.tmp 96) (.tmp 97)),Oo 99 (.load true 11 (.tmp 98)),Oo 100 (.build [(iv 0),Ss,(iv 0),(iv 0),(iv 0),(iv 0),(iv 0),(iv 0),(iv 0),(iv 0),(iv 0),Ss] [(0,(1,(.tmp 95))),(1,(11,(.tmp 99)))]),Oo 16 (.new 154 12 [(iv 0),Ss,(iv 0),(iv 0),(iv 0),(iv 0),(iv 0),(iv 0),(iv 0),(iv 0),(iv 0),Ss])] [false] [⟨none,none,(.store 12 (.tmp 16) (.tmp 100))⟩]) (Sr [Mv 101 11,Oo 102 (.load true 12 (.tmp 16)),Oo 103 (.lit 154 12 1 [(iv 0),Ss,(iv 0),(iv 0),(iv 0),(iv 0),(iv 0),(iv 0),(iv 0),(iv 0),(iv 0),Ss] [(0,(12,(.tmp 102)))]),Oo 104 (.app 154 12 112 (.tmp 101) (.tmp 103)),Mv 11 104] (Sr [Mv 105 11,Oo 106 (.len false (.tmp 105)),Bc 107 .sub 106 1,Mv 17 107] (.block 6 (.loop (.seq (Sd [Mv 108 17,Bc 109 .gtr 108 0,Mv 110 109,Ot 111 110 (mt 11),Ot 112 110 (mt 17),Ot 113 110 (.bin .sub (.tmp 112) (Ci 1)),Ot 114 110 (.ia 12 (.tmp 111) (.tmp 113)),Ot 115 110 (.fa 0 (.tmp 114)),Ot 116 110 (.load false 1 (.tmp 115)),Ot 117 110 (.fa 0 (.tmp 16)),Ot 118 110 (.load false 1 (.tmp 117)),Ot 119 110 (.bin .gtr (.tmp 116) (.tmp 118)),Oo 120 (.pick (.tmp 110) (.tmp 119) (.const (.bool false)))] (Cd 120 .skip (.exit 6))) (.seq (.block 7 (.drw [Mv 123 11,Mv 124 17,Mv 125 11,Mv 126 17,Bc 127 .sub 126 1,Mv 128 11,Mv 129 17,Bc 130 .sub 129 1,Oo 131 (.ia 12 (.tmp 128) (.tmp 130)),Oo 132 (.load true 12 (.tmp 131)),Mv 133 11,Mv 134 17,Oo 135 (.ia 12 (.tmp 133) (.tmp 134)),Oo 136 (.load true 12 (.tmp 135)),Oo 137 (.ia 12 (.tmp 123) (.tmp 124))] [false,false,false] [⟨none,none,(.store 12 (.tmp 137) (.tmp 132))⟩,Oo 138 (.ia 12 (.tmp 125) (.tmp 127)),⟨none,none,(.store 12 (.tmp 138) (.tmp 136))⟩])) (.reg [Mv 121 17,Bc 122 .sub 121 1,Mv 17 122]))))))))))))) (.reg [Mv 50 13,Bc 51 .add 50 1,Mv 13 51]))))))) (.reg [Mv 44 12,Bc 45 .add 44 1,Mv 12 45])))))) (.seq (Sr [Mv 139 10,Oo 140 (.un .not (.tmp 139))] (Cd 140 (Sr [Oo 6 (.mv (.const (.slice none 0 0))),Mc 7 5] .ret) .skip)) (Sr [Oo 18 (.mv (.const (.slice none 0 0)))] (.seq (Sr [Mc 19 0] (.block 8 (.loop (.seq (Sr [Mv 141 19,Mv 142 11,Oo 143 (.len false (.tmp 142)),Bn 144 .lss 141 143] (Cd 144 .skip (.exit 8))) (.seq (.block 9 (Sr [Mv 147 11,Mv 148 19,Oo 149 (.ia 12 (.tmp 147) (.tmp 148)),Fa 150 0 149,Ld 151 150,Mv 20 151,Mc 21 0] (.seq (Sr [Mv 152 19,Bc 153 .gtr 152 0] (Cd 153 (.seq (Sr [Mv 154 20,Mv 155 11,Mv 156 19,Bc 157 .sub 156 1,Oo 158 (.ia 12 (.tmp 155) (.tmp 157)),Fa 159 0 158,Ld 160 159,Bn 161 .sub 154 160,Bc 162 .lss 161 172800] (Cd 162 (Sr [Oo 6 (.mv (.const (.slice none 0 0))),Mc 7 4] .ret) .skip)) (.reg [Mv 163 11,Mv 164 19,Bc 165 .sub 164 1,Oo 166 (.ia 12 (.tmp 163) (.tmp 165)),Fa 167 1 166,Fa 168 9 167,Ld 169 168,Mv 21 169])) .skip)) (.seq (Sr [Mv 170 11,Mv 171 19,Oo 172 (.ia 12 (.tmp 170) (.tmp 171)),Fa 173 1 172,Fa 174 8 173,Ld 175 174] (.block 10 (Sr [Bc 177 .eql 175 1,Mv 176 177] (Cd 176 (.reg [Mv 178 20,Mv 179 2,Mv 180 21,Bn 181 .add 179 180,Bn 182 .sub 178 181,Mv 20 182]) (Sr [Bc 184 .eql 175 2,Mv 183 184] (Cd 183 (.reg [Mv 185 20,Mv 186 2,Bn 187 .sub 185 186,Mv 20 187]) .skip)))))) (.drw [Mv 188 18,Mv 189 20,Mv 190 11,Mv 191 19,Oo 192 (.ia 12 (.tmp 190) (.tmp 191)),Fa 193 1 192,Fa 194 9 193,Ld 195 194,Mv 196 11,Mv 197 19,Oo 198 (.ia 12 (.tmp 196) (.tmp 197)),Fa 199 1 198,Fa 200 10 199,Ld 201 200,Oo 202 (.build [(iv 0),(iv 0),Ss] [(0,(1,(.tmp 189))),(1,(1,(.tmp 195))),(2,(1,(.tmp 201)))]),Oo 203 (.lit 72 3 1 [(iv 0),(iv 0),Ss] [(0,(3,(.tmp 202)))])] [false,false] [Oo 204 (.app 72 3 32 (.tmp 188) (.tmp 203)),Mv 18 204]))))) (.reg [Mv 145 19,Bc 146 .add 145 1,Mv 19 146])))))) (.seq (Sr [Mv 205 18,Oo 206 (.len false (.tmp 205)),Bc 207 .gtr 206 1000] (Cd 207 (Sr [Oo 6 (.mv (.const (.slice none 0 0))),Mc 7 2] .ret) .skip)) (Sr [Mv 208 18,Mv 6 208,Mc 7 0] .ret))))))))))))
theorem k57:ZaD Tryz.prog 57=some ⟨c57,[(.tmp 6),(.tmp 7)],209⟩:=by kernel_rfl
theorem ron_r {r:Rul}{y:Int}{h:AH}(hr:Zbo r=0) (hy:1900≤y∧y≤2100):Ac 110 [iv y,iv r.2.2.2.1,.agg [iv r.2.2.2.2.1.1,iv r.2.2.2.2.1.2.1,iv r.2.2.2.2.1.2.2]] h (.tup [.agg [iv (Zbp (rDy r y)).1,iv (Zbp (rDy r y)).2.1,iv (Zbp (rDy r y)).2.2],iv 0]):=by
 have:=ron_a (y:=y) (m:=r.2.2.2.1) (k:=r.2.2.2.2.1.1) (wk:=r.2.2.2.2.1.2.1) (n:=r.2.2.2.2.1.2.2) (h:=h)
 rw [(Zij hr hy).1] at this
 exact this
theorem rnum_r {k:Int}{h:AH}(hk : -30000≤k∧k≤50000):Ac 111 [.agg [iv (Zbp k).1,iv (Zbp k).2.1,iv (Zbp k).2.2]] h (iv k):=by
 obtain ⟨h1,h2⟩:=Zf1 (days:=k) (by omega) (by omega)
 have hd:=Zce.1 h1
 have hm:=Zdx (Zbp k).1 (Zbp k).2.1
 have:=Zdl (y:=(Zbp k).1) (m:=(Zbp k).2.1) (d:=(Zbp k).2.2) (h:=h) (by omega) (by omega) (by omega) (by omega) (by omega) (by omega)
 rwa [h2] at this
def refT (l:List Rul) (nm:ByteArray) (Y i:Nat):List Trn:=((Zb1 1900 2100).take Y).flatMap (yrT l nm)++yrT (l.take i) nm (1900+(Y:Int))
def thB (l:List Rul) (nm:ByteArray) (Y i:Nat):Bool:=(decide (0<Y)&&l.any fun r=>decide (r.1=nm))||(l.take i).any fun r=>decide (r.1=nm)
theorem ZnQ {l:List Rul}{i:Nat}(hi:i<l.length) (nm:ByteArray) (y:Int):yrT (l.take (i+1)) nm y=yrT (l.take i) nm y++(if l[i].1=nm∧wi y (rFr l[i]) (rTo l[i])=true then [(Zdy l[i] y,l[i])] else []):=by
 unfold yrT
 rw [List.take_succ_eq_append_getElem hi,List.flatMap_append,List.flatMap_cons,List.flatMap_nil,List.append_nil]
theorem Zrh {l:List Rul}{nm:ByteArray}{Y i:Nat}(hi:i<l.length) (h:¬(l[i].1=nm∧wi (1900+(Y:Int)) (rFr l[i]) (rTo l[i])=true)):refT l nm Y (i+1)=refT l nm Y i:=by
 unfold refT;rw [ZnQ hi,if_neg h,List.append_nil]
theorem refT_yes {l:List Rul}{nm:ByteArray}{Y i:Nat}(hi:i<l.length) (h:l[i].1=nm∧wi (1900+(Y:Int)) (rFr l[i]) (rTo l[i])=true):refT l nm Y (i+1)=refT l nm Y i++[(Zdy l[i] (1900+(Y:Int)),l[i])]:=by
 unfold refT;rw [ZnQ hi,if_pos h,List.append_assoc]
theorem Zrg {l:List Rul}{nm:ByteArray}{Y i:Nat}(hY:Y<201) (hi:l.length≤i):refT l nm Y i=refT l nm (Y+1) 0:=by
 unfold refT
 have hl:Y<(Zb1 1900 2100).length:=by rw [ZcV];omega
 rw [List.take_of_length_le hi,List.take_succ_eq_append_getElem hl,List.flatMap_append]
 simp [Zb1,yrT]
theorem refT_all {l:List Rul}{nm:ByteArray}:refT l nm 201 0=(Zb1 1900 2100).flatMap (yrT l nm):=by
 unfold refT
 rw [List.take_of_length_le (by rw [ZcV];omega)]
 simp [yrT]
theorem Zpa {l:List Rul}{nm:ByteArray}:refT l nm 0 0=[]:=by simp [refT,yrT]
theorem thB_no {l:List Rul}{nm:ByteArray}{Y i:Nat}(hi:i<l.length) (h:l[i].1≠nm):thB l nm Y (i+1)=thB l nm Y i:=by
 unfold thB;rw [List.take_succ_eq_append_getElem hi,List.any_append];simp [h]
theorem ZmJ {l:List Rul}{nm:ByteArray}{Y i:Nat}(hi:i<l.length) (h:l[i].1=nm):thB l nm Y (i+1)=true:=by
 unfold thB;rw [List.take_succ_eq_append_getElem hi,List.any_append];simp [h]
theorem thB_year {l:List Rul}{nm:ByteArray}{Y i:Nat}(hi:l.length≤i):thB l nm Y i=thB l nm (Y+1) 0:=by
 unfold thB
 rw [List.take_of_length_le hi]
 cases l.any fun r=>decide (r.1=nm) <;> simp
theorem ZqN {l:List Rul}{nm:ByteArray}:thB l nm 201 0=l.any fun r=>decide (r.1=nm):=by simp [thB]
theorem refT_len {l:List Rul}{nm:ByteArray}{Y i:Nat}(hl:l.length≤40) (hY:Y≤201):(refT l nm Y i).length≤10000:=by
 have h1 : ∀ (l:List Rul) (y:Int),(yrT l nm y).length≤l.length:=by
  intro l y
  induction l with
  | nil=>simp [yrT]
  | cons r l ih =>
   unfold yrT at ih ⊢
   rw [List.flatMap_cons,List.length_append,List.length_cons]
   split
   ·simp only [List.length_singleton];omega
   simp only [List.length_nil];omega
 have h2 : ∀ (ys:List Int),(ys.flatMap (yrT l nm)).length≤40*ys.length:=by
  intro ys
  induction ys with
  | nil=>simp
  | cons y ys ih =>
   rw [List.flatMap_cons,List.length_append,List.length_cons]
   have:=h1 l y
   omega
 unfold refT
 rw [List.length_append]
 have a:=h2 ((Zb1 1900 2100).take Y)
 have b:=h1 (l.take i) (1900+(Y:Int))
 rw [List.length_take] at a b
 omega
def leT (a b:Trn):Prop:=a.1≤b.1
theorem leT_tot (a b:Trn):leT a b∨leT b a:=by unfold leT;omega
theorem leT_tr (a b c:Trn):leT a b→leT b c→leT a c:=by unfold leT;omega
theorem svAt_pre {l:List Trn}{i:Nat}(h0:0<i) (h:i-1<l.length):svAt l i=(l[i-1]).2.2.2.2.2.2.2.2.1:=by
 obtain ⟨j,rfl⟩ : ∃ j,i=j+1:=⟨i-1,by omega⟩
 exact Zgg h
theorem gapB_pr2 {l:List Trn}{i:Nat}(h:i<l.length) (h0:0<i) (hg:l[i].1-(l[i-1]'(by omega)).1<172800):gapB l=true:=by
 obtain ⟨i,rfl⟩ : ∃ i0,i=i0+1:=⟨i-1,by omega⟩
 exact Zl1 h hg
theorem gap_ok2 {S:List Trn}{i:Nat}(hi : ∀ j (h:j+1<S.length),j+1<i→172800≤S[j+1].1-S[j].1) (hl:S.length≤i):gapB S=false:=(ZhU S).2 fun j h=>hi j h (by omega)
theorem Zn9 {l:List Rul}{nm:ByteArray}{sh:Int}{h:AH}(hok:okRs l) (hl:l.length≤9223372036854775807) :
  Ac 57 [.sl l.length 11 false (rows rulC l),sv nm,iv sh] h (.tup [.sl (Zba l nm sh).1.length 3 false (rows timC (Zba l nm sh).1),iv (Zba l nm sh).2]):=by
 have hll:=hl
 have hE:Zdz l nm sh=if 40<l.length then 2 else if Za0 Zbo l≠0 then Za0 Zbo l else if sh < -64800∨sh>64800 then 3 else if l.any (fun r=>decide (r.1=nm))=false then 5 else 0:=rfl
 refine tW' k57 fun N hn hlt hlA hbd=>?_
 simp only [tb'] at hbd ⊢
 refine wr'<|mv' lkn pt<|mv' lki pt<|sn'<|Zah<|wr'<|mv' lk pt<|V' (ZaI lk) pt<|V' (ZbW lk lki) pt<|sn'<|?_
 refine cd' lk (fun hc1=>?_) (fun hc1=>?_)
 ·rw [if_pos (by omega)] at hE
  refine wr'<|mv' lkn pt<|mv' lki pt<|sn'<|Zaa<|Zaj<|Zag ry<|rtW'<|?_
  rw [Zef (by rw [hE];decide),hE];exact Wk.tup (wkw Wk.nilF (wk1 rfl wk0))
 rw [if_neg (by omega)] at hE
 refine Zad<|Zaf<|Zah<|wr'<|mv' lki pt<|sn'<|Zan<|?_
 refine w_lp (ι:=Nat) (fun (k:Nat)=>[(8,iv (k:Int)),(6,.any),(7,.any),(9,.any)]++rn' 25 14) (fun (k:Nat)=>[]) (fun (k:Nat)=>k≤l.length∧Za0 Zbo l=Za0 Zbo (l.drop k)) (fun (k:Nat)=>l.length-k) (0) (by exact ⟨Nat.zero_le _,rfl⟩) ?_
 rintro k hi1
 try simp only [sm',Nat.reduceAdd]
 obtain ⟨hk1,hk2⟩:=hi1
 refine Zah<|wr'<|mv' lk pt<|mv' lk pt<|V' (ZaI lk) pt<|V' (ZaZ lk lk) pt<|sn'<|?_
 refine cd' lk (fun hc2=>?_) (fun hc2=>?_)
 ·have hk:k<l.length:=by omega
  have ho:=hok _ (List.getElem_mem hk)
  rw [Zdo hk] at hk2
  refine Zad<|Zaf<|Zah<|Zan<|wr'<|mv' lk pt<|mv' lk pt<|?_
  refine V' (ZaJ lk lk Zck (nb' rfl) ro (by omega) ro rfl) pt ?_
  refine V' (ZaF lk Zkg rfl) pt<|Zae mp (Zhs (r:=l[k]) ho.1 ho.2) pt<|mv' lk pt<|sn'<|wr'<|mv' lk pt<|V' (Za5 lk lki) pt<|sn'<|?_
  refine cd' lk (fun hc3=>?_) (fun hc3=>?_)
  ·have hc3':Zbo l[k]≠0:=hc3
   rw [if_pos hc3'] at hk2
   rw [if_pos (by rw [hk2];exact hc3'),hk2] at hE
   refine wr'<|mv' lk pt<|mv' lkn pt<|mv' lk pt<|sn'<|Zaa<|Zas<|Zaj<|Zaj<|Zas<|Zaj<|Zag ry<|?_
   refine rtW' ?_
   rw [Zef (by rw [hE];exact hc3'),hE];exact Wk.tup (wkw Wk.nilF (wk1 rfl wk0))
  have hc3':¬Zbo l[k]≠0:=hc3
  rw [if_neg hc3'] at hk2
  refine Zad<|Zay<|Zaf<|Zat<|mv' lk pt<|?_
  refine V' (Zav lk lki (by omega) (by omega)) pt ?_
  refine mv' lk pt<|Zaq<|ZaB<|?_
  refine lT' (k+1) (by (try dsimp only);exact ⟨by omega,hk2⟩)
 rw [List.drop_of_length_le (by omega)] at hk2
 have hfr:Za0 Zbo l=0:=by rw [hk2];rfl
 rw [if_neg (by rw [hfr];simp)] at hE
 have hok2:=Zc9 hfr
 refine ZaE<|Zaz<|Zaz<|ZaX<|Zaf<|Zah<|wr'<|mv' lk pt<|Zae mp (ZbX) pt<|V' (ZaC lk) pt<|sn'<|?_
 refine Zaw lk (fun hc4=>?_) (fun hc4=>?_)
 ·rw [if_pos (by have:=hc4;simp only [Bool.not_eq_true',Zcq] at this;omega)] at hE
  refine wr'<|mv' lkn pt<|mv' lki pt<|sn'<|Zaa<|Zaj<|Zag ry<|rtW'<|?_
  rw [Zef (by rw [hE];decide),hE];exact Wk.tup (wkw Wk.nilF (wk1 rfl wk0))
 have hsh : -64800≤sh∧sh≤64800:=by have:=hc4;simp only [Bool.not_eq_false',Zbz] at this;exact this
 rw [if_neg (by omega)] at hE
 refine Zad<|Zaf<|wr'<|mv' lkb pt10<|sn'<|wr'<|mv' lkn pt11<|Zaq<|Za8 (ALe.own0' (st':=12) (ty:=154) gt11 (hl0 hn) pt11 ha0)<|Zah<|Zah<|?_
 refine Zat<|mv' lki pt<|sn'<|Zan<|?_
 refine w_lp (ι:=Nat×List Trn×Nat) (fun (x_:Nat×List Trn×Nat)=>match x_ with | ⟨Y,S,v⟩=>[(10,bv (thB l nm Y 0)),(11,.own (N+0) v S.length),(12,iv (1900+(Y:Int)))]++rn' 13 5++rn' 42 97) (fun (x_:Nat×List Trn×Nat)=>match x_ with | ⟨Y,S,v⟩=>[(0,.mk v 154 12 (rows trnC S))]) (fun (x_:Nat×List Trn×Nat)=>match x_ with | ⟨Y,S,v⟩=>Y≤201∧S.Perm (refT l nm Y 0)∧S.Pairwise leT) (fun (x_:Nat×List Trn×Nat)=>match x_ with | ⟨Y,S,v⟩=>201-Y) (⟨0,[],0⟩) (by exact ⟨by omega,by rw [Zpa],.nil⟩) ?_
 rintro ⟨Y,S,v⟩ hi2
 try simp only [sm',Nat.reduceAdd]
 obtain ⟨hY1,hY2,hY3⟩:=hi2
 refine Zah<|wr'<|mv' lk pt<|V' (Zc5 lk lki) pt<|sn'<|?_
 refine cd' lk (fun hc5=>?_) (fun hc5=>?_)
 ·have hY:Y<201:=by omega
  refine Zad<|Zaf<|Zah<|Zan<|wr'<|mv' lki pt<|sn'<|Zan<|?_
  refine w_lp (ι:=Nat×List Trn×Nat) (fun (x_:Nat×List Trn×Nat)=>match x_ with | ⟨i,S,v⟩=>[(10,bv (thB l nm Y i)),(11,.own (N+0) v S.length),(13,iv (i:Int))]++rn' 14 4++rn' 46 93) (fun (x_:Nat×List Trn×Nat)=>match x_ with | ⟨i,S,v⟩=>[(0,.mk v 154 12 (rows trnC S))]) (fun (x_:Nat×List Trn×Nat)=>match x_ with | ⟨i,S,v⟩=>i≤l.length∧S.Perm (refT l nm Y i)∧S.Pairwise leT) (fun (x_:Nat×List Trn×Nat)=>match x_ with | ⟨i,S,v⟩=>l.length-i) (⟨0,S,v⟩) (by exact ⟨Nat.zero_le _,hY2,hY3⟩) ?_
  rintro ⟨i,S,v⟩ hi3
  try simp only [sm',Nat.reduceAdd]
  obtain ⟨hj1,hj2,hj3⟩:=hi3
  refine Zah<|wr'<|mv' lk pt<|mv' lk pt<|V' (ZaI lk) pt<|V' (ZaZ lk lk) pt<|sn'<|?_
  refine cd' lk (fun hc6=>?_) (fun hc6=>?_)
  ·have hi:i<l.length:=by omega
   have hr:=hok2 _ (List.getElem_mem hi)
   refine Zad<|Zaf<|Zah<|Zan<|Zah<|wr'<|mv' lk pt<|mv' lk pt<|?_
   refine V' (ZaJ lk lk Zck (nb' rfl) ro (by omega) ro rfl) pt ?_
   refine V' (ZaS lk dp0) pt<|V' (Zar lk gt) pt<|mv' lk pt<|V' (Zb5 lk lk) pt<|sn'<|?_
   refine cd' lk (fun hc7=>?_) (fun hc7=>?_)
   ·refine ZaE<|Zaz<|ZaX<|Zaf<|Zat<|mv' lk pt<|?_
    refine V' (Zav lk lki (by omega) (by omega)) pt ?_
    refine mv' lk pt<|Zaq<|ZaB<|?_
    refine lU' (⟨i+1,S,v⟩) (by (try dsimp only);exact ⟨by omega,by rw [Zrh hi (fun h=>hc7 h.1)];exact hj2,hj3⟩) (by (try dsimp only);(try simp only [sm',Nat.reduceAdd]);exact ALe.same (by repeat (first | exact wk0 | refine wka ?_ | refine wk1 rfl ?_ | refine wk1 (by first | rfl | exact ivx (by omega) | (rw [thB_no hi hc7])) ?_)) rfl)
   have hnm:l[i].1=nm:=Decidable.of_not_not hc7
   refine Zad<|Zaf<|wr'<|mv' lkb pt<|sn'<|Zah<|Zah<|Zbf<|D' (v_mv lk) pt<|D' (v_mv lk) pt<|D' (v_mv lk) pt<|?_
   refine D' (ZaJ lk lk Zck (nb' rfl) ro (by omega) ro rfl) pt ?_
   refine D' (ZaS lk dp1) pt<|D' (Zar lk gt) pt<|D' (v_mv lk) pt<|D' (v_mv lk) pt<|?_
   refine D' (ZaJ lk lk Zck (nb' rfl) ro (by omega) ro rfl) pt ?_
   refine D' (ZaS lk dp2) pt<|D' (Zar lk gt) pt<|?_
   refine Za2 mp (fun hE hX=>ZbX) pt ?_
   refine D' (ZaC lk) pt<|Zbj<|?_
   refine ZbH ?_
   refine sn' ?_
   refine Zaw lk (fun hc8=>?_) (fun hc8=>?_)
   ·have hw:¬wi (1900+(Y:Int)) l[i].2.1 l[i].2.2.1=true:=by have:=hc8;rw [Bool.not_eq_true'] at this;rw [this];simp
    refine ZaE<|Zaz<|ZaX<|Zaf<|Zat<|mv' lk pt<|?_
    refine V' (Zav lk lki (by omega) (by omega)) pt ?_
    refine mv' lk pt<|Zaq<|ZaB<|?_
    refine lU' (⟨i+1,S,v⟩) (by (try dsimp only);exact ⟨by omega,by rw [Zrh hi (fun h=>hw h.2)];exact hj2,hj3⟩) (by (try dsimp only);(try simp only [sm',Nat.reduceAdd]);exact ALe.same (by repeat (first | exact wk0 | refine wka ?_ | refine wk1 rfl ?_ | refine wk1 (by first | rfl | exact ivx (by omega) | (rw [ZmJ hi hnm]) | (simp;done)) ?_)) rfl)
   have hw:wi (1900+(Y:Int)) l[i].2.1 l[i].2.2.1=true:=by have:=hc8;rwa [Bool.not_eq_false'] at this
   obtain ⟨hr1,hr2,hr3⟩:1900≤l[i].2.1∧l[i].2.1≤l[i].2.2.1∧l[i].2.2.1≤2100:=⟨(ZbR hr).1,(ZbR hr).2.1,(ZbR hr).2.2.1⟩
   have hwb:=Zbz.1 hw
   have hy:1900≤1900+(Y:Int)∧1900+(Y:Int)≤2100:=by omega
   obtain ⟨hd1,hd2⟩:=Zij hr hy
   have ha6:0≤l[i].2.2.2.2.2.1∧l[i].2.2.2.2.2.1≤172800:=(ZbR hr).2.2.2.2.2.1
   have hlenS:=hj2.length_eq
   have hlen2:=refT_len (nm:=nm) (Y:=Y) (i:=i) (show l.length≤40 by omega) (show Y≤201 by omega)
   have hpS:(S++[((Zdy l[i] (1900+(Y:Int)),l[i]):Trn)]).Perm (refT l nm Y (i+1)):=by rw [refT_yes hi ⟨hnm,hw⟩];exact hj2.append_right _
   refine Zad<|Zaf<|Zah<|Zbf<|D' (v_mv lk) pt<|D' (v_mv lk) pt<|D' (v_mv lk) pt<|?_
   refine D' (ZaJ lk lk Zck (nb' rfl) ro (by omega) ro rfl) pt ?_
   refine D' (ZaS lk dp3) pt<|D' (Zar lk gt) pt<|D' (v_mv lk) pt<|D' (v_mv lk) pt<|?_
   refine D' (ZaJ lk lk Zck (nb' rfl) ro (by omega) ro rfl) pt ?_
   refine D' (ZaS lk dp4) pt<|D' (ZaF lk ZdW rfl) pt<|?_
   refine Za2 mp (fun hE hX=>ron_r hr hy) pt ?_
   refine D' (v_mv lk) pt<|D' (Za7 lk gt) pt<|D' (Za7 lk gt) pt<|Zha rfl rfl (hlk hn rfl) (l_new) pt Zdq<|Zbj<|?_
   refine ZhG Zqg ?_
   refine E' (Zal lk (cvl lk rfl) (hga hn rfl) rfl (nb' rfl) rfl Zqf (hs1 hn)) ptn<|mv' lk pt<|sn'<|Zah<|Zbf<|D' (Zap lk (hga hn rfl) Zqe rfl) pt<|?_
   refine Za2 mp (fun hE hX=>rnum_r hd2) pt ?_
   refine D' (Zee lk lki (by omega) (by omega)) pt ?_
   refine D' (v_mv lk) pt<|D' (v_mv lk) pt<|?_
   refine D' (ZaJ lk lk Zck (nb' rfl) ro (by omega) ro rfl) pt ?_
   refine D' (ZaS lk dp7) pt<|D' (Zar lk gt) pt<|?_
   refine D' (Zav lk lk (by omega) (by omega)) pt ?_
   refine D' (v_mv lk) pt<|D' (v_mv lk) pt<|?_
   refine D' (ZaJ lk lk Zck (nb' rfl) ro (by omega) ro rfl) pt ?_
   refine D' (ZaF lk Zkg rfl) pt<|D' (ZaA (ZiZ (cvl lk rfl) rfl (cvl lk rfl) rfl)) pt<|Zha rfl rfl (hlk hn rfl) (l_new) pt Zdq<|Zbj<|?_
   refine ZhG Zdh ?_
   refine E' (Zal lk (cvl lk rfl) (hga hn rfl) rfl (nb' rfl) rfl ZnO (hs2 hn)) ptn<|sn'<|wr'<|mv' lk pt<|V' (Zap lk (hga hn rfl) ZnN rfl) pt<|E' (Zda (ZiY (cvl lk rfl) rfl) (hl3 hn) ha3) pt<|?_
   refine E' (Zcw (ZbI lk (hga hn rfl) rfl Zqd (nb' rfl)) lk (hga hn rfl) (ZqF _) (by omega) rfl (hs0 hn)) pt ?_
   refine mv' lk pt<|sn'<|wr'<|mv' lk pt<|V' (ZcC lk) pt<|?_
   refine V' (Zbn lk lki (by omega) (by omega)) pt ?_
   refine mv' lk pt<|sn'<|Zan<|?_
   refine Ze0 (ι:=Nat×List Trn) (fun (x_:Nat×List Trn)=>match x_ with | ⟨k,M⟩=>[(11,.own (N+0) (v+1) M.length),(17,iv (k:Int))]++rn' 108 31) (fun (x_:Nat×List Trn)=>match x_ with | ⟨k,M⟩=>[(0,.mk (v+1) 154 12 (rows trnC M))]) (fun (x_:Nat×List Trn)=>match x_ with | ⟨k,M⟩=>k≤S.length∧M.Perm (S++[((Zdy l[i] (1900+(Y:Int)),l[i]):Trn)])∧insR leT S.length k M∧M[k]?=some ((Zdy l[i] (1900+(Y:Int)),l[i]):Trn)) (fun (x_:Nat×List Trn)=>match x_ with | ⟨k,M⟩=>k) (⟨S.length,S++[((Zdy l[i] (1900+(Y:Int)),l[i]):Trn)]⟩) (by exact ⟨Nat.le_refl _,List.Perm.refl _,Zpm (by simp) (by simpa using hj3),by simp⟩) (by try simp only [sm',Nat.reduceAdd];exact ALe.same (by repeat (first | exact wk0 | refine wka ?_ | refine wk1 rfl ?_ | refine wk1 (by first | rfl | exact ivx (by simp) | exact ivx (by simp;omega) | (simp;done)) ?_)) (by simp only [ZaU,Zbc];rfl)) ?_
   rintro ⟨k,M⟩ hi4
   try simp only [sm',Nat.reduceAdd]
   obtain ⟨hk1,hk2,hk3,hk4⟩:=hi4
   have hkl:=hk2.length_eq
   simp only [List.length_append,List.length_singleton] at hkl
   refine Zah<|Zah<|Zbf<|D' (v_mv lk) pt<|D' (ZbW lk lki) pt<|D' (v_mv lk) pt<|?_
   refine dq' (t:=110) gt pt pt (fun hg110=>?_) (fun hg110=>?_)
   ·obtain ⟨j,rfl⟩ : ∃ j,k=j+1:=⟨k-1,by omega⟩
    have hz3:j+1<M.length:=by omega
    have hMk:M[j+1]=((Zdy l[i] (1900+(Y:Int)),l[i]):Trn):=by rw [List.getElem?_eq_getElem hz3] at hk4;exact Option.some.inj hk4
    refine d_do gt<|D' (v_mv lk) pt<|d_do gt<|D' (v_mv lk) pt<|d_do gt<|?_
    refine D' (Zbn lk lki (by omega) (by omega)) pt ?_
    refine d_do gt ?_
    refine D' (Zcb (k:=j) lk lk (hga hn rfl) ZaK (nb' rfl) ro (by omega) (by first | rfl | (simp;done) | omega)) pt ?_
    refine d_do gt<|D' (Zbg lk) pt<|d_do gt<|?_
    refine D' (ZcW lk (hga hn rfl) ZaK (by omega) (nb' rfl) gt0) pt ?_
    refine d_do gt<|D' (Zac lk) pt<|d_do gt<|D' (Zab lk (hga hn rfl) gt0) pt<|d_do gt<|D' (ZbW lk lk) pt<|D' (Zai lk lk) pt<|Zbj<|?_
    refine ZbH ?_
    refine sn' ?_
    refine cd' lk (fun hc9=>?_) (fun hc9=>?_)
    ·have hz6:¬leT M[j] M[j+1]:=by rw [hMk];intro hle;have hle:(M[j]).1≤rDy l[i] (1900+(Y:Int))*86400+l[i].2.2.2.2.2.1:=hle;omega
     obtain ⟨hz4,hz5⟩:=ZrS leT_tot hk3 hz3 hz6
     refine Zad<|Zaf<|Zah<|Zan<|Zbf<|D' (v_mv lk) pt<|D' (v_mv lk) pt<|D' (v_mv lk) pt<|D' (v_mv lk) pt<|?_
     refine D' (Zbn lk lki (by omega) (by omega)) pt ?_
     refine D' (v_mv lk) pt<|D' (v_mv lk) pt<|?_
     refine D' (Zbn lk lki (by omega) (by omega)) pt ?_
     refine D' (Zcb (k:=j) lk lk (hga hn rfl) ZaK (nb' rfl) ro (by omega) (by first | rfl | (simp;done) | omega)) pt ?_
     refine D' (ZqB lk (hga hn rfl) ZaK (by omega) rfl) pt ?_
     refine D' (v_mv lk) pt<|D' (v_mv lk) pt<|?_
     refine D' (Zcb (k:=j+1) lk lk (hga hn rfl) ZaK (nb' rfl) ro (by omega) (by first | rfl | (simp;done) | omega)) pt ?_
     refine D' (ZqB lk (hga hn rfl) ZaK (by omega) rfl) pt ?_
     refine D' (Zcb (k:=j+1) lk lk (hga hn rfl) ZaK (nb' rfl) ro (by omega) (by first | rfl | (simp;done) | omega)) pt ?_
     refine Zbj ?_
     refine ZbH ?_
     refine E' (Zsa (z:=M[j]) lk (cvl lk rfl) (hga hn rfl) ZaK rfl (by omega) (hs0 hn)) ptn ?_
     refine V' (Zcb (k:=j) lk lk (hga hn rfl) ZaK (nb' rfl) (by first | rfl | first | omega | (rw [List.length_set];omega)) (by first | omega | (rw [List.length_set];omega)) (by first | rfl | (simp;done) | first | omega | (rw [List.length_set];omega))) pt ?_
     refine E' (Zsa (z:=M[j+1]) lk (cvl lk rfl) (hga hn rfl) ZaK rfl (by first | omega | (rw [List.length_set];omega)) (hs0 hn)) ptn ?_
     refine Zaq<|Zay<|Zaf<|Zat<|mv' lk pt<|?_
     refine V' (Zbn lk lki (by omega) (by omega)) pt ?_
     refine mv' lk pt<|Zaq<|ZaB<|?_
     refine lU' (⟨j,(M.set (j+1) M[j]).set j M[j+1]⟩) (by (try dsimp only);exact ⟨by omega,hz5.trans hk2,hz4,by simp [hMk,show j<M.length by omega]⟩) (by (try dsimp only);(try simp only [sm',Nat.reduceAdd]);exact ALe.same (by repeat (first | exact wk0 | refine wka ?_ | refine wk1 rfl ?_ | refine wk1 (by first | rfl | exact ivx (by omega) | (simp;done)) ?_)) rfl)
    have hz7:leT M[j] M[j+1]:=by rw [hMk];show (M[j]).1≤rDy l[i] (1900+(Y:Int))*86400+l[i].2.2.2.2.2.1;omega
    have hz6:=Zpk leT_tr hk3 hz3 hz7
    rw [List.take_of_length_le (by omega)] at hz6
    refine ZaE<|Zaz<|Zaz<|ZaX<|Zay<|Zaf<|Zat<|mv' lk pt<|?_
    refine V' (Zav lk lki (by omega) (by omega)) pt ?_
    refine mv' lk pt<|Zaq<|ZaB<|?_
    refine lU' (⟨i+1,M,v+1⟩) (by (try dsimp only);exact ⟨by omega,hk2.trans hpS,hz6⟩) (by (try dsimp only);(try simp only [sm',Nat.reduceAdd]);exact bkE' 1 hn hlt (by repeat (first | exact wk0 | refine wka ?_ | refine wk1 rfl ?_ | refine wk1 (by first | rfl | exact ivx (by omega) | (rw [ZmJ hi hnm]) | (simp;done)) ?_)))
   obtain rfl:k=0:=by omega
   have hz6:=Zpl hk3
   rw [List.take_of_length_le (by omega)] at hz6
   refine d_no gt pt<|d_no gt pt<|d_no gt pt<|d_no gt pt<|d_no gt pt<|d_no gt pt<|d_no gt pt<|d_no gt pt<|d_no gt pt<|D' (Zak lk lkb) pt<|Zbj<|?_
   refine ZbH ?_
   refine sn'<|ZaR lk<|ZaE<|Zaz<|Zaz<|ZaX<|Zay<|Zaf<|Zat<|mv' lk pt<|?_
   refine V' (Zav lk lki (by omega) (by omega)) pt ?_
   refine mv' lk pt<|Zaq<|ZaB<|?_
   refine lU' (⟨i+1,M,v+1⟩) (by (try dsimp only);exact ⟨by omega,hk2.trans hpS,hz6⟩) (by (try dsimp only);(try simp only [sm',Nat.reduceAdd]);exact bkE' 1 hn hlt (by repeat (first | exact wk0 | refine wka ?_ | refine wk1 rfl ?_ | refine wk1 (by first | rfl | exact ivx (by omega) | (rw [ZmJ hi hnm]) | (simp;done)) ?_)))
  have hje:l.length≤i:=by omega
  refine ZaE<|Zaz<|Zaz<|ZaX<|Zay<|Zaf<|Zat<|mv' lk pt<|?_
  refine V' (Zav lk lki (by omega) (by omega)) pt ?_
  refine mv' lk pt<|Zaq<|ZaB<|?_
  refine lU' (⟨Y+1,S,v⟩) (by (try dsimp only);exact ⟨by omega,by rw [←Zrg hY hje];exact hj2,hj3⟩) (by (try dsimp only);(try simp only [sm',Nat.reduceAdd]);exact ALe.same (by repeat (first | exact wk0 | refine wka ?_ | refine wk1 rfl ?_ | refine wk1 (by first | rfl | exact ivx (by omega) | (rw [thB_year hje])) ?_)) rfl)
 have hY9:Y=201:=by omega
 subst hY9
 rw [refT_all] at hY2
 have hP:=hY2.trans (ZnR hok2)
 refine ZaE<|Zaz<|Zaz<|ZaX<|Zaf<|Zah<|wr'<|mv' lk pt<|?_
 refine V' ((by first | exact v_not lk | exact ZaC lk)) pt ?_
 refine sn' ?_
 refine cd' lk (fun hc10=>?_) (fun hc10=>?_)
 ·rw [if_pos (by have:=hc10;rw [ZqN,Bool.not_eq_true'] at this;exact this)] at hE
  refine wr'<|mv' lkn pt<|mv' lki pt<|sn'<|Zaa<|Zaj<|Zag ry<|rtW'<|?_
  rw [Zef (by rw [hE];decide),hE];exact Wk.tup (wkw Wk.nilF (wk1 rfl wk0))
 rw [if_neg (by have:=hc10;rw [ZqN,Bool.not_eq_false'] at this;rw [this];simp)] at hE
 have hTV:=Zkp (sh:=sh) hE hP hY3
 have hSO : ∀ t∈S,Zbo t.2=0 ∧ -2592000000≤t.1∧t.1≤4320172800:=fun t ht=>ZhM hok2 (hP.mem_iff.1 ht)
 have hSlen:=hP.length_eq
 have hSl2:=Zgc (nm:=nm) hok2
 refine Zad<|Zaf<|wr'<|mv' lkn pt18<|Zaq<|Za8 (ALe.own0' (st':=3) (ty:=72) gt18 (hl1 hn) pt18 ha1)<|Zah<|wr'<|mv' lki pt19<|sn'<|Zan<|?_
 refine w_lp (ι:=Nat) (fun (a:Nat)=>[(18,.own (N+1) a (outV sh 0 (S.take a)).length),(19,iv (a:Int)),(6,.any),(7,.any),(20,.any),(21,.any)]++rn' 141 64) (fun (a:Nat)=>[(1,.mk a 72 3 (rows timC (outV sh 0 (S.take a))))]) (fun (a:Nat)=>a≤S.length ∧ ∀ j (h:j+1<S.length),j+1<a→172800≤S[j+1].1-S[j].1) (fun (a:Nat)=>S.length-a) (0) (by exact ⟨Nat.zero_le _,fun j _ h=>by omega⟩) ?_
 rintro a hi5
 try simp only [sm',Nat.reduceAdd]
 obtain ⟨hm1,hm2⟩:=hi5
 refine Zah<|wr'<|mv' lk pt<|mv' lk pt<|V' (ZcC lk) pt<|V' (ZaZ lk lk) pt<|sn'<|?_
 refine cd' lk (fun hc11=>?_) (fun hc11=>?_)
 ·have ha:a<S.length:=by omega
  obtain ⟨hb0,hb1⟩:=hSO _ (List.getElem_mem ha)
  have hsb:=ZqS (i:=a) fun t ht=>(hSO t ht).1
  have hol:(outV sh 0 (S.take a)).length=a:=by rw [Zd4,List.length_take];omega
  have hol2:(outV sh 0 (S.take (a+1))).length=a+1:=by rw [Zd4,List.length_take];omega
  refine Zad<|Zaf<|Zah<|Zan<|wr'<|mv' lk pt<|mv' lk pt<|?_
  refine V' (Zcb lk lk (hga hn rfl) ZaK (nb' rfl) ro (by omega) (by first | rfl | (simp;done) | omega)) pt ?_
  refine V' (Zbg lk) pt ?_
  refine V' (ZcW lk (hga hn rfl) ZaK (by omega) (nb' rfl) gt0) pt ?_
  refine mv' lk pt<|mv' lki pt<|sn'<|Zah<|wr'<|mv' lk pt<|V' (ZbW lk lki) pt<|sn'<|?_
  refine cd' lk (fun hc12=>?_) (fun hc12=>?_)
  ·obtain ⟨hb3,hb4⟩:=hSO _ (List.getElem_mem (show a-1<S.length by omega))
   have hsv:=svAt_pre (l:=S) (show 0<a by omega) (by omega)
   rw [hsv] at hsb
   refine Zah<|wr'<|mv' lk pt<|mv' lk pt<|mv' lk pt<|?_
   refine V' (Zbn lk lki (by omega) (by omega)) pt ?_
   refine V' (Zcb (k:=a-1) lk lk (hga hn rfl) ZaK (nb' rfl) ro (by omega) (by first | rfl | (simp;done) | omega)) pt ?_
   refine V' (Zbg lk) pt ?_
   refine V' (ZcW lk (hga hn rfl) ZaK (by omega) (nb' rfl) gt0) pt ?_
   refine V' (Zbn lk lk (by omega) (by omega)) pt ?_
   refine V' (ZaZ lk lki) pt<|sn'<|?_
   refine cd' lk (fun hc13=>?_) (fun hc13=>?_)
   ·have hG:gapB S=true:=gapB_pr2 ha (by omega) hc13
    refine wr'<|mv' lkn pt<|mv' lki pt<|sn'<|Zaa<|Zaj<|Zaj<|Zas<|Zaj<|Zaj<|Zas<|Zaj<|?_
    refine Zag ry<|rtW'<|?_
    rw [hTV,if_pos hG];exact Wk.tup (wkw Wk.nilF (wk1 rfl wk0))
   refine Zad<|Zaf<|Zat<|mv' lk pt<|mv' lk pt<|?_
   refine V' (Zbn lk lki (by omega) (by omega)) pt ?_
   refine V' (Zcb (k:=a-1) lk lk (hga hn rfl) ZaK (nb' rfl) ro (by omega) (by first | rfl | (simp;done) | omega)) pt ?_
   refine V' (Zbg lk) pt<|V' (ZdL lk) pt<|?_
   refine V' (ZcW lk (hga hn rfl) ZaK (by omega) (nb' rfl) gt10) pt ?_
   refine mv' lk pt<|sn'<|Zah<|wr'<|mv' lk pt<|mv' lk pt<|?_
   refine V' (Zcb lk lk (hga hn rfl) ZaK (nb' rfl) ro (by omega) (by first | rfl | (simp;done) | omega)) pt ?_
   refine V' (Zbg lk) pt<|V' (ZdL lk) pt<|?_
   refine V' (ZcW lk (hga hn rfl) ZaK (by omega) (nb' rfl) gt9) pt ?_
   refine sn'<|Zan<|wr'<|V' (ZaN lk lki) pt<|mv' lk pt<|sn'<|?_
   refine cd' lk (fun hc14=>?_) (fun hc14=>?_)
   ·have hT:timV sh (svAt S a) S[a]=(S[a].1-(sh+svAt S a),rSv S[a].2,rLt S[a].2):=by unfold timV offV;rw [if_pos hc14]
    refine Zat<|mv' lk pt<|mv' lk pt<|mv' lk pt<|?_
    refine V' (Zav lk lk (by omega) (by omega)) pt ?_
    refine V' (Zbn lk lk (by omega) (by omega)) pt ?_
    refine mv' lk pt<|Zaq<|Zay<|Zaf<|Zbf<|D' (v_mv lk) pt<|D' (v_mv lk) pt<|D' (v_mv lk) pt<|D' (v_mv lk) pt<|?_
    refine D' (Zcb lk lk (hga hn rfl) ZaK (nb' rfl) ro (by omega) (by first | rfl | (simp;done) | omega)) pt ?_
    refine D' (Zbg lk) pt<|D' (ZdL lk) pt<|?_
    refine D' (ZcW lk (hga hn rfl) ZaK (by omega) (nb' rfl) gt10) pt ?_
    refine D' (v_mv lk) pt<|D' (v_mv lk) pt<|?_
    refine D' (Zcb lk lk (hga hn rfl) ZaK (nb' rfl) ro (by omega) (by first | rfl | (simp;done) | omega)) pt ?_
    refine D' (Zbg lk) pt<|D' (ZdL lk) pt<|?_
    refine D' (ZcW lk (hga hn rfl) ZaK (by omega) (nb' rfl) gt11) pt ?_
    refine D' (ZaA (Zb0 (cvl lk rfl) rfl (cvl lk rfl) rfl (cvl lk rfl) rfl)) pt<|Zha rfl rfl (hlk hn rfl) (ZkQ (ZbZ (cvl lk rfl) rfl)) pt Zdq<|Zbj<|?_
    refine ZhG Zdh ?_
    refine E' (Zcw (ZbI lk (hga hn rfl) rfl ZdW (nb' rfl)) lk (hga hn rfl) (Zdt _) (by omega) rfl (hs1 hn)) pt ?_
    refine mv' lk pt<|Zaq<|Zay<|Zaf<|Zat<|mv' lk pt<|?_
    refine V' (Zav lk lki (by omega) (by omega)) pt ?_
    refine mv' lk pt<|Zaq<|ZaB<|?_
    refine lU' (a+1) (by (try dsimp only);exact ⟨by omega,fun j hj h=>by by_cases e:j+1=a;(subst e;(try simp only [Nat.add_sub_cancel] at hc13);omega);exact hm2 j hj (by omega)⟩) (by (try dsimp only);(try simp only [sm',Nat.reduceAdd]);exact bkE' 2 hn hlt (by repeat (first | exact wk0 | refine wka ?_ | refine wk1 rfl ?_ | refine wk1 (by first | rfl | exact ivx (by omega) | (rw [hol2,hol];done) | (rw [hol2,hol])) ?_)) (by rw [Zdm ha,hT,ZaU,Zbc];(try rw [hsv]);rfl))
   have hc14':¬rCk S[a].2=1:=hc14
   refine wr'<|V' (ZaN lk lki) pt<|mv' lk pt<|sn'<|?_
   refine cd' lk (fun hc15=>?_) (fun hc15=>?_)
   ·have hT:timV sh (svAt S a) S[a]=(S[a].1-sh,rSv S[a].2,rLt S[a].2):=by unfold timV offV;rw [if_neg hc14',if_pos hc15]
    refine Zat<|mv' lk pt<|mv' lk pt<|?_
    refine V' (Zbn lk lk (by omega) (by omega)) pt ?_
    refine mv' lk pt<|Zaq<|Zay<|Zaf<|Zbf<|D' (v_mv lk) pt<|D' (v_mv lk) pt<|D' (v_mv lk) pt<|D' (v_mv lk) pt<|?_
    refine D' (Zcb lk lk (hga hn rfl) ZaK (nb' rfl) ro (by omega) (by first | rfl | (simp;done) | omega)) pt ?_
    refine D' (Zbg lk) pt<|D' (ZdL lk) pt<|?_
    refine D' (ZcW lk (hga hn rfl) ZaK (by omega) (nb' rfl) gt10) pt ?_
    refine D' (v_mv lk) pt<|D' (v_mv lk) pt<|?_
    refine D' (Zcb lk lk (hga hn rfl) ZaK (nb' rfl) ro (by omega) (by first | rfl | (simp;done) | omega)) pt ?_
    refine D' (Zbg lk) pt<|D' (ZdL lk) pt<|?_
    refine D' (ZcW lk (hga hn rfl) ZaK (by omega) (nb' rfl) gt11) pt ?_
    refine D' (ZaA (Zb0 (cvl lk rfl) rfl (cvl lk rfl) rfl (cvl lk rfl) rfl)) pt<|Zha rfl rfl (hlk hn rfl) (ZkQ (ZbZ (cvl lk rfl) rfl)) pt Zdq<|Zbj<|?_
    refine ZhG Zdh ?_
    refine E' (Zcw (ZbI lk (hga hn rfl) rfl ZdW (nb' rfl)) lk (hga hn rfl) (Zdt _) (by omega) rfl (hs1 hn)) pt ?_
    refine mv' lk pt<|Zaq<|Zay<|Zaf<|Zat<|mv' lk pt<|?_
    refine V' (Zav lk lki (by omega) (by omega)) pt ?_
    refine mv' lk pt<|Zaq<|ZaB<|?_
    refine lU' (a+1) (by (try dsimp only);exact ⟨by omega,fun j hj h=>by by_cases e:j+1=a;(subst e;(try simp only [Nat.add_sub_cancel] at hc13);omega);exact hm2 j hj (by omega)⟩) (by (try dsimp only);(try simp only [sm',Nat.reduceAdd]);exact bkE' 2 hn hlt (by repeat (first | exact wk0 | refine wka ?_ | refine wk1 rfl ?_ | refine wk1 (by first | rfl | exact ivx (by omega) | (rw [hol2,hol];done) | (rw [hol2,hol])) ?_)) (by rw [Zdm ha,hT,ZaU,Zbc];(try rw [hsv]);rfl))
   have hT:timV sh (svAt S a) S[a]=(S[a].1,rSv S[a].2,rLt S[a].2):=by unfold timV offV;rw [if_neg hc14',if_neg hc15,Int.sub_zero]
   refine Zad<|Zay<|Zaf<|Zbf<|D' (v_mv lk) pt<|D' (v_mv lk) pt<|D' (v_mv lk) pt<|D' (v_mv lk) pt<|?_
   refine D' (Zcb lk lk (hga hn rfl) ZaK (nb' rfl) ro (by omega) (by first | rfl | (simp;done) | omega)) pt ?_
   refine D' (Zbg lk) pt<|D' (ZdL lk) pt<|?_
   refine D' (ZcW lk (hga hn rfl) ZaK (by omega) (nb' rfl) gt10) pt ?_
   refine D' (v_mv lk) pt<|D' (v_mv lk) pt<|?_
   refine D' (Zcb lk lk (hga hn rfl) ZaK (nb' rfl) ro (by omega) (by first | rfl | (simp;done) | omega)) pt ?_
   refine D' (Zbg lk) pt<|D' (ZdL lk) pt<|?_
   refine D' (ZcW lk (hga hn rfl) ZaK (by omega) (nb' rfl) gt11) pt ?_
   refine D' (ZaA (Zb0 (cvl lk rfl) rfl (cvl lk rfl) rfl (cvl lk rfl) rfl)) pt<|Zha rfl rfl (hlk hn rfl) (ZkQ (ZbZ (cvl lk rfl) rfl)) pt Zdq<|Zbj<|?_
   refine ZhG Zdh ?_
   refine E' (Zcw (ZbI lk (hga hn rfl) rfl ZdW (nb' rfl)) lk (hga hn rfl) (Zdt _) (by omega) rfl (hs1 hn)) pt ?_
   refine mv' lk pt<|Zaq<|Zay<|Zaf<|Zat<|mv' lk pt<|?_
   refine V' (Zav lk lki (by omega) (by omega)) pt ?_
   refine mv' lk pt<|Zaq<|ZaB<|?_
   refine lU' (a+1) (by (try dsimp only);exact ⟨by omega,fun j hj h=>by by_cases e:j+1=a;(subst e;(try simp only [Nat.add_sub_cancel] at hc13);omega);exact hm2 j hj (by omega)⟩) (by (try dsimp only);(try simp only [sm',Nat.reduceAdd]);exact bkE' 2 hn hlt (by repeat (first | exact wk0 | refine wka ?_ | refine wk1 rfl ?_ | refine wk1 (by first | rfl | exact ivx (by omega) | (rw [hol2,hol];done) | (rw [hol2,hol])) ?_)) (by rw [Zdm ha,hT,ZaU,Zbc];(try rw [hsv]);rfl))
  have hsv:svAt S a=0:=by rw [show a=0 by omega];rfl
  refine Zad<|Zaf<|Zah<|wr'<|mv' lk pt<|mv' lk pt<|?_
  refine V' (Zcb lk lk (hga hn rfl) ZaK (nb' rfl) ro (by omega) (by first | rfl | (simp;done) | omega)) pt ?_
  refine V' (Zbg lk) pt<|V' (ZdL lk) pt<|?_
  refine V' (ZcW lk (hga hn rfl) ZaK (by omega) (nb' rfl) gt9) pt ?_
  refine sn'<|Zan<|wr'<|V' (ZaN lk lki) pt<|mv' lk pt<|sn'<|?_
  refine cd' lk (fun hc14=>?_) (fun hc14=>?_)
  ·have hT:timV sh (svAt S a) S[a]=(S[a].1-(sh+svAt S a),rSv S[a].2,rLt S[a].2):=by unfold timV offV;rw [if_pos hc14]
   refine Zat<|mv' lk pt<|mv' lk pt<|mv' lk pt<|?_
   refine V' (Zav lk lk (by omega) (by omega)) pt ?_
   refine V' (Zbn lk lk (by omega) (by omega)) pt ?_
   refine mv' lk pt<|Zaq<|Zay<|Zaf<|Zbf<|D' (v_mv lk) pt<|D' (v_mv lk) pt<|D' (v_mv lk) pt<|D' (v_mv lk) pt<|?_
   refine D' (Zcb lk lk (hga hn rfl) ZaK (nb' rfl) ro (by omega) (by first | rfl | (simp;done) | omega)) pt ?_
   refine D' (Zbg lk) pt<|D' (ZdL lk) pt<|?_
   refine D' (ZcW lk (hga hn rfl) ZaK (by omega) (nb' rfl) gt10) pt ?_
   refine D' (v_mv lk) pt<|D' (v_mv lk) pt<|?_
   refine D' (Zcb lk lk (hga hn rfl) ZaK (nb' rfl) ro (by omega) (by first | rfl | (simp;done) | omega)) pt ?_
   refine D' (Zbg lk) pt<|D' (ZdL lk) pt<|?_
   refine D' (ZcW lk (hga hn rfl) ZaK (by omega) (nb' rfl) gt11) pt ?_
   refine D' (ZaA (Zb0 (cvl lk rfl) rfl (cvl lk rfl) rfl (cvl lk rfl) rfl)) pt<|Zha rfl rfl (hlk hn rfl) (ZkQ (ZbZ (cvl lk rfl) rfl)) pt Zdq<|Zbj<|?_
   refine ZhG Zdh ?_
   refine E' (Zcw (ZbI lk (hga hn rfl) rfl ZdW (nb' rfl)) lk (hga hn rfl) (Zdt _) (by omega) rfl (hs1 hn)) pt ?_
   refine mv' lk pt<|Zaq<|Zay<|Zaf<|Zat<|mv' lk pt<|?_
   refine V' (Zav lk lki (by omega) (by omega)) pt ?_
   refine mv' lk pt<|Zaq<|ZaB<|?_
   refine lU' (a+1) (by (try dsimp only);exact ⟨by omega,fun j hj h=>by by_cases e:j+1=a;(subst e;(try simp only [Nat.add_sub_cancel] at hc13);omega);exact hm2 j hj (by omega)⟩) (by (try dsimp only);(try simp only [sm',Nat.reduceAdd]);exact bkE' 2 hn hlt (by repeat (first | exact wk0 | refine wka ?_ | refine wk1 rfl ?_ | refine wk1 (by first | rfl | exact ivx (by omega) | (rw [hol2,hol];done) | (rw [hol2,hol])) ?_)) (by rw [Zdm ha,hT,ZaU,Zbc];(try rw [hsv]);rfl))
  have hc14':¬rCk S[a].2=1:=hc14
  refine wr'<|V' (ZaN lk lki) pt<|mv' lk pt<|sn'<|?_
  refine cd' lk (fun hc15=>?_) (fun hc15=>?_)
  ·have hT:timV sh (svAt S a) S[a]=(S[a].1-sh,rSv S[a].2,rLt S[a].2):=by unfold timV offV;rw [if_neg hc14',if_pos hc15]
   refine Zat<|mv' lk pt<|mv' lk pt<|?_
   refine V' (Zbn lk lk (by omega) (by omega)) pt ?_
   refine mv' lk pt<|Zaq<|Zay<|Zaf<|Zbf<|D' (v_mv lk) pt<|D' (v_mv lk) pt<|D' (v_mv lk) pt<|D' (v_mv lk) pt<|?_
   refine D' (Zcb lk lk (hga hn rfl) ZaK (nb' rfl) ro (by omega) (by first | rfl | (simp;done) | omega)) pt ?_
   refine D' (Zbg lk) pt<|D' (ZdL lk) pt<|?_
   refine D' (ZcW lk (hga hn rfl) ZaK (by omega) (nb' rfl) gt10) pt ?_
   refine D' (v_mv lk) pt<|D' (v_mv lk) pt<|?_
   refine D' (Zcb lk lk (hga hn rfl) ZaK (nb' rfl) ro (by omega) (by first | rfl | (simp;done) | omega)) pt ?_
   refine D' (Zbg lk) pt<|D' (ZdL lk) pt<|?_
   refine D' (ZcW lk (hga hn rfl) ZaK (by omega) (nb' rfl) gt11) pt ?_
   refine D' (ZaA (Zb0 (cvl lk rfl) rfl (cvl lk rfl) rfl (cvl lk rfl) rfl)) pt<|Zha rfl rfl (hlk hn rfl) (ZkQ (ZbZ (cvl lk rfl) rfl)) pt Zdq<|Zbj<|?_
   refine ZhG Zdh ?_
   refine E' (Zcw (ZbI lk (hga hn rfl) rfl ZdW (nb' rfl)) lk (hga hn rfl) (Zdt _) (by omega) rfl (hs1 hn)) pt ?_
   refine mv' lk pt<|Zaq<|Zay<|Zaf<|Zat<|mv' lk pt<|?_
   refine V' (Zav lk lki (by omega) (by omega)) pt ?_
   refine mv' lk pt<|Zaq<|ZaB<|?_
   refine lU' (a+1) (by (try dsimp only);exact ⟨by omega,fun j hj h=>by by_cases e:j+1=a;(subst e;(try simp only [Nat.add_sub_cancel] at hc13);omega);exact hm2 j hj (by omega)⟩) (by (try dsimp only);(try simp only [sm',Nat.reduceAdd]);exact bkE' 2 hn hlt (by repeat (first | exact wk0 | refine wka ?_ | refine wk1 rfl ?_ | refine wk1 (by first | rfl | exact ivx (by omega) | (rw [hol2,hol];done) | (rw [hol2,hol])) ?_)) (by rw [Zdm ha,hT,ZaU,Zbc];(try rw [hsv]);rfl))
  have hT:timV sh (svAt S a) S[a]=(S[a].1,rSv S[a].2,rLt S[a].2):=by unfold timV offV;rw [if_neg hc14',if_neg hc15,Int.sub_zero]
  refine Zad<|Zay<|Zaf<|Zbf<|D' (v_mv lk) pt<|D' (v_mv lk) pt<|D' (v_mv lk) pt<|D' (v_mv lk) pt<|?_
  refine D' (Zcb lk lk (hga hn rfl) ZaK (nb' rfl) ro (by omega) (by first | rfl | (simp;done) | omega)) pt ?_
  refine D' (Zbg lk) pt<|D' (ZdL lk) pt<|?_
  refine D' (ZcW lk (hga hn rfl) ZaK (by omega) (nb' rfl) gt10) pt ?_
  refine D' (v_mv lk) pt<|D' (v_mv lk) pt<|?_
  refine D' (Zcb lk lk (hga hn rfl) ZaK (nb' rfl) ro (by omega) (by first | rfl | (simp;done) | omega)) pt ?_
  refine D' (Zbg lk) pt<|D' (ZdL lk) pt<|?_
  refine D' (ZcW lk (hga hn rfl) ZaK (by omega) (nb' rfl) gt11) pt ?_
  refine D' (ZaA (Zb0 (cvl lk rfl) rfl (cvl lk rfl) rfl (cvl lk rfl) rfl)) pt<|Zha rfl rfl (hlk hn rfl) (ZkQ (ZbZ (cvl lk rfl) rfl)) pt Zdq<|Zbj<|?_
  refine ZhG Zdh ?_
  refine E' (Zcw (ZbI lk (hga hn rfl) rfl ZdW (nb' rfl)) lk (hga hn rfl) (Zdt _) (by omega) rfl (hs1 hn)) pt ?_
  refine mv' lk pt<|Zaq<|Zay<|Zaf<|Zat<|mv' lk pt<|?_
  refine V' (Zav lk lki (by omega) (by omega)) pt ?_
  refine mv' lk pt<|Zaq<|ZaB<|?_
  refine lU' (a+1) (by (try dsimp only);exact ⟨by omega,fun j hj h=>by by_cases e:j+1=a;(subst e;(try simp only [Nat.add_sub_cancel] at hc13);omega);exact hm2 j hj (by omega)⟩) (by (try dsimp only);(try simp only [sm',Nat.reduceAdd]);exact bkE' 2 hn hlt (by repeat (first | exact wk0 | refine wka ?_ | refine wk1 rfl ?_ | refine wk1 (by first | rfl | exact ivx (by omega) | (rw [hol2,hol];done) | (rw [hol2,hol])) ?_)) (by rw [Zdm ha,hT,ZaU,Zbc];(try rw [hsv]);rfl))
 obtain rfl:a=S.length:=by omega
 rw [List.take_length]
 have hG:gapB S=false:=gap_ok2 hm2 (Nat.le_refl _)
 rw [if_neg (by rw [hG];simp)] at hTV
 have hol:=Zd4 S sh 0
 refine ZaE<|Zaz<|Zaz<|ZaX<|Zaf<|Zah<|wr'<|mv' lk pt<|V' (ZcC lk) pt<|V' (ZbW lk lki) pt<|sn'<|?_
 refine cd' lk (fun hc16=>?_) (fun hc16=>?_)
 ·refine wr'<|mv' lkn pt<|mv' lki pt<|sn'<|Zaa<|Zaj<|Zag ry<|rtW'<|?_
  rw [hTV,if_pos (by omega)];exact Wk.tup (wkw Wk.nilF (wk1 rfl wk0))
 refine Zad ?_
 refine Za8 (ALe.iceR (hga hn rfl) gt18 (List.take_of_length_le (by rw [Zdt];exact Nat.le_refl _)) (by rw [Zdt];exact Nat.le_refl _) pt18 (hs1 hn)) ?_
 refine wr'<|mv' lk pt<|mv' lk pt<|mv' lki pt<|sn'<|Zaa<|Zag ry<|rtW'<|?_
 rw [hTV,if_neg (by omega)];exact Wk.tup (wkw Wk.full (wk1 rfl wk0))
end Go.Proofs.YthdifaphoaekoaaGreatDoor
end
section
namespace Go.Proofs.YthdifaphoaekoaaGreatDoor
open Go.Ab Go.RowKit Civ
attribute [local simp] Zby ZbO ZbD ZbK Zd6 Zd5 ZeR
section
theorem Zj0 {a0 a1 a2:AV}{l:List AV}:((a0::a1::a2::l).drop 0).take 3=[a0,a1,a2]:=rfl
theorem ZpH {a0 a1 a2 a3 a4 a5 a6 a7:AV}{l:List AV}:((a0::a1::a2::a3::a4::a5::a6::a7::l).drop 5).take 3=[a5,a6,a7]:=rfl
theorem ZpG {a0 a1 a2 a3 a4 a5 a6 a7 a8 a9:AV}{l:List AV}:(a0::a1::a2::a3::a4::a5::a6::a7::a8::a9::l).take 10=[a0,a1,a2,a3,a4,a5,a6,a7,a8,a9]:=rfl
theorem Zjb {τ:Operand→AV}{y0:Operand}{x0_0:AV}(h0:Zax (τ y0)=some [x0_0]) (l0:[x0_0].all leaf=true):Zau τ [(0,1,y0)] [(.v (.int .i64 0))]=some [x0_0]:=by
 simp only [Zau,h0,l0]
 rfl
theorem ZsB {a0:AV}{l:List AV}:(a0::l).take 1=[a0]:=rfl
end
def c56:AC:=(Sr [Oo 2 (.box 26 3 (.tmp 0)),Mc 4 0] (.seq (Sr [Mc 5 0] (.block 0 (.loop (.seq (Sr [Mv 6 5,Fa 7 1 2,Ld 8 7,Oo 9 (.len false (.tmp 8)),Bn 10 .lss 6 9] (Cd 10 .skip (.exit 0))) (.seq (.block 1 (Sr [Fa 13 1 2,Ld 14 13,Mv 15 5,Oo 16 (.ia 2 (.tmp 14) (.tmp 15)),Fa 17 0 16,Ld 18 17,Mv 19 1,Bn 20 .eql 18 19] (Cd 20 (Sr [Mv 21 5,Mv 4 21] .ret) .skip))) (.reg [Mv 11 5,Bc 12 .add 11 1,Mv 5 12])))))) (Sr [Oo 4 (.mv (.const (.int .i64 (-1))))] .ret)))
theorem k56:ZaD Tryz.prog 56=some ⟨c56,[(.tmp 4)],22⟩:=by kernel_rfl
def c19:AC:=(Sr [Oo 2 (.box 26 3 (.tmp 0)),Mc 4 0] (.seq (Sr [Mc 5 0] (.block 0 (.loop (.seq (Sr [Mv 6 5,Fa 7 2 2,Ld 8 7,Oo 9 (.len false (.tmp 8)),Bn 10 .lss 6 9] (Cd 10 .skip (.exit 0))) (.seq (.block 1 (Sr [Fa 13 2 2,Ld 14 13,Mv 15 5,Oo 16 (.ia 2 (.tmp 14) (.tmp 15)),Fa 17 1 16,Ld 18 17,Mv 19 1,Bn 20 .eql 18 19] (Cd 20 (Sd [Oo 21 (.load true 3 (.tmp 2)),Fa 22 2 2,Ld 23 22,Mv 24 5,Oo 25 (.ia 2 (.tmp 23) (.tmp 24)),Fa 26 0 25,Ld 27 26,Cl 28 56 [(.tmp 21),(.tmp 27)],Mv 4 28] .ret) .skip))) (.reg [Mv 11 5,Bc 12 .add 11 1,Mv 5 12])))))) (Sr [Oo 29 (.load true 3 (.tmp 2)),Mv 30 1,Cl 31 56 [(.tmp 29),(.tmp 30)],Mv 4 31] .ret)))
theorem k19:ZaD Tryz.prog 19=some ⟨c19,[(.tmp 4)],32⟩:=by kernel_rfl
def c58:AC:=(Sr [Oo 1 (.box 67 10 (.tmp 0)),Mc 2 0] (Sd [Fa 4 5 1,Fa 5 0 4,Oo 6 (.load true 3 (.tmp 5)),Cl 7 111 [(.tmp 6)],Bc 8 .mul 7 86400,Fa 9 5 1,Fa 10 3 9,Ld 11 10,Bn 12 .add 8 11,Mv 3 12] (.seq (Sr [Fa 13 5 1,Fa 14 4 13,Ld 15 14,Bc 16 .eql 15 2] (Cd 16 (.reg [Mv 17 3,Fa 18 0 1,Ld 19 18,Bn 20 .sub 17 19,Mv 3 20]) .skip)) (Sr [Mv 21 3,Mv 2 21] .ret))))
theorem k58:ZaD Tryz.prog 58=some ⟨c58,[(.tmp 2)],22⟩:=by kernel_rfl
def c20:AC:=(Sr [Oo 1 (.box 44 2 (.tmp 0)),Oo 2 (.mv (.const (.slice none 0 0)))] (Sr [Oo 3 (.mv (.const (.slice none 0 0)))] (.seq (Sr [Mc 4 0] (.block 0 (.loop (.seq (Sr [Mv 5 4,Fa 6 1 1,Ld 7 6,Oo 8 (.len false (.tmp 7)),Bc 9 .sub 8 1,Bn 10 .lss 5 9] (Cd 10 .skip (.exit 0))) (.seq (.block 1 (.reg [Mv 13 3,Fa 14 1 1,Ld 15 14,Mv 16 4,Oo 17 (.ia 10 (.tmp 15) (.tmp 16)),Oo 18 (.load true 10 (.tmp 17)),Cl 19 58 [(.tmp 18)],Oo 20 (.lit 3 1 1 [(iv 0)] [(0,(1,(.tmp 19)))]),Oo 21 (.app 3 1 8 (.tmp 13) (.tmp 20)),Mv 3 21])) (.reg [Mv 11 4,Bc 12 .add 11 1,Mv 4 12])))))) (Sr [Mv 22 3,Mv 2 22] .ret))))
theorem k20:ZaD Tryz.prog 20=some ⟨c20,[(.tmp 2)],23⟩:=by kernel_rfl
def c62:AC:=(Sr [Ms 6] (.seq (Sr [Mc 7 0] (.block 0 (.loop (.seq (Sr [Mv 8 7,Mv 9 0,Oo 10 (.len true (.tmp 9)),Bn 11 .lss 8 10] (Cd 11 .skip (.exit 0))) (.seq (.block 1 (.seq (Sr [Mv 14 0,Mv 15 7,Oo 16 (.ix (.tmp 14) (.tmp 15)),Oo 17 (.bin .eql (.tmp 16) (.const (.int .u8 47))),Mv 18 17,Ot 19 18 (mt 2),Ot 20 18 (.bin .eql (.tmp 19) (Ci 0)),Oo 21 (.pick (.tmp 18) (.tmp 20) (.const (.bool false)))] (Cd 21 (Sr [Mv 22 0,Mv 23 7,Oo 24 (.sls (.tmp 22) none (some (.tmp 23))),Mv 6 24] .ret) .skip)) (.seq (Sr [Mv 25 0,Mv 26 7,Oo 27 (.ix (.tmp 25) (.tmp 26)),Oo 28 (.bin .eql (.tmp 27) (.const (.int .u8 47)))] (Cd 28 (Sr [Mv 29 0,Mv 30 7,Bc 31 .add 30 1,Oo 32 (.sls (.tmp 29) (some (.tmp 31)) none),Mv 6 32] .ret) .skip)) (Sr [Mv 33 0,Mv 34 7,Oo 35 (.ix (.tmp 33) (.tmp 34)),Oo 36 (.bin .eql (.tmp 35) (.const (.int .u8 37)))] (Cd 36 (Sd [Mv 37 0,Mv 38 7,Oo 39 (.sls (.tmp 37) none (some (.tmp 38))),Mv 40 1,Bn 41 .add 39 40,Mv 42 0,Mv 43 7,Bc 44 .add 43 2,Oo 45 (.sls (.tmp 42) (some (.tmp 44)) none),Bn 46 .add 41 45,Mv 6 46] .ret) .skip))))) (.reg [Mv 12 7,Bc 13 .add 12 1,Mv 7 13])))))) (Sr [Mv 47 0,Mv 6 47] .ret)))
theorem k62:ZaD Tryz.prog 62=some ⟨c62,[(.tmp 6)],48⟩:=by kernel_rfl
theorem Zia {a:List Rul}{z:List Zon}{k:List Lnk}{nm:ByteArray}{h:AH}(hz:z.length≤9000000000000000000):Ac 56 [.agg (srcB a z k),sv nm] h (iv (ZeS z nm)):=by
 refine tI' k56 fun N hn hlt hlA hbd=>?_
 simp only [tb'] at hbd ⊢
 refine wr'<|E' (Zbi (cvl lk rfl) rfl (hl0 hn) ha0) pt<|mv' lki pt<|sn'<|Zah<|wr'<|mv' lki pt<|sn'<|Zan<|?_
 refine w_lp (ι:=Nat) (fun (i:Nat)=>[(5,iv (i:Int)),(4,.any)]++rn' 6 16) (fun (i:Nat)=>[]) (fun (i:Nat)=>i≤z.length ∧ ∀ j (hj:j<z.length),j<i→decide (z[j].1=nm)=false) (fun (i:Nat)=>z.length-i) (0) (by exact ⟨by omega,fun j hj h0=>absurd h0 (by omega)⟩) ?_
 rintro i hi1
 try simp only [sm',Nat.reduceAdd]
 obtain ⟨hk1,hk2⟩:=hi1
 refine Zah<|wr'<|mv' lk pt<|V' (Zac lk) pt<|V' (Zab lk (hga hn rfl) gt1) pt<|V' (ZaI lk) pt<|V' (ZaZ lk lk) pt<|sn'<|?_
 refine cd' lk (fun hc1=>?_) (fun hc1=>?_)
 ·have hi:i<z.length:=by omega
  refine Zad<|Zaf<|Zah<|Zan<|wr'<|V' (Zac lk) pt<|V' (Zab lk (hga hn rfl) gt1) pt<|mv' lk pt<|?_
  refine V' (ZaJ lk lk Zbs (nb' rfl) ro (by omega) ro rfl) pt ?_
  refine V' (ZaS lk dp0) pt<|V' (Zar lk gt) pt<|mv' lk pt<|V' (Zci lk lk) pt<|sn'<|?_
  refine cd' lk (fun hc2=>?_) (fun hc2=>?_)
  ·refine wr'<|mv' lk pt<|mv' lk pt<|sn'<|Zaa<|Zas<|Zaj<|Zaj<|Zas<|Zaj<|Zag rz<|rT'<|?_
   refine ivx ?_
   have hf:z.findIdx (fun y:Zon=>decide (y.1=nm))=i:=ZeG hi (decide_eq_true hc2) (fun j hj=>hk2 j (by omega) hj)
   rw [ZeS,idxV,hf,if_pos hi]
  refine Zad<|Zay<|Zaf<|Zat<|mv' lk pt<|?_
  refine V' (Zav lk lki (by omega) (by omega)) pt ?_
  refine mv' lk pt<|Zaq<|ZaB<|?_
  refine lT' (i+1) (by (try dsimp only);refine ⟨by omega,fun j hj h0=>?_⟩;by_cases e:j=i;(subst e;exact decide_eq_false hc2);exact hk2 j hj (by omega))
 refine ZaE<|Zaz<|Zaz<|ZaX<|Zaf<|wr'<|mv' lki pt<|sn'<|Zaa<|Zag rz<|rT'<|?_
 refine ivx ?_
 have hf:z.findIdx (fun y:Zon=>decide (y.1=nm))=z.length:=List.findIdx_eq_length.2 (fun x hx=>by obtain ⟨j,hj,rfl⟩:=List.getElem_of_mem hx;exact hk2 j hj (by omega))
 rw [ZeS,idxV,hf,if_neg (by omega)]
theorem Zra {a:List Rul}{z:List Zon}{k:List Lnk}{nm:ByteArray}{h:AH}(hz:z.length≤9000000000000000000) (hk:k.length≤9000000000000000000):Ac 19 [.agg (srcB a z k),sv nm] h (iv (ZeA (a,z,k) nm)):=by
 have hkk:=hk
 refine tI' k19 fun N hn hlt hlA hbd=>?_
 simp only [tb'] at hbd ⊢
 refine wr'<|E' (Zbi (cvl lk rfl) rfl (hl0 hn) ha0) pt<|mv' lki pt<|sn'<|Zah<|wr'<|mv' lki pt<|sn'<|Zan<|?_
 refine w_lp (ι:=Nat) (fun (i:Nat)=>[(5,iv (i:Int)),(4,.any)]++rn' 6 23) (fun (i:Nat)=>[]) (fun (i:Nat)=>i≤k.length ∧ ∀ j (hj:j<k.length),j<i→decide (k[j].2=nm)=false) (fun (i:Nat)=>k.length-i) (0) (by exact ⟨by omega,fun j hj h0=>absurd h0 (by omega)⟩) ?_
 rintro i hi1
 try simp only [sm',Nat.reduceAdd]
 obtain ⟨hk1,hk2⟩:=hi1
 refine Zah<|wr'<|mv' lk pt<|V' (Zac lk) pt<|V' (Zab lk (hga hn rfl) gt2) pt<|V' (ZaI lk) pt<|V' (ZaZ lk lk) pt<|sn'<|?_
 refine cd' lk (fun hc1=>?_) (fun hc1=>?_)
 ·have hi:i<k.length:=by omega
  refine Zad<|Zaf<|Zah<|Zan<|wr'<|V' (Zac lk) pt<|V' (Zab lk (hga hn rfl) gt2) pt<|mv' lk pt<|?_
  refine V' (ZaJ lk lk ZcH (nb' rfl) ro (by omega) ro rfl) pt ?_
  refine V' (ZaS lk dp1) pt<|V' (Zar lk gt) pt<|mv' lk pt<|V' (Zci lk lk) pt<|sn'<|?_
  refine cd' lk (fun hc2=>?_) (fun hc2=>?_)
  ·refine Zah<|Zbf<|D' (Zap lk (hga hn rfl) Zj0 rfl) pt<|D' (Zac lk) pt<|D' (Zab lk (hga hn rfl) gt2) pt<|D' (v_mv lk) pt<|?_
   refine D' (ZaJ lk lk ZcH (nb' rfl) ro (by omega) ro rfl) pt ?_
   refine D' (ZaS lk dp0) pt<|D' (Zar lk gt) pt<|?_
   refine Za2 mp (fun hE hX=>Zia hz) pt ?_
   refine D' (v_mv lk) pt<|Zbj<|?_
   refine ZbH ?_
   refine sn'<|Zaa<|Zas<|Zaj<|Zaj<|Zas<|Zaj<|Zag rz<|rT'<|?_
   refine ivx ?_
   have hf:k.findIdx (fun y:Lnk=>decide (y.2=nm))=i:=ZeG hi (decide_eq_true hc2) (fun j hj=>hk2 j (by omega) hj)
   unfold ZeA;rw [show (a,z,k).2.2[(a,z,k).2.2.findIdx fun l=>decide (l.2=nm)]?=some k[i] from by simp only [hf];exact List.getElem?_eq_getElem hi]
  refine Zad<|Zay<|Zaf<|Zat<|mv' lk pt<|?_
  refine V' (Zav lk lki (by omega) (by omega)) pt ?_
  refine mv' lk pt<|Zaq<|ZaB<|?_
  refine lT' (i+1) (by (try dsimp only);refine ⟨by omega,fun j hj h0=>?_⟩;by_cases e:j=i;(subst e;exact decide_eq_false hc2);exact hk2 j hj (by omega))
 refine ZaE<|Zaz<|Zaz<|ZaX<|Zaf<|wr'<|V' (Zap lk (hga hn rfl) Zj0 rfl) pt<|mv' lk pt<|Zae mp (Zia hz) pt<|mv' lk pt<|sn'<|Zaa<|?_
 refine Zag rz<|rT'<|?_
 refine ivx ?_
 have hf:k.findIdx (fun y:Lnk=>decide (y.2=nm))=k.length:=List.findIdx_eq_length.2 (fun x hx=>by obtain ⟨j,hj,rfl⟩:=List.getElem_of_mem hx;exact hk2 j hj (by omega))
 unfold ZeA;rw [show (a,z,k).2.2[(a,z,k).2.2.findIdx fun l=>decide (l.2=nm)]?=none from by simp only [hf];exact List.getElem?_eq_none (Nat.le_refl _)]
theorem rendOf_a {x:Era}{h:AH}(hd:Zbk x.2.2.2.2.2.1.1 x.2.2.2.2.2.1.2.1 x.2.2.2.2.2.1.2.2=true) (ha:0≤x.2.2.2.2.2.2.1∧x.2.2.2.2.2.2.1≤172800) (hs : -64800≤x.1∧x.1≤64800) :
  ACalls Tryz.prog 58 [.agg (eraC x)] h fun y h'=>h'=h∧y=.ret (iv (endV x)):=by
 have hnb:=ZlO hd
 have hdi:=Zce.1 hd
 have hml:=Zdx x.2.2.2.2.2.1.1 x.2.2.2.2.2.1.2.1
 refine tI' k58 fun N hn hlt hlA hbd=>?_
 simp only [tb'] at hbd ⊢
 refine wr'<|E' (Zbi (cvl lk rfl) rfl (hl0 hn) ha0) pt<|mv' lki pt<|sn'<|Zah<|Zbf<|D' (Zac lk) pt<|D' (Zbg lk) pt<|D' (Zap lk (hga hn rfl) ZpH rfl) pt<|?_
 refine Za2 mp (fun hE hX=>Zdl (by omega) (by omega) (by omega) (by omega) (by omega) (by omega)) pt ?_
 refine D' (Zee lk lki (by omega) (by omega)) pt ?_
 refine D' (Zac lk) pt<|D' (Zbg lk) pt<|D' (Zab lk (hga hn rfl) gt8) pt<|?_
 refine D' (Zav lk lk (by omega) (by omega)) pt ?_
 refine D' (v_mv lk) pt<|Zbj<|?_
 refine ZbH ?_
 refine sn'<|Zah<|wr'<|V' (Zac lk) pt<|V' (Zbg lk) pt<|V' (Zab lk (hga hn rfl) gt9) pt<|V' (ZaN lk lki) pt<|sn'<|?_
 refine cd' lk (fun hc1=>?_) (fun hc1=>?_)
 ·refine Zat<|mv' lk pt<|V' (Zac lk) pt<|V' (Zab lk (hga hn rfl) gt0) pt<|?_
  refine V' (Zbn lk lk (by omega) (by omega)) pt ?_
  refine mv' lk pt<|sn'<|wr'<|mv' lk pt<|mv' lk pt<|sn'<|Zaa<|Zag rz<|rT'<|?_
  refine ivx ?_;unfold endV;rw [if_pos hc1]
 refine Zad<|Zaf<|wr'<|mv' lk pt<|mv' lk pt<|sn'<|Zaa<|Zag rz<|rT'<|?_
 refine ivx ?_;unfold endV;rw [if_neg hc1,Int.sub_zero]
theorem ZmT {nm:ByteArray}{es:List Era}{h:AH}(hz:okZ es):Ac 20 [.agg [sv nm,.sl es.length 10 false (rows eraC es)]] h (.sl (ZaO es).length 1 false (rows intC (ZaO es))):=by
 have hlen:=hz.len
 have hne:=List.length_pos_iff.2 hz.ne
 have hel:=ZdD es
 refine tW' k20 fun N hn hlt hlA hbd=>?_
 simp only [tb'] at hbd ⊢
 refine wr'<|E' (Zbi (cvl lk0 rfl) rfl (hl0 hn) ha0) pt1<|mv' lkn pt2<|sn'<|wr'<|mv' lkn pt3<|Zaq<|Za8 (ALe.own0' (st':=1) (ty:=3) gt3 (hl1 hn) pt3 ha1)<|Zah<|wr'<|?_
 refine mv' lki pt<|sn'<|Zan<|?_
 refine w_lp (ι:=Nat) (fun (k:Nat)=>[(3,.own (N+1) k k),(4,iv (k:Int))]++rn' 5 17) (fun (k:Nat)=>[(1,.mk k 3 1 (rows intC ((ZaO es).take k)))]) (fun (k:Nat)=>k+1≤es.length) (fun (k:Nat)=>es.length-k) (0) (by exact hne) ?_
 rintro k hi1
 try simp only [sm',Nat.reduceAdd]
 replace hi1:k+1≤es.length:=hi1
 have htl:((ZaO es).take k).length=k:=by rw [List.length_take,hel];omega
 refine Zah<|wr'<|mv' lk pt<|V' (Zac lk) pt<|V' (Zab lk (hga hn rfl) gt1) pt<|V' (ZaI lk) pt<|?_
 refine V' (Zbn lk lki (by omega) (by omega)) pt ?_
 refine V' (ZaZ lk lk) pt<|sn'<|?_
 refine cd' lk (fun hc1=>?_) (fun hc1=>?_)
 ·have hke:k+1<es.length:=by omega
  obtain ⟨hd,ha⟩:=hz.un k (by omega) hke
  have hsh : -64800≤es[k].1∧es[k].1≤64800:=(hz.fm _ (List.getElem_mem (by omega))).2.1
  refine Zad<|Zaf<|Zah<|Zan<|Zat<|mv' lk pt<|V' (Zac lk) pt<|V' (Zab lk (hga hn rfl) gt1) pt<|mv' lk pt<|?_
  refine V' (ZaJ lk lk ZbG (nb' rfl) ro (by omega) ro rfl) pt ?_
  refine V' (ZaF lk ZpG rfl) pt<|Zae mp (rendOf_a (x:=es[k]) hd ha hsh) pt<|E' (Zda (Zjb (cvl lk rfl) rfl) (hl2 hn) ha2) pt<|?_
  refine E' (Zcw (ZbI lk (hga hn rfl) rfl ZsB (nb' rfl)) lk (hga hn rfl) ((ZfX _).trans (by rw [htl])) (by omega) rfl (hs1 hn)) pt ?_
  refine mv' lk pt<|Zaq<|Zay<|Zaf<|Zat<|mv' lk pt<|?_
  refine V' (Zav lk lki (by omega) (by omega)) pt ?_
  refine mv' lk pt<|Zaq<|ZaB<|?_
  refine lU' (k+1) (by (try dsimp only);omega) (by (try dsimp only);(try simp only [sm',Nat.reduceAdd]);exact bk' 2 hn hlt (by rw [Ziz hke,ZaU,Zbc];rfl))
 refine ZaE<|Zaz<|Zaz<|ZaX<|?_
 refine Za8 (ALe.iceR (hga hn rfl) gt3 (List.take_of_length_le (by rw [ZfX,htl];omega)) (by rw [ZfX,htl];omega) pt3 (hs1 hn)) ?_
 refine wr'<|mv' lk pt<|mv' lk pt<|sn'<|Zaa<|Zag rz<|rtW'<|?_
 rw [show k=(ZaO es).length by omega,List.take_length];exact Wk.full
theorem occ1 {l:Bs}{x:UInt8}{j:Nat}(h:j<l.length):Lib.occAt l [x] j=(x==l[j]):=by
 unfold Lib.occAt;rw [List.drop_eq_getElem_cons h];simp [List.isPrefixOf]
theorem ZrT {l:Bs}{x:UInt8}{i:Nat}(hi:i<l.length) (hx:l[i]=x) (hb : ∀ j (hj:j<l.length),j<i→l[j]≠x):Lib.index l [x]=i:=by
 refine Lib.index_hit (fun j hj=>?_) (Nat.le_of_lt hi) (by rw [occ1 hi,hx];simp)
 rw [occ1 (by omega)]
 simpa using fun e=>hb j (by omega) hj e.symm
theorem Zm7 {l:Bs}{x:UInt8}(hb : ∀ j (hj:j<l.length),l[j]≠x):Lib.index l [x] = -1:=by
 rcases Lib.index_spec l [x] with ⟨h,_⟩ | ⟨i,_,h2,h3,_⟩
 ·exact h
 exfalso
 rcases Nat.lt_or_ge i l.length with hi | hi
 ·rw [occ1 hi] at h3;exact hb i hi (by simpa using h3:x=l[i]).symm
 rw [Lib.occAt,List.drop_of_length_le hi] at h3;simp [List.isPrefixOf] at h3
theorem Zit {l:Bs}{p:Nat}(h:Lib.index l [37,115]=p) : ∃ h1:p<l.length,l[p]=37:=by
 rcases Lib.index_spec l [37,115] with ⟨h1,_⟩ | ⟨i,h1,h2,h3,_⟩
 ·omega
 obtain rfl:p=i:=by omega
 rcases Nat.lt_or_ge p l.length with hi | hi
 ·refine ⟨hi,?_⟩
  rw [Lib.occAt,List.drop_eq_getElem_cons hi] at h3
  simp [List.isPrefixOf] at h3
  exact h3.1.symm
 rw [Lib.occAt,List.drop_of_length_le hi] at h3;simp [List.isPrefixOf] at h3
theorem ZkH {s:ByteArray}(h:allB ZbB s=true) {j:Nat}(hj:j<(aB s).length):(aB s)[j]≠37∧(aB s)[j]≠47:=by
 unfold allB at h
 rw [List.all_eq_true] at h
 have:=h (aB s)[j] (List.getElem_mem hj)
 constructor <;> (intro e;rw [e] at this;revert this;decide)
def Zob (fm:ByteArray) (i:Nat):Prop := ∀ j (hj:j<(aB fm).length),j<i→(aB fm)[j]≠47∧(aB fm)[j]≠37
theorem Zhv {fm lt:ByteArray}{sa:Int}{i:Nat}(hq:Zob fm i) (hi:i<(aB fm).length) (hx:(aB fm)[i]=47):ZhC fm lt sa=if 0<sa then bA ((aB fm).drop (i+1)) else bA ((aB fm).take i):=by
 have he:Lib.index (aB fm) [47]=i:=ZrT hi hx fun j hj h=>(hq j hj h).1
 unfold ZhC cutL Lib.cut
 rw [he]
 simp
theorem cut47_no {fm:ByteArray}(hq : ∀ j (hj:j<(aB fm).length),(aB fm)[j]≠47):(cutL fm [47]).2.2=false:=by
 unfold cutL Lib.cut;rw [Zm7 hq];rfl
theorem Zpg {fm lt:ByteArray}{sa:Int}{i:Nat}(hf:ZbF fm=true) (hq:Zob fm i) (hi:i<(aB fm).length) (hx:(aB fm)[i]=37) :
  i+2≤(aB fm).length∧ZhC fm lt sa=bA ((aB fm).take i++aB lt++(aB fm).drop (i+2)):=by
 have h47:(cutL fm [47]).2.2=false:=by
  cases hc:(cutL fm [47]).2.2 with
  | false=>rfl
  | true =>
   exfalso
   unfold ZbF at hf
   split at hf
   ·cases hf
   try rw [if_pos hc] at hf
   simp only [Bool.and_eq_true] at hf
   have hp:=hf.1.2
   unfold cutL Lib.cut at hc hp
   split at hc
   ·rename_i h0
    obtain ⟨p,hp0⟩ : ∃ p:Nat,Lib.index (aB fm) [47]=p:=⟨(Lib.index (aB fm) [47]).toNat,by omega⟩
    rw [if_pos h0,hp0] at hp
    obtain ⟨_,hpl,hp47⟩:=ZeD hp0
    have hp47':(aB fm)[p]=47:=by rw [List.getElem?_eq_getElem hpl] at hp47;exact Option.some.inj hp47
    have hip:i<p:=by
     rcases Nat.lt_trichotomy i p with h | h | h
     ·exact h
     ·subst h;rw [hx] at hp47';cases hp47'
     exact absurd hp47' (hq p hpl h).1
    have:=(ZkH hp (j:=i) (by have hi':i<fm.size:=hi;simp [aB,bA];omega)).1
    apply this
    simpa [aB,bA] using hx
   cases hc
 have hf2:=hf
 unfold ZbF at hf2
 split at hf2
 ·cases hf2
 rw [if_neg (by rw [h47];simp)] at hf2
 simp only [Bool.and_eq_true] at hf2
 have hp:=hf2.1
 have he:Lib.index (aB fm) [37,115]=i:=by
  unfold cutL Lib.cut at hp
  split at hp
  ·rename_i h0
   obtain ⟨p,hp0⟩ : ∃ p:Nat,Lib.index (aB fm) [37,115]=p:=⟨(Lib.index (aB fm) [37,115]).toNat,by omega⟩
   rw [hp0] at hp
   obtain ⟨hpl,hp37⟩:=Zit hp0
   rcases Nat.lt_trichotomy i p with h | h | h
   ·exfalso
    have:=(ZkH hp (j:=i) (by have hi':i<fm.size:=hi;simp [aB,bA];omega)).1
    apply this
    simpa [aB,bA] using hx
   ·rw [hp0,h]
   exact absurd hp37 (hq p hpl h).2
  exfalso
  have:=(ZkH (s:=bA (aB fm)) hp (j:=i) hi).1
  exact this hx
 refine ⟨?_,?_⟩
 ·rcases Lib.index_spec (aB fm) [37,115] with ⟨h1,_⟩ | ⟨p,h1,h2,h3,_⟩
  ·omega
  obtain rfl:i=p:=by omega
  have h4:[37,115] <+: (aB fm).drop i:=by simpa [Lib.occAt] using h3
  have:=h4.length_le
  simp at this;omega
 unfold ZhC
 rw [if_neg (by rw [h47];simp)]
 unfold cutL Lib.cut
 rw [he]
 simp
theorem ZmZ {fm lt:ByteArray}{sa:Int}(hq:Zob fm (aB fm).length):ZhC fm lt sa=fm:=by
 unfold ZhC
 rw [if_neg (by rw [cut47_no fun j hj=>(hq j hj hj).1];simp)]
 unfold cutL Lib.cut
 split
 ·rename_i h0
  obtain ⟨p,hp0⟩ : ∃ p:Nat,Lib.index (aB fm) [37,115]=p:=⟨(Lib.index (aB fm) [37,115]).toNat,by omega⟩
  obtain ⟨hpl,hp37⟩:=Zit hp0
  exact absurd hp37 (hq p hpl hpl).2
 rfl
theorem ZoO {fm:ByteArray}{i:Nat}(hi:i<fm.size) (c:UInt8):((ZaL fm i).toNat:Int)=(c.toNat:Int)↔(aB fm)[i]'hi=c:=by
 rw [ZcQ hi]
 have e:(aB fm)[i]'hi=fm[i]:=rfl
 rw [e]
 constructor
 ·intro h;exact UInt8.toNat_inj.1 (by omega)
 intro h;rw [h]
theorem ZlC {fm lt:ByteArray}{sa:Int}{h:AH}(hf:ZbF fm=true) (hl:lt.size≤24) (hs:0≤sa):Ac 62 [sv fm,sv lt,iv sa] h (sv (ZhC fm lt sa)):=by
 have hfl:=Ziv hf
 have hsz:(aB fm).length=fm.size:=rfl
 refine tI' k62 fun N hn hlt hlA hbd=>?_
 simp only [tb'] at hbd ⊢
 refine wr'<|mv' lks pt<|sn'<|Zah<|wr'<|mv' lki pt<|sn'<|Zan<|?_
 refine w_lp (ι:=Nat) (fun (i:Nat)=>[(7,iv (i:Int)),(6,.any)]++rn' 8 39) (fun (i:Nat)=>[]) (fun (i:Nat)=>i≤fm.size∧Zob fm i) (fun (i:Nat)=>fm.size-i) (0) (by exact ⟨Nat.zero_le _,fun j _ h=>by omega⟩) ?_
 rintro i hi1
 try simp only [sm',Nat.reduceAdd]
 obtain ⟨hk1,hk2⟩:=hi1
 refine Zah<|wr'<|mv' lk pt<|mv' lk pt<|V' (Zbm lk) pt<|V' (ZaZ lk lk) pt<|sn'<|?_
 refine cd' lk (fun hc1=>?_) (fun hc1=>?_)
 ·have hi:i<fm.size:=by omega
  refine Zad<|Zaf<|Zah<|Zan<|Zah<|wr'<|mv' lk pt<|mv' lk pt<|?_
  refine V' (v_ix lk lk (by omega) (by omega)) pt ?_
  refine V' (ZaN lk lki) pt<|mv' lk pt<|?_
  refine sp' (t:=18) gt pt pt (fun hg18=>?_) (fun hg18=>?_)
  ·have hx:(aB fm)[i]'hi=47:=(ZoO hi 47).1 hg18
   refine s_do gt<|mv' lk pt<|s_do gt<|V' (ZaN lk lki) pt<|V' (Zai lk lk) pt<|sn'<|?_
   refine cd' lk (fun hc2=>?_) (fun hc2=>?_)
   ·refine wr'<|mv' lk pt<|mv' lk pt<|?_
    refine V' (Zdr lk on_ (oi lk) (by omega) (by omega) (by omega)) pt ?_
    refine mv' lk pt<|sn'<|Zaa<|Zaj<|Zas<|Zaj<|Zaj<|Zas<|Zaj<|Zag rz<|rT'<|?_
    rw [Zhv hk2 hi hx,if_neg (by omega),Zgx];simp
   refine Zad<|Zaf<|Zah<|wr'<|mv' lk pt<|mv' lk pt<|?_
   refine V' (v_ix lk lk (by omega) (by omega)) pt ?_
   refine V' (ZaN lk lki) pt<|sn'<|?_
   refine Zc4 lk (by exact decide_eq_true hg18) ?_
   refine wr'<|mv' lk pt<|mv' lk pt<|?_
   refine V' (Zav lk lki (by omega) (by omega)) pt ?_
   refine V' (Zdr lk (oi lk) on_ (by omega) (by omega) (by omega)) pt ?_
   refine mv' lk pt<|sn'<|Zaa<|Zaj<|Zas<|Zaj<|Zaj<|Zas<|Zaj<|Zag rz<|rT'<|?_
   rw [Zhv hk2 hi hx,if_pos (by omega),Zgx,List.take_of_length_le (by rw [List.length_drop,hsz];omega)];rfl
  have hx:(aB fm)[i]'hi≠47:=fun e=>hg18 ((ZoO hi 47).2 e)
  refine s_no gt pt<|s_no gt pt<|V' (Zak lk lkb) pt<|sn'<|ZaR lk<|Zad<|Zaf<|Zah<|wr'<|mv' lk pt<|mv' lk pt<|?_
  refine V' (v_ix lk lk (by omega) (by omega)) pt ?_
  refine V' (ZaN lk lki) pt<|sn'<|?_
  refine Zcr lk (by exact decide_eq_false hg18) ?_
  refine Zad<|Zaf<|wr'<|mv' lk pt<|mv' lk pt<|?_
  refine V' (v_ix lk lk (by omega) (by omega)) pt ?_
  refine V' (ZaN lk lki) pt<|sn'<|?_
  refine cd' lk (fun hc4=>?_) (fun hc4=>?_)
  ·have hx2:(aB fm)[i]'hi=37:=(ZoO hi 37).1 hc4
   obtain ⟨hi2,hN⟩:=Zpg (lt:=lt) (sa:=sa) hf hk2 hi hx2
   rw [hsz] at hi2
   refine Zah<|Zbf<|D' (v_mv lk) pt<|D' (v_mv lk) pt<|?_
   refine D' (Zdr lk on_ (oi lk) (by omega) (by omega) (by omega)) pt ?_
   refine D' (v_mv lk) pt ?_
   refine D' (ZnV lk lk (by first | omega | (rw [ByteArray.size_extract];omega))) pt ?_
   refine D' (v_mv lk) pt<|D' (v_mv lk) pt<|?_
   refine D' (Zav lk lki (by omega) (by omega)) pt ?_
   refine D' (Zdr lk (oi lk) on_ (by omega) (by omega) (by omega)) pt ?_
   refine D' (ZnV lk lk (by first | omega | (rw [ByteArray.size_append,ByteArray.size_extract,ByteArray.size_extract];omega))) pt ?_
   refine D' (v_mv lk) pt<|Zbj<|?_
   refine ZbH ?_
   refine sn'<|Zaa<|Zas<|Zaj<|Zaj<|Zas<|Zaj<|Zag rz<|rT'<|?_
   rw [hN,Zgx,Zgx];refine congrArg _ ?_;apply ByteArray.ext;simp [bA,aB];rw [show ((i:Int)+2).toNat=i+2 by omega];exact List.take_of_length_le (by simp)
  have hx2:(aB fm)[i]'hi≠37:=fun e=>hc4 ((ZoO hi 37).2 e)
  refine Zad<|Zay<|Zaf<|Zat<|mv' lk pt<|?_
  refine V' (Zav lk lki (by omega) (by omega)) pt ?_
  refine mv' lk pt<|Zaq<|ZaB<|?_
  refine lT' (i+1) (by (try dsimp only);refine ⟨by omega,fun j hj h=>?_⟩;by_cases e:j=i;(subst e;exact ⟨hx,hx2⟩);exact hk2 j hj (by omega))
 refine ZaE<|Zaz<|Zaz<|ZaX<|Zaf<|wr'<|mv' lk pt<|mv' lk pt<|sn'<|Zaa<|Zag rz<|rT'<|?_
 rw [ZmZ (by rw [hsz,show fm.size=i by omega];exact hk2)]
end Go.Proofs.YthdifaphoaekoaaGreatDoor
end
section
namespace Go.Ab
theorem ALe.wkAt {n0 d:Nat}{T T':List AV}{h:AH}{c c':AV}(hd:T[d]?=some c) (hw:Wk c c') (hp:aPut T (some d) c'=T'):ALe n0 T h T' h:=by
 subst hp
 refine ALe.same ?_ rfl
 show WkL T (T.set d c')
 have : ∀ (T:List AV) (d:Nat),T[d]?=some c→WkL T (T.set d c'):=by
  intro T
  induction T with
  | nil=>intro d hd;simp at hd
  | cons t T ih =>
   intro d hd
   cases d with
   | zero=>simp at hd;subst hd;exact wkw hw (WkL.refl _)
   | succ d=>exact wk1 rfl (ih d (by simpa using hd))
 exact this T d hd
end Go.Ab
namespace Go.Proofs.YthdifaphoaekoaaGreatDoor
open Go.Ab Go.RowKit Civ
attribute [local simp] Zby ZbO ZbD ZbK Zd6 Zd5 ZeR
section
theorem ZjV {a0 a1:AV}{l:List AV}:((a0::a1::l).drop 0).take 2=[a0,a1]:=rfl
theorem Zlc {τ:Operand→AV}{y0 y1:Operand}{x0_0 x0_1 x1_0:AV}(h0:Zax (τ y0)=some [x0_0,x0_1]) (l0:[x0_0,x0_1].all leaf=true) (h1:Zax (τ y1)=some [x1_0]) (l1:[x1_0].all leaf=true):Zau τ [(0,2,y0),(2,1,y1)] [(.v (.string ⟨#[]⟩)),(.sl 0 0 true []),(.sl 0 0 true []),(.sl 0 0 true [])]=some [x0_0,x0_1,x1_0,(.sl 0 0 true [])]:=by
 simp only [Zau,h0,l0,h1,l1]
 rfl
theorem ZsA { e:Ent}:([]:AH)++[e]=[e]:=rfl
theorem ZpF {e0 e1 e2 d0:Ent}:([e0,e1,e2]:AH)++[d0]=[e0,e1,e2,d0]:=rfl
theorem ZjX {a0 a1 a2 a3 c0 c1 c2 c3:AV}{l:List AV}:setCells (a0::a1::a2::a3::l) 0 [c0,c1,c2,c3]=c0::c1::c2::c3::l:=rfl
theorem ZfO {τ:Operand→AV}{y0:Operand}{x0_0:AV}(h0:Zax (τ y0)=some [x0_0]) (l0:[x0_0].all leaf=true):Zau τ [(0,1,y0)] [(.sl 0 0 true [])]=some [x0_0]:=by
 simp only [Zau,h0,l0]
 rfl
theorem Zmk {a0:AV}{l:List AV}:(a0::l).take 1=[a0]:=rfl
theorem ZjW {a0 a1 a2 a3 c0:AV}{l:List AV}:setCells (a0::a1::a2::a3::l) 3 [c0]=a0::a1::a2::c0::l:=rfl
theorem ZjT {a0 a1 a2 a3:AV}{l:List AV}:((a0::a1::a2::a3::l).drop 0).take 4=[a0,a1,a2,a3]:=rfl
theorem ZjS {a0 a1 a2 a3 a4 a5 a6 a7 a8 a9:AV}{l:List AV}:(a0::a1::a2::a3::a4::a5::a6::a7::a8::a9::l).take 10=[a0,a1,a2,a3,a4,a5,a6,a7,a8,a9]:=rfl
theorem ZiL {a0 a1 a2 a3 a4 a5 a6 a7 a8 a9 c0 c1 c2 c3 c4 c5 c6 c7 c8 c9:AV}{l:List AV}:setCells (a0::a1::a2::a3::a4::a5::a6::a7::a8::a9::l) 0 [c0,c1,c2,c3,c4,c5,c6,c7,c8,c9]=c0::c1::c2::c3::c4::c5::c6::c7::c8::c9::l:=rfl
theorem ZjZ {τ:Operand→AV}{y0 y1 y2:Operand}{x0_0 x1_0 x2_0:AV}(h0:Zax (τ y0)=some [x0_0]) (l0:[x0_0].all leaf=true) (h1:Zax (τ y1)=some [x1_0]) (l1:[x1_0].all leaf=true) (h2:Zax (τ y2)=some [x2_0]) (l2:[x2_0].all leaf=true):Zau τ [(0,1,y0),(1,1,y1),(2,1,y2)] [(.v (.int .i64 0)),(.v (.int .i64 0)),(.v (.string ⟨#[]⟩))]=some [x0_0,x1_0,x2_0]:=by
 simp only [Zau,h0,l0,h1,l1,h2,l2]
 rfl
theorem ZjY {a0 a1 a2 c0 c1 c2:AV}{l:List AV}:setCells (a0::a1::a2::l) 0 [c0,c1,c2]=c0::c1::c2::l:=rfl
theorem ZjU {a0 a1 a2:AV}{l:List AV}:((a0::a1::a2::l).drop 0).take 3=[a0,a1,a2]:=rfl
end
def c25:AC:=(Sr [Oo 2 (.box 26 3 (.tmp 0)),Oo 3 (.box 44 2 (.tmp 1)),Oo 4 (.new 58 4 [Ss,(.sl 0 0 true []),(.sl 0 0 true []),(.sl 0 0 true [])])] (.seq (.drw [Oo 10 (.load true 2 (.tmp 3)),Oo 11 (.load true 2 (.tmp 3)),Cl 12 20 [(.tmp 11)],Oo 13 (.build [Ss,(.sl 0 0 true []),(.sl 0 0 true []),(.sl 0 0 true [])] [(0,(2,(.tmp 10))),(2,(1,(.tmp 12)))]),Oo 5 (.new 58 4 [Ss,(.sl 0 0 true []),(.sl 0 0 true []),(.sl 0 0 true [])])] [false] [⟨none,none,(.store 4 (.tmp 5) (.tmp 13))⟩]) (.seq (Sr [Mc 6 0] (.block 0 (.loop (.seq (Sr [Mv 14 6,Fa 15 1 3,Ld 16 15,Oo 17 (.len false (.tmp 16)),Bn 18 .lss 14 17] (Cd 18 .skip (.exit 0))) (.seq (.block 1 (Sr [Oo 7 (.mv (.const (.slice none 0 0)))] (.seq (Sr [Fa 21 1 3,Ld 22 21,Mv 23 6,Oo 24 (.ia 10 (.tmp 22) (.tmp 23)),Fa 25 1 24,Ld 26 25,Oo 27 (.bin .neq (.tmp 26) (.const (.string ⟨#[]⟩)))] (Cd 27 (Sd [Fa 29 0 2,Ld 30 29,Fa 31 1 3,Ld 32 31,Mv 33 6,Oo 34 (.ia 10 (.tmp 32) (.tmp 33)),Fa 35 1 34,Ld 36 35,Fa 37 1 3,Ld 38 37,Mv 39 6,Oo 40 (.ia 10 (.tmp 38) (.tmp 39)),Fa 41 0 40,Ld 42 41,Cl 43 57 [(.tmp 30),(.tmp 36),(.tmp 42)],Mv 28 43,Ex 44 28 0,Ex 45 28 1,Mv 8 44,Mv 9 45] (.reg [Mv 46 8,Mv 7 46])) .skip)) (.reg [Fa 47 3 5,Ld 48 47,Mv 49 7,Oo 50 (.lit 68 1 1 [(.sl 0 0 true [])] [(0,(1,(.tmp 49)))]),Oo 51 (.app 68 1 24 (.tmp 48) (.tmp 50)),Fa 52 3 5,Sc 52 51])))) (.reg [Mv 19 6,Bc 20 .add 19 1,Mv 6 20])))))) (Sr [Oo 53 (.load true 4 (.tmp 5)),⟨none,none,(.store 4 (.tmp 4) (.tmp 53))⟩] .ret))))
theorem k25:ZaD Tryz.prog 25=some ⟨c25,[(.cell 4 true 4)],54⟩:=by kernel_rfl
def c26:AC:=(Sr [Oo 2 (.box 58 4 (.tmp 0)),Oo 4 (.new 31 3 [(iv 0),(iv 0),Ss])] (Sr [Mc 5 0] (.seq (.block 0 (.loop (.seq (Sr [Mv 10 5,Fa 11 2 2,Ld 12 11,Oo 13 (.len false (.tmp 12)),Bn 14 .lss 10 13,Mv 15 14,Ot 16 15 (.fa 2 (.tmp 2)),Ot 17 15 (.load false 1 (.tmp 16)),Ot 18 15 (mt 5),Ot 19 15 (.ia 1 (.tmp 17) (.tmp 18)),Ot 20 15 (.load false 1 (.tmp 19)),Ot 21 15 (mt 1),Ot 22 15 (.bin .leq (.tmp 20) (.tmp 21)),Oo 23 (.pick (.tmp 15) (.tmp 22) (.const (.bool false)))] (Cd 23 .skip (.exit 0))) (.block 1 (.reg [Mv 24 5,Bc 25 .add 24 1,Mv 5 25]))))) (Sr [Fa 26 0 2,Fa 27 1 26,Ld 28 27,Mv 29 5,Oo 30 (.ia 10 (.tmp 28) (.tmp 29)),Oo 31 (.load true 10 (.tmp 30)),Oo 6 (.new 67 10 [(iv 0),Ss,(iv 0),Ss,(.v (.bool false)),(iv 0),(iv 0),(iv 0),(iv 0),(iv 0)]),⟨none,none,(.store 10 (.tmp 6) (.tmp 31))⟩] (Sr [Fa 32 2 6,Ld 33 32,Mv 7 33,Ms 8] (.seq (Sr [Mc 9 0] (.block 2 (.loop (.seq (Sr [Mv 34 9,Fa 35 3 2,Ld 36 35,Mv 37 5,Oo 38 (.ia 1 (.tmp 36) (.tmp 37)),Ld 39 38,Oo 40 (.len false (.tmp 39)),Bn 41 .lss 34 40] (Cd 41 .skip (.exit 2))) (.seq (.block 3 (Sr [Fa 44 3 2,Ld 45 44,Mv 46 5,Oo 47 (.ia 1 (.tmp 45) (.tmp 46)),Ld 48 47,Mv 49 9,Oo 50 (.ia 3 (.tmp 48) (.tmp 49)),Fa 51 0 50,Ld 52 51,Mv 53 1,Bn 54 .leq 52 53] (Cd 54 (.drw [Fa 55 3 2,Ld 56 55,Mv 57 5,Oo 58 (.ia 1 (.tmp 56) (.tmp 57)),Ld 59 58,Mv 60 9,Oo 61 (.ia 3 (.tmp 59) (.tmp 60)),Fa 62 1 61,Ld 63 62,Fa 64 3 2,Ld 65 64,Mv 66 5,Oo 67 (.ia 1 (.tmp 65) (.tmp 66)),Ld 68 67,Mv 69 9,Oo 70 (.ia 3 (.tmp 68) (.tmp 69)),Fa 71 2 70,Ld 72 71,Mv 7 63,Mv 8 72] [] []) .skip))) (.reg [Mv 42 9,Bc 43 .add 42 1,Mv 9 43])))))) (.seq (.drw [Fa 73 0 6,Ld 74 73,Mv 75 7,Bn 76 .add 74 75,Mv 77 7,Fa 78 3 6,Ld 79 78,Mv 80 8,Mv 81 7,Cl 82 62 [(.tmp 79),(.tmp 80),(.tmp 81)],Oo 83 (.build [(iv 0),(iv 0),Ss] [(0,(1,(.tmp 76))),(1,(1,(.tmp 77))),(2,(1,(.tmp 82)))])] [false] [⟨none,none,(.store 3 (.tmp 4) (.tmp 83))⟩]) .ret)))))))
theorem k26:ZaD Tryz.prog 26=some ⟨c26,[(.cell 4 true 3)],84⟩:=by kernel_rfl
abbrev tmsE (a:List Rul) (x:Era):List AV:=[.sl (Za3 a x).length 3 false (rows timC (Za3 a x))]
theorem Zge {a:List Rul} : ∀ x,(tmsE a x).length=1:=fun _=>rfl
theorem Zko {a:List Rul}(l:List Era):(rows (tmsE a) l).length=l.length*1:=Zbd Zge l
theorem tms_lt {a:List Rul}{n:Nat}(l:List Era):AV.ltL n (rows (tmsE a) l)=true:=Zdv (fun n x=>by simp [AV.ltL,AV.lt,ZeR]) l
attribute [local simp] tms_lt
theorem rtell_a {a:List Rul}{z:List Zon}{k:List Lnk}{nm:ByteArray}{es:List Era}{h:AH}(hok:okRs a) (ha:a.length≤9223372036854775807) (hz:okZ es):Ac 25 [.agg (srcB a z k),.agg [sv nm,.sl es.length 10 false (rows eraC es)]] h (.agg [sv nm,.sl es.length 10 false (rows eraC es),.sl (ZaO es).length 1 false (rows intC (ZaO es)),.sl es.length 1 false (rows (tmsE a) es)]):=by
 have hlen:=hz.len
 have hel:=ZdD es
 refine tW' k25 fun N hn hlt hlA hbd=>?_
 simp only [tb'] at hbd ⊢
 refine wr'<|E' (Zbi (cvl lk rfl) rfl (hl0 hn) ha0) pt<|E' (Zbi (cvl lk rfl) rfl (hl1 hn) ha1) pt<|E' (Za6 (hl2 hn) ha2) pt<|sn'<|Zah<|Zbf<|D' (Zap lk (hga hn rfl) ZjV rfl) pt<|D' (Zap lk (hga hn rfl) ZjV rfl) pt<|?_
 refine Za2 mp (fun hE hX=>ZmT hz) pt ?_
 refine D' (ZaA (Zlc (cvl lk rfl) rfl (cvl lk rfl) rfl)) pt<|Zha rfl rfl (hlk hn rfl) (l_new) pt ZsA<|Zbj<|?_
 refine ZhG ZpF ?_
 refine E' (Zal lk (cvl lk rfl) (hga hn rfl) rfl (nb' rfl) rfl ZjX (hs3 hn)) ptn<|Zaq<|?_
 refine Za8 (ALe.own0Cell (st':=1) (ty:=68) (hga hn rfl) gt3 (hl4 hn) pt3 (Eq.trans (congrArg (fun z=>List.set z _ _) ha4) (hs3 hn))) ?_
 refine Zah<|wr'<|mv' lki pt<|sn'<|Zan<|?_
 refine w_lp (ι:=Nat) (fun (j:Nat)=>[(6,iv (j:Int))]++rn' 7 3++rn' 14 39) (fun (j:Nat)=>[(3,.mk 0 58 4 [sv nm,.sl es.length 10 false (rows eraC es),.sl (ZaO es).length 1 false (rows intC (ZaO es)),.own (N+4) j j]),(4,.mk j 68 1 (rows (tmsE a) (es.take j)))]) (fun (j:Nat)=>j≤es.length) (fun (j:Nat)=>es.length-j) (0) (by exact Nat.zero_le _) ?_
 rintro j hi1
 try simp only [sm',Nat.reduceAdd]
 replace hi1:j≤es.length:=hi1
 have htl:(es.take j).length=j:=by rw [List.length_take];omega
 refine Zah<|wr'<|mv' lk pt<|V' (Zac lk) pt<|V' (Zab lk (hga hn rfl) gt1) pt<|V' (ZaI lk) pt<|V' (ZaZ lk lk) pt<|sn'<|?_
 refine cd' lk (fun hc1=>?_) (fun hc1=>?_)
 ·have hj:j<es.length:=by omega
  refine Zad<|Zaf<|Zah<|Zan<|wr'<|mv' lkn pt7<|Zaq<|Za8 (ALe.wkAt gt7 (Wk.nilF (st':=3)) pt7)<|Zah<|wr'<|V' (Zac lk3) pt21<|V' (Zab lk21 (hga hn rfl) gt1) pt22<|?_
  refine mv' lk pt ?_
  refine V' (ZaJ lk lk ZbG (nb' rfl) ro (by omega) ro rfl) pt ?_
  refine V' (ZaS lk dp1) pt<|V' (Zar lk gt) pt<|V' (Zb5 lk lks) pt<|sn'<|?_
  refine cd' lk (fun hc2=>?_) (fun hc2=>?_)
  ·have hT:Za3 a es[j]=(Zba a es[j].2.1 es[j].1).1:=if_neg hc2
   refine Zah<|Zbf<|D' (Zac lk) pt<|D' (Zab lk (hga hn rfl) gt0) pt<|D' (Zac lk) pt<|D' (Zab lk (hga hn rfl) gt1) pt<|D' (v_mv lk) pt<|?_
   refine D' (ZaJ lk lk ZbG (nb' rfl) ro (by omega) ro rfl) pt ?_
   refine D' (ZaS lk dp1) pt<|D' (Zar lk gt) pt<|D' (Zac lk) pt<|D' (Zab lk (hga hn rfl) gt1) pt<|D' (v_mv lk) pt<|?_
   refine D' (ZaJ lk lk ZbG (nb' rfl) ro (by omega) ro rfl) pt ?_
   refine D' (ZaS lk dp0) pt<|D' (Zar lk gt) pt<|?_
   refine Za2 mp (fun hE hX=>Zn9 hok ha) pt ?_
   refine D' (v_mv lk) pt<|D' (Za7 lk gt) pt<|D' (Za7 lk gt) pt<|D' (v_mv lk) pt<|D' (v_mv lk) pt<|Zbj<|?_
   refine ZbH ?_
   refine sn'<|Zat<|mv' lk pt<|mv' lk pt<|sn'<|Zat<|V' (Zac lk) pt<|V' (Zab lk (hga hn rfl) gt3) pt<|mv' lk pt<|E' (Zda (ZfO (cvl lk rfl) rfl) (hl5 hn) ha5) pt<|?_
   refine E' (Zcw (ZbI lk (hga hn rfl) rfl Zmk (nb' rfl)) lk (hga hn rfl) ((Zko _).trans (by rw [htl])) (by omega) rfl (hs4 hn)) pt ?_
   refine V' (Zac lk) pt<|E' (Zal lk (cvl lk rfl) (hga hn rfl) rfl (nb' rfl) rfl ZjW (hs3 hn)) ptn<|Zaq<|Zay<|Zaf<|Zat<|mv' lk pt<|?_
   refine V' (Zav lk lki (by omega) (by omega)) pt ?_
   refine mv' lk pt<|Zaq<|ZaB<|?_
   refine lU' (j+1) (by (try dsimp only);omega) (by (try dsimp only);(try simp only [sm',Nat.reduceAdd]);exact bk' 5 hn hlt (by rw [List.take_succ_eq_append_getElem hj,ZaU,Zbc];unfold tmsE;rw [hT];rfl))
  have hT:Za3 a es[j]=[]:=if_pos (Decidable.of_not_not hc2)
  refine Zad<|Zaf<|Zat<|V' (Zac lk) pt<|V' (Zab lk (hga hn rfl) gt3) pt<|mv' lk pt<|E' (Zda (ZfO (cvl lk rfl) rfl) (hl5 hn) ha5) pt<|?_
  refine E' (Zcw (ZbI lk (hga hn rfl) rfl Zmk (nb' rfl)) lk (hga hn rfl) ((Zko _).trans (by rw [htl])) (by omega) rfl (hs4 hn)) pt ?_
  refine V' (Zac lk) pt<|E' (Zal lk (cvl lk rfl) (hga hn rfl) rfl (nb' rfl) rfl ZjW (hs3 hn)) ptn<|Zaq<|Zay<|Zaf<|Zat<|mv' lk pt<|?_
  refine V' (Zav lk lki (by omega) (by omega)) pt ?_
  refine mv' lk pt<|Zaq<|ZaB<|?_
  refine lU' (j+1) (by (try dsimp only);omega) (by (try dsimp only);(try simp only [sm',Nat.reduceAdd]);exact bk' 5 hn hlt (by rw [List.take_succ_eq_append_getElem hj,ZaU,Zbc];unfold tmsE;rw [hT];rfl))
 have hje:j=es.length:=by omega
 subst hje
 rw [List.take_length] at htl ⊢
 refine ZaE<|Zaz<|Zaz<|ZaX<|?_
 refine Za8 (ALe.iceCellR (hga hn rfl) (hga hn rfl) (by omega) gt3 (List.take_of_length_le (by rw [Zko,htl];omega)) (by rw [Zko,htl];omega) pt3 (hs4 hn) (hs3 hn)) ?_
 refine wr'<|V' (Zap lk (hga hn rfl) ZjT rfl) pt<|E' (Zal lk (cvl lk rfl) (hga hn rfl) rfl (nb' rfl) rfl ZjX (hs2 hn)) ptn<|sn'<|Zaa<|Zag (rs1 (rr_c gt (hga hn rfl) (ld1 ZjT rfl)))<|rtW'<|?_
 exact Wk.agg (wk1 rfl (wk1 rfl (wk1 rfl (wkw Wk.full wk0))))
theorem ZhP : ∀ {l:List Tim}{sa:Int}{lt:ByteArray}{at_:Int},(∀ t∈l,(0≤t.2.1∧t.2.1≤10800)∧t.2.2.size≤24)→(0≤sa∧sa≤10800)→lt.size≤24→(0≤(Zc1 sa lt l at_).1∧(Zc1 sa lt l at_).1≤10800)∧(Zc1 sa lt l at_).2.size≤24
 | [],sa,lt,at_,_,h2,h3=>⟨h2,h3⟩
 | t::l,sa,lt,at_,h1,h2,h3=>by
  rw [Zc1]
  have ht:=h1 t (by simp)
  split
  ·exact ZhP (fun x hx=>h1 x (by simp [hx])) ht.1 ht.2
  exact ZhP (fun x hx=>h1 x (by simp [hx])) h2 h3
end Go.Proofs.YthdifaphoaekoaaGreatDoor
end
