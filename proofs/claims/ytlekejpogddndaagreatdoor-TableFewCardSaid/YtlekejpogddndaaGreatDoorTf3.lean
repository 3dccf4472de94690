/-
  Part 3 of the proof: own lemmas and contracts on plain data. No condition beyond those that each lemma states.
-/
import Derived.Test.YtlekejpogddndaaGreatDoorTf2
import Derived.Lib.ReplaceLaws
import Derived.Sort.OwnSorted
import Derived.Lib.RowBridge
set_option linter.all false
set_option maxRecDepth 1000000
set_option maxHeartbeats 4000000
section
namespace Go.Ab
open Go.RowKit Go.Sort
section
variable {P : Program} {α : Type}
theorem ZjE [Inhabited α] {enc:α→List Value}{k:Nat}(hk0:0<k) (hk : ∀ x,(enc x).length=k) (d:Array α):(Go.Sort.flatK enc k d).toList=d.toList.flatMap enc:=by
 apply List.ext_getElem?
 intro t
 by_cases ht:t<d.size*k
 ·have h1:t/k<d.size:=Nat.div_lt_of_lt_mul (by rw[Nat.mul_comm];exact ht)
  have h2:t%k<k:=Nat.mod_lt _ hk0
  have h3:=Zsy hk d.toList (t/k) (t%k) (by simpa using h1) h2
  rw[Nat.mul_comm (t/k) k,Nat.div_add_mod] at h3
  rw[h3]
  have hs:t<(Go.Sort.flatK enc k d).size:=by simpa using ht
  have h4:=Go.Sort.get_flatK enc k d t ht
  rw[getElem!_pos _ t hs,getElem!_pos _ (t/k) h1,getElem!_pos _ (t%k) (by rw[hk];exact h2)] at h4
  rw[Array.getElem?_toList,Array.getElem?_eq_getElem hs,h4,Array.getElem_toList,List.getElem?_eq_getElem (by rw[hk];exact h2)]
  rfl
 ·rw[List.getElem?_eq_none (by simpa using ht),List.getElem?_eq_none (by rw[Zes hk];simpa using ht)]
theorem rows_v {enc:α→List Value}(l:List α):rows (fun x=>(enc x).map .v) l=(l.flatMap enc).map .v:=by
 unfold rows
 rw[List.map_flatMap]
theorem sort_a [Inhabited α] {ρ:Go.Shelf.Ren}(L:Go.Proofs.SlLaysF0.n6 P ρ) {k:Nat}(hk0:0<k) (aE : ∀ w,(isAgg (ρ.t 24)).run P w=.ok true w) (zE : ∀ w,(Go.sizeOf (ρ.t 24)).run P w=.ok k w) {enc:α→List Value}(hk : ∀ x,(enc x).length=k) (h1 : ∀ x,∀ v∈enc x,v.oneCell'=true) {cf:α→α→Int}(hO:SWO (Go.Proofs.ltOf cf)) {g0:Nat}
  (eg : ∀ args w,(callFunc g0 args).run P w=.ok (.enter g0 args) w) (hcmp : ∀ blk off size w,Go.Proofs.CmpLays P g0 #[] enc k cf blk off size w) {h:AH} {id ver ty:Nat} {l:List α} (hi:h[id]?=some (.mk ver ty k (rows (fun x=>(enc x).map .v) l))) (hl:l≠[]) (hz:l.length<4611686018427387904) (he:enters P (ρ.f 6)=true) :
  ACalls P (ρ.f 6) [.own id ver l.length,.v (.func (.func g0) #[] #[])] h fun x h'=>x=.ret (.tup []) ∧ ∃ l':List α,l'.Perm l∧(∀ i j (hi:i<l'.length) (hj:j<l'.length),i<j→Go.Proofs.ltOf cf l'[j] l'[i]=false)∧h'=h.set id (.mk ver ty k (rows (fun x=>(enc x).map .v) l')):=by
 have hlen:=Za4 (f:=fun x=>(enc x).map .v) (st:=k) (fun x=>by rw[List.length_map,hk]) l
 have hpos:0<l.length:=List.length_pos_iff.2 hl
 refine (ACalls.of_turn (R':=fun cs => ∃ l':List α,l'.Perm l∧(∀ i j (hi:i<l'.length) (hj:j<l'.length),i<j→Go.Proofs.ltOf cf l'[j] l'[i]=false)∧cs=rows (fun x=>(enc x).map .v) l') he hi ?_ ?_).mono ?_
 ·intro e
  have:=congrArg List.length e
  rw[hlen] at this
  have h0:0<l.length*k:=Nat.mul_pos hpos hk0
  simp at this;omega
 ·intro w g vs b cap arr hs ha hloc hb hsz hle hr
  simp only[RepL,Rep,hloc] at ha
  obtain⟨u1,us1,e1,⟨A,c,e2,hn1,hn2,rfl⟩,u2,us2,rfl,rfl,rfl⟩:=ha
  simp only[Option.some.injEq,Prod.mk.injEq] at e2
  obtain⟨rfl,rfl⟩:=e2
  obtain rfl:vs = #[.slice (some ⟨b,0,none⟩) l.length cap,.func (.func g0) #[] #[]]:=by cases vs;simp_all
  have hr':arr.toList.take (l.length*k)=l.flatMap enc:=by
   rw[hlen,rows_v] at hr
   exact (Zm5 w g).1 hr
  have hblk:b<w.heap.size:=(Array.getElem?_eq_some_iff.1 hb).1
  have hflat:=ZjE hk0 hk l.toArray
  have hgetF : ∀ (d:Array α) (t:Nat),t<d.size*k→(Go.Sort.flatK enc k d).toList[t]?=some (Go.Sort.flatK enc k d)[t]!:=by
   intro d t ht
   have hs:t<(Go.Sort.flatK enc k d).size:=by simpa using ht
   rw[getElem!_pos _ t hs,Array.getElem?_toList,Array.getElem?_eq_getElem hs]
  have hH:Go.Sort.HoldsK enc k w b 0 l.toArray:=by
   intro j hj
   have hj':j<l.length*k:=by simpa using hj
   rw[Nat.zero_add]
   refine⟨?_,frozen_of_row w b j arr ty hb⟩
   rw[cell_of_row w b j arr ty (0,0) hb,←Array.getElem?_toList]
   have h5:arr.toList[j]?=(l.flatMap enc)[j]?:=by rw[←hr',List.getElem?_take_of_lt hj']
   rw[h5,show l.flatMap enc=(Go.Sort.flatK enc k l.toArray).toList from hflat.symm,hgetF _ _ (by simpa using hj')];rfl
  refine (Go.Proofs.AnyQ.slices_SortFunc L k aE zE enc hk h1 cf hO g0 #[] b 0 cap l.toArray w eg (hcmp b 0 l.toArray.size w) hH hblk (by simpa using hz)).mono ?_
  rintro e w' ⟨rfl,d',n,os,⟨p1,_,p3⟩,hso,rfl⟩
  have hds:d'.size=l.length:=by simpa using p1
  have hw' : ∀ j,j<w.heap.size→(Go.Proofs.sortWorldK enc k w b 0 n d' os).heap[j]?=(w.heap.modify b (onCells (putCells _root_.id 0 (Go.Sort.flatK enc k d'))))[j]?:=by
   intro j hj
   show ((w.heap.modify b (onCells (putCells _root_.id 0 (Go.Sort.flatK enc k d'))))++os)[j]?=_
   rw[Array.getElem?_append_left (by simpa using hj)]
  have hsz2:arr.size=(putCells _root_.id 0 (Go.Sort.flatK enc k d') arr).size:=by simp[putCells]
  refine⟨rfl,d'.toList.flatMap enc,putCells _root_.id 0 (Go.Sort.flatK enc k d') arr,⟨d'.toList,?_,?_,(rows_v _).symm⟩,?_,hsz2.symm,?_,?_,rfl,rfl,rfl,?_,?_⟩
  ·have e1:d'.extract 0 l.toArray.size=d':=by rw[←p1];simp
   have e2:l.toArray.extract 0 l.toArray.size=l.toArray:=by simp
   rw[e1,e2] at p3
   simpa using p3
  ·intro i j hi hj hij
   have:=hso i j (Nat.zero_le _) hij (by simpa [hds] using hj)
   rw[getElem!_pos d' j (by simpa using hj),getElem!_pos d' i (by simpa using hi)] at this
   simpa using this
  ·rw[hw' b hblk,Array.getElem?_modify,if_pos rfl,hb];rfl
  ·rw[Zes hk,hlen,Array.length_toList,hds]
  ·rw[hlen]
   apply List.ext_getElem?
   intro t
   by_cases ht:t<l.length*k
   ·have ht2:t<d'.size*k:=by rw[hds];exact ht
    have hta:t<arr.size:=by rw[hlen] at hle;omega
    rw[List.getElem?_take_of_lt ht,←ZjE hk0 hk d',hgetF d' t ht2]
    unfold putCells
    rw[Array.getElem?_toList,Array.getElem?_mapIdx,Array.getElem?_eq_getElem hta,Option.map_some,if_pos ⟨Nat.zero_le _,by simpa using ht2⟩]
    rfl
   ·rw[List.getElem?_eq_none (by simp;omega),List.getElem?_eq_none (by rw[Zes hk,Array.length_toList,hds];omega)]
  ·show w.heap.size≤((w.heap.modify b (onCells (putCells _root_.id 0 (Go.Sort.flatK enc k d'))))++os).size
   simp
  ·intro j hj hjb
   rw[hw' j hj,Array.getElem?_modify,if_neg (Ne.symm hjb)]
 ·rintro x h' ⟨rfl,cs,⟨l',hp,hs,rfl⟩,rfl⟩
  exact⟨rfl,l',hp,hs,rfl⟩
end
end Go.Ab
end
section
namespace Go.Proofs
open Go.Shelf
def Tryz.sl9_ren:Go.Shelf.Ren:=⟨fun | 6=>88 | 15=>161 | 14=>160 | 28=>243 | 29=>244 | 20=>235 | 21=>236 | 22=>237 | 23=>238 | 24=>239 | 25=>240 | 26=>241 | 27=>242 | 46=>283 | 47=>284 | 48=>285 | 49=>286 | 50=>287 | 57=>322 | n=>n,fun | 22=>140 | 24=>144 | 25=>147 | 3=>3 | 39=>211 | 0=>0 | 53=>279 | 55=>281 | 4=>4 | 46=>273 | 45=>272 | 50=>170 | 5=>5 | 9=>9 | 66=>311 | 70=>315 | 76=>337 | 77=>307 | n=>n,fun | n=>n⟩
theorem Tryz.sl9:Go.Proofs.SlLaysF0.n6 Tryz.prog Tryz.sl9_ren:={
 mixed:=by kernel_rfl
 f6:=⟨Tryz.f88.name,by decide,Tryz.func88.trans (congrArg some (by kernel_rfl))⟩
 f14:=⟨Tryz.f160.name,by decide,Tryz.func160.trans (congrArg some (by kernel_rfl))⟩
 f15:=Tryz.func161.trans (congrArg some (by kernel_rfl))
 f20:=⟨Tryz.f235.name,by decide,Tryz.func235.trans (congrArg some (by kernel_rfl))⟩
 f21:=⟨Tryz.f236.name,by decide,Tryz.func236.trans (congrArg some (by kernel_rfl))⟩
 f22:=⟨Tryz.f237.name,by decide,Tryz.func237.trans (congrArg some (by kernel_rfl))⟩
 f23:=⟨Tryz.f238.name,by decide,Tryz.func238.trans (congrArg some (by kernel_rfl))⟩
 f24:=⟨Tryz.f239.name,by decide,Tryz.func239.trans (congrArg some (by kernel_rfl))⟩
 f25:=⟨Tryz.f240.name,by decide,Tryz.func240.trans (congrArg some (by kernel_rfl))⟩
 f26:=⟨Tryz.f241.name,by decide,Tryz.func241.trans (congrArg some (by kernel_rfl))⟩
 f27:=⟨Tryz.f242.name,by decide,Tryz.func242.trans (congrArg some (by kernel_rfl))⟩
 f28:=Tryz.func243.trans (congrArg some (by kernel_rfl))
 f29:=Tryz.func244.trans (congrArg some (by kernel_rfl))
 f46:=⟨Tryz.f283.name,by decide,Tryz.func283.trans (congrArg some (by kernel_rfl))⟩
 f47:=Tryz.func284.trans (congrArg some (by kernel_rfl))
 f48:=Tryz.func285.trans (congrArg some (by kernel_rfl))
 f49:=⟨Tryz.f286.name,by decide,Tryz.func286.trans (congrArg some (by kernel_rfl))⟩
 f50:=⟨Tryz.f287.name,by decide,Tryz.func287.trans (congrArg some (by kernel_rfl))⟩
 f57:=⟨Tryz.f322.name,by decide,Tryz.func322.trans (congrArg some (by kernel_rfl))⟩
 t0:=Tryz.underlying0
 a0:=Tryz.isAgg0
 z0:=Tryz.sizeOf0
 v0:=Tryz.zeroValue0
 t3:=Tryz.underlying3
 a3:=Tryz.isAgg3
 z3:=Tryz.sizeOf3
 v3:=Tryz.zeroValue3
 t4:=Tryz.underlying4
 a4:=Tryz.isAgg4
 z4:=Tryz.sizeOf4
 v4:=Tryz.zeroValue4
 t5:=Tryz.underlying5
 a5:=Tryz.isAgg5
 z5:=Tryz.sizeOf5
 v5:=Tryz.zeroValue5
 t9:=Tryz.underlying9
 a9:=Tryz.isAgg9
 z9:=Tryz.sizeOf9
 v9:=Tryz.zeroValue9
 t22:=Tryz.underlying140
 a22:=Tryz.isAgg140
 z22:=Tryz.sizeOf140
 v22:=Tryz.zeroValue140
 t25:=Tryz.underlying147
 a25:=Tryz.isAgg147
 z25:=Tryz.sizeOf147
 v25:=Tryz.zeroValue147
 t39:=Tryz.underlying211
 a39:=Tryz.isAgg211
 z39:=Tryz.sizeOf211
 v39:=Tryz.zeroValue211
 t45:=Tryz.underlying272
 a45:=Tryz.isAgg272
 z45:=Tryz.sizeOf272
 v45:=Tryz.zeroValue272
 t46:=Tryz.underlying273
 a46:=Tryz.isAgg273
 z46:=Tryz.sizeOf273
 v46:=Tryz.zeroValue273
 t50:=Tryz.underlying170
 a50:=Tryz.isAgg170
 z50:=Tryz.sizeOf170
 v50:=Tryz.zeroValue170
 t53:=Tryz.underlying279
 a53:=Tryz.isAgg279
 z53:=Tryz.sizeOf279
 v53:=Tryz.zeroValue279
 t55:=Tryz.underlying281
 a55:=Tryz.isAgg281
 z55:=Tryz.sizeOf281
 v55:=Tryz.zeroValue281
 t66:=Tryz.underlying311
 a66:=Tryz.isAgg311
 z66:=Tryz.sizeOf311
 v66:=Tryz.zeroValue311
 t70:=Tryz.underlying315
 a70:=Tryz.isAgg315
 z70:=Tryz.sizeOf315
 v70:=Tryz.zeroValue315
 t76:=Tryz.underlying337
 a76:=Tryz.isAgg337
 z76:=Tryz.sizeOf337
 v76:=Tryz.zeroValue337
 t77:=Tryz.underlying307
 a77:=Tryz.isAgg307
 z77:=Tryz.sizeOf307
 v77:=Tryz.zeroValue307 }
end Go.Proofs
end
section
namespace Go.Proofs
open Go.Shelf
def Tryz.lays122_ren:Go.Shelf.Ren:=⟨fun | 122=>90 | 215=>162 | n=>n,fun | 3=>3 | 4=>4 | n=>n,fun | n=>n⟩
theorem Tryz.lays122:Go.Proofs.Lays.n122 Tryz.prog Tryz.lays122_ren:={
 mixed:=by kernel_rfl
 f122:=Tryz.func90.trans (congrArg some (by kernel_rfl))
 f215:=Tryz.func162.trans (congrArg some (by kernel_rfl))
 t3:=Tryz.underlying3
 a3:=Tryz.isAgg3
 z3:=Tryz.sizeOf3
 v3:=Tryz.zeroValue3
 t4:=Tryz.underlying4
 a4:=Tryz.isAgg4
 z4:=Tryz.sizeOf4
 v4:=Tryz.zeroValue4 }
open Go.RowKit in
theorem Tryz.cmp_Compare_int (x y:Int) (w:World) :
  Calls Tryz.prog 90 #[.int .i64 x,.int .i64 y] w fun e w'=>e=.returned (.int .i64 (Lib.compareInt x y))∧w'=w:=Any.cmp_Compare_int Tryz.lays122 x y w
end Go.Proofs
end
section
namespace Go.Proofs.YtlekejpogddndaaGreatDoor
open Go.Ab Go.RowKit Civ Go.Sort
def trnV (t:Trn):List Value:=[.int .i64 t.1,.string t.2.1,.int .i64 t.2.2.1,.int .i64 t.2.2.2.1,.int .i64 t.2.2.2.2.1,.int .i64 t.2.2.2.2.2.1.1,.int .i64 t.2.2.2.2.2.1.2.1,.int .i64 t.2.2.2.2.2.1.2.2,.int .i64 t.2.2.2.2.2.2.1,.int .i64 t.2.2.2.2.2.2.2.1,.int .i64 t.2.2.2.2.2.2.2.2.1,.string t.2.2.2.2.2.2.2.2.2]
def cmpT (a b:Trn):Int:=Lib.compareInt a.1 b.1
theorem ZsT (a b:Trn):Go.Proofs.ltOf cmpT a b=decide (a.1<b.1):=by
 unfold Go.Proofs.ltOf cmpT Lib.compareInt
 rw[Bool.eq_iff_iff]
 simp only[decide_eq_true_eq]
 repeat' split
 all_goals omega
theorem cmpT_swo:SWO (Go.Proofs.ltOf cmpT):=by
 refine⟨fun x=>?_,fun x y z=>?_,fun x y z=>?_⟩ <;> simp only[ZsT,decide_eq_true_eq,decide_eq_false_iff_not] <;> omega
theorem cmp_walk (x y:Trn) (w:World):Calls Tryz.prog 89 #[.agg (trnV x).toArray,.agg (trnV y).toArray] w fun e w'=>e=.returned (.int .i64 (cmpT x y)) ∧ ∃ q os,w'=grow (w.drewN q) os:=by
 obtain⟨a,n,f,t,m,⟨k,v,d⟩,c,e,s,l⟩:=x
 obtain⟨a2,n2,f2,t2,m2,⟨k2,v2,d2⟩,c2,e2,s2,l2⟩:=y
 simp only[trnV]
 go_enter Tryz.func89,Tryz.ntmps89
 go_wp2_with (go_at_call 90;refine (Tryz.cmp_Compare_int _ _ _).mono ?_;rintro e w' ⟨rfl,rfl⟩)
 go_ret
 refine⟨rfl,?_⟩
 rw[alloc_eq_grow,alloc_eq_grow,grow_grow]
 exact⟨0,_,rfl⟩
def ordT (l l':List Trn):Prop:=l'.Perm l∧l'.Pairwise fun a b=>a.1≤b.1
theorem sortT_a {h:AH}{id ver ty:Nat}{l:List Trn}(hi:h[id]?=some (.mk ver ty 12 (rows trnC l))) (hl:l≠[]) (hz:l.length<4611686018427387904) :
  ACalls Tryz.prog 88 [.own id ver l.length,.v (.func (.func 89) #[] #[])] h fun x h'=>x=.ret (.tup []) ∧ ∃ l',ordT l l'∧h'=h.set id (.mk ver ty 12 (rows trnC l')):=by
 refine (sort_a (P:=Tryz.prog) Tryz.sl9 (k:=12) om (fun w=>by kernel_rfl) (fun w=>by kernel_rfl) (enc:=trnV) (fun _=>rfl) (fun t v hv=>?_) cmpT_swo (g0:=89) (fun args w=>?_) (fun blk off size w m os dk hd x y=>cmp_walk x y _) hi hl hz (by kernel_rfl)).mono ?_
 ·unfold trnV at hv
  simp only[List.mem_cons,List.not_mem_nil,or_false] at hv
  rcases hv with rfl | rfl | rfl | rfl | rfl | rfl | rfl | rfl | rfl | rfl | rfl | rfl <;> rfl
 ·exact Ziu (by kernel_rfl) args w
 ·rintro x h' ⟨rfl,l',hp,hs,rfl⟩
  refine⟨rfl,l',⟨hp,List.pairwise_iff_getElem.2 fun i j hi hj hij=>?_⟩,rfl⟩
  have:=hs i j hi hj hij
  rw[ZsT] at this
  simp only[decide_eq_false_iff_not] at this
  omega
end Go.Proofs.YtlekejpogddndaaGreatDoor
end
section
namespace Go.Proofs.YtlekejpogddndaaGreatDoor
open Go.Ab Go.RowKit Civ
attribute [local simp] Zbh Zlk ZdO
section
theorem ZiW {a0 a1 a2 a3 a4 a5 a6 a7 a8 a9 a10 a11 c0 c1 c2 c3 c4 c5 c6 c7 c8 c9 c10 c11:AV}{l:List AV}:setCells (a0::a1::a2::a3::a4::a5::a6::a7::a8::a9::a10::a11::l) 0 [c0,c1,c2,c3,c4,c5,c6,c7,c8,c9,c10,c11]=c0::c1::c2::c3::c4::c5::c6::c7::c8::c9::c10::c11::l:=rfl
theorem Zob {a0 a1 a2 a3 a4 a5 a6 a7 a8 a9 a10 a11:AV}{l:List AV}:((a0::a1::a2::a3::a4::a5::a6::a7::a8::a9::a10::a11::l).drop 0).take 12=[a0,a1,a2,a3,a4,a5,a6,a7,a8,a9,a10,a11]:=rfl
theorem ZmF {τ:Operand→AV}{y0:Operand}{x0_0 x0_1 x0_2 x0_3 x0_4 x0_5 x0_6 x0_7 x0_8 x0_9 x0_10 x0_11:AV}(h0:Zat (τ y0)=some [x0_0,x0_1,x0_2,x0_3,x0_4,x0_5,x0_6,x0_7,x0_8,x0_9,x0_10,x0_11]) (l0:[x0_0,x0_1,x0_2,x0_3,x0_4,x0_5,x0_6,x0_7,x0_8,x0_9,x0_10,x0_11].all leaf=true):Zas τ [(0,12,y0)] [(.v (.int .i64 0)),(.v (.string ⟨#[]⟩)),(.v (.int .i64 0)),(.v (.int .i64 0)),(.v (.int .i64 0)),(.v (.int .i64 0)),(.v (.int .i64 0)),(.v (.int .i64 0)),(.v (.int .i64 0)),(.v (.int .i64 0)),(.v (.int .i64 0)),(.v (.string ⟨#[]⟩))]=some [x0_0,x0_1,x0_2,x0_3,x0_4,x0_5,x0_6,x0_7,x0_8,x0_9,x0_10,x0_11]:=by
 simp only[Zas,h0,l0]
 rfl
theorem ZqP {a0 a1 a2 a3 a4 a5 a6 a7 a8 a9 a10 a11:AV}{l:List AV}:(a0::a1::a2::a3::a4::a5::a6::a7::a8::a9::a10::a11::l).take 12=[a0,a1,a2,a3,a4,a5,a6,a7,a8,a9,a10,a11]:=rfl
theorem ZqQ {a0 c0:AV}{l:List AV}:setCells (a0::l) 0 [c0]=c0::l:=rfl
theorem ZiV {a0 a1 a2 a3 a4 a5 a6 a7 a8 a9 a10 a11:AV}{l:List AV}:((a0::a1::a2::a3::a4::a5::a6::a7::a8::a9::a10::a11::l).drop 1).take 11=[a1,a2,a3,a4,a5,a6,a7,a8,a9,a10,a11]:=rfl
theorem ZgE {τ:Operand→AV}{y0 y1 y2:Operand}{x0_0 x1_0 x2_0:AV}(h0:Zat (τ y0)=some [x0_0]) (l0:[x0_0].all leaf=true) (h1:Zat (τ y1)=some [x1_0]) (l1:[x1_0].all leaf=true) (h2:Zat (τ y2)=some [x2_0]) (l2:[x2_0].all leaf=true):Zas τ [(0,1,y0),(1,1,y1),(2,1,y2)] [(.v (.int .i64 0)),(.v (.int .i64 0)),(.v (.string ⟨#[]⟩))]=some [x0_0,x1_0,x2_0]:=by
 simp only[Zas,h0,l0,h1,l1,h2,l2]
 rfl
theorem ZgD {τ:Operand→AV}{y0:Operand}{x0_0 x0_1 x0_2:AV}(h0:Zat (τ y0)=some [x0_0,x0_1,x0_2]) (l0:[x0_0,x0_1,x0_2].all leaf=true):Zas τ [(0,3,y0)] [(.v (.int .i64 0)),(.v (.int .i64 0)),(.v (.string ⟨#[]⟩))]=some [x0_0,x0_1,x0_2]:=by
 simp only[Zas,h0,l0]
 rfl
theorem ZmE { e:Ent}:([]:AH)++[e]=[e]:=rfl
theorem Zka {e0 e1 e2 e3 e4 e5 d0:Ent}:([e0,e1,e2,e3,e4,e5]:AH)++[d0]=[e0,e1,e2,e3,e4,e5,d0]:=rfl
theorem ZmD {a0 a1 a2:AV}{l:List AV}:(a0::a1::a2::l).take 3=[a0,a1,a2]:=rfl
end
def c31p:AC:=(.seq (.reg [⟨(some 6),none,(.mv (.const (.slice none 0 0)))⟩,⟨(some 7),none,(.mv (.const (.int .i64 0)))⟩]) (.seq (.reg [⟨(some 15),none,(.mv (.tmp 0))⟩,⟨(some 16),none,(.mv (.tmp 1))⟩,⟨(some 17),none,(.mv (.tmp 2))⟩,⟨(some 18),none,(.call (.func 86) [(.tmp 15),(.tmp 16),(.tmp 17)])⟩,⟨(some 8),none,(.mv (.tmp 18))⟩]) (.seq (.reg [⟨(some 19),none,(.mv (.tmp 8))⟩,⟨(some 20),none,(.bin .neq (.tmp 19) (.const (.int .i64 0)))⟩]) (.seq (.cond (.tmp 20) (.seq (.reg [⟨(some 21),none,(.mv (.tmp 8))⟩,⟨(some 6),none,(.mv (.const (.slice none 0 0)))⟩,⟨(some 7),none,(.mv (.tmp 21))⟩]) .ret) .skip) (.seq (.reg [⟨(some 9),none,(.new 140 1 [(.sl 0 0 true [])])⟩]) (.seq (.reg [⟨(some 22),none,(.mv (.tmp 0))⟩,⟨(some 23),none,(.mv (.tmp 1))⟩,⟨(some 24),none,(.call (.func 87) [(.tmp 22),(.tmp 23)])⟩]) .skip))))))
def c31a:AC:=(.reg [⟨(some 10),none,(.new 144 12 [(.v (.int .i64 0)),(.v (.string ⟨#[]⟩)),(.v (.int .i64 0)),(.v (.int .i64 0)),(.v (.int .i64 0)),(.v (.int .i64 0)),(.v (.int .i64 0)),(.v (.int .i64 0)),(.v (.int .i64 0)),(.v (.int .i64 0)),(.v (.int .i64 0)),(.v (.string ⟨#[]⟩))])⟩,⟨none,none,(.store 12 (.tmp 10) (.tmp 25))⟩])
def c31b:AC:=(.block 1 (.reg [⟨(some 26),none,(.load false 1 (.tmp 9))⟩,⟨(some 27),none,(.load true 12 (.tmp 10))⟩,⟨(some 28),none,(.lit 144 12 1 [(.v (.int .i64 0)),(.v (.string ⟨#[]⟩)),(.v (.int .i64 0)),(.v (.int .i64 0)),(.v (.int .i64 0)),(.v (.int .i64 0)),(.v (.int .i64 0)),(.v (.int .i64 0)),(.v (.int .i64 0)),(.v (.int .i64 0)),(.v (.int .i64 0)),(.v (.string ⟨#[]⟩))] [(0,(12,(.tmp 27)))])⟩,⟨(some 29),none,(.app 144 12 112 (.tmp 26) (.tmp 28))⟩,⟨none,none,(.store 1 (.tmp 9) (.tmp 29))⟩]))
def c31q:AC:=(.seq (.reg [⟨(some 30),none,(.load false 1 (.tmp 9))⟩,⟨(some 31),none,(.call (.func 88) [(.tmp 30),(.func 89)])⟩]) (.seq (.reg [⟨(some 11),none,(.mv (.const (.slice none 0 0)))⟩]) (.seq (.reg [⟨(some 12),none,(.mv (.const (.int .i64 0)))⟩]) (.seq (.reg [⟨(some 32),none,(.load false 1 (.tmp 9))⟩,⟨(some 33),none,(.len false (.tmp 32))⟩,⟨(some 34),none,(.mv (.const (.int .i64 0)))⟩]) (.seq (.block 2 (.loop (.seq (.reg [⟨(some 35),none,(.bin .lss (.tmp 34) (.tmp 33))⟩]) (.seq (.cond (.tmp 35) .skip (.exit 2)) (.seq (.block 3 (.seq (.reg [⟨(some 36),none,(.mv (.tmp 34))⟩,⟨(some 37),none,(.ia 12 (.tmp 32) (.tmp 34))⟩,⟨(some 38),none,(.load true 12 (.tmp 37))⟩,⟨(some 14),none,(.new 144 12 [(.v (.int .i64 0)),(.v (.string ⟨#[]⟩)),(.v (.int .i64 0)),(.v (.int .i64 0)),(.v (.int .i64 0)),(.v (.int .i64 0)),(.v (.int .i64 0)),(.v (.int .i64 0)),(.v (.int .i64 0)),(.v (.int .i64 0)),(.v (.int .i64 0)),(.v (.string ⟨#[]⟩))])⟩,⟨(some 13),none,(.mv (.tmp 36))⟩,⟨none,none,(.store 12 (.tmp 14) (.tmp 38))⟩]) (.seq (.seq (.drw [⟨(some 39),none,(.mv (.tmp 13))⟩,⟨(some 40),none,(.bin .gtr (.tmp 39) (.const (.int .i64 0)))⟩,⟨(some 41),none,(.mv (.tmp 40))⟩,⟨(some 42),(some (41,true)),(.fa 0 (.tmp 14))⟩,⟨(some 43),(some (41,true)),(.load false 1 (.tmp 42))⟩,⟨(some 44),(some (41,true)),(.load false 1 (.tmp 9))⟩,⟨(some 45),(some (41,true)),(.mv (.tmp 13))⟩,⟨(some 46),(some (41,true)),(.bin .sub (.tmp 45) (.const (.int .i64 1)))⟩,⟨(some 47),(some (41,true)),(.ia 12 (.tmp 44) (.tmp 46))⟩,⟨(some 48),(some (41,true)),(.fa 0 (.tmp 47))⟩,⟨(some 49),(some (41,true)),(.load false 1 (.tmp 48))⟩,⟨(some 50),(some (41,true)),(.bin .sub (.tmp 43) (.tmp 49))⟩,⟨(some 51),(some (41,true)),(.bin .lss (.tmp 50) (.const (.int .i64 172800)))⟩,⟨(some 52),none,(.pick (.tmp 41) (.tmp 51) (.const (.bool false)))⟩] [] []) (.cond (.tmp 52) (.seq (.reg [⟨(some 6),none,(.mv (.const (.slice none 0 0)))⟩,⟨(some 7),none,(.mv (.const (.int .i64 4)))⟩]) .ret) .skip)) (.seq (.drw [⟨(some 53),none,(.mv (.tmp 11))⟩,⟨(some 54),none,(.fa 0 (.tmp 14))⟩,⟨(some 55),none,(.load false 1 (.tmp 54))⟩,⟨(some 56),none,(.fa 1 (.tmp 14))⟩,⟨(some 57),none,(.load true 11 (.tmp 56))⟩,⟨(some 58),none,(.mv (.tmp 2))⟩,⟨(some 59),none,(.mv (.tmp 12))⟩,⟨(some 60),none,(.call (.func 91) [(.tmp 57),(.tmp 58),(.tmp 59)])⟩,⟨(some 61),none,(.bin .sub (.tmp 55) (.tmp 60))⟩,⟨(some 62),none,(.fa 1 (.tmp 14))⟩,⟨(some 63),none,(.fa 9 (.tmp 62))⟩,⟨(some 64),none,(.load false 1 (.tmp 63))⟩,⟨(some 65),none,(.fa 1 (.tmp 14))⟩,⟨(some 66),none,(.fa 10 (.tmp 65))⟩,⟨(some 67),none,(.load false 1 (.tmp 66))⟩,⟨(some 68),none,(.build [(.v (.int .i64 0)),(.v (.int .i64 0)),(.v (.string ⟨#[]⟩))] [(0,(1,(.tmp 61))),(1,(1,(.tmp 64))),(2,(1,(.tmp 67)))])⟩,⟨(some 69),none,(.lit 136 3 1 [(.v (.int .i64 0)),(.v (.int .i64 0)),(.v (.string ⟨#[]⟩))] [(0,(3,(.tmp 68)))])⟩] [false,false] [⟨(some 70),none,(.app 136 3 32 (.tmp 53) (.tmp 69))⟩,⟨(some 11),none,(.mv (.tmp 70))⟩]) (.reg [⟨(some 71),none,(.fa 1 (.tmp 14))⟩,⟨(some 72),none,(.fa 9 (.tmp 71))⟩,⟨(some 73),none,(.load false 1 (.tmp 72))⟩,⟨(some 12),none,(.mv (.tmp 73))⟩]))))) (.reg [⟨(some 74),none,(.bin .add (.tmp 34) (.const (.int .i64 1)))⟩,⟨(some 34),none,(.mv (.tmp 74))⟩])))))) (.seq (.reg [⟨(some 75),none,(.mv (.tmp 11))⟩,⟨(some 76),none,(.len false (.tmp 75))⟩,⟨(some 77),none,(.bin .gtr (.tmp 76) (.const (.int .i64 1000)))⟩]) (.seq (.cond (.tmp 77) (.seq (.reg [⟨(some 6),none,(.mv (.const (.slice none 0 0)))⟩,⟨(some 7),none,(.mv (.const (.int .i64 2)))⟩]) .ret) .skip) (.seq (.reg [⟨(some 78),none,(.mv (.tmp 11))⟩,⟨(some 6),none,(.mv (.tmp 78))⟩,⟨(some 7),none,(.mv (.const (.int .i64 0)))⟩]) (.seq .ret .skip)))))))))
abbrev fr31:AFR:=⟨[(.reg [⟨(some 6),none,(.mv (.const (.slice none 0 0)))⟩,⟨(some 7),none,(.mv (.const (.int .i64 0)))⟩]),(.reg [⟨(some 15),none,(.mv (.tmp 0))⟩,⟨(some 16),none,(.mv (.tmp 1))⟩,⟨(some 17),none,(.mv (.tmp 2))⟩,⟨(some 18),none,(.call (.func 86) [(.tmp 15),(.tmp 16),(.tmp 17)])⟩,⟨(some 8),none,(.mv (.tmp 18))⟩]),(.reg [⟨(some 19),none,(.mv (.tmp 8))⟩,⟨(some 20),none,(.bin .neq (.tmp 19) (.const (.int .i64 0)))⟩]),(.cond (.tmp 20) (.seq (.reg [⟨(some 21),none,(.mv (.tmp 8))⟩,⟨(some 6),none,(.mv (.const (.slice none 0 0)))⟩,⟨(some 7),none,(.mv (.tmp 21))⟩]) .ret) .skip),(.reg [⟨(some 9),none,(.new 140 1 [(.sl 0 0 true [])])⟩]),(.reg [⟨(some 22),none,(.mv (.tmp 0))⟩,⟨(some 23),none,(.mv (.tmp 1))⟩,⟨(some 24),none,(.call (.func 87) [(.tmp 22),(.tmp 23)])⟩])],(.tmp 24),#[25],c31a,c31b,c31q,[(.tmp 6),(.tmp 7)],79⟩
theorem k31:Zhn Tryz.prog 31=some fr31:=by kernel_rfl
theorem turns_ne {l:List Rul}{nm:ByteArray}(h : ∀ r∈l,Zbu r=0) (hn : ∃ r∈l,r.1=nm):Zbg l nm≠[]:=by
 obtain⟨r,hr,e⟩:=hn
 have h1:=ZgK (h r hr)
 obtain⟨_,q2,_⟩:=Zcl (h r hr)
 intro hE
 have:Zc1 r=[]:=by
  unfold Zbg at hE
  rw[List.flatMap_eq_nil_iff] at hE
  have:=hE r hr
  rwa [if_pos e] at this
 rw[this] at h1
 simp at h1
 have q2:r.2.1≤r.2.2.1:=q2
 have h2:(0:Int)=r.2.2.1-r.2.1+1:=h1
 omega
abbrev timT (N:Nat) (l:List Rul) (nm:ByteArray) (sh:Int) (x:AV):List AV:=[.sl l.length 11 false (rows rulC l),sv nm,iv sh,.any,.any,.any,.any,.any,.any,.ptr (N+0) 0 0,.any,.any,.any,.any,.any,.any,.any,.any,.any,.any,.any,.any,.any,.any,.clo (.func 159) [.rp [.sl l.length 11 false (rows rulC l)],.rp [sv nm]],x,.any,.any,.any,.any,.any,.any,.any,.any,.any,.any,.any,.any,.any,.any,.any,.any,.any,.any,.any,.any,.any,.any,.any,.any,.any,.any,.any,.any,.any,.any,.any,.any,.any,.any,.any,.any,.any,.any,.any,.any,.any,.any,.any,.any,.any,.any,.any,.any,.any,.any,.any,.any,.any]
abbrev timH (h:AH) (D l N:Nat) (o:Obj) (T:List AV) (vs:List Value) (d:List Trn):AH:=h++[.mk 0 140 1 [.own (N+1) d.length d.length],.mk d.length 144 12 (rows trnC d),mkD D,.raw l o T vs]
abbrev timJ (h:AH) (D l N:Nat) (o:Obj) (T:List AV) (vs:List Value) (d:List Trn) (e f:Ent):AH:=h++[.mk 0 140 1 [.own (N+1) d.length d.length],.mk d.length 144 12 (rows trnC d),mkD D,.raw l o T vs,e,f]
theorem ZoM {n:Nat} : ∀ {a b:List AV},AV.ltL n (a++b)=(AV.ltL n a&&AV.ltL n b)
 | [],b=>by simp[AV.ltL]
 | c::a,b=>by simp[AV.ltL,ZoM (a:=a) (b:=b),Bool.and_assoc]
theorem Zrg {h:AH}{D l N:Nat}{o:Obj}{T:List AV}{vs:List Value}{d:List Trn}{e f:Ent}:timH h D l N o T vs d++[e,f]=timJ h D l N o T vs d e f:=by simp
abbrev timK (P:Program) (lp N D:Nat) (rdy bsy fin:Obj) (l:List Rul) (nm:ByteArray) (sh:Int) (vs:List Value):Prop:=Zk4 P fr31 (N+2+1) lp rdy bsy fin (timT N l nm sh .any) vs
theorem timT_lt {N:Nat}{l:List Rul}{nm:ByteArray}{sh:Int}:AV.ltL (N+4) (timT N l nm sh .any)=true:=by simp[AV.ltL,AV.lt,Zbh]
theorem timH_lt {h:AH}{D lp N:Nat}{o:Obj}{l:List Rul}{nm:ByteArray}{sh:Int}{vs:List Value}(hlt : ∀ e∈h,e.lt N=true) (d:List Trn) : ∀ e∈timH h D lp N o (timT N l nm sh .any) vs d,e.lt (N+4)=true:=by
 intro e he
 rcases List.mem_append.1 he with he | he
 ·exact ltw om hlt e he
 simp only[List.mem_cons,List.not_mem_nil,or_false] at he
 rcases he with rfl | rfl | rfl | rfl
 ·simp[Ent.lt,AV.ltL,AV.lt]
 ·simp[Ent.lt,Zlk]
 ·simp[Ent.lt,AV.ltL]
 simpa [Ent.lt] using timT_lt
theorem app62 {h:AH}{a b c d e f p q:Ent}:h++[a,b,c,d,e,f,p,q]=(h++[a,b,c,d,e,f])++[p,q]:=by simp
theorem ZmV {h:AH}{lp N D:Nat}{rdy bsy fin:Obj}{l:List Rul}{nm:ByteArray}{sh:Int}{vs:List Value}(hn:h.length=N) (hlt : ∀ e∈h,e.lt N=true) (hY:timK Tryz.prog lp N D rdy bsy fin l nm sh vs) {d:List Trn}{t:Trn}{e f:Ent}(hd:d.length<10000) :
  AYield Tryz.prog lp [.agg (trnC t)] (timJ h D lp N rdy (timT N l nm sh .any) vs d e f) fun r h''=>r=.ret (.v (.bool true))∧h''=timJ h D lp N rdy (timT N l nm sh .any) vs (d++[t]) e f:=by
 refine y_go hY (hga (k:=3) hn rfl) rfl fun n0 hn0 hlt0 q1 q2 q3=>?_
 obtain⟨a,n,fr,tt,m,⟨kd,wk,dn⟩,at_,ck,sv_,lt⟩:=t
 show aw _ _ c31a _ _ _
 show aw _ _ _ _ (timT N l nm sh (.agg (trnC (a,n,fr,tt,m,(kd,wk,dn),at_,ck,sv_,lt)))) (h++[.mk 0 140 1 [.own (N+1) d.length d.length],.mk d.length 144 12 (rows trnC d),mkD D,.raw lp rdy (timT N l nm sh .any) vs,e,f])
 refine Zav<|E' (ZaW (hl6 hn) ha6) pt<|E' (Zai lk cv gx rfl (nb' rfl) rfl ZiW (hs6 hn)) ptn<|Zar<|?_
 refine Zs4 (i:=N+3) gx (hs3 hn) fun n1 hn1 hlt1=>?_
 show aw _ _ c31b _ _ _
 refine Zap<|Zav<|Vw (Zac lk gx gt0)<|Vw (Zao lk gx Zob rfl)<|E' (ZdL (ZmF cv rfl) (hl7 hn) ha7) pt<|?_
 refine E' (Zdm (Zct lk gx rfl ZqP (nb' rfl)) lk gx (trn_len _) om rfl (hs1 hn)) pt ?_
 refine E' (Zai lk cv gx rfl (nb' rfl) rfl ZqQ (hs0 hn)) ptn<|Zar<|Zaz<|?_
 refine ZiD (i:=N+3) gx (hs3 hn) ?_
 refine⟨_,_,app62,?_,fun x hx=>?_,rfl,rfl,?_⟩
 ·rw[←hn0];simp
 ·have hm:n0=N+6:=by rw[←hn0];simp[hn]
  subst hm
  rcases List.mem_append.1 hx with hx | hx
  ·exact ltw om hlt x hx
  simp only[List.mem_cons,List.not_mem_nil,or_false] at hx
  rcases hx with rfl | rfl | rfl | rfl | rfl | rfl
  ·simp[Ent.lt,AV.ltL,AV.lt]
  ·simp[Ent.lt,Zlk,ZoM,AV.ltL,AV.lt]
  ·simp[Ent.lt,AV.ltL]
  ·exact hlt0 _ (by simp)
  ·exact hlt0 _ (by simp)
  exact hlt0 _ (by simp)
 unfold timJ;rw[Za5,Zbv,List.length_append];rfl
theorem sortT_b {h:AH}{N:Nat}{a:Ent}{l:AH}{v ty:Nat}{S:List Trn}(hn:h.length=N) (hl:S≠[]) (hz:S.length<4611686018427387904) :
  ACalls Tryz.prog 88 [.own (N+1) v S.length,.v (.func (.func 89) #[] #[])] (h++(a::.mk v ty 12 (rows trnC S)::l)) fun x h'=>x=.ret (.tup []) ∧ ∃ S',ordT S S'∧h'=h++(a::.mk v ty 12 (rows trnC S')::l):=by
 refine (sortT_a (hga (k:=1) hn rfl) hl hz).mono ?_
 rintro x h' ⟨rfl,S',h1,rfl⟩
 exact⟨rfl,S',h1,hs1 hn⟩
theorem gapB_pre {l:List Trn}{i:Nat}(h:i<l.length) (h0:0<i) (hg:l[i].1-(l[i-1]'(by omega)).1<172800):gapB l=true:=by
 obtain⟨i,rfl⟩ : ∃ i0,i=i0+1:=⟨i-1,by omega⟩
 exact Zst h hg
theorem gap_ok {S:List Trn}{i:Nat}(hi : ∀ j (h:j+1<S.length),j+1<i→172800≤S[j+1].1-S[j].1) (hl:S.length≤i):gapB S=false:=(ZkK S).2 fun j h=>hi j h om
theorem Zpm {h:AH}{lp N D n0:Nat}{o:Obj}{l:List Rul}{nm:ByteArray}{sh:Int}{vs:List Value}(hn:h.length=N) (hlt : ∀ e∈h,e.lt N=true) (hr0:ZdE l nm sh=0) (hn0:N+4=n0) :
  aw Tryz.prog n0 c31q (ZeT fr31.res (N+2) D fun x h' => ∃ z,h'=h++z∧x.lt N=true ∧ ∃ c,x=.ret c∧Wk c (.tup [.sl (Za8 l nm sh).1.length 3 false (rows timC (Za8 l nm sh).1),iv (Za8 l nm sh).2])) (timT N l nm sh .any)
   (h++[.mk 0 140 1 [.own (N+1) (Zbg l nm).length (Zbg l nm).length],.mk (Zbg l nm).length 144 12 (rows trnC (Zbg l nm)),mkD D,.gone]):=by
 obtain⟨g1,g2,g3,g4⟩:=Zgb hr0
 have hne:=turns_ne g2 g4
 have htl:=ZhR (nm:=nm) g2
 have htO : ∀ t∈Zbg l nm,Zbu t.2=0 ∧ -2592000000≤t.1∧t.1≤4320172800:=fun t ht=>Zkg g2 ht
 subst hn0
 show aw _ _ c31q _ _ _
 refine wr'<|Vw (Zac lk gx gt0)<|?_
 refine s_callE mp (sortT_b hn hne om) pt ?_
 rintro S hS
 have hSl:=hS.1.length_eq
 have hSO : ∀ t∈S,Zbu t.2=0 ∧ -2592000000≤t.1∧t.1≤4320172800:=fun t ht=>htO t (hS.1.mem_iff.1 ht)
 have hTV:=Zos (sh:=sh) hr0 hS.1 hS.2
 rw[←hSl]
 refine sn'<|wr'<|mv' lkn pt11<|Zar<|Zba (ALe.own0' (st':=3) (ty:=136) gt11 (hl4 hn) pt11 ha4)<|wr'<|mv' lki pt12<|sn'<|wr'<|?_
 refine Vw (Zac lk gx gt0)<|Vw (ZcZ lk)<|mw<|sn'<|Zam<|Zap<|?_
 refine w_lp (ι:=Nat) (fun (i:Nat)=>[(11,.own (N+4) i (outV sh 0 (S.take i)).length),(12,iv (svAt S i)),(34,iv (i:Int)),(6,.any),(7,.any),(13,.any),(14,.any)]++rn' 35 40) (fun (i:Nat)=>[(4,.mk i 136 3 (rows timC (outV sh 0 (S.take i))))]) (fun (i:Nat)=>i≤S.length ∧ ∀ j (h:j+1<S.length),j+1<i→172800≤S[j+1].1-S[j].1) (fun (i:Nat)=>S.length-i) (0) (by exact⟨Nat.zero_le _,fun j _ h=>by omega⟩) ?_
 rintro i hi1
 try simp only[sm',Nat.reduceAdd]
 obtain⟨hi1,hi2⟩:=hi1
 refine wr'<|Vw (Zbc lk lk)<|sn'<|Zam<|?_
 refine cd' lk (fun hc1=>?_) (fun hc1=>?_)
 ·have hi:i<S.length:=by omega
  obtain⟨hb0,hb1⟩:=hSO _ (List.getElem_mem hi)
  have hsv:=svAt_bd (i:=i) fun t ht=>(hSO t ht).1
  have hoff:=ZrZ (r:=S[i].2) g3 hsv
  have hol2:(outV sh 0 (S.take (i+1))).length=i+1:=by rw[Zge,List.length_take];omega
  have hol:(outV sh 0 (S.take i)).length=i:=by rw[Zge,List.length_take];omega
  refine Zaf<|Zag<|Zam<|Zap<|wr'<|mw<|?_
  refine V' (Zoj lk lk gx Zf1 (nb' rfl) ro om (by first | rfl | (simp;done) | omega)) pt ?_
  refine V' (v_ldOR lk gx Zf1 om rfl) pt ?_
  refine E' (ZaW (hl5 hn) ha5) pt<|mw<|E' (Zai lk cv gx rfl (nb' rfl) rfl ZiW (hs5 hn)) ptn<|sn'<|Zam<|Zam<|Zb2<|Dw (v_mv lk)<|Dw (ZbC lk lki)<|Dw (v_mv lk)<|?_
  refine dq' (t:=41) gt pt pt (fun hg41=>?_) (fun hg41=>?_)
  ·obtain⟨hb3,hb4⟩:=hSO _ (List.getElem_mem (show i-1<S.length by omega))
   refine d_do gt<|Dw (Zab lk)<|d_do gt<|Dw (Zac lk gx gt0)<|d_do gt<|Dw (Zac lk gx gt0)<|d_do gt<|Dw (v_mv lk)<|d_do gt<|?_
   refine D' (ZbB lk lki om om) pt ?_
   refine d_do gt ?_
   refine D' (Zoj (k:=i-1) lk lk gx Zf1 (nb' rfl) ro om (by first | rfl | (simp;done) | omega)) pt ?_
   refine d_do gt<|Dw (ZbK lk)<|d_do gt<|?_
   refine D' (v_ldOF lk gx Zf1 om (nb' rfl) gt0) pt ?_
   refine d_do gt ?_
   refine D' (ZbB lk lk om om) pt ?_
   refine d_do gt<|Dw (Zbc lk lki)<|Dw (Zak lk lk)<|ZbO<|?_
   refine Zcr ?_
   refine sn' ?_
   refine cd' lk (fun hc2=>?_) (fun hc2=>?_)
   ·have hG:gapB S=true:=gapB_pre hi om hc2
    refine wr'<|mw<|mw<|sn'<|Zaa<|Zah<|Zaq<|Zah<|Zah<|Zaq<|Zah<|?_
    refine ZdS gx (hs2 hn) ry ?_
    refine rtW' ?_
    rw[hTV,if_pos hG];exact Wk.tup (wkw Wk.nilF (wk1 rfl wk0))
   refine Zaf<|Zag<|Zam<|Zb2<|Dw (v_mv lk)<|Dw (Zab lk)<|Dw (Zac lk gx gt0)<|Dw (Zab lk)<|Dw (Zao lk gx ZiV rfl)<|Dw (v_mv lk)<|Dw (v_mv lk)<|?_
   refine Za2 mp (fun hE hX=>off_a g3 hsv) pt ?_
   refine D' (ZbB lk lk om om) pt ?_
   refine Dw (Zab lk)<|Dw (ZbK lk)<|Dw (Zac lk gx gt10)<|Dw (Zab lk)<|Dw (ZbK lk)<|Dw (Zac lk gx gt11)<|Dw (Zau (ZgE cv rfl cv rfl cv rfl))<|Zmh rfl rfl (hlk hn rfl) (l_lit (ZgD cv rfl)) pt ZmE<|ZbO<|?_
   refine Zny Zka ?_
   refine E' (Zdm (Zct lk gx rfl ZmD (nb' rfl)) lk gx (Zkk _) om rfl (hs4 hn)) pt ?_
   refine mw<|sn'<|Zav<|Vw (Zab lk)<|Vw (ZbK lk)<|Vw (Zac lk gx gt10)<|mw<|Zar<|Zaz<|Zag<|Zav<|?_
   refine V' (Zay lk lki om om) pt ?_
   refine mw<|Zar<|ZaB<|?_
   refine lU' (i+1) (by (try dsimp only);exact⟨by omega,fun j hj h=>by by_cases e:j+1=i;(subst e;(try simp only[Nat.add_sub_cancel] at hc2);omega);exact hi2 j hj om⟩) (by (try dsimp only);(try simp only[sm',Nat.reduceAdd]);exact bkE' 5 hn hlt (by repeat (first | exact wk0 | refine wka ?_ | refine wk1 rfl ?_ | refine wk1 (by first | rfl | exact ivx om | (rw[hol2,hol];done) | (rw[hol2,hol]) | (rw[Zh4 hi])) ?_)) (by rw[ZlO hi,Za5,Zbv];rfl))
  refine d_no gt pt<|d_no gt pt<|d_no gt pt<|d_no gt pt<|d_no gt pt<|d_no gt pt<|d_no gt pt<|d_no gt pt<|d_no gt pt<|d_no gt pt<|Dw (Zaj lk lkb)<|ZbO<|?_
  refine Zcr ?_
  refine sn'<|ZaO lk<|Zaf<|Zag<|Zam<|Zb2<|Dw (v_mv lk)<|Dw (Zab lk)<|Dw (Zac lk gx gt0)<|Dw (Zab lk)<|Dw (Zao lk gx ZiV rfl)<|Dw (v_mv lk)<|Dw (v_mv lk)<|?_
  refine Za2 mp (fun hE hX=>off_a g3 hsv) pt ?_
  refine D' (ZbB lk lk om om) pt ?_
  refine Dw (Zab lk)<|Dw (ZbK lk)<|Dw (Zac lk gx gt10)<|Dw (Zab lk)<|Dw (ZbK lk)<|Dw (Zac lk gx gt11)<|Dw (Zau (ZgE cv rfl cv rfl cv rfl))<|Zmh rfl rfl (hlk hn rfl) (l_lit (ZgD cv rfl)) pt ZmE<|ZbO<|?_
  refine Zny Zka ?_
  refine E' (Zdm (Zct lk gx rfl ZmD (nb' rfl)) lk gx (Zkk _) om rfl (hs4 hn)) pt ?_
  refine mw<|sn'<|Zav<|Vw (Zab lk)<|Vw (ZbK lk)<|Vw (Zac lk gx gt10)<|mw<|Zar<|Zaz<|Zag<|Zav<|?_
  refine V' (Zay lk lki om om) pt ?_
  refine mw<|Zar<|ZaB<|?_
  refine lU' (i+1) (by (try dsimp only);exact⟨by omega,fun j hj h=>by by_cases e:j+1=i;(subst e;(try simp only[Nat.add_sub_cancel] at hc2);omega);exact hi2 j hj om⟩) (by (try dsimp only);(try simp only[sm',Nat.reduceAdd]);exact bkE' 5 hn hlt (by repeat (first | exact wk0 | refine wka ?_ | refine wk1 rfl ?_ | refine wk1 (by first | rfl | exact ivx om | (rw[hol2,hol];done) | (rw[hol2,hol]) | (rw[Zh4 hi])) ?_)) (by rw[ZlO hi,Za5,Zbv];rfl))
 have hie:i=S.length:=by omega
 subst hie
 rw[List.take_length]
 have hG:gapB S=false:=gap_ok hi2 (Nat.le_refl _)
 rw[if_neg (by rw[hG];simp)] at hTV
 have hol:=Zge S sh 0
 refine ZaM<|ZaD<|ZaD<|Zbb<|Zag<|wr'<|mw<|Vw (ZcZ lk)<|Vw (ZbC lk lki)<|sn'<|Zam<|?_
 refine cd' lk (fun hc3=>?_) (fun hc3=>?_)
 ·refine wr'<|mw<|mw<|sn'<|Zaa<|Zah<|?_
  refine ZdS gx (hs2 hn) ry ?_
  refine rtW' ?_
  rw[hTV,if_pos om];exact Wk.tup (wkw Wk.nilF (wk1 rfl wk0))
 refine Zaf ?_
 refine Zba (ALe.iceR gx gt11 (List.take_of_length_le (by rw[Zkk];exact Nat.le_refl _)) (by rw[Zkk];exact Nat.le_refl _) pt11 (hs4 hn)) ?_
 refine wr'<|mw<|mw<|mw<|sn'<|Zam<|Zaa<|Zah<|?_
 refine ZdS gx (hs2 hn) ry ?_
 refine rtW' ?_
 rw[hTV,if_neg om];exact Wk.tup (wkw Wk.full (wk1 rfl wk0))
theorem Zpn {h:AH}{lp N D:Nat}{rdy bsy fin:Obj}{l:List Rul}{nm:ByteArray}{sh:Int}{vs:List Value}(hn:h.length=N) (hlt : ∀ e∈h,e.lt N=true) (hr0:ZdE l nm sh=0) (hY:timK Tryz.prog lp N D rdy bsy fin l nm sh vs) {R:AE→AH→Prop}
    (hR:R=fun x h' => ∃ z,h'=h++z∧x.lt N=true ∧ ∃ c,x=.ret c∧Wk c (.tup [.sl (Za8 l nm sh).1.length 3 false (rows timC (Za8 l nm sh).1),iv (Za8 l nm sh).2])) :
    ACalls Tryz.prog 159 (.v (.func (.yield lp) #[] #[])::[.rp [.sl l.length 11 false (rows rulC l)],.rp [sv nm]]) (timH h D lp N rdy (timT N l nm sh .any) vs []) fun r h3=>(∃ c,r=.ret c) ∧
      ((h3[N+2+1]?=some (.raw lp rdy (timT N l nm sh .any) vs) ∧ ∀ n0,(h3.set (N+2+1) .gone).length=n0→(∀ e∈h3.set (N+2+1) .gone,e.lt n0=true)→aw Tryz.prog n0 fr31.post (ZeT fr31.res (N+2) D R) (timT N l nm sh .any) (h3.set (N+2+1) .gone)) ∨
       (h3[N+2+1]?=some (.raw lp fin (timT N l nm sh .any) vs)∧ZeT fr31.res (N+2) D R .ret (timT N l nm sh .any) (h3.set (N+2+1) .gone))):=by
  obtain⟨g1,g2,g3,g4⟩:=Zgb hr0
  have htl:=ZhR (nm:=nm) g2
  refine (turns1_a (H:=timH h D lp N rdy (timT N l nm sh .any) vs) g2 g1 (fun d=>hl4 hn) (timH_lt hlt) (fun d t e f hd=>?_)).mono ?_
  · rw[Zrg,Zrg]
    exact ZmV hn hlt hY om
  rintro x h3 ⟨rfl,rfl⟩
  refine⟨⟨_,rfl⟩,.inl ⟨hga (k:=3) hn rfl,fun n0 hn0 _=>?_⟩⟩
  have hs:(timH h D lp N rdy (timT N l nm sh .any) vs (Zbg l nm)).set (N+2+1) .gone=h++[.mk 0 140 1 [.own (N+1) (Zbg l nm).length (Zbg l nm).length],.mk (Zbg l nm).length 144 12 (rows trnC (Zbg l nm)),mkD D,.gone]:=hs3 hn
  rw[hs] at hn0 ⊢
  subst hR
  exact Zpm (o:=rdy) (lp:=lp) (vs:=vs) hn hlt hr0 ((hl4 hn).symm.trans hn0)
theorem ZhW {l:List Rul}{nm:ByteArray}{sh:Int}{h:AH}(hok:okRs l) (hl:l.length≤9223372036854775807) :
  Ac 31 [.sl l.length 11 false (rows rulC l),sv nm,iv sh] h (.tup [.sl (Za8 l nm sh).1.length 3 false (rows timC (Za8 l nm sh).1),iv (Za8 l nm sh).2]):=by
 refine ACalls.weak (tR' k31 fun N hn hlt hlA hbd=>?_)
 show aw _ _ c31p _ _ _
 show aw _ _ _ _ [.sl l.length 11 false (rows rulC l),sv nm,iv sh,.any,.any,.any,.any,.any,.any,.any,.any,.any,.any,.any,.any,.any,.any,.any,.any,.any,.any,.any,.any,.any,.any,.any,.any,.any,.any,.any,.any,.any,.any,.any,.any,.any,.any,.any,.any,.any,.any,.any,.any,.any,.any,.any,.any,.any,.any,.any,.any,.any,.any,.any,.any,.any,.any,.any,.any,.any,.any,.any,.any,.any,.any,.any,.any,.any,.any,.any,.any,.any,.any,.any,.any,.any,.any,.any,.any] _
 refine wr'<|mw<|mw<|sn'<|wr'<|mw<|mw<|mw<|Zad mp (ready_a hok hl) pt<|mw<|Zar<|?_
 refine Zag<|wr'<|mw<|Vw (ZaX lk lki)<|sn'<|Zam<|?_
 refine cd' lk (fun hc1=>?_) (fun hc1=>?_)
 ·refine wr'<|mw<|mw<|mw<|sn'<|Zaa<|Zah<|?_
  refine Zie ry ?_
  refine rtW' ?_
  rw[Zln hc1];exact Wk.tup (wkw Wk.nilF (wk1 rfl wk0))
 refine Zaf<|Zag<|wr'<|E' (ZaW (hl0 hn) ha0) pt<|Zar<|?_
 refine Zba (ALe.own0Cell (st':=12) (ty:=144) gx gt0 (hl1 hn) pt0 (Eq.trans (congrArg (fun z=>List.set z _ _) ha1) (hs0 hn))) ?_
 refine wr'<|mw<|mw<|Zad mp (turns_a) pt<|sn'<|Zaf<|?_
 refine ZrO (T1:=timT N l nm sh .any) (ALe.same wA' rfl) rfl (hl2 hn) fun lp D rdy bsy fin vs hle hlT hY=>?_
 have hgo:=Zpn (D:=D) hn hlt (Decidable.of_not_not hc1) hY rfl
 rw[show (h++[Ent.mk 0 140 1 [.own (N+1) 0 0],Ent.mk 0 144 12 []]++[mkD D,Ent.raw lp rdy (timT N l nm sh .any) vs]:AH)=timH h D lp N rdy (timT N l nm sh .any) vs [] by simp[rows]]
 exact hgo
end Go.Proofs.YtlekejpogddndaaGreatDoor
end
section
namespace Go.Proofs.YtlekejpogddndaaGreatDoor
open Go.Ab
abbrev intC (n:Int):List AV:=[iv n]
theorem ZdG {n:Nat}(l:List Int):AV.ltL n (rows intC l)=true:=ZdD (fun _ _=>rfl) l
theorem ZdU : ∀ x,(intC x).length=1:=fun _=>rfl
theorem ZkH (l:List Int):(rows intC l).length=l.length*1:=Za4 ZdU l
end Go.Proofs.YtlekejpogddndaaGreatDoor
end
section
namespace Go.Proofs.YtlekejpogddndaaGreatDoor
open Go.Ab Go.RowKit Civ
attribute [local simp] Zbh Zbr Zbo Zbq Zb5 ZdG
section
theorem Ztj {a0 a1 a2:AV}{l:List AV}:(a0::a1::a2::l).take 3=[a0,a1,a2]:=rfl
theorem Zqk {a0 a1 a2 a3 a4 a5 a6 a7 a8 a9:AV}{l:List AV}:(a0::a1::a2::a3::a4::a5::a6::a7::a8::a9::l).take 10=[a0,a1,a2,a3,a4,a5,a6,a7,a8,a9]:=rfl
theorem ZnZ {a0 a1 a2 a3 a4 a5 a6 a7 a8 a9 c0 c1 c2 c3 c4 c5 c6 c7 c8 c9:AV}{l:List AV}:setCells (a0::a1::a2::a3::a4::a5::a6::a7::a8::a9::l) 0 [c0,c1,c2,c3,c4,c5,c6,c7,c8,c9]=c0::c1::c2::c3::c4::c5::c6::c7::c8::c9::l:=rfl
theorem Zql {a0 a1 a2 a3 a4 a5 a6 a7:AV}{l:List AV}:((a0::a1::a2::a3::a4::a5::a6::a7::l).drop 5).take 3=[a5,a6,a7]:=rfl
theorem Zhp {τ:Operand→AV}{y0:Operand}{x0_0:AV}(h0:Zat (τ y0)=some [x0_0]) (l0:[x0_0].all leaf=true):Zas τ [(0,1,y0)] [(.v (.int .i64 0))]=some [x0_0]:=by
 simp only[Zas,h0,l0]
 rfl
theorem Zmw {a0:AV}{l:List AV}:(a0::l).take 1=[a0]:=rfl
theorem Zqm {a0 a1:AV}{l:List AV}:((a0::a1::l).drop 0).take 2=[a0,a1]:=rfl
theorem Zqo {a0 c0:AV}{l:List AV}:setCells (a0::l) 0 [c0]=c0::l:=rfl
theorem Zg6 {a0 a1 a2:AV}{l:List AV}:((a0::a1::a2::l).drop 0).take 3=[a0,a1,a2]:=rfl
theorem Zk3 {τ:Operand→AV}{y0 y1 y2:Operand}{x0_0 x1_0 x2_0:AV}(h0:Zat (τ y0)=some [x0_0]) (l0:[x0_0].all leaf=true) (h1:Zat (τ y1)=some [x1_0]) (l1:[x1_0].all leaf=true) (h2:Zat (τ y2)=some [x2_0]) (l2:[x2_0].all leaf=true):Zas τ [(0,1,y0),(1,1,y1),(2,1,y2)] [(.v (.int .i64 0)),(.v (.int .i64 0)),(.v (.string ⟨#[]⟩))]=some [x0_0,x1_0,x2_0]:=by
 simp only[Zas,h0,l0,h1,l1,h2,l2]
 rfl
theorem Zqn {a0 a1 a2 c0 c1 c2:AV}{l:List AV}:setCells (a0::a1::a2::l) 0 [c0,c1,c2]=c0::c1::c2::l:=rfl
end
def c280:AC:=(Sr [Oo 2 (.box 53 2 (.tmp 0)),Mb 3 false] (Sr [Fa 4 0 2,Ld 5 4,Ld 6 1,Bn 7 .eql 5 6,Mv 3 7] .ret))
theorem k280:ZaA Tryz.prog 280=some ⟨c280,[(.tmp 3)],8⟩:=by kernel_rfl
def c215:AC:=(Sr [Oo 2 (.box 26 3 (.tmp 0)),Oo 3 (.box 9 1 (.tmp 1)),Mc 4 0] (Sr [Fa 5 1 2,Ld 6 5,Oo 7 (.mkfn 280 [(.tmp 3)]),Cl 8 218 [(.tmp 6),(.tmp 7)],Mv 4 8] .ret))
theorem k215:ZaA Tryz.prog 215=some ⟨c215,[(.tmp 4)],9⟩:=by kernel_rfl
def c219:AC:=(Sr [Oo 2 (.box 129 2 (.tmp 0)),Mb 3 false] (Sr [Fa 4 1 2,Ld 5 4,Ld 6 1,Bn 7 .eql 5 6,Mv 3 7] .ret))
theorem k219:ZaA Tryz.prog 219=some ⟨c219,[(.tmp 3)],8⟩:=by kernel_rfl
def c139:AC:=(Sr [Oo 2 (.box 26 3 (.tmp 0)),Oo 3 (.box 9 1 (.tmp 1)),Mc 4 0] (Sr [Fa 6 2 2,Ld 7 6,Oo 8 (.mkfn 219 [(.tmp 3)]),Cl 9 171 [(.tmp 7),(.tmp 8)],Mv 5 9] (.seq (Sr [Mv 10 5,Bc 11 .geq 10 0] (Cd 11 (.reg [Fa 12 2 2,Ld 13 12,Mv 14 5,Oo 15 (.ia 2 (.tmp 13) (.tmp 14)),Fa 16 0 15,Ld 17 16,Sc 3 17]) .skip)) (Sr [Oo 18 (.load true 3 (.tmp 2)),Ld 19 3,Cl 20 215 [(.tmp 18),(.tmp 19)],Mv 4 20] .ret))))
theorem k139:ZaA Tryz.prog 139=some ⟨c139,[(.tmp 4)],21⟩:=by kernel_rfl
def c214:AC:=(Sr [Oo 2 (.box 129 2 (.tmp 0)),Mb 3 false] (Sr [Oo 4 (.load true 3 (.tmp 1)),Fa 5 0 2,Ld 6 5,Cl 7 215 [(.tmp 4),(.tmp 6)],Bc 8 .lss 7 0,Mv 3 8] .ret))
theorem k214:ZaA Tryz.prog 214=some ⟨c214,[(.tmp 3)],9⟩:=by kernel_rfl
def c216:AC:=(Sr [Oo 2 (.box 36 11 (.tmp 0)),Mb 3 false] (Sr [Fa 4 0 2,Ld 5 4,Fa 6 1 1,Ld 7 6,Bn 8 .eql 5 7,Mv 3 8] .ret))
theorem k216:ZaA Tryz.prog 216=some ⟨c216,[(.tmp 3)],9⟩:=by kernel_rfl
def c131:AC:=(Sr [Oo 1 (.box 53 2 (.tmp 0)),Oo 2 (.mv (.const (.slice none 0 0)))] (Sr [Oo 3 (.mv (.const (.slice none 0 0)))] (.seq (Sr [Fa 7 1 1,Ld 8 7,Oo 9 (.len false (.tmp 8)),Mc 10 0] (.block 0 (.loop (Sr [Bn 11 .lss 10 9] (.seq (Cd 11 .skip (.exit 0)) (.seq (.block 1 (Sr [Oo 12 (.ia 10 (.tmp 8) (.tmp 10)),Oo 13 (.load true 10 (.tmp 12)),Oo 5 (.new 63 10 [(iv 0),Ss,(iv 0),Ss,(.v (.bool false)),(iv 0),(iv 0),(iv 0),(iv 0),(iv 0)]),⟨none,none,(.store 10 (.tmp 5) (.tmp 13))⟩] (.seq (Sr [Fa 14 4 5,Ld 15 14] (Cd 15 (.exit 0) .skip)) (Sd [Fa 16 5 5,Fa 17 0 16,Oo 18 (.load true 3 (.tmp 17)),Cl 19 98 [(.tmp 18)],Bc 20 .mul 19 86400,Fa 21 5 5,Fa 22 3 21,Ld 23 22,Bn 24 .add 20 23,Mv 6 24] (.seq (Sr [Fa 25 5 5,Fa 26 4 25,Ld 27 26,Bc 28 .eql 27 2] (Cd 28 (.reg [Mv 29 6,Fa 30 0 5,Ld 31 30,Bn 32 .sub 29 31,Mv 6 32]) .skip)) (.reg [Mv 33 3,Mv 34 6,Oo 35 (.lit 3 1 1 [(iv 0)] [(0,(1,(.tmp 34)))]),Oo 36 (.app 3 1 8 (.tmp 33) (.tmp 35)),Mv 3 36])))))) (.reg [Bc 37 .add 10 1,Mv 10 37]))))))) (Sr [Mv 38 3,Mv 2 38] .ret))))
theorem k131:ZaA Tryz.prog 131=some ⟨c131,[(.tmp 2)],39⟩:=by kernel_rfl
def c138:AC:=(Sr [Mb 2 false] (.seq (Sr [Mc 3 1] (.block 0 (.loop (.seq (Sr [Mv 4 3,Mv 5 0,Oo 6 (.len false (.tmp 5)),Bn 7 .lss 4 6] (Cd 7 .skip (.exit 0))) (.seq (.block 1 (Sd [Mv 10 0,Mv 11 3,Oo 12 (.ia 1 (.tmp 10) (.tmp 11)),Ld 13 12,Mv 14 0,Mv 15 3,Bc 16 .sub 15 1,Oo 17 (.ia 1 (.tmp 14) (.tmp 16)),Ld 18 17,Bn 19 .leq 13 18] (Cd 19 (Sr [Mb 2 false] .ret) .skip))) (.reg [Mv 8 3,Bc 9 .add 8 1,Mv 3 9])))))) (Sr [Mb 2 true] .ret)))
theorem k138:ZaA Tryz.prog 138=some ⟨c138,[(.tmp 2)],20⟩:=by kernel_rfl
def c137:AC:=(Sr [Oo 1 (.box 53 2 (.tmp 0)),Mb 2 false] (Sr [Oo 3 (.load true 2 (.tmp 1)),Cl 4 131 [(.tmp 3)],Cl 5 138 [(.tmp 4)],Oo 6 (.un .not (.tmp 5)),Mv 2 6] .ret))
theorem k137:ZaA Tryz.prog 137=some ⟨c137,[(.tmp 2)],7⟩:=by kernel_rfl
def c135:AC:=(Sr [Oo 1 (.box 26 3 (.tmp 0)),Oo 2 (.mv (.const .nilFunc))] (Sr [Oo 3 (.mkfn 217 [(.tmp 1)]),Mv 2 3] .ret))
theorem k135:ZaA Tryz.prog 135=some ⟨c135,[(.tmp 2)],4⟩:=by kernel_rfl
def c281:AC:=(Sr [Ms 6] (Sr [Mv 11 0,Oo 12 (.call (.func 320) [(.tmp 11),(.const (.string ⟨#[47]⟩))]),Mv 10 12,Ex 13 10 0,Ex 14 10 1,Ex 15 10 2,Mv 7 13,Mv 8 14,Mv 9 15] (.seq (.block 0 (Sr [Mv 17 9,Oo 18 (.un .not (.tmp 17)),Mv 16 18] (Cd 16 (Sr [Mv 19 0,Mv 20 1,Oo 21 (.call (.func 321) [(.tmp 19),(.const (.string ⟨#[37,115]⟩)),(.tmp 20),(Ci 1)]),Mv 6 21] .ret) (Sr [Mv 23 2,Bc 24 .gtr 23 0,Mv 22 24] (Cd 22 (Sr [Mv 25 8,Mv 6 25] .ret) .skip))))) (Sr [Mv 26 7,Mv 6 26] .ret))))
theorem k281:ZaA Tryz.prog 281=some ⟨c281,[(.tmp 6)],27⟩:=by kernel_rfl
def c220:AC:=(Sr [Oo 2 (.box 63 10 (.tmp 0)),Oo 3 (.box 136 3 (.tmp 1)),Oo 4 (.new 29 3 [(iv 0),(iv 0),Ss])] (.seq (.drw [Fa 5 0 2,Ld 6 5,Fa 7 1 3,Ld 8 7,Bn 9 .add 6 8,Fa 10 1 3,Ld 11 10,Fa 12 3 2,Ld 13 12,Fa 14 2 3,Ld 15 14,Fa 16 1 3,Ld 17 16,Cl 18 281 [(.tmp 13),(.tmp 15),(.tmp 17)],Oo 19 (.build [(iv 0),(iv 0),Ss] [(0,(1,(.tmp 9))),(1,(1,(.tmp 11))),(2,(1,(.tmp 18)))])] [false] [⟨none,none,(.store 3 (.tmp 4) (.tmp 19))⟩]) .ret))
theorem k220:ZaA Tryz.prog 220=some ⟨c220,[(.cell 4 true 3)],20⟩:=by kernel_rfl
def c222:AC:=(Sr [Oo 2 (.box 121 4 (.tmp 0)),Mb 3 false] (Sr [Fa 4 0 2,Ld 5 4,Ld 6 1,Bn 7 .geq 5 6,Mv 3 7] .ret))
theorem k222:ZaA Tryz.prog 222=some ⟨c222,[(.tmp 3)],8⟩:=by kernel_rfl
def c143:AC:=(Sr [Oo 3 (.box 3 1 (.tmp 1)),Oo 4 (.mv (.const (.slice none 0 0)))] (Sr [Mv 6 0,Oo 7 (.mkfn 222 [(.tmp 3)]),Cl 8 221 [(.tmp 6),(.tmp 7)],Mv 5 8] (.seq (Sr [Mv 9 5,Bc 10 .lss 9 0] (Cd 10 (Sr [Mv 11 0,Mv 4 11] .ret) .skip)) (Sr [Mv 12 0,Mv 13 5,Oo 14 (.slc 4 (.tmp 12) none (some (.tmp 13)) none),Mv 4 14] .ret))))
theorem k143:ZaA Tryz.prog 143=some ⟨c143,[(.tmp 4)],15⟩:=by kernel_rfl
theorem place1_a {nm:ByteArray}{z:Zon}{h:AH}:Ac 280 [.agg (zonC z),.rp [sv nm]] h (bv (decide (z.1=nm))):=by
 refine tI' k280 fun N hn hlt hlA hbd=>?_
 simp only[tb'] at hbd ⊢
 refine wr'<|E' (Zbd cv rfl (hl0 hn) ha0) pt<|mw<|sn'<|wr'<|Vw (Zab lk)<|Vw (Zac lk gx gt0)<|Vw (ZaC lk gt)<|Vw (Zcp lk lk)<|mw<|Zar<|?_
 exact Zag<|Zaa<|Zae rz<|rT' rfl
def Zig (zs:List Zon) (nm:ByteArray):Int:=idxV (fun z:Zon=>decide (z.1=nm)) zs
theorem Zm9 {a:List Rul}{z:List Zon}{k:List Lnk}{nm:ByteArray}{h:AH}(hz:z.length≤9223372036854775807):Ac 215 [.agg [.sl a.length 11 false (rows rulC a),.sl z.length 2 false (rows zonC z),.sl k.length 2 false (rows lnkC k)],sv nm] h (iv (Zig z nm)):=by
 refine tI' k215 fun N hn hlt hlA hbd=>?_
 simp only[tb'] at hbd ⊢
 refine wr'<|E' (Zbd cv rfl (hl0 hn) ha0) pt<|E' (Zbd cv rfl (hl1 hn) ha1) pt<|mw<|Zar<|?_
 refine Zba (ALe.icePtr gx gt3 (by simp) pt3 (hs1 hn)) ?_
 refine wr'<|Vw (Zab lk)<|Vw (Zac lk gx gt1)<|Vw (ZfZ mp)<|?_
 refine Zad mp (ixZonC_a (p:=fun z=>decide (z.1=nm)) (fun c _ _=>place1_a) hz) pt ?_
 exact mw<|sn'<|Zaa<|Zae rz<|rT' rfl
theorem miss1_a {a:List Rul}{z:List Zon}{k:List Lnk}{l:Lnk}{h:AH}(hz:z.length≤9223372036854775807):Ac 214 [.agg (lnkC l),.rp [.sl a.length 11 false (rows rulC a),.sl z.length 2 false (rows zonC z),.sl k.length 2 false (rows lnkC k)]] h (bv (decide (Zig z l.1<0))):=by
 refine tI' k214 fun N hn hlt hlA hbd=>?_
 simp only[tb'] at hbd ⊢
 refine wr'<|E' (Zbd cv rfl (hl0 hn) ha0) pt<|mw<|sn'<|wr'<|Vw (ZaI lk Ztj rfl)<|Vw (Zab lk)<|Vw (Zac lk gx gt0)<|Zad mp (Zm9 hz) pt<|Vw (Zbc lk lki)<|mw<|?_
 exact sn'<|Zaa<|Zae rz<|rT' rfl
theorem Znw {x:Era}{last:Bool}(h:eraX x last=0):(xRl x≠⟨#[]⟩→Zcu (xRl x)=true)∧ZbL (xFm x)=true∧(-64800≤xSh x∧xSh x≤64800)∧(0≤xSv x∧xSv x≤10800)∧(xRl x≠⟨#[]⟩→xSv x=0)∧xOp x=last ∧
  (xOp x=false→Zbe x.2.2.2.2.2.1.1 x.2.2.2.2.2.1.2.1 x.2.2.2.2.2.1.2.2=true∧0≤x.2.2.2.2.2.2.1∧x.2.2.2.2.2.2.1≤172800):=by
 unfold eraX eraE at h
 split at h
 ·cases h
 rename_i h1
 split at h
 ·cases h
 rename_i h2
 split at h
 ·cases h
 rename_i h3
 split at h
 ·cases h
 rename_i h4
 have p1:xRl x≠⟨#[]⟩→Zcu (xRl x)=true:=fun hn=>Decidable.of_not_not fun e=>h1 (.inl ⟨hn,e⟩)
 have p2:ZbL (xFm x)=true:=Decidable.of_not_not fun e=>h1 (.inr e)
 have p3:=ZbA.1 (Decidable.of_not_not fun e=>h2 (.inl e))
 have p4:=ZbA.1 (Decidable.of_not_not fun e=>h2 (.inr e))
 have p5:xRl x≠⟨#[]⟩→xSv x=0:=fun hn=>Decidable.of_not_not fun e=>h3 ⟨hn,e⟩
 refine⟨p1,p2,p3,p4,p5,Decidable.of_not_not h4,fun ho=>?_⟩
 rw[if_neg (by rw[show x.2.2.2.2.1=false from ho];simp)] at h
 split at h
 ·cases h
 rename_i h5
 split at h
 ·cases h
 rename_i h6
 exact⟨Decidable.of_not_not h5,ZbA.1 (Decidable.of_not_not h6)⟩
theorem Zmc : ∀ {l:List Era},Zgj l=0 → ∀ k (h:k<l.length),eraX l[k] (decide (k+1=l.length))=0
 | [],_,k,h=>by simp at h
 | x::l,he,k,h=>by
  rw[Zgj] at he
  split at he
  ·rename_i h1;exact absurd he h1
  rename_i h1
  cases k with
  | zero =>
   have h2:=Decidable.of_not_not h1
   have e:l.isEmpty=decide (0+1=(x::l).length):=by rw[Bool.eq_iff_iff,List.isEmpty_iff,decide_eq_true_iff,List.length_cons];cases l <;> simp
   rw[←e];exact h2
  | succ k =>
   have:=Zmc he k (by simpa using h)
   simpa using this
structure okZ (es:List Era):Prop where
 ne:es≠[]
 fm : ∀ x∈es,ZbL (xFm x)=true∧(-64800≤xSh x∧xSh x≤64800)∧(0≤xSv x∧xSv x≤10800)∧(xRl x≠⟨#[]⟩→xSv x=0)
 op : ∀ k (h:k<es.length),xOp es[k]=decide (k+1=es.length)
 un : ∀ k (h:k<es.length),k+1<es.length→Zbe es[k].2.2.2.2.2.1.1 es[k].2.2.2.2.2.1.2.1 es[k].2.2.2.2.2.1.2.2=true∧0≤es[k].2.2.2.2.2.2.1∧es[k].2.2.2.2.2.2.1≤172800
 len:es.length≤8
theorem okZ_of {z:Zon}(h:ZeN z=0) (hl:z.2.length≤8):okZ z.2:=by
 unfold ZeN at h
 split at h
 ·cases h
 rename_i h1
 have hne:z.2≠[]:=fun e=>h1 (.inr (by rw[e];rfl))
 have hg:=Zmc h
 refine⟨hne,fun x hx=>?_,fun k hk=>(Znw (hg k hk)).2.2.2.2.2.1,fun k hk hk2=>?_,hl⟩
 ·obtain⟨k,hk,rfl⟩:=List.getElem_of_mem hx
  obtain⟨_,q2,q3,q4,q5,_⟩:=Znw (hg k hk)
  exact⟨q2,q3,q4,q5⟩
 obtain⟨_,_,_,_,_,q6,q7⟩:=Znw (hg k hk)
 exact q7 (by rw[q6];simp;omega)
theorem endV_bd {x:Era}(h1:Zbe x.2.2.2.2.2.1.1 x.2.2.2.2.2.1.2.1 x.2.2.2.2.2.1.2.2=true) (h2:0≤x.2.2.2.2.2.2.1∧x.2.2.2.2.2.2.1≤172800) (h3 : -64800≤xSh x∧xSh x≤64800) : -100000000000≤endV x∧endV x≤300000000000:=by
 have:=ZoI h1
 unfold endV
 split <;> omega
theorem ZkQ {α:Type}{l:List α}{k:Nat}(h:k+1<l.length):l.dropLast.take (k+1)=l.dropLast.take k++[l[k]]:=by
 have hk:k<l.dropLast.length:=by simp;omega
 rw[List.take_succ_eq_append_getElem hk]
 congr 2
 simp
theorem Zmd {es:List Era}{k:Nat}(h:k+1<es.length):(Zb1 es).take (k+1)=(Zb1 es).take k++[endV es[k]]:=by
 unfold Zb1
 rw[←List.map_take,←List.map_take,ZkQ h,List.map_append,List.map_cons,List.map_nil]
theorem ZsH {nm:ByteArray}{es:List Era}{h:AH}(hz:okZ es):Ac 131 [.agg [sv nm,.sl es.length 10 false (rows eraC es)]] h (.sl (Zb1 es).length 1 false (rows intC (Zb1 es))):=by
 have hlen:=hz.len
 have hne:=List.length_pos_iff.2 hz.ne
 have hel:=ZhL es
 refine tW' k131 fun N hn hlt hlA hbd=>?_
 simp only[tb'] at hbd ⊢
 refine wr'<|E' (Zbd (cvl lk0 rfl) rfl (hl0 hn) ha0) pt1<|mv' lkn pt2<|sn'<|wr'<|mv' lkn pt3<|Zar<|Zba (ALe.own0' (st':=1) (ty:=3) gt3 (hl1 hn) pt3 ha1)<|Zam<|wr'<|?_
 refine Vw (Zab lk)<|Vw (Zac lk gx gt1)<|Vw (ZaL lk)<|mw<|sn'<|Zap<|?_
 refine w_lp (ι:=Nat) (fun (k:Nat)=>[(3,.own (N+1) k k),(10,iv (k:Int)),(5,.any),(6,.any)]++rn' 11 27) (fun (k:Nat)=>[(1,.mk k 3 1 (rows intC ((Zb1 es).take k)))]) (fun (k:Nat)=>k<es.length) (fun (k:Nat)=>es.length-k) (0) (by exact hne) ?_
 rintro k hi1
 try simp only[sm',Nat.reduceAdd]
 replace hi1:k<es.length:=hi1
 refine wr'<|Vw (Zbc lk lk)<|sn'<|Zam<|?_
 refine ZdW lk (by exact decide_eq_true om) ?_
 refine Zaf<|Zag<|Zam<|Zap<|wr'<|?_
 refine V' (ZaU lk lk ZcM (nb' rfl) ro om ro rfl) pt ?_
 refine Vw (ZaI lk Zqk rfl)<|E' (ZaW (hl2 hn) ha2) pt<|E' (Zai lk cv gx rfl (nb' rfl) rfl ZnZ (hs2 hn)) ptn<|sn'<|Zam<|wr'<|Vw (Zab lk)<|Vw (Zac lk gx gt4)<|sn'<|?_
 have hop:=hz.op k hi1
 have htl:((Zb1 es).take k).length=k:=by rw[List.length_take,hel];omega
 refine cd' lk (fun hc2=>?_) (fun hc2=>?_)
 ·rw[show es[k].2.2.2.2.1=decide (k+1=es.length) from hop] at hc2
  have hke:k+1=es.length:=of_decide_eq_true hc2
  refine ZaM<|ZaD<|x_pas (Nat.ne_of_beq_eq_false rfl)<|ZaD<|ZaD<|Zbb<|?_
  refine Zba (ALe.iceR gx gt3 (List.take_of_length_le (by rw[ZkH,htl];omega)) (by rw[ZkH,htl];omega) pt3 (hs1 hn)) ?_
  refine wr'<|mw<|mw<|sn'<|Zaa<|Zae rz<|rtW'<|?_
  rw[show k=(Zb1 es).length by omega,List.take_length];exact Wk.full
 rw[show es[k].2.2.2.2.1=decide (k+1=es.length) from hop] at hc2
 have hke:k+1<es.length:=by have:=of_decide_eq_false hc2;omega
 obtain⟨hd,ha1,ha2⟩:=hz.un k hi1 hke
 have hsh : -64800≤es[k].1∧es[k].1≤64800:=(hz.fm _ (List.getElem_mem hi1)).2.1
 have hnb:=ZoI hd
 have hdi:=Zcn.1 hd
 have hml:=Zd1 es[k].2.2.2.2.2.1.1 es[k].2.2.2.2.2.1.2.1
 refine Zaf<|Zag<|Zam<|Zb2<|Dw (Zab lk)<|Dw (ZbK lk)<|Dw (Zao lk gx Zql rfl)<|?_
 refine Za2 mp (fun hE hX=>ZhH om om om om om om) pt ?_
 refine D' (Zfs lk lki om om) pt ?_
 refine Dw (Zab lk)<|Dw (ZbK lk)<|Dw (Zac lk gx gt8)<|?_
 refine D' (Zay lk lk om om) pt ?_
 refine Dw (v_mv lk)<|ZbO<|?_
 refine Zcr ?_
 refine sn'<|Zam<|wr'<|Vw (Zab lk)<|Vw (ZbK lk)<|Vw (Zac lk gx gt9)<|Vw (ZaQ lk lki)<|sn'<|?_
 refine cd' lk (fun hc3=>?_) (fun hc3=>?_)
 ·have hev:endV es[k]=num es[k].2.2.2.2.2.1.1 es[k].2.2.2.2.2.1.2.1 es[k].2.2.2.2.2.1.2.2*86400+es[k].2.2.2.2.2.2.1-es[k].1:=by unfold endV;rw[if_pos hc3]
  refine Zav<|mw<|Vw (Zab lk)<|Vw (Zac lk gx gt0)<|?_
  refine V' (ZbB lk lk om om) pt ?_
  refine mw<|sn'<|Zav<|mw<|mw<|E' (ZdL (Zhp cv rfl) (hl3 hn) ha3) pt<|?_
  refine E' (Zdm (Zct lk gx rfl Zmw (nb' rfl)) lk gx ((ZkH _).trans (by rw[htl])) om rfl (hs1 hn)) pt ?_
  refine mw<|Zar<|Zaz<|Zag<|Zav<|?_
  refine V' (Zay lk lki om om) pt ?_
  refine mw<|Zar<|ZaB<|?_
  refine lU' (k+1) (by (try dsimp only);omega) (by (try dsimp only);(try simp only[sm',Nat.reduceAdd]);exact bk' 2 hn hlt (by rw[Zmd hke,hev,Za5,Zbv];rfl))
 have hev:endV es[k]=num es[k].2.2.2.2.2.1.1 es[k].2.2.2.2.2.1.2.1 es[k].2.2.2.2.2.1.2.2*86400+es[k].2.2.2.2.2.2.1:=by unfold endV;rw[if_neg hc3,Int.sub_zero]
 refine Zaf<|Zag<|Zav<|mw<|mw<|E' (ZdL (Zhp cv rfl) (hl3 hn) ha3) pt<|?_
 refine E' (Zdm (Zct lk gx rfl Zmw (nb' rfl)) lk gx ((ZkH _).trans (by rw[htl])) om rfl (hs1 hn)) pt ?_
 refine mw<|Zar<|Zaz<|Zag<|Zav<|?_
 refine V' (Zay lk lki om om) pt ?_
 refine mw<|Zar<|ZaB<|?_
 refine lU' (k+1) (by (try dsimp only);omega) (by (try dsimp only);(try simp only[sm',Nat.reduceAdd]);exact bk' 2 hn hlt (by rw[Zmd hke,hev,Za5,Zbv];rfl))
theorem rising_a {l:List Int}{full:Bool}{h:AH}(hl:l.length≤9223372036854775807):Ac 138 [.sl l.length 1 full (rows intC l)] h (bv (risL l)):=by
 refine tI' k138 fun N hn hlt hlA hbd=>?_
 simp only[tb'] at hbd ⊢
 refine wr'<|mw<|sn'<|Zam<|wr'<|mw<|sn'<|Zap<|?_
 refine w_lp (ι:=Nat) (fun (k:Nat)=>[(3,iv ((k:Int)+1)),(2,.any)]++rn' 4 16) (fun (k:Nat)=>[]) (fun (k:Nat)=>(k+1≤l.length∨k=0) ∧ ∀ i (h:i+1<l.length),i<k→l[i]<l[i+1]) (fun (k:Nat)=>l.length-k) (0) (by exact⟨.inr rfl,fun i _ h=>by omega⟩) ?_
 rintro k hi1
 try simp only[sm',Nat.reduceAdd]
 obtain⟨hk1,hk2⟩:=hi1
 refine Zam<|wr'<|mw<|mw<|Vw (ZaL lk)<|Vw (Zbc lk lk)<|sn'<|?_
 refine cd' lk (fun hc1=>?_) (fun hc1=>?_)
 ·have hk:k+1<l.length:=by omega
  refine Zaf<|Zag<|Zam<|Zap<|Zam<|Zb2<|Dw (v_mv lk)<|Dw (v_mv lk)<|?_
  refine D' (ZaU (k:=k+1) lk lk ZdU (nb' rfl) ro om ro rfl) pt ?_
  refine Dw (ZaC lk gt)<|Dw (v_mv lk)<|Dw (v_mv lk)<|?_
  refine D' (ZbB lk lki om om) pt ?_
  refine D' (ZaU (k:=k) lk lk ZdU (nb' rfl) ro om ro rfl) pt ?_
  refine Dw (ZaC lk gt)<|Dw (Zdg lk lk)<|ZbO<|?_
  refine Zcr ?_
  refine sn' ?_
  refine cd' lk (fun hc2=>?_) (fun hc2=>?_)
  ·have hR:risL l=false:=ZpA hk om
   refine wr'<|mw<|sn'<|Zaa<|Zaq<|Zah<|Zah<|Zaq<|Zah<|Zae rz<|rT'<|?_
   rw[hR]
  refine Zaf<|Zaz<|Zag<|Zav<|mw<|?_
  refine V' (Zay lk lki om om) pt ?_
  refine mw<|Zar<|ZaB<|?_
  refine lU' (k+1) (by (try dsimp only);exact⟨by omega,fun i hi h=>by by_cases e:i=k;(subst e;omega);exact hk2 i hi om⟩) (by (try dsimp only);(try simp only[sm',Nat.reduceAdd]);exact ALe.same (by repeat (first | exact wk0 | refine wka ?_ | refine wk1 rfl ?_ | refine wk1 (by first | rfl | exact ivx om) ?_)) rfl)
 refine ZaM<|ZaD<|ZaD<|Zbb<|Zag<|wr'<|mw<|sn'<|Zaa<|Zae rz<|rT'<|?_
 exact bvx (ZlE fun i hi=>hk2 i hi om).symm
theorem check1_a {z:Zon}{h:AH}(hz:okZ z.2):Ac 137 [.agg (zonC z)] h (bv (!risL (Zb1 z.2))):=by
 obtain⟨nm,es⟩:=z
 have hel:(Zb1 es).length=es.length-1:=ZhL es
 have hlen:es.length≤8:=hz.len
 refine tI' k137 fun N hn hlt hlA hbd=>?_
 simp only[tb'] at hbd ⊢
 refine wr'<|E' (Zbd cv rfl (hl0 hn) ha0) pt<|mw<|sn'<|wr'<|Vw (Zao lk gx Zqm rfl)<|Zad mp (ZsH hz) pt<|?_
 refine Zad mp (rising_a (show (Zb1 es).length≤9223372036854775807 by omega)) pt ?_
 exact Vw (Zax lk)<|mw<|sn'<|Zaa<|Zae rz<|rT' rfl
theorem eras_a {a:List Rul}{z:List Zon}{k:List Lnk}{h:AH}:Ac 135 [.agg [.sl a.length 11 false (rows rulC a),.sl z.length 2 false (rows zonC z),.sl k.length 2 false (rows lnkC k)]] h (.clo (.func 217) [.rp [.sl a.length 11 false (rows rulC a),.sl z.length 2 false (rows zonC z),.sl k.length 2 false (rows lnkC k)]]):=by
 refine tI' k135 fun N hn hlt hlA hbd=>?_
 simp only[tb'] at hbd ⊢
 refine wr'<|E' (Zbd cv rfl (hl0 hn) ha0) pt<|mv' rfl pt<|Zar<|?_
 refine Zba (ALe.icePtr gx gt1 (by simp) pt1 (hs0 hn)) ?_
 exact wr'<|Vw (ZfZ mp)<|mw<|sn'<|Zaa<|Zae rz<|rT' rfl
theorem look1p_a {nm:ByteArray}{l:Lnk}{id:Nat}{h:AH}(he:h[id]?=some (.mk 0 9 1 [sv nm])):Ac 219 [.agg (lnkC l),.ptr id 0 0] h (bv (decide (l.2=nm))):=by
 refine tI' k219 fun N hn hlt hlA hbd=>?_
 simp only[tb'] at hbd ⊢
 refine wr'<|E' (Zbd cv rfl (hl0 hn) ha0) pt<|mw<|sn'<|wr'<|Vw (Zab lk)<|Vw (Zac lk gx gt1)<|Vw (Zac lk (ZeH he) gt0)<|Vw (Zcp lk lk)<|mw<|Zar<|?_
 exact Zag<|Zaa<|Zae rz<|rT' rfl
def ZpH (s:Src) (nm:ByteArray):Int:=Zig s.2.1 (match s.2.2[s.2.2.findIdx fun l=>decide (l.2=nm)]? with
 | some l=>l.1
 | none=>nm)
theorem look_a {a:List Rul}{z:List Zon}{k:List Lnk}{nm:ByteArray}{h:AH}(hz:z.length≤9223372036854775807) (hk:k.length≤9223372036854775807):Ac 139 [.agg [.sl a.length 11 false (rows rulC a),.sl z.length 2 false (rows zonC z),.sl k.length 2 false (rows lnkC k)],sv nm] h (iv (ZpH (a,z,k) nm)):=by
 have hkk:=hk
 refine tI' k139 fun N hn hlt hlA hbd=>?_
 simp only[tb'] at hbd ⊢
 refine wr'<|E' (Zbd cv rfl (hl0 hn) ha0) pt<|E' (Zbd cv rfl (hl1 hn) ha1) pt<|mw<|sn'<|wr'<|Vw (Zab lk)<|Vw (Zac lk gx gt2)<|Vw (ZfZ mp)<|?_
 refine Zad mp (ZoU (p:=fun l:Lnk=>decide (l.2=nm)) (fun c _ E=>look1p_a (ZeH gx)) hkk) pt ?_
 refine mw<|sn'<|Zam<|wr'<|mw<|Vw (Zft lk lki)<|sn'<|?_
 refine cd' lk (fun hc1=>?_) (fun hc1=>?_)
 ·have hlt':k.findIdx (fun l:Lnk=>decide (l.2=nm))<k.length:=by unfold idxV at hc1;split at hc1;assumption;omega
  have hix:idxV (fun l:Lnk=>decide (l.2=nm)) k=((k.findIdx fun l:Lnk=>decide (l.2=nm):Nat):Int):=if_pos hlt'
  refine Zav<|Vw (Zab lk)<|Vw (Zac lk gx gt2)<|mw<|?_
  refine V' (ZaU (k:=k.findIdx fun l:Lnk=>decide (l.2=nm)) lk lk ZdT (nb' rfl) ro om ro rfl) pt ?_
  refine Vw (Zbt lk dp0)<|Vw (ZaC lk gt)<|E' (Zai lk cv gx rfl (nb' rfl) rfl Zqo (hs1 hn)) ptn<|sn'<|wr'<|Vw (Zao lk gx Zg6 rfl)<|Vw (Zac lk gx gt0)<|Zad mp (Zm9 hz) pt<|mw<|sn'<|Zaa<|?_
  refine Zae rz<|rT'<|?_
  refine ivx ?_;unfold ZpH;rw[show (a,z,k).2.2[(a,z,k).2.2.findIdx fun l=>decide (l.2=nm)]?=some k[k.findIdx fun l:Lnk=>decide (l.2=nm)] from List.getElem?_eq_getElem hlt']
 have hlt':¬k.findIdx (fun l:Lnk=>decide (l.2=nm))<k.length:=fun h=>hc1 (by unfold idxV;rw[if_pos h];omega)
 refine Zaf<|Zag<|wr'<|Vw (Zao lk gx Zg6 rfl)<|Vw (Zac lk gx gt0)<|Zad mp (Zm9 hz) pt<|mw<|sn'<|Zaa<|Zae rz<|rT'<|?_
 refine ivx ?_;unfold ZpH;rw[show (a,z,k).2.2[(a,z,k).2.2.findIdx fun l=>decide (l.2=nm)]?=none from List.getElem?_eq_none (Nat.le_of_not_lt hlt')]
theorem repl_one {s lt:Bs}:Lib.replace s [37,115] lt 1=if (Lib.cut s [37,115]).2.2=true then (Lib.cut s [37,115]).1++lt++(Lib.cut s [37,115]).2.1 else s:=by
 have hge:=Lib.index_ge s [37,115]
 unfold Lib.cut
 by_cases h0:0≤Lib.index s [37,115]
 ·rw[if_pos h0]
  obtain⟨i,hi⟩ : ∃ i:Nat,Lib.index s [37,115]=i:=⟨(Lib.index s [37,115]).toNat,by omega⟩
  simp only[if_true,hi,Int.toNat_natCast,List.length_cons,List.length_nil]
  unfold Lib.replace
  split
  ·rename_i e
   have e:[37,115]=lt:=by simpa using e
   subst e
   rcases Lib.index_spec s [37,115] with ⟨h1,_⟩ | ⟨j,h1,h2,h3,_⟩
   ·omega
   obtain rfl:i=j:=by omega
   have h4:[37,115] <+: s.drop i:=by simpa [Lib.occAt] using h3
   obtain⟨t,ht⟩:=h4
   have e2:s.drop (i+2)=t:=by rw[←List.drop_drop,←ht];rfl
   rw[e2,List.append_assoc,ht,List.take_append_drop]
  have hc:0<Lib.count s [37,115]:=by rw[Lib.count_hit (by simp) hi];omega
  unfold Lib.replaceNum
  rw[if_neg om]
  rw[show (1:Int).toNat=0+1 from rfl,Lib.replaceK_hit _ _ _ _ _ hi]
  rfl
 rw[if_neg h0]
 simp only[Bool.false_eq_true,if_false]
 unfold Lib.replace
 split
 ·rfl
 have hm:Lib.index s [37,115] = -1:=by omega
 unfold Lib.replaceNum
 rw[if_pos (.inr (by rw[Lib.count_miss hm];simp)),Lib.count_miss hm];rfl
theorem ZrF {s lt:ByteArray}{h:AH}(h1:s.size≤24) (h2:lt.size≤24):Ac 321 [sv s,sv (bA [37,115]),sv lt,iv 1] h (sv (if (cutL s [37,115]).2.2=true then bA ((cutL s [37,115]).1++aB lt++(cutL s [37,115]).2.1) else s)):=by
 refine ACalls.of_below (by kernel_rfl) fun w g vs hs ha=>?_
 simp only[RepL,Rep] at ha
 obtain⟨u1,us1,e1,rfl,u2,us2,rfl,rfl,u3,us3,rfl,rfl,u4,us4,rfl,rfl,rfl⟩:=ha
 obtain rfl:vs = #[.string s,.string (bA [37,115]),.string lt,.int .i64 1]:=by cases vs;simp_all
 obtain⟨m,hm⟩:=hs.glob.w.maxLen
 have hc:=Lib.countB_le (bA [37,115]) (by decide) s.size s (Nat.le_refl _)
 have hc2:Lib.countB s (bA [37,115])*lt.size≤24*24:=Nat.mul_le_mul om h2
 refine (Tryz.strings_Replace s (bA [37,115]) lt 1 m w om hm (by decide) om).mono ?_
 rintro e w' ⟨rfl,hb⟩
 refine⟨_,rfl,hb,?_⟩
 simp only[Rep]
 have:=repl_one (s:=aB s) (lt:=aB lt)
 show Value.string (bA (Lib.replace (aB s) [37,115] (aB lt) 1))=_
 rw[this]
 unfold cutL
 split <;> rfl
theorem named_a {fm lt:ByteArray}{sa:Int}{h:AH}(h1:fm.size≤24) (h2:lt.size≤24):Ac 281 [sv fm,sv lt,iv sa] h (sv (ZkF fm lt sa)):=by
 refine tI' k281 fun N hn hlt hlA hbd=>?_
 simp only[tb'] at hbd ⊢
 refine wr'<|mw<|sn'<|wr'<|mw<|Zad mp (cut1_a h1) pt<|mw<|Vw (ZaS lk gt)<|Vw (ZaS lk gt)<|Vw (ZaS lk gt)<|mw<|?_
 refine mw<|mw<|sn'<|Zam<|Zap<|wr'<|mw<|Vw (Zax lk)<|mw<|sn'<|?_
 refine Zaw lk (fun hc1=>?_) (fun hc1=>?_)
 ·refine wr'<|mw<|mw<|Zad mp (ZrF h1 h2) pt<|mw<|sn'<|Zaa<|Zaq<|Zah<|Zae rz<|rT'<|?_
  unfold ZkF;exact congrArg (fun z=>sv z) (if_neg (by have:=hc1;rw[Bool.not_eq_true'] at this;rw[this];simp)).symm
 refine wr'<|mw<|Vw (ZbC lk lki)<|mw<|sn'<|?_
 refine cd' lk (fun hc2=>?_) (fun hc2=>?_)
 ·refine wr'<|mw<|mw<|sn'<|Zaa<|Zaq<|Zah<|Zae rz<|rT'<|?_
  unfold ZkF;rw[if_pos (by have:=hc1;rwa [Bool.not_eq_false'] at this),if_pos hc2]
 refine Zaf<|Zaz<|Zag<|wr'<|mw<|mw<|sn'<|Zaa<|Zae rz<|rT'<|?_
 unfold ZkF;rw[if_pos (by have:=hc1;rwa [Bool.not_eq_false'] at this),if_neg hc2]
theorem Znf {x:Era}{t:Tim}{h:AH}(h1:(xFm x).size≤24) (h2:t.2.2.size≤24) (h3 : -64800≤xSh x∧xSh x≤64800) (h4:0≤t.2.1∧t.2.1≤10800):ACalls Tryz.prog 220 [.agg (eraC x),.agg (timC t)] h fun y h'=>h'=h∧y=.ret (.agg [iv (locV x t.2.1 t.2.2).1,iv (locV x t.2.1 t.2.2).2.1,sv (locV x t.2.1 t.2.2).2.2]):=by
 obtain⟨sh,rl,sa,fm,op,⟨⟨y,m,d⟩,a,c⟩⟩:=x
 obtain⟨at_,sv_,lt⟩:=t
 simp only[xFm,xSh] at h1 h3
 simp only at h2 h4
 show ACalls _ _ [.agg [iv sh,sv rl,iv sa,sv fm,bv op,iv y,iv m,iv d,iv a,iv c],.agg [iv at_,iv sv_,sv lt]] h _
 refine tI' k220 fun N hn hlt hlA hbd=>?_
 simp only[tb'] at hbd ⊢
 refine wr'<|E' (Zbd cv rfl (hl0 hn) ha0) pt<|E' (Zbd cv rfl (hl1 hn) ha1) pt<|E' (ZaW (hl2 hn) ha2) pt<|sn'<|Zam<|Zb2<|Dw (Zab lk)<|Dw (Zac lk gx gt0)<|Dw (Zab lk)<|Dw (Zac lk gx gt1)<|?_
 refine D' (Zay lk lk om om) pt ?_
 refine Dw (Zab lk)<|Dw (Zac lk gx gt1)<|Dw (Zab lk)<|Dw (Zac lk gx gt3)<|Dw (Zab lk)<|Dw (Zac lk gx gt2)<|Dw (Zab lk)<|Dw (Zac lk gx gt1)<|?_
 refine Za2 mp (fun hE hX=>named_a h1 h2) pt ?_
 refine Dw (Zau (Zk3 cv rfl cv rfl cv rfl))<|ZbO<|?_
 refine Zcr ?_
 exact E' (Zai lk cv gx rfl (nb' rfl) rfl Zqn (hs2 hn)) ptn<|sn'<|Zaa<|Zae (rs1 (rr_c gt gx (ld1 Zg6 rfl)))<|rT' rfl
theorem cut1p_a {c:Chg}{e:Int}{h:AH}:ACalls Tryz.prog 222 [.agg (chgC c),.rp [iv e]] h fun y h'=>h'=h∧y=.ret (bv (decide (e≤c.1))):=by
 obtain⟨c1,c2,c3,c4⟩:=c
 refine tI' k222 fun N hn hlt hlA hbd=>?_
 simp only[tb'] at hbd ⊢
 refine wr'<|E' (Zbd cv rfl (hl0 hn) ha0) pt<|mw<|sn'<|wr'<|Vw (Zab lk)<|Vw (Zac lk gx gt0)<|Vw (ZaC lk gt)<|Vw (Zft lk lk)<|mw<|Zar<|?_
 refine Zag<|Zaa<|Zae rz<|rT'<|?_
 exact bvx (by first | rfl | (rw[Bool.eq_iff_iff];simp))
theorem ZsN {l:List Chg}{e:Int}:cutV l e=l.take (l.findIdx fun c=>decide (e≤c.1)):=by
 unfold cutV
 induction l with
 | nil=>rfl
 | cons c l ih =>
  rw[List.takeWhile_cons,List.findIdx_cons]
  by_cases h:c.1<e
  ·rw[if_pos (by simpa using h),ih,show decide (e≤c.1)=false by simp;omega];rfl
  rw[if_neg (by simpa using h),show decide (e≤c.1)=true by simp;omega];rfl
theorem zcut_a {l:List Chg}{e:Int}{full:Bool}{h:AH}(hl:l.length≤9223372036854775807):ACalls Tryz.prog 143 [.sl l.length 4 full (rows chgC l),iv e] h fun y h'=>h'=h∧y=.ret (.sl (cutV l e).length 4 false (rows chgC (cutV l e))):=by
 have hll:=hl
 refine tW' k143 fun N hn hlt hlA hbd=>?_
 simp only[tb'] at hbd ⊢
 refine wr'<|E' (Zbd cv rfl (hl0 hn) ha0) pt<|mw<|Zar<|?_
 refine Zba (ALe.icePtr gx gt3 (by simp) pt3 (hs0 hn)) ?_
 refine wr'<|mw<|Vw (ZfZ mp)<|?_
 refine Zad mp (ixPrtC_a (p:=fun c:Chg=>decide (e≤c.1)) (fun c _ _=>cut1p_a) hll) pt ?_
 refine mw<|sn'<|Zam<|wr'<|mw<|Vw (Zbc lk lki)<|sn'<|?_
 refine cd' lk (fun hc1=>?_) (fun hc1=>?_)
 ·have hi:¬l.findIdx (fun c:Chg=>decide (e≤c.1))<l.length:=by unfold idxV at hc1;split at hc1;omega;assumption
  refine wr'<|mw<|mw<|sn'<|Zaa<|Zah<|Zae rz<|rtW'<|?_
  rw[ZsN,List.take_of_length_le om];exact Wk.full
 have hi:l.findIdx (fun c:Chg=>decide (e≤c.1))<l.length:=by unfold idxV at hc1;split at hc1;assumption;omega
 have hix:idxV (fun c:Chg=>decide (e≤c.1)) l=((l.findIdx fun c:Chg=>decide (e≤c.1):Nat):Int):=if_pos hi
 refine Zaf<|Zag<|wr'<|mw<|mw<|?_
 refine V' (v_hi (k:=l.findIdx fun c:Chg=>decide (e≤c.1)) lk lk Zca ro om ro) pt ?_
 refine mw<|sn'<|Zaa<|Zae rz<|rtW'<|?_
 rw[ZsN,List.length_take,Nat.min_eq_left (Nat.le_of_lt hi)];exact Wk.full
end Go.Proofs.YtlekejpogddndaaGreatDoor
end
section
namespace Go.Proofs.YtlekejpogddndaaGreatDoor
open Go.Ab Go.RowKit Civ
attribute [local simp] Zbh Zbr Zbo Zbq Zb5 ZdG
section
theorem Zti {a0 a1:AV}{l:List AV}:(a0::a1::l).take 2=[a0,a1]:=rfl
theorem Zqj {a0 a1 c0 c1:AV}{l:List AV}:setCells (a0::a1::l) 0 [c0,c1]=c0::c1::l:=rfl
theorem Zqi {a0 a1 a2 a3 a4 a5 a6 a7 a8 a9:AV}{l:List AV}:(a0::a1::a2::a3::a4::a5::a6::a7::a8::a9::l).take 10=[a0,a1,a2,a3,a4,a5,a6,a7,a8,a9]:=rfl
theorem ZiI {a0 a1 a2 a3 a4 a5 a6 a7 a8 a9 c0 c1 c2 c3 c4 c5 c6 c7 c8 c9:AV}{l:List AV}:setCells (a0::a1::a2::a3::a4::a5::a6::a7::a8::a9::l) 0 [c0,c1,c2,c3,c4,c5,c6,c7,c8,c9]=c0::c1::c2::c3::c4::c5::c6::c7::c8::c9::l:=rfl
theorem ZnY {a0 a1 a2 a3 a4 a5 a6 a7 a8 a9:AV}{l:List AV}:((a0::a1::a2::a3::a4::a5::a6::a7::a8::a9::l).drop 0).take 10=[a0,a1,a2,a3,a4,a5,a6,a7,a8,a9]:=rfl
theorem Zg5 {a0 c0:AV}{l:List AV}:setCells (a0::l) 0 [c0]=c0::l:=rfl
theorem Zth {a0 a1 a2:AV}{l:List AV}:(a0::a1::a2::l).take 3=[a0,a1,a2]:=rfl
end
def c217:AC:=(Sr [Fa 7 1 1,Ld 8 7,Oo 9 (.len false (.tmp 8)),Mc 10 0] (.block 0 (.loop (Sr [Bn 11 .lss 10 9] (.seq (Cd 11 .skip (.exit 0)) (.seq (.block 1 (Sr [Oo 12 (.ia 2 (.tmp 8) (.tmp 10)),Oo 13 (.load true 2 (.tmp 12)),Oo 4 (.new 53 2 [Ss,(.sl 0 0 true [])]),⟨none,none,(.store 2 (.tmp 4) (.tmp 13))⟩] (Sr [Fa 14 1 4,Ld 15 14,Oo 16 (.len false (.tmp 15)),Mc 17 0] (.block 2 (.loop (Sr [Bn 18 .lss 17 16] (.seq (Cd 18 .skip (.exit 2)) (.seq (.block 3 (Sr [Oo 19 (.ia 10 (.tmp 15) (.tmp 17)),Oo 20 (.load true 10 (.tmp 19)),Oo 6 (.new 63 10 [(iv 0),Ss,(iv 0),Ss,(.v (.bool false)),(iv 0),(iv 0),(iv 0),(iv 0),(iv 0)]),⟨none,none,(.store 10 (.tmp 6) (.tmp 20))⟩] (Sr [Mv 21 0,Oo 22 (.load true 10 (.tmp 6)),Oo 23 (.call (.tmp 21) [(.tmp 22)]),Oo 24 (.un .not (.tmp 23))] (Cd 24 .ret .skip)))) (.reg [Bc 25 .add 17 1,Mv 17 25]))))))))) (.reg [Bc 26 .add 10 1,Mv 10 26])))))))
theorem k217:ZaA Tryz.prog 217=some ⟨c217,[],27⟩:=by kernel_rfl
def c134p:AC:=(.seq (.reg [⟨(some 1),none,(.box 26 3 (.tmp 0))⟩,⟨(some 2),none,(.new 4 1 [(.v (.bool false))])⟩]) (.seq (.reg [⟨(some 4),none,(.fa 2 (.tmp 1))⟩,⟨(some 5),none,(.load false 1 (.tmp 4))⟩,⟨(some 6),none,(.mkfn 214 [(.tmp 1)])⟩,⟨(some 7),none,(.call (.func 213) [(.tmp 5),(.tmp 6)])⟩]) (.seq (.cond (.tmp 7) (.seq (.reg [⟨none,none,(.store 1 (.tmp 2) (.const (.bool true)))⟩]) .ret) .skip) (.seq (.reg [⟨(some 8),none,(.load true 3 (.tmp 1))⟩,⟨(some 9),none,(.call (.func 135) [(.tmp 8)])⟩]) .skip))))
def c134a:AC:=(.reg [⟨(some 3),none,(.new 63 10 [(.v (.int .i64 0)),(.v (.string ⟨#[]⟩)),(.v (.int .i64 0)),(.v (.string ⟨#[]⟩)),(.v (.bool false)),(.v (.int .i64 0)),(.v (.int .i64 0)),(.v (.int .i64 0)),(.v (.int .i64 0)),(.v (.int .i64 0))])⟩,⟨none,none,(.store 10 (.tmp 3) (.tmp 10))⟩])
def c134b:AC:=(.block 1 (.seq (.reg [⟨(some 11),none,(.fa 1 (.tmp 3))⟩,⟨(some 12),none,(.load false 1 (.tmp 11))⟩,⟨(some 13),none,(.bin .neq (.tmp 12) (.const (.string ⟨#[]⟩)))⟩,⟨(some 14),none,(.mv (.tmp 13))⟩,⟨(some 15),(some (14,true)),(.fa 0 (.tmp 1))⟩,⟨(some 16),(some (14,true)),(.load false 1 (.tmp 15))⟩,⟨(some 17),(some (14,true)),(.mkfn 216 [(.tmp 3)])⟩,⟨(some 18),(some (14,true)),(.call (.func 157) [(.tmp 16),(.tmp 17)])⟩,⟨(some 19),(some (14,true)),(.un .not (.tmp 18))⟩,⟨(some 20),none,(.pick (.tmp 14) (.tmp 19) (.const (.bool false)))⟩]) (.cond (.tmp 20) (.seq (.reg [⟨none,none,(.store 1 (.tmp 2) (.const (.bool true)))⟩]) .ret) .skip)))
def c134q:AC:=(.seq (.reg [⟨none,none,(.store 1 (.tmp 2) (.const (.bool false)))⟩]) (.seq .ret .skip))
abbrev fr134:AFR:=⟨[(.reg [⟨(some 1),none,(.box 26 3 (.tmp 0))⟩,⟨(some 2),none,(.new 4 1 [(.v (.bool false))])⟩]),(.reg [⟨(some 4),none,(.fa 2 (.tmp 1))⟩,⟨(some 5),none,(.load false 1 (.tmp 4))⟩,⟨(some 6),none,(.mkfn 214 [(.tmp 1)])⟩,⟨(some 7),none,(.call (.func 213) [(.tmp 5),(.tmp 6)])⟩]),(.cond (.tmp 7) (.seq (.reg [⟨none,none,(.store 1 (.tmp 2) (.const (.bool true)))⟩]) .ret) .skip),(.reg [⟨(some 8),none,(.load true 3 (.tmp 1))⟩,⟨(some 9),none,(.call (.func 135) [(.tmp 8)])⟩])],(.tmp 9),#[10],c134a,c134b,c134q,[(.cell 2 false 1)],21⟩
theorem k134:Zhn Tryz.prog 134=some fr134:=by kernel_rfl
def Zdc (z:List Zon):List Era:=z.flatMap (·.2)
theorem Znv {z:List Zon}{i j:Nat}(hi:i<z.length) (hj:j<z[i].2.length) : ∃ r,Zdc z=Zdc (z.take i)++(z[i].2.take j++z[i].2[j]::r):=by
 refine⟨z[i].2.drop (j+1)++Zdc (z.drop (i+1)),?_⟩
 have e:z=z.take i++z[i]::z.drop (i+1):=by rw[←List.drop_eq_getElem_cons hi,List.take_append_drop]
 have e2:z[i].2=z[i].2.take j++z[i].2[j]::z[i].2.drop (j+1):=by rw[←List.drop_eq_getElem_cons hj,List.take_append_drop]
 have h1:Zdc z=Zdc (z.take i++z[i]::z.drop (i+1)):=by rw[←e]
 rw[h1]
 unfold Zdc
 rw[List.flatMap_append,List.flatMap_cons]
 have h2:z[i].2++(z.drop (i+1)).flatMap (·.2)=z[i].2.take j++z[i].2[j]::(z[i].2.drop (j+1)++(z.drop (i+1)).flatMap (·.2)):=by
  conv=>lhs;rw[e2]
  rw[List.append_assoc];rfl
 rw[h2]
theorem ZpU {z:List Zon}{i:Nat}(hi:i<z.length):Zdc (z.take (i+1))=Zdc (z.take i)++z[i].2:=by
 unfold Zdc
 rw[List.take_succ_eq_append_getElem hi,List.flatMap_append,List.flatMap_cons,List.flatMap_nil,List.append_nil]
theorem ZsB {p:Era→Bool}{l m r:List Era}{x:Era}(hl : ∀ y∈l,p y=false) (hm : ∀ y∈m,p y=false) (hx:p x=true):(l++(m++x::r)).find? p=some x:=by
 rw[List.find?_append,List.find?_eq_none.2 (fun y hy=>by rw[hl y hy];simp),Option.none_or,List.find?_append,List.find?_eq_none.2 (fun y hy=>by rw[hm y hy];simp),Option.none_or,List.find?_cons,hx]
def stopH (h:AH) (hS:Era→AH):Option Era→AH
 | none=>h
 | some x=>hS x
theorem ZsE {a:List Rul}{z:List Zon}{k:List Lnk}{lp:Nat}{h:AH}{p:Era→Bool}{hS:Era→AH}(hz:z.length≤20) (hz2 : ∀ y∈z,y.2.length≤8) (hSl : ∀ x,(hS x).length=h.length) (hSlt : ∀ x,∀ e∈hS x,e.lt h.length=true)
  (hY : ∀ x∈Zdc z,∀ e f:Ent,p x=false→AYield Tryz.prog lp [.agg (eraC x)] (h++[e,f]) fun r h''=>r=.ret (.v (.bool true))∧h''=h++[e,f])
  (hN : ∀ x∈Zdc z,∀ e f:Ent,p x=true→AYield Tryz.prog lp [.agg (eraC x)] (h++[e,f]) fun r h''=>r=.ret (.v (.bool false))∧h''=hS x++[e,f]) :
  ACalls Tryz.prog 217 [.v (.func (.yield lp) #[] #[]),.rp [.sl a.length 11 false (rows rulC a),.sl z.length 2 false (rows zonC z),.sl k.length 2 false (rows lnkC k)]] h fun y h'=>y=.ret (.tup [])∧h'=stopH h hS ((Zdc z).find? p):=by
 refine tJ' k217 fun N hn hlt hlA hbd=>?_
 simp only[tb'] at hbd ⊢
 refine wr'<|Vw (Zbt lk dp1)<|Vw (ZaC lk gt)<|Vw (ZaL lk)<|mw<|sn'<|Zap<|?_
 refine w_lp (ι:=Nat) (fun (i:Nat)=>[(10,iv (i:Int)),(4,.any),(6,.any)]++rn' 11 16) (fun (i:Nat)=>[]) (fun (i:Nat)=>i≤z.length ∧ ∀ x∈Zdc (z.take i),p x=false) (fun (i:Nat)=>z.length-i) (0) (by exact⟨Nat.zero_le _,fun x hx=>by cases hx⟩) ?_
 rintro i hi1
 try simp only[sm',Nat.reduceAdd]
 obtain⟨hk1,hk2⟩:=hi1
 refine wr'<|Vw (Zbc lk lk)<|sn'<|Zam<|?_
 refine cd' lk (fun hc1=>?_) (fun hc1=>?_)
 ·have hi:i<z.length:=by omega
  have hz3:=hz2 _ (List.getElem_mem hi)
  refine Zaf<|Zag<|Zam<|Zap<|wr'<|?_
  refine V' (ZaU lk lk ZcJ (nb' rfl) ro om ro rfl) pt ?_
  refine Vw (ZaI lk Zti rfl)<|E' (ZaW (hl0 hn) ha0) pt<|E' (Zai lk cv gx rfl (nb' rfl) rfl Zqj (hs0 hn)) ptn<|sn'<|wr'<|Vw (Zab lk)<|Vw (Zac lk gx gt1)<|?_
  refine V' ((by first | exact ZaL lk | exact ZcZ lk)) pt ?_
  refine mw<|sn'<|Zap<|?_
  refine w_lp (ι:=Nat) (fun (j:Nat)=>[(17,iv (j:Int)),(6,.any)]++rn' 18 8) (fun (j:Nat)=>[]) (fun (j:Nat)=>j≤z[i].2.length ∧ ∀ x∈z[i].2.take j,p x=false) (fun (j:Nat)=>z[i].2.length-j) (0) (by exact⟨Nat.zero_le _,fun x hx=>by cases hx⟩) ?_
  rintro j hi2
  try simp only[sm',Nat.reduceAdd]
  obtain⟨hj1,hj2⟩:=hi2
  refine wr'<|Vw (Zbc lk lk)<|sn'<|Zam<|?_
  refine cd' lk (fun hc2=>?_) (fun hc2=>?_)
  ·have hj:j<z[i].2.length:=by omega
   obtain⟨rr,hrr⟩:=Znv hi hj
   have hmem:z[i].2[j]∈Zdc z:=by rw[hrr];simp
   refine Zaf<|Zag<|Zam<|Zap<|wr'<|?_
   refine V' (ZaU lk lk ZcM (nb' rfl) ro om ro rfl) pt ?_
   refine Vw (ZaI lk Zqi rfl)<|E' (ZaW (hl1 hn) ha1) pt<|E' (Zai lk cv gx rfl (nb' rfl) rfl ZiI (hs1 hn)) ptn<|sn'<|wr'<|mw<|Vw (Zao lk gx ZnY rfl)<|?_
   by_cases hs21:p z[i].2[j]=true
   ·refine ZrC lk mp (hN _ hmem _ _ hs21) pt<|Vw (Zax lk)<|sn'<|ZaG lk<|Zaa<|Zaq<|Zah<|Zah<|Zaq<|Zaq<|Zah<|Zah<|Zaq<|?_
    refine Zae (rs0) ?_
    exact⟨_,_,rfl,(hSl _).trans hn,by rw[←hn];exact hSlt _,rfl,rfl,by rw[hrr,ZsB hk2 hj2 hs21];rfl⟩
   refine ZrC lk mp (hY _ hmem _ _ (by simpa using hs21)) pt ?_
   refine Vw (Zax lk)<|sn'<|ZaO lk<|Zaf<|Zaz<|Zag<|Zav<|?_
   refine V' (Zay lk lki om om) pt ?_
   refine mw<|Zar<|ZaB<|?_
   refine lU' (j+1) (by (try dsimp only);refine⟨by omega,fun x hx=>?_⟩;rw[List.take_succ_eq_append_getElem hj] at hx;rcases List.mem_append.1 hx with hx | hx;exact hj2 x hx;simp only[List.mem_singleton] at hx;subst hx;simpa using hs21) (by (try dsimp only);(try simp only[sm',Nat.reduceAdd]);exact bk' 1 hn hlt)
  have hje:z[i].2.length≤j:=by omega
  rw[List.take_of_length_le hje] at hj2
  refine ZaM<|ZaD<|ZaD<|Zbb<|Zaz<|Zag<|Zav<|?_
  refine V' (Zay lk lki om om) pt ?_
  refine mw<|Zar<|ZaB<|?_
  refine lU' (i+1) (by (try dsimp only);refine⟨by omega,fun x hx=>?_⟩;rw[ZpU hi] at hx;rcases List.mem_append.1 hx with hx | hx;exact hk2 x hx;exact hj2 x hx) (by (try dsimp only);(try simp only[sm',Nat.reduceAdd]);exact bk' 0 hn hlt)
 rw[List.take_of_length_le om] at hk2
 refine ZaM<|ZaD<|ZaD<|Zbb<|w_end (rs0)<|?_
 exact⟨_,_,rfl,hn,hlt,rfl,rfl,by rw[List.find?_eq_none.2 (fun y hy=>by rw[hk2 y hy];simp)];rfl⟩
theorem miss2p_a {r:Rul}{x:Era}{id:Nat}{h:AH}(he:h[id]?=some (.mk 0 63 10 (eraC x))):ACalls Tryz.prog 216 [.agg (rulC r),.ptr id 0 0] h fun x' h'=>h'=h∧x'=.ret (bv (decide (r.1=xRl x))):=by
 obtain⟨n,f,t,m,⟨k,w,d⟩,a,c,s,lt⟩:=r
 refine tI' k216 fun N hn hlt hlA hbd=>?_
 simp only[tb'] at hbd ⊢
 refine wr'<|E' (Zbd cv rfl (hl0 hn) ha0) pt<|mw<|sn'<|wr'<|Vw (Zab lk)<|Vw (Zac lk gx gt0)<|Vw (Zab lk)<|Vw (Zac lk (ZeH he) gt1)<|Vw (Zcp lk lk)<|mw<|?_
 exact sn'<|Zaa<|Zae rz<|rT' rfl
abbrev srcB (a:List Rul) (z:List Zon) (k:List Lnk):List AV:=[.sl a.length 11 false (rows rulC a),.sl z.length 2 false (rows zonC z),.sl k.length 2 false (rows lnkC k)]
abbrev ergH (h:AH) (D l ty:Nat) (o:Obj) (T:List AV) (vs:List Value) (c:AV):AH:=h++[.gone,.mk 0 ty 1 [c],mkD D,.raw l o T vs]
abbrev ergJ (h:AH) (D l ty:Nat) (o:Obj) (T:List AV) (vs:List Value) (c:AV) (e f:Ent):AH:=h++[.gone,.mk 0 ty 1 [c],mkD D,.raw l o T vs,e,f]
theorem ZgY {h:AH}{D l ty:Nat}{o:Obj}{T:List AV}{vs:List Value}{c:AV}{e f:Ent}:ergH h D l ty o T vs c++[e,f]=ergJ h D l ty o T vs c e f:=by simp
theorem ZsD {h:AH}{D l ty N:Nat}{o:Obj}{T:List AV}{vs:List Value}{c:AV}(hlt : ∀ e∈h,e.lt N=true) (hT:AV.ltL (N+4) T=true) (hc:c.lt (N+4)=true) : ∀ e∈ergH h D l ty o T vs c,e.lt (N+4)=true:=by
 intro e he
 rcases List.mem_append.1 he with he | he
 ·exact ltw om hlt e he
 simp only[List.mem_cons,List.not_mem_nil,or_false] at he
 rcases he with rfl | rfl | rfl | rfl
 ·simp[Ent.lt]
 ·simp[Ent.lt,AV.ltL,hc]
 ·simp[Ent.lt,AV.ltL]
 simpa [Ent.lt] using hT
def misP (a:List Rul) (x:Era):Bool:=decide (xRl x≠⟨#[]⟩)&&!a.any fun r=>decide (r.1=xRl x)
def Zi4 (s:Src):Bool:=(s.2.2.any fun l=>decide (Zig s.2.1 l.1<0))||(Zdc s.2.1).any (misP s.1)
abbrev misT (N:Nat) (a:List Rul) (z:List Zon) (k:List Lnk) (x:AV):List AV:=[.any,.rp (srcB a z k),.ptr (N+1) 0 0,.any,.any,.any,.any,.any,.any,.clo (.func 217) [.rp (srcB a z k)],x,.any,.any,.any,.any,.any,.any,.any,.any,.any,.any]
theorem Zr9 {N:Nat}{a:List Rul}{z:List Zon}{k:List Lnk}:AV.ltL (N+4) (misT N a z k .any)=true:=by simp[AV.ltL,AV.lt,Zbh,Zbo,Zbq]
theorem app61 {h:AH}{a b c d e f p:Ent}:h++[a,b,c,d,e,f,p]=(h++[a,b,c,d,e,f])++[p]:=by simp
theorem Zjv {h:AH}{lp N D:Nat}{rdy bsy fin:Obj}{a:List Rul}{z:List Zon}{k:List Lnk}{vs:List Value}(hn:h.length=N) (hlt : ∀ e∈h,e.lt N=true) (ha:a.length≤9223372036854775807)
  (hY:Zk4 Tryz.prog fr134 (N+2+1) lp rdy bsy fin (misT N a z k .any) vs) {x:Era} {e f:Ent} :
  AYield Tryz.prog lp [.agg (eraC x)] (ergJ h D lp 4 rdy (misT N a z k .any) vs (bv false) e f) fun r h''=>r=.ret (.v (.bool (!misP a x)))∧h''=ergJ h D lp 4 (if misP a x=true then fin else rdy) (misT N a z k .any) vs (bv (misP a x)) e f:=by
 refine y_go hY (hga (k:=3) hn rfl) rfl fun n0 hn0 hlt0 q1 q2 q3=>?_
 have hm:n0=N+6:=by rw[←hn0];simp[hn]
 have hT0:=Zr9 (N:=N) (a:=a) (z:=z) (k:=k)
 have hE:=hlt0 e (by simp)
 have hF:=hlt0 f (by simp)
 have hR:=hlt0 (.raw lp rdy (misT N a z k .any) vs) (by simp)
 show aw _ _ c134a _ _ _
 show aw _ _ _ _ (misT N a z k (.agg (eraC x))) (h++[.gone,.mk 0 4 1 [bv false],mkD D,.raw lp rdy (misT N a z k .any) vs,e,f])
 refine Zav<|E' (ZaW (hl6 hn) ha6) pt<|E' (Zai lk cv gx rfl (nb' rfl) rfl ZiI (hs6 hn)) ptn<|Zar<|?_
 refine Zs4 (i:=N+3) gx (hs3 hn) fun n1 hn1 hlt1=>?_
 have fin2 : ∀ (b:Bool) (o:Obj) (E:Ent),b=misP a x→o=(if misP a x=true then fin else rdy)→o.isCells=o.isCells→Ent.lt n0 (.raw lp o (misT N a z k .any) vs)=true → ∃ y z',h++[.gone,.mk 0 4 1 [bv b],mkD D,.raw lp o (misT N a z k .any) vs,e,f,E]=y++z'∧y.length=n0∧(∀ e∈y,e.lt n0=true)∧(AE.ret (.v (.bool (!b)))).lt n0=true∧AE.ret (.v (.bool (!b)))=.ret (.v (.bool (!misP a x)))∧y=ergJ h D lp 4 (if misP a x=true then fin else rdy) (misT N a z k .any) vs (bv (misP a x)) e f:=by
  rintro b o E rfl rfl _ hro
  refine⟨_,_,app61,by rw[←hn0];simp,fun y hy=>?_,rfl,rfl,rfl⟩
  rcases List.mem_append.1 hy with hy | hy
  ·exact ltw om hlt y hy
  simp only[List.mem_cons,List.not_mem_nil,or_false] at hy
  rcases hy with rfl | rfl | rfl | rfl | rfl | rfl
  ·simp[Ent.lt]
  ·simp[Ent.lt,AV.ltL,AV.lt]
  ·simp[Ent.lt,AV.ltL]
  ·exact hro
  ·exact hE
  exact hF
 have hro : ∀ o:Obj,Ent.lt n0 (.raw lp o (misT N a z k .any) vs)=true:=fun o=>by simpa [Ent.lt] using hR
 show aw _ _ c134b _ _ _
 refine Zap<|wr'<|Vw (Zab lk)<|Vw (Zac lk gx gt1)<|Vw (ZcD lk lks)<|mw<|?_
 refine sp' (t:=14) gt pt pt (fun hg14=>?_) (fun hg14=>?_)
 ·refine s_do gt<|Vw (Zbt lk dp0)<|s_do gt<|Vw (ZaC lk gt)<|s_do gt<|Vw (ZfZ mp)<|s_do gt<|?_
  refine Zad mp (Zl7 (p:=fun r:Rul=>decide (r.1=xRl x)) (fun c _ E=>miss2p_a (ZeH gx)) ha) pt ?_
  refine s_do gt<|Vw (Zax lk)<|Vw (Zak lk lk)<|sn'<|?_
  refine Zaw lk (fun hc1=>?_) (fun hc1=>?_)
  ·have hP:misP a x=true:=by unfold misP;rw[Bool.and_eq_true];exact⟨decide_eq_true hg14,hc1⟩
   refine wr'<|E' (Zai lk (cvl lkb rfl) gx rfl (nb' rfl) rfl Zg5 (hs1 hn)) ptn<|sn'<|Zaa<|Zaq<|?_
   refine Zpe (i:=N+3) gx (hs3 hn) (fin2 true fin _ hP.symm (by rw[if_pos hP]) rfl (hro _))
  have hP:misP a x=false:=by unfold misP;rw[Bool.and_eq_false_iff];exact .inr hc1
  refine Zaf<|Zaz<|?_
  exact ZiD (i:=N+3) gx (hs3 hn) (fin2 false rdy _ hP.symm (by rw[hP];rfl) rfl (hro _))
 have hP:misP a x=false:=by unfold misP;rw[Bool.and_eq_false_iff];exact .inl (decide_eq_false hg14)
 refine s_no gt pt<|s_no gt pt<|s_no gt pt<|s_no gt pt<|s_no gt pt<|Vw (Zaj lk lkb)<|sn'<|ZaO lk<|Zaf<|Zaz<|?_
 exact ZiD (i:=N+3) gx (hs3 hn) (fin2 false rdy _ hP.symm (by rw[hP];rfl) rfl (hro _))
theorem any_find {p:Era→Bool} {l:List Era}:(match l.find? p with | none=>false | some _=>true)=l.any p:=by
 induction l with
 | nil=>rfl
 | cons x l ih=>rw[List.find?_cons,List.any_cons];cases p x <;> simp[ih]
theorem Zr8 {h:AH}{lp N D:Nat}{rdy bsy fin:Obj}{a:List Rul}{z:List Zon}{k:List Lnk}{vs:List Value}(hn:h.length=N) (hlt : ∀ e∈h,e.lt N=true) (ha:a.length≤9223372036854775807) (hz:z.length≤20) (hz2 : ∀ y∈z,y.2.length≤8)
    (hY:Zk4 Tryz.prog fr134 (N+2+1) lp rdy bsy fin (misT N a z k .any) vs) (hl0:(k.any fun l=>decide (Zig z l.1<0))=false) {R:AE→AH→Prop} (hR:R=fun x h' => ∃ z',h'=h++z'∧x.lt N=true∧x=.ret (bv (Zi4 (a,z,k)))) :
    ACalls Tryz.prog 217 (.v (.func (.yield lp) #[] #[])::[.rp (srcB a z k)]) (ergH h D lp 4 rdy (misT N a z k .any) vs (bv false)) fun r h3=>(∃ c,r=.ret c) ∧
      ((h3[N+2+1]?=some (.raw lp rdy (misT N a z k .any) vs) ∧ ∀ n0,(h3.set (N+2+1) .gone).length=n0→(∀ e∈h3.set (N+2+1) .gone,e.lt n0=true)→aw Tryz.prog n0 fr134.post (ZeT fr134.res (N+2) D R) (misT N a z k .any) (h3.set (N+2+1) .gone)) ∨
       (h3[N+2+1]?=some (.raw lp fin (misT N a z k .any) vs)∧ZeT fr134.res (N+2) D R .ret (misT N a z k .any) (h3.set (N+2+1) .gone))):=by
  have hmis:Zi4 (a,z,k)=(Zdc z).any (misP a):=by unfold Zi4;rw[hl0,Bool.false_or]
  refine (ZsE (h:=ergH h D lp 4 rdy (misT N a z k .any) vs (bv false)) (p:=misP a) (hS:=fun _=>ergH h D lp 4 fin (misT N a z k .any) vs (bv true)) hz hz2 (fun _=>(hl4 hn).trans (hl4 hn).symm) (fun _=>by rw[hl4 hn];exact ZsD hlt Zr9 rfl) (fun x _ e f hp=>?_) (fun x _ e f hp=>?_)).mono ?_
  · have:=Zjv (e:=e) (f:=f) (D:=D) (x:=x) hn hlt ha hY
    rw[hp] at this
    rw[ZgY]
    exact this
  · have:=Zjv (e:=e) (f:=f) (D:=D) (x:=x) hn hlt ha hY
    rw[hp] at this
    rw[ZgY,ZgY]
    exact this
  rintro x h3 ⟨rfl,rfl⟩
  refine⟨⟨_,rfl⟩,?_⟩
  rw[←any_find] at hmis
  subst hR
  cases hf:(Zdc z).find? (misP a) with
  | none =>
    rw[hf] at hmis
    refine .inl ⟨hga (k:=3) hn rfl,fun n0 hn0 _=>?_⟩
    have hs:(ergH h D lp 4 rdy (misT N a z k .any) vs (bv false)).set (N+2+1) .gone=h++[.gone,.mk 0 4 1 [bv false],mkD D,.gone]:=hs3 hn
    show aw _ _ _ _ _ ((ergH h D lp 4 rdy (misT N a z k .any) vs (bv false)).set (N+2+1) .gone)
    rw[hs]
    show aw _ _ c134q _ _ _
    refine wr'<|E' (Zai lk (cvl lkb rfl) gx rfl (nb' rfl) rfl Zg5 (hs1 hn)) ptn<|sn'<|Zam<|Zaa<|Zah<|?_
    refine ZdS gx (hs2 hn) (rs1 (rr_c gt gx (ld0 gt))) ?_
    refine rT' ?_
    rw[hmis]
  | some x =>
    rw[hf] at hmis
    refine .inr ⟨hga (k:=3) hn rfl,?_⟩
    have hs:(ergH h D lp 4 fin (misT N a z k .any) vs (bv true)).set (N+2+1) .gone=h++[.gone,.mk 0 4 1 [bv true],mkD D,.gone]:=hs3 hn
    show ZeT _ _ _ _ _ _ ((ergH h D lp 4 fin (misT N a z k .any) vs (bv true)).set (N+2+1) .gone)
    rw[hs]
    exact ZdS (hga (k:=2) hn rfl) (hs2 hn) (rs1 (rr_c gt (hga (k:=1) hn rfl) (ld0 gt))) (rT' (by rw[hmis]))
theorem Zr7 {a:List Rul}{z:List Zon}{k:List Lnk}{h:AH}(ha:a.length≤9223372036854775807) (hz:z.length≤20) (hz2 : ∀ y∈z,y.2.length≤8) (hk:k.length≤9223372036854775807):Ac 134 [.agg (srcB a z k)] h (bv (Zi4 (a,z,k))):=by
 have hkk:=hk
 refine tR' k134 fun N hn hlt hlA hbd=>?_
 show aw _ _ c134p _ _ _
 show aw _ _ _ _ [.agg (srcB a z k),.any,.any,.any,.any,.any,.any,.any,.any,.any,.any,.any,.any,.any,.any,.any,.any,.any,.any,.any,.any] _
 refine wr'<|E' (Zbd cv rfl (hl0 hn) ha0) pt<|E' (ZaW (hl1 hn) ha1) pt<|Zar<|?_
 refine Zba (ALe.icePtr gx gt1 (by simp) pt1 (hs0 hn)) ?_
 refine wr'<|Vw (Zbt lk dp2)<|Vw (ZaC lk gt)<|Vw (ZfZ mp)<|?_
 refine Zad mp (Zss (p:=fun l:Lnk=>decide (Zig z l.1<0)) (fun c _ _=>miss1_a om) hkk) pt ?_
 refine sn'<|Zam<|?_
 refine Zaw lk (fun hc1=>?_) (fun hc1=>?_)
 ·have hm:Zi4 (a,z,k)=true:=by unfold Zi4;rw[show (k.any fun l=>decide (Zig z l.1<0))=true from hc1];rfl
  refine wr'<|E' (Zai lk (cvl lkb rfl) gx rfl (nb' rfl) rfl Zg5 (hs1 hn)) ptn<|sn'<|Zaa<|Zah<|?_
  refine Zie (rs1 (rr_c gt gx (ld0 gt))) ?_
  refine rT' ?_
  rw[hm]
 refine Zaf<|Zag<|wr'<|Vw (ZaI lk Zth rfl)<|Zad mp (eras_a) pt<|sn'<|Zaf<|?_
 refine ZrO (T1:=misT N a z k .any) (ALe.same wA' rfl) rfl (hl2 hn) fun lp D rdy bsy fin vs hle hlT hY=>?_
 have hgo:=Zr8 (D:=D) hn hlt ha hz hz2 hY hc1 rfl
 rw[show (h++[Ent.gone,Ent.mk 0 4 1 [bv false]]++[mkD D,Ent.raw lp rdy (misT N a z k .any) vs]:AH)=ergH h D lp 4 rdy (misT N a z k .any) vs (bv false) by simp]
 exact hgo
end Go.Proofs.YtlekejpogddndaaGreatDoor
end
section
namespace Go.Ab
section
variable {P : Program} {n0 : Nat}
def Zmn (P:Program):Code→Option AC
 | .skip=>some .skip
 | .region _ ops draw=>match ops.toList.mapM (ZbF P [] ops) with
  | some al=>if draw=false then some (.reg al) else ZjI P ops
  | none=>none
 | .seq a b=>match Zmn P a,Zmn P b with
  | some x,some y=>some (.seq x y)
  | _,_=>none
 | .block id a=>(Zmn P a).map (.block id)
 | .exit id=>some (.exit id)
 | .ret=>some .ret
 | _=>none
theorem ZnD [Rd] : ∀ (c:Code) (ac:AC),Zmn P c=some ac → ∀ {Q:AX→List AV→AH→Prop}{T:List AV}{h:AH},aw P n0 ac Q T h→AW P n0 c Q T h:=by
 intro c
 induction c with
 | skip=>intro ac hc Q T h hw;cases hc;exact Ztq hw
 | region id ops draw =>
  intro ac hc Q T h hw
  simp only[Zmn] at hc
  split at hc <;> try (cases hc;done)
  rename_i al hm
  split at hc
  ·rename_i hd;subst hd;cases hc;exact ZmL hm hw
  ·rename_i hd
   obtain rfl:draw=true:=by simpa using hd
   unfold ZjI at hc
   split at hc <;> try (cases hc;done)
   rename_i al2 hm2
   split at hc <;> try (cases hc;done)
   rename_i hcond
   cases hc
   exact Zi1 hcond.1 hcond.2 hm2 hw
 | seq a b iha ihb =>
  intro ac hc Q T h hw
  simp only[Zmn] at hc
  split at hc <;> try (cases hc;done)
  rename_i x y hx hy
  cases hc
  refine AW_seq ((iha x hx hw).mono ?_)
  intro z T' h' hq
  cases z <;> simp only[AX.thn] at hq ⊢ <;> first | exact hq | (obtain⟨T1,h1,hle,hq⟩:=hq;exact AW_le hle (ihb y hy hq))
 | cond c a b iha ihb=>intro ac hc;cases hc
 | block id a iha =>
  intro ac hc Q T h hw
  simp only[Zmn,Option.map_eq_some_iff] at hc
  obtain⟨x,hx,rfl⟩:=hc
  exact Zpk (iha x hx hw)
 | loop a iha=>intro ac hc;cases hc
 | rangeFunc f ps x y iha ihb=>intro ac hc;cases hc
 | exit id=>intro ac hc Q T h hw;cases hc;exact Ztr hw
 | scope a iha=>intro ac hc;cases hc
 | label l=>intro ac hc;cases hc
 | goto l=>intro ac hc;cases hc
 | ret=>intro ac hc Q T h hw;cases hc;exact AW_ret hw
 | refuse w=>intro ac hc;cases hc
def ZjL (P:Program) (f:FuncId):Option AF :=
 match P.funcs[f]? with
 | some fn=>if fn.name == "runtime.NumGoroutine" then none else match fn.body with
  | some c=>match Zmn P c,fn.results.toList.mapM (ZfL P) with
   | some ac,some rs=>some ⟨ac,rs,fn.ntmps⟩
   | _,_=>none
  | none=>none
 | none=>none
theorem ACalls.of_awU {f:FuncId}{af:AF}(hc:ZjL P f=some af) {args:List AV}{h:AH}{R:AE→AH→Prop}(hw:aw P h.length af.code (retA af.res R) (args++List.replicate (af.ntmps-args.length) .any) h):ACalls P f args h R:=by
 unfold ZjL at hc
 split at hc <;> try (cases hc;done)
 rename_i fn hfn
 split at hc <;> try (cases hc;done)
 rename_i hname
 split at hc <;> try (cases hc;done)
 rename_i c hb
 split at hc <;> try (cases hc;done)
 rename_i ac rs hac hrs
 cases hc
 letI:Rd:=rdN
 refine ACalls.of_AW hfn hb ?_ ((ZnD c ac hac hw).mono ?_)
 ·simp only[enters,hfn,hb]
  simp only[Bool.not_eq_true] at hname
  simp[bne,hname]
 ·intro x T' h' hq
  cases x <;> simp only[retA,RetQ] at hq ⊢
  ·split at hq <;> try (exact hq.elim)
   rename_i r hr
   exact⟨r,fun w g a hs ht=>ZdC hrs hr hs ht,hq⟩
  ·split at hq <;> try (exact hq.elim)
   rename_i r hr
   exact⟨r,fun w g a hs ht=>ZdC hrs hr hs ht,hq⟩
  ·exact hq
theorem Zhu {f:FuncId}{af:AF}(hc:ZjL P f=some af):enters P f=true:=by
 unfold ZjL at hc
 split at hc <;> try (cases hc;done)
 rename_i fn hfn
 split at hc <;> try (cases hc;done)
 rename_i hname
 split at hc <;> try (cases hc;done)
 rename_i c hb
 simp only[enters,hfn,hb]
 simp only[Bool.not_eq_true] at hname
 simp[bne,hname]
theorem tU' {f:FuncId}{c:AC}{rs:List AR}{m:Nat}{args:List AV}{h:AH}{R:AE→Prop}(hc:ZjL P f=some ⟨c,rs,m⟩) (hw : ∀ n,h.length=n→(∀ e∈h,e.lt n=true)→AV.ltL n args=true→AV.bdL args→aw P n c (retA rs fun x h' => ∃ z,h'=h++z∧x.lt n=true∧R x) (tA' args m) (h++[])) (hl:Nat.ble args.length m=true:=by rfl):ACalls P f args h fun x h'=>h'=h∧R x:=by
 refine ACalls.gc_same ⟨Zhu hc,fun w g vs hs ha=>(ACalls.of_awU hc ?_).2 w g vs hs ha⟩
 have:=hw h.length rfl hs.ltE (RepL.lt (fun i v l hl=>(hs.fresh i v l hl).1) _ _ ha) (RepL.bd _ _ ha)
 rw[List.append_nil] at this
 show aw P h.length c _ (args++List.replicate (m-args.length) .any) h
 rw[Zh3 _ _ (Nat.le_of_ble_eq_true hl)]
 exact this
theorem ZkA {w:World}{g:Gh} : ∀ {vs us:List Value},RepL w g (vs.map .v) us↔us=vs
 | [],us=>by simp only[List.map_nil,RepL]
 | v::vs,us=>by
  simp only[List.map_cons,RepL,Rep,ZkA (vs:=vs)]
  constructor
  ·rintro⟨u,us',rfl,rfl,rfl⟩;rfl
  ·rintro rfl;exact⟨_,_,rfl,rfl,rfl⟩
theorem ACalls.of_turnR {f:FuncId}{args:List AV}{h:AH}{id ver ty st:Nat}{cells cells':List AV}{c:AV}(he:enters P f=true) (hi:h[id]?=some (.mk ver ty st cells)) (hne:cells≠[])
  (hc : ∀ w g (vs:Array Value) b cap arr,SimH w g h→RepL w g args vs.toList→g.loc id ver=some (some ⟨b,0,none⟩,cap)→w.heap[b]?=some (.cells arr ty (0,0))→arr.size=cap*st→cells.length≤arr.size→RepL w g cells (arr.toList.take cells.length) →
   Calls P f vs w fun e w' => ∃ (v:Value) (vs':List Value) (arr':Array Value),e=.returned v∧cells'=vs'.map .v∧w'.heap[b]?=some (.cells arr' ty (0,0))∧arr'.size=arr.size∧vs'.length=cells.length∧arr'.toList.take cells.length=vs' ∧
    w'.os=w.os∧w'.tape=w.tape∧w'.output=w.output∧w.heap.size≤w'.heap.size∧(∀ k,k<w.heap.size→k≠b→w'.heap[k]?=w.heap[k]?)∧Rep w' g c v) :
  ACalls P f args h fun x h'=>x=.ret c∧h'=h.set id (.mk ver ty st cells'):=by
 refine⟨he,fun w g vs hs ha=>?_⟩
 obtain⟨A,cap,f1,fm,f3⟩:=hs.ent _ _ _ _ _ hi
 rcases f3 with ⟨e,_⟩ | ⟨b,arr,rfl,hc0,hd,hb,hsz,hle,hrl⟩
 ·exact absurd e hne
 have hid:id<h.length:=(List.getElem?_eq_some_iff.1 hi).1
 have how:OwAt g h id b:=⟨ver,ty,st,cells,_,cap,hi,f1,hc0,rfl⟩
 refine (hc w g vs b cap arr hs ha f1 hb hsz hle hrl).mono ?_
 rintro e w' ⟨v,vs',arr',rfl,rfl,h1,h2,h3,h4,h5,h6,h7,h8,h9,hv⟩
 have hother : ∀ j,g.D j∨(∃ i,i≠id∧OwAt g h i j)∨(∃ i,RwAt h i j)→w'.heap[j]?=w.heap[j]?:=by
  rintro j (hj | ⟨i,hne',hj⟩ | ⟨i,hj⟩)
  rotate_left 2
  ·exact h9 j (hs.own_not_D (.inr ⟨i,hj⟩)).2 (fun e=>by subst e;exact hs.own_ne_raw how hj)
  ·exact h9 j (hs.lt j hj) (fun e=>hd (e ▸ hj))
  ·exact h9 j (hs.own_not_D (.inl ⟨i,hj⟩)).2 (fun e=>hne' (hs.inj i id j hj (e ▸ how)))
 obtain⟨k1,k2,k3⟩:=hs.put (w':=w') (g':=g) (h':=h.set id (.mk ver ty st (vs'.map .v))) id ver ty st (vs'.map .v) (some ⟨b,0,none⟩) cap
  (fun i hne'=>by rw[List.getElem?_set_ne (Ne.symm hne')]) (by rw[List.getElem?_set_self hid]) (by simp) rfl (fun _ _ _ h=>h) (fun _ _ _ h=>.inl h) f1 (fun v l hv=>(hs.fresh _ _ _ hv).2 _ _ _ _ hi) hother h8 fm
  (.inr ⟨b,arr',rfl,hc0,hd,h1,by rw[h2,hsz],by rw[List.length_map,h3,h2];exact hle,by rw[List.length_map,h3,h4];exact ZkA.2 rfl⟩)
  (fun j hj _ i hne' ho=>by
   simp at hj
   subst hj
   exact hne' (hs.inj i id _ ho how))
 refine⟨.ret c,_,g,hv,k1,k2,⟨h5,h6,h7,h8,fun k hk hn=>h9 k hk (fun e=>hn (.inl ⟨id,e ▸ how⟩))⟩,fun k hk=>?_,rfl,rfl⟩
 ·rcases k3 k hk with ho | ⟨ho,_⟩
  ·exact .inl ho
  ·simp at ho;subst ho;exact .inl (.inl ⟨id,how⟩)
end
end Go.Ab
end
section
namespace Go.Proofs.YtlekejpogddndaaGreatDoor
open Go.Ab Go.Sort
def bsL (l:List ByteArray):List Bs:=l.map aB
def sbL (l:List Bs):List ByteArray:=l.map bA
theorem sb_bs (l:List ByteArray):sbL (bsL l)=l:=by
 unfold sbL bsL;rw[List.map_map]
 have:(bA ∘ aB)=id:=by funext z;rfl
 rw[this,List.map_id]
theorem Zkx (l:List Bs):rows strC (sbL l)=(l.map encStr).map .v:=by
 unfold sbL
 induction l with
 | nil=>rfl
 | cons x l ih=>rw[List.map_cons,List.map_cons,List.map_cons,←ih];rfl
theorem Zd6 (l:List ByteArray):rows strC l=((bsL l).map encStr).map .v:=by rw[←Zkx,sb_bs]
def Zej (l:List ByteArray):List ByteArray:=sbL ((bsL l).mergeSort fun x y=>decide (x≤y))
def Zfw (l:List ByteArray):List Bs:=Lib.compact (bsL l)
theorem Zrs (l:List ByteArray):(Zej l).length=l.length:=by simp[Zej,sbL,bsL]
theorem Zrr {l:List ByteArray}{id v ty:Nat}{h:AH}(he:h[id]?=some (.mk v ty 1 (rows strC l))) (h0:l≠[]) (hl:l.length<4611686018427387904) :
  ACalls Tryz.prog 211 [.own id v l.length] h fun r h'=>r=.ret (.tup [])∧h'=h.set id (.mk v ty 1 (rows strC (Zej l))):=by
 refine ACalls.of_turnR (by kernel_rfl) he ?_ ?_
 ·rw[Zd6];simpa [bsL] using h0
 ·intro w g vs b cap arr hs ha hloc hb hsz hle hr
  simp only[RepL,Rep,hloc] at ha
  obtain⟨u1,us1,e1,⟨A,c,e2,hn1,hn2,rfl⟩,rfl⟩:=ha
  simp only[Option.some.injEq,Prod.mk.injEq] at e2
  obtain⟨rfl,rfl⟩:=e2
  obtain rfl:vs = #[.slice (some ⟨b,0,none⟩) l.length cap]:=by cases vs;simp_all
  have hlen:(rows strC l).length=(bsL l).length:=by rw[Zd6];simp
  have hbl:(bsL l).length=l.length:=by simp[bsL]
  rw[hlen] at hr hle
  rw[Zd6] at hr
  have hr2:=ZkA.1 hr
  have hb':b<w.heap.size:=(Array.getElem?_eq_some_iff.1 hb).1
  have:=Tryz.slices_Sort_string b 0 cap (bsL l) w (holds_of_block hb hr2) hb' (by rw[hbl];exact hl)
  rw[hbl] at this
  refine this.mono ?_
  rintro e w' ⟨rfl,n,os,rfl⟩
  obtain⟨q1,q2,q3,q4,q5⟩:=grownBy_sorted (w:=w) (g:=b) (n:=n) (os:=os) ((bsL l).mergeSort fun x y=>decide (x≤y)).toArray
  have hml:((bsL l).mergeSort fun x y=>decide (x≤y)).length=(bsL l).length:=List.length_mergeSort _
  refine⟨_,((bsL l).mergeSort fun x y=>decide (x≤y)).map encStr,_,rfl,by unfold Zej;rw[Zkx],heap_sorted _ hb,by simp[putCells],by rw[hlen];simp,?_,q1,q2,q3,q4,fun k hk hne=>q5 k hk (by simpa using hne),?_⟩
  ·rw[hlen,←hml]
   exact take_putCells arr _ (by rw[hml];exact hle)
  ·simp only[Rep];exact⟨#[],rfl,by simp only[RepL]⟩
theorem ZsR {l:List ByteArray}{id v ty:Nat}{h:AH}(he:h[id]?=some (.mk v ty 1 (rows strC l))) (h0:l≠[]) (hl:l.length≤9223372036854775807) :
  ACalls Tryz.prog 212 [.own id v l.length] h fun r h'=>r=.ret (.own id v (Zfw l).length)∧h'=h.set id (.mk v ty 1 (rows strC (sbL (Zfw l++List.replicate ((bsL l).length-(Zfw l).length) [])))):=by
 refine ACalls.of_turnR (by kernel_rfl) he ?_ ?_
 ·rw[Zd6];simpa [bsL] using h0
 ·intro w g vs b cap arr hs ha hloc hb hsz hle hr
  simp only[RepL,Rep,hloc] at ha
  obtain⟨u1,us1,e1,⟨A,c,e2,hn1,hn2,rfl⟩,rfl⟩:=ha
  simp only[Option.some.injEq,Prod.mk.injEq] at e2
  obtain⟨rfl,rfl⟩:=e2
  obtain rfl:vs = #[.slice (some ⟨b,0,none⟩) l.length cap]:=by cases vs;simp_all
  have hlen:(rows strC l).length=(bsL l).length:=by rw[Zd6];simp
  have hbl:(bsL l).length=l.length:=by simp[bsL]
  rw[hlen] at hr hle
  rw[Zd6] at hr
  have hr2:=ZkA.1 hr
  have hcl:(Zfw l).length≤(bsL l).length:=Lib.compact_length_le _
  have:=Tryz.slices_Compact_string b 0 cap (bsL l) w (holds_of_block hb hr2) (by rw[hbl];exact hl) (by rw[hbl];omega)
  rw[hbl] at this
  refine this.mono ?_
  rintro e w' ⟨rfl,q,rfl⟩
  have e0:putRow encStr (Sort.ahead w q) b 0 (Lib.compact (bsL l)++List.replicate (l.length-(Lib.compact (bsL l)).length) []).toArray=grow (putRow encStr (Sort.ahead w q) b 0 (Zfw l++List.replicate ((bsL l).length-(Zfw l).length) []).toArray) #[]:=by rw[grow_empty,hbl];rfl
  rw[e0]
  obtain⟨q1,q2,q3,q4,q5⟩:=grownBy_sorted (w:=w) (g:=b) (n:=q) (os := #[]) (Zfw l++List.replicate ((bsL l).length-(Zfw l).length) []).toArray
  have hml:(Zfw l++List.replicate ((bsL l).length-(Zfw l).length) []).length=(bsL l).length:=by rw[List.length_append,List.length_replicate];omega
  refine⟨_,(Zfw l++List.replicate ((bsL l).length-(Zfw l).length) []).map encStr,_,rfl,by rw[Zkx],heap_sorted _ hb,by simp[putCells],by rw[hlen,List.length_map,hml],?_,q1,q2,q3,q4,fun k hk hne=>q5 k hk (by simpa using hne),?_⟩
  ·rw[hlen]
   exact (congrArg (fun n=>List.take n _) hml.symm).trans (take_putCells arr _ (by rw[hml];exact hle))
  ·simp only[Rep];exact⟨_,_,hloc,by omega,hn2,rfl⟩
theorem Zm1 {l:List ByteArray}{id v ty:Nat}{h:AH}(he:h[id]?=some (.mk v ty 1 (rows strC l))) (hl:l.length<4611686018427387904) :
  ACalls Tryz.prog 211 [.own id v l.length] h fun r h'=>r=.ret (.tup [])∧h'=h.set id (.mk v ty 1 (rows strC (Zej l))):=by
 by_cases h0:l=[]
 ·subst h0
  refine⟨by kernel_rfl,fun w g vs hs ha=>?_⟩
  simp only[RepL,Rep] at ha
  obtain⟨val,us,e,⟨A,cap,e1,e2,e3,rfl⟩,rfl⟩:=ha
  obtain rfl:vs = #[.slice A 0 cap]:=by cases vs;simp_all
  refine (Tryz.slices_Sort_string_none A cap w).mono ?_
  rintro e w' ⟨rfl,rfl⟩
  refine⟨.ret (.tup []),h,g,?_,hs,Gh.le.refl g,Fr.refl _ _,fun k hk=>.inl hk,rfl,?_⟩
  ·exact (by simp only[EndR,Rep];exact⟨#[],rfl,by simp[RepL]⟩)
  ·rw[show Zej []=[] by simp[Zej,bsL,sbL]]
   exact (ZcS he).symm
 ·exact Zrr he h0 hl
theorem ZnE {l:List ByteArray}{id v ty:Nat}{h:AH}(he:h[id]?=some (.mk v ty 1 (rows strC l))) (hl:l.length≤9223372036854775807) :
  ACalls Tryz.prog 212 [.own id v l.length] h fun r h'=>r=.ret (.own id v (Zfw l).length)∧h'=h.set id (.mk v ty 1 (rows strC (sbL (Zfw l++List.replicate ((bsL l).length-(Zfw l).length) [])))):=by
 by_cases h0:l=[]
 ·subst h0
  refine⟨by kernel_rfl,fun w g vs hs ha=>?_⟩
  simp only[RepL,Rep] at ha
  obtain⟨val,us,e,⟨A,cap,e1,e2,e3,rfl⟩,rfl⟩:=ha
  obtain rfl:vs = #[.slice A 0 cap]:=by cases vs;simp_all
  refine (Tryz.slices_Compact_string_empty A cap w).mono ?_
  rintro e w' ⟨rfl,rfl⟩
  refine⟨.ret (.own id v 0),h,g,?_,hs,Gh.le.refl g,Fr.refl _ _,fun k hk=>.inl hk,rfl,?_⟩
  ·exact (by simp only[EndR,Rep];exact⟨A,cap,e1,Nat.zero_le _,e3,rfl⟩)
  ·exact (ZcS he).symm
 ·exact ZsR he h0 hl
theorem le_tr (a b c:Bs):a≤b→b≤c→a≤c:=fun h1 h2=>List.le_trans h1 h2
theorem Zq7 {l:List ByteArray}:decide ((Zfw (Zej l)).length<l.length)=decide (¬l.Nodup):=by
 have hperm:(bsL (Zej l)).Perm (bsL l):=by
  have:bsL (Zej l)=(bsL l).mergeSort fun x y=>decide (x≤y):=by
   unfold Zej sbL bsL
   rw[List.map_map]
   have:(aB ∘ bA)=id:=by funext z;simp[aB,bA]
   rw[this,List.map_id]
  rw[this];exact List.mergeSort_perm _ _
 have hsort:(bsL (Zej l)).Pairwise (· ≤ ·):=by
  have e:bsL (Zej l)=(bsL l).mergeSort fun x y=>decide (x≤y):=by
   unfold Zej sbL bsL
   rw[List.map_map]
   have:(aB ∘ bA)=id:=by funext z;simp[aB,bA]
   rw[this,List.map_id]
  rw[e]
  have h:=List.pairwise_mergeSort (le:=fun a b:Bs=>decide (a≤b)) (fun a b c h1 h2=>by simp only[decide_eq_true_eq] at *;exact le_tr _ _ _ h1 h2) (fun a b=>by simp only[Bool.or_eq_true,decide_eq_true_eq];exact List.le_total a b) (bsL l)
  exact h.imp fun h=>by simpa using h
 have hnd:l.Nodup↔(bsL (Zej l)).Nodup:=by
  rw[hperm.nodup_iff]
  unfold bsL
  constructor
  ·intro h
   exact List.pairwise_map.2 (h.imp fun hne e=>hne (by have:=congrArg bA e;exact this))
  ·intro h
   exact (List.pairwise_map.1 h).imp fun hne e=>hne (by rw[e])
 have hlen:(bsL (Zej l)).length=l.length:=by rw[hperm.length_eq];simp[bsL]
 rw[Bool.eq_iff_iff,decide_eq_true_iff,decide_eq_true_iff,hnd,←hlen]
 show (Lib.compact (bsL (Zej l))).length<_↔_
 generalize bsL (Zej l)=L at hsort
 have e:(Lib.compact L).length=((List.range L.length).filter (Lib.keeps L.toArray)).length:=by unfold Lib.compact Lib.compactUpTo;rw[List.length_map]
 rw[e]
 have hr:L.length=(List.range L.length).length:=by simp
 conv=>lhs;rhs;rw[hr]
 rw[List.length_filter_lt_length_iff_exists]
 have hget : ∀ j (h:j<L.length),L.toArray[j]! = L[j]:=fun j h=>by simp[h]
 constructor
 ·rintro⟨j,hj,hk⟩ hnd
  have hj:=List.mem_range.1 hj
  unfold Lib.keeps at hk
  simp only[decide_eq_true_eq,not_or,Decidable.not_not] at hk
  obtain⟨h0,h1⟩:=hk
  rw[hget j hj,hget (j-1) om] at h1
  exact List.pairwise_iff_getElem.1 hnd (j-1) j om hj om h1.symm
 ·intro hnd
  refine Decidable.byContradiction fun hne=>hnd (List.pairwise_iff_getElem.2 fun i j hi hj hij e=>hne ⟨j,List.mem_range.2 hj,?_⟩)
  unfold Lib.keeps
  simp only[decide_eq_true_eq,not_or,Decidable.not_not]
  refine⟨by omega,?_⟩
  rw[hget j hj,hget (j-1) om]
  have h1:L[j-1]≤L[j]:=List.pairwise_iff_getElem.1 hsort (j-1) j om hj om
  have h2:L[i]≤L[j-1]:=by
   by_cases hh:i=j-1
   ·subst hh;exact List.le_refl _
   ·exact List.pairwise_iff_getElem.1 hsort i (j-1) hi om om
  rw[←e] at h1
  rw[←e]
  exact List.le_antisymm h2 h1
end Go.Proofs.YtlekejpogddndaaGreatDoor
end
section
namespace Go.Proofs.YtlekejpogddndaaGreatDoor
open Go.Ab Go.RowKit Civ
attribute [local simp] Zbh Zbr Zbo Zbq Zb5 ZdG ZbS
section
theorem Zgz {a0 a1:AV}{l:List AV}:(a0::a1::l).take 2=[a0,a1]:=rfl
theorem Zfl {a0 a1 c0 c1:AV}{l:List AV}:setCells (a0::a1::l) 0 [c0,c1]=c0::c1::l:=rfl
theorem ZgC {τ:Operand→AV}{y0:Operand}{x0_0:AV}(h0:Zat (τ y0)=some [x0_0]) (l0:[x0_0].all leaf=true):Zas τ [(0,1,y0)] [(.v (.string ⟨#[]⟩))]=some [x0_0]:=by
 simp only[Zas,h0,l0]
 rfl
theorem ZgA {a0:AV}{l:List AV}:(a0::l).take 1=[a0]:=rfl
theorem ZgB {τ:Operand→AV}{y0:Operand}{x0_0:AV}(h0:Zat (τ y0)=some [x0_0]) (l0:[x0_0].all leaf=true):Zas τ [(0,1,y0)] [(.v (.string ⟨#[]⟩))]=some [x0_0]:=by
 simp only[Zas,h0,l0]
 rfl
theorem Zmv {a0 a1 a2:AV}{l:List AV}:(a0::a1::a2::l).take 3=[a0,a1,a2]:=rfl
end
def c210:AC:=(Sr [Oo 1 (.box 26 3 (.tmp 0)),Oo 2 (.mv (.const (.slice none 0 0)))] (Sr [Oo 3 (.mv (.const (.slice none 0 0)))] (.seq (Sr [Fa 8 1 1,Ld 9 8,Oo 10 (.len false (.tmp 9)),Mc 11 0] (.block 0 (.loop (Sr [Bn 12 .lss 11 10] (.seq (Cd 12 .skip (.exit 0)) (.seq (.block 1 (Sr [Oo 13 (.ia 2 (.tmp 9) (.tmp 11)),Oo 14 (.load true 2 (.tmp 13)),Oo 5 (.new 53 2 [Ss,(.sl 0 0 true [])]),⟨none,none,(.store 2 (.tmp 5) (.tmp 14))⟩] (.reg [Mv 15 3,Fa 16 0 5,Ld 17 16,Oo 18 (.lit 9 1 1 [Ss] [(0,(1,(.tmp 17)))]),Oo 19 (.app 9 1 16 (.tmp 15) (.tmp 18)),Mv 3 19]))) (.reg [Bc 20 .add 11 1,Mv 11 20]))))))) (.seq (Sr [Fa 21 2 1,Ld 22 21,Oo 23 (.len false (.tmp 22)),Mc 24 0] (.block 2 (.loop (Sr [Bn 25 .lss 24 23] (.seq (Cd 25 .skip (.exit 2)) (.seq (.block 3 (Sr [Oo 26 (.ia 2 (.tmp 22) (.tmp 24)),Oo 27 (.load true 2 (.tmp 26)),Oo 7 (.new 129 2 [Ss,Ss]),⟨none,none,(.store 2 (.tmp 7) (.tmp 27))⟩] (.reg [Mv 28 3,Fa 29 1 7,Ld 30 29,Oo 31 (.lit 9 1 1 [Ss] [(0,(1,(.tmp 30)))]),Oo 32 (.app 9 1 16 (.tmp 28) (.tmp 31)),Mv 3 32]))) (.reg [Bc 33 .add 24 1,Mv 24 33]))))))) (Sr [Mv 34 3,Mv 2 34] .ret)))))
theorem k210:ZaA Tryz.prog 210=some ⟨c210,[(.tmp 2)],35⟩:=by kernel_rfl
def c133:AC:=(Sr [Oo 1 (.box 26 3 (.tmp 0)),Mb 2 false] (Sr [Oo 4 (.load true 3 (.tmp 1)),Cl 5 210 [(.tmp 4)],Mv 3 5] (Sr [Mv 6 3,Cl 7 211 [(.tmp 6)]] (.seq (.drwU [[],[],[],[0,1,2],[2],[2],[],[]] [Mv 8 3,Cl 9 212 [(.tmp 8)],Oo 10 (.len false (.tmp 9)),Oo 11 (.load true 3 (.tmp 1)),Cl 12 210 [(.tmp 11)],Oo 13 (.len false (.tmp 12)),Bn 14 .lss 10 13,Mv 2 14]) .ret))))
theorem k133:ZjL Tryz.prog 133=some ⟨c133,[(.tmp 2)],15⟩:=by kernel_rfl
def Zde (z:List Zon) (k:List Lnk):List ByteArray:=z.map (·.1)++k.map (·.2)
theorem ZgU (z:List Zon) (k:List Lnk):(Zde z k).length=z.length+k.length:=by simp[Zde]
theorem Zko (x:ByteArray):rows strC [x]=[sv x]:=rfl
theorem names_o {a:List Rul}{z:List Zon}{k:List Lnk}{h:AH}{q:Nat}(hq:h.length+1=q) (hz:z.length≤20) (hk:k.length≤20):ACalls Tryz.prog 210 [.agg (srcB a z k)] h fun x h'=>x=.ret (.own q (Zde z k).length (Zde z k).length)∧h'=h++[.mk 0 26 3 (srcB a z k),.mk (Zde z k).length 9 1 (rows strC (Zde z k))]:=by
 have hnl:=ZgU z k
 have hkk:=hk
 refine tN' k210 fun N hn hlt hlA hbd=>?_
 simp only[tb'] at hbd ⊢
 refine wr'<|E' (Zbd (cvl lk0 rfl) rfl (hl0 hn) ha0) pt1<|mv' lkn pt2<|sn'<|wr'<|mv' lkn pt3<|Zar<|Zba (ALe.own0' (st':=1) (ty:=9) gt3 (hl1 hn) pt3 ha1)<|Zam<|wr'<|?_
 refine Vw (Zab lk)<|Vw (Zac lk gx gt1)<|Vw (ZaL lk)<|mw<|sn'<|Zap<|?_
 refine w_lp (ι:=Nat) (fun (i:Nat)=>[(3,.own (N+1) i i),(11,iv (i:Int)),(5,.any)]++rn' 12 9) (fun (i:Nat)=>[(1,.mk i 9 1 (rows strC ((z.map (·.1)).take i)))]) (fun (i:Nat)=>i≤z.length) (fun (i:Nat)=>z.length-i) (0) (by exact Nat.zero_le _) ?_
 rintro i hi1
 try simp only[sm',Nat.reduceAdd]
 replace hi1:i≤z.length:=hi1
 have htl:((z.map (·.1)).take i).length=i:=by rw[List.length_take,List.length_map];omega
 refine wr'<|Vw (Zbc lk lk)<|sn'<|Zam<|?_
 refine cd' lk (fun hc1=>?_) (fun hc1=>?_)
 ·have hi:i<z.length:=by omega
  have htk:(z.map (·.1)).take (i+1)=(z.map (·.1)).take i++[z[i].1]:=by rw[List.take_succ_eq_append_getElem (by simpa using hi)];simp
  refine Zaf<|Zag<|Zam<|Zap<|wr'<|?_
  refine V' (ZaU lk lk ZcJ (nb' rfl) ro om ro rfl) pt ?_
  refine Vw (ZaI lk Zgz rfl)<|E' (ZaW (hl2 hn) ha2) pt<|E' (Zai lk cv gx rfl (nb' rfl) rfl Zfl (hs2 hn)) ptn<|sn'<|Zav<|mw<|Vw (Zab lk)<|Vw (Zac lk gx gt0)<|E' (ZdL (ZgC cv rfl) (hl3 hn) ha3) pt<|?_
  refine E' (Zdm (Zct lk gx rfl ZgA (nb' rfl)) lk gx ((Zeh _).trans (by rw[htl])) om rfl (hs1 hn)) pt ?_
  refine mw<|Zar<|Zaz<|Zag<|Zav<|?_
  refine V' (Zay lk lki om om) pt ?_
  refine mw<|Zar<|ZaB<|?_
  refine lU' (i+1) (by (try dsimp only);omega) (by (try dsimp only);(try simp only[sm',Nat.reduceAdd]);exact bk' 2 hn hlt (by rw[htk,Za5,Zko];rfl))
 have hie:i=z.length:=by omega
 subst hie
 rw[show (z.map (·.1)).take z.length=z.map (·.1) from List.take_of_length_le (by simp)]
 refine ZaM<|ZaD<|ZaD<|Zbb<|Zag<|Zam<|wr'<|Vw (Zab lk)<|Vw (Zac lk gx gt2)<|Vw (ZaL lk)<|mw<|sn'<|?_
 refine Zap ?_
 refine ZfW (ι:=Nat) (fun (j:Nat)=>[(3,.own (N+1) (z.length+j) (z.length+j)),(24,iv (j:Int)),(7,.any)]++rn' 25 9) (fun (j:Nat)=>[(1,.mk (z.length+j) 9 1 (rows strC (z.map (·.1)++(k.map (·.2)).take j)))]) (fun (j:Nat)=>j≤k.length) (fun (j:Nat)=>k.length-j) (0) (by exact Nat.zero_le _) (by try simp only[sm',Nat.reduceAdd];exact ALe.same wA' (by rw[List.take_zero,List.append_nil];rfl)) ?_
 rintro j hi2
 try simp only[sm',Nat.reduceAdd]
 replace hi2:j≤k.length:=hi2
 have htl2:(z.map (·.1)++(k.map (·.2)).take j).length=z.length+j:=by rw[List.length_append,List.length_map,List.length_take,List.length_map];omega
 refine wr'<|Vw (Zbc lk lk)<|sn'<|Zam<|?_
 refine cd' lk (fun hc2=>?_) (fun hc2=>?_)
 ·have hj:j<k.length:=by omega
  have htk2:(k.map (·.2)).take (j+1)=(k.map (·.2)).take j++[k[j].2]:=by rw[List.take_succ_eq_append_getElem (by simpa using hj)];simp
  refine Zaf<|Zag<|Zam<|Zap<|wr'<|?_
  refine V' (ZaU lk lk ZdT (nb' rfl) ro om ro rfl) pt ?_
  refine Vw (ZaI lk Zgz rfl)<|E' (ZaW (hl2 hn) ha2) pt<|E' (Zai lk cv gx rfl (nb' rfl) rfl Zfl (hs2 hn)) ptn<|sn'<|Zav<|mw<|Vw (Zab lk)<|Vw (Zac lk gx gt1)<|E' (ZdL (ZgB cv rfl) (hl3 hn) ha3) pt<|?_
  refine E' (Zdm (Zct lk gx rfl ZgA (nb' rfl)) lk gx ((Zeh _).trans (by rw[htl2])) om rfl (hs1 hn)) pt ?_
  refine mw<|Zar<|Zaz<|Zag<|Zav<|?_
  refine V' (Zay lk lki om om) pt ?_
  refine mw<|Zar<|ZaB<|?_
  refine lU' (j+1) (by (try dsimp only);omega) (by (try dsimp only);(try simp only[sm',Nat.reduceAdd]);exact bk' 2 hn hlt (by simp only[htk2,Za5,Zko,List.append_assoc];rfl))
 have hje:j=k.length:=by omega
 subst hje
 rw[show (k.map (·.2)).take k.length=k.map (·.2) from List.take_of_length_le (by simp)]
 refine ZaM<|ZaD<|ZaD<|Zbb<|Zag<|wr'<|mw<|mw<|sn'<|Zaa<|Zae rz<|?_
 rw[←hq,hnl,hn];exact⟨rfl,rfl⟩
theorem names_q {a:List Rul}{z:List Zon}{k:List Lnk}{h:AH}(hz:z.length≤20) (hk:k.length≤20):Ac 210 [.agg (srcB a z k)] h (.sl (Zde z k).length 1 false (rows strC (Zde z k))):=by
 have hnl:=ZgU z k
 have hkk:=hk
 refine tW' k210 fun N hn hlt hlA hbd=>?_
 simp only[tb'] at hbd ⊢
 refine wr'<|E' (Zbd (cvl lk0 rfl) rfl (hl0 hn) ha0) pt1<|mv' lkn pt2<|sn'<|wr'<|mv' lkn pt3<|Zar<|Zba (ALe.own0' (st':=1) (ty:=9) gt3 (hl1 hn) pt3 ha1)<|Zam<|wr'<|?_
 refine Vw (Zab lk)<|Vw (Zac lk gx gt1)<|Vw (ZaL lk)<|mw<|sn'<|Zap<|?_
 refine w_lp (ι:=Nat) (fun (i:Nat)=>[(3,.own (N+1) i i),(11,iv (i:Int)),(5,.any)]++rn' 12 9) (fun (i:Nat)=>[(1,.mk i 9 1 (rows strC ((z.map (·.1)).take i)))]) (fun (i:Nat)=>i≤z.length) (fun (i:Nat)=>z.length-i) (0) (by exact Nat.zero_le _) ?_
 rintro i hi1
 try simp only[sm',Nat.reduceAdd]
 replace hi1:i≤z.length:=hi1
 have htl:((z.map (·.1)).take i).length=i:=by rw[List.length_take,List.length_map];omega
 refine wr'<|Vw (Zbc lk lk)<|sn'<|Zam<|?_
 refine cd' lk (fun hc1=>?_) (fun hc1=>?_)
 ·have hi:i<z.length:=by omega
  have htk:(z.map (·.1)).take (i+1)=(z.map (·.1)).take i++[z[i].1]:=by rw[List.take_succ_eq_append_getElem (by simpa using hi)];simp
  refine Zaf<|Zag<|Zam<|Zap<|wr'<|?_
  refine V' (ZaU lk lk ZcJ (nb' rfl) ro om ro rfl) pt ?_
  refine Vw (ZaI lk Zgz rfl)<|E' (ZaW (hl2 hn) ha2) pt<|E' (Zai lk cv gx rfl (nb' rfl) rfl Zfl (hs2 hn)) ptn<|sn'<|Zav<|mw<|Vw (Zab lk)<|Vw (Zac lk gx gt0)<|E' (ZdL (ZgC cv rfl) (hl3 hn) ha3) pt<|?_
  refine E' (Zdm (Zct lk gx rfl ZgA (nb' rfl)) lk gx ((Zeh _).trans (by rw[htl])) om rfl (hs1 hn)) pt ?_
  refine mw<|Zar<|Zaz<|Zag<|Zav<|?_
  refine V' (Zay lk lki om om) pt ?_
  refine mw<|Zar<|ZaB<|?_
  refine lU' (i+1) (by (try dsimp only);omega) (by (try dsimp only);(try simp only[sm',Nat.reduceAdd]);exact bk' 2 hn hlt (by rw[htk,Za5,Zko];rfl))
 have hie:i=z.length:=by omega
 subst hie
 rw[show (z.map (·.1)).take z.length=z.map (·.1) from List.take_of_length_le (by simp)]
 refine ZaM<|ZaD<|ZaD<|Zbb<|Zag<|Zam<|wr'<|Vw (Zab lk)<|Vw (Zac lk gx gt2)<|Vw (ZaL lk)<|mw<|sn'<|?_
 refine Zap ?_
 refine ZfW (ι:=Nat) (fun (j:Nat)=>[(3,.own (N+1) (z.length+j) (z.length+j)),(24,iv (j:Int)),(7,.any)]++rn' 25 9) (fun (j:Nat)=>[(1,.mk (z.length+j) 9 1 (rows strC (z.map (·.1)++(k.map (·.2)).take j)))]) (fun (j:Nat)=>j≤k.length) (fun (j:Nat)=>k.length-j) (0) (by exact Nat.zero_le _) (by try simp only[sm',Nat.reduceAdd];exact ALe.same wA' (by rw[List.take_zero,List.append_nil];rfl)) ?_
 rintro j hi2
 try simp only[sm',Nat.reduceAdd]
 replace hi2:j≤k.length:=hi2
 have htl2:(z.map (·.1)++(k.map (·.2)).take j).length=z.length+j:=by rw[List.length_append,List.length_map,List.length_take,List.length_map];omega
 refine wr'<|Vw (Zbc lk lk)<|sn'<|Zam<|?_
 refine cd' lk (fun hc2=>?_) (fun hc2=>?_)
 ·have hj:j<k.length:=by omega
  have htk2:(k.map (·.2)).take (j+1)=(k.map (·.2)).take j++[k[j].2]:=by rw[List.take_succ_eq_append_getElem (by simpa using hj)];simp
  refine Zaf<|Zag<|Zam<|Zap<|wr'<|?_
  refine V' (ZaU lk lk ZdT (nb' rfl) ro om ro rfl) pt ?_
  refine Vw (ZaI lk Zgz rfl)<|E' (ZaW (hl2 hn) ha2) pt<|E' (Zai lk cv gx rfl (nb' rfl) rfl Zfl (hs2 hn)) ptn<|sn'<|Zav<|mw<|Vw (Zab lk)<|Vw (Zac lk gx gt1)<|E' (ZdL (ZgB cv rfl) (hl3 hn) ha3) pt<|?_
  refine E' (Zdm (Zct lk gx rfl ZgA (nb' rfl)) lk gx ((Zeh _).trans (by rw[htl2])) om rfl (hs1 hn)) pt ?_
  refine mw<|Zar<|Zaz<|Zag<|Zav<|?_
  refine V' (Zay lk lki om om) pt ?_
  refine mw<|Zar<|ZaB<|?_
  refine lU' (j+1) (by (try dsimp only);omega) (by (try dsimp only);(try simp only[sm',Nat.reduceAdd]);exact bk' 2 hn hlt (by simp only[htk2,Za5,Zko,List.append_assoc];rfl))
 have hje:j=k.length:=by omega
 subst hje
 rw[show (k.map (·.2)).take k.length=k.map (·.2) from List.take_of_length_le (by simp)]
 refine ZaM<|ZaD<|ZaD<|Zbb<|?_
 refine Zba (ALe.iceR gx gt3 (List.take_of_length_le (by rw[Zeh];simp)) (by rw[Zeh];simp) pt3 (hs1 hn)) ?_
 refine wr'<|mw<|mw<|sn'<|Zaa<|Zae rz<|rtW'<|?_
 rw[hnl];exact Wk.full
theorem twice_a {a:List Rul}{z:List Zon}{k:List Lnk}{h:AH}(hz:z.length≤20) (hk:k.length≤20):Ac 133 [.agg (srcB a z k)] h (bv (decide (¬(Zde z k).Nodup))):=by
 have hnl:=ZgU z k
 have hsl:=Zrs (Zde z k)
 refine tU' k133 fun N hn hlt hlA hbd=>?_
 simp only[tb'] at hbd ⊢
 refine wr'<|E' (Zbd cv rfl (hl0 hn) ha0) pt<|mw<|Zar<|?_
 refine Zba (ALe.icePtr gx gt1 (by simp) pt1 (hs0 hn)) ?_
 refine wr'<|Vw (ZaI lk Zmv rfl)<|?_
 refine s_callh mp ((names_o (q:=N+2) (by rw[hl1 hn]) hz hk).mono (fun x h' hh=>⟨hh.1,hh.2.trans (show _=h++[_,_,_] from List.append_assoc _ _ _)⟩)) pt ?_
 refine mw<|sn'<|wr'<|mw<|?_
 refine ZaN mp (Zm1 gx om) (hs2 hn) pt ?_
 refine sn'<|Zam<|ZbZ<|u_fr rfl (v_mv lk) pt<|?_
 refine ZcR mp gx (fun hU hUe=>(by have:=ZnE (h:=hU) (l:=Zej (Zde z k)) hUe om;rwa [hsl] at this)) nh (hs2 hn) pt ?_
 refine u_fr rfl (ZcZ lk) pt<|u_fr rfl (ZaI lk Zmv rfl) pt<|?_
 refine u_callF mp (fun hU=>names_q hz hk) pt ?_
 refine u_fr rfl (ZaL lk) pt<|u_fr rfl (Zbc lk lk) pt<|u_fr rfl (v_mv lk) pt<|Zc0<|Zag<|Zaa<|Zae rz<|rT'<|?_
 exact bvx (by rw[←Zq7];simp)
end Go.Proofs.YtlekejpogddndaaGreatDoor
end
section
namespace Go.Proofs.YtlekejpogddndaaGreatDoor
open Go.Ab Go.RowKit Civ
attribute [local simp] Zbh Zbr Zbo Zbq Zb5 ZdG ZdO
section
theorem ZnX {a0 a1 a2 a3 a4 a5 a6 a7 a8 a9 c0 c1 c2 c3 c4 c5 c6 c7 c8 c9:AV}{l:List AV}:setCells (a0::a1::a2::a3::a4::a5::a6::a7::a8::a9::l) 0 [c0,c1,c2,c3,c4,c5,c6,c7,c8,c9]=c0::c1::c2::c3::c4::c5::c6::c7::c8::c9::l:=rfl
theorem Zdv {a0 c0:AV}{l:List AV}:setCells (a0::l) 0 [c0]=c0::l:=rfl
theorem Zgy {a0 a1 a2:AV}{l:List AV}:(a0::a1::a2::l).take 3=[a0,a1,a2]:=rfl
end
def c65p:AC:=(.seq (.reg [⟨(some 1),none,(.box 26 3 (.tmp 0))⟩,⟨(some 2),none,(.new 30 1 [(.v (.int .i64 0))])⟩]) (.seq (.reg [⟨(some 7),none,(.load true 3 (.tmp 1))⟩,⟨(some 8),none,(.call (.func 132) [(.tmp 7)])⟩,⟨(some 3),none,(.mv (.tmp 8))⟩]) (.seq (.block 0 (.seq (.reg [⟨(some 10),none,(.mv (.tmp 3))⟩,⟨(some 11),none,(.bin .neq (.tmp 10) (.const (.int .i64 0)))⟩,⟨(some 9),none,(.mv (.tmp 11))⟩]) (.cond (.tmp 9) (.seq (.reg [⟨(some 12),none,(.mv (.tmp 3))⟩,⟨none,none,(.store 1 (.tmp 2) (.tmp 12))⟩]) .ret) (.seq (.reg [⟨(some 14),none,(.load true 3 (.tmp 1))⟩,⟨(some 15),none,(.call (.func 133) [(.tmp 14)])⟩,⟨(some 13),none,(.mv (.tmp 15))⟩]) (.cond (.tmp 13) (.seq (.reg [⟨none,none,(.store 1 (.tmp 2) (.const (.int .i64 6)))⟩]) .ret) (.seq (.reg [⟨(some 17),none,(.load true 3 (.tmp 1))⟩,⟨(some 18),none,(.call (.func 134) [(.tmp 17)])⟩,⟨(some 16),none,(.mv (.tmp 18))⟩]) (.cond (.tmp 16) (.seq (.reg [⟨none,none,(.store 1 (.tmp 2) (.const (.int .i64 5)))⟩]) .ret) .skip))))))) (.seq (.reg [⟨(some 19),none,(.load true 3 (.tmp 1))⟩,⟨(some 20),none,(.call (.func 135) [(.tmp 19)])⟩]) .skip))))
def c65a:AC:=(.reg [⟨(some 4),none,(.new 63 10 [(.v (.int .i64 0)),(.v (.string ⟨#[]⟩)),(.v (.int .i64 0)),(.v (.string ⟨#[]⟩)),(.v (.bool false)),(.v (.int .i64 0)),(.v (.int .i64 0)),(.v (.int .i64 0)),(.v (.int .i64 0)),(.v (.int .i64 0))])⟩,⟨none,none,(.store 10 (.tmp 4) (.tmp 21))⟩])
def c65b:AC:=(.block 2 (.seq (.seq (.reg [⟨(some 22),none,(.fa 1 (.tmp 4))⟩,⟨(some 23),none,(.load false 1 (.tmp 22))⟩,⟨(some 24),none,(.bin .eql (.tmp 23) (.const (.string ⟨#[]⟩)))⟩]) (.cond (.tmp 24) (.exit 2) .skip)) (.seq (.reg [⟨(some 26),none,(.fa 0 (.tmp 1))⟩,⟨(some 27),none,(.load false 1 (.tmp 26))⟩,⟨(some 28),none,(.fa 1 (.tmp 4))⟩,⟨(some 29),none,(.load false 1 (.tmp 28))⟩,⟨(some 30),none,(.fa 0 (.tmp 4))⟩,⟨(some 31),none,(.load false 1 (.tmp 30))⟩,⟨(some 32),none,(.call (.func 31) [(.tmp 27),(.tmp 29),(.tmp 31)])⟩,⟨(some 25),none,(.mv (.tmp 32))⟩,⟨(some 33),none,(.ext (.tmp 25) 0)⟩,⟨(some 34),none,(.ext (.tmp 25) 1)⟩,⟨(some 5),none,(.mv (.tmp 33))⟩,⟨(some 6),none,(.mv (.tmp 34))⟩]) (.seq (.reg [⟨(some 35),none,(.mv (.tmp 6))⟩,⟨(some 36),none,(.bin .neq (.tmp 35) (.const (.int .i64 0)))⟩]) (.cond (.tmp 36) (.seq (.reg [⟨(some 37),none,(.mv (.tmp 6))⟩,⟨none,none,(.store 1 (.tmp 2) (.tmp 37))⟩]) .ret) .skip)))))
def c65q:AC:=(.seq (.reg [⟨(some 38),none,(.fa 1 (.tmp 1))⟩,⟨(some 39),none,(.load false 1 (.tmp 38))⟩,⟨(some 40),none,(.call (.func 136) [(.tmp 39),(.func 137)])⟩]) (.seq (.cond (.tmp 40) (.seq (.reg [⟨none,none,(.store 1 (.tmp 2) (.const (.int .i64 4)))⟩]) .ret) .skip) (.seq (.reg [⟨none,none,(.store 1 (.tmp 2) (.const (.int .i64 0)))⟩]) (.seq .ret .skip))))
abbrev fr65:AFR:=⟨[(.reg [⟨(some 1),none,(.box 26 3 (.tmp 0))⟩,⟨(some 2),none,(.new 30 1 [(.v (.int .i64 0))])⟩]),(.reg [⟨(some 7),none,(.load true 3 (.tmp 1))⟩,⟨(some 8),none,(.call (.func 132) [(.tmp 7)])⟩,⟨(some 3),none,(.mv (.tmp 8))⟩]),(.block 0 (.seq (.reg [⟨(some 10),none,(.mv (.tmp 3))⟩,⟨(some 11),none,(.bin .neq (.tmp 10) (.const (.int .i64 0)))⟩,⟨(some 9),none,(.mv (.tmp 11))⟩]) (.cond (.tmp 9) (.seq (.reg [⟨(some 12),none,(.mv (.tmp 3))⟩,⟨none,none,(.store 1 (.tmp 2) (.tmp 12))⟩]) .ret) (.seq (.reg [⟨(some 14),none,(.load true 3 (.tmp 1))⟩,⟨(some 15),none,(.call (.func 133) [(.tmp 14)])⟩,⟨(some 13),none,(.mv (.tmp 15))⟩]) (.cond (.tmp 13) (.seq (.reg [⟨none,none,(.store 1 (.tmp 2) (.const (.int .i64 6)))⟩]) .ret) (.seq (.reg [⟨(some 17),none,(.load true 3 (.tmp 1))⟩,⟨(some 18),none,(.call (.func 134) [(.tmp 17)])⟩,⟨(some 16),none,(.mv (.tmp 18))⟩]) (.cond (.tmp 16) (.seq (.reg [⟨none,none,(.store 1 (.tmp 2) (.const (.int .i64 5)))⟩]) .ret) .skip))))))),(.reg [⟨(some 19),none,(.load true 3 (.tmp 1))⟩,⟨(some 20),none,(.call (.func 135) [(.tmp 19)])⟩])],(.tmp 20),#[21],c65a,c65b,c65q,[(.cell 2 false 1)],41⟩
theorem k65:Zhn Tryz.prog 65=some fr65:=by kernel_rfl
def errX (a:List Rul) (x:Era):Int:=if xRl x=⟨#[]⟩ then 0 else (Za8 a (xRl x) (xSh x)).2
def Zb6 (s:Src):Int :=
 if ZbP s≠0 then ZbP s else if ¬(Zde s.2.1 s.2.2).Nodup then 6 else if Zi4 s=true then 5
 else if Za1 (errX s.1) (Zdc s.2.1)≠0 then Za1 (errX s.1) (Zdc s.2.1)
 else if (s.2.1.any fun z=>!risL (Zb1 z.2))=true then 4 else 0
theorem Zit {p:Era→Int}{l:List Era}:Za1 p l=match l.find? (fun x=>decide (p x≠0)) with
  | none=>0
  | some x=>p x:=by
 induction l with
 | nil=>rfl
 | cons x l ih =>
  rw[Za1,List.find?_cons]
  by_cases h:p x≠0
  ·rw[if_pos h,decide_eq_true h]
  rw[if_neg h,decide_eq_false h];exact ih
theorem Zc5 {s:Src}(h:ZbP s=0):s.1.length≤40∧s.2.1.length≤20∧s.2.2.length≤20∧(∀ z∈s.2.1,z.2.length≤8)∧(∀ r∈s.1,Zbu r=0)∧(∀ z∈s.2.1,ZeN z=0) ∧ ∀ l∈s.2.2,Zep l=0:=by
 unfold ZbP at h
 split at h
 ·cases h
 rename_i h1
 split at h
 ·rename_i h2;exact absurd h h2
 rename_i h2
 split at h
 ·rename_i h3;exact absurd h h3
 rename_i h3
 have h1:ZeM s=false:=by simpa using h1
 unfold ZeM at h1
 simp only[Bool.or_eq_false_iff,decide_eq_false_iff_not,List.any_eq_false,decide_eq_true_eq] at h1
 exact⟨by omega,by omega,by omega,fun z hz=>by have:=h1.1.1.1 z hz;omega,Zdr (Decidable.of_not_not h2),Zdr (Decidable.of_not_not h3),Zdr h⟩
theorem Zds {s:Src}(h:ZbP s=0) {z:Zon}(hz:z∈s.2.1):okZ z.2:=by
 obtain⟨_,_,_,h4,_,h6,_⟩:=Zc5 h
 exact okZ_of (h6 z hz) (h4 z hz)
abbrev chkT (N:Nat) (a:List Rul) (z:List Zon) (k:List Lnk) (x:AV):List AV:=[.any,.rp (srcB a z k),.ptr (N+1) 0 0,.any,.any,.any,.any,.any,.any,.any,.any,.any,.any,.any,.any,.any,.any,.any,.any,.any,.clo (.func 217) [.rp (srcB a z k)],x,.any,.any,.any,.any,.any,.any,.any,.any,.any,.any,.any,.any,.any,.any,.any,.any,.any,.any,.any]
theorem chkT_lt {N:Nat}{a:List Rul}{z:List Zon}{k:List Lnk}:AV.ltL (N+4) (chkT N a z k .any)=true:=by simp[AV.ltL,AV.lt,Zbh,Zbo,Zbq]
theorem Ziz {h:AH}{lp N D:Nat}{rdy bsy fin:Obj}{a:List Rul}{z:List Zon}{k:List Lnk}{vs:List Value}(hn:h.length=N) (hlt : ∀ e∈h,e.lt N=true) (ha:a.length≤9223372036854775807) (hok:okRs a)
  (hY:Zk4 Tryz.prog fr65 (N+2+1) lp rdy bsy fin (chkT N a z k .any) vs) {x:Era} {e f:Ent} :
  AYield Tryz.prog lp [.agg (eraC x)] (ergJ h D lp 30 rdy (chkT N a z k .any) vs (iv 0) e f) fun r h''=>r=.ret (.v (.bool (!decide (errX a x≠0))))∧h''=ergJ h D lp 30 (if errX a x≠0 then fin else rdy) (chkT N a z k .any) vs (iv (errX a x)) e f:=by
 refine y_go hY (hga (k:=3) hn rfl) rfl fun n0 hn0 hlt0 q1 q2 q3=>?_
 have hm:n0=N+6:=by rw[←hn0];simp[hn]
 have hE:=hlt0 e (by simp)
 have hF:=hlt0 f (by simp)
 have hR:=hlt0 (.raw lp rdy (chkT N a z k .any) vs) (by simp)
 show aw _ _ c65a _ _ _
 show aw _ _ _ _ (chkT N a z k (.agg (eraC x))) (h++[.gone,.mk 0 30 1 [iv 0],mkD D,.raw lp rdy (chkT N a z k .any) vs,e,f])
 refine Zav<|E' (ZaW (hl6 hn) ha6) pt<|E' (Zai lk cv gx rfl (nb' rfl) rfl ZnX (hs6 hn)) ptn<|Zar<|?_
 refine Zs4 (i:=N+3) gx (hs3 hn) fun n1 hn1 hlt1=>?_
 have hro : ∀ o:Obj,Ent.lt n0 (.raw lp o (chkT N a z k .any) vs)=true:=fun o=>by simpa [Ent.lt] using hR
 have fin2 : ∀ (n:Int) (b:Bool) (o:Obj) (E:Ent),n=errX a x→b=!decide (errX a x≠0)→o=(if errX a x≠0 then fin else rdy) → ∃ y z',h++[.gone,.mk 0 30 1 [iv n],mkD D,.raw lp o (chkT N a z k .any) vs,e,f,E]=y++z'∧y.length=n0∧(∀ e∈y,e.lt n0=true)∧(AE.ret (.v (.bool b))).lt n0=true∧AE.ret (.v (.bool b))=.ret (.v (.bool (!decide (errX a x≠0))))∧y=ergJ h D lp 30 (if errX a x≠0 then fin else rdy) (chkT N a z k .any) vs (iv (errX a x)) e f:=by
  rintro n b o E rfl rfl rfl
  refine⟨_,_,app61,by rw[←hn0];simp,fun y hy=>?_,rfl,rfl,rfl⟩
  rcases List.mem_append.1 hy with hy | hy
  ·exact ltw om hlt y hy
  simp only[List.mem_cons,List.not_mem_nil,or_false] at hy
  rcases hy with rfl | rfl | rfl | rfl | rfl | rfl
  ·simp[Ent.lt]
  ·simp[Ent.lt,AV.ltL,AV.lt]
  ·simp[Ent.lt,AV.ltL]
  ·exact hro _
  ·exact hE
  exact hF
 show aw _ _ c65b _ _ _
 refine Zap<|Zam<|wr'<|Vw (Zab lk)<|Vw (Zac lk gx gt1)<|Vw (Zcp lk lks)<|sn'<|?_
 refine cd' lk (fun hc1=>?_) (fun hc1=>?_)
 ·have hP:errX a x=0:=if_pos hc1
  refine ZaM<|ZaD<|Zbb<|?_
  exact ZiD (i:=N+3) gx (hs3 hn) (fin2 0 true rdy _ hP.symm (by rw[hP];rfl) (by rw[hP];rfl))
 have hP:errX a x=(Za8 a (xRl x) (xSh x)).2:=if_neg hc1
 refine Zaf<|Zag<|wr'<|Vw (Zbt lk dp0)<|Vw (ZaC lk gt)<|Vw (Zab lk)<|Vw (Zac lk gx gt1)<|Vw (Zab lk)<|Vw (Zac lk gx gt0)<|Zad mp (ZhW hok ha) pt<|mw<|Vw (ZaS lk gt)<|Vw (ZaS lk gt)<|?_
 refine mw<|mw<|sn'<|wr'<|mw<|Vw (ZaX lk lki)<|sn'<|?_
 refine cd' lk (fun hc2=>?_) (fun hc2=>?_)
 ·have hP2:errX a x≠0:=by rw[hP];exact hc2
  refine wr'<|mw<|E' (Zai lk cv gx rfl (nb' rfl) rfl Zdv (hs1 hn)) ptn<|sn'<|Zaa<|Zaq<|?_
  refine Zpe (i:=N+3) gx (hs3 hn) (fin2 _ false fin _ hP.symm (by rw[decide_eq_true hP2];rfl) (by rw[if_pos hP2]))
 have hP2:errX a x=0:=by rw[hP];exact Decidable.of_not_not hc2
 refine Zaf<|Zaz<|?_
 exact ZiD (i:=N+3) gx (hs3 hn) (fin2 0 true rdy _ hP2.symm (by rw[hP2];rfl) (by rw[hP2];rfl))
theorem Zp3 {h:AH}{lp N D:Nat}{rdy bsy fin:Obj}{a:List Rul}{z:List Zon}{k:List Lnk}{vs:List Value}(hn:h.length=N) (hlt : ∀ e∈h,e.lt N=true) (hok:okRs a) (hc:ZbP (a,z,k)=0)
    (hY:Zk4 Tryz.prog fr65 (N+2+1) lp rdy bsy fin (chkT N a z k .any) vs) (hnd:(Zde z k).Nodup) (hms:Zi4 (a,z,k)=false) {R:AE→AH→Prop} (hR:R=fun x h' => ∃ z',h'=h++z'∧x.lt N=true∧x=.ret (iv (Zb6 (a,z,k)))) :
    ACalls Tryz.prog 217 (.v (.func (.yield lp) #[] #[])::[.rp (srcB a z k)]) (ergH h D lp 30 rdy (chkT N a z k .any) vs (iv 0)) fun r h3=>(∃ c,r=.ret c) ∧
      ((h3[N+2+1]?=some (.raw lp rdy (chkT N a z k .any) vs) ∧ ∀ n0,(h3.set (N+2+1) .gone).length=n0→(∀ e∈h3.set (N+2+1) .gone,e.lt n0=true)→aw Tryz.prog n0 fr65.post (ZeT fr65.res (N+2) D R) (chkT N a z k .any) (h3.set (N+2+1) .gone)) ∨
       (h3[N+2+1]?=some (.raw lp fin (chkT N a z k .any) vs)∧ZeT fr65.res (N+2) D R .ret (chkT N a z k .any) (h3.set (N+2+1) .gone))):=by
  obtain⟨q1,q2,q3,q4,q5,q6,q7⟩:=Zc5 hc
  simp only at q1 q2 q3 q4 q5 q6 q7
  have hZ:Zb6 (a,z,k)=if Za1 (errX a) (Zdc z)≠0 then Za1 (errX a) (Zdc z) else if (z.any fun z=>!risL (Zb1 z.2))=true then 4 else 0:=by
    unfold Zb6
    rw[if_neg (by rw[hc];simp),if_neg (by simpa using hnd),if_neg (by rw[hms];simp)]
  refine (ZsE (h:=ergH h D lp 30 rdy (chkT N a z k .any) vs (iv 0)) (p:=fun x=>decide (errX a x≠0)) (hS:=fun x=>ergH h D lp 30 fin (chkT N a z k .any) vs (iv (errX a x))) q2 q4 (fun _=>(hl4 hn).trans (hl4 hn).symm) (fun _=>by rw[hl4 hn];exact ZsD hlt chkT_lt rfl) (fun x _ e f hp=>?_) (fun x _ e f hp=>?_)).mono ?_
  · have hp':errX a x=0:=by simpa using hp
    have:=Ziz (e:=e) (f:=f) (D:=D) (x:=x) hn hlt om hok hY
    rw[hp'] at this
    rw[ZgY]
    exact this
  · have hp':errX a x≠0:=by simpa using hp
    have:=Ziz (e:=e) (f:=f) (D:=D) (x:=x) hn hlt om hok hY
    rw[if_pos hp',decide_eq_true hp'] at this
    rw[ZgY,ZgY]
    exact this
  rintro x h3 ⟨rfl,rfl⟩
  refine⟨⟨_,rfl⟩,?_⟩
  rw[Zit] at hZ
  subst hR
  cases hf:(Zdc z).find? (fun x=>decide (errX a x≠0)) with
  | none =>
    rw[hf] at hZ
    simp only[ne_eq,not_true_eq_false,if_false] at hZ
    refine .inl ⟨hga (k:=3) hn rfl,fun n0 hn0 _=>?_⟩
    have hs:(ergH h D lp 30 rdy (chkT N a z k .any) vs (iv 0)).set (N+2+1) .gone=h++[.gone,.mk 0 30 1 [iv 0],mkD D,.gone]:=hs3 hn
    show aw _ _ _ _ _ ((ergH h D lp 30 rdy (chkT N a z k .any) vs (iv 0)).set (N+2+1) .gone)
    rw[hs]
    show aw _ _ c65q _ _ _
    refine wr'<|Vw (Zbt lk dp1)<|Vw (ZaC lk gt)<|?_
    refine Zad mp (Zsr (p:=fun z:Zon=>!risL (Zb1 z.2)) (fun c hc' _=>check1_a (Zds (s:=(a,z,k)) hc hc')) om) pt ?_
    refine sn'<|Zam<|?_
    refine Zaw lk (fun hc1=>?_) (fun hc1=>?_)
    · rw[if_pos hc1] at hZ
      refine wr'<|E' (Zai lk (cvl lki rfl) gx rfl (nb' rfl) rfl Zdv (hs1 hn)) ptn<|sn'<|Zaa<|Zah<|?_
      refine ZdS gx (hs2 hn) (rs1 (rr_c gt gx (ld0 gt))) ?_
      refine rT' ?_
      rw[hZ]
    rw[if_neg (by rw[hc1];simp)] at hZ
    refine Zaf<|Zag<|wr'<|E' (Zai lk (cvl lki rfl) gx rfl (nb' rfl) rfl Zdv (hs1 hn)) ptn<|sn'<|Zam<|Zaa<|Zah<|?_
    refine ZdS gx (hs2 hn) (rs1 (rr_c gt gx (ld0 gt))) ?_
    refine rT' ?_
    rw[hZ]
  | some x =>
    rw[hf] at hZ
    have hx:errX a x≠0:=by have:=List.find?_some hf;simpa using this
    simp only at hZ
    rw[if_pos hx] at hZ
    refine .inr ⟨hga (k:=3) hn rfl,?_⟩
    have hs:(ergH h D lp 30 fin (chkT N a z k .any) vs (iv (errX a x))).set (N+2+1) .gone=h++[.gone,.mk 0 30 1 [iv (errX a x)],mkD D,.gone]:=hs3 hn
    show ZeT _ _ _ _ _ _ ((ergH h D lp 30 fin (chkT N a z k .any) vs (iv (errX a x))).set (N+2+1) .gone)
    rw[hs]
    exact ZdS (hga (k:=2) hn rfl) (hs2 hn) (rs1 (rr_c gt (hga (k:=1) hn rfl) (ld0 gt))) (rT' (by rw[hZ]))
theorem ZgT {s:Src}(h:ZeL s):okRs s.1:=fun r hr=>h.1 r hr
theorem Zof {a:List Rul}{z:List Zon}{k:List Lnk}{h:AH}(hok:ZeL (a,z,k)):Ac 65 [.agg (srcB a z k)] h (iv (Zb6 (a,z,k))):=by
 refine tR' k65 fun N hn hlt hlA hbd=>?_
 show aw _ _ c65p _ _ _
 show aw _ _ _ _ [.agg (srcB a z k),.any,.any,.any,.any,.any,.any,.any,.any,.any,.any,.any,.any,.any,.any,.any,.any,.any,.any,.any,.any,.any,.any,.any,.any,.any,.any,.any,.any,.any,.any,.any,.any,.any,.any,.any,.any,.any,.any,.any,.any] _
 refine wr'<|E' (Zbd cv rfl (hl0 hn) ha0) pt<|E' (ZaW (hl1 hn) ha1) pt<|Zar<|?_
 refine Zba (ALe.icePtr gx gt1 (by simp) pt1 (hs0 hn)) ?_
 refine wr'<|Vw (ZaI lk Zgy rfl)<|Zad mp (scheck_b hok) pt<|mw<|sn'<|Zam<|Zap<|wr'<|mw<|Vw (ZaX lk lki)<|mw<|?_
 refine sn' ?_
 refine cd' lk (fun hc1=>?_) (fun hc1=>?_)
 ·have hZ:Zb6 (a,z,k)=ZbP (a,z,k):=if_pos hc1
  refine wr'<|mw<|E' (Zai lk cv gx rfl (nb' rfl) rfl Zdv (hs1 hn)) ptn<|sn'<|Zaa<|Zaq<|Zah<|?_
  refine Zie (rs1 (rr_c gt gx (ld0 gt))) ?_
  refine rT' ?_
  rw[hZ]
 have hc:ZbP (a,z,k)=0:=Decidable.of_not_not hc1
 obtain⟨q1,q2,q3,q4,q5,q6,q7⟩:=Zc5 hc
 simp only at q1 q2 q3 q4 q5 q6 q7
 refine wr'<|Vw (ZaI lk Zgy rfl)<|Zad mp (twice_a q2 q3) pt<|mw<|sn'<|?_
 refine Zaw lk (fun hc2=>?_) (fun hc2=>?_)
 ·have hZ:Zb6 (a,z,k)=6:=by unfold Zb6;rw[if_neg hc1,if_pos (of_decide_eq_true hc2)]
  refine wr'<|E' (Zai lk (cvl lki rfl) gx rfl (nb' rfl) rfl Zdv (hs1 hn)) ptn<|sn'<|Zaa<|Zaq<|Zah<|?_
  refine Zie (rs1 (rr_c gt gx (ld0 gt))) ?_
  refine rT' ?_
  rw[hZ]
 have hnd:(Zde z k).Nodup:=Decidable.of_not_not (of_decide_eq_false hc2)
 refine wr'<|Vw (ZaI lk Zgy rfl)<|?_
 refine Zad mp (Zr7 om q2 q4 om) pt ?_
 refine mw<|sn'<|?_
 refine Zaw lk (fun hc3=>?_) (fun hc3=>?_)
 ·have hZ:Zb6 (a,z,k)=5:=by unfold Zb6;rw[if_neg hc1,if_neg (by simpa using hnd),if_pos hc3]
  refine wr'<|E' (Zai lk (cvl lki rfl) gx rfl (nb' rfl) rfl Zdv (hs1 hn)) ptn<|sn'<|Zaa<|Zaq<|Zah<|?_
  refine Zie (rs1 (rr_c gt gx (ld0 gt))) ?_
  refine rT' ?_
  rw[hZ]
 refine Zaf<|Zaz<|Zag<|wr'<|Vw (ZaI lk Zgy rfl)<|Zad mp (eras_a) pt<|sn'<|Zaf<|?_
 refine ZrO (T1:=chkT N a z k .any) (ALe.same wA' rfl) rfl (hl2 hn) fun lp D rdy bsy fin vs hle hlT hY=>?_
 have hgo:=Zp3 (D:=D) hn hlt (ZgT hok) hc hY hnd hc3 rfl
 rw[show (h++[Ent.gone,Ent.mk 0 30 1 [iv 0]]++[mkD D,Ent.raw lp rdy (chkT N a z k .any) vs]:AH)=ergH h D lp 30 rdy (chkT N a z k .any) vs (iv 0) by simp]
 exact hgo
end Go.Proofs.YtlekejpogddndaaGreatDoor
end
section
namespace Go.Proofs.YtlekejpogddndaaGreatDoor
open Go.Ab Go.RowKit Civ
attribute [local simp] Zbh Zbr Zbo Zbq Zb5 ZdG ZdO
section
theorem Zfk {a0 a1 a2:AV}{l:List AV}:((a0::a1::a2::l).drop 0).take 3=[a0,a1,a2]:=rfl
theorem ZnW {τ:Operand→AV}:Zas τ [] [(.v (.string ⟨#[]⟩)),(.sl 0 0 true [])]=some [(.v (.string ⟨#[]⟩)),(.sl 0 0 true [])]:=rfl
theorem Zdu {a0 a1 c0 c1:AV}{l:List AV}:setCells (a0::a1::l) 0 [c0,c1]=c0::c1::l:=rfl
theorem Zdt {a0 a1:AV}{l:List AV}:((a0::a1::l).drop 0).take 2=[a0,a1]:=rfl
theorem Zmu {τ:Operand→AV}:Zas τ [] [(.v (.string ⟨#[]⟩)),(.sl 0 0 true [])]=some [(.v (.string ⟨#[]⟩)),(.sl 0 0 true [])]:=rfl
theorem Ztg {a0 a1:AV}{l:List AV}:(a0::a1::l).take 2=[a0,a1]:=rfl
theorem Zqh {τ:Operand→AV}:Zas τ [] []=some []:=rfl
theorem Zqg {a0 a1 c0:AV}{l:List AV}:setCells (a0::a1::l) 1 [c0]=a0::c0::l:=rfl
end
def c66:AC:=(Sr [Oo 2 (.box 26 3 (.tmp 0)),Oo 4 (.new 53 2 [Ss,(.sl 0 0 true [])]),Mc 5 0] (.seq (Sr [Oo 8 (.load true 3 (.tmp 2)),Cl 9 65 [(.tmp 8)],Mv 6 9] (Sr [Mv 10 6,Bc 11 .neq 10 0] (Cd 11 (Sr [Oo 12 (.build [Ss,(.sl 0 0 true [])] []),Mv 13 6,⟨none,none,(.store 2 (.tmp 4) (.tmp 12))⟩,Mv 5 13] .ret) .skip))) (Sr [Oo 14 (.load true 3 (.tmp 2)),Mv 15 1,Cl 16 139 [(.tmp 14),(.tmp 15)],Mv 7 16] (.seq (Sr [Mv 17 7,Bc 18 .lss 17 0] (Cd 18 (Sr [Oo 19 (.build [Ss,(.sl 0 0 true [])] []),⟨none,none,(.store 2 (.tmp 4) (.tmp 19))⟩,Mc 5 5] .ret) .skip)) (Sr [Fa 20 1 2,Ld 21 20,Mv 22 7,Oo 23 (.ia 2 (.tmp 21) (.tmp 22)),Oo 24 (.load true 2 (.tmp 23)),⟨none,none,(.store 2 (.tmp 4) (.tmp 24))⟩,Mc 5 0] .ret)))))
theorem k66:ZaA Tryz.prog 66=some ⟨c66,[(.cell 4 true 2),(.tmp 5)],25⟩:=by kernel_rfl
def c30:AC:=(Sr [Oo 2 (.box 26 3 (.tmp 0)),Oo 4 (.new 53 2 [Ss,(.sl 0 0 true [])]),Mc 5 0] (Sr [Oo 9 (.load true 3 (.tmp 2)),Mv 10 1,Cl 11 66 [(.tmp 9),(.tmp 10)],Mv 8 11,Ex 12 8 0,Ex 13 8 1,Oo 6 (.new 53 2 [Ss,(.sl 0 0 true [])]),⟨none,none,(.store 2 (.tmp 6) (.tmp 12))⟩,Mv 7 13] (Sr [Fa 14 1 6,Ld 15 14,Cl 16 85 [(.tmp 15)],Fa 17 1 6,Sc 17 16] (Sr [Oo 18 (.load true 2 (.tmp 6)),Mv 19 7,⟨none,none,(.store 2 (.tmp 4) (.tmp 18))⟩,Mv 5 19] .ret))))
theorem k30:ZaA Tryz.prog 30=some ⟨c30,[(.cell 4 true 2),(.tmp 5)],20⟩:=by kernel_rfl
def c64:AC:=(Sr [Oo 2 (.box 26 3 (.tmp 0)),Oo 4 (.mv (.const (.slice none 0 0))),Mc 5 0] (Sr [Oo 9 (.load true 3 (.tmp 2)),Mv 10 1,Cl 11 66 [(.tmp 9),(.tmp 10)],Mv 8 11,Ex 12 8 0,Ex 13 8 1,Oo 6 (.new 53 2 [Ss,(.sl 0 0 true [])]),⟨none,none,(.store 2 (.tmp 6) (.tmp 12))⟩,Mv 7 13] (.seq (Sr [Mv 14 7,Bc 15 .neq 14 0] (Cd 15 (Sr [Mv 16 7,Oo 4 (.mv (.const (.slice none 0 0))),Mv 5 16] .ret) .skip)) (Sr [Oo 17 (.load true 2 (.tmp 6)),Cl 18 131 [(.tmp 17)],Mv 4 18,Mc 5 0] .ret))))
theorem k64:ZaA Tryz.prog 64=some ⟨c64,[(.tmp 4),(.tmp 5)],19⟩:=by kernel_rfl
def c85:AC:=(Sr [Oo 2 (.mv (.const (.slice none 0 0)))] (.seq (Sr [Mv 3 0,Oo 4 (.eqn false (.tmp 3))] (Cd 4 (Sr [Oo 2 (.mv (.const (.slice none 0 0)))] .ret) .skip)) (Sr [Oo 5 (.lit 63 10 0 [] []),Mv 6 0,Oo 7 (.app 63 10 96 (.tmp 5) (.tmp 6)),Mv 2 7] .ret)))
theorem k85:ZaA Tryz.prog 85=some ⟨c85,[(.tmp 2)],8⟩:=by kernel_rfl
def zonO:Zon:=(⟨#[]⟩,[])
def tgtV (s:Src) (nm:ByteArray):ByteArray:=match s.2.2[s.2.2.findIdx fun l=>decide (l.2=nm)]? with
 | some l=>l.1
 | none=>nm
def Za7 (s:Src) (nm:ByteArray):Zon×Int :=
 if Zb6 s≠0 then (zonO,Zb6 s) else match s.2.1[s.2.1.findIdx fun z=>decide (z.1=tgtV s nm)]? with
 | some z=>(z,0)
 | none=>(zonO,5)
theorem ZpS {s:Src}{nm:ByteArray}(h0:Zb6 s=0) (h:¬s.2.1.findIdx (fun z=>decide (z.1=tgtV s nm))<s.2.1.length):Za7 s nm=(zonO,5):=by
 unfold Za7;rw[if_neg (by simp[h0]),List.getElem?_eq_none (Nat.le_of_not_lt h)]
theorem ZpR {s:Src}{nm:ByteArray}(h0:Zb6 s=0) (h:s.2.1.findIdx (fun z=>decide (z.1=tgtV s nm))<s.2.1.length):Za7 s nm=(s.2.1[s.2.1.findIdx fun z=>decide (z.1=tgtV s nm)],0):=by
 unfold Za7;rw[if_neg (by simp[h0]),List.getElem?_eq_getElem h]
theorem Zq3 {e:AV}:Wk (.tup [.agg [sv ⟨#[]⟩,.sl 0 0 true []],e]) (.tup [.agg (zonC zonO),e]):=Wk.tup (wkw (Wk.agg (wk1 rfl (wkw Wk.nilF wk0))) (wk1 rfl wk0))
theorem ZsC {a:List Rul}{z:List Zon}{k:List Lnk}{nm:ByteArray}{h:AH}(hok:ZeL (a,z,k)):Ac 66 [.agg (srcB a z k),sv nm] h (.tup [.agg (zonC (Za7 (a,z,k) nm).1),iv (Za7 (a,z,k) nm).2]):=by
 refine tW' k66 fun N hn hlt hlA hbd=>?_
 simp only[tb'] at hbd ⊢
 refine wr'<|E' (Zbd cv rfl (hl0 hn) ha0) pt<|E' (ZaW (hl1 hn) ha1) pt<|mw<|sn'<|Zam<|wr'<|Vw (Zao lk gx Zfk rfl)<|Zad mp (Zof hok) pt<|mw<|Zar<|?_
 refine Zag<|wr'<|mw<|Vw (ZaX lk lki)<|sn'<|?_
 refine cd' lk (fun hc1=>?_) (fun hc1=>?_)
 ·have hF:Za7 (a,z,k) nm=(zonO,Zb6 (a,z,k)):=if_pos hc1
  refine wr'<|Vw (Zau ZnW)<|mw<|E' (Zai lk cv gx rfl (nb' rfl) rfl Zdu (hs1 hn)) ptn<|mw<|sn'<|Zaa<|Zah<|Zae (rsn (rm1 (rr_c gt gx (ld1 Zdt rfl)) (rm1 (rr_t gt) rm0)))<|rtW'<|?_
  rw[hF];exact Zq3
 have hz0:Zb6 (a,z,k)=0:=Decidable.of_not_not hc1
 have hce:ZbP (a,z,k)=0:=by unfold Zb6 at hz0;split at hz0;(rename_i hh;exact absurd hz0 hh);(rename_i hh;exact Decidable.of_not_not hh)
 obtain⟨q1,q2,q3,q4,q5,q6,q7⟩:=Zc5 hce
 simp only at q1 q2 q3 q4 q5 q6 q7
 refine Zaf<|Zag<|wr'<|Vw (Zao lk gx Zfk rfl)<|mw<|?_
 refine Zad mp (look_a om om) pt ?_
 refine mw<|sn'<|Zam<|wr'<|mw<|Vw (Zbc lk lki)<|sn'<|?_
 refine cd' lk (fun hc2=>?_) (fun hc2=>?_)
 ·have hlt':¬z.findIdx (fun y:Zon=>decide (y.1=tgtV (a,z,k) nm))<z.length:=fun hh=>by have:ZpH (a,z,k) nm=((z.findIdx fun y:Zon=>decide (y.1=tgtV (a,z,k) nm):Nat):Int):=if_pos hh;omega
  have hF:Za7 (a,z,k) nm=(zonO,5):=ZpS hz0 hlt'
  refine wr'<|Vw (Zau Zmu)<|E' (Zai lk cv gx rfl (nb' rfl) rfl Zdu (hs1 hn)) ptn<|mw<|sn'<|Zaa<|Zah<|Zae (rsn (rm1 (rr_c gt gx (ld1 Zdt rfl)) (rm1 (rr_t gt) rm0)))<|rtW'<|?_
  rw[hF];exact Zq3
 have hlt':z.findIdx (fun y:Zon=>decide (y.1=tgtV (a,z,k) nm))<z.length:=Decidable.byContradiction fun hh=>by have:ZpH (a,z,k) nm = -1:=if_neg hh;omega
 have hix:ZpH (a,z,k) nm=((z.findIdx fun y:Zon=>decide (y.1=tgtV (a,z,k) nm):Nat):Int):=if_pos hlt'
 have hF:Za7 (a,z,k) nm=(z[z.findIdx fun y:Zon=>decide (y.1=tgtV (a,z,k) nm)],0):=ZpR hz0 hlt'
 refine Zaf<|Zag<|wr'<|Vw (Zab lk)<|Vw (Zac lk gx gt1)<|mw<|?_
 refine V' (ZaU lk lk (fun _=>rfl) (nb' rfl) ro om ro rfl) pt ?_
 refine Vw (ZaI lk Ztg rfl)<|E' (Zai lk cv gx rfl (nb' rfl) rfl Zdu (hs1 hn)) ptn<|mw<|sn'<|Zaa<|Zae (rsn (rm1 (rr_c gt gx (ld1 Zdt rfl)) (rm1 (rr_t gt) rm0)))<|rtW'<|?_
 rw[hF];exact Wk.refl _
theorem Zex {s:Src}(h:Zb6 s=0):ZbP s=0:=by
 unfold Zb6 at h
 split at h
 ·rename_i hh;exact absurd h hh
 rename_i hh;exact Decidable.of_not_not hh
theorem ZfJ {s:Src}{nm:ByteArray}(h:(Za7 s nm).2=0):Zb6 s=0∧(Za7 s nm).1∈s.2.1∧(Za7 s nm).1.1=tgtV s nm:=by
 unfold Za7 at h ⊢
 split at h
 ·rename_i h1;exact absurd h h1
 rename_i h1
 rw[if_neg h1]
 split at h
 ·rename_i z hz
  refine⟨Decidable.of_not_not h1,List.mem_of_getElem? hz,?_⟩
  obtain⟨hlt,rfl⟩:=List.getElem?_eq_some_iff.1 hz
  have:=List.findIdx_getElem (w:=hlt)
  simpa using this
 cases h
theorem Zo1 {s:Src}{nm:ByteArray}(h:(Za7 s nm).2≠0):(Za7 s nm).1=zonO:=by
 unfold Za7 at h ⊢
 split
 ·rfl
 rename_i h1
 rw[if_neg h1] at h
 split
 ·rename_i z hz;rw[hz] at h;exact absurd rfl h
 rfl
theorem ZjN {s:Src}(h:Zb6 s=0):ZbP s=0∧(Zde s.2.1 s.2.2).Nodup∧Zi4 s=false∧(∀ x∈Zdc s.2.1,errX s.1 x=0) ∧ ∀ z∈s.2.1,risL (Zb1 z.2)=true:=by
 have hE:=Zex h
 unfold Zb6 at h
 rw[if_neg (by simp[hE])] at h
 split at h
 ·cases h
 rename_i h1
 split at h
 ·cases h
 rename_i h2
 split at h
 ·rename_i h3;exact absurd h h3
 rename_i h3
 split at h
 ·cases h
 rename_i h4
 refine⟨hE,Decidable.of_not_not h1,by simpa using h2,Zdr (Decidable.of_not_not h3),fun z hz=>?_⟩
 simp only[List.any_eq_true,not_exists,not_and,Bool.not_eq_true',Bool.not_eq_false] at h4
 exact h4 z hz
theorem cloneE_a {l:List Era}{full:Bool}{h:AH}(hl:l.length≤300000000000):ACalls Tryz.prog 85 [.sl l.length 10 full (rows eraC l)] h fun r h' => ∃ v,r=.ret (.own h.length v l.length)∧h'=h++[.mk v 63 10 (rows eraC l)]:=by
 refine tN' k85 fun N hn hlt hlA hbd=>?_
 simp only[tb'] at hbd ⊢
 refine wr'<|mw<|sn'<|Zam<|wr'<|mw<|?_
 refine s_eqn lk (fun _=>pt) (fun bn3 hbn3=>?_)
 refine sn' ?_
 refine cd' lk (fun hc1=>?_) (fun hc1=>?_)
 ·refine wr'<|mv' lkn pt2<|Zar<|Zba (ALe.own0 (d:=2) (st':=10) (ty:=63) rfl)<|Zaa<|Zah<|Zae (rs1 (rr_t gt2))<|?_
  have h0:l=[]:=List.eq_nil_of_length_eq_zero ((Nat.eq_zero_or_pos _).resolve_right (fun e=>by have:=hbn3 e;rw[hc1] at this;cases this))
  subst h0
  exact⟨0,by simp,by simp[rows]⟩
 refine Zaf<|Zag<|wr'<|E' (ZdL Zqh (hl0 hn) ha0) pt<|mw<|?_
 refine E' (Zdm (sc_sl lk (ZkN _)) lk gx rfl om (era_leaf _) (hs0 hn)) pt ?_
 refine mw<|sn'<|Zaa<|Zae rz<|?_
 exact⟨0+1,by simp[hn],by simp⟩
theorem Zl9 {s:Src}{nm:ByteArray}:(Za7 s nm).1.2.length≤8:=by
 by_cases h:(Za7 s nm).2=0
 ·obtain⟨h1,h2,_⟩:=ZfJ h
  exact (Zc5 (Zex h1)).2.2.2.1 _ h2
 rw[Zo1 h];simp[zonO]
theorem ZmP {a:List Rul}{z:List Zon}{k:List Lnk}{nm:ByteArray}{h:AH}(hok:ZeL (a,z,k)):Ac 30 [.agg (srcB a z k),sv nm] h (.tup [.agg (zonC (Za7 (a,z,k) nm).1),iv (Za7 (a,z,k) nm).2]):=by
 have hfl:=Zl9 (s:=(a,z,k)) (nm:=nm)
 refine tW' k30 fun N hn hlt hlA hbd=>?_
 simp only[tb'] at hbd ⊢
 refine wr'<|E' (Zbd cv rfl (hl0 hn) ha0) pt<|E' (ZaW (hl1 hn) ha1) pt<|mw<|sn'<|wr'<|Vw (Zao lk gx Zfk rfl)<|mw<|Zad mp (ZsC hok) pt<|mw<|Vw (ZaS lk gt)<|?_
 refine Vw (ZaS lk gt)<|E' (ZaW (hl2 hn) ha2) pt<|E' (Zai lk cv gx rfl (nb' rfl) rfl Zdu (hs2 hn)) ptn<|mw<|sn'<|wr'<|Vw (Zab lk)<|Vw (Zac lk gx gt1)<|?_
 refine s_calla mp (cloneE_a om) (hl3 hn) (fun _=>ha3) (fun _=>pt) (fun va15=>?_)
 refine Vw (Zab lk)<|E' (Zai lk cv gx rfl (nb' rfl) rfl Zqg (hs2 hn)) ptn<|Zar<|?_
 refine Zba (ALe.iceCellR gx gx om gt1 (List.take_of_length_le (by rw[Za4 ZcM];first | exact Nat.le_refl _ | omega)) (by rw[Za4 ZcM];first | exact Nat.le_refl _ | omega) pt1 (hs3 hn) (hs2 hn)) ?_
 refine wr'<|Vw (Zao lk gx Zdt rfl)<|mw<|E' (Zai lk cv gx rfl (nb' rfl) rfl Zdu (hs1 hn)) ptn<|mw<|sn'<|Zaa<|Zae (rsn (rm1 (rr_c gt gx (ld1 Zdt rfl)) (rm1 (rr_t gt) rm0)))<|rtW'<|?_
 exact Wk.tup (wkw (Wk.agg (wk1 rfl (wkw Wk.full wk0))) (wk1 rfl wk0))
theorem wk_nil2 {e:AV}{c:Int→List AV}{st:Nat}:Wk (.tup [.sl 0 0 true [],e]) (.tup [.sl ([]:List Int).length st false (rows c []),e]):=Wk.tup (wkw Wk.nilF (wk1 rfl wk0))
theorem zends_a {a:List Rul}{z:List Zon}{k:List Lnk}{nm:ByteArray}{h:AH}(hok:ZeL (a,z,k)):Ac 64 [.agg (srcB a z k),sv nm] h (.tup [.sl (Zb1 (Za7 (a,z,k) nm).1.2).length 1 false (rows intC (Zb1 (Za7 (a,z,k) nm).1.2)),iv (Za7 (a,z,k) nm).2]):=by
 refine tW' k64 fun N hn hlt hlA hbd=>?_
 simp only[tb'] at hbd ⊢
 refine wr'<|E' (Zbd cv rfl (hl0 hn) ha0) pt<|mw<|mw<|sn'<|wr'<|Vw (Zao lk gx Zfk rfl)<|mw<|Zad mp (ZsC hok) pt<|mw<|Vw (ZaS lk gt)<|?_
 refine Vw (ZaS lk gt)<|E' (ZaW (hl1 hn) ha1) pt<|E' (Zai lk cv gx rfl (nb' rfl) rfl Zdu (hs1 hn)) ptn<|mw<|sn'<|Zam<|wr'<|mw<|Vw (ZaX lk lki)<|sn'<|?_
 refine cd' lk (fun hc1=>?_) (fun hc1=>?_)
 ·have hb:=Zo1 hc1
  refine wr'<|mw<|mw<|mw<|sn'<|Zaa<|Zah<|Zae ry<|rtW'<|?_
  rw[hb];exact wk_nil2
 obtain⟨hz0,hm,_⟩:=ZfJ (Decidable.of_not_not hc1)
 refine Zaf<|Zag<|wr'<|Vw (Zao lk gx Zdt rfl)<|Zad mp (ZsH (Zds (Zex hz0) hm)) pt<|mw<|mw<|sn'<|Zaa<|Zae ry<|rtW'<|?_
 rw[show (Za7 (a,z,k) nm).2=0 from Decidable.of_not_not hc1];exact Wk.refl _
theorem ZrV : ∀ {l:List Trn}{sh sa:Int}{t:Tim},t∈outV sh sa l→(0≤sa∧sa≤10800)→(∀ u∈l,Zbu u.2=0) → ∃ u∈l,∃ sa',(0≤sa'∧sa'≤10800)∧t=timV sh sa' u
 | u::l,sh,sa,t,ht,hs,hr=>by
  rw[outV] at ht
  rcases List.mem_cons.1 ht with rfl | ht
  ·exact⟨u,by simp,sa,hs,rfl⟩
  have h8:=(Zcl (hr u (by simp))).2.2.2.2.2.2.2
  obtain⟨v,hv,sa',h1,h2⟩:=ZrV ht h8 fun x hx=>hr x (by simp[hx])
  exact⟨v,by simp[hv],sa',h1,h2⟩
theorem ruleE_lt {r:Rul}(h:Zbu r=0):(rLt r).size≤24:=by
 unfold Zbu at h
 split at h
 ·cases h
 rename_i h1
 have:=(Decidable.of_not_not h1).2
 unfold Zcm at this
 simp only[Bool.and_eq_true,decide_eq_true_eq] at this
 exact this.1
theorem Zlm {l:List Rul}{nm:ByteArray}{sh:Int}{t:Tim}(ht:t∈(Za8 l nm sh).1):(-2600000000≤t.1∧t.1≤4330172800)∧(0≤t.2.1∧t.2.1≤10800)∧t.2.2.size≤24:=by
 unfold Za8 at ht
 split at ht
 ·cases ht
 rename_i h1
 split at ht
 ·cases ht
 split at ht
 ·cases ht
 obtain⟨g1,g2,g3,_⟩:=Zgb (Decidable.of_not_not h1)
 have hm : ∀ u∈srtT (Zbg l nm),Zbu u.2=0 ∧ -2592000000≤u.1∧u.1≤4320172800:=fun u hu=>Zkg g2 ((Zkp _).mem_iff.1 hu)
 obtain⟨u,hu,sa',hs,rfl⟩:=ZrV ht om fun u hu=>(hm u hu).1
 obtain⟨hr,hb1,hb2⟩:=hm u hu
 have ho:=ZrZ (r:=u.2) g3 hs
 obtain⟨_,_,_,_,_,_,_,h8⟩:=Zcl hr
 exact⟨⟨by show -2600000000≤u.1-offV u.2 sh sa';omega,by show u.1-offV u.2 sh sa'≤4330172800;omega⟩,h8,ruleE_lt hr⟩
theorem ZhV {l:List Rul}{nm:ByteArray}{sh:Int}:(Za8 l nm sh).1.length≤1000:=by
 unfold Za8
 split
 ·simp
 split
 ·simp
 split
 ·simp
 rw[Zge,srt_len];omega
theorem ZrU : ∀ {l:List Trn}{sh sa:Int},(-64800≤sh∧sh≤64800)→(0≤sa∧sa≤10800)→(∀ u∈l,Zbu u.2=0)→gapB l=false→(outV sh sa l).Pairwise fun a b=>a.1<b.1
 | [],_,_,_,_,_,_=>.nil
 | [u],_,_,_,_,_,_=>by simp[outV]
 | u::v::l,sh,sa,h1,h2,hr,hg=>by
  rw[Zgi,Bool.or_eq_false_iff] at hg
  have hu8:=(Zcl (hr u (by simp))).2.2.2.2.2.2.2
  have ih:=ZrU (l:=v::l) (sh:=sh) (sa:=rSv u.2) h1 hu8 (fun x hx=>hr x (by simp[hx])) hg.2
  rw[outV,List.pairwise_cons]
  refine⟨fun t ht=>?_,ih⟩
  have hgap:172800≤v.1-u.1:=by have:=hg.1;simp only[decide_eq_false_iff_not] at this;omega
  have hfirst:(timV sh sa u).1<(timV sh (rSv u.2) v).1:=by
   show u.1-offV u.2 sh sa<v.1-offV v.2 sh (rSv u.2)
   unfold offV
   split <;> split <;> (try split) <;> (try split) <;> omega
  rw[outV] at ht
  rcases List.mem_cons.1 ht with rfl | ht
  ·exact hfirst
  rw[outV,List.pairwise_cons] at ih
  have:=ih.1 t ht
  omega
theorem Zre {l:List Rul}{nm:ByteArray}{sh:Int}:(Za8 l nm sh).1.Pairwise fun a b=>a.1<b.1:=by
 unfold Za8
 split
 ·exact .nil
 rename_i h1
 split
 ·exact .nil
 rename_i h2
 split
 ·exact .nil
 obtain⟨g1,g2,g3,_⟩:=Zgb (Decidable.of_not_not h1)
 exact ZrU g3 om (fun u hu=>(Zkg g2 ((Zkp _).mem_iff.1 hu)).1) (by simpa using h2)
theorem risT_all (rl:List Rul) (x:Era):risT rl x:=by
 unfold risT Za3
 split
 ·exact .nil
 exact Zre
theorem Zjh {rl:List Rul}{x:Era}{t:Tim}(ht:t∈Za3 rl x):(-2600000000≤t.1∧t.1≤4330172800)∧(0≤t.2.1∧t.2.1≤10800)∧t.2.2.size≤24:=by
 unfold Za3 at ht
 split at ht
 ·cases ht
 exact Zlm ht
theorem Zdo {rl:List Rul}{x:Era}:(Za3 rl x).length≤1000:=by
 unfold Za3
 split
 ·simp
 exact ZhV
theorem Zis {fm:ByteArray}(h:ZbL fm=true):fm.size≤24:=by
 unfold ZbL at h
 split at h
 ·cases h
 rename_i h1;omega
end Go.Proofs.YtlekejpogddndaaGreatDoor
end
section
namespace Go.Proofs.YtlekejpogddndaaGreatDoor
open Go.Ab Go.RowKit Civ
attribute [local simp] Zbh Zbr Zbo Zbq Zb5 ZdG ZdO
section
theorem Zfj {a0 a1 a2 a3 a4 a5 a6 a7 a8 a9:AV}{l:List AV}:(a0::a1::a2::a3::a4::a5::a6::a7::a8::a9::l).take 10=[a0,a1,a2,a3,a4,a5,a6,a7,a8,a9]:=rfl
theorem ZnV {τ:Operand→AV}{y0:Operand}{x0_0:AV}(h0:Zat (τ y0)=some [x0_0]) (l0:[x0_0].all leaf=true):Zas τ [(1,1,y0)] [(.v (.int .i64 0)),(.v (.int .i64 0)),(.v (.string ⟨#[]⟩))]=some [(.v (.int .i64 0)),x0_0,(.v (.string ⟨#[]⟩))]:=by
 simp only[Zas,h0,l0]
 rfl
theorem ZnU {τ:Operand→AV}{y0 y1:Operand}{x0_0 x1_0 x1_1 x1_2:AV}(h0:Zat (τ y0)=some [x0_0]) (l0:[x0_0].all leaf=true) (h1:Zat (τ y1)=some [x1_0,x1_1,x1_2]) (l1:[x1_0,x1_1,x1_2].all leaf=true):Zas τ [(0,1,y0),(1,3,y1)] [(.v (.int .i64 0)),(.v (.int .i64 0)),(.v (.int .i64 0)),(.v (.string ⟨#[]⟩))]=some [x0_0,x1_0,x1_1,x1_2]:=by
 simp only[Zas,h0,l0,h1,l1]
 rfl
theorem ZnT {τ:Operand→AV}{y0:Operand}{x0_0 x0_1 x0_2 x0_3:AV}(h0:Zat (τ y0)=some [x0_0,x0_1,x0_2,x0_3]) (l0:[x0_0,x0_1,x0_2,x0_3].all leaf=true):Zas τ [(0,4,y0)] [(.v (.int .i64 0)),(.v (.int .i64 0)),(.v (.int .i64 0)),(.v (.string ⟨#[]⟩))]=some [x0_0,x0_1,x0_2,x0_3]:=by
 simp only[Zas,h0,l0]
 rfl
theorem ZnS {τ:Operand→AV}:Zas τ [] [(.v (.int .i64 0)),(.v (.int .i64 0)),(.v (.string ⟨#[]⟩))]=some [(.v (.int .i64 0)),(.v (.int .i64 0)),(.v (.string ⟨#[]⟩))]:=rfl
theorem ZnR {τ:Operand→AV}{y0 y1:Operand}{x0_0 x1_0 x1_1 x1_2:AV}(h0:Zat (τ y0)=some [x0_0]) (l0:[x0_0].all leaf=true) (h1:Zat (τ y1)=some [x1_0,x1_1,x1_2]) (l1:[x1_0,x1_1,x1_2].all leaf=true):Zas τ [(0,1,y0),(1,3,y1)] [(.v (.int .i64 0)),(.v (.int .i64 0)),(.v (.int .i64 0)),(.v (.string ⟨#[]⟩))]=some [x0_0,x1_0,x1_1,x1_2]:=by
 simp only[Zas,h0,l0,h1,l1]
 rfl
theorem ZnQ {τ:Operand→AV}{y0:Operand}{x0_0 x0_1 x0_2 x0_3:AV}(h0:Zat (τ y0)=some [x0_0,x0_1,x0_2,x0_3]) (l0:[x0_0,x0_1,x0_2,x0_3].all leaf=true):Zas τ [(0,4,y0)] [(.v (.int .i64 0)),(.v (.int .i64 0)),(.v (.int .i64 0)),(.v (.string ⟨#[]⟩))]=some [x0_0,x0_1,x0_2,x0_3]:=by
 simp only[Zas,h0,l0]
 rfl
theorem Zgx {a0 a1 a2:AV}{l:List AV}:(a0::a1::a2::l).take 3=[a0,a1,a2]:=rfl
theorem Zed {a0 a1 a2 c0 c1 c2:AV}{l:List AV}:setCells (a0::a1::a2::l) 0 [c0,c1,c2]=c0::c1::c2::l:=rfl
theorem ZcX {a0 a1 a2:AV}{l:List AV}:((a0::a1::a2::l).drop 0).take 3=[a0,a1,a2]:=rfl
theorem ZnP {τ:Operand→AV}{y0 y1:Operand}{x0_0 x1_0 x1_1 x1_2:AV}(h0:Zat (τ y0)=some [x0_0]) (l0:[x0_0].all leaf=true) (h1:Zat (τ y1)=some [x1_0,x1_1,x1_2]) (l1:[x1_0,x1_1,x1_2].all leaf=true):Zas τ [(0,1,y0),(1,3,y1)] [(.v (.int .i64 0)),(.v (.int .i64 0)),(.v (.int .i64 0)),(.v (.string ⟨#[]⟩))]=some [x0_0,x1_0,x1_1,x1_2]:=by
 simp only[Zas,h0,l0,h1,l1]
 rfl
theorem Ztf { e:Ent}:([]:AH)++[e]=[e]:=rfl
theorem Zqe {e0 e1 e2 e3 d0:Ent}:([e0,e1,e2,e3]:AH)++[d0]=[e0,e1,e2,e3,d0]:=rfl
theorem Zqc {a0 a1 a2 a3 c0 c1 c2 c3:AV}{l:List AV}:setCells (a0::a1::a2::a3::l) 0 [c0,c1,c2,c3]=c0::c1::c2::c3::l:=rfl
theorem ZjU {a0 a1 a2 a3:AV}{l:List AV}:((a0::a1::a2::a3::l).drop 0).take 4=[a0,a1,a2,a3]:=rfl
theorem ZnO {τ:Operand→AV}{y0:Operand}{x0_0 x0_1 x0_2 x0_3:AV}(h0:Zat (τ y0)=some [x0_0,x0_1,x0_2,x0_3]) (l0:[x0_0,x0_1,x0_2,x0_3].all leaf=true):Zas τ [(0,4,y0)] [(.v (.int .i64 0)),(.v (.int .i64 0)),(.v (.int .i64 0)),(.v (.string ⟨#[]⟩))]=some [x0_0,x0_1,x0_2,x0_3]:=by
 simp only[Zas,h0,l0]
 rfl
theorem Ztd {a0 a1 a2 a3:AV}{l:List AV}:(a0::a1::a2::a3::l).take 4=[a0,a1,a2,a3]:=rfl
theorem Zte {a0 a1:AV}{l:List AV}:(a0::a1::l).take 2=[a0,a1]:=rfl
theorem ZnN {a0 a1 a2 a3 a4 a5 a6 a7 a8 a9 c0 c1 c2 c3 c4 c5 c6 c7 c8 c9:AV}{l:List AV}:setCells (a0::a1::a2::a3::a4::a5::a6::a7::a8::a9::l) 0 [c0,c1,c2,c3,c4,c5,c6,c7,c8,c9]=c0::c1::c2::c3::c4::c5::c6::c7::c8::c9::l:=rfl
theorem ZiH {a0 a1 a2 a3 a4 a5 a6 a7 a8 a9:AV}{l:List AV}:((a0::a1::a2::a3::a4::a5::a6::a7::a8::a9::l).drop 0).take 10=[a0,a1,a2,a3,a4,a5,a6,a7,a8,a9]:=rfl
theorem Zqd {a0 a1 c0 c1:AV}{l:List AV}:setCells (a0::a1::l) 0 [c0,c1]=c0::c1::l:=rfl
theorem Zqf {τ:Operand→AV}:Zas τ [] [(.v (.int .i64 0)),(.v (.int .i64 0)),(.v (.string ⟨#[]⟩))]=some [(.v (.int .i64 0)),(.v (.int .i64 0)),(.v (.string ⟨#[]⟩))]:=rfl
theorem ZjV {τ:Operand→AV}:Zas τ [] [(.v (.int .i64 0)),(.v (.int .i64 0)),(.v (.string ⟨#[]⟩))]=some [(.v (.int .i64 0)),(.v (.int .i64 0)),(.v (.string ⟨#[]⟩))]:=rfl
theorem Zqb {a0 a1:AV}{l:List AV}:((a0::a1::l).drop 0).take 2=[a0,a1]:=rfl
end
def c142:AC:=(Sr [Oo 3 (.box 26 3 (.tmp 0)),Oo 4 (.box 63 10 (.tmp 1)),Oo 6 (.mv (.const (.slice none 0 0)))] (.seq (Sr [Fa 13 1 4,Ld 14 13,Oo 15 (.bin .eql (.tmp 14) (.const (.string ⟨#[]⟩)))] (Cd 15 (Sr [Mv 16 2,Oo 17 (.load true 10 (.tmp 4)),Fa 18 2 4,Ld 19 18,Oo 20 (.build [(iv 0),(iv 0),Ss] [(1,(1,(.tmp 19)))]),Cl 21 220 [(.tmp 17),(.tmp 20)],Oo 22 (.build [(iv 0),(iv 0),(iv 0),Ss] [(0,(1,(.tmp 16))),(1,(3,(.tmp 21)))]),Oo 23 (.lit 121 4 1 [(iv 0),(iv 0),(iv 0),Ss] [(0,(4,(.tmp 22)))]),Mv 6 23] .ret) .skip)) (Sr [Fa 25 0 3,Ld 26 25,Fa 27 1 4,Ld 28 27,Fa 29 0 4,Ld 30 29,Cl 31 31 [(.tmp 26),(.tmp 28),(.tmp 30)],Mv 24 31,Ex 32 24 0,Ex 33 24 1,Mv 7 32,Mv 8 33] (Sr [Mv 34 2,Oo 35 (.load true 10 (.tmp 4)),Oo 36 (.build [(iv 0),(iv 0),Ss] []),Cl 37 220 [(.tmp 35),(.tmp 36)],Oo 38 (.build [(iv 0),(iv 0),(iv 0),Ss] [(0,(1,(.tmp 34))),(1,(3,(.tmp 37)))]),Oo 39 (.lit 121 4 1 [(iv 0),(iv 0),(iv 0),Ss] [(0,(4,(.tmp 38)))]),Mv 9 39] (.seq (Sr [Mv 40 7,Oo 41 (.len false (.tmp 40)),Mc 42 0] (.block 0 (.loop (Sr [Bn 43 .lss 42 41] (.seq (Cd 43 .skip (.exit 0)) (.seq (.block 1 (Sr [Oo 44 (.ia 3 (.tmp 40) (.tmp 42)),Oo 45 (.load true 3 (.tmp 44)),Oo 11 (.new 136 3 [(iv 0),(iv 0),Ss]),⟨none,none,(.store 3 (.tmp 11) (.tmp 45))⟩] (.seq (.drw [Mv 46 2,Fa 47 0 11,Ld 48 47,Oo 49 (.mm true (.tmp 46) (.tmp 48)),Oo 50 (.load true 10 (.tmp 4)),Oo 51 (.load true 3 (.tmp 11)),Cl 52 220 [(.tmp 50),(.tmp 51)],Oo 53 (.build [(iv 0),(iv 0),(iv 0),Ss] [(0,(1,(.tmp 49))),(1,(3,(.tmp 52)))]),Oo 12 (.new 121 4 [(iv 0),(iv 0),(iv 0),Ss])] [false] [⟨none,none,(.store 4 (.tmp 12) (.tmp 53))⟩]) (Sr [Fa 54 0 11,Ld 55 54,Mv 56 2,Bn 57 .leq 55 56] (Cd 57 (.reg [Mv 58 9,Oo 59 (.load true 4 (.tmp 12)),Oo 60 (.ia 4 (.tmp 58) (Ci 0)),⟨none,none,(.store 4 (.tmp 60) (.tmp 59))⟩]) (.reg [Mv 61 9,Oo 62 (.load true 4 (.tmp 12)),Oo 63 (.lit 121 4 1 [(iv 0),(iv 0),(iv 0),Ss] [(0,(4,(.tmp 62)))]),Oo 64 (.app 121 4 40 (.tmp 61) (.tmp 63)),Mv 9 64])))))) (.reg [Bc 65 .add 42 1,Mv 42 65]))))))) (Sr [Mv 66 9,Mv 6 66] .ret))))))
theorem k142:ZaA Tryz.prog 142=some ⟨c142,[(.tmp 6)],67⟩:=by kernel_rfl
def c69:AC:=(Sr [Oo 3 (.box 26 3 (.tmp 0)),Oo 4 (.box 53 2 (.tmp 1)),Oo 6 (.mv (.const (.slice none 0 0)))] (Sr [Oo 7 (.mv (.const (.slice none 0 0)))] (Sr [Oo 13 (.load true 2 (.tmp 4)),Cl 14 131 [(.tmp 13)],Mv 8 14] (.seq (Sr [Fa 15 1 4,Ld 16 15,Oo 17 (.len false (.tmp 16)),Mc 18 0] (.block 0 (.loop (Sr [Bn 19 .lss 18 17] (.seq (Cd 19 .skip (.exit 0)) (.seq (.block 1 (Sr [Mv 20 18,Oo 21 (.ia 10 (.tmp 16) (.tmp 18)),Oo 22 (.load true 10 (.tmp 21)),Oo 10 (.new 63 10 [(iv 0),Ss,(iv 0),Ss,(.v (.bool false)),(iv 0),(iv 0),(iv 0),(iv 0),(iv 0)]),Mv 9 20,⟨none,none,(.store 10 (.tmp 10) (.tmp 22))⟩] (.seq (Sr [Mv 23 9,Mv 24 8,Oo 25 (.len false (.tmp 24)),Bn 26 .lss 23 25,Mv 27 26,Ot 28 27 (mt 8),Ot 29 27 (mt 9),Ot 30 27 (.ia 1 (.tmp 28) (.tmp 29)),Ot 31 27 (.load false 1 (.tmp 30)),Ot 32 27 (mt 2),Ot 33 27 (.bin .leq (.tmp 31) (.tmp 32)),Oo 34 (.pick (.tmp 27) (.tmp 33) (.const (.bool false)))] (Cd 34 (.exit 1) .skip)) (Sr [Mv 35 2,Mv 11 35] (.seq (Sr [Mv 36 9,Bc 37 .gtr 36 0] (Cd 37 (.reg [Mv 38 2,Mv 39 8,Mv 40 9,Bc 41 .sub 40 1,Oo 42 (.ia 1 (.tmp 39) (.tmp 41)),Ld 43 42,Oo 44 (.mm true (.tmp 38) (.tmp 43)),Mv 11 44]) .skip)) (Sr [Oo 45 (.load true 3 (.tmp 3)),Oo 46 (.load true 10 (.tmp 10)),Mv 47 11,Cl 48 142 [(.tmp 45),(.tmp 46),(.tmp 47)],Mv 12 48] (.seq (Sr [Mv 49 9,Mv 50 8,Oo 51 (.len false (.tmp 50)),Bn 52 .lss 49 51] (Cd 52 (.reg [Mv 53 12,Mv 54 8,Mv 55 9,Oo 56 (.ia 1 (.tmp 54) (.tmp 55)),Ld 57 56,Cl 58 143 [(.tmp 53),(.tmp 57)],Mv 12 58]) .skip)) (.reg [Mv 59 7,Mv 60 12,Oo 61 (.app 121 4 40 (.tmp 59) (.tmp 60)),Mv 7 61])))))))) (.reg [Bc 62 .add 18 1,Mv 18 62]))))))) (Sr [Mv 63 7,Mv 6 63] .ret)))))
theorem k69:ZaA Tryz.prog 69=some ⟨c69,[(.tmp 6)],64⟩:=by kernel_rfl
def c16:AC:=(Sr [Oo 3 (.box 26 3 (.tmp 0)),Oo 6 (.new 29 3 [(iv 0),(iv 0),Ss]),Mc 7 0] (Sr [Oo 11 (.load true 3 (.tmp 3)),Mv 12 1,Cl 13 66 [(.tmp 11),(.tmp 12)],Mv 10 13,Ex 14 10 0,Ex 15 10 1,Oo 8 (.new 53 2 [Ss,(.sl 0 0 true [])]),⟨none,none,(.store 2 (.tmp 8) (.tmp 14))⟩,Mv 9 15] (.seq (Sr [Mv 16 9,Bc 17 .neq 16 0] (Cd 17 (Sr [Oo 18 (.build [(iv 0),(iv 0),Ss] []),Mv 19 9,⟨none,none,(.store 3 (.tmp 6) (.tmp 18))⟩,Mv 7 19] .ret) .skip)) (.seq (Sr [Mv 20 2,Cl 21 67 [],Bn 22 .lss 20 21,Mv 23 22,Of 24 23 (mt 2),Of 25 23 (.call (.func 68) []),Of 26 23 (.bin .gtr (.tmp 24) (.tmp 25)),Oo 27 (.pick (.tmp 23) (.const (.bool true)) (.tmp 26))] (Cd 27 (Sr [Oo 28 (.build [(iv 0),(iv 0),Ss] []),⟨none,none,(.store 3 (.tmp 6) (.tmp 28))⟩,Mc 7 3] .ret) .skip)) (Sr [Oo 29 (.load true 3 (.tmp 3)),Oo 30 (.load true 2 (.tmp 8)),Mv 31 2,Cl 32 69 [(.tmp 29),(.tmp 30),(.tmp 31)],Oo 33 (.ia 4 (.tmp 32) (Ci 0)),Fa 34 1 33,Oo 35 (.load true 3 (.tmp 34)),⟨none,none,(.store 3 (.tmp 6) (.tmp 35))⟩,Mc 7 0] .ret)))))
theorem k16:ZaA Tryz.prog 16=some ⟨c16,[(.cell 6 true 3),(.tmp 7)],36⟩:=by kernel_rfl
structure okX (x:Era):Prop where
 fm:ZbL (xFm x)=true
 sh : -64800≤xSh x∧xSh x≤64800
 sv:0≤xSv x∧xSv x≤10800
 no:xRl x≠⟨#[]⟩→xSv x=0
theorem okX_of {es:List Era}(h:okZ es) {x:Era}(hx:x∈es):okX x:=by
 obtain⟨h1,h2,h3,h4⟩:=h.fm x hx
 exact⟨h1,h2,h3,h4⟩
theorem Zgk {x:Era}{b:Int}(ts:List Tim):(eraG x b ts).length≤ts.length+1:=by
 unfold eraG
 rw[List.length_cons,List.length_map]
 have:=List.length_filter_le (fun t:Tim=>decide (b<t.1)) ts
 omega
theorem Zo5 {x:Era}{b:Int}:eraG x b []=[(b,locV x (xSv x) ⟨#[]⟩)]:=rfl
theorem eraG_set {x:Era}{b:Int}{ts:List Tim}{t:Tim}(h:t.1≤b):eraG x b (ts++[t])=(eraG x b ts).set 0 (b,locV x t.2.1 t.2.2):=by
 rw[eraG_low h];rfl
theorem eraG_pos {x:Era}{b:Int}{ts:List Tim}:0<(eraG x b ts).length:=by unfold eraG;simp
theorem era_z {a:List Rul}{z:List Zon}{k:List Lnk}{x:Era}{b:Int}{h:AH}(hok:okRs a) (ha:a.length≤9223372036854775807) (hx:okX x) (hb : -9000000000000000000≤b∧b≤9000000000000000000) :
  ACalls Tryz.prog 142 [.agg (srcB a z k),.agg (eraC x),iv b] h fun y h'=>h'=h∧y=.ret (.sl (eraG x b (Za3 a x)).length 4 false (rows chgC (eraG x b (Za3 a x)))):=by
 obtain⟨hx1,hx2,hx3,hx4⟩:=hx
 have hfl:=Zis hx1
 refine tW' k142 fun N hn hlt hlA hbd=>?_
 simp only[tb'] at hbd ⊢
 refine wr'<|E' (Zbd cv rfl (hl0 hn) ha0) pt<|E' (Zbd cv rfl (hl1 hn) ha1) pt<|mw<|Zar<|?_
 refine Zba (ALe.trans (ALe.icePtr gx gt3 (by simp) pt3 (hs0 hn)) (ALe.icePtr gx gt4 (by simp) pt4 (hs1 hn))) ?_
 refine Zam<|wr'<|Vw (Zbt lk dp1)<|Vw (ZaC lk gt)<|Vw (Zcp lk lks)<|sn'<|?_
 refine cd' lk (fun hc1=>?_) (fun hc1=>?_)
 ·have hT:Za3 a x=[]:=if_pos hc1
  refine wr'<|mw<|Vw (ZaI lk Zfj rfl)<|Vw (Zbt lk dp2)<|Vw (ZaC lk gt)<|Vw (Zau (ZnV cv rfl))<|?_
  refine Zad mp (Znf (x:=x) (t:=(0,xSv x,⟨#[]⟩)) hfl (show (0:Nat)≤24 by decide) hx2 hx3) pt ?_
  refine V' (Zau (ZnU (cvl lk16 rfl) rfl (cvl lk21 rfl) rfl)) pt22<|E' (ZdL (ZnT (cvl lk22 rfl) rfl) (hl2 hn) ha2) pt23<|mv' lk23 pt6<|Zar<|Zba (ALe.iceR gx gt6 rfl (nb' rfl) pt6 (hs2 hn))<|Zaa<|Zah<|Zae (rs1 (rr_t gt6))<|rtW'<|?_
  rw[hT,Zo5];exact Wk.full
 have hT:Za3 a x=(Za8 a x.2.1 x.1).1:=if_neg hc1
 have hsv0:xSv x=0:=hx4 hc1
 have hTl:(Za8 a x.2.1 x.1).1.length≤1000:=ZhV
 refine Zaf<|Zag<|wr'<|Vw (Zbt lk dp0)<|Vw (ZaC lk gt)<|Vw (Zbt lk dp1)<|Vw (ZaC lk gt)<|Vw (Zbt lk dp0)<|Vw (ZaC lk gt)<|Zad mp (ZhW hok ha) pt<|mw<|Vw (ZaS lk gt)<|Vw (ZaS lk gt)<|?_
 refine mw<|mw<|sn'<|wr'<|mw<|Vw (ZaI lk Zfj rfl)<|Vw (Zau ZnS)<|?_
 refine Zad mp (Znf (x:=x) (t:=(0,0,⟨#[]⟩)) hfl (by decide) hx2 (by decide)) pt ?_
 refine Vw (Zau (ZnR cv rfl cv rfl))<|E' (ZdL (ZnQ cv rfl) (hl2 hn) ha2) pt<|mw<|sn'<|Zam<|wr'<|mw<|Vw (ZaL lk)<|mw<|sn'<|Zap<|?_
 refine ZfW (ι:=Nat×Nat) (fun (x_:Nat×Nat)=>match x_ with | ⟨i,v⟩=>[(9,.own (N+2) v (eraG x b ((Za8 a x.2.1 x.1).1.take i)).length),(42,iv (i:Int)),(11,.any),(12,.any)]++rn' 43 23) (fun (x_:Nat×Nat)=>match x_ with | ⟨i,v⟩=>[(2,.mk v 121 4 (rows chgC (eraG x b ((Za8 a x.2.1 x.1).1.take i))))]) (fun (x_:Nat×Nat)=>match x_ with | ⟨i,v⟩=>i≤(Za8 a x.2.1 x.1).1.length) (fun (x_:Nat×Nat)=>match x_ with | ⟨i,v⟩=>(Za8 a x.2.1 x.1).1.length-i) (⟨0,0⟩) (by exact Nat.zero_le _) (by try simp only[sm',Nat.reduceAdd];exact ALe.same wA' (by rw[List.take_zero,Zo5,hsv0];rfl)) ?_
 rintro⟨i,v⟩ hi1
 try simp only[sm',Nat.reduceAdd]
 replace hi1:i≤(Za8 a x.2.1 x.1).1.length:=hi1
 refine wr'<|Vw (Zbc lk lk)<|sn'<|Zam<|?_
 refine cd' lk (fun hc2=>?_) (fun hc2=>?_)
 ·have hi:i<(Za8 a x.2.1 x.1).1.length:=by omega
  obtain⟨hm1,hm2,hm3⟩:=Zlm (List.getElem_mem hi)
  have hel:=Zgk (x:=x) (b:=b) ((Za8 a x.2.1 x.1).1.take i)
  rw[List.length_take] at hel
  have htk:=List.take_succ_eq_append_getElem hi
  refine Zaf<|Zag<|Zam<|Zap<|wr'<|?_
  refine V' (ZaU lk lk Zkj (nb' rfl) ro om ro rfl) pt ?_
  refine Vw (ZaI lk Zgx rfl)<|E' (ZaW (hl3 hn) ha3) pt<|E' (Zai lk cv gx rfl (nb' rfl) rfl Zed (hs3 hn)) ptn<|sn'<|Zam<|Zb2<|Dw (v_mv lk)<|Dw (Zab lk)<|Dw (Zac lk gx gt0)<|Dw (v_mm lk lk)<|Dw (ZaI lk Zfj rfl)<|Dw (Zao lk gx ZcX rfl)<|?_
  refine Za2 mp (fun hE hX=>Znf (x:=x) (t:=(Za8 a x.2.1 x.1).1[i]) hfl hm3 hx2 hm2) pt ?_
  refine Dw (Zau (ZnP cv rfl cv rfl))<|Zmh rfl rfl (hlk hn rfl) (l_new) pt Ztf<|ZbO<|?_
  refine Zny Zqe ?_
  refine E' (Zai lk cv gx rfl (nb' rfl) rfl Zqc (hs4 hn)) ptn<|sn'<|wr'<|Vw (Zab lk)<|Vw (Zac lk gx gt0)<|mw<|Vw (Zdg lk lk)<|sn'<|?_
  refine cd' lk (fun hc3=>?_) (fun hc3=>?_)
  ·have hmx:(if (Za8 a x.2.1 x.1).1[i].1>b then (Za8 a x.2.1 x.1).1[i].1 else b)=b:=if_neg om
   simp only[cond_true,hmx]
   have hE:=eraG_set (x:=x) (ts:=(Za8 a x.2.1 x.1).1.take i) hc3
   have hep:=eraG_pos (x:=x) (b:=b) (ts:=(Za8 a x.2.1 x.1).1.take i)
   rw[←htk] at hE
   refine Zav<|mw<|Vw (Zao lk gx ZjU rfl)<|?_
   refine V' (Zoj (k:=0) lk lki gx Zca (nb' rfl) ro om (by first | rfl | (simp;done) | omega)) pt ?_
   refine E' (e_stOR (z:=(b,locV x (Za8 a x.2.1 x.1).1[i].2.1 (Za8 a x.2.1 x.1).1[i].2.2)) lk cv gx Zca rfl om (hs2 hn)) ptn ?_
   refine Zar<|Zaz<|Zag<|Zav<|?_
   refine V' (Zay lk lki om om) pt ?_
   refine mw<|Zar<|ZaB<|?_
   refine lU' (⟨i+1,v⟩) (by (try dsimp only);omega) (by (try dsimp only);(try simp only[sm',Nat.reduceAdd]);exact bkE' 3 hn hlt (by repeat (first | exact wk0 | refine wka ?_ | refine wk1 rfl ?_ | refine wk1 (by first | rfl | exact ivx om | (rw[hE,List.length_set];done) | (rw[hE,List.length_append];rfl) | (rw[hE,List.length_set])) ?_)) (by rw[hE];rfl) (hT:=by simp[AV.lt,AV.ltL,Ent.lt]) (hE:=by simp[AV.lt,AV.ltL,Ent.lt]))
  have hmx:(if (Za8 a x.2.1 x.1).1[i].1>b then (Za8 a x.2.1 x.1).1[i].1 else b)=(Za8 a x.2.1 x.1).1[i].1:=if_pos om
  simp only[cond_true,hmx]
  have hE:=ZsG (x:=x) (ts:=(Za8 a x.2.1 x.1).1.take i) hc3
  rw[←htk] at hE
  refine Zav<|mw<|Vw (Zao lk gx ZjU rfl)<|E' (ZdL (ZnO cv rfl) (hl5 hn) ha5) pt<|?_
  refine E' (Zdm (Zct lk gx rfl Ztd (nb' rfl)) lk gx (ZcO _) om rfl (hs2 hn)) pt ?_
  refine mw<|Zar<|Zaz<|Zag<|Zav<|?_
  refine V' (Zay lk lki om om) pt ?_
  refine mw<|Zar<|ZaB<|?_
  refine lU' (⟨i+1,v+1⟩) (by (try dsimp only);omega) (by (try dsimp only);(try simp only[sm',Nat.reduceAdd]);exact bkE' 3 hn hlt (by repeat (first | exact wk0 | refine wka ?_ | refine wk1 rfl ?_ | refine wk1 (by first | rfl | exact ivx om | (rw[hE,List.length_set];done) | (rw[hE,List.length_append];rfl) | (rw[hE,List.length_set])) ?_)) (by rw[hE,Za5,Zbv];rfl) (hT:=by simp[AV.lt,AV.ltL,Ent.lt]) (hE:=by simp[AV.lt,AV.ltL,Ent.lt]))
 refine ZaM<|ZaD<|ZaD<|Zbb<|?_
 refine Zba (ALe.iceR gx gt9 (List.take_of_length_le (by rw[ZcO];exact Nat.le_refl _)) (by rw[ZcO];exact Nat.le_refl _) pt9 (hs2 hn)) ?_
 refine wr'<|mw<|mw<|sn'<|Zaa<|Zae rz<|rtW'<|?_
 rw[hT,List.take_of_length_le om];exact Wk.full
def Zen (es:List Era):Nat→Option Int
 | 0=>none
 | j+1=>(es[j]?).map endV
theorem Zfb {es:List Era}{i:Nat}(h:i<es.length):Zen es (i+1)=some (endV es[i]):=by
 show (es[i]?).map endV=_
 rw[List.getElem?_eq_getElem h];rfl
theorem ZpE {rl:List Rul}{f:Int}{es:List Era}{prev:Option Int}{i:Nat}(h:i<es.length) (hl:es.length≤i+1):ZaZ rl f prev (es.drop i)=eraG es[i] (ZbI prev f) (Za3 rl es[i]):=by
 rw[List.drop_eq_getElem_cons h,List.drop_of_length_le hl];rfl
theorem ZpD {rl:List Rul}{f:Int}{es:List Era}{prev:Option Int}{i:Nat}(h:i+1<es.length) (hc:endV es[i]≤f):ZaZ rl f prev (es.drop i)=ZaZ rl f (Zen es (i+1)) (es.drop (i+1)):=by
 rw[Zfb om,List.drop_eq_getElem_cons (show i<es.length by omega),List.drop_eq_getElem_cons h,ZaZ,if_pos hc,List.nil_append]
theorem ZpC {rl:List Rul}{f:Int}{es:List Era}{prev:Option Int}{i:Nat}(h:i+1<es.length) (hc:¬endV es[i]≤f):ZaZ rl f prev (es.drop i)=cutV (eraG es[i] (ZbI prev f) (Za3 rl es[i])) (endV es[i])++ZaZ rl f (Zen es (i+1)) (es.drop (i+1)):=by
 rw[Zfb om,List.drop_eq_getElem_cons (show i<es.length by omega),List.drop_eq_getElem_cons h,ZaZ,if_neg hc]
theorem Zo8 (l:List Chg) (e:Int):(cutV l e).length≤l.length:=(List.takeWhile_sublist _).length_le
theorem Znx {es:List Era}(hz:okZ es) {i:Nat}(h:i+1<es.length) : -100000000000≤endV es[i]∧endV es[i]≤300000000000:=by
 obtain⟨h1,h2,h3⟩:=hz.un i om h
 exact endV_bd h1 ⟨h2,h3⟩ (hz.fm _ (List.getElem_mem _)).2.1
theorem ZrQ {a:List Rul}{z:List Zon}{k:List Lnk}{nm:ByteArray}{es:List Era}{f:Int}{h:AH}(hok:okRs a) (ha:a.length≤9223372036854775807) (hz:okZ es) (hf : -1000000000000≤f∧f≤1000000000000) :
  ACalls Tryz.prog 69 [.agg (srcB a z k),.agg [sv nm,.sl es.length 10 false (rows eraC es)],iv f] h fun y h'=>h'=h∧y=.ret (.sl (ZaZ a f none es).length 4 false (rows chgC (ZaZ a f none es))):=by
 have hel:=ZhL es
 have hlen:=hz.len
 refine tW' k69 fun N hn hlt hlA hbd=>?_
 simp only[tb'] at hbd ⊢
 refine wr'<|E' (Zbd cv rfl (hl0 hn) ha0) pt<|E' (Zbd cv rfl (hl1 hn) ha1) pt<|mw<|Zar<|?_
 refine Zba (ALe.trans (ALe.icePtr gx gt3 (by simp) pt3 (hs0 hn)) (ALe.icePtr gx gt4 (by simp) pt4 (hs1 hn))) ?_
 refine wr'<|mv' lkn pt7<|Zar<|Zba (ALe.own0' (st':=4) (ty:=121) gt7 (hl2 hn) pt7 ha2)<|wr'<|V' (ZaI lk4 Zte rfl) pt13<|Zad (mp1 lk13 mp0) (ZsH hz) pt14<|mv' lk14 pt8<|sn'<|Zam<|Zam<|?_
 refine Zav<|Vw (Zbt lk dp1)<|Vw (ZaC lk gt)<|Vw (ZaL lk)<|mw<|sn'<|Zap<|?_
 refine w_lp (ι:=Nat×List Chg×Nat) (fun (x_:Nat×List Chg×Nat)=>match x_ with | ⟨i,O,v⟩=>[(7,.own (N+2) v O.length),(18,iv (i:Int))]++rn' 9 4++rn' 19 44) (fun (x_:Nat×List Chg×Nat)=>match x_ with | ⟨i,O,v⟩=>[(2,.mk v 121 4 (rows chgC O))]) (fun (x_:Nat×List Chg×Nat)=>match x_ with | ⟨i,O,v⟩=>i≤es.length∧ZaZ a f none es=O++ZaZ a f (Zen es i) (es.drop i)∧O.length≤1001*i) (fun (x_:Nat×List Chg×Nat)=>match x_ with | ⟨i,O,v⟩=>es.length-i) (⟨0,[],0⟩) (by exact⟨Nat.zero_le _,rfl,Nat.zero_le _⟩) ?_
 rintro⟨i,O,v⟩ hi1
 try simp only[sm',Nat.reduceAdd]
 obtain⟨hi1,hi2,hi3⟩:=hi1
 refine wr'<|Vw (Zbc lk lk)<|sn'<|Zam<|?_
 refine cd' lk (fun hc1=>?_) (fun hc1=>?_)
 ·have hi:i<es.length:=by omega
  have hxo:=okX_of hz (List.getElem_mem hi)
  refine Zaf<|Zag<|Zam<|Zap<|wr'<|mw<|?_
  refine V' (ZaU lk lk ZcM (nb' rfl) ro om ro rfl) pt ?_
  refine Vw (ZaI lk Zfj rfl)<|E' (ZaW (hl3 hn) ha3) pt<|mw<|E' (Zai lk cv gx rfl (nb' rfl) rfl ZnN (hs3 hn)) ptn<|sn'<|Zam<|wr'<|mw<|mw<|Vw (ZaL lk)<|Vw (Zbc lk lk)<|mw<|?_
  refine sp' (t:=27) gt pt pt (fun hg27=>?_) (fun hg27=>?_)
  ·have hn1:i+1<es.length:=by omega
   have hen:(Zb1 es)[i]'(by omega)=endV es[i]:=ZkP om hi
   have heb:=Znx hz hn1
   refine s_do gt<|mw<|s_do gt<|mw<|s_do gt<|?_
   refine V' (ZaU lk lk ZdU (nb' rfl) ro om ro rfl) pt ?_
   refine s_do gt<|Vw (ZaC lk gt)<|s_do gt<|mw<|s_do gt<|Vw (Zdg lk lk)<|Vw (Zak lk lk)<|sn'<|?_
   refine cd' lk (fun hc2=>?_) (fun hc2=>?_)
   ·have hsk:=ZpD (rl:=a) (f:=f) (prev:=Zen es i) hn1 (by rw[←hen];exact hc2)
    refine ZaM<|ZaD<|Zbb<|Zag<|Zav<|?_
    refine V' (Zay lk lki om om) pt ?_
    refine mw<|Zar<|ZaB<|?_
    refine lU' (⟨i+1,O,v⟩) (by (try dsimp only);exact⟨by omega,by rw[hi2,hsk],by omega⟩) (by (try dsimp only);(try simp only[sm',Nat.reduceAdd]);exact bkE' 3 hn hlt (by repeat (first | exact wk0 | refine wka ?_ | refine wk1 rfl ?_ | refine wk1 (by first | rfl | exact ivx om | (rw[List.length_append])) ?_)) (hT:=by simp[AV.lt,AV.ltL,Ent.lt]) (hE:=by simp[AV.lt,AV.ltL,Ent.lt]))
   have hnc:¬endV es[i]≤f:=by rw[←hen];exact hc2
   refine Zaf<|Zag<|wr'<|mw<|mw<|sn'<|?_
   refine ZfV (ι:=Int) (fun (B:Int)=>[(11,iv B)]++rn' 36 9) (fun (B:Int)=>[]) (fun (B:Int)=>ZbI (Zen es i) f=B ∧ -9000000000000000000≤B∧B≤9000000000000000000) ?_ ?_
   ·try simp only[sm',Nat.reduceAdd]
    refine wr'<|mw<|Vw (ZbC lk lki)<|sn'<|?_
    refine cd' lk (fun hc3=>?_) (fun hc3=>?_)
    ·have hi0:i-1+1<es.length:=by omega
     have hen0:(Zb1 es)[i-1]'(by omega)=endV (es[i-1]'(by omega)):=ZkP om om
     have heb0:=Znx hz hi0
     have hB:(if (Zb1 es)[i-1]'(by omega)>f then (Zb1 es)[i-1]'(by omega) else f)=ZbI (Zen es i) f:=by rw[hen0,show Zen es i=some (endV (es[i-1]'(by omega))) from by have:=Zfb (es:=es) (i:=i-1) om;rwa [show i-1+1=i by omega] at this];show _=max f _;omega
     have hBb : -9000000000000000000≤ZbI (Zen es i) f∧ZbI (Zen es i) f≤9000000000000000000:=by rw[←hB,hen0];split <;> omega
     refine Zav<|mw<|mw<|mw<|?_
     refine V' (ZbB lk lki om om) pt ?_
     refine V' (ZaU (k:=i-1) lk lk ZdU (nb' rfl) ro om ro rfl) pt ?_
     refine Vw (ZaC lk gt)<|Vw (v_mm lk lk)<|?_
     simp only[cond_true,hB]
     refine mw<|Zar<|ZaB<|?_
     exact cT' (ZbI (Zen es i) f) (by exact⟨rfl,hBb.1,hBb.2⟩)
    refine Zaf<|ZaB<|?_
    exact cT' (f) (by exact⟨by rw[show i=0 by omega];rfl,by omega,by omega⟩)
   rintro B hq12
   try simp only[sm',Nat.reduceAdd]
   obtain⟨hBd,hB1,hB2⟩:=hq12
   refine wr'<|Vw (ZaI lk Zgx rfl)<|Vw (Zao lk gx ZiH rfl)<|mw<|Zad mp (era_z hok ha hxo ⟨hB1,hB2⟩) pt<|mw<|sn'<|Zam<|wr'<|mw<|mw<|?_
   refine Vw (ZaL lk)<|Vw (Zbc lk lk)<|sn'<|?_
   have hgl:=Zgk (x:=es[i]) (b:=B) (Za3 a es[i])
   have htl:=Zdo (rl:=a) (x:=es[i])
   refine ZdW lk (by exact decide_eq_true om) ?_
   refine Zav<|mw<|mw<|mw<|?_
   refine V' (ZaU lk lk ZdU (nb' rfl) ro om ro rfl) pt ?_
   refine V' (ZaC lk gt) pt ?_
   refine Zad mp (zcut_a om) pt ?_
   have hcl:=Zo8 (eraG es[i] B (Za3 a es[i])) ((Zb1 es)[i]'(by omega))
   have hT:=ZpC (rl:=a) (f:=f) (prev:=Zen es i) hn1 hnc
   rw[hBd,←hen] at hT
   refine mw<|sn'<|Zav<|mw<|mw<|?_
   refine E' (Zdm (sc_sl lk (ZcO _)) lk gx (ZcO _) om (Zpd _) (hs2 hn)) pt ?_
   refine mw<|Zar<|Zaz<|Zag<|Zav<|?_
   refine V' (Zay lk lki om om) pt ?_
   refine mw<|Zar<|ZaB<|?_
   refine lU' (⟨i+1,O++cutV (eraG es[i] B (Za3 a es[i])) ((Zb1 es)[i]'(by omega)),v+1⟩) (by (try dsimp only);exact⟨by omega,by rw[hi2,hT,List.append_assoc],by rw[List.length_append];omega⟩) (by (try dsimp only);(try simp only[sm',Nat.reduceAdd]);exact bkE' 3 hn hlt (by repeat (first | exact wk0 | refine wka ?_ | refine wk1 rfl ?_ | refine wk1 (by first | rfl | exact ivx om | (rw[List.length_append])) ?_)) (by rw[Za5];rfl) (hT:=by simp[AV.lt,AV.ltL,Ent.lt]) (hE:=by simp[AV.lt,AV.ltL,Ent.lt]))
  have hn1:es.length≤i+1:=by omega
  refine s_no gt pt<|s_no gt pt<|s_no gt pt<|s_no gt pt<|s_no gt pt<|s_no gt pt<|Vw (Zaj lk lkb)<|sn'<|ZaO lk<|Zaf<|Zag<|wr'<|?_
  refine mw<|mw<|sn'<|?_
  refine ZfV (ι:=Int) (fun (B:Int)=>[(11,iv B)]++rn' 36 9) (fun (B:Int)=>[]) (fun (B:Int)=>ZbI (Zen es i) f=B ∧ -9000000000000000000≤B∧B≤9000000000000000000) ?_ ?_
  ·try simp only[sm',Nat.reduceAdd]
   refine wr'<|mw<|Vw (ZbC lk lki)<|sn'<|?_
   refine cd' lk (fun hc3=>?_) (fun hc3=>?_)
   ·have hi0:i-1+1<es.length:=by omega
    have hen0:(Zb1 es)[i-1]'(by omega)=endV (es[i-1]'(by omega)):=ZkP om om
    have heb0:=Znx hz hi0
    have hB:(if (Zb1 es)[i-1]'(by omega)>f then (Zb1 es)[i-1]'(by omega) else f)=ZbI (Zen es i) f:=by rw[hen0,show Zen es i=some (endV (es[i-1]'(by omega))) from by have:=Zfb (es:=es) (i:=i-1) om;rwa [show i-1+1=i by omega] at this];show _=max f _;omega
    have hBb : -9000000000000000000≤ZbI (Zen es i) f∧ZbI (Zen es i) f≤9000000000000000000:=by rw[←hB,hen0];split <;> omega
    refine Zav<|mw<|mw<|mw<|?_
    refine V' (ZbB lk lki om om) pt ?_
    refine V' (ZaU (k:=i-1) lk lk ZdU (nb' rfl) ro om ro rfl) pt ?_
    refine Vw (ZaC lk gt)<|Vw (v_mm lk lk)<|?_
    simp only[cond_true,hB]
    refine mw<|Zar<|ZaB<|?_
    exact cT' (ZbI (Zen es i) f) (by exact⟨rfl,hBb.1,hBb.2⟩)
   refine Zaf<|ZaB<|?_
   exact cT' (f) (by exact⟨by rw[show i=0 by omega];rfl,by omega,by omega⟩)
  rintro B hq12
  try simp only[sm',Nat.reduceAdd]
  obtain⟨hBd,hB1,hB2⟩:=hq12
  refine wr'<|Vw (ZaI lk Zgx rfl)<|Vw (Zao lk gx ZiH rfl)<|mw<|Zad mp (era_z hok ha hxo ⟨hB1,hB2⟩) pt<|mw<|sn'<|Zam<|wr'<|mw<|mw<|?_
  refine Vw (ZaL lk)<|Vw (Zbc lk lk)<|sn'<|?_
  have hgl:=Zgk (x:=es[i]) (b:=B) (Za3 a es[i])
  have htl:=Zdo (rl:=a) (x:=es[i])
  have hT:=ZpE (rl:=a) (f:=f) (prev:=Zen es i) hi hn1
  rw[hBd] at hT
  refine Zdf lk (by exact decide_eq_false om) ?_
  refine Zaf<|Zag<|Zav<|mw<|mw<|?_
  refine E' (Zdm (sc_sl lk (ZcO _)) lk gx (ZcO _) om (Zpd _) (hs2 hn)) pt ?_
  refine mw<|Zar<|Zaz<|Zag<|Zav<|?_
  refine V' (Zay lk lki om om) pt ?_
  refine mw<|Zar<|ZaB<|?_
  refine lU' (⟨i+1,O++eraG es[i] B (Za3 a es[i]),v+1⟩) (by (try dsimp only);exact⟨by omega,by rw[hi2,hT,List.drop_of_length_le hn1];exact (List.append_nil _).symm,by rw[List.length_append];omega⟩) (by (try dsimp only);(try simp only[sm',Nat.reduceAdd]);exact bkE' 3 hn hlt (by repeat (first | exact wk0 | refine wka ?_ | refine wk1 rfl ?_ | refine wk1 (by first | rfl | exact ivx om | (rw[List.length_append])) ?_)) (by rw[Za5];rfl) (hT:=by simp[AV.lt,AV.ltL,Ent.lt]) (hE:=by simp[AV.lt,AV.ltL,Ent.lt]))
 rw[List.drop_of_length_le om] at hi2
 have hPO:ZaZ a f none es=O:=hi2.trans (List.append_nil _)
 refine ZaM<|ZaD<|ZaD<|Zbb<|?_
 refine Zba (ALe.iceR gx gt7 (List.take_of_length_le (by rw[ZcO];exact Nat.le_refl _)) (by rw[ZcO];exact Nat.le_refl _) pt7 (hs2 hn)) ?_
 refine wr'<|mw<|mw<|sn'<|Zaa<|Zae rz<|rtW'<|?_
 rw[hPO];exact Wk.full
theorem ZkC {s:Src}{z:Zon}(h:Zb6 s=0) (hm:z∈s.2.1) (f:Int):(∃ l,ZaZ s.1 f none z.2=(f,Zcb s.1 z.2 f)::l)∧(ZaZ s.1 f none z.2).Pairwise (fun a b=>a.1<b.1)∧(∀ c∈ZaZ s.1 f none z.2,f≤c.1∧c.2=Zcb s.1 z.2 c.1) ∧
  ∀ u v,f≤u→u≤v→(∀ c∈ZaZ s.1 f none z.2,¬(u<c.1∧c.1≤v))→Zcb s.1 z.2 u=Zcb s.1 z.2 v:=by
 obtain⟨hE,_,_,_,h5⟩:=ZjN h
 exact ZlM (f:=f) (prev:=none) (Zds hE hm).ne (fun x _=>risT_all _ x) ((Zkz _).1 (h5 z hm)) trivial
def atV (s:Src) (nm:ByteArray) (n:Int):Loc×Int :=
 if (Za7 s nm).2≠0 then (locZ,(Za7 s nm).2) else if n<tMin∨n>tMax then (locZ,3) else (Zcb s.1 (Za7 s nm).1.2 n,0)
abbrev locC3 (l:Loc):List AV:=[iv l.1,iv l.2.1,sv l.2.2]
theorem at_a {a:List Rul}{z:List Zon}{k:List Lnk}{nm:ByteArray}{n:Int}{h:AH}(hok:ZeL (a,z,k)):Ac 16 [.agg (srcB a z k),sv nm,iv n] h (.tup [.agg (locC3 (atV (a,z,k) nm n).1),iv (atV (a,z,k) nm n).2]):=by
 refine tI' k16 fun N hn hlt hlA hbd=>?_
 simp only[tb'] at hbd ⊢
 refine wr'<|E' (Zbd cv rfl (hl0 hn) ha0) pt<|E' (ZaW (hl1 hn) ha1) pt<|mw<|sn'<|wr'<|Vw (Zao lk gx ZcX rfl)<|mw<|Zad mp (ZsC hok) pt<|mw<|Vw (ZaS lk gt)<|?_
 refine Vw (ZaS lk gt)<|E' (ZaW (hl2 hn) ha2) pt<|E' (Zai lk cv gx rfl (nb' rfl) rfl Zqd (hs2 hn)) ptn<|mw<|sn'<|Zam<|wr'<|mw<|Vw (ZaX lk lki)<|sn'<|?_
 refine cd' lk (fun hc1=>?_) (fun hc1=>?_)
 ·have hA:atV (a,z,k) nm n=(locZ,(Za7 (a,z,k) nm).2):=if_pos hc1
  refine wr'<|Vw (Zau Zqf)<|mw<|E' (Zai lk cv gx rfl (nb' rfl) rfl Zed (hs1 hn)) ptn<|mw<|sn'<|Zaa<|Zah<|Zae (rsn (rm1 (rr_c gt gx (ld1 ZcX rfl)) (rm1 (rr_t gt) rm0)))<|rT'<|?_
  rw[hA];rfl
 have hf0:(Za7 (a,z,k) nm).2=0:=Decidable.of_not_not hc1
 obtain⟨hz0,hm,_⟩:=ZfJ hf0
 have hE:=Zex hz0
 have hal:=(Zc5 hE).1
 simp only at hal
 refine Zaf<|Zag<|Zam<|wr'<|mw<|Zad mp0 (ZkG) pt<|Vw (Zbc lk lk)<|mw<|?_
 refine sp' (t:=23) gt pt pt (fun hg23=>?_) (fun hg23=>?_)
 ·have hA:atV (a,z,k) nm n=(locZ,3):=by unfold atV;rw[if_neg hc1,if_pos (.inl hg23)]
  refine s_no gt pt<|s_no gt pt<|s_no gt pt<|Vw (Zak lk lkb)<|sn'<|ZaG lk<|wr'<|Vw (Zau ZjV)<|E' (Zai lk cv gx rfl (nb' rfl) rfl Zed (hs1 hn)) ptn<|mw<|sn'<|?_
  refine Zaa<|Zah<|Zae (rsn (rm1 (rr_c gt gx (ld1 ZcX rfl)) (rm1 (rr_t gt) rm0)))<|rT'<|?_
  rw[hA];rfl
 refine s_do gt<|mw<|s_do gt<|Zad mp0 (Zr3) pt<|s_do gt<|Vw (ZbC lk lk)<|Vw (Zaj lk lk)<|sn'<|?_
 refine cd' lk (fun hc2=>?_) (fun hc2=>?_)
 ·have hA:atV (a,z,k) nm n=(locZ,3):=by unfold atV;rw[if_neg hc1,if_pos (.inr hc2)]
  refine wr'<|Vw (Zau ZjV)<|E' (Zai lk cv gx rfl (nb' rfl) rfl Zed (hs1 hn)) ptn<|mw<|sn'<|Zaa<|Zah<|Zae (rsn (rm1 (rr_c gt gx (ld1 ZcX rfl)) (rm1 (rr_t gt) rm0)))<|rT'<|?_
  rw[hA];rfl
 have hA:atV (a,z,k) nm n=(Zcb a (Za7 (a,z,k) nm).1.2 n,0):=by unfold atV;rw[if_neg hc1,if_neg (by simp only[tMin,tMax];omega)]
 obtain⟨⟨pl,hpl⟩,_⟩:=ZkC hz0 hm n
 simp only at hpl
 refine Zaf<|Zag<|wr'<|Vw (Zao lk gx ZcX rfl)<|Vw (Zao lk gx Zqb rfl)<|mw<|?_
 refine Zad mp (ZrQ (ZgT hok) om (Zds hE hm) om) pt ?_
 refine V' (ZaU (k:=0) lk lki Zca (nb' rfl) (by first | rfl | first | omega | (rw[hpl];simp)) (by first | omega | (rw[hpl];simp)) ro rfl) pt ?_
 refine Vw (Zbt lk dp1)<|Vw (ZaI lk Zgx rfl)<|E' (Zai lk cv gx rfl (nb' rfl) rfl Zed (hs1 hn)) ptn<|mw<|sn'<|Zaa<|Zae (rsn (rm1 (rr_c gt gx (ld1 ZcX rfl)) (rm1 (rr_t gt) rm0)))<|rT'<|?_
 simp only[hA,hpl];rfl
end Go.Proofs.YtlekejpogddndaaGreatDoor
end
section
namespace Go.Proofs.YtlekejpogddndaaGreatDoor
open Go.Ab Civ
def chgs (g:Int→Loc) (L:List Int):List Chg:=dd (g tMin) (pts g (L.filter inT))
theorem chgs_len {g:Int→Loc}(L:List Int):(chgs g L).length≤L.length:=by
 refine Nat.le_trans (Zo7 _ _) ?_
 unfold pts
 rw[List.length_map]
 exact List.length_filter_le _ _
theorem Zlv {s:Src}{z:Zon}(h:Zb6 s=0) (hm:z∈s.2.1):stV (inP (ZaZ s.1 tMin none z.2))=ZeF s.1 z.2:=by
 obtain⟨⟨l,h1⟩,h2,h3,h4⟩:=ZkC h hm tMin
 have hp:=ZrP (rl:=s.1) (f:=tMin) (es:=z.2) fun c hc=>(h3 c hc).2
 have hs:((ZaZ s.1 tMin none z.2).map (·.1)).Pairwise (· < ·):=by rw[List.pairwise_map];exact h2
 have hL:(ZaZ s.1 tMin none z.2).map (·.1)=tMin::l.map (·.1):=by rw[h1];rfl
 rw[hp,hL]
 rw[hL] at hs
 rw[stV_tab hs]
 refine table_of (hs.imp fun h=>Int.le_of_lt h) fun u v h5 h6 h7=>h4 u v h5 h6 fun c hc hh=>h7 c.1 ?_ hh
 rw[←hL]
 exact List.mem_map.2 ⟨c,hc,rfl⟩
def ofV (s:Src) (z:Zon):Tab×Int:=tabR (ZeF s.1 z.2)
def Zfv (s:Src) (nm:ByteArray):Tab×Int:=if (Za7 s nm).2≠0 then (noTab,(Za7 s nm).2) else ofV s (Za7 s nm).1
theorem ZmX {rl:List Rul}{es:List Era}:((ZeG rl es).mergeSort fun a b=>decide (a≤b)).Pairwise (· ≤ ·):=by
 have h:=List.pairwise_mergeSort (le:=fun a b:Int=>decide (a≤b)) (fun a b c h1 h2=>by simp at *;omega) (fun a b=>by simp;omega) (ZeG rl es)
 exact h.imp fun h=>by simpa using h
theorem Zhe {rl:List Rul}{es:List Era}(h:(tabR (ZeF rl es)).2=0):ZbH (ZeF rl es)=0:=Zpp ZmX h
theorem Zri {s:Src}{z:Zon}(h:(ofV s z).2=0):ZbH (ofV s z).1=0:=by
 unfold ofV at h ⊢
 rw[(ZmY h).1];exact Zhe h
def cntV (rl:List Rul):List Era→Nat
 | []=>0
 | x::es=>(Za3 rl x).length+cntV rl es
theorem Zmo (rl:List Rul) : ∀ (es:List Era) (x:Era),cntV rl (es++[x])=cntV rl es+(Za3 rl x).length
 | [],x=>by simp[cntV]
 | y::es,x=>by rw[List.cons_append,cntV,cntV,Zmo rl es x];omega
theorem ZsS (rl:List Rul) : ∀ es:List Era,cntV rl es≤1000*es.length
 | []=>by simp[cntV]
 | y::es=>by have:=ZsS rl es;have:=Zdo (rl:=rl) (x:=y);rw[cntV,List.length_cons];omega
theorem Zro (rl:List Rul) (es:List Era):(ZeG rl es).length=cntV rl es+(es.length-1):=by
 unfold ZeG
 rw[List.length_append,ZhL]
 congr 1
 induction es with
 | nil=>rfl
 | cons x es ih=>rw[List.flatMap_cons,List.length_append,List.length_map,ih,cntV]
theorem Zpo {rl:List Rul}{es:List Era}(h:es≠[]):(ZeF rl es).2.length<es.length+cntV rl es:=by
 have h1:(ZeF rl es).2.length≤((ZeG rl es).mergeSort fun a b=>decide (a≤b)).length:=chgs_len _
 rw[(List.mergeSort_perm _ _).length_eq,Zro] at h1
 have:=List.length_pos_iff.2 h
 omega
end Go.Proofs.YtlekejpogddndaaGreatDoor
end
section
namespace Go.Proofs.YtlekejpogddndaaGreatDoor
open Go.Ab
attribute [local simp] Zbh Zbr Zbo Zbq
section
theorem Zj8 {a0 a1 a2:AV}{l:List AV}:((a0::a1::a2::l).drop 0).take 3=[a0,a1,a2]:=rfl
theorem Zn6 {a0 b0:Int}{a1 b1:Int}{a2 b2:Int}:Zbs [.int,.int,.int] [iv a0,iv a1,iv a2] [iv b0,iv b1,iv b2]=some (decide (a0=b0∧a1=b1∧a2=b2)):=by
 simp only[Zbs,Zd9,if_true,Zc6,Option.some.injEq]
 simp only[Bool.decide_and,Bool.and_true]
 try (congr 1 <;> simp)
 try rfl
end
def c226:AC:=(Sr [Oo 2 (.box 61 5 (.tmp 0)),Oo 3 (.box 61 5 (.tmp 1)),Mb 4 false] (Sr [Fa 5 0 2,Oo 6 (.load true 3 (.tmp 5)),Fa 7 0 3,Oo 8 (.load true 3 (.tmp 7)),Oo 9 (.eqs false [.int,.int,.int] (.tmp 6) (.tmp 8)),Mv 10 9,Ot 11 10 (.fa 3 (.tmp 2)),Ot 12 10 (.load false 1 (.tmp 11)),Ot 13 10 (.fa 3 (.tmp 3)),Ot 14 10 (.load false 1 (.tmp 13)),Ot 15 10 (.bin .eql (.tmp 12) (.tmp 14)),Oo 16 (.pick (.tmp 10) (.tmp 15) (.const (.bool false))),Mv 17 16,Ot 18 17 (.fa 4 (.tmp 2)),Ot 19 17 (.load false 1 (.tmp 18)),Ot 20 17 (.fa 4 (.tmp 3)),Ot 21 17 (.load false 1 (.tmp 20)),Ot 22 17 (.bin .eql (.tmp 19) (.tmp 21)),Oo 23 (.pick (.tmp 17) (.tmp 22) (.const (.bool false))),Mv 4 23] .ret))
theorem k226:ZaA Tryz.prog 226=some ⟨c226,[(.tmp 4)],24⟩:=by kernel_rfl
theorem ZdQ {u v:Unt}{h:AH}:Ac 226 [.agg (untC u),.agg (untC v)] h (bv (decide (u=v))):=by
 obtain⟨⟨y,m,d⟩,a,c⟩:=u
 obtain⟨⟨y2,m2,d2⟩,a2,c2⟩:=v
 refine tI' k226 fun N hn hlt hlA hbd=>?_
 simp only[tb'] at hbd ⊢
 refine wr'<|E' (Zbd cv rfl (hl0 hn) ha0) pt<|E' (Zbd cv rfl (hl1 hn) ha1) pt<|mw<|sn'<|wr'<|Vw (Zab lk)<|Vw (Zao lk gx Zj8 rfl)<|Vw (Zab lk)<|Vw (Zao lk gx Zj8 rfl)<|Vw (Zhd lk lk Zn6)<|?_
 refine mv' lk pt ?_
 refine sp' (t:=10) gt pt pt (fun hg10=>?_) (fun hg10=>?_)
 ·refine s_do gt<|Vw (Zab lk)<|s_do gt<|Vw (Zac lk gx gt3)<|s_do gt<|Vw (Zab lk)<|s_do gt<|Vw (Zac lk gx gt3)<|s_do gt<|Vw (ZaQ lk lk)<|Vw (Zak lk lk)<|mw<|?_
  refine sp' (t:=17) gt pt pt (fun hg17=>?_) (fun hg17=>?_)
  ·refine s_do gt<|Vw (Zab lk)<|s_do gt<|Vw (Zac lk gx gt4)<|s_do gt<|Vw (Zab lk)<|s_do gt<|Vw (Zac lk gx gt4)<|s_do gt<|Vw (ZaQ lk lk)<|Vw (Zak lk lk)<|mw<|sn'<|?_
   refine Zaa<|Zae rz<|rT'<|?_
   refine bvx ?_;simp_all
  refine s_no gt pt<|s_no gt pt<|s_no gt pt<|s_no gt pt<|s_no gt pt<|Vw (Zaj lk lkb)<|mw<|sn'<|Zaa<|Zae rz<|rT'<|?_
  refine bvx ?_;simp_all
 refine s_no gt pt<|s_no gt pt<|s_no gt pt<|s_no gt pt<|s_no gt pt<|Vw (Zaj lk lkb)<|mw<|s_no gt pt<|s_no gt pt<|s_no gt pt<|s_no gt pt<|s_no gt pt<|Vw (Zaj lk lkb)<|mw<|?_
 refine sn'<|Zaa<|Zae rz<|rT'<|?_
 refine bvx ?_;simp_all
end Go.Proofs.YtlekejpogddndaaGreatDoor
end
section
namespace Go.Proofs.YtlekejpogddndaaGreatDoor
open Go.Ab Go.RowKit Civ
attribute [local simp] Zbh Zbr Zbo Zbq
section
theorem ZqI {a0 a1 a2 a3 a4 a5 a6:AV}{l:List AV}:((a0::a1::a2::a3::a4::a5::a6::l).drop 4).take 3=[a4,a5,a6]:=rfl
theorem ZqJ {a0 a1 a2 c0 c1 c2:AV}{l:List AV}:setCells (a0::a1::a2::l) 0 [c0,c1,c2]=c0::c1::c2::l:=rfl
theorem Zfo {a0 a1 a2 a3 a4 a5 a6 a7 a8 a9:AV}{l:List AV}:((a0::a1::a2::a3::a4::a5::a6::a7::a8::a9::l).drop 5).take 5=[a5,a6,a7,a8,a9]:=rfl
theorem Zcx {τ:Operand→AV}:Zas τ [] [(.v (.int .i64 0)),(.v (.int .i64 0)),(.v (.int .i64 0)),(.v (.int .i64 0)),(.v (.int .i64 0))]=some [(.v (.int .i64 0)),(.v (.int .i64 0)),(.v (.int .i64 0)),(.v (.int .i64 0)),(.v (.int .i64 0))]:=rfl
theorem Zfp {a0 a1 a2 a3 a4 a5 a6 a7:AV}{l:List AV}:((a0::a1::a2::a3::a4::a5::a6::a7::l).drop 5).take 3=[a5,a6,a7]:=rfl
theorem ZqG {a0 a1 a2 a3 a4 a5 a6 a7 a8 a9 a10:AV}{l:List AV}:(a0::a1::a2::a3::a4::a5::a6::a7::a8::a9::a10::l).take 11=[a0,a1,a2,a3,a4,a5,a6,a7,a8,a9,a10]:=rfl
theorem ZqH {a0 a1 a2 a3 a4 a5 a6 a7 a8 a9:AV}{l:List AV}:(a0::a1::a2::a3::a4::a5::a6::a7::a8::a9::l).take 10=[a0,a1,a2,a3,a4,a5,a6,a7,a8,a9]:=rfl
end
def c151:AC:=(Sr [Oo 1 (.box 36 11 (.tmp 0)),Mc 2 0] (.seq (Sr [Fa 5 0 1,Ld 6 5,Cl 7 115 [(.tmp 6)],Oo 8 (.un .not (.tmp 7)),Mv 9 8,Of 10 9 (.fa 10 (.tmp 1)),Of 11 9 (.load false 1 (.tmp 10)),Of 12 9 (.call (.func 224) [(.tmp 11)]),Of 13 9 (.un .not (.tmp 12)),Oo 14 (.pick (.tmp 9) (.const (.bool true)) (.tmp 13))] (Cd 14 (Sr [Mc 2 1] .ret) .skip)) (.seq (Sr [Fa 15 1 1,Ld 16 15,Fa 17 2 1,Ld 18 17,Cl 19 73 [(.tmp 16),(Ci 1900),(.tmp 18)],Oo 20 (.un .not (.tmp 19)),Mv 21 20,Of 22 21 (.fa 2 (.tmp 1)),Of 23 21 (.load false 1 (.tmp 22)),Of 24 21 (.bin .gtr (.tmp 23) (Ci 2100)),Oo 25 (.pick (.tmp 21) (.const (.bool true)) (.tmp 24)),Mv 26 25,Of 27 26 (.fa 3 (.tmp 1)),Of 28 26 (.load false 1 (.tmp 27)),Of 29 26 (.call (.func 73) [(.tmp 28),(Ci 1),(Ci 12)]),Of 30 26 (.un .not (.tmp 29)),Oo 31 (.pick (.tmp 26) (.const (.bool true)) (.tmp 30))] (Cd 31 (Sr [Mc 2 3] .ret) .skip)) (Sr [Fa 33 3 1,Ld 34 33,Fa 35 4 1,Oo 36 (.load true 3 (.tmp 35)),Cl 37 153 [(Ci 2001),(.tmp 34),(.tmp 36)],Mv 32 37,Ex 38 32 0,Ex 39 32 1,Oo 3 (.new 59 3 [(iv 0),(iv 0),(iv 0)]),⟨none,none,(.store 3 (.tmp 3) (.tmp 38))⟩,Mv 4 39] (.seq (Sr [Mv 40 4,Bc 41 .neq 40 0] (Cd 41 (Sr [Mv 42 4,Mv 2 42] .ret) .skip)) (.seq (Sr [Fa 43 7 1,Ld 44 43,Cl 45 73 [(.tmp 44),(Ci 0),(Ci 172800)],Oo 46 (.un .not (.tmp 45))] (Cd 46 (Sr [Mc 2 3] .ret) .skip)) (.seq (Sr [Fa 47 8 1,Ld 48 47,Cl 49 73 [(.tmp 48),(Ci 1),(Ci 3)],Oo 50 (.un .not (.tmp 49))] (Cd 50 (Sr [Mc 2 7] .ret) .skip)) (.seq (Sr [Fa 51 9 1,Ld 52 51,Cl 53 73 [(.tmp 52),(Ci 0),(Ci 10800)],Oo 54 (.un .not (.tmp 53))] (Cd 54 (Sr [Mc 2 3] .ret) .skip)) (Sr [Mc 2 0] .ret)))))))))
theorem k151:ZaA Tryz.prog 151=some ⟨c151,[(.tmp 2)],55⟩:=by kernel_rfl
def c152:AC:=(Sr [Oo 2 (.box 63 10 (.tmp 0)),Mc 4 0] (.seq (Sr [Fa 5 1 2,Ld 6 5,Oo 7 (.bin .neq (.tmp 6) (.const (.string ⟨#[]⟩))),Mv 8 7,Ot 9 8 (.fa 1 (.tmp 2)),Ot 10 8 (.load false 1 (.tmp 9)),Ot 11 8 (.call (.func 115) [(.tmp 10)]),Ot 12 8 (.un .not (.tmp 11)),Oo 13 (.pick (.tmp 8) (.tmp 12) (.const (.bool false))),Mv 14 13,Of 15 14 (.fa 3 (.tmp 2)),Of 16 14 (.load false 1 (.tmp 15)),Of 17 14 (.call (.func 225) [(.tmp 16)]),Of 18 14 (.un .not (.tmp 17)),Oo 19 (.pick (.tmp 14) (.const (.bool true)) (.tmp 18))] (Cd 19 (Sr [Mc 4 1] .ret) .skip)) (.seq (Sr [Fa 20 0 2,Ld 21 20,Cl 22 73 [(.tmp 21),(.const (.int .i64 (-64800))),(Ci 64800)],Oo 23 (.un .not (.tmp 22)),Mv 24 23,Of 25 24 (.fa 2 (.tmp 2)),Of 26 24 (.load false 1 (.tmp 25)),Of 27 24 (.call (.func 73) [(.tmp 26),(Ci 0),(Ci 10800)]),Of 28 24 (.un .not (.tmp 27)),Oo 29 (.pick (.tmp 24) (.const (.bool true)) (.tmp 28))] (Cd 29 (Sr [Mc 4 3] .ret) .skip)) (.seq (Sr [Fa 30 1 2,Ld 31 30,Oo 32 (.bin .neq (.tmp 31) (.const (.string ⟨#[]⟩))),Mv 33 32,Ot 34 33 (.fa 2 (.tmp 2)),Ot 35 33 (.load false 1 (.tmp 34)),Ot 36 33 (.bin .neq (.tmp 35) (Ci 0)),Oo 37 (.pick (.tmp 33) (.tmp 36) (.const (.bool false)))] (Cd 37 (Sr [Mc 4 1] .ret) .skip)) (.seq (Sr [Fa 38 4 2,Ld 39 38,Mv 40 1,Oo 41 (.eqb true (.tmp 39) (.tmp 40))] (Cd 41 (Sr [Mc 4 4] .ret) .skip)) (.seq (Sr [Fa 42 4 2,Ld 43 42] (Cd 43 (.seq (Sr [Fa 44 5 2,Oo 45 (.load true 5 (.tmp 44)),Oo 46 (.build [(iv 0),(iv 0),(iv 0),(iv 0),(iv 0)] []),Cl 47 226 [(.tmp 45),(.tmp 46)],Oo 48 (.un .not (.tmp 47))] (Cd 48 (Sr [Mc 4 1] .ret) .skip)) (Sr [Mc 4 0] .ret)) .skip)) (.seq (Sr [Fa 49 5 2,Fa 50 0 49,Oo 51 (.load true 3 (.tmp 50)),Cl 52 227 [(.tmp 51)],Oo 53 (.un .not (.tmp 52)),Mv 54 53,Of 55 54 (.fa 5 (.tmp 2)),Of 56 54 (.fa 3 (.tmp 55)),Of 57 54 (.load false 1 (.tmp 56)),Of 58 54 (.call (.func 73) [(.tmp 57),(Ci 0),(Ci 172800)]),Of 59 54 (.un .not (.tmp 58)),Oo 60 (.pick (.tmp 54) (.const (.bool true)) (.tmp 59))] (Cd 60 (Sr [Mc 4 3] .ret) .skip)) (.seq (Sr [Fa 61 5 2,Fa 62 4 61,Ld 63 62,Bc 64 .neq 63 2,Mv 65 64,Ot 66 65 (.fa 5 (.tmp 2)),Ot 67 65 (.fa 4 (.tmp 66)),Ot 68 65 (.load false 1 (.tmp 67)),Ot 69 65 (.bin .neq (.tmp 68) (Ci 3)),Oo 70 (.pick (.tmp 65) (.tmp 69) (.const (.bool false)))] (Cd 70 (Sr [Mc 4 7] .ret) .skip)) (Sr [Mc 4 0] .ret)))))))))
theorem k152:ZaA Tryz.prog 152=some ⟨c152,[(.tmp 4)],71⟩:=by kernel_rfl
def c79:AC:=(Sr [Oo 1 (.box 26 3 (.tmp 0)),Mc 2 0] (.seq (Sr [Fa 11 0 1,Ld 12 11,Oo 13 (.len false (.tmp 12)),Bc 14 .gtr 13 40,Mv 15 14,Of 16 15 (.fa 1 (.tmp 1)),Of 17 15 (.load false 1 (.tmp 16)),Of 18 15 (.len false (.tmp 17)),Of 19 15 (.bin .gtr (.tmp 18) (Ci 20)),Oo 20 (.pick (.tmp 15) (.const (.bool true)) (.tmp 19)),Mv 21 20,Of 22 21 (.fa 2 (.tmp 1)),Of 23 21 (.load false 1 (.tmp 22)),Of 24 21 (.len false (.tmp 23)),Of 25 21 (.bin .gtr (.tmp 24) (Ci 20)),Oo 26 (.pick (.tmp 21) (.const (.bool true)) (.tmp 25))] (Cd 26 (Sr [Mc 2 2] .ret) .skip)) (.seq (Sr [Mc 3 0] (.block 0 (.loop (.seq (Sr [Mv 27 3,Fa 28 1 1,Ld 29 28,Oo 30 (.len false (.tmp 29)),Bn 31 .lss 27 30] (Cd 31 .skip (.exit 0))) (.seq (.block 1 (Sr [Fa 34 1 1,Ld 35 34,Mv 36 3,Oo 37 (.ia 2 (.tmp 35) (.tmp 36)),Fa 38 1 37,Ld 39 38,Oo 40 (.len false (.tmp 39)),Bc 41 .gtr 40 8] (Cd 41 (Sr [Mc 2 2] .ret) .skip))) (.reg [Mv 32 3,Bc 33 .add 32 1,Mv 3 33])))))) (.seq (Sr [Mc 4 0] (.block 2 (.loop (.seq (Sr [Mv 42 4,Fa 43 0 1,Ld 44 43,Oo 45 (.len false (.tmp 44)),Bn 46 .lss 42 45] (Cd 46 .skip (.exit 2))) (.seq (.block 3 (Sr [Fa 49 0 1,Ld 50 49,Mv 51 4,Oo 52 (.ia 11 (.tmp 50) (.tmp 51)),Oo 53 (.load true 11 (.tmp 52)),Cl 54 151 [(.tmp 53)],Mv 5 54] (Sr [Mv 55 5,Bc 56 .neq 55 0] (Cd 56 (Sr [Mv 57 5,Mv 2 57] .ret) .skip)))) (.reg [Mv 47 4,Bc 48 .add 47 1,Mv 4 48])))))) (.seq (Sr [Mc 6 0] (.block 4 (.loop (.seq (Sr [Mv 58 6,Fa 59 1 1,Ld 60 59,Oo 61 (.len false (.tmp 60)),Bn 62 .lss 58 61] (Cd 62 .skip (.exit 4))) (.seq (.block 5 (Sr [Fa 65 1 1,Ld 66 65,Mv 67 6,Oo 68 (.ia 2 (.tmp 66) (.tmp 67)),Fa 69 1 68,Ld 70 69,Mv 7 70] (.seq (Sr [Fa 71 1 1,Ld 72 71,Mv 73 6,Oo 74 (.ia 2 (.tmp 72) (.tmp 73)),Fa 75 0 74,Ld 76 75,Cl 77 115 [(.tmp 76)],Oo 78 (.un .not (.tmp 77)),Mv 79 78,Of 80 79 (mt 7),Of 81 79 (.len false (.tmp 80)),Of 82 79 (.bin .eql (.tmp 81) (Ci 0)),Oo 83 (.pick (.tmp 79) (.const (.bool true)) (.tmp 82))] (Cd 83 (Sr [Mc 2 1] .ret) .skip)) (Sr [Mc 8 0] (.block 6 (.loop (.seq (Sr [Mv 84 8,Mv 85 7,Oo 86 (.len false (.tmp 85)),Bn 87 .lss 84 86] (Cd 87 .skip (.exit 6))) (.seq (.block 7 (Sr [Mv 90 7,Mv 91 8,Oo 92 (.ia 10 (.tmp 90) (.tmp 91)),Oo 93 (.load true 10 (.tmp 92)),Mv 94 8,Mv 95 7,Oo 96 (.len false (.tmp 95)),Bc 97 .sub 96 1,Bn 98 .eql 94 97,Cl 99 152 [(.tmp 93),(.tmp 98)],Mv 9 99] (Sr [Mv 100 9,Bc 101 .neq 100 0] (Cd 101 (Sr [Mv 102 9,Mv 2 102] .ret) .skip)))) (.reg [Mv 88 8,Bc 89 .add 88 1,Mv 8 89]))))))))) (.reg [Mv 63 6,Bc 64 .add 63 1,Mv 6 64])))))) (.seq (Sr [Mc 10 0] (.block 8 (.loop (.seq (Sr [Mv 103 10,Fa 104 2 1,Ld 105 104,Oo 106 (.len false (.tmp 105)),Bn 107 .lss 103 106] (Cd 107 .skip (.exit 8))) (.seq (.block 9 (Sr [Fa 110 2 1,Ld 111 110,Mv 112 10,Oo 113 (.ia 2 (.tmp 111) (.tmp 112)),Fa 114 0 113,Ld 115 114,Cl 116 115 [(.tmp 115)],Oo 117 (.un .not (.tmp 116)),Mv 118 117,Of 119 118 (.fa 2 (.tmp 1)),Of 120 118 (.load false 1 (.tmp 119)),Of 121 118 (mt 10),Of 122 118 (.ia 2 (.tmp 120) (.tmp 121)),Of 123 118 (.fa 1 (.tmp 122)),Of 124 118 (.load false 1 (.tmp 123)),Of 125 118 (.call (.func 115) [(.tmp 124)]),Of 126 118 (.un .not (.tmp 125)),Oo 127 (.pick (.tmp 118) (.const (.bool true)) (.tmp 126))] (Cd 127 (Sr [Mc 2 1] .ret) .skip))) (.reg [Mv 108 10,Bc 109 .add 108 1,Mv 10 109])))))) (Sr [Mc 2 0] .ret)))))))
theorem k79:ZaA Tryz.prog 79=some ⟨c79,[(.tmp 2)],128⟩:=by kernel_rfl
theorem ZlJ {nm lt:ByteArray}{f t m k w n a c s:Int}{h:AH}(hnm:nm.size≤maxLen) (hlt':lt.size≤maxLen):Ac 151 [.agg [sv nm,iv f,iv t,iv m,iv k,iv w,iv n,iv a,iv c,iv s,sv lt]] h (iv (Zbu (nm,f,t,m,(k,w,n),a,c,s,lt))):=by
 refine tI' k151 fun N hn hlt hlA hbd=>?_
 simp only[tb'] at hbd ⊢
 refine wr'<|E' (Zbd cv rfl (hl0 hn) ha0) pt<|mw<|sn'<|Zam<|wr'<|Vw (Zab lk)<|Vw (Zac lk gx gt0)<|Zad mp (Zc4 hnm) pt<|Vw (Zax lk)<|mw<|?_
 refine ZaF (t:=9) gt pt pt (fun hg9=>?_) (fun hg9=>?_)
 ·refine s_no gt pt<|s_no gt pt<|s_no gt pt<|s_no gt pt<|Vw (Zak lk lkb)<|sn'<|ZaG lk<|wr'<|mw<|sn'<|Zaa<|?_
  refine Zah<|Zae rz<|rT'<|?_
  rw[show Zbu (nm,f,t,m,(k,w,n),a,c,s,lt)=1 by unfold Zbu;simp_all]
 refine s_do gt<|Vw (Zab lk)<|s_do gt<|Vw (Zac lk gx gt10)<|s_do gt<|Zad mp (Zhi hlt') pt<|s_do gt<|Vw (Zax lk)<|Vw (Zaj lk lk)<|sn'<|?_
 refine Zaw lk (fun hc1=>?_) (fun hc1=>?_)
 ·refine wr'<|mw<|sn'<|Zaa<|Zah<|Zae rz<|rT'<|?_
  rw[show Zbu (nm,f,t,m,(k,w,n),a,c,s,lt)=1 by unfold Zbu;simp_all]
 have h1:Zcu nm=true∧Zcm lt=true:=by simp_all
 have hR:Zbu (nm,f,t,m,(k,w,n),a,c,s,lt)=if f<1900∨f>t∨t>2100∨¬wi m 1 12=true then 3 else if (onV 2001 m k w n).2≠0 then (onV 2001 m k w n).2 else if ¬wi a 0 172800=true then 3 else if ¬clkB c true=true then 7 else if ¬wi s 0 10800=true then 3 else 0:=if_neg (by simp[h1])
 have hC:clkB c true=wi c 1 3:=by unfold clkB;simp
 rw[hC] at hR
 refine Zaf<|Zag<|Zam<|wr'<|Vw (Zab lk)<|Vw (Zac lk gx gt1)<|Vw (Zab lk)<|Vw (Zac lk gx gt2)<|Zad mp (ZaV) pt<|Vw (Zax lk)<|mw<|?_
 refine ZaF (t:=21) gt pt pt (fun hg21=>?_) (fun hg21=>?_)
 ·have hw:¬wi f 1900 t=true:=by simpa using hg21
  have hw':¬(1900≤f∧f≤t):=by unfold wi at hw;simpa using hw
  rw[if_pos om] at hR
  refine s_no gt pt<|s_no gt pt<|s_no gt pt<|Vw (Zak lk lkb)<|mw<|s_no gt pt<|s_no gt pt<|s_no gt pt<|s_no gt pt<|Vw (Zak lk lkb)<|sn'<|ZaG lk<|Zam<|?_
  refine Zav<|mw<|sn'<|Zaa<|Zah<|Zae rz<|rT'<|?_
  rw[hR]
 have hw:wi f 1900 t=true:=by simpa using hg21
 have hw':1900≤f∧f≤t:=by unfold wi at hw;simpa using hw
 refine s_do gt<|Vw (Zab lk)<|s_do gt<|Vw (Zac lk gx gt2)<|s_do gt<|Vw (ZbC lk lki)<|Vw (Zaj lk lk)<|mw<|?_
 refine sp' (t:=26) gt pt pt (fun hg26=>?_) (fun hg26=>?_)
 ·rw[if_pos (.inr (.inr (.inl om)))] at hR
  refine s_no gt pt<|s_no gt pt<|s_no gt pt<|s_no gt pt<|Vw (Zak lk lkb)<|sn'<|ZaG lk<|wr'<|mw<|sn'<|Zaa<|?_
  refine Zah<|Zae rz<|rT'<|?_
  rw[hR]
 refine s_do gt<|Vw (Zab lk)<|s_do gt<|Vw (Zac lk gx gt3)<|s_do gt<|Zad mp (ZaV) pt<|s_do gt<|Vw (Zax lk)<|Vw (Zaj lk lk)<|sn'<|?_
 refine Zaw lk (fun hc2=>?_) (fun hc2=>?_)
 ·rw[if_pos (.inr (.inr (.inr (by simpa using hc2))))] at hR
  refine wr'<|mw<|sn'<|Zaa<|Zah<|Zae rz<|rT'<|?_
  rw[hR]
 have hw2:wi m 1 12=true:=by simpa using hc2
 have h2:¬(f<1900∨f>t∨t>2100∨¬wi m 1 12=true):=by rw[hw2];simp;omega
 rw[if_neg h2] at hR
 refine Zaf<|Zag<|wr'<|Vw (Zab lk)<|Vw (Zac lk gx gt3)<|Vw (Zab lk)<|Vw (Zao lk gx ZqI rfl)<|Zad mp (ron_a) pt<|mw<|Vw (ZaS lk gt)<|Vw (ZaS lk gt)<|E' (ZaW (hl1 hn) ha1) pt<|E' (Zai lk cv gx rfl (nb' rfl) rfl ZqJ (hs1 hn)) ptn<|?_
 refine mw<|sn'<|Zam<|wr'<|mw<|Vw (ZaX lk lki)<|sn'<|?_
 refine cd' lk (fun hc3=>?_) (fun hc3=>?_)
 ·rw[if_pos hc3] at hR
  refine wr'<|mw<|mw<|sn'<|Zaa<|Zah<|Zae rz<|rT'<|?_
  rw[hR]
 rw[if_neg hc3] at hR
 refine Zaf<|Zag<|Zam<|wr'<|Vw (Zab lk)<|Vw (Zac lk gx gt7)<|Zad mp (ZaV) pt<|Vw (Zax lk)<|sn'<|?_
 refine Zaw lk (fun hc4=>?_) (fun hc4=>?_)
 ·rw[if_pos (by simpa using hc4)] at hR
  refine wr'<|mw<|sn'<|Zaa<|Zah<|Zae rz<|rT'<|?_
  rw[hR]
 rw[if_neg (by simpa using hc4)] at hR
 refine Zaf<|Zag<|Zam<|wr'<|Vw (Zab lk)<|Vw (Zac lk gx gt8)<|Zad mp (ZaV) pt<|Vw (Zax lk)<|sn'<|?_
 refine Zaw lk (fun hc5=>?_) (fun hc5=>?_)
 ·rw[if_pos (by simpa using hc5)] at hR
  refine wr'<|mw<|sn'<|Zaa<|Zah<|Zae rz<|rT'<|?_
  rw[hR]
 rw[if_neg (by simpa using hc5)] at hR
 refine Zaf<|Zag<|Zam<|wr'<|Vw (Zab lk)<|Vw (Zac lk gx gt9)<|Zad mp (ZaV) pt<|Vw (Zax lk)<|sn'<|?_
 refine Zaw lk (fun hc6=>?_) (fun hc6=>?_)
 ·rw[if_pos (by simpa using hc6)] at hR
  refine wr'<|mw<|sn'<|Zaa<|Zah<|Zae rz<|rT'<|?_
  rw[hR]
 rw[if_neg (by simpa using hc6)] at hR
 refine Zaf<|Zag<|wr'<|mw<|sn'<|Zaa<|Zae rz<|rT'<|?_
 rw[hR]
theorem Zhw (c:Int):clkB c false=decide (c=2∨c=3):=by unfold clkB wi;rw[Bool.eq_iff_iff];simp;omega
theorem Zm6 {rl fm:ByteArray}{sh sa y m d a c:Int}{op last:Bool}{h:AH}(hrl:rl.size≤maxLen) (hfm:fm.size≤maxLen):Ac 152 [.agg [iv sh,sv rl,iv sa,sv fm,bv op,iv y,iv m,iv d,iv a,iv c],bv last] h (iv (eraE sh rl sa fm op y m d a c last)):=by
 refine tI' k152 fun N hn hlt hlA hbd=>?_
 simp only[tb'] at hbd ⊢
 refine wr'<|E' (Zbd cv rfl (hl0 hn) ha0) pt<|mw<|sn'<|Zam<|wr'<|Vw (Zab lk)<|Vw (Zac lk gx gt1)<|Vw (ZcD lk lks)<|mw<|?_
 refine sp' (t:=8) gt pt pt (fun hg8=>?_) (fun hg8=>?_)
 ·refine s_do gt<|Vw (Zab lk)<|s_do gt<|Vw (Zac lk gx gt1)<|s_do gt<|Zad mp (Zc4 hrl) pt<|s_do gt<|Vw (Zax lk)<|Vw (Zak lk lk)<|mw<|?_
  refine ZaF (t:=14) gt pt pt (fun hg14=>?_) (fun hg14=>?_)
  ·refine s_no gt pt<|s_no gt pt<|s_no gt pt<|s_no gt pt<|Vw (Zak lk lkb)<|sn'<|ZaG lk<|wr'<|mw<|sn'<|Zaa<|?_
   refine Zah<|Zae rz<|rT'<|?_
   refine ivx ?_;unfold eraE;simp_all
  refine s_do gt<|Vw (Zab lk)<|s_do gt<|Vw (Zac lk gx gt3)<|s_do gt<|Zad mp (ZfF hfm) pt<|s_do gt<|Vw (Zax lk)<|Vw (Zaj lk lk)<|sn'<|?_
  refine Zaw lk (fun hc1=>?_) (fun hc1=>?_)
  ·refine wr'<|mw<|sn'<|Zaa<|Zah<|Zae rz<|rT'<|?_
   refine ivx ?_;unfold eraE;simp_all
  refine Zaf<|Zag<|Zam<|wr'<|Vw (Zab lk)<|Vw (Zac lk gx gt0)<|Zad mp (ZaV) pt<|Vw (Zax lk)<|mw<|?_
  refine ZaF (t:=24) gt pt pt (fun hg24=>?_) (fun hg24=>?_)
  ·refine s_no gt pt<|s_no gt pt<|s_no gt pt<|s_no gt pt<|Vw (Zak lk lkb)<|sn'<|ZaG lk<|wr'<|mw<|sn'<|Zaa<|?_
   refine Zah<|Zae rz<|rT'<|?_
   refine ivx ?_;unfold eraE;simp_all
  refine s_do gt<|Vw (Zab lk)<|s_do gt<|Vw (Zac lk gx gt2)<|s_do gt<|Zad mp (ZaV) pt<|s_do gt<|Vw (Zax lk)<|Vw (Zaj lk lk)<|sn'<|?_
  refine Zaw lk (fun hc2=>?_) (fun hc2=>?_)
  ·refine wr'<|mw<|sn'<|Zaa<|Zah<|Zae rz<|rT'<|?_
   refine ivx ?_;unfold eraE;simp_all
  refine Zaf<|Zag<|Zam<|wr'<|Vw (Zab lk)<|Vw (Zac lk gx gt1)<|Vw (ZcD lk lks)<|mw<|?_
  refine sp' (t:=33) gt pt pt (fun hg33=>?_) (fun hg33=>?_)
  ·refine s_do gt<|Vw (Zab lk)<|s_do gt<|Vw (Zac lk gx gt2)<|s_do gt<|Vw (ZaX lk lki)<|Vw (Zak lk lk)<|sn'<|?_
   refine cd' lk (fun hc3=>?_) (fun hc3=>?_)
   ·refine wr'<|mw<|sn'<|Zaa<|Zah<|Zae rz<|rT'<|?_
    refine ivx ?_;unfold eraE;simp_all
   refine Zaf<|Zag<|Zam<|wr'<|Vw (Zab lk)<|Vw (Zac lk gx gt4)<|mw<|Vw (ZdM lk lk)<|sn'<|?_
   refine cd' lk (fun hc4=>?_) (fun hc4=>?_)
   ·refine wr'<|mw<|sn'<|Zaa<|Zah<|Zae rz<|rT'<|?_
    refine ivx ?_;unfold eraE;simp_all
   refine Zaf<|Zag<|Zam<|wr'<|Vw (Zab lk)<|Vw (Zac lk gx gt4)<|sn'<|?_
   refine Zaw lk (fun hc5=>?_) (fun hc5=>?_)
   ·refine Zam<|wr'<|Vw (Zab lk)<|Vw (Zao lk gx Zfo rfl)<|Vw (Zau Zcx)<|Zad mp (ZdQ (u:=((y,m,d),a,c)) (v:=((0,0,0),0,0))) pt<|Vw (Zax lk)<|sn'<|?_
    refine Zaw lk (fun hc6=>?_) (fun hc6=>?_)
    ·refine wr'<|mw<|sn'<|Zaa<|Zah<|Zah<|Zae rz<|rT'<|?_
     refine ivx ?_;unfold eraE;simp_all <;> (try intros) <;> omega
    refine Zaf<|Zag<|wr'<|mw<|sn'<|Zaa<|Zah<|Zae rz<|rT'<|?_
    refine ivx ?_;unfold eraE;simp_all
   refine Zaf<|Zag<|Zam<|wr'<|Vw (Zab lk)<|Vw (ZbK lk)<|Vw (Zao lk gx Zfp rfl)<|Zad mp (Ze9) pt<|Vw (Zax lk)<|mw<|?_
   refine ZaF (t:=54) gt pt pt (fun hg54=>?_) (fun hg54=>?_)
   ·refine s_no gt pt<|s_no gt pt<|s_no gt pt<|s_no gt pt<|s_no gt pt<|Vw (Zak lk lkb)<|sn'<|ZaG lk<|wr'<|mw<|sn'<|?_
    refine Zaa<|Zah<|Zae rz<|rT'<|?_
    refine ivx ?_;unfold eraE;simp_all
   refine s_do gt<|Vw (Zab lk)<|s_do gt<|Vw (ZbK lk)<|s_do gt<|Vw (Zac lk gx gt8)<|s_do gt<|Zad mp (ZaV) pt<|s_do gt<|Vw (Zax lk)<|Vw (Zaj lk lk)<|sn'<|?_
   refine Zaw lk (fun hc7=>?_) (fun hc7=>?_)
   ·refine wr'<|mw<|sn'<|Zaa<|Zah<|Zae rz<|rT'<|?_
    refine ivx ?_;unfold eraE;simp_all
   refine Zaf<|Zag<|Zam<|wr'<|Vw (Zab lk)<|Vw (ZbK lk)<|Vw (Zac lk gx gt9)<|Vw (ZaX lk lki)<|mw<|?_
   refine sp' (t:=65) gt pt pt (fun hg65=>?_) (fun hg65=>?_)
   ·refine s_do gt<|Vw (Zab lk)<|s_do gt<|Vw (ZbK lk)<|s_do gt<|Vw (Zac lk gx gt9)<|s_do gt<|Vw (ZaX lk lki)<|Vw (Zak lk lk)<|sn'<|?_
    refine cd' lk (fun hc8=>?_) (fun hc8=>?_)
    ·refine wr'<|mw<|sn'<|Zaa<|Zah<|Zae rz<|rT'<|?_
     refine ivx ?_;unfold eraE;rw[Zhw];simp_all
    refine Zaf<|Zag<|wr'<|mw<|sn'<|Zaa<|Zae rz<|rT'<|?_
    refine ivx ?_;unfold eraE;rw[Zhw];simp_all
   refine s_no gt pt<|s_no gt pt<|s_no gt pt<|s_no gt pt<|Vw (Zaj lk lkb)<|sn'<|ZaO lk<|Zaf<|Zag<|wr'<|mw<|Zar<|?_
   refine Zag<|Zaa<|Zae rz<|rT'<|?_
   refine ivx ?_;unfold eraE;rw[Zhw];simp_all
  refine s_no gt pt<|s_no gt pt<|s_no gt pt<|Vw (Zaj lk lkb)<|sn'<|ZaO lk<|Zaf<|Zag<|Zam<|wr'<|Vw (Zab lk)<|Vw (Zac lk gx gt4)<|?_
  refine mw<|Vw (ZdM lk lk)<|sn'<|?_
  refine cd' lk (fun hc4=>?_) (fun hc4=>?_)
  ·refine wr'<|mw<|sn'<|Zaa<|Zah<|Zae rz<|rT'<|?_
   refine ivx ?_;unfold eraE;simp_all
  refine Zaf<|Zag<|Zam<|wr'<|Vw (Zab lk)<|Vw (Zac lk gx gt4)<|sn'<|?_
  refine Zaw lk (fun hc5=>?_) (fun hc5=>?_)
  ·refine Zam<|wr'<|Vw (Zab lk)<|Vw (Zao lk gx Zfo rfl)<|Vw (Zau Zcx)<|Zad mp (ZdQ (u:=((y,m,d),a,c)) (v:=((0,0,0),0,0))) pt<|Vw (Zax lk)<|sn'<|?_
   refine Zaw lk (fun hc6=>?_) (fun hc6=>?_)
   ·refine wr'<|mw<|sn'<|Zaa<|Zah<|Zah<|Zae rz<|rT'<|?_
    refine ivx ?_;unfold eraE;simp_all <;> (try intros) <;> omega
   refine Zaf<|Zag<|wr'<|mw<|sn'<|Zaa<|Zah<|Zae rz<|rT'<|?_
   refine ivx ?_;unfold eraE;simp_all
  refine Zaf<|Zag<|Zam<|wr'<|Vw (Zab lk)<|Vw (ZbK lk)<|Vw (Zao lk gx Zfp rfl)<|Zad mp (Ze9) pt<|Vw (Zax lk)<|mw<|?_
  refine ZaF (t:=54) gt pt pt (fun hg54=>?_) (fun hg54=>?_)
  ·refine s_no gt pt<|s_no gt pt<|s_no gt pt<|s_no gt pt<|s_no gt pt<|Vw (Zak lk lkb)<|sn'<|ZaG lk<|wr'<|mw<|sn'<|?_
   refine Zaa<|Zah<|Zae rz<|rT'<|?_
   refine ivx ?_;unfold eraE;simp_all
  refine s_do gt<|Vw (Zab lk)<|s_do gt<|Vw (ZbK lk)<|s_do gt<|Vw (Zac lk gx gt8)<|s_do gt<|Zad mp (ZaV) pt<|s_do gt<|Vw (Zax lk)<|Vw (Zaj lk lk)<|sn'<|?_
  refine Zaw lk (fun hc7=>?_) (fun hc7=>?_)
  ·refine wr'<|mw<|sn'<|Zaa<|Zah<|Zae rz<|rT'<|?_
   refine ivx ?_;unfold eraE;simp_all
  refine Zaf<|Zag<|Zam<|wr'<|Vw (Zab lk)<|Vw (ZbK lk)<|Vw (Zac lk gx gt9)<|Vw (ZaX lk lki)<|mw<|?_
  refine sp' (t:=65) gt pt pt (fun hg65=>?_) (fun hg65=>?_)
  ·refine s_do gt<|Vw (Zab lk)<|s_do gt<|Vw (ZbK lk)<|s_do gt<|Vw (Zac lk gx gt9)<|s_do gt<|Vw (ZaX lk lki)<|Vw (Zak lk lk)<|sn'<|?_
   refine cd' lk (fun hc8=>?_) (fun hc8=>?_)
   ·refine wr'<|mw<|sn'<|Zaa<|Zah<|Zae rz<|rT'<|?_
    refine ivx ?_;unfold eraE;rw[Zhw];simp_all
   refine Zaf<|Zag<|wr'<|mw<|sn'<|Zaa<|Zae rz<|rT'<|?_
   refine ivx ?_;unfold eraE;rw[Zhw];simp_all
  refine s_no gt pt<|s_no gt pt<|s_no gt pt<|s_no gt pt<|Vw (Zaj lk lkb)<|sn'<|ZaO lk<|Zaf<|Zag<|wr'<|mw<|Zar<|?_
  refine Zag<|Zaa<|Zae rz<|rT'<|?_
  refine ivx ?_;unfold eraE;rw[Zhw];simp_all
 refine s_no gt pt<|s_no gt pt<|s_no gt pt<|s_no gt pt<|Vw (Zaj lk lkb)<|mw<|s_do gt<|Vw (Zab lk)<|s_do gt<|Vw (Zac lk gx gt3)<|s_do gt<|Zad mp (ZfF hfm) pt<|s_do gt<|Vw (Zax lk)<|?_
 refine Vw (Zaj lk lk)<|sn'<|?_
 refine Zaw lk (fun hc1=>?_) (fun hc1=>?_)
 ·refine wr'<|mw<|sn'<|Zaa<|Zah<|Zae rz<|rT'<|?_
  refine ivx ?_;unfold eraE;simp_all
 refine Zaf<|Zag<|Zam<|wr'<|Vw (Zab lk)<|Vw (Zac lk gx gt0)<|Zad mp (ZaV) pt<|Vw (Zax lk)<|mw<|?_
 refine ZaF (t:=24) gt pt pt (fun hg24=>?_) (fun hg24=>?_)
 ·refine s_no gt pt<|s_no gt pt<|s_no gt pt<|s_no gt pt<|Vw (Zak lk lkb)<|sn'<|ZaG lk<|wr'<|mw<|sn'<|Zaa<|?_
  refine Zah<|Zae rz<|rT'<|?_
  refine ivx ?_;unfold eraE;simp_all
 refine s_do gt<|Vw (Zab lk)<|s_do gt<|Vw (Zac lk gx gt2)<|s_do gt<|Zad mp (ZaV) pt<|s_do gt<|Vw (Zax lk)<|Vw (Zaj lk lk)<|sn'<|?_
 refine Zaw lk (fun hc2=>?_) (fun hc2=>?_)
 ·refine wr'<|mw<|sn'<|Zaa<|Zah<|Zae rz<|rT'<|?_
  refine ivx ?_;unfold eraE;simp_all
 refine Zaf<|Zag<|Zam<|wr'<|Vw (Zab lk)<|Vw (Zac lk gx gt1)<|Vw (ZcD lk lks)<|mw<|?_
 refine sp' (t:=33) gt pt pt (fun hg33=>?_) (fun hg33=>?_)
 ·refine s_do gt<|Vw (Zab lk)<|s_do gt<|Vw (Zac lk gx gt2)<|s_do gt<|Vw (ZaX lk lki)<|Vw (Zak lk lk)<|sn'<|?_
  refine cd' lk (fun hc3=>?_) (fun hc3=>?_)
  ·refine wr'<|mw<|sn'<|Zaa<|Zah<|Zae rz<|rT'<|?_
   refine ivx ?_;unfold eraE;simp_all
  refine Zaf<|Zag<|Zam<|wr'<|Vw (Zab lk)<|Vw (Zac lk gx gt4)<|mw<|Vw (ZdM lk lk)<|sn'<|?_
  refine cd' lk (fun hc4=>?_) (fun hc4=>?_)
  ·refine wr'<|mw<|sn'<|Zaa<|Zah<|Zae rz<|rT'<|?_
   refine ivx ?_;unfold eraE;simp_all
  refine Zaf<|Zag<|Zam<|wr'<|Vw (Zab lk)<|Vw (Zac lk gx gt4)<|sn'<|?_
  refine Zaw lk (fun hc5=>?_) (fun hc5=>?_)
  ·refine Zam<|wr'<|Vw (Zab lk)<|Vw (Zao lk gx Zfo rfl)<|Vw (Zau Zcx)<|Zad mp (ZdQ (u:=((y,m,d),a,c)) (v:=((0,0,0),0,0))) pt<|Vw (Zax lk)<|sn'<|?_
   refine Zaw lk (fun hc6=>?_) (fun hc6=>?_)
   ·refine wr'<|mw<|sn'<|Zaa<|Zah<|Zah<|Zae rz<|rT'<|?_
    refine ivx ?_;unfold eraE;simp_all <;> (try intros) <;> omega
   refine Zaf<|Zag<|wr'<|mw<|sn'<|Zaa<|Zah<|Zae rz<|rT'<|?_
   refine ivx ?_;unfold eraE;simp_all
  refine Zaf<|Zag<|Zam<|wr'<|Vw (Zab lk)<|Vw (ZbK lk)<|Vw (Zao lk gx Zfp rfl)<|Zad mp (Ze9) pt<|Vw (Zax lk)<|mw<|?_
  refine ZaF (t:=54) gt pt pt (fun hg54=>?_) (fun hg54=>?_)
  ·refine s_no gt pt<|s_no gt pt<|s_no gt pt<|s_no gt pt<|s_no gt pt<|Vw (Zak lk lkb)<|sn'<|ZaG lk<|wr'<|mw<|sn'<|?_
   refine Zaa<|Zah<|Zae rz<|rT'<|?_
   refine ivx ?_;unfold eraE;simp_all
  refine s_do gt<|Vw (Zab lk)<|s_do gt<|Vw (ZbK lk)<|s_do gt<|Vw (Zac lk gx gt8)<|s_do gt<|Zad mp (ZaV) pt<|s_do gt<|Vw (Zax lk)<|Vw (Zaj lk lk)<|sn'<|?_
  refine Zaw lk (fun hc7=>?_) (fun hc7=>?_)
  ·refine wr'<|mw<|sn'<|Zaa<|Zah<|Zae rz<|rT'<|?_
   refine ivx ?_;unfold eraE;simp_all
  refine Zaf<|Zag<|Zam<|wr'<|Vw (Zab lk)<|Vw (ZbK lk)<|Vw (Zac lk gx gt9)<|Vw (ZaX lk lki)<|mw<|?_
  refine sp' (t:=65) gt pt pt (fun hg65=>?_) (fun hg65=>?_)
  ·refine s_do gt<|Vw (Zab lk)<|s_do gt<|Vw (ZbK lk)<|s_do gt<|Vw (Zac lk gx gt9)<|s_do gt<|Vw (ZaX lk lki)<|Vw (Zak lk lk)<|sn'<|?_
   refine cd' lk (fun hc8=>?_) (fun hc8=>?_)
   ·refine wr'<|mw<|sn'<|Zaa<|Zah<|Zae rz<|rT'<|?_
    refine ivx ?_;unfold eraE;rw[Zhw];simp_all
   refine Zaf<|Zag<|wr'<|mw<|sn'<|Zaa<|Zae rz<|rT'<|?_
   refine ivx ?_;unfold eraE;rw[Zhw];simp_all
  refine s_no gt pt<|s_no gt pt<|s_no gt pt<|s_no gt pt<|Vw (Zaj lk lkb)<|sn'<|ZaO lk<|Zaf<|Zag<|wr'<|mw<|Zar<|?_
  refine Zag<|Zaa<|Zae rz<|rT'<|?_
  refine ivx ?_;unfold eraE;rw[Zhw];simp_all
 refine s_no gt pt<|s_no gt pt<|s_no gt pt<|Vw (Zaj lk lkb)<|sn'<|ZaO lk<|Zaf<|Zag<|Zam<|wr'<|Vw (Zab lk)<|Vw (Zac lk gx gt4)<|?_
 refine mw<|Vw (ZdM lk lk)<|sn'<|?_
 refine cd' lk (fun hc4=>?_) (fun hc4=>?_)
 ·refine wr'<|mw<|sn'<|Zaa<|Zah<|Zae rz<|rT'<|?_
  refine ivx ?_;unfold eraE;simp_all
 refine Zaf<|Zag<|Zam<|wr'<|Vw (Zab lk)<|Vw (Zac lk gx gt4)<|sn'<|?_
 refine Zaw lk (fun hc5=>?_) (fun hc5=>?_)
 ·refine Zam<|wr'<|Vw (Zab lk)<|Vw (Zao lk gx Zfo rfl)<|Vw (Zau Zcx)<|Zad mp (ZdQ (u:=((y,m,d),a,c)) (v:=((0,0,0),0,0))) pt<|Vw (Zax lk)<|sn'<|?_
  refine Zaw lk (fun hc6=>?_) (fun hc6=>?_)
  ·refine wr'<|mw<|sn'<|Zaa<|Zah<|Zah<|Zae rz<|rT'<|?_
   refine ivx ?_;unfold eraE;simp_all <;> (try intros) <;> omega
  refine Zaf<|Zag<|wr'<|mw<|sn'<|Zaa<|Zah<|Zae rz<|rT'<|?_
  refine ivx ?_;unfold eraE;simp_all
 refine Zaf<|Zag<|Zam<|wr'<|Vw (Zab lk)<|Vw (ZbK lk)<|Vw (Zao lk gx Zfp rfl)<|Zad mp (Ze9) pt<|Vw (Zax lk)<|mw<|?_
 refine ZaF (t:=54) gt pt pt (fun hg54=>?_) (fun hg54=>?_)
 ·refine s_no gt pt<|s_no gt pt<|s_no gt pt<|s_no gt pt<|s_no gt pt<|Vw (Zak lk lkb)<|sn'<|ZaG lk<|wr'<|mw<|sn'<|?_
  refine Zaa<|Zah<|Zae rz<|rT'<|?_
  refine ivx ?_;unfold eraE;simp_all
 refine s_do gt<|Vw (Zab lk)<|s_do gt<|Vw (ZbK lk)<|s_do gt<|Vw (Zac lk gx gt8)<|s_do gt<|Zad mp (ZaV) pt<|s_do gt<|Vw (Zax lk)<|Vw (Zaj lk lk)<|sn'<|?_
 refine Zaw lk (fun hc7=>?_) (fun hc7=>?_)
 ·refine wr'<|mw<|sn'<|Zaa<|Zah<|Zae rz<|rT'<|?_
  refine ivx ?_;unfold eraE;simp_all
 refine Zaf<|Zag<|Zam<|wr'<|Vw (Zab lk)<|Vw (ZbK lk)<|Vw (Zac lk gx gt9)<|Vw (ZaX lk lki)<|mw<|?_
 refine sp' (t:=65) gt pt pt (fun hg65=>?_) (fun hg65=>?_)
 ·refine s_do gt<|Vw (Zab lk)<|s_do gt<|Vw (ZbK lk)<|s_do gt<|Vw (Zac lk gx gt9)<|s_do gt<|Vw (ZaX lk lki)<|Vw (Zak lk lk)<|sn'<|?_
  refine cd' lk (fun hc8=>?_) (fun hc8=>?_)
  ·refine wr'<|mw<|sn'<|Zaa<|Zah<|Zae rz<|rT'<|?_
   refine ivx ?_;unfold eraE;rw[Zhw];simp_all
  refine Zaf<|Zag<|wr'<|mw<|sn'<|Zaa<|Zae rz<|rT'<|?_
  refine ivx ?_;unfold eraE;rw[Zhw];simp_all
 refine s_no gt pt<|s_no gt pt<|s_no gt pt<|s_no gt pt<|Vw (Zaj lk lkb)<|sn'<|ZaO lk<|Zaf<|Zag<|wr'<|mw<|Zar<|?_
 refine Zag<|Zaa<|Zae rz<|rT'<|?_
 refine ivx ?_;unfold eraE;rw[Zhw];simp_all
theorem ZlK {r:Rul}{h:AH}(h1:r.1.size≤maxLen) (h2:r.2.2.2.2.2.2.2.2.size≤maxLen):Ac 151 [.agg (rulC r)] h (iv (Zbu r)):=ZlJ h1 h2
theorem Zm7 {x:Era}{last:Bool}{h:AH}(ho:ZrY x):ACalls Tryz.prog 152 [.agg (eraC x),bv last] h fun y h'=>h'=h∧y=.ret (iv (eraX x last)):=Zm6 ho.1 ho.2
theorem ZrJ {a:List Rul}{z:List Zon}{l:List Lnk}{h:AH}(hok:ZeL (a,z,l)):Ac 79 [.agg [.sl a.length 11 false (rows rulC a),.sl z.length 2 false (rows zonC z),.sl l.length 2 false (rows lnkC l)]] h (iv (ZbP (a,z,l))):=by
 refine tI' k79 fun N hn hlt hlA hbd=>?_
 simp only[tb'] at hbd ⊢
 refine wr'<|E' (Zbd cv rfl (hl0 hn) ha0) pt<|mw<|sn'<|Zam<|wr'<|Vw (Zab lk)<|Vw (Zac lk gx gt0)<|Vw (ZaL lk)<|Vw (ZbC lk lki)<|mw<|?_
 refine sp' (t:=15) gt pt pt (fun hg15=>?_) (fun hg15=>?_)
 ·have hM:ZeM (a,z,l)=true:=by unfold ZeM;simp;omega
  refine s_no gt pt<|s_no gt pt<|s_no gt pt<|s_no gt pt<|Vw (Zak lk lkb)<|mw<|s_no gt pt<|s_no gt pt<|s_no gt pt<|s_no gt pt<|Vw (Zak lk lkb)<|sn'<|ZaG lk<|?_
  refine wr'<|mw<|sn'<|Zaa<|Zah<|Zae rz<|rT'<|?_
  refine ivx ?_;unfold ZbP;rw[if_pos hM]
 refine s_do gt<|Vw (Zab lk)<|s_do gt<|Vw (Zac lk gx gt1)<|s_do gt<|Vw (ZaL lk)<|s_do gt<|Vw (ZbC lk lki)<|Vw (Zaj lk lk)<|mw<|?_
 refine sp' (t:=21) gt pt pt (fun hg21=>?_) (fun hg21=>?_)
 ·have hM:ZeM (a,z,l)=true:=by unfold ZeM;simp;omega
  refine s_no gt pt<|s_no gt pt<|s_no gt pt<|s_no gt pt<|Vw (Zak lk lkb)<|sn'<|ZaG lk<|wr'<|mw<|sn'<|Zaa<|?_
  refine Zah<|Zae rz<|rT'<|?_
  refine ivx ?_;unfold ZbP;rw[if_pos hM]
 refine s_do gt<|Vw (Zab lk)<|s_do gt<|Vw (Zac lk gx gt2)<|s_do gt<|Vw (ZaL lk)<|s_do gt<|Vw (ZbC lk lki)<|Vw (Zaj lk lk)<|sn'<|?_
 refine cd' lk (fun hc1=>?_) (fun hc1=>?_)
 ·have hM:ZeM (a,z,l)=true:=by unfold ZeM;simp;omega
  refine wr'<|mw<|sn'<|Zaa<|Zah<|Zae rz<|rT'<|?_
  refine ivx ?_;unfold ZbP;rw[if_pos hM]
 refine Zaf<|Zag<|Zam<|wr'<|mw<|sn'<|Zap<|?_
 refine w_lp (ι:=Nat) (fun (k:Nat)=>[(3,iv (k:Int)),(2,.any)]++rn' 27 15) (fun (k:Nat)=>[]) (fun (k:Nat)=>k≤z.length∧(z.take k).any (fun z=>decide (8<z.2.length))=false) (fun (k:Nat)=>z.length-k) (0) (by exact⟨Nat.zero_le _,rfl⟩) ?_
 rintro k hi1
 try simp only[sm',Nat.reduceAdd]
 obtain⟨hk1,hk2⟩:=hi1
 refine Zam<|wr'<|mw<|Vw (Zab lk)<|Vw (Zac lk gx gt1)<|Vw (ZaL lk)<|Vw (Zbc lk lk)<|sn'<|?_
 refine cd' lk (fun hc2=>?_) (fun hc2=>?_)
 ·have hk:k<z.length:=by omega
  refine Zaf<|Zag<|Zam<|Zap<|wr'<|Vw (Zab lk)<|Vw (Zac lk gx gt1)<|mw<|?_
  refine V' (ZaU lk lk ZcJ (nb' rfl) ro om ro rfl) pt ?_
  refine Vw (Zbt lk dp1)<|Vw (ZaC lk gt)<|?_
  refine V' ((by first | exact ZaL lk | exact ZcZ lk)) pt ?_
  refine Vw (ZbC lk lki)<|sn'<|?_
  refine cd' lk (fun hc3=>?_) (fun hc3=>?_)
  ·have hM:ZeM (a,z,l)=true:=by unfold ZeM;rw[show z.any (fun z=>decide (8<z.2.length))=true from List.any_eq_true.2 ⟨z[k],List.getElem_mem hk,decide_eq_true om⟩];simp
   refine wr'<|mw<|sn'<|Zaa<|Zaq<|Zah<|Zah<|Zaq<|Zah<|Zae rz<|rT'<|?_
   refine ivx ?_;unfold ZbP;rw[if_pos hM]
  refine Zaf<|Zaz<|Zag<|Zav<|mw<|?_
  refine V' (Zay lk lki om om) pt ?_
  refine mw<|Zar<|ZaB<|?_
  refine lT' (k+1) (by (try dsimp only);exact⟨by omega,by rw[List.take_succ_eq_append_getElem hk,List.any_append,hk2];simp;omega⟩)
 rw[List.take_of_length_le om] at hk2
 have hM:ZeM (a,z,l)=false:=by unfold ZeM;rw[hk2];simp;omega
 have hE:ZbP (a,z,l)=if Za1 Zbu a≠0 then Za1 Zbu a else if Za1 ZeN z≠0 then Za1 ZeN z else Za1 Zep l:=by unfold ZbP;rw[if_neg (by rw[hM];simp)]
 refine ZaM<|ZaD<|ZaD<|Zbb<|Zag<|Zam<|wr'<|mw<|sn'<|Zap<|?_
 refine w_lp (ι:=Nat) (fun (i2:Nat)=>[(4,iv (i2:Int)),(2,.any),(5,.any)]++rn' 42 16) (fun (i2:Nat)=>[]) (fun (i2:Nat)=>i2≤a.length∧Za1 Zbu a=Za1 Zbu (a.drop i2)) (fun (i2:Nat)=>a.length-i2) (0) (by exact⟨Nat.zero_le _,rfl⟩) ?_
 rintro i2 hi2
 try simp only[sm',Nat.reduceAdd]
 obtain⟨hu1,hu2⟩:=hi2
 refine Zam<|wr'<|mw<|Vw (Zab lk)<|Vw (Zac lk gx gt0)<|Vw (ZaL lk)<|Vw (Zbc lk lk)<|sn'<|?_
 refine cd' lk (fun hc4=>?_) (fun hc4=>?_)
 ·have hk4:i2<a.length:=by omega
  rw[ZdI hk4] at hu2
  have ho4:=hok.1 _ (List.getElem_mem hk4)
  refine Zaf<|Zag<|Zam<|Zap<|wr'<|Vw (Zab lk)<|Vw (Zac lk gx gt0)<|mw<|?_
  refine V' (ZaU lk lk Ze8 (nb' rfl) ro om ro rfl) pt ?_
  refine Vw (ZaI lk ZqG rfl)<|Zad mp (ZlK (r:=a[i2]) ho4.1 ho4.2) pt<|mw<|sn'<|wr'<|mw<|Vw (ZaX lk lki)<|sn'<|?_
  refine cd' lk (fun hc5=>?_) (fun hc5=>?_)
  ·rw[if_pos hc5] at hu2
   refine wr'<|mw<|mw<|sn'<|Zaa<|Zaq<|Zah<|Zah<|Zaq<|Zah<|Zae rz<|rT'<|?_
   refine ivx ?_;rw[hE,hu2,if_pos hc5]
  rw[if_neg hc5] at hu2
  refine Zaf<|Zaz<|Zag<|Zav<|mw<|?_
  refine V' (Zay lk lki om om) pt ?_
  refine mw<|Zar<|ZaB<|?_
  refine lT' (i2+1) (by (try dsimp only);exact⟨by omega,hu2⟩)
 rw[List.drop_of_length_le om] at hu2
 rw[hu2,if_neg (by simp[Za1])] at hE
 refine ZaM<|ZaD<|ZaD<|Zbb<|Zag<|Zam<|wr'<|mw<|sn'<|Zap<|?_
 refine w_lp (ι:=Nat) (fun (i3:Nat)=>[(6,iv (i3:Int)),(2,.any)]++rn' 7 3++rn' 58 45) (fun (i3:Nat)=>[]) (fun (i3:Nat)=>i3≤z.length∧Za1 ZeN z=Za1 ZeN (z.drop i3)) (fun (i3:Nat)=>z.length-i3) (0) (by exact⟨Nat.zero_le _,rfl⟩) ?_
 rintro i3 hi3
 try simp only[sm',Nat.reduceAdd]
 obtain⟨hv1,hv2⟩:=hi3
 refine Zam<|wr'<|mw<|Vw (Zab lk)<|Vw (Zac lk gx gt1)<|Vw (ZaL lk)<|Vw (Zbc lk lk)<|sn'<|?_
 refine cd' lk (fun hc6=>?_) (fun hc6=>?_)
 ·have hk6:i3<z.length:=by omega
  rw[ZdI hk6] at hv2
  have ho6:=hok.2.1 _ (List.getElem_mem hk6)
  have h8:(z[i3]).2.length≤8:=by have:=List.any_eq_false.1 hk2 _ (List.getElem_mem hk6);simpa using this
  refine Zaf<|Zag<|Zam<|Zap<|wr'<|Vw (Zab lk)<|Vw (Zac lk gx gt1)<|mw<|?_
  refine V' (ZaU lk lk ZcJ (nb' rfl) ro om ro rfl) pt ?_
  refine Vw (Zbt lk dp1)<|Vw (ZaC lk gt)<|mw<|sn'<|Zam<|wr'<|Vw (Zab lk)<|Vw (Zac lk gx gt1)<|mw<|?_
  refine V' (ZaU lk lk ZcJ (nb' rfl) ro om ro rfl) pt ?_
  refine Vw (Zbt lk dp0)<|Vw (ZaC lk gt)<|Zad mp (Zc4 ho6.1) pt<|Vw (Zax lk)<|mw<|?_
  refine ZaF (t:=79) gt pt pt (fun hg79=>?_) (fun hg79=>?_)
  ·have hZ:ZeN z[i3]=1:=if_pos (.inl (by simpa using hg79))
   refine s_no gt pt<|s_no gt pt<|s_no gt pt<|Vw (Zak lk lkb)<|sn'<|ZaG lk<|wr'<|mw<|sn'<|Zaa<|Zah<|?_
   refine Zaq<|Zah<|Zah<|Zaq<|Zah<|Zae rz<|rT'<|?_
   refine ivx ?_;rw[hE,hv2,if_pos (by rw[hZ];simp),if_pos (by rw[hZ];simp),hZ]
  refine s_do gt<|mw<|s_do gt<|?_
  refine V' ((by first | exact ZaL lk | exact ZcZ lk)) pt ?_
  refine s_do gt<|Vw (ZaQ lk lki)<|Vw (Zaj lk lk)<|sn'<|?_
  refine cd' lk (fun hc7=>?_) (fun hc7=>?_)
  ·have hZ:ZeN z[i3]=1:=if_pos (.inr om)
   refine wr'<|mw<|sn'<|Zaa<|Zah<|Zaq<|Zah<|Zah<|Zaq<|Zah<|Zae rz<|rT'<|?_
   refine ivx ?_;rw[hE,hv2,if_pos (by rw[hZ];simp),if_pos (by rw[hZ];simp),hZ]
  have hZ:ZeN z[i3]=Zgj z[i3].2:=if_neg (by rintro (h1 | h1);exact h1 (by simpa using hg79);omega)
  refine Zaf<|Zag<|wr'<|mw<|sn'<|Zap<|?_
  refine w_lp (ι:=Nat) (fun (i4:Nat)=>[(8,iv (i4:Int)),(2,.any),(9,.any)]++rn' 84 19) (fun (i4:Nat)=>[]) (fun (i4:Nat)=>i4≤(z[i3]).2.length∧Zgj (z[i3]).2=Zgj ((z[i3]).2.drop i4)) (fun (i4:Nat)=>(z[i3]).2.length-i4) (0) (by exact⟨Nat.zero_le _,rfl⟩) ?_
  rintro i4 hi4
  try simp only[sm',Nat.reduceAdd]
  obtain⟨hx1,hx2⟩:=hi4
  refine Zam<|wr'<|mw<|mw<|?_
  refine V' ((by first | exact ZaL lk | exact ZcZ lk)) pt ?_
  refine Vw (Zbc lk lk)<|sn'<|?_
  refine cd' lk (fun hc8=>?_) (fun hc8=>?_)
  ·have hk8:i4<(z[i3]).2.length:=by omega
   rw[Zo3 hk8] at hx2
   have ho8:=ho6.2 _ (List.getElem_mem hk8)
   refine Zaf<|Zag<|Zam<|Zap<|wr'<|mw<|mw<|?_
   refine V' (ZaU lk lk ZcM (nb' rfl) ro om ro rfl) pt ?_
   refine Vw (ZaI lk ZqH rfl)<|mw<|mw<|?_
   refine V' ((by first | exact ZaL lk | exact ZcZ lk)) pt ?_
   refine V' (ZbB lk lki om om) pt ?_
   refine Vw (ZaQ lk lk)<|Zad mp (Zm7 (x:=(z[i3]).2[i4]) (last:=decide ((i4:Int)=((z[i3]).2.length:Int)-1)) ho8) pt<|mw<|sn'<|wr'<|mw<|Vw (ZaX lk lki)<|sn'<|?_
   refine cd' lk (fun hc9=>?_) (fun hc9=>?_)
   ·rw[if_pos hc9] at hx2
    refine wr'<|mw<|mw<|sn'<|Zaa<|Zaq<|Zah<|Zah<|Zaq<|Zaq<|Zah<|Zah<|?_
    refine Zaq<|Zah<|Zae rz<|rT'<|?_
    refine ivx ?_;rw[hE,hv2,hZ,hx2,if_pos hc9,if_pos hc9]
   rw[if_neg hc9] at hx2
   refine Zaf<|Zaz<|Zag<|Zav<|mw<|?_
   refine V' (Zay lk lki om om) pt ?_
   refine mw<|Zar<|ZaB<|?_
   refine lT' (i4+1) (by (try dsimp only);exact⟨by omega,hx2⟩)
  rw[List.drop_of_length_le om] at hx2
  rw[hZ,hx2,if_neg (by simp[Zgj])] at hv2
  refine ZaM<|ZaD<|ZaD<|Zbb<|Zaz<|Zag<|Zav<|mw<|?_
  refine V' (Zay lk lki om om) pt ?_
  refine mw<|Zar<|ZaB<|?_
  refine lT' (i3+1) (by (try dsimp only);exact⟨by omega,hv2⟩)
 rw[List.drop_of_length_le om] at hv2
 rw[hv2,if_neg (by simp[Za1])] at hE
 refine ZaM<|ZaD<|ZaD<|Zbb<|Zag<|Zam<|wr'<|mw<|sn'<|Zap<|?_
 refine w_lp (ι:=Nat) (fun (i5:Nat)=>[(10,iv (i5:Int)),(2,.any)]++rn' 103 25) (fun (i5:Nat)=>[]) (fun (i5:Nat)=>i5≤l.length∧Za1 Zep l=Za1 Zep (l.drop i5)) (fun (i5:Nat)=>l.length-i5) (0) (by exact⟨Nat.zero_le _,rfl⟩) ?_
 rintro i5 hi5
 try simp only[sm',Nat.reduceAdd]
 obtain⟨hy1,hy2⟩:=hi5
 refine Zam<|wr'<|mw<|Vw (Zab lk)<|Vw (Zac lk gx gt2)<|Vw (ZaL lk)<|Vw (Zbc lk lk)<|sn'<|?_
 refine cd' lk (fun hc10=>?_) (fun hc10=>?_)
 ·have hk10:i5<l.length:=by omega
  rw[ZdI hk10] at hy2
  have ho10:=hok.2.2 _ (List.getElem_mem hk10)
  refine Zaf<|Zag<|Zam<|Zap<|wr'<|Vw (Zab lk)<|Vw (Zac lk gx gt2)<|mw<|?_
  refine V' (ZaU lk lk ZdT (nb' rfl) ro om ro rfl) pt ?_
  refine Vw (Zbt lk dp0)<|Vw (ZaC lk gt)<|Zad mp (Zc4 ho10.1) pt<|Vw (Zax lk)<|mw<|?_
  refine ZaF (t:=118) gt pt pt (fun hg118=>?_) (fun hg118=>?_)
  ·have hK:Zep l[i5]=1:=by unfold Zep;simp_all
   refine s_no gt pt<|s_no gt pt<|s_no gt pt<|s_no gt pt<|s_no gt pt<|s_no gt pt<|s_no gt pt<|s_no gt pt<|Vw (Zak lk lkb)<|sn'<|ZaG lk<|wr'<|?_
   refine mw<|sn'<|Zaa<|Zaq<|Zah<|Zah<|Zaq<|Zah<|Zae rz<|rT'<|?_
   refine ivx ?_;rw[hE,hy2,if_pos (by rw[hK];simp),hK]
  refine s_do gt<|Vw (Zab lk)<|s_do gt<|Vw (Zac lk gx gt2)<|s_do gt<|mw<|s_do gt<|?_
  refine V' (ZaU lk lk ZdT (nb' rfl) ro om ro rfl) pt ?_
  refine s_do gt<|Vw (Zbt lk dp1)<|s_do gt<|Vw (ZaC lk gt)<|s_do gt<|Zad mp (Zc4 ho10.2) pt<|s_do gt<|Vw (Zax lk)<|Vw (Zaj lk lk)<|sn'<|?_
  refine Zaw lk (fun hc11=>?_) (fun hc11=>?_)
  ·have hK:Zep l[i5]=1:=by unfold Zep;simp_all
   refine wr'<|mw<|sn'<|Zaa<|Zaq<|Zah<|Zah<|Zaq<|Zah<|Zae rz<|rT'<|?_
   refine ivx ?_;rw[hE,hy2,if_pos (by rw[hK];simp),hK]
  have hK:Zep l[i5]=0:=by unfold Zep;simp_all
  rw[hK,if_neg (by simp)] at hy2
  refine Zaf<|Zaz<|Zag<|Zav<|mw<|?_
  refine V' (Zay lk lki om om) pt ?_
  refine mw<|Zar<|ZaB<|?_
  refine lT' (i5+1) (by (try dsimp only);exact⟨by omega,hy2⟩)
 rw[List.drop_of_length_le om] at hy2
 refine ZaM<|ZaD<|ZaD<|Zbb<|Zag<|wr'<|mw<|sn'<|Zaa<|Zae rz<|rT'<|?_
 refine ivx ?_;rw[hE,hy2];rfl
end Go.Proofs.YtlekejpogddndaaGreatDoor
end
section
namespace Go.Proofs.YtlekejpogddndaaGreatDoor
open Go.Ab Go.RowKit Civ
attribute [local simp] Zbh Zbr Zbo Zbq Zb5 ZdG ZdO ZbS
theorem Zns {p:Era→Int}{l:List Era}(h : ∀ y∈l,p y=0):Za1 p l=0:=by
 rw[Zit,List.find?_eq_none.2 (fun y hy=>by simp[h y hy])]
end Go.Proofs.YtlekejpogddndaaGreatDoor
end
section
namespace Go.Proofs.YtlekejpogddndaaGreatDoor
open Go.Ab
abbrev PS:=Src×Bool
def ZcA (x:Era):Bool:=x.2.2.2.2.1
def Zpi:List Zon→Era→List Zon
 | [],_=>[]
 | [z],x=>[(z.1,z.2++[x])]
 | z::y::l,x=>z::Zpi (y::l) x
theorem ZfO (l:List Zon) (z:Zon) (x:Era):Zpi (l++[z]) x=l++[(z.1,z.2++[x])]:=by
 induction l with
 | nil=>rfl
 | cons a l ih =>
  cases l with
  | nil=>rfl
  | cons b l=>exact congrArg (a :: ·) ih
def ruleA:ByteArray:=bA [82,117,108,101]
def zoneA:ByteArray:=bA [90,111,110,101]
def linkA:ByteArray:=bA [76,105,110,107]
def Zcy (p:Src) (x:Era):PS:=((p.1,Zpi p.2.1 x,p.2.2),!ZcA x)
def ZsY (p:PS):RM PS :=
 if p.2=true then ZbQ rEra fun x=>retR (Zcy p.1 x)
 else ZbQ Zem fun w =>
  if w=ruleA then ZbQ rRule fun r=>retR ((p.1.1++[r],p.1.2.1,p.1.2.2),false)
  else if w=zoneA then ZbQ ZrL fun n=>ZbQ rEra fun x=>retR (Zcy (p.1.1,p.1.2.1++[(n,[])],p.1.2.2) x)
  else if w=linkA then ZbQ ZrL fun a=>ZbQ ZrL fun b=>retR ((p.1.1,p.1.2.1,p.1.2.2++[(a,b)]),false)
  else ZcB none
def Zez (p:PS):TS→PS×TS :=
 if p.2=true then ZbY tEra fun x=>ret2 (Zcy p.1 x)
 else ZbY ZaP fun w =>
  if w=ruleA then ZbY Zkm fun r=>ret2 ((p.1.1++[r],p.1.2.1,p.1.2.2),false)
  else if w=zoneA then ZbY ZeP fun n=>ZbY tEra fun x=>ret2 (Zcy (p.1.1,p.1.2.1++[(n,[])],p.1.2.2) x)
  else if w=linkA then ZbY ZeP fun a=>ZbY ZeP fun b=>ret2 ((p.1.1,p.1.2.1,p.1.2.2++[(a,b)]),false)
  else fun t=>(p,bad t)
theorem Zph (p:PS):Agr (Zez p) (ZsY p):=by
 unfold Zez ZsY
 split
 ·exact agr_era.bind fun x=>Agr.ret _
 ·refine agr_next.bind fun w=>?_
  split
  ·exact agr_rule.bind fun r=>Agr.ret _
  ·split
   ·exact agr_name.bind fun n=>agr_era.bind fun x=>Agr.ret _
   ·split
    ·exact agr_name.bind fun a=>agr_name.bind fun b=>Agr.ret _
    ·exact Agr.lift (fun t h=>rfl) (fun l=>rfl)
def Zl1 (p:PS) (x:Ln):Option PS:=if x.2.1≠p.2 then none else match ZsY p x.2.2 with
 | some (q,[])=>some q
 | _=>none
def badT (p:PS) (x:Ln):Prop:=(Zez p (x.2.2,false)).2.2=true∨(Zez p (x.2.2,false)).2.1≠[]∨x.2.1≠p.2
theorem Zsi {p:PS}{x:Ln}(h:badT p x):Zl1 p x=none:=by
 unfold Zl1
 by_cases hi:x.2.1=p.2
 ·rw[if_neg (by simp[hi])]
  have hA:=(Zph p x.2.2).2
  unfold badT at h
  revert hA
  cases hb:ZsY p x.2.2 with
  | none=>intro;rfl
  | some q =>
   obtain⟨q,l⟩:=q
   intro hA
   simp only at hA
   rw[hA] at h
   cases l with
   | nil=>simp[hi] at h
   | cons c l=>rfl
 ·rw[if_pos hi]
theorem lineR_ok {p:PS}{x:Ln}(h:¬badT p x):Zl1 p x=some (Zez p (x.2.2,false)).1:=by
 unfold Zl1
 unfold badT at h
 simp only[not_or,Decidable.not_not] at h
 obtain⟨h1,h2,h3⟩:=h
 rw[if_neg (by simp[h3])]
 have hA:=(Zph p x.2.2).2
 revert hA
 cases hb:ZsY p x.2.2 with
 | none=>intro hA;exact absurd hA h1
 | some q =>
  obtain⟨q,l⟩:=q
  intro hA
  simp only at hA
  rw[hA] at h2 ⊢
  simp only at h2
  subst h2
  rfl
def runR:PS→List Ln→PS ⊕ Int
 | p,[]=>.inl p
 | p,x::l=>match Zl1 p x with
  | none=>.inr x.1
  | some q=>runR q l
def srcZ:Src:=([],[],[])
def endP (p:PS):Src×Int×Int:=if p.2=true then (srcZ,0,1) else if ZbP p.1≠0 then (srcZ,0,ZbP p.1) else (p.1,0,0)
def outP (l:List Ln):Src×Int×Int:=match runR (srcZ,false) l with
 | .inr n=>(srcZ,n,1)
 | .inl p=>endP p
def ZbG (s:ByteArray):Src×Int×Int:=if (ZbX s).2.2≠0 then (srcZ,(ZbX s).2.1,(ZbX s).2.2) else outP (ZbX s).1
theorem runR_at {l:List Ln}{k:Nat}(h:k<l.length) (p:PS):runR p (l.drop k)=match Zl1 p l[k] with
  | none=>.inr l[k].1
  | some q=>runR q (l.drop (k+1)):=by
 rw[List.drop_eq_getElem_cons h,runR]
end Go.Proofs.YtlekejpogddndaaGreatDoor
end
section
namespace Go.Proofs.YtlekejpogddndaaGreatDoor
open Go.Ab Go.RowKit Civ
attribute [local simp] ZbS
section
theorem ZcG {a0 a1 c0:AV}{l:List AV}:setCells (a0::a1::l) 1 [c0]=a0::c0::l:=rfl
theorem ZqF {a0 c0:AV}{l:List AV}:setCells (a0::l) 0 [c0]=c0::l:=rfl
end
def c200:AC:=(Sr [Ms 2] (.seq (Sr [Mv 4 0,Nk 5 4,Fa 6 1 5,Ld 7 6,Mv 8 7,Of 9 8 (mt 0),Of 10 8 (.nck (.tmp 9)),Of 11 8 (.fa 0 (.tmp 10)),Of 12 8 (.load false 1 (.tmp 11)),Of 13 8 (.len false (.tmp 12)),Of 14 8 (.bin .eql (.tmp 13) (Ci 0)),Oo 15 (.pick (.tmp 8) (.const (.bool true)) (.tmp 14))] (Cd 15 (Sr [Mv 16 0,Nk 17 16,Fa 18 1 17,⟨none,none,(.store 1 (.tmp 18) (.const (.bool true)))⟩] (Sr [Ms 2] .ret)) .skip)) (Sr [Mv 19 0,Nk 20 19,Fa 21 0 20,Ld 22 21,Oo 23 (.ia 1 (.tmp 22) (Ci 0)),Ld 24 23,Mv 3 24] (Sr [Mv 25 0,Mv 26 0,Nk 27 26,Fa 28 0 27,Ld 29 28,Oo 30 (.slc 1 (.tmp 29) (some (Ci 1)) none none),Nk 31 25,Fa 32 0 31,Sc 32 30] (Sr [Mv 33 3,Mv 2 33] .ret)))))
theorem k200:ZaA Tryz.prog 200=some ⟨c200,[(.tmp 2)],34⟩:=by kernel_rfl
def c274:AC:=(Sr [Mc 8 0] (.seq (Sr [Mv 11 1,Oo 12 (.len true (.tmp 11)),Mv 13 2,Mv 14 3,Cl 15 73 [(.tmp 12),(.tmp 13),(.tmp 14)],Oo 16 (.un .not (.tmp 15))] (Cd 16 (Sr [Mv 17 0,Nk 18 17,Fa 19 1 18,⟨none,none,(.store 1 (.tmp 19) (.const (.bool true)))⟩] (Sr [Mc 8 0] .ret)) .skip)) (Sr [Mc 9 0] (.seq (Sr [Mc 10 0] (.block 0 (.loop (.seq (Sr [Mv 20 10,Mv 21 1,Oo 22 (.len true (.tmp 21)),Bn 23 .lss 20 22] (Cd 23 .skip (.exit 0))) (.seq (.block 1 (.seq (Sr [Mv 26 1,Mv 27 10,Oo 28 (.ix (.tmp 26) (.tmp 27)),Cl 29 191 [(.tmp 28)],Oo 30 (.un .not (.tmp 29))] (Cd 30 (Sr [Mv 31 0,Nk 32 31,Fa 33 1 32,⟨none,none,(.store 1 (.tmp 33) (.const (.bool true)))⟩] (Sr [Mc 8 0] .ret)) .skip)) (.reg [Mv 34 9,Oo 35 (.bin .mul (Ci 10) (.tmp 34)),Mv 36 1,Mv 37 10,Oo 38 (.ix (.tmp 36) (.tmp 37)),Oo 39 (.cvi .i64 (.tmp 38)),Bn 40 .add 35 39,Bc 41 .sub 40 48,Mv 9 41]))) (.reg [Mv 24 10,Bc 25 .add 24 1,Mv 10 25])))))) (Sr [Mv 42 9,Mv 8 42] .ret)))))
theorem k274:ZaA Tryz.prog 274=some ⟨c274,[(.tmp 8)],43⟩:=by kernel_rfl
def c203:AC:=(Sr [Ms 2] (Sr [Mv 4 0,Cl 5 200 [(.tmp 4)],Mv 3 5] (.seq (Sr [Mv 6 3,Cl 7 115 [(.tmp 6)],Oo 8 (.un .not (.tmp 7))] (Cd 8 (.reg [Mv 9 0,Nk 10 9,Fa 11 1 10,⟨none,none,(.store 1 (.tmp 11) (.const (.bool true)))⟩]) .skip)) (Sr [Mv 12 3,Mv 2 12] .ret))))
theorem k203:ZaA Tryz.prog 203=some ⟨c203,[(.tmp 2)],13⟩:=by kernel_rfl
def c308:AC:=(Sr [Mc 4 0] (.seq (Sr [Mc 5 0] (.block 0 (.loop (.seq (Sr [Mv 6 5,Bc 7 .add 6 3,Mv 8 0,Oo 9 (.len true (.tmp 8)),Bn 10 .leq 7 9,Mv 11 10,Ot 12 11 (mt 1),Ot 13 11 (.len true (.tmp 12)),Ot 14 11 (.bin .eql (.tmp 13) (Ci 3)),Oo 15 (.pick (.tmp 11) (.tmp 14) (.const (.bool false)))] (Cd 15 .skip (.exit 0))) (.seq (.block 1 (Sr [Mv 18 0,Mv 19 5,Mv 20 5,Bc 21 .add 20 3,Oo 22 (.sls (.tmp 18) (some (.tmp 19)) (some (.tmp 21))),Mv 23 1,Bn 24 .eql 22 23] (Cd 24 (Sr [Mv 25 5,Bc 26 .quo 25 3,Mv 4 26] .ret) .skip))) (.reg [Mv 16 5,Bc 17 .add 16 3,Mv 5 17])))))) (Sr [Oo 4 (.mv (.const (.int .i64 (-1))))] .ret)))
theorem k308:ZaA Tryz.prog 308=some ⟨c308,[(.tmp 4)],27⟩:=by kernel_rfl
def c275:AC:=(Sr [Mc 2 0] (Sr [Mv 4 0,Cl 5 200 [(.tmp 4)],Oo 6 (.call (.func 308) [(.const (.string ⟨#[74,97,110,70,101,98,77,97,114,65,112,114,77,97,121,74,117,110,74,117,108,65,117,103,83,101,112,79,99,116,78,111,118,68,101,99]⟩)),(.tmp 5)]),Mv 3 6] (.seq (Sr [Mv 7 3,Bc 8 .lss 7 0] (Cd 8 (.reg [Mv 9 0,Nk 10 9,Fa 11 1 10,⟨none,none,(.store 1 (.tmp 11) (.const (.bool true)))⟩]) .skip)) (Sr [Mv 12 3,Bc 13 .add 12 1,Mv 2 13] .ret))))
theorem k275:ZaA Tryz.prog 275=some ⟨c275,[(.tmp 2)],14⟩:=by kernel_rfl
def c309:AC:=(Sr [Mc 4 0] (Sr [Mv 6 1,Oo 7 (.call (.func 308) [(.const (.string ⟨#[83,117,110,77,111,110,84,117,101,87,101,100,84,104,117,70,114,105,83,97,116]⟩)),(.tmp 6)]),Mv 5 7] (.seq (Sr [Mv 8 5,Bc 9 .lss 8 0] (Cd 9 (Sr [Mv 10 0,Nk 11 10,Fa 12 1 11,⟨none,none,(.store 1 (.tmp 12) (.const (.bool true)))⟩] (Sr [Mc 4 0] .ret)) .skip)) (Sr [Mv 13 5,Mv 4 13] .ret))))
theorem k309:ZaA Tryz.prog 309=some ⟨c309,[(.tmp 4)],14⟩:=by kernel_rfl
def c307:AC:=(Sr [Mc 4 0] (Sr [Mv 6 0,Mv 7 1,Cl 8 274 [(.tmp 6),(.tmp 7),(Ci 2),(Ci 2)],Mv 5 8] (.seq (Sr [Mv 9 5,Bc 10 .gtr 9 59] (Cd 10 (.reg [Mv 11 0,Nk 12 11,Fa 13 1 12,⟨none,none,(.store 1 (.tmp 13) (.const (.bool true)))⟩]) .skip)) (Sr [Mv 14 5,Mv 4 14] .ret))))
theorem k307:ZaA Tryz.prog 307=some ⟨c307,[(.tmp 4)],15⟩:=by kernel_rfl
abbrev takE (t:TS):Ent:=.mk 0 250 2 [.sl t.1.length 1 false (rows strC t.1),bv t.2]
theorem ZaK {l:List ByteArray}{b:Bool}{n:Nat}:(Ent.mk 0 250 2 [.sl l.length 1 false (rows strC l),.v (.bool b)]).lt n=true:=by simp[Ent.lt,AV.lt,AV.ltL,ZbS]
theorem tnext_b {l:List ByteArray}{b:Bool}{id:Nat}{h:AH}(h1:h[id]?=some (takE (l,b))):ACalls Tryz.prog 200 [.ptr id 0 0] h fun x h'=>x=.ret (sv (ZaP (l,b)).1)∧h'=h.set id (takE (ZaP (l,b)).2):=by
 have hid:id<h.length:=(List.getElem?_eq_some_iff.1 h1).1
 refine tJ' k200 fun N hn hlt hlA hbd=>?_
 simp only[tb'] at hbd ⊢
 refine ZdJ (h1:=h.set id (.mk 0 250 2 [.sl l.length 1 false (rows strC l),bv b])++[]) (by rw[ZcS h1]) ?_
 refine wr'<|mw<|sn'<|Zam<|wr'<|mw<|Vw (Zbp lk)<|Vw (Zab lk)<|Vw (Zac lk (ZaY hid) gt1)<|mw<|?_
 refine ZaF (t:=8) gt pt pt (fun hg8=>?_) (fun hg8=>?_)
 ·have hb:b=true:=hg8
  have hT:ZaP (l,b)=(⟨#[]⟩,l,true):=if_pos (.inl hb)
  refine s_no gt pt<|s_no gt pt<|s_no gt pt<|s_no gt pt<|s_no gt pt<|s_no gt pt<|Vw (Zak lk lkb)<|sn'<|ZaG lk<|wr'<|mw<|Vw (Zbp lk)<|?_
  refine Vw (Zab lk)<|E' (Zai lk (cvl lkb rfl) (ZaY hid) rfl (nb' rfl) rfl ZcG (ZaJ hid)) ptn<|sn'<|wr'<|mw<|sn'<|Zaa<|Zah<|Zae rz<|?_
  exact⟨_,_,rfl,Zan hn,ZbU hlt ZaK,rfl,by rw[hT],by rw[hT]⟩
 have hb:b=false:=by simpa using hg8
 refine s_do gt<|mw<|s_do gt<|Vw (Zbp lk)<|s_do gt<|Vw (Zab lk)<|s_do gt<|Vw (Zac lk (ZaY hid) gt0)<|s_do gt<|Vw (ZaL lk)<|s_do gt<|Vw (ZaQ lk lki)<|Vw (Zaj lk lk)<|Zar<|?_
 refine Zag ?_
 refine cd' lk (fun hc1=>?_) (fun hc1=>?_)
 ·have hT:ZaP (l,b)=(⟨#[]⟩,l,true):=if_pos (.inr (List.eq_nil_of_length_eq_zero (show l.length=0 by have hc1':(l.length:Int)=0:=hc1;omega)))
  refine wr'<|mw<|Vw (Zbp lk)<|Vw (Zab lk)<|E' (Zai lk (cvl lkb rfl) (ZaY hid) rfl (nb' rfl) rfl ZcG (ZaJ hid)) ptn<|sn'<|wr'<|mw<|sn'<|Zaa<|?_
  refine Zah<|Zae rz<|?_
  exact⟨_,_,rfl,Zan hn,ZbU hlt ZaK,rfl,by rw[hT],by rw[hT]⟩
 have hlen:0<l.length:=by have hc1':¬(l.length:Int)=0:=hc1;omega
 have hne:l≠[]:=by intro e;rw[e] at hlen;cases hlen
 have hT:ZaP (l,b)=(l[0],l.drop 1,b):=by
  cases l with
  | nil=>exact absurd rfl hne
  | cons a l=>subst hb;rfl
 refine Zaf<|Zag<|wr'<|mw<|Vw (Zbp lk)<|Vw (Zab lk)<|Vw (Zac lk (ZaY hid) gt0)<|?_
 refine V' (ZaU (k:=0) lk lki ZbW (nb' rfl) ro om ro rfl) pt ?_
 refine Vw (ZaC lk gt)<|mw<|sn'<|wr'<|mw<|mw<|Vw (Zbp lk)<|Vw (Zab lk)<|Vw (Zac lk (ZaY hid) gt0)<|?_
 refine V' (v_lo (k:=1) lk lki ZbW ro om ro) pt ?_
 refine Vw (Zbp lk)<|Vw (Zab lk)<|E' (Zai lk cv (ZaY hid) rfl (nb' rfl) rfl ZqF (ZaJ hid)) ptn<|sn'<|wr'<|mw<|mw<|sn'<|Zaa<|Zae rz<|?_
 exact⟨_,_,rfl,Zan hn,ZbU hlt ZaK,rfl,by rw[hT],by rw[hT]⟩
theorem ZmU {t:TS}{id:Nat}{h:AH}(h1:h[id]?=some (takE t)):ACalls Tryz.prog 200 [.ptr id 0 0] h fun x h'=>x=.ret (sv (ZaP t).1)∧h'=h.set id (takE (ZaP t).2):=tnext_b h1
theorem Znz {n:Int}(h:digB n=true):48≤n∧n≤57:=by unfold digB at h;simpa using h
theorem ZdN {s:ByteArray}{a b:Int}{t:TS}{id:Nat}{h:AH}(hb4:b≤4) (h1:h[id]?=some (takE t)):ACalls Tryz.prog 274 [.ptr id 0 0,sv s,iv a,iv b] h fun x h'=>x=.ret (iv (tNum s a b t).1)∧h'=h.set id (takE (tNum s a b t).2):=by
 obtain⟨l,bd⟩:=t
 have hid:id<h.length:=(List.getElem?_eq_some_iff.1 h1).1
 refine tJ' k274 fun N hn hlt hlA hbd=>?_
 simp only[tb'] at hbd ⊢
 refine ZdJ (h1:=h.set id (takE (l,bd))++[]) (by rw[ZcS h1]) ?_
 refine wr'<|mw<|sn'<|Zam<|wr'<|mw<|Vw (Zbf lk)<|mw<|mw<|Zad mp (ZaV) pt<|Vw (Zax lk)<|?_
 refine sn' ?_
 refine Zaw lk (fun hc1=>?_) (fun hc1=>?_)
 ·have hw:¬wi s.size a b=true:=by simpa using hc1
  have hT:tNum s a b (l,bd)=(0,l,true):=ZdA (if_neg (fun e=>hw e.1))
  refine wr'<|mw<|Vw (Zbp lk)<|Vw (Zab lk)<|E' (Zai lk (cvl lkb rfl) (ZaY hid) rfl (nb' rfl) rfl ZcG (ZaJ hid)) ptn<|sn'<|wr'<|mw<|sn'<|Zaa<|?_
  refine Zah<|Zae rz<|?_
  exact⟨_,_,rfl,Zan hn,ZbU hlt ZaK,rfl,by rw[hT],by rw[hT]⟩
 have hw:wi s.size a b=true:=by simpa using hc1
 have hz:s.size≤4:=by unfold wi at hw;simp at hw;omega
 refine Zaf<|Zag<|wr'<|mw<|sn'<|Zam<|wr'<|mw<|sn'<|Zap<|?_
 refine w_lp (ι:=Nat×Int) (fun (x_:Nat×Int)=>match x_ with | ⟨k,n⟩=>[(9,iv n),(10,iv (k:Int)),(8,.any)]++rn' 20 22) (fun (x_:Nat×Int)=>match x_ with | ⟨k,n⟩=>[]) (fun (x_:Nat×Int)=>match x_ with | ⟨k,n⟩=>k≤s.size∧0≤n∧n<10 ^ k∧decL 0 (aB s)=decL n ((aB s).drop k) ∧ ∀ j (hj:j<s.size),j<k→digB s[j].toNat=true) (fun (x_:Nat×Int)=>match x_ with | ⟨k,n⟩=>s.size-k) (⟨0,0⟩) (by exact⟨by omega,by omega,by decide,rfl,fun j hj h0=>absurd h0 om⟩) ?_
 rintro⟨k,n⟩ hi1
 try simp only[sm',Nat.reduceAdd]
 obtain⟨hk1,hk2,hk3,hk4,hk5⟩:=hi1
 refine Zam<|wr'<|mw<|mw<|Vw (Zbf lk)<|Vw (Zbc lk lk)<|sn'<|?_
 refine cd' lk (fun hc2=>?_) (fun hc2=>?_)
 ·have hk:k<s.size:=by omega
  have hbb:=Ze1 s k
  have hbk:ZaH s k=s[k]:=ZcV hk
  have hp:(10:Int) ^ k≤1000:=by
   have:k=0∨k=1∨k=2∨k=3:=by omega
   rcases this with rfl | rfl | rfl | rfl <;> decide
  refine Zaf<|Zag<|Zam<|Zap<|Zam<|wr'<|mw<|mw<|?_
  refine V' (v_ix lk lk om om) pt ?_
  refine Zad mp (Zd7 hbb.1 hbb.2) pt<|Vw (Zax lk)<|sn'<|?_
  refine Zaw lk (fun hc3=>?_) (fun hc3=>?_)
  ·have hd:digB s[k].toNat=false:=by rw[←hbk];simpa using hc3
   have hT:tNum s a b (l,bd)=(0,l,true):=ZdA (if_neg (fun e=>by have:=ZiG hk hd;rw[e.2] at this;cases this))
   refine wr'<|mw<|Vw (Zbp lk)<|Vw (Zab lk)<|E' (Zai lk (cvl lkb rfl) (ZaY hid) rfl (nb' rfl) rfl ZcG (ZaJ hid)) ptn<|sn'<|wr'<|mw<|sn'<|Zaa<|?_
   refine Zah<|Zaq<|Zah<|Zah<|Zaq<|Zah<|Zae rz<|?_
   exact⟨_,_,rfl,Zan hn,ZbU hlt ZaK,rfl,by rw[hT],by rw[hT]⟩
  have hd:digB (ZaH s k).toNat=true:=by simpa using hc3
  have hdb:48≤((ZaH s (k:Int).toNat).toNat:Int)∧((ZaH s (k:Int).toNat).toNat:Int)≤57:=Znz hd
  have hdb2:=Znz hd
  refine Zaf<|Zag<|Zav<|mw<|?_
  refine V' (Zfs lki lk om om) pt ?_
  refine mw<|mw<|?_
  refine V' (v_ix lk lk om om) pt ?_
  refine V' (ZhP lk om om) pt ?_
  refine V' (Zay lk lk om om) pt ?_
  refine V' (ZbB lk lki om om) pt ?_
  refine mw<|Zar<|Zaz<|Zag<|Zav<|mw<|?_
  refine V' (Zay lk lki om om) pt ?_
  refine mw<|Zar<|ZaB<|?_
  refine lT' (⟨k+1,10*n+(ZaH s k).toNat-48⟩) (by (try dsimp only);refine⟨by omega,by omega,by rw[Int.pow_succ];omega,by rw[hk4,Ze3 hk,decL],fun j hj h0=>?_⟩;rcases Nat.lt_or_ge j k with e | e;exact hk5 j hj e;obtain rfl:j=k:=om;rw[←hbk];exact hd)
 have hT:tNum s a b (l,bd)=(n,l,bd):=Zdz (by
  unfold numV
  rw[if_pos ⟨hw,Zgt fun j hj=>hk5 j hj om⟩,hk4,Zmt om];rfl)
 refine ZaM<|ZaD<|ZaD<|Zbb<|Zag<|wr'<|mw<|mw<|sn'<|Zaa<|Zae rz<|?_
 exact⟨_,_,rfl,Zan hn,ZbU hlt ZaK,rfl,by rw[hT],by rw[hT]⟩
theorem tname_a {t:TS}{id:Nat}{h:AH}(hz:(ZaP t).1.size≤maxLen) (h1:h[id]?=some (takE t)):ACalls Tryz.prog 203 [.ptr id 0 0] h fun x h'=>x=.ret (sv (ZeP t).1)∧h'=h.set id (takE (ZeP t).2):=by
 have hid:id<h.length:=(List.getElem?_eq_some_iff.1 h1).1
 refine tJ' k203 fun N hn hlt hlA hbd=>?_
 simp only[tb'] at hbd ⊢
 refine ZdJ (h1:=h.set id (takE t)++[]) (by rw[ZcS h1]) ?_
 refine wr'<|mw<|sn'<|wr'<|mw<|ZaN mp (ZmU (ZaY hid)) (ZaJ hid) pt<|mw<|sn'<|Zam<|Zam<|?_
 refine Zav<|mw<|Zad mp (Zc4 hz) pt<|Vw (Zax lk)<|sn'<|?_
 refine Zaw lk (fun hc1=>?_) (fun hc1=>?_)
 ·refine Zav<|mw<|Vw (Zbp lk)<|Vw (Zab lk)<|E' (Zai lk (cvl lkb rfl) (ZaY hid) rfl (nb' rfl) rfl ZcG (ZaJ hid)) ptn<|sn'<|wr'<|mw<|mw<|sn'<|Zaa<|?_
  refine Zae rz ?_
  exact⟨_,_,rfl,Zan hn,ZbU hlt ZaK,rfl,rfl,by unfold ZeP;rw[if_neg (by simpa using hc1)]⟩
 refine Zaf<|Zag<|wr'<|mw<|mw<|sn'<|Zaa<|Zae rz<|?_
 exact⟨_,_,rfl,Zan hn,ZbU hlt ZaK,rfl,rfl,by unfold ZeP;rw[if_pos (by simpa using hc1)]⟩
theorem idxL_at {l:List ByteArray}{s:ByteArray}{d:Int}{k:Nat}(h:k<l.length):idxL (l.drop k) s (d+k)=if s=l[k] then some (d+k) else idxL (l.drop (k+1)) s (d+(k+1:Nat)):=by
 rw[List.drop_eq_getElem_cons h,idxL]
 congr 2
 push_cast;omega
theorem Zsp {s:ByteArray} : ∀ {l:List ByteArray}{d:Int},(∀ x∈l,s≠x)→idxL l s d=none
 | [],_,_=>rfl
 | x::l,d,h=>by rw[idxL,if_neg (h x (by simp))];exact Zsp fun y hy=>h y (by simp[hy])
theorem Znm {s:ByteArray} : ∀ {l:List ByteArray}{d:Int},idxL l s d=(idxL l s 0).map (· + d)
 | [],_=>rfl
 | x::l,d=>by
  rw[idxL,idxL]
  split
  ·simp
  rw[Znm (l:=l) (d:=d+1),Znm (l:=l) (d:=0+1),Option.map_map];congr 1;funext y;simp;omega
theorem Zov {nl:List ByteArray}{all s:ByteArray}{h:AH}(hl:nl.length≤20) (hz:all.size=3*nl.length) (h3 : ∀ x∈nl,x.size=3) (hx : ∀ k (hk:k<nl.length),all.extract (3*k) (3*k+3)=nl[k]):Ac 308 [sv all,sv s] h (iv ((idxL nl s 0).getD (-1))):=by
 refine tI' k308 fun N hn hlt hlA hbd=>?_
 simp only[tb'] at hbd ⊢
 refine wr'<|mw<|sn'<|Zam<|wr'<|mw<|sn'<|Zap<|?_
 refine w_lp (ι:=Nat) (fun (k:Nat)=>[(5,iv ((3*k:Nat):Int)),(4,.any)]++rn' 6 21) (fun (k:Nat)=>[]) (fun (k:Nat)=>k≤nl.length∧idxL nl s 0=idxL (nl.drop k) s (0+(k:Int))) (fun (k:Nat)=>nl.length-k) (0) (by exact⟨Nat.zero_le _,by simp⟩) ?_
 rintro k hi1
 try simp only[sm',Nat.reduceAdd]
 obtain⟨hk1,hk2⟩:=hi1
 refine Zam<|wr'<|mw<|?_
 refine V' (Zay lk lki om om) pt ?_
 refine mw<|Vw (Zbf lk)<|Vw (Zdg lk lk)<|mw<|?_
 refine sp' (t:=11) gt pt pt (fun hg11=>?_) (fun hg11=>?_)
 ·have hk:k<nl.length:=by omega
  rw[idxL_at hk] at hk2
  refine s_do gt<|mw<|s_do gt<|Vw (Zbf lk)<|s_do gt<|Vw (ZaQ lk lki)<|Vw (Zak lk lk)<|sn'<|?_
  refine cd' lk (fun hc1=>?_) (fun hc1=>?_)
  ·have he:=hx k hk
   refine Zaf<|Zag<|Zam<|Zap<|wr'<|mw<|mw<|mw<|?_
   refine V' (Zay lk lki om om) pt ?_
   refine V' (ZdX lk (oi lk) (oi lk) om om om) pt ?_
   refine mw<|Vw (Zcp lk lk)<|sn'<|?_
   refine cd' lk (fun hc2=>?_) (fun hc2=>?_)
   ·have hc2':s=nl[k]:=by rw[←he];exact hc2.symm
    rw[if_pos hc2'] at hk2
    refine wr'<|mw<|?_
    refine V' (ZfY lk lki om om om) pt ?_
    refine mw<|sn'<|Zaa<|Zaq<|Zah<|Zah<|Zaq<|Zah<|Zae rz<|rT'<|?_
    refine ivx ?_;rw[hk2];simp
   have hc2':¬s=nl[k]:=by rw[←he];exact fun e=>hc2 e.symm
   rw[if_neg hc2'] at hk2
   refine Zaf<|Zaz<|Zag<|Zav<|mw<|?_
   refine V' (Zay lk lki om om) pt ?_
   refine mw<|Zar<|ZaB<|?_
   refine lT' (k+1) (by (try dsimp only);exact⟨by omega,by rw[hk2]⟩)
  refine ZaM<|ZaD<|ZaD<|Zbb<|Zag<|wr'<|mw<|sn'<|Zaa<|Zae rz<|rT'<|?_
  refine ivx ?_;rw[Zsp (l:=nl) (d:=0) (fun x hx e=>hc1 (by rw[e,h3 x hx];rfl))];rfl
 refine s_no gt pt<|s_no gt pt<|s_no gt pt<|Vw (Zaj lk lkb)<|sn'<|ZaO lk<|ZaM<|ZaD<|ZaD<|Zbb<|Zag<|wr'<|?_
 refine mw<|sn'<|Zaa<|Zae rz<|rT'<|?_
 refine ivx ?_;rw[List.drop_of_length_le om] at hk2;rw[hk2];rfl
def monA:ByteArray:=bA [74,97,110,70,101,98,77,97,114,65,112,114,77,97,121,74,117,110,74,117,108,65,117,103,83,101,112,79,99,116,78,111,118,68,101,99]
def dayA:ByteArray:=bA [83,117,110,77,111,110,84,117,101,87,101,100,84,104,117,70,114,105,83,97,116]
theorem mon_at : ∀ k (hk:k<monL.length),monA.extract (3*k) (3*k+3)=monL[k]:=by decide
theorem day_at : ∀ k (hk:k<dayL.length),dayA.extract (3*k) (3*k+3)=dayL[k]:=by decide
theorem mon_3 : ∀ x∈monL,x.size=3:=by decide
theorem day_3 : ∀ x∈dayL,x.size=3:=by decide
theorem Znn {s:ByteArray} : ∀ {l:List ByteArray}{d n:Int},idxL l s d=some n→d≤n∧n<d+l.length
 | [],_,_,h=>by cases h
 | x::l,d,n,h=>by
  rw[idxL] at h
  split at h
  ·cases h;simp;omega
  have:=Znn h;simp;omega
theorem tmonth_a {t:TS}{id:Nat}{h:AH}(h1:h[id]?=some (takE t)):ACalls Tryz.prog 275 [.ptr id 0 0] h fun x h'=>x=.ret (iv (ZdB t).1)∧h'=h.set id (takE (ZdB t).2):=by
 have hid:id<h.length:=(List.getElem?_eq_some_iff.1 h1).1
 have hM:idxL monL (ZaP t).1 1=(idxL monL (ZaP t).1 0).map (· + 1):=Znm
 obtain⟨o,ho⟩ : ∃ o,o=idxL monL (ZaP t).1 0:=⟨_,rfl⟩
 rw[←ho] at hM
 have hbd : ∀ n,o=some n→0≤n∧n<12:=fun n e=>by have:=Znn (ho.symm.trans e);have h12:(monL.length:Int)=12:=rfl;omega
 refine tJ' k275 fun N hn hlt hlA hbd=>?_
 simp only[tb'] at hbd ⊢
 refine ZdJ (h1:=h.set id (takE t)++[]) (by rw[ZcS h1]) ?_
 refine wr'<|mw<|sn'<|wr'<|mw<|ZaN mp (ZmU (ZaY hid)) (ZaJ hid) pt<|?_
 refine Zad mp (Zov (nl:=monL) (all:=monA) (by decide) (by decide) mon_3 mon_at) pt ?_
 rw[←ho]
 have hcase:(o=none) ∨ ∃ n,o=some n:=by cases o <;> simp
 have hgd : -1≤o.getD (-1)∧o.getD (-1)<12:=by rcases hcase with rfl | ⟨n,rfl⟩;exact⟨by decide,by decide⟩;have:=hbd n rfl;exact⟨by simp;omega,by simp;omega⟩
 refine mw<|sn'<|Zam<|wr'<|mw<|Vw (Zbc lk lki)<|sn'<|?_
 refine cd' lk (fun hc1=>?_) (fun hc1=>?_)
 ·refine Zav<|mw<|Vw (Zbp lk)<|Vw (Zab lk)<|E' (Zai lk (cvl lkb rfl) (ZaY hid) rfl (nb' rfl) rfl ZcG (ZaJ hid)) ptn<|sn'<|wr'<|mw<|?_
  refine V' (Zay lk lki om om) pt ?_
  refine mw<|sn'<|Zaa<|Zae rz<|?_
  have ho2:o=none:=by rcases hcase with e | ⟨n,rfl⟩;exact e;have:=hbd n rfl;simp at hc1;omega
  have hT:ZdB t=(0,bad (ZaP t).2):=by unfold ZdB;rw[hM,ho2];rfl
  exact⟨_,_,rfl,Zan hn,ZbU hlt ZaK,rfl,by rw[hT,ho2];rfl,by rw[hT]⟩
 refine Zaf<|Zag<|wr'<|mw<|?_
 refine V' (Zay lk lki om om) pt ?_
 refine mw<|sn'<|Zaa<|Zae rz<|?_
 obtain⟨n,rfl⟩ : ∃ n,o=some n:=by rcases hcase with rfl | e;exact absurd (by decide:(-1:Int)<0) hc1;exact e
 have hT:ZdB t=(n+1,(ZaP t).2):=by unfold ZdB;rw[hM];rfl
 exact⟨_,_,rfl,Zan hn,ZbU hlt ZaK,rfl,by rw[hT];rfl,by rw[hT]⟩
theorem ZhQ {s:ByteArray}{t:TS}{id:Nat}{h:AH}(h1:h[id]?=some (takE t)):ACalls Tryz.prog 309 [.ptr id 0 0,sv s] h fun x h'=>x=.ret (iv (Zd3 s t).1)∧h'=h.set id (takE (Zd3 s t).2):=by
 have hid:id<h.length:=(List.getElem?_eq_some_iff.1 h1).1
 obtain⟨o,ho⟩ : ∃ o,o=idxL dayL s 0:=⟨_,rfl⟩
 have hbd : ∀ n,o=some n→0≤n∧n<7:=fun n e=>by have:=Znn (ho.symm.trans e);have h7:(dayL.length:Int)=7:=rfl;omega
 refine tJ' k309 fun N hn hlt hlA hbd=>?_
 simp only[tb'] at hbd ⊢
 refine ZdJ (h1:=h.set id (takE t)++[]) (by rw[ZcS h1]) ?_
 refine wr'<|mw<|sn'<|wr'<|mw<|?_
 refine Zad mp (Zov (nl:=dayL) (all:=dayA) (by decide) (by decide) day_3 day_at) pt ?_
 rw[←ho]
 have hcase:(o=none) ∨ ∃ n,o=some n:=by cases o <;> simp
 refine mw<|sn'<|Zam<|wr'<|mw<|Vw (Zbc lk lki)<|sn'<|?_
 refine cd' lk (fun hc1=>?_) (fun hc1=>?_)
 ·refine wr'<|mw<|Vw (Zbp lk)<|Vw (Zab lk)<|E' (Zai lk (cvl lkb rfl) (ZaY hid) rfl (nb' rfl) rfl ZcG (ZaJ hid)) ptn<|sn'<|wr'<|mw<|sn'<|Zaa<|?_
  refine Zah<|Zae rz<|?_
  have ho2:o=none:=by rcases hcase with e | ⟨n,rfl⟩;exact e;have:=hbd n rfl;simp at hc1;omega
  have hT:Zd3 s t=(0,bad t):=by unfold Zd3;rw[←ho,ho2]
  exact⟨_,_,rfl,Zan hn,ZbU hlt ZaK,rfl,by rw[hT],by rw[hT]⟩
 refine Zaf<|Zag<|wr'<|mw<|mw<|sn'<|Zaa<|Zae rz<|?_
 obtain⟨n,rfl⟩ : ∃ n,o=some n:=by rcases hcase with rfl | e;exact absurd (by decide:(-1:Int)<0) hc1;exact e
 have hT:Zd3 s t=(n,t):=by unfold Zd3;rw[←ho]
 exact⟨_,_,rfl,Zan hn,ZbU hlt ZaK,rfl,by rw[hT];rfl,by rw[hT]⟩
theorem Zq9 {s:ByteArray}{t:TS}{id:Nat}{h:AH}(h1:h[id]?=some (takE t)):ACalls Tryz.prog 307 [.ptr id 0 0,sv s] h fun x h'=>x=.ret (iv (tSix s t).1)∧h'=h.set id (takE (tSix s t).2):=by
 have hid:id<h.length:=(List.getElem?_eq_some_iff.1 h1).1
 refine tJ' k307 fun N hn hlt hlA hbd=>?_
 simp only[tb'] at hbd ⊢
 refine ZdJ (h1:=h.set id (takE t)++[]) (by rw[ZcS h1]) ?_
 refine wr'<|mw<|sn'<|wr'<|mw<|mw<|?_
 refine ZaN mp (ZdN om (ZaY hid)) (ZaJ hid) pt ?_
 refine mw<|sn'<|Zam<|wr'<|mw<|Vw (ZbC lk lki)<|sn'<|?_
 refine cd' lk (fun hc1=>?_) (fun hc1=>?_)
 ·refine Zav<|mw<|Vw (Zbp lk)<|Vw (Zab lk)<|E' (Zai lk (cvl lkb rfl) (ZaY hid) rfl (nb' rfl) rfl ZcG (ZaJ hid)) ptn<|sn'<|wr'<|mw<|mw<|sn'<|Zaa<|?_
  refine Zae rz ?_
  exact⟨_,_,rfl,Zan hn,ZbU hlt ZaK,rfl,rfl,by unfold tSix;rw[if_pos om]⟩
 refine Zaf<|Zag<|wr'<|mw<|mw<|sn'<|Zaa<|Zae rz<|?_
 exact⟨_,_,rfl,Zan hn,ZbU hlt ZaK,rfl,rfl,by unfold tSix;rw[if_neg om]⟩
end Go.Proofs.YtlekejpogddndaaGreatDoor
end
section
namespace Go.Proofs.YtlekejpogddndaaGreatDoor
open Go.Ab Go.RowKit Civ
attribute [local simp] ZbS
section
theorem Zhq {τ:Operand→AV}{y0:Operand}{x0_0:AV}(h0:Zat (τ y0)=some [x0_0]) (l0:[x0_0].all leaf=true):Zas τ [(0,1,y0)] [(.v (.string ⟨#[]⟩))]=some [x0_0]:=by
 simp only[Zas,h0,l0]
 rfl
theorem ZmB {a0:AV}{l:List AV}:(a0::l).take 1=[a0]:=rfl
theorem Zj6 {a0 a1 c0:AV}{l:List AV}:setCells (a0::a1::l) 1 [c0]=a0::c0::l:=rfl
theorem ZmC {τ:Operand→AV}{y0 y1:Operand}{x0_0 x1_0:AV}(h0:Zat (τ y0)=some [x0_0]) (l0:[x0_0].all leaf=true) (h1:Zat (τ y1)=some [x1_0]) (l1:[x1_0].all leaf=true):Zas τ [(0,1,y0),(1,1,y1)] [(.v (.int .i64 0)),(.v (.int .i64 0)),(.v (.int .i64 0))]=some [x0_0,x1_0,(.v (.int .i64 0))]:=by
 simp only[Zas,h0,l0,h1,l1]
 rfl
theorem Zbn {a0 a1 a2 c0 c1 c2:AV}{l:List AV}:setCells (a0::a1::a2::l) 0 [c0,c1,c2]=c0::c1::c2::l:=rfl
theorem Zbm {a0 a1 a2:AV}{l:List AV}:((a0::a1::a2::l).drop 0).take 3=[a0,a1,a2]:=rfl
theorem ZdV {τ:Operand→AV}{y0 y1 y2:Operand}{x0_0 x1_0 x2_0:AV}(h0:Zat (τ y0)=some [x0_0]) (l0:[x0_0].all leaf=true) (h1:Zat (τ y1)=some [x1_0]) (l1:[x1_0].all leaf=true) (h2:Zat (τ y2)=some [x2_0]) (l2:[x2_0].all leaf=true):Zas τ [(0,1,y0),(1,1,y1),(2,1,y2)] [(.v (.int .i64 0)),(.v (.int .i64 0)),(.v (.int .i64 0))]=some [x0_0,x1_0,x2_0]:=by
 simp only[Zas,h0,l0,h1,l1,h2,l2]
 rfl
theorem Zj7 {a0 c0:AV}{l:List AV}:setCells (a0::l) 0 [c0]=c0::l:=rfl
theorem ZcF {τ:Operand→AV}{y0 y1:Operand}{x0_0 x1_0:AV}(h0:Zat (τ y0)=some [x0_0]) (l0:[x0_0].all leaf=true) (h1:Zat (τ y1)=some [x1_0]) (l1:[x1_0].all leaf=true):Zas τ [(0,1,y0),(2,1,y1)] [(.v (.int .i64 0)),(.v (.int .i64 0)),(.v (.int .i64 0))]=some [x0_0,(.v (.int .i64 0)),x1_0]:=by
 simp only[Zas,h0,l0,h1,l1]
 rfl
end
def c277:AC:=(Sr [Oo 2 (.new 34 3 [(iv 0),(iv 0),(iv 0)])] (Sr [Mv 5 0,Cl 6 200 [(.tmp 5)],Mv 3 6] (.seq (Sr [Mv 7 3,Oo 8 (.len true (.tmp 7)),Bc 9 .geq 8 4,Mv 10 9,Ot 11 10 (mt 3),Ot 12 10 (.sls (.tmp 11) none (some (Ci 4))),Ot 13 10 (.bin .eql (.tmp 12) (.const (.string ⟨#[108,97,115,116]⟩))),Oo 14 (.pick (.tmp 10) (.tmp 13) (.const (.bool false)))] (Cd 14 (Sr [Mv 15 0,Mv 16 3,Oo 17 (.sls (.tmp 16) (some (Ci 4)) none),Cl 18 309 [(.tmp 15),(.tmp 17)],Oo 19 (.build [(iv 0),(iv 0),(iv 0)] [(0,(1,(Ci 2))),(1,(1,(.tmp 18)))]),⟨none,none,(.store 3 (.tmp 2) (.tmp 19))⟩] .ret) .skip)) (.seq (Sr [Mv 20 3,Oo 21 (.len true (.tmp 20)),Bc 22 .gtr 21 5,Mv 23 22,Ot 24 23 (mt 3),Ot 25 23 (.ix (.tmp 24) (Ci 4)),Ot 26 23 (.bin .eql (.tmp 25) (.const (.int .u8 61))),Oo 27 (.pick (.tmp 23) (.tmp 26) (.const (.bool false))),Mv 28 27,Ot 29 28 (mt 3),Ot 30 28 (.ix (.tmp 29) (Ci 3)),Ot 31 28 (.bin .eql (.tmp 30) (.const (.int .u8 62))),Ot 32 28 (mt 31),Of 33 32 (mt 3),Of 34 32 (.ix (.tmp 33) (Ci 3)),Of 35 32 (.bin .eql (.tmp 34) (.const (.int .u8 60))),Ot 36 28 (.pick (.tmp 32) (.const (.bool true)) (.tmp 35)),Oo 37 (.pick (.tmp 28) (.tmp 36) (.const (.bool false)))] (Cd 37 (.seq (.drwU [[],[0],[0],[],[0,1,2,3],[0,1,2,3,4],[0,1,2,3,4],[],[],[0,1,2,3,4,5,6,7,8],[]] [Mv 38 0,Mv 39 3,Oo 40 (.sls (.tmp 39) none (some (Ci 3))),Cl 41 309 [(.tmp 38),(.tmp 40)],Mv 42 0,Mv 43 3,Oo 44 (.sls (.tmp 43) (some (Ci 5)) none),Cl 45 274 [(.tmp 42),(.tmp 44),(Ci 1),(Ci 2)],Oo 46 (.build [(iv 0),(iv 0),(iv 0)] [(0,(1,(Ci 3))),(1,(1,(.tmp 41))),(2,(1,(.tmp 45)))]),Oo 4 (.new 34 3 [(iv 0),(iv 0),(iv 0)]),⟨none,none,(.store 3 (.tmp 4) (.tmp 46))⟩]) (.seq (Sr [Mv 47 3,Oo 48 (.ix (.tmp 47) (Ci 3)),Oo 49 (.bin .eql (.tmp 48) (.const (.int .u8 60)))] (Cd 49 (.reg [Fa 50 0 4,⟨none,none,(.store 1 (.tmp 50) (Ci 4))⟩]) .skip)) (Sr [Oo 51 (.load true 3 (.tmp 4)),⟨none,none,(.store 3 (.tmp 2) (.tmp 51))⟩] .ret))) .skip)) (Sr [Mv 52 0,Mv 53 3,Cl 54 274 [(.tmp 52),(.tmp 53),(Ci 1),(Ci 2)],Oo 55 (.build [(iv 0),(iv 0),(iv 0)] [(0,(1,(Ci 1))),(2,(1,(.tmp 54)))]),⟨none,none,(.store 3 (.tmp 2) (.tmp 55))⟩] .ret)))))
theorem k277:ZaA Tryz.prog 277=some ⟨c277,[(.cell 2 true 3)],56⟩:=by kernel_rfl
def c273:AC:=(Sr [Mc 4 0] (.seq (Sr [Mv 9 1,Oo 10 (.bin .eql (.tmp 9) (.const (.string ⟨#[48]⟩)))] (Cd 10 (Sr [Mc 4 0] .ret) .skip)) (Sr [Oo 5 (.mv (.const (.slice none 0 0)))] (Sr [Mc 6 0] (.seq (Sr [Mc 7 0] (.block 0 (.loop (.seq (Sr [Mv 11 7,Mv 12 1,Oo 13 (.len true (.tmp 12)),Bn 14 .leq 11 13] (Cd 14 .skip (.exit 0))) (.seq (.block 1 (Sr [Mv 17 7,Mv 18 1,Oo 19 (.len true (.tmp 18)),Bn 20 .eql 17 19,Mv 21 20,Of 22 21 (mt 1),Of 23 21 (mt 7),Of 24 21 (.ix (.tmp 22) (.tmp 23)),Of 25 21 (.bin .eql (.tmp 24) (.const (.int .u8 58))),Oo 26 (.pick (.tmp 21) (.const (.bool true)) (.tmp 25))] (Cd 26 (Sr [Mv 27 5,Mv 28 1,Mv 29 6,Mv 30 7,Oo 31 (.sls (.tmp 28) (some (.tmp 29)) (some (.tmp 30))),Oo 32 (.lit 9 1 1 [Ss] [(0,(1,(.tmp 31)))]),Oo 33 (.app 9 1 16 (.tmp 27) (.tmp 32)),Mv 5 33] (.reg [Mv 34 7,Bc 35 .add 34 1,Mv 6 35])) .skip))) (.reg [Mv 15 7,Bc 16 .add 15 1,Mv 7 16])))))) (.seq (Sr [Mv 36 5,Oo 37 (.len false (.tmp 36)),Bc 38 .neq 37 2,Mv 39 38,Ot 40 39 (mt 5),Ot 41 39 (.len false (.tmp 40)),Ot 42 39 (.bin .neq (.tmp 41) (Ci 3)),Oo 43 (.pick (.tmp 39) (.tmp 42) (.const (.bool false)))] (Cd 43 (Sr [Mv 44 0,Nk 45 44,Fa 46 1 45,⟨none,none,(.store 1 (.tmp 46) (.const (.bool true)))⟩] (Sr [Mc 4 0] .ret)) .skip)) (.seq (.drwU [[],[0],[0],[0],[],[],[0,1,2,3,4,5],[0,1,2,3,4,5,6],[0,1,2,3,4,5,6],[0,1,2,3,4,5,6],[5],[5],[],[]] [Mv 47 0,Mv 48 5,Oo 49 (.ia 1 (.tmp 48) (Ci 0)),Ld 50 49,Cl 51 274 [(.tmp 47),(.tmp 50),(Ci 1),(Ci 2)],Oo 52 (.bin .mul (Ci 3600) (.tmp 51)),Mv 53 0,Mv 54 5,Oo 55 (.ia 1 (.tmp 54) (Ci 1)),Ld 56 55,Cl 57 307 [(.tmp 53),(.tmp 56)],Oo 58 (.bin .mul (Ci 60) (.tmp 57)),Bn 59 .add 52 58,Mv 8 59]) (.seq (Sr [Mv 60 5,Oo 61 (.len false (.tmp 60)),Bc 62 .eql 61 3] (Cd 62 (.reg [Mv 63 8,Mv 64 0,Mv 65 5,Oo 66 (.ia 1 (.tmp 65) (Ci 2)),Ld 67 66,Cl 68 307 [(.tmp 64),(.tmp 67)],Bn 69 .add 63 68,Mv 8 69]) .skip)) (Sr [Mv 70 8,Mv 4 70] .ret)))))))))
theorem k273:ZaA Tryz.prog 273=some ⟨c273,[(.tmp 4)],71⟩:=by kernel_rfl
def c276:AC:=(Sr [Mc 4 0,Mc 5 0] (Sr [Mv 9 0,Cl 10 200 [(.tmp 9)],Mv 6 10] (Sr [Mv 11 1,Mv 7 11] (.seq (Sr [Mv 12 6,Oo 13 (.bin .neq (.tmp 12) (.const (.string ⟨#[]⟩)))] (Cd 13 (.seq (Sr [Mc 8 1] (.block 0 (.loop (.seq (Sr [Mv 14 8,Bc 15 .leq 14 3] (Cd 15 .skip (.exit 0))) (.seq (.block 1 (Sd [Mv 18 6,Mv 19 6,Oo 20 (.len true (.tmp 19)),Bc 21 .sub 20 1,Oo 22 (.ix (.tmp 18) (.tmp 21)),Mv 23 8,Oo 24 (.ix (.const (.string ⟨#[63,119,115,117]⟩)) (.tmp 23)),Bn 25 .eql 22 24] (Cd 25 (.reg [Mv 26 8,Mv 7 26]) .skip))) (.reg [Mv 16 8,Bc 17 .add 16 1,Mv 8 17])))))) (Sr [Mv 27 6,Mv 28 6,Oo 29 (.len true (.tmp 28)),Bc 30 .sub 29 1,Oo 31 (.ix (.tmp 27) (.tmp 30)),Cl 32 191 [(.tmp 31)],Oo 33 (.un .not (.tmp 32))] (Cd 33 (.seq (Sd [Mv 34 6,Mv 35 6,Oo 36 (.len true (.tmp 35)),Bc 37 .sub 36 1,Oo 38 (.ix (.tmp 34) (.tmp 37)),Mv 39 7,Oo 40 (.ix (.const (.string ⟨#[63,119,115,117]⟩)) (.tmp 39)),Bn 41 .neq 38 40] (Cd 41 (.reg [Mv 42 0,Nk 43 42,Fa 44 1 43,⟨none,none,(.store 1 (.tmp 44) (.const (.bool true)))⟩]) .skip)) (.reg [Mv 45 6,Mv 46 6,Oo 47 (.len true (.tmp 46)),Bc 48 .sub 47 1,Oo 49 (.sls (.tmp 45) none (some (.tmp 48))),Mv 6 49])) .skip))) .skip)) (Sr [Mv 50 0,Mv 51 6,Cl 52 273 [(.tmp 50),(.tmp 51)],Mv 53 7,Mv 4 52,Mv 5 53] .ret)))))
theorem k276:ZaA Tryz.prog 276=some ⟨c276,[(.tmp 4),(.tmp 5)],54⟩:=by kernel_rfl
theorem ZsJ : ∀ {l:Bs}{n:Int},(∀ c∈l,digB c.toNat=true)→0≤n→0≤decL n l∧decL n l+1≤(n+1)*10 ^ l.length
 | [],n,h,h0=>by simp[decL];omega
 | c::l,n,h,h0=>by
  have hd:=Znz (h c (by simp))
  obtain⟨i1,i2⟩:=ZsJ (l:=l) (n:=10*n+c.toNat-48) (fun x hx=>h x (by simp[hx])) om
  refine⟨i1,Int.le_trans i2 ?_⟩
  rw[List.length_cons,Int.pow_succ,Int.mul_comm (10 ^ l.length) 10,←Int.mul_assoc]
  exact Int.mul_le_mul_of_nonneg_right om (by exact_mod_cast Nat.zero_le (10 ^ l.length))
theorem numV_bd {s:ByteArray}{a b n:Int}(h:numV s a b=some n) (hb:b≤4):0≤n∧n<10000∧s.size≤4:=by
 obtain⟨h1,h2,rfl⟩:=ZlS h
 have hz:s.size≤4:=by unfold wi at h1;simp at h1;omega
 have hl:(aB s).length≤4:=by rw[Zec];exact hz
 have:=ZsJ (l:=aB s) (n:=0) (fun c hc=>Zk0 (l:=aB s) h2 hc) om
 have hp:(10:Int) ^ (aB s).length≤10000:=by
  obtain⟨m,hm⟩ : ∃ m,m=(aB s).length:=⟨_,rfl⟩
  rw[←hm] at hl ⊢
  have:m=0∨m=1∨m=2∨m=3∨m=4:=by omega
  rcases this with rfl | rfl | rfl | rfl | rfl <;> decide
 omega
theorem Zh1 {s:ByteArray}{a b:Int}{t:TS}(hb:b≤4):0≤(tNum s a b t).1∧(tNum s a b t).1<10000:=by
 unfold tNum
 split
 ·rename_i n hn;have:=numV_bd hn hb;exact⟨this.1,this.2.1⟩
 show (0:Int)≤0∧(0:Int)<10000;decide
theorem ZgN {s:ByteArray}{t:TS}:0≤(tSix s t).1∧(tSix s t).1<10000:=Zh1 om
theorem Zps {l:List ByteArray}{t:TS}(h:l.length=2):ZeO (l.map aB) t=(3600*(tNum l[0] 1 2 t).1+60*(tSix l[1] (tNum l[0] 1 2 t).2).1,(tSix l[1] (tNum l[0] 1 2 t).2).2):=by
 match l,h with
 | [a,b],_=>rfl
theorem Zlt {l:List ByteArray}{t:TS}(h:l.length=3):ZeO (l.map aB) t=(3600*(tNum l[0] 1 2 t).1+60*(tSix l[1] (tNum l[0] 1 2 t).2).1+(tSix l[2] (tSix l[1] (tNum l[0] 1 2 t).2).2).1,(tSix l[2] (tSix l[1] (tNum l[0] 1 2 t).2).2).2):=by
 match l,h with
 | [a,b,c],_=>rfl
theorem Zpt {l:List Bs}{t:TS}(h2:l.length≠2) (h3:l.length≠3):ZeO l t=(0,bad t):=by
 unfold ZeO
 split
 ·exact absurd rfl h2
 ·exact absurd rfl h3
 rfl
theorem ZhT {s:ByteArray}{t:TS}{id:Nat}{h:AH}(hz:s.size≤24) (h1:h[id]?=some (takE t)):ACalls Tryz.prog 273 [.ptr id 0 0,sv s] h fun x h'=>x=.ret (iv (ZbD s t).1)∧h'=h.set id (takE (ZbD s t).2):=by
 have hid:id<h.length:=(List.getElem?_eq_some_iff.1 h1).1
 refine tJ' k273 fun N hn hlt hlA hbd=>?_
 simp only[tb'] at hbd ⊢
 refine ZdJ (h1:=h.set id (takE t)++[]) (by rw[ZcS h1]) ?_
 refine wr'<|mw<|sn'<|Zam<|wr'<|mw<|Vw (Zcp lk lks)<|sn'<|?_
 refine cd' lk (fun hc1=>?_) (fun hc1=>?_)
 ·have hT:ZbD s t=(0,t):=if_pos hc1
  refine wr'<|mw<|sn'<|Zaa<|Zah<|Zae rz<|?_
  exact⟨_,_,rfl,Zan hn,ZbU hlt ZaK,rfl,by rw[hT],by rw[hT]⟩
 have hT0:ZbD s t=ZeO (cutC 58 (aB s)) t:=if_neg hc1
 refine Zaf<|Zag<|wr'<|mv' lkn pt5<|Zar<|Zba (ALe.own0' (st':=1) (ty:=9) gt5 (hl0 (Zan hn)) pt5 ha0)<|wr'<|mv' lki pt6<|sn'<|Zam<|Zam<|?_
 refine Zav<|mw<|sn'<|Zap<|?_
 refine w_lp (ι:=Nat×Nat×List ByteArray×Nat) (fun (x_:Nat×Nat×List ByteArray×Nat)=>match x_ with | ⟨f,i,ps,v⟩=>[(5,.own (N+0) v ps.length),(6,iv (f:Int)),(7,iv (i:Int))]++rn' 11 25) (fun (x_:Nat×Nat×List ByteArray×Nat)=>match x_ with | ⟨f,i,ps,v⟩=>[(0,.mk v 9 1 (rows strC ps))]) (fun (x_:Nat×Nat×List ByteArray×Nat)=>match x_ with | ⟨f,i,ps,v⟩=>i≤s.size+1∧f≤i∧ps.length≤i∧(i≤s.size→clean 58 s f i∧cutC 58 (aB s)=ps.map aB++cutC 58 ((aB s).drop f))∧(i=s.size+1→cutC 58 (aB s)=ps.map aB)) (fun (x_:Nat×Nat×List ByteArray×Nat)=>match x_ with | ⟨f,i,ps,v⟩=>s.size+1-i) (⟨0,0,[],0⟩) (by exact⟨by omega,by omega,by simp,fun _=>⟨ZcU,rfl⟩,fun h=>by omega⟩) ?_
 rintro⟨f,i,ps,v⟩ hi1
 try simp only[sm',Nat.reduceAdd]
 obtain⟨hk1,hk2,hk3,hk4,hk5⟩:=hi1
 refine Zam<|wr'<|mw<|mw<|Vw (Zbf lk)<|Vw (Zdg lk lk)<|sn'<|?_
 refine cd' lk (fun hc2=>?_) (fun hc2=>?_)
 ·have hi:i≤s.size:=by omega
  obtain⟨hk6,hk7⟩:=hk4 hi
  refine Zaf<|Zag<|Zam<|Zap<|wr'<|mw<|mw<|Vw (Zbf lk)<|Vw (ZaQ lk lk)<|mw<|?_
  refine sp' (t:=21) gt pt pt (fun hg21=>?_) (fun hg21=>?_)
  ·have hie:i=s.size:=by omega
   have hseg:cutC 58 (aB s)=(ps++[s.extract f i]).map aB:=by rw[hk7,Zmk hk6 hk2 hie];simp
   refine s_no gt pt<|s_no gt pt<|s_no gt pt<|s_no gt pt<|Vw (Zak lk lkb)<|sn'<|ZaG lk<|wr'<|mw<|mw<|mw<|mw<|?_
   refine V' (ZdX lk (oi lk) (oi lk) om om om) pt ?_
   refine E' (ZdL (Zhq cv rfl) (hl1 (Zan hn)) ha1) pt ?_
   refine E' (Zdm (Zct lk (hga (Zan hn) rfl) rfl ZmB (nb' rfl)) lk (hga (Zan hn) rfl) (Zeh _) om rfl (hs0 (Zan hn))) pt ?_
   refine mw<|sn'<|Zav<|mw<|?_
   refine V' (Zay lk lki om om) pt ?_
   refine mw<|Zar<|Zaz<|Zag<|Zav<|mw<|?_
   refine V' (Zay lk lki om om) pt ?_
   refine mw<|Zar<|ZaB<|?_
   refine lU' (⟨i+1,i+1,ps++[s.extract f i],v+1⟩) (by (try dsimp only);exact⟨by omega,by omega,by simp;omega,fun h=>by omega,fun _=>hseg⟩) (by (try dsimp only);(try simp only[sm',Nat.reduceAdd]);exact bkE' 1 (Zan hn) (ZbU hlt ZaK) (by repeat (first | exact wk0 | refine wka ?_ | refine wk1 rfl ?_ | refine wk1 (by first | rfl | exact ivx om | (simp;done)) ?_)) (by simp only[Za5,Zbv,strC];rfl))
  have hilt:i<s.size:=by omega
  refine s_do gt<|mw<|s_do gt<|mw<|s_do gt<|?_
  refine V' (v_ix lk lk om om) pt ?_
  refine s_do gt<|Vw (ZaQ lk lki)<|Vw (Zaj lk lk)<|sn'<|?_
  refine cd' lk (fun hc3=>?_) (fun hc3=>?_)
  ·have hx:ZaH s i=58:=ZiC (n:=58) om hc3
   have hseg:cutC 58 (aB s)=(ps++[s.extract f i]).map aB++cutC 58 ((aB s).drop (i+1)):=by rw[hk7,Zo9 hk6 hk2 hilt hx];simp
   refine wr'<|mw<|mw<|mw<|mw<|?_
   refine V' (ZdX lk (oi lk) (oi lk) om om om) pt ?_
   refine E' (ZdL (Zhq cv rfl) (hl1 (Zan hn)) ha1) pt ?_
   refine E' (Zdm (Zct lk (hga (Zan hn) rfl) rfl ZmB (nb' rfl)) lk (hga (Zan hn) rfl) (Zeh _) om rfl (hs0 (Zan hn))) pt ?_
   refine mw<|sn'<|Zav<|mw<|?_
   refine V' (Zay lk lki om om) pt ?_
   refine mw<|Zar<|Zaz<|Zag<|Zav<|mw<|?_
   refine V' (Zay lk lki om om) pt ?_
   refine mw<|Zar<|ZaB<|?_
   refine lU' (⟨i+1,i+1,ps++[s.extract f i],v+1⟩) (by (try dsimp only);exact⟨by omega,by omega,by simp;omega,fun h=>⟨ZcU,hseg⟩,fun h=>by omega⟩) (by (try dsimp only);(try simp only[sm',Nat.reduceAdd]);exact bkE' 1 (Zan hn) (ZbU hlt ZaK) (by repeat (first | exact wk0 | refine wka ?_ | refine wk1 rfl ?_ | refine wk1 (by first | rfl | exact ivx om | (simp;done)) ?_)) (by simp only[Za5,Zbv,strC];rfl))
  have hx:ZaH s i≠58:=ZkW (n:=58) om hc3
  refine Zaf<|Zaz<|Zag<|Zav<|mw<|?_
  refine V' (Zay lk lki om om) pt ?_
  refine mw<|Zar<|ZaB<|?_
  refine lU' (⟨f,i+1,ps,v⟩) (by (try dsimp only);exact⟨by omega,by omega,by omega,fun h=>⟨Zpc hk6 hk2 hilt hx,hk7⟩,fun h=>by omega⟩) (by (try dsimp only);(try simp only[sm',Nat.reduceAdd]);exact ALe.same (by repeat (first | exact wk0 | refine wka ?_ | refine wk1 rfl ?_ | refine wk1 (by first | rfl | exact ivx om | (simp;done)) ?_)) rfl)
 have hC:=hk5 om
 rw[hC] at hT0
 have hps:ps.length≤25:=by omega
 refine ZaM<|ZaD<|ZaD<|Zbb<|Zag<|Zam<|wr'<|mw<|Vw (ZcZ lk)<|Vw (ZaX lk lki)<|mw<|?_
 refine sp' (t:=39) gt pt pt (fun hg39=>?_) (fun hg39=>?_)
 ·refine s_do gt<|mw<|s_do gt<|Vw (ZcZ lk)<|s_do gt<|Vw (ZaX lk lki)<|Vw (Zak lk lk)<|sn'<|?_
  refine cd' lk (fun hc4=>?_) (fun hc4=>?_)
  ·rw[Zpt (by rw[List.length_map];omega) (by rw[List.length_map];omega)] at hT0
   refine wr'<|mw<|Vw (Zbp lk)<|Vw (Zab lk)<|E' (Zai lk (cvl lkb rfl) (ZaY hid) rfl (nb' rfl) rfl Zj6 (ZaJ hid)) ptn<|sn'<|wr'<|mw<|sn'<|Zaa<|?_
   refine Zah<|Zae rz<|?_
   exact⟨_,_,rfl,Zan hn,ZbU hlt ZaK,rfl,by rw[hT0],by rw[hT0]⟩
  have hl3:ps.length=3:=by omega
  have hl0:2≤ps.length:=by omega
  rw[Zlt hl3] at hT0
  refine Zaf ?_
  refine Zba (ALe.iceR (hga (Zan hn) rfl) gt5 (List.take_of_length_le (by rw[Za4 ZbW];first | exact Nat.le_refl _ | omega)) (by rw[Za4 ZbW];first | exact Nat.le_refl _ | omega) pt5 (hs0 (Zan hn))) ?_
  refine Zam<|ZbZ<|u_fr rfl (v_mv lk) pt<|u_fr rfl (v_mv lk) pt<|?_
  refine u_fr rfl (ZaU (k:=0) lk lki ZbW (nb' rfl) ro om ro rfl) pt ?_
  refine u_fr rfl (ZaC lk gt) pt ?_
  refine ZcR mp (ZaY hid) (fun hU hUe=>ZdN om hUe) nh (ZaJ hid) pt ?_
  have hb1:=Zh1 (s:=ps[0]) (a:=1) (b:=2) (t:=t) om
  refine u_fr rfl (Zfs lki lk om om) pt ?_
  refine u_fr rfl (v_mv lk) pt<|u_fr rfl (v_mv lk) pt<|?_
  refine u_fr rfl (ZaU (k:=1) lk lki ZbW (nb' rfl) ro om ro rfl) pt ?_
  refine u_fr rfl (ZaC lk gt) pt ?_
  refine ZcR mp (ZaY hid) (fun hU hUe=>Zq9 hUe) nh (ZaJ hid) pt ?_
  have hb2:=ZgN (s:=ps[1]) (t:=(tNum ps[0] 1 2 t).2)
  refine u_fr rfl (Zfs lki lk om om) pt ?_
  refine u_fr rfl (Zay lk lk om om) pt ?_
  refine u_fr rfl (v_mv lk) pt<|Zc0<|Zag<|Zam<|wr'<|mw<|Vw (ZaL lk)<|Vw (ZaQ lk lki)<|sn'<|?_
  refine ZdW lk (by simp[hl3]) ?_
  refine Zav<|mw<|mw<|mw<|?_
  refine V' (ZaU (k:=2) lk lki ZbW (nb' rfl) ro om ro rfl) pt ?_
  refine Vw (ZaC lk gt)<|ZaN mp (Zq9 (ZaY hid)) (ZaJ hid) pt<|?_
  have hb3:=ZgN (s:=ps[2]) (t:=(tSix ps[1] (tNum ps[0] 1 2 t).2).2)
  refine V' (Zay lk lk om om) pt ?_
  refine mw<|sn'<|wr'<|mw<|mw<|sn'<|Zaa<|Zae rz<|?_
  exact⟨_,_,rfl,Zan hn,ZbU hlt ZaK,rfl,by rw[hT0] <;> rfl,by rw[hT0] <;> rfl⟩
 have hl2:ps.length=2:=by omega
 have hl0:2≤ps.length:=by omega
 rw[Zps hl2] at hT0
 refine s_no gt pt<|s_no gt pt<|s_no gt pt<|Vw (Zaj lk lkb)<|sn'<|ZaO lk<|Zaf<|?_
 refine Zba (ALe.iceR (hga (Zan hn) rfl) gt5 (List.take_of_length_le (by rw[Za4 ZbW];first | exact Nat.le_refl _ | omega)) (by rw[Za4 ZbW];first | exact Nat.le_refl _ | omega) pt5 (hs0 (Zan hn))) ?_
 refine Zam<|ZbZ<|u_fr rfl (v_mv lk) pt<|u_fr rfl (v_mv lk) pt<|?_
 refine u_fr rfl (ZaU (k:=0) lk lki ZbW (nb' rfl) ro om ro rfl) pt ?_
 refine u_fr rfl (ZaC lk gt) pt ?_
 refine ZcR mp (ZaY hid) (fun hU hUe=>ZdN om hUe) nh (ZaJ hid) pt ?_
 have hb1:=Zh1 (s:=ps[0]) (a:=1) (b:=2) (t:=t) om
 refine u_fr rfl (Zfs lki lk om om) pt ?_
 refine u_fr rfl (v_mv lk) pt<|u_fr rfl (v_mv lk) pt<|?_
 refine u_fr rfl (ZaU (k:=1) lk lki ZbW (nb' rfl) ro om ro rfl) pt ?_
 refine u_fr rfl (ZaC lk gt) pt ?_
 refine ZcR mp (ZaY hid) (fun hU hUe=>Zq9 hUe) nh (ZaJ hid) pt ?_
 have hb2:=ZgN (s:=ps[1]) (t:=(tNum ps[0] 1 2 t).2)
 refine u_fr rfl (Zfs lki lk om om) pt ?_
 refine u_fr rfl (Zay lk lk om om) pt ?_
 refine u_fr rfl (v_mv lk) pt<|Zc0<|Zag<|Zam<|wr'<|mw<|Vw (ZaL lk)<|Vw (ZaQ lk lki)<|sn'<|?_
 refine Zdf lk (by simp[hl2]) ?_
 refine Zaf<|Zag<|wr'<|mw<|mw<|sn'<|Zaa<|Zae rz<|?_
 exact⟨_,_,rfl,Zan hn,ZbU hlt ZaK,rfl,by rw[hT0] <;> rfl,by rw[hT0] <;> rfl⟩
theorem Zc8 {t t1:TS}{s:ByteArray}{id:Nat}{h:AH}(he:ZaP t=(s,t1)) (h1:h[id]?=some (takE t)):ACalls Tryz.prog 200 [.ptr id 0 0] h fun x h'=>x=.ret (sv s)∧h'=h.set id (takE t1):=by
 have:=ZmU h1
 rw[he] at this
 exact this
theorem Zfg {s:ByteArray}{k:Nat}{n:Int}(h:¬((ZaH s (k:Int).toNat).toNat:Int)=n):ZcI s k≠n:=h
theorem tform_a {t:TS}{id:Nat}{h:AH}(hz:(ZaP t).1.size≤24) (h1:h[id]?=some (takE t)):ACalls Tryz.prog 277 [.ptr id 0 0] h fun x h'=>x=.ret (.agg [iv (ZgO t).1.1,iv (ZgO t).1.2.1,iv (ZgO t).1.2.2])∧h'=h.set id (takE (ZgO t).2):=by
 have hid:id<h.length:=(List.getElem?_eq_some_iff.1 h1).1
 obtain⟨s,t1,he⟩ : ∃ s t1,ZaP t=(s,t1):=⟨_,_,rfl⟩
 have hF:ZgO t=ZbR s t1:=by unfold ZgO;rw[he]
 rw[he] at hz
 replace hz:s.size≤24:=hz
 obtain⟨q,hq⟩ : ∃ q,q=Zd2 s:=⟨_,rfl⟩
 have hK:Zd2 s=if 4≤s.size∧s.extract 0 4=bA [108,97,115,116] then 2 else if 5<s.size∧ZcI s 4=61∧ZcI s 3=62 then 3 else if 5<s.size∧ZcI s 4=61∧ZcI s 3=60 then 4 else 1:=rfl
 refine tJ' k277 fun N hn hlt hlA hbd=>?_
 simp only[tb'] at hbd ⊢
 refine ZdJ (h1:=h.set id (takE t)++[]) (by rw[ZcS h1]) ?_
 refine wr'<|E' (ZaW (hl0 (Zan hn)) ha0) pt<|sn'<|wr'<|mw<|ZaN mp (Zc8 he (ZaY hid)) (ZaJ hid) pt<|mw<|sn'<|Zam<|Zam<|?_
 refine Zav<|mw<|Vw (Zbf lk)<|Vw (Zft lk lki)<|mw<|?_
 refine sp' (t:=10) gt pt pt (fun hg10=>?_) (fun hg10=>?_)
 ·refine s_do gt<|mw<|s_do gt<|?_
  refine V' (ZdX lk on_ (oi lki) om om om) pt ?_
  refine s_do gt<|Vw (Zcp lk lks)<|Vw (Zak lk lk)<|sn'<|?_
  refine cd' lk (fun hc1=>?_) (fun hc1=>?_)
  ·have hk:Zd2 s=2:=by rw[hK];exact if_pos ⟨by omega,hc1⟩
   have hT:ZgO t=((2,(Zd3 (s.extract 4 s.size) t1).1,0),(Zd3 (s.extract 4 s.size) t1).2):=by rw[hF];unfold ZbR;rw[if_pos hk]
   refine wr'<|mw<|mw<|?_
   refine V' (ZdX lk (oi lki) on_ om om om) pt ?_
   refine ZaN mp (ZhQ (ZaY hid)) (ZaJ hid) pt<|Vw (Zau (ZmC (cvl lki rfl) rfl cv rfl))<|E' (Zai lk cv (hga (Zan hn) rfl) rfl (nb' rfl) rfl Zbn (hs0 (Zan hn))) ptn<|sn'<|Zaa<|Zah<|Zae (rs1 (rr_c gt (hga (Zan hn) rfl) (ld1 Zbm rfl)))<|?_
   exact⟨_,_,rfl,Zan hn,ZbU hlt ZaK,rfl,by rw[hT] <;> rfl,by rw[hT] <;> rfl⟩
  have hn2:¬(4≤s.size∧s.extract 0 4=bA [108,97,115,116]):=fun e=>hc1 e.2
  rw[if_neg hn2] at hK
  refine Zaf<|Zag<|Zam<|wr'<|mw<|Vw (Zbf lk)<|Vw (ZbC lk lki)<|mw<|?_
  refine sp' (t:=23) gt pt pt (fun hg23=>?_) (fun hg23=>?_)
  ·refine s_do gt<|mw<|s_do gt<|?_
   refine V' (v_ix lk lki om om) pt ?_
   refine s_do gt<|Vw (ZaQ lk lki)<|Vw (Zak lk lk)<|mw<|?_
   refine sp' (t:=28) gt pt pt (fun hg28=>?_) (fun hg28=>?_)
   ·refine s_do gt<|mw<|s_do gt<|?_
    refine V' (v_ix lk lki om om) pt ?_
    refine s_do gt<|Vw (ZaQ lk lki)<|s_do gt<|mw<|?_
    refine sp' (t:=32) gt pt pt (fun hg32=>?_) (fun hg32=>?_)
    ·have hk:Zd2 s=3:=by rw[hK];exact if_pos ⟨by omega,hg28,hg32⟩
     refine s_no gt pt<|s_no gt pt<|s_no gt pt<|s_do gt<|Vw (Zak lk lkb)<|Vw (Zak lk lk)<|sn'<|ZaG lk<|Zam<|ZbZ<|u_fr rfl (v_mv lk) pt<|u_fr rfl (v_mv lk) pt<|?_
     refine u_fr rfl (ZdX lk on_ (oi lki) om om om) pt ?_
     refine ZcR mp (ZaY hid) (fun hU hUe=>ZhQ hUe) nh (ZaJ hid) pt ?_
     refine u_fr rfl (v_mv lk) pt<|u_fr rfl (v_mv lk) pt<|?_
     refine u_fr rfl (ZdX lk (oi lki) on_ om om om) pt ?_
     refine ZcR mp (ZaY hid) (fun hU hUe=>ZdN om hUe) nh (ZaJ hid) pt ?_
     refine u_fr rfl (Zau (ZdV (cvl lki rfl) rfl cv rfl cv rfl)) pt ?_
     refine u_al rfl (ZaW (hl1 (Zan hn)) ha1) (hl1 (Zan hn)) nh pt ?_
     refine u_st (Zai lk cv (hga (Zan hn) rfl) rfl (nb' rfl) rfl Zbn (hs1 (Zan hn))) lk nh ptn ?_
     refine Zc0<|Zag<|Zam<|wr'<|mw<|?_
     refine V' (v_ix lk lki om om) pt ?_
     refine Vw (ZaQ lk lki)<|sn'<|?_
     refine Zdf lk (by exact decide_eq_false (by rw[hg32];decide)) ?_
     refine Zaf<|Zag<|wr'<|Vw (Zao lk (hga (Zan hn) rfl) Zbm rfl)<|E' (Zai lk cv (hga (Zan hn) rfl) rfl (nb' rfl) rfl Zbn (hs0 (Zan hn))) ptn<|sn'<|Zaa<|Zah<|Zae (rs1 (rr_c gt (hga (Zan hn) rfl) (ld1 Zbm rfl)))<|?_
     exact⟨_,_,rfl,Zan hn,ZbU hlt ZaK,rfl,by rw[hF];unfold ZbR;rw[hk] <;> rfl,by rw[hF];unfold ZbR;rw[hk] <;> rfl⟩
    have h3:ZcI s 3≠62:=Zfg hg32
    refine s_do gt<|mw<|s_do gt<|?_
    refine V' (v_ix lk lki om om) pt ?_
    refine s_do gt<|Vw (ZaQ lk lki)<|s_do gt<|Vw (Zaj lk lk)<|Vw (Zak lk lk)<|sn'<|?_
    refine cd' lk (fun hc2=>?_) (fun hc2=>?_)
    ·have hk:Zd2 s=4:=by rw[hK,if_neg (fun e=>h3 e.2.2)];exact if_pos ⟨by omega,hg28,hc2⟩
     refine Zam<|ZbZ<|u_fr rfl (v_mv lk) pt<|u_fr rfl (v_mv lk) pt<|?_
     refine u_fr rfl (ZdX lk on_ (oi lki) om om om) pt ?_
     refine ZcR mp (ZaY hid) (fun hU hUe=>ZhQ hUe) nh (ZaJ hid) pt ?_
     refine u_fr rfl (v_mv lk) pt<|u_fr rfl (v_mv lk) pt<|?_
     refine u_fr rfl (ZdX lk (oi lki) on_ om om om) pt ?_
     refine ZcR mp (ZaY hid) (fun hU hUe=>ZdN om hUe) nh (ZaJ hid) pt ?_
     refine u_fr rfl (Zau (ZdV (cvl lki rfl) rfl cv rfl cv rfl)) pt ?_
     refine u_al rfl (ZaW (hl1 (Zan hn)) ha1) (hl1 (Zan hn)) nh pt ?_
     refine u_st (Zai lk cv (hga (Zan hn) rfl) rfl (nb' rfl) rfl Zbn (hs1 (Zan hn))) lk nh ptn ?_
     refine Zc0<|Zag<|Zam<|wr'<|mw<|?_
     refine V' (v_ix lk lki om om) pt ?_
     refine Vw (ZaQ lk lki)<|sn'<|?_
     refine ZdW lk (by exact decide_eq_true hc2) ?_
     refine Zav<|Vw (Zab lk)<|E' (Zai lk (cvl lki rfl) (hga (Zan hn) rfl) rfl (nb' rfl) rfl Zj7 (hs1 (Zan hn))) ptn<|sn'<|wr'<|Vw (Zao lk (hga (Zan hn) rfl) Zbm rfl)<|E' (Zai lk cv (hga (Zan hn) rfl) rfl (nb' rfl) rfl Zbn (hs0 (Zan hn))) ptn<|sn'<|Zaa<|Zah<|Zae (rs1 (rr_c gt (hga (Zan hn) rfl) (ld1 Zbm rfl)))<|?_
     exact⟨_,_,rfl,Zan hn,ZbU hlt ZaK,rfl,by rw[hF];unfold ZbR;rw[hk] <;> rfl,by rw[hF];unfold ZbR;rw[hk] <;> rfl⟩
    have h3':ZcI s 3≠60:=Zfg hc2
    have hk:Zd2 s=1:=by rw[hK,if_neg (fun e=>h3 e.2.2),if_neg (fun e=>h3' e.2.2)]
    refine Zaf<|Zag<|wr'<|mw<|mw<|?_
    refine ZaN mp (ZdN om (ZaY hid)) (ZaJ hid) pt ?_
    refine Vw (Zau (ZcF (cvl lki rfl) rfl cv rfl))<|E' (Zai lk cv (hga (Zan hn) rfl) rfl (nb' rfl) rfl Zbn (hs0 (Zan hn))) ptn<|sn'<|Zaa<|Zae (rs1 (rr_c gt (hga (Zan hn) rfl) (ld1 Zbm rfl)))<|?_
    exact⟨_,_,rfl,Zan hn,ZbU hlt ZaK,rfl,by rw[hF];unfold ZbR;rw[hk] <;> rfl,by rw[hF];unfold ZbR;rw[hk] <;> rfl⟩
   have h4:ZcI s 4≠61:=Zfg hg28
   have hk:Zd2 s=1:=by rw[hK,if_neg (fun e=>h4 e.2.1),if_neg (fun e=>h4 e.2.1)]
   refine s_no gt pt<|s_no gt pt<|s_no gt pt<|s_no gt pt<|s_nu gt pt<|s_nu gt pt<|s_nu gt pt<|s_no gt pt<|Vw (Zaj lk lkb)<|sn'<|ZaO lk<|Zaf<|Zag<|?_
   refine wr'<|mw<|mw<|?_
   refine ZaN mp (ZdN om (ZaY hid)) (ZaJ hid) pt ?_
   refine Vw (Zau (ZcF (cvl lki rfl) rfl cv rfl))<|E' (Zai lk cv (hga (Zan hn) rfl) rfl (nb' rfl) rfl Zbn (hs0 (Zan hn))) ptn<|sn'<|Zaa<|Zae (rs1 (rr_c gt (hga (Zan hn) rfl) (ld1 Zbm rfl)))<|?_
   exact⟨_,_,rfl,Zan hn,ZbU hlt ZaK,rfl,by rw[hF];unfold ZbR;rw[hk] <;> rfl,by rw[hF];unfold ZbR;rw[hk] <;> rfl⟩
  have hk:Zd2 s=1:=by rw[hK,if_neg om,if_neg om]
  refine s_no gt pt<|s_no gt pt<|s_no gt pt<|Vw (Zaj lk lkb)<|mw<|s_no gt pt<|s_no gt pt<|s_no gt pt<|s_no gt pt<|s_nu gt pt<|s_nu gt pt<|s_nu gt pt<|s_no gt pt<|Vw (Zaj lk lkb)<|?_
  refine sn'<|ZaO lk<|Zaf<|Zag<|wr'<|mw<|mw<|?_
  refine ZaN mp (ZdN om (ZaY hid)) (ZaJ hid) pt ?_
  refine Vw (Zau (ZcF (cvl lki rfl) rfl cv rfl))<|E' (Zai lk cv (hga (Zan hn) rfl) rfl (nb' rfl) rfl Zbn (hs0 (Zan hn))) ptn<|sn'<|Zaa<|Zae (rs1 (rr_c gt (hga (Zan hn) rfl) (ld1 Zbm rfl)))<|?_
  exact⟨_,_,rfl,Zan hn,ZbU hlt ZaK,rfl,by rw[hF];unfold ZbR;rw[hk] <;> rfl,by rw[hF];unfold ZbR;rw[hk] <;> rfl⟩
 have hn2:¬(4≤s.size∧s.extract 0 4=bA [108,97,115,116]):=fun e=>by omega
 rw[if_neg hn2] at hK
 refine s_no gt pt<|s_no gt pt<|s_no gt pt<|Vw (Zaj lk lkb)<|sn'<|ZaO lk<|Zaf<|Zag<|Zam<|wr'<|mw<|Vw (Zbf lk)<|?_
 refine Vw (ZbC lk lki)<|mw<|?_
 refine sp' (t:=23) gt pt pt (fun hg23=>?_) (fun hg23=>?_)
 ·refine s_do gt<|mw<|s_do gt<|?_
  refine V' (v_ix lk lki om om) pt ?_
  refine s_do gt<|Vw (ZaQ lk lki)<|Vw (Zak lk lk)<|mw<|?_
  refine sp' (t:=28) gt pt pt (fun hg28=>?_) (fun hg28=>?_)
  ·refine s_do gt<|mw<|s_do gt<|?_
   refine V' (v_ix lk lki om om) pt ?_
   refine s_do gt<|Vw (ZaQ lk lki)<|s_do gt<|mw<|?_
   refine sp' (t:=32) gt pt pt (fun hg32=>?_) (fun hg32=>?_)
   ·have hk:Zd2 s=3:=by rw[hK];exact if_pos ⟨by omega,hg28,hg32⟩
    refine s_no gt pt<|s_no gt pt<|s_no gt pt<|s_do gt<|Vw (Zak lk lkb)<|Vw (Zak lk lk)<|sn'<|ZaG lk<|Zam<|ZbZ<|u_fr rfl (v_mv lk) pt<|u_fr rfl (v_mv lk) pt<|?_
    refine u_fr rfl (ZdX lk on_ (oi lki) om om om) pt ?_
    refine ZcR mp (ZaY hid) (fun hU hUe=>ZhQ hUe) nh (ZaJ hid) pt ?_
    refine u_fr rfl (v_mv lk) pt<|u_fr rfl (v_mv lk) pt<|?_
    refine u_fr rfl (ZdX lk (oi lki) on_ om om om) pt ?_
    refine ZcR mp (ZaY hid) (fun hU hUe=>ZdN om hUe) nh (ZaJ hid) pt ?_
    refine u_fr rfl (Zau (ZdV (cvl lki rfl) rfl cv rfl cv rfl)) pt ?_
    refine u_al rfl (ZaW (hl1 (Zan hn)) ha1) (hl1 (Zan hn)) nh pt ?_
    refine u_st (Zai lk cv (hga (Zan hn) rfl) rfl (nb' rfl) rfl Zbn (hs1 (Zan hn))) lk nh ptn ?_
    refine Zc0<|Zag<|Zam<|wr'<|mw<|?_
    refine V' (v_ix lk lki om om) pt ?_
    refine Vw (ZaQ lk lki)<|sn'<|?_
    refine Zdf lk (by exact decide_eq_false (by rw[hg32];decide)) ?_
    refine Zaf<|Zag<|wr'<|Vw (Zao lk (hga (Zan hn) rfl) Zbm rfl)<|E' (Zai lk cv (hga (Zan hn) rfl) rfl (nb' rfl) rfl Zbn (hs0 (Zan hn))) ptn<|sn'<|Zaa<|Zah<|Zae (rs1 (rr_c gt (hga (Zan hn) rfl) (ld1 Zbm rfl)))<|?_
    exact⟨_,_,rfl,Zan hn,ZbU hlt ZaK,rfl,by rw[hF];unfold ZbR;rw[hk] <;> rfl,by rw[hF];unfold ZbR;rw[hk] <;> rfl⟩
   have h3:ZcI s 3≠62:=Zfg hg32
   refine s_do gt<|mw<|s_do gt<|?_
   refine V' (v_ix lk lki om om) pt ?_
   refine s_do gt<|Vw (ZaQ lk lki)<|s_do gt<|Vw (Zaj lk lk)<|Vw (Zak lk lk)<|sn'<|?_
   refine cd' lk (fun hc2=>?_) (fun hc2=>?_)
   ·have hk:Zd2 s=4:=by rw[hK,if_neg (fun e=>h3 e.2.2)];exact if_pos ⟨by omega,hg28,hc2⟩
    refine Zam<|ZbZ<|u_fr rfl (v_mv lk) pt<|u_fr rfl (v_mv lk) pt<|?_
    refine u_fr rfl (ZdX lk on_ (oi lki) om om om) pt ?_
    refine ZcR mp (ZaY hid) (fun hU hUe=>ZhQ hUe) nh (ZaJ hid) pt ?_
    refine u_fr rfl (v_mv lk) pt<|u_fr rfl (v_mv lk) pt<|?_
    refine u_fr rfl (ZdX lk (oi lki) on_ om om om) pt ?_
    refine ZcR mp (ZaY hid) (fun hU hUe=>ZdN om hUe) nh (ZaJ hid) pt ?_
    refine u_fr rfl (Zau (ZdV (cvl lki rfl) rfl cv rfl cv rfl)) pt ?_
    refine u_al rfl (ZaW (hl1 (Zan hn)) ha1) (hl1 (Zan hn)) nh pt ?_
    refine u_st (Zai lk cv (hga (Zan hn) rfl) rfl (nb' rfl) rfl Zbn (hs1 (Zan hn))) lk nh ptn ?_
    refine Zc0<|Zag<|Zam<|wr'<|mw<|?_
    refine V' (v_ix lk lki om om) pt ?_
    refine Vw (ZaQ lk lki)<|sn'<|?_
    refine ZdW lk (by exact decide_eq_true hc2) ?_
    refine Zav<|Vw (Zab lk)<|E' (Zai lk (cvl lki rfl) (hga (Zan hn) rfl) rfl (nb' rfl) rfl Zj7 (hs1 (Zan hn))) ptn<|sn'<|wr'<|Vw (Zao lk (hga (Zan hn) rfl) Zbm rfl)<|E' (Zai lk cv (hga (Zan hn) rfl) rfl (nb' rfl) rfl Zbn (hs0 (Zan hn))) ptn<|sn'<|Zaa<|Zah<|Zae (rs1 (rr_c gt (hga (Zan hn) rfl) (ld1 Zbm rfl)))<|?_
    exact⟨_,_,rfl,Zan hn,ZbU hlt ZaK,rfl,by rw[hF];unfold ZbR;rw[hk] <;> rfl,by rw[hF];unfold ZbR;rw[hk] <;> rfl⟩
   have h3':ZcI s 3≠60:=Zfg hc2
   have hk:Zd2 s=1:=by rw[hK,if_neg (fun e=>h3 e.2.2),if_neg (fun e=>h3' e.2.2)]
   refine Zaf<|Zag<|wr'<|mw<|mw<|?_
   refine ZaN mp (ZdN om (ZaY hid)) (ZaJ hid) pt ?_
   refine Vw (Zau (ZcF (cvl lki rfl) rfl cv rfl))<|E' (Zai lk cv (hga (Zan hn) rfl) rfl (nb' rfl) rfl Zbn (hs0 (Zan hn))) ptn<|sn'<|Zaa<|Zae (rs1 (rr_c gt (hga (Zan hn) rfl) (ld1 Zbm rfl)))<|?_
   exact⟨_,_,rfl,Zan hn,ZbU hlt ZaK,rfl,by rw[hF];unfold ZbR;rw[hk] <;> rfl,by rw[hF];unfold ZbR;rw[hk] <;> rfl⟩
  have h4:ZcI s 4≠61:=Zfg hg28
  have hk:Zd2 s=1:=by rw[hK,if_neg (fun e=>h4 e.2.1),if_neg (fun e=>h4 e.2.1)]
  refine s_no gt pt<|s_no gt pt<|s_no gt pt<|s_no gt pt<|s_nu gt pt<|s_nu gt pt<|s_nu gt pt<|s_no gt pt<|Vw (Zaj lk lkb)<|sn'<|ZaO lk<|Zaf<|Zag<|?_
  refine wr'<|mw<|mw<|?_
  refine ZaN mp (ZdN om (ZaY hid)) (ZaJ hid) pt ?_
  refine Vw (Zau (ZcF (cvl lki rfl) rfl cv rfl))<|E' (Zai lk cv (hga (Zan hn) rfl) rfl (nb' rfl) rfl Zbn (hs0 (Zan hn))) ptn<|sn'<|Zaa<|Zae (rs1 (rr_c gt (hga (Zan hn) rfl) (ld1 Zbm rfl)))<|?_
  exact⟨_,_,rfl,Zan hn,ZbU hlt ZaK,rfl,by rw[hF];unfold ZbR;rw[hk] <;> rfl,by rw[hF];unfold ZbR;rw[hk] <;> rfl⟩
 have hk:Zd2 s=1:=by rw[hK,if_neg om,if_neg om]
 refine s_no gt pt<|s_no gt pt<|s_no gt pt<|Vw (Zaj lk lkb)<|mw<|s_no gt pt<|s_no gt pt<|s_no gt pt<|s_no gt pt<|s_nu gt pt<|s_nu gt pt<|s_nu gt pt<|s_no gt pt<|Vw (Zaj lk lkb)<|?_
 refine sn'<|ZaO lk<|Zaf<|Zag<|wr'<|mw<|mw<|?_
 refine ZaN mp (ZdN om (ZaY hid)) (ZaJ hid) pt ?_
 refine Vw (Zau (ZcF (cvl lki rfl) rfl cv rfl))<|E' (Zai lk cv (hga (Zan hn) rfl) rfl (nb' rfl) rfl Zbn (hs0 (Zan hn))) ptn<|sn'<|Zaa<|Zae (rs1 (rr_c gt (hga (Zan hn) rfl) (ld1 Zbm rfl)))<|?_
 exact⟨_,_,rfl,Zan hn,ZbU hlt ZaK,rfl,by rw[hF];unfold ZbR;rw[hk] <;> rfl,by rw[hF];unfold ZbR;rw[hk] <;> rfl⟩
theorem ZoS {c d:Int}(hd:d=1∨d=2) : ∀ k:Nat,k≤3→1≤Zdl c d k∧Zdl c d k≤3
 | 0,_=>by unfold Zdl;omega
 | k+1,h=>by
  have:=ZoS (c:=c) hd k om
  unfold Zdl
  split <;> omega
theorem tclock_a {d:Int}{t:TS}{id:Nat}{h:AH}(hd:d=1∨d=2) (hz:(ZaP t).1.size≤24) (h1:h[id]?=some (takE t)):ACalls Tryz.prog 276 [.ptr id 0 0,iv d] h fun x h'=>x=.ret (.tup [iv (Zc3 d t).1.1,iv (Zc3 d t).1.2])∧h'=h.set id (takE (Zc3 d t).2):=by
 have hid:id<h.length:=(List.getElem?_eq_some_iff.1 h1).1
 obtain⟨s,t1,he⟩ : ∃ s t1,ZaP t=(s,t1):=⟨_,_,rfl⟩
 have hF:Zc3 d t=Zd0 d s t1:=by unfold Zc3;rw[he]
 rw[he] at hz
 replace hz:s.size≤24:=hz
 have hem:=Zeu (f:=s)
 have hkb:=ZoS (c:=ZcH s) hd 3 om
 have hws:(⟨#[63,119,115,117]⟩:ByteArray).size=4:=rfl
 refine tJ' k276 fun N hn hlt hlA hbd=>?_
 simp only[tb'] at hbd ⊢
 refine ZdJ (h1:=h.set id (takE t)++[]) (by rw[ZcS h1]) ?_
 refine wr'<|mw<|mw<|sn'<|wr'<|mw<|ZaN mp (Zc8 he (ZaY hid)) (ZaJ hid) pt<|mw<|sn'<|Zam<|?_
 refine Zav<|mw<|mw<|sn'<|Zam<|wr'<|mw<|Vw (ZcD lk lks)<|sn'<|?_
 refine cd' lk (fun hc1=>?_) (fun hc1=>?_)
 ·have h0:s.size≠0:=fun e=>hc1 (hem.2 e)
  have hL:((ZaH s ((s.size:Int)-1).toNat).toNat:Int)=ZcH s:=by unfold ZcH ZcI;congr 2;congr 1;omega
  have hbl:(0:Int)≤((ZaH s ((s.size:Int)-1).toNat).toNat:Int)∧((ZaH s ((s.size:Int)-1).toNat).toNat:Int)≤255:=Ze1 _ _
  refine Zam<|wr'<|mw<|sn'<|Zap<|?_
  refine w_lp (ι:=Nat) (fun (k:Nat)=>[(7,iv (Zdl (ZcH s) d k)),(8,iv ((k+1:Nat):Int))]++rn' 14 13) (fun (k:Nat)=>[]) (fun (k:Nat)=>k≤3) (fun (k:Nat)=>3-k) (0) om ?_
  rintro k hi1
  try simp only[sm',Nat.reduceAdd]
  refine Zam<|wr'<|mw<|Vw (Zdg lk lki)<|sn'<|?_
  refine cd' lk (fun hc2=>?_) (fun hc2=>?_)
  ·have hk:k+1≤3:=by omega
   refine Zaf<|Zag<|Zam<|Zap<|Zam<|Zb2<|Dw (v_mv lk)<|Dw (v_mv lk)<|Dw (Zbf lk)<|?_
   refine D' (ZbB lk lki om om) pt ?_
   refine D' (v_ix lk lk om om) pt ?_
   refine D' (v_mv lk) pt ?_
   refine D' (v_ix lks lk om om) pt ?_
   refine Dw (ZaQ lk lk)<|ZbO<|?_
   refine Zcr ?_
   refine sn' ?_
   refine cd' lk (fun hc3=>?_) (fun hc3=>?_)
   ·have hkk:Zdl (ZcH s) d (k+1)=((k+1:Nat):Int):=by unfold Zdl;exact if_pos (hL.symm.trans hc3)
    refine Zav<|mw<|mw<|Zar<|Zaz<|Zag<|Zav<|mw<|?_
    refine V' (Zay lk lki om om) pt ?_
    refine mw<|Zar<|ZaB<|?_
    refine lU' (k+1) (by (try dsimp only);omega) (by (try dsimp only);(try simp only[sm',Nat.reduceAdd]);exact ALe.same (by repeat (first | exact wk0 | refine wka ?_ | refine wk1 rfl ?_ | refine wk1 (by first | rfl | exact ivx om | exact ivx hkk.symm) ?_)) rfl)
   have hkk:Zdl (ZcH s) d (k+1)=Zdl (ZcH s) d k:=by rw[Zdl,if_neg (show ¬ZcH s=ZcI wsuA (k+1) from fun e=>hc3 (hL.trans e))]
   refine Zaf<|Zaz<|Zag<|Zav<|mw<|?_
   refine V' (Zay lk lki om om) pt ?_
   refine mw<|Zar<|ZaB<|?_
   refine lU' (k+1) (by (try dsimp only);omega) (by (try dsimp only);(try simp only[sm',Nat.reduceAdd]);exact ALe.same (by repeat (first | exact wk0 | refine wka ?_ | refine wk1 rfl ?_ | refine wk1 (by first | rfl | exact ivx om | exact ivx hkk.symm) ?_)) rfl)
  have hk3:k=3:=by omega
  subst hk3
  refine ZaM<|ZaD<|ZaD<|Zbb<|Zag<|wr'<|mw<|mw<|Vw (Zbf lk)<|?_
  refine V' (ZbB lk lki om om) pt ?_
  refine V' (v_ix lk lk om om) pt ?_
  refine Zad mp (Zd7 hbl.1 hbl.2) pt<|Vw (Zax lk)<|sn'<|?_
  refine Zaw lk (fun hc4=>?_) (fun hc4=>?_)
  ·have hdg:¬digB (ZcH s)=true:=by rw[←hL];simpa using hc4
   refine Zam<|Zam<|Zb2<|Dw (v_mv lk)<|Dw (v_mv lk)<|Dw (Zbf lk)<|?_
   refine D' (ZbB lk lki om om) pt ?_
   refine D' (v_ix lk lk om om) pt ?_
   refine D' (v_mv lk) pt ?_
   refine D' (v_ix lks lk om om) pt ?_
   refine Dw (ZaX lk lk)<|ZbO<|?_
   refine Zcr ?_
   refine sn' ?_
   refine cd' lk (fun hc5=>?_) (fun hc5=>?_)
   ·have hne:¬ZcH s=ZcI wsuA (Zdl (ZcH s) d 3).toNat:=fun e=>hc5 (hL.trans e)
    have hT:Zc3 d t=(((ZbD (s.extract 0 (s.size-1)) (bad t1)).1,Zdl (ZcH s) d 3),(ZbD (s.extract 0 (s.size-1)) (bad t1)).2):=by rw[hF];unfold Zd0;rw[if_neg h0,if_neg hdg];simp only[if_neg hne]
    refine Zav<|mw<|Vw (Zbp lk)<|Vw (Zab lk)<|E' (Zai lk (cvl lkb rfl) (ZaY hid) rfl (nb' rfl) rfl Zj6 (ZaJ hid)) ptn<|sn'<|Zav<|mw<|mw<|Vw (Zbf lk)<|?_
    refine V' (ZbB lk lki om om) pt ?_
    refine V' (ZdX lk on_ (oi lk) om om om) pt ?_
    rw[show s.extract (Int.toNat 0) ((s.size:Int)-1).toNat=s.extract 0 (s.size-1) by congr 1;omega]
    refine mw<|sn'<|wr'<|mw<|mw<|?_
    refine ZaN mp (ZhT (t:=bad t1) (by first | assumption | (rw[ByteArray.size_extract];omega)) (ZaY hid)) (ZaJ hid) pt ?_
    refine mw<|mw<|mw<|sn'<|Zaa<|Zae ry<|?_
    exact⟨_,_,rfl,Zan hn,ZbU hlt ZaK,rfl,by rw[hT] <;> rfl,by rw[hT] <;> rfl⟩
   have hne:ZcH s=ZcI wsuA (Zdl (ZcH s) d 3).toNat:=hL.symm.trans (Decidable.of_not_not hc5)
   have hT:Zc3 d t=(((ZbD (s.extract 0 (s.size-1)) t1).1,Zdl (ZcH s) d 3),(ZbD (s.extract 0 (s.size-1)) t1).2):=by rw[hF];unfold Zd0;rw[if_neg h0,if_neg hdg];simp only[if_pos hne]
   refine Zaf<|Zag<|Zav<|mw<|mw<|Vw (Zbf lk)<|?_
   refine V' (ZbB lk lki om om) pt ?_
   refine V' (ZdX lk on_ (oi lk) om om om) pt ?_
   rw[show s.extract (Int.toNat 0) ((s.size:Int)-1).toNat=s.extract 0 (s.size-1) by congr 1;omega]
   refine mw<|sn'<|wr'<|mw<|mw<|?_
   refine ZaN mp (ZhT (t:=t1) (by first | assumption | (rw[ByteArray.size_extract];omega)) (ZaY hid)) (ZaJ hid) pt ?_
   refine mw<|mw<|mw<|sn'<|Zaa<|Zae ry<|?_
   exact⟨_,_,rfl,Zan hn,ZbU hlt ZaK,rfl,by rw[hT] <;> rfl,by rw[hT] <;> rfl⟩
  have hdg:digB (ZcH s)=true:=by rw[←hL];simpa using hc4
  have hT:Zc3 d t=(((ZbD s t1).1,Zdl (ZcH s) d 3),(ZbD s t1).2):=by rw[hF];unfold Zd0;rw[if_neg h0,if_pos hdg]
  refine Zaf<|Zag<|wr'<|mw<|mw<|?_
  refine ZaN mp (ZhT (t:=t1) (by first | assumption | (rw[ByteArray.size_extract];omega)) (ZaY hid)) (ZaJ hid) pt ?_
  refine mw<|mw<|mw<|sn'<|Zaa<|Zae ry<|?_
  exact⟨_,_,rfl,Zan hn,ZbU hlt ZaK,rfl,by rw[hT] <;> rfl,by rw[hT] <;> rfl⟩
 have h0:s.size=0:=hem.1 (Decidable.of_not_not hc1)
 have hT:Zc3 d t=(((ZbD s t1).1,d),(ZbD s t1).2):=by rw[hF];exact if_pos h0
 refine Zaf<|Zag<|wr'<|mw<|mw<|?_
 refine ZaN mp (ZhT (t:=t1) (by first | assumption | (rw[ByteArray.size_extract];omega)) (ZaY hid)) (ZaJ hid) pt ?_
 refine mw<|mw<|mw<|sn'<|Zaa<|Zae ry<|?_
 exact⟨_,_,rfl,Zan hn,ZbU hlt ZaK,rfl,by rw[hT] <;> rfl,by rw[hT] <;> rfl⟩
end Go.Proofs.YtlekejpogddndaaGreatDoor
end
section
namespace Go.Proofs.YtlekejpogddndaaGreatDoor
open Go.Ab Go.RowKit Civ
attribute [local simp] ZbS
section
theorem Zfn {a0 c0:AV}{l:List AV}:setCells (a0::l) 0 [c0]=c0::l:=rfl
theorem ZbM {a0 a1 c0:AV}{l:List AV}:setCells (a0::a1::l) 1 [c0]=a0::c0::l:=rfl
theorem Zef {a0 a1 a2 c0:AV}{l:List AV}:setCells (a0::a1::a2::l) 2 [c0]=a0::a1::c0::l:=rfl
theorem Zj5 {a0 a1 a2 a3 c0:AV}{l:List AV}:setCells (a0::a1::a2::a3::l) 3 [c0]=a0::a1::a2::c0::l:=rfl
theorem ZqD {a0 a1 a2 a3 a4 a5 a6 c0 c1 c2:AV}{l:List AV}:setCells (a0::a1::a2::a3::a4::a5::a6::l) 4 [c0,c1,c2]=a0::a1::a2::a3::c0::c1::c2::l:=rfl
theorem ZqB {a0 a1 a2 a3 a4 a5 a6 a7 c0:AV}{l:List AV}:setCells (a0::a1::a2::a3::a4::a5::a6::a7::l) 7 [c0]=a0::a1::a2::a3::a4::a5::a6::c0::l:=rfl
theorem Zj4 {a0 a1 a2 a3 a4 a5 a6 a7 a8 c0:AV}{l:List AV}:setCells (a0::a1::a2::a3::a4::a5::a6::a7::a8::l) 8 [c0]=a0::a1::a2::a3::a4::a5::a6::a7::c0::l:=rfl
theorem Zj3 {a0 a1 a2 a3 a4 a5 a6 a7 a8 a9 c0:AV}{l:List AV}:setCells (a0::a1::a2::a3::a4::a5::a6::a7::a8::a9::l) 9 [c0]=a0::a1::a2::a3::a4::a5::a6::a7::a8::c0::l:=rfl
theorem ZfR {a0 a1 a2 a3 a4 a5 a6 a7 a8 a9 a10 c0:AV}{l:List AV}:setCells (a0::a1::a2::a3::a4::a5::a6::a7::a8::a9::a10::l) 10 [c0]=a0::a1::a2::a3::a4::a5::a6::a7::a8::a9::c0::l:=rfl
theorem Zch {a0 a1 a2 a3 a4 a5 a6 a7 a8 a9 a10:AV}{l:List AV}:((a0::a1::a2::a3::a4::a5::a6::a7::a8::a9::a10::l).drop 0).take 11=[a0,a1,a2,a3,a4,a5,a6,a7,a8,a9,a10]:=rfl
theorem ZeC {a0 a1 a2 a3 a4 a5 a6 a7 a8 a9 a10 c0 c1 c2 c3 c4 c5 c6 c7 c8 c9 c10:AV}{l:List AV}:setCells (a0::a1::a2::a3::a4::a5::a6::a7::a8::a9::a10::l) 0 [c0,c1,c2,c3,c4,c5,c6,c7,c8,c9,c10]=c0::c1::c2::c3::c4::c5::c6::c7::c8::c9::c10::l:=rfl
theorem ZqE {a0 a1 a2 a3 a4 c0:AV}{l:List AV}:setCells (a0::a1::a2::a3::a4::l) 4 [c0]=a0::a1::a2::a3::c0::l:=rfl
theorem ZcY {a0 a1 a2 a3 a4 a5 a6 a7 a8 a9:AV}{l:List AV}:((a0::a1::a2::a3::a4::a5::a6::a7::a8::a9::l).drop 0).take 10=[a0,a1,a2,a3,a4,a5,a6,a7,a8,a9]:=rfl
theorem ZfS {a0 a1 a2 a3 a4 a5 a6 a7 a8 a9 c0 c1 c2 c3 c4 c5 c6 c7 c8 c9:AV}{l:List AV}:setCells (a0::a1::a2::a3::a4::a5::a6::a7::a8::a9::l) 0 [c0,c1,c2,c3,c4,c5,c6,c7,c8,c9]=c0::c1::c2::c3::c4::c5::c6::c7::c8::c9::l:=rfl
theorem Zk9 {τ:Operand→AV}{y0 y1 y2:Operand}{x0_0 x1_0 x2_0:AV}(h0:Zat (τ y0)=some [x0_0]) (l0:[x0_0].all leaf=true) (h1:Zat (τ y1)=some [x1_0]) (l1:[x1_0].all leaf=true) (h2:Zat (τ y2)=some [x2_0]) (l2:[x2_0].all leaf=true):Zas τ [(0,1,y0),(1,1,y1),(2,1,y2)] [(.v (.int .i64 0)),(.v (.int .i64 0)),(.v (.int .i64 0))]=some [x0_0,x1_0,x2_0]:=by
 simp only[Zas,h0,l0,h1,l1,h2,l2]
 rfl
theorem ZqC {a0 a1 a2 a3 a4 a5 a6 a7 c0 c1 c2:AV}{l:List AV}:setCells (a0::a1::a2::a3::a4::a5::a6::a7::l) 5 [c0,c1,c2]=a0::a1::a2::a3::a4::c0::c1::c2::l:=rfl
end
def c202:AC:=(Sr [Oo 2 (.new 36 11 [Ss,(iv 0),(iv 0),(iv 0),(iv 0),(iv 0),(iv 0),(iv 0),(iv 0),(iv 0),Ss])] (Sr [Oo 3 (.new 36 11 [Ss,(iv 0),(iv 0),(iv 0),(iv 0),(iv 0),(iv 0),(iv 0),(iv 0),(iv 0),Ss])] (Sr [Mv 5 0,Cl 6 203 [(.tmp 5)],Fa 7 0 3,Sc 7 6] (Sr [Mv 8 0,Mv 9 0,Cl 10 200 [(.tmp 9)],Cl 11 274 [(.tmp 8),(.tmp 10),(Ci 4),(Ci 4)],Fa 12 1 3,Sc 12 11] (Sr [Mv 13 0,Cl 14 200 [(.tmp 13)],Mv 4 14] (.seq (Sr [Mv 15 4] (.block 0 (Sr [Oo 21 (.bin .eql (.tmp 15) (.const (.string ⟨#[111,110,108,121]⟩))),Mv 20 21] (Cd 20 (.reg [Fa 22 1 3,Ld 23 22,Fa 24 2 3,Sc 24 23]) (Sr [Oo 26 (.bin .eql (.tmp 15) (.const (.string ⟨#[109,97,120]⟩))),Mv 25 26] (Cd 25 (.reg [Fa 27 2 3,⟨none,none,(.store 1 (.tmp 27) (Ci 2100))⟩]) (.reg [Mv 16 0,Mv 17 4,Cl 18 274 [(.tmp 16),(.tmp 17),(Ci 4),(Ci 4)],Fa 19 2 3,Sc 19 18]))))))) (Sr [Mv 28 0,Cl 29 275 [(.tmp 28)],Fa 30 3 3,Sc 30 29] (Sr [Mv 31 0,Cl 32 277 [(.tmp 31)],Fa 33 4 3,⟨none,none,(.store 3 (.tmp 33) (.tmp 32))⟩] (Sr [Mv 35 0,Cl 36 276 [(.tmp 35),(Ci 1)],Mv 34 36,Ex 37 34 0,Ex 38 34 1,Fa 39 7 3,Sc 39 37,Fa 40 8 3,Sc 40 38] (Sr [Mv 41 0,Mv 42 0,Cl 43 200 [(.tmp 42)],Cl 44 273 [(.tmp 41),(.tmp 43)],Fa 45 9 3,Sc 45 44] (Sr [Mv 46 0,Cl 47 200 [(.tmp 46)],Mv 4 47] (.seq (Sr [Mv 48 4,Oo 49 (.bin .eql (.tmp 48) (.const (.string ⟨#[]⟩))),Mv 50 49,Of 51 50 (mt 4),Of 52 50 (.bin .neq (.tmp 51) (.const (.string ⟨#[45]⟩))),Of 53 50 (mt 52),Ot 54 53 (mt 4),Ot 55 53 (.call (.func 224) [(.tmp 54)]),Ot 56 53 (.un .not (.tmp 55)),Of 57 50 (.pick (.tmp 53) (.tmp 56) (.const (.bool false))),Oo 58 (.pick (.tmp 50) (.const (.bool true)) (.tmp 57))] (Cd 58 (.reg [Mv 59 0,Nk 60 59,Fa 61 1 60,⟨none,none,(.store 1 (.tmp 61) (.const (.bool true)))⟩]) .skip)) (.seq (Sr [Mv 62 4,Oo 63 (.bin .neq (.tmp 62) (.const (.string ⟨#[45]⟩)))] (Cd 63 (.reg [Mv 64 4,Fa 65 10 3,Sc 65 64]) .skip)) (Sr [Oo 66 (.load true 11 (.tmp 3)),⟨none,none,(.store 11 (.tmp 2) (.tmp 66))⟩] .ret))))))))))))))
theorem k202:ZaA Tryz.prog 202=some ⟨c202,[(.cell 2 true 11)],67⟩:=by kernel_rfl
def c201:AC:=(Sr [Oo 2 (.new 63 10 [(iv 0),Ss,(iv 0),Ss,(.v (.bool false)),(iv 0),(iv 0),(iv 0),(iv 0),(iv 0)])] (Sr [Oo 3 (.new 63 10 [(iv 0),Ss,(iv 0),Ss,(.v (.bool false)),(iv 0),(iv 0),(iv 0),(iv 0),(iv 0)])] (Sr [Mv 8 0,Cl 9 200 [(.tmp 8)],Mv 4 9] (.seq (Sr [Mv 10 4,Oo 11 (.bin .neq (.tmp 10) (.const (.string ⟨#[]⟩))),Mv 12 11,Ot 13 12 (mt 4),Ot 14 12 (.ix (.tmp 13) (Ci 0)),Ot 15 12 (.bin .eql (.tmp 14) (.const (.int .u8 45))),Oo 16 (.pick (.tmp 12) (.tmp 15) (.const (.bool false)))] (Cd 16 (.reg [Mv 17 0,Mv 18 4,Oo 19 (.sls (.tmp 18) (some (Ci 1)) none),Cl 20 273 [(.tmp 17),(.tmp 19)],Oo 21 (.un .neg (.tmp 20)),Fa 22 0 3,Sc 22 21]) (.reg [Mv 23 0,Mv 24 4,Cl 25 273 [(.tmp 23),(.tmp 24)],Fa 26 0 3,Sc 26 25]))) (Sr [Mv 27 0,Cl 28 200 [(.tmp 27)],Mv 4 28] (.seq (.block 0 (Sr [Mv 38 4,Oo 39 (.bin .eql (.tmp 38) (.const (.string ⟨#[45]⟩))),Mv 37 39] (Cd 37 .skip (Sr [Mv 41 4,Oo 42 (.bin .neq (.tmp 41) (.const (.string ⟨#[]⟩))),Mv 43 42,Ot 44 43 (mt 4),Ot 45 43 (.ix (.tmp 44) (Ci 0)),Ot 46 43 (.call (.func 191) [(.tmp 45)]),Oo 47 (.pick (.tmp 43) (.tmp 46) (.const (.bool false))),Mv 40 47] (Cd 40 (.seq (Sr [Mv 48 4,Oo 49 (.bin .eql (.tmp 48) (.const (.string ⟨#[48]⟩)))] (Cd 49 (.reg [Mv 50 0,Nk 51 50,Fa 52 1 51,⟨none,none,(.store 1 (.tmp 52) (.const (.bool true)))⟩]) .skip)) (.reg [Mv 53 0,Mv 54 4,Cl 55 273 [(.tmp 53),(.tmp 54)],Fa 56 2 3,Sc 56 55])) (.seq (Sr [Mv 29 4,Cl 30 115 [(.tmp 29)],Oo 31 (.un .not (.tmp 30))] (Cd 31 (.reg [Mv 32 0,Nk 33 32,Fa 34 1 33,⟨none,none,(.store 1 (.tmp 34) (.const (.bool true)))⟩]) .skip)) (.reg [Mv 35 4,Fa 36 1 3,Sc 36 35]))))))) (Sr [Mv 57 0,Cl 58 200 [(.tmp 57)],Fa 59 3 3,Sc 59 58] (.seq (Sr [Fa 60 3 3,Ld 61 60,Cl 62 225 [(.tmp 61)],Oo 63 (.un .not (.tmp 62))] (Cd 63 (.reg [Mv 64 0,Nk 65 64,Fa 66 1 65,⟨none,none,(.store 1 (.tmp 66) (.const (.bool true)))⟩]) .skip)) (.seq (Sr [Mv 67 0,Nk 68 67,Fa 69 0 68,Ld 70 69,Oo 71 (.len false (.tmp 70)),Bc 72 .eql 71 0] (Cd 72 (Sr [Fa 73 4 3,⟨none,none,(.store 1 (.tmp 73) (.const (.bool true)))⟩] (Sr [Oo 74 (.load true 10 (.tmp 3)),⟨none,none,(.store 10 (.tmp 2) (.tmp 74))⟩] .ret)) .skip)) (Sr [Mv 75 0,Mv 76 0,Cl 77 200 [(.tmp 76)],Cl 78 274 [(.tmp 75),(.tmp 77),(Ci 4),(Ci 4)],Mv 5 78] (Sr [Mv 79 0,Cl 80 275 [(.tmp 79)],Mv 6 80] (Sr [Mv 81 0,Mv 82 0,Cl 83 200 [(.tmp 82)],Cl 84 274 [(.tmp 81),(.tmp 83),(Ci 1),(Ci 2)],Mv 7 84] (Sr [Mv 85 5,Mv 86 6,Mv 87 7,Oo 88 (.build [(iv 0),(iv 0),(iv 0)] [(0,(1,(.tmp 85))),(1,(1,(.tmp 86))),(2,(1,(.tmp 87)))]),Fa 89 5 3,Fa 90 0 89,⟨none,none,(.store 3 (.tmp 90) (.tmp 88))⟩] (Sr [Mv 92 0,Cl 93 276 [(.tmp 92),(Ci 2)],Mv 91 93,Ex 94 91 0,Ex 95 91 1,Fa 96 5 3,Fa 97 3 96,Sc 97 94,Fa 98 5 3,Fa 99 4 98,Sc 99 95] (.seq (Sr [Fa 100 5 3,Fa 101 4 100,Ld 102 101,Bc 103 .eql 102 1] (Cd 103 (.reg [Mv 104 0,Nk 105 104,Fa 106 1 105,⟨none,none,(.store 1 (.tmp 106) (.const (.bool true)))⟩]) .skip)) (Sr [Oo 107 (.load true 10 (.tmp 3)),⟨none,none,(.store 10 (.tmp 2) (.tmp 107))⟩] .ret))))))))))))))))
theorem k201:ZaA Tryz.prog 201=some ⟨c201,[(.cell 2 true 10)],108⟩:=by kernel_rfl
def okTS (t:TS):Prop := ∀ x∈t.1,x.size≤24
theorem ZfG {t u:TS}(h:u.1=t.1) (ho:okTS t):okTS u:=by unfold okTS;rw[h];exact ho
theorem Za9 {t u:TS}{s:ByteArray}(ho:okTS t) (e:ZaP t=(s,u)):s.size≤24∧okTS u:=by
 unfold ZaP at e
 split at e
 ·cases e;exact⟨by decide,ho⟩
 rename_i hn
 obtain⟨l,b⟩:=t
 cases l with
 | nil=>exact absurd (.inr rfl) hn
 | cons x l=>cases e;exact⟨ho x (by simp),fun y hy=>ho y (by simp only[List.mem_cons];exact .inr hy)⟩
theorem tNum_fst {s:ByteArray}{a b:Int}{t:TS}:(tNum s a b t).2.1=t.1:=by unfold tNum;split <;> rfl
theorem Zls {s:ByteArray}{t:TS}:(Zd3 s t).2.1=t.1:=by unfold Zd3;split <;> rfl
theorem tSix_fst {s:ByteArray}{t:TS}:(tSix s t).2.1=t.1:=by unfold tSix;dsimp only;split <;> exact tNum_fst
theorem tSpan_fst {s:ByteArray}{t:TS}:(ZbD s t).2.1=t.1:=by
 unfold ZbD
 split
 ·rfl
 unfold ZeO
 split
 ·exact tSix_fst.trans tNum_fst
 ·exact tSix_fst.trans (tSix_fst.trans tNum_fst)
 rfl
theorem Zpu {s:ByteArray}{t:TS}:(ZbR s t).2.1=t.1:=by
 unfold ZbR
 split
 ·exact Zls
 split
 ·exact tNum_fst
 exact tNum_fst.trans Zls
theorem ZmZ {d:Int}{s:ByteArray}{t:TS}:(Zd0 d s t).2.1=t.1:=by
 unfold Zd0
 split
 ·exact tSpan_fst
 split
 ·exact tSpan_fst
 refine tSpan_fst.trans ?_
 split <;> rfl
theorem tTo_fst {f:Int}{s:ByteArray}{t:TS}:(tTo f s t).2.1=t.1:=by
 unfold tTo
 split
 ·rfl
 split
 ·rfl
 exact tNum_fst
theorem Zgf {t u:TS}{s:ByteArray}(ho:okTS t) (e:ZeP t=(s,u)):okTS u:=by
 obtain⟨x,v,ev⟩ : ∃ x v,ZaP t=(x,v):=⟨_,_,rfl⟩
 unfold ZeP at e
 rw[ev] at e
 have:=(Za9 ho ev).2
 simp only[Prod.mk.injEq] at e
 obtain⟨_,e2⟩:=e
 subst e2
 split
 ·exact this
 exact this
theorem ZgR {t u:TS}{n:Int}(ho:okTS t) (e:ZdB t=(n,u)):okTS u:=by
 obtain⟨x,v,ev⟩ : ∃ x v,ZaP t=(x,v):=⟨_,_,rfl⟩
 unfold ZdB at e
 rw[ev] at e
 have:=(Za9 ho ev).2
 split at e <;> cases e <;> exact this
theorem ZhG {s:ByteArray}{a b n:Int}{t u:TS}(ho:okTS t) (e:tNum s a b t=(n,u)):okTS u:=ZfG (by have := @tNum_fst s a b t;rw[e] at this;exact this) ho
theorem Zij {s:ByteArray}{n:Int}{t u:TS}(ho:okTS t) (e:ZbD s t=(n,u)):okTS u:=ZfG (by have := @tSpan_fst s t;rw[e] at this;exact this) ho
theorem ZrX {f:Int}{s:ByteArray}{n:Int}{t u:TS}(ho:okTS t) (e:tTo f s t=(n,u)):okTS u:=ZfG (by have := @tTo_fst f s t;rw[e] at this;exact this) ho
theorem ZlQ {n:Frm}{t u:TS}(ho:okTS t) (e:ZgO t=(n,u)):okTS u:=by
 obtain⟨x,v,ev⟩ : ∃ x v,ZaP t=(x,v):=⟨_,_,rfl⟩
 unfold ZgO at e
 rw[ev] at e
 exact ZfG (by have := @Zpu x v;rw[e] at this;exact this) (Za9 ho ev).2
theorem ZgS {d:Int}{n:Int×Int}{t u:TS}(ho:okTS t) (e:Zc3 d t=(n,u)):okTS u:=by
 obtain⟨x,v,ev⟩ : ∃ x v,ZaP t=(x,v):=⟨_,_,rfl⟩
 unfold Zc3 at e
 rw[ev] at e
 exact ZfG (by have := @ZmZ d x v;rw[e] at this;exact this) (Za9 ho ev).2
theorem Zki {t t1:TS}{s:ByteArray}{id:Nat}{h:AH}(ho:okTS t) (he:ZeP t=(s,t1)) (h1:h[id]?=some (takE t)):ACalls Tryz.prog 203 [.ptr id 0 0] h fun x h'=>x=.ret (sv s)∧h'=h.set id (takE t1):=by
 have:=tname_a (by have:=(Za9 ho (s:=(ZaP t).1) (u:=(ZaP t).2) rfl).1;unfold maxLen;omega) h1
 rw[he] at this
 exact this
theorem Zoq {s:ByteArray}{a b n:Int}{t t1:TS}{id:Nat}{h:AH}(hb:b≤4) (he:tNum s a b t=(n,t1)) (h1:h[id]?=some (takE t)):ACalls Tryz.prog 274 [.ptr id 0 0,sv s,iv a,iv b] h fun x h'=>x=.ret (iv n)∧h'=h.set id (takE t1):=by
 have:=ZdN (s:=s) (a:=a) hb h1
 rw[he] at this
 exact this
end Go.Proofs.YtlekejpogddndaaGreatDoor
end
