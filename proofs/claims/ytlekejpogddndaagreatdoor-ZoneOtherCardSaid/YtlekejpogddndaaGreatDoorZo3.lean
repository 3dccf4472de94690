/-
  Part 3 of the proof: own lemmas and contracts on plain data. No condition beyond those that each lemma states.
-/
import Derived.Test.YtlekejpogddndaaGreatDoorZo2
import Derived.Lib.IndexBytes
set_option linter.all false
set_option maxRecDepth 1000000
set_option maxHeartbeats 4000000
section
namespace Go.Proofs.YtlekejpogddndaaGreatDoor
open Go.Ab Go.Sort
theorem Zpz {l:List ByteArray}{id v ty:Nat}{h:AH}(he:h[id]?=some (.mk v ty 1 (rows strC l))) (h0:l≠[]) (hl:l.length<4611686018427387904) :
  ACalls Tryz.prog 211 [.own id v l.length] h fun r h'=>r=.ret (.tup [])∧h'=h.set id (.mk v ty 1 (rows strC (Zd6 l))):=by
 refine ACalls.of_turnR (by kernel_rfl) he ?_ ?_
 ·rw [ZdQ];simpa [bsL] using h0
 ·intro w g vs b cap arr hs ha hloc hb hsz hle hr
  simp only [RepL,Rep,hloc] at ha
  obtain ⟨u1,us1,e1,⟨A,c,e2,hn1,hn2,rfl⟩,rfl⟩:=ha
  simp only [Option.some.injEq,Prod.mk.injEq] at e2
  obtain ⟨rfl,rfl⟩:=e2
  obtain rfl:vs = #[.slice (some ⟨b,0,none⟩) l.length cap]:=by cases vs;simp_all
  have hlen:(rows strC l).length=(bsL l).length:=by rw [ZdQ];simp
  have hbl:(bsL l).length=l.length:=by simp [bsL]
  rw [hlen] at hr hle
  rw [ZdQ] at hr
  have hr2:=ZjI.1 hr
  have hb':b<w.heap.size:=(Array.getElem?_eq_some_iff.1 hb).1
  have:=Tryz.slices_Sort_string b 0 cap (bsL l) w (holds_of_block hb hr2) hb' (by rw [hbl];exact hl)
  rw [hbl] at this
  refine this.mono ?_
  rintro e w' ⟨rfl,n,os,rfl⟩
  obtain ⟨q1,q2,q3,q4,q5⟩:=grownBy_sorted (w:=w) (g:=b) (n:=n) (os:=os) ((bsL l).mergeSort fun x y=>decide (x≤y)).toArray
  have hml:((bsL l).mergeSort fun x y=>decide (x≤y)).length=(bsL l).length:=List.length_mergeSort _
  refine ⟨_,((bsL l).mergeSort fun x y=>decide (x≤y)).map encStr,_,rfl,by unfold Zd6;rw [ZjG],heap_sorted _ hb,by simp [putCells],by rw [hlen];simp,?_,q1,q2,q3,q4,fun k hk hne=>q5 k hk (by simpa using hne),?_⟩
  ·rw [hlen,←hml]
   exact take_putCells arr _ (by rw [hml];exact hle)
  ·simp only [Rep];exact ⟨#[],rfl,by simp only [RepL]⟩
theorem ZqS {l:List ByteArray}{id v ty:Nat}{h:AH}(he:h[id]?=some (.mk v ty 1 (rows strC l))) (h0:l≠[]) (hl:l.length≤9223372036854775807) :
  ACalls Tryz.prog 212 [.own id v l.length] h fun r h'=>r=.ret (.own id v (Zfa l).length)∧h'=h.set id (.mk v ty 1 (rows strC (sbL (Zfa l++List.replicate ((bsL l).length-(Zfa l).length) [])))):=by
 refine ACalls.of_turnR (by kernel_rfl) he ?_ ?_
 ·rw [ZdQ];simpa [bsL] using h0
 ·intro w g vs b cap arr hs ha hloc hb hsz hle hr
  simp only [RepL,Rep,hloc] at ha
  obtain ⟨u1,us1,e1,⟨A,c,e2,hn1,hn2,rfl⟩,rfl⟩:=ha
  simp only [Option.some.injEq,Prod.mk.injEq] at e2
  obtain ⟨rfl,rfl⟩:=e2
  obtain rfl:vs = #[.slice (some ⟨b,0,none⟩) l.length cap]:=by cases vs;simp_all
  have hlen:(rows strC l).length=(bsL l).length:=by rw [ZdQ];simp
  have hbl:(bsL l).length=l.length:=by simp [bsL]
  rw [hlen] at hr hle
  rw [ZdQ] at hr
  have hr2:=ZjI.1 hr
  have hcl:(Zfa l).length≤(bsL l).length:=Lib.compact_length_le _
  have:=Tryz.slices_Compact_string b 0 cap (bsL l) w (holds_of_block hb hr2) (by rw [hbl];exact hl) (by rw [hbl];omega)
  rw [hbl] at this
  refine this.mono ?_
  rintro e w' ⟨rfl,q,rfl⟩
  have e0:putRow encStr (Sort.ahead w q) b 0 (Lib.compact (bsL l)++List.replicate (l.length-(Lib.compact (bsL l)).length) []).toArray=grow (putRow encStr (Sort.ahead w q) b 0 (Zfa l++List.replicate ((bsL l).length-(Zfa l).length) []).toArray) #[]:=by rw [grow_empty,hbl];rfl
  rw [e0]
  obtain ⟨q1,q2,q3,q4,q5⟩:=grownBy_sorted (w:=w) (g:=b) (n:=q) (os := #[]) (Zfa l++List.replicate ((bsL l).length-(Zfa l).length) []).toArray
  have hml:(Zfa l++List.replicate ((bsL l).length-(Zfa l).length) []).length=(bsL l).length:=by rw [List.length_append,List.length_replicate];omega
  refine ⟨_,(Zfa l++List.replicate ((bsL l).length-(Zfa l).length) []).map encStr,_,rfl,by rw [ZjG],heap_sorted _ hb,by simp [putCells],by rw [hlen,List.length_map,hml],?_,q1,q2,q3,q4,fun k hk hne=>q5 k hk (by simpa using hne),?_⟩
  ·rw [hlen]
   exact (congrArg (fun n=>List.take n _) hml.symm).trans (take_putCells arr _ (by rw [hml];exact hle))
  ·simp only [Rep];exact ⟨_,_,hloc,by omega,hn2,rfl⟩
theorem ZlJ {l:List ByteArray}{id v ty:Nat}{h:AH}(he:h[id]?=some (.mk v ty 1 (rows strC l))) (hl:l.length<4611686018427387904) :
  ACalls Tryz.prog 211 [.own id v l.length] h fun r h'=>r=.ret (.tup [])∧h'=h.set id (.mk v ty 1 (rows strC (Zd6 l))):=by
 by_cases h0:l=[]
 ·subst h0
  refine ⟨by kernel_rfl,fun w g vs hs ha=>?_⟩
  simp only [RepL,Rep] at ha
  obtain ⟨val,us,e,⟨A,cap,e1,e2,e3,rfl⟩,rfl⟩:=ha
  obtain rfl:vs = #[.slice A 0 cap]:=by cases vs;simp_all
  refine (Tryz.slices_Sort_string_none A cap w).mono ?_
  rintro e w' ⟨rfl,rfl⟩
  refine ⟨.ret (.tup []),h,g,?_,hs,Gh.le.refl g,Fr.refl _ _,fun k hk=>.inl hk,rfl,?_⟩
  ·exact (by simp only [EndR,Rep];exact ⟨#[],rfl,by simp [RepL]⟩)
  ·rw [show Zd6 []=[] by simp [Zd6,bsL,sbL]]
   exact (ZcK he).symm
 ·exact Zpz he h0 hl
theorem Zmh {l:List ByteArray}{id v ty:Nat}{h:AH}(he:h[id]?=some (.mk v ty 1 (rows strC l))) (hl:l.length≤9223372036854775807) :
  ACalls Tryz.prog 212 [.own id v l.length] h fun r h'=>r=.ret (.own id v (Zfa l).length)∧h'=h.set id (.mk v ty 1 (rows strC (sbL (Zfa l++List.replicate ((bsL l).length-(Zfa l).length) [])))):=by
 by_cases h0:l=[]
 ·subst h0
  refine ⟨by kernel_rfl,fun w g vs hs ha=>?_⟩
  simp only [RepL,Rep] at ha
  obtain ⟨val,us,e,⟨A,cap,e1,e2,e3,rfl⟩,rfl⟩:=ha
  obtain rfl:vs = #[.slice A 0 cap]:=by cases vs;simp_all
  refine (Tryz.slices_Compact_string_empty A cap w).mono ?_
  rintro e w' ⟨rfl,rfl⟩
  refine ⟨.ret (.own id v 0),h,g,?_,hs,Gh.le.refl g,Fr.refl _ _,fun k hk=>.inl hk,rfl,?_⟩
  ·exact (by simp only [EndR,Rep];exact ⟨A,cap,e1,Nat.zero_le _,e3,rfl⟩)
  ·exact (ZcK he).symm
 ·exact ZqS he h0 hl
theorem le_tr (a b c:Bs):a≤b→b≤c→a≤c:=fun h1 h2=>List.le_trans h1 h2
theorem Zpg {l:List ByteArray}:decide ((Zfa (Zd6 l)).length<l.length)=decide (¬l.Nodup):=by
 have hperm:(bsL (Zd6 l)).Perm (bsL l):=by
  have:bsL (Zd6 l)=(bsL l).mergeSort fun x y=>decide (x≤y):=by
   unfold Zd6 sbL bsL
   rw [List.map_map]
   have:(aB ∘ bA)=id:=by funext z;simp [aB,bA]
   rw [this,List.map_id]
  rw [this];exact List.mergeSort_perm _ _
 have hsort:(bsL (Zd6 l)).Pairwise (· ≤ ·):=by
  have e:bsL (Zd6 l)=(bsL l).mergeSort fun x y=>decide (x≤y):=by
   unfold Zd6 sbL bsL
   rw [List.map_map]
   have:(aB ∘ bA)=id:=by funext z;simp [aB,bA]
   rw [this,List.map_id]
  rw [e]
  have h:=List.pairwise_mergeSort (le:=fun a b:Bs=>decide (a≤b)) (fun a b c h1 h2=>by simp only [decide_eq_true_eq] at *;exact le_tr _ _ _ h1 h2) (fun a b=>by simp only [Bool.or_eq_true,decide_eq_true_eq];exact List.le_total a b) (bsL l)
  exact h.imp fun h=>by simpa using h
 have hnd:l.Nodup↔(bsL (Zd6 l)).Nodup:=by
  rw [hperm.nodup_iff]
  unfold bsL
  constructor
  ·intro h
   exact List.pairwise_map.2 (h.imp fun hne e=>hne (by have:=congrArg bA e;exact this))
  ·intro h
   exact (List.pairwise_map.1 h).imp fun hne e=>hne (by rw [e])
 have hlen:(bsL (Zd6 l)).length=l.length:=by rw [hperm.length_eq];simp [bsL]
 rw [Bool.eq_iff_iff,decide_eq_true_iff,decide_eq_true_iff,hnd,←hlen]
 show (Lib.compact (bsL (Zd6 l))).length<_↔_
 generalize bsL (Zd6 l)=L at hsort
 have e:(Lib.compact L).length=((List.range L.length).filter (Lib.keeps L.toArray)).length:=by unfold Lib.compact Lib.compactUpTo;rw [List.length_map]
 rw [e]
 have hr:L.length=(List.range L.length).length:=by simp
 conv=>lhs;rhs;rw [hr]
 rw [List.length_filter_lt_length_iff_exists]
 have hget : ∀ j (h:j<L.length),L.toArray[j]! = L[j]:=fun j h=>by simp [h]
 constructor
 ·rintro ⟨j,hj,hk⟩ hnd
  have hj:=List.mem_range.1 hj
  unfold Lib.keeps at hk
  simp only [decide_eq_true_eq,not_or,Decidable.not_not] at hk
  obtain ⟨h0,h1⟩:=hk
  rw [hget j hj,hget (j-1) (by omega)] at h1
  exact List.pairwise_iff_getElem.1 hnd (j-1) j (by omega) hj (by omega) h1.symm
 ·intro hnd
  refine Decidable.byContradiction fun hne=>hnd (List.pairwise_iff_getElem.2 fun i j hi hj hij e=>hne ⟨j,List.mem_range.2 hj,?_⟩)
  unfold Lib.keeps
  simp only [decide_eq_true_eq,not_or,Decidable.not_not]
  refine ⟨by omega,?_⟩
  rw [hget j hj,hget (j-1) (by omega)]
  have h1:L[j-1]≤L[j]:=List.pairwise_iff_getElem.1 hsort (j-1) j (by omega) hj (by omega)
  have h2:L[i]≤L[j-1]:=by
   by_cases hh:i=j-1
   ·subst hh;exact List.le_refl _
   ·exact List.pairwise_iff_getElem.1 hsort i (j-1) hi (by omega) (by omega)
  rw [←e] at h1
  rw [←e]
  exact List.le_antisymm h2 h1
end Go.Proofs.YtlekejpogddndaaGreatDoor
end
section
namespace Go.Proofs.YtlekejpogddndaaGreatDoor
open Go.Ab Go.RowKit Civ
attribute [local simp] Zbi Zbu Zbk Zbp ZdC Zdz ZbK
section
theorem Zf3 {a0 a1:AV}{l:List AV}:(a0::a1::l).take 2=[a0,a1]:=rfl
theorem Ze2 {a0 a1 c0 c1:AV}{l:List AV}:setCells (a0::a1::l) 0 [c0,c1]=c0::c1::l:=rfl
theorem Zf6 {τ:Operand→AV}{y0:Operand}{x0_0:AV}(h0:Zav (τ y0)=some [x0_0]) (l0:[x0_0].all leaf=true):Zat τ [(0,1,y0)] [(.v (.string ⟨#[]⟩))]=some [x0_0]:=by
 simp only [Zat,h0,l0]
 rfl
theorem Zf4 {a0:AV}{l:List AV}:(a0::l).take 1=[a0]:=rfl
theorem Zf5 {τ:Operand→AV}{y0:Operand}{x0_0:AV}(h0:Zav (τ y0)=some [x0_0]) (l0:[x0_0].all leaf=true):Zat τ [(0,1,y0)] [(.v (.string ⟨#[]⟩))]=some [x0_0]:=by
 simp only [Zat,h0,l0]
 rfl
theorem Zlj {a0 a1 a2:AV}{l:List AV}:(a0::a1::a2::l).take 3=[a0,a1,a2]:=rfl
end
def c210:AC:=(Sr [Oo 1 (.box 26 3 (.tmp 0)),Oo 2 (.mv (.const (.slice none 0 0)))] (Sr [Oo 3 (.mv (.const (.slice none 0 0)))] (.seq (Sr [Fa 8 1 1,Ld 9 8,Oo 10 (.len false (.tmp 9)),Mc 11 0] (.block 0 (.loop (Sr [Bn 12 .lss 11 10] (.seq (Cd 12 .skip (.exit 0)) (.seq (.block 1 (Sr [Oo 13 (.ia 2 (.tmp 9) (.tmp 11)),Oo 14 (.load true 2 (.tmp 13)),Oo 5 (.new 53 2 [Ss,(.sl 0 0 true [])]),⟨none,none,(.store 2 (.tmp 5) (.tmp 14))⟩] (.reg [Mv 15 3,Fa 16 0 5,Ld 17 16,Oo 18 (.lit 9 1 1 [Ss] [(0,(1,(.tmp 17)))]),Oo 19 (.app 9 1 16 (.tmp 15) (.tmp 18)),Mv 3 19]))) (.reg [Bc 20 .add 11 1,Mv 11 20]))))))) (.seq (Sr [Fa 21 2 1,Ld 22 21,Oo 23 (.len false (.tmp 22)),Mc 24 0] (.block 2 (.loop (Sr [Bn 25 .lss 24 23] (.seq (Cd 25 .skip (.exit 2)) (.seq (.block 3 (Sr [Oo 26 (.ia 2 (.tmp 22) (.tmp 24)),Oo 27 (.load true 2 (.tmp 26)),Oo 7 (.new 129 2 [Ss,Ss]),⟨none,none,(.store 2 (.tmp 7) (.tmp 27))⟩] (.reg [Mv 28 3,Fa 29 1 7,Ld 30 29,Oo 31 (.lit 9 1 1 [Ss] [(0,(1,(.tmp 30)))]),Oo 32 (.app 9 1 16 (.tmp 28) (.tmp 31)),Mv 3 32]))) (.reg [Bc 33 .add 24 1,Mv 24 33]))))))) (Sr [Mv 34 3,Mv 2 34] .ret)))))
theorem k210:ZaD Tryz.prog 210=some ⟨c210,[(.tmp 2)],35⟩:=by kernel_rfl
def c133:AC:=(Sr [Oo 1 (.box 26 3 (.tmp 0)),Mb 2 false] (Sr [Oo 4 (.load true 3 (.tmp 1)),Cl 5 210 [(.tmp 4)],Mv 3 5] (Sr [Mv 6 3,Cl 7 211 [(.tmp 6)]] (.seq (.drwU [[],[],[],[0,1,2],[2],[2],[],[]] [Mv 8 3,Cl 9 212 [(.tmp 8)],Oo 10 (.len false (.tmp 9)),Oo 11 (.load true 3 (.tmp 1)),Cl 12 210 [(.tmp 11)],Oo 13 (.len false (.tmp 12)),Bn 14 .lss 10 13,Mv 2 14]) .ret))))
theorem k133:Zi0 Tryz.prog 133=some ⟨c133,[(.tmp 2)],15⟩:=by kernel_rfl
def ZcX (z:List Zon) (k:List Lnk):List ByteArray:=z.map (·.1)++k.map (·.2)
theorem Zgp (z:List Zon) (k:List Lnk):(ZcX z k).length=z.length+k.length:=by simp [ZcX]
theorem Zjw (x:ByteArray):rows strC [x]=[sv x]:=rfl
theorem names_o {a:List Rul}{z:List Zon}{k:List Lnk}{h:AH}{q:Nat}(hq:h.length+1=q) (hz:z.length≤20) (hk:k.length≤20):ACalls Tryz.prog 210 [.agg (srcB a z k)] h fun x h'=>x=.ret (.own q (ZcX z k).length (ZcX z k).length)∧h'=h++[.mk 0 26 3 (srcB a z k),.mk (ZcX z k).length 9 1 (rows strC (ZcX z k))]:=by
 have hnl:=Zgp z k
 have hkk:=hk
 refine tN' k210 fun N hn hlt hlA hbd=>?_
 simp only [tb'] at hbd ⊢
 refine wr'<|E' (Zbj (cvl lk0 rfl) rfl (hl0 hn) ha0) pt1<|mv' lkn pt2<|sn'<|wr'<|mv' lkn pt3<|Zar<|Za8 (ALe.own0' (st':=1) (ty:=9) gt3 (hl1 hn) pt3 ha1)<|Zam<|wr'<|?_
 refine V' (Zac lk) pt<|V' (Zab lk (hga hn rfl) gt1) pt<|V' (ZaP lk) pt<|mv' lki pt<|sn'<|Zao<|?_
 refine w_lp (ι:=Nat) (fun (i:Nat)=>[(3,.own (N+1) i i),(11,iv (i:Int)),(5,.any)]++rn' 12 9) (fun (i:Nat)=>[(1,.mk i 9 1 (rows strC ((z.map (·.1)).take i)))]) (fun (i:Nat)=>i≤z.length) (fun (i:Nat)=>z.length-i) (0) (by exact Nat.zero_le _) ?_
 rintro i hi1
 try simp only [sm',Nat.reduceAdd]
 replace hi1:i≤z.length:=hi1
 have htl:((z.map (·.1)).take i).length=i:=by rw [List.length_take,List.length_map];omega
 refine wr'<|V' (Zba lk lk) pt<|sn'<|Zam<|?_
 refine cd' lk (fun hc1=>?_) (fun hc1=>?_)
 ·have hi:i<z.length:=by omega
  have htk:(z.map (·.1)).take (i+1)=(z.map (·.1)).take i++[z[i].1]:=by rw [List.take_succ_eq_append_getElem (by simpa using hi)];simp
  refine Zae<|Zah<|Zam<|Zao<|wr'<|?_
  refine V' (ZaY lk lk Zcc (nb' rfl) ro (by omega) ro rfl) pt ?_
  refine V' (ZaK lk Zf3 rfl) pt<|E' (Za6 (hl2 hn) ha2) pt<|E' (Zal lk (cvl lk rfl) (hga hn rfl) rfl (nb' rfl) rfl Ze2 (hs2 hn)) ptn<|sn'<|Zas<|mv' lk pt<|V' (Zac lk) pt<|V' (Zab lk (hga hn rfl) gt0) pt<|E' (Zc5 (Zf6 (cvl lk rfl) rfl) (hl3 hn) ha3) pt<|?_
  refine E' (ZcD (Zct lk (hga hn rfl) rfl Zf4 (nb' rfl)) lk (hga hn rfl) ((Zd5 _).trans (by rw [htl])) (by omega) rfl (hs1 hn)) pt ?_
  refine mv' lk pt<|Zar<|Zaz<|Zah<|Zas<|?_
  refine V' (Zay lk lki (by omega) (by omega)) pt ?_
  refine mv' lk pt<|Zar<|ZaA<|?_
  refine lU' (i+1) (by (try dsimp only);omega) (by (try dsimp only);(try simp only [sm',Nat.reduceAdd]);exact bk' 2 hn hlt (by rw [htk,ZaS,Zjw];rfl))
 have hie:i=z.length:=by omega
 subst hie
 rw [show (z.map (·.1)).take z.length=z.map (·.1) from List.take_of_length_le (by simp)]
 refine ZaO<|ZaF<|ZaF<|Za7<|Zah<|Zam<|wr'<|V' (Zac lk) pt<|V' (Zab lk (hga hn rfl) gt2) pt<|V' (ZaP lk) pt<|mv' lki pt<|sn'<|?_
 refine Zao ?_
 refine ZgO (ι:=Nat) (fun (j:Nat)=>[(3,.own (N+1) (z.length+j) (z.length+j)),(24,iv (j:Int)),(7,.any)]++rn' 25 9) (fun (j:Nat)=>[(1,.mk (z.length+j) 9 1 (rows strC (z.map (·.1)++(k.map (·.2)).take j)))]) (fun (j:Nat)=>j≤k.length) (fun (j:Nat)=>k.length-j) (0) (by exact Nat.zero_le _) (by try simp only [sm',Nat.reduceAdd];exact ALe.same wA' (by rw [List.take_zero,List.append_nil];rfl)) ?_
 rintro j hi2
 try simp only [sm',Nat.reduceAdd]
 replace hi2:j≤k.length:=hi2
 have htl2:(z.map (·.1)++(k.map (·.2)).take j).length=z.length+j:=by rw [List.length_append,List.length_map,List.length_take,List.length_map];omega
 refine wr'<|V' (Zba lk lk) pt<|sn'<|Zam<|?_
 refine cd' lk (fun hc2=>?_) (fun hc2=>?_)
 ·have hj:j<k.length:=by omega
  have htk2:(k.map (·.2)).take (j+1)=(k.map (·.2)).take j++[k[j].2]:=by rw [List.take_succ_eq_append_getElem (by simpa using hj)];simp
  refine Zae<|Zah<|Zam<|Zao<|wr'<|?_
  refine V' (ZaY lk lk ZcT (nb' rfl) ro (by omega) ro rfl) pt ?_
  refine V' (ZaK lk Zf3 rfl) pt<|E' (Za6 (hl2 hn) ha2) pt<|E' (Zal lk (cvl lk rfl) (hga hn rfl) rfl (nb' rfl) rfl Ze2 (hs2 hn)) ptn<|sn'<|Zas<|mv' lk pt<|V' (Zac lk) pt<|V' (Zab lk (hga hn rfl) gt1) pt<|E' (Zc5 (Zf5 (cvl lk rfl) rfl) (hl3 hn) ha3) pt<|?_
  refine E' (ZcD (Zct lk (hga hn rfl) rfl Zf4 (nb' rfl)) lk (hga hn rfl) ((Zd5 _).trans (by rw [htl2])) (by omega) rfl (hs1 hn)) pt ?_
  refine mv' lk pt<|Zar<|Zaz<|Zah<|Zas<|?_
  refine V' (Zay lk lki (by omega) (by omega)) pt ?_
  refine mv' lk pt<|Zar<|ZaA<|?_
  refine lU' (j+1) (by (try dsimp only);omega) (by (try dsimp only);(try simp only [sm',Nat.reduceAdd]);exact bk' 2 hn hlt (by simp only [htk2,ZaS,Zjw,List.append_assoc];rfl))
 have hje:j=k.length:=by omega
 subst hje
 rw [show (k.map (·.2)).take k.length=k.map (·.2) from List.take_of_length_le (by simp)]
 refine ZaO<|ZaF<|ZaF<|Za7<|Zah<|wr'<|mv' lk pt<|mv' lk pt<|sn'<|Zaa<|Zaf rz<|?_
 rw [←hq,hnl,hn];exact ⟨rfl,rfl⟩
theorem names_q {a:List Rul}{z:List Zon}{k:List Lnk}{h:AH}(hz:z.length≤20) (hk:k.length≤20):Ac 210 [.agg (srcB a z k)] h (.sl (ZcX z k).length 1 false (rows strC (ZcX z k))):=by
 have hnl:=Zgp z k
 have hkk:=hk
 refine tW' k210 fun N hn hlt hlA hbd=>?_
 simp only [tb'] at hbd ⊢
 refine wr'<|E' (Zbj (cvl lk0 rfl) rfl (hl0 hn) ha0) pt1<|mv' lkn pt2<|sn'<|wr'<|mv' lkn pt3<|Zar<|Za8 (ALe.own0' (st':=1) (ty:=9) gt3 (hl1 hn) pt3 ha1)<|Zam<|wr'<|?_
 refine V' (Zac lk) pt<|V' (Zab lk (hga hn rfl) gt1) pt<|V' (ZaP lk) pt<|mv' lki pt<|sn'<|Zao<|?_
 refine w_lp (ι:=Nat) (fun (i:Nat)=>[(3,.own (N+1) i i),(11,iv (i:Int)),(5,.any)]++rn' 12 9) (fun (i:Nat)=>[(1,.mk i 9 1 (rows strC ((z.map (·.1)).take i)))]) (fun (i:Nat)=>i≤z.length) (fun (i:Nat)=>z.length-i) (0) (by exact Nat.zero_le _) ?_
 rintro i hi1
 try simp only [sm',Nat.reduceAdd]
 replace hi1:i≤z.length:=hi1
 have htl:((z.map (·.1)).take i).length=i:=by rw [List.length_take,List.length_map];omega
 refine wr'<|V' (Zba lk lk) pt<|sn'<|Zam<|?_
 refine cd' lk (fun hc1=>?_) (fun hc1=>?_)
 ·have hi:i<z.length:=by omega
  have htk:(z.map (·.1)).take (i+1)=(z.map (·.1)).take i++[z[i].1]:=by rw [List.take_succ_eq_append_getElem (by simpa using hi)];simp
  refine Zae<|Zah<|Zam<|Zao<|wr'<|?_
  refine V' (ZaY lk lk Zcc (nb' rfl) ro (by omega) ro rfl) pt ?_
  refine V' (ZaK lk Zf3 rfl) pt<|E' (Za6 (hl2 hn) ha2) pt<|E' (Zal lk (cvl lk rfl) (hga hn rfl) rfl (nb' rfl) rfl Ze2 (hs2 hn)) ptn<|sn'<|Zas<|mv' lk pt<|V' (Zac lk) pt<|V' (Zab lk (hga hn rfl) gt0) pt<|E' (Zc5 (Zf6 (cvl lk rfl) rfl) (hl3 hn) ha3) pt<|?_
  refine E' (ZcD (Zct lk (hga hn rfl) rfl Zf4 (nb' rfl)) lk (hga hn rfl) ((Zd5 _).trans (by rw [htl])) (by omega) rfl (hs1 hn)) pt ?_
  refine mv' lk pt<|Zar<|Zaz<|Zah<|Zas<|?_
  refine V' (Zay lk lki (by omega) (by omega)) pt ?_
  refine mv' lk pt<|Zar<|ZaA<|?_
  refine lU' (i+1) (by (try dsimp only);omega) (by (try dsimp only);(try simp only [sm',Nat.reduceAdd]);exact bk' 2 hn hlt (by rw [htk,ZaS,Zjw];rfl))
 have hie:i=z.length:=by omega
 subst hie
 rw [show (z.map (·.1)).take z.length=z.map (·.1) from List.take_of_length_le (by simp)]
 refine ZaO<|ZaF<|ZaF<|Za7<|Zah<|Zam<|wr'<|V' (Zac lk) pt<|V' (Zab lk (hga hn rfl) gt2) pt<|V' (ZaP lk) pt<|mv' lki pt<|sn'<|?_
 refine Zao ?_
 refine ZgO (ι:=Nat) (fun (j:Nat)=>[(3,.own (N+1) (z.length+j) (z.length+j)),(24,iv (j:Int)),(7,.any)]++rn' 25 9) (fun (j:Nat)=>[(1,.mk (z.length+j) 9 1 (rows strC (z.map (·.1)++(k.map (·.2)).take j)))]) (fun (j:Nat)=>j≤k.length) (fun (j:Nat)=>k.length-j) (0) (by exact Nat.zero_le _) (by try simp only [sm',Nat.reduceAdd];exact ALe.same wA' (by rw [List.take_zero,List.append_nil];rfl)) ?_
 rintro j hi2
 try simp only [sm',Nat.reduceAdd]
 replace hi2:j≤k.length:=hi2
 have htl2:(z.map (·.1)++(k.map (·.2)).take j).length=z.length+j:=by rw [List.length_append,List.length_map,List.length_take,List.length_map];omega
 refine wr'<|V' (Zba lk lk) pt<|sn'<|Zam<|?_
 refine cd' lk (fun hc2=>?_) (fun hc2=>?_)
 ·have hj:j<k.length:=by omega
  have htk2:(k.map (·.2)).take (j+1)=(k.map (·.2)).take j++[k[j].2]:=by rw [List.take_succ_eq_append_getElem (by simpa using hj)];simp
  refine Zae<|Zah<|Zam<|Zao<|wr'<|?_
  refine V' (ZaY lk lk ZcT (nb' rfl) ro (by omega) ro rfl) pt ?_
  refine V' (ZaK lk Zf3 rfl) pt<|E' (Za6 (hl2 hn) ha2) pt<|E' (Zal lk (cvl lk rfl) (hga hn rfl) rfl (nb' rfl) rfl Ze2 (hs2 hn)) ptn<|sn'<|Zas<|mv' lk pt<|V' (Zac lk) pt<|V' (Zab lk (hga hn rfl) gt1) pt<|E' (Zc5 (Zf5 (cvl lk rfl) rfl) (hl3 hn) ha3) pt<|?_
  refine E' (ZcD (Zct lk (hga hn rfl) rfl Zf4 (nb' rfl)) lk (hga hn rfl) ((Zd5 _).trans (by rw [htl2])) (by omega) rfl (hs1 hn)) pt ?_
  refine mv' lk pt<|Zar<|Zaz<|Zah<|Zas<|?_
  refine V' (Zay lk lki (by omega) (by omega)) pt ?_
  refine mv' lk pt<|Zar<|ZaA<|?_
  refine lU' (j+1) (by (try dsimp only);omega) (by (try dsimp only);(try simp only [sm',Nat.reduceAdd]);exact bk' 2 hn hlt (by simp only [htk2,ZaS,Zjw,List.append_assoc];rfl))
 have hje:j=k.length:=by omega
 subst hje
 rw [show (k.map (·.2)).take k.length=k.map (·.2) from List.take_of_length_le (by simp)]
 refine ZaO<|ZaF<|ZaF<|Za7<|?_
 refine Za8 (ALe.iceR (hga hn rfl) gt3 (List.take_of_length_le (by rw [Zd5];simp)) (by rw [Zd5];simp) pt3 (hs1 hn)) ?_
 refine wr'<|mv' lk pt<|mv' lk pt<|sn'<|Zaa<|Zaf rz<|rtW'<|?_
 rw [hnl];exact Wk.full
theorem twice_a {a:List Rul}{z:List Zon}{k:List Lnk}{h:AH}(hz:z.length≤20) (hk:k.length≤20):Ac 133 [.agg (srcB a z k)] h (bv (decide (¬(ZcX z k).Nodup))):=by
 have hnl:=Zgp z k
 have hsl:=ZpA (ZcX z k)
 refine tU' k133 fun N hn hlt hlA hbd=>?_
 simp only [tb'] at hbd ⊢
 refine wr'<|E' (Zbj (cvl lk rfl) rfl (hl0 hn) ha0) pt<|mv' lkb pt<|Zar<|?_
 refine Za8 (ALe.icePtr (hga hn rfl) gt1 (by simp) pt1 (hs0 hn)) ?_
 refine wr'<|V' (ZaK lk Zlj rfl) pt<|?_
 refine s_callh mp ((names_o (q:=N+2) (by rw [hl1 hn]) hz hk).mono (fun x h' hh=>⟨hh.1,hh.2.trans (show _=h++[_,_,_] from List.append_assoc _ _ _)⟩)) pt ?_
 refine mv' lk pt<|sn'<|wr'<|mv' lk pt<|?_
 refine ZaL mp (ZlJ (hga hn rfl) (by omega)) (hs2 hn) pt ?_
 refine sn'<|Zam<|ZbP<|u_fr rfl (v_mv lk) pt<|?_
 refine ZcJ mp (hga hn rfl) (fun hU hUe=>(by have:=Zmh (h:=hU) (l:=Zd6 (ZcX z k)) hUe (by omega);rwa [hsl] at this)) nh (hs2 hn) pt ?_
 refine u_fr rfl (Zds lk) pt<|u_fr rfl (ZaK lk Zlj rfl) pt<|?_
 refine u_callF mp (fun hU=>names_q hz hk) pt ?_
 refine u_fr rfl (ZaP lk) pt<|u_fr rfl (Zba lk lk) pt<|u_fr rfl (v_mv lk) pt<|ZcI<|Zah<|Zaa<|Zaf rz<|rT'<|?_
 exact bvx (by rw [←Zpg];simp)
end Go.Proofs.YtlekejpogddndaaGreatDoor
end
section
namespace Go.Proofs.YtlekejpogddndaaGreatDoor
open Go.Ab Go.RowKit Civ
attribute [local simp] Zbi Zbu Zbk Zbp ZdC Zdz ZdM
section
theorem Zmy {a0 a1 a2 a3 a4 a5 a6 a7 a8 a9 c0 c1 c2 c3 c4 c5 c6 c7 c8 c9:AV}{l:List AV}:setCells (a0::a1::a2::a3::a4::a5::a6::a7::a8::a9::l) 0 [c0,c1,c2,c3,c4,c5,c6,c7,c8,c9]=c0::c1::c2::c3::c4::c5::c6::c7::c8::c9::l:=rfl
theorem Zdc {a0 c0:AV}{l:List AV}:setCells (a0::l) 0 [c0]=c0::l:=rfl
theorem Zf2 {a0 a1 a2:AV}{l:List AV}:(a0::a1::a2::l).take 3=[a0,a1,a2]:=rfl
end
def c65p:AC:=(.seq (.reg [⟨(some 1),none,(.box 26 3 (.tmp 0))⟩,⟨(some 2),none,(.new 30 1 [(.v (.int .i64 0))])⟩]) (.seq (.reg [⟨(some 7),none,(.load true 3 (.tmp 1))⟩,⟨(some 8),none,(.call (.func 132) [(.tmp 7)])⟩,⟨(some 3),none,(.mv (.tmp 8))⟩]) (.seq (.block 0 (.seq (.reg [⟨(some 10),none,(.mv (.tmp 3))⟩,⟨(some 11),none,(.bin .neq (.tmp 10) (.const (.int .i64 0)))⟩,⟨(some 9),none,(.mv (.tmp 11))⟩]) (.cond (.tmp 9) (.seq (.reg [⟨(some 12),none,(.mv (.tmp 3))⟩,⟨none,none,(.store 1 (.tmp 2) (.tmp 12))⟩]) .ret) (.seq (.reg [⟨(some 14),none,(.load true 3 (.tmp 1))⟩,⟨(some 15),none,(.call (.func 133) [(.tmp 14)])⟩,⟨(some 13),none,(.mv (.tmp 15))⟩]) (.cond (.tmp 13) (.seq (.reg [⟨none,none,(.store 1 (.tmp 2) (.const (.int .i64 6)))⟩]) .ret) (.seq (.reg [⟨(some 17),none,(.load true 3 (.tmp 1))⟩,⟨(some 18),none,(.call (.func 134) [(.tmp 17)])⟩,⟨(some 16),none,(.mv (.tmp 18))⟩]) (.cond (.tmp 16) (.seq (.reg [⟨none,none,(.store 1 (.tmp 2) (.const (.int .i64 5)))⟩]) .ret) .skip))))))) (.seq (.reg [⟨(some 19),none,(.load true 3 (.tmp 1))⟩,⟨(some 20),none,(.call (.func 135) [(.tmp 19)])⟩]) .skip))))
def c65a:AC:=(.reg [⟨(some 4),none,(.new 63 10 [(.v (.int .i64 0)),(.v (.string ⟨#[]⟩)),(.v (.int .i64 0)),(.v (.string ⟨#[]⟩)),(.v (.bool false)),(.v (.int .i64 0)),(.v (.int .i64 0)),(.v (.int .i64 0)),(.v (.int .i64 0)),(.v (.int .i64 0))])⟩,⟨none,none,(.store 10 (.tmp 4) (.tmp 21))⟩])
def c65b:AC:=(.block 2 (.seq (.seq (.reg [⟨(some 22),none,(.fa 1 (.tmp 4))⟩,⟨(some 23),none,(.load false 1 (.tmp 22))⟩,⟨(some 24),none,(.bin .eql (.tmp 23) (.const (.string ⟨#[]⟩)))⟩]) (.cond (.tmp 24) (.exit 2) .skip)) (.seq (.reg [⟨(some 26),none,(.fa 0 (.tmp 1))⟩,⟨(some 27),none,(.load false 1 (.tmp 26))⟩,⟨(some 28),none,(.fa 1 (.tmp 4))⟩,⟨(some 29),none,(.load false 1 (.tmp 28))⟩,⟨(some 30),none,(.fa 0 (.tmp 4))⟩,⟨(some 31),none,(.load false 1 (.tmp 30))⟩,⟨(some 32),none,(.call (.func 31) [(.tmp 27),(.tmp 29),(.tmp 31)])⟩,⟨(some 25),none,(.mv (.tmp 32))⟩,⟨(some 33),none,(.ext (.tmp 25) 0)⟩,⟨(some 34),none,(.ext (.tmp 25) 1)⟩,⟨(some 5),none,(.mv (.tmp 33))⟩,⟨(some 6),none,(.mv (.tmp 34))⟩]) (.seq (.reg [⟨(some 35),none,(.mv (.tmp 6))⟩,⟨(some 36),none,(.bin .neq (.tmp 35) (.const (.int .i64 0)))⟩]) (.cond (.tmp 36) (.seq (.reg [⟨(some 37),none,(.mv (.tmp 6))⟩,⟨none,none,(.store 1 (.tmp 2) (.tmp 37))⟩]) .ret) .skip)))))
def c65q:AC:=(.seq (.reg [⟨(some 38),none,(.fa 1 (.tmp 1))⟩,⟨(some 39),none,(.load false 1 (.tmp 38))⟩,⟨(some 40),none,(.call (.func 136) [(.tmp 39),(.func 137)])⟩]) (.seq (.cond (.tmp 40) (.seq (.reg [⟨none,none,(.store 1 (.tmp 2) (.const (.int .i64 4)))⟩]) .ret) .skip) (.seq (.reg [⟨none,none,(.store 1 (.tmp 2) (.const (.int .i64 0)))⟩]) (.seq .ret .skip))))
abbrev fr65:AFR:=⟨[(.reg [⟨(some 1),none,(.box 26 3 (.tmp 0))⟩,⟨(some 2),none,(.new 30 1 [(.v (.int .i64 0))])⟩]),(.reg [⟨(some 7),none,(.load true 3 (.tmp 1))⟩,⟨(some 8),none,(.call (.func 132) [(.tmp 7)])⟩,⟨(some 3),none,(.mv (.tmp 8))⟩]),(.block 0 (.seq (.reg [⟨(some 10),none,(.mv (.tmp 3))⟩,⟨(some 11),none,(.bin .neq (.tmp 10) (.const (.int .i64 0)))⟩,⟨(some 9),none,(.mv (.tmp 11))⟩]) (.cond (.tmp 9) (.seq (.reg [⟨(some 12),none,(.mv (.tmp 3))⟩,⟨none,none,(.store 1 (.tmp 2) (.tmp 12))⟩]) .ret) (.seq (.reg [⟨(some 14),none,(.load true 3 (.tmp 1))⟩,⟨(some 15),none,(.call (.func 133) [(.tmp 14)])⟩,⟨(some 13),none,(.mv (.tmp 15))⟩]) (.cond (.tmp 13) (.seq (.reg [⟨none,none,(.store 1 (.tmp 2) (.const (.int .i64 6)))⟩]) .ret) (.seq (.reg [⟨(some 17),none,(.load true 3 (.tmp 1))⟩,⟨(some 18),none,(.call (.func 134) [(.tmp 17)])⟩,⟨(some 16),none,(.mv (.tmp 18))⟩]) (.cond (.tmp 16) (.seq (.reg [⟨none,none,(.store 1 (.tmp 2) (.const (.int .i64 5)))⟩]) .ret) .skip))))))),(.reg [⟨(some 19),none,(.load true 3 (.tmp 1))⟩,⟨(some 20),none,(.call (.func 135) [(.tmp 19)])⟩])],(.tmp 20),#[21],c65a,c65b,c65q,[(.cell 2 false 1)],41⟩
theorem k65:ZgY Tryz.prog 65=some fr65:=by kernel_rfl
def errX (a:List Rul) (x:Era):Int:=if xRl x=⟨#[]⟩ then 0 else (ZaW a (xRl x) (xSh x)).2
def Zb5 (s:Src):Int :=
 if ZbG s≠0 then ZbG s else if ¬(ZcX s.2.1 s.2.2).Nodup then 6 else if Zij s=true then 5
 else if Za0 (errX s.1) (ZcL s.2.1)≠0 then Za0 (errX s.1) (ZcL s.2.1)
 else if (s.2.1.any fun z=>!risL (ZbY z.2))=true then 4 else 0
theorem ZhM {p:Era→Int}{l:List Era}:Za0 p l=match l.find? (fun x=>decide (p x≠0)) with
  | none=>0
  | some x=>p x:=by
 induction l with
 | nil=>rfl
 | cons x l ih =>
  rw [Za0,List.find?_cons]
  by_cases h:p x≠0
  ·rw [if_pos h,decide_eq_true h]
  rw [if_neg h,decide_eq_false h];exact ih
theorem Zdo {s:Src}(h:ZbG s=0):s.1.length≤40∧s.2.1.length≤20∧s.2.2.length≤20∧(∀ z∈s.2.1,z.2.length≤8)∧(∀ r∈s.1,Zbm r=0)∧(∀ z∈s.2.1,Zeu z=0) ∧ ∀ l∈s.2.2,Zec l=0:=by
 unfold ZbG at h
 split at h
 ·cases h
 rename_i h1
 split at h
 ·rename_i h2;exact absurd h h2
 rename_i h2
 split at h
 ·rename_i h3;exact absurd h h3
 rename_i h3
 have h1:Zes s=false:=by simpa using h1
 unfold Zes at h1
 simp only [Bool.or_eq_false_iff,decide_eq_false_iff_not,List.any_eq_false,decide_eq_true_eq] at h1
 exact ⟨by omega,by omega,by omega,fun z hz=>by have:=h1.1.1.1 z hz;omega,Zc9 (Decidable.of_not_not h2),Zc9 (Decidable.of_not_not h3),Zc9 h⟩
theorem ZeV {s:Src}(h:ZbG s=0) {z:Zon}(hz:z∈s.2.1):okZ z.2:=by
 obtain ⟨_,_,_,h4,_,h6,_⟩:=Zdo h
 exact okZ_of (h6 z hz) (h4 z hz)
abbrev chkT (N:Nat) (a:List Rul) (z:List Zon) (k:List Lnk) (x:AV):List AV:=[.any,.rp (srcB a z k),.ptr (N+1) 0 0,.any,.any,.any,.any,.any,.any,.any,.any,.any,.any,.any,.any,.any,.any,.any,.any,.any,.clo (.func 217) [.rp (srcB a z k)],x,.any,.any,.any,.any,.any,.any,.any,.any,.any,.any,.any,.any,.any,.any,.any,.any,.any,.any,.any]
theorem chkT_lt {N:Nat}{a:List Rul}{z:List Zon}{k:List Lnk}:AV.ltL (N+4) (chkT N a z k .any)=true:=by simp [AV.ltL,AV.lt,Zbi,Zbk,Zbp]
theorem ZhS {h:AH}{lp N D:Nat}{rdy bsy fin:Obj}{a:List Rul}{z:List Zon}{k:List Lnk}{vs:List Value}(hn:h.length=N) (hlt : ∀ e∈h,e.lt N=true) (ha:a.length≤9223372036854775807) (hok:okRs a)
  (hY:Zke Tryz.prog fr65 (N+2+1) lp rdy bsy fin (chkT N a z k .any) vs) {x:Era} {e f:Ent} :
  AYield Tryz.prog lp [.agg (eraC x)] (ergJ h D lp 30 rdy (chkT N a z k .any) vs (iv 0) e f) fun r h''=>r=.ret (.v (.bool (!decide (errX a x≠0))))∧h''=ergJ h D lp 30 (if errX a x≠0 then fin else rdy) (chkT N a z k .any) vs (iv (errX a x)) e f:=by
 refine y_go hY (hga (k:=3) hn rfl) rfl fun n0 hn0 hlt0 q1 q2 q3=>?_
 have hm:n0=N+6:=by rw [←hn0];simp [hn]
 have hE:=hlt0 e (by simp)
 have hF:=hlt0 f (by simp)
 have hR:=hlt0 (.raw lp rdy (chkT N a z k .any) vs) (by simp)
 show aw _ _ c65a _ _ _
 show aw _ _ _ _ (chkT N a z k (.agg (eraC x))) (h++[.gone,.mk 0 30 1 [iv 0],mkD D,.raw lp rdy (chkT N a z k .any) vs,e,f])
 refine Zas<|E' (Za6 (hl6 hn) ha6) pt<|E' (Zal lk (cvl lk rfl) (hga hn rfl) rfl (nb' rfl) rfl Zmy (hs6 hn)) ptn<|Zar<|?_
 refine Zq3 (i:=N+3) (hga hn rfl) (hs3 hn) fun n1 hn1 hlt1=>?_
 have hro : ∀ o:Obj,Ent.lt n0 (.raw lp o (chkT N a z k .any) vs)=true:=fun o=>by simpa [Ent.lt] using hR
 have fin2 : ∀ (n:Int) (b:Bool) (o:Obj) (E:Ent),n=errX a x→b=!decide (errX a x≠0)→o=(if errX a x≠0 then fin else rdy) → ∃ y z',h++[.gone,.mk 0 30 1 [iv n],mkD D,.raw lp o (chkT N a z k .any) vs,e,f,E]=y++z'∧y.length=n0∧(∀ e∈y,e.lt n0=true)∧(AE.ret (.v (.bool b))).lt n0=true∧AE.ret (.v (.bool b))=.ret (.v (.bool (!decide (errX a x≠0))))∧y=ergJ h D lp 30 (if errX a x≠0 then fin else rdy) (chkT N a z k .any) vs (iv (errX a x)) e f:=by
  rintro n b o E rfl rfl rfl
  refine ⟨_,_,app61,by rw [←hn0];simp,fun y hy=>?_,rfl,rfl,rfl⟩
  rcases List.mem_append.1 hy with hy | hy
  ·exact ltw (by omega) hlt y hy
  simp only [List.mem_cons,List.not_mem_nil,or_false] at hy
  rcases hy with rfl | rfl | rfl | rfl | rfl | rfl
  ·simp [Ent.lt]
  ·simp [Ent.lt,AV.ltL,AV.lt]
  ·simp [Ent.lt,AV.ltL]
  ·exact hro _
  ·exact hE
  exact hF
 show aw _ _ c65b _ _ _
 refine Zao<|Zam<|wr'<|V' (Zac lk) pt<|V' (Zab lk (hga hn rfl) gt1) pt<|V' (Zcj lk lks) pt<|sn'<|?_
 refine cd' lk (fun hc1=>?_) (fun hc1=>?_)
 ·have hP:errX a x=0:=if_pos hc1
  refine ZaO<|ZaF<|Za7<|?_
  exact ZhW (i:=N+3) (hga hn rfl) (hs3 hn) (fin2 0 true rdy _ hP.symm (by rw [hP];rfl) (by rw [hP];rfl))
 have hP:errX a x=(ZaW a (xRl x) (xSh x)).2:=if_neg hc1
 refine Zae<|Zah<|wr'<|V' (Zbz lk dp0) pt<|V' (ZaB lk gt) pt<|V' (Zac lk) pt<|V' (Zab lk (hga hn rfl) gt1) pt<|V' (Zac lk) pt<|V' (Zab lk (hga hn rfl) gt0) pt<|Zad mp (Zpp hok ha) pt<|mv' lk pt<|V' (Za3 lk gt) pt<|V' (Za3 lk gt) pt<|?_
 refine mv' lk pt<|mv' lk pt<|sn'<|wr'<|mv' lk pt<|V' (Za1 lk lki) pt<|sn'<|?_
 refine cd' lk (fun hc2=>?_) (fun hc2=>?_)
 ·have hP2:errX a x≠0:=by rw [hP];exact hc2
  refine wr'<|mv' lk pt<|E' (Zal lk (cvl lk rfl) (hga hn rfl) rfl (nb' rfl) rfl Zdc (hs1 hn)) ptn<|sn'<|Zaa<|Zap<|?_
  refine ZnD (i:=N+3) (hga hn rfl) (hs3 hn) (fin2 _ false fin _ hP.symm (by rw [decide_eq_true hP2];rfl) (by rw [if_pos hP2]))
 have hP2:errX a x=0:=by rw [hP];exact Decidable.of_not_not hc2
 refine Zae<|Zaz<|?_
 exact ZhW (i:=N+3) (hga hn rfl) (hs3 hn) (fin2 0 true rdy _ hP2.symm (by rw [hP2];rfl) (by rw [hP2];rfl))
theorem Zom {h:AH}{lp N D:Nat}{rdy bsy fin:Obj}{a:List Rul}{z:List Zon}{k:List Lnk}{vs:List Value}(hn:h.length=N) (hlt : ∀ e∈h,e.lt N=true) (hok:okRs a) (hc:ZbG (a,z,k)=0)
    (hY:Zke Tryz.prog fr65 (N+2+1) lp rdy bsy fin (chkT N a z k .any) vs) (hnd:(ZcX z k).Nodup) (hms:Zij (a,z,k)=false) {R:AE→AH→Prop} (hR:R=fun x h' => ∃ z',h'=h++z'∧x.lt N=true∧x=.ret (iv (Zb5 (a,z,k)))) :
    ACalls Tryz.prog 217 (.v (.func (.yield lp) #[] #[])::[.rp (srcB a z k)]) (ergH h D lp 30 rdy (chkT N a z k .any) vs (iv 0)) fun r h3=>(∃ c,r=.ret c) ∧
      ((h3[N+2+1]?=some (.raw lp rdy (chkT N a z k .any) vs) ∧ ∀ n0,(h3.set (N+2+1) .gone).length=n0→(∀ e∈h3.set (N+2+1) .gone,e.lt n0=true)→aw Tryz.prog n0 fr65.post (ZeA fr65.res (N+2) D R) (chkT N a z k .any) (h3.set (N+2+1) .gone)) ∨
       (h3[N+2+1]?=some (.raw lp fin (chkT N a z k .any) vs)∧ZeA fr65.res (N+2) D R .ret (chkT N a z k .any) (h3.set (N+2+1) .gone))):=by
  obtain ⟨q1,q2,q3,q4,q5,q6,q7⟩:=Zdo hc
  simp only at q1 q2 q3 q4 q5 q6 q7
  have hZ:Zb5 (a,z,k)=if Za0 (errX a) (ZcL z)≠0 then Za0 (errX a) (ZcL z) else if (z.any fun z=>!risL (ZbY z.2))=true then 4 else 0:=by
    unfold Zb5
    rw [if_neg (by rw [hc];simp),if_neg (by simpa using hnd),if_neg (by rw [hms];simp)]
  refine (ZqI (h:=ergH h D lp 30 rdy (chkT N a z k .any) vs (iv 0)) (p:=fun x=>decide (errX a x≠0)) (hS:=fun x=>ergH h D lp 30 fin (chkT N a z k .any) vs (iv (errX a x))) q2 q4 (fun _=>(hl4 hn).trans (hl4 hn).symm) (fun _=>by rw [hl4 hn];exact ZqH hlt chkT_lt rfl) (fun x _ e f hp=>?_) (fun x _ e f hp=>?_)).mono ?_
  · have hp':errX a x=0:=by simpa using hp
    have:=ZhS (e:=e) (f:=f) (D:=D) (x:=x) hn hlt (by omega) hok hY
    rw [hp'] at this
    rw [Zgv]
    exact this
  · have hp':errX a x≠0:=by simpa using hp
    have:=ZhS (e:=e) (f:=f) (D:=D) (x:=x) hn hlt (by omega) hok hY
    rw [if_pos hp',decide_eq_true hp'] at this
    rw [Zgv,Zgv]
    exact this
  rintro x h3 ⟨rfl,rfl⟩
  refine ⟨⟨_,rfl⟩,?_⟩
  rw [ZhM] at hZ
  subst hR
  cases hf:(ZcL z).find? (fun x=>decide (errX a x≠0)) with
  | none =>
    rw [hf] at hZ
    simp only [ne_eq,not_true_eq_false,if_false] at hZ
    refine .inl ⟨hga (k:=3) hn rfl,fun n0 hn0 _=>?_⟩
    have hs:(ergH h D lp 30 rdy (chkT N a z k .any) vs (iv 0)).set (N+2+1) .gone=h++[.gone,.mk 0 30 1 [iv 0],mkD D,.gone]:=hs3 hn
    show aw _ _ _ _ _ ((ergH h D lp 30 rdy (chkT N a z k .any) vs (iv 0)).set (N+2+1) .gone)
    rw [hs]
    show aw _ _ c65q _ _ _
    refine wr'<|V' (Zbz lk dp1) pt<|V' (ZaB lk gt) pt<|?_
    refine Zad mp (Zqu (p:=fun z:Zon=>!risL (ZbY z.2)) (fun c hc' _=>check1_a (ZeV (s:=(a,z,k)) hc hc')) (by omega)) pt ?_
    refine sn'<|Zam<|?_
    refine Zau lk (fun hc1=>?_) (fun hc1=>?_)
    · rw [if_pos hc1] at hZ
      refine wr'<|E' (Zal lk (cvl lki rfl) (hga hn rfl) rfl (nb' rfl) rfl Zdc (hs1 hn)) ptn<|sn'<|Zaa<|Zai<|?_
      refine Zdy (hga hn rfl) (hs2 hn) (rs1 (rr_c gt (hga hn rfl) (ld0 gt))) ?_
      refine rT' ?_
      rw [hZ]
    rw [if_neg (by rw [hc1];simp)] at hZ
    refine Zae<|Zah<|wr'<|E' (Zal lk (cvl lki rfl) (hga hn rfl) rfl (nb' rfl) rfl Zdc (hs1 hn)) ptn<|sn'<|Zam<|Zaa<|Zai<|?_
    refine Zdy (hga hn rfl) (hs2 hn) (rs1 (rr_c gt (hga hn rfl) (ld0 gt))) ?_
    refine rT' ?_
    rw [hZ]
  | some x =>
    rw [hf] at hZ
    have hx:errX a x≠0:=by have:=List.find?_some hf;simpa using this
    simp only at hZ
    rw [if_pos hx] at hZ
    refine .inr ⟨hga (k:=3) hn rfl,?_⟩
    have hs:(ergH h D lp 30 fin (chkT N a z k .any) vs (iv (errX a x))).set (N+2+1) .gone=h++[.gone,.mk 0 30 1 [iv (errX a x)],mkD D,.gone]:=hs3 hn
    show ZeA _ _ _ _ _ _ ((ergH h D lp 30 fin (chkT N a z k .any) vs (iv (errX a x))).set (N+2+1) .gone)
    rw [hs]
    exact Zdy (hga (k:=2) hn rfl) (hs2 hn) (rs1 (rr_c gt (hga (k:=1) hn rfl) (ld0 gt))) (rT' (by rw [hZ]))
theorem Zp4 {s:Src}(h:Zdk s):okRs s.1:=fun r hr=>h.1 r hr
theorem ZmI {a:List Rul}{z:List Zon}{k:List Lnk}{h:AH}(hok:Zdk (a,z,k)):Ac 65 [.agg (srcB a z k)] h (iv (Zb5 (a,z,k))):=by
 refine tR' k65 fun N hn hlt hlA hbd=>?_
 show aw _ _ c65p _ _ _
 show aw _ _ _ _ [.agg (srcB a z k),.any,.any,.any,.any,.any,.any,.any,.any,.any,.any,.any,.any,.any,.any,.any,.any,.any,.any,.any,.any,.any,.any,.any,.any,.any,.any,.any,.any,.any,.any,.any,.any,.any,.any,.any,.any,.any,.any,.any,.any] _
 refine wr'<|E' (Zbj (cvl lk rfl) rfl (hl0 hn) ha0) pt<|E' (Za6 (hl1 hn) ha1) pt<|Zar<|?_
 refine Za8 (ALe.icePtr (hga hn rfl) gt1 (by simp) pt1 (hs0 hn)) ?_
 refine wr'<|V' (ZaK lk Zf2 rfl) pt<|Zad mp (scheck_b hok) pt<|mv' lk pt<|sn'<|Zam<|Zao<|wr'<|mv' lk pt<|V' (Za1 lk lki) pt<|mv' lk pt<|?_
 refine sn' ?_
 refine cd' lk (fun hc1=>?_) (fun hc1=>?_)
 ·have hZ:Zb5 (a,z,k)=ZbG (a,z,k):=if_pos hc1
  refine wr'<|mv' lk pt<|E' (Zal lk (cvl lk rfl) (hga hn rfl) rfl (nb' rfl) rfl Zdc (hs1 hn)) ptn<|sn'<|Zaa<|Zap<|Zai<|?_
  refine ZhC (rs1 (rr_c gt (hga hn rfl) (ld0 gt))) ?_
  refine rT' ?_
  rw [hZ]
 have hc:ZbG (a,z,k)=0:=Decidable.of_not_not hc1
 obtain ⟨q1,q2,q3,q4,q5,q6,q7⟩:=Zdo hc
 simp only at q1 q2 q3 q4 q5 q6 q7
 refine wr'<|V' (ZaK lk Zf2 rfl) pt<|Zad mp (twice_a q2 q3) pt<|mv' lk pt<|sn'<|?_
 refine Zau lk (fun hc2=>?_) (fun hc2=>?_)
 ·have hZ:Zb5 (a,z,k)=6:=by unfold Zb5;rw [if_neg hc1,if_pos (of_decide_eq_true hc2)]
  refine wr'<|E' (Zal lk (cvl lki rfl) (hga hn rfl) rfl (nb' rfl) rfl Zdc (hs1 hn)) ptn<|sn'<|Zaa<|Zap<|Zai<|?_
  refine ZhC (rs1 (rr_c gt (hga hn rfl) (ld0 gt))) ?_
  refine rT' ?_
  rw [hZ]
 have hnd:(ZcX z k).Nodup:=Decidable.of_not_not (of_decide_eq_false hc2)
 refine wr'<|V' (ZaK lk Zf2 rfl) pt<|?_
 refine Zad mp (Zqd (by omega) q2 q4 (by omega)) pt ?_
 refine mv' lk pt<|sn'<|?_
 refine Zau lk (fun hc3=>?_) (fun hc3=>?_)
 ·have hZ:Zb5 (a,z,k)=5:=by unfold Zb5;rw [if_neg hc1,if_neg (by simpa using hnd),if_pos hc3]
  refine wr'<|E' (Zal lk (cvl lki rfl) (hga hn rfl) rfl (nb' rfl) rfl Zdc (hs1 hn)) ptn<|sn'<|Zaa<|Zap<|Zai<|?_
  refine ZhC (rs1 (rr_c gt (hga hn rfl) (ld0 gt))) ?_
  refine rT' ?_
  rw [hZ]
 refine Zae<|Zaz<|Zah<|wr'<|V' (ZaK lk Zf2 rfl) pt<|Zad mp (eras_a) pt<|sn'<|Zae<|?_
 refine ZpX (T1:=chkT N a z k .any) (ALe.same wA' rfl) rfl (hl2 hn) fun lp D rdy bsy fin vs hle hlT hY=>?_
 have hgo:=Zom (D:=D) hn hlt (Zp4 hok) hc hY hnd hc3 rfl
 rw [show (h++[Ent.gone,Ent.mk 0 30 1 [iv 0]]++[mkD D,Ent.raw lp rdy (chkT N a z k .any) vs]:AH)=ergH h D lp 30 rdy (chkT N a z k .any) vs (iv 0) by simp]
 exact hgo
end Go.Proofs.YtlekejpogddndaaGreatDoor
end
section
namespace Go.Proofs.YtlekejpogddndaaGreatDoor
open Go.Ab Go.RowKit Civ
attribute [local simp] Zbi Zbu Zbk Zbp ZdC Zdz ZdM
section
theorem Ze1 {a0 a1 a2:AV}{l:List AV}:((a0::a1::a2::l).drop 0).take 3=[a0,a1,a2]:=rfl
theorem Zmx {τ:Operand→AV}:Zat τ [] [(.v (.string ⟨#[]⟩)),(.sl 0 0 true [])]=some [(.v (.string ⟨#[]⟩)),(.sl 0 0 true [])]:=rfl
theorem Zdb {a0 a1 c0 c1:AV}{l:List AV}:setCells (a0::a1::l) 0 [c0,c1]=c0::c1::l:=rfl
theorem Zda {a0 a1:AV}{l:List AV}:((a0::a1::l).drop 0).take 2=[a0,a1]:=rfl
theorem Zli {τ:Operand→AV}:Zat τ [] [(.v (.string ⟨#[]⟩)),(.sl 0 0 true [])]=some [(.v (.string ⟨#[]⟩)),(.sl 0 0 true [])]:=rfl
theorem Zrd {a0 a1:AV}{l:List AV}:(a0::a1::l).take 2=[a0,a1]:=rfl
theorem Zoy {τ:Operand→AV}:Zat τ [] []=some []:=rfl
theorem Zox {a0 a1 c0:AV}{l:List AV}:setCells (a0::a1::l) 1 [c0]=a0::c0::l:=rfl
end
def c66:AC:=(Sr [Oo 2 (.box 26 3 (.tmp 0)),Oo 4 (.new 53 2 [Ss,(.sl 0 0 true [])]),Mc 5 0] (.seq (Sr [Oo 8 (.load true 3 (.tmp 2)),Cl 9 65 [(.tmp 8)],Mv 6 9] (Sr [Mv 10 6,Bc 11 .neq 10 0] (Cd 11 (Sr [Oo 12 (.build [Ss,(.sl 0 0 true [])] []),Mv 13 6,⟨none,none,(.store 2 (.tmp 4) (.tmp 12))⟩,Mv 5 13] .ret) .skip))) (Sr [Oo 14 (.load true 3 (.tmp 2)),Mv 15 1,Cl 16 139 [(.tmp 14),(.tmp 15)],Mv 7 16] (.seq (Sr [Mv 17 7,Bc 18 .lss 17 0] (Cd 18 (Sr [Oo 19 (.build [Ss,(.sl 0 0 true [])] []),⟨none,none,(.store 2 (.tmp 4) (.tmp 19))⟩,Mc 5 5] .ret) .skip)) (Sr [Fa 20 1 2,Ld 21 20,Mv 22 7,Oo 23 (.ia 2 (.tmp 21) (.tmp 22)),Oo 24 (.load true 2 (.tmp 23)),⟨none,none,(.store 2 (.tmp 4) (.tmp 24))⟩,Mc 5 0] .ret)))))
theorem k66:ZaD Tryz.prog 66=some ⟨c66,[(.cell 4 true 2),(.tmp 5)],25⟩:=by kernel_rfl
def c30:AC:=(Sr [Oo 2 (.box 26 3 (.tmp 0)),Oo 4 (.new 53 2 [Ss,(.sl 0 0 true [])]),Mc 5 0] (Sr [Oo 9 (.load true 3 (.tmp 2)),Mv 10 1,Cl 11 66 [(.tmp 9),(.tmp 10)],Mv 8 11,Ex 12 8 0,Ex 13 8 1,Oo 6 (.new 53 2 [Ss,(.sl 0 0 true [])]),⟨none,none,(.store 2 (.tmp 6) (.tmp 12))⟩,Mv 7 13] (Sr [Fa 14 1 6,Ld 15 14,Cl 16 85 [(.tmp 15)],Fa 17 1 6,Sc 17 16] (Sr [Oo 18 (.load true 2 (.tmp 6)),Mv 19 7,⟨none,none,(.store 2 (.tmp 4) (.tmp 18))⟩,Mv 5 19] .ret))))
theorem k30:ZaD Tryz.prog 30=some ⟨c30,[(.cell 4 true 2),(.tmp 5)],20⟩:=by kernel_rfl
def c64:AC:=(Sr [Oo 2 (.box 26 3 (.tmp 0)),Oo 4 (.mv (.const (.slice none 0 0))),Mc 5 0] (Sr [Oo 9 (.load true 3 (.tmp 2)),Mv 10 1,Cl 11 66 [(.tmp 9),(.tmp 10)],Mv 8 11,Ex 12 8 0,Ex 13 8 1,Oo 6 (.new 53 2 [Ss,(.sl 0 0 true [])]),⟨none,none,(.store 2 (.tmp 6) (.tmp 12))⟩,Mv 7 13] (.seq (Sr [Mv 14 7,Bc 15 .neq 14 0] (Cd 15 (Sr [Mv 16 7,Oo 4 (.mv (.const (.slice none 0 0))),Mv 5 16] .ret) .skip)) (Sr [Oo 17 (.load true 2 (.tmp 6)),Cl 18 131 [(.tmp 17)],Mv 4 18,Mc 5 0] .ret))))
theorem k64:ZaD Tryz.prog 64=some ⟨c64,[(.tmp 4),(.tmp 5)],19⟩:=by kernel_rfl
def c85:AC:=(Sr [Oo 2 (.mv (.const (.slice none 0 0)))] (.seq (Sr [Mv 3 0,Oo 4 (.eqn false (.tmp 3))] (Cd 4 (Sr [Oo 2 (.mv (.const (.slice none 0 0)))] .ret) .skip)) (Sr [Oo 5 (.lit 63 10 0 [] []),Mv 6 0,Oo 7 (.app 63 10 96 (.tmp 5) (.tmp 6)),Mv 2 7] .ret)))
theorem k85:ZaD Tryz.prog 85=some ⟨c85,[(.tmp 2)],8⟩:=by kernel_rfl
def zonO:Zon:=(⟨#[]⟩,[])
def tgtV (s:Src) (nm:ByteArray):ByteArray:=match s.2.2[s.2.2.findIdx fun l=>decide (l.2=nm)]? with
 | some l=>l.1
 | none=>nm
def ZbT (s:Src) (nm:ByteArray):Zon×Int :=
 if Zb5 s≠0 then (zonO,Zb5 s) else match s.2.1[s.2.1.findIdx fun z=>decide (z.1=tgtV s nm)]? with
 | some z=>(z,0)
 | none=>(zonO,5)
theorem Zof {s:Src}{nm:ByteArray}(h0:Zb5 s=0) (h:¬s.2.1.findIdx (fun z=>decide (z.1=tgtV s nm))<s.2.1.length):ZbT s nm=(zonO,5):=by
 unfold ZbT;rw [if_neg (by simp [h0]),List.getElem?_eq_none (Nat.le_of_not_lt h)]
theorem Zoe {s:Src}{nm:ByteArray}(h0:Zb5 s=0) (h:s.2.1.findIdx (fun z=>decide (z.1=tgtV s nm))<s.2.1.length):ZbT s nm=(s.2.1[s.2.1.findIdx fun z=>decide (z.1=tgtV s nm)],0):=by
 unfold ZbT;rw [if_neg (by simp [h0]),List.getElem?_eq_getElem h]
theorem Zpa {e:AV}:Wk (.tup [.agg [sv ⟨#[]⟩,.sl 0 0 true []],e]) (.tup [.agg (zonC zonO),e]):=Wk.tup (wkw (Wk.agg (wk1 rfl (wkw Wk.nilF wk0))) (wk1 rfl wk0))
theorem ZqF {a:List Rul}{z:List Zon}{k:List Lnk}{nm:ByteArray}{h:AH}(hok:Zdk (a,z,k)):Ac 66 [.agg (srcB a z k),sv nm] h (.tup [.agg (zonC (ZbT (a,z,k) nm).1),iv (ZbT (a,z,k) nm).2]):=by
 refine tW' k66 fun N hn hlt hlA hbd=>?_
 simp only [tb'] at hbd ⊢
 refine wr'<|E' (Zbj (cvl lk rfl) rfl (hl0 hn) ha0) pt<|E' (Za6 (hl1 hn) ha1) pt<|mv' lki pt<|sn'<|Zam<|wr'<|V' (Zaq lk (hga hn rfl) Ze1 rfl) pt<|Zad mp (ZmI hok) pt<|mv' lk pt<|Zar<|?_
 refine Zah<|wr'<|mv' lk pt<|V' (Za1 lk lki) pt<|sn'<|?_
 refine cd' lk (fun hc1=>?_) (fun hc1=>?_)
 ·have hF:ZbT (a,z,k) nm=(zonO,Zb5 (a,z,k)):=if_pos hc1
  refine wr'<|V' (Zax Zmx) pt<|mv' lk pt<|E' (Zal lk (cvl lk rfl) (hga hn rfl) rfl (nb' rfl) rfl Zdb (hs1 hn)) ptn<|mv' lk pt<|sn'<|Zaa<|Zai<|Zaf (rsn (rm1 (rr_c gt (hga hn rfl) (ld1 Zda rfl)) (rm1 (rr_t gt) rm0)))<|rtW'<|?_
  rw [hF];exact Zpa
 have hz0:Zb5 (a,z,k)=0:=Decidable.of_not_not hc1
 have hce:ZbG (a,z,k)=0:=by unfold Zb5 at hz0;split at hz0;(rename_i hh;exact absurd hz0 hh);(rename_i hh;exact Decidable.of_not_not hh)
 obtain ⟨q1,q2,q3,q4,q5,q6,q7⟩:=Zdo hce
 simp only at q1 q2 q3 q4 q5 q6 q7
 refine Zae<|Zah<|wr'<|V' (Zaq lk (hga hn rfl) Ze1 rfl) pt<|mv' lk pt<|?_
 refine Zad mp (look_a (by omega) (by omega)) pt ?_
 refine mv' lk pt<|sn'<|Zam<|wr'<|mv' lk pt<|V' (Zba lk lki) pt<|sn'<|?_
 refine cd' lk (fun hc2=>?_) (fun hc2=>?_)
 ·have hlt':¬z.findIdx (fun y:Zon=>decide (y.1=tgtV (a,z,k) nm))<z.length:=fun hh=>by have:Zn6 (a,z,k) nm=((z.findIdx fun y:Zon=>decide (y.1=tgtV (a,z,k) nm):Nat):Int):=if_pos hh;omega
  have hF:ZbT (a,z,k) nm=(zonO,5):=Zof hz0 hlt'
  refine wr'<|V' (Zax Zli) pt<|E' (Zal lk (cvl lk rfl) (hga hn rfl) rfl (nb' rfl) rfl Zdb (hs1 hn)) ptn<|mv' lki pt<|sn'<|Zaa<|Zai<|Zaf (rsn (rm1 (rr_c gt (hga hn rfl) (ld1 Zda rfl)) (rm1 (rr_t gt) rm0)))<|rtW'<|?_
  rw [hF];exact Zpa
 have hlt':z.findIdx (fun y:Zon=>decide (y.1=tgtV (a,z,k) nm))<z.length:=Decidable.byContradiction fun hh=>by have:Zn6 (a,z,k) nm = -1:=if_neg hh;omega
 have hix:Zn6 (a,z,k) nm=((z.findIdx fun y:Zon=>decide (y.1=tgtV (a,z,k) nm):Nat):Int):=if_pos hlt'
 have hF:ZbT (a,z,k) nm=(z[z.findIdx fun y:Zon=>decide (y.1=tgtV (a,z,k) nm)],0):=Zoe hz0 hlt'
 refine Zae<|Zah<|wr'<|V' (Zac lk) pt<|V' (Zab lk (hga hn rfl) gt1) pt<|mv' lk pt<|?_
 refine V' (ZaY lk lk (fun _=>rfl) (nb' rfl) ro (by omega) ro rfl) pt ?_
 refine V' (ZaK lk Zrd rfl) pt<|E' (Zal lk (cvl lk rfl) (hga hn rfl) rfl (nb' rfl) rfl Zdb (hs1 hn)) ptn<|mv' lki pt<|sn'<|Zaa<|Zaf (rsn (rm1 (rr_c gt (hga hn rfl) (ld1 Zda rfl)) (rm1 (rr_t gt) rm0)))<|rtW'<|?_
 rw [hF];exact Wk.refl _
theorem ZfV {s:Src}(h:Zb5 s=0):ZbG s=0:=by
 unfold Zb5 at h
 split at h
 ·rename_i hh;exact absurd h hh
 rename_i hh;exact Decidable.of_not_not hh
theorem Zgu {s:Src}{nm:ByteArray}(h:(ZbT s nm).2=0):Zb5 s=0∧(ZbT s nm).1∈s.2.1∧(ZbT s nm).1.1=tgtV s nm:=by
 unfold ZbT at h ⊢
 split at h
 ·rename_i h1;exact absurd h h1
 rename_i h1
 rw [if_neg h1]
 split at h
 ·rename_i z hz
  refine ⟨Decidable.of_not_not h1,List.mem_of_getElem? hz,?_⟩
  obtain ⟨hlt,rfl⟩:=List.getElem?_eq_some_iff.1 hz
  have:=List.findIdx_getElem (w:=hlt)
  simpa using this
 cases h
theorem Znr {s:Src}{nm:ByteArray}(h:(ZbT s nm).2≠0):(ZbT s nm).1=zonO:=by
 unfold ZbT at h ⊢
 split
 ·rfl
 rename_i h1
 rw [if_neg h1] at h
 split
 ·rename_i z hz;rw [hz] at h;exact absurd rfl h
 rfl
theorem Zgw {s:Src}(h:Zb5 s=0):ZbG s=0∧(ZcX s.2.1 s.2.2).Nodup∧Zij s=false∧(∀ x∈ZcL s.2.1,errX s.1 x=0) ∧ ∀ z∈s.2.1,risL (ZbY z.2)=true:=by
 have hE:=ZfV h
 unfold Zb5 at h
 rw [if_neg (by simp [hE])] at h
 split at h
 ·cases h
 rename_i h1
 split at h
 ·cases h
 rename_i h2
 split at h
 ·rename_i h3;exact absurd h h3
 rename_i h3
 split at h
 ·cases h
 rename_i h4
 refine ⟨hE,Decidable.of_not_not h1,by simpa using h2,Zc9 (Decidable.of_not_not h3),fun z hz=>?_⟩
 simp only [List.any_eq_true,not_exists,not_and,Bool.not_eq_true',Bool.not_eq_false] at h4
 exact h4 z hz
theorem cloneE_a {l:List Era}{full:Bool}{h:AH}(hl:l.length≤300000000000):ACalls Tryz.prog 85 [.sl l.length 10 full (rows eraC l)] h fun r h' => ∃ v,r=.ret (.own h.length v l.length)∧h'=h++[.mk v 63 10 (rows eraC l)]:=by
 refine tN' k85 fun N hn hlt hlA hbd=>?_
 simp only [tb'] at hbd ⊢
 refine wr'<|mv' lkn pt<|sn'<|Zam<|wr'<|mv' lk pt<|?_
 refine s_eqn lk (fun _=>pt) (fun bn3 hbn3=>?_)
 refine sn' ?_
 refine cd' lk (fun hc1=>?_) (fun hc1=>?_)
 ·refine wr'<|mv' lkn pt2<|Zar<|Za8 (ALe.own0 (d:=2) (st':=10) (ty:=63) rfl)<|Zaa<|Zai<|Zaf (rs1 (rr_t gt2))<|?_
  have h0:l=[]:=List.eq_nil_of_length_eq_zero ((Nat.eq_zero_or_pos _).resolve_right (fun e=>by have:=hbn3 e;rw [hc1] at this;cases this))
  subst h0
  exact ⟨0,by simp,by simp [rows]⟩
 refine Zae<|Zah<|wr'<|E' (Zc5 Zoy (hl0 hn) ha0) pt<|mv' lk pt<|?_
 refine E' (ZcD (ZjA lk (ZjU _)) lk (hga hn rfl) rfl (by omega) (era_leaf _) (hs0 hn)) pt ?_
 refine mv' lk pt<|sn'<|Zaa<|Zaf rz<|?_
 exact ⟨0+1,by simp [hn],by simp⟩
theorem ZqG {s:Src}{nm:ByteArray}:(ZbT s nm).1.2.length≤8:=by
 by_cases h:(ZbT s nm).2=0
 ·obtain ⟨h1,h2,_⟩:=Zgu h
  exact (Zdo (ZfV h1)).2.2.2.1 _ h2
 rw [Znr h];simp [zonO]
theorem zfind_a {a:List Rul}{z:List Zon}{k:List Lnk}{nm:ByteArray}{h:AH}(hok:Zdk (a,z,k)):Ac 30 [.agg (srcB a z k),sv nm] h (.tup [.agg (zonC (ZbT (a,z,k) nm).1),iv (ZbT (a,z,k) nm).2]):=by
 have hfl:=ZqG (s:=(a,z,k)) (nm:=nm)
 refine tW' k30 fun N hn hlt hlA hbd=>?_
 simp only [tb'] at hbd ⊢
 refine wr'<|E' (Zbj (cvl lk rfl) rfl (hl0 hn) ha0) pt<|E' (Za6 (hl1 hn) ha1) pt<|mv' lki pt<|sn'<|wr'<|V' (Zaq lk (hga hn rfl) Ze1 rfl) pt<|mv' lk pt<|Zad mp (ZqF hok) pt<|mv' lk pt<|V' (Za3 lk gt) pt<|?_
 refine V' (Za3 lk gt) pt<|E' (Za6 (hl2 hn) ha2) pt<|E' (Zal lk (cvl lk rfl) (hga hn rfl) rfl (nb' rfl) rfl Zdb (hs2 hn)) ptn<|mv' lk pt<|sn'<|wr'<|V' (Zac lk) pt<|V' (Zab lk (hga hn rfl) gt1) pt<|?_
 refine s_calla mp (cloneE_a (by omega)) (hl3 hn) (fun _=>ha3) (fun _=>pt) (fun va15=>?_)
 refine V' (Zac lk) pt<|E' (Zal lk (cvl lk rfl) (hga hn rfl) rfl (nb' rfl) rfl Zox (hs2 hn)) ptn<|Zar<|?_
 refine Za8 (ALe.iceCellR (hga hn rfl) (hga hn rfl) (by omega) gt1 (List.take_of_length_le (by rw [ZaX ZdB];first | exact Nat.le_refl _ | omega)) (by rw [ZaX ZdB];first | exact Nat.le_refl _ | omega) pt1 (hs3 hn) (hs2 hn)) ?_
 refine wr'<|V' (Zaq lk (hga hn rfl) Zda rfl) pt<|mv' lk pt<|E' (Zal lk (cvl lk rfl) (hga hn rfl) rfl (nb' rfl) rfl Zdb (hs1 hn)) ptn<|mv' lk pt<|sn'<|Zaa<|Zaf (rsn (rm1 (rr_c gt (hga hn rfl) (ld1 Zda rfl)) (rm1 (rr_t gt) rm0)))<|rtW'<|?_
 exact Wk.tup (wkw (Wk.agg (wk1 rfl (wkw Wk.full wk0))) (wk1 rfl wk0))
theorem wk_nil2 {e:AV}{c:Int→List AV}{st:Nat}:Wk (.tup [.sl 0 0 true [],e]) (.tup [.sl ([]:List Int).length st false (rows c []),e]):=Wk.tup (wkw Wk.nilF (wk1 rfl wk0))
theorem zends_a {a:List Rul}{z:List Zon}{k:List Lnk}{nm:ByteArray}{h:AH}(hok:Zdk (a,z,k)):Ac 64 [.agg (srcB a z k),sv nm] h (.tup [.sl (ZbY (ZbT (a,z,k) nm).1.2).length 1 false (rows intC (ZbY (ZbT (a,z,k) nm).1.2)),iv (ZbT (a,z,k) nm).2]):=by
 refine tW' k64 fun N hn hlt hlA hbd=>?_
 simp only [tb'] at hbd ⊢
 refine wr'<|E' (Zbj (cvl lk rfl) rfl (hl0 hn) ha0) pt<|mv' lkn pt<|mv' lki pt<|sn'<|wr'<|V' (Zaq lk (hga hn rfl) Ze1 rfl) pt<|mv' lk pt<|Zad mp (ZqF hok) pt<|mv' lk pt<|V' (Za3 lk gt) pt<|?_
 refine V' (Za3 lk gt) pt<|E' (Za6 (hl1 hn) ha1) pt<|E' (Zal lk (cvl lk rfl) (hga hn rfl) rfl (nb' rfl) rfl Zdb (hs1 hn)) ptn<|mv' lk pt<|sn'<|Zam<|wr'<|mv' lk pt<|V' (Za1 lk lki) pt<|sn'<|?_
 refine cd' lk (fun hc1=>?_) (fun hc1=>?_)
 ·have hb:=Znr hc1
  refine wr'<|mv' lk pt<|mv' lkn pt<|mv' lk pt<|sn'<|Zaa<|Zai<|Zaf ry<|rtW'<|?_
  rw [hb];exact wk_nil2
 obtain ⟨hz0,hm,_⟩:=Zgu (Decidable.of_not_not hc1)
 refine Zae<|Zah<|wr'<|V' (Zaq lk (hga hn rfl) Zda rfl) pt<|Zad mp (ZqK (ZeV (ZfV hz0) hm)) pt<|mv' lk pt<|mv' lki pt<|sn'<|Zaa<|Zaf ry<|rtW'<|?_
 rw [show (ZbT (a,z,k) nm).2=0 from Decidable.of_not_not hc1];exact Wk.refl _
theorem Zp1 : ∀ {l:List Trn}{sh sa:Int}{t:Tim},t∈outV sh sa l→(0≤sa∧sa≤10800)→(∀ u∈l,Zbm u.2=0) → ∃ u∈l,∃ sa',(0≤sa'∧sa'≤10800)∧t=timV sh sa' u
 | u::l,sh,sa,t,ht,hs,hr=>by
  rw [outV] at ht
  rcases List.mem_cons.1 ht with rfl | ht
  ·exact ⟨u,by simp,sa,hs,rfl⟩
  have h8:=(Zce (hr u (by simp))).2.2.2.2.2.2.2
  obtain ⟨v,hv,sa',h1,h2⟩:=Zp1 ht h8 fun x hx=>hr x (by simp [hx])
  exact ⟨v,by simp [hv],sa',h1,h2⟩
theorem ruleE_lt {r:Rul}(h:Zbm r=0):(rLt r).size≤24:=by
 unfold Zbm at h
 split at h
 ·cases h
 rename_i h1
 have:=(Decidable.of_not_not h1).2
 unfold Zcf at this
 simp only [Bool.and_eq_true,decide_eq_true_eq] at this
 exact this.1
theorem Zpo {l:List Rul}{nm:ByteArray}{sh:Int}{t:Tim}(ht:t∈(ZaW l nm sh).1):(-2600000000≤t.1∧t.1≤4330172800)∧(0≤t.2.1∧t.2.1≤10800)∧t.2.2.size≤24:=by
 unfold ZaW at ht
 split at ht
 ·cases ht
 rename_i h1
 split at ht
 ·cases ht
 split at ht
 ·cases ht
 obtain ⟨g1,g2,g3,_⟩:=ZfH (Decidable.of_not_not h1)
 have hm : ∀ u∈srtT (Za2 l nm),Zbm u.2=0 ∧ -2592000000≤u.1∧u.1≤4320172800:=fun u hu=>Zjp g2 ((Zjx _).mem_iff.1 hu)
 obtain ⟨u,hu,sa',hs,rfl⟩:=Zp1 ht (by omega) fun u hu=>(hm u hu).1
 obtain ⟨hr,hb1,hb2⟩:=hm u hu
 have ho:=Zp6 (r:=u.2) g3 hs
 obtain ⟨_,_,_,_,_,_,_,h8⟩:=Zce hr
 exact ⟨⟨by show -2600000000≤u.1-offV u.2 sh sa';omega,by show u.1-offV u.2 sh sa'≤4330172800;omega⟩,h8,ruleE_lt hr⟩
theorem Zhp {l:List Rul}{nm:ByteArray}{sh:Int}:(ZaW l nm sh).1.length≤1000:=by
 unfold ZaW
 split
 ·simp
 split
 ·simp
 split
 ·simp
 rw [ZfK,srt_len];omega
theorem Zp0 : ∀ {l:List Trn}{sh sa:Int},(-64800≤sh∧sh≤64800)→(0≤sa∧sa≤10800)→(∀ u∈l,Zbm u.2=0)→gapB l=false→(outV sh sa l).Pairwise fun a b=>a.1<b.1
 | [],_,_,_,_,_,_=>.nil
 | [u],_,_,_,_,_,_=>by simp [outV]
 | u::v::l,sh,sa,h1,h2,hr,hg=>by
  rw [ZfN,Bool.or_eq_false_iff] at hg
  have hu8:=(Zce (hr u (by simp))).2.2.2.2.2.2.2
  have ih:=Zp0 (l:=v::l) (sh:=sh) (sa:=rSv u.2) h1 hu8 (fun x hx=>hr x (by simp [hx])) hg.2
  rw [outV,List.pairwise_cons]
  refine ⟨fun t ht=>?_,ih⟩
  have hgap:172800≤v.1-u.1:=by have:=hg.1;simp only [decide_eq_false_iff_not] at this;omega
  have hfirst:(timV sh sa u).1<(timV sh (rSv u.2) v).1:=by
   show u.1-offV u.2 sh sa<v.1-offV v.2 sh (rSv u.2)
   unfold offV
   split <;> split <;> (try split) <;> (try split) <;> omega
  rw [outV] at ht
  rcases List.mem_cons.1 ht with rfl | ht
  ·exact hfirst
  rw [outV,List.pairwise_cons] at ih
  have:=ih.1 t ht
  omega
theorem Zpn {l:List Rul}{nm:ByteArray}{sh:Int}:(ZaW l nm sh).1.Pairwise fun a b=>a.1<b.1:=by
 unfold ZaW
 split
 ·exact .nil
 rename_i h1
 split
 ·exact .nil
 rename_i h2
 split
 ·exact .nil
 obtain ⟨g1,g2,g3,_⟩:=ZfH (Decidable.of_not_not h1)
 exact Zp0 g3 (by omega) (fun u hu=>(Zjp g2 ((Zjx _).mem_iff.1 hu)).1) (by simpa using h2)
theorem risT_all (rl:List Rul) (x:Era):risT rl x:=by
 unfold risT Zbn
 split
 ·exact .nil
 exact Zpn
theorem Ziw {rl:List Rul}{x:Era}:(Zbn rl x).length≤1000:=by
 unfold Zbn
 split
 ·simp
 exact Zhp
theorem Zl3 {fm:ByteArray}(h:ZbS fm=true):fm.size≤24:=by
 unfold ZbS at h
 split at h
 ·cases h
 rename_i h1;omega
end Go.Proofs.YtlekejpogddndaaGreatDoor
end
section
namespace Go.Proofs.YtlekejpogddndaaGreatDoor
open Go.Ab Go.RowKit Civ
attribute [local simp] Zbi Zbu Zbk Zbp ZdC Zdz ZdM
section
theorem Ze0 {a0 a1 a2 a3 a4 a5 a6 a7 a8 a9:AV}{l:List AV}:(a0::a1::a2::a3::a4::a5::a6::a7::a8::a9::l).take 10=[a0,a1,a2,a3,a4,a5,a6,a7,a8,a9]:=rfl
theorem Zmw {τ:Operand→AV}{y0:Operand}{x0_0:AV}(h0:Zav (τ y0)=some [x0_0]) (l0:[x0_0].all leaf=true):Zat τ [(1,1,y0)] [(.v (.int .i64 0)),(.v (.int .i64 0)),(.v (.string ⟨#[]⟩))]=some [(.v (.int .i64 0)),x0_0,(.v (.string ⟨#[]⟩))]:=by
 simp only [Zat,h0,l0]
 rfl
theorem Zmv {τ:Operand→AV}{y0 y1:Operand}{x0_0 x1_0 x1_1 x1_2:AV}(h0:Zav (τ y0)=some [x0_0]) (l0:[x0_0].all leaf=true) (h1:Zav (τ y1)=some [x1_0,x1_1,x1_2]) (l1:[x1_0,x1_1,x1_2].all leaf=true):Zat τ [(0,1,y0),(1,3,y1)] [(.v (.int .i64 0)),(.v (.int .i64 0)),(.v (.int .i64 0)),(.v (.string ⟨#[]⟩))]=some [x0_0,x1_0,x1_1,x1_2]:=by
 simp only [Zat,h0,l0,h1,l1]
 rfl
theorem Zmu {τ:Operand→AV}{y0:Operand}{x0_0 x0_1 x0_2 x0_3:AV}(h0:Zav (τ y0)=some [x0_0,x0_1,x0_2,x0_3]) (l0:[x0_0,x0_1,x0_2,x0_3].all leaf=true):Zat τ [(0,4,y0)] [(.v (.int .i64 0)),(.v (.int .i64 0)),(.v (.int .i64 0)),(.v (.string ⟨#[]⟩))]=some [x0_0,x0_1,x0_2,x0_3]:=by
 simp only [Zat,h0,l0]
 rfl
theorem Zmt {τ:Operand→AV}:Zat τ [] [(.v (.int .i64 0)),(.v (.int .i64 0)),(.v (.string ⟨#[]⟩))]=some [(.v (.int .i64 0)),(.v (.int .i64 0)),(.v (.string ⟨#[]⟩))]:=rfl
theorem Zms {τ:Operand→AV}{y0 y1:Operand}{x0_0 x1_0 x1_1 x1_2:AV}(h0:Zav (τ y0)=some [x0_0]) (l0:[x0_0].all leaf=true) (h1:Zav (τ y1)=some [x1_0,x1_1,x1_2]) (l1:[x1_0,x1_1,x1_2].all leaf=true):Zat τ [(0,1,y0),(1,3,y1)] [(.v (.int .i64 0)),(.v (.int .i64 0)),(.v (.int .i64 0)),(.v (.string ⟨#[]⟩))]=some [x0_0,x1_0,x1_1,x1_2]:=by
 simp only [Zat,h0,l0,h1,l1]
 rfl
theorem Zmr {τ:Operand→AV}{y0:Operand}{x0_0 x0_1 x0_2 x0_3:AV}(h0:Zav (τ y0)=some [x0_0,x0_1,x0_2,x0_3]) (l0:[x0_0,x0_1,x0_2,x0_3].all leaf=true):Zat τ [(0,4,y0)] [(.v (.int .i64 0)),(.v (.int .i64 0)),(.v (.int .i64 0)),(.v (.string ⟨#[]⟩))]=some [x0_0,x0_1,x0_2,x0_3]:=by
 simp only [Zat,h0,l0]
 rfl
theorem Zf1 {a0 a1 a2:AV}{l:List AV}:(a0::a1::a2::l).take 3=[a0,a1,a2]:=rfl
theorem Zd0 {a0 a1 a2 c0 c1 c2:AV}{l:List AV}:setCells (a0::a1::a2::l) 0 [c0,c1,c2]=c0::c1::c2::l:=rfl
theorem ZcQ {a0 a1 a2:AV}{l:List AV}:((a0::a1::a2::l).drop 0).take 3=[a0,a1,a2]:=rfl
theorem Zmq {τ:Operand→AV}{y0 y1:Operand}{x0_0 x1_0 x1_1 x1_2:AV}(h0:Zav (τ y0)=some [x0_0]) (l0:[x0_0].all leaf=true) (h1:Zav (τ y1)=some [x1_0,x1_1,x1_2]) (l1:[x1_0,x1_1,x1_2].all leaf=true):Zat τ [(0,1,y0),(1,3,y1)] [(.v (.int .i64 0)),(.v (.int .i64 0)),(.v (.int .i64 0)),(.v (.string ⟨#[]⟩))]=some [x0_0,x1_0,x1_1,x1_2]:=by
 simp only [Zat,h0,l0,h1,l1]
 rfl
theorem Zrc { e:Ent}:([]:AH)++[e]=[e]:=rfl
theorem Zov {e0 e1 e2 e3 d0:Ent}:([e0,e1,e2,e3]:AH)++[d0]=[e0,e1,e2,e3,d0]:=rfl
theorem Zot {a0 a1 a2 a3 c0 c1 c2 c3:AV}{l:List AV}:setCells (a0::a1::a2::a3::l) 0 [c0,c1,c2,c3]=c0::c1::c2::c3::l:=rfl
theorem Zi7 {a0 a1 a2 a3:AV}{l:List AV}:((a0::a1::a2::a3::l).drop 0).take 4=[a0,a1,a2,a3]:=rfl
theorem Zmp {τ:Operand→AV}{y0:Operand}{x0_0 x0_1 x0_2 x0_3:AV}(h0:Zav (τ y0)=some [x0_0,x0_1,x0_2,x0_3]) (l0:[x0_0,x0_1,x0_2,x0_3].all leaf=true):Zat τ [(0,4,y0)] [(.v (.int .i64 0)),(.v (.int .i64 0)),(.v (.int .i64 0)),(.v (.string ⟨#[]⟩))]=some [x0_0,x0_1,x0_2,x0_3]:=by
 simp only [Zat,h0,l0]
 rfl
theorem Zra {a0 a1 a2 a3:AV}{l:List AV}:(a0::a1::a2::a3::l).take 4=[a0,a1,a2,a3]:=rfl
theorem Zrb {a0 a1:AV}{l:List AV}:(a0::a1::l).take 2=[a0,a1]:=rfl
theorem Zmo {a0 a1 a2 a3 a4 a5 a6 a7 a8 a9 c0 c1 c2 c3 c4 c5 c6 c7 c8 c9:AV}{l:List AV}:setCells (a0::a1::a2::a3::a4::a5::a6::a7::a8::a9::l) 0 [c0,c1,c2,c3,c4,c5,c6,c7,c8,c9]=c0::c1::c2::c3::c4::c5::c6::c7::c8::c9::l:=rfl
theorem Zh1 {a0 a1 a2 a3 a4 a5 a6 a7 a8 a9:AV}{l:List AV}:((a0::a1::a2::a3::a4::a5::a6::a7::a8::a9::l).drop 0).take 10=[a0,a1,a2,a3,a4,a5,a6,a7,a8,a9]:=rfl
theorem Zou {a0 a1 c0 c1:AV}{l:List AV}:setCells (a0::a1::l) 0 [c0,c1]=c0::c1::l:=rfl
theorem Zow {τ:Operand→AV}:Zat τ [] [(.v (.int .i64 0)),(.v (.int .i64 0)),(.v (.string ⟨#[]⟩))]=some [(.v (.int .i64 0)),(.v (.int .i64 0)),(.v (.string ⟨#[]⟩))]:=rfl
theorem Zi8 {τ:Operand→AV}:Zat τ [] [(.v (.int .i64 0)),(.v (.int .i64 0)),(.v (.string ⟨#[]⟩))]=some [(.v (.int .i64 0)),(.v (.int .i64 0)),(.v (.string ⟨#[]⟩))]:=rfl
theorem Zos {a0 a1:AV}{l:List AV}:((a0::a1::l).drop 0).take 2=[a0,a1]:=rfl
end
def c142:AC:=(Sr [Oo 3 (.box 26 3 (.tmp 0)),Oo 4 (.box 63 10 (.tmp 1)),Oo 6 (.mv (.const (.slice none 0 0)))] (.seq (Sr [Fa 13 1 4,Ld 14 13,Oo 15 (.bin .eql (.tmp 14) (.const (.string ⟨#[]⟩)))] (Cd 15 (Sr [Mv 16 2,Oo 17 (.load true 10 (.tmp 4)),Fa 18 2 4,Ld 19 18,Oo 20 (.build [(iv 0),(iv 0),Ss] [(1,(1,(.tmp 19)))]),Cl 21 220 [(.tmp 17),(.tmp 20)],Oo 22 (.build [(iv 0),(iv 0),(iv 0),Ss] [(0,(1,(.tmp 16))),(1,(3,(.tmp 21)))]),Oo 23 (.lit 121 4 1 [(iv 0),(iv 0),(iv 0),Ss] [(0,(4,(.tmp 22)))]),Mv 6 23] .ret) .skip)) (Sr [Fa 25 0 3,Ld 26 25,Fa 27 1 4,Ld 28 27,Fa 29 0 4,Ld 30 29,Cl 31 31 [(.tmp 26),(.tmp 28),(.tmp 30)],Mv 24 31,Ex 32 24 0,Ex 33 24 1,Mv 7 32,Mv 8 33] (Sr [Mv 34 2,Oo 35 (.load true 10 (.tmp 4)),Oo 36 (.build [(iv 0),(iv 0),Ss] []),Cl 37 220 [(.tmp 35),(.tmp 36)],Oo 38 (.build [(iv 0),(iv 0),(iv 0),Ss] [(0,(1,(.tmp 34))),(1,(3,(.tmp 37)))]),Oo 39 (.lit 121 4 1 [(iv 0),(iv 0),(iv 0),Ss] [(0,(4,(.tmp 38)))]),Mv 9 39] (.seq (Sr [Mv 40 7,Oo 41 (.len false (.tmp 40)),Mc 42 0] (.block 0 (.loop (Sr [Bn 43 .lss 42 41] (.seq (Cd 43 .skip (.exit 0)) (.seq (.block 1 (Sr [Oo 44 (.ia 3 (.tmp 40) (.tmp 42)),Oo 45 (.load true 3 (.tmp 44)),Oo 11 (.new 136 3 [(iv 0),(iv 0),Ss]),⟨none,none,(.store 3 (.tmp 11) (.tmp 45))⟩] (.seq (.drw [Mv 46 2,Fa 47 0 11,Ld 48 47,Oo 49 (.mm true (.tmp 46) (.tmp 48)),Oo 50 (.load true 10 (.tmp 4)),Oo 51 (.load true 3 (.tmp 11)),Cl 52 220 [(.tmp 50),(.tmp 51)],Oo 53 (.build [(iv 0),(iv 0),(iv 0),Ss] [(0,(1,(.tmp 49))),(1,(3,(.tmp 52)))]),Oo 12 (.new 121 4 [(iv 0),(iv 0),(iv 0),Ss])] [false] [⟨none,none,(.store 4 (.tmp 12) (.tmp 53))⟩]) (Sr [Fa 54 0 11,Ld 55 54,Mv 56 2,Bn 57 .leq 55 56] (Cd 57 (.reg [Mv 58 9,Oo 59 (.load true 4 (.tmp 12)),Oo 60 (.ia 4 (.tmp 58) (Ci 0)),⟨none,none,(.store 4 (.tmp 60) (.tmp 59))⟩]) (.reg [Mv 61 9,Oo 62 (.load true 4 (.tmp 12)),Oo 63 (.lit 121 4 1 [(iv 0),(iv 0),(iv 0),Ss] [(0,(4,(.tmp 62)))]),Oo 64 (.app 121 4 40 (.tmp 61) (.tmp 63)),Mv 9 64])))))) (.reg [Bc 65 .add 42 1,Mv 42 65]))))))) (Sr [Mv 66 9,Mv 6 66] .ret))))))
theorem k142:ZaD Tryz.prog 142=some ⟨c142,[(.tmp 6)],67⟩:=by kernel_rfl
def c69:AC:=(Sr [Oo 3 (.box 26 3 (.tmp 0)),Oo 4 (.box 53 2 (.tmp 1)),Oo 6 (.mv (.const (.slice none 0 0)))] (Sr [Oo 7 (.mv (.const (.slice none 0 0)))] (Sr [Oo 13 (.load true 2 (.tmp 4)),Cl 14 131 [(.tmp 13)],Mv 8 14] (.seq (Sr [Fa 15 1 4,Ld 16 15,Oo 17 (.len false (.tmp 16)),Mc 18 0] (.block 0 (.loop (Sr [Bn 19 .lss 18 17] (.seq (Cd 19 .skip (.exit 0)) (.seq (.block 1 (Sr [Mv 20 18,Oo 21 (.ia 10 (.tmp 16) (.tmp 18)),Oo 22 (.load true 10 (.tmp 21)),Oo 10 (.new 63 10 [(iv 0),Ss,(iv 0),Ss,(.v (.bool false)),(iv 0),(iv 0),(iv 0),(iv 0),(iv 0)]),Mv 9 20,⟨none,none,(.store 10 (.tmp 10) (.tmp 22))⟩] (.seq (Sr [Mv 23 9,Mv 24 8,Oo 25 (.len false (.tmp 24)),Bn 26 .lss 23 25,Mv 27 26,Ot 28 27 (mt 8),Ot 29 27 (mt 9),Ot 30 27 (.ia 1 (.tmp 28) (.tmp 29)),Ot 31 27 (.load false 1 (.tmp 30)),Ot 32 27 (mt 2),Ot 33 27 (.bin .leq (.tmp 31) (.tmp 32)),Oo 34 (.pick (.tmp 27) (.tmp 33) (.const (.bool false)))] (Cd 34 (.exit 1) .skip)) (Sr [Mv 35 2,Mv 11 35] (.seq (Sr [Mv 36 9,Bc 37 .gtr 36 0] (Cd 37 (.reg [Mv 38 2,Mv 39 8,Mv 40 9,Bc 41 .sub 40 1,Oo 42 (.ia 1 (.tmp 39) (.tmp 41)),Ld 43 42,Oo 44 (.mm true (.tmp 38) (.tmp 43)),Mv 11 44]) .skip)) (Sr [Oo 45 (.load true 3 (.tmp 3)),Oo 46 (.load true 10 (.tmp 10)),Mv 47 11,Cl 48 142 [(.tmp 45),(.tmp 46),(.tmp 47)],Mv 12 48] (.seq (Sr [Mv 49 9,Mv 50 8,Oo 51 (.len false (.tmp 50)),Bn 52 .lss 49 51] (Cd 52 (.reg [Mv 53 12,Mv 54 8,Mv 55 9,Oo 56 (.ia 1 (.tmp 54) (.tmp 55)),Ld 57 56,Cl 58 143 [(.tmp 53),(.tmp 57)],Mv 12 58]) .skip)) (.reg [Mv 59 7,Mv 60 12,Oo 61 (.app 121 4 40 (.tmp 59) (.tmp 60)),Mv 7 61])))))))) (.reg [Bc 62 .add 18 1,Mv 18 62]))))))) (Sr [Mv 63 7,Mv 6 63] .ret)))))
theorem k69:ZaD Tryz.prog 69=some ⟨c69,[(.tmp 6)],64⟩:=by kernel_rfl
def c16:AC:=(Sr [Oo 3 (.box 26 3 (.tmp 0)),Oo 6 (.new 29 3 [(iv 0),(iv 0),Ss]),Mc 7 0] (Sr [Oo 11 (.load true 3 (.tmp 3)),Mv 12 1,Cl 13 66 [(.tmp 11),(.tmp 12)],Mv 10 13,Ex 14 10 0,Ex 15 10 1,Oo 8 (.new 53 2 [Ss,(.sl 0 0 true [])]),⟨none,none,(.store 2 (.tmp 8) (.tmp 14))⟩,Mv 9 15] (.seq (Sr [Mv 16 9,Bc 17 .neq 16 0] (Cd 17 (Sr [Oo 18 (.build [(iv 0),(iv 0),Ss] []),Mv 19 9,⟨none,none,(.store 3 (.tmp 6) (.tmp 18))⟩,Mv 7 19] .ret) .skip)) (.seq (Sr [Mv 20 2,Cl 21 67 [],Bn 22 .lss 20 21,Mv 23 22,Of 24 23 (mt 2),Of 25 23 (.call (.func 68) []),Of 26 23 (.bin .gtr (.tmp 24) (.tmp 25)),Oo 27 (.pick (.tmp 23) (.const (.bool true)) (.tmp 26))] (Cd 27 (Sr [Oo 28 (.build [(iv 0),(iv 0),Ss] []),⟨none,none,(.store 3 (.tmp 6) (.tmp 28))⟩,Mc 7 3] .ret) .skip)) (Sr [Oo 29 (.load true 3 (.tmp 3)),Oo 30 (.load true 2 (.tmp 8)),Mv 31 2,Cl 32 69 [(.tmp 29),(.tmp 30),(.tmp 31)],Oo 33 (.ia 4 (.tmp 32) (Ci 0)),Fa 34 1 33,Oo 35 (.load true 3 (.tmp 34)),⟨none,none,(.store 3 (.tmp 6) (.tmp 35))⟩,Mc 7 0] .ret)))))
theorem k16:ZaD Tryz.prog 16=some ⟨c16,[(.cell 6 true 3),(.tmp 7)],36⟩:=by kernel_rfl
structure okX (x:Era):Prop where
 fm:ZbS (xFm x)=true
 sh : -64800≤xSh x∧xSh x≤64800
 sv:0≤xSv x∧xSv x≤10800
 no:xRl x≠⟨#[]⟩→xSv x=0
theorem okX_of {es:List Era}(h:okZ es) {x:Era}(hx:x∈es):okX x:=by
 obtain ⟨h1,h2,h3,h4⟩:=h.fm x hx
 exact ⟨h1,h2,h3,h4⟩
theorem ZjV {x:Era}{b:Int}(ts:List Tim):(eraG x b ts).length≤ts.length+1:=by
 unfold eraG
 rw [List.length_cons,List.length_map]
 have:=List.length_filter_le (fun t:Tim=>decide (b<t.1)) ts
 omega
theorem Znv {x:Era}{b:Int}:eraG x b []=[(b,locV x (xSv x) ⟨#[]⟩)]:=rfl
theorem eraG_set {x:Era}{b:Int}{ts:List Tim}{t:Tim}(h:t.1≤b):eraG x b (ts++[t])=(eraG x b ts).set 0 (b,locV x t.2.1 t.2.2):=by
 rw [eraG_low h];rfl
theorem eraG_pos {x:Era}{b:Int}{ts:List Tim}:0<(eraG x b ts).length:=by unfold eraG;simp
theorem era_z {a:List Rul}{z:List Zon}{k:List Lnk}{x:Era}{b:Int}{h:AH}(hok:okRs a) (ha:a.length≤9223372036854775807) (hx:okX x) (hb : -9000000000000000000≤b∧b≤9000000000000000000) :
  ACalls Tryz.prog 142 [.agg (srcB a z k),.agg (eraC x),iv b] h fun y h'=>h'=h∧y=.ret (.sl (eraG x b (Zbn a x)).length 4 false (rows chgC (eraG x b (Zbn a x)))):=by
 obtain ⟨hx1,hx2,hx3,hx4⟩:=hx
 have hfl:=Zl3 hx1
 refine tW' k142 fun N hn hlt hlA hbd=>?_
 simp only [tb'] at hbd ⊢
 refine wr'<|E' (Zbj (cvl lk rfl) rfl (hl0 hn) ha0) pt<|E' (Zbj (cvl lk rfl) rfl (hl1 hn) ha1) pt<|mv' lkn pt<|Zar<|?_
 refine Za8 (ALe.trans (ALe.icePtr (hga hn rfl) gt3 (by simp) pt3 (hs0 hn)) (ALe.icePtr (hga hn rfl) gt4 (by simp) pt4 (hs1 hn))) ?_
 refine Zam<|wr'<|V' (Zbz lk dp1) pt<|V' (ZaB lk gt) pt<|V' (Zcj lk lks) pt<|sn'<|?_
 refine cd' lk (fun hc1=>?_) (fun hc1=>?_)
 ·have hT:Zbn a x=[]:=if_pos hc1
  refine wr'<|mv' lk pt<|V' (ZaK lk Ze0 rfl) pt<|V' (Zbz lk dp2) pt<|V' (ZaB lk gt) pt<|V' (Zax (Zmw (cvl lk rfl) rfl)) pt<|?_
  refine Zad mp (ZlW (x:=x) (t:=(0,xSv x,⟨#[]⟩)) hfl (show (0:Nat)≤24 by decide) hx2 hx3) pt ?_
  refine V' (Zax (Zmv (cvl lk16 rfl) rfl (cvl lk21 rfl) rfl)) pt22<|E' (Zc5 (Zmu (cvl lk22 rfl) rfl) (hl2 hn) ha2) pt23<|mv' lk23 pt6<|Zar<|Za8 (ALe.iceR (hga hn rfl) gt6 rfl (nb' rfl) pt6 (hs2 hn))<|Zaa<|Zai<|Zaf (rs1 (rr_t gt6))<|rtW'<|?_
  rw [hT,Znv];exact Wk.full
 have hT:Zbn a x=(ZaW a x.2.1 x.1).1:=if_neg hc1
 have hsv0:xSv x=0:=hx4 hc1
 have hTl:(ZaW a x.2.1 x.1).1.length≤1000:=Zhp
 refine Zae<|Zah<|wr'<|V' (Zbz lk dp0) pt<|V' (ZaB lk gt) pt<|V' (Zbz lk dp1) pt<|V' (ZaB lk gt) pt<|V' (Zbz lk dp0) pt<|V' (ZaB lk gt) pt<|Zad mp (Zpp hok ha) pt<|mv' lk pt<|V' (Za3 lk gt) pt<|V' (Za3 lk gt) pt<|?_
 refine mv' lk pt<|mv' lk pt<|sn'<|wr'<|mv' lk pt<|V' (ZaK lk Ze0 rfl) pt<|V' (Zax Zmt) pt<|?_
 refine Zad mp (ZlW (x:=x) (t:=(0,0,⟨#[]⟩)) hfl (by decide) hx2 (by decide)) pt ?_
 refine V' (Zax (Zms (cvl lk rfl) rfl (cvl lk rfl) rfl)) pt<|E' (Zc5 (Zmr (cvl lk rfl) rfl) (hl2 hn) ha2) pt<|mv' lk pt<|sn'<|Zam<|wr'<|mv' lk pt<|V' (ZaP lk) pt<|mv' lki pt<|sn'<|Zao<|?_
 refine ZgO (ι:=Nat×Nat) (fun (x_:Nat×Nat)=>match x_ with | ⟨i,v⟩=>[(9,.own (N+2) v (eraG x b ((ZaW a x.2.1 x.1).1.take i)).length),(42,iv (i:Int)),(11,.any),(12,.any)]++rn' 43 23) (fun (x_:Nat×Nat)=>match x_ with | ⟨i,v⟩=>[(2,.mk v 121 4 (rows chgC (eraG x b ((ZaW a x.2.1 x.1).1.take i))))]) (fun (x_:Nat×Nat)=>match x_ with | ⟨i,v⟩=>i≤(ZaW a x.2.1 x.1).1.length) (fun (x_:Nat×Nat)=>match x_ with | ⟨i,v⟩=>(ZaW a x.2.1 x.1).1.length-i) (⟨0,0⟩) (by exact Nat.zero_le _) (by try simp only [sm',Nat.reduceAdd];exact ALe.same wA' (by rw [List.take_zero,Znv,hsv0];rfl)) ?_
 rintro ⟨i,v⟩ hi1
 try simp only [sm',Nat.reduceAdd]
 replace hi1:i≤(ZaW a x.2.1 x.1).1.length:=hi1
 refine wr'<|V' (Zba lk lk) pt<|sn'<|Zam<|?_
 refine cd' lk (fun hc2=>?_) (fun hc2=>?_)
 ·have hi:i<(ZaW a x.2.1 x.1).1.length:=by omega
  obtain ⟨hm1,hm2,hm3⟩:=Zpo (List.getElem_mem hi)
  have hel:=ZjV (x:=x) (b:=b) ((ZaW a x.2.1 x.1).1.take i)
  rw [List.length_take] at hel
  have htk:=List.take_succ_eq_append_getElem hi
  refine Zae<|Zah<|Zam<|Zao<|wr'<|?_
  refine V' (ZaY lk lk ZmV (nb' rfl) ro (by omega) ro rfl) pt ?_
  refine V' (ZaK lk Zf1 rfl) pt<|E' (Za6 (hl3 hn) ha3) pt<|E' (Zal lk (cvl lk rfl) (hga hn rfl) rfl (nb' rfl) rfl Zd0 (hs3 hn)) ptn<|sn'<|Zam<|ZcE<|D' (v_mv lk) pt<|D' (Zac lk) pt<|D' (Zab lk (hga hn rfl) gt0) pt<|D' (v_mm lk lk) pt<|D' (ZaK lk Ze0 rfl) pt<|D' (Zaq lk (hga hn rfl) ZcQ rfl) pt<|?_
  refine Zbf mp (fun hE hX=>ZlW (x:=x) (t:=(ZaW a x.2.1 x.1).1[i]) hfl hm3 hx2 hm2) pt ?_
  refine D' (Zax (Zmq (cvl lk rfl) rfl (cvl lk rfl) rfl)) pt<|d_eff rfl rfl (hlk hn rfl) (l_new) pt Zrc<|Zb6<|?_
  refine e_ent Zov ?_
  refine E' (Zal lk (cvl lk rfl) (hga hn rfl) rfl (nb' rfl) rfl Zot (hs4 hn)) ptn<|sn'<|wr'<|V' (Zac lk) pt<|V' (Zab lk (hga hn rfl) gt0) pt<|mv' lk pt<|V' (Zdq lk lk) pt<|sn'<|?_
  refine cd' lk (fun hc3=>?_) (fun hc3=>?_)
  ·have hmx:(if (ZaW a x.2.1 x.1).1[i].1>b then (ZaW a x.2.1 x.1).1[i].1 else b)=b:=if_neg (by omega)
   simp only [cond_true,hmx]
   have hE:=eraG_set (x:=x) (ts:=(ZaW a x.2.1 x.1).1.take i) hc3
   have hep:=eraG_pos (x:=x) (b:=b) (ts:=(ZaW a x.2.1 x.1).1.take i)
   rw [←htk] at hE
   refine Zas<|mv' lk pt<|V' (Zaq lk (hga hn rfl) Zi7 rfl) pt<|?_
   refine V' (Zpf (k:=0) lk lki (hga hn rfl) ZeU (nb' rfl) ro (by omega) (by first | rfl | (simp;done) | omega)) pt ?_
   refine E' (e_stOR (z:=(b,locV x (ZaW a x.2.1 x.1).1[i].2.1 (ZaW a x.2.1 x.1).1[i].2.2)) lk (cvl lk rfl) (hga hn rfl) ZeU rfl (by omega) (hs2 hn)) ptn ?_
   refine Zar<|Zaz<|Zah<|Zas<|?_
   refine V' (Zay lk lki (by omega) (by omega)) pt ?_
   refine mv' lk pt<|Zar<|ZaA<|?_
   refine lU' (⟨i+1,v⟩) (by (try dsimp only);omega) (by (try dsimp only);(try simp only [sm',Nat.reduceAdd]);exact bkE' 3 hn hlt (by repeat (first | exact wk0 | refine wka ?_ | refine wk1 rfl ?_ | refine wk1 (by first | rfl | exact ivx (by omega) | (rw [hE,List.length_set];done) | (rw [hE,List.length_append];rfl) | (rw [hE,List.length_set])) ?_)) (by rw [hE];rfl) (hT:=by simp [AV.lt,AV.ltL,Ent.lt]) (hE:=by simp [AV.lt,AV.ltL,Ent.lt]))
  have hmx:(if (ZaW a x.2.1 x.1).1[i].1>b then (ZaW a x.2.1 x.1).1[i].1 else b)=(ZaW a x.2.1 x.1).1[i].1:=if_pos (by omega)
  simp only [cond_true,hmx]
  have hE:=ZqJ (x:=x) (ts:=(ZaW a x.2.1 x.1).1.take i) hc3
  rw [←htk] at hE
  refine Zas<|mv' lk pt<|V' (Zaq lk (hga hn rfl) Zi7 rfl) pt<|E' (Zc5 (Zmp (cvl lk rfl) rfl) (hl5 hn) ha5) pt<|?_
  refine E' (ZcD (Zct lk (hga hn rfl) rfl Zra (nb' rfl)) lk (hga hn rfl) (Zej _) (by omega) rfl (hs2 hn)) pt ?_
  refine mv' lk pt<|Zar<|Zaz<|Zah<|Zas<|?_
  refine V' (Zay lk lki (by omega) (by omega)) pt ?_
  refine mv' lk pt<|Zar<|ZaA<|?_
  refine lU' (⟨i+1,v+1⟩) (by (try dsimp only);omega) (by (try dsimp only);(try simp only [sm',Nat.reduceAdd]);exact bkE' 3 hn hlt (by repeat (first | exact wk0 | refine wka ?_ | refine wk1 rfl ?_ | refine wk1 (by first | rfl | exact ivx (by omega) | (rw [hE,List.length_set];done) | (rw [hE,List.length_append];rfl) | (rw [hE,List.length_set])) ?_)) (by rw [hE,ZaS,Zbx];rfl) (hT:=by simp [AV.lt,AV.ltL,Ent.lt]) (hE:=by simp [AV.lt,AV.ltL,Ent.lt]))
 refine ZaO<|ZaF<|ZaF<|Za7<|?_
 refine Za8 (ALe.iceR (hga hn rfl) gt9 (List.take_of_length_le (by rw [Zej];exact Nat.le_refl _)) (by rw [Zej];exact Nat.le_refl _) pt9 (hs2 hn)) ?_
 refine wr'<|mv' lk pt<|mv' lk pt<|sn'<|Zaa<|Zaf rz<|rtW'<|?_
 rw [hT,List.take_of_length_le (by omega)];exact Wk.full
def Zea (es:List Era):Nat→Option Int
 | 0=>none
 | j+1=>(es[j]?).map endV
theorem ZeQ {es:List Era}{i:Nat}(h:i<es.length):Zea es (i+1)=some (endV es[i]):=by
 show (es[i]?).map endV=_
 rw [List.getElem?_eq_getElem h];rfl
theorem Zn2 {rl:List Rul}{f:Int}{es:List Era}{prev:Option Int}{i:Nat}(h:i<es.length) (hl:es.length≤i+1):ZbR rl f prev (es.drop i)=eraG es[i] (Zb0 prev f) (Zbn rl es[i]):=by
 rw [List.drop_eq_getElem_cons h,List.drop_of_length_le hl];rfl
theorem Zn1 {rl:List Rul}{f:Int}{es:List Era}{prev:Option Int}{i:Nat}(h:i+1<es.length) (hc:endV es[i]≤f):ZbR rl f prev (es.drop i)=ZbR rl f (Zea es (i+1)) (es.drop (i+1)):=by
 rw [ZeQ (by omega),List.drop_eq_getElem_cons (show i<es.length by omega),List.drop_eq_getElem_cons h,ZbR,if_pos hc,List.nil_append]
theorem Zn0 {rl:List Rul}{f:Int}{es:List Era}{prev:Option Int}{i:Nat}(h:i+1<es.length) (hc:¬endV es[i]≤f):ZbR rl f prev (es.drop i)=cutV (eraG es[i] (Zb0 prev f) (Zbn rl es[i])) (endV es[i])++ZbR rl f (Zea es (i+1)) (es.drop (i+1)):=by
 rw [ZeQ (by omega),List.drop_eq_getElem_cons (show i<es.length by omega),List.drop_eq_getElem_cons h,ZbR,if_neg hc]
theorem cutV_len (l:List Chg) (e:Int):(cutV l e).length≤l.length:=(List.takeWhile_sublist _).length_le
theorem Zmc {es:List Era}(hz:okZ es) {i:Nat}(h:i+1<es.length) : -100000000000≤endV es[i]∧endV es[i]≤300000000000:=by
 obtain ⟨h1,h2,h3⟩:=hz.un i (by omega) h
 exact endV_bd h1 ⟨h2,h3⟩ (hz.fm _ (List.getElem_mem _)).2.1
theorem parts_a {a:List Rul}{z:List Zon}{k:List Lnk}{nm:ByteArray}{es:List Era}{f:Int}{h:AH}(hok:okRs a) (ha:a.length≤9223372036854775807) (hz:okZ es) (hf : -1000000000000≤f∧f≤1000000000000) :
  ACalls Tryz.prog 69 [.agg (srcB a z k),.agg [sv nm,.sl es.length 10 false (rows eraC es)],iv f] h fun y h'=>h'=h∧y=.ret (.sl (ZbR a f none es).length 4 false (rows chgC (ZbR a f none es))):=by
 have hel:=ZjX es
 have hlen:=hz.len
 refine tW' k69 fun N hn hlt hlA hbd=>?_
 simp only [tb'] at hbd ⊢
 refine wr'<|E' (Zbj (cvl lk rfl) rfl (hl0 hn) ha0) pt<|E' (Zbj (cvl lk rfl) rfl (hl1 hn) ha1) pt<|mv' lkn pt<|Zar<|?_
 refine Za8 (ALe.trans (ALe.icePtr (hga hn rfl) gt3 (by simp) pt3 (hs0 hn)) (ALe.icePtr (hga hn rfl) gt4 (by simp) pt4 (hs1 hn))) ?_
 refine wr'<|mv' lkn pt7<|Zar<|Za8 (ALe.own0' (st':=4) (ty:=121) gt7 (hl2 hn) pt7 ha2)<|wr'<|V' (ZaK lk4 Zrb rfl) pt13<|Zad (mp1 lk13 mp0) (ZqK hz) pt14<|mv' lk14 pt8<|sn'<|Zam<|Zam<|?_
 refine Zas<|V' (Zbz lk dp1) pt<|V' (ZaB lk gt) pt<|V' (ZaP lk) pt<|mv' lki pt<|sn'<|Zao<|?_
 refine w_lp (ι:=Nat×List Chg×Nat) (fun (x_:Nat×List Chg×Nat)=>match x_ with | ⟨i,O,v⟩=>[(7,.own (N+2) v O.length),(18,iv (i:Int))]++rn' 9 4++rn' 19 44) (fun (x_:Nat×List Chg×Nat)=>match x_ with | ⟨i,O,v⟩=>[(2,.mk v 121 4 (rows chgC O))]) (fun (x_:Nat×List Chg×Nat)=>match x_ with | ⟨i,O,v⟩=>i≤es.length∧ZbR a f none es=O++ZbR a f (Zea es i) (es.drop i)∧O.length≤1001*i) (fun (x_:Nat×List Chg×Nat)=>match x_ with | ⟨i,O,v⟩=>es.length-i) (⟨0,[],0⟩) (by exact ⟨Nat.zero_le _,rfl,Nat.zero_le _⟩) ?_
 rintro ⟨i,O,v⟩ hi1
 try simp only [sm',Nat.reduceAdd]
 obtain ⟨hi1,hi2,hi3⟩:=hi1
 refine wr'<|V' (Zba lk lk) pt<|sn'<|Zam<|?_
 refine cd' lk (fun hc1=>?_) (fun hc1=>?_)
 ·have hi:i<es.length:=by omega
  have hxo:=okX_of hz (List.getElem_mem hi)
  refine Zae<|Zah<|Zam<|Zao<|wr'<|mv' lk pt<|?_
  refine V' (ZaY lk lk ZdB (nb' rfl) ro (by omega) ro rfl) pt ?_
  refine V' (ZaK lk Ze0 rfl) pt<|E' (Za6 (hl3 hn) ha3) pt<|mv' lk pt<|E' (Zal lk (cvl lk rfl) (hga hn rfl) rfl (nb' rfl) rfl Zmo (hs3 hn)) ptn<|sn'<|Zam<|wr'<|mv' lk pt<|mv' lk pt<|V' (ZaP lk) pt<|V' (Zba lk lk) pt<|mv' lk pt<|?_
  refine sp' (t:=27) gt pt pt (fun hg27=>?_) (fun hg27=>?_)
  ·have hn1:i+1<es.length:=by omega
   have hen:(ZbY es)[i]'(by omega)=endV es[i]:=ZjY (by omega) hi
   have heb:=Zmc hz hn1
   refine s_do gt<|mv' lk pt<|s_do gt<|mv' lk pt<|s_do gt<|?_
   refine V' (ZaY lk lk ZdA (nb' rfl) ro (by omega) ro rfl) pt ?_
   refine s_do gt<|V' (ZaB lk gt) pt<|s_do gt<|mv' lk pt<|s_do gt<|V' (Zdq lk lk) pt<|V' (Zak lk lk) pt<|sn'<|?_
   refine cd' lk (fun hc2=>?_) (fun hc2=>?_)
   ·have hsk:=Zn1 (rl:=a) (f:=f) (prev:=Zea es i) hn1 (by rw [←hen];exact hc2)
    refine ZaO<|ZaF<|Za7<|Zah<|Zas<|?_
    refine V' (Zay lk lki (by omega) (by omega)) pt ?_
    refine mv' lk pt<|Zar<|ZaA<|?_
    refine lU' (⟨i+1,O,v⟩) (by (try dsimp only);exact ⟨by omega,by rw [hi2,hsk],by omega⟩) (by (try dsimp only);(try simp only [sm',Nat.reduceAdd]);exact bkE' 3 hn hlt (by repeat (first | exact wk0 | refine wka ?_ | refine wk1 rfl ?_ | refine wk1 (by first | rfl | exact ivx (by omega) | (rw [List.length_append])) ?_)) (hT:=by simp [AV.lt,AV.ltL,Ent.lt]) (hE:=by simp [AV.lt,AV.ltL,Ent.lt]))
   have hnc:¬endV es[i]≤f:=by rw [←hen];exact hc2
   refine Zae<|Zah<|wr'<|mv' lk pt<|mv' lk pt<|sn'<|?_
   refine Zfv (ι:=Int) (fun (B:Int)=>[(11,iv B)]++rn' 36 9) (fun (B:Int)=>[]) (fun (B:Int)=>Zb0 (Zea es i) f=B ∧ -9000000000000000000≤B∧B≤9000000000000000000) ?_ ?_
   ·try simp only [sm',Nat.reduceAdd]
    refine wr'<|mv' lk pt<|V' (ZbV lk lki) pt<|sn'<|?_
    refine cd' lk (fun hc3=>?_) (fun hc3=>?_)
    ·have hi0:i-1+1<es.length:=by omega
     have hen0:(ZbY es)[i-1]'(by omega)=endV (es[i-1]'(by omega)):=ZjY (by omega) (by omega)
     have heb0:=Zmc hz hi0
     have hB:(if (ZbY es)[i-1]'(by omega)>f then (ZbY es)[i-1]'(by omega) else f)=Zb0 (Zea es i) f:=by rw [hen0,show Zea es i=some (endV (es[i-1]'(by omega))) from by have:=ZeQ (es:=es) (i:=i-1) (by omega);rwa [show i-1+1=i by omega] at this];show _=max f _;omega
     have hBb : -9000000000000000000≤Zb0 (Zea es i) f∧Zb0 (Zea es i) f≤9000000000000000000:=by rw [←hB,hen0];split <;> omega
     refine Zas<|mv' lk pt<|mv' lk pt<|mv' lk pt<|?_
     refine V' (ZbD lk lki (by omega) (by omega)) pt ?_
     refine V' (ZaY (k:=i-1) lk lk ZdA (nb' rfl) ro (by omega) ro rfl) pt ?_
     refine V' (ZaB lk gt) pt<|V' (v_mm lk lk) pt<|?_
     simp only [cond_true,hB]
     refine mv' lk pt<|Zar<|ZaA<|?_
     exact cT' (Zb0 (Zea es i) f) (by exact ⟨rfl,hBb.1,hBb.2⟩)
    refine Zae<|ZaA<|?_
    exact cT' (f) (by exact ⟨by rw [show i=0 by omega];rfl,by omega,by omega⟩)
   rintro B hq12
   try simp only [sm',Nat.reduceAdd]
   obtain ⟨hBd,hB1,hB2⟩:=hq12
   refine wr'<|V' (ZaK lk Zf1 rfl) pt<|V' (Zaq lk (hga hn rfl) Zh1 rfl) pt<|mv' lk pt<|Zad mp (era_z hok ha hxo ⟨hB1,hB2⟩) pt<|mv' lk pt<|sn'<|Zam<|wr'<|mv' lk pt<|mv' lk pt<|?_
   refine V' (ZaP lk) pt<|V' (Zba lk lk) pt<|sn'<|?_
   have hgl:=ZjV (x:=es[i]) (b:=B) (Zbn a es[i])
   have htl:=Ziw (rl:=a) (x:=es[i])
   refine ZdE lk (by exact decide_eq_true (by omega)) ?_
   refine Zas<|mv' lk pt<|mv' lk pt<|mv' lk pt<|?_
   refine V' (ZaY lk lk ZdA (nb' rfl) ro (by omega) ro rfl) pt ?_
   refine V' (ZaB lk gt) pt ?_
   refine Zad mp (zcut_a (by omega)) pt ?_
   have hcl:=cutV_len (eraG es[i] B (Zbn a es[i])) ((ZbY es)[i]'(by omega))
   have hT:=Zn0 (rl:=a) (f:=f) (prev:=Zea es i) hn1 hnc
   rw [hBd,←hen] at hT
   refine mv' lk pt<|sn'<|Zas<|mv' lk pt<|mv' lk pt<|?_
   refine E' (ZcD (ZjA lk (Zej _)) lk (hga hn rfl) (Zej _) (by omega) (ZnC _) (hs2 hn)) pt ?_
   refine mv' lk pt<|Zar<|Zaz<|Zah<|Zas<|?_
   refine V' (Zay lk lki (by omega) (by omega)) pt ?_
   refine mv' lk pt<|Zar<|ZaA<|?_
   refine lU' (⟨i+1,O++cutV (eraG es[i] B (Zbn a es[i])) ((ZbY es)[i]'(by omega)),v+1⟩) (by (try dsimp only);exact ⟨by omega,by rw [hi2,hT,List.append_assoc],by rw [List.length_append];omega⟩) (by (try dsimp only);(try simp only [sm',Nat.reduceAdd]);exact bkE' 3 hn hlt (by repeat (first | exact wk0 | refine wka ?_ | refine wk1 rfl ?_ | refine wk1 (by first | rfl | exact ivx (by omega) | (rw [List.length_append])) ?_)) (by rw [ZaS];rfl) (hT:=by simp [AV.lt,AV.ltL,Ent.lt]) (hE:=by simp [AV.lt,AV.ltL,Ent.lt]))
  have hn1:es.length≤i+1:=by omega
  refine s_no gt pt<|s_no gt pt<|s_no gt pt<|s_no gt pt<|s_no gt pt<|s_no gt pt<|V' (Zag lk lkb) pt<|sn'<|ZaM lk<|Zae<|Zah<|wr'<|?_
  refine mv' lk pt<|mv' lk pt<|sn'<|?_
  refine Zfv (ι:=Int) (fun (B:Int)=>[(11,iv B)]++rn' 36 9) (fun (B:Int)=>[]) (fun (B:Int)=>Zb0 (Zea es i) f=B ∧ -9000000000000000000≤B∧B≤9000000000000000000) ?_ ?_
  ·try simp only [sm',Nat.reduceAdd]
   refine wr'<|mv' lk pt<|V' (ZbV lk lki) pt<|sn'<|?_
   refine cd' lk (fun hc3=>?_) (fun hc3=>?_)
   ·have hi0:i-1+1<es.length:=by omega
    have hen0:(ZbY es)[i-1]'(by omega)=endV (es[i-1]'(by omega)):=ZjY (by omega) (by omega)
    have heb0:=Zmc hz hi0
    have hB:(if (ZbY es)[i-1]'(by omega)>f then (ZbY es)[i-1]'(by omega) else f)=Zb0 (Zea es i) f:=by rw [hen0,show Zea es i=some (endV (es[i-1]'(by omega))) from by have:=ZeQ (es:=es) (i:=i-1) (by omega);rwa [show i-1+1=i by omega] at this];show _=max f _;omega
    have hBb : -9000000000000000000≤Zb0 (Zea es i) f∧Zb0 (Zea es i) f≤9000000000000000000:=by rw [←hB,hen0];split <;> omega
    refine Zas<|mv' lk pt<|mv' lk pt<|mv' lk pt<|?_
    refine V' (ZbD lk lki (by omega) (by omega)) pt ?_
    refine V' (ZaY (k:=i-1) lk lk ZdA (nb' rfl) ro (by omega) ro rfl) pt ?_
    refine V' (ZaB lk gt) pt<|V' (v_mm lk lk) pt<|?_
    simp only [cond_true,hB]
    refine mv' lk pt<|Zar<|ZaA<|?_
    exact cT' (Zb0 (Zea es i) f) (by exact ⟨rfl,hBb.1,hBb.2⟩)
   refine Zae<|ZaA<|?_
   exact cT' (f) (by exact ⟨by rw [show i=0 by omega];rfl,by omega,by omega⟩)
  rintro B hq12
  try simp only [sm',Nat.reduceAdd]
  obtain ⟨hBd,hB1,hB2⟩:=hq12
  refine wr'<|V' (ZaK lk Zf1 rfl) pt<|V' (Zaq lk (hga hn rfl) Zh1 rfl) pt<|mv' lk pt<|Zad mp (era_z hok ha hxo ⟨hB1,hB2⟩) pt<|mv' lk pt<|sn'<|Zam<|wr'<|mv' lk pt<|mv' lk pt<|?_
  refine V' (ZaP lk) pt<|V' (Zba lk lk) pt<|sn'<|?_
  have hgl:=ZjV (x:=es[i]) (b:=B) (Zbn a es[i])
  have htl:=Ziw (rl:=a) (x:=es[i])
  have hT:=Zn2 (rl:=a) (f:=f) (prev:=Zea es i) hi hn1
  rw [hBd] at hT
  refine Zd4 lk (by exact decide_eq_false (by omega)) ?_
  refine Zae<|Zah<|Zas<|mv' lk pt<|mv' lk pt<|?_
  refine E' (ZcD (ZjA lk (Zej _)) lk (hga hn rfl) (Zej _) (by omega) (ZnC _) (hs2 hn)) pt ?_
  refine mv' lk pt<|Zar<|Zaz<|Zah<|Zas<|?_
  refine V' (Zay lk lki (by omega) (by omega)) pt ?_
  refine mv' lk pt<|Zar<|ZaA<|?_
  refine lU' (⟨i+1,O++eraG es[i] B (Zbn a es[i]),v+1⟩) (by (try dsimp only);exact ⟨by omega,by rw [hi2,hT,List.drop_of_length_le hn1];exact (List.append_nil _).symm,by rw [List.length_append];omega⟩) (by (try dsimp only);(try simp only [sm',Nat.reduceAdd]);exact bkE' 3 hn hlt (by repeat (first | exact wk0 | refine wka ?_ | refine wk1 rfl ?_ | refine wk1 (by first | rfl | exact ivx (by omega) | (rw [List.length_append])) ?_)) (by rw [ZaS];rfl) (hT:=by simp [AV.lt,AV.ltL,Ent.lt]) (hE:=by simp [AV.lt,AV.ltL,Ent.lt]))
 rw [List.drop_of_length_le (by omega)] at hi2
 have hPO:ZbR a f none es=O:=hi2.trans (List.append_nil _)
 refine ZaO<|ZaF<|ZaF<|Za7<|?_
 refine Za8 (ALe.iceR (hga hn rfl) gt7 (List.take_of_length_le (by rw [Zej];exact Nat.le_refl _)) (by rw [Zej];exact Nat.le_refl _) pt7 (hs2 hn)) ?_
 refine wr'<|mv' lk pt<|mv' lk pt<|sn'<|Zaa<|Zaf rz<|rtW'<|?_
 rw [hPO];exact Wk.full
theorem parts_ok {s:Src}{z:Zon}(h:Zb5 s=0) (hm:z∈s.2.1) (f:Int):(∃ l,ZbR s.1 f none z.2=(f,ZcA s.1 z.2 f)::l)∧(ZbR s.1 f none z.2).Pairwise (fun a b=>a.1<b.1)∧(∀ c∈ZbR s.1 f none z.2,f≤c.1∧c.2=ZcA s.1 z.2 c.1) ∧
  ∀ u v,f≤u→u≤v→(∀ c∈ZbR s.1 f none z.2,¬(u<c.1∧c.1≤v))→ZcA s.1 z.2 u=ZcA s.1 z.2 v:=by
 obtain ⟨hE,_,_,_,h5⟩:=Zgw h
 exact ZkK (f:=f) (prev:=none) (ZeV hE hm).ne (fun x _=>risT_all _ x) ((ZjH _).1 (h5 z hm)) trivial
def atV (s:Src) (nm:ByteArray) (n:Int):Loc×Int :=
 if (ZbT s nm).2≠0 then (locZ,(ZbT s nm).2) else if n<tMin∨n>tMax then (locZ,3) else (ZcA s.1 (ZbT s nm).1.2 n,0)
abbrev locC3 (l:Loc):List AV:=[iv l.1,iv l.2.1,sv l.2.2]
theorem at_a {a:List Rul}{z:List Zon}{k:List Lnk}{nm:ByteArray}{n:Int}{h:AH}(hok:Zdk (a,z,k)):Ac 16 [.agg (srcB a z k),sv nm,iv n] h (.tup [.agg (locC3 (atV (a,z,k) nm n).1),iv (atV (a,z,k) nm n).2]):=by
 refine tI' k16 fun N hn hlt hlA hbd=>?_
 simp only [tb'] at hbd ⊢
 refine wr'<|E' (Zbj (cvl lk rfl) rfl (hl0 hn) ha0) pt<|E' (Za6 (hl1 hn) ha1) pt<|mv' lki pt<|sn'<|wr'<|V' (Zaq lk (hga hn rfl) ZcQ rfl) pt<|mv' lk pt<|Zad mp (ZqF hok) pt<|mv' lk pt<|V' (Za3 lk gt) pt<|?_
 refine V' (Za3 lk gt) pt<|E' (Za6 (hl2 hn) ha2) pt<|E' (Zal lk (cvl lk rfl) (hga hn rfl) rfl (nb' rfl) rfl Zou (hs2 hn)) ptn<|mv' lk pt<|sn'<|Zam<|wr'<|mv' lk pt<|V' (Za1 lk lki) pt<|sn'<|?_
 refine cd' lk (fun hc1=>?_) (fun hc1=>?_)
 ·have hA:atV (a,z,k) nm n=(locZ,(ZbT (a,z,k) nm).2):=if_pos hc1
  refine wr'<|V' (Zax Zow) pt<|mv' lk pt<|E' (Zal lk (cvl lk rfl) (hga hn rfl) rfl (nb' rfl) rfl Zd0 (hs1 hn)) ptn<|mv' lk pt<|sn'<|Zaa<|Zai<|Zaf (rsn (rm1 (rr_c gt (hga hn rfl) (ld1 ZcQ rfl)) (rm1 (rr_t gt) rm0)))<|rT'<|?_
  rw [hA];rfl
 have hf0:(ZbT (a,z,k) nm).2=0:=Decidable.of_not_not hc1
 obtain ⟨hz0,hm,_⟩:=Zgu hf0
 have hE:=ZfV hz0
 have hal:=(Zdo hE).1
 simp only at hal
 refine Zae<|Zah<|Zam<|wr'<|mv' lk pt<|Zad mp0 (least_a) pt<|V' (Zba lk lk) pt<|mv' lk pt<|?_
 refine sp' (t:=23) gt pt pt (fun hg23=>?_) (fun hg23=>?_)
 ·have hA:atV (a,z,k) nm n=(locZ,3):=by unfold atV;rw [if_neg hc1,if_pos (.inl hg23)]
  refine s_no gt pt<|s_no gt pt<|s_no gt pt<|V' (Zak lk lkb) pt<|sn'<|ZaH lk<|wr'<|V' (Zax Zi8) pt<|E' (Zal lk (cvl lk rfl) (hga hn rfl) rfl (nb' rfl) rfl Zd0 (hs1 hn)) ptn<|mv' lki pt<|sn'<|?_
  refine Zaa<|Zai<|Zaf (rsn (rm1 (rr_c gt (hga hn rfl) (ld1 ZcQ rfl)) (rm1 (rr_t gt) rm0)))<|rT'<|?_
  rw [hA];rfl
 refine s_do gt<|mv' lk pt<|s_do gt<|Zad mp0 (most_a) pt<|s_do gt<|V' (ZbV lk lk) pt<|V' (Zag lk lk) pt<|sn'<|?_
 refine cd' lk (fun hc2=>?_) (fun hc2=>?_)
 ·have hA:atV (a,z,k) nm n=(locZ,3):=by unfold atV;rw [if_neg hc1,if_pos (.inr hc2)]
  refine wr'<|V' (Zax Zi8) pt<|E' (Zal lk (cvl lk rfl) (hga hn rfl) rfl (nb' rfl) rfl Zd0 (hs1 hn)) ptn<|mv' lki pt<|sn'<|Zaa<|Zai<|Zaf (rsn (rm1 (rr_c gt (hga hn rfl) (ld1 ZcQ rfl)) (rm1 (rr_t gt) rm0)))<|rT'<|?_
  rw [hA];rfl
 have hA:atV (a,z,k) nm n=(ZcA a (ZbT (a,z,k) nm).1.2 n,0):=by unfold atV;rw [if_neg hc1,if_neg (by simp only [tMin,tMax];omega)]
 obtain ⟨⟨pl,hpl⟩,_⟩:=parts_ok hz0 hm n
 simp only at hpl
 refine Zae<|Zah<|wr'<|V' (Zaq lk (hga hn rfl) ZcQ rfl) pt<|V' (Zaq lk (hga hn rfl) Zos rfl) pt<|mv' lk pt<|?_
 refine Zad mp (parts_a (Zp4 hok) (by omega) (ZeV hE hm) (by omega)) pt ?_
 refine V' (ZaY (k:=0) lk lki ZeU (nb' rfl) (by first | rfl | first | omega | (rw [hpl];simp)) (by first | omega | (rw [hpl];simp)) ro rfl) pt ?_
 refine V' (Zbz lk dp1) pt<|V' (ZaK lk Zf1 rfl) pt<|E' (Zal lk (cvl lk rfl) (hga hn rfl) rfl (nb' rfl) rfl Zd0 (hs1 hn)) ptn<|mv' lki pt<|sn'<|Zaa<|Zaf (rsn (rm1 (rr_c gt (hga hn rfl) (ld1 ZcQ rfl)) (rm1 (rr_t gt) rm0)))<|rT'<|?_
 simp only [hA,hpl];rfl
end Go.Proofs.YtlekejpogddndaaGreatDoor
end
section
namespace Go.Proofs.YtlekejpogddndaaGreatDoor
open Go.Ab
abbrev TS:=List ByteArray×Bool
abbrev bad (t:TS):TS:=(t.1,true)
def ZaN (t:TS):ByteArray×TS:=if t.2=true∨t.1=[] then (⟨#[]⟩,bad t) else (t.1.headD ⟨#[]⟩,t.1.tail,false)
def decL:Int→Bs→Int
 | n,[]=>n
 | n,c::l=>decL (10*n+c.toNat-48) l
def numV (s:ByteArray) (a b:Int):Option Int:=if wi s.size a b=true∧allB digB s=true then some (decL 0 (aB s)) else none
def tNum (s:ByteArray) (a b:Int) (t:TS):Int×TS:=match numV s a b with
 | some n=>(n,t)
 | none=>(0,bad t)
def Zew (t:TS):ByteArray×TS:=((ZaN t).1,if Zck (ZaN t).1=true then (ZaN t).2 else bad (ZaN t).2)
def idxL:List ByteArray→ByteArray→Int→Option Int
 | [],_,_=>none
 | x::l,s,d=>if s=x then some d else idxL l s (d+1)
def monL:List ByteArray:=[bA [74,97,110],bA [70,101,98],bA [77,97,114],bA [65,112,114],bA [77,97,121],bA [74,117,110],bA [74,117,108],bA [65,117,103],bA [83,101,112],bA [79,99,116],bA [78,111,118],bA [68,101,99]]
def dayL:List ByteArray:=[bA [83,117,110],bA [77,111,110],bA [84,117,101],bA [87,101,100],bA [84,104,117],bA [70,114,105],bA [83,97,116]]
def Zdh (t:TS):Int×TS:=match idxL monL (ZaN t).1 1 with
 | some n=>(n,(ZaN t).2)
 | none=>(0,bad (ZaN t).2)
def ZdN (s:ByteArray) (t:TS):Int×TS:=match idxL dayL s 0 with
 | some n=>(n,t)
 | none=>(0,bad t)
def Zcz (s:ByteArray) (k:Nat):Int:=(ZaG s k).toNat
def ZdK (s:ByteArray):Nat:=if 4≤s.size∧s.extract 0 4=bA [108,97,115,116] then 2 else if 5<s.size∧Zcz s 4=61∧Zcz s 3=62 then 3 else if 5<s.size∧Zcz s 4=61∧Zcz s 3=60 then 4 else 1
def ZbJ (s:ByteArray) (t:TS):Frm×TS :=
 if ZdK s=2 then ((2,(ZdN (s.extract 4 s.size) t).1,0),(ZdN (s.extract 4 s.size) t).2)
 else if ZdK s=1 then ((1,0,(tNum s 1 2 t).1),(tNum s 1 2 t).2)
 else ((ZdK s,(ZdN (s.extract 0 3) t).1,(tNum (s.extract 5 s.size) 1 2 (ZdN (s.extract 0 3) t).2).1),(tNum (s.extract 5 s.size) 1 2 (ZdN (s.extract 0 3) t).2).2)
def Zgh (t:TS):Frm×TS:=ZbJ (ZaN t).1 (ZaN t).2
def tSix (s:ByteArray) (t:TS):Int×TS:=((tNum s 2 2 t).1,if (tNum s 2 2 t).1>59 then bad (tNum s 2 2 t).2 else (tNum s 2 2 t).2)
def Zev (l:List Bs) (t:TS):Int×TS:=match l with
 | [a,b]=>(3600*(tNum (bA a) 1 2 t).1+60*(tSix (bA b) (tNum (bA a) 1 2 t).2).1,(tSix (bA b) (tNum (bA a) 1 2 t).2).2)
 | [a,b,c]=>(3600*(tNum (bA a) 1 2 t).1+60*(tSix (bA b) (tNum (bA a) 1 2 t).2).1+(tSix (bA c) (tSix (bA b) (tNum (bA a) 1 2 t).2).2).1,(tSix (bA c) (tSix (bA b) (tNum (bA a) 1 2 t).2).2).2)
 | _=>(0,bad t)
def Zbt (s:ByteArray) (t:TS):Int×TS:=if s=bA [48] then (0,t) else Zev (cutC 58 (aB s)) t
def wsuA:ByteArray:=bA [63,119,115,117]
def Zc4 (c d:Int):Nat→Int
 | 0=>d
 | k+1=>if c=Zcz wsuA (k+1) then ((k+1:Nat):Int) else Zc4 c d k
def Zcx (s:ByteArray):Int:=Zcz s (s.size-1)
def ZdH (d:Int) (s:ByteArray) (t:TS):(Int×Int)×TS :=
 if s.size=0 then (((Zbt s t).1,d),(Zbt s t).2)
 else if digB (Zcx s)=true then (((Zbt s t).1,Zc4 (Zcx s) d 3),(Zbt s t).2)
 else let u:TS:=if Zcx s=Zcz wsuA (Zc4 (Zcx s) d 3).toNat then t else bad t
  (((Zbt (s.extract 0 (s.size-1)) u).1,Zc4 (Zcx s) d 3),(Zbt (s.extract 0 (s.size-1)) u).2)
def ZcU (d:Int) (t:TS):(Int×Int)×TS:=ZdH d (ZaN t).1 (ZaN t).2
def Zp2:ByteArray:=bA [111,110,108,121]
def maxA:ByteArray:=bA [109,97,120]
def tTo (f:Int) (s:ByteArray) (t:TS):Int×TS:=if s=Zp2 then (f,t) else if s=maxA then (2100,t) else tNum s 4 4 t
def ZeB (s:ByteArray):Bool:=decide (s≠⟨#[]⟩)&&(decide (s=bA [45])||Zcf s)
def ZbU {α β:Type}(f:TS→α×TS) (k:α→TS→β×TS) (t:TS):β×TS:=k (f t).1 (f t).2
def ret2 {α:Type}(a:α) (t:TS):α×TS:=(a,t)
def Zpt (t:TS):Int×TS:=tNum (ZaN t).1 4 4 (ZaN t).2
def tToN (f:Int) (t:TS):Int×TS:=tTo f (ZaN t).1 (ZaN t).2
def Zpv (t:TS):Int×TS:=Zbt (ZaN t).1 (ZaN t).2
def Zc0 (t:TS):ByteArray×TS:=(if (ZaN t).1=bA [45] then ⟨#[]⟩ else (ZaN t).1,if ZeB (ZaN t).1=true then (ZaN t).2 else bad (ZaN t).2)
def Zju:TS→Rul×TS :=
 ZbU Zew fun nm=>ZbU Zpt fun f=>ZbU (tToN f) fun t2=>ZbU Zdh fun m=>ZbU Zgh fun k=>ZbU (ZcU 1) fun c=>ZbU Zpv fun sv=>ZbU Zc0 fun l=>ret2 (nm,f,t2,m,k,c.1,c.2,sv,l)
def Zg2 (s:ByteArray):Int:=Zcz s 0
def ZfA (t:TS):Int×TS:=if (ZaN t).1.size≠0∧Zg2 (ZaN t).1=45 then (-(Zbt ((ZaN t).1.extract 1 (ZaN t).1.size) (ZaN t).2).1,(Zbt ((ZaN t).1.extract 1 (ZaN t).1.size) (ZaN t).2).2) else Zbt (ZaN t).1 (ZaN t).2
def ZdG (s:ByteArray) (t:TS):(Int×ByteArray)×TS :=
 if s=bA [45] then ((0,⟨#[]⟩),t)
 else if s.size≠0∧digB (Zg2 s)=true then (((Zbt s (if s=bA [48] then bad t else t)).1,⟨#[]⟩),(Zbt s (if s=bA [48] then bad t else t)).2)
 else ((0,s),if Zck s=true then t else bad t)
def Zpw (t:TS):(Int×ByteArray)×TS:=ZdG (ZaN t).1 (ZaN t).2
def Zht (t:TS):ByteArray×TS:=((ZaN t).1,if ZbS (ZaN t).1=true then (ZaN t).2 else bad (ZaN t).2)
def tDay (t:TS):Int×TS:=tNum (ZaN t).1 1 2 (ZaN t).2
def Zpu (c:Int×Int) (t:TS):Unit×TS:=((),if c.2=1 then bad t else t)
def ZgQ:TS→Unt×TS :=
 ZbU Zpt fun y=>ZbU Zdh fun m=>ZbU tDay fun d=>ZbU (ZcU 2) fun c=>ZbU (Zpu c) fun _=>ret2 ((y,m,d),c.1,c.2)
def untZ:Unt:=((0,0,0),0,0)
def tEnd (t:TS):(Bool×Unt)×TS:=if t.1=[] then ((true,untZ),t) else ((false,(ZgQ t).1),(ZgQ t).2)
def tEra:TS→Era×TS :=
 ZbU ZfA fun sh=>ZbU Zpw fun r=>ZbU Zht fun f=>ZbU tEnd fun u=>ret2 (sh,r.2,r.1,f,u.1,u.2)
def Zd9:List ByteArray→Option (ByteArray×List ByteArray)
 | []=>none
 | x::l=>some (x,l)
abbrev RM (α:Type):=List ByteArray→Option (α×List ByteArray)
def ZbI {α β:Type}(f:RM α) (k:α→RM β):RM β:=fun l=>match f l with
 | none=>none
 | some p=>k p.1 p.2
def retR {α:Type}(a:α):RM α:=fun l=>some (a,l)
def Zcq {α:Type}(o:Option α):RM α:=fun l=>match o with
 | none=>none
 | some a=>some (a,l)
def ZpU:RM ByteArray:=ZbI Zd9 fun s=>Zcq (if Zck s=true then some s else none)
def ZpV:RM Int:=ZbI Zd9 fun s=>Zcq (idxL monL s 1)
def sixV (s:ByteArray):Option Int:=match numV s 2 2 with
 | some n=>if n>59 then none else some n
 | none=>none
def Zfi (s:ByteArray):Option Int:=if s=bA [48] then some 0 else match cutC 58 (aB s) with
 | [a,b]=>match numV (bA a) 1 2,sixV (bA b) with
  | some x,some y=>some (3600*x+60*y)
  | _,_=>none
 | [a,b,c]=>match numV (bA a) 1 2,sixV (bA b),sixV (bA c) with
  | some x,some y,some z=>some (3600*x+60*y+z)
  | _,_,_=>none
 | _=>none
def formV (s:ByteArray):Option Frm :=
 if ZdK s=2 then (match idxL dayL (s.extract 4 s.size) 0 with
  | some w=>some (2,w,0)
  | none=>none)
 else if ZdK s=1 then (match numV s 1 2 with
  | some n=>some (1,0,n)
  | none=>none)
 else match idxL dayL (s.extract 0 3) 0,numV (s.extract 5 s.size) 1 2 with
  | some w,some n=>some ((ZdK s:Int),w,n)
  | _,_=>none
def wsuK (c:Int):Option Int:=if c=119 then some 1 else if c=115 then some 2 else if c=117 then some 3 else none
def ZnA (d:Int) (s:ByteArray):Option (Int×Int):=match (if s.size=0 then none else wsuK (Zcx s)) with
 | some k=>(match Zfi (s.extract 0 (s.size-1)) with
  | some n=>some (n,k)
  | none=>none)
 | none=>(match Zfi s with
  | some n=>some (n,d)
  | none=>none)
def toV (f:Int) (s:ByteArray):Option Int:=if s=Zp2 then some f else if s=maxA then some 2100 else numV s 4 4
def ZlY (s:ByteArray):Option ByteArray:=if ZeB s=true then some (if s=bA [45] then ⟨#[]⟩ else s) else none
def rRule:RM Rul :=
 ZbI ZpU fun nm=>ZbI (ZbI Zd9 fun s=>Zcq (numV s 4 4)) fun f=>ZbI (ZbI Zd9 fun s=>Zcq (toV f s)) fun t2=>ZbI ZpV fun m=>ZbI (ZbI Zd9 fun s=>Zcq (formV s)) fun k =>
  ZbI (ZbI Zd9 fun s=>Zcq (ZnA 1 s)) fun c=>ZbI (ZbI Zd9 fun s=>Zcq (Zfi s)) fun sv=>ZbI (ZbI Zd9 fun s=>Zcq (ZlY s)) fun l=>retR (nm,f,t2,m,k,c.1,c.2,sv,l)
def ZpJ (s:ByteArray):Option Int:=if s.size≠0∧Zg2 s=45 then (match Zfi (s.extract 1 s.size) with
  | some n=>some (-n)
  | none=>none) else Zfi s
def ZpM (s:ByteArray):Option (Int×ByteArray) :=
 if s=bA [45] then some (0,⟨#[]⟩)
 else if s.size≠0∧digB (Zg2 s)=true∧s≠bA [48] then (match Zfi s with
  | some n=>some (n,⟨#[]⟩)
  | none=>none)
 else if Zck s=true then some (0,s) else none
def ZpT:RM Unt :=
 ZbI (ZbI Zd9 fun s=>Zcq (numV s 4 4)) fun y=>ZbI ZpV fun m=>ZbI (ZbI Zd9 fun s=>Zcq (numV s 1 2)) fun d=>ZbI (ZbI Zd9 fun s=>Zcq (ZnA 2 s)) fun c=>ZbI (Zcq (if c.2=1 then none else some ())) fun _=>retR ((y,m,d),c.1,c.2)
def rEnd:RM (Bool×Unt):=fun l=>if l=[] then some ((true,untZ),l) else match ZpT l with
 | some p=>some ((false,p.1),p.2)
 | none=>none
def rEra:RM Era :=
 ZbI (ZbI Zd9 fun s=>Zcq (ZpJ s)) fun sh=>ZbI (ZbI Zd9 fun s=>Zcq (ZpM s)) fun r=>ZbI (ZbI Zd9 fun s=>Zcq (if ZbS s=true then some s else none)) fun f=>ZbI rEnd fun u=>retR (sh,r.2,r.1,f,u.1,u.2)
def Agr {α:Type}(f:TS→α×TS) (g:RM α):Prop := ∀ l,(f (l,true)).2.2=true∧match g l with
 | none=>(f (l,false)).2.2=true
 | some p=>f (l,false)=(p.1,p.2,false)
theorem Agr.bind {α β:Type}{f:TS→α×TS}{g:RM α}{k:α→TS→β×TS}{m:α→RM β}(h:Agr f g) (hk : ∀ a,Agr (k a) (m a)):Agr (ZbU f k) (ZbI g m):=by
 have stay : ∀ (a:α) (t:TS),t.2=true→(k a t).2.2=true:=by
  rintro a ⟨l,b⟩ rfl;exact (hk a l).1
 intro l
 refine ⟨stay _ _ (h l).1,?_⟩
 have h2:=(h l).2
 unfold ZbI ZbU
 revert h2
 cases hg:g l with
 | none=>exact fun h2=>stay _ _ h2
 | some p=>intro h2;simp only at h2;rw [h2];exact (hk p.1 p.2).2
theorem Agr.ret {α:Type}(a:α):Agr (ret2 a) (retR a):=fun l=>⟨rfl,rfl⟩
theorem agr_next:Agr ZaN Zd9:=by
 intro l
 cases l with
 | nil=>exact ⟨rfl,rfl⟩
 | cons x l=>exact ⟨rfl,rfl⟩
def AgO {α:Type}(o:Option α) (x:α×TS) (l:List ByteArray):Prop:=match o with
 | none=>x.2.2=true
 | some a=>x=(a,l,false)
theorem Agr.lift {α:Type}{f:TS→α×TS}{o:Option α}(hb : ∀ t:TS,t.2=true→(f t).2.2=true) (hf : ∀ l,AgO o (f (l,false)) l):Agr f (Zcq o):=by
 intro l
 refine ⟨hb _ rfl,?_⟩
 have:=hf l
 unfold Zcq
 cases o <;> exact this
theorem Zkb (s:ByteArray) (a b:Int):Agr (tNum s a b) (Zcq (numV s a b)):=by
 refine Agr.lift (fun t h=>?_) (fun l=>?_)
 ·unfold tNum;split <;> simp_all
 ·unfold tNum;cases numV s a b <;> rfl
theorem ZdO {s:ByteArray}{a b:Int}{t:TS}(h:t.2=true):(tNum s a b t).2.2=true:=by unfold tNum;split <;> simp_all
theorem Ziy {s:ByteArray}{t:TS}(h:t.2=true):(ZdN s t).2.2=true:=by unfold ZdN;split <;> simp_all
theorem Zde {s:ByteArray}{t:TS}(h:t.2=true):(tSix s t).2.2=true:=by unfold tSix;have:=ZdO (s:=s) (a:=2) (b:=2) h;split <;> simp_all
theorem Zcd {s:ByteArray}{t:TS}(h:t.2=true):(Zbt s t).2.2=true:=by
 unfold Zbt
 split
 ·exact h
 ·unfold Zev
  split
  ·exact Zde (ZdO h)
  ·exact Zde (Zde (ZdO h))
  ·rfl
theorem Zdf {s:ByteArray}{a b n:Int}{t:TS}(h:numV s a b=some n):tNum s a b t=(n,t):=by unfold tNum;rw [h]
theorem Zdg {s:ByteArray}{a b:Int}{t:TS}(h:numV s a b=none):tNum s a b t=(0,bad t):=by unfold tNum;rw [h]
theorem Zhq {s:ByteArray}{n:Int}{t:TS}(h:sixV s=some n):tSix s t=(n,t):=by
 unfold sixV at h
 split at h
 ·rename_i m hm
  unfold tSix
  rw [Zdf hm]
  split at h
  ·cases h
  ·rename_i hle;cases h;simp [hle]
 ·cases h
theorem Zhr {s:ByteArray}{t:TS}(h:sixV s=none):(tSix s t).2.2=true:=by
 unfold sixV at h
 split at h
 ·rename_i m hm
  unfold tSix
  rw [Zdf hm]
  split at h
  ·rename_i hle;simp [hle]
  ·cases h
 ·rename_i hm;unfold tSix;rw [Zdg hm];simp
theorem ZeZ (s:ByteArray):Agr (Zbt s) (Zcq (Zfi s)):=by
 refine Agr.lift (fun t h=>Zcd h) (fun l=>?_)
 unfold Zbt Zfi
 by_cases h0:s=bA [48]
 ·simp only [if_pos h0];rfl
 ·simp only [if_neg h0]
  obtain ⟨y,hy⟩ : ∃ y,y=cutC 58 (aB s):=⟨_,rfl⟩
  simp only [←hy]
  clear hy
  match y with
  | []=>rfl
  | [_]=>rfl
  | _::_::_::_::_=>rfl
  | [a,b] =>
   simp only [Zev]
   cases h1:numV (bA a) 1 2 with
   | none=>rw [Zdg h1];exact Zde rfl
   | some x =>
    rw [Zdf h1]
    cases h2:sixV (bA b) with
    | none=>exact Zhr h2
    | some y=>simp only;rw [Zhq h2];rfl
  | [a,b,c] =>
   simp only [Zev]
   cases h1:numV (bA a) 1 2 with
   | none=>rw [Zdg h1];exact Zde (Zde rfl)
   | some x =>
    rw [Zdf h1]
    cases h2:sixV (bA b) with
    | none=>exact Zde (Zhr h2)
    | some y =>
     simp only;rw [Zhq h2]
     cases h3:sixV (bA c) with
     | none=>exact Zhr h3
     | some z=>simp only;rw [Zhq h3];rfl
theorem agr_form (s:ByteArray):Agr (ZbJ s) (Zcq (formV s)):=by
 refine Agr.lift (fun t h=>?_) (fun l=>?_)
 ·unfold ZbJ
  split
  ·exact Ziy h
  ·split
   ·exact ZdO h
   ·exact ZdO (Ziy h)
 ·unfold ZbJ formV
  by_cases hk2:ZdK s=2
  ·simp only [if_pos hk2]
   unfold ZdN
   cases h1:idxL dayL (s.extract 4 s.size) 0 <;> rfl
  ·simp only [if_neg hk2]
   by_cases hk1:ZdK s=1
   ·simp only [if_pos hk1]
    cases h1:numV s 1 2 with
    | none=>rw [Zdg h1];rfl
    | some n=>rw [Zdf h1];rfl
   ·simp only [if_neg hk1]
    cases h1:idxL dayL (s.extract 0 3) 0 with
    | none=>refine ZdO ?_;unfold ZdN;rw [h1]
    | some w =>
     unfold ZdN;rw [h1]
     cases h2:numV (s.extract 5 s.size) 1 2 with
     | none=>rw [Zdg h2];rfl
     | some n=>rw [Zdf h2];rfl
theorem kindU3 (c d:Int):Zc4 c d 3=(wsuK c).getD d:=by
 unfold Zc4 Zc4 Zc4 Zc4 wsuK
 rw [show Zcz wsuA (2+1)=117 by decide,show Zcz wsuA (1+1)=115 by decide,show Zcz wsuA (0+1)=119 by decide]
 split
 ·subst c;rfl
 ·split
  ·subst c;rfl
  ·split
   ·subst c;rfl
   ·rfl
theorem wsuK_dig {c k:Int}(h:wsuK c=some k):digB c=false∧1≤k∧k≤3∧c=Zcz wsuA k.toNat:=by
 unfold wsuK at h
 split at h
 ·subst c;cases h;decide
 ·split at h
  ·subst c;cases h;decide
  ·split at h
   ·subst c;cases h;decide
   ·cases h
theorem wsu_lit (k:Int) (h:1≤k∧k≤3):wsuK (Zcz wsuA k.toNat)=some k:=by
 obtain ⟨h1,h2⟩:=h
 have:k=1∨k=2∨k=3:=by omega
 rcases this with rfl | rfl | rfl <;> decide
theorem ZiY {x:UInt8} : ∀ {l z:Bs},cutC x l=[z]→l=z
 | [],z,h=>by simp [cutC] at h;exact h.symm
 | c::l,z,h=>by
  unfold cutC at h
  split at h
  ·simp only [List.cons.injEq] at h;exact absurd h.2 (Zj1 x l)
  ·split at h
   ·rename_i he;exact absurd he (Zj1 x l)
   ·rename_i y ys he
    simp only [List.cons.injEq] at h
    obtain ⟨rfl,rfl⟩:=h
    rw [ZiY he]
theorem Zhh (x:UInt8) : ∀ {l:Bs}{ys:List Bs}{y:Bs},cutC x l=ys++[y] → ∃ p,l=p++y
 | [],ys,y,h=>by
  cases ys with
  | nil=>simp [cutC] at h;exact ⟨[],by simp [h]⟩
  | cons a ys=>simp [cutC] at h
 | c::l,ys,y,h=>by
  unfold cutC at h
  split at h
  ·cases ys with
   | nil=>simp at h;exact absurd h.2 (Zj1 x l)
   | cons a ys =>
    simp only [List.cons_append,List.cons.injEq] at h
    obtain ⟨p,hp⟩:=Zhh x h.2
    exact ⟨c::p,by rw [hp];rfl⟩
  ·split at h
   ·rename_i he;exact absurd he (Zj1 x l)
   ·rename_i z zs he
    cases ys with
    | nil =>
     simp only [List.nil_append,List.cons.injEq] at h
     obtain ⟨rfl,rfl⟩:=h
     obtain ⟨p,hp⟩:=Zhh x (ys:=[]) (y:=z) (by rw [he];rfl)
     have h0:=ZiY he
     exact ⟨[],by rw [←h0];rfl⟩
    | cons a ys =>
     simp only [List.cons_append,List.cons.injEq] at h
     obtain ⟨p,hp⟩:=Zhh x (l:=l) (ys:=z::ys) (y:=y) (by rw [he,h.2];rfl)
     exact ⟨c::p,by rw [hp];rfl⟩
theorem Zk6 : ∀ {y:Bs}(hy:y≠[]),y.drop (y.length-1)=[y.getLast hy]
 | [c],_=>rfl
 | c::d::l,_=>by have:=Zk6 (y:=d::l) (by simp);simpa using this
theorem Zqp {s:ByteArray}{p y:Bs}(h:aB s=p++y) (hy:y≠[]) : ∃ c∈y,Zcx s=(c.toNat:Int):=by
 refine ⟨y.getLast hy,List.getLast_mem hy,?_⟩
 have hl:s.size=p.length+y.length:=by rw [←ZdY,h,List.length_append]
 have hp:0<y.length:=List.length_pos_iff.2 hy
 have h0:s.size-1<s.size:=by omega
 have e1:(aB s).drop (s.size-1)=ZaG s (s.size-1)::(aB s).drop (s.size-1+1):=ZeM h0
 have e2:(aB s).drop (s.size-1)=[y.getLast hy]:=by
  rw [h,show s.size-1=p.length+(y.length-1) by omega,List.drop_append,List.drop_of_length_le (by omega),List.nil_append,Nat.add_sub_cancel_left]
  exact Zk6 hy
 rw [e2] at e1
 simp only [List.cons.injEq] at e1
 unfold Zcx Zcz
 rw [e1.1]
theorem ZkO {s:ByteArray}{a b n:Int}(h:numV s a b=some n):wi s.size a b=true∧allB digB s=true∧n=decL 0 (aB s):=by
 unfold numV at h
 split at h
 ·rename_i hc;cases h;exact ⟨hc.1,hc.2,rfl⟩
 ·cases h
theorem ZpI {s:ByteArray}{n:Int}(h:sixV s=some n):s.size=2∧allB digB s=true∧n=decL 0 (aB s)∧n≤59:=by
 unfold sixV at h
 split at h
 ·rename_i m hm
  obtain ⟨h1,h2,h3⟩:=ZkO hm
  split at h
  ·cases h
  ·cases h
   unfold wi at h1
   simp at h1
   exact ⟨by omega,h2,h3,by omega⟩
 ·cases h
theorem Zka {p:Int→Bool}{l:Bs}(h:allB p (bA l)=true) {c:UInt8}(hc:c∈l):p c.toNat=true:=by
 unfold allB at h
 rw [List.all_eq_true] at h
 exact h c (by simpa [bA] using hc)
theorem Zky {s:ByteArray}{n:Int}(h:Zfi s=some n):s.size≠0∧digB (Zcx s)=true:=by
 have key : ∀ {ys:List Bs} {y:Bs} {m:Int},cutC 58 (aB s)=ys++[y]→sixV (bA y)=some m→s.size≠0∧digB (Zcx s)=true:=by
  intro ys y m h1 h2
  obtain ⟨p,hp⟩:=Zhh 58 h1
  obtain ⟨z1,z2,_⟩:=ZpI h2
  rw [ZdL] at z1
  obtain ⟨c,hc,e⟩:=Zqp hp (by rintro rfl;simp at z1)
  refine ⟨fun e0=>?_,by rw [e];exact Zka z2 hc⟩
  have:=congrArg List.length hp
  rw [ZdY,List.length_append] at this;omega
 unfold Zfi at h
 split at h
 ·rename_i e;subst e;decide
 ·split at h
  ·rename_i a b hc
   split at h
   ·rename_i x y h1 h2;exact key (ys:=[a]) hc h2
   ·cases h
  ·rename_i a b c hc
   split at h
   ·rename_i x y z h1 h2 h3;exact key (ys:=[a,b]) hc h3
   ·cases h
  ·cases h
theorem agr_at {α:Type}{f:TS→α×TS}{o:Option α}(h:Agr f (Zcq o)) (l:List ByteArray):AgO o (f (l,false)) l:=by
 have:=(h l).2
 unfold Zcq at this
 unfold AgO
 cases o <;> exact this
theorem Zle {d:Int}(hd:d=1∨d=2) (s:ByteArray):Agr (ZdH d s) (Zcq (ZnA d s)):=by
 refine Agr.lift (fun t h=>?_) (fun l=>?_)
 ·unfold ZdH
  split
  ·exact Zcd h
  ·split
   ·exact Zcd h
   ·refine Zcd ?_
    split
    ·exact h
    ·rfl
 ·have hS:=agr_at (ZeZ s) l
  have hX:=agr_at (ZeZ (s.extract 0 (s.size-1))) l
  unfold ZdH ZnA
  by_cases h0:s.size=0
  ·rw [if_pos h0,if_pos h0]
   cases h1:Zfi s with
   | none=>rw [h1] at hS;exact hS
   | some n=>exact absurd h0 (Zky h1).1
  ·rw [if_neg h0,if_neg h0,kindU3]
   cases hk:wsuK (Zcx s) with
   | none =>
    simp only [Option.getD_none]
    cases h1:Zfi s with
    | none =>
     rw [h1] at hS
     by_cases hdg:digB (Zcx s)=true
     ·rw [if_pos hdg];exact hS
     ·rw [if_neg hdg]
      by_cases e:Zcx s=Zcz wsuA d.toNat
      ·exfalso
       have:=wsu_lit d (by omega)
       rw [←e,hk] at this;cases this
      ·rw [if_neg e]
       exact Zcd (t:=bad (l,false)) rfl
    | some n =>
     rw [h1] at hS
     rw [if_pos (Zky h1).2]
     have hS':Zbt s (l,false)=(n,l,false):=hS
     rw [hS'];rfl
   | some k =>
    obtain ⟨w1,w2,w3,w4⟩:=wsuK_dig hk
    simp only [Option.getD_some]
    rw [if_neg (by rw [w1];exact Bool.false_ne_true),if_pos w4]
    cases h1:Zfi (s.extract 0 (s.size-1)) with
    | none=>rw [h1] at hX;exact hX
    | some n =>
     rw [h1] at hX
     have hX':Zbt (s.extract 0 (s.size-1)) (l,false)=(n,l,false):=hX
     rw [hX'];rfl
theorem agr_to (f:Int) (s:ByteArray):Agr (tTo f s) (Zcq (toV f s)):=by
 unfold tTo toV
 split
 ·exact Agr.lift (fun t h=>h) (fun l=>rfl)
 ·split
  ·exact Agr.lift (fun t h=>h) (fun l=>rfl)
  ·exact Zkb s 4 4
theorem agr_name:Agr Zew ZpU:=by
 refine (Agr.bind agr_next (k:=fun s t=>(s,if Zck s=true then t else bad t)) fun s=>?_:Agr (ZbU ZaN _) _)
 refine Agr.lift (fun t h=>by dsimp only;split;exact h;rfl) (fun l=>?_)
 cases Zck s <;> rfl
theorem agr_month:Agr Zdh ZpV:=by
 refine (Agr.bind agr_next (k:=fun s t=>match idxL monL s 1 with
  | some n=>(n,t)
  | none=>(0,bad t)) fun s=>?_:Agr (ZbU ZaN _) _)
 refine Agr.lift (fun t h=>by split;exact h;rfl) (fun l=>?_)
 cases idxL monL s 1 <;> rfl
theorem agr_letter:Agr Zc0 (ZbI Zd9 fun s=>Zcq (ZlY s)):=by
 refine (Agr.bind agr_next (k:=fun s t=>(if s=bA [45] then ⟨#[]⟩ else s,if ZeB s=true then t else bad t)) fun s=>?_:Agr (ZbU ZaN _) _)
 refine Agr.lift (fun t h=>by dsimp only;generalize ZeB s=b;cases b;rfl;exact h) (fun l=>?_)
 unfold ZlY
 cases ZeB s <;> rfl
theorem agr_rule:Agr Zju rRule:=by
 refine agr_name.bind fun nm=>?_
 refine (agr_next.bind fun s=>Zkb s 4 4).bind fun f=>?_
 refine (agr_next.bind fun s=>agr_to f s).bind fun t2=>?_
 refine agr_month.bind fun m=>?_
 refine (agr_next.bind fun s=>agr_form s).bind fun k=>?_
 refine (agr_next.bind fun s=>Zle (.inl rfl) s).bind fun c=>?_
 refine (agr_next.bind fun s=>ZeZ s).bind fun sv=>?_
 exact agr_letter.bind fun l=>Agr.ret _
theorem agr_shift:Agr ZfA (ZbI Zd9 fun s=>Zcq (ZpJ s)):=by
 refine (Agr.bind agr_next (k:=fun s t=>if s.size≠0∧Zg2 s=45 then (-(Zbt (s.extract 1 s.size) t).1,(Zbt (s.extract 1 s.size) t).2) else Zbt s t) fun s=>?_:Agr (ZbU ZaN _) _)
 unfold ZpJ
 split
 ·refine Agr.lift (fun t h=>Zcd h) (fun l=>?_)
  have hS:=(ZeZ (s.extract 1 s.size) l).2
  unfold Zcq at hS
  cases h1:Zfi (s.extract 1 s.size) with
  | none=>simp only [h1] at hS ⊢;exact hS
  | some n=>simp only [h1] at hS ⊢;rw [hS];rfl
 ·exact ZeZ s
theorem Zp8:Zck (bA [48])=false:=by decide
theorem Zq6 (s:ByteArray):Agr (ZdG s) (Zcq (ZpM s)):=by
 unfold ZdG ZpM
 split
 ·exact Agr.lift (fun t h=>h) (fun l=>rfl)
 ·split
  ·rename_i hm hd
   by_cases h0:s=bA [48]
   ·rw [if_neg (by rintro ⟨_,_,h⟩;exact h h0),if_neg (by rw [h0,Zp8];simp)]
    refine Agr.lift (fun t h=>Zcd (by rw [if_pos h0])) (fun l=>?_)
    exact Zcd (by rw [if_pos h0])
   ·rw [if_pos ⟨hd.1,hd.2,h0⟩]
    simp only [if_neg h0]
    refine Agr.lift (fun t h=>Zcd h) (fun l=>?_)
    have hS:=(ZeZ s l).2
    unfold Zcq at hS
    cases h1:Zfi s with
    | none=>simp only [h1] at hS ⊢;exact hS
    | some n=>simp only [h1] at hS ⊢;rw [hS];rfl
  ·rename_i hm hd
   rw [if_neg (by rintro ⟨h1,h2,_⟩;exact hd ⟨h1,h2⟩)]
   refine Agr.lift (fun t h=>by dsimp only;split;exact h;rfl) (fun l=>?_)
   cases Zck s <;> rfl
theorem agr_format:Agr Zht (ZbI Zd9 fun s=>Zcq (if ZbS s=true then some s else none)):=by
 refine (Agr.bind agr_next (k:=fun s t=>(s,if ZbS s=true then t else bad t)) fun s=>?_:Agr (ZbU ZaN _) _)
 refine Agr.lift (fun t h=>by dsimp only;split;exact h;rfl) (fun l=>?_)
 cases ZbS s <;> rfl
theorem Zq5:Agr ZgQ ZpT:=by
 refine (agr_next.bind fun s=>Zkb s 4 4).bind fun y=>?_
 refine agr_month.bind fun m=>?_
 refine (agr_next.bind fun s=>Zkb s 1 2).bind fun d=>?_
 refine (agr_next.bind fun s=>Zle (.inr rfl) s).bind fun c=>?_
 refine Agr.bind (Agr.lift (fun t h=>?_) (fun l=>?_)) fun _=>Agr.ret _
 ·unfold Zpu;dsimp only;split <;> simp_all
 ·unfold Zpu;by_cases h:c.2=1 <;> simp [h] <;> rfl
theorem agr_end:Agr tEnd rEnd:=by
 intro l
 have hU:=Zq5 l
 unfold tEnd rEnd
 by_cases h0:l=[]
 ·subst h0;exact ⟨rfl,rfl⟩
 ·simp only [if_neg h0]
  refine ⟨hU.1,?_⟩
  revert hU
  cases ZpT l with
  | none=>exact fun hU=>hU.2
  | some p=>intro hU;have h2:=hU.2;simp only at h2 ⊢;rw [h2]
theorem agr_era:Agr tEra rEra:=by
 refine agr_shift.bind fun sh=>?_
 refine (agr_next.bind fun s=>Zq6 s).bind fun r=>?_
 refine agr_format.bind fun f=>?_
 exact agr_end.bind fun u=>Agr.ret _
end Go.Proofs.YtlekejpogddndaaGreatDoor
end
section
namespace Go.Proofs.YtlekejpogddndaaGreatDoor
open Go.Ab
def refN (n:Int):Bool:=letB n||digB n||decide (n=95)||decide (n=45)||decide (n=47)||decide (n=43)
theorem Zqa (c:UInt8):ZkR c.toNat=refN c.toNat:=by
 have hc:((c.toNat:Int).toNat.toUInt8)=c:=by simp
 unfold ZkR refN
 rw [hc,←Lib.contains_iff_indexByte]
 have e : ∀ x:UInt8,decide ((c.toNat:Int)=(x.toNat:Int))=(c==x):=by
  intro x
  rw [Bool.eq_iff_iff,decide_eq_true_iff,beq_iff_eq]
  exact ⟨fun h=>UInt8.toNat_inj.1 (by omega),fun h=>by rw [h]⟩
 rw [show (95:Int)=((95:UInt8).toNat:Int) from rfl,show (45:Int)=((45:UInt8).toNat:Int) from rfl,show (47:Int)=((47:UInt8).toNat:Int) from rfl,show (43:Int)=((43:UInt8).toNat:Int) from rfl,e,e,e,e]
 simp [List.contains_cons,Bool.or_assoc] <;> rfl
def fmtL:Nat→Bool→Bs→Bool
 | m,_,[]=>decide (m≤1)
 | m,b,c::l=>if c=47 then !b&&!l.isEmpty&&fmtL (m+1) false l else if c=37 then decide (l.head?=some 115)&&fmtL (m+1) false l else Zbl c.toNat&&fmtL m false l
abbrev plL (l:Bs):Bool:=allB Zbl (bA l)
theorem ZlS:plL []=true:=rfl
theorem ZfI (c:UInt8) (l:Bs):plL (c::l)=(Zbl c.toNat&&plL l):=by simp [plL,allB,bA]
theorem pl47:Zbl (47:UInt8).toNat=false:=by decide
theorem pl37:Zbl (37:UInt8).toNat=false:=by decide
theorem pl115:Zbl (115:UInt8).toNat=true:=by decide
theorem pl115':Zbl 115=true:=by decide
theorem Zl5 : ∀ (l:Bs) (m:Nat) (b:Bool),2≤m→fmtL m b l=false
 | [],m,b,h=>by unfold fmtL;simp;omega
 | c::l,m,b,h=>by
  unfold fmtL
  rw [Zl5 l (m+1) false (by omega),Zl5 l m false h]
  simp
theorem ZjT : ∀ (l:Bs),fmtL 1 false l=plL l
 | []=>rfl
 | c::l=>by
  unfold fmtL
  rw [Zl5 l (1+1) false (by omega),ZjT l,ZfI]
  split
  ·rename_i h;subst h;rw [pl47];simp
  ·split
   ·rename_i h;subst h;rw [pl37];simp
   ·rfl
theorem plL_no {c:UInt8}{l:Bs}(h:Zbl c.toNat=false) (hc:c∈l):plL l=false:=by
 cases hp:plL l
 ·rfl
 ·rw [Zka hp hc] at h;cases h
def cutP (l:Bs):Bool:=plL (Lib.cut l [37,115]).1&&plL (Lib.cut l [37,115]).2.1
theorem Zmf (l:Bs):cutP l=if 0≤Lib.index l [37,115] then plL (l.take (Lib.index l [37,115]).toNat)&&plL (l.drop ((Lib.index l [37,115]).toNat+2)) else plL l:=by
 unfold cutP Lib.cut
 split <;> simp [ZlS]
theorem Zn9 {c:UInt8}{l sub:Bs}(h:sub.isPrefixOf (c::l)=false):Lib.index (c::l) sub=if Lib.index l sub = -1 then -1 else Lib.index l sub+1:=by
 rw [Lib.index,h];simp
theorem Zk8 {c:UInt8}{l:Bs}(h:[37,115].isPrefixOf (c::l)=false):cutP (c::l)=(Zbl c.toNat&&cutP l):=by
 have hge:=Lib.index_ge l [37,115]
 rw [Zmf,Zmf,Zn9 h]
 by_cases e:Lib.index l [37,115] = -1
 ·rw [e];simp [ZfI]
 ·obtain ⟨k,hk⟩ : ∃ k:Nat,Lib.index l [37,115]=k:=⟨(Lib.index l [37,115]).toNat,by omega⟩
  rw [hk]
  rw [if_neg (show ¬(k:Int) = -1 by omega),if_pos (by omega),if_pos (by omega)]
  rw [show ((k:Int)+1).toNat=k+1 by omega,show ((k:Int)).toNat=k by omega]
  rw [List.take_succ_cons,ZfI,show k+1+2=(k+2)+1 by omega,List.drop_succ_cons,Bool.and_assoc]
theorem Zqy : ∀ (l:Bs) (b:Bool),47 ∉ l→fmtL 0 b l=cutP l
 | [],b,h=>rfl
 | c::l,b,h=>by
  have hc:c≠47:=fun e=>h (by simp [e])
  have hl:47 ∉ l:=fun e=>h (by simp [e])
  unfold fmtL
  rw [if_neg hc]
  by_cases hp:c=37
  ·subst hp
   rw [if_pos rfl]
   cases l with
   | nil=>decide
   | cons d l =>
    by_cases hd:d=115
    ·subst hd
     rw [ZjT,Zmf]
     have e:Lib.index (37::115::l) [37,115]=0:=by unfold Lib.index;simp [List.isPrefixOf]
     rw [e]
     simp [ZlS,ZfI,pl115,pl115']
    ·rw [Zk8 (by simp [List.isPrefixOf];exact fun e=>hd e.symm),pl37]
     simp [hd]
  ·rw [if_neg hp,Zk8 (by simp [List.isPrefixOf];intro e;exact absurd e.symm hp),Zqy l false hl]
theorem Zk1 : ∀ (l:Bs) (b:Bool),47∈l → ∃ k:Nat,Lib.index l [47]=k∧fmtL 0 b l=(!(b&&decide (k=0))&&!(l.drop (k+1)).isEmpty&&plL (l.take k)&&plL (l.drop (k+1)))
 | [],b,h=>by cases h
 | c::l,b,h=>by
  by_cases hc:c=47
  ·subst hc
   refine ⟨0,by unfold Lib.index;simp [List.isPrefixOf],?_⟩
   unfold fmtL
   rw [if_pos rfl,ZjT]
   simp [ZlS]
  ·have hl:47∈l:=by
    rcases List.mem_cons.1 h with e | e
    ·exact absurd e.symm hc
    ·exact e
   obtain ⟨k,hk,hf⟩:=Zk1 l false hl
   refine ⟨k+1,?_,?_⟩
   ·unfold Lib.index
    rw [hk]
    rw [if_neg (by simp [List.isPrefixOf];exact fun e=>hc e.symm),if_neg (by simp)]
    push_cast;rfl
   ·unfold fmtL
    rw [if_neg hc,List.take_succ_cons,List.drop_succ_cons,ZfI]
    by_cases hp:c=37
    ·subst hp
     rw [if_pos rfl,ZjT,plL_no pl47 hl,pl37]
     simp
    ·rw [if_neg hp,hf]
     simp only [Bool.false_and,Bool.not_false,Bool.true_and]
     cases Zbl c.toNat <;> simp
theorem ZiO (l:Bs):(!l.isEmpty)=decide (bA l≠⟨#[]⟩):=by
 cases l with
 | nil=>rfl
 | cons c l =>
  have:bA (c::l)≠⟨#[]⟩:=fun e=>by
   have:=congrArg ByteArray.size e
   rw [ZdL] at this;cases this
  simp [this]
theorem Zl4 (s:ByteArray):ZbS s=(decide (s.size≠0)&&decide (s.size≤24)&&fmtL 0 true (aB s)):=by
 unfold ZbS
 by_cases hs:s.size=0∨24<s.size
 ·rw [if_pos hs]
  rcases hs with h | h
  ·simp [h]
  ·simp [show ¬s.size≤24 by omega]
 ·rw [if_neg hs]
  have h1:s.size≠0:=fun e=>hs (.inl e)
  have h2:s.size≤24:=by omega
  simp only [h1,h2,ne_eq,not_false_eq_true,decide_true,Bool.true_and]
  by_cases hm:(47:UInt8)∈aB s
  ·obtain ⟨k,hk,hf⟩:=Zk1 (aB s) true hm
   have hcut:cutL s [47]=((aB s).take k,(aB s).drop (k+1),true):=by
    unfold cutL Lib.cut
    rw [hk,if_pos (by omega)]
    simp
   rw [hcut,hf,if_pos rfl]
   simp only
   rw [ZiO]
   have e:decide (bA ((aB s).take k)≠⟨#[]⟩)=!(true&&decide (k=0)):=by
    rw [←ZiO]
    cases k with
    | zero=>rfl
    | succ k =>
     have:0<(aB s).length:=by rw [ZdY];omega
     cases hq:aB s with
     | nil=>rw [hq] at this;cases this
     | cons c l=>simp
   rw [e]
  ·have hi:Lib.index (aB s) [47] = -1:=by
    have hge:=Lib.index_ge (aB s) [47]
    by_cases e:Lib.index (aB s) [47] = -1
    ·exact e
    ·obtain ⟨k,hk⟩ : ∃ k:Nat,Lib.index (aB s) [47]=k:=⟨(Lib.index (aB s) [47]).toNat,by omega⟩
     obtain ⟨_,hk1,hk2⟩:=ZfM hk
     exact absurd (List.mem_of_getElem? hk2) hm
   have hcut:(cutL s [47]).2.2=false:=by
    unfold cutL Lib.cut
    rw [hi];rfl
   rw [if_neg (by rw [hcut];simp),Zqy _ _ hm]
   rfl
end Go.Proofs.YtlekejpogddndaaGreatDoor
end
section
namespace Go.Proofs.YtlekejpogddndaaGreatDoor
open Go.Ab Go.RowKit Civ
def c190:AC:=(Sr [Mb 2 false] (Sr [Mv 3 0,Oo 4 (.cvi .i64 (.tmp 3)),Cl 5 73 [(.tmp 4),(Ci 97),(Ci 122)],Mv 6 5,Of 7 6 (mt 0),Of 8 6 (.cvi .i64 (.tmp 7)),Of 9 6 (.call (.func 73) [(.tmp 8),(Ci 65),(Ci 90)]),Oo 10 (.pick (.tmp 6) (.const (.bool true)) (.tmp 9)),Mv 2 10] .ret))
theorem k190:ZaD Tryz.prog 190=some ⟨c190,[(.tmp 2)],11⟩:=by kernel_rfl
def c191:AC:=(Sr [Mb 2 false] (Sr [Mv 3 0,Oo 4 (.cvi .i64 (.tmp 3)),Cl 5 73 [(.tmp 4),(Ci 48),(Ci 57)],Mv 2 5] .ret))
theorem k191:ZaD Tryz.prog 191=some ⟨c191,[(.tmp 2)],6⟩:=by kernel_rfl
def c115:AC:=(Sr [Mb 2 false] (.seq (Sr [Mv 5 0,Oo 6 (.bin .eql (.tmp 5) (.const (.string ⟨#[]⟩))),Mv 7 6,Of 8 7 (mt 0),Of 9 7 (.len true (.tmp 8)),Of 10 7 (.bin .gtr (.tmp 9) (Ci 24)),Oo 11 (.pick (.tmp 7) (.const (.bool true)) (.tmp 10)),Mv 12 11,Of 13 12 (mt 0),Of 14 12 (.ix (.tmp 13) (Ci 0)),Of 15 12 (.call (.func 190) [(.tmp 14)]),Of 16 12 (.un .not (.tmp 15)),Oo 17 (.pick (.tmp 12) (.const (.bool true)) (.tmp 16))] (Cd 17 (Sr [Mb 2 false] .ret) .skip)) (.seq (Sr [Mc 3 0] (.block 0 (.loop (.seq (Sr [Mv 18 3,Mv 19 0,Oo 20 (.len true (.tmp 19)),Bn 21 .lss 18 20] (Cd 21 .skip (.exit 0))) (.seq (.block 1 (Sr [Mv 24 0,Mv 25 3,Oo 26 (.ix (.tmp 24) (.tmp 25)),Mv 4 26] (Sr [Mv 27 4,Cl 28 190 [(.tmp 27)],Oo 29 (.un .not (.tmp 28)),Mv 30 29,Ot 31 30 (mt 4),Ot 32 30 (.call (.func 191) [(.tmp 31)]),Ot 33 30 (.un .not (.tmp 32)),Oo 34 (.pick (.tmp 30) (.tmp 33) (.const (.bool false))),Mv 35 34,Ot 36 35 (mt 4),Ot 37 35 (.bin .neq (.tmp 36) (.const (.int .u8 95))),Oo 38 (.pick (.tmp 35) (.tmp 37) (.const (.bool false))),Mv 39 38,Ot 40 39 (mt 4),Ot 41 39 (.bin .neq (.tmp 40) (.const (.int .u8 45))),Oo 42 (.pick (.tmp 39) (.tmp 41) (.const (.bool false))),Mv 43 42,Ot 44 43 (mt 4),Ot 45 43 (.bin .neq (.tmp 44) (.const (.int .u8 47))),Oo 46 (.pick (.tmp 43) (.tmp 45) (.const (.bool false))),Mv 47 46,Ot 48 47 (mt 4),Ot 49 47 (.bin .neq (.tmp 48) (.const (.int .u8 43))),Oo 50 (.pick (.tmp 47) (.tmp 49) (.const (.bool false)))] (Cd 50 (Sr [Mb 2 false] .ret) .skip)))) (.reg [Mv 22 3,Bc 23 .add 22 1,Mv 3 23])))))) (Sr [Mb 2 true] .ret))))
theorem k115:ZaD Tryz.prog 115=some ⟨c115,[(.tmp 2)],51⟩:=by kernel_rfl
def c224:AC:=(Sr [Mb 2 false] (.seq (Sr [Mc 3 0] (.block 0 (.loop (.seq (Sr [Mv 4 3,Mv 5 0,Oo 6 (.len true (.tmp 5)),Bn 7 .lss 4 6] (Cd 7 .skip (.exit 0))) (.seq (.block 1 (Sr [Mv 10 0,Mv 11 3,Oo 12 (.ix (.tmp 10) (.tmp 11)),Cl 13 190 [(.tmp 12)],Oo 14 (.un .not (.tmp 13))] (Cd 14 (Sr [Mb 2 false] .ret) .skip))) (.reg [Mv 8 3,Bc 9 .add 8 1,Mv 3 9])))))) (Sr [Mv 15 0,Oo 16 (.len true (.tmp 15)),Bc 17 .leq 16 24,Mv 2 17] .ret)))
theorem k224:ZaD Tryz.prog 224=some ⟨c224,[(.tmp 2)],18⟩:=by kernel_rfl
def c148:AC:=(Sr [Mb 2 false] (.seq (Sr [Mc 3 0] (.block 0 (.loop (.seq (Sr [Mv 4 3,Mv 5 0,Oo 6 (.len true (.tmp 5)),Bn 7 .lss 4 6] (Cd 7 .skip (.exit 0))) (.seq (.block 1 (Sr [Mv 10 0,Mv 11 3,Oo 12 (.ix (.tmp 10) (.tmp 11)),Cl 13 190 [(.tmp 12)],Oo 14 (.un .not (.tmp 13)),Mv 15 14,Ot 16 15 (mt 0),Ot 17 15 (mt 3),Ot 18 15 (.ix (.tmp 16) (.tmp 17)),Ot 19 15 (.call (.func 191) [(.tmp 18)]),Ot 20 15 (.un .not (.tmp 19)),Oo 21 (.pick (.tmp 15) (.tmp 20) (.const (.bool false))),Mv 22 21,Ot 23 22 (mt 0),Ot 24 22 (mt 3),Ot 25 22 (.ix (.tmp 23) (.tmp 24)),Ot 26 22 (.bin .neq (.tmp 25) (.const (.int .u8 43))),Oo 27 (.pick (.tmp 22) (.tmp 26) (.const (.bool false))),Mv 28 27,Ot 29 28 (mt 0),Ot 30 28 (mt 3),Ot 31 28 (.ix (.tmp 29) (.tmp 30)),Ot 32 28 (.bin .neq (.tmp 31) (.const (.int .u8 45))),Oo 33 (.pick (.tmp 28) (.tmp 32) (.const (.bool false)))] (Cd 33 (Sr [Mb 2 false] .ret) .skip))) (.reg [Mv 8 3,Bc 9 .add 8 1,Mv 3 9])))))) (Sr [Mb 2 true] .ret)))
theorem k148:ZaD Tryz.prog 148=some ⟨c148,[(.tmp 2)],34⟩:=by kernel_rfl
def c225:AC:=(Sr [Mb 2 false] (Sr [Mc 3 0] (.seq (Sr [Mc 4 0] (.block 0 (.loop (.seq (Sr [Mv 5 4,Mv 6 0,Oo 7 (.len true (.tmp 6)),Bn 8 .lss 5 7] (Cd 8 .skip (.exit 0))) (.seq (.block 1 (.block 2 (Sr [Mv 12 0,Mv 13 4,Oo 14 (.ix (.tmp 12) (.tmp 13)),Oo 15 (.bin .eql (.tmp 14) (.const (.int .u8 47))),Mv 11 15] (Cd 11 (Sr [Mv 16 3,Bc 17 .add 16 1,Mv 3 17] (Sr [Mv 18 4,Bc 19 .eql 18 0,Mv 20 19,Of 21 20 (mt 4),Of 22 20 (mt 0),Of 23 20 (.len true (.tmp 22)),Of 24 20 (.bin .sub (.tmp 23) (Ci 1)),Of 25 20 (.bin .eql (.tmp 21) (.tmp 24)),Oo 26 (.pick (.tmp 20) (.const (.bool true)) (.tmp 25))] (Cd 26 (Sr [Mb 2 false] .ret) .skip))) (Sr [Mv 28 0,Mv 29 4,Oo 30 (.ix (.tmp 28) (.tmp 29)),Oo 31 (.bin .eql (.tmp 30) (.const (.int .u8 37))),Mv 27 31] (Cd 27 (Sr [Mv 32 3,Bc 33 .add 32 1,Mv 3 33] (Sr [Mv 34 4,Mv 35 0,Oo 36 (.len true (.tmp 35)),Bc 37 .sub 36 1,Bn 38 .eql 34 37,Mv 39 38,Of 40 39 (mt 0),Of 41 39 (mt 4),Of 42 39 (.bin .add (.tmp 41) (Ci 1)),Of 43 39 (.ix (.tmp 40) (.tmp 42)),Of 44 39 (.bin .neq (.tmp 43) (.const (.int .u8 115))),Oo 45 (.pick (.tmp 39) (.const (.bool true)) (.tmp 44))] (Cd 45 (Sr [Mb 2 false] .ret) .skip))) (Sr [Mv 47 0,Mv 48 4,Mv 49 4,Bc 50 .add 49 1,Oo 51 (.sls (.tmp 47) (some (.tmp 48)) (some (.tmp 50))),Cl 52 148 [(.tmp 51)],Oo 53 (.un .not (.tmp 52)),Mv 46 53] (Cd 46 (Sr [Mb 2 false] .ret) .skip)))))))) (.reg [Mv 9 4,Bc 10 .add 9 1,Mv 4 10])))))) (Sr [Mv 54 0,Oo 55 (.bin .neq (.tmp 54) (.const (.string ⟨#[]⟩))),Mv 56 55,Ot 57 56 (mt 0),Ot 58 56 (.len true (.tmp 57)),Ot 59 56 (.bin .leq (.tmp 58) (Ci 24)),Oo 60 (.pick (.tmp 56) (.tmp 59) (.const (.bool false))),Mv 61 60,Ot 62 61 (mt 3),Ot 63 61 (.bin .leq (.tmp 62) (Ci 1)),Oo 64 (.pick (.tmp 61) (.tmp 63) (.const (.bool false))),Mv 2 64] .ret))))
theorem k225:ZaD Tryz.prog 225=some ⟨c225,[(.tmp 2)],65⟩:=by kernel_rfl
theorem Zd7 {n:Int}{h:AH}(h0:0≤n) (h1:n≤255):Ac 190 [uv n] h (bv (letB n)):=by
 refine tI' k190 fun N hn hlt hlA hbd=>?_
 simp only [tb'] at hbd ⊢
 refine wr'<|mv' lkb pt<|sn'<|wr'<|mv' lk pt<|?_
 refine V' (Zhj lk (by omega) (by omega)) pt ?_
 refine Zad mp (ZaU) pt<|mv' lk pt<|?_
 refine ZaE (t:=6) gt pt pt (fun hg6=>?_) (fun hg6=>?_)
 ·refine s_no gt pt<|s_no gt pt<|s_no gt pt<|V' (Zak lk lkb) pt<|mv' lk pt<|sn'<|Zaa<|Zaf rz<|rT'<|?_
  refine bvx ?_;unfold wi at *;unfold letB;rw [Bool.eq_iff_iff];simp at *;omega
 refine s_do gt<|mv' lk pt<|s_do gt<|?_
 refine V' (Zhj lk (by omega) (by omega)) pt ?_
 refine s_do gt<|Zad mp (ZaU) pt<|V' (Zag lk lk) pt<|mv' lk pt<|sn'<|Zaa<|Zaf rz<|rT'<|?_
 refine bvx ?_;unfold wi at *;unfold letB;rw [Bool.eq_iff_iff];simp at *;omega
theorem ZdS {n:Int}{h:AH}(h0:0≤n) (h1:n≤255):Ac 191 [uv n] h (bv (digB n)):=by
 refine tI' k191 fun N hn hlt hlA hbd=>?_
 simp only [tb'] at hbd ⊢
 refine wr'<|mv' lkb pt<|sn'<|wr'<|mv' lk pt<|?_
 refine V' (Zhj lk (by omega) (by omega)) pt ?_
 refine Zad mp (ZaU) pt<|mv' lk pt<|sn'<|Zaa<|Zaf rz<|rT'<|?_
 refine bvx ?_;unfold wi digB;rw [Bool.eq_iff_iff];simp
theorem ZeJ (s:ByteArray) (k:Nat):(0:Int)≤((ZaG s k).toNat:Int)∧((ZaG s k).toNat:Int)≤255:=by
 have:=(ZaG s k).toNat_lt
 omega
theorem ZlL {s:ByteArray}{h:AH}(hs:s.size≤maxLen):Ac 148 [sv s] h (bv (allB Zbl s)):=by
 have hm:s.size≤9223372036854775807:=by simpa [maxLen] using hs
 refine tI' k148 fun N hn hlt hlA hbd=>?_
 simp only [tb'] at hbd ⊢
 refine wr'<|mv' lkb pt<|sn'<|Zam<|wr'<|mv' lki pt<|sn'<|Zao<|?_
 refine w_lp (ι:=Nat) (fun (k:Nat)=>[(3,iv (k:Int)),(2,.any)]++rn' 4 30) (fun (k:Nat)=>[]) (fun (k:Nat)=>k≤s.size ∧ ∀ j (hj:j<s.size),j<k→Zbl s[j].toNat=true) (fun (k:Nat)=>s.size-k) (0) (by exact ⟨by omega,fun j hj h0=>absurd h0 (by omega)⟩) ?_
 rintro k hi1
 try simp only [sm',Nat.reduceAdd]
 obtain ⟨hk1,hk2⟩:=hi1
 refine Zam<|wr'<|mv' lk pt<|mv' lk pt<|V' (Zbb lk) pt<|V' (Zba lk lk) pt<|sn'<|?_
 refine cd' lk (fun hc1=>?_) (fun hc1=>?_)
 ·have hk:k<s.size:=by omega
  have hb:=ZeJ s k
  have hbk:ZaG s k=s[k]:=ZcO hk
  refine Zae<|Zah<|Zam<|Zao<|wr'<|mv' lk pt<|mv' lk pt<|?_
  refine V' (v_ix lk lk (by omega) (by omega)) pt ?_
  refine Zad mp (Zd7 hb.1 hb.2) pt<|V' (Zaw lk) pt<|mv' lk pt<|?_
  refine ZaE (t:=15) gt pt pt (fun hg15=>?_) (fun hg15=>?_)
  ·refine s_do gt<|mv' lk pt<|s_do gt<|mv' lk pt<|s_do gt<|?_
   refine V' (v_ix lk lk (by omega) (by omega)) pt ?_
   refine s_do gt<|Zad mp (ZdS hb.1 hb.2) pt<|s_do gt<|V' (Zaw lk) pt<|V' (Zak lk lk) pt<|mv' lk pt<|?_
   refine ZaE (t:=22) gt pt pt (fun hg22=>?_) (fun hg22=>?_)
   ·refine s_do gt<|mv' lk pt<|s_do gt<|mv' lk pt<|s_do gt<|?_
    refine V' (v_ix lk lk (by omega) (by omega)) pt ?_
    refine s_do gt<|V' (Za1 lk lki) pt<|V' (Zak lk lk) pt<|mv' lk pt<|?_
    refine sp' (t:=28) gt pt pt (fun hg28=>?_) (fun hg28=>?_)
    ·refine s_do gt<|mv' lk pt<|s_do gt<|mv' lk pt<|s_do gt<|?_
     refine V' (v_ix lk lk (by omega) (by omega)) pt ?_
     refine s_do gt<|V' (Za1 lk lki) pt<|V' (Zak lk lk) pt<|sn'<|?_
     refine cd' lk (fun hc2=>?_) (fun hc2=>?_)
     ·refine wr'<|mv' lkb pt<|sn'<|Zaa<|Zap<|Zai<|Zai<|Zap<|Zai<|Zaf rz<|rT'<|?_
      refine bvx ?_;rw [ZhY (k:=k) hk (by rw [←hbk];unfold Zbl;simp at *;simp_all)]
     refine Zae<|Zaz<|Zah<|Zas<|mv' lk pt<|?_
     refine V' (Zay lk lki (by omega) (by omega)) pt ?_
     refine mv' lk pt<|Zar<|ZaA<|?_
     refine lT' (k+1) (by (try dsimp only);refine ⟨by omega,fun j hj h0=>?_⟩;rcases Nat.lt_or_ge j k with e | e;exact hk2 j hj e;obtain rfl:j=k:=(by omega);rw [←hbk];unfold Zbl;simp_all)
    refine s_no gt pt<|s_no gt pt<|s_no gt pt<|s_no gt pt<|V' (Zag lk lkb) pt<|sn'<|ZaM lk<|Zae<|Zaz<|Zah<|Zas<|mv' lk pt<|?_
    refine V' (Zay lk lki (by omega) (by omega)) pt ?_
    refine mv' lk pt<|Zar<|ZaA<|?_
    refine lT' (k+1) (by (try dsimp only);refine ⟨by omega,fun j hj h0=>?_⟩;rcases Nat.lt_or_ge j k with e | e;exact hk2 j hj e;obtain rfl:j=k:=(by omega);rw [←hbk];unfold Zbl;simp_all)
   refine s_no gt pt<|s_no gt pt<|s_no gt pt<|s_no gt pt<|V' (Zag lk lkb) pt<|mv' lk pt<|s_no gt pt<|s_no gt pt<|s_no gt pt<|s_no gt pt<|V' (Zag lk lkb) pt<|sn'<|ZaM lk<|?_
   refine Zae<|Zaz<|Zah<|Zas<|mv' lk pt<|?_
   refine V' (Zay lk lki (by omega) (by omega)) pt ?_
   refine mv' lk pt<|Zar<|ZaA<|?_
   refine lT' (k+1) (by (try dsimp only);refine ⟨by omega,fun j hj h0=>?_⟩;rcases Nat.lt_or_ge j k with e | e;exact hk2 j hj e;obtain rfl:j=k:=(by omega);rw [←hbk];unfold Zbl;simp_all)
  refine s_no gt pt<|s_no gt pt<|s_no gt pt<|s_no gt pt<|s_no gt pt<|V' (Zag lk lkb) pt<|mv' lk pt<|s_no gt pt<|s_no gt pt<|s_no gt pt<|s_no gt pt<|V' (Zag lk lkb) pt<|mv' lk pt<|s_no gt pt<|?_
  refine s_no gt pt<|s_no gt pt<|s_no gt pt<|V' (Zag lk lkb) pt<|sn'<|ZaM lk<|Zae<|Zaz<|Zah<|Zas<|mv' lk pt<|?_
  refine V' (Zay lk lki (by omega) (by omega)) pt ?_
  refine mv' lk pt<|Zar<|ZaA<|?_
  refine lT' (k+1) (by (try dsimp only);refine ⟨by omega,fun j hj h0=>?_⟩;rcases Nat.lt_or_ge j k with e | e;exact hk2 j hj e;obtain rfl:j=k:=(by omega);rw [←hbk];unfold Zbl;simp_all)
 refine ZaO<|ZaF<|ZaF<|Za7<|Zah<|wr'<|mv' lkb pt<|sn'<|Zaa<|Zaf rz<|rT'<|?_
 refine bvx ?_;rw [ZfX fun j hj=>hk2 j hj (by omega)]
theorem ZgT {s:ByteArray}{h:AH}(hs:s.size≤maxLen):Ac 224 [sv s] h (bv (Zcf s)):=by
 have hm:s.size≤9223372036854775807:=by simpa [maxLen] using hs
 refine tI' k224 fun N hn hlt hlA hbd=>?_
 simp only [tb'] at hbd ⊢
 refine wr'<|mv' lkb pt<|sn'<|Zam<|wr'<|mv' lki pt<|sn'<|Zao<|?_
 refine w_lp (ι:=Nat) (fun (k:Nat)=>[(3,iv (k:Int)),(2,.any)]++rn' 4 11) (fun (k:Nat)=>[]) (fun (k:Nat)=>k≤s.size ∧ ∀ j (hj:j<s.size),j<k→letB s[j].toNat=true) (fun (k:Nat)=>s.size-k) (0) (by exact ⟨by omega,fun j hj h0=>absurd h0 (by omega)⟩) ?_
 rintro k hi1
 try simp only [sm',Nat.reduceAdd]
 obtain ⟨hk1,hk2⟩:=hi1
 refine Zam<|wr'<|mv' lk pt<|mv' lk pt<|V' (Zbb lk) pt<|V' (Zba lk lk) pt<|sn'<|?_
 refine cd' lk (fun hc1=>?_) (fun hc1=>?_)
 ·have hk:k<s.size:=by omega
  have hb:=ZeJ s k
  have hbk:ZaG s k=s[k]:=ZcO hk
  refine Zae<|Zah<|Zam<|Zao<|wr'<|mv' lk pt<|mv' lk pt<|?_
  refine V' (v_ix lk lk (by omega) (by omega)) pt ?_
  refine Zad mp (Zd7 hb.1 hb.2) pt<|V' (Zaw lk) pt<|sn'<|?_
  refine Zau lk (fun hc2=>?_) (fun hc2=>?_)
  ·refine wr'<|mv' lkb pt<|sn'<|Zaa<|Zap<|Zai<|Zai<|Zap<|Zai<|Zaf rz<|rT'<|?_
   refine bvx ?_;unfold Zcf;rw [ZhY (k:=k) hk (by rw [←hbk];simp_all)];simp
  refine Zae<|Zaz<|Zah<|Zas<|mv' lk pt<|?_
  refine V' (Zay lk lki (by omega) (by omega)) pt ?_
  refine mv' lk pt<|Zar<|ZaA<|?_
  refine lT' (k+1) (by (try dsimp only);refine ⟨by omega,fun j hj h0=>?_⟩;rcases Nat.lt_or_ge j k with e | e;exact hk2 j hj e;obtain rfl:j=k:=(by omega);rw [←hbk];simp_all)
 refine ZaO<|ZaF<|ZaF<|Za7<|Zah<|wr'<|mv' lk pt<|V' (Zbb lk) pt<|V' (Zdq lk lki) pt<|mv' lk pt<|sn'<|Zaa<|?_
 refine Zaf rz<|rT'<|?_
 refine bvx ?_;unfold Zcf;rw [ZfX fun j hj=>hk2 j hj (by omega)];rw [Bool.eq_iff_iff];simp;omega
theorem ZcV {s:ByteArray}{h:AH}(hs:s.size≤maxLen):Ac 115 [sv s] h (bv (Zck s)):=by
 have hm:s.size≤9223372036854775807:=by simpa [maxLen] using hs
 have hem:=Zeg (f:=s)
 have hb0:=ZeJ s 0
 refine tI' k115 fun N hn hlt hlA hbd=>?_
 simp only [tb'] at hbd ⊢
 refine wr'<|mv' lkb pt<|sn'<|Zam<|wr'<|mv' lk pt<|V' (Zcj lk lks) pt<|mv' lk pt<|?_
 refine sp' (t:=7) gt pt pt (fun hg7=>?_) (fun hg7=>?_)
 ·refine s_no gt pt<|s_no gt pt<|s_no gt pt<|V' (Zak lk lkb) pt<|mv' lk pt<|s_no gt pt<|s_no gt pt<|s_no gt pt<|s_no gt pt<|V' (Zak lk lkb) pt<|sn'<|ZaH lk<|Zam<|?_
  refine Zas<|mv' lkb pt<|sn'<|Zaa<|Zai<|Zaf rz<|rT'<|?_
  refine bvx ?_;unfold Zck;simp [hem.1 hg7]
 have hne:s.size≠0:=fun e=>hg7 (hem.2 e)
 refine s_do gt<|mv' lk pt<|s_do gt<|V' (Zbb lk) pt<|s_do gt<|V' (ZbV lk lki) pt<|V' (Zag lk lk) pt<|mv' lk pt<|?_
 refine sp' (t:=12) gt pt pt (fun hg12=>?_) (fun hg12=>?_)
 ·refine s_no gt pt<|s_no gt pt<|s_no gt pt<|s_no gt pt<|V' (Zak lk lkb) pt<|sn'<|ZaH lk<|wr'<|mv' lkb pt<|sn'<|Zaa<|?_
  refine Zai<|Zaf rz<|rT'<|?_
  refine bvx ?_;unfold Zck;simp;omega
 refine s_do gt<|mv' lk pt<|s_do gt<|?_
 refine V' (v_ix lk lki (by omega) (by omega)) pt ?_
 refine s_do gt<|Zad mp (Zd7 hb0.1 hb0.2) pt<|s_do gt<|V' (Zaw lk) pt<|V' (Zag lk lk) pt<|sn'<|?_
 refine Zau lk (fun hc1=>?_) (fun hc1=>?_)
 ·refine wr'<|mv' lkb pt<|sn'<|Zaa<|Zai<|Zaf rz<|rT'<|?_
  refine bvx ?_;unfold Zck;simp_all
 have hz:s.size≤24:=by omega
 have hL:letB (ZaG s 0).toNat=true:=by simpa using hc1
 refine Zae<|Zah<|Zam<|wr'<|mv' lki pt<|sn'<|Zao<|?_
 refine w_lp (ι:=Nat) (fun (k:Nat)=>[(3,iv (k:Int)),(2,.any),(4,.any)]++rn' 18 33) (fun (k:Nat)=>[]) (fun (k:Nat)=>k≤s.size ∧ ∀ j (hj:j<s.size),j<k→ZkR s[j].toNat=true) (fun (k:Nat)=>s.size-k) (0) (by exact ⟨by omega,fun j hj h0=>absurd h0 (by omega)⟩) ?_
 rintro k hi1
 try simp only [sm',Nat.reduceAdd]
 obtain ⟨hk1,hk2⟩:=hi1
 refine Zam<|wr'<|mv' lk pt<|mv' lk pt<|V' (Zbb lk) pt<|V' (Zba lk lk) pt<|sn'<|?_
 refine cd' lk (fun hc2=>?_) (fun hc2=>?_)
 ·have hk:k<s.size:=by omega
  have hb:=ZeJ s k
  have hbk:ZaG s k=s[k]:=ZcO hk
  have hR:=Zqa (ZaG s k)
  refine Zae<|Zah<|Zam<|Zao<|wr'<|mv' lk pt<|mv' lk pt<|?_
  refine V' (v_ix lk lk (by omega) (by omega)) pt ?_
  refine mv' lk pt<|sn'<|wr'<|mv' lk pt<|Zad mp (Zd7 hb.1 hb.2) pt<|V' (Zaw lk) pt<|mv' lk pt<|?_
  refine ZaE (t:=30) gt pt pt (fun hg30=>?_) (fun hg30=>?_)
  ·refine s_do gt<|mv' lk pt<|s_do gt<|Zad mp (ZdS hb.1 hb.2) pt<|s_do gt<|V' (Zaw lk) pt<|V' (Zak lk lk) pt<|mv' lk pt<|?_
   refine ZaE (t:=35) gt pt pt (fun hg35=>?_) (fun hg35=>?_)
   ·refine s_do gt<|mv' lk pt<|s_do gt<|V' (Za1 lk lki) pt<|V' (Zak lk lk) pt<|mv' lk pt<|?_
    refine sp' (t:=39) gt pt pt (fun hg39=>?_) (fun hg39=>?_)
    ·refine s_do gt<|mv' lk pt<|s_do gt<|V' (Za1 lk lki) pt<|V' (Zak lk lk) pt<|mv' lk pt<|?_
     refine sp' (t:=43) gt pt pt (fun hg43=>?_) (fun hg43=>?_)
     ·refine s_do gt<|mv' lk pt<|s_do gt<|V' (Za1 lk lki) pt<|V' (Zak lk lk) pt<|mv' lk pt<|?_
      refine sp' (t:=47) gt pt pt (fun hg47=>?_) (fun hg47=>?_)
      ·refine s_do gt<|mv' lk pt<|s_do gt<|V' (Za1 lk lki) pt<|V' (Zak lk lk) pt<|sn'<|?_
       refine cd' lk (fun hc3=>?_) (fun hc3=>?_)
       ·refine wr'<|mv' lkb pt<|sn'<|Zaa<|Zap<|Zai<|Zai<|Zap<|Zai<|Zaf rz<|rT'<|?_
        refine bvx ?_;unfold Zck;rw [ZhY (k:=k) hk (by rw [←hbk,hR];unfold refN;simp_all)];simp
       refine Zae<|Zaz<|Zah<|Zas<|mv' lk pt<|?_
       refine V' (Zay lk lki (by omega) (by omega)) pt ?_
       refine mv' lk pt<|Zar<|ZaA<|?_
       refine lT' (k+1) (by (try dsimp only);refine ⟨by omega,fun j hj h0=>?_⟩;rcases Nat.lt_or_ge j k with e | e;exact hk2 j hj e;obtain rfl:j=k:=(by omega);rw [←hbk,hR];unfold refN;simp_all)
      refine s_no gt pt<|s_no gt pt<|V' (Zag lk lkb) pt<|sn'<|ZaM lk<|Zae<|Zaz<|Zah<|Zas<|mv' lk pt<|?_
      refine V' (Zay lk lki (by omega) (by omega)) pt ?_
      refine mv' lk pt<|Zar<|ZaA<|?_
      refine lT' (k+1) (by (try dsimp only);refine ⟨by omega,fun j hj h0=>?_⟩;rcases Nat.lt_or_ge j k with e | e;exact hk2 j hj e;obtain rfl:j=k:=(by omega);rw [←hbk,hR];unfold refN;simp_all)
     refine s_no gt pt<|s_no gt pt<|V' (Zag lk lkb) pt<|mv' lk pt<|s_no gt pt<|s_no gt pt<|V' (Zag lk lkb) pt<|sn'<|ZaM lk<|Zae<|Zaz<|Zah<|Zas<|?_
     refine mv' lk pt ?_
     refine V' (Zay lk lki (by omega) (by omega)) pt ?_
     refine mv' lk pt<|Zar<|ZaA<|?_
     refine lT' (k+1) (by (try dsimp only);refine ⟨by omega,fun j hj h0=>?_⟩;rcases Nat.lt_or_ge j k with e | e;exact hk2 j hj e;obtain rfl:j=k:=(by omega);rw [←hbk,hR];unfold refN;simp_all)
    refine s_no gt pt<|s_no gt pt<|V' (Zag lk lkb) pt<|mv' lk pt<|s_no gt pt<|s_no gt pt<|V' (Zag lk lkb) pt<|mv' lk pt<|s_no gt pt<|s_no gt pt<|V' (Zag lk lkb) pt<|sn'<|ZaM lk<|?_
    refine Zae<|Zaz<|Zah<|Zas<|mv' lk pt<|?_
    refine V' (Zay lk lki (by omega) (by omega)) pt ?_
    refine mv' lk pt<|Zar<|ZaA<|?_
    refine lT' (k+1) (by (try dsimp only);refine ⟨by omega,fun j hj h0=>?_⟩;rcases Nat.lt_or_ge j k with e | e;exact hk2 j hj e;obtain rfl:j=k:=(by omega);rw [←hbk,hR];unfold refN;simp_all)
   refine s_no gt pt<|s_no gt pt<|V' (Zag lk lkb) pt<|mv' lk pt<|s_no gt pt<|s_no gt pt<|V' (Zag lk lkb) pt<|mv' lk pt<|s_no gt pt<|s_no gt pt<|V' (Zag lk lkb) pt<|mv' lk pt<|s_no gt pt<|s_no gt pt<|?_
   refine V' (Zag lk lkb) pt<|sn'<|ZaM lk<|Zae<|Zaz<|Zah<|Zas<|mv' lk pt<|?_
   refine V' (Zay lk lki (by omega) (by omega)) pt ?_
   refine mv' lk pt<|Zar<|ZaA<|?_
   refine lT' (k+1) (by (try dsimp only);refine ⟨by omega,fun j hj h0=>?_⟩;rcases Nat.lt_or_ge j k with e | e;exact hk2 j hj e;obtain rfl:j=k:=(by omega);rw [←hbk,hR];unfold refN;simp_all)
  refine s_no gt pt<|s_no gt pt<|s_no gt pt<|V' (Zag lk lkb) pt<|mv' lk pt<|s_no gt pt<|s_no gt pt<|V' (Zag lk lkb) pt<|mv' lk pt<|s_no gt pt<|s_no gt pt<|V' (Zag lk lkb) pt<|mv' lk pt<|s_no gt pt<|?_
  refine s_no gt pt<|V' (Zag lk lkb) pt<|mv' lk pt<|s_no gt pt<|s_no gt pt<|V' (Zag lk lkb) pt<|sn'<|ZaM lk<|Zae<|Zaz<|Zah<|Zas<|mv' lk pt<|?_
  refine V' (Zay lk lki (by omega) (by omega)) pt ?_
  refine mv' lk pt<|Zar<|ZaA<|?_
  refine lT' (k+1) (by (try dsimp only);refine ⟨by omega,fun j hj h0=>?_⟩;rcases Nat.lt_or_ge j k with e | e;exact hk2 j hj e;obtain rfl:j=k:=(by omega);rw [←hbk,hR];unfold refN;simp_all)
 refine ZaO<|ZaF<|ZaF<|Za7<|Zah<|wr'<|mv' lkb pt<|sn'<|Zaa<|Zaf rz<|rT'<|?_
 refine bvx ?_;unfold Zck;rw [ZfX fun j hj=>hk2 j hj (by omega),hL];simp [hne,hz]
theorem Zfk {s:ByteArray}{h:AH}(hs:s.size≤maxLen):Ac 225 [sv s] h (bv (ZbS s)):=by
 have hm:s.size≤9223372036854775807:=by simpa [maxLen] using hs
 have hem:=Zeg (f:=s)
 have hF:=Zl4 s
 refine tI' k225 fun N hn hlt hlA hbd=>?_
 simp only [tb'] at hbd ⊢
 refine wr'<|mv' lkb pt<|sn'<|wr'<|mv' lki pt<|sn'<|Zam<|wr'<|mv' lki pt<|?_
 refine sn'<|Zao<|?_
 refine w_lp (ι:=Nat×Nat) (fun (x_:Nat×Nat)=>match x_ with | ⟨k,m⟩=>[(3,iv (m:Int)),(4,iv (k:Int)),(2,.any)]++rn' 5 49) (fun (x_:Nat×Nat)=>match x_ with | ⟨k,m⟩=>[]) (fun (x_:Nat×Nat)=>match x_ with | ⟨k,m⟩=>k≤s.size∧m≤k∧fmtL 0 true (aB s)=fmtL m (decide (k=0)) ((aB s).drop k)) (fun (x_:Nat×Nat)=>match x_ with | ⟨k,m⟩=>s.size-k) (⟨0,0⟩) (by exact ⟨by omega,by omega,rfl⟩) ?_
 rintro ⟨k,m⟩ hi1
 try simp only [sm',Nat.reduceAdd]
 obtain ⟨hk1,hk2,hk3⟩:=hi1
 refine Zam<|wr'<|mv' lk pt<|mv' lk pt<|V' (Zbb lk) pt<|V' (Zba lk lk) pt<|sn'<|?_
 refine cd' lk (fun hc1=>?_) (fun hc1=>?_)
 ·have hk:k<s.size:=by omega
  have hb:=ZeJ s k
  have hA:=ZeM hk
  rw [hA,fmtL] at hk3
  have hE:((aB s).drop (k+1)).isEmpty=decide ((k:Int)=(s.size:Int)-1):=by
   rw [Bool.eq_iff_iff,List.isEmpty_iff,List.drop_eq_nil_iff,decide_eq_true_iff,ZdY];omega
  refine Zae<|Zah<|Zam<|Zao<|Zao<|wr'<|mv' lk pt<|mv' lk pt<|?_
  refine V' (v_ix lk lk (by omega) (by omega)) pt ?_
  refine V' (ZaT lk lki) pt<|mv' lk pt<|sn'<|?_
  refine cd' lk (fun hc2=>?_) (fun hc2=>?_)
  ·have hx:ZaG s k=47:=ZhV (n:=47) (by omega) hc2
   rw [if_pos hx,hE] at hk3
   refine wr'<|mv' lk pt<|?_
   refine V' (Zay lk lki (by omega) (by omega)) pt ?_
   refine mv' lk pt<|sn'<|wr'<|mv' lk pt<|V' (ZaT lk lki) pt<|mv' lk pt<|?_
   refine sp' (t:=20) gt pt pt (fun hg20=>?_) (fun hg20=>?_)
   ·refine s_no gt pt<|s_no gt pt<|s_no gt pt<|s_no gt pt<|s_no gt pt<|V' (Zak lk lkb) pt<|sn'<|ZaH lk<|wr'<|mv' lkb pt<|sn'<|?_
    refine Zaa<|Zap<|Zap<|Zai<|Zai<|Zap<|Zai<|Zaf rz<|rT'<|?_
    refine bvx ?_;rw [hF,hk3];simp_all
   refine s_do gt<|mv' lk pt<|s_do gt<|mv' lk pt<|s_do gt<|V' (Zbb lk) pt<|s_do gt<|?_
   refine V' (ZbD lk lki (by omega) (by omega)) pt ?_
   refine s_do gt<|V' (ZaT lk lk) pt<|V' (Zag lk lk) pt<|sn'<|?_
   refine cd' lk (fun hc3=>?_) (fun hc3=>?_)
   ·refine wr'<|mv' lkb pt<|sn'<|Zaa<|Zap<|Zap<|Zai<|Zai<|Zap<|Zai<|Zaf rz<|rT'<|?_
    refine bvx ?_;rw [hF,hk3];simp_all
   have hk3':fmtL 0 true (aB s)=fmtL (m+1) false ((aB s).drop (k+1)):=by rw [hk3];simp_all
   refine Zae<|Zaz<|Zaz<|Zah<|Zas<|mv' lk pt<|?_
   refine V' (Zay lk lki (by omega) (by omega)) pt ?_
   refine mv' lk pt<|Zar<|ZaA<|?_
   refine lT' (⟨k+1,m+1⟩) (by (try dsimp only);exact ⟨by omega,by omega,by rw [hk3'];simp⟩)
  have hx:¬ZaG s k=47:=Zj6 (n:=47) (by omega) hc2
  rw [if_neg hx] at hk3
  refine wr'<|mv' lk pt<|mv' lk pt<|?_
  refine V' (v_ix lk lk (by omega) (by omega)) pt ?_
  refine V' (ZaT lk lki) pt<|mv' lk pt<|sn'<|?_
  refine cd' lk (fun hc4=>?_) (fun hc4=>?_)
  ·have hy:ZaG s k=37:=ZhV (n:=37) (by omega) hc4
   rw [if_pos hy] at hk3
   refine wr'<|mv' lk pt<|?_
   refine V' (Zay lk lki (by omega) (by omega)) pt ?_
   refine mv' lk pt<|sn'<|wr'<|mv' lk pt<|mv' lk pt<|V' (Zbb lk) pt<|?_
   refine V' (ZbD lk lki (by omega) (by omega)) pt ?_
   refine V' (ZaT lk lk) pt<|mv' lk pt<|?_
   refine sp' (t:=39) gt pt pt (fun hg39=>?_) (fun hg39=>?_)
   ·have hD:(aB s).drop (k+1)=[]:=by rw [List.drop_eq_nil_iff,ZdY];omega
    refine s_no gt pt<|s_no gt pt<|s_no gt pt<|s_no gt pt<|s_no gt pt<|V' (Zak lk lkb) pt<|sn'<|ZaH lk<|wr'<|mv' lkb pt<|sn'<|?_
    refine Zaa<|Zap<|Zap<|Zai<|Zai<|Zap<|Zai<|Zaf rz<|rT'<|?_
    refine bvx ?_;rw [hF,hk3,hD];simp
   have hk':k+1<s.size:=by omega
   have hA':=ZeM hk'
   refine s_do gt<|mv' lk pt<|s_do gt<|mv' lk pt<|s_do gt<|?_
   refine V' (Zay lk lki (by omega) (by omega)) pt ?_
   refine s_do gt ?_
   refine V' (v_ix lk lk (by omega) (by omega)) pt ?_
   refine s_do gt<|V' (Za1 lk lki) pt<|V' (Zag lk lk) pt<|sn'<|?_
   refine cd' lk (fun hc5=>?_) (fun hc5=>?_)
   ·refine wr'<|mv' lkb pt<|sn'<|Zaa<|Zap<|Zap<|Zai<|Zai<|Zap<|Zai<|Zaf rz<|rT'<|?_
    refine bvx ?_;rw [hF,hk3,hA'];have h9:¬ZaG s (k+1)=115:=Zj6 (c:=ZaG s (k+1)) (n:=115) (by omega) (by simpa using hc5);simp [h9]
   have hk3':fmtL 0 true (aB s)=fmtL (m+1) false ((aB s).drop (k+1)):=by rw [hk3];have:=ZhV (c:=ZaG s (k+1)) (n:=115) (by omega) (by simpa using hc5);rw [hA'];simp [this]
   refine Zae<|Zaz<|Zaz<|Zah<|Zas<|mv' lk pt<|?_
   refine V' (Zay lk lki (by omega) (by omega)) pt ?_
   refine mv' lk pt<|Zar<|ZaA<|?_
   refine lT' (⟨k+1,m+1⟩) (by (try dsimp only);exact ⟨by omega,by omega,by rw [hk3'];simp⟩)
  have hy:¬ZaG s k=37:=Zj6 (n:=37) (by omega) hc4
  rw [if_neg hy] at hk3
  have hone:allB Zbl (s.extract k (k+1))=Zbl (ZaG s k).toNat:=by rw [Zld,hA,Nat.add_sub_cancel_left];simp [allB,bA]
  refine wr'<|mv' lk pt<|mv' lk pt<|mv' lk pt<|?_
  refine V' (Zay lk lki (by omega) (by omega)) pt ?_
  refine V' (ZdF lk (oi lk) (oi lk) (by omega) (by omega) (by omega)) pt ?_
  refine Zad mp (ZlL (by rw [ByteArray.size_extract];unfold maxLen at *;omega)) pt ?_
  refine V' (Zaw lk) pt<|mv' lk pt<|sn'<|?_
  refine Zau lk (fun hc6=>?_) (fun hc6=>?_)
  ·refine wr'<|mv' lkb pt<|sn'<|Zaa<|Zap<|Zap<|Zai<|Zai<|Zap<|Zai<|Zaf rz<|rT'<|?_
   refine bvx ?_;rw [hF,hk3,←hone];simp_all
  have hk3':fmtL 0 true (aB s)=fmtL m false ((aB s).drop (k+1)):=by rw [hk3,←hone];simp_all
  refine Zae<|Zaz<|Zaz<|Zah<|Zas<|mv' lk pt<|?_
  refine V' (Zay lk lki (by omega) (by omega)) pt ?_
  refine mv' lk pt<|Zar<|ZaA<|?_
  refine lT' (⟨k+1,m⟩) (by (try dsimp only);exact ⟨by omega,by omega,by rw [hk3'];simp⟩)
 have hk4:fmtL 0 true (aB s)=decide (m≤1):=by rw [hk3,Zlh (by omega),fmtL]
 clear hk3
 refine ZaO<|ZaF<|ZaF<|Za7<|Zah<|wr'<|mv' lk pt<|V' (Zcs lk lks) pt<|mv' lk pt<|?_
 refine sp' (t:=56) gt pt pt (fun hg56=>?_) (fun hg56=>?_)
 ·refine s_do gt<|mv' lk pt<|s_do gt<|V' (Zbb lk) pt<|s_do gt<|V' (Zdq lk lki) pt<|V' (Zak lk lk) pt<|mv' lk pt<|?_
  refine sp' (t:=61) gt pt pt (fun hg61=>?_) (fun hg61=>?_)
  ·refine s_do gt<|mv' lk pt<|s_do gt<|V' (Zdq lk lki) pt<|V' (Zak lk lk) pt<|mv' lk pt<|sn'<|Zaa<|Zaf rz<|rT'<|?_
   refine bvx ?_;rw [hF,hk4];clear hF hk4;by_cases h0:s.size=0 <;> simp_all <;> (try intros) <;> first | omega | (rw [Bool.eq_iff_iff];simp;omega)
  refine s_no gt pt<|s_no gt pt<|V' (Zag lk lkb) pt<|mv' lk pt<|sn'<|Zaa<|Zaf rz<|rT'<|?_
  refine bvx ?_;rw [hF,hk4];clear hF hk4;by_cases h0:s.size=0 <;> simp_all <;> (try intros) <;> first | omega | (rw [Bool.eq_iff_iff];simp;omega)
 refine s_no gt pt<|s_no gt pt<|s_no gt pt<|V' (Zag lk lkb) pt<|mv' lk pt<|s_no gt pt<|s_no gt pt<|V' (Zag lk lkb) pt<|mv' lk pt<|sn'<|Zaa<|Zaf rz<|rT'<|?_
 refine bvx ?_;rw [hF,hk4];clear hF hk4;by_cases h0:s.size=0 <;> simp_all <;> (try intros) <;> first | omega | (rw [Bool.eq_iff_iff];simp;omega)
end Go.Proofs.YtlekejpogddndaaGreatDoor
end
section
namespace Go.Proofs.YtlekejpogddndaaGreatDoor
open Go.Ab
attribute [local simp] Zbi Zbu Zbk Zbp
section
theorem Zji {a0 a1 a2:AV}{l:List AV}:((a0::a1::a2::l).drop 0).take 3=[a0,a1,a2]:=rfl
theorem ZmB {a0 b0:Int}{a1 b1:Int}{a2 b2:Int}:ZbH [.int,.int,.int] [iv a0,iv a1,iv a2] [iv b0,iv b1,iv b2]=some (decide (a0=b0∧a1=b1∧a2=b2)):=by
 simp only [ZbH,ZeC,if_true,ZdV,Option.some.injEq]
 simp only [Bool.decide_and,Bool.and_true]
 try (congr 1 <;> simp)
 try rfl
end
def c226:AC:=(Sr [Oo 2 (.box 61 5 (.tmp 0)),Oo 3 (.box 61 5 (.tmp 1)),Mb 4 false] (Sr [Fa 5 0 2,Oo 6 (.load true 3 (.tmp 5)),Fa 7 0 3,Oo 8 (.load true 3 (.tmp 7)),Oo 9 (.eqs false [.int,.int,.int] (.tmp 6) (.tmp 8)),Mv 10 9,Ot 11 10 (.fa 3 (.tmp 2)),Ot 12 10 (.load false 1 (.tmp 11)),Ot 13 10 (.fa 3 (.tmp 3)),Ot 14 10 (.load false 1 (.tmp 13)),Ot 15 10 (.bin .eql (.tmp 12) (.tmp 14)),Oo 16 (.pick (.tmp 10) (.tmp 15) (.const (.bool false))),Mv 17 16,Ot 18 17 (.fa 4 (.tmp 2)),Ot 19 17 (.load false 1 (.tmp 18)),Ot 20 17 (.fa 4 (.tmp 3)),Ot 21 17 (.load false 1 (.tmp 20)),Ot 22 17 (.bin .eql (.tmp 19) (.tmp 21)),Oo 23 (.pick (.tmp 17) (.tmp 22) (.const (.bool false))),Mv 4 23] .ret))
theorem k226:ZaD Tryz.prog 226=some ⟨c226,[(.tmp 4)],24⟩:=by kernel_rfl
theorem Zdw {u v:Unt}{h:AH}:Ac 226 [.agg (untC u),.agg (untC v)] h (bv (decide (u=v))):=by
 obtain ⟨⟨y,m,d⟩,a,c⟩:=u
 obtain ⟨⟨y2,m2,d2⟩,a2,c2⟩:=v
 refine tI' k226 fun N hn hlt hlA hbd=>?_
 simp only [tb'] at hbd ⊢
 refine wr'<|E' (Zbj (cvl lk rfl) rfl (hl0 hn) ha0) pt<|E' (Zbj (cvl lk rfl) rfl (hl1 hn) ha1) pt<|mv' lkb pt<|sn'<|wr'<|V' (Zac lk) pt<|V' (Zaq lk (hga hn rfl) Zji rfl) pt<|V' (Zac lk) pt<|V' (Zaq lk (hga hn rfl) Zji rfl) pt<|V' (Zko lk lk ZmB) pt<|?_
 refine mv' lk pt ?_
 refine sp' (t:=10) gt pt pt (fun hg10=>?_) (fun hg10=>?_)
 ·refine s_do gt<|V' (Zac lk) pt<|s_do gt<|V' (Zab lk (hga hn rfl) gt3) pt<|s_do gt<|V' (Zac lk) pt<|s_do gt<|V' (Zab lk (hga hn rfl) gt3) pt<|s_do gt<|V' (ZaT lk lk) pt<|V' (Zak lk lk) pt<|mv' lk pt<|?_
  refine sp' (t:=17) gt pt pt (fun hg17=>?_) (fun hg17=>?_)
  ·refine s_do gt<|V' (Zac lk) pt<|s_do gt<|V' (Zab lk (hga hn rfl) gt4) pt<|s_do gt<|V' (Zac lk) pt<|s_do gt<|V' (Zab lk (hga hn rfl) gt4) pt<|s_do gt<|V' (ZaT lk lk) pt<|V' (Zak lk lk) pt<|mv' lk pt<|sn'<|?_
   refine Zaa<|Zaf rz<|rT'<|?_
   refine bvx ?_;simp_all
  refine s_no gt pt<|s_no gt pt<|s_no gt pt<|s_no gt pt<|s_no gt pt<|V' (Zag lk lkb) pt<|mv' lk pt<|sn'<|Zaa<|Zaf rz<|rT'<|?_
  refine bvx ?_;simp_all
 refine s_no gt pt<|s_no gt pt<|s_no gt pt<|s_no gt pt<|s_no gt pt<|V' (Zag lk lkb) pt<|mv' lk pt<|s_no gt pt<|s_no gt pt<|s_no gt pt<|s_no gt pt<|s_no gt pt<|V' (Zag lk lkb) pt<|mv' lk pt<|?_
 refine sn'<|Zaa<|Zaf rz<|rT'<|?_
 refine bvx ?_;simp_all
end Go.Proofs.YtlekejpogddndaaGreatDoor
end
section
namespace Go.Proofs.YtlekejpogddndaaGreatDoor
open Go.Ab Go.RowKit Civ
attribute [local simp] Zbi Zbu Zbk Zbp
section
theorem ZoQ {a0 a1 a2 a3 a4 a5 a6:AV}{l:List AV}:((a0::a1::a2::a3::a4::a5::a6::l).drop 4).take 3=[a4,a5,a6]:=rfl
theorem ZoR {a0 a1 a2 c0 c1 c2:AV}{l:List AV}:setCells (a0::a1::a2::l) 0 [c0,c1,c2]=c0::c1::c2::l:=rfl
theorem Ze5 {a0 a1 a2 a3 a4 a5 a6 a7 a8 a9:AV}{l:List AV}:((a0::a1::a2::a3::a4::a5::a6::a7::a8::a9::l).drop 5).take 5=[a5,a6,a7,a8,a9]:=rfl
theorem Zcm {τ:Operand→AV}:Zat τ [] [(.v (.int .i64 0)),(.v (.int .i64 0)),(.v (.int .i64 0)),(.v (.int .i64 0)),(.v (.int .i64 0))]=some [(.v (.int .i64 0)),(.v (.int .i64 0)),(.v (.int .i64 0)),(.v (.int .i64 0)),(.v (.int .i64 0))]:=rfl
theorem Ze6 {a0 a1 a2 a3 a4 a5 a6 a7:AV}{l:List AV}:((a0::a1::a2::a3::a4::a5::a6::a7::l).drop 5).take 3=[a5,a6,a7]:=rfl
theorem ZoO {a0 a1 a2 a3 a4 a5 a6 a7 a8 a9 a10:AV}{l:List AV}:(a0::a1::a2::a3::a4::a5::a6::a7::a8::a9::a10::l).take 11=[a0,a1,a2,a3,a4,a5,a6,a7,a8,a9,a10]:=rfl
theorem ZoP {a0 a1 a2 a3 a4 a5 a6 a7 a8 a9:AV}{l:List AV}:(a0::a1::a2::a3::a4::a5::a6::a7::a8::a9::l).take 10=[a0,a1,a2,a3,a4,a5,a6,a7,a8,a9]:=rfl
end
def c151:AC:=(Sr [Oo 1 (.box 36 11 (.tmp 0)),Mc 2 0] (.seq (Sr [Fa 5 0 1,Ld 6 5,Cl 7 115 [(.tmp 6)],Oo 8 (.un .not (.tmp 7)),Mv 9 8,Of 10 9 (.fa 10 (.tmp 1)),Of 11 9 (.load false 1 (.tmp 10)),Of 12 9 (.call (.func 224) [(.tmp 11)]),Of 13 9 (.un .not (.tmp 12)),Oo 14 (.pick (.tmp 9) (.const (.bool true)) (.tmp 13))] (Cd 14 (Sr [Mc 2 1] .ret) .skip)) (.seq (Sr [Fa 15 1 1,Ld 16 15,Fa 17 2 1,Ld 18 17,Cl 19 73 [(.tmp 16),(Ci 1900),(.tmp 18)],Oo 20 (.un .not (.tmp 19)),Mv 21 20,Of 22 21 (.fa 2 (.tmp 1)),Of 23 21 (.load false 1 (.tmp 22)),Of 24 21 (.bin .gtr (.tmp 23) (Ci 2100)),Oo 25 (.pick (.tmp 21) (.const (.bool true)) (.tmp 24)),Mv 26 25,Of 27 26 (.fa 3 (.tmp 1)),Of 28 26 (.load false 1 (.tmp 27)),Of 29 26 (.call (.func 73) [(.tmp 28),(Ci 1),(Ci 12)]),Of 30 26 (.un .not (.tmp 29)),Oo 31 (.pick (.tmp 26) (.const (.bool true)) (.tmp 30))] (Cd 31 (Sr [Mc 2 3] .ret) .skip)) (Sr [Fa 33 3 1,Ld 34 33,Fa 35 4 1,Oo 36 (.load true 3 (.tmp 35)),Cl 37 153 [(Ci 2001),(.tmp 34),(.tmp 36)],Mv 32 37,Ex 38 32 0,Ex 39 32 1,Oo 3 (.new 59 3 [(iv 0),(iv 0),(iv 0)]),⟨none,none,(.store 3 (.tmp 3) (.tmp 38))⟩,Mv 4 39] (.seq (Sr [Mv 40 4,Bc 41 .neq 40 0] (Cd 41 (Sr [Mv 42 4,Mv 2 42] .ret) .skip)) (.seq (Sr [Fa 43 7 1,Ld 44 43,Cl 45 73 [(.tmp 44),(Ci 0),(Ci 172800)],Oo 46 (.un .not (.tmp 45))] (Cd 46 (Sr [Mc 2 3] .ret) .skip)) (.seq (Sr [Fa 47 8 1,Ld 48 47,Cl 49 73 [(.tmp 48),(Ci 1),(Ci 3)],Oo 50 (.un .not (.tmp 49))] (Cd 50 (Sr [Mc 2 7] .ret) .skip)) (.seq (Sr [Fa 51 9 1,Ld 52 51,Cl 53 73 [(.tmp 52),(Ci 0),(Ci 10800)],Oo 54 (.un .not (.tmp 53))] (Cd 54 (Sr [Mc 2 3] .ret) .skip)) (Sr [Mc 2 0] .ret)))))))))
theorem k151:ZaD Tryz.prog 151=some ⟨c151,[(.tmp 2)],55⟩:=by kernel_rfl
def c152:AC:=(Sr [Oo 2 (.box 63 10 (.tmp 0)),Mc 4 0] (.seq (Sr [Fa 5 1 2,Ld 6 5,Oo 7 (.bin .neq (.tmp 6) (.const (.string ⟨#[]⟩))),Mv 8 7,Ot 9 8 (.fa 1 (.tmp 2)),Ot 10 8 (.load false 1 (.tmp 9)),Ot 11 8 (.call (.func 115) [(.tmp 10)]),Ot 12 8 (.un .not (.tmp 11)),Oo 13 (.pick (.tmp 8) (.tmp 12) (.const (.bool false))),Mv 14 13,Of 15 14 (.fa 3 (.tmp 2)),Of 16 14 (.load false 1 (.tmp 15)),Of 17 14 (.call (.func 225) [(.tmp 16)]),Of 18 14 (.un .not (.tmp 17)),Oo 19 (.pick (.tmp 14) (.const (.bool true)) (.tmp 18))] (Cd 19 (Sr [Mc 4 1] .ret) .skip)) (.seq (Sr [Fa 20 0 2,Ld 21 20,Cl 22 73 [(.tmp 21),(.const (.int .i64 (-64800))),(Ci 64800)],Oo 23 (.un .not (.tmp 22)),Mv 24 23,Of 25 24 (.fa 2 (.tmp 2)),Of 26 24 (.load false 1 (.tmp 25)),Of 27 24 (.call (.func 73) [(.tmp 26),(Ci 0),(Ci 10800)]),Of 28 24 (.un .not (.tmp 27)),Oo 29 (.pick (.tmp 24) (.const (.bool true)) (.tmp 28))] (Cd 29 (Sr [Mc 4 3] .ret) .skip)) (.seq (Sr [Fa 30 1 2,Ld 31 30,Oo 32 (.bin .neq (.tmp 31) (.const (.string ⟨#[]⟩))),Mv 33 32,Ot 34 33 (.fa 2 (.tmp 2)),Ot 35 33 (.load false 1 (.tmp 34)),Ot 36 33 (.bin .neq (.tmp 35) (Ci 0)),Oo 37 (.pick (.tmp 33) (.tmp 36) (.const (.bool false)))] (Cd 37 (Sr [Mc 4 1] .ret) .skip)) (.seq (Sr [Fa 38 4 2,Ld 39 38,Mv 40 1,Oo 41 (.eqb true (.tmp 39) (.tmp 40))] (Cd 41 (Sr [Mc 4 4] .ret) .skip)) (.seq (Sr [Fa 42 4 2,Ld 43 42] (Cd 43 (.seq (Sr [Fa 44 5 2,Oo 45 (.load true 5 (.tmp 44)),Oo 46 (.build [(iv 0),(iv 0),(iv 0),(iv 0),(iv 0)] []),Cl 47 226 [(.tmp 45),(.tmp 46)],Oo 48 (.un .not (.tmp 47))] (Cd 48 (Sr [Mc 4 1] .ret) .skip)) (Sr [Mc 4 0] .ret)) .skip)) (.seq (Sr [Fa 49 5 2,Fa 50 0 49,Oo 51 (.load true 3 (.tmp 50)),Cl 52 227 [(.tmp 51)],Oo 53 (.un .not (.tmp 52)),Mv 54 53,Of 55 54 (.fa 5 (.tmp 2)),Of 56 54 (.fa 3 (.tmp 55)),Of 57 54 (.load false 1 (.tmp 56)),Of 58 54 (.call (.func 73) [(.tmp 57),(Ci 0),(Ci 172800)]),Of 59 54 (.un .not (.tmp 58)),Oo 60 (.pick (.tmp 54) (.const (.bool true)) (.tmp 59))] (Cd 60 (Sr [Mc 4 3] .ret) .skip)) (.seq (Sr [Fa 61 5 2,Fa 62 4 61,Ld 63 62,Bc 64 .neq 63 2,Mv 65 64,Ot 66 65 (.fa 5 (.tmp 2)),Ot 67 65 (.fa 4 (.tmp 66)),Ot 68 65 (.load false 1 (.tmp 67)),Ot 69 65 (.bin .neq (.tmp 68) (Ci 3)),Oo 70 (.pick (.tmp 65) (.tmp 69) (.const (.bool false)))] (Cd 70 (Sr [Mc 4 7] .ret) .skip)) (Sr [Mc 4 0] .ret)))))))))
theorem k152:ZaD Tryz.prog 152=some ⟨c152,[(.tmp 4)],71⟩:=by kernel_rfl
def c79:AC:=(Sr [Oo 1 (.box 26 3 (.tmp 0)),Mc 2 0] (.seq (Sr [Fa 11 0 1,Ld 12 11,Oo 13 (.len false (.tmp 12)),Bc 14 .gtr 13 40,Mv 15 14,Of 16 15 (.fa 1 (.tmp 1)),Of 17 15 (.load false 1 (.tmp 16)),Of 18 15 (.len false (.tmp 17)),Of 19 15 (.bin .gtr (.tmp 18) (Ci 20)),Oo 20 (.pick (.tmp 15) (.const (.bool true)) (.tmp 19)),Mv 21 20,Of 22 21 (.fa 2 (.tmp 1)),Of 23 21 (.load false 1 (.tmp 22)),Of 24 21 (.len false (.tmp 23)),Of 25 21 (.bin .gtr (.tmp 24) (Ci 20)),Oo 26 (.pick (.tmp 21) (.const (.bool true)) (.tmp 25))] (Cd 26 (Sr [Mc 2 2] .ret) .skip)) (.seq (Sr [Mc 3 0] (.block 0 (.loop (.seq (Sr [Mv 27 3,Fa 28 1 1,Ld 29 28,Oo 30 (.len false (.tmp 29)),Bn 31 .lss 27 30] (Cd 31 .skip (.exit 0))) (.seq (.block 1 (Sr [Fa 34 1 1,Ld 35 34,Mv 36 3,Oo 37 (.ia 2 (.tmp 35) (.tmp 36)),Fa 38 1 37,Ld 39 38,Oo 40 (.len false (.tmp 39)),Bc 41 .gtr 40 8] (Cd 41 (Sr [Mc 2 2] .ret) .skip))) (.reg [Mv 32 3,Bc 33 .add 32 1,Mv 3 33])))))) (.seq (Sr [Mc 4 0] (.block 2 (.loop (.seq (Sr [Mv 42 4,Fa 43 0 1,Ld 44 43,Oo 45 (.len false (.tmp 44)),Bn 46 .lss 42 45] (Cd 46 .skip (.exit 2))) (.seq (.block 3 (Sr [Fa 49 0 1,Ld 50 49,Mv 51 4,Oo 52 (.ia 11 (.tmp 50) (.tmp 51)),Oo 53 (.load true 11 (.tmp 52)),Cl 54 151 [(.tmp 53)],Mv 5 54] (Sr [Mv 55 5,Bc 56 .neq 55 0] (Cd 56 (Sr [Mv 57 5,Mv 2 57] .ret) .skip)))) (.reg [Mv 47 4,Bc 48 .add 47 1,Mv 4 48])))))) (.seq (Sr [Mc 6 0] (.block 4 (.loop (.seq (Sr [Mv 58 6,Fa 59 1 1,Ld 60 59,Oo 61 (.len false (.tmp 60)),Bn 62 .lss 58 61] (Cd 62 .skip (.exit 4))) (.seq (.block 5 (Sr [Fa 65 1 1,Ld 66 65,Mv 67 6,Oo 68 (.ia 2 (.tmp 66) (.tmp 67)),Fa 69 1 68,Ld 70 69,Mv 7 70] (.seq (Sr [Fa 71 1 1,Ld 72 71,Mv 73 6,Oo 74 (.ia 2 (.tmp 72) (.tmp 73)),Fa 75 0 74,Ld 76 75,Cl 77 115 [(.tmp 76)],Oo 78 (.un .not (.tmp 77)),Mv 79 78,Of 80 79 (mt 7),Of 81 79 (.len false (.tmp 80)),Of 82 79 (.bin .eql (.tmp 81) (Ci 0)),Oo 83 (.pick (.tmp 79) (.const (.bool true)) (.tmp 82))] (Cd 83 (Sr [Mc 2 1] .ret) .skip)) (Sr [Mc 8 0] (.block 6 (.loop (.seq (Sr [Mv 84 8,Mv 85 7,Oo 86 (.len false (.tmp 85)),Bn 87 .lss 84 86] (Cd 87 .skip (.exit 6))) (.seq (.block 7 (Sr [Mv 90 7,Mv 91 8,Oo 92 (.ia 10 (.tmp 90) (.tmp 91)),Oo 93 (.load true 10 (.tmp 92)),Mv 94 8,Mv 95 7,Oo 96 (.len false (.tmp 95)),Bc 97 .sub 96 1,Bn 98 .eql 94 97,Cl 99 152 [(.tmp 93),(.tmp 98)],Mv 9 99] (Sr [Mv 100 9,Bc 101 .neq 100 0] (Cd 101 (Sr [Mv 102 9,Mv 2 102] .ret) .skip)))) (.reg [Mv 88 8,Bc 89 .add 88 1,Mv 8 89]))))))))) (.reg [Mv 63 6,Bc 64 .add 63 1,Mv 6 64])))))) (.seq (Sr [Mc 10 0] (.block 8 (.loop (.seq (Sr [Mv 103 10,Fa 104 2 1,Ld 105 104,Oo 106 (.len false (.tmp 105)),Bn 107 .lss 103 106] (Cd 107 .skip (.exit 8))) (.seq (.block 9 (Sr [Fa 110 2 1,Ld 111 110,Mv 112 10,Oo 113 (.ia 2 (.tmp 111) (.tmp 112)),Fa 114 0 113,Ld 115 114,Cl 116 115 [(.tmp 115)],Oo 117 (.un .not (.tmp 116)),Mv 118 117,Of 119 118 (.fa 2 (.tmp 1)),Of 120 118 (.load false 1 (.tmp 119)),Of 121 118 (mt 10),Of 122 118 (.ia 2 (.tmp 120) (.tmp 121)),Of 123 118 (.fa 1 (.tmp 122)),Of 124 118 (.load false 1 (.tmp 123)),Of 125 118 (.call (.func 115) [(.tmp 124)]),Of 126 118 (.un .not (.tmp 125)),Oo 127 (.pick (.tmp 118) (.const (.bool true)) (.tmp 126))] (Cd 127 (Sr [Mc 2 1] .ret) .skip))) (.reg [Mv 108 10,Bc 109 .add 108 1,Mv 10 109])))))) (Sr [Mc 2 0] .ret)))))))
theorem k79:ZaD Tryz.prog 79=some ⟨c79,[(.tmp 2)],128⟩:=by kernel_rfl
theorem ZkI {nm lt:ByteArray}{f t m k w n a c s:Int}{h:AH}(hnm:nm.size≤maxLen) (hlt':lt.size≤maxLen):Ac 151 [.agg [sv nm,iv f,iv t,iv m,iv k,iv w,iv n,iv a,iv c,iv s,sv lt]] h (iv (Zbm (nm,f,t,m,(k,w,n),a,c,s,lt))):=by
 refine tI' k151 fun N hn hlt hlA hbd=>?_
 simp only [tb'] at hbd ⊢
 refine wr'<|E' (Zbj (cvl lk rfl) rfl (hl0 hn) ha0) pt<|mv' lki pt<|sn'<|Zam<|wr'<|V' (Zac lk) pt<|V' (Zab lk (hga hn rfl) gt0) pt<|Zad mp (ZcV hnm) pt<|V' (Zaw lk) pt<|mv' lk pt<|?_
 refine ZaE (t:=9) gt pt pt (fun hg9=>?_) (fun hg9=>?_)
 ·refine s_no gt pt<|s_no gt pt<|s_no gt pt<|s_no gt pt<|V' (Zak lk lkb) pt<|sn'<|ZaH lk<|wr'<|mv' lki pt<|sn'<|Zaa<|?_
  refine Zai<|Zaf rz<|rT'<|?_
  rw [show Zbm (nm,f,t,m,(k,w,n),a,c,s,lt)=1 by unfold Zbm;simp_all]
 refine s_do gt<|V' (Zac lk) pt<|s_do gt<|V' (Zab lk (hga hn rfl) gt10) pt<|s_do gt<|Zad mp (ZgT hlt') pt<|s_do gt<|V' (Zaw lk) pt<|V' (Zag lk lk) pt<|sn'<|?_
 refine Zau lk (fun hc1=>?_) (fun hc1=>?_)
 ·refine wr'<|mv' lki pt<|sn'<|Zaa<|Zai<|Zaf rz<|rT'<|?_
  rw [show Zbm (nm,f,t,m,(k,w,n),a,c,s,lt)=1 by unfold Zbm;simp_all]
 have h1:Zck nm=true∧Zcf lt=true:=by simp_all
 have hR:Zbm (nm,f,t,m,(k,w,n),a,c,s,lt)=if f<1900∨f>t∨t>2100∨¬wi m 1 12=true then 3 else if (onV 2001 m k w n).2≠0 then (onV 2001 m k w n).2 else if ¬wi a 0 172800=true then 3 else if ¬clkB c true=true then 7 else if ¬wi s 0 10800=true then 3 else 0:=if_neg (by simp [h1])
 have hC:clkB c true=wi c 1 3:=by unfold clkB;simp
 rw [hC] at hR
 refine Zae<|Zah<|Zam<|wr'<|V' (Zac lk) pt<|V' (Zab lk (hga hn rfl) gt1) pt<|V' (Zac lk) pt<|V' (Zab lk (hga hn rfl) gt2) pt<|Zad mp (ZaU) pt<|V' (Zaw lk) pt<|mv' lk pt<|?_
 refine ZaE (t:=21) gt pt pt (fun hg21=>?_) (fun hg21=>?_)
 ·have hw:¬wi f 1900 t=true:=by simpa using hg21
  have hw':¬(1900≤f∧f≤t):=by unfold wi at hw;simpa using hw
  rw [if_pos (by omega)] at hR
  refine s_no gt pt<|s_no gt pt<|s_no gt pt<|V' (Zak lk lkb) pt<|mv' lk pt<|s_no gt pt<|s_no gt pt<|s_no gt pt<|s_no gt pt<|V' (Zak lk lkb) pt<|sn'<|ZaH lk<|Zam<|?_
  refine Zas<|mv' lki pt<|sn'<|Zaa<|Zai<|Zaf rz<|rT'<|?_
  rw [hR]
 have hw:wi f 1900 t=true:=by simpa using hg21
 have hw':1900≤f∧f≤t:=by unfold wi at hw;simpa using hw
 refine s_do gt<|V' (Zac lk) pt<|s_do gt<|V' (Zab lk (hga hn rfl) gt2) pt<|s_do gt<|V' (ZbV lk lki) pt<|V' (Zag lk lk) pt<|mv' lk pt<|?_
 refine sp' (t:=26) gt pt pt (fun hg26=>?_) (fun hg26=>?_)
 ·rw [if_pos (.inr (.inr (.inl (by omega))))] at hR
  refine s_no gt pt<|s_no gt pt<|s_no gt pt<|s_no gt pt<|V' (Zak lk lkb) pt<|sn'<|ZaH lk<|wr'<|mv' lki pt<|sn'<|Zaa<|?_
  refine Zai<|Zaf rz<|rT'<|?_
  rw [hR]
 refine s_do gt<|V' (Zac lk) pt<|s_do gt<|V' (Zab lk (hga hn rfl) gt3) pt<|s_do gt<|Zad mp (ZaU) pt<|s_do gt<|V' (Zaw lk) pt<|V' (Zag lk lk) pt<|sn'<|?_
 refine Zau lk (fun hc2=>?_) (fun hc2=>?_)
 ·rw [if_pos (.inr (.inr (.inr (by simpa using hc2))))] at hR
  refine wr'<|mv' lki pt<|sn'<|Zaa<|Zai<|Zaf rz<|rT'<|?_
  rw [hR]
 have hw2:wi m 1 12=true:=by simpa using hc2
 have h2:¬(f<1900∨f>t∨t>2100∨¬wi m 1 12=true):=by rw [hw2];simp;omega
 rw [if_neg h2] at hR
 refine Zae<|Zah<|wr'<|V' (Zac lk) pt<|V' (Zab lk (hga hn rfl) gt3) pt<|V' (Zac lk) pt<|V' (Zaq lk (hga hn rfl) ZoQ rfl) pt<|Zad mp (ron_a) pt<|mv' lk pt<|V' (Za3 lk gt) pt<|V' (Za3 lk gt) pt<|E' (Za6 (hl1 hn) ha1) pt<|E' (Zal lk (cvl lk rfl) (hga hn rfl) rfl (nb' rfl) rfl ZoR (hs1 hn)) ptn<|?_
 refine mv' lk pt<|sn'<|Zam<|wr'<|mv' lk pt<|V' (Za1 lk lki) pt<|sn'<|?_
 refine cd' lk (fun hc3=>?_) (fun hc3=>?_)
 ·rw [if_pos hc3] at hR
  refine wr'<|mv' lk pt<|mv' lk pt<|sn'<|Zaa<|Zai<|Zaf rz<|rT'<|?_
  rw [hR]
 rw [if_neg hc3] at hR
 refine Zae<|Zah<|Zam<|wr'<|V' (Zac lk) pt<|V' (Zab lk (hga hn rfl) gt7) pt<|Zad mp (ZaU) pt<|V' (Zaw lk) pt<|sn'<|?_
 refine Zau lk (fun hc4=>?_) (fun hc4=>?_)
 ·rw [if_pos (by simpa using hc4)] at hR
  refine wr'<|mv' lki pt<|sn'<|Zaa<|Zai<|Zaf rz<|rT'<|?_
  rw [hR]
 rw [if_neg (by simpa using hc4)] at hR
 refine Zae<|Zah<|Zam<|wr'<|V' (Zac lk) pt<|V' (Zab lk (hga hn rfl) gt8) pt<|Zad mp (ZaU) pt<|V' (Zaw lk) pt<|sn'<|?_
 refine Zau lk (fun hc5=>?_) (fun hc5=>?_)
 ·rw [if_pos (by simpa using hc5)] at hR
  refine wr'<|mv' lki pt<|sn'<|Zaa<|Zai<|Zaf rz<|rT'<|?_
  rw [hR]
 rw [if_neg (by simpa using hc5)] at hR
 refine Zae<|Zah<|Zam<|wr'<|V' (Zac lk) pt<|V' (Zab lk (hga hn rfl) gt9) pt<|Zad mp (ZaU) pt<|V' (Zaw lk) pt<|sn'<|?_
 refine Zau lk (fun hc6=>?_) (fun hc6=>?_)
 ·rw [if_pos (by simpa using hc6)] at hR
  refine wr'<|mv' lki pt<|sn'<|Zaa<|Zai<|Zaf rz<|rT'<|?_
  rw [hR]
 rw [if_neg (by simpa using hc6)] at hR
 refine Zae<|Zah<|wr'<|mv' lki pt<|sn'<|Zaa<|Zaf rz<|rT'<|?_
 rw [hR]
theorem Zg5 (c:Int):clkB c false=decide (c=2∨c=3):=by unfold clkB wi;rw [Bool.eq_iff_iff];simp;omega
theorem ZlO {rl fm:ByteArray}{sh sa y m d a c:Int}{op last:Bool}{h:AH}(hrl:rl.size≤maxLen) (hfm:fm.size≤maxLen):Ac 152 [.agg [iv sh,sv rl,iv sa,sv fm,bv op,iv y,iv m,iv d,iv a,iv c],bv last] h (iv (eraE sh rl sa fm op y m d a c last)):=by
 refine tI' k152 fun N hn hlt hlA hbd=>?_
 simp only [tb'] at hbd ⊢
 refine wr'<|E' (Zbj (cvl lk rfl) rfl (hl0 hn) ha0) pt<|mv' lki pt<|sn'<|Zam<|wr'<|V' (Zac lk) pt<|V' (Zab lk (hga hn rfl) gt1) pt<|V' (Zcs lk lks) pt<|mv' lk pt<|?_
 refine sp' (t:=8) gt pt pt (fun hg8=>?_) (fun hg8=>?_)
 ·refine s_do gt<|V' (Zac lk) pt<|s_do gt<|V' (Zab lk (hga hn rfl) gt1) pt<|s_do gt<|Zad mp (ZcV hrl) pt<|s_do gt<|V' (Zaw lk) pt<|V' (Zak lk lk) pt<|mv' lk pt<|?_
  refine ZaE (t:=14) gt pt pt (fun hg14=>?_) (fun hg14=>?_)
  ·refine s_no gt pt<|s_no gt pt<|s_no gt pt<|s_no gt pt<|V' (Zak lk lkb) pt<|sn'<|ZaH lk<|wr'<|mv' lki pt<|sn'<|Zaa<|?_
   refine Zai<|Zaf rz<|rT'<|?_
   refine ivx ?_;unfold eraE;simp_all
  refine s_do gt<|V' (Zac lk) pt<|s_do gt<|V' (Zab lk (hga hn rfl) gt3) pt<|s_do gt<|Zad mp (Zfk hfm) pt<|s_do gt<|V' (Zaw lk) pt<|V' (Zag lk lk) pt<|sn'<|?_
  refine Zau lk (fun hc1=>?_) (fun hc1=>?_)
  ·refine wr'<|mv' lki pt<|sn'<|Zaa<|Zai<|Zaf rz<|rT'<|?_
   refine ivx ?_;unfold eraE;simp_all
  refine Zae<|Zah<|Zam<|wr'<|V' (Zac lk) pt<|V' (Zab lk (hga hn rfl) gt0) pt<|Zad mp (ZaU) pt<|V' (Zaw lk) pt<|mv' lk pt<|?_
  refine ZaE (t:=24) gt pt pt (fun hg24=>?_) (fun hg24=>?_)
  ·refine s_no gt pt<|s_no gt pt<|s_no gt pt<|s_no gt pt<|V' (Zak lk lkb) pt<|sn'<|ZaH lk<|wr'<|mv' lki pt<|sn'<|Zaa<|?_
   refine Zai<|Zaf rz<|rT'<|?_
   refine ivx ?_;unfold eraE;simp_all
  refine s_do gt<|V' (Zac lk) pt<|s_do gt<|V' (Zab lk (hga hn rfl) gt2) pt<|s_do gt<|Zad mp (ZaU) pt<|s_do gt<|V' (Zaw lk) pt<|V' (Zag lk lk) pt<|sn'<|?_
  refine Zau lk (fun hc2=>?_) (fun hc2=>?_)
  ·refine wr'<|mv' lki pt<|sn'<|Zaa<|Zai<|Zaf rz<|rT'<|?_
   refine ivx ?_;unfold eraE;simp_all
  refine Zae<|Zah<|Zam<|wr'<|V' (Zac lk) pt<|V' (Zab lk (hga hn rfl) gt1) pt<|V' (Zcs lk lks) pt<|mv' lk pt<|?_
  refine sp' (t:=33) gt pt pt (fun hg33=>?_) (fun hg33=>?_)
  ·refine s_do gt<|V' (Zac lk) pt<|s_do gt<|V' (Zab lk (hga hn rfl) gt2) pt<|s_do gt<|V' (Za1 lk lki) pt<|V' (Zak lk lk) pt<|sn'<|?_
   refine cd' lk (fun hc3=>?_) (fun hc3=>?_)
   ·refine wr'<|mv' lki pt<|sn'<|Zaa<|Zai<|Zaf rz<|rT'<|?_
    refine ivx ?_;unfold eraE;simp_all
   refine Zae<|Zah<|Zam<|wr'<|V' (Zac lk) pt<|V' (Zab lk (hga hn rfl) gt4) pt<|mv' lk pt<|V' (Zdt lk lk) pt<|sn'<|?_
   refine cd' lk (fun hc4=>?_) (fun hc4=>?_)
   ·refine wr'<|mv' lki pt<|sn'<|Zaa<|Zai<|Zaf rz<|rT'<|?_
    refine ivx ?_;unfold eraE;simp_all
   refine Zae<|Zah<|Zam<|wr'<|V' (Zac lk) pt<|V' (Zab lk (hga hn rfl) gt4) pt<|sn'<|?_
   refine Zau lk (fun hc5=>?_) (fun hc5=>?_)
   ·refine Zam<|wr'<|V' (Zac lk) pt<|V' (Zaq lk (hga hn rfl) Ze5 rfl) pt<|V' (Zax Zcm) pt<|Zad mp (Zdw (u:=((y,m,d),a,c)) (v:=((0,0,0),0,0))) pt<|V' (Zaw lk) pt<|sn'<|?_
    refine Zau lk (fun hc6=>?_) (fun hc6=>?_)
    ·refine wr'<|mv' lki pt<|sn'<|Zaa<|Zai<|Zai<|Zaf rz<|rT'<|?_
     refine ivx ?_;unfold eraE;simp_all <;> (try intros) <;> omega
    refine Zae<|Zah<|wr'<|mv' lki pt<|sn'<|Zaa<|Zai<|Zaf rz<|rT'<|?_
    refine ivx ?_;unfold eraE;simp_all
   refine Zae<|Zah<|Zam<|wr'<|V' (Zac lk) pt<|V' (ZbE lk) pt<|V' (Zaq lk (hga hn rfl) Ze6 rfl) pt<|Zad mp (ZeO) pt<|V' (Zaw lk) pt<|mv' lk pt<|?_
   refine ZaE (t:=54) gt pt pt (fun hg54=>?_) (fun hg54=>?_)
   ·refine s_no gt pt<|s_no gt pt<|s_no gt pt<|s_no gt pt<|s_no gt pt<|V' (Zak lk lkb) pt<|sn'<|ZaH lk<|wr'<|mv' lki pt<|sn'<|?_
    refine Zaa<|Zai<|Zaf rz<|rT'<|?_
    refine ivx ?_;unfold eraE;simp_all
   refine s_do gt<|V' (Zac lk) pt<|s_do gt<|V' (ZbE lk) pt<|s_do gt<|V' (Zab lk (hga hn rfl) gt8) pt<|s_do gt<|Zad mp (ZaU) pt<|s_do gt<|V' (Zaw lk) pt<|V' (Zag lk lk) pt<|sn'<|?_
   refine Zau lk (fun hc7=>?_) (fun hc7=>?_)
   ·refine wr'<|mv' lki pt<|sn'<|Zaa<|Zai<|Zaf rz<|rT'<|?_
    refine ivx ?_;unfold eraE;simp_all
   refine Zae<|Zah<|Zam<|wr'<|V' (Zac lk) pt<|V' (ZbE lk) pt<|V' (Zab lk (hga hn rfl) gt9) pt<|V' (Za1 lk lki) pt<|mv' lk pt<|?_
   refine sp' (t:=65) gt pt pt (fun hg65=>?_) (fun hg65=>?_)
   ·refine s_do gt<|V' (Zac lk) pt<|s_do gt<|V' (ZbE lk) pt<|s_do gt<|V' (Zab lk (hga hn rfl) gt9) pt<|s_do gt<|V' (Za1 lk lki) pt<|V' (Zak lk lk) pt<|sn'<|?_
    refine cd' lk (fun hc8=>?_) (fun hc8=>?_)
    ·refine wr'<|mv' lki pt<|sn'<|Zaa<|Zai<|Zaf rz<|rT'<|?_
     refine ivx ?_;unfold eraE;rw [Zg5];simp_all
    refine Zae<|Zah<|wr'<|mv' lki pt<|sn'<|Zaa<|Zaf rz<|rT'<|?_
    refine ivx ?_;unfold eraE;rw [Zg5];simp_all
   refine s_no gt pt<|s_no gt pt<|s_no gt pt<|s_no gt pt<|V' (Zag lk lkb) pt<|sn'<|ZaM lk<|Zae<|Zah<|wr'<|mv' lki pt<|Zar<|?_
   refine Zah<|Zaa<|Zaf rz<|rT'<|?_
   refine ivx ?_;unfold eraE;rw [Zg5];simp_all
  refine s_no gt pt<|s_no gt pt<|s_no gt pt<|V' (Zag lk lkb) pt<|sn'<|ZaM lk<|Zae<|Zah<|Zam<|wr'<|V' (Zac lk) pt<|V' (Zab lk (hga hn rfl) gt4) pt<|?_
  refine mv' lk pt<|V' (Zdt lk lk) pt<|sn'<|?_
  refine cd' lk (fun hc4=>?_) (fun hc4=>?_)
  ·refine wr'<|mv' lki pt<|sn'<|Zaa<|Zai<|Zaf rz<|rT'<|?_
   refine ivx ?_;unfold eraE;simp_all
  refine Zae<|Zah<|Zam<|wr'<|V' (Zac lk) pt<|V' (Zab lk (hga hn rfl) gt4) pt<|sn'<|?_
  refine Zau lk (fun hc5=>?_) (fun hc5=>?_)
  ·refine Zam<|wr'<|V' (Zac lk) pt<|V' (Zaq lk (hga hn rfl) Ze5 rfl) pt<|V' (Zax Zcm) pt<|Zad mp (Zdw (u:=((y,m,d),a,c)) (v:=((0,0,0),0,0))) pt<|V' (Zaw lk) pt<|sn'<|?_
   refine Zau lk (fun hc6=>?_) (fun hc6=>?_)
   ·refine wr'<|mv' lki pt<|sn'<|Zaa<|Zai<|Zai<|Zaf rz<|rT'<|?_
    refine ivx ?_;unfold eraE;simp_all <;> (try intros) <;> omega
   refine Zae<|Zah<|wr'<|mv' lki pt<|sn'<|Zaa<|Zai<|Zaf rz<|rT'<|?_
   refine ivx ?_;unfold eraE;simp_all
  refine Zae<|Zah<|Zam<|wr'<|V' (Zac lk) pt<|V' (ZbE lk) pt<|V' (Zaq lk (hga hn rfl) Ze6 rfl) pt<|Zad mp (ZeO) pt<|V' (Zaw lk) pt<|mv' lk pt<|?_
  refine ZaE (t:=54) gt pt pt (fun hg54=>?_) (fun hg54=>?_)
  ·refine s_no gt pt<|s_no gt pt<|s_no gt pt<|s_no gt pt<|s_no gt pt<|V' (Zak lk lkb) pt<|sn'<|ZaH lk<|wr'<|mv' lki pt<|sn'<|?_
   refine Zaa<|Zai<|Zaf rz<|rT'<|?_
   refine ivx ?_;unfold eraE;simp_all
  refine s_do gt<|V' (Zac lk) pt<|s_do gt<|V' (ZbE lk) pt<|s_do gt<|V' (Zab lk (hga hn rfl) gt8) pt<|s_do gt<|Zad mp (ZaU) pt<|s_do gt<|V' (Zaw lk) pt<|V' (Zag lk lk) pt<|sn'<|?_
  refine Zau lk (fun hc7=>?_) (fun hc7=>?_)
  ·refine wr'<|mv' lki pt<|sn'<|Zaa<|Zai<|Zaf rz<|rT'<|?_
   refine ivx ?_;unfold eraE;simp_all
  refine Zae<|Zah<|Zam<|wr'<|V' (Zac lk) pt<|V' (ZbE lk) pt<|V' (Zab lk (hga hn rfl) gt9) pt<|V' (Za1 lk lki) pt<|mv' lk pt<|?_
  refine sp' (t:=65) gt pt pt (fun hg65=>?_) (fun hg65=>?_)
  ·refine s_do gt<|V' (Zac lk) pt<|s_do gt<|V' (ZbE lk) pt<|s_do gt<|V' (Zab lk (hga hn rfl) gt9) pt<|s_do gt<|V' (Za1 lk lki) pt<|V' (Zak lk lk) pt<|sn'<|?_
   refine cd' lk (fun hc8=>?_) (fun hc8=>?_)
   ·refine wr'<|mv' lki pt<|sn'<|Zaa<|Zai<|Zaf rz<|rT'<|?_
    refine ivx ?_;unfold eraE;rw [Zg5];simp_all
   refine Zae<|Zah<|wr'<|mv' lki pt<|sn'<|Zaa<|Zaf rz<|rT'<|?_
   refine ivx ?_;unfold eraE;rw [Zg5];simp_all
  refine s_no gt pt<|s_no gt pt<|s_no gt pt<|s_no gt pt<|V' (Zag lk lkb) pt<|sn'<|ZaM lk<|Zae<|Zah<|wr'<|mv' lki pt<|Zar<|?_
  refine Zah<|Zaa<|Zaf rz<|rT'<|?_
  refine ivx ?_;unfold eraE;rw [Zg5];simp_all
 refine s_no gt pt<|s_no gt pt<|s_no gt pt<|s_no gt pt<|V' (Zag lk lkb) pt<|mv' lk pt<|s_do gt<|V' (Zac lk) pt<|s_do gt<|V' (Zab lk (hga hn rfl) gt3) pt<|s_do gt<|Zad mp (Zfk hfm) pt<|s_do gt<|V' (Zaw lk) pt<|?_
 refine V' (Zag lk lk) pt<|sn'<|?_
 refine Zau lk (fun hc1=>?_) (fun hc1=>?_)
 ·refine wr'<|mv' lki pt<|sn'<|Zaa<|Zai<|Zaf rz<|rT'<|?_
  refine ivx ?_;unfold eraE;simp_all
 refine Zae<|Zah<|Zam<|wr'<|V' (Zac lk) pt<|V' (Zab lk (hga hn rfl) gt0) pt<|Zad mp (ZaU) pt<|V' (Zaw lk) pt<|mv' lk pt<|?_
 refine ZaE (t:=24) gt pt pt (fun hg24=>?_) (fun hg24=>?_)
 ·refine s_no gt pt<|s_no gt pt<|s_no gt pt<|s_no gt pt<|V' (Zak lk lkb) pt<|sn'<|ZaH lk<|wr'<|mv' lki pt<|sn'<|Zaa<|?_
  refine Zai<|Zaf rz<|rT'<|?_
  refine ivx ?_;unfold eraE;simp_all
 refine s_do gt<|V' (Zac lk) pt<|s_do gt<|V' (Zab lk (hga hn rfl) gt2) pt<|s_do gt<|Zad mp (ZaU) pt<|s_do gt<|V' (Zaw lk) pt<|V' (Zag lk lk) pt<|sn'<|?_
 refine Zau lk (fun hc2=>?_) (fun hc2=>?_)
 ·refine wr'<|mv' lki pt<|sn'<|Zaa<|Zai<|Zaf rz<|rT'<|?_
  refine ivx ?_;unfold eraE;simp_all
 refine Zae<|Zah<|Zam<|wr'<|V' (Zac lk) pt<|V' (Zab lk (hga hn rfl) gt1) pt<|V' (Zcs lk lks) pt<|mv' lk pt<|?_
 refine sp' (t:=33) gt pt pt (fun hg33=>?_) (fun hg33=>?_)
 ·refine s_do gt<|V' (Zac lk) pt<|s_do gt<|V' (Zab lk (hga hn rfl) gt2) pt<|s_do gt<|V' (Za1 lk lki) pt<|V' (Zak lk lk) pt<|sn'<|?_
  refine cd' lk (fun hc3=>?_) (fun hc3=>?_)
  ·refine wr'<|mv' lki pt<|sn'<|Zaa<|Zai<|Zaf rz<|rT'<|?_
   refine ivx ?_;unfold eraE;simp_all
  refine Zae<|Zah<|Zam<|wr'<|V' (Zac lk) pt<|V' (Zab lk (hga hn rfl) gt4) pt<|mv' lk pt<|V' (Zdt lk lk) pt<|sn'<|?_
  refine cd' lk (fun hc4=>?_) (fun hc4=>?_)
  ·refine wr'<|mv' lki pt<|sn'<|Zaa<|Zai<|Zaf rz<|rT'<|?_
   refine ivx ?_;unfold eraE;simp_all
  refine Zae<|Zah<|Zam<|wr'<|V' (Zac lk) pt<|V' (Zab lk (hga hn rfl) gt4) pt<|sn'<|?_
  refine Zau lk (fun hc5=>?_) (fun hc5=>?_)
  ·refine Zam<|wr'<|V' (Zac lk) pt<|V' (Zaq lk (hga hn rfl) Ze5 rfl) pt<|V' (Zax Zcm) pt<|Zad mp (Zdw (u:=((y,m,d),a,c)) (v:=((0,0,0),0,0))) pt<|V' (Zaw lk) pt<|sn'<|?_
   refine Zau lk (fun hc6=>?_) (fun hc6=>?_)
   ·refine wr'<|mv' lki pt<|sn'<|Zaa<|Zai<|Zai<|Zaf rz<|rT'<|?_
    refine ivx ?_;unfold eraE;simp_all <;> (try intros) <;> omega
   refine Zae<|Zah<|wr'<|mv' lki pt<|sn'<|Zaa<|Zai<|Zaf rz<|rT'<|?_
   refine ivx ?_;unfold eraE;simp_all
  refine Zae<|Zah<|Zam<|wr'<|V' (Zac lk) pt<|V' (ZbE lk) pt<|V' (Zaq lk (hga hn rfl) Ze6 rfl) pt<|Zad mp (ZeO) pt<|V' (Zaw lk) pt<|mv' lk pt<|?_
  refine ZaE (t:=54) gt pt pt (fun hg54=>?_) (fun hg54=>?_)
  ·refine s_no gt pt<|s_no gt pt<|s_no gt pt<|s_no gt pt<|s_no gt pt<|V' (Zak lk lkb) pt<|sn'<|ZaH lk<|wr'<|mv' lki pt<|sn'<|?_
   refine Zaa<|Zai<|Zaf rz<|rT'<|?_
   refine ivx ?_;unfold eraE;simp_all
  refine s_do gt<|V' (Zac lk) pt<|s_do gt<|V' (ZbE lk) pt<|s_do gt<|V' (Zab lk (hga hn rfl) gt8) pt<|s_do gt<|Zad mp (ZaU) pt<|s_do gt<|V' (Zaw lk) pt<|V' (Zag lk lk) pt<|sn'<|?_
  refine Zau lk (fun hc7=>?_) (fun hc7=>?_)
  ·refine wr'<|mv' lki pt<|sn'<|Zaa<|Zai<|Zaf rz<|rT'<|?_
   refine ivx ?_;unfold eraE;simp_all
  refine Zae<|Zah<|Zam<|wr'<|V' (Zac lk) pt<|V' (ZbE lk) pt<|V' (Zab lk (hga hn rfl) gt9) pt<|V' (Za1 lk lki) pt<|mv' lk pt<|?_
  refine sp' (t:=65) gt pt pt (fun hg65=>?_) (fun hg65=>?_)
  ·refine s_do gt<|V' (Zac lk) pt<|s_do gt<|V' (ZbE lk) pt<|s_do gt<|V' (Zab lk (hga hn rfl) gt9) pt<|s_do gt<|V' (Za1 lk lki) pt<|V' (Zak lk lk) pt<|sn'<|?_
   refine cd' lk (fun hc8=>?_) (fun hc8=>?_)
   ·refine wr'<|mv' lki pt<|sn'<|Zaa<|Zai<|Zaf rz<|rT'<|?_
    refine ivx ?_;unfold eraE;rw [Zg5];simp_all
   refine Zae<|Zah<|wr'<|mv' lki pt<|sn'<|Zaa<|Zaf rz<|rT'<|?_
   refine ivx ?_;unfold eraE;rw [Zg5];simp_all
  refine s_no gt pt<|s_no gt pt<|s_no gt pt<|s_no gt pt<|V' (Zag lk lkb) pt<|sn'<|ZaM lk<|Zae<|Zah<|wr'<|mv' lki pt<|Zar<|?_
  refine Zah<|Zaa<|Zaf rz<|rT'<|?_
  refine ivx ?_;unfold eraE;rw [Zg5];simp_all
 refine s_no gt pt<|s_no gt pt<|s_no gt pt<|V' (Zag lk lkb) pt<|sn'<|ZaM lk<|Zae<|Zah<|Zam<|wr'<|V' (Zac lk) pt<|V' (Zab lk (hga hn rfl) gt4) pt<|?_
 refine mv' lk pt<|V' (Zdt lk lk) pt<|sn'<|?_
 refine cd' lk (fun hc4=>?_) (fun hc4=>?_)
 ·refine wr'<|mv' lki pt<|sn'<|Zaa<|Zai<|Zaf rz<|rT'<|?_
  refine ivx ?_;unfold eraE;simp_all
 refine Zae<|Zah<|Zam<|wr'<|V' (Zac lk) pt<|V' (Zab lk (hga hn rfl) gt4) pt<|sn'<|?_
 refine Zau lk (fun hc5=>?_) (fun hc5=>?_)
 ·refine Zam<|wr'<|V' (Zac lk) pt<|V' (Zaq lk (hga hn rfl) Ze5 rfl) pt<|V' (Zax Zcm) pt<|Zad mp (Zdw (u:=((y,m,d),a,c)) (v:=((0,0,0),0,0))) pt<|V' (Zaw lk) pt<|sn'<|?_
  refine Zau lk (fun hc6=>?_) (fun hc6=>?_)
  ·refine wr'<|mv' lki pt<|sn'<|Zaa<|Zai<|Zai<|Zaf rz<|rT'<|?_
   refine ivx ?_;unfold eraE;simp_all <;> (try intros) <;> omega
  refine Zae<|Zah<|wr'<|mv' lki pt<|sn'<|Zaa<|Zai<|Zaf rz<|rT'<|?_
  refine ivx ?_;unfold eraE;simp_all
 refine Zae<|Zah<|Zam<|wr'<|V' (Zac lk) pt<|V' (ZbE lk) pt<|V' (Zaq lk (hga hn rfl) Ze6 rfl) pt<|Zad mp (ZeO) pt<|V' (Zaw lk) pt<|mv' lk pt<|?_
 refine ZaE (t:=54) gt pt pt (fun hg54=>?_) (fun hg54=>?_)
 ·refine s_no gt pt<|s_no gt pt<|s_no gt pt<|s_no gt pt<|s_no gt pt<|V' (Zak lk lkb) pt<|sn'<|ZaH lk<|wr'<|mv' lki pt<|sn'<|?_
  refine Zaa<|Zai<|Zaf rz<|rT'<|?_
  refine ivx ?_;unfold eraE;simp_all
 refine s_do gt<|V' (Zac lk) pt<|s_do gt<|V' (ZbE lk) pt<|s_do gt<|V' (Zab lk (hga hn rfl) gt8) pt<|s_do gt<|Zad mp (ZaU) pt<|s_do gt<|V' (Zaw lk) pt<|V' (Zag lk lk) pt<|sn'<|?_
 refine Zau lk (fun hc7=>?_) (fun hc7=>?_)
 ·refine wr'<|mv' lki pt<|sn'<|Zaa<|Zai<|Zaf rz<|rT'<|?_
  refine ivx ?_;unfold eraE;simp_all
 refine Zae<|Zah<|Zam<|wr'<|V' (Zac lk) pt<|V' (ZbE lk) pt<|V' (Zab lk (hga hn rfl) gt9) pt<|V' (Za1 lk lki) pt<|mv' lk pt<|?_
 refine sp' (t:=65) gt pt pt (fun hg65=>?_) (fun hg65=>?_)
 ·refine s_do gt<|V' (Zac lk) pt<|s_do gt<|V' (ZbE lk) pt<|s_do gt<|V' (Zab lk (hga hn rfl) gt9) pt<|s_do gt<|V' (Za1 lk lki) pt<|V' (Zak lk lk) pt<|sn'<|?_
  refine cd' lk (fun hc8=>?_) (fun hc8=>?_)
  ·refine wr'<|mv' lki pt<|sn'<|Zaa<|Zai<|Zaf rz<|rT'<|?_
   refine ivx ?_;unfold eraE;rw [Zg5];simp_all
  refine Zae<|Zah<|wr'<|mv' lki pt<|sn'<|Zaa<|Zaf rz<|rT'<|?_
  refine ivx ?_;unfold eraE;rw [Zg5];simp_all
 refine s_no gt pt<|s_no gt pt<|s_no gt pt<|s_no gt pt<|V' (Zag lk lkb) pt<|sn'<|ZaM lk<|Zae<|Zah<|wr'<|mv' lki pt<|Zar<|?_
 refine Zah<|Zaa<|Zaf rz<|rT'<|?_
 refine ivx ?_;unfold eraE;rw [Zg5];simp_all
theorem ZkJ {r:Rul}{h:AH}(h1:r.1.size≤maxLen) (h2:r.2.2.2.2.2.2.2.2.size≤maxLen):Ac 151 [.agg (rulC r)] h (iv (Zbm r)):=ZkI h1 h2
theorem ZlP {x:Era}{last:Bool}{h:AH}(ho:Zp5 x):ACalls Tryz.prog 152 [.agg (eraC x),bv last] h fun y h'=>h'=h∧y=.ret (iv (eraX x last)):=ZlO ho.1 ho.2
theorem ZpS {a:List Rul}{z:List Zon}{l:List Lnk}{h:AH}(hok:Zdk (a,z,l)):Ac 79 [.agg [.sl a.length 11 false (rows rulC a),.sl z.length 2 false (rows zonC z),.sl l.length 2 false (rows lnkC l)]] h (iv (ZbG (a,z,l))):=by
 refine tI' k79 fun N hn hlt hlA hbd=>?_
 simp only [tb'] at hbd ⊢
 refine wr'<|E' (Zbj (cvl lk rfl) rfl (hl0 hn) ha0) pt<|mv' lki pt<|sn'<|Zam<|wr'<|V' (Zac lk) pt<|V' (Zab lk (hga hn rfl) gt0) pt<|V' (ZaP lk) pt<|V' (ZbV lk lki) pt<|mv' lk pt<|?_
 refine sp' (t:=15) gt pt pt (fun hg15=>?_) (fun hg15=>?_)
 ·have hM:Zes (a,z,l)=true:=by unfold Zes;simp;omega
  refine s_no gt pt<|s_no gt pt<|s_no gt pt<|s_no gt pt<|V' (Zak lk lkb) pt<|mv' lk pt<|s_no gt pt<|s_no gt pt<|s_no gt pt<|s_no gt pt<|V' (Zak lk lkb) pt<|sn'<|ZaH lk<|?_
  refine wr'<|mv' lki pt<|sn'<|Zaa<|Zai<|Zaf rz<|rT'<|?_
  refine ivx ?_;unfold ZbG;rw [if_pos hM]
 refine s_do gt<|V' (Zac lk) pt<|s_do gt<|V' (Zab lk (hga hn rfl) gt1) pt<|s_do gt<|V' (ZaP lk) pt<|s_do gt<|V' (ZbV lk lki) pt<|V' (Zag lk lk) pt<|mv' lk pt<|?_
 refine sp' (t:=21) gt pt pt (fun hg21=>?_) (fun hg21=>?_)
 ·have hM:Zes (a,z,l)=true:=by unfold Zes;simp;omega
  refine s_no gt pt<|s_no gt pt<|s_no gt pt<|s_no gt pt<|V' (Zak lk lkb) pt<|sn'<|ZaH lk<|wr'<|mv' lki pt<|sn'<|Zaa<|?_
  refine Zai<|Zaf rz<|rT'<|?_
  refine ivx ?_;unfold ZbG;rw [if_pos hM]
 refine s_do gt<|V' (Zac lk) pt<|s_do gt<|V' (Zab lk (hga hn rfl) gt2) pt<|s_do gt<|V' (ZaP lk) pt<|s_do gt<|V' (ZbV lk lki) pt<|V' (Zag lk lk) pt<|sn'<|?_
 refine cd' lk (fun hc1=>?_) (fun hc1=>?_)
 ·have hM:Zes (a,z,l)=true:=by unfold Zes;simp;omega
  refine wr'<|mv' lki pt<|sn'<|Zaa<|Zai<|Zaf rz<|rT'<|?_
  refine ivx ?_;unfold ZbG;rw [if_pos hM]
 refine Zae<|Zah<|Zam<|wr'<|mv' lki pt<|sn'<|Zao<|?_
 refine w_lp (ι:=Nat) (fun (k:Nat)=>[(3,iv (k:Int)),(2,.any)]++rn' 27 15) (fun (k:Nat)=>[]) (fun (k:Nat)=>k≤z.length∧(z.take k).any (fun z=>decide (8<z.2.length))=false) (fun (k:Nat)=>z.length-k) (0) (by exact ⟨Nat.zero_le _,rfl⟩) ?_
 rintro k hi1
 try simp only [sm',Nat.reduceAdd]
 obtain ⟨hk1,hk2⟩:=hi1
 refine Zam<|wr'<|mv' lk pt<|V' (Zac lk) pt<|V' (Zab lk (hga hn rfl) gt1) pt<|V' (ZaP lk) pt<|V' (Zba lk lk) pt<|sn'<|?_
 refine cd' lk (fun hc2=>?_) (fun hc2=>?_)
 ·have hk:k<z.length:=by omega
  refine Zae<|Zah<|Zam<|Zao<|wr'<|V' (Zac lk) pt<|V' (Zab lk (hga hn rfl) gt1) pt<|mv' lk pt<|?_
  refine V' (ZaY lk lk Zcc (nb' rfl) ro (by omega) ro rfl) pt ?_
  refine V' (Zbz lk dp1) pt<|V' (ZaB lk gt) pt<|?_
  refine V' ((by first | exact ZaP lk | exact Zds lk)) pt ?_
  refine V' (ZbV lk lki) pt<|sn'<|?_
  refine cd' lk (fun hc3=>?_) (fun hc3=>?_)
  ·have hM:Zes (a,z,l)=true:=by unfold Zes;rw [show z.any (fun z=>decide (8<z.2.length))=true from List.any_eq_true.2 ⟨z[k],List.getElem_mem hk,decide_eq_true (by omega)⟩];simp
   refine wr'<|mv' lki pt<|sn'<|Zaa<|Zap<|Zai<|Zai<|Zap<|Zai<|Zaf rz<|rT'<|?_
   refine ivx ?_;unfold ZbG;rw [if_pos hM]
  refine Zae<|Zaz<|Zah<|Zas<|mv' lk pt<|?_
  refine V' (Zay lk lki (by omega) (by omega)) pt ?_
  refine mv' lk pt<|Zar<|ZaA<|?_
  refine lT' (k+1) (by (try dsimp only);exact ⟨by omega,by rw [List.take_succ_eq_append_getElem hk,List.any_append,hk2];simp;omega⟩)
 rw [List.take_of_length_le (by omega)] at hk2
 have hM:Zes (a,z,l)=false:=by unfold Zes;rw [hk2];simp;omega
 have hE:ZbG (a,z,l)=if Za0 Zbm a≠0 then Za0 Zbm a else if Za0 Zeu z≠0 then Za0 Zeu z else Za0 Zec l:=by unfold ZbG;rw [if_neg (by rw [hM];simp)]
 refine ZaO<|ZaF<|ZaF<|Za7<|Zah<|Zam<|wr'<|mv' lki pt<|sn'<|Zao<|?_
 refine w_lp (ι:=Nat) (fun (i2:Nat)=>[(4,iv (i2:Int)),(2,.any),(5,.any)]++rn' 42 16) (fun (i2:Nat)=>[]) (fun (i2:Nat)=>i2≤a.length∧Za0 Zbm a=Za0 Zbm (a.drop i2)) (fun (i2:Nat)=>a.length-i2) (0) (by exact ⟨Nat.zero_le _,rfl⟩) ?_
 rintro i2 hi2
 try simp only [sm',Nat.reduceAdd]
 obtain ⟨hu1,hu2⟩:=hi2
 refine Zam<|wr'<|mv' lk pt<|V' (Zac lk) pt<|V' (Zab lk (hga hn rfl) gt0) pt<|V' (ZaP lk) pt<|V' (Zba lk lk) pt<|sn'<|?_
 refine cd' lk (fun hc4=>?_) (fun hc4=>?_)
 ·have hk4:i2<a.length:=by omega
  rw [Zdn hk4] at hu2
  have ho4:=hok.1 _ (List.getElem_mem hk4)
  refine Zae<|Zah<|Zam<|Zao<|wr'<|V' (Zac lk) pt<|V' (Zab lk (hga hn rfl) gt0) pt<|mv' lk pt<|?_
  refine V' (ZaY lk lk ZcS (nb' rfl) ro (by omega) ro rfl) pt ?_
  refine V' (ZaK lk ZoO rfl) pt<|Zad mp (ZkJ (r:=a[i2]) ho4.1 ho4.2) pt<|mv' lk pt<|sn'<|wr'<|mv' lk pt<|V' (Za1 lk lki) pt<|sn'<|?_
  refine cd' lk (fun hc5=>?_) (fun hc5=>?_)
  ·rw [if_pos hc5] at hu2
   refine wr'<|mv' lk pt<|mv' lk pt<|sn'<|Zaa<|Zap<|Zai<|Zai<|Zap<|Zai<|Zaf rz<|rT'<|?_
   refine ivx ?_;rw [hE,hu2,if_pos hc5]
  rw [if_neg hc5] at hu2
  refine Zae<|Zaz<|Zah<|Zas<|mv' lk pt<|?_
  refine V' (Zay lk lki (by omega) (by omega)) pt ?_
  refine mv' lk pt<|Zar<|ZaA<|?_
  refine lT' (i2+1) (by (try dsimp only);exact ⟨by omega,hu2⟩)
 rw [List.drop_of_length_le (by omega)] at hu2
 rw [hu2,if_neg (by simp [Za0])] at hE
 refine ZaO<|ZaF<|ZaF<|Za7<|Zah<|Zam<|wr'<|mv' lki pt<|sn'<|Zao<|?_
 refine w_lp (ι:=Nat) (fun (i3:Nat)=>[(6,iv (i3:Int)),(2,.any)]++rn' 7 3++rn' 58 45) (fun (i3:Nat)=>[]) (fun (i3:Nat)=>i3≤z.length∧Za0 Zeu z=Za0 Zeu (z.drop i3)) (fun (i3:Nat)=>z.length-i3) (0) (by exact ⟨Nat.zero_le _,rfl⟩) ?_
 rintro i3 hi3
 try simp only [sm',Nat.reduceAdd]
 obtain ⟨hv1,hv2⟩:=hi3
 refine Zam<|wr'<|mv' lk pt<|V' (Zac lk) pt<|V' (Zab lk (hga hn rfl) gt1) pt<|V' (ZaP lk) pt<|V' (Zba lk lk) pt<|sn'<|?_
 refine cd' lk (fun hc6=>?_) (fun hc6=>?_)
 ·have hk6:i3<z.length:=by omega
  rw [Zdn hk6] at hv2
  have ho6:=hok.2.1 _ (List.getElem_mem hk6)
  have h8:(z[i3]).2.length≤8:=by have:=List.any_eq_false.1 hk2 _ (List.getElem_mem hk6);simpa using this
  refine Zae<|Zah<|Zam<|Zao<|wr'<|V' (Zac lk) pt<|V' (Zab lk (hga hn rfl) gt1) pt<|mv' lk pt<|?_
  refine V' (ZaY lk lk Zcc (nb' rfl) ro (by omega) ro rfl) pt ?_
  refine V' (Zbz lk dp1) pt<|V' (ZaB lk gt) pt<|mv' lk pt<|sn'<|Zam<|wr'<|V' (Zac lk) pt<|V' (Zab lk (hga hn rfl) gt1) pt<|mv' lk pt<|?_
  refine V' (ZaY lk lk Zcc (nb' rfl) ro (by omega) ro rfl) pt ?_
  refine V' (Zbz lk dp0) pt<|V' (ZaB lk gt) pt<|Zad mp (ZcV ho6.1) pt<|V' (Zaw lk) pt<|mv' lk pt<|?_
  refine ZaE (t:=79) gt pt pt (fun hg79=>?_) (fun hg79=>?_)
  ·have hZ:Zeu z[i3]=1:=if_pos (.inl (by simpa using hg79))
   refine s_no gt pt<|s_no gt pt<|s_no gt pt<|V' (Zak lk lkb) pt<|sn'<|ZaH lk<|wr'<|mv' lki pt<|sn'<|Zaa<|Zai<|?_
   refine Zap<|Zai<|Zai<|Zap<|Zai<|Zaf rz<|rT'<|?_
   refine ivx ?_;rw [hE,hv2,if_pos (by rw [hZ];simp),if_pos (by rw [hZ];simp),hZ]
  refine s_do gt<|mv' lk pt<|s_do gt<|?_
  refine V' ((by first | exact ZaP lk | exact Zds lk)) pt ?_
  refine s_do gt<|V' (ZaT lk lki) pt<|V' (Zag lk lk) pt<|sn'<|?_
  refine cd' lk (fun hc7=>?_) (fun hc7=>?_)
  ·have hZ:Zeu z[i3]=1:=if_pos (.inr (by omega))
   refine wr'<|mv' lki pt<|sn'<|Zaa<|Zai<|Zap<|Zai<|Zai<|Zap<|Zai<|Zaf rz<|rT'<|?_
   refine ivx ?_;rw [hE,hv2,if_pos (by rw [hZ];simp),if_pos (by rw [hZ];simp),hZ]
  have hZ:Zeu z[i3]=ZfP z[i3].2:=if_neg (by rintro (h1 | h1);exact h1 (by simpa using hg79);omega)
  refine Zae<|Zah<|wr'<|mv' lki pt<|sn'<|Zao<|?_
  refine w_lp (ι:=Nat) (fun (i4:Nat)=>[(8,iv (i4:Int)),(2,.any),(9,.any)]++rn' 84 19) (fun (i4:Nat)=>[]) (fun (i4:Nat)=>i4≤(z[i3]).2.length∧ZfP (z[i3]).2=ZfP ((z[i3]).2.drop i4)) (fun (i4:Nat)=>(z[i3]).2.length-i4) (0) (by exact ⟨Nat.zero_le _,rfl⟩) ?_
  rintro i4 hi4
  try simp only [sm',Nat.reduceAdd]
  obtain ⟨hx1,hx2⟩:=hi4
  refine Zam<|wr'<|mv' lk pt<|mv' lk pt<|?_
  refine V' ((by first | exact ZaP lk | exact Zds lk)) pt ?_
  refine V' (Zba lk lk) pt<|sn'<|?_
  refine cd' lk (fun hc8=>?_) (fun hc8=>?_)
  ·have hk8:i4<(z[i3]).2.length:=by omega
   rw [Znt hk8] at hx2
   have ho8:=ho6.2 _ (List.getElem_mem hk8)
   refine Zae<|Zah<|Zam<|Zao<|wr'<|mv' lk pt<|mv' lk pt<|?_
   refine V' (ZaY lk lk ZdB (nb' rfl) ro (by omega) ro rfl) pt ?_
   refine V' (ZaK lk ZoP rfl) pt<|mv' lk pt<|mv' lk pt<|?_
   refine V' ((by first | exact ZaP lk | exact Zds lk)) pt ?_
   refine V' (ZbD lk lki (by omega) (by omega)) pt ?_
   refine V' (ZaT lk lk) pt<|Zad mp (ZlP (x:=(z[i3]).2[i4]) (last:=decide ((i4:Int)=((z[i3]).2.length:Int)-1)) ho8) pt<|mv' lk pt<|sn'<|wr'<|mv' lk pt<|V' (Za1 lk lki) pt<|sn'<|?_
   refine cd' lk (fun hc9=>?_) (fun hc9=>?_)
   ·rw [if_pos hc9] at hx2
    refine wr'<|mv' lk pt<|mv' lk pt<|sn'<|Zaa<|Zap<|Zai<|Zai<|Zap<|Zap<|Zai<|Zai<|?_
    refine Zap<|Zai<|Zaf rz<|rT'<|?_
    refine ivx ?_;rw [hE,hv2,hZ,hx2,if_pos hc9,if_pos hc9]
   rw [if_neg hc9] at hx2
   refine Zae<|Zaz<|Zah<|Zas<|mv' lk pt<|?_
   refine V' (Zay lk lki (by omega) (by omega)) pt ?_
   refine mv' lk pt<|Zar<|ZaA<|?_
   refine lT' (i4+1) (by (try dsimp only);exact ⟨by omega,hx2⟩)
  rw [List.drop_of_length_le (by omega)] at hx2
  rw [hZ,hx2,if_neg (by simp [ZfP])] at hv2
  refine ZaO<|ZaF<|ZaF<|Za7<|Zaz<|Zah<|Zas<|mv' lk pt<|?_
  refine V' (Zay lk lki (by omega) (by omega)) pt ?_
  refine mv' lk pt<|Zar<|ZaA<|?_
  refine lT' (i3+1) (by (try dsimp only);exact ⟨by omega,hv2⟩)
 rw [List.drop_of_length_le (by omega)] at hv2
 rw [hv2,if_neg (by simp [Za0])] at hE
 refine ZaO<|ZaF<|ZaF<|Za7<|Zah<|Zam<|wr'<|mv' lki pt<|sn'<|Zao<|?_
 refine w_lp (ι:=Nat) (fun (i5:Nat)=>[(10,iv (i5:Int)),(2,.any)]++rn' 103 25) (fun (i5:Nat)=>[]) (fun (i5:Nat)=>i5≤l.length∧Za0 Zec l=Za0 Zec (l.drop i5)) (fun (i5:Nat)=>l.length-i5) (0) (by exact ⟨Nat.zero_le _,rfl⟩) ?_
 rintro i5 hi5
 try simp only [sm',Nat.reduceAdd]
 obtain ⟨hy1,hy2⟩:=hi5
 refine Zam<|wr'<|mv' lk pt<|V' (Zac lk) pt<|V' (Zab lk (hga hn rfl) gt2) pt<|V' (ZaP lk) pt<|V' (Zba lk lk) pt<|sn'<|?_
 refine cd' lk (fun hc10=>?_) (fun hc10=>?_)
 ·have hk10:i5<l.length:=by omega
  rw [Zdn hk10] at hy2
  have ho10:=hok.2.2 _ (List.getElem_mem hk10)
  refine Zae<|Zah<|Zam<|Zao<|wr'<|V' (Zac lk) pt<|V' (Zab lk (hga hn rfl) gt2) pt<|mv' lk pt<|?_
  refine V' (ZaY lk lk ZcT (nb' rfl) ro (by omega) ro rfl) pt ?_
  refine V' (Zbz lk dp0) pt<|V' (ZaB lk gt) pt<|Zad mp (ZcV ho10.1) pt<|V' (Zaw lk) pt<|mv' lk pt<|?_
  refine ZaE (t:=118) gt pt pt (fun hg118=>?_) (fun hg118=>?_)
  ·have hK:Zec l[i5]=1:=by unfold Zec;simp_all
   refine s_no gt pt<|s_no gt pt<|s_no gt pt<|s_no gt pt<|s_no gt pt<|s_no gt pt<|s_no gt pt<|s_no gt pt<|V' (Zak lk lkb) pt<|sn'<|ZaH lk<|wr'<|?_
   refine mv' lki pt<|sn'<|Zaa<|Zap<|Zai<|Zai<|Zap<|Zai<|Zaf rz<|rT'<|?_
   refine ivx ?_;rw [hE,hy2,if_pos (by rw [hK];simp),hK]
  refine s_do gt<|V' (Zac lk) pt<|s_do gt<|V' (Zab lk (hga hn rfl) gt2) pt<|s_do gt<|mv' lk pt<|s_do gt<|?_
  refine V' (ZaY lk lk ZcT (nb' rfl) ro (by omega) ro rfl) pt ?_
  refine s_do gt<|V' (Zbz lk dp1) pt<|s_do gt<|V' (ZaB lk gt) pt<|s_do gt<|Zad mp (ZcV ho10.2) pt<|s_do gt<|V' (Zaw lk) pt<|V' (Zag lk lk) pt<|sn'<|?_
  refine Zau lk (fun hc11=>?_) (fun hc11=>?_)
  ·have hK:Zec l[i5]=1:=by unfold Zec;simp_all
   refine wr'<|mv' lki pt<|sn'<|Zaa<|Zap<|Zai<|Zai<|Zap<|Zai<|Zaf rz<|rT'<|?_
   refine ivx ?_;rw [hE,hy2,if_pos (by rw [hK];simp),hK]
  have hK:Zec l[i5]=0:=by unfold Zec;simp_all
  rw [hK,if_neg (by simp)] at hy2
  refine Zae<|Zaz<|Zah<|Zas<|mv' lk pt<|?_
  refine V' (Zay lk lki (by omega) (by omega)) pt ?_
  refine mv' lk pt<|Zar<|ZaA<|?_
  refine lT' (i5+1) (by (try dsimp only);exact ⟨by omega,hy2⟩)
 rw [List.drop_of_length_le (by omega)] at hy2
 refine ZaO<|ZaF<|ZaF<|Za7<|Zah<|wr'<|mv' lki pt<|sn'<|Zaa<|Zaf rz<|rT'<|?_
 refine ivx ?_;rw [hE,hy2];rfl
end Go.Proofs.YtlekejpogddndaaGreatDoor
end
section
namespace Go.Proofs.YtlekejpogddndaaGreatDoor
open Go.Ab Go.RowKit Civ
attribute [local simp] Zbi Zbu Zbk Zbp ZdC Zdz ZdM ZbK
theorem Zl7 {p:Era→Int}{l:List Era}(h : ∀ y∈l,p y=0):Za0 p l=0:=by
 rw [ZhM,List.find?_eq_none.2 (fun y hy=>by simp [h y hy])]
end Go.Proofs.YtlekejpogddndaaGreatDoor
end
section
namespace Go.Proofs.YtlekejpogddndaaGreatDoor
open Go.Ab
abbrev PS:=Src×Bool
def Zcp (x:Era):Bool:=x.2.2.2.2.1
def ZnI:List Zon→Era→List Zon
 | [],_=>[]
 | [z],x=>[(z.1,z.2++[x])]
 | z::y::l,x=>z::ZnI (y::l) x
theorem Zfs (l:List Zon) (z:Zon) (x:Era):ZnI (l++[z]) x=l++[(z.1,z.2++[x])]:=by
 induction l with
 | nil=>rfl
 | cons a l ih =>
  cases l with
  | nil=>rfl
  | cons b l=>exact congrArg (a :: ·) ih
def ruleA:ByteArray:=bA [82,117,108,101]
def zoneA:ByteArray:=bA [90,111,110,101]
def linkA:ByteArray:=bA [76,105,110,107]
def Zcn (p:Src) (x:Era):PS:=((p.1,ZnI p.2.1 x,p.2.2),!Zcp x)
def ZqW (p:PS):RM PS :=
 if p.2=true then ZbI rEra fun x=>retR (Zcn p.1 x)
 else ZbI Zd9 fun w =>
  if w=ruleA then ZbI rRule fun r=>retR ((p.1.1++[r],p.1.2.1,p.1.2.2),false)
  else if w=zoneA then ZbI ZpU fun n=>ZbI rEra fun x=>retR (Zcn (p.1.1,p.1.2.1++[(n,[])],p.1.2.2) x)
  else if w=linkA then ZbI ZpU fun a=>ZbI ZpU fun b=>retR ((p.1.1,p.1.2.1,p.1.2.2++[(a,b)]),false)
  else Zcq none
def Zek (p:PS):TS→PS×TS :=
 if p.2=true then ZbU tEra fun x=>ret2 (Zcn p.1 x)
 else ZbU ZaN fun w =>
  if w=ruleA then ZbU Zju fun r=>ret2 ((p.1.1++[r],p.1.2.1,p.1.2.2),false)
  else if w=zoneA then ZbU Zew fun n=>ZbU tEra fun x=>ret2 (Zcn (p.1.1,p.1.2.1++[(n,[])],p.1.2.2) x)
  else if w=linkA then ZbU Zew fun a=>ZbU Zew fun b=>ret2 ((p.1.1,p.1.2.1,p.1.2.2++[(a,b)]),false)
  else fun t=>(p,bad t)
theorem ZnH (p:PS):Agr (Zek p) (ZqW p):=by
 unfold Zek ZqW
 split
 ·exact agr_era.bind fun x=>Agr.ret _
 ·refine agr_next.bind fun w=>?_
  split
  ·exact agr_rule.bind fun r=>Agr.ret _
  ·split
   ·exact agr_name.bind fun n=>agr_era.bind fun x=>Agr.ret _
   ·split
    ·exact agr_name.bind fun a=>agr_name.bind fun b=>Agr.ret _
    ·exact Agr.lift (fun t h=>rfl) (fun l=>rfl)
def ZkV (p:PS) (x:Ln):Option PS:=if x.2.1≠p.2 then none else match ZqW p x.2.2 with
 | some (q,[])=>some q
 | _=>none
def badT (p:PS) (x:Ln):Prop:=(Zek p (x.2.2,false)).2.2=true∨(Zek p (x.2.2,false)).2.1≠[]∨x.2.1≠p.2
theorem Zql {p:PS}{x:Ln}(h:badT p x):ZkV p x=none:=by
 unfold ZkV
 by_cases hi:x.2.1=p.2
 ·rw [if_neg (by simp [hi])]
  have hA:=(ZnH p x.2.2).2
  unfold badT at h
  revert hA
  cases hb:ZqW p x.2.2 with
  | none=>intro;rfl
  | some q =>
   obtain ⟨q,l⟩:=q
   intro hA
   simp only at hA
   rw [hA] at h
   cases l with
   | nil=>simp [hi] at h
   | cons c l=>rfl
 ·rw [if_pos hi]
theorem lineR_ok {p:PS}{x:Ln}(h:¬badT p x):ZkV p x=some (Zek p (x.2.2,false)).1:=by
 unfold ZkV
 unfold badT at h
 simp only [not_or,Decidable.not_not] at h
 obtain ⟨h1,h2,h3⟩:=h
 rw [if_neg (by simp [h3])]
 have hA:=(ZnH p x.2.2).2
 revert hA
 cases hb:ZqW p x.2.2 with
 | none=>intro hA;exact absurd hA h1
 | some q =>
  obtain ⟨q,l⟩:=q
  intro hA
  simp only at hA
  rw [hA] at h2 ⊢
  simp only at h2
  subst h2
  rfl
def runR:PS→List Ln→PS ⊕ Int
 | p,[]=>.inl p
 | p,x::l=>match ZkV p x with
  | none=>.inr x.1
  | some q=>runR q l
def srcZ:Src:=([],[],[])
def endP (p:PS):Src×Int×Int:=if p.2=true then (srcZ,0,1) else if ZbG p.1≠0 then (srcZ,0,ZbG p.1) else (p.1,0,0)
def outP (l:List Ln):Src×Int×Int:=match runR (srcZ,false) l with
 | .inr n=>(srcZ,n,1)
 | .inl p=>endP p
def ZbA (s:ByteArray):Src×Int×Int:=if (ZbQ s).2.2≠0 then (srcZ,(ZbQ s).2.1,(ZbQ s).2.2) else outP (ZbQ s).1
theorem runR_at {l:List Ln}{k:Nat}(h:k<l.length) (p:PS):runR p (l.drop k)=match ZkV p l[k] with
  | none=>.inr l[k].1
  | some q=>runR q (l.drop (k+1)):=by
 rw [List.drop_eq_getElem_cons h,runR]
end Go.Proofs.YtlekejpogddndaaGreatDoor
end
section
namespace Go.Proofs.YtlekejpogddndaaGreatDoor
open Go.Ab Go.RowKit Civ
attribute [local simp] ZbK
section
theorem Zcw {a0 a1 c0:AV}{l:List AV}:setCells (a0::a1::l) 1 [c0]=a0::c0::l:=rfl
theorem ZoN {a0 c0:AV}{l:List AV}:setCells (a0::l) 0 [c0]=c0::l:=rfl
end
def c200:AC:=(Sr [Ms 2] (.seq (Sr [Mv 4 0,Nk 5 4,Fa 6 1 5,Ld 7 6,Mv 8 7,Of 9 8 (mt 0),Of 10 8 (.nck (.tmp 9)),Of 11 8 (.fa 0 (.tmp 10)),Of 12 8 (.load false 1 (.tmp 11)),Of 13 8 (.len false (.tmp 12)),Of 14 8 (.bin .eql (.tmp 13) (Ci 0)),Oo 15 (.pick (.tmp 8) (.const (.bool true)) (.tmp 14))] (Cd 15 (Sr [Mv 16 0,Nk 17 16,Fa 18 1 17,⟨none,none,(.store 1 (.tmp 18) (.const (.bool true)))⟩] (Sr [Ms 2] .ret)) .skip)) (Sr [Mv 19 0,Nk 20 19,Fa 21 0 20,Ld 22 21,Oo 23 (.ia 1 (.tmp 22) (Ci 0)),Ld 24 23,Mv 3 24] (Sr [Mv 25 0,Mv 26 0,Nk 27 26,Fa 28 0 27,Ld 29 28,Oo 30 (.slc 1 (.tmp 29) (some (Ci 1)) none none),Nk 31 25,Fa 32 0 31,Sc 32 30] (Sr [Mv 33 3,Mv 2 33] .ret)))))
theorem k200:ZaD Tryz.prog 200=some ⟨c200,[(.tmp 2)],34⟩:=by kernel_rfl
def c274:AC:=(Sr [Mc 8 0] (.seq (Sr [Mv 11 1,Oo 12 (.len true (.tmp 11)),Mv 13 2,Mv 14 3,Cl 15 73 [(.tmp 12),(.tmp 13),(.tmp 14)],Oo 16 (.un .not (.tmp 15))] (Cd 16 (Sr [Mv 17 0,Nk 18 17,Fa 19 1 18,⟨none,none,(.store 1 (.tmp 19) (.const (.bool true)))⟩] (Sr [Mc 8 0] .ret)) .skip)) (Sr [Mc 9 0] (.seq (Sr [Mc 10 0] (.block 0 (.loop (.seq (Sr [Mv 20 10,Mv 21 1,Oo 22 (.len true (.tmp 21)),Bn 23 .lss 20 22] (Cd 23 .skip (.exit 0))) (.seq (.block 1 (.seq (Sr [Mv 26 1,Mv 27 10,Oo 28 (.ix (.tmp 26) (.tmp 27)),Cl 29 191 [(.tmp 28)],Oo 30 (.un .not (.tmp 29))] (Cd 30 (Sr [Mv 31 0,Nk 32 31,Fa 33 1 32,⟨none,none,(.store 1 (.tmp 33) (.const (.bool true)))⟩] (Sr [Mc 8 0] .ret)) .skip)) (.reg [Mv 34 9,Oo 35 (.bin .mul (Ci 10) (.tmp 34)),Mv 36 1,Mv 37 10,Oo 38 (.ix (.tmp 36) (.tmp 37)),Oo 39 (.cvi .i64 (.tmp 38)),Bn 40 .add 35 39,Bc 41 .sub 40 48,Mv 9 41]))) (.reg [Mv 24 10,Bc 25 .add 24 1,Mv 10 25])))))) (Sr [Mv 42 9,Mv 8 42] .ret)))))
theorem k274:ZaD Tryz.prog 274=some ⟨c274,[(.tmp 8)],43⟩:=by kernel_rfl
def c203:AC:=(Sr [Ms 2] (Sr [Mv 4 0,Cl 5 200 [(.tmp 4)],Mv 3 5] (.seq (Sr [Mv 6 3,Cl 7 115 [(.tmp 6)],Oo 8 (.un .not (.tmp 7))] (Cd 8 (.reg [Mv 9 0,Nk 10 9,Fa 11 1 10,⟨none,none,(.store 1 (.tmp 11) (.const (.bool true)))⟩]) .skip)) (Sr [Mv 12 3,Mv 2 12] .ret))))
theorem k203:ZaD Tryz.prog 203=some ⟨c203,[(.tmp 2)],13⟩:=by kernel_rfl
def c308:AC:=(Sr [Mc 4 0] (.seq (Sr [Mc 5 0] (.block 0 (.loop (.seq (Sr [Mv 6 5,Bc 7 .add 6 3,Mv 8 0,Oo 9 (.len true (.tmp 8)),Bn 10 .leq 7 9,Mv 11 10,Ot 12 11 (mt 1),Ot 13 11 (.len true (.tmp 12)),Ot 14 11 (.bin .eql (.tmp 13) (Ci 3)),Oo 15 (.pick (.tmp 11) (.tmp 14) (.const (.bool false)))] (Cd 15 .skip (.exit 0))) (.seq (.block 1 (Sr [Mv 18 0,Mv 19 5,Mv 20 5,Bc 21 .add 20 3,Oo 22 (.sls (.tmp 18) (some (.tmp 19)) (some (.tmp 21))),Mv 23 1,Bn 24 .eql 22 23] (Cd 24 (Sr [Mv 25 5,Bc 26 .quo 25 3,Mv 4 26] .ret) .skip))) (.reg [Mv 16 5,Bc 17 .add 16 3,Mv 5 17])))))) (Sr [Oo 4 (.mv (.const (.int .i64 (-1))))] .ret)))
theorem k308:ZaD Tryz.prog 308=some ⟨c308,[(.tmp 4)],27⟩:=by kernel_rfl
def c275:AC:=(Sr [Mc 2 0] (Sr [Mv 4 0,Cl 5 200 [(.tmp 4)],Oo 6 (.call (.func 308) [(.const (.string ⟨#[74,97,110,70,101,98,77,97,114,65,112,114,77,97,121,74,117,110,74,117,108,65,117,103,83,101,112,79,99,116,78,111,118,68,101,99]⟩)),(.tmp 5)]),Mv 3 6] (.seq (Sr [Mv 7 3,Bc 8 .lss 7 0] (Cd 8 (.reg [Mv 9 0,Nk 10 9,Fa 11 1 10,⟨none,none,(.store 1 (.tmp 11) (.const (.bool true)))⟩]) .skip)) (Sr [Mv 12 3,Bc 13 .add 12 1,Mv 2 13] .ret))))
theorem k275:ZaD Tryz.prog 275=some ⟨c275,[(.tmp 2)],14⟩:=by kernel_rfl
def c309:AC:=(Sr [Mc 4 0] (Sr [Mv 6 1,Oo 7 (.call (.func 308) [(.const (.string ⟨#[83,117,110,77,111,110,84,117,101,87,101,100,84,104,117,70,114,105,83,97,116]⟩)),(.tmp 6)]),Mv 5 7] (.seq (Sr [Mv 8 5,Bc 9 .lss 8 0] (Cd 9 (Sr [Mv 10 0,Nk 11 10,Fa 12 1 11,⟨none,none,(.store 1 (.tmp 12) (.const (.bool true)))⟩] (Sr [Mc 4 0] .ret)) .skip)) (Sr [Mv 13 5,Mv 4 13] .ret))))
theorem k309:ZaD Tryz.prog 309=some ⟨c309,[(.tmp 4)],14⟩:=by kernel_rfl
def c307:AC:=(Sr [Mc 4 0] (Sr [Mv 6 0,Mv 7 1,Cl 8 274 [(.tmp 6),(.tmp 7),(Ci 2),(Ci 2)],Mv 5 8] (.seq (Sr [Mv 9 5,Bc 10 .gtr 9 59] (Cd 10 (.reg [Mv 11 0,Nk 12 11,Fa 13 1 12,⟨none,none,(.store 1 (.tmp 13) (.const (.bool true)))⟩]) .skip)) (Sr [Mv 14 5,Mv 4 14] .ret))))
theorem k307:ZaD Tryz.prog 307=some ⟨c307,[(.tmp 4)],15⟩:=by kernel_rfl
abbrev takE (t:TS):Ent:=.mk 0 250 2 [.sl t.1.length 1 false (rows strC t.1),bv t.2]
theorem ZaJ {l:List ByteArray}{b:Bool}{n:Nat}:(Ent.mk 0 250 2 [.sl l.length 1 false (rows strC l),.v (.bool b)]).lt n=true:=by simp [Ent.lt,AV.lt,AV.ltL,ZbK]
theorem tnext_b {l:List ByteArray}{b:Bool}{id:Nat}{h:AH}(h1:h[id]?=some (takE (l,b))):ACalls Tryz.prog 200 [.ptr id 0 0] h fun x h'=>x=.ret (sv (ZaN (l,b)).1)∧h'=h.set id (takE (ZaN (l,b)).2):=by
 have hid:id<h.length:=(List.getElem?_eq_some_iff.1 h1).1
 refine tJ' k200 fun N hn hlt hlA hbd=>?_
 simp only [tb'] at hbd ⊢
 refine Zdp (h1:=h.set id (.mk 0 250 2 [.sl l.length 1 false (rows strC l),bv b])++[]) (by rw [ZcK h1]) ?_
 refine wr'<|mv' lks pt<|sn'<|Zam<|wr'<|mv' lk pt<|V' (Zb8 lk) pt<|V' (Zac lk) pt<|V' (Zab lk (ZaV hid) gt1) pt<|mv' lk pt<|?_
 refine ZaE (t:=8) gt pt pt (fun hg8=>?_) (fun hg8=>?_)
 ·have hb:b=true:=hg8
  have hT:ZaN (l,b)=(⟨#[]⟩,l,true):=if_pos (.inl hb)
  refine s_no gt pt<|s_no gt pt<|s_no gt pt<|s_no gt pt<|s_no gt pt<|s_no gt pt<|V' (Zak lk lkb) pt<|sn'<|ZaH lk<|wr'<|mv' lk pt<|V' (Zb8 lk) pt<|?_
  refine V' (Zac lk) pt<|E' (Zal lk (cvl lkb rfl) (ZaV hid) rfl (nb' rfl) rfl Zcw (ZaI hid)) ptn<|sn'<|wr'<|mv' lks pt<|sn'<|Zaa<|Zai<|Zaf rz<|?_
  exact ⟨_,_,rfl,Zan hn,ZbM hlt ZaJ,rfl,by rw [hT],by rw [hT]⟩
 have hb:b=false:=by simpa using hg8
 refine s_do gt<|mv' lk pt<|s_do gt<|V' (Zb8 lk) pt<|s_do gt<|V' (Zac lk) pt<|s_do gt<|V' (Zab lk (ZaV hid) gt0) pt<|s_do gt<|V' (ZaP lk) pt<|s_do gt<|V' (ZaT lk lki) pt<|V' (Zag lk lk) pt<|Zar<|?_
 refine Zah ?_
 refine cd' lk (fun hc1=>?_) (fun hc1=>?_)
 ·have hT:ZaN (l,b)=(⟨#[]⟩,l,true):=if_pos (.inr (List.eq_nil_of_length_eq_zero (show l.length=0 by have hc1':(l.length:Int)=0:=hc1;omega)))
  refine wr'<|mv' lk pt<|V' (Zb8 lk) pt<|V' (Zac lk) pt<|E' (Zal lk (cvl lkb rfl) (ZaV hid) rfl (nb' rfl) rfl Zcw (ZaI hid)) ptn<|sn'<|wr'<|mv' lks pt<|sn'<|Zaa<|?_
  refine Zai<|Zaf rz<|?_
  exact ⟨_,_,rfl,Zan hn,ZbM hlt ZaJ,rfl,by rw [hT],by rw [hT]⟩
 have hlen:0<l.length:=by have hc1':¬(l.length:Int)=0:=hc1;omega
 have hne:l≠[]:=by intro e;rw [e] at hlen;cases hlen
 have hT:ZaN (l,b)=(l[0],l.drop 1,b):=by
  cases l with
  | nil=>exact absurd rfl hne
  | cons a l=>subst hb;rfl
 refine Zae<|Zah<|wr'<|mv' lk pt<|V' (Zb8 lk) pt<|V' (Zac lk) pt<|V' (Zab lk (ZaV hid) gt0) pt<|?_
 refine V' (ZaY (k:=0) lk lki ZbO (nb' rfl) ro (by omega) ro rfl) pt ?_
 refine V' (ZaB lk gt) pt<|mv' lk pt<|sn'<|wr'<|mv' lk pt<|mv' lk pt<|V' (Zb8 lk) pt<|V' (Zac lk) pt<|V' (Zab lk (ZaV hid) gt0) pt<|?_
 refine V' (v_lo (k:=1) lk lki ZbO ro (by omega) ro) pt ?_
 refine V' (Zb8 lk) pt<|V' (Zac lk) pt<|E' (Zal lk (cvl lk rfl) (ZaV hid) rfl (nb' rfl) rfl ZoN (ZaI hid)) ptn<|sn'<|wr'<|mv' lk pt<|mv' lk pt<|sn'<|Zaa<|Zaf rz<|?_
 exact ⟨_,_,rfl,Zan hn,ZbM hlt ZaJ,rfl,by rw [hT],by rw [hT]⟩
theorem ZlD {t:TS}{id:Nat}{h:AH}(h1:h[id]?=some (takE t)):ACalls Tryz.prog 200 [.ptr id 0 0] h fun x h'=>x=.ret (sv (ZaN t).1)∧h'=h.set id (takE (ZaN t).2):=tnext_b h1
theorem Zmd {n:Int}(h:digB n=true):48≤n∧n≤57:=by unfold digB at h;simpa using h
theorem Zdu {s:ByteArray}{a b:Int}{t:TS}{id:Nat}{h:AH}(hb4:b≤4) (h1:h[id]?=some (takE t)):ACalls Tryz.prog 274 [.ptr id 0 0,sv s,iv a,iv b] h fun x h'=>x=.ret (iv (tNum s a b t).1)∧h'=h.set id (takE (tNum s a b t).2):=by
 obtain ⟨l,bd⟩:=t
 have hid:id<h.length:=(List.getElem?_eq_some_iff.1 h1).1
 refine tJ' k274 fun N hn hlt hlA hbd=>?_
 simp only [tb'] at hbd ⊢
 refine Zdp (h1:=h.set id (takE (l,bd))++[]) (by rw [ZcK h1]) ?_
 refine wr'<|mv' lki pt<|sn'<|Zam<|wr'<|mv' lk pt<|V' (Zbb lk) pt<|mv' lk pt<|mv' lk pt<|Zad mp (ZaU) pt<|V' (Zaw lk) pt<|?_
 refine sn' ?_
 refine Zau lk (fun hc1=>?_) (fun hc1=>?_)
 ·have hw:¬wi s.size a b=true:=by simpa using hc1
  have hT:tNum s a b (l,bd)=(0,l,true):=Zdg (if_neg (fun e=>hw e.1))
  refine wr'<|mv' lk pt<|V' (Zb8 lk) pt<|V' (Zac lk) pt<|E' (Zal lk (cvl lkb rfl) (ZaV hid) rfl (nb' rfl) rfl Zcw (ZaI hid)) ptn<|sn'<|wr'<|mv' lki pt<|sn'<|Zaa<|?_
  refine Zai<|Zaf rz<|?_
  exact ⟨_,_,rfl,Zan hn,ZbM hlt ZaJ,rfl,by rw [hT],by rw [hT]⟩
 have hw:wi s.size a b=true:=by simpa using hc1
 have hz:s.size≤4:=by unfold wi at hw;simp at hw;omega
 refine Zae<|Zah<|wr'<|mv' lki pt<|sn'<|Zam<|wr'<|mv' lki pt<|sn'<|Zao<|?_
 refine w_lp (ι:=Nat×Int) (fun (x_:Nat×Int)=>match x_ with | ⟨k,n⟩=>[(9,iv n),(10,iv (k:Int)),(8,.any)]++rn' 20 22) (fun (x_:Nat×Int)=>match x_ with | ⟨k,n⟩=>[]) (fun (x_:Nat×Int)=>match x_ with | ⟨k,n⟩=>k≤s.size∧0≤n∧n<10 ^ k∧decL 0 (aB s)=decL n ((aB s).drop k) ∧ ∀ j (hj:j<s.size),j<k→digB s[j].toNat=true) (fun (x_:Nat×Int)=>match x_ with | ⟨k,n⟩=>s.size-k) (⟨0,0⟩) (by exact ⟨by omega,by omega,by decide,rfl,fun j hj h0=>absurd h0 (by omega)⟩) ?_
 rintro ⟨k,n⟩ hi1
 try simp only [sm',Nat.reduceAdd]
 obtain ⟨hk1,hk2,hk3,hk4,hk5⟩:=hi1
 refine Zam<|wr'<|mv' lk pt<|mv' lk pt<|V' (Zbb lk) pt<|V' (Zba lk lk) pt<|sn'<|?_
 refine cd' lk (fun hc2=>?_) (fun hc2=>?_)
 ·have hk:k<s.size:=by omega
  have hbb:=ZeJ s k
  have hbk:ZaG s k=s[k]:=ZcO hk
  have hp:(10:Int) ^ k≤1000:=by
   have:k=0∨k=1∨k=2∨k=3:=by omega
   rcases this with rfl | rfl | rfl | rfl <;> decide
  refine Zae<|Zah<|Zam<|Zao<|Zam<|wr'<|mv' lk pt<|mv' lk pt<|?_
  refine V' (v_ix lk lk (by omega) (by omega)) pt ?_
  refine Zad mp (ZdS hbb.1 hbb.2) pt<|V' (Zaw lk) pt<|sn'<|?_
  refine Zau lk (fun hc3=>?_) (fun hc3=>?_)
  ·have hd:digB s[k].toNat=false:=by rw [←hbk];simpa using hc3
   have hT:tNum s a b (l,bd)=(0,l,true):=Zdg (if_neg (fun e=>by have:=ZhY hk hd;rw [e.2] at this;cases this))
   refine wr'<|mv' lk pt<|V' (Zb8 lk) pt<|V' (Zac lk) pt<|E' (Zal lk (cvl lkb rfl) (ZaV hid) rfl (nb' rfl) rfl Zcw (ZaI hid)) ptn<|sn'<|wr'<|mv' lki pt<|sn'<|Zaa<|?_
   refine Zai<|Zap<|Zai<|Zai<|Zap<|Zai<|Zaf rz<|?_
   exact ⟨_,_,rfl,Zan hn,ZbM hlt ZaJ,rfl,by rw [hT],by rw [hT]⟩
  have hd:digB (ZaG s k).toNat=true:=by simpa using hc3
  have hdb:48≤((ZaG s (k:Int).toNat).toNat:Int)∧((ZaG s (k:Int).toNat).toNat:Int)≤57:=Zmd hd
  have hdb2:=Zmd hd
  refine Zae<|Zah<|Zas<|mv' lk pt<|?_
  refine V' (Ze9 lki lk (by omega) (by omega)) pt ?_
  refine mv' lk pt<|mv' lk pt<|?_
  refine V' (v_ix lk lk (by omega) (by omega)) pt ?_
  refine V' (Zhj lk (by omega) (by omega)) pt ?_
  refine V' (Zay lk lk (by omega) (by omega)) pt ?_
  refine V' (ZbD lk lki (by omega) (by omega)) pt ?_
  refine mv' lk pt<|Zar<|Zaz<|Zah<|Zas<|mv' lk pt<|?_
  refine V' (Zay lk lki (by omega) (by omega)) pt ?_
  refine mv' lk pt<|Zar<|ZaA<|?_
  refine lT' (⟨k+1,10*n+(ZaG s k).toNat-48⟩) (by (try dsimp only);refine ⟨by omega,by omega,by rw [Int.pow_succ];omega,by rw [hk4,ZeM hk,decL],fun j hj h0=>?_⟩;rcases Nat.lt_or_ge j k with e | e;exact hk5 j hj e;obtain rfl:j=k:=(by omega);rw [←hbk];exact hd)
 have hT:tNum s a b (l,bd)=(n,l,bd):=Zdf (by
  unfold numV
  rw [if_pos ⟨hw,ZfX fun j hj=>hk5 j hj (by omega)⟩,hk4,Zlh (by omega)];rfl)
 refine ZaO<|ZaF<|ZaF<|Za7<|Zah<|wr'<|mv' lk pt<|mv' lk pt<|sn'<|Zaa<|Zaf rz<|?_
 exact ⟨_,_,rfl,Zan hn,ZbM hlt ZaJ,rfl,by rw [hT],by rw [hT]⟩
theorem tname_a {t:TS}{id:Nat}{h:AH}(hz:(ZaN t).1.size≤maxLen) (h1:h[id]?=some (takE t)):ACalls Tryz.prog 203 [.ptr id 0 0] h fun x h'=>x=.ret (sv (Zew t).1)∧h'=h.set id (takE (Zew t).2):=by
 have hid:id<h.length:=(List.getElem?_eq_some_iff.1 h1).1
 refine tJ' k203 fun N hn hlt hlA hbd=>?_
 simp only [tb'] at hbd ⊢
 refine Zdp (h1:=h.set id (takE t)++[]) (by rw [ZcK h1]) ?_
 refine wr'<|mv' lks pt<|sn'<|wr'<|mv' lk pt<|ZaL mp (ZlD (ZaV hid)) (ZaI hid) pt<|mv' lk pt<|sn'<|Zam<|Zam<|?_
 refine Zas<|mv' lk pt<|Zad mp (ZcV hz) pt<|V' (Zaw lk) pt<|sn'<|?_
 refine Zau lk (fun hc1=>?_) (fun hc1=>?_)
 ·refine Zas<|mv' lk pt<|V' (Zb8 lk) pt<|V' (Zac lk) pt<|E' (Zal lk (cvl lkb rfl) (ZaV hid) rfl (nb' rfl) rfl Zcw (ZaI hid)) ptn<|sn'<|wr'<|mv' lk pt<|mv' lk pt<|sn'<|Zaa<|?_
  refine Zaf rz ?_
  exact ⟨_,_,rfl,Zan hn,ZbM hlt ZaJ,rfl,rfl,by unfold Zew;rw [if_neg (by simpa using hc1)]⟩
 refine Zae<|Zah<|wr'<|mv' lk pt<|mv' lk pt<|sn'<|Zaa<|Zaf rz<|?_
 exact ⟨_,_,rfl,Zan hn,ZbM hlt ZaJ,rfl,rfl,by unfold Zew;rw [if_pos (by simpa using hc1)]⟩
theorem idxL_at {l:List ByteArray}{s:ByteArray}{d:Int}{k:Nat}(h:k<l.length):idxL (l.drop k) s (d+k)=if s=l[k] then some (d+k) else idxL (l.drop (k+1)) s (d+(k+1:Nat)):=by
 rw [List.drop_eq_getElem_cons h,idxL]
 congr 2
 push_cast;omega
theorem Zqs {s:ByteArray} : ∀ {l:List ByteArray}{d:Int},(∀ x∈l,s≠x)→idxL l s d=none
 | [],_,_=>rfl
 | x::l,d,h=>by rw [idxL,if_neg (h x (by simp))];exact Zqs fun y hy=>h y (by simp [hy])
theorem Zl0 {s:ByteArray} : ∀ {l:List ByteArray}{d:Int},idxL l s d=(idxL l s 0).map (· + d)
 | [],_=>rfl
 | x::l,d=>by
  rw [idxL,idxL]
  split
  ·simp
  rw [Zl0 (l:=l) (d:=d+1),Zl0 (l:=l) (d:=0+1),Option.map_map];congr 1;funext y;simp;omega
theorem ZmW {nl:List ByteArray}{all s:ByteArray}{h:AH}(hl:nl.length≤20) (hz:all.size=3*nl.length) (h3 : ∀ x∈nl,x.size=3) (hx : ∀ k (hk:k<nl.length),all.extract (3*k) (3*k+3)=nl[k]):Ac 308 [sv all,sv s] h (iv ((idxL nl s 0).getD (-1))):=by
 refine tI' k308 fun N hn hlt hlA hbd=>?_
 simp only [tb'] at hbd ⊢
 refine wr'<|mv' lki pt<|sn'<|Zam<|wr'<|mv' lki pt<|sn'<|Zao<|?_
 refine w_lp (ι:=Nat) (fun (k:Nat)=>[(5,iv ((3*k:Nat):Int)),(4,.any)]++rn' 6 21) (fun (k:Nat)=>[]) (fun (k:Nat)=>k≤nl.length∧idxL nl s 0=idxL (nl.drop k) s (0+(k:Int))) (fun (k:Nat)=>nl.length-k) (0) (by exact ⟨Nat.zero_le _,by simp⟩) ?_
 rintro k hi1
 try simp only [sm',Nat.reduceAdd]
 obtain ⟨hk1,hk2⟩:=hi1
 refine Zam<|wr'<|mv' lk pt<|?_
 refine V' (Zay lk lki (by omega) (by omega)) pt ?_
 refine mv' lk pt<|V' (Zbb lk) pt<|V' (Zdq lk lk) pt<|mv' lk pt<|?_
 refine sp' (t:=11) gt pt pt (fun hg11=>?_) (fun hg11=>?_)
 ·have hk:k<nl.length:=by omega
  rw [idxL_at hk] at hk2
  refine s_do gt<|mv' lk pt<|s_do gt<|V' (Zbb lk) pt<|s_do gt<|V' (ZaT lk lki) pt<|V' (Zak lk lk) pt<|sn'<|?_
  refine cd' lk (fun hc1=>?_) (fun hc1=>?_)
  ·have he:=hx k hk
   refine Zae<|Zah<|Zam<|Zao<|wr'<|mv' lk pt<|mv' lk pt<|mv' lk pt<|?_
   refine V' (Zay lk lki (by omega) (by omega)) pt ?_
   refine V' (ZdF lk (oi lk) (oi lk) (by omega) (by omega) (by omega)) pt ?_
   refine mv' lk pt<|V' (Zcj lk lk) pt<|sn'<|?_
   refine cd' lk (fun hc2=>?_) (fun hc2=>?_)
   ·have hc2':s=nl[k]:=by rw [←he];exact hc2.symm
    rw [if_pos hc2'] at hk2
    refine wr'<|mv' lk pt<|?_
    refine V' (Zfx lk lki (by omega) (by omega) (by omega)) pt ?_
    refine mv' lk pt<|sn'<|Zaa<|Zap<|Zai<|Zai<|Zap<|Zai<|Zaf rz<|rT'<|?_
    refine ivx ?_;rw [hk2];simp
   have hc2':¬s=nl[k]:=by rw [←he];exact fun e=>hc2 e.symm
   rw [if_neg hc2'] at hk2
   refine Zae<|Zaz<|Zah<|Zas<|mv' lk pt<|?_
   refine V' (Zay lk lki (by omega) (by omega)) pt ?_
   refine mv' lk pt<|Zar<|ZaA<|?_
   refine lT' (k+1) (by (try dsimp only);exact ⟨by omega,by rw [hk2]⟩)
  refine ZaO<|ZaF<|ZaF<|Za7<|Zah<|wr'<|mv' lki pt<|sn'<|Zaa<|Zaf rz<|rT'<|?_
  refine ivx ?_;rw [Zqs (l:=nl) (d:=0) (fun x hx e=>hc1 (by rw [e,h3 x hx];rfl))];rfl
 refine s_no gt pt<|s_no gt pt<|s_no gt pt<|V' (Zag lk lkb) pt<|sn'<|ZaM lk<|ZaO<|ZaF<|ZaF<|Za7<|Zah<|wr'<|?_
 refine mv' lki pt<|sn'<|Zaa<|Zaf rz<|rT'<|?_
 refine ivx ?_;rw [List.drop_of_length_le (by omega)] at hk2;rw [hk2];rfl
def monA:ByteArray:=bA [74,97,110,70,101,98,77,97,114,65,112,114,77,97,121,74,117,110,74,117,108,65,117,103,83,101,112,79,99,116,78,111,118,68,101,99]
def dayA:ByteArray:=bA [83,117,110,77,111,110,84,117,101,87,101,100,84,104,117,70,114,105,83,97,116]
theorem mon_at : ∀ k (hk:k<monL.length),monA.extract (3*k) (3*k+3)=monL[k]:=by decide
theorem day_at : ∀ k (hk:k<dayL.length),dayA.extract (3*k) (3*k+3)=dayL[k]:=by decide
theorem mon_3 : ∀ x∈monL,x.size=3:=by decide
theorem day_3 : ∀ x∈dayL,x.size=3:=by decide
theorem Zl1 {s:ByteArray} : ∀ {l:List ByteArray}{d n:Int},idxL l s d=some n→d≤n∧n<d+l.length
 | [],_,_,h=>by cases h
 | x::l,d,n,h=>by
  rw [idxL] at h
  split at h
  ·cases h;simp;omega
  have:=Zl1 h;simp;omega
theorem tmonth_a {t:TS}{id:Nat}{h:AH}(h1:h[id]?=some (takE t)):ACalls Tryz.prog 275 [.ptr id 0 0] h fun x h'=>x=.ret (iv (Zdh t).1)∧h'=h.set id (takE (Zdh t).2):=by
 have hid:id<h.length:=(List.getElem?_eq_some_iff.1 h1).1
 have hM:idxL monL (ZaN t).1 1=(idxL monL (ZaN t).1 0).map (· + 1):=Zl0
 obtain ⟨o,ho⟩ : ∃ o,o=idxL monL (ZaN t).1 0:=⟨_,rfl⟩
 rw [←ho] at hM
 have hbd : ∀ n,o=some n→0≤n∧n<12:=fun n e=>by have:=Zl1 (ho.symm.trans e);have h12:(monL.length:Int)=12:=rfl;omega
 refine tJ' k275 fun N hn hlt hlA hbd=>?_
 simp only [tb'] at hbd ⊢
 refine Zdp (h1:=h.set id (takE t)++[]) (by rw [ZcK h1]) ?_
 refine wr'<|mv' lki pt<|sn'<|wr'<|mv' lk pt<|ZaL mp (ZlD (ZaV hid)) (ZaI hid) pt<|?_
 refine Zad mp (ZmW (nl:=monL) (all:=monA) (by decide) (by decide) mon_3 mon_at) pt ?_
 rw [←ho]
 have hcase:(o=none) ∨ ∃ n,o=some n:=by cases o <;> simp
 have hgd : -1≤o.getD (-1)∧o.getD (-1)<12:=by rcases hcase with rfl | ⟨n,rfl⟩;exact ⟨by decide,by decide⟩;have:=hbd n rfl;exact ⟨by simp;omega,by simp;omega⟩
 refine mv' lk pt<|sn'<|Zam<|wr'<|mv' lk pt<|V' (Zba lk lki) pt<|sn'<|?_
 refine cd' lk (fun hc1=>?_) (fun hc1=>?_)
 ·refine Zas<|mv' lk pt<|V' (Zb8 lk) pt<|V' (Zac lk) pt<|E' (Zal lk (cvl lkb rfl) (ZaV hid) rfl (nb' rfl) rfl Zcw (ZaI hid)) ptn<|sn'<|wr'<|mv' lk pt<|?_
  refine V' (Zay lk lki (by omega) (by omega)) pt ?_
  refine mv' lk pt<|sn'<|Zaa<|Zaf rz<|?_
  have ho2:o=none:=by rcases hcase with e | ⟨n,rfl⟩;exact e;have:=hbd n rfl;simp at hc1;omega
  have hT:Zdh t=(0,bad (ZaN t).2):=by unfold Zdh;rw [hM,ho2];rfl
  exact ⟨_,_,rfl,Zan hn,ZbM hlt ZaJ,rfl,by rw [hT,ho2];rfl,by rw [hT]⟩
 refine Zae<|Zah<|wr'<|mv' lk pt<|?_
 refine V' (Zay lk lki (by omega) (by omega)) pt ?_
 refine mv' lk pt<|sn'<|Zaa<|Zaf rz<|?_
 obtain ⟨n,rfl⟩ : ∃ n,o=some n:=by rcases hcase with rfl | e;exact absurd (by decide:(-1:Int)<0) hc1;exact e
 have hT:Zdh t=(n+1,(ZaN t).2):=by unfold Zdh;rw [hM];rfl
 exact ⟨_,_,rfl,Zan hn,ZbM hlt ZaJ,rfl,by rw [hT];rfl,by rw [hT]⟩
theorem Zhk {s:ByteArray}{t:TS}{id:Nat}{h:AH}(h1:h[id]?=some (takE t)):ACalls Tryz.prog 309 [.ptr id 0 0,sv s] h fun x h'=>x=.ret (iv (ZdN s t).1)∧h'=h.set id (takE (ZdN s t).2):=by
 have hid:id<h.length:=(List.getElem?_eq_some_iff.1 h1).1
 obtain ⟨o,ho⟩ : ∃ o,o=idxL dayL s 0:=⟨_,rfl⟩
 have hbd : ∀ n,o=some n→0≤n∧n<7:=fun n e=>by have:=Zl1 (ho.symm.trans e);have h7:(dayL.length:Int)=7:=rfl;omega
 refine tJ' k309 fun N hn hlt hlA hbd=>?_
 simp only [tb'] at hbd ⊢
 refine Zdp (h1:=h.set id (takE t)++[]) (by rw [ZcK h1]) ?_
 refine wr'<|mv' lki pt<|sn'<|wr'<|mv' lk pt<|?_
 refine Zad mp (ZmW (nl:=dayL) (all:=dayA) (by decide) (by decide) day_3 day_at) pt ?_
 rw [←ho]
 have hcase:(o=none) ∨ ∃ n,o=some n:=by cases o <;> simp
 refine mv' lk pt<|sn'<|Zam<|wr'<|mv' lk pt<|V' (Zba lk lki) pt<|sn'<|?_
 refine cd' lk (fun hc1=>?_) (fun hc1=>?_)
 ·refine wr'<|mv' lk pt<|V' (Zb8 lk) pt<|V' (Zac lk) pt<|E' (Zal lk (cvl lkb rfl) (ZaV hid) rfl (nb' rfl) rfl Zcw (ZaI hid)) ptn<|sn'<|wr'<|mv' lki pt<|sn'<|Zaa<|?_
  refine Zai<|Zaf rz<|?_
  have ho2:o=none:=by rcases hcase with e | ⟨n,rfl⟩;exact e;have:=hbd n rfl;simp at hc1;omega
  have hT:ZdN s t=(0,bad t):=by unfold ZdN;rw [←ho,ho2]
  exact ⟨_,_,rfl,Zan hn,ZbM hlt ZaJ,rfl,by rw [hT],by rw [hT]⟩
 refine Zae<|Zah<|wr'<|mv' lk pt<|mv' lk pt<|sn'<|Zaa<|Zaf rz<|?_
 obtain ⟨n,rfl⟩ : ∃ n,o=some n:=by rcases hcase with rfl | e;exact absurd (by decide:(-1:Int)<0) hc1;exact e
 have hT:ZdN s t=(n,t):=by unfold ZdN;rw [←ho]
 exact ⟨_,_,rfl,Zan hn,ZbM hlt ZaJ,rfl,by rw [hT];rfl,by rw [hT]⟩
theorem Zpj {s:ByteArray}{t:TS}{id:Nat}{h:AH}(h1:h[id]?=some (takE t)):ACalls Tryz.prog 307 [.ptr id 0 0,sv s] h fun x h'=>x=.ret (iv (tSix s t).1)∧h'=h.set id (takE (tSix s t).2):=by
 have hid:id<h.length:=(List.getElem?_eq_some_iff.1 h1).1
 refine tJ' k307 fun N hn hlt hlA hbd=>?_
 simp only [tb'] at hbd ⊢
 refine Zdp (h1:=h.set id (takE t)++[]) (by rw [ZcK h1]) ?_
 refine wr'<|mv' lki pt<|sn'<|wr'<|mv' lk pt<|mv' lk pt<|?_
 refine ZaL mp (Zdu (by omega) (ZaV hid)) (ZaI hid) pt ?_
 refine mv' lk pt<|sn'<|Zam<|wr'<|mv' lk pt<|V' (ZbV lk lki) pt<|sn'<|?_
 refine cd' lk (fun hc1=>?_) (fun hc1=>?_)
 ·refine Zas<|mv' lk pt<|V' (Zb8 lk) pt<|V' (Zac lk) pt<|E' (Zal lk (cvl lkb rfl) (ZaV hid) rfl (nb' rfl) rfl Zcw (ZaI hid)) ptn<|sn'<|wr'<|mv' lk pt<|mv' lk pt<|sn'<|Zaa<|?_
  refine Zaf rz ?_
  exact ⟨_,_,rfl,Zan hn,ZbM hlt ZaJ,rfl,rfl,by unfold tSix;rw [if_pos (by omega)]⟩
 refine Zae<|Zah<|wr'<|mv' lk pt<|mv' lk pt<|sn'<|Zaa<|Zaf rz<|?_
 exact ⟨_,_,rfl,Zan hn,ZbM hlt ZaJ,rfl,rfl,by unfold tSix;rw [if_neg (by omega)]⟩
end Go.Proofs.YtlekejpogddndaaGreatDoor
end
section
namespace Go.Proofs.YtlekejpogddndaaGreatDoor
open Go.Ab Go.RowKit Civ
attribute [local simp] ZbK
section
theorem Zg1 {τ:Operand→AV}{y0:Operand}{x0_0:AV}(h0:Zav (τ y0)=some [x0_0]) (l0:[x0_0].all leaf=true):Zat τ [(0,1,y0)] [(.v (.string ⟨#[]⟩))]=some [x0_0]:=by
 simp only [Zat,h0,l0]
 rfl
theorem Zlm {a0:AV}{l:List AV}:(a0::l).take 1=[a0]:=rfl
theorem Zjg {a0 a1 c0:AV}{l:List AV}:setCells (a0::a1::l) 1 [c0]=a0::c0::l:=rfl
theorem Zln {τ:Operand→AV}{y0 y1:Operand}{x0_0 x1_0:AV}(h0:Zav (τ y0)=some [x0_0]) (l0:[x0_0].all leaf=true) (h1:Zav (τ y1)=some [x1_0]) (l1:[x1_0].all leaf=true):Zat τ [(0,1,y0),(1,1,y1)] [(.v (.int .i64 0)),(.v (.int .i64 0)),(.v (.int .i64 0))]=some [x0_0,x1_0,(.v (.int .i64 0))]:=by
 simp only [Zat,h0,l0,h1,l1]
 rfl
theorem Zbh {a0 a1 a2 c0 c1 c2:AV}{l:List AV}:setCells (a0::a1::a2::l) 0 [c0,c1,c2]=c0::c1::c2::l:=rfl
theorem Zbg {a0 a1 a2:AV}{l:List AV}:((a0::a1::a2::l).drop 0).take 3=[a0,a1,a2]:=rfl
theorem ZdD {τ:Operand→AV}{y0 y1 y2:Operand}{x0_0 x1_0 x2_0:AV}(h0:Zav (τ y0)=some [x0_0]) (l0:[x0_0].all leaf=true) (h1:Zav (τ y1)=some [x1_0]) (l1:[x1_0].all leaf=true) (h2:Zav (τ y2)=some [x2_0]) (l2:[x2_0].all leaf=true):Zat τ [(0,1,y0),(1,1,y1),(2,1,y2)] [(.v (.int .i64 0)),(.v (.int .i64 0)),(.v (.int .i64 0))]=some [x0_0,x1_0,x2_0]:=by
 simp only [Zat,h0,l0,h1,l1,h2,l2]
 rfl
theorem Zjh {a0 c0:AV}{l:List AV}:setCells (a0::l) 0 [c0]=c0::l:=rfl
theorem Zcv {τ:Operand→AV}{y0 y1:Operand}{x0_0 x1_0:AV}(h0:Zav (τ y0)=some [x0_0]) (l0:[x0_0].all leaf=true) (h1:Zav (τ y1)=some [x1_0]) (l1:[x1_0].all leaf=true):Zat τ [(0,1,y0),(2,1,y1)] [(.v (.int .i64 0)),(.v (.int .i64 0)),(.v (.int .i64 0))]=some [x0_0,(.v (.int .i64 0)),x1_0]:=by
 simp only [Zat,h0,l0,h1,l1]
 rfl
end
def c277:AC:=(Sr [Oo 2 (.new 34 3 [(iv 0),(iv 0),(iv 0)])] (Sr [Mv 5 0,Cl 6 200 [(.tmp 5)],Mv 3 6] (.seq (Sr [Mv 7 3,Oo 8 (.len true (.tmp 7)),Bc 9 .geq 8 4,Mv 10 9,Ot 11 10 (mt 3),Ot 12 10 (.sls (.tmp 11) none (some (Ci 4))),Ot 13 10 (.bin .eql (.tmp 12) (.const (.string ⟨#[108,97,115,116]⟩))),Oo 14 (.pick (.tmp 10) (.tmp 13) (.const (.bool false)))] (Cd 14 (Sr [Mv 15 0,Mv 16 3,Oo 17 (.sls (.tmp 16) (some (Ci 4)) none),Cl 18 309 [(.tmp 15),(.tmp 17)],Oo 19 (.build [(iv 0),(iv 0),(iv 0)] [(0,(1,(Ci 2))),(1,(1,(.tmp 18)))]),⟨none,none,(.store 3 (.tmp 2) (.tmp 19))⟩] .ret) .skip)) (.seq (Sr [Mv 20 3,Oo 21 (.len true (.tmp 20)),Bc 22 .gtr 21 5,Mv 23 22,Ot 24 23 (mt 3),Ot 25 23 (.ix (.tmp 24) (Ci 4)),Ot 26 23 (.bin .eql (.tmp 25) (.const (.int .u8 61))),Oo 27 (.pick (.tmp 23) (.tmp 26) (.const (.bool false))),Mv 28 27,Ot 29 28 (mt 3),Ot 30 28 (.ix (.tmp 29) (Ci 3)),Ot 31 28 (.bin .eql (.tmp 30) (.const (.int .u8 62))),Ot 32 28 (mt 31),Of 33 32 (mt 3),Of 34 32 (.ix (.tmp 33) (Ci 3)),Of 35 32 (.bin .eql (.tmp 34) (.const (.int .u8 60))),Ot 36 28 (.pick (.tmp 32) (.const (.bool true)) (.tmp 35)),Oo 37 (.pick (.tmp 28) (.tmp 36) (.const (.bool false)))] (Cd 37 (.seq (.drwU [[],[0],[0],[],[0,1,2,3],[0,1,2,3,4],[0,1,2,3,4],[],[],[0,1,2,3,4,5,6,7,8],[]] [Mv 38 0,Mv 39 3,Oo 40 (.sls (.tmp 39) none (some (Ci 3))),Cl 41 309 [(.tmp 38),(.tmp 40)],Mv 42 0,Mv 43 3,Oo 44 (.sls (.tmp 43) (some (Ci 5)) none),Cl 45 274 [(.tmp 42),(.tmp 44),(Ci 1),(Ci 2)],Oo 46 (.build [(iv 0),(iv 0),(iv 0)] [(0,(1,(Ci 3))),(1,(1,(.tmp 41))),(2,(1,(.tmp 45)))]),Oo 4 (.new 34 3 [(iv 0),(iv 0),(iv 0)]),⟨none,none,(.store 3 (.tmp 4) (.tmp 46))⟩]) (.seq (Sr [Mv 47 3,Oo 48 (.ix (.tmp 47) (Ci 3)),Oo 49 (.bin .eql (.tmp 48) (.const (.int .u8 60)))] (Cd 49 (.reg [Fa 50 0 4,⟨none,none,(.store 1 (.tmp 50) (Ci 4))⟩]) .skip)) (Sr [Oo 51 (.load true 3 (.tmp 4)),⟨none,none,(.store 3 (.tmp 2) (.tmp 51))⟩] .ret))) .skip)) (Sr [Mv 52 0,Mv 53 3,Cl 54 274 [(.tmp 52),(.tmp 53),(Ci 1),(Ci 2)],Oo 55 (.build [(iv 0),(iv 0),(iv 0)] [(0,(1,(Ci 1))),(2,(1,(.tmp 54)))]),⟨none,none,(.store 3 (.tmp 2) (.tmp 55))⟩] .ret)))))
theorem k277:ZaD Tryz.prog 277=some ⟨c277,[(.cell 2 true 3)],56⟩:=by kernel_rfl
def c273:AC:=(Sr [Mc 4 0] (.seq (Sr [Mv 9 1,Oo 10 (.bin .eql (.tmp 9) (.const (.string ⟨#[48]⟩)))] (Cd 10 (Sr [Mc 4 0] .ret) .skip)) (Sr [Oo 5 (.mv (.const (.slice none 0 0)))] (Sr [Mc 6 0] (.seq (Sr [Mc 7 0] (.block 0 (.loop (.seq (Sr [Mv 11 7,Mv 12 1,Oo 13 (.len true (.tmp 12)),Bn 14 .leq 11 13] (Cd 14 .skip (.exit 0))) (.seq (.block 1 (Sr [Mv 17 7,Mv 18 1,Oo 19 (.len true (.tmp 18)),Bn 20 .eql 17 19,Mv 21 20,Of 22 21 (mt 1),Of 23 21 (mt 7),Of 24 21 (.ix (.tmp 22) (.tmp 23)),Of 25 21 (.bin .eql (.tmp 24) (.const (.int .u8 58))),Oo 26 (.pick (.tmp 21) (.const (.bool true)) (.tmp 25))] (Cd 26 (Sr [Mv 27 5,Mv 28 1,Mv 29 6,Mv 30 7,Oo 31 (.sls (.tmp 28) (some (.tmp 29)) (some (.tmp 30))),Oo 32 (.lit 9 1 1 [Ss] [(0,(1,(.tmp 31)))]),Oo 33 (.app 9 1 16 (.tmp 27) (.tmp 32)),Mv 5 33] (.reg [Mv 34 7,Bc 35 .add 34 1,Mv 6 35])) .skip))) (.reg [Mv 15 7,Bc 16 .add 15 1,Mv 7 16])))))) (.seq (Sr [Mv 36 5,Oo 37 (.len false (.tmp 36)),Bc 38 .neq 37 2,Mv 39 38,Ot 40 39 (mt 5),Ot 41 39 (.len false (.tmp 40)),Ot 42 39 (.bin .neq (.tmp 41) (Ci 3)),Oo 43 (.pick (.tmp 39) (.tmp 42) (.const (.bool false)))] (Cd 43 (Sr [Mv 44 0,Nk 45 44,Fa 46 1 45,⟨none,none,(.store 1 (.tmp 46) (.const (.bool true)))⟩] (Sr [Mc 4 0] .ret)) .skip)) (.seq (.drwU [[],[0],[0],[0],[],[],[0,1,2,3,4,5],[0,1,2,3,4,5,6],[0,1,2,3,4,5,6],[0,1,2,3,4,5,6],[5],[5],[],[]] [Mv 47 0,Mv 48 5,Oo 49 (.ia 1 (.tmp 48) (Ci 0)),Ld 50 49,Cl 51 274 [(.tmp 47),(.tmp 50),(Ci 1),(Ci 2)],Oo 52 (.bin .mul (Ci 3600) (.tmp 51)),Mv 53 0,Mv 54 5,Oo 55 (.ia 1 (.tmp 54) (Ci 1)),Ld 56 55,Cl 57 307 [(.tmp 53),(.tmp 56)],Oo 58 (.bin .mul (Ci 60) (.tmp 57)),Bn 59 .add 52 58,Mv 8 59]) (.seq (Sr [Mv 60 5,Oo 61 (.len false (.tmp 60)),Bc 62 .eql 61 3] (Cd 62 (.reg [Mv 63 8,Mv 64 0,Mv 65 5,Oo 66 (.ia 1 (.tmp 65) (Ci 2)),Ld 67 66,Cl 68 307 [(.tmp 64),(.tmp 67)],Bn 69 .add 63 68,Mv 8 69]) .skip)) (Sr [Mv 70 8,Mv 4 70] .ret)))))))))
theorem k273:ZaD Tryz.prog 273=some ⟨c273,[(.tmp 4)],71⟩:=by kernel_rfl
def c276:AC:=(Sr [Mc 4 0,Mc 5 0] (Sr [Mv 9 0,Cl 10 200 [(.tmp 9)],Mv 6 10] (Sr [Mv 11 1,Mv 7 11] (.seq (Sr [Mv 12 6,Oo 13 (.bin .neq (.tmp 12) (.const (.string ⟨#[]⟩)))] (Cd 13 (.seq (Sr [Mc 8 1] (.block 0 (.loop (.seq (Sr [Mv 14 8,Bc 15 .leq 14 3] (Cd 15 .skip (.exit 0))) (.seq (.block 1 (Sd [Mv 18 6,Mv 19 6,Oo 20 (.len true (.tmp 19)),Bc 21 .sub 20 1,Oo 22 (.ix (.tmp 18) (.tmp 21)),Mv 23 8,Oo 24 (.ix (.const (.string ⟨#[63,119,115,117]⟩)) (.tmp 23)),Bn 25 .eql 22 24] (Cd 25 (.reg [Mv 26 8,Mv 7 26]) .skip))) (.reg [Mv 16 8,Bc 17 .add 16 1,Mv 8 17])))))) (Sr [Mv 27 6,Mv 28 6,Oo 29 (.len true (.tmp 28)),Bc 30 .sub 29 1,Oo 31 (.ix (.tmp 27) (.tmp 30)),Cl 32 191 [(.tmp 31)],Oo 33 (.un .not (.tmp 32))] (Cd 33 (.seq (Sd [Mv 34 6,Mv 35 6,Oo 36 (.len true (.tmp 35)),Bc 37 .sub 36 1,Oo 38 (.ix (.tmp 34) (.tmp 37)),Mv 39 7,Oo 40 (.ix (.const (.string ⟨#[63,119,115,117]⟩)) (.tmp 39)),Bn 41 .neq 38 40] (Cd 41 (.reg [Mv 42 0,Nk 43 42,Fa 44 1 43,⟨none,none,(.store 1 (.tmp 44) (.const (.bool true)))⟩]) .skip)) (.reg [Mv 45 6,Mv 46 6,Oo 47 (.len true (.tmp 46)),Bc 48 .sub 47 1,Oo 49 (.sls (.tmp 45) none (some (.tmp 48))),Mv 6 49])) .skip))) .skip)) (Sr [Mv 50 0,Mv 51 6,Cl 52 273 [(.tmp 50),(.tmp 51)],Mv 53 7,Mv 4 52,Mv 5 53] .ret)))))
theorem k276:ZaD Tryz.prog 276=some ⟨c276,[(.tmp 4),(.tmp 5)],54⟩:=by kernel_rfl
theorem ZqM : ∀ {l:Bs}{n:Int},(∀ c∈l,digB c.toNat=true)→0≤n→0≤decL n l∧decL n l+1≤(n+1)*10 ^ l.length
 | [],n,h,h0=>by simp [decL];omega
 | c::l,n,h,h0=>by
  have hd:=Zmd (h c (by simp))
  obtain ⟨i1,i2⟩:=ZqM (l:=l) (n:=10*n+c.toNat-48) (fun x hx=>h x (by simp [hx])) (by omega)
  refine ⟨i1,Int.le_trans i2 ?_⟩
  rw [List.length_cons,Int.pow_succ,Int.mul_comm (10 ^ l.length) 10,←Int.mul_assoc]
  exact Int.mul_le_mul_of_nonneg_right (by omega) (by exact_mod_cast Nat.zero_le (10 ^ l.length))
theorem numV_bd {s:ByteArray}{a b n:Int}(h:numV s a b=some n) (hb:b≤4):0≤n∧n<10000∧s.size≤4:=by
 obtain ⟨h1,h2,rfl⟩:=ZkO h
 have hz:s.size≤4:=by unfold wi at h1;simp at h1;omega
 have hl:(aB s).length≤4:=by rw [ZdY];exact hz
 have:=ZqM (l:=aB s) (n:=0) (fun c hc=>Zka (l:=aB s) h2 hc) (by omega)
 have hp:(10:Int) ^ (aB s).length≤10000:=by
  obtain ⟨m,hm⟩ : ∃ m,m=(aB s).length:=⟨_,rfl⟩
  rw [←hm] at hl ⊢
  have:m=0∨m=1∨m=2∨m=3∨m=4:=by omega
  rcases this with rfl | rfl | rfl | rfl | rfl <;> decide
 omega
theorem Zhs {s:ByteArray}{a b:Int}{t:TS}(hb:b≤4):0≤(tNum s a b t).1∧(tNum s a b t).1<10000:=by
 unfold tNum
 split
 ·rename_i n hn;have:=numV_bd hn hb;exact ⟨this.1,this.2.1⟩
 show (0:Int)≤0∧(0:Int)<10000;decide
theorem Zgg {s:ByteArray}{t:TS}:0≤(tSix s t).1∧(tSix s t).1<10000:=Zhs (by omega)
theorem ZnQ {l:List ByteArray}{t:TS}(h:l.length=2):Zev (l.map aB) t=(3600*(tNum l[0] 1 2 t).1+60*(tSix l[1] (tNum l[0] 1 2 t).2).1,(tSix l[1] (tNum l[0] 1 2 t).2).2):=by
 match l,h with
 | [a,b],_=>rfl
theorem Zku {l:List ByteArray}{t:TS}(h:l.length=3):Zev (l.map aB) t=(3600*(tNum l[0] 1 2 t).1+60*(tSix l[1] (tNum l[0] 1 2 t).2).1+(tSix l[2] (tSix l[1] (tNum l[0] 1 2 t).2).2).1,(tSix l[2] (tSix l[1] (tNum l[0] 1 2 t).2).2).2):=by
 match l,h with
 | [a,b,c],_=>rfl
theorem ZnR {l:List Bs}{t:TS}(h2:l.length≠2) (h3:l.length≠3):Zev l t=(0,bad t):=by
 unfold Zev
 split
 ·exact absurd rfl h2
 ·exact absurd rfl h3
 rfl
theorem Zhn {s:ByteArray}{t:TS}{id:Nat}{h:AH}(hz:s.size≤24) (h1:h[id]?=some (takE t)):ACalls Tryz.prog 273 [.ptr id 0 0,sv s] h fun x h'=>x=.ret (iv (Zbt s t).1)∧h'=h.set id (takE (Zbt s t).2):=by
 have hid:id<h.length:=(List.getElem?_eq_some_iff.1 h1).1
 refine tJ' k273 fun N hn hlt hlA hbd=>?_
 simp only [tb'] at hbd ⊢
 refine Zdp (h1:=h.set id (takE t)++[]) (by rw [ZcK h1]) ?_
 refine wr'<|mv' lki pt<|sn'<|Zam<|wr'<|mv' lk pt<|V' (Zcj lk lks) pt<|sn'<|?_
 refine cd' lk (fun hc1=>?_) (fun hc1=>?_)
 ·have hT:Zbt s t=(0,t):=if_pos hc1
  refine wr'<|mv' lki pt<|sn'<|Zaa<|Zai<|Zaf rz<|?_
  exact ⟨_,_,rfl,Zan hn,ZbM hlt ZaJ,rfl,by rw [hT],by rw [hT]⟩
 have hT0:Zbt s t=Zev (cutC 58 (aB s)) t:=if_neg hc1
 refine Zae<|Zah<|wr'<|mv' lkn pt5<|Zar<|Za8 (ALe.own0' (st':=1) (ty:=9) gt5 (hl0 (Zan hn)) pt5 ha0)<|wr'<|mv' lki pt6<|sn'<|Zam<|Zam<|?_
 refine Zas<|mv' lki pt<|sn'<|Zao<|?_
 refine w_lp (ι:=Nat×Nat×List ByteArray×Nat) (fun (x_:Nat×Nat×List ByteArray×Nat)=>match x_ with | ⟨f,i,ps,v⟩=>[(5,.own (N+0) v ps.length),(6,iv (f:Int)),(7,iv (i:Int))]++rn' 11 25) (fun (x_:Nat×Nat×List ByteArray×Nat)=>match x_ with | ⟨f,i,ps,v⟩=>[(0,.mk v 9 1 (rows strC ps))]) (fun (x_:Nat×Nat×List ByteArray×Nat)=>match x_ with | ⟨f,i,ps,v⟩=>i≤s.size+1∧f≤i∧ps.length≤i∧(i≤s.size→clean 58 s f i∧cutC 58 (aB s)=ps.map aB++cutC 58 ((aB s).drop f))∧(i=s.size+1→cutC 58 (aB s)=ps.map aB)) (fun (x_:Nat×Nat×List ByteArray×Nat)=>match x_ with | ⟨f,i,ps,v⟩=>s.size+1-i) (⟨0,0,[],0⟩) (by exact ⟨by omega,by omega,by simp,fun _=>⟨ZcN,rfl⟩,fun h=>by omega⟩) ?_
 rintro ⟨f,i,ps,v⟩ hi1
 try simp only [sm',Nat.reduceAdd]
 obtain ⟨hk1,hk2,hk3,hk4,hk5⟩:=hi1
 refine Zam<|wr'<|mv' lk pt<|mv' lk pt<|V' (Zbb lk) pt<|V' (Zdq lk lk) pt<|sn'<|?_
 refine cd' lk (fun hc2=>?_) (fun hc2=>?_)
 ·have hi:i≤s.size:=by omega
  obtain ⟨hk6,hk7⟩:=hk4 hi
  refine Zae<|Zah<|Zam<|Zao<|wr'<|mv' lk pt<|mv' lk pt<|V' (Zbb lk) pt<|V' (ZaT lk lk) pt<|mv' lk pt<|?_
  refine sp' (t:=21) gt pt pt (fun hg21=>?_) (fun hg21=>?_)
  ·have hie:i=s.size:=by omega
   have hseg:cutC 58 (aB s)=(ps++[s.extract f i]).map aB:=by rw [hk7,Zla hk6 hk2 hie];simp
   refine s_no gt pt<|s_no gt pt<|s_no gt pt<|s_no gt pt<|V' (Zak lk lkb) pt<|sn'<|ZaH lk<|wr'<|mv' lk pt<|mv' lk pt<|mv' lk pt<|mv' lk pt<|?_
   refine V' (ZdF lk (oi lk) (oi lk) (by omega) (by omega) (by omega)) pt ?_
   refine E' (Zc5 (Zg1 (cvl lk rfl) rfl) (hl1 (Zan hn)) ha1) pt ?_
   refine E' (ZcD (Zct lk (hga (Zan hn) rfl) rfl Zlm (nb' rfl)) lk (hga (Zan hn) rfl) (Zd5 _) (by omega) rfl (hs0 (Zan hn))) pt ?_
   refine mv' lk pt<|sn'<|Zas<|mv' lk pt<|?_
   refine V' (Zay lk lki (by omega) (by omega)) pt ?_
   refine mv' lk pt<|Zar<|Zaz<|Zah<|Zas<|mv' lk pt<|?_
   refine V' (Zay lk lki (by omega) (by omega)) pt ?_
   refine mv' lk pt<|Zar<|ZaA<|?_
   refine lU' (⟨i+1,i+1,ps++[s.extract f i],v+1⟩) (by (try dsimp only);exact ⟨by omega,by omega,by simp;omega,fun h=>by omega,fun _=>hseg⟩) (by (try dsimp only);(try simp only [sm',Nat.reduceAdd]);exact bkE' 1 (Zan hn) (ZbM hlt ZaJ) (by repeat (first | exact wk0 | refine wka ?_ | refine wk1 rfl ?_ | refine wk1 (by first | rfl | exact ivx (by omega) | (simp;done)) ?_)) (by simp only [ZaS,Zbx,strC];rfl))
  have hilt:i<s.size:=by omega
  refine s_do gt<|mv' lk pt<|s_do gt<|mv' lk pt<|s_do gt<|?_
  refine V' (v_ix lk lk (by omega) (by omega)) pt ?_
  refine s_do gt<|V' (ZaT lk lki) pt<|V' (Zag lk lk) pt<|sn'<|?_
  refine cd' lk (fun hc3=>?_) (fun hc3=>?_)
  ·have hx:ZaG s i=58:=ZhV (n:=58) (by omega) hc3
   have hseg:cutC 58 (aB s)=(ps++[s.extract f i]).map aB++cutC 58 ((aB s).drop (i+1)):=by rw [hk7,Zny hk6 hk2 hilt hx];simp
   refine wr'<|mv' lk pt<|mv' lk pt<|mv' lk pt<|mv' lk pt<|?_
   refine V' (ZdF lk (oi lk) (oi lk) (by omega) (by omega) (by omega)) pt ?_
   refine E' (Zc5 (Zg1 (cvl lk rfl) rfl) (hl1 (Zan hn)) ha1) pt ?_
   refine E' (ZcD (Zct lk (hga (Zan hn) rfl) rfl Zlm (nb' rfl)) lk (hga (Zan hn) rfl) (Zd5 _) (by omega) rfl (hs0 (Zan hn))) pt ?_
   refine mv' lk pt<|sn'<|Zas<|mv' lk pt<|?_
   refine V' (Zay lk lki (by omega) (by omega)) pt ?_
   refine mv' lk pt<|Zar<|Zaz<|Zah<|Zas<|mv' lk pt<|?_
   refine V' (Zay lk lki (by omega) (by omega)) pt ?_
   refine mv' lk pt<|Zar<|ZaA<|?_
   refine lU' (⟨i+1,i+1,ps++[s.extract f i],v+1⟩) (by (try dsimp only);exact ⟨by omega,by omega,by simp;omega,fun h=>⟨ZcN,hseg⟩,fun h=>by omega⟩) (by (try dsimp only);(try simp only [sm',Nat.reduceAdd]);exact bkE' 1 (Zan hn) (ZbM hlt ZaJ) (by repeat (first | exact wk0 | refine wka ?_ | refine wk1 rfl ?_ | refine wk1 (by first | rfl | exact ivx (by omega) | (simp;done)) ?_)) (by simp only [ZaS,Zbx,strC];rfl))
  have hx:ZaG s i≠58:=Zj6 (n:=58) (by omega) hc3
  refine Zae<|Zaz<|Zah<|Zas<|mv' lk pt<|?_
  refine V' (Zay lk lki (by omega) (by omega)) pt ?_
  refine mv' lk pt<|Zar<|ZaA<|?_
  refine lU' (⟨f,i+1,ps,v⟩) (by (try dsimp only);exact ⟨by omega,by omega,by omega,fun h=>⟨ZnB hk6 hk2 hilt hx,hk7⟩,fun h=>by omega⟩) (by (try dsimp only);(try simp only [sm',Nat.reduceAdd]);exact ALe.same (by repeat (first | exact wk0 | refine wka ?_ | refine wk1 rfl ?_ | refine wk1 (by first | rfl | exact ivx (by omega) | (simp;done)) ?_)) rfl)
 have hC:=hk5 (by omega)
 rw [hC] at hT0
 have hps:ps.length≤25:=by omega
 refine ZaO<|ZaF<|ZaF<|Za7<|Zah<|Zam<|wr'<|mv' lk pt<|V' (Zds lk) pt<|V' (Za1 lk lki) pt<|mv' lk pt<|?_
 refine sp' (t:=39) gt pt pt (fun hg39=>?_) (fun hg39=>?_)
 ·refine s_do gt<|mv' lk pt<|s_do gt<|V' (Zds lk) pt<|s_do gt<|V' (Za1 lk lki) pt<|V' (Zak lk lk) pt<|sn'<|?_
  refine cd' lk (fun hc4=>?_) (fun hc4=>?_)
  ·rw [ZnR (by rw [List.length_map];omega) (by rw [List.length_map];omega)] at hT0
   refine wr'<|mv' lk pt<|V' (Zb8 lk) pt<|V' (Zac lk) pt<|E' (Zal lk (cvl lkb rfl) (ZaV hid) rfl (nb' rfl) rfl Zjg (ZaI hid)) ptn<|sn'<|wr'<|mv' lki pt<|sn'<|Zaa<|?_
   refine Zai<|Zaf rz<|?_
   exact ⟨_,_,rfl,Zan hn,ZbM hlt ZaJ,rfl,by rw [hT0],by rw [hT0]⟩
  have hl3:ps.length=3:=by omega
  have hl0:2≤ps.length:=by omega
  rw [Zku hl3] at hT0
  refine Zae ?_
  refine Za8 (ALe.iceR (hga (Zan hn) rfl) gt5 (List.take_of_length_le (by rw [ZaX ZbO];first | exact Nat.le_refl _ | omega)) (by rw [ZaX ZbO];first | exact Nat.le_refl _ | omega) pt5 (hs0 (Zan hn))) ?_
  refine Zam<|ZbP<|u_fr rfl (v_mv lk) pt<|u_fr rfl (v_mv lk) pt<|?_
  refine u_fr rfl (ZaY (k:=0) lk lki ZbO (nb' rfl) ro (by omega) ro rfl) pt ?_
  refine u_fr rfl (ZaB lk gt) pt ?_
  refine ZcJ mp (ZaV hid) (fun hU hUe=>Zdu (by omega) hUe) nh (ZaI hid) pt ?_
  have hb1:=Zhs (s:=ps[0]) (a:=1) (b:=2) (t:=t) (by omega)
  refine u_fr rfl (Ze9 lki lk (by omega) (by omega)) pt ?_
  refine u_fr rfl (v_mv lk) pt<|u_fr rfl (v_mv lk) pt<|?_
  refine u_fr rfl (ZaY (k:=1) lk lki ZbO (nb' rfl) ro (by omega) ro rfl) pt ?_
  refine u_fr rfl (ZaB lk gt) pt ?_
  refine ZcJ mp (ZaV hid) (fun hU hUe=>Zpj hUe) nh (ZaI hid) pt ?_
  have hb2:=Zgg (s:=ps[1]) (t:=(tNum ps[0] 1 2 t).2)
  refine u_fr rfl (Ze9 lki lk (by omega) (by omega)) pt ?_
  refine u_fr rfl (Zay lk lk (by omega) (by omega)) pt ?_
  refine u_fr rfl (v_mv lk) pt<|ZcI<|Zah<|Zam<|wr'<|mv' lk pt<|V' (ZaP lk) pt<|V' (ZaT lk lki) pt<|sn'<|?_
  refine ZdE lk (by simp [hl3]) ?_
  refine Zas<|mv' lk pt<|mv' lk pt<|mv' lk pt<|?_
  refine V' (ZaY (k:=2) lk lki ZbO (nb' rfl) ro (by omega) ro rfl) pt ?_
  refine V' (ZaB lk gt) pt<|ZaL mp (Zpj (ZaV hid)) (ZaI hid) pt<|?_
  have hb3:=Zgg (s:=ps[2]) (t:=(tSix ps[1] (tNum ps[0] 1 2 t).2).2)
  refine V' (Zay lk lk (by omega) (by omega)) pt ?_
  refine mv' lk pt<|sn'<|wr'<|mv' lk pt<|mv' lk pt<|sn'<|Zaa<|Zaf rz<|?_
  exact ⟨_,_,rfl,Zan hn,ZbM hlt ZaJ,rfl,by rw [hT0] <;> rfl,by rw [hT0] <;> rfl⟩
 have hl2:ps.length=2:=by omega
 have hl0:2≤ps.length:=by omega
 rw [ZnQ hl2] at hT0
 refine s_no gt pt<|s_no gt pt<|s_no gt pt<|V' (Zag lk lkb) pt<|sn'<|ZaM lk<|Zae<|?_
 refine Za8 (ALe.iceR (hga (Zan hn) rfl) gt5 (List.take_of_length_le (by rw [ZaX ZbO];first | exact Nat.le_refl _ | omega)) (by rw [ZaX ZbO];first | exact Nat.le_refl _ | omega) pt5 (hs0 (Zan hn))) ?_
 refine Zam<|ZbP<|u_fr rfl (v_mv lk) pt<|u_fr rfl (v_mv lk) pt<|?_
 refine u_fr rfl (ZaY (k:=0) lk lki ZbO (nb' rfl) ro (by omega) ro rfl) pt ?_
 refine u_fr rfl (ZaB lk gt) pt ?_
 refine ZcJ mp (ZaV hid) (fun hU hUe=>Zdu (by omega) hUe) nh (ZaI hid) pt ?_
 have hb1:=Zhs (s:=ps[0]) (a:=1) (b:=2) (t:=t) (by omega)
 refine u_fr rfl (Ze9 lki lk (by omega) (by omega)) pt ?_
 refine u_fr rfl (v_mv lk) pt<|u_fr rfl (v_mv lk) pt<|?_
 refine u_fr rfl (ZaY (k:=1) lk lki ZbO (nb' rfl) ro (by omega) ro rfl) pt ?_
 refine u_fr rfl (ZaB lk gt) pt ?_
 refine ZcJ mp (ZaV hid) (fun hU hUe=>Zpj hUe) nh (ZaI hid) pt ?_
 have hb2:=Zgg (s:=ps[1]) (t:=(tNum ps[0] 1 2 t).2)
 refine u_fr rfl (Ze9 lki lk (by omega) (by omega)) pt ?_
 refine u_fr rfl (Zay lk lk (by omega) (by omega)) pt ?_
 refine u_fr rfl (v_mv lk) pt<|ZcI<|Zah<|Zam<|wr'<|mv' lk pt<|V' (ZaP lk) pt<|V' (ZaT lk lki) pt<|sn'<|?_
 refine Zd4 lk (by simp [hl2]) ?_
 refine Zae<|Zah<|wr'<|mv' lk pt<|mv' lk pt<|sn'<|Zaa<|Zaf rz<|?_
 exact ⟨_,_,rfl,Zan hn,ZbM hlt ZaJ,rfl,by rw [hT0] <;> rfl,by rw [hT0] <;> rfl⟩
theorem ZcZ {t t1:TS}{s:ByteArray}{id:Nat}{h:AH}(he:ZaN t=(s,t1)) (h1:h[id]?=some (takE t)):ACalls Tryz.prog 200 [.ptr id 0 0] h fun x h'=>x=.ret (sv s)∧h'=h.set id (takE t1):=by
 have:=ZlD h1
 rw [he] at this
 exact this
theorem ZeX {s:ByteArray}{k:Nat}{n:Int}(h:¬((ZaG s (k:Int).toNat).toNat:Int)=n):Zcz s k≠n:=h
theorem tform_a {t:TS}{id:Nat}{h:AH}(hz:(ZaN t).1.size≤24) (h1:h[id]?=some (takE t)):ACalls Tryz.prog 277 [.ptr id 0 0] h fun x h'=>x=.ret (.agg [iv (Zgh t).1.1,iv (Zgh t).1.2.1,iv (Zgh t).1.2.2])∧h'=h.set id (takE (Zgh t).2):=by
 have hid:id<h.length:=(List.getElem?_eq_some_iff.1 h1).1
 obtain ⟨s,t1,he⟩ : ∃ s t1,ZaN t=(s,t1):=⟨_,_,rfl⟩
 have hF:Zgh t=ZbJ s t1:=by unfold Zgh;rw [he]
 rw [he] at hz
 replace hz:s.size≤24:=hz
 obtain ⟨q,hq⟩ : ∃ q,q=ZdK s:=⟨_,rfl⟩
 have hK:ZdK s=if 4≤s.size∧s.extract 0 4=bA [108,97,115,116] then 2 else if 5<s.size∧Zcz s 4=61∧Zcz s 3=62 then 3 else if 5<s.size∧Zcz s 4=61∧Zcz s 3=60 then 4 else 1:=rfl
 refine tJ' k277 fun N hn hlt hlA hbd=>?_
 simp only [tb'] at hbd ⊢
 refine Zdp (h1:=h.set id (takE t)++[]) (by rw [ZcK h1]) ?_
 refine wr'<|E' (Za6 (hl0 (Zan hn)) ha0) pt<|sn'<|wr'<|mv' lk pt<|ZaL mp (ZcZ he (ZaV hid)) (ZaI hid) pt<|mv' lk pt<|sn'<|Zam<|Zam<|?_
 refine Zas<|mv' lk pt<|V' (Zbb lk) pt<|V' (Zfg lk lki) pt<|mv' lk pt<|?_
 refine sp' (t:=10) gt pt pt (fun hg10=>?_) (fun hg10=>?_)
 ·refine s_do gt<|mv' lk pt<|s_do gt<|?_
  refine V' (ZdF lk on_ (oi lki) (by omega) (by omega) (by omega)) pt ?_
  refine s_do gt<|V' (Zcj lk lks) pt<|V' (Zak lk lk) pt<|sn'<|?_
  refine cd' lk (fun hc1=>?_) (fun hc1=>?_)
  ·have hk:ZdK s=2:=by rw [hK];exact if_pos ⟨by omega,hc1⟩
   have hT:Zgh t=((2,(ZdN (s.extract 4 s.size) t1).1,0),(ZdN (s.extract 4 s.size) t1).2):=by rw [hF];unfold ZbJ;rw [if_pos hk]
   refine wr'<|mv' lk pt<|mv' lk pt<|?_
   refine V' (ZdF lk (oi lki) on_ (by omega) (by omega) (by omega)) pt ?_
   refine ZaL mp (Zhk (ZaV hid)) (ZaI hid) pt<|V' (Zax (Zln (cvl lki rfl) rfl (cvl lk rfl) rfl)) pt<|E' (Zal lk (cvl lk rfl) (hga (Zan hn) rfl) rfl (nb' rfl) rfl Zbh (hs0 (Zan hn))) ptn<|sn'<|Zaa<|Zai<|Zaf (rs1 (rr_c gt (hga (Zan hn) rfl) (ld1 Zbg rfl)))<|?_
   exact ⟨_,_,rfl,Zan hn,ZbM hlt ZaJ,rfl,by rw [hT] <;> rfl,by rw [hT] <;> rfl⟩
  have hn2:¬(4≤s.size∧s.extract 0 4=bA [108,97,115,116]):=fun e=>hc1 e.2
  rw [if_neg hn2] at hK
  refine Zae<|Zah<|Zam<|wr'<|mv' lk pt<|V' (Zbb lk) pt<|V' (ZbV lk lki) pt<|mv' lk pt<|?_
  refine sp' (t:=23) gt pt pt (fun hg23=>?_) (fun hg23=>?_)
  ·refine s_do gt<|mv' lk pt<|s_do gt<|?_
   refine V' (v_ix lk lki (by omega) (by omega)) pt ?_
   refine s_do gt<|V' (ZaT lk lki) pt<|V' (Zak lk lk) pt<|mv' lk pt<|?_
   refine sp' (t:=28) gt pt pt (fun hg28=>?_) (fun hg28=>?_)
   ·refine s_do gt<|mv' lk pt<|s_do gt<|?_
    refine V' (v_ix lk lki (by omega) (by omega)) pt ?_
    refine s_do gt<|V' (ZaT lk lki) pt<|s_do gt<|mv' lk pt<|?_
    refine sp' (t:=32) gt pt pt (fun hg32=>?_) (fun hg32=>?_)
    ·have hk:ZdK s=3:=by rw [hK];exact if_pos ⟨by omega,hg28,hg32⟩
     refine s_no gt pt<|s_no gt pt<|s_no gt pt<|s_do gt<|V' (Zak lk lkb) pt<|V' (Zak lk lk) pt<|sn'<|ZaH lk<|Zam<|ZbP<|u_fr rfl (v_mv lk) pt<|u_fr rfl (v_mv lk) pt<|?_
     refine u_fr rfl (ZdF lk on_ (oi lki) (by omega) (by omega) (by omega)) pt ?_
     refine ZcJ mp (ZaV hid) (fun hU hUe=>Zhk hUe) nh (ZaI hid) pt ?_
     refine u_fr rfl (v_mv lk) pt<|u_fr rfl (v_mv lk) pt<|?_
     refine u_fr rfl (ZdF lk (oi lki) on_ (by omega) (by omega) (by omega)) pt ?_
     refine ZcJ mp (ZaV hid) (fun hU hUe=>Zdu (by omega) hUe) nh (ZaI hid) pt ?_
     refine u_fr rfl (Zax (ZdD (cvl lki rfl) rfl (cvl lk rfl) rfl (cvl lk rfl) rfl)) pt ?_
     refine u_al rfl (Za6 (hl1 (Zan hn)) ha1) (hl1 (Zan hn)) nh pt ?_
     refine u_st (Zal lk (cvl lk rfl) (hga (Zan hn) rfl) rfl (nb' rfl) rfl Zbh (hs1 (Zan hn))) lk nh ptn ?_
     refine ZcI<|Zah<|Zam<|wr'<|mv' lk pt<|?_
     refine V' (v_ix lk lki (by omega) (by omega)) pt ?_
     refine V' (ZaT lk lki) pt<|sn'<|?_
     refine Zd4 lk (by exact decide_eq_false (by rw [hg32];decide)) ?_
     refine Zae<|Zah<|wr'<|V' (Zaq lk (hga (Zan hn) rfl) Zbg rfl) pt<|E' (Zal lk (cvl lk rfl) (hga (Zan hn) rfl) rfl (nb' rfl) rfl Zbh (hs0 (Zan hn))) ptn<|sn'<|Zaa<|Zai<|Zaf (rs1 (rr_c gt (hga (Zan hn) rfl) (ld1 Zbg rfl)))<|?_
     exact ⟨_,_,rfl,Zan hn,ZbM hlt ZaJ,rfl,by rw [hF];unfold ZbJ;rw [hk] <;> rfl,by rw [hF];unfold ZbJ;rw [hk] <;> rfl⟩
    have h3:Zcz s 3≠62:=ZeX hg32
    refine s_do gt<|mv' lk pt<|s_do gt<|?_
    refine V' (v_ix lk lki (by omega) (by omega)) pt ?_
    refine s_do gt<|V' (ZaT lk lki) pt<|s_do gt<|V' (Zag lk lk) pt<|V' (Zak lk lk) pt<|sn'<|?_
    refine cd' lk (fun hc2=>?_) (fun hc2=>?_)
    ·have hk:ZdK s=4:=by rw [hK,if_neg (fun e=>h3 e.2.2)];exact if_pos ⟨by omega,hg28,hc2⟩
     refine Zam<|ZbP<|u_fr rfl (v_mv lk) pt<|u_fr rfl (v_mv lk) pt<|?_
     refine u_fr rfl (ZdF lk on_ (oi lki) (by omega) (by omega) (by omega)) pt ?_
     refine ZcJ mp (ZaV hid) (fun hU hUe=>Zhk hUe) nh (ZaI hid) pt ?_
     refine u_fr rfl (v_mv lk) pt<|u_fr rfl (v_mv lk) pt<|?_
     refine u_fr rfl (ZdF lk (oi lki) on_ (by omega) (by omega) (by omega)) pt ?_
     refine ZcJ mp (ZaV hid) (fun hU hUe=>Zdu (by omega) hUe) nh (ZaI hid) pt ?_
     refine u_fr rfl (Zax (ZdD (cvl lki rfl) rfl (cvl lk rfl) rfl (cvl lk rfl) rfl)) pt ?_
     refine u_al rfl (Za6 (hl1 (Zan hn)) ha1) (hl1 (Zan hn)) nh pt ?_
     refine u_st (Zal lk (cvl lk rfl) (hga (Zan hn) rfl) rfl (nb' rfl) rfl Zbh (hs1 (Zan hn))) lk nh ptn ?_
     refine ZcI<|Zah<|Zam<|wr'<|mv' lk pt<|?_
     refine V' (v_ix lk lki (by omega) (by omega)) pt ?_
     refine V' (ZaT lk lki) pt<|sn'<|?_
     refine ZdE lk (by exact decide_eq_true hc2) ?_
     refine Zas<|V' (Zac lk) pt<|E' (Zal lk (cvl lki rfl) (hga (Zan hn) rfl) rfl (nb' rfl) rfl Zjh (hs1 (Zan hn))) ptn<|sn'<|wr'<|V' (Zaq lk (hga (Zan hn) rfl) Zbg rfl) pt<|E' (Zal lk (cvl lk rfl) (hga (Zan hn) rfl) rfl (nb' rfl) rfl Zbh (hs0 (Zan hn))) ptn<|sn'<|Zaa<|Zai<|Zaf (rs1 (rr_c gt (hga (Zan hn) rfl) (ld1 Zbg rfl)))<|?_
     exact ⟨_,_,rfl,Zan hn,ZbM hlt ZaJ,rfl,by rw [hF];unfold ZbJ;rw [hk] <;> rfl,by rw [hF];unfold ZbJ;rw [hk] <;> rfl⟩
    have h3':Zcz s 3≠60:=ZeX hc2
    have hk:ZdK s=1:=by rw [hK,if_neg (fun e=>h3 e.2.2),if_neg (fun e=>h3' e.2.2)]
    refine Zae<|Zah<|wr'<|mv' lk pt<|mv' lk pt<|?_
    refine ZaL mp (Zdu (by omega) (ZaV hid)) (ZaI hid) pt ?_
    refine V' (Zax (Zcv (cvl lki rfl) rfl (cvl lk rfl) rfl)) pt<|E' (Zal lk (cvl lk rfl) (hga (Zan hn) rfl) rfl (nb' rfl) rfl Zbh (hs0 (Zan hn))) ptn<|sn'<|Zaa<|Zaf (rs1 (rr_c gt (hga (Zan hn) rfl) (ld1 Zbg rfl)))<|?_
    exact ⟨_,_,rfl,Zan hn,ZbM hlt ZaJ,rfl,by rw [hF];unfold ZbJ;rw [hk] <;> rfl,by rw [hF];unfold ZbJ;rw [hk] <;> rfl⟩
   have h4:Zcz s 4≠61:=ZeX hg28
   have hk:ZdK s=1:=by rw [hK,if_neg (fun e=>h4 e.2.1),if_neg (fun e=>h4 e.2.1)]
   refine s_no gt pt<|s_no gt pt<|s_no gt pt<|s_no gt pt<|s_nu gt pt<|s_nu gt pt<|s_nu gt pt<|s_no gt pt<|V' (Zag lk lkb) pt<|sn'<|ZaM lk<|Zae<|Zah<|?_
   refine wr'<|mv' lk pt<|mv' lk pt<|?_
   refine ZaL mp (Zdu (by omega) (ZaV hid)) (ZaI hid) pt ?_
   refine V' (Zax (Zcv (cvl lki rfl) rfl (cvl lk rfl) rfl)) pt<|E' (Zal lk (cvl lk rfl) (hga (Zan hn) rfl) rfl (nb' rfl) rfl Zbh (hs0 (Zan hn))) ptn<|sn'<|Zaa<|Zaf (rs1 (rr_c gt (hga (Zan hn) rfl) (ld1 Zbg rfl)))<|?_
   exact ⟨_,_,rfl,Zan hn,ZbM hlt ZaJ,rfl,by rw [hF];unfold ZbJ;rw [hk] <;> rfl,by rw [hF];unfold ZbJ;rw [hk] <;> rfl⟩
  have hk:ZdK s=1:=by rw [hK,if_neg (by omega),if_neg (by omega)]
  refine s_no gt pt<|s_no gt pt<|s_no gt pt<|V' (Zag lk lkb) pt<|mv' lk pt<|s_no gt pt<|s_no gt pt<|s_no gt pt<|s_no gt pt<|s_nu gt pt<|s_nu gt pt<|s_nu gt pt<|s_no gt pt<|V' (Zag lk lkb) pt<|?_
  refine sn'<|ZaM lk<|Zae<|Zah<|wr'<|mv' lk pt<|mv' lk pt<|?_
  refine ZaL mp (Zdu (by omega) (ZaV hid)) (ZaI hid) pt ?_
  refine V' (Zax (Zcv (cvl lki rfl) rfl (cvl lk rfl) rfl)) pt<|E' (Zal lk (cvl lk rfl) (hga (Zan hn) rfl) rfl (nb' rfl) rfl Zbh (hs0 (Zan hn))) ptn<|sn'<|Zaa<|Zaf (rs1 (rr_c gt (hga (Zan hn) rfl) (ld1 Zbg rfl)))<|?_
  exact ⟨_,_,rfl,Zan hn,ZbM hlt ZaJ,rfl,by rw [hF];unfold ZbJ;rw [hk] <;> rfl,by rw [hF];unfold ZbJ;rw [hk] <;> rfl⟩
 have hn2:¬(4≤s.size∧s.extract 0 4=bA [108,97,115,116]):=fun e=>by omega
 rw [if_neg hn2] at hK
 refine s_no gt pt<|s_no gt pt<|s_no gt pt<|V' (Zag lk lkb) pt<|sn'<|ZaM lk<|Zae<|Zah<|Zam<|wr'<|mv' lk pt<|V' (Zbb lk) pt<|?_
 refine V' (ZbV lk lki) pt<|mv' lk pt<|?_
 refine sp' (t:=23) gt pt pt (fun hg23=>?_) (fun hg23=>?_)
 ·refine s_do gt<|mv' lk pt<|s_do gt<|?_
  refine V' (v_ix lk lki (by omega) (by omega)) pt ?_
  refine s_do gt<|V' (ZaT lk lki) pt<|V' (Zak lk lk) pt<|mv' lk pt<|?_
  refine sp' (t:=28) gt pt pt (fun hg28=>?_) (fun hg28=>?_)
  ·refine s_do gt<|mv' lk pt<|s_do gt<|?_
   refine V' (v_ix lk lki (by omega) (by omega)) pt ?_
   refine s_do gt<|V' (ZaT lk lki) pt<|s_do gt<|mv' lk pt<|?_
   refine sp' (t:=32) gt pt pt (fun hg32=>?_) (fun hg32=>?_)
   ·have hk:ZdK s=3:=by rw [hK];exact if_pos ⟨by omega,hg28,hg32⟩
    refine s_no gt pt<|s_no gt pt<|s_no gt pt<|s_do gt<|V' (Zak lk lkb) pt<|V' (Zak lk lk) pt<|sn'<|ZaH lk<|Zam<|ZbP<|u_fr rfl (v_mv lk) pt<|u_fr rfl (v_mv lk) pt<|?_
    refine u_fr rfl (ZdF lk on_ (oi lki) (by omega) (by omega) (by omega)) pt ?_
    refine ZcJ mp (ZaV hid) (fun hU hUe=>Zhk hUe) nh (ZaI hid) pt ?_
    refine u_fr rfl (v_mv lk) pt<|u_fr rfl (v_mv lk) pt<|?_
    refine u_fr rfl (ZdF lk (oi lki) on_ (by omega) (by omega) (by omega)) pt ?_
    refine ZcJ mp (ZaV hid) (fun hU hUe=>Zdu (by omega) hUe) nh (ZaI hid) pt ?_
    refine u_fr rfl (Zax (ZdD (cvl lki rfl) rfl (cvl lk rfl) rfl (cvl lk rfl) rfl)) pt ?_
    refine u_al rfl (Za6 (hl1 (Zan hn)) ha1) (hl1 (Zan hn)) nh pt ?_
    refine u_st (Zal lk (cvl lk rfl) (hga (Zan hn) rfl) rfl (nb' rfl) rfl Zbh (hs1 (Zan hn))) lk nh ptn ?_
    refine ZcI<|Zah<|Zam<|wr'<|mv' lk pt<|?_
    refine V' (v_ix lk lki (by omega) (by omega)) pt ?_
    refine V' (ZaT lk lki) pt<|sn'<|?_
    refine Zd4 lk (by exact decide_eq_false (by rw [hg32];decide)) ?_
    refine Zae<|Zah<|wr'<|V' (Zaq lk (hga (Zan hn) rfl) Zbg rfl) pt<|E' (Zal lk (cvl lk rfl) (hga (Zan hn) rfl) rfl (nb' rfl) rfl Zbh (hs0 (Zan hn))) ptn<|sn'<|Zaa<|Zai<|Zaf (rs1 (rr_c gt (hga (Zan hn) rfl) (ld1 Zbg rfl)))<|?_
    exact ⟨_,_,rfl,Zan hn,ZbM hlt ZaJ,rfl,by rw [hF];unfold ZbJ;rw [hk] <;> rfl,by rw [hF];unfold ZbJ;rw [hk] <;> rfl⟩
   have h3:Zcz s 3≠62:=ZeX hg32
   refine s_do gt<|mv' lk pt<|s_do gt<|?_
   refine V' (v_ix lk lki (by omega) (by omega)) pt ?_
   refine s_do gt<|V' (ZaT lk lki) pt<|s_do gt<|V' (Zag lk lk) pt<|V' (Zak lk lk) pt<|sn'<|?_
   refine cd' lk (fun hc2=>?_) (fun hc2=>?_)
   ·have hk:ZdK s=4:=by rw [hK,if_neg (fun e=>h3 e.2.2)];exact if_pos ⟨by omega,hg28,hc2⟩
    refine Zam<|ZbP<|u_fr rfl (v_mv lk) pt<|u_fr rfl (v_mv lk) pt<|?_
    refine u_fr rfl (ZdF lk on_ (oi lki) (by omega) (by omega) (by omega)) pt ?_
    refine ZcJ mp (ZaV hid) (fun hU hUe=>Zhk hUe) nh (ZaI hid) pt ?_
    refine u_fr rfl (v_mv lk) pt<|u_fr rfl (v_mv lk) pt<|?_
    refine u_fr rfl (ZdF lk (oi lki) on_ (by omega) (by omega) (by omega)) pt ?_
    refine ZcJ mp (ZaV hid) (fun hU hUe=>Zdu (by omega) hUe) nh (ZaI hid) pt ?_
    refine u_fr rfl (Zax (ZdD (cvl lki rfl) rfl (cvl lk rfl) rfl (cvl lk rfl) rfl)) pt ?_
    refine u_al rfl (Za6 (hl1 (Zan hn)) ha1) (hl1 (Zan hn)) nh pt ?_
    refine u_st (Zal lk (cvl lk rfl) (hga (Zan hn) rfl) rfl (nb' rfl) rfl Zbh (hs1 (Zan hn))) lk nh ptn ?_
    refine ZcI<|Zah<|Zam<|wr'<|mv' lk pt<|?_
    refine V' (v_ix lk lki (by omega) (by omega)) pt ?_
    refine V' (ZaT lk lki) pt<|sn'<|?_
    refine ZdE lk (by exact decide_eq_true hc2) ?_
    refine Zas<|V' (Zac lk) pt<|E' (Zal lk (cvl lki rfl) (hga (Zan hn) rfl) rfl (nb' rfl) rfl Zjh (hs1 (Zan hn))) ptn<|sn'<|wr'<|V' (Zaq lk (hga (Zan hn) rfl) Zbg rfl) pt<|E' (Zal lk (cvl lk rfl) (hga (Zan hn) rfl) rfl (nb' rfl) rfl Zbh (hs0 (Zan hn))) ptn<|sn'<|Zaa<|Zai<|Zaf (rs1 (rr_c gt (hga (Zan hn) rfl) (ld1 Zbg rfl)))<|?_
    exact ⟨_,_,rfl,Zan hn,ZbM hlt ZaJ,rfl,by rw [hF];unfold ZbJ;rw [hk] <;> rfl,by rw [hF];unfold ZbJ;rw [hk] <;> rfl⟩
   have h3':Zcz s 3≠60:=ZeX hc2
   have hk:ZdK s=1:=by rw [hK,if_neg (fun e=>h3 e.2.2),if_neg (fun e=>h3' e.2.2)]
   refine Zae<|Zah<|wr'<|mv' lk pt<|mv' lk pt<|?_
   refine ZaL mp (Zdu (by omega) (ZaV hid)) (ZaI hid) pt ?_
   refine V' (Zax (Zcv (cvl lki rfl) rfl (cvl lk rfl) rfl)) pt<|E' (Zal lk (cvl lk rfl) (hga (Zan hn) rfl) rfl (nb' rfl) rfl Zbh (hs0 (Zan hn))) ptn<|sn'<|Zaa<|Zaf (rs1 (rr_c gt (hga (Zan hn) rfl) (ld1 Zbg rfl)))<|?_
   exact ⟨_,_,rfl,Zan hn,ZbM hlt ZaJ,rfl,by rw [hF];unfold ZbJ;rw [hk] <;> rfl,by rw [hF];unfold ZbJ;rw [hk] <;> rfl⟩
  have h4:Zcz s 4≠61:=ZeX hg28
  have hk:ZdK s=1:=by rw [hK,if_neg (fun e=>h4 e.2.1),if_neg (fun e=>h4 e.2.1)]
  refine s_no gt pt<|s_no gt pt<|s_no gt pt<|s_no gt pt<|s_nu gt pt<|s_nu gt pt<|s_nu gt pt<|s_no gt pt<|V' (Zag lk lkb) pt<|sn'<|ZaM lk<|Zae<|Zah<|?_
  refine wr'<|mv' lk pt<|mv' lk pt<|?_
  refine ZaL mp (Zdu (by omega) (ZaV hid)) (ZaI hid) pt ?_
  refine V' (Zax (Zcv (cvl lki rfl) rfl (cvl lk rfl) rfl)) pt<|E' (Zal lk (cvl lk rfl) (hga (Zan hn) rfl) rfl (nb' rfl) rfl Zbh (hs0 (Zan hn))) ptn<|sn'<|Zaa<|Zaf (rs1 (rr_c gt (hga (Zan hn) rfl) (ld1 Zbg rfl)))<|?_
  exact ⟨_,_,rfl,Zan hn,ZbM hlt ZaJ,rfl,by rw [hF];unfold ZbJ;rw [hk] <;> rfl,by rw [hF];unfold ZbJ;rw [hk] <;> rfl⟩
 have hk:ZdK s=1:=by rw [hK,if_neg (by omega),if_neg (by omega)]
 refine s_no gt pt<|s_no gt pt<|s_no gt pt<|V' (Zag lk lkb) pt<|mv' lk pt<|s_no gt pt<|s_no gt pt<|s_no gt pt<|s_no gt pt<|s_nu gt pt<|s_nu gt pt<|s_nu gt pt<|s_no gt pt<|V' (Zag lk lkb) pt<|?_
 refine sn'<|ZaM lk<|Zae<|Zah<|wr'<|mv' lk pt<|mv' lk pt<|?_
 refine ZaL mp (Zdu (by omega) (ZaV hid)) (ZaI hid) pt ?_
 refine V' (Zax (Zcv (cvl lki rfl) rfl (cvl lk rfl) rfl)) pt<|E' (Zal lk (cvl lk rfl) (hga (Zan hn) rfl) rfl (nb' rfl) rfl Zbh (hs0 (Zan hn))) ptn<|sn'<|Zaa<|Zaf (rs1 (rr_c gt (hga (Zan hn) rfl) (ld1 Zbg rfl)))<|?_
 exact ⟨_,_,rfl,Zan hn,ZbM hlt ZaJ,rfl,by rw [hF];unfold ZbJ;rw [hk] <;> rfl,by rw [hF];unfold ZbJ;rw [hk] <;> rfl⟩
theorem Zni {c d:Int}(hd:d=1∨d=2) : ∀ k:Nat,k≤3→1≤Zc4 c d k∧Zc4 c d k≤3
 | 0,_=>by unfold Zc4;omega
 | k+1,h=>by
  have:=Zni (c:=c) hd k (by omega)
  unfold Zc4
  split <;> omega
theorem tclock_a {d:Int}{t:TS}{id:Nat}{h:AH}(hd:d=1∨d=2) (hz:(ZaN t).1.size≤24) (h1:h[id]?=some (takE t)):ACalls Tryz.prog 276 [.ptr id 0 0,iv d] h fun x h'=>x=.ret (.tup [iv (ZcU d t).1.1,iv (ZcU d t).1.2])∧h'=h.set id (takE (ZcU d t).2):=by
 have hid:id<h.length:=(List.getElem?_eq_some_iff.1 h1).1
 obtain ⟨s,t1,he⟩ : ∃ s t1,ZaN t=(s,t1):=⟨_,_,rfl⟩
 have hF:ZcU d t=ZdH d s t1:=by unfold ZcU;rw [he]
 rw [he] at hz
 replace hz:s.size≤24:=hz
 have hem:=Zeg (f:=s)
 have hkb:=Zni (c:=Zcx s) hd 3 (by omega)
 have hws:(⟨#[63,119,115,117]⟩:ByteArray).size=4:=rfl
 refine tJ' k276 fun N hn hlt hlA hbd=>?_
 simp only [tb'] at hbd ⊢
 refine Zdp (h1:=h.set id (takE t)++[]) (by rw [ZcK h1]) ?_
 refine wr'<|mv' lki pt<|mv' lki pt<|sn'<|wr'<|mv' lk pt<|ZaL mp (ZcZ he (ZaV hid)) (ZaI hid) pt<|mv' lk pt<|sn'<|Zam<|?_
 refine Zas<|mv' lk pt<|mv' lk pt<|sn'<|Zam<|wr'<|mv' lk pt<|V' (Zcs lk lks) pt<|sn'<|?_
 refine cd' lk (fun hc1=>?_) (fun hc1=>?_)
 ·have h0:s.size≠0:=fun e=>hc1 (hem.2 e)
  have hL:((ZaG s ((s.size:Int)-1).toNat).toNat:Int)=Zcx s:=by unfold Zcx Zcz;congr 2;congr 1;omega
  have hbl:(0:Int)≤((ZaG s ((s.size:Int)-1).toNat).toNat:Int)∧((ZaG s ((s.size:Int)-1).toNat).toNat:Int)≤255:=ZeJ _ _
  refine Zam<|wr'<|mv' lki pt<|sn'<|Zao<|?_
  refine w_lp (ι:=Nat) (fun (k:Nat)=>[(7,iv (Zc4 (Zcx s) d k)),(8,iv ((k+1:Nat):Int))]++rn' 14 13) (fun (k:Nat)=>[]) (fun (k:Nat)=>k≤3) (fun (k:Nat)=>3-k) (0) (by omega) ?_
  rintro k hi1
  try simp only [sm',Nat.reduceAdd]
  refine Zam<|wr'<|mv' lk pt<|V' (Zdq lk lki) pt<|sn'<|?_
  refine cd' lk (fun hc2=>?_) (fun hc2=>?_)
  ·have hk:k+1≤3:=by omega
   refine Zae<|Zah<|Zam<|Zao<|Zam<|ZcE<|D' (v_mv lk) pt<|D' (v_mv lk) pt<|D' (Zbb lk) pt<|?_
   refine D' (ZbD lk lki (by omega) (by omega)) pt ?_
   refine D' (v_ix lk lk (by omega) (by omega)) pt ?_
   refine D' (v_mv lk) pt ?_
   refine D' (v_ix lks lk (by omega) (by omega)) pt ?_
   refine D' (ZaT lk lk) pt<|Zb6<|?_
   refine Zcy ?_
   refine sn' ?_
   refine cd' lk (fun hc3=>?_) (fun hc3=>?_)
   ·have hkk:Zc4 (Zcx s) d (k+1)=((k+1:Nat):Int):=by unfold Zc4;exact if_pos (hL.symm.trans hc3)
    refine Zas<|mv' lk pt<|mv' lk pt<|Zar<|Zaz<|Zah<|Zas<|mv' lk pt<|?_
    refine V' (Zay lk lki (by omega) (by omega)) pt ?_
    refine mv' lk pt<|Zar<|ZaA<|?_
    refine lU' (k+1) (by (try dsimp only);omega) (by (try dsimp only);(try simp only [sm',Nat.reduceAdd]);exact ALe.same (by repeat (first | exact wk0 | refine wka ?_ | refine wk1 rfl ?_ | refine wk1 (by first | rfl | exact ivx (by omega) | exact ivx hkk.symm) ?_)) rfl)
   have hkk:Zc4 (Zcx s) d (k+1)=Zc4 (Zcx s) d k:=by rw [Zc4,if_neg (show ¬Zcx s=Zcz wsuA (k+1) from fun e=>hc3 (hL.trans e))]
   refine Zae<|Zaz<|Zah<|Zas<|mv' lk pt<|?_
   refine V' (Zay lk lki (by omega) (by omega)) pt ?_
   refine mv' lk pt<|Zar<|ZaA<|?_
   refine lU' (k+1) (by (try dsimp only);omega) (by (try dsimp only);(try simp only [sm',Nat.reduceAdd]);exact ALe.same (by repeat (first | exact wk0 | refine wka ?_ | refine wk1 rfl ?_ | refine wk1 (by first | rfl | exact ivx (by omega) | exact ivx hkk.symm) ?_)) rfl)
  have hk3:k=3:=by omega
  subst hk3
  refine ZaO<|ZaF<|ZaF<|Za7<|Zah<|wr'<|mv' lk pt<|mv' lk pt<|V' (Zbb lk) pt<|?_
  refine V' (ZbD lk lki (by omega) (by omega)) pt ?_
  refine V' (v_ix lk lk (by omega) (by omega)) pt ?_
  refine Zad mp (ZdS hbl.1 hbl.2) pt<|V' (Zaw lk) pt<|sn'<|?_
  refine Zau lk (fun hc4=>?_) (fun hc4=>?_)
  ·have hdg:¬digB (Zcx s)=true:=by rw [←hL];simpa using hc4
   refine Zam<|Zam<|ZcE<|D' (v_mv lk) pt<|D' (v_mv lk) pt<|D' (Zbb lk) pt<|?_
   refine D' (ZbD lk lki (by omega) (by omega)) pt ?_
   refine D' (v_ix lk lk (by omega) (by omega)) pt ?_
   refine D' (v_mv lk) pt ?_
   refine D' (v_ix lks lk (by omega) (by omega)) pt ?_
   refine D' (Za1 lk lk) pt<|Zb6<|?_
   refine Zcy ?_
   refine sn' ?_
   refine cd' lk (fun hc5=>?_) (fun hc5=>?_)
   ·have hne:¬Zcx s=Zcz wsuA (Zc4 (Zcx s) d 3).toNat:=fun e=>hc5 (hL.trans e)
    have hT:ZcU d t=(((Zbt (s.extract 0 (s.size-1)) (bad t1)).1,Zc4 (Zcx s) d 3),(Zbt (s.extract 0 (s.size-1)) (bad t1)).2):=by rw [hF];unfold ZdH;rw [if_neg h0,if_neg hdg];simp only [if_neg hne]
    refine Zas<|mv' lk pt<|V' (Zb8 lk) pt<|V' (Zac lk) pt<|E' (Zal lk (cvl lkb rfl) (ZaV hid) rfl (nb' rfl) rfl Zjg (ZaI hid)) ptn<|sn'<|Zas<|mv' lk pt<|mv' lk pt<|V' (Zbb lk) pt<|?_
    refine V' (ZbD lk lki (by omega) (by omega)) pt ?_
    refine V' (ZdF lk on_ (oi lk) (by omega) (by omega) (by omega)) pt ?_
    rw [show s.extract (Int.toNat 0) ((s.size:Int)-1).toNat=s.extract 0 (s.size-1) by congr 1;omega]
    refine mv' lk pt<|sn'<|wr'<|mv' lk pt<|mv' lk pt<|?_
    refine ZaL mp (Zhn (t:=bad t1) (by first | assumption | (rw [ByteArray.size_extract];omega)) (ZaV hid)) (ZaI hid) pt ?_
    refine mv' lk pt<|mv' lk pt<|mv' lk pt<|sn'<|Zaa<|Zaf ry<|?_
    exact ⟨_,_,rfl,Zan hn,ZbM hlt ZaJ,rfl,by rw [hT] <;> rfl,by rw [hT] <;> rfl⟩
   have hne:Zcx s=Zcz wsuA (Zc4 (Zcx s) d 3).toNat:=hL.symm.trans (Decidable.of_not_not hc5)
   have hT:ZcU d t=(((Zbt (s.extract 0 (s.size-1)) t1).1,Zc4 (Zcx s) d 3),(Zbt (s.extract 0 (s.size-1)) t1).2):=by rw [hF];unfold ZdH;rw [if_neg h0,if_neg hdg];simp only [if_pos hne]
   refine Zae<|Zah<|Zas<|mv' lk pt<|mv' lk pt<|V' (Zbb lk) pt<|?_
   refine V' (ZbD lk lki (by omega) (by omega)) pt ?_
   refine V' (ZdF lk on_ (oi lk) (by omega) (by omega) (by omega)) pt ?_
   rw [show s.extract (Int.toNat 0) ((s.size:Int)-1).toNat=s.extract 0 (s.size-1) by congr 1;omega]
   refine mv' lk pt<|sn'<|wr'<|mv' lk pt<|mv' lk pt<|?_
   refine ZaL mp (Zhn (t:=t1) (by first | assumption | (rw [ByteArray.size_extract];omega)) (ZaV hid)) (ZaI hid) pt ?_
   refine mv' lk pt<|mv' lk pt<|mv' lk pt<|sn'<|Zaa<|Zaf ry<|?_
   exact ⟨_,_,rfl,Zan hn,ZbM hlt ZaJ,rfl,by rw [hT] <;> rfl,by rw [hT] <;> rfl⟩
  have hdg:digB (Zcx s)=true:=by rw [←hL];simpa using hc4
  have hT:ZcU d t=(((Zbt s t1).1,Zc4 (Zcx s) d 3),(Zbt s t1).2):=by rw [hF];unfold ZdH;rw [if_neg h0,if_pos hdg]
  refine Zae<|Zah<|wr'<|mv' lk pt<|mv' lk pt<|?_
  refine ZaL mp (Zhn (t:=t1) (by first | assumption | (rw [ByteArray.size_extract];omega)) (ZaV hid)) (ZaI hid) pt ?_
  refine mv' lk pt<|mv' lk pt<|mv' lk pt<|sn'<|Zaa<|Zaf ry<|?_
  exact ⟨_,_,rfl,Zan hn,ZbM hlt ZaJ,rfl,by rw [hT] <;> rfl,by rw [hT] <;> rfl⟩
 have h0:s.size=0:=hem.1 (Decidable.of_not_not hc1)
 have hT:ZcU d t=(((Zbt s t1).1,d),(Zbt s t1).2):=by rw [hF];exact if_pos h0
 refine Zae<|Zah<|wr'<|mv' lk pt<|mv' lk pt<|?_
 refine ZaL mp (Zhn (t:=t1) (by first | assumption | (rw [ByteArray.size_extract];omega)) (ZaV hid)) (ZaI hid) pt ?_
 refine mv' lk pt<|mv' lk pt<|mv' lk pt<|sn'<|Zaa<|Zaf ry<|?_
 exact ⟨_,_,rfl,Zan hn,ZbM hlt ZaJ,rfl,by rw [hT] <;> rfl,by rw [hT] <;> rfl⟩
end Go.Proofs.YtlekejpogddndaaGreatDoor
end
section
namespace Go.Proofs.YtlekejpogddndaaGreatDoor
open Go.Ab Go.RowKit Civ
attribute [local simp] ZbK
section
theorem Ze4 {a0 c0:AV}{l:List AV}:setCells (a0::l) 0 [c0]=c0::l:=rfl
theorem ZbC {a0 a1 c0:AV}{l:List AV}:setCells (a0::a1::l) 1 [c0]=a0::c0::l:=rfl
theorem Zd1 {a0 a1 a2 c0:AV}{l:List AV}:setCells (a0::a1::a2::l) 2 [c0]=a0::a1::c0::l:=rfl
theorem Zjf {a0 a1 a2 a3 c0:AV}{l:List AV}:setCells (a0::a1::a2::a3::l) 3 [c0]=a0::a1::a2::c0::l:=rfl
theorem ZoL {a0 a1 a2 a3 a4 a5 a6 c0 c1 c2:AV}{l:List AV}:setCells (a0::a1::a2::a3::a4::a5::a6::l) 4 [c0,c1,c2]=a0::a1::a2::a3::c0::c1::c2::l:=rfl
theorem ZoJ {a0 a1 a2 a3 a4 a5 a6 a7 c0:AV}{l:List AV}:setCells (a0::a1::a2::a3::a4::a5::a6::a7::l) 7 [c0]=a0::a1::a2::a3::a4::a5::a6::c0::l:=rfl
theorem Zje {a0 a1 a2 a3 a4 a5 a6 a7 a8 c0:AV}{l:List AV}:setCells (a0::a1::a2::a3::a4::a5::a6::a7::a8::l) 8 [c0]=a0::a1::a2::a3::a4::a5::a6::a7::c0::l:=rfl
theorem Zjd {a0 a1 a2 a3 a4 a5 a6 a7 a8 a9 c0:AV}{l:List AV}:setCells (a0::a1::a2::a3::a4::a5::a6::a7::a8::a9::l) 9 [c0]=a0::a1::a2::a3::a4::a5::a6::a7::a8::c0::l:=rfl
theorem Zft {a0 a1 a2 a3 a4 a5 a6 a7 a8 a9 a10 c0:AV}{l:List AV}:setCells (a0::a1::a2::a3::a4::a5::a6::a7::a8::a9::a10::l) 10 [c0]=a0::a1::a2::a3::a4::a5::a6::a7::a8::a9::c0::l:=rfl
theorem Zcb {a0 a1 a2 a3 a4 a5 a6 a7 a8 a9 a10:AV}{l:List AV}:((a0::a1::a2::a3::a4::a5::a6::a7::a8::a9::a10::l).drop 0).take 11=[a0,a1,a2,a3,a4,a5,a6,a7,a8,a9,a10]:=rfl
theorem Zem {a0 a1 a2 a3 a4 a5 a6 a7 a8 a9 a10 c0 c1 c2 c3 c4 c5 c6 c7 c8 c9 c10:AV}{l:List AV}:setCells (a0::a1::a2::a3::a4::a5::a6::a7::a8::a9::a10::l) 0 [c0,c1,c2,c3,c4,c5,c6,c7,c8,c9,c10]=c0::c1::c2::c3::c4::c5::c6::c7::c8::c9::c10::l:=rfl
theorem ZoM {a0 a1 a2 a3 a4 c0:AV}{l:List AV}:setCells (a0::a1::a2::a3::a4::l) 4 [c0]=a0::a1::a2::a3::c0::l:=rfl
theorem ZcR {a0 a1 a2 a3 a4 a5 a6 a7 a8 a9:AV}{l:List AV}:((a0::a1::a2::a3::a4::a5::a6::a7::a8::a9::l).drop 0).take 10=[a0,a1,a2,a3,a4,a5,a6,a7,a8,a9]:=rfl
theorem Zfu {a0 a1 a2 a3 a4 a5 a6 a7 a8 a9 c0 c1 c2 c3 c4 c5 c6 c7 c8 c9:AV}{l:List AV}:setCells (a0::a1::a2::a3::a4::a5::a6::a7::a8::a9::l) 0 [c0,c1,c2,c3,c4,c5,c6,c7,c8,c9]=c0::c1::c2::c3::c4::c5::c6::c7::c8::c9::l:=rfl
theorem Zkf {τ:Operand→AV}{y0 y1 y2:Operand}{x0_0 x1_0 x2_0:AV}(h0:Zav (τ y0)=some [x0_0]) (l0:[x0_0].all leaf=true) (h1:Zav (τ y1)=some [x1_0]) (l1:[x1_0].all leaf=true) (h2:Zav (τ y2)=some [x2_0]) (l2:[x2_0].all leaf=true):Zat τ [(0,1,y0),(1,1,y1),(2,1,y2)] [(.v (.int .i64 0)),(.v (.int .i64 0)),(.v (.int .i64 0))]=some [x0_0,x1_0,x2_0]:=by
 simp only [Zat,h0,l0,h1,l1,h2,l2]
 rfl
theorem ZoK {a0 a1 a2 a3 a4 a5 a6 a7 c0 c1 c2:AV}{l:List AV}:setCells (a0::a1::a2::a3::a4::a5::a6::a7::l) 5 [c0,c1,c2]=a0::a1::a2::a3::a4::c0::c1::c2::l:=rfl
end
def c202:AC:=(Sr [Oo 2 (.new 36 11 [Ss,(iv 0),(iv 0),(iv 0),(iv 0),(iv 0),(iv 0),(iv 0),(iv 0),(iv 0),Ss])] (Sr [Oo 3 (.new 36 11 [Ss,(iv 0),(iv 0),(iv 0),(iv 0),(iv 0),(iv 0),(iv 0),(iv 0),(iv 0),Ss])] (Sr [Mv 5 0,Cl 6 203 [(.tmp 5)],Fa 7 0 3,Sc 7 6] (Sr [Mv 8 0,Mv 9 0,Cl 10 200 [(.tmp 9)],Cl 11 274 [(.tmp 8),(.tmp 10),(Ci 4),(Ci 4)],Fa 12 1 3,Sc 12 11] (Sr [Mv 13 0,Cl 14 200 [(.tmp 13)],Mv 4 14] (.seq (Sr [Mv 15 4] (.block 0 (Sr [Oo 21 (.bin .eql (.tmp 15) (.const (.string ⟨#[111,110,108,121]⟩))),Mv 20 21] (Cd 20 (.reg [Fa 22 1 3,Ld 23 22,Fa 24 2 3,Sc 24 23]) (Sr [Oo 26 (.bin .eql (.tmp 15) (.const (.string ⟨#[109,97,120]⟩))),Mv 25 26] (Cd 25 (.reg [Fa 27 2 3,⟨none,none,(.store 1 (.tmp 27) (Ci 2100))⟩]) (.reg [Mv 16 0,Mv 17 4,Cl 18 274 [(.tmp 16),(.tmp 17),(Ci 4),(Ci 4)],Fa 19 2 3,Sc 19 18]))))))) (Sr [Mv 28 0,Cl 29 275 [(.tmp 28)],Fa 30 3 3,Sc 30 29] (Sr [Mv 31 0,Cl 32 277 [(.tmp 31)],Fa 33 4 3,⟨none,none,(.store 3 (.tmp 33) (.tmp 32))⟩] (Sr [Mv 35 0,Cl 36 276 [(.tmp 35),(Ci 1)],Mv 34 36,Ex 37 34 0,Ex 38 34 1,Fa 39 7 3,Sc 39 37,Fa 40 8 3,Sc 40 38] (Sr [Mv 41 0,Mv 42 0,Cl 43 200 [(.tmp 42)],Cl 44 273 [(.tmp 41),(.tmp 43)],Fa 45 9 3,Sc 45 44] (Sr [Mv 46 0,Cl 47 200 [(.tmp 46)],Mv 4 47] (.seq (Sr [Mv 48 4,Oo 49 (.bin .eql (.tmp 48) (.const (.string ⟨#[]⟩))),Mv 50 49,Of 51 50 (mt 4),Of 52 50 (.bin .neq (.tmp 51) (.const (.string ⟨#[45]⟩))),Of 53 50 (mt 52),Ot 54 53 (mt 4),Ot 55 53 (.call (.func 224) [(.tmp 54)]),Ot 56 53 (.un .not (.tmp 55)),Of 57 50 (.pick (.tmp 53) (.tmp 56) (.const (.bool false))),Oo 58 (.pick (.tmp 50) (.const (.bool true)) (.tmp 57))] (Cd 58 (.reg [Mv 59 0,Nk 60 59,Fa 61 1 60,⟨none,none,(.store 1 (.tmp 61) (.const (.bool true)))⟩]) .skip)) (.seq (Sr [Mv 62 4,Oo 63 (.bin .neq (.tmp 62) (.const (.string ⟨#[45]⟩)))] (Cd 63 (.reg [Mv 64 4,Fa 65 10 3,Sc 65 64]) .skip)) (Sr [Oo 66 (.load true 11 (.tmp 3)),⟨none,none,(.store 11 (.tmp 2) (.tmp 66))⟩] .ret))))))))))))))
theorem k202:ZaD Tryz.prog 202=some ⟨c202,[(.cell 2 true 11)],67⟩:=by kernel_rfl
def c201:AC:=(Sr [Oo 2 (.new 63 10 [(iv 0),Ss,(iv 0),Ss,(.v (.bool false)),(iv 0),(iv 0),(iv 0),(iv 0),(iv 0)])] (Sr [Oo 3 (.new 63 10 [(iv 0),Ss,(iv 0),Ss,(.v (.bool false)),(iv 0),(iv 0),(iv 0),(iv 0),(iv 0)])] (Sr [Mv 8 0,Cl 9 200 [(.tmp 8)],Mv 4 9] (.seq (Sr [Mv 10 4,Oo 11 (.bin .neq (.tmp 10) (.const (.string ⟨#[]⟩))),Mv 12 11,Ot 13 12 (mt 4),Ot 14 12 (.ix (.tmp 13) (Ci 0)),Ot 15 12 (.bin .eql (.tmp 14) (.const (.int .u8 45))),Oo 16 (.pick (.tmp 12) (.tmp 15) (.const (.bool false)))] (Cd 16 (.reg [Mv 17 0,Mv 18 4,Oo 19 (.sls (.tmp 18) (some (Ci 1)) none),Cl 20 273 [(.tmp 17),(.tmp 19)],Oo 21 (.un .neg (.tmp 20)),Fa 22 0 3,Sc 22 21]) (.reg [Mv 23 0,Mv 24 4,Cl 25 273 [(.tmp 23),(.tmp 24)],Fa 26 0 3,Sc 26 25]))) (Sr [Mv 27 0,Cl 28 200 [(.tmp 27)],Mv 4 28] (.seq (.block 0 (Sr [Mv 38 4,Oo 39 (.bin .eql (.tmp 38) (.const (.string ⟨#[45]⟩))),Mv 37 39] (Cd 37 .skip (Sr [Mv 41 4,Oo 42 (.bin .neq (.tmp 41) (.const (.string ⟨#[]⟩))),Mv 43 42,Ot 44 43 (mt 4),Ot 45 43 (.ix (.tmp 44) (Ci 0)),Ot 46 43 (.call (.func 191) [(.tmp 45)]),Oo 47 (.pick (.tmp 43) (.tmp 46) (.const (.bool false))),Mv 40 47] (Cd 40 (.seq (Sr [Mv 48 4,Oo 49 (.bin .eql (.tmp 48) (.const (.string ⟨#[48]⟩)))] (Cd 49 (.reg [Mv 50 0,Nk 51 50,Fa 52 1 51,⟨none,none,(.store 1 (.tmp 52) (.const (.bool true)))⟩]) .skip)) (.reg [Mv 53 0,Mv 54 4,Cl 55 273 [(.tmp 53),(.tmp 54)],Fa 56 2 3,Sc 56 55])) (.seq (Sr [Mv 29 4,Cl 30 115 [(.tmp 29)],Oo 31 (.un .not (.tmp 30))] (Cd 31 (.reg [Mv 32 0,Nk 33 32,Fa 34 1 33,⟨none,none,(.store 1 (.tmp 34) (.const (.bool true)))⟩]) .skip)) (.reg [Mv 35 4,Fa 36 1 3,Sc 36 35]))))))) (Sr [Mv 57 0,Cl 58 200 [(.tmp 57)],Fa 59 3 3,Sc 59 58] (.seq (Sr [Fa 60 3 3,Ld 61 60,Cl 62 225 [(.tmp 61)],Oo 63 (.un .not (.tmp 62))] (Cd 63 (.reg [Mv 64 0,Nk 65 64,Fa 66 1 65,⟨none,none,(.store 1 (.tmp 66) (.const (.bool true)))⟩]) .skip)) (.seq (Sr [Mv 67 0,Nk 68 67,Fa 69 0 68,Ld 70 69,Oo 71 (.len false (.tmp 70)),Bc 72 .eql 71 0] (Cd 72 (Sr [Fa 73 4 3,⟨none,none,(.store 1 (.tmp 73) (.const (.bool true)))⟩] (Sr [Oo 74 (.load true 10 (.tmp 3)),⟨none,none,(.store 10 (.tmp 2) (.tmp 74))⟩] .ret)) .skip)) (Sr [Mv 75 0,Mv 76 0,Cl 77 200 [(.tmp 76)],Cl 78 274 [(.tmp 75),(.tmp 77),(Ci 4),(Ci 4)],Mv 5 78] (Sr [Mv 79 0,Cl 80 275 [(.tmp 79)],Mv 6 80] (Sr [Mv 81 0,Mv 82 0,Cl 83 200 [(.tmp 82)],Cl 84 274 [(.tmp 81),(.tmp 83),(Ci 1),(Ci 2)],Mv 7 84] (Sr [Mv 85 5,Mv 86 6,Mv 87 7,Oo 88 (.build [(iv 0),(iv 0),(iv 0)] [(0,(1,(.tmp 85))),(1,(1,(.tmp 86))),(2,(1,(.tmp 87)))]),Fa 89 5 3,Fa 90 0 89,⟨none,none,(.store 3 (.tmp 90) (.tmp 88))⟩] (Sr [Mv 92 0,Cl 93 276 [(.tmp 92),(Ci 2)],Mv 91 93,Ex 94 91 0,Ex 95 91 1,Fa 96 5 3,Fa 97 3 96,Sc 97 94,Fa 98 5 3,Fa 99 4 98,Sc 99 95] (.seq (Sr [Fa 100 5 3,Fa 101 4 100,Ld 102 101,Bc 103 .eql 102 1] (Cd 103 (.reg [Mv 104 0,Nk 105 104,Fa 106 1 105,⟨none,none,(.store 1 (.tmp 106) (.const (.bool true)))⟩]) .skip)) (Sr [Oo 107 (.load true 10 (.tmp 3)),⟨none,none,(.store 10 (.tmp 2) (.tmp 107))⟩] .ret))))))))))))))))
theorem k201:ZaD Tryz.prog 201=some ⟨c201,[(.cell 2 true 10)],108⟩:=by kernel_rfl
def okTS (t:TS):Prop := ∀ x∈t.1,x.size≤24
theorem Zfl {t u:TS}(h:u.1=t.1) (ho:okTS t):okTS u:=by unfold okTS;rw [h];exact ho
theorem Za5 {t u:TS}{s:ByteArray}(ho:okTS t) (e:ZaN t=(s,u)):s.size≤24∧okTS u:=by
 unfold ZaN at e
 split at e
 ·cases e;exact ⟨by decide,ho⟩
 rename_i hn
 obtain ⟨l,b⟩:=t
 cases l with
 | nil=>exact absurd (.inr rfl) hn
 | cons x l=>cases e;exact ⟨ho x (by simp),fun y hy=>ho y (by simp only [List.mem_cons];exact .inr hy)⟩
theorem tNum_fst {s:ByteArray}{a b:Int}{t:TS}:(tNum s a b t).2.1=t.1:=by unfold tNum;split <;> rfl
theorem Zkt {s:ByteArray}{t:TS}:(ZdN s t).2.1=t.1:=by unfold ZdN;split <;> rfl
theorem tSix_fst {s:ByteArray}{t:TS}:(tSix s t).2.1=t.1:=by unfold tSix;dsimp only;split <;> exact tNum_fst
theorem tSpan_fst {s:ByteArray}{t:TS}:(Zbt s t).2.1=t.1:=by
 unfold Zbt
 split
 ·rfl
 unfold Zev
 split
 ·exact tSix_fst.trans tNum_fst
 ·exact tSix_fst.trans (tSix_fst.trans tNum_fst)
 rfl
theorem ZnS {s:ByteArray}{t:TS}:(ZbJ s t).2.1=t.1:=by
 unfold ZbJ
 split
 ·exact Zkt
 split
 ·exact tNum_fst
 exact tNum_fst.trans Zkt
theorem ZlH {d:Int}{s:ByteArray}{t:TS}:(ZdH d s t).2.1=t.1:=by
 unfold ZdH
 split
 ·exact tSpan_fst
 split
 ·exact tSpan_fst
 refine tSpan_fst.trans ?_
 split <;> rfl
theorem tTo_fst {f:Int}{s:ByteArray}{t:TS}:(tTo f s t).2.1=t.1:=by
 unfold tTo
 split
 ·rfl
 split
 ·rfl
 exact tNum_fst
theorem ZfL {t u:TS}{s:ByteArray}(ho:okTS t) (e:Zew t=(s,u)):okTS u:=by
 obtain ⟨x,v,ev⟩ : ∃ x v,ZaN t=(x,v):=⟨_,_,rfl⟩
 unfold Zew at e
 rw [ev] at e
 have:=(Za5 ho ev).2
 simp only [Prod.mk.injEq] at e
 obtain ⟨_,e2⟩:=e
 subst e2
 split
 ·exact this
 exact this
theorem Zgn {t u:TS}{n:Int}(ho:okTS t) (e:Zdh t=(n,u)):okTS u:=by
 obtain ⟨x,v,ev⟩ : ∃ x v,ZaN t=(x,v):=⟨_,_,rfl⟩
 unfold Zdh at e
 rw [ev] at e
 have:=(Za5 ho ev).2
 split at e <;> cases e <;> exact this
theorem Zhd {s:ByteArray}{a b n:Int}{t u:TS}(ho:okTS t) (e:tNum s a b t=(n,u)):okTS u:=Zfl (by have := @tNum_fst s a b t;rw [e] at this;exact this) ho
theorem ZhG {s:ByteArray}{n:Int}{t u:TS}(ho:okTS t) (e:Zbt s t=(n,u)):okTS u:=Zfl (by have := @tSpan_fst s t;rw [e] at this;exact this) ho
theorem Zp3 {f:Int}{s:ByteArray}{n:Int}{t u:TS}(ho:okTS t) (e:tTo f s t=(n,u)):okTS u:=Zfl (by have := @tTo_fst f s t;rw [e] at this;exact this) ho
theorem ZkM {n:Frm}{t u:TS}(ho:okTS t) (e:Zgh t=(n,u)):okTS u:=by
 obtain ⟨x,v,ev⟩ : ∃ x v,ZaN t=(x,v):=⟨_,_,rfl⟩
 unfold Zgh at e
 rw [ev] at e
 exact Zfl (by have := @ZnS x v;rw [e] at this;exact this) (Za5 ho ev).2
theorem Zgo {d:Int}{n:Int×Int}{t u:TS}(ho:okTS t) (e:ZcU d t=(n,u)):okTS u:=by
 obtain ⟨x,v,ev⟩ : ∃ x v,ZaN t=(x,v):=⟨_,_,rfl⟩
 unfold ZcU at e
 rw [ev] at e
 exact Zfl (by have := @ZlH d x v;rw [e] at this;exact this) (Za5 ho ev).2
theorem Zjr {t t1:TS}{s:ByteArray}{id:Nat}{h:AH}(ho:okTS t) (he:Zew t=(s,t1)) (h1:h[id]?=some (takE t)):ACalls Tryz.prog 203 [.ptr id 0 0] h fun x h'=>x=.ret (sv s)∧h'=h.set id (takE t1):=by
 have:=tname_a (by have:=(Za5 ho (s:=(ZaN t).1) (u:=(ZaN t).2) rfl).1;unfold maxLen;omega) h1
 rw [he] at this
 exact this
theorem ZmR {s:ByteArray}{a b n:Int}{t t1:TS}{id:Nat}{h:AH}(hb:b≤4) (he:tNum s a b t=(n,t1)) (h1:h[id]?=some (takE t)):ACalls Tryz.prog 274 [.ptr id 0 0,sv s,iv a,iv b] h fun x h'=>x=.ret (iv n)∧h'=h.set id (takE t1):=by
 have:=Zdu (s:=s) (a:=a) hb h1
 rw [he] at this
 exact this
theorem ZmS {n:Int}{t t1:TS}{id:Nat}{h:AH}(he:Zdh t=(n,t1)) (h1:h[id]?=some (takE t)):ACalls Tryz.prog 275 [.ptr id 0 0] h fun x h'=>x=.ret (iv n)∧h'=h.set id (takE t1):=by
 have:=tmonth_a h1
 rw [he] at this
 exact this
theorem tform_e {n:Frm}{t t1:TS}{id:Nat}{h:AH}(ho:okTS t) (he:Zgh t=(n,t1)) (h1:h[id]?=some (takE t)):ACalls Tryz.prog 277 [.ptr id 0 0] h fun x h'=>x=.ret (.agg [iv n.1,iv n.2.1,iv n.2.2])∧h'=h.set id (takE t1):=by
 have:=tform_a (Za5 ho (s:=(ZaN t).1) (u:=(ZaN t).2) rfl).1 h1
 rw [he] at this
 exact this
theorem ZmY {d:Int}{n:Int×Int}{t t1:TS}{id:Nat}{h:AH}(hd:d=1∨d=2) (ho:okTS t) (he:ZcU d t=(n,t1)) (h1:h[id]?=some (takE t)):ACalls Tryz.prog 276 [.ptr id 0 0,iv d] h fun x h'=>x=.ret (.tup [iv n.1,iv n.2])∧h'=h.set id (takE t1):=by
 have:=tclock_a hd (Za5 ho (s:=(ZaN t).1) (u:=(ZaN t).2) rfl).1 h1
 rw [he] at this
 exact this
theorem Zge {s:ByteArray}{n:Int}{t t1:TS}{id:Nat}{h:AH}(hz:s.size≤24) (he:Zbt s t=(n,t1)) (h1:h[id]?=some (takE t)):ACalls Tryz.prog 273 [.ptr id 0 0,sv s] h fun x h'=>x=.ret (iv n)∧h'=h.set id (takE t1):=by
 have:=Zhn hz h1
 rw [he] at this
 exact this
theorem trule_a {t:TS}{id:Nat}{h:AH}(ho:okTS t) (h1:h[id]?=some (takE t)):ACalls Tryz.prog 202 [.ptr id 0 0] h fun x h'=>x=.ret (.agg (rulC (Zju t).1))∧h'=h.set id (takE (Zju t).2):=by
 have hid:id<h.length:=(List.getElem?_eq_some_iff.1 h1).1
 obtain ⟨nm,t1,e1⟩ : ∃ a b,Zew t=(a,b):=⟨_,_,rfl⟩
 have o1:=ZfL ho e1
 obtain ⟨s2,t2,e2⟩ : ∃ a b,ZaN t1=(a,b):=⟨_,_,rfl⟩
 obtain ⟨z2,o2⟩:=Za5 o1 e2
 obtain ⟨f,t3,e3⟩ : ∃ a b,tNum s2 4 4 t2=(a,b):=⟨_,_,rfl⟩
 have o3:=Zhd o2 e3
 obtain ⟨s4,t4,e4⟩ : ∃ a b,ZaN t3=(a,b):=⟨_,_,rfl⟩
 obtain ⟨z4,o4⟩:=Za5 o3 e4
 obtain ⟨yr,t5,e5⟩ : ∃ a b,tTo f s4 t4=(a,b):=⟨_,_,rfl⟩
 have o5:=Zp3 o4 e5
 obtain ⟨m,t6,e6⟩ : ∃ a b,Zdh t5=(a,b):=⟨_,_,rfl⟩
 have o6:=Zgn o5 e6
 obtain ⟨k,t7,e7⟩ : ∃ a b,Zgh t6=(a,b):=⟨_,_,rfl⟩
 have o7:=ZkM o6 e7
 obtain ⟨c,t8,e8⟩ : ∃ a b,ZcU 1 t7=(a,b):=⟨_,_,rfl⟩
 have o8:=Zgo o7 e8
 obtain ⟨s9,t9,e9⟩ : ∃ a b,ZaN t8=(a,b):=⟨_,_,rfl⟩
 obtain ⟨z9,o9⟩:=Za5 o8 e9
 obtain ⟨svd,t10,e10⟩ : ∃ a b,Zbt s9 t9=(a,b):=⟨_,_,rfl⟩
 have o10:=ZhG o9 e10
 obtain ⟨s11,t11,e11⟩ : ∃ a b,ZaN t10=(a,b):=⟨_,_,rfl⟩
 obtain ⟨z11,o11⟩:=Za5 o10 e11
 have hR:Zju t=((nm,f,yr,m,k,c.1,c.2,svd,(Zc0 t10).1),(Zc0 t10).2):=by
  simp only [Zju,ZbU,ret2,Zpt,tToN,Zpv,e1,e2,e3,e4,e5,e6,e7,e8,e9,e10]
 have hL:Zc0 t10=(if s11=bA [45] then ⟨#[]⟩ else s11,if ZeB s11=true then t11 else bad t11):=by unfold Zc0;rw [e11]
 refine tJ' k202 fun N hn hlt hlA hbd=>?_
 simp only [tb'] at hbd ⊢
 refine Zdp (h1:=h.set id (takE t)++[]) (by rw [ZcK h1]) ?_
 refine wr'<|E' (Za6 (hl0 (Zan hn)) ha0) pt<|sn'<|wr'<|E' (Za6 (hl1 (Zan hn)) ha1) pt<|sn'<|wr'<|mv' lk pt<|ZaL mp (Zjr ho e1 (ZaV hid)) (ZaI hid) pt<|?_
 refine V' (Zac lk) pt<|E' (Zal lk (cvl lk rfl) (hga (Zan hn) rfl) rfl (nb' rfl) rfl Ze4 (hs1 (Zan hn))) ptn<|sn'<|wr'<|mv' lk pt<|mv' lk pt<|ZaL mp (ZcZ e2 (ZaV hid)) (ZaI hid) pt<|?_
 refine ZaL mp (ZmR (by omega) e3 (ZaV hid)) (ZaI hid) pt ?_
 refine V' (Zac lk) pt<|E' (Zal lk (cvl lk rfl) (hga (Zan hn) rfl) rfl (nb' rfl) rfl ZbC (hs1 (Zan hn))) ptn<|sn'<|wr'<|mv' lk pt<|ZaL mp (ZcZ e4 (ZaV hid)) (ZaI hid) pt<|mv' lk pt<|sn'<|?_
 refine ZmJ (ι:=Unit) (fun (u:Unit)=>[]++rn' 15 13) (fun (u:Unit)=>h.set id (takE t5)++[.mk 0 36 11 [sv ⟨#[]⟩,iv 0,iv 0,iv 0,iv 0,iv 0,iv 0,iv 0,iv 0,iv 0,sv ⟨#[]⟩],.mk 0 36 11 [sv nm,iv f,iv yr,iv 0,iv 0,iv 0,iv 0,iv 0,iv 0,iv 0,sv ⟨#[]⟩]]) (fun (u:Unit)=>True) ?_ ?_
 ·try simp only [sm',Nat.reduceAdd]
  refine wr'<|mv' lk pt<|sn'<|Zao<|wr'<|V' (Zcj lk lks) pt<|mv' lk pt<|sn'<|?_
  refine cd' lk (fun hc1=>?_) (fun hc1=>?_)
  ·have hq:yr=f∧t5=t4:=by rw [tTo,if_pos (show s4=Zp2 from hc1)] at e5;cases e5;exact ⟨rfl,rfl⟩
   obtain ⟨rfl,rfl⟩:=hq
   refine Zas<|V' (Zac lk) pt<|V' (Zab lk (hga (Zan hn) rfl) gt1) pt<|V' (Zac lk) pt<|E' (Zal lk (cvl lk rfl) (hga (Zan hn) rfl) rfl (nb' rfl) rfl Zd1 (hs1 (Zan hn))) ptn<|Zar<|Zaz<|ZaA<|?_
   exact cT' (()) (by trivial)
  refine wr'<|V' (Zcj lk lks) pt<|mv' lk pt<|sn'<|?_
  refine cd' lk (fun hc2=>?_) (fun hc2=>?_)
  ·have hq:yr=2100∧t5=t4:=by rw [tTo,if_neg (show ¬s4=Zp2 from hc1),if_pos (show s4=maxA from hc2)] at e5;cases e5;exact ⟨rfl,rfl⟩
   obtain ⟨rfl,rfl⟩:=hq
   refine Zas<|V' (Zac lk) pt<|E' (Zal lk (cvl lki rfl) (hga (Zan hn) rfl) rfl (nb' rfl) rfl Zd1 (hs1 (Zan hn))) ptn<|Zar<|Zaz<|ZaA<|?_
   exact cT' (()) (by trivial)
  have hq:tNum s4 4 4 t4=(yr,t5):=by rw [tTo,if_neg (show ¬s4=Zp2 from hc1),if_neg (show ¬s4=maxA from hc2)] at e5;exact e5
  refine Zas<|mv' lk pt<|mv' lk pt<|?_
  refine ZaL mp (ZmR (by omega) hq (ZaV hid)) (ZaI hid) pt ?_
  refine V' (Zac lk) pt<|E' (Zal lk (cvl lk rfl) (hga (Zan hn) rfl) rfl (nb' rfl) rfl Zd1 (hs1 (Zan hn))) ptn<|Zar<|Zaz<|ZaA<|?_
  exact cT' (()) (by trivial)
 rintro u hq9
 try simp only [sm',Nat.reduceAdd]
 refine wr'<|mv' lk pt<|ZaL mp (ZmS e6 (ZaV hid)) (ZaI hid) pt<|V' (Zac lk) pt<|E' (Zal lk (cvl lk rfl) (hga (Zan hn) rfl) rfl (nb' rfl) rfl Zjf (hs1 (Zan hn))) ptn<|sn'<|wr'<|mv' lk pt<|ZaL mp (tform_e o6 e7 (ZaV hid)) (ZaI hid) pt<|V' (Zac lk) pt<|E' (Zal lk (cvl lk rfl) (hga (Zan hn) rfl) rfl (nb' rfl) rfl ZoL (hs1 (Zan hn))) ptn<|?_
 refine sn'<|wr'<|mv' lk pt<|ZaL mp (ZmY (.inl rfl) o7 e8 (ZaV hid)) (ZaI hid) pt<|mv' lk pt<|V' (Za3 lk gt) pt<|V' (Za3 lk gt) pt<|V' (Zac lk) pt<|E' (Zal lk (cvl lk rfl) (hga (Zan hn) rfl) rfl (nb' rfl) rfl ZoJ (hs1 (Zan hn))) ptn<|V' (Zac lk) pt<|E' (Zal lk (cvl lk rfl) (hga (Zan hn) rfl) rfl (nb' rfl) rfl Zje (hs1 (Zan hn))) ptn<|Zar<|?_
 refine Zah<|wr'<|mv' lk pt<|mv' lk pt<|ZaL mp (ZcZ e9 (ZaV hid)) (ZaI hid) pt<|ZaL mp (Zge z9 e10 (ZaV hid)) (ZaI hid) pt<|V' (Zac lk) pt<|E' (Zal lk (cvl lk rfl) (hga (Zan hn) rfl) rfl (nb' rfl) rfl Zjd (hs1 (Zan hn))) ptn<|sn'<|wr'<|mv' lk pt<|?_
 refine ZaL mp (ZcZ e11 (ZaV hid)) (ZaI hid) pt<|mv' lk pt<|sn'<|Zam<|wr'<|mv' lk pt<|V' (Zcj lk lks) pt<|mv' lk pt<|?_
 refine sp' (t:=50) gt pt pt (fun hg50=>?_) (fun hg50=>?_)
 ·have hLt:Zc0 t10=(s11,bad t11):=by rw [hL,hg50];rfl
  refine s_no gt pt<|s_no gt pt<|s_no gt pt<|s_nu gt pt<|s_nu gt pt<|s_nu gt pt<|s_no gt pt<|V' (Zak lk lkb) pt<|sn'<|ZaH lk<|Zas<|mv' lk pt<|V' (Zb8 lk) pt<|?_
  refine V' (Zac lk) pt<|E' (Zal lk (cvl lkb rfl) (ZaV hid) rfl (nb' rfl) rfl ZbC (ZaI hid)) ptn<|sn'<|Zam<|wr'<|mv' lk pt<|V' (Zcs lk lks) pt<|sn'<|?_
  refine ZdE lk (by exact decide_eq_true (by rw [hg50];decide)) ?_
  refine Zas<|mv' lk pt<|V' (Zac lk) pt<|E' (Zal lk (cvl lk rfl) (hga (Zan hn) rfl) rfl (nb' rfl) rfl Zft (hs1 (Zan hn))) ptn<|sn'<|wr'<|V' (Zaq lk (hga (Zan hn) rfl) Zcb rfl) pt<|E' (Zal lk (cvl lk rfl) (hga (Zan hn) rfl) rfl (nb' rfl) rfl Zem (hs0 (Zan hn))) ptn<|sn'<|Zaa<|Zaf (rs1 (rr_c gt (hga (Zan hn) rfl) (ld1 Zcb rfl)))<|?_
  rw [hLt] at hR
  exact ⟨_,_,rfl,Zan hn,ZbM hlt ZaJ,rfl,by rw [hR] <;> rfl,by rw [hR] <;> rfl⟩
 refine s_do gt<|mv' lk pt<|s_do gt<|V' (Zcs lk lks) pt<|s_do gt<|mv' lk pt<|?_
 refine sp' (t:=53) gt pt pt (fun hg53=>?_) (fun hg53=>?_)
 ·refine s_do gt<|mv' lk pt<|s_do gt<|?_
  refine Zad mp (ZgT (by unfold maxLen;omega)) pt ?_
  refine s_do gt<|V' (Zaw lk) pt<|s_do gt<|V' (Zak lk lk) pt<|V' (Zag lk lk) pt<|sn'<|?_
  refine Zau lk (fun hc3=>?_) (fun hc3=>?_)
  ·have hl:Zcf s11=false:=by simpa using hc3
   have hLt:Zc0 t10=(s11,bad t11):=by rw [hL,if_neg (show ¬s11=bA [45] from hg53),if_neg (by unfold ZeB;rw [hl,decide_eq_false (show ¬s11=bA [45] from hg53)];simp)]
   refine Zas<|mv' lk pt<|V' (Zb8 lk) pt<|V' (Zac lk) pt<|E' (Zal lk (cvl lkb rfl) (ZaV hid) rfl (nb' rfl) rfl ZbC (ZaI hid)) ptn<|sn'<|Zam<|wr'<|mv' lk pt<|V' (Zcs lk lks) pt<|sn'<|?_
   refine ZdE lk (by exact decide_eq_true hg53) ?_
   refine Zas<|mv' lk pt<|V' (Zac lk) pt<|E' (Zal lk (cvl lk rfl) (hga (Zan hn) rfl) rfl (nb' rfl) rfl Zft (hs1 (Zan hn))) ptn<|sn'<|wr'<|V' (Zaq lk (hga (Zan hn) rfl) Zcb rfl) pt<|E' (Zal lk (cvl lk rfl) (hga (Zan hn) rfl) rfl (nb' rfl) rfl Zem (hs0 (Zan hn))) ptn<|sn'<|Zaa<|Zaf (rs1 (rr_c gt (hga (Zan hn) rfl) (ld1 Zcb rfl)))<|?_
   rw [hLt] at hR
   exact ⟨_,_,rfl,Zan hn,ZbM hlt ZaJ,rfl,by rw [hR] <;> rfl,by rw [hR] <;> rfl⟩
  have hl:Zcf s11=true:=by simpa using hc3
  have hLt:Zc0 t10=(s11,t11):=by rw [hL,if_neg (show ¬s11=bA [45] from hg53),if_pos (by unfold ZeB;rw [hl,decide_eq_true hg50];simp)]
  refine Zae<|Zah<|Zam<|wr'<|mv' lk pt<|V' (Zcs lk lks) pt<|sn'<|?_
  refine ZdE lk (by exact decide_eq_true hg53) ?_
  refine Zas<|mv' lk pt<|V' (Zac lk) pt<|E' (Zal lk (cvl lk rfl) (hga (Zan hn) rfl) rfl (nb' rfl) rfl Zft (hs1 (Zan hn))) ptn<|sn'<|wr'<|V' (Zaq lk (hga (Zan hn) rfl) Zcb rfl) pt<|E' (Zal lk (cvl lk rfl) (hga (Zan hn) rfl) rfl (nb' rfl) rfl Zem (hs0 (Zan hn))) ptn<|sn'<|Zaa<|Zaf (rs1 (rr_c gt (hga (Zan hn) rfl) (ld1 Zcb rfl)))<|?_
  rw [hLt] at hR
  exact ⟨_,_,rfl,Zan hn,ZbM hlt ZaJ,rfl,by rw [hR] <;> rfl,by rw [hR] <;> rfl⟩
 have h45:s11=bA [45]:=Decidable.of_not_not hg53
 have hLt:Zc0 t10=(⟨#[]⟩,t11):=by rw [hL,h45];rfl
 refine s_no gt pt<|s_no gt pt<|s_no gt pt<|s_do gt<|V' (Zag lk lkb) pt<|V' (Zag lk lk) pt<|sn'<|ZaM lk<|Zae<|Zah<|Zam<|wr'<|?_
 refine mv' lk pt<|V' (Zcs lk lks) pt<|sn'<|?_
 refine Zd4 lk (by exact decide_eq_false (by rw [h45];decide)) ?_
 refine Zae<|Zah<|wr'<|V' (Zaq lk (hga (Zan hn) rfl) Zcb rfl) pt<|E' (Zal lk (cvl lk rfl) (hga (Zan hn) rfl) rfl (nb' rfl) rfl Zem (hs0 (Zan hn))) ptn<|sn'<|Zaa<|Zaf (rs1 (rr_c gt (hga (Zan hn) rfl) (ld1 Zcb rfl)))<|?_
 rw [hLt] at hR
 exact ⟨_,_,rfl,Zan hn,ZbM hlt ZaJ,rfl,by rw [hR] <;> rfl,by rw [hR] <;> rfl⟩
theorem tSpan_bd {s:ByteArray}{t:TS}:0≤(Zbt s t).1∧(Zbt s t).1<1000000000:=by
 unfold Zbt
 split
 ·exact ⟨Int.le_refl 0,show (0:Int)<1000000000 by decide⟩
 unfold Zev
 split
 ·rename_i a b _
  have h1:=Zhs (s:=bA a) (a:=1) (b:=2) (t:=t) (by omega)
  have h2:=Zgg (s:=bA b) (t:=(tNum (bA a) 1 2 t).2)
  constructor <;> dsimp only <;> omega
 ·rename_i a b c _
  have h1:=Zhs (s:=bA a) (a:=1) (b:=2) (t:=t) (by omega)
  have h2:=Zgg (s:=bA b) (t:=(tNum (bA a) 1 2 t).2)
  have h3:=Zgg (s:=bA c) (t:=(tSix (bA b) (tNum (bA a) 1 2 t).2).2)
  constructor <;> dsimp only <;> omega
 exact ⟨Int.le_refl 0,show (0:Int)<1000000000 by decide⟩
abbrev eraZ:List AV:=[iv 0,sv ⟨#[]⟩,iv 0,sv ⟨#[]⟩,bv false,iv 0,iv 0,iv 0,iv 0,iv 0]
theorem ZiH {t u:TS}{n:Int}(ho:okTS t) (e:ZfA t=(n,u)):okTS u:=by
 obtain ⟨x,v,ev⟩ : ∃ x v,ZaN t=(x,v):=⟨_,_,rfl⟩
 unfold ZfA at e
 rw [ev] at e
 have:=(Za5 ho ev).2
 split at e
 ·cases e;exact Zfl tSpan_fst this
 exact ZhG this e
theorem ZiI {s:ByteArray}{t u:TS}{p:Int×ByteArray}(ho:okTS t) (e:ZdG s t=(p,u)):okTS u:=by
 unfold ZdG at e
 split at e
 ·cases e;exact ho
 split at e
 ·cases e
  refine Zfl tSpan_fst ?_
  split <;> exact ho
 cases e
 split <;> exact ho
theorem tera_a {t:TS}{id:Nat}{h:AH}(ho:okTS t) (h1:h[id]?=some (takE t)):ACalls Tryz.prog 201 [.ptr id 0 0] h fun x h'=>x=.ret (.agg (eraC (tEra t).1))∧h'=h.set id (takE (tEra t).2):=by
 have hid:id<h.length:=(List.getElem?_eq_some_iff.1 h1).1
 obtain ⟨s1,t1,e1⟩ : ∃ a b,ZaN t=(a,b):=⟨_,_,rfl⟩
 obtain ⟨z1,o1⟩:=Za5 ho e1
 have hem1:=Zeg (f:=s1)
 obtain ⟨sh,t2,e2⟩ : ∃ a b,ZfA t=(a,b):=⟨_,_,rfl⟩
 have o2:=ZiH ho e2
 obtain ⟨s3,t3,e3⟩ : ∃ a b,ZaN t2=(a,b):=⟨_,_,rfl⟩
 obtain ⟨z3,o3⟩:=Za5 o2 e3
 have hem3:=Zeg (f:=s3)
 obtain ⟨⟨sa,rl⟩,t4,e4⟩ : ∃ a b,ZdG s3 t3=(a,b):=⟨_,_,rfl⟩
 have o4:=ZiI o3 e4
 obtain ⟨fm,t5,e5⟩ : ∃ a b,ZaN t4=(a,b):=⟨_,_,rfl⟩
 obtain ⟨z5,o5⟩:=Za5 o4 e5
 obtain ⟨t6,e6⟩ : ∃ u,(if ZbS fm=true then t5 else bad t5)=u:=⟨_,rfl⟩
 have o6:okTS t6:=by rw [←e6];split <;> exact o5
 obtain ⟨s7,t7,e7⟩ : ∃ a b,ZaN t6=(a,b):=⟨_,_,rfl⟩
 obtain ⟨z7,o7⟩:=Za5 o6 e7
 obtain ⟨y,t8,e8⟩ : ∃ a b,tNum s7 4 4 t7=(a,b):=⟨_,_,rfl⟩
 have o8:=Zhd o7 e8
 obtain ⟨m,t9,e9⟩ : ∃ a b,Zdh t8=(a,b):=⟨_,_,rfl⟩
 have o9:=Zgn o8 e9
 obtain ⟨s10,t10,e10⟩ : ∃ a b,ZaN t9=(a,b):=⟨_,_,rfl⟩
 obtain ⟨z10,o10⟩:=Za5 o9 e10
 obtain ⟨d,t11,e11⟩ : ∃ a b,tNum s10 1 2 t10=(a,b):=⟨_,_,rfl⟩
 have o11:=Zhd o10 e11
 obtain ⟨c,t12,e12⟩ : ∃ a b,ZcU 2 t11=(a,b):=⟨_,_,rfl⟩
 have o12:=Zgo o11 e12
 have hU:ZgQ t6=(((y,m,d),c.1,c.2),if c.2=1 then bad t12 else t12):=by
  simp only [ZgQ,ZbU,ret2,Zpt,tDay,Zpu,e7,e8,e9,e10,e11,e12]
 have hR:tEra t=((sh,rl,sa,fm,(tEnd t6).1.1,(tEnd t6).1.2),(tEnd t6).2):=by
  simp only [tEra,ZbU,ret2,Zpw,Zht,e2,e3,e4,e5,e6]
 refine tJ' k201 fun N hn hlt hlA hbd=>?_
 simp only [tb'] at hbd ⊢
 refine Zdp (h1:=h.set id (takE t)++[]) (by rw [ZcK h1]) ?_
 refine wr'<|E' (Za6 (hl0 (Zan hn)) ha0) pt<|sn'<|wr'<|E' (Za6 (hl1 (Zan hn)) ha1) pt<|sn'<|wr'<|mv' lk pt<|ZaL mp (ZcZ e1 (ZaV hid)) (ZaI hid) pt<|?_
 refine mv' lk pt<|sn'<|?_
 refine ZmJ (ι:=Unit) (fun (u:Unit)=>[]++rn' 10 17) (fun (u:Unit)=>h.set id (takE t2)++[.mk 0 63 10 eraZ,.mk 0 63 10 [iv sh,sv ⟨#[]⟩,iv 0,sv ⟨#[]⟩,bv false,iv 0,iv 0,iv 0,iv 0,iv 0]]) (fun (u:Unit)=>True) ?_ ?_
 ·try simp only [sm',Nat.reduceAdd]
  refine wr'<|mv' lk pt<|V' (Zcs lk lks) pt<|mv' lk pt<|?_
  refine sp' (t:=12) gt pt pt (fun hg12=>?_) (fun hg12=>?_)
  ·have hn1:s1.size≠0:=fun e=>hg12 (hem1.2 e)
   refine s_do gt<|mv' lk pt<|s_do gt<|?_
   refine V' (v_ix lk lki (by omega) (by omega)) pt ?_
   refine s_do gt<|V' (ZaT lk lki) pt<|V' (Zak lk lk) pt<|sn'<|?_
   refine cd' lk (fun hc1=>?_) (fun hc1=>?_)
   ·have hc:s1.size≠0∧Zg2 s1=45:=⟨fun e=>hg12 (hem1.2 e),hc1⟩
    obtain ⟨n,u2,f2⟩ : ∃ a b,Zbt (s1.extract 1 s1.size) t1=(a,b):=⟨_,_,rfl⟩
    have hb2:=tSpan_bd (s:=s1.extract 1 s1.size) (t:=t1)
    rw [f2] at hb2
    replace hb2:0≤n∧n<1000000000:=hb2
    have hq:sh = -n∧t2=u2:=by unfold ZfA at e2;rw [e1,if_pos hc,f2] at e2;cases e2;exact ⟨rfl,rfl⟩
    obtain ⟨rfl,rfl⟩:=hq
    refine Zas<|mv' lk pt<|mv' lk pt<|?_
    refine V' (ZdF lk (oi lki) on_ (by omega) (by omega) (by omega)) pt ?_
    refine ZaL mp (Zge (by rw [ByteArray.size_extract];omega) f2 (ZaV hid)) (ZaI hid) pt ?_
    refine V' (v_neg lk (by omega) (by omega)) pt ?_
    refine V' (Zac lk) pt<|E' (Zal lk (cvl lk rfl) (hga (Zan hn) rfl) rfl (nb' rfl) rfl Ze4 (hs1 (Zan hn))) ptn<|Zar<|ZaA<|?_
    exact cT' (()) (by trivial)
   have hc:¬(s1.size≠0∧Zg2 s1=45):=fun e=>hc1 e.2
   have f2:Zbt s1 t1=(sh,t2):=by unfold ZfA at e2;rw [e1,if_neg hc] at e2;exact e2
   refine Zas<|mv' lk pt<|mv' lk pt<|ZaL mp (Zge z1 f2 (ZaV hid)) (ZaI hid) pt<|V' (Zac lk) pt<|E' (Zal lk (cvl lk rfl) (hga (Zan hn) rfl) rfl (nb' rfl) rfl Ze4 (hs1 (Zan hn))) ptn<|Zar<|ZaA<|?_
   exact cT' (()) (by trivial)
  have hc:¬(s1.size≠0∧Zg2 s1=45):=fun e=>e.1 (hem1.1 (Decidable.of_not_not hg12))
  have f2:Zbt s1 t1=(sh,t2):=by unfold ZfA at e2;rw [e1,if_neg hc] at e2;exact e2
  refine s_no gt pt<|s_no gt pt<|s_no gt pt<|V' (Zag lk lkb) pt<|sn'<|ZaM lk<|Zas<|mv' lk pt<|mv' lk pt<|ZaL mp (Zge z1 f2 (ZaV hid)) (ZaI hid) pt<|V' (Zac lk) pt<|E' (Zal lk (cvl lk rfl) (hga (Zan hn) rfl) rfl (nb' rfl) rfl Ze4 (hs1 (Zan hn))) ptn<|Zar<|?_
  refine ZaA ?_
  exact cT' (()) (by trivial)
 rintro u hq5
 try simp only [sm',Nat.reduceAdd]
 refine wr'<|mv' lk pt<|ZaL mp (ZcZ e3 (ZaV hid)) (ZaI hid) pt<|mv' lk pt<|sn'<|?_
 refine ZmJ (ι:=Unit) (fun (u:Unit)=>[]++rn' 29 28) (fun (u:Unit)=>h.set id (takE t4)++[.mk 0 63 10 eraZ,.mk 0 63 10 [iv sh,sv rl,iv sa,sv ⟨#[]⟩,bv false,iv 0,iv 0,iv 0,iv 0,iv 0]]) (fun (u:Unit)=>True) ?_ ?_
 ·try simp only [sm',Nat.reduceAdd]
  refine Zao<|wr'<|mv' lk pt<|V' (Zcj lk lks) pt<|mv' lk pt<|sn'<|?_
  refine cd' lk (fun hc2=>?_) (fun hc2=>?_)
  ·have hq:sa=0∧rl=⟨#[]⟩∧t4=t3:=by rw [ZdG,if_pos (show s3=bA [45] from hc2)] at e4;cases e4;exact ⟨rfl,rfl,rfl⟩
   obtain ⟨rfl,rfl,rfl⟩:=hq
   refine Zae<|Zaz<|ZaA<|?_
   exact cT' (()) (by trivial)
  rw [ZdG,if_neg (show ¬s3=bA [45] from hc2)] at e4
  have hbz:=ZeJ s3 0
  refine wr'<|mv' lk pt<|V' (Zcs lk lks) pt<|mv' lk pt<|?_
  refine sp' (t:=43) gt pt pt (fun hg43=>?_) (fun hg43=>?_)
  ·have hn3:s3.size≠0:=fun e=>hg43 (hem3.2 e)
   refine s_do gt<|mv' lk pt<|s_do gt<|?_
   refine V' (v_ix lk lki (by omega) (by omega)) pt ?_
   refine s_do gt<|Zad mp (ZdS hbz.1 hbz.2) pt<|V' (Zak lk lk) pt<|mv' lk pt<|sn'<|?_
   refine Zau lk (fun hc3=>?_) (fun hc3=>?_)
   ·have hc:s3.size≠0∧digB (Zg2 s3)=true:=⟨fun e=>hg43 (hem3.2 e),hc3⟩
    rw [if_pos hc] at e4
    refine Zam<|wr'<|mv' lk pt<|V' (Zcj lk lks) pt<|sn'<|?_
    refine cd' lk (fun hc4=>?_) (fun hc4=>?_)
    ·rw [if_pos (show s3=bA [48] from hc4)] at e4
     have hsp:Zbt s3 (bad t3)=(sa,t4):=by cases e4;rfl
     have hrl:rl=⟨#[]⟩:=by cases e4;rfl
     subst hrl
     refine Zas<|mv' lk pt<|V' (Zb8 lk) pt<|V' (Zac lk) pt<|E' (Zal lk (cvl lkb rfl) (ZaV hid) rfl (nb' rfl) rfl ZbC (ZaI hid)) ptn<|sn'<|Zas<|mv' lk pt<|mv' lk pt<|ZaL mp (Zge z3 hsp (ZaV hid)) (ZaI hid) pt<|V' (Zac lk) pt<|E' (Zal lk (cvl lk rfl) (hga (Zan hn) rfl) rfl (nb' rfl) rfl Zd1 (hs1 (Zan hn))) ptn<|Zar<|?_
     refine Zaz<|ZaA<|?_
     exact cT' (()) (by trivial)
    rw [if_neg (show ¬s3=bA [48] from hc4)] at e4
    have hsp:Zbt s3 t3=(sa,t4):=by cases e4;rfl
    have hrl:rl=⟨#[]⟩:=by cases e4;rfl
    subst hrl
    refine Zae<|Zah<|Zas<|mv' lk pt<|mv' lk pt<|ZaL mp (Zge z3 hsp (ZaV hid)) (ZaI hid) pt<|V' (Zac lk) pt<|E' (Zal lk (cvl lk rfl) (hga (Zan hn) rfl) rfl (nb' rfl) rfl Zd1 (hs1 (Zan hn))) ptn<|Zar<|Zaz<|ZaA<|?_
    exact cT' (()) (by trivial)
   have hc:¬(s3.size≠0∧digB (Zg2 s3)=true):=fun e=>by have:=e.2;rw [show digB (Zg2 s3)=false from hc3] at this;cases this
   refine Zam<|wr'<|mv' lk pt<|?_
   rw [if_neg hc] at e4
   refine Zad mp (ZcV (by unfold maxLen;omega)) pt ?_
   refine V' (Zaw lk) pt<|sn'<|?_
   refine Zau lk (fun hc5=>?_) (fun hc5=>?_)
   ·have hnm:¬Zck s3=true:=by simpa using hc5
    rw [if_neg hnm] at e4
    have hq:sa=0∧rl=s3∧t4=bad t3:=by cases e4;exact ⟨rfl,rfl,rfl⟩
    obtain ⟨rfl,rfl,rfl⟩:=hq
    refine Zas<|mv' lk pt<|V' (Zb8 lk) pt<|V' (Zac lk) pt<|E' (Zal lk (cvl lkb rfl) (ZaV hid) rfl (nb' rfl) rfl ZbC (ZaI hid)) ptn<|sn'<|Zas<|mv' lk pt<|V' (Zac lk) pt<|E' (Zal lk (cvl lk rfl) (hga (Zan hn) rfl) rfl (nb' rfl) rfl ZbC (hs1 (Zan hn))) ptn<|Zar<|Zaz<|ZaA<|?_
    exact cT' (()) (by trivial)
   have hnm:Zck s3=true:=by simpa using hc5
   rw [if_pos hnm] at e4
   have hq:sa=0∧rl=s3∧t4=t3:=by cases e4;exact ⟨rfl,rfl,rfl⟩
   obtain ⟨rfl,rfl,rfl⟩:=hq
   refine Zae<|Zah<|Zas<|mv' lk pt<|V' (Zac lk) pt<|E' (Zal lk (cvl lk rfl) (hga (Zan hn) rfl) rfl (nb' rfl) rfl ZbC (hs1 (Zan hn))) ptn<|Zar<|Zaz<|ZaA<|?_
   exact cT' (()) (by trivial)
  have hc:¬(s3.size≠0∧digB (Zg2 s3)=true):=fun e=>e.1 (hem3.1 (Decidable.of_not_not hg43))
  refine s_no gt pt<|s_no gt pt<|s_no gt pt<|V' (Zag lk lkb) pt<|mv' lk pt<|sn'<|ZaM lk<|Zam<|wr'<|mv' lk pt<|?_
  rw [if_neg hc] at e4
  refine Zad mp (ZcV (by unfold maxLen;omega)) pt ?_
  refine V' (Zaw lk) pt<|sn'<|?_
  refine Zau lk (fun hc5=>?_) (fun hc5=>?_)
  ·have hnm:¬Zck s3=true:=by simpa using hc5
   rw [if_neg hnm] at e4
   have hq:sa=0∧rl=s3∧t4=bad t3:=by cases e4;exact ⟨rfl,rfl,rfl⟩
   obtain ⟨rfl,rfl,rfl⟩:=hq
   refine Zas<|mv' lk pt<|V' (Zb8 lk) pt<|V' (Zac lk) pt<|E' (Zal lk (cvl lkb rfl) (ZaV hid) rfl (nb' rfl) rfl ZbC (ZaI hid)) ptn<|sn'<|Zas<|mv' lk pt<|V' (Zac lk) pt<|E' (Zal lk (cvl lk rfl) (hga (Zan hn) rfl) rfl (nb' rfl) rfl ZbC (hs1 (Zan hn))) ptn<|Zar<|Zaz<|ZaA<|?_
   exact cT' (()) (by trivial)
  have hnm:Zck s3=true:=by simpa using hc5
  rw [if_pos hnm] at e4
  have hq:sa=0∧rl=s3∧t4=t3:=by cases e4;exact ⟨rfl,rfl,rfl⟩
  obtain ⟨rfl,rfl,rfl⟩:=hq
  refine Zae<|Zah<|Zas<|mv' lk pt<|V' (Zac lk) pt<|E' (Zal lk (cvl lk rfl) (hga (Zan hn) rfl) rfl (nb' rfl) rfl ZbC (hs1 (Zan hn))) ptn<|Zar<|Zaz<|ZaA<|?_
  exact cT' (()) (by trivial)
 rintro u hq13
 try simp only [sm',Nat.reduceAdd]
 refine wr'<|mv' lk pt<|ZaL mp (ZcZ e5 (ZaV hid)) (ZaI hid) pt<|V' (Zac lk) pt<|E' (Zal lk (cvl lk rfl) (hga (Zan hn) rfl) rfl (nb' rfl) rfl Zjf (hs1 (Zan hn))) ptn<|sn'<|?_
 refine ZmJ (ι:=Unit) (fun (u:Unit)=>[]++rn' 60 7) (fun (u:Unit)=>h.set id (takE t6)++[.mk 0 63 10 eraZ,.mk 0 63 10 [iv sh,sv rl,iv sa,sv fm,bv false,iv 0,iv 0,iv 0,iv 0,iv 0]]) (fun (u:Unit)=>True) ?_ ?_
 ·try simp only [sm',Nat.reduceAdd]
  refine wr'<|V' (Zac lk) pt<|V' (Zab lk (hga (Zan hn) rfl) gt3) pt<|?_
  refine Zad mp (Zfk (by unfold maxLen;omega)) pt ?_
  refine V' (Zaw lk) pt<|sn'<|?_
  refine Zau lk (fun hc6=>?_) (fun hc6=>?_)
  ·have hq:t6=bad t5:=by rw [←e6,if_neg (by simpa using hc6)]
   subst hq
   refine Zas<|mv' lk pt<|V' (Zb8 lk) pt<|V' (Zac lk) pt<|E' (Zal lk (cvl lkb rfl) (ZaV hid) rfl (nb' rfl) rfl ZbC (ZaI hid)) ptn<|Zar<|ZaA<|?_
   exact cT' (()) (by trivial)
  have hq:t6=t5:=by rw [←e6,if_pos (by simpa using hc6)]
  subst hq
  refine Zae<|ZaA<|?_
  exact cT' (()) (by trivial)
 rintro u hq16
 try simp only [sm',Nat.reduceAdd]
 refine Zam<|wr'<|mv' lk pt<|V' (Zb8 lk) pt<|V' (Zac lk) pt<|V' (Zab lk (ZaV hid) gt0) pt<|V' (ZaP lk) pt<|V' (ZaT lk lki) pt<|sn'<|?_
 refine cd' lk (fun hc7=>?_) (fun hc7=>?_)
 ·have hE:tEnd t6=((true,untZ),t6):=by unfold tEnd;rw [if_pos (List.eq_nil_of_length_eq_zero (by omega))]
  rw [hE] at hR
  refine wr'<|V' (Zac lk) pt<|E' (Zal lk (cvl lkb rfl) (hga (Zan hn) rfl) rfl (nb' rfl) rfl ZoM (hs1 (Zan hn))) ptn<|sn'<|wr'<|V' (Zaq lk (hga (Zan hn) rfl) ZcR rfl) pt<|E' (Zal lk (cvl lk rfl) (hga (Zan hn) rfl) rfl (nb' rfl) rfl Zfu (hs0 (Zan hn))) ptn<|sn'<|Zaa<|Zai<|?_
  refine Zaf (rs1 (rr_c gt (hga (Zan hn) rfl) (ld1 ZcR rfl))) ?_
  exact ⟨_,_,rfl,Zan hn,ZbM hlt ZaJ,rfl,by rw [hR] <;> rfl,by rw [hR] <;> rfl⟩
 have hE:tEnd t6=((false,(ZgQ t6).1),(ZgQ t6).2):=by unfold tEnd;rw [if_neg (by intro e;rw [e] at hc7;exact hc7 rfl)]
 rw [hE,hU] at hR
 refine Zae<|Zah<|wr'<|mv' lk pt<|mv' lk pt<|ZaL mp (ZcZ e7 (ZaV hid)) (ZaI hid) pt<|?_
 refine ZaL mp (ZmR (by omega) e8 (ZaV hid)) (ZaI hid) pt ?_
 refine mv' lk pt<|sn'<|wr'<|mv' lk pt<|ZaL mp (ZmS e9 (ZaV hid)) (ZaI hid) pt<|mv' lk pt<|sn'<|wr'<|mv' lk pt<|mv' lk pt<|?_
 refine ZaL mp (ZcZ e10 (ZaV hid)) (ZaI hid) pt ?_
 refine ZaL mp (ZmR (by omega) e11 (ZaV hid)) (ZaI hid) pt ?_
 refine mv' lk pt<|sn'<|wr'<|mv' lk pt<|mv' lk pt<|mv' lk pt<|V' (Zax (Zkf (cvl lk rfl) rfl (cvl lk rfl) rfl (cvl lk rfl) rfl)) pt<|V' (Zac lk) pt<|V' (ZbE lk) pt<|E' (Zal lk (cvl lk rfl) (hga (Zan hn) rfl) rfl (nb' rfl) rfl ZoK (hs1 (Zan hn))) ptn<|sn'<|?_
 refine wr'<|mv' lk pt<|ZaL mp (ZmY (.inr rfl) o11 e12 (ZaV hid)) (ZaI hid) pt<|mv' lk pt<|V' (Za3 lk gt) pt<|V' (Za3 lk gt) pt<|V' (Zac lk) pt<|V' (ZbE lk) pt<|E' (Zal lk (cvl lk rfl) (hga (Zan hn) rfl) rfl (nb' rfl) rfl Zje (hs1 (Zan hn))) ptn<|V' (Zac lk) pt<|V' (ZbE lk) pt<|E' (Zal lk (cvl lk rfl) (hga (Zan hn) rfl) rfl (nb' rfl) rfl Zjd (hs1 (Zan hn))) ptn<|Zar<|?_
 refine Zah<|Zam<|wr'<|V' (Zac lk) pt<|V' (ZbE lk) pt<|V' (Zab lk (hga (Zan hn) rfl) gt9) pt<|V' (ZaT lk lki) pt<|sn'<|?_
 refine cd' lk (fun hc8=>?_) (fun hc8=>?_)
 ·rw [if_pos hc8] at hR
  refine Zas<|mv' lk pt<|V' (Zb8 lk) pt<|V' (Zac lk) pt<|E' (Zal lk (cvl lkb rfl) (ZaV hid) rfl (nb' rfl) rfl ZbC (ZaI hid)) ptn<|sn'<|wr'<|V' (Zaq lk (hga (Zan hn) rfl) ZcR rfl) pt<|E' (Zal lk (cvl lk rfl) (hga (Zan hn) rfl) rfl (nb' rfl) rfl Zfu (hs0 (Zan hn))) ptn<|sn'<|Zaa<|?_
  refine Zaf (rs1 (rr_c gt (hga (Zan hn) rfl) (ld1 ZcR rfl))) ?_
  exact ⟨_,_,rfl,Zan hn,ZbM hlt ZaJ,rfl,by rw [hR] <;> rfl,by rw [hR] <;> rfl⟩
 rw [if_neg hc8] at hR
 refine Zae<|Zah<|wr'<|V' (Zaq lk (hga (Zan hn) rfl) ZcR rfl) pt<|E' (Zal lk (cvl lk rfl) (hga (Zan hn) rfl) rfl (nb' rfl) rfl Zfu (hs0 (Zan hn))) ptn<|sn'<|Zaa<|Zaf (rs1 (rr_c gt (hga (Zan hn) rfl) (ld1 ZcR rfl)))<|?_
 exact ⟨_,_,rfl,Zan hn,ZbM hlt ZaJ,rfl,by rw [hR] <;> rfl,by rw [hR] <;> rfl⟩
end Go.Proofs.YtlekejpogddndaaGreatDoor
end
section
namespace Go.Proofs.YtlekejpogddndaaGreatDoor
open Go.Ab
theorem ZpZ (s:ByteArray):ZbA s=if (ZbQ s).2.2≠0 then (srcZ,(ZbQ s).2.1,(ZbQ s).2.2) else outP (ZbQ s).1:=rfl
end Go.Proofs.YtlekejpogddndaaGreatDoor
end
section
namespace Go.Proofs.YtlekejpogddndaaGreatDoor
open Go.Ab Go.RowKit
def badN (n:Int):Bool:=!plnN n||decide (n=34)
def Zfe (f:ByteArray):Int:=if (aB f).any (fun c=>badN c.toNat)=true then 1 else if 24<f.size then 2 else 0
def ZiV:List ByteArray→Int
 | []=>0
 | f::fs=>if Zfe f≠0 then Zfe f else ZiV fs
def Zn8 (fs:List ByteArray):Int:=if fs.length=0 then 1 else if 12<fs.length then 2 else ZiV fs
end Go.Proofs.YtlekejpogddndaaGreatDoor
end
section
namespace Go.Proofs.YtlekejpogddndaaGreatDoor
open Go.Ab
theorem ZjF {p:Int→Bool} : ∀ {l:Bs}{n:Nat},runL p l=some n → ∀ c∈l.take n,p c.toNat=true∧plnN c.toNat=true
 | [],n,h,c,hc=>by simp at hc
 | x::l,n,h,c,hc=>by
  unfold runL at h
  split at h
  ·rename_i hp
   split at h
   ·rename_i hq
    rw [Option.map_eq_some_iff] at h
    obtain ⟨m,hm,rfl⟩:=h
    rw [List.take_succ_cons] at hc
    rcases List.mem_cons.1 hc with rfl | hc
    ·exact ⟨hp,hq⟩
    ·exact ZjF hm c hc
   ·cases h
  ·cases h;simp at hc
theorem ZnE {n:Int}:badN n=false↔plnN n=true∧n≠34:=by
 unfold badN;simp
theorem Zl8 {l:Bs}{x:Nat×Nat×Nat}(h:ZcH l=some x) : ∀ c∈(l.drop x.1).take x.2.1,badN c.toNat=false:=by
 cases l with
 | nil=>cases h
 | cons c l =>
  by_cases hc:(c.toNat:Int)=34
  ·rw [ZcH,if_pos hc] at h
   cases hr:runL quoP l with
   | none=>rw [hr] at h;cases h
   | some n =>
    have:=ZjF hr
    rw [hr] at h
    simp only at h
    split at h
    ·cases h
    ·split at h
     ·cases h
     ·cases h
      intro y hy
      have:=this y (by simpa using hy)
      exact ZnE.2 ⟨this.2,by have:=this.1;unfold quoP at this;simpa using this⟩
  ·rw [ZcH,if_neg hc] at h
   cases hr:runL fldP (c::l) with
   | none=>rw [hr] at h;cases h
   | some n =>
    have:=ZjF hr
    rw [hr] at h
    simp only at h
    split at h
    ·cases h
    ·cases h
     intro y hy
     have:=this y (by simpa using hy)
     exact ZnE.2 ⟨this.2,by have:=this.1;unfold fldP at this;simp at this;exact this.2⟩
theorem Zl9 {f:ByteArray}(h1 : ∀ c∈aB f,badN c.toNat=false) (h2:f.size≤24):Zfe f=0:=by
 unfold Zfe
 rw [if_neg,if_neg (by omega)]
 rw [List.any_eq_true]
 rintro ⟨c,hc,hb⟩
 rw [h1 c hc] at hb;cases hb
theorem Zog {f:ByteArray}(h:Zfe f=0):(∀ c∈aB f,badN c.toNat=false)∧f.size≤24:=by
 unfold Zfe at h
 split at h
 ·cases h
 ·rename_i h1
  split at h
  ·cases h
  ·refine ⟨fun c hc=>?_,by omega⟩
   cases hb:badN c.toNat
   ·rfl
   ·exact absurd (List.any_eq_true.2 ⟨c,hc,hb⟩) h1
theorem ZiS : ∀ {k:Nat}{acc:List ByteArray}{l:Bs},(∀ f∈acc,Zfe f=0)→acc.length≤12→(Zil k acc l).2=0→(∀ f∈(Zil k acc l).1,Zfe f=0)∧(Zil k acc l).1.length≤12
 | 0,acc,l,h1,h2,_=>⟨h1,h2⟩
 | k+1,acc,l,h1,h2,h3=>by
  rw [Zil] at h3 ⊢
  split at h3
  ·rename_i hm
   rw [if_pos hm]
   split at h3
   ·cases h3
   ·rename_i x hx
    split at h3
    ·cases h3
    ·rename_i hn
     rw [if_neg hn]
     refine ZiS (fun f hf=>?_) (by simp;omega) h3
     rcases List.mem_append.1 hf with hf | hf
     ·exact h1 f hf
     ·rw [List.mem_singleton] at hf
      subst hf
      refine Zl9 (fun c hc=>Zl8 hx c hc) ?_
      unfold cutF
      rw [ZdL,List.length_take];omega
  ·rename_i hm
   rw [if_neg hm]
   exact ⟨h1,h2⟩
theorem Zn7 {x:Bs}(h:(Zdr x).2=0) (hne:(Zdr x).1≠[]):Zn8 (Zdr x).1=0:=by
 obtain ⟨h1,h2⟩:=ZiS (k:=13) (acc:=[]) (l:=x) (fun f hf=>by simp at hf) (by simp) h
 unfold Zn8
 have:0<(Zdr x).1.length:=List.length_pos_iff.2 hne
 rw [if_neg (by omega),if_neg (by show ¬12<(Zil 13 [] x).1.length;omega)]
 have : ∀ {fs:List ByteArray},(∀ f∈fs,Zfe f=0)→ZiV fs=0:=by
  intro fs
  induction fs with
  | nil=>intro _;rfl
  | cons f fs ih =>
   intro h
   rw [ZiV,if_neg (by rw [h f (by simp)];simp)]
   exact ih fun g hg=>h g (by simp [hg])
 exact this h1
theorem ZiL : ∀ {n:Int}{l:List Bs}{acc:List Ln},(Zch n l acc).2.2≠0→(Zch n l acc).1=[]
 | n,[],acc,h=>absurd rfl h
 | n,x::xs,acc,h=>by
  rw [Zch] at h ⊢
  split at h
  ·rename_i h1;rw [if_pos h1]
  ·rename_i h1;rw [if_neg h1];exact ZiL h
theorem ZhJ : ∀ {n:Int}{l:List Bs}{acc:List Ln},(∀ x∈acc,Zn8 x.2.2=0) → ∀ x∈(Zch n l acc).1,Zn8 x.2.2=0
 | n,[],acc,h=>h
 | n,y::ys,acc,h=>by
  rw [Zch]
  split
  ·intro x hx;simp at hx
  ·rename_i h1
   refine ZhJ fun x hx=>?_
   split at hx
   ·exact h x hx
   ·rename_i h2
    rcases List.mem_append.1 hx with hx | hx
    ·exact h x hx
    ·rw [List.mem_singleton] at hx
     subst hx
     exact Zn7 (Decidable.of_not_not h1) h2
theorem ZlI {s:ByteArray} : ∀ x∈(ZbQ s).1,Zn8 x.2.2=0:=by
 have:=ZhJ (n:=1) (l:=cutC 10 (aB s)) (acc:=[]) (fun x hx=>by simp at hx)
 unfold ZbQ
 split
 ·intro x hx;simp at hx
 ·split
  ·exact this
  ·split
   ·intro x hx;simp at hx
   ·exact this
end Go.Proofs.YtlekejpogddndaaGreatDoor
end
section
namespace Go.Proofs.YtlekejpogddndaaGreatDoor
open Go.Ab Go.RowKit Civ
def PT {α:Type}(f:TS→α×TS) (P:α→Prop):Prop := ∀ t,okTS t→P (f t).1∧okTS (f t).2
theorem PT.bind {α β:Type}{f:TS→α×TS}{k:α→TS→β×TS}{P:α→Prop}{Q:β→Prop}(h:PT f P) (hk : ∀ a,P a→PT (k a) Q):PT (ZbU f k) Q:=fun t ho=>hk _ (h t ho).1 _ (h t ho).2
theorem PT.ret {α:Type}{P:α→Prop}{a:α}(h:P a):PT (ret2 a) P:=fun t ho=>⟨h,ho⟩
theorem pt_next:PT ZaN (fun s=>s.size≤24):=fun t ho=>Za5 ho rfl
end Go.Proofs.YtlekejpogddndaaGreatDoor
end
