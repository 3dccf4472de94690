/-
  Part 4 of the proof: own lemmas and contracts on plain data. No condition beyond those that each lemma states.
-/
import Derived.Test.YtlekejpogddndaaGreatDoorLo3
import Derived.Test.YtlekejpogddndaaGreatDoorCards
import Derived.Test.YtlekejpogddndaaGreatDoorTie
import Derived.Lay
import Derived.Handed
import Derived.SizedLaws
import Derived.Shelf.Vars
import Derived.SevenTiedAt
import Derived.LaidSub
import Derived.MakeChecks
set_option linter.all false
set_option maxRecDepth 1000000
set_option maxHeartbeats 4000000
section
namespace Go.Proofs.YtlekejpogddndaaGreatDoor
open Go.Ab Go.RowKit Civ
attribute [local simp] ZbU
theorem day_at : ∀ k (hk:k<dayL.length),dayA.extract (3*k) (3*k+3)=dayL[k]:=by decide
theorem mon_3 : ∀ x∈monL,x.size=3:=by decide
theorem day_3 : ∀ x∈dayL,x.size=3:=by decide
theorem ZnN {s:ByteArray} : ∀ {l:List ByteArray}{d n:Int},idxL l s d=some n→d≤n∧n<d+l.length
 | [],_,_,h=>by cases h
 | x::l,d,n,h=>by
  rw[idxL] at h
  split at h
  ·cases h;simp;omega
  have:=ZnN h;simp;omega
theorem tmonth_a {t:TS}{id:Nat}{h:AH}(h1:h[id]?=some (takE t)):ACalls Tryz.prog 275 [.ptr id 0 0] h fun x h'=>x=.ret (iv (ZdF t).1)∧h'=h.set id (takE (ZdF t).2):=by
 have hid:id<h.length:=(List.getElem?_eq_some_iff.1 h1).1
 have hM:idxL monL (ZaR t).1 1=(idxL monL (ZaR t).1 0).map (· + 1):=ZnM
 obtain⟨o,ho⟩ : ∃ o,o=idxL monL (ZaR t).1 0:=⟨_,rfl⟩
 rw[←ho] at hM
 have hbd : ∀ n,o=some n→0≤n∧n<12:=fun n e=>by have:=ZnN (ho.symm.trans e);have h12:(monL.length:Int)=12:=rfl;omega
 refine tJ' k275 fun N hn hlt hlA hbd=>?_
 simp only[tb'] at hbd ⊢
 refine ZdL (h1:=h.set id (takE t)++[]) (by rw[ZcT h1]) ?_
 refine wr'<|mw<|sn'<|wr'<|mw<|ZaO mp (Znh (ZaX hid)) (ZaJ hid) pt<|?_
 refine Zad mp (ZoU (nl:=monL) (all:=monA) (by decide) (by decide) mon_3 mon_at) pt ?_
 rw[←ho]
 have hcase:(o=none) ∨ ∃ n,o=some n:=by cases o <;> simp
 have hgd : -1≤o.getD (-1)∧o.getD (-1)<12:=by rcases hcase with rfl | ⟨n,rfl⟩;exact⟨by decide,by decide⟩;have:=hbd n rfl;exact⟨by simp;omega,by simp;omega⟩
 refine mw<|sn'<|Zam<|wr'<|mw<|Vw (Zbb lk lki)<|sn'<|?_
 refine cd' lk (fun hc1=>?_) (fun hc1=>?_)
 ·refine Zav<|mw<|Vw (Zbr lk)<|Vw (Zab lk)<|E' (Zak lk (cvl lkb rfl) (ZaX hid) rfl (nb' rfl) rfl ZcI (ZaJ hid)) ptn<|sn'<|wr'<|mw<|?_
  refine V' (Zay lk lki om om) pt ?_
  refine mw<|sn'<|Zaa<|Zae rz<|?_
  have ho2:o=none:=by rcases hcase with e | ⟨n,rfl⟩;exact e;have:=hbd n rfl;simp at hc1;omega
  have hT:ZdF t=(0,bad (ZaR t).2):=by unfold ZdF;rw[hM,ho2];rfl
  exact⟨_,_,rfl,Zao hn,ZbW hlt ZaK,rfl,by rw[hT,ho2];rfl,by rw[hT]⟩
 refine Zaf<|Zah<|wr'<|mw<|?_
 refine V' (Zay lk lki om om) pt ?_
 refine mw<|sn'<|Zaa<|Zae rz<|?_
 obtain⟨n,rfl⟩ : ∃ n,o=some n:=by rcases hcase with rfl | e;exact absurd (by decide:(-1:Int)<0) hc1;exact e
 have hT:ZdF t=(n+1,(ZaR t).2):=by unfold ZdF;rw[hM];rfl
 exact⟨_,_,rfl,Zao hn,ZbW hlt ZaK,rfl,by rw[hT];rfl,by rw[hT]⟩
theorem Zh6 {s:ByteArray}{t:TS}{id:Nat}{h:AH}(h1:h[id]?=some (takE t)):ACalls Tryz.prog 309 [.ptr id 0 0,sv s] h fun x h'=>x=.ret (iv (Zd6 s t).1)∧h'=h.set id (takE (Zd6 s t).2):=by
 have hid:id<h.length:=(List.getElem?_eq_some_iff.1 h1).1
 obtain⟨o,ho⟩ : ∃ o,o=idxL dayL s 0:=⟨_,rfl⟩
 have hbd : ∀ n,o=some n→0≤n∧n<7:=fun n e=>by have:=ZnN (ho.symm.trans e);have h7:(dayL.length:Int)=7:=rfl;omega
 refine tJ' k309 fun N hn hlt hlA hbd=>?_
 simp only[tb'] at hbd ⊢
 refine ZdL (h1:=h.set id (takE t)++[]) (by rw[ZcT h1]) ?_
 refine wr'<|mw<|sn'<|wr'<|mw<|?_
 refine Zad mp (ZoU (nl:=dayL) (all:=dayA) (by decide) (by decide) day_3 day_at) pt ?_
 rw[←ho]
 have hcase:(o=none) ∨ ∃ n,o=some n:=by cases o <;> simp
 refine mw<|sn'<|Zam<|wr'<|mw<|Vw (Zbb lk lki)<|sn'<|?_
 refine cd' lk (fun hc1=>?_) (fun hc1=>?_)
 ·refine wr'<|mw<|Vw (Zbr lk)<|Vw (Zab lk)<|E' (Zak lk (cvl lkb rfl) (ZaX hid) rfl (nb' rfl) rfl ZcI (ZaJ hid)) ptn<|sn'<|wr'<|mw<|sn'<|Zaa<|?_
  refine Zai<|Zae rz<|?_
  have ho2:o=none:=by rcases hcase with e | ⟨n,rfl⟩;exact e;have:=hbd n rfl;simp at hc1;omega
  have hT:Zd6 s t=(0,bad t):=by unfold Zd6;rw[←ho,ho2]
  exact⟨_,_,rfl,Zao hn,ZbW hlt ZaK,rfl,by rw[hT],by rw[hT]⟩
 refine Zaf<|Zah<|wr'<|mw<|mw<|sn'<|Zaa<|Zae rz<|?_
 obtain⟨n,rfl⟩ : ∃ n,o=some n:=by rcases hcase with rfl | e;exact absurd (by decide:(-1:Int)<0) hc1;exact e
 have hT:Zd6 s t=(n,t):=by unfold Zd6;rw[←ho]
 exact⟨_,_,rfl,Zao hn,ZbW hlt ZaK,rfl,by rw[hT];rfl,by rw[hT]⟩
theorem ZrE {s:ByteArray}{t:TS}{id:Nat}{h:AH}(h1:h[id]?=some (takE t)):ACalls Tryz.prog 307 [.ptr id 0 0,sv s] h fun x h'=>x=.ret (iv (tSix s t).1)∧h'=h.set id (takE (tSix s t).2):=by
 have hid:id<h.length:=(List.getElem?_eq_some_iff.1 h1).1
 refine tJ' k307 fun N hn hlt hlA hbd=>?_
 simp only[tb'] at hbd ⊢
 refine ZdL (h1:=h.set id (takE t)++[]) (by rw[ZcT h1]) ?_
 refine wr'<|mw<|sn'<|wr'<|mw<|mw<|?_
 refine ZaO mp (ZdQ om (ZaX hid)) (ZaJ hid) pt ?_
 refine mw<|sn'<|Zam<|wr'<|mw<|Vw (ZbD lk lki)<|sn'<|?_
 refine cd' lk (fun hc1=>?_) (fun hc1=>?_)
 ·refine Zav<|mw<|Vw (Zbr lk)<|Vw (Zab lk)<|E' (Zak lk (cvl lkb rfl) (ZaX hid) rfl (nb' rfl) rfl ZcI (ZaJ hid)) ptn<|sn'<|wr'<|mw<|mw<|sn'<|Zaa<|?_
  refine Zae rz ?_
  exact⟨_,_,rfl,Zao hn,ZbW hlt ZaK,rfl,rfl,by unfold tSix;rw[if_pos om]⟩
 refine Zaf<|Zah<|wr'<|mw<|mw<|sn'<|Zaa<|Zae rz<|?_
 exact⟨_,_,rfl,Zao hn,ZbW hlt ZaK,rfl,rfl,by unfold tSix;rw[if_neg om]⟩
end Go.Proofs.YtlekejpogddndaaGreatDoor
end
section
namespace Go.Proofs.YtlekejpogddndaaGreatDoor
open Go.Ab Go.RowKit Civ
attribute [local simp] ZbU
section
theorem ZhF {τ:Operand→AV}{y0:Operand}{x0_0:AV}(h0:Zat (τ y0)=some [x0_0]) (l0:[x0_0].all leaf=true):Zar τ [(0,1,y0)] [(.v (.string ⟨#[]⟩))]=some [x0_0]:=by
 simp only[Zar,h0,l0]
 rfl
theorem ZmW {a0:AV}{l:List AV}:(a0::l).take 1=[a0]:=rfl
theorem Zkr {a0 a1 c0:AV}{l:List AV}:setCells (a0::a1::l) 1 [c0]=a0::c0::l:=rfl
theorem ZmX {τ:Operand→AV}{y0 y1:Operand}{x0_0 x1_0:AV}(h0:Zat (τ y0)=some [x0_0]) (l0:[x0_0].all leaf=true) (h1:Zat (τ y1)=some [x1_0]) (l1:[x1_0].all leaf=true):Zar τ [(0,1,y0),(1,1,y1)] [(.v (.int .i64 0)),(.v (.int .i64 0)),(.v (.int .i64 0))]=some [x0_0,x1_0,(.v (.int .i64 0))]:=by
 simp only[Zar,h0,l0,h1,l1]
 rfl
theorem Zbq {a0 a1 a2 c0 c1 c2:AV}{l:List AV}:setCells (a0::a1::a2::l) 0 [c0,c1,c2]=c0::c1::c2::l:=rfl
theorem Zbp {a0 a1 a2:AV}{l:List AV}:((a0::a1::a2::l).drop 0).take 3=[a0,a1,a2]:=rfl
theorem ZdZ {τ:Operand→AV}{y0 y1 y2:Operand}{x0_0 x1_0 x2_0:AV}(h0:Zat (τ y0)=some [x0_0]) (l0:[x0_0].all leaf=true) (h1:Zat (τ y1)=some [x1_0]) (l1:[x1_0].all leaf=true) (h2:Zat (τ y2)=some [x2_0]) (l2:[x2_0].all leaf=true):Zar τ [(0,1,y0),(1,1,y1),(2,1,y2)] [(.v (.int .i64 0)),(.v (.int .i64 0)),(.v (.int .i64 0))]=some [x0_0,x1_0,x2_0]:=by
 simp only[Zar,h0,l0,h1,l1,h2,l2]
 rfl
theorem Zks {a0 c0:AV}{l:List AV}:setCells (a0::l) 0 [c0]=c0::l:=rfl
theorem ZcH {τ:Operand→AV}{y0 y1:Operand}{x0_0 x1_0:AV}(h0:Zat (τ y0)=some [x0_0]) (l0:[x0_0].all leaf=true) (h1:Zat (τ y1)=some [x1_0]) (l1:[x1_0].all leaf=true):Zar τ [(0,1,y0),(2,1,y1)] [(.v (.int .i64 0)),(.v (.int .i64 0)),(.v (.int .i64 0))]=some [x0_0,(.v (.int .i64 0)),x1_0]:=by
 simp only[Zar,h0,l0,h1,l1]
 rfl
end
def c277:AC:=(Sr [Oo 2 (.new 34 3 [(iv 0),(iv 0),(iv 0)])] (Sr [Mv 5 0,Cl 6 200 [(.tmp 5)],Mv 3 6] (.seq (Sr [Mv 7 3,Oo 8 (.len true (.tmp 7)),Bc 9 .geq 8 4,Mv 10 9,Ot 11 10 (mt 3),Ot 12 10 (.sls (.tmp 11) none (some (Ci 4))),Ot 13 10 (.bin .eql (.tmp 12) (.const (.string ⟨#[108,97,115,116]⟩))),Oo 14 (.pick (.tmp 10) (.tmp 13) (.const (.bool false)))] (Cd 14 (Sr [Mv 15 0,Mv 16 3,Oo 17 (.sls (.tmp 16) (some (Ci 4)) none),Cl 18 309 [(.tmp 15),(.tmp 17)],Oo 19 (.build [(iv 0),(iv 0),(iv 0)] [(0,(1,(Ci 2))),(1,(1,(.tmp 18)))]),⟨none,none,(.store 3 (.tmp 2) (.tmp 19))⟩] .ret) .skip)) (.seq (Sr [Mv 20 3,Oo 21 (.len true (.tmp 20)),Bc 22 .gtr 21 5,Mv 23 22,Ot 24 23 (mt 3),Ot 25 23 (.ix (.tmp 24) (Ci 4)),Ot 26 23 (.bin .eql (.tmp 25) (.const (.int .u8 61))),Oo 27 (.pick (.tmp 23) (.tmp 26) (.const (.bool false))),Mv 28 27,Ot 29 28 (mt 3),Ot 30 28 (.ix (.tmp 29) (Ci 3)),Ot 31 28 (.bin .eql (.tmp 30) (.const (.int .u8 62))),Ot 32 28 (mt 31),Of 33 32 (mt 3),Of 34 32 (.ix (.tmp 33) (Ci 3)),Of 35 32 (.bin .eql (.tmp 34) (.const (.int .u8 60))),Ot 36 28 (.pick (.tmp 32) (.const (.bool true)) (.tmp 35)),Oo 37 (.pick (.tmp 28) (.tmp 36) (.const (.bool false)))] (Cd 37 (.seq (.drwU [[],[0],[0],[],[0,1,2,3],[0,1,2,3,4],[0,1,2,3,4],[],[],[0,1,2,3,4,5,6,7,8],[]] [Mv 38 0,Mv 39 3,Oo 40 (.sls (.tmp 39) none (some (Ci 3))),Cl 41 309 [(.tmp 38),(.tmp 40)],Mv 42 0,Mv 43 3,Oo 44 (.sls (.tmp 43) (some (Ci 5)) none),Cl 45 274 [(.tmp 42),(.tmp 44),(Ci 1),(Ci 2)],Oo 46 (.build [(iv 0),(iv 0),(iv 0)] [(0,(1,(Ci 3))),(1,(1,(.tmp 41))),(2,(1,(.tmp 45)))]),Oo 4 (.new 34 3 [(iv 0),(iv 0),(iv 0)]),⟨none,none,(.store 3 (.tmp 4) (.tmp 46))⟩]) (.seq (Sr [Mv 47 3,Oo 48 (.ix (.tmp 47) (Ci 3)),Oo 49 (.bin .eql (.tmp 48) (.const (.int .u8 60)))] (Cd 49 (.reg [Fa 50 0 4,⟨none,none,(.store 1 (.tmp 50) (Ci 4))⟩]) .skip)) (Sr [Oo 51 (.load true 3 (.tmp 4)),⟨none,none,(.store 3 (.tmp 2) (.tmp 51))⟩] .ret))) .skip)) (Sr [Mv 52 0,Mv 53 3,Cl 54 274 [(.tmp 52),(.tmp 53),(Ci 1),(Ci 2)],Oo 55 (.build [(iv 0),(iv 0),(iv 0)] [(0,(1,(Ci 1))),(2,(1,(.tmp 54)))]),⟨none,none,(.store 3 (.tmp 2) (.tmp 55))⟩] .ret)))))
theorem k277:ZaA Tryz.prog 277=some ⟨c277,[(.cell 2 true 3)],56⟩:=by kernel_rfl
def c273:AC:=(Sr [Mc 4 0] (.seq (Sr [Mv 9 1,Oo 10 (.bin .eql (.tmp 9) (.const (.string ⟨#[48]⟩)))] (Cd 10 (Sr [Mc 4 0] .ret) .skip)) (Sr [Oo 5 (.mv (.const (.slice none 0 0)))] (Sr [Mc 6 0] (.seq (Sr [Mc 7 0] (.block 0 (.loop (.seq (Sr [Mv 11 7,Mv 12 1,Oo 13 (.len true (.tmp 12)),Bn 14 .leq 11 13] (Cd 14 .skip (.exit 0))) (.seq (.block 1 (Sr [Mv 17 7,Mv 18 1,Oo 19 (.len true (.tmp 18)),Bn 20 .eql 17 19,Mv 21 20,Of 22 21 (mt 1),Of 23 21 (mt 7),Of 24 21 (.ix (.tmp 22) (.tmp 23)),Of 25 21 (.bin .eql (.tmp 24) (.const (.int .u8 58))),Oo 26 (.pick (.tmp 21) (.const (.bool true)) (.tmp 25))] (Cd 26 (Sr [Mv 27 5,Mv 28 1,Mv 29 6,Mv 30 7,Oo 31 (.sls (.tmp 28) (some (.tmp 29)) (some (.tmp 30))),Oo 32 (.lit 9 1 1 [Ss] [(0,(1,(.tmp 31)))]),Oo 33 (.app 9 1 16 (.tmp 27) (.tmp 32)),Mv 5 33] (.reg [Mv 34 7,Bc 35 .add 34 1,Mv 6 35])) .skip))) (.reg [Mv 15 7,Bc 16 .add 15 1,Mv 7 16])))))) (.seq (Sr [Mv 36 5,Oo 37 (.len false (.tmp 36)),Bc 38 .neq 37 2,Mv 39 38,Ot 40 39 (mt 5),Ot 41 39 (.len false (.tmp 40)),Ot 42 39 (.bin .neq (.tmp 41) (Ci 3)),Oo 43 (.pick (.tmp 39) (.tmp 42) (.const (.bool false)))] (Cd 43 (Sr [Mv 44 0,Nk 45 44,Fa 46 1 45,⟨none,none,(.store 1 (.tmp 46) (.const (.bool true)))⟩] (Sr [Mc 4 0] .ret)) .skip)) (.seq (.drwU [[],[0],[0],[0],[],[],[0,1,2,3,4,5],[0,1,2,3,4,5,6],[0,1,2,3,4,5,6],[0,1,2,3,4,5,6],[5],[5],[],[]] [Mv 47 0,Mv 48 5,Oo 49 (.ia 1 (.tmp 48) (Ci 0)),Ld 50 49,Cl 51 274 [(.tmp 47),(.tmp 50),(Ci 1),(Ci 2)],Oo 52 (.bin .mul (Ci 3600) (.tmp 51)),Mv 53 0,Mv 54 5,Oo 55 (.ia 1 (.tmp 54) (Ci 1)),Ld 56 55,Cl 57 307 [(.tmp 53),(.tmp 56)],Oo 58 (.bin .mul (Ci 60) (.tmp 57)),Bn 59 .add 52 58,Mv 8 59]) (.seq (Sr [Mv 60 5,Oo 61 (.len false (.tmp 60)),Bc 62 .eql 61 3] (Cd 62 (.reg [Mv 63 8,Mv 64 0,Mv 65 5,Oo 66 (.ia 1 (.tmp 65) (Ci 2)),Ld 67 66,Cl 68 307 [(.tmp 64),(.tmp 67)],Bn 69 .add 63 68,Mv 8 69]) .skip)) (Sr [Mv 70 8,Mv 4 70] .ret)))))))))
theorem k273:ZaA Tryz.prog 273=some ⟨c273,[(.tmp 4)],71⟩:=by kernel_rfl
def c276:AC:=(Sr [Mc 4 0,Mc 5 0] (Sr [Mv 9 0,Cl 10 200 [(.tmp 9)],Mv 6 10] (Sr [Mv 11 1,Mv 7 11] (.seq (Sr [Mv 12 6,Oo 13 (.bin .neq (.tmp 12) (.const (.string ⟨#[]⟩)))] (Cd 13 (.seq (Sr [Mc 8 1] (.block 0 (.loop (.seq (Sr [Mv 14 8,Bc 15 .leq 14 3] (Cd 15 .skip (.exit 0))) (.seq (.block 1 (Sd [Mv 18 6,Mv 19 6,Oo 20 (.len true (.tmp 19)),Bc 21 .sub 20 1,Oo 22 (.ix (.tmp 18) (.tmp 21)),Mv 23 8,Oo 24 (.ix (.const (.string ⟨#[63,119,115,117]⟩)) (.tmp 23)),Bn 25 .eql 22 24] (Cd 25 (.reg [Mv 26 8,Mv 7 26]) .skip))) (.reg [Mv 16 8,Bc 17 .add 16 1,Mv 8 17])))))) (Sr [Mv 27 6,Mv 28 6,Oo 29 (.len true (.tmp 28)),Bc 30 .sub 29 1,Oo 31 (.ix (.tmp 27) (.tmp 30)),Cl 32 191 [(.tmp 31)],Oo 33 (.un .not (.tmp 32))] (Cd 33 (.seq (Sd [Mv 34 6,Mv 35 6,Oo 36 (.len true (.tmp 35)),Bc 37 .sub 36 1,Oo 38 (.ix (.tmp 34) (.tmp 37)),Mv 39 7,Oo 40 (.ix (.const (.string ⟨#[63,119,115,117]⟩)) (.tmp 39)),Bn 41 .neq 38 40] (Cd 41 (.reg [Mv 42 0,Nk 43 42,Fa 44 1 43,⟨none,none,(.store 1 (.tmp 44) (.const (.bool true)))⟩]) .skip)) (.reg [Mv 45 6,Mv 46 6,Oo 47 (.len true (.tmp 46)),Bc 48 .sub 47 1,Oo 49 (.sls (.tmp 45) none (some (.tmp 48))),Mv 6 49])) .skip))) .skip)) (Sr [Mv 50 0,Mv 51 6,Cl 52 273 [(.tmp 50),(.tmp 51)],Mv 53 7,Mv 4 52,Mv 5 53] .ret)))))
theorem k276:ZaA Tryz.prog 276=some ⟨c276,[(.tmp 4),(.tmp 5)],54⟩:=by kernel_rfl
theorem Ztj : ∀ {l:Bs}{n:Int},(∀ c∈l,digB c.toNat=true)→0≤n→0≤decL n l∧decL n l+1≤(n+1)*10 ^ l.length
 | [],n,h,h0=>by simp[decL];omega
 | c::l,n,h,h0=>by
  have hd:=Zn0 (h c (by simp))
  obtain⟨i1,i2⟩:=Ztj (l:=l) (n:=10*n+c.toNat-48) (fun x hx=>h x (by simp[hx])) om
  refine⟨i1,Int.le_trans i2 ?_⟩
  rw[List.length_cons,Int.pow_succ,Int.mul_comm (10 ^ l.length) 10,←Int.mul_assoc]
  exact Int.mul_le_mul_of_nonneg_right om (by exact_mod_cast Nat.zero_le (10 ^ l.length))
theorem numV_bd {s:ByteArray}{a b n:Int}(h:numV s a b=some n) (hb:b≤4):0≤n∧n<10000∧s.size≤4:=by
 obtain⟨h1,h2,rfl⟩:=Zmh h
 have hz:s.size≤4:=by unfold wi at h1;simp at h1;omega
 have hl:(aB s).length≤4:=by rw[Zeg];exact hz
 have:=Ztj (l:=aB s) (n:=0) (fun c hc=>Zli (l:=aB s) h2 hc) om
 have hp:(10:Int) ^ (aB s).length≤10000:=by
  obtain⟨m,hm⟩ : ∃ m,m=(aB s).length:=⟨_,rfl⟩
  rw[←hm] at hl ⊢
  have:m=0∨m=1∨m=2∨m=3∨m=4:=by omega
  rcases this with rfl | rfl | rfl | rfl | rfl <;> decide
 omega
theorem Zih {s:ByteArray}{a b:Int}{t:TS}(hb:b≤4):0≤(tNum s a b t).1∧(tNum s a b t).1<10000:=by
 unfold tNum
 split
 ·rename_i n hn;have:=numV_bd hn hb;exact⟨this.1,this.2.1⟩
 show (0:Int)≤0∧(0:Int)<10000;decide
theorem Zg2 {s:ByteArray}{t:TS}:0≤(tSix s t).1∧(tSix s t).1<10000:=Zih om
theorem ZpU {l:List ByteArray}{t:TS}(h:l.length=2):ZeU (l.map aB) t=(3600*(tNum l[0] 1 2 t).1+60*(tSix l[1] (tNum l[0] 1 2 t).2).1,(tSix l[1] (tNum l[0] 1 2 t).2).2):=by
 match l,h with
 | [a,b],_=>rfl
theorem ZlP {l:List ByteArray}{t:TS}(h:l.length=3):ZeU (l.map aB) t=(3600*(tNum l[0] 1 2 t).1+60*(tSix l[1] (tNum l[0] 1 2 t).2).1+(tSix l[2] (tSix l[1] (tNum l[0] 1 2 t).2).2).1,(tSix l[2] (tSix l[1] (tNum l[0] 1 2 t).2).2).2):=by
 match l,h with
 | [a,b,c],_=>rfl
theorem ZpV {l:List Bs}{t:TS}(h2:l.length≠2) (h3:l.length≠3):ZeU l t=(0,bad t):=by
 unfold ZeU
 split
 ·exact absurd rfl h2
 ·exact absurd rfl h3
 rfl
theorem Zh9 {s:ByteArray}{t:TS}{id:Nat}{h:AH}(hz:s.size≤24) (h1:h[id]?=some (takE t)):ACalls Tryz.prog 273 [.ptr id 0 0,sv s] h fun x h'=>x=.ret (iv (ZbE s t).1)∧h'=h.set id (takE (ZbE s t).2):=by
 have hid:id<h.length:=(List.getElem?_eq_some_iff.1 h1).1
 refine tJ' k273 fun N hn hlt hlA hbd=>?_
 simp only[tb'] at hbd ⊢
 refine ZdL (h1:=h.set id (takE t)++[]) (by rw[ZcT h1]) ?_
 refine wr'<|mw<|sn'<|Zam<|wr'<|mw<|Vw (ZcF lk lks)<|sn'<|?_
 refine cd' lk (fun hc1=>?_) (fun hc1=>?_)
 ·have hT:ZbE s t=(0,t):=if_pos hc1
  refine wr'<|mw<|sn'<|Zaa<|Zai<|Zae rz<|?_
  exact⟨_,_,rfl,Zao hn,ZbW hlt ZaK,rfl,by rw[hT],by rw[hT]⟩
 have hT0:ZbE s t=ZeU (cutC 58 (aB s)) t:=if_neg hc1
 refine Zaf<|Zah<|wr'<|mv' lkn pt5<|Zas<|Za5 (ALe.own0' (st':=1) (ty:=9) gt5 (hl0 (Zao hn)) pt5 ha0)<|wr'<|mv' lki pt6<|sn'<|Zam<|Zam<|?_
 refine Zav<|mw<|sn'<|Zap<|?_
 refine w_lp (ι:=Nat×Nat×List ByteArray×Nat) (fun (x_:Nat×Nat×List ByteArray×Nat)=>match x_ with | ⟨f,i,ps,v⟩=>[(5,.own (N+0) v ps.length),(6,iv (f:Int)),(7,iv (i:Int))]++rn' 11 25) (fun (x_:Nat×Nat×List ByteArray×Nat)=>match x_ with | ⟨f,i,ps,v⟩=>[(0,.mk v 9 1 (rows strC ps))]) (fun (x_:Nat×Nat×List ByteArray×Nat)=>match x_ with | ⟨f,i,ps,v⟩=>i≤s.size+1∧f≤i∧ps.length≤i∧(i≤s.size→clean 58 s f i∧cutC 58 (aB s)=ps.map aB++cutC 58 ((aB s).drop f))∧(i=s.size+1→cutC 58 (aB s)=ps.map aB)) (fun (x_:Nat×Nat×List ByteArray×Nat)=>match x_ with | ⟨f,i,ps,v⟩=>s.size+1-i) (⟨0,0,[],0⟩) (by exact⟨by omega,by omega,by simp,fun _=>⟨Zc3,rfl⟩,fun h=>by omega⟩) ?_
 rintro⟨f,i,ps,v⟩ hi1
 try simp only[sm',Nat.reduceAdd]
 obtain⟨hk1,hk2,hk3,hk4,hk5⟩:=hi1
 refine Zam<|wr'<|mw<|mw<|Vw (Zbe lk)<|Vw (Zdq lk lk)<|sn'<|?_
 refine cd' lk (fun hc2=>?_) (fun hc2=>?_)
 ·have hi:i≤s.size:=by omega
  obtain⟨hk6,hk7⟩:=hk4 hi
  refine Zaf<|Zah<|Zam<|Zap<|wr'<|mw<|mw<|Vw (Zbe lk)<|Vw (ZaP lk lk)<|mw<|?_
  refine sp' (t:=21) gt pt pt (fun hg21=>?_) (fun hg21=>?_)
  ·have hie:i=s.size:=by omega
   have hseg:cutC 58 (aB s)=(ps++[s.extract f i]).map aB:=by rw[hk7,ZmH hk6 hk2 hie];simp
   refine s_no gt pt<|s_no gt pt<|s_no gt pt<|s_no gt pt<|Vw (Zag lk lkb)<|sn'<|ZaC lk<|wr'<|mw<|mw<|mw<|mw<|?_
   refine V' (Zd0 lk (oi lk) (oi lk) om om om) pt ?_
   refine E' (Zdm (ZhF cv rfl) (hl1 (Zao hn)) ha1) pt ?_
   refine E' (Zdn (Zcs lk (hga (Zao hn) rfl) rfl ZmW (nb' rfl)) lk (hga (Zao hn) rfl) (Zeo _) om rfl (hs0 (Zao hn))) pt ?_
   refine mw<|sn'<|Zav<|mw<|?_
   refine V' (Zay lk lki om om) pt ?_
   refine mw<|Zas<|Zaz<|Zah<|Zav<|mw<|?_
   refine V' (Zay lk lki om om) pt ?_
   refine mw<|Zas<|ZaB<|?_
   refine lU' (⟨i+1,i+1,ps++[s.extract f i],v+1⟩) (by (try dsimp only);exact⟨by omega,by omega,by simp;omega,fun h=>by omega,fun _=>hseg⟩) (by (try dsimp only);(try simp only[sm',Nat.reduceAdd]);exact bkE' 1 (Zao hn) (ZbW hlt ZaK) (by repeat (first | exact wk0 | refine wka ?_ | refine wk1 rfl ?_ | refine wk1 (by first | rfl | exact ivx om | (simp;done)) ?_)) (by simp only[ZaZ,Zbi,strC];rfl))
  have hilt:i<s.size:=by omega
  refine s_do gt<|mw<|s_do gt<|mw<|s_do gt<|?_
  refine V' (v_ix lk lk om om) pt ?_
  refine s_do gt<|Vw (ZaP lk lki)<|Vw (Zaj lk lk)<|sn'<|?_
  refine cd' lk (fun hc3=>?_) (fun hc3=>?_)
  ·have hx:ZaH s i=58:=ZiU (n:=58) om hc3
   have hseg:cutC 58 (aB s)=(ps++[s.extract f i]).map aB++cutC 58 ((aB s).drop (i+1)):=by rw[hk7,Zpx hk6 hk2 hilt hx];simp
   refine wr'<|mw<|mw<|mw<|mw<|?_
   refine V' (Zd0 lk (oi lk) (oi lk) om om om) pt ?_
   refine E' (Zdm (ZhF cv rfl) (hl1 (Zao hn)) ha1) pt ?_
   refine E' (Zdn (Zcs lk (hga (Zao hn) rfl) rfl ZmW (nb' rfl)) lk (hga (Zao hn) rfl) (Zeo _) om rfl (hs0 (Zao hn))) pt ?_
   refine mw<|sn'<|Zav<|mw<|?_
   refine V' (Zay lk lki om om) pt ?_
   refine mw<|Zas<|Zaz<|Zah<|Zav<|mw<|?_
   refine V' (Zay lk lki om om) pt ?_
   refine mw<|Zas<|ZaB<|?_
   refine lU' (⟨i+1,i+1,ps++[s.extract f i],v+1⟩) (by (try dsimp only);exact⟨by omega,by omega,by simp;omega,fun h=>⟨Zc3,hseg⟩,fun h=>by omega⟩) (by (try dsimp only);(try simp only[sm',Nat.reduceAdd]);exact bkE' 1 (Zao hn) (ZbW hlt ZaK) (by repeat (first | exact wk0 | refine wka ?_ | refine wk1 rfl ?_ | refine wk1 (by first | rfl | exact ivx om | (simp;done)) ?_)) (by simp only[ZaZ,Zbi,strC];rfl))
  have hx:ZaH s i≠58:=Zle (n:=58) om hc3
  refine Zaf<|Zaz<|Zah<|Zav<|mw<|?_
  refine V' (Zay lk lki om om) pt ?_
  refine mw<|Zas<|ZaB<|?_
  refine lU' (⟨f,i+1,ps,v⟩) (by (try dsimp only);exact⟨by omega,by omega,by omega,fun h=>⟨ZpA hk6 hk2 hilt hx,hk7⟩,fun h=>by omega⟩) (by (try dsimp only);(try simp only[sm',Nat.reduceAdd]);exact ALe.same (by repeat (first | exact wk0 | refine wka ?_ | refine wk1 rfl ?_ | refine wk1 (by first | rfl | exact ivx om | (simp;done)) ?_)) rfl)
 have hC:=hk5 om
 rw[hC] at hT0
 have hps:ps.length≤25:=by omega
 refine ZaQ<|ZaD<|ZaD<|Zba<|Zah<|Zam<|wr'<|mw<|Vw (ZcW lk)<|Vw (ZaT lk lki)<|mw<|?_
 refine sp' (t:=39) gt pt pt (fun hg39=>?_) (fun hg39=>?_)
 ·refine s_do gt<|mw<|s_do gt<|Vw (ZcW lk)<|s_do gt<|Vw (ZaT lk lki)<|Vw (Zag lk lk)<|sn'<|?_
  refine cd' lk (fun hc4=>?_) (fun hc4=>?_)
  ·rw[ZpV (by rw[List.length_map];omega) (by rw[List.length_map];omega)] at hT0
   refine wr'<|mw<|Vw (Zbr lk)<|Vw (Zab lk)<|E' (Zak lk (cvl lkb rfl) (ZaX hid) rfl (nb' rfl) rfl Zkr (ZaJ hid)) ptn<|sn'<|wr'<|mw<|sn'<|Zaa<|?_
   refine Zai<|Zae rz<|?_
   exact⟨_,_,rfl,Zao hn,ZbW hlt ZaK,rfl,by rw[hT0],by rw[hT0]⟩
  have hl3:ps.length=3:=by omega
  have hl0:2≤ps.length:=by omega
  rw[ZlP hl3] at hT0
  refine Zaf ?_
  refine Za5 (ALe.iceR (hga (Zao hn) rfl) gt5 (List.take_of_length_le (by rw[Za6 ZbY];first | exact Nat.le_refl _ | omega)) (by rw[Za6 ZbY];first | exact Nat.le_refl _ | omega) pt5 (hs0 (Zao hn))) ?_
  refine Zam<|Zb2<|u_fr rfl (v_mv lk) pt<|u_fr rfl (v_mv lk) pt<|?_
  refine u_fr rfl (Za0 (k:=0) lk lki ZbY (nb' rfl) ro om ro rfl) pt ?_
  refine u_fr rfl (ZaE lk gt) pt ?_
  refine Zc0 mp (ZaX hid) (fun hU hUe=>ZdQ om hUe) nh (ZaJ hid) pt ?_
  have hb1:=Zih (s:=ps[0]) (a:=1) (b:=2) (t:=t) om
  refine u_fr rfl (ZeN lki lk om om) pt ?_
  refine u_fr rfl (v_mv lk) pt<|u_fr rfl (v_mv lk) pt<|?_
  refine u_fr rfl (Za0 (k:=1) lk lki ZbY (nb' rfl) ro om ro rfl) pt ?_
  refine u_fr rfl (ZaE lk gt) pt ?_
  refine Zc0 mp (ZaX hid) (fun hU hUe=>ZrE hUe) nh (ZaJ hid) pt ?_
  have hb2:=Zg2 (s:=ps[1]) (t:=(tNum ps[0] 1 2 t).2)
  refine u_fr rfl (ZeN lki lk om om) pt ?_
  refine u_fr rfl (Zay lk lk om om) pt ?_
  refine u_fr rfl (v_mv lk) pt<|Zc8<|Zah<|Zam<|wr'<|mw<|Vw (ZaL lk)<|Vw (ZaP lk lki)<|sn'<|?_
  refine ZcZ lk (by simp[hl3]) ?_
  refine Zav<|mw<|mw<|mw<|?_
  refine V' (Za0 (k:=2) lk lki ZbY (nb' rfl) ro om ro rfl) pt ?_
  refine Vw (ZaE lk gt)<|ZaO mp (ZrE (ZaX hid)) (ZaJ hid) pt<|?_
  have hb3:=Zg2 (s:=ps[2]) (t:=(tSix ps[1] (tNum ps[0] 1 2 t).2).2)
  refine V' (Zay lk lk om om) pt ?_
  refine mw<|sn'<|wr'<|mw<|mw<|sn'<|Zaa<|Zae rz<|?_
  exact⟨_,_,rfl,Zao hn,ZbW hlt ZaK,rfl,by rw[hT0] <;> rfl,by rw[hT0] <;> rfl⟩
 have hl2:ps.length=2:=by omega
 have hl0:2≤ps.length:=by omega
 rw[ZpU hl2] at hT0
 refine s_no gt pt<|s_no gt pt<|s_no gt pt<|Vw (Zaj lk lkb)<|sn'<|ZaM lk<|Zaf<|?_
 refine Za5 (ALe.iceR (hga (Zao hn) rfl) gt5 (List.take_of_length_le (by rw[Za6 ZbY];first | exact Nat.le_refl _ | omega)) (by rw[Za6 ZbY];first | exact Nat.le_refl _ | omega) pt5 (hs0 (Zao hn))) ?_
 refine Zam<|Zb2<|u_fr rfl (v_mv lk) pt<|u_fr rfl (v_mv lk) pt<|?_
 refine u_fr rfl (Za0 (k:=0) lk lki ZbY (nb' rfl) ro om ro rfl) pt ?_
 refine u_fr rfl (ZaE lk gt) pt ?_
 refine Zc0 mp (ZaX hid) (fun hU hUe=>ZdQ om hUe) nh (ZaJ hid) pt ?_
 have hb1:=Zih (s:=ps[0]) (a:=1) (b:=2) (t:=t) om
 refine u_fr rfl (ZeN lki lk om om) pt ?_
 refine u_fr rfl (v_mv lk) pt<|u_fr rfl (v_mv lk) pt<|?_
 refine u_fr rfl (Za0 (k:=1) lk lki ZbY (nb' rfl) ro om ro rfl) pt ?_
 refine u_fr rfl (ZaE lk gt) pt ?_
 refine Zc0 mp (ZaX hid) (fun hU hUe=>ZrE hUe) nh (ZaJ hid) pt ?_
 have hb2:=Zg2 (s:=ps[1]) (t:=(tNum ps[0] 1 2 t).2)
 refine u_fr rfl (ZeN lki lk om om) pt ?_
 refine u_fr rfl (Zay lk lk om om) pt ?_
 refine u_fr rfl (v_mv lk) pt<|Zc8<|Zah<|Zam<|wr'<|mw<|Vw (ZaL lk)<|Vw (ZaP lk lki)<|sn'<|?_
 refine ZdO lk (by simp[hl2]) ?_
 refine Zaf<|Zah<|wr'<|mw<|mw<|sn'<|Zaa<|Zae rz<|?_
 exact⟨_,_,rfl,Zao hn,ZbW hlt ZaK,rfl,by rw[hT0] <;> rfl,by rw[hT0] <;> rfl⟩
theorem Zdg {t t1:TS}{s:ByteArray}{id:Nat}{h:AH}(he:ZaR t=(s,t1)) (h1:h[id]?=some (takE t)):ACalls Tryz.prog 200 [.ptr id 0 0] h fun x h'=>x=.ret (sv s)∧h'=h.set id (takE t1):=by
 have:=Znh h1
 rw[he] at this
 exact this
theorem Zfq {s:ByteArray}{k:Nat}{n:Int}(h:¬((ZaH s (k:Int).toNat).toNat:Int)=n):ZcN s k≠n:=h
theorem tform_a {t:TS}{id:Nat}{h:AH}(hz:(ZaR t).1.size≤24) (h1:h[id]?=some (takE t)):ACalls Tryz.prog 277 [.ptr id 0 0] h fun x h'=>x=.ret (.agg [iv (Zg3 t).1.1,iv (Zg3 t).1.2.1,iv (Zg3 t).1.2.2])∧h'=h.set id (takE (Zg3 t).2):=by
 have hid:id<h.length:=(List.getElem?_eq_some_iff.1 h1).1
 obtain⟨s,t1,he⟩ : ∃ s t1,ZaR t=(s,t1):=⟨_,_,rfl⟩
 have hF:Zg3 t=ZbT s t1:=by unfold Zg3;rw[he]
 rw[he] at hz
 replace hz:s.size≤24:=hz
 obtain⟨q,hq⟩ : ∃ q,q=Zd4 s:=⟨_,rfl⟩
 have hK:Zd4 s=if 4≤s.size∧s.extract 0 4=bA [108,97,115,116] then 2 else if 5<s.size∧ZcN s 4=61∧ZcN s 3=62 then 3 else if 5<s.size∧ZcN s 4=61∧ZcN s 3=60 then 4 else 1:=rfl
 refine tJ' k277 fun N hn hlt hlA hbd=>?_
 simp only[tb'] at hbd ⊢
 refine ZdL (h1:=h.set id (takE t)++[]) (by rw[ZcT h1]) ?_
 refine wr'<|E' (ZaV (hl0 (Zao hn)) ha0) pt<|sn'<|wr'<|mw<|ZaO mp (Zdg he (ZaX hid)) (ZaJ hid) pt<|mw<|sn'<|Zam<|Zam<|?_
 refine Zav<|mw<|Vw (Zbe lk)<|Vw (ZeR lk lki)<|mw<|?_
 refine sp' (t:=10) gt pt pt (fun hg10=>?_) (fun hg10=>?_)
 ·refine s_do gt<|mw<|s_do gt<|?_
  refine V' (Zd0 lk on_ (oi lki) om om om) pt ?_
  refine s_do gt<|Vw (ZcF lk lks)<|Vw (Zag lk lk)<|sn'<|?_
  refine cd' lk (fun hc1=>?_) (fun hc1=>?_)
  ·have hk:Zd4 s=2:=by rw[hK];exact if_pos ⟨by omega,hc1⟩
   have hT:Zg3 t=((2,(Zd6 (s.extract 4 s.size) t1).1,0),(Zd6 (s.extract 4 s.size) t1).2):=by rw[hF];unfold ZbT;rw[if_pos hk]
   refine wr'<|mw<|mw<|?_
   refine V' (Zd0 lk (oi lki) on_ om om om) pt ?_
   refine ZaO mp (Zh6 (ZaX hid)) (ZaJ hid) pt<|Vw (Zau (ZmX (cvl lki rfl) rfl cv rfl))<|E' (Zak lk cv (hga (Zao hn) rfl) rfl (nb' rfl) rfl Zbq (hs0 (Zao hn))) ptn<|sn'<|Zaa<|Zai<|Zae (rs1 (rr_c gt (hga (Zao hn) rfl) (ld1 Zbp rfl)))<|?_
   exact⟨_,_,rfl,Zao hn,ZbW hlt ZaK,rfl,by rw[hT] <;> rfl,by rw[hT] <;> rfl⟩
  have hn2:¬(4≤s.size∧s.extract 0 4=bA [108,97,115,116]):=fun e=>hc1 e.2
  rw[if_neg hn2] at hK
  refine Zaf<|Zah<|Zam<|wr'<|mw<|Vw (Zbe lk)<|Vw (ZbD lk lki)<|mw<|?_
  refine sp' (t:=23) gt pt pt (fun hg23=>?_) (fun hg23=>?_)
  ·refine s_do gt<|mw<|s_do gt<|?_
   refine V' (v_ix lk lki om om) pt ?_
   refine s_do gt<|Vw (ZaP lk lki)<|Vw (Zag lk lk)<|mw<|?_
   refine sp' (t:=28) gt pt pt (fun hg28=>?_) (fun hg28=>?_)
   ·refine s_do gt<|mw<|s_do gt<|?_
    refine V' (v_ix lk lki om om) pt ?_
    refine s_do gt<|Vw (ZaP lk lki)<|s_do gt<|mw<|?_
    refine sp' (t:=32) gt pt pt (fun hg32=>?_) (fun hg32=>?_)
    ·have hk:Zd4 s=3:=by rw[hK];exact if_pos ⟨by omega,hg28,hg32⟩
     refine s_no gt pt<|s_no gt pt<|s_no gt pt<|s_do gt<|Vw (Zag lk lkb)<|Vw (Zag lk lk)<|sn'<|ZaC lk<|Zam<|Zb2<|u_fr rfl (v_mv lk) pt<|u_fr rfl (v_mv lk) pt<|?_
     refine u_fr rfl (Zd0 lk on_ (oi lki) om om om) pt ?_
     refine Zc0 mp (ZaX hid) (fun hU hUe=>Zh6 hUe) nh (ZaJ hid) pt ?_
     refine u_fr rfl (v_mv lk) pt<|u_fr rfl (v_mv lk) pt<|?_
     refine u_fr rfl (Zd0 lk (oi lki) on_ om om om) pt ?_
     refine Zc0 mp (ZaX hid) (fun hU hUe=>ZdQ om hUe) nh (ZaJ hid) pt ?_
     refine u_fr rfl (Zau (ZdZ (cvl lki rfl) rfl cv rfl cv rfl)) pt ?_
     refine u_al rfl (ZaV (hl1 (Zao hn)) ha1) (hl1 (Zao hn)) nh pt ?_
     refine u_st (Zak lk cv (hga (Zao hn) rfl) rfl (nb' rfl) rfl Zbq (hs1 (Zao hn))) lk nh ptn ?_
     refine Zc8<|Zah<|Zam<|wr'<|mw<|?_
     refine V' (v_ix lk lki om om) pt ?_
     refine Vw (ZaP lk lki)<|sn'<|?_
     refine ZdO lk (by exact decide_eq_false (by rw[hg32];decide)) ?_
     refine Zaf<|Zah<|wr'<|Vw (Zan lk (hga (Zao hn) rfl) Zbp rfl)<|E' (Zak lk cv (hga (Zao hn) rfl) rfl (nb' rfl) rfl Zbq (hs0 (Zao hn))) ptn<|sn'<|Zaa<|Zai<|Zae (rs1 (rr_c gt (hga (Zao hn) rfl) (ld1 Zbp rfl)))<|?_
     exact⟨_,_,rfl,Zao hn,ZbW hlt ZaK,rfl,by rw[hF];unfold ZbT;rw[hk] <;> rfl,by rw[hF];unfold ZbT;rw[hk] <;> rfl⟩
    have h3:ZcN s 3≠62:=Zfq hg32
    refine s_do gt<|mw<|s_do gt<|?_
    refine V' (v_ix lk lki om om) pt ?_
    refine s_do gt<|Vw (ZaP lk lki)<|s_do gt<|Vw (Zaj lk lk)<|Vw (Zag lk lk)<|sn'<|?_
    refine cd' lk (fun hc2=>?_) (fun hc2=>?_)
    ·have hk:Zd4 s=4:=by rw[hK,if_neg (fun e=>h3 e.2.2)];exact if_pos ⟨by omega,hg28,hc2⟩
     refine Zam<|Zb2<|u_fr rfl (v_mv lk) pt<|u_fr rfl (v_mv lk) pt<|?_
     refine u_fr rfl (Zd0 lk on_ (oi lki) om om om) pt ?_
     refine Zc0 mp (ZaX hid) (fun hU hUe=>Zh6 hUe) nh (ZaJ hid) pt ?_
     refine u_fr rfl (v_mv lk) pt<|u_fr rfl (v_mv lk) pt<|?_
     refine u_fr rfl (Zd0 lk (oi lki) on_ om om om) pt ?_
     refine Zc0 mp (ZaX hid) (fun hU hUe=>ZdQ om hUe) nh (ZaJ hid) pt ?_
     refine u_fr rfl (Zau (ZdZ (cvl lki rfl) rfl cv rfl cv rfl)) pt ?_
     refine u_al rfl (ZaV (hl1 (Zao hn)) ha1) (hl1 (Zao hn)) nh pt ?_
     refine u_st (Zak lk cv (hga (Zao hn) rfl) rfl (nb' rfl) rfl Zbq (hs1 (Zao hn))) lk nh ptn ?_
     refine Zc8<|Zah<|Zam<|wr'<|mw<|?_
     refine V' (v_ix lk lki om om) pt ?_
     refine Vw (ZaP lk lki)<|sn'<|?_
     refine ZcZ lk (by exact decide_eq_true hc2) ?_
     refine Zav<|Vw (Zab lk)<|E' (Zak lk (cvl lki rfl) (hga (Zao hn) rfl) rfl (nb' rfl) rfl Zks (hs1 (Zao hn))) ptn<|sn'<|wr'<|Vw (Zan lk (hga (Zao hn) rfl) Zbp rfl)<|E' (Zak lk cv (hga (Zao hn) rfl) rfl (nb' rfl) rfl Zbq (hs0 (Zao hn))) ptn<|sn'<|Zaa<|Zai<|Zae (rs1 (rr_c gt (hga (Zao hn) rfl) (ld1 Zbp rfl)))<|?_
     exact⟨_,_,rfl,Zao hn,ZbW hlt ZaK,rfl,by rw[hF];unfold ZbT;rw[hk] <;> rfl,by rw[hF];unfold ZbT;rw[hk] <;> rfl⟩
    have h3':ZcN s 3≠60:=Zfq hc2
    have hk:Zd4 s=1:=by rw[hK,if_neg (fun e=>h3 e.2.2),if_neg (fun e=>h3' e.2.2)]
    refine Zaf<|Zah<|wr'<|mw<|mw<|?_
    refine ZaO mp (ZdQ om (ZaX hid)) (ZaJ hid) pt ?_
    refine Vw (Zau (ZcH (cvl lki rfl) rfl cv rfl))<|E' (Zak lk cv (hga (Zao hn) rfl) rfl (nb' rfl) rfl Zbq (hs0 (Zao hn))) ptn<|sn'<|Zaa<|Zae (rs1 (rr_c gt (hga (Zao hn) rfl) (ld1 Zbp rfl)))<|?_
    exact⟨_,_,rfl,Zao hn,ZbW hlt ZaK,rfl,by rw[hF];unfold ZbT;rw[hk] <;> rfl,by rw[hF];unfold ZbT;rw[hk] <;> rfl⟩
   have h4:ZcN s 4≠61:=Zfq hg28
   have hk:Zd4 s=1:=by rw[hK,if_neg (fun e=>h4 e.2.1),if_neg (fun e=>h4 e.2.1)]
   refine s_no gt pt<|s_no gt pt<|s_no gt pt<|s_no gt pt<|s_nu gt pt<|s_nu gt pt<|s_nu gt pt<|s_no gt pt<|Vw (Zaj lk lkb)<|sn'<|ZaM lk<|Zaf<|Zah<|?_
   refine wr'<|mw<|mw<|?_
   refine ZaO mp (ZdQ om (ZaX hid)) (ZaJ hid) pt ?_
   refine Vw (Zau (ZcH (cvl lki rfl) rfl cv rfl))<|E' (Zak lk cv (hga (Zao hn) rfl) rfl (nb' rfl) rfl Zbq (hs0 (Zao hn))) ptn<|sn'<|Zaa<|Zae (rs1 (rr_c gt (hga (Zao hn) rfl) (ld1 Zbp rfl)))<|?_
   exact⟨_,_,rfl,Zao hn,ZbW hlt ZaK,rfl,by rw[hF];unfold ZbT;rw[hk] <;> rfl,by rw[hF];unfold ZbT;rw[hk] <;> rfl⟩
  have hk:Zd4 s=1:=by rw[hK,if_neg om,if_neg om]
  refine s_no gt pt<|s_no gt pt<|s_no gt pt<|Vw (Zaj lk lkb)<|mw<|s_no gt pt<|s_no gt pt<|s_no gt pt<|s_no gt pt<|s_nu gt pt<|s_nu gt pt<|s_nu gt pt<|s_no gt pt<|Vw (Zaj lk lkb)<|?_
  refine sn'<|ZaM lk<|Zaf<|Zah<|wr'<|mw<|mw<|?_
  refine ZaO mp (ZdQ om (ZaX hid)) (ZaJ hid) pt ?_
  refine Vw (Zau (ZcH (cvl lki rfl) rfl cv rfl))<|E' (Zak lk cv (hga (Zao hn) rfl) rfl (nb' rfl) rfl Zbq (hs0 (Zao hn))) ptn<|sn'<|Zaa<|Zae (rs1 (rr_c gt (hga (Zao hn) rfl) (ld1 Zbp rfl)))<|?_
  exact⟨_,_,rfl,Zao hn,ZbW hlt ZaK,rfl,by rw[hF];unfold ZbT;rw[hk] <;> rfl,by rw[hF];unfold ZbT;rw[hk] <;> rfl⟩
 have hn2:¬(4≤s.size∧s.extract 0 4=bA [108,97,115,116]):=fun e=>by omega
 rw[if_neg hn2] at hK
 refine s_no gt pt<|s_no gt pt<|s_no gt pt<|Vw (Zaj lk lkb)<|sn'<|ZaM lk<|Zaf<|Zah<|Zam<|wr'<|mw<|Vw (Zbe lk)<|?_
 refine Vw (ZbD lk lki)<|mw<|?_
 refine sp' (t:=23) gt pt pt (fun hg23=>?_) (fun hg23=>?_)
 ·refine s_do gt<|mw<|s_do gt<|?_
  refine V' (v_ix lk lki om om) pt ?_
  refine s_do gt<|Vw (ZaP lk lki)<|Vw (Zag lk lk)<|mw<|?_
  refine sp' (t:=28) gt pt pt (fun hg28=>?_) (fun hg28=>?_)
  ·refine s_do gt<|mw<|s_do gt<|?_
   refine V' (v_ix lk lki om om) pt ?_
   refine s_do gt<|Vw (ZaP lk lki)<|s_do gt<|mw<|?_
   refine sp' (t:=32) gt pt pt (fun hg32=>?_) (fun hg32=>?_)
   ·have hk:Zd4 s=3:=by rw[hK];exact if_pos ⟨by omega,hg28,hg32⟩
    refine s_no gt pt<|s_no gt pt<|s_no gt pt<|s_do gt<|Vw (Zag lk lkb)<|Vw (Zag lk lk)<|sn'<|ZaC lk<|Zam<|Zb2<|u_fr rfl (v_mv lk) pt<|u_fr rfl (v_mv lk) pt<|?_
    refine u_fr rfl (Zd0 lk on_ (oi lki) om om om) pt ?_
    refine Zc0 mp (ZaX hid) (fun hU hUe=>Zh6 hUe) nh (ZaJ hid) pt ?_
    refine u_fr rfl (v_mv lk) pt<|u_fr rfl (v_mv lk) pt<|?_
    refine u_fr rfl (Zd0 lk (oi lki) on_ om om om) pt ?_
    refine Zc0 mp (ZaX hid) (fun hU hUe=>ZdQ om hUe) nh (ZaJ hid) pt ?_
    refine u_fr rfl (Zau (ZdZ (cvl lki rfl) rfl cv rfl cv rfl)) pt ?_
    refine u_al rfl (ZaV (hl1 (Zao hn)) ha1) (hl1 (Zao hn)) nh pt ?_
    refine u_st (Zak lk cv (hga (Zao hn) rfl) rfl (nb' rfl) rfl Zbq (hs1 (Zao hn))) lk nh ptn ?_
    refine Zc8<|Zah<|Zam<|wr'<|mw<|?_
    refine V' (v_ix lk lki om om) pt ?_
    refine Vw (ZaP lk lki)<|sn'<|?_
    refine ZdO lk (by exact decide_eq_false (by rw[hg32];decide)) ?_
    refine Zaf<|Zah<|wr'<|Vw (Zan lk (hga (Zao hn) rfl) Zbp rfl)<|E' (Zak lk cv (hga (Zao hn) rfl) rfl (nb' rfl) rfl Zbq (hs0 (Zao hn))) ptn<|sn'<|Zaa<|Zai<|Zae (rs1 (rr_c gt (hga (Zao hn) rfl) (ld1 Zbp rfl)))<|?_
    exact⟨_,_,rfl,Zao hn,ZbW hlt ZaK,rfl,by rw[hF];unfold ZbT;rw[hk] <;> rfl,by rw[hF];unfold ZbT;rw[hk] <;> rfl⟩
   have h3:ZcN s 3≠62:=Zfq hg32
   refine s_do gt<|mw<|s_do gt<|?_
   refine V' (v_ix lk lki om om) pt ?_
   refine s_do gt<|Vw (ZaP lk lki)<|s_do gt<|Vw (Zaj lk lk)<|Vw (Zag lk lk)<|sn'<|?_
   refine cd' lk (fun hc2=>?_) (fun hc2=>?_)
   ·have hk:Zd4 s=4:=by rw[hK,if_neg (fun e=>h3 e.2.2)];exact if_pos ⟨by omega,hg28,hc2⟩
    refine Zam<|Zb2<|u_fr rfl (v_mv lk) pt<|u_fr rfl (v_mv lk) pt<|?_
    refine u_fr rfl (Zd0 lk on_ (oi lki) om om om) pt ?_
    refine Zc0 mp (ZaX hid) (fun hU hUe=>Zh6 hUe) nh (ZaJ hid) pt ?_
    refine u_fr rfl (v_mv lk) pt<|u_fr rfl (v_mv lk) pt<|?_
    refine u_fr rfl (Zd0 lk (oi lki) on_ om om om) pt ?_
    refine Zc0 mp (ZaX hid) (fun hU hUe=>ZdQ om hUe) nh (ZaJ hid) pt ?_
    refine u_fr rfl (Zau (ZdZ (cvl lki rfl) rfl cv rfl cv rfl)) pt ?_
    refine u_al rfl (ZaV (hl1 (Zao hn)) ha1) (hl1 (Zao hn)) nh pt ?_
    refine u_st (Zak lk cv (hga (Zao hn) rfl) rfl (nb' rfl) rfl Zbq (hs1 (Zao hn))) lk nh ptn ?_
    refine Zc8<|Zah<|Zam<|wr'<|mw<|?_
    refine V' (v_ix lk lki om om) pt ?_
    refine Vw (ZaP lk lki)<|sn'<|?_
    refine ZcZ lk (by exact decide_eq_true hc2) ?_
    refine Zav<|Vw (Zab lk)<|E' (Zak lk (cvl lki rfl) (hga (Zao hn) rfl) rfl (nb' rfl) rfl Zks (hs1 (Zao hn))) ptn<|sn'<|wr'<|Vw (Zan lk (hga (Zao hn) rfl) Zbp rfl)<|E' (Zak lk cv (hga (Zao hn) rfl) rfl (nb' rfl) rfl Zbq (hs0 (Zao hn))) ptn<|sn'<|Zaa<|Zai<|Zae (rs1 (rr_c gt (hga (Zao hn) rfl) (ld1 Zbp rfl)))<|?_
    exact⟨_,_,rfl,Zao hn,ZbW hlt ZaK,rfl,by rw[hF];unfold ZbT;rw[hk] <;> rfl,by rw[hF];unfold ZbT;rw[hk] <;> rfl⟩
   have h3':ZcN s 3≠60:=Zfq hc2
   have hk:Zd4 s=1:=by rw[hK,if_neg (fun e=>h3 e.2.2),if_neg (fun e=>h3' e.2.2)]
   refine Zaf<|Zah<|wr'<|mw<|mw<|?_
   refine ZaO mp (ZdQ om (ZaX hid)) (ZaJ hid) pt ?_
   refine Vw (Zau (ZcH (cvl lki rfl) rfl cv rfl))<|E' (Zak lk cv (hga (Zao hn) rfl) rfl (nb' rfl) rfl Zbq (hs0 (Zao hn))) ptn<|sn'<|Zaa<|Zae (rs1 (rr_c gt (hga (Zao hn) rfl) (ld1 Zbp rfl)))<|?_
   exact⟨_,_,rfl,Zao hn,ZbW hlt ZaK,rfl,by rw[hF];unfold ZbT;rw[hk] <;> rfl,by rw[hF];unfold ZbT;rw[hk] <;> rfl⟩
  have h4:ZcN s 4≠61:=Zfq hg28
  have hk:Zd4 s=1:=by rw[hK,if_neg (fun e=>h4 e.2.1),if_neg (fun e=>h4 e.2.1)]
  refine s_no gt pt<|s_no gt pt<|s_no gt pt<|s_no gt pt<|s_nu gt pt<|s_nu gt pt<|s_nu gt pt<|s_no gt pt<|Vw (Zaj lk lkb)<|sn'<|ZaM lk<|Zaf<|Zah<|?_
  refine wr'<|mw<|mw<|?_
  refine ZaO mp (ZdQ om (ZaX hid)) (ZaJ hid) pt ?_
  refine Vw (Zau (ZcH (cvl lki rfl) rfl cv rfl))<|E' (Zak lk cv (hga (Zao hn) rfl) rfl (nb' rfl) rfl Zbq (hs0 (Zao hn))) ptn<|sn'<|Zaa<|Zae (rs1 (rr_c gt (hga (Zao hn) rfl) (ld1 Zbp rfl)))<|?_
  exact⟨_,_,rfl,Zao hn,ZbW hlt ZaK,rfl,by rw[hF];unfold ZbT;rw[hk] <;> rfl,by rw[hF];unfold ZbT;rw[hk] <;> rfl⟩
 have hk:Zd4 s=1:=by rw[hK,if_neg om,if_neg om]
 refine s_no gt pt<|s_no gt pt<|s_no gt pt<|Vw (Zaj lk lkb)<|mw<|s_no gt pt<|s_no gt pt<|s_no gt pt<|s_no gt pt<|s_nu gt pt<|s_nu gt pt<|s_nu gt pt<|s_no gt pt<|Vw (Zaj lk lkb)<|?_
 refine sn'<|ZaM lk<|Zaf<|Zah<|wr'<|mw<|mw<|?_
 refine ZaO mp (ZdQ om (ZaX hid)) (ZaJ hid) pt ?_
 refine Vw (Zau (ZcH (cvl lki rfl) rfl cv rfl))<|E' (Zak lk cv (hga (Zao hn) rfl) rfl (nb' rfl) rfl Zbq (hs0 (Zao hn))) ptn<|sn'<|Zaa<|Zae (rs1 (rr_c gt (hga (Zao hn) rfl) (ld1 Zbp rfl)))<|?_
 exact⟨_,_,rfl,Zao hn,ZbW hlt ZaK,rfl,by rw[hF];unfold ZbT;rw[hk] <;> rfl,by rw[hF];unfold ZbT;rw[hk] <;> rfl⟩
theorem Zph {c d:Int}(hd:d=1∨d=2) : ∀ k:Nat,k≤3→1≤Zdt c d k∧Zdt c d k≤3
 | 0,_=>by unfold Zdt;omega
 | k+1,h=>by
  have:=Zph (c:=c) hd k om
  unfold Zdt
  split <;> omega
theorem tclock_a {d:Int}{t:TS}{id:Nat}{h:AH}(hd:d=1∨d=2) (hz:(ZaR t).1.size≤24) (h1:h[id]?=some (takE t)):ACalls Tryz.prog 276 [.ptr id 0 0,iv d] h fun x h'=>x=.ret (.tup [iv (Zdb d t).1.1,iv (Zdb d t).1.2])∧h'=h.set id (takE (Zdb d t).2):=by
 have hid:id<h.length:=(List.getElem?_eq_some_iff.1 h1).1
 obtain⟨s,t1,he⟩ : ∃ s t1,ZaR t=(s,t1):=⟨_,_,rfl⟩
 have hF:Zdb d t=Zd2 d s t1:=by unfold Zdb;rw[he]
 rw[he] at hz
 replace hz:s.size≤24:=hz
 have hem:=ZeA (f:=s)
 have hkb:=Zph (c:=ZcL s) hd 3 om
 have hws:(⟨#[63,119,115,117]⟩:ByteArray).size=4:=rfl
 refine tJ' k276 fun N hn hlt hlA hbd=>?_
 simp only[tb'] at hbd ⊢
 refine ZdL (h1:=h.set id (takE t)++[]) (by rw[ZcT h1]) ?_
 refine wr'<|mw<|mw<|sn'<|wr'<|mw<|ZaO mp (Zdg he (ZaX hid)) (ZaJ hid) pt<|mw<|sn'<|Zam<|?_
 refine Zav<|mw<|mw<|sn'<|Zam<|wr'<|mw<|Vw (Zcr lk lks)<|sn'<|?_
 refine cd' lk (fun hc1=>?_) (fun hc1=>?_)
 ·have h0:s.size≠0:=fun e=>hc1 (hem.2 e)
  have hL:((ZaH s ((s.size:Int)-1).toNat).toNat:Int)=ZcL s:=by unfold ZcL ZcN;congr 2;congr 1;omega
  have hbl:(0:Int)≤((ZaH s ((s.size:Int)-1).toNat).toNat:Int)∧((ZaH s ((s.size:Int)-1).toNat).toNat:Int)≤255:=Ze9 _ _
  refine Zam<|wr'<|mw<|sn'<|Zap<|?_
  refine w_lp (ι:=Nat) (fun (k:Nat)=>[(7,iv (Zdt (ZcL s) d k)),(8,iv ((k+1:Nat):Int))]++rn' 14 13) (fun (k:Nat)=>[]) (fun (k:Nat)=>k≤3) (fun (k:Nat)=>3-k) (0) om ?_
  rintro k hi1
  try simp only[sm',Nat.reduceAdd]
  refine Zam<|wr'<|mw<|Vw (Zdq lk lki)<|sn'<|?_
  refine cd' lk (fun hc2=>?_) (fun hc2=>?_)
  ·have hk:k+1≤3:=by omega
   refine Zaf<|Zah<|Zam<|Zap<|Zam<|ZbZ<|Dw (v_mv lk)<|Dw (v_mv lk)<|Dw (Zbe lk)<|?_
   refine D' (Zbt lk lki om om) pt ?_
   refine D' (v_ix lk lk om om) pt ?_
   refine D' (v_mv lk) pt ?_
   refine D' (v_ix lks lk om om) pt ?_
   refine Dw (ZaP lk lk)<|ZbI<|?_
   refine Zch ?_
   refine sn' ?_
   refine cd' lk (fun hc3=>?_) (fun hc3=>?_)
   ·have hkk:Zdt (ZcL s) d (k+1)=((k+1:Nat):Int):=by unfold Zdt;exact if_pos (hL.symm.trans hc3)
    refine Zav<|mw<|mw<|Zas<|Zaz<|Zah<|Zav<|mw<|?_
    refine V' (Zay lk lki om om) pt ?_
    refine mw<|Zas<|ZaB<|?_
    refine lU' (k+1) (by (try dsimp only);omega) (by (try dsimp only);(try simp only[sm',Nat.reduceAdd]);exact ALe.same (by repeat (first | exact wk0 | refine wka ?_ | refine wk1 rfl ?_ | refine wk1 (by first | rfl | exact ivx om | exact ivx hkk.symm) ?_)) rfl)
   have hkk:Zdt (ZcL s) d (k+1)=Zdt (ZcL s) d k:=by rw[Zdt,if_neg (show ¬ZcL s=ZcN wsuA (k+1) from fun e=>hc3 (hL.trans e))]
   refine Zaf<|Zaz<|Zah<|Zav<|mw<|?_
   refine V' (Zay lk lki om om) pt ?_
   refine mw<|Zas<|ZaB<|?_
   refine lU' (k+1) (by (try dsimp only);omega) (by (try dsimp only);(try simp only[sm',Nat.reduceAdd]);exact ALe.same (by repeat (first | exact wk0 | refine wka ?_ | refine wk1 rfl ?_ | refine wk1 (by first | rfl | exact ivx om | exact ivx hkk.symm) ?_)) rfl)
  have hk3:k=3:=by omega
  subst hk3
  refine ZaQ<|ZaD<|ZaD<|Zba<|Zah<|wr'<|mw<|mw<|Vw (Zbe lk)<|?_
  refine V' (Zbt lk lki om om) pt ?_
  refine V' (v_ix lk lk om om) pt ?_
  refine Zad mp (Zea hbl.1 hbl.2) pt<|Vw (Zax lk)<|sn'<|?_
  refine Zaw lk (fun hc4=>?_) (fun hc4=>?_)
  ·have hdg:¬digB (ZcL s)=true:=by rw[←hL];simpa using hc4
   refine Zam<|Zam<|ZbZ<|Dw (v_mv lk)<|Dw (v_mv lk)<|Dw (Zbe lk)<|?_
   refine D' (Zbt lk lki om om) pt ?_
   refine D' (v_ix lk lk om om) pt ?_
   refine D' (v_mv lk) pt ?_
   refine D' (v_ix lks lk om om) pt ?_
   refine Dw (ZaT lk lk)<|ZbI<|?_
   refine Zch ?_
   refine sn' ?_
   refine cd' lk (fun hc5=>?_) (fun hc5=>?_)
   ·have hne:¬ZcL s=ZcN wsuA (Zdt (ZcL s) d 3).toNat:=fun e=>hc5 (hL.trans e)
    have hT:Zdb d t=(((ZbE (s.extract 0 (s.size-1)) (bad t1)).1,Zdt (ZcL s) d 3),(ZbE (s.extract 0 (s.size-1)) (bad t1)).2):=by rw[hF];unfold Zd2;rw[if_neg h0,if_neg hdg];simp only[if_neg hne]
    refine Zav<|mw<|Vw (Zbr lk)<|Vw (Zab lk)<|E' (Zak lk (cvl lkb rfl) (ZaX hid) rfl (nb' rfl) rfl Zkr (ZaJ hid)) ptn<|sn'<|Zav<|mw<|mw<|Vw (Zbe lk)<|?_
    refine V' (Zbt lk lki om om) pt ?_
    refine V' (Zd0 lk on_ (oi lk) om om om) pt ?_
    rw[show s.extract (Int.toNat 0) ((s.size:Int)-1).toNat=s.extract 0 (s.size-1) by congr 1;omega]
    refine mw<|sn'<|wr'<|mw<|mw<|?_
    refine ZaO mp (Zh9 (t:=bad t1) (by first | assumption | (rw[ByteArray.size_extract];omega)) (ZaX hid)) (ZaJ hid) pt ?_
    refine mw<|mw<|mw<|sn'<|Zaa<|Zae ry<|?_
    exact⟨_,_,rfl,Zao hn,ZbW hlt ZaK,rfl,by rw[hT] <;> rfl,by rw[hT] <;> rfl⟩
   have hne:ZcL s=ZcN wsuA (Zdt (ZcL s) d 3).toNat:=hL.symm.trans (Decidable.of_not_not hc5)
   have hT:Zdb d t=(((ZbE (s.extract 0 (s.size-1)) t1).1,Zdt (ZcL s) d 3),(ZbE (s.extract 0 (s.size-1)) t1).2):=by rw[hF];unfold Zd2;rw[if_neg h0,if_neg hdg];simp only[if_pos hne]
   refine Zaf<|Zah<|Zav<|mw<|mw<|Vw (Zbe lk)<|?_
   refine V' (Zbt lk lki om om) pt ?_
   refine V' (Zd0 lk on_ (oi lk) om om om) pt ?_
   rw[show s.extract (Int.toNat 0) ((s.size:Int)-1).toNat=s.extract 0 (s.size-1) by congr 1;omega]
   refine mw<|sn'<|wr'<|mw<|mw<|?_
   refine ZaO mp (Zh9 (t:=t1) (by first | assumption | (rw[ByteArray.size_extract];omega)) (ZaX hid)) (ZaJ hid) pt ?_
   refine mw<|mw<|mw<|sn'<|Zaa<|Zae ry<|?_
   exact⟨_,_,rfl,Zao hn,ZbW hlt ZaK,rfl,by rw[hT] <;> rfl,by rw[hT] <;> rfl⟩
  have hdg:digB (ZcL s)=true:=by rw[←hL];simpa using hc4
  have hT:Zdb d t=(((ZbE s t1).1,Zdt (ZcL s) d 3),(ZbE s t1).2):=by rw[hF];unfold Zd2;rw[if_neg h0,if_pos hdg]
  refine Zaf<|Zah<|wr'<|mw<|mw<|?_
  refine ZaO mp (Zh9 (t:=t1) (by first | assumption | (rw[ByteArray.size_extract];omega)) (ZaX hid)) (ZaJ hid) pt ?_
  refine mw<|mw<|mw<|sn'<|Zaa<|Zae ry<|?_
  exact⟨_,_,rfl,Zao hn,ZbW hlt ZaK,rfl,by rw[hT] <;> rfl,by rw[hT] <;> rfl⟩
 have h0:s.size=0:=hem.1 (Decidable.of_not_not hc1)
 have hT:Zdb d t=(((ZbE s t1).1,d),(ZbE s t1).2):=by rw[hF];exact if_pos h0
 refine Zaf<|Zah<|wr'<|mw<|mw<|?_
 refine ZaO mp (Zh9 (t:=t1) (by first | assumption | (rw[ByteArray.size_extract];omega)) (ZaX hid)) (ZaJ hid) pt ?_
 refine mw<|mw<|mw<|sn'<|Zaa<|Zae ry<|?_
 exact⟨_,_,rfl,Zao hn,ZbW hlt ZaK,rfl,by rw[hT] <;> rfl,by rw[hT] <;> rfl⟩
end Go.Proofs.YtlekejpogddndaaGreatDoor
end
section
namespace Go.Proofs.YtlekejpogddndaaGreatDoor
open Go.Ab Go.RowKit Civ
attribute [local simp] ZbU
section
theorem Zfw {a0 c0:AV}{l:List AV}:setCells (a0::l) 0 [c0]=c0::l:=rfl
theorem ZbP {a0 a1 c0:AV}{l:List AV}:setCells (a0::a1::l) 1 [c0]=a0::c0::l:=rfl
theorem Zek {a0 a1 a2 c0:AV}{l:List AV}:setCells (a0::a1::a2::l) 2 [c0]=a0::a1::c0::l:=rfl
theorem Zkq {a0 a1 a2 a3 c0:AV}{l:List AV}:setCells (a0::a1::a2::a3::l) 3 [c0]=a0::a1::a2::c0::l:=rfl
theorem Zq4 {a0 a1 a2 a3 a4 a5 a6 c0 c1 c2:AV}{l:List AV}:setCells (a0::a1::a2::a3::a4::a5::a6::l) 4 [c0,c1,c2]=a0::a1::a2::a3::c0::c1::c2::l:=rfl
theorem Zq2 {a0 a1 a2 a3 a4 a5 a6 a7 c0:AV}{l:List AV}:setCells (a0::a1::a2::a3::a4::a5::a6::a7::l) 7 [c0]=a0::a1::a2::a3::a4::a5::a6::c0::l:=rfl
theorem Zkp {a0 a1 a2 a3 a4 a5 a6 a7 a8 c0:AV}{l:List AV}:setCells (a0::a1::a2::a3::a4::a5::a6::a7::a8::l) 8 [c0]=a0::a1::a2::a3::a4::a5::a6::a7::c0::l:=rfl
theorem Zko {a0 a1 a2 a3 a4 a5 a6 a7 a8 a9 c0:AV}{l:List AV}:setCells (a0::a1::a2::a3::a4::a5::a6::a7::a8::a9::l) 9 [c0]=a0::a1::a2::a3::a4::a5::a6::a7::a8::c0::l:=rfl
theorem Zf1 {a0 a1 a2 a3 a4 a5 a6 a7 a8 a9 a10 c0:AV}{l:List AV}:setCells (a0::a1::a2::a3::a4::a5::a6::a7::a8::a9::a10::l) 10 [c0]=a0::a1::a2::a3::a4::a5::a6::a7::a8::a9::c0::l:=rfl
theorem Zcj {a0 a1 a2 a3 a4 a5 a6 a7 a8 a9 a10:AV}{l:List AV}:((a0::a1::a2::a3::a4::a5::a6::a7::a8::a9::a10::l).drop 0).take 11=[a0,a1,a2,a3,a4,a5,a6,a7,a8,a9,a10]:=rfl
theorem ZeH {a0 a1 a2 a3 a4 a5 a6 a7 a8 a9 a10 c0 c1 c2 c3 c4 c5 c6 c7 c8 c9 c10:AV}{l:List AV}:setCells (a0::a1::a2::a3::a4::a5::a6::a7::a8::a9::a10::l) 0 [c0,c1,c2,c3,c4,c5,c6,c7,c8,c9,c10]=c0::c1::c2::c3::c4::c5::c6::c7::c8::c9::c10::l:=rfl
theorem Zq5 {a0 a1 a2 a3 a4 c0:AV}{l:List AV}:setCells (a0::a1::a2::a3::a4::l) 4 [c0]=a0::a1::a2::a3::c0::l:=rfl
theorem Zc6 {a0 a1 a2 a3 a4 a5 a6 a7 a8 a9:AV}{l:List AV}:((a0::a1::a2::a3::a4::a5::a6::a7::a8::a9::l).drop 0).take 10=[a0,a1,a2,a3,a4,a5,a6,a7,a8,a9]:=rfl
theorem Zf2 {a0 a1 a2 a3 a4 a5 a6 a7 a8 a9 c0 c1 c2 c3 c4 c5 c6 c7 c8 c9:AV}{l:List AV}:setCells (a0::a1::a2::a3::a4::a5::a6::a7::a8::a9::l) 0 [c0,c1,c2,c3,c4,c5,c6,c7,c8,c9]=c0::c1::c2::c3::c4::c5::c6::c7::c8::c9::l:=rfl
theorem Zlr {τ:Operand→AV}{y0 y1 y2:Operand}{x0_0 x1_0 x2_0:AV}(h0:Zat (τ y0)=some [x0_0]) (l0:[x0_0].all leaf=true) (h1:Zat (τ y1)=some [x1_0]) (l1:[x1_0].all leaf=true) (h2:Zat (τ y2)=some [x2_0]) (l2:[x2_0].all leaf=true):Zar τ [(0,1,y0),(1,1,y1),(2,1,y2)] [(.v (.int .i64 0)),(.v (.int .i64 0)),(.v (.int .i64 0))]=some [x0_0,x1_0,x2_0]:=by
 simp only[Zar,h0,l0,h1,l1,h2,l2]
 rfl
theorem Zq3 {a0 a1 a2 a3 a4 a5 a6 a7 c0 c1 c2:AV}{l:List AV}:setCells (a0::a1::a2::a3::a4::a5::a6::a7::l) 5 [c0,c1,c2]=a0::a1::a2::a3::a4::c0::c1::c2::l:=rfl
end
def c202:AC:=(Sr [Oo 2 (.new 36 11 [Ss,(iv 0),(iv 0),(iv 0),(iv 0),(iv 0),(iv 0),(iv 0),(iv 0),(iv 0),Ss])] (Sr [Oo 3 (.new 36 11 [Ss,(iv 0),(iv 0),(iv 0),(iv 0),(iv 0),(iv 0),(iv 0),(iv 0),(iv 0),Ss])] (Sr [Mv 5 0,Cl 6 203 [(.tmp 5)],Fa 7 0 3,Sc 7 6] (Sr [Mv 8 0,Mv 9 0,Cl 10 200 [(.tmp 9)],Cl 11 274 [(.tmp 8),(.tmp 10),(Ci 4),(Ci 4)],Fa 12 1 3,Sc 12 11] (Sr [Mv 13 0,Cl 14 200 [(.tmp 13)],Mv 4 14] (.seq (Sr [Mv 15 4] (.block 0 (Sr [Oo 21 (.bin .eql (.tmp 15) (.const (.string ⟨#[111,110,108,121]⟩))),Mv 20 21] (Cd 20 (.reg [Fa 22 1 3,Ld 23 22,Fa 24 2 3,Sc 24 23]) (Sr [Oo 26 (.bin .eql (.tmp 15) (.const (.string ⟨#[109,97,120]⟩))),Mv 25 26] (Cd 25 (.reg [Fa 27 2 3,⟨none,none,(.store 1 (.tmp 27) (Ci 2100))⟩]) (.reg [Mv 16 0,Mv 17 4,Cl 18 274 [(.tmp 16),(.tmp 17),(Ci 4),(Ci 4)],Fa 19 2 3,Sc 19 18]))))))) (Sr [Mv 28 0,Cl 29 275 [(.tmp 28)],Fa 30 3 3,Sc 30 29] (Sr [Mv 31 0,Cl 32 277 [(.tmp 31)],Fa 33 4 3,⟨none,none,(.store 3 (.tmp 33) (.tmp 32))⟩] (Sr [Mv 35 0,Cl 36 276 [(.tmp 35),(Ci 1)],Mv 34 36,Ex 37 34 0,Ex 38 34 1,Fa 39 7 3,Sc 39 37,Fa 40 8 3,Sc 40 38] (Sr [Mv 41 0,Mv 42 0,Cl 43 200 [(.tmp 42)],Cl 44 273 [(.tmp 41),(.tmp 43)],Fa 45 9 3,Sc 45 44] (Sr [Mv 46 0,Cl 47 200 [(.tmp 46)],Mv 4 47] (.seq (Sr [Mv 48 4,Oo 49 (.bin .eql (.tmp 48) (.const (.string ⟨#[]⟩))),Mv 50 49,Of 51 50 (mt 4),Of 52 50 (.bin .neq (.tmp 51) (.const (.string ⟨#[45]⟩))),Of 53 50 (mt 52),Ot 54 53 (mt 4),Ot 55 53 (.call (.func 224) [(.tmp 54)]),Ot 56 53 (.un .not (.tmp 55)),Of 57 50 (.pick (.tmp 53) (.tmp 56) (.const (.bool false))),Oo 58 (.pick (.tmp 50) (.const (.bool true)) (.tmp 57))] (Cd 58 (.reg [Mv 59 0,Nk 60 59,Fa 61 1 60,⟨none,none,(.store 1 (.tmp 61) (.const (.bool true)))⟩]) .skip)) (.seq (Sr [Mv 62 4,Oo 63 (.bin .neq (.tmp 62) (.const (.string ⟨#[45]⟩)))] (Cd 63 (.reg [Mv 64 4,Fa 65 10 3,Sc 65 64]) .skip)) (Sr [Oo 66 (.load true 11 (.tmp 3)),⟨none,none,(.store 11 (.tmp 2) (.tmp 66))⟩] .ret))))))))))))))
theorem k202:ZaA Tryz.prog 202=some ⟨c202,[(.cell 2 true 11)],67⟩:=by kernel_rfl
def c201:AC:=(Sr [Oo 2 (.new 63 10 [(iv 0),Ss,(iv 0),Ss,(.v (.bool false)),(iv 0),(iv 0),(iv 0),(iv 0),(iv 0)])] (Sr [Oo 3 (.new 63 10 [(iv 0),Ss,(iv 0),Ss,(.v (.bool false)),(iv 0),(iv 0),(iv 0),(iv 0),(iv 0)])] (Sr [Mv 8 0,Cl 9 200 [(.tmp 8)],Mv 4 9] (.seq (Sr [Mv 10 4,Oo 11 (.bin .neq (.tmp 10) (.const (.string ⟨#[]⟩))),Mv 12 11,Ot 13 12 (mt 4),Ot 14 12 (.ix (.tmp 13) (Ci 0)),Ot 15 12 (.bin .eql (.tmp 14) (.const (.int .u8 45))),Oo 16 (.pick (.tmp 12) (.tmp 15) (.const (.bool false)))] (Cd 16 (.reg [Mv 17 0,Mv 18 4,Oo 19 (.sls (.tmp 18) (some (Ci 1)) none),Cl 20 273 [(.tmp 17),(.tmp 19)],Oo 21 (.un .neg (.tmp 20)),Fa 22 0 3,Sc 22 21]) (.reg [Mv 23 0,Mv 24 4,Cl 25 273 [(.tmp 23),(.tmp 24)],Fa 26 0 3,Sc 26 25]))) (Sr [Mv 27 0,Cl 28 200 [(.tmp 27)],Mv 4 28] (.seq (.block 0 (Sr [Mv 38 4,Oo 39 (.bin .eql (.tmp 38) (.const (.string ⟨#[45]⟩))),Mv 37 39] (Cd 37 .skip (Sr [Mv 41 4,Oo 42 (.bin .neq (.tmp 41) (.const (.string ⟨#[]⟩))),Mv 43 42,Ot 44 43 (mt 4),Ot 45 43 (.ix (.tmp 44) (Ci 0)),Ot 46 43 (.call (.func 191) [(.tmp 45)]),Oo 47 (.pick (.tmp 43) (.tmp 46) (.const (.bool false))),Mv 40 47] (Cd 40 (.seq (Sr [Mv 48 4,Oo 49 (.bin .eql (.tmp 48) (.const (.string ⟨#[48]⟩)))] (Cd 49 (.reg [Mv 50 0,Nk 51 50,Fa 52 1 51,⟨none,none,(.store 1 (.tmp 52) (.const (.bool true)))⟩]) .skip)) (.reg [Mv 53 0,Mv 54 4,Cl 55 273 [(.tmp 53),(.tmp 54)],Fa 56 2 3,Sc 56 55])) (.seq (Sr [Mv 29 4,Cl 30 115 [(.tmp 29)],Oo 31 (.un .not (.tmp 30))] (Cd 31 (.reg [Mv 32 0,Nk 33 32,Fa 34 1 33,⟨none,none,(.store 1 (.tmp 34) (.const (.bool true)))⟩]) .skip)) (.reg [Mv 35 4,Fa 36 1 3,Sc 36 35]))))))) (Sr [Mv 57 0,Cl 58 200 [(.tmp 57)],Fa 59 3 3,Sc 59 58] (.seq (Sr [Fa 60 3 3,Ld 61 60,Cl 62 225 [(.tmp 61)],Oo 63 (.un .not (.tmp 62))] (Cd 63 (.reg [Mv 64 0,Nk 65 64,Fa 66 1 65,⟨none,none,(.store 1 (.tmp 66) (.const (.bool true)))⟩]) .skip)) (.seq (Sr [Mv 67 0,Nk 68 67,Fa 69 0 68,Ld 70 69,Oo 71 (.len false (.tmp 70)),Bc 72 .eql 71 0] (Cd 72 (Sr [Fa 73 4 3,⟨none,none,(.store 1 (.tmp 73) (.const (.bool true)))⟩] (Sr [Oo 74 (.load true 10 (.tmp 3)),⟨none,none,(.store 10 (.tmp 2) (.tmp 74))⟩] .ret)) .skip)) (Sr [Mv 75 0,Mv 76 0,Cl 77 200 [(.tmp 76)],Cl 78 274 [(.tmp 75),(.tmp 77),(Ci 4),(Ci 4)],Mv 5 78] (Sr [Mv 79 0,Cl 80 275 [(.tmp 79)],Mv 6 80] (Sr [Mv 81 0,Mv 82 0,Cl 83 200 [(.tmp 82)],Cl 84 274 [(.tmp 81),(.tmp 83),(Ci 1),(Ci 2)],Mv 7 84] (Sr [Mv 85 5,Mv 86 6,Mv 87 7,Oo 88 (.build [(iv 0),(iv 0),(iv 0)] [(0,(1,(.tmp 85))),(1,(1,(.tmp 86))),(2,(1,(.tmp 87)))]),Fa 89 5 3,Fa 90 0 89,⟨none,none,(.store 3 (.tmp 90) (.tmp 88))⟩] (Sr [Mv 92 0,Cl 93 276 [(.tmp 92),(Ci 2)],Mv 91 93,Ex 94 91 0,Ex 95 91 1,Fa 96 5 3,Fa 97 3 96,Sc 97 94,Fa 98 5 3,Fa 99 4 98,Sc 99 95] (.seq (Sr [Fa 100 5 3,Fa 101 4 100,Ld 102 101,Bc 103 .eql 102 1] (Cd 103 (.reg [Mv 104 0,Nk 105 104,Fa 106 1 105,⟨none,none,(.store 1 (.tmp 106) (.const (.bool true)))⟩]) .skip)) (Sr [Oo 107 (.load true 10 (.tmp 3)),⟨none,none,(.store 10 (.tmp 2) (.tmp 107))⟩] .ret))))))))))))))))
theorem k201:ZaA Tryz.prog 201=some ⟨c201,[(.cell 2 true 10)],108⟩:=by kernel_rfl
def okTS (t:TS):Prop := ∀ x∈t.1,x.size≤24
theorem ZfR {t u:TS}(h:u.1=t.1) (ho:okTS t):okTS u:=by unfold okTS;rw[h];exact ho
theorem Za8 {t u:TS}{s:ByteArray}(ho:okTS t) (e:ZaR t=(s,u)):s.size≤24∧okTS u:=by
 unfold ZaR at e
 split at e
 ·cases e;exact⟨by decide,ho⟩
 rename_i hn
 obtain⟨l,b⟩:=t
 cases l with
 | nil=>exact absurd (.inr rfl) hn
 | cons x l=>cases e;exact⟨ho x (by simp),fun y hy=>ho y (by simp only[List.mem_cons];exact .inr hy)⟩
theorem tNum_fst {s:ByteArray}{a b:Int}{t:TS}:(tNum s a b t).2.1=t.1:=by unfold tNum;split <;> rfl
theorem ZlO {s:ByteArray}{t:TS}:(Zd6 s t).2.1=t.1:=by unfold Zd6;split <;> rfl
theorem tSix_fst {s:ByteArray}{t:TS}:(tSix s t).2.1=t.1:=by unfold tSix;dsimp only;split <;> exact tNum_fst
theorem tSpan_fst {s:ByteArray}{t:TS}:(ZbE s t).2.1=t.1:=by
 unfold ZbE
 split
 ·rfl
 unfold ZeU
 split
 ·exact tSix_fst.trans tNum_fst
 ·exact tSix_fst.trans (tSix_fst.trans tNum_fst)
 rfl
theorem ZpW {s:ByteArray}{t:TS}:(ZbT s t).2.1=t.1:=by
 unfold ZbT
 split
 ·exact ZlO
 split
 ·exact tNum_fst
 exact tNum_fst.trans ZlO
theorem Znl {d:Int}{s:ByteArray}{t:TS}:(Zd2 d s t).2.1=t.1:=by
 unfold Zd2
 split
 ·exact tSpan_fst
 split
 ·exact tSpan_fst
 refine tSpan_fst.trans ?_
 split <;> rfl
theorem tTo_fst {f:Int}{s:ByteArray}{t:TS}:(tTo f s t).2.1=t.1:=by
 unfold tTo
 split
 ·rfl
 split
 ·rfl
 exact tNum_fst
theorem Zgp {t u:TS}{s:ByteArray}(ho:okTS t) (e:ZeV t=(s,u)):okTS u:=by
 obtain⟨x,v,ev⟩ : ∃ x v,ZaR t=(x,v):=⟨_,_,rfl⟩
 unfold ZeV at e
 rw[ev] at e
 have:=(Za8 ho ev).2
 simp only[Prod.mk.injEq] at e
 obtain⟨_,e2⟩:=e
 subst e2
 split
 ·exact this
 exact this
theorem Zg7 {t u:TS}{n:Int}(ho:okTS t) (e:ZdF t=(n,u)):okTS u:=by
 obtain⟨x,v,ev⟩ : ∃ x v,ZaR t=(x,v):=⟨_,_,rfl⟩
 unfold ZdF at e
 rw[ev] at e
 have:=(Za8 ho ev).2
 split at e <;> cases e <;> exact this
theorem ZhW {s:ByteArray}{a b n:Int}{t u:TS}(ho:okTS t) (e:tNum s a b t=(n,u)):okTS u:=ZfR (by have := @tNum_fst s a b t;rw[e] at this;exact this) ho
theorem ZiA {s:ByteArray}{n:Int}{t u:TS}(ho:okTS t) (e:ZbE s t=(n,u)):okTS u:=ZfR (by have := @tSpan_fst s t;rw[e] at this;exact this) ho
theorem Zsv {f:Int}{s:ByteArray}{n:Int}{t u:TS}(ho:okTS t) (e:tTo f s t=(n,u)):okTS u:=ZfR (by have := @tTo_fst f s t;rw[e] at this;exact this) ho
theorem Zme {n:Frm}{t u:TS}(ho:okTS t) (e:Zg3 t=(n,u)):okTS u:=by
 obtain⟨x,v,ev⟩ : ∃ x v,ZaR t=(x,v):=⟨_,_,rfl⟩
 unfold Zg3 at e
 rw[ev] at e
 exact ZfR (by have := @ZpW x v;rw[e] at this;exact this) (Za8 ho ev).2
theorem Zg8 {d:Int}{n:Int×Int}{t u:TS}(ho:okTS t) (e:Zdb d t=(n,u)):okTS u:=by
 obtain⟨x,v,ev⟩ : ∃ x v,ZaR t=(x,v):=⟨_,_,rfl⟩
 unfold Zdb at e
 rw[ev] at e
 exact ZfR (by have := @Znl d x v;rw[e] at this;exact this) (Za8 ho ev).2
theorem ZkE {t t1:TS}{s:ByteArray}{id:Nat}{h:AH}(ho:okTS t) (he:ZeV t=(s,t1)) (h1:h[id]?=some (takE t)):ACalls Tryz.prog 203 [.ptr id 0 0] h fun x h'=>x=.ret (sv s)∧h'=h.set id (takE t1):=by
 have:=tname_a (by have:=(Za8 ho (s:=(ZaR t).1) (u:=(ZaR t).2) rfl).1;unfold maxLen;omega) h1
 rw[he] at this
 exact this
theorem ZoQ {s:ByteArray}{a b n:Int}{t t1:TS}{id:Nat}{h:AH}(hb:b≤4) (he:tNum s a b t=(n,t1)) (h1:h[id]?=some (takE t)):ACalls Tryz.prog 274 [.ptr id 0 0,sv s,iv a,iv b] h fun x h'=>x=.ret (iv n)∧h'=h.set id (takE t1):=by
 have:=ZdQ (s:=s) (a:=a) hb h1
 rw[he] at this
 exact this
theorem ZoR {n:Int}{t t1:TS}{id:Nat}{h:AH}(he:ZdF t=(n,t1)) (h1:h[id]?=some (takE t)):ACalls Tryz.prog 275 [.ptr id 0 0] h fun x h'=>x=.ret (iv n)∧h'=h.set id (takE t1):=by
 have:=tmonth_a h1
 rw[he] at this
 exact this
theorem tform_e {n:Frm}{t t1:TS}{id:Nat}{h:AH}(ho:okTS t) (he:Zg3 t=(n,t1)) (h1:h[id]?=some (takE t)):ACalls Tryz.prog 277 [.ptr id 0 0] h fun x h'=>x=.ret (.agg [iv n.1,iv n.2.1,iv n.2.2])∧h'=h.set id (takE t1):=by
 have:=tform_a (Za8 ho (s:=(ZaR t).1) (u:=(ZaR t).2) rfl).1 h1
 rw[he] at this
 exact this
theorem ZoV {d:Int}{n:Int×Int}{t t1:TS}{id:Nat}{h:AH}(hd:d=1∨d=2) (ho:okTS t) (he:Zdb d t=(n,t1)) (h1:h[id]?=some (takE t)):ACalls Tryz.prog 276 [.ptr id 0 0,iv d] h fun x h'=>x=.ret (.tup [iv n.1,iv n.2])∧h'=h.set id (takE t1):=by
 have:=tclock_a hd (Za8 ho (s:=(ZaR t).1) (u:=(ZaR t).2) rfl).1 h1
 rw[he] at this
 exact this
theorem Zg0 {s:ByteArray}{n:Int}{t t1:TS}{id:Nat}{h:AH}(hz:s.size≤24) (he:ZbE s t=(n,t1)) (h1:h[id]?=some (takE t)):ACalls Tryz.prog 273 [.ptr id 0 0,sv s] h fun x h'=>x=.ret (iv n)∧h'=h.set id (takE t1):=by
 have:=Zh9 hz h1
 rw[he] at this
 exact this
theorem trule_a {t:TS}{id:Nat}{h:AH}(ho:okTS t) (h1:h[id]?=some (takE t)):ACalls Tryz.prog 202 [.ptr id 0 0] h fun x h'=>x=.ret (.agg (rulC (ZkH t).1))∧h'=h.set id (takE (ZkH t).2):=by
 have hid:id<h.length:=(List.getElem?_eq_some_iff.1 h1).1
 obtain⟨nm,t1,e1⟩ : ∃ a b,ZeV t=(a,b):=⟨_,_,rfl⟩
 have o1:=Zgp ho e1
 obtain⟨s2,t2,e2⟩ : ∃ a b,ZaR t1=(a,b):=⟨_,_,rfl⟩
 obtain⟨z2,o2⟩:=Za8 o1 e2
 obtain⟨f,t3,e3⟩ : ∃ a b,tNum s2 4 4 t2=(a,b):=⟨_,_,rfl⟩
 have o3:=ZhW o2 e3
 obtain⟨s4,t4,e4⟩ : ∃ a b,ZaR t3=(a,b):=⟨_,_,rfl⟩
 obtain⟨z4,o4⟩:=Za8 o3 e4
 obtain⟨yr,t5,e5⟩ : ∃ a b,tTo f s4 t4=(a,b):=⟨_,_,rfl⟩
 have o5:=Zsv o4 e5
 obtain⟨m,t6,e6⟩ : ∃ a b,ZdF t5=(a,b):=⟨_,_,rfl⟩
 have o6:=Zg7 o5 e6
 obtain⟨k,t7,e7⟩ : ∃ a b,Zg3 t6=(a,b):=⟨_,_,rfl⟩
 have o7:=Zme o6 e7
 obtain⟨c,t8,e8⟩ : ∃ a b,Zdb 1 t7=(a,b):=⟨_,_,rfl⟩
 have o8:=Zg8 o7 e8
 obtain⟨s9,t9,e9⟩ : ∃ a b,ZaR t8=(a,b):=⟨_,_,rfl⟩
 obtain⟨z9,o9⟩:=Za8 o8 e9
 obtain⟨svd,t10,e10⟩ : ∃ a b,ZbE s9 t9=(a,b):=⟨_,_,rfl⟩
 have o10:=ZiA o9 e10
 obtain⟨s11,t11,e11⟩ : ∃ a b,ZaR t10=(a,b):=⟨_,_,rfl⟩
 obtain⟨z11,o11⟩:=Za8 o10 e11
 have hR:ZkH t=((nm,f,yr,m,k,c.1,c.2,svd,(Zdh t10).1),(Zdh t10).2):=by
  simp only[ZkH,Zb1,ret2,ZrQ,tToN,ZrS,e1,e2,e3,e4,e5,e6,e7,e8,e9,e10]
 have hL:Zdh t10=(if s11=bA [45] then ⟨#[]⟩ else s11,if Ze2 s11=true then t11 else bad t11):=by unfold Zdh;rw[e11]
 refine tJ' k202 fun N hn hlt hlA hbd=>?_
 simp only[tb'] at hbd ⊢
 refine ZdL (h1:=h.set id (takE t)++[]) (by rw[ZcT h1]) ?_
 refine wr'<|E' (ZaV (hl0 (Zao hn)) ha0) pt<|sn'<|wr'<|E' (ZaV (hl1 (Zao hn)) ha1) pt<|sn'<|wr'<|mw<|ZaO mp (ZkE ho e1 (ZaX hid)) (ZaJ hid) pt<|?_
 refine Vw (Zab lk)<|E' (Zak lk cv (hga (Zao hn) rfl) rfl (nb' rfl) rfl Zfw (hs1 (Zao hn))) ptn<|sn'<|wr'<|mw<|mw<|ZaO mp (Zdg e2 (ZaX hid)) (ZaJ hid) pt<|?_
 refine ZaO mp (ZoQ om e3 (ZaX hid)) (ZaJ hid) pt ?_
 refine Vw (Zab lk)<|E' (Zak lk cv (hga (Zao hn) rfl) rfl (nb' rfl) rfl ZbP (hs1 (Zao hn))) ptn<|sn'<|wr'<|mw<|ZaO mp (Zdg e4 (ZaX hid)) (ZaJ hid) pt<|mw<|sn'<|?_
 refine ZoJ (ι:=Unit) (fun (u:Unit)=>[]++rn' 15 13) (fun (u:Unit)=>h.set id (takE t5)++[.mk 0 36 11 [sv ⟨#[]⟩,iv 0,iv 0,iv 0,iv 0,iv 0,iv 0,iv 0,iv 0,iv 0,sv ⟨#[]⟩],.mk 0 36 11 [sv nm,iv f,iv yr,iv 0,iv 0,iv 0,iv 0,iv 0,iv 0,iv 0,sv ⟨#[]⟩]]) (fun (u:Unit)=>True) ?_ ?_
 ·try simp only[sm',Nat.reduceAdd]
  refine wr'<|mw<|sn'<|Zap<|wr'<|Vw (ZcF lk lks)<|mw<|sn'<|?_
  refine cd' lk (fun hc1=>?_) (fun hc1=>?_)
  ·have hq:yr=f∧t5=t4:=by rw[tTo,if_pos (show s4=Zsu from hc1)] at e5;cases e5;exact⟨rfl,rfl⟩
   obtain⟨rfl,rfl⟩:=hq
   refine Zav<|Vw (Zab lk)<|Vw (Zac lk (hga (Zao hn) rfl) gt1)<|Vw (Zab lk)<|E' (Zak lk cv (hga (Zao hn) rfl) rfl (nb' rfl) rfl Zek (hs1 (Zao hn))) ptn<|Zas<|Zaz<|ZaB<|?_
   exact cT' (()) (by trivial)
  refine wr'<|Vw (ZcF lk lks)<|mw<|sn'<|?_
  refine cd' lk (fun hc2=>?_) (fun hc2=>?_)
  ·have hq:yr=2100∧t5=t4:=by rw[tTo,if_neg (show ¬s4=Zsu from hc1),if_pos (show s4=maxA from hc2)] at e5;cases e5;exact⟨rfl,rfl⟩
   obtain⟨rfl,rfl⟩:=hq
   refine Zav<|Vw (Zab lk)<|E' (Zak lk (cvl lki rfl) (hga (Zao hn) rfl) rfl (nb' rfl) rfl Zek (hs1 (Zao hn))) ptn<|Zas<|Zaz<|ZaB<|?_
   exact cT' (()) (by trivial)
  have hq:tNum s4 4 4 t4=(yr,t5):=by rw[tTo,if_neg (show ¬s4=Zsu from hc1),if_neg (show ¬s4=maxA from hc2)] at e5;exact e5
  refine Zav<|mw<|mw<|?_
  refine ZaO mp (ZoQ om hq (ZaX hid)) (ZaJ hid) pt ?_
  refine Vw (Zab lk)<|E' (Zak lk cv (hga (Zao hn) rfl) rfl (nb' rfl) rfl Zek (hs1 (Zao hn))) ptn<|Zas<|Zaz<|ZaB<|?_
  exact cT' (()) (by trivial)
 rintro u hq9
 try simp only[sm',Nat.reduceAdd]
 refine wr'<|mw<|ZaO mp (ZoR e6 (ZaX hid)) (ZaJ hid) pt<|Vw (Zab lk)<|E' (Zak lk cv (hga (Zao hn) rfl) rfl (nb' rfl) rfl Zkq (hs1 (Zao hn))) ptn<|sn'<|wr'<|mw<|ZaO mp (tform_e o6 e7 (ZaX hid)) (ZaJ hid) pt<|Vw (Zab lk)<|E' (Zak lk cv (hga (Zao hn) rfl) rfl (nb' rfl) rfl Zq4 (hs1 (Zao hn))) ptn<|?_
 refine sn'<|wr'<|mw<|ZaO mp (ZoV (.inl rfl) o7 e8 (ZaX hid)) (ZaJ hid) pt<|mw<|Vw (ZaN lk gt)<|Vw (ZaN lk gt)<|Vw (Zab lk)<|E' (Zak lk cv (hga (Zao hn) rfl) rfl (nb' rfl) rfl Zq2 (hs1 (Zao hn))) ptn<|Vw (Zab lk)<|E' (Zak lk cv (hga (Zao hn) rfl) rfl (nb' rfl) rfl Zkp (hs1 (Zao hn))) ptn<|Zas<|?_
 refine Zah<|wr'<|mw<|mw<|ZaO mp (Zdg e9 (ZaX hid)) (ZaJ hid) pt<|ZaO mp (Zg0 z9 e10 (ZaX hid)) (ZaJ hid) pt<|Vw (Zab lk)<|E' (Zak lk cv (hga (Zao hn) rfl) rfl (nb' rfl) rfl Zko (hs1 (Zao hn))) ptn<|sn'<|wr'<|mw<|?_
 refine ZaO mp (Zdg e11 (ZaX hid)) (ZaJ hid) pt<|mw<|sn'<|Zam<|wr'<|mw<|Vw (ZcF lk lks)<|mw<|?_
 refine sp' (t:=50) gt pt pt (fun hg50=>?_) (fun hg50=>?_)
 ·have hLt:Zdh t10=(s11,bad t11):=by rw[hL,hg50];rfl
  refine s_no gt pt<|s_no gt pt<|s_no gt pt<|s_nu gt pt<|s_nu gt pt<|s_nu gt pt<|s_no gt pt<|Vw (Zag lk lkb)<|sn'<|ZaC lk<|Zav<|mw<|Vw (Zbr lk)<|?_
  refine Vw (Zab lk)<|E' (Zak lk (cvl lkb rfl) (ZaX hid) rfl (nb' rfl) rfl ZbP (ZaJ hid)) ptn<|sn'<|Zam<|wr'<|mw<|Vw (Zcr lk lks)<|sn'<|?_
  refine ZcZ lk (by exact decide_eq_true (by rw[hg50];decide)) ?_
  refine Zav<|mw<|Vw (Zab lk)<|E' (Zak lk cv (hga (Zao hn) rfl) rfl (nb' rfl) rfl Zf1 (hs1 (Zao hn))) ptn<|sn'<|wr'<|Vw (Zan lk (hga (Zao hn) rfl) Zcj rfl)<|E' (Zak lk cv (hga (Zao hn) rfl) rfl (nb' rfl) rfl ZeH (hs0 (Zao hn))) ptn<|sn'<|Zaa<|Zae (rs1 (rr_c gt (hga (Zao hn) rfl) (ld1 Zcj rfl)))<|?_
  rw[hLt] at hR
  exact⟨_,_,rfl,Zao hn,ZbW hlt ZaK,rfl,by rw[hR] <;> rfl,by rw[hR] <;> rfl⟩
 refine s_do gt<|mw<|s_do gt<|Vw (Zcr lk lks)<|s_do gt<|mw<|?_
 refine sp' (t:=53) gt pt pt (fun hg53=>?_) (fun hg53=>?_)
 ·refine s_do gt<|mw<|s_do gt<|?_
  refine Zad mp (Zhx (by unfold maxLen;omega)) pt ?_
  refine s_do gt<|Vw (Zax lk)<|s_do gt<|Vw (Zag lk lk)<|Vw (Zaj lk lk)<|sn'<|?_
  refine Zaw lk (fun hc3=>?_) (fun hc3=>?_)
  ·have hl:Zco s11=false:=by simpa using hc3
   have hLt:Zdh t10=(s11,bad t11):=by rw[hL,if_neg (show ¬s11=bA [45] from hg53),if_neg (by unfold Ze2;rw[hl,decide_eq_false (show ¬s11=bA [45] from hg53)];simp)]
   refine Zav<|mw<|Vw (Zbr lk)<|Vw (Zab lk)<|E' (Zak lk (cvl lkb rfl) (ZaX hid) rfl (nb' rfl) rfl ZbP (ZaJ hid)) ptn<|sn'<|Zam<|wr'<|mw<|Vw (Zcr lk lks)<|sn'<|?_
   refine ZcZ lk (by exact decide_eq_true hg53) ?_
   refine Zav<|mw<|Vw (Zab lk)<|E' (Zak lk cv (hga (Zao hn) rfl) rfl (nb' rfl) rfl Zf1 (hs1 (Zao hn))) ptn<|sn'<|wr'<|Vw (Zan lk (hga (Zao hn) rfl) Zcj rfl)<|E' (Zak lk cv (hga (Zao hn) rfl) rfl (nb' rfl) rfl ZeH (hs0 (Zao hn))) ptn<|sn'<|Zaa<|Zae (rs1 (rr_c gt (hga (Zao hn) rfl) (ld1 Zcj rfl)))<|?_
   rw[hLt] at hR
   exact⟨_,_,rfl,Zao hn,ZbW hlt ZaK,rfl,by rw[hR] <;> rfl,by rw[hR] <;> rfl⟩
  have hl:Zco s11=true:=by simpa using hc3
  have hLt:Zdh t10=(s11,t11):=by rw[hL,if_neg (show ¬s11=bA [45] from hg53),if_pos (by unfold Ze2;rw[hl,decide_eq_true hg50];simp)]
  refine Zaf<|Zah<|Zam<|wr'<|mw<|Vw (Zcr lk lks)<|sn'<|?_
  refine ZcZ lk (by exact decide_eq_true hg53) ?_
  refine Zav<|mw<|Vw (Zab lk)<|E' (Zak lk cv (hga (Zao hn) rfl) rfl (nb' rfl) rfl Zf1 (hs1 (Zao hn))) ptn<|sn'<|wr'<|Vw (Zan lk (hga (Zao hn) rfl) Zcj rfl)<|E' (Zak lk cv (hga (Zao hn) rfl) rfl (nb' rfl) rfl ZeH (hs0 (Zao hn))) ptn<|sn'<|Zaa<|Zae (rs1 (rr_c gt (hga (Zao hn) rfl) (ld1 Zcj rfl)))<|?_
  rw[hLt] at hR
  exact⟨_,_,rfl,Zao hn,ZbW hlt ZaK,rfl,by rw[hR] <;> rfl,by rw[hR] <;> rfl⟩
 have h45:s11=bA [45]:=Decidable.of_not_not hg53
 have hLt:Zdh t10=(⟨#[]⟩,t11):=by rw[hL,h45];rfl
 refine s_no gt pt<|s_no gt pt<|s_no gt pt<|s_do gt<|Vw (Zaj lk lkb)<|Vw (Zaj lk lk)<|sn'<|ZaM lk<|Zaf<|Zah<|Zam<|wr'<|?_
 refine mw<|Vw (Zcr lk lks)<|sn'<|?_
 refine ZdO lk (by exact decide_eq_false (by rw[h45];decide)) ?_
 refine Zaf<|Zah<|wr'<|Vw (Zan lk (hga (Zao hn) rfl) Zcj rfl)<|E' (Zak lk cv (hga (Zao hn) rfl) rfl (nb' rfl) rfl ZeH (hs0 (Zao hn))) ptn<|sn'<|Zaa<|Zae (rs1 (rr_c gt (hga (Zao hn) rfl) (ld1 Zcj rfl)))<|?_
 rw[hLt] at hR
 exact⟨_,_,rfl,Zao hn,ZbW hlt ZaK,rfl,by rw[hR] <;> rfl,by rw[hR] <;> rfl⟩
theorem tSpan_bd {s:ByteArray}{t:TS}:0≤(ZbE s t).1∧(ZbE s t).1<1000000000:=by
 unfold ZbE
 split
 ·exact⟨Int.le_refl 0,show (0:Int)<1000000000 by decide⟩
 unfold ZeU
 split
 ·rename_i a b _
  have h1:=Zih (s:=bA a) (a:=1) (b:=2) (t:=t) om
  have h2:=Zg2 (s:=bA b) (t:=(tNum (bA a) 1 2 t).2)
  constructor <;> dsimp only <;> omega
 ·rename_i a b c _
  have h1:=Zih (s:=bA a) (a:=1) (b:=2) (t:=t) om
  have h2:=Zg2 (s:=bA b) (t:=(tNum (bA a) 1 2 t).2)
  have h3:=Zg2 (s:=bA c) (t:=(tSix (bA b) (tNum (bA a) 1 2 t).2).2)
  constructor <;> dsimp only <;> omega
 exact⟨Int.le_refl 0,show (0:Int)<1000000000 by decide⟩
abbrev eraZ:List AV:=[iv 0,sv ⟨#[]⟩,iv 0,sv ⟨#[]⟩,bv false,iv 0,iv 0,iv 0,iv 0,iv 0]
theorem ZjQ {t u:TS}{n:Int}(ho:okTS t) (e:Zgc t=(n,u)):okTS u:=by
 obtain⟨x,v,ev⟩ : ∃ x v,ZaR t=(x,v):=⟨_,_,rfl⟩
 unfold Zgc at e
 rw[ev] at e
 have:=(Za8 ho ev).2
 split at e
 ·cases e;exact ZfR tSpan_fst this
 exact ZiA this e
theorem ZjR {s:ByteArray}{t u:TS}{p:Int×ByteArray}(ho:okTS t) (e:Zd1 s t=(p,u)):okTS u:=by
 unfold Zd1 at e
 split at e
 ·cases e;exact ho
 split at e
 ·cases e
  refine ZfR tSpan_fst ?_
  split <;> exact ho
 cases e
 split <;> exact ho
theorem tera_a {t:TS}{id:Nat}{h:AH}(ho:okTS t) (h1:h[id]?=some (takE t)):ACalls Tryz.prog 201 [.ptr id 0 0] h fun x h'=>x=.ret (.agg (eraC (tEra t).1))∧h'=h.set id (takE (tEra t).2):=by
 have hid:id<h.length:=(List.getElem?_eq_some_iff.1 h1).1
 obtain⟨s1,t1,e1⟩ : ∃ a b,ZaR t=(a,b):=⟨_,_,rfl⟩
 obtain⟨z1,o1⟩:=Za8 ho e1
 have hem1:=ZeA (f:=s1)
 obtain⟨sh,t2,e2⟩ : ∃ a b,Zgc t=(a,b):=⟨_,_,rfl⟩
 have o2:=ZjQ ho e2
 obtain⟨s3,t3,e3⟩ : ∃ a b,ZaR t2=(a,b):=⟨_,_,rfl⟩
 obtain⟨z3,o3⟩:=Za8 o2 e3
 have hem3:=ZeA (f:=s3)
 obtain⟨⟨sa,rl⟩,t4,e4⟩ : ∃ a b,Zd1 s3 t3=(a,b):=⟨_,_,rfl⟩
 have o4:=ZjR o3 e4
 obtain⟨fm,t5,e5⟩ : ∃ a b,ZaR t4=(a,b):=⟨_,_,rfl⟩
 obtain⟨z5,o5⟩:=Za8 o4 e5
 obtain⟨t6,e6⟩ : ∃ u,(if ZbO fm=true then t5 else bad t5)=u:=⟨_,rfl⟩
 have o6:okTS t6:=by rw[←e6];split <;> exact o5
 obtain⟨s7,t7,e7⟩ : ∃ a b,ZaR t6=(a,b):=⟨_,_,rfl⟩
 obtain⟨z7,o7⟩:=Za8 o6 e7
 obtain⟨y,t8,e8⟩ : ∃ a b,tNum s7 4 4 t7=(a,b):=⟨_,_,rfl⟩
 have o8:=ZhW o7 e8
 obtain⟨m,t9,e9⟩ : ∃ a b,ZdF t8=(a,b):=⟨_,_,rfl⟩
 have o9:=Zg7 o8 e9
 obtain⟨s10,t10,e10⟩ : ∃ a b,ZaR t9=(a,b):=⟨_,_,rfl⟩
 obtain⟨z10,o10⟩:=Za8 o9 e10
 obtain⟨d,t11,e11⟩ : ∃ a b,tNum s10 1 2 t10=(a,b):=⟨_,_,rfl⟩
 have o11:=ZhW o10 e11
 obtain⟨c,t12,e12⟩ : ∃ a b,Zdb 2 t11=(a,b):=⟨_,_,rfl⟩
 have o12:=Zg8 o11 e12
 have hU:Zhu t6=(((y,m,d),c.1,c.2),if c.2=1 then bad t12 else t12):=by
  simp only[Zhu,Zb1,ret2,ZrQ,tDay,ZrR,e7,e8,e9,e10,e11,e12]
 have hR:tEra t=((sh,rl,sa,fm,(tEnd t6).1.1,(tEnd t6).1.2),(tEnd t6).2):=by
  simp only[tEra,Zb1,ret2,ZrT,Zii,e2,e3,e4,e5,e6]
 refine tJ' k201 fun N hn hlt hlA hbd=>?_
 simp only[tb'] at hbd ⊢
 refine ZdL (h1:=h.set id (takE t)++[]) (by rw[ZcT h1]) ?_
 refine wr'<|E' (ZaV (hl0 (Zao hn)) ha0) pt<|sn'<|wr'<|E' (ZaV (hl1 (Zao hn)) ha1) pt<|sn'<|wr'<|mw<|ZaO mp (Zdg e1 (ZaX hid)) (ZaJ hid) pt<|?_
 refine mw<|sn'<|?_
 refine ZoJ (ι:=Unit) (fun (u:Unit)=>[]++rn' 10 17) (fun (u:Unit)=>h.set id (takE t2)++[.mk 0 63 10 eraZ,.mk 0 63 10 [iv sh,sv ⟨#[]⟩,iv 0,sv ⟨#[]⟩,bv false,iv 0,iv 0,iv 0,iv 0,iv 0]]) (fun (u:Unit)=>True) ?_ ?_
 ·try simp only[sm',Nat.reduceAdd]
  refine wr'<|mw<|Vw (Zcr lk lks)<|mw<|?_
  refine sp' (t:=12) gt pt pt (fun hg12=>?_) (fun hg12=>?_)
  ·have hn1:s1.size≠0:=fun e=>hg12 (hem1.2 e)
   refine s_do gt<|mw<|s_do gt<|?_
   refine V' (v_ix lk lki om om) pt ?_
   refine s_do gt<|Vw (ZaP lk lki)<|Vw (Zag lk lk)<|sn'<|?_
   refine cd' lk (fun hc1=>?_) (fun hc1=>?_)
   ·have hc:s1.size≠0∧ZhJ s1=45:=⟨fun e=>hg12 (hem1.2 e),hc1⟩
    obtain⟨n,u2,f2⟩ : ∃ a b,ZbE (s1.extract 1 s1.size) t1=(a,b):=⟨_,_,rfl⟩
    have hb2:=tSpan_bd (s:=s1.extract 1 s1.size) (t:=t1)
    rw[f2] at hb2
    replace hb2:0≤n∧n<1000000000:=hb2
    have hq:sh = -n∧t2=u2:=by unfold Zgc at e2;rw[e1,if_pos hc,f2] at e2;cases e2;exact⟨rfl,rfl⟩
    obtain⟨rfl,rfl⟩:=hq
    refine Zav<|mw<|mw<|?_
    refine V' (Zd0 lk (oi lki) on_ om om om) pt ?_
    refine ZaO mp (Zg0 (by rw[ByteArray.size_extract];omega) f2 (ZaX hid)) (ZaJ hid) pt ?_
    refine V' (v_neg lk om om) pt ?_
    refine Vw (Zab lk)<|E' (Zak lk cv (hga (Zao hn) rfl) rfl (nb' rfl) rfl Zfw (hs1 (Zao hn))) ptn<|Zas<|ZaB<|?_
    exact cT' (()) (by trivial)
   have hc:¬(s1.size≠0∧ZhJ s1=45):=fun e=>hc1 e.2
   have f2:ZbE s1 t1=(sh,t2):=by unfold Zgc at e2;rw[e1,if_neg hc] at e2;exact e2
   refine Zav<|mw<|mw<|ZaO mp (Zg0 z1 f2 (ZaX hid)) (ZaJ hid) pt<|Vw (Zab lk)<|E' (Zak lk cv (hga (Zao hn) rfl) rfl (nb' rfl) rfl Zfw (hs1 (Zao hn))) ptn<|Zas<|ZaB<|?_
   exact cT' (()) (by trivial)
  have hc:¬(s1.size≠0∧ZhJ s1=45):=fun e=>e.1 (hem1.1 (Decidable.of_not_not hg12))
  have f2:ZbE s1 t1=(sh,t2):=by unfold Zgc at e2;rw[e1,if_neg hc] at e2;exact e2
  refine s_no gt pt<|s_no gt pt<|s_no gt pt<|Vw (Zaj lk lkb)<|sn'<|ZaM lk<|Zav<|mw<|mw<|ZaO mp (Zg0 z1 f2 (ZaX hid)) (ZaJ hid) pt<|Vw (Zab lk)<|E' (Zak lk cv (hga (Zao hn) rfl) rfl (nb' rfl) rfl Zfw (hs1 (Zao hn))) ptn<|Zas<|?_
  refine ZaB ?_
  exact cT' (()) (by trivial)
 rintro u hq5
 try simp only[sm',Nat.reduceAdd]
 refine wr'<|mw<|ZaO mp (Zdg e3 (ZaX hid)) (ZaJ hid) pt<|mw<|sn'<|?_
 refine ZoJ (ι:=Unit) (fun (u:Unit)=>[]++rn' 29 28) (fun (u:Unit)=>h.set id (takE t4)++[.mk 0 63 10 eraZ,.mk 0 63 10 [iv sh,sv rl,iv sa,sv ⟨#[]⟩,bv false,iv 0,iv 0,iv 0,iv 0,iv 0]]) (fun (u:Unit)=>True) ?_ ?_
 ·try simp only[sm',Nat.reduceAdd]
  refine Zap<|wr'<|mw<|Vw (ZcF lk lks)<|mw<|sn'<|?_
  refine cd' lk (fun hc2=>?_) (fun hc2=>?_)
  ·have hq:sa=0∧rl=⟨#[]⟩∧t4=t3:=by rw[Zd1,if_pos (show s3=bA [45] from hc2)] at e4;cases e4;exact⟨rfl,rfl,rfl⟩
   obtain⟨rfl,rfl,rfl⟩:=hq
   refine Zaf<|Zaz<|ZaB<|?_
   exact cT' (()) (by trivial)
  rw[Zd1,if_neg (show ¬s3=bA [45] from hc2)] at e4
  have hbz:=Ze9 s3 0
  refine wr'<|mw<|Vw (Zcr lk lks)<|mw<|?_
  refine sp' (t:=43) gt pt pt (fun hg43=>?_) (fun hg43=>?_)
  ·have hn3:s3.size≠0:=fun e=>hg43 (hem3.2 e)
   refine s_do gt<|mw<|s_do gt<|?_
   refine V' (v_ix lk lki om om) pt ?_
   refine s_do gt<|Zad mp (Zea hbz.1 hbz.2) pt<|Vw (Zag lk lk)<|mw<|sn'<|?_
   refine Zaw lk (fun hc3=>?_) (fun hc3=>?_)
   ·have hc:s3.size≠0∧digB (ZhJ s3)=true:=⟨fun e=>hg43 (hem3.2 e),hc3⟩
    rw[if_pos hc] at e4
    refine Zam<|wr'<|mw<|Vw (ZcF lk lks)<|sn'<|?_
    refine cd' lk (fun hc4=>?_) (fun hc4=>?_)
    ·rw[if_pos (show s3=bA [48] from hc4)] at e4
     have hsp:ZbE s3 (bad t3)=(sa,t4):=by cases e4;rfl
     have hrl:rl=⟨#[]⟩:=by cases e4;rfl
     subst hrl
     refine Zav<|mw<|Vw (Zbr lk)<|Vw (Zab lk)<|E' (Zak lk (cvl lkb rfl) (ZaX hid) rfl (nb' rfl) rfl ZbP (ZaJ hid)) ptn<|sn'<|Zav<|mw<|mw<|ZaO mp (Zg0 z3 hsp (ZaX hid)) (ZaJ hid) pt<|Vw (Zab lk)<|E' (Zak lk cv (hga (Zao hn) rfl) rfl (nb' rfl) rfl Zek (hs1 (Zao hn))) ptn<|Zas<|?_
     refine Zaz<|ZaB<|?_
     exact cT' (()) (by trivial)
    rw[if_neg (show ¬s3=bA [48] from hc4)] at e4
    have hsp:ZbE s3 t3=(sa,t4):=by cases e4;rfl
    have hrl:rl=⟨#[]⟩:=by cases e4;rfl
    subst hrl
    refine Zaf<|Zah<|Zav<|mw<|mw<|ZaO mp (Zg0 z3 hsp (ZaX hid)) (ZaJ hid) pt<|Vw (Zab lk)<|E' (Zak lk cv (hga (Zao hn) rfl) rfl (nb' rfl) rfl Zek (hs1 (Zao hn))) ptn<|Zas<|Zaz<|ZaB<|?_
    exact cT' (()) (by trivial)
   have hc:¬(s3.size≠0∧digB (ZhJ s3)=true):=fun e=>by have:=e.2;rw[show digB (ZhJ s3)=false from hc3] at this;cases this
   refine Zam<|wr'<|mw<|?_
   rw[if_neg hc] at e4
   refine Zad mp (Zdc (by unfold maxLen;omega)) pt ?_
   refine Vw (Zax lk)<|sn'<|?_
   refine Zaw lk (fun hc5=>?_) (fun hc5=>?_)
   ·have hnm:¬Zcv s3=true:=by simpa using hc5
    rw[if_neg hnm] at e4
    have hq:sa=0∧rl=s3∧t4=bad t3:=by cases e4;exact⟨rfl,rfl,rfl⟩
    obtain⟨rfl,rfl,rfl⟩:=hq
    refine Zav<|mw<|Vw (Zbr lk)<|Vw (Zab lk)<|E' (Zak lk (cvl lkb rfl) (ZaX hid) rfl (nb' rfl) rfl ZbP (ZaJ hid)) ptn<|sn'<|Zav<|mw<|Vw (Zab lk)<|E' (Zak lk cv (hga (Zao hn) rfl) rfl (nb' rfl) rfl ZbP (hs1 (Zao hn))) ptn<|Zas<|Zaz<|ZaB<|?_
    exact cT' (()) (by trivial)
   have hnm:Zcv s3=true:=by simpa using hc5
   rw[if_pos hnm] at e4
   have hq:sa=0∧rl=s3∧t4=t3:=by cases e4;exact⟨rfl,rfl,rfl⟩
   obtain⟨rfl,rfl,rfl⟩:=hq
   refine Zaf<|Zah<|Zav<|mw<|Vw (Zab lk)<|E' (Zak lk cv (hga (Zao hn) rfl) rfl (nb' rfl) rfl ZbP (hs1 (Zao hn))) ptn<|Zas<|Zaz<|ZaB<|?_
   exact cT' (()) (by trivial)
  have hc:¬(s3.size≠0∧digB (ZhJ s3)=true):=fun e=>e.1 (hem3.1 (Decidable.of_not_not hg43))
  refine s_no gt pt<|s_no gt pt<|s_no gt pt<|Vw (Zaj lk lkb)<|mw<|sn'<|ZaM lk<|Zam<|wr'<|mw<|?_
  rw[if_neg hc] at e4
  refine Zad mp (Zdc (by unfold maxLen;omega)) pt ?_
  refine Vw (Zax lk)<|sn'<|?_
  refine Zaw lk (fun hc5=>?_) (fun hc5=>?_)
  ·have hnm:¬Zcv s3=true:=by simpa using hc5
   rw[if_neg hnm] at e4
   have hq:sa=0∧rl=s3∧t4=bad t3:=by cases e4;exact⟨rfl,rfl,rfl⟩
   obtain⟨rfl,rfl,rfl⟩:=hq
   refine Zav<|mw<|Vw (Zbr lk)<|Vw (Zab lk)<|E' (Zak lk (cvl lkb rfl) (ZaX hid) rfl (nb' rfl) rfl ZbP (ZaJ hid)) ptn<|sn'<|Zav<|mw<|Vw (Zab lk)<|E' (Zak lk cv (hga (Zao hn) rfl) rfl (nb' rfl) rfl ZbP (hs1 (Zao hn))) ptn<|Zas<|Zaz<|ZaB<|?_
   exact cT' (()) (by trivial)
  have hnm:Zcv s3=true:=by simpa using hc5
  rw[if_pos hnm] at e4
  have hq:sa=0∧rl=s3∧t4=t3:=by cases e4;exact⟨rfl,rfl,rfl⟩
  obtain⟨rfl,rfl,rfl⟩:=hq
  refine Zaf<|Zah<|Zav<|mw<|Vw (Zab lk)<|E' (Zak lk cv (hga (Zao hn) rfl) rfl (nb' rfl) rfl ZbP (hs1 (Zao hn))) ptn<|Zas<|Zaz<|ZaB<|?_
  exact cT' (()) (by trivial)
 rintro u hq13
 try simp only[sm',Nat.reduceAdd]
 refine wr'<|mw<|ZaO mp (Zdg e5 (ZaX hid)) (ZaJ hid) pt<|Vw (Zab lk)<|E' (Zak lk cv (hga (Zao hn) rfl) rfl (nb' rfl) rfl Zkq (hs1 (Zao hn))) ptn<|sn'<|?_
 refine ZoJ (ι:=Unit) (fun (u:Unit)=>[]++rn' 60 7) (fun (u:Unit)=>h.set id (takE t6)++[.mk 0 63 10 eraZ,.mk 0 63 10 [iv sh,sv rl,iv sa,sv fm,bv false,iv 0,iv 0,iv 0,iv 0,iv 0]]) (fun (u:Unit)=>True) ?_ ?_
 ·try simp only[sm',Nat.reduceAdd]
  refine wr'<|Vw (Zab lk)<|Vw (Zac lk (hga (Zao hn) rfl) gt3)<|?_
  refine Zad mp (ZfQ (by unfold maxLen;omega)) pt ?_
  refine Vw (Zax lk)<|sn'<|?_
  refine Zaw lk (fun hc6=>?_) (fun hc6=>?_)
  ·have hq:t6=bad t5:=by rw[←e6,if_neg (by simpa using hc6)]
   subst hq
   refine Zav<|mw<|Vw (Zbr lk)<|Vw (Zab lk)<|E' (Zak lk (cvl lkb rfl) (ZaX hid) rfl (nb' rfl) rfl ZbP (ZaJ hid)) ptn<|Zas<|ZaB<|?_
   exact cT' (()) (by trivial)
  have hq:t6=t5:=by rw[←e6,if_pos (by simpa using hc6)]
  subst hq
  refine Zaf<|ZaB<|?_
  exact cT' (()) (by trivial)
 rintro u hq16
 try simp only[sm',Nat.reduceAdd]
 refine Zam<|wr'<|mw<|Vw (Zbr lk)<|Vw (Zab lk)<|Vw (Zac lk (ZaX hid) gt0)<|Vw (ZaL lk)<|Vw (ZaP lk lki)<|sn'<|?_
 refine cd' lk (fun hc7=>?_) (fun hc7=>?_)
 ·have hE:tEnd t6=((true,untZ),t6):=by unfold tEnd;rw[if_pos (List.eq_nil_of_length_eq_zero om)]
  rw[hE] at hR
  refine wr'<|Vw (Zab lk)<|E' (Zak lk (cvl lkb rfl) (hga (Zao hn) rfl) rfl (nb' rfl) rfl Zq5 (hs1 (Zao hn))) ptn<|sn'<|wr'<|Vw (Zan lk (hga (Zao hn) rfl) Zc6 rfl)<|E' (Zak lk cv (hga (Zao hn) rfl) rfl (nb' rfl) rfl Zf2 (hs0 (Zao hn))) ptn<|sn'<|Zaa<|Zai<|?_
  refine Zae (rs1 (rr_c gt (hga (Zao hn) rfl) (ld1 Zc6 rfl))) ?_
  exact⟨_,_,rfl,Zao hn,ZbW hlt ZaK,rfl,by rw[hR] <;> rfl,by rw[hR] <;> rfl⟩
 have hE:tEnd t6=((false,(Zhu t6).1),(Zhu t6).2):=by unfold tEnd;rw[if_neg (by intro e;rw[e] at hc7;exact hc7 rfl)]
 rw[hE,hU] at hR
 refine Zaf<|Zah<|wr'<|mw<|mw<|ZaO mp (Zdg e7 (ZaX hid)) (ZaJ hid) pt<|?_
 refine ZaO mp (ZoQ om e8 (ZaX hid)) (ZaJ hid) pt ?_
 refine mw<|sn'<|wr'<|mw<|ZaO mp (ZoR e9 (ZaX hid)) (ZaJ hid) pt<|mw<|sn'<|wr'<|mw<|mw<|?_
 refine ZaO mp (Zdg e10 (ZaX hid)) (ZaJ hid) pt ?_
 refine ZaO mp (ZoQ om e11 (ZaX hid)) (ZaJ hid) pt ?_
 refine mw<|sn'<|wr'<|mw<|mw<|mw<|Vw (Zau (Zlr cv rfl cv rfl cv rfl))<|Vw (Zab lk)<|Vw (ZbN lk)<|E' (Zak lk cv (hga (Zao hn) rfl) rfl (nb' rfl) rfl Zq3 (hs1 (Zao hn))) ptn<|sn'<|?_
 refine wr'<|mw<|ZaO mp (ZoV (.inr rfl) o11 e12 (ZaX hid)) (ZaJ hid) pt<|mw<|Vw (ZaN lk gt)<|Vw (ZaN lk gt)<|Vw (Zab lk)<|Vw (ZbN lk)<|E' (Zak lk cv (hga (Zao hn) rfl) rfl (nb' rfl) rfl Zkp (hs1 (Zao hn))) ptn<|Vw (Zab lk)<|Vw (ZbN lk)<|E' (Zak lk cv (hga (Zao hn) rfl) rfl (nb' rfl) rfl Zko (hs1 (Zao hn))) ptn<|Zas<|?_
 refine Zah<|Zam<|wr'<|Vw (Zab lk)<|Vw (ZbN lk)<|Vw (Zac lk (hga (Zao hn) rfl) gt9)<|Vw (ZaP lk lki)<|sn'<|?_
 refine cd' lk (fun hc8=>?_) (fun hc8=>?_)
 ·rw[if_pos hc8] at hR
  refine Zav<|mw<|Vw (Zbr lk)<|Vw (Zab lk)<|E' (Zak lk (cvl lkb rfl) (ZaX hid) rfl (nb' rfl) rfl ZbP (ZaJ hid)) ptn<|sn'<|wr'<|Vw (Zan lk (hga (Zao hn) rfl) Zc6 rfl)<|E' (Zak lk cv (hga (Zao hn) rfl) rfl (nb' rfl) rfl Zf2 (hs0 (Zao hn))) ptn<|sn'<|Zaa<|?_
  refine Zae (rs1 (rr_c gt (hga (Zao hn) rfl) (ld1 Zc6 rfl))) ?_
  exact⟨_,_,rfl,Zao hn,ZbW hlt ZaK,rfl,by rw[hR] <;> rfl,by rw[hR] <;> rfl⟩
 rw[if_neg hc8] at hR
 refine Zaf<|Zah<|wr'<|Vw (Zan lk (hga (Zao hn) rfl) Zc6 rfl)<|E' (Zak lk cv (hga (Zao hn) rfl) rfl (nb' rfl) rfl Zf2 (hs0 (Zao hn))) ptn<|sn'<|Zaa<|Zae (rs1 (rr_c gt (hga (Zao hn) rfl) (ld1 Zc6 rfl)))<|?_
 exact⟨_,_,rfl,Zao hn,ZbW hlt ZaK,rfl,by rw[hR] <;> rfl,by rw[hR] <;> rfl⟩
end Go.Proofs.YtlekejpogddndaaGreatDoor
end
section
namespace Go.Proofs.YtlekejpogddndaaGreatDoor
open Go.Ab
theorem Zsr (s:ByteArray):ZbJ s=if (Zb0 s).2.2≠0 then (srcZ,(Zb0 s).2.1,(Zb0 s).2.2) else outP (Zb0 s).1:=rfl
end Go.Proofs.YtlekejpogddndaaGreatDoor
end
section
namespace Go.Proofs.YtlekejpogddndaaGreatDoor
open Go.Ab Go.RowKit
def badN (n:Int):Bool:=!plnN n||decide (n=34)
def ZfK (f:ByteArray):Int:=if (aB f).any (fun c=>badN c.toNat)=true then 1 else if 24<f.size then 2 else 0
def Zj4:List ByteArray→Int
 | []=>0
 | f::fs=>if ZfK f≠0 then ZfK f else Zj4 fs
def Zqd (fs:List ByteArray):Int:=if fs.length=0 then 1 else if 12<fs.length then 2 else Zj4 fs
end Go.Proofs.YtlekejpogddndaaGreatDoor
end
section
namespace Go.Proofs.YtlekejpogddndaaGreatDoor
open Go.Ab
theorem ZkQ {p:Int→Bool} : ∀ {l:Bs}{n:Nat},runL p l=some n → ∀ c∈l.take n,p c.toNat=true∧plnN c.toNat=true
 | [],n,h,c,hc=>by simp at hc
 | x::l,n,h,c,hc=>by
  unfold runL at h
  split at h
  ·rename_i hp
   split at h
   ·rename_i hq
    rw[Option.map_eq_some_iff] at h
    obtain⟨m,hm,rfl⟩:=h
    rw[List.take_succ_cons] at hc
    rcases List.mem_cons.1 hc with rfl | hc
    ·exact⟨hp,hq⟩
    ·exact ZkQ hm c hc
   ·cases h
  ·cases h;simp at hc
theorem ZpE {n:Int}:badN n=false↔plnN n=true∧n≠34:=by
 unfold badN;simp
theorem ZnU {l:Bs}{x:Nat×Nat×Nat}(h:ZcY l=some x) : ∀ c∈(l.drop x.1).take x.2.1,badN c.toNat=false:=by
 cases l with
 | nil=>cases h
 | cons c l =>
  by_cases hc:(c.toNat:Int)=34
  ·rw[ZcY,if_pos hc] at h
   cases hr:runL quoP l with
   | none=>rw[hr] at h;cases h
   | some n =>
    have:=ZkQ hr
    rw[hr] at h
    simp only at h
    split at h
    ·cases h
    ·split at h
     ·cases h
     ·cases h
      intro y hy
      have:=this y (by simpa using hy)
      exact ZpE.2 ⟨this.2,by have:=this.1;unfold quoP at this;simpa using this⟩
  ·rw[ZcY,if_neg hc] at h
   cases hr:runL fldP (c::l) with
   | none=>rw[hr] at h;cases h
   | some n =>
    have:=ZkQ hr
    rw[hr] at h
    simp only at h
    split at h
    ·cases h
    ·cases h
     intro y hy
     have:=this y (by simpa using hy)
     exact ZpE.2 ⟨this.2,by have:=this.1;unfold fldP at this;simp at this;exact this.2⟩
theorem ZnV {f:ByteArray}(h1 : ∀ c∈aB f,badN c.toNat=false) (h2:f.size≤24):ZfK f=0:=by
 unfold ZfK
 rw[if_neg,if_neg om]
 rw[List.any_eq_true]
 rintro⟨c,hc,hb⟩
 rw[h1 c hc] at hb;cases hb
theorem Zqn {f:ByteArray}(h:ZfK f=0):(∀ c∈aB f,badN c.toNat=false)∧f.size≤24:=by
 unfold ZfK at h
 split at h
 ·cases h
 ·rename_i h1
  split at h
  ·cases h
  ·refine⟨fun c hc=>?_,by omega⟩
   cases hb:badN c.toNat
   ·rfl
   ·exact absurd (List.any_eq_true.2 ⟨c,hc,hb⟩) h1
theorem Zj1 : ∀ {k:Nat}{acc:List ByteArray}{l:Bs},(∀ f∈acc,ZfK f=0)→acc.length≤12→(Zjs k acc l).2=0→(∀ f∈(Zjs k acc l).1,ZfK f=0)∧(Zjs k acc l).1.length≤12
 | 0,acc,l,h1,h2,_=>⟨h1,h2⟩
 | k+1,acc,l,h1,h2,h3=>by
  rw[Zjs] at h3 ⊢
  split at h3
  ·rename_i hm
   rw[if_pos hm]
   split at h3
   ·cases h3
   ·rename_i x hx
    split at h3
    ·cases h3
    ·rename_i hn
     rw[if_neg hn]
     refine Zj1 (fun f hf=>?_) (by simp;omega) h3
     rcases List.mem_append.1 hf with hf | hf
     ·exact h1 f hf
     ·rw[List.mem_singleton] at hf
      subst hf
      refine ZnV (fun c hc=>ZnU hx c hc) ?_
      unfold cutF
      rw[Zdo,List.length_take];omega
  ·rename_i hm
   rw[if_neg hm]
   exact⟨h1,h2⟩
theorem Zqc {x:Bs}(h:(ZdN x).2=0) (hne:(ZdN x).1≠[]):Zqd (ZdN x).1=0:=by
 obtain⟨h1,h2⟩:=Zj1 (k:=13) (acc:=[]) (l:=x) (fun f hf=>by simp at hf) (by simp) h
 unfold Zqd
 have:0<(ZdN x).1.length:=List.length_pos_iff.2 hne
 rw[if_neg om,if_neg (by show ¬12<(Zjs 13 [] x).1.length;omega)]
 have : ∀ {fs:List ByteArray},(∀ f∈fs,ZfK f=0)→Zj4 fs=0:=by
  intro fs
  induction fs with
  | nil=>intro _;rfl
  | cons f fs ih =>
   intro h
   rw[Zj4,if_neg (by rw[h f (by simp)];simp)]
   exact ih fun g hg=>h g (by simp[hg])
 exact this h1
theorem ZjU : ∀ {n:Int}{l:List Bs}{acc:List Ln},(Zct n l acc).2.2≠0→(Zct n l acc).1=[]
 | n,[],acc,h=>absurd rfl h
 | n,x::xs,acc,h=>by
  rw[Zct] at h ⊢
  split at h
  ·rename_i h1;rw[if_pos h1]
  ·rename_i h1;rw[if_neg h1];exact ZjU h
theorem ZiG : ∀ {n:Int}{l:List Bs}{acc:List Ln},(∀ x∈acc,Zqd x.2.2=0) → ∀ x∈(Zct n l acc).1,Zqd x.2.2=0
 | n,[],acc,h=>h
 | n,y::ys,acc,h=>by
  rw[Zct]
  split
  ·intro x hx;simp at hx
  ·rename_i h1
   refine ZiG fun x hx=>?_
   split at hx
   ·exact h x hx
   ·rename_i h2
    rcases List.mem_append.1 hx with hx | hx
    ·exact h x hx
    ·rw[List.mem_singleton] at hx
     subst hx
     exact Zqc (Decidable.of_not_not h1) h2
theorem Znm {s:ByteArray} : ∀ x∈(Zb0 s).1,Zqd x.2.2=0:=by
 have:=ZiG (n:=1) (l:=cutC 10 (aB s)) (acc:=[]) (fun x hx=>by simp at hx)
 unfold Zb0
 split
 ·intro x hx;simp at hx
 ·split
  ·exact this
  ·split
   ·intro x hx;simp at hx
   ·exact this
end Go.Proofs.YtlekejpogddndaaGreatDoor
end
section
namespace Go.Proofs.YtlekejpogddndaaGreatDoor
open Go.Ab Go.RowKit Civ
def PT {α:Type}(f:TS→α×TS) (P:α→Prop):Prop := ∀ t,okTS t→P (f t).1∧okTS (f t).2
theorem PT.bind {α β:Type}{f:TS→α×TS}{k:α→TS→β×TS}{P:α→Prop}{Q:β→Prop}(h:PT f P) (hk : ∀ a,P a→PT (k a) Q):PT (Zb1 f k) Q:=fun t ho=>hk _ (h t ho).1 _ (h t ho).2
theorem PT.ret {α:Type}{P:α→Prop}{a:α}(h:P a):PT (ret2 a) P:=fun t ho=>⟨h,ho⟩
theorem pt_next:PT ZaR (fun s=>s.size≤24):=fun t ho=>Za8 ho rfl
theorem pt_name:PT ZeV (fun s=>s.size≤24):=fun t ho=>⟨(Za8 ho (s:=(ZaR t).1) (u:=(ZaR t).2) rfl).1,Zgp ho rfl⟩
theorem pt_num (s:ByteArray) (a b:Int):PT (tNum s a b) (fun _=>True):=fun t ho=>⟨trivial,ZhW ho rfl⟩
theorem pt_year:PT ZrQ (fun _=>True):=pt_next.bind (k:=fun s=>tNum s 4 4) fun s _=>pt_num s 4 4
theorem pt_day:PT tDay (fun _=>True):=pt_next.bind (k:=fun s=>tNum s 1 2) fun s _=>pt_num s 1 2
theorem pt_to (f:Int):PT (tToN f) (fun _=>True):=pt_next.bind (k:=tTo f) fun s _=>fun t ho=>⟨trivial,Zsv ho rfl⟩
theorem pt_month:PT ZdF (fun _=>True):=fun t ho=>⟨trivial,Zg7 ho rfl⟩
theorem pt_form:PT Zg3 (fun _=>True):=fun t ho=>⟨trivial,Zme ho rfl⟩
theorem Zo1 (d:Int):PT (Zdb d) (fun _=>True):=fun t ho=>⟨trivial,Zg8 ho rfl⟩
theorem pt_span:PT ZrS (fun _=>True):=pt_next.bind (k:=ZbE) fun s _=>fun t ho=>⟨trivial,ZiA ho rfl⟩
theorem pt_letter:PT Zdh (fun s=>s.size≤24):=by
 intro t ho
 have h:=Za8 ho (s:=(ZaR t).1) (u:=(ZaR t).2) rfl
 unfold Zdh
 refine⟨?_,?_⟩
 ·dsimp only;split
  ·decide
  ·exact h.1
 ·dsimp only;split
  ·exact h.2
  ·exact h.2
def okRul (r:Rul):Prop:=r.1.size≤maxLen∧r.2.2.2.2.2.2.2.2.size≤maxLen
theorem ZiH {n:Nat}(h:n≤24):n≤maxLen:=by unfold maxLen;omega
theorem pt_rule:PT ZkH okRul :=
 pt_name.bind fun nm h1=>pt_year.bind fun f _=>(pt_to f).bind fun _ _=>pt_month.bind fun m _=>pt_form.bind fun k _=>(Zo1 1).bind fun c _=>pt_span.bind fun sv _=>pt_letter.bind fun l h2=>PT.ret ⟨ZiH h1,ZiH h2⟩
theorem pt_shift:PT Zgc (fun _=>True):=fun t ho=>⟨trivial,ZjQ ho rfl⟩
theorem pt_rules:PT ZrT (fun p=>p.2.size≤24):=by
 refine pt_next.bind (k:=Zd1) fun s hs t ho=>⟨?_,ZjR ho rfl⟩
 unfold Zd1
 split
 ·exact Nat.zero_le 24
 ·split
  ·exact Nat.zero_le 24
  ·exact hs
theorem pt_format:PT Zii (fun s=>s.size≤24):=by
 intro t ho
 have h:=Za8 ho (s:=(ZaR t).1) (u:=(ZaR t).2) rfl
 unfold Zii
 refine⟨h.1,?_⟩
 dsimp only;split
 ·exact h.2
 ·exact h.2
theorem pt_until:PT Zhu (fun _=>True) :=
 pt_year.bind fun y _=>pt_month.bind fun m _=>pt_day.bind fun d _=>(Zo1 2).bind fun c _=>PT.bind (P:=fun _=>True) (fun t ho=>⟨trivial,by unfold ZrR;dsimp only;split <;> exact ho⟩) fun _ _=>PT.ret trivial
theorem pt_end:PT tEnd (fun _=>True):=by
 intro t ho
 refine⟨trivial,?_⟩
 unfold tEnd
 split
 ·exact ho
 ·exact (pt_until t ho).2
theorem pt_era:PT tEra Zsx :=
 pt_shift.bind fun sh _=>pt_rules.bind fun r h1=>pt_format.bind fun f h2=>pt_end.bind fun u _=>PT.ret ⟨ZiH h1,ZiH h2⟩
theorem Zmf {s:Src}{x:Era}(h:Zgq s) (hx:Zsx x):Zgq (Zcz s x).1:=by
 refine⟨h.1,?_,h.2.2⟩
 show ∀ z∈ZpH s.2.1 x,_
 obtain⟨a,z,l⟩:=s
 have h2:=h.2.1
 simp only at h2 ⊢
 rcases List.eq_nil_or_concat z with rfl | ⟨i,y,rfl⟩
 ·intro z hz;cases hz
 ·rw[List.concat_eq_append,ZfZ]
  intro z hz
  rcases List.mem_append.1 hz with hz | hz
  ·exact h2 z (by rw[List.concat_eq_append];exact List.mem_append_left _ hz)
  ·rw[List.mem_singleton] at hz
   subst hz
   have hy:=h2 y (by rw[List.concat_eq_append];simp)
   refine⟨hy.1,fun e he=>?_⟩
   rcases List.mem_append.1 he with he | he
   ·exact hy.2 e he
   ·rw[List.mem_singleton] at he;subst he;exact hx
theorem pt_body {p:PS}(h:Zgq p.1):PT (ZeE p) (fun q=>Zgq q.1):=by
 unfold ZeE
 split
 ·exact pt_era.bind fun x hx=>PT.ret (Zmf h hx)
 ·refine pt_next.bind fun w _=>?_
  split
  ·refine pt_rule.bind fun r hr=>PT.ret ⟨fun y hy=>?_,h.2.1,h.2.2⟩
   rcases List.mem_append.1 hy with hy | hy
   ·exact h.1 y hy
   ·rw[List.mem_singleton] at hy;subst hy;exact hr
  ·split
   ·refine pt_name.bind fun n hn=>pt_era.bind fun x hx=>PT.ret (Zmf ⟨h.1,fun y hy=>?_,h.2.2⟩ hx)
    rcases List.mem_append.1 hy with hy | hy
    ·exact h.2.1 y hy
    ·rw[List.mem_singleton] at hy;subst hy;exact⟨ZiH hn,fun e he=>by cases he⟩
   ·split
    ·refine pt_name.bind fun a ha=>pt_name.bind fun b hb=>PT.ret ⟨h.1,h.2.1,fun y hy=>?_⟩
     rcases List.mem_append.1 hy with hy | hy
     ·exact h.2.2 y hy
     ·rw[List.mem_singleton] at hy;subst hy;exact⟨ZiH ha,ZiH hb⟩
    ·exact fun t ho=>⟨h,ho⟩
theorem Za7 {p q:PS}{x:Ln}{u:TS}(hB:ZeE p (x.2.2,false)=(q,u)) (h:u.2=true∨u.1≠[]∨x.2.1≠p.2):Zmq p x=none:=ZsS (by unfold badT;rw[hB];exact h)
theorem Zdw {p q:PS}{x:Ln}{u:TS}(hB:ZeE p (x.2.2,false)=(q,u)) (h1:u.2=false) (h2:u.1=[]) (h3:x.2.1=p.2):Zmq p x=some q:=by
 have:=lineR_ok (p:=p) (x:=x) (by unfold badT;rw[hB];simp[h1,h2,h3])
 rw[this,hB]
def curS (s:Src) (o:Option Zon):Src:=(s.1,s.2.1++o.toList,s.2.2)
theorem Ze3 {s:Src}:curS s none=s:=by unfold curS;simp
def zC (N v:Nat):Option Zon→List AV
 | none=>[]
 | some z=>[sv z.1,.own (N+5) v z.2.length]
def eC:Option Zon→List Era
 | none=>[]
 | some z=>z.2
theorem ZsL {n:Nat}{b:List AV}(hb:AV.ltL n b=true) : ∀ {a:List AV},AV.ltL n a=true→AV.ltL n (a++b)=true
 | [],_=>hb
 | x::a,h=>by
  simp only[List.cons_append,AV.ltL,Bool.and_eq_true] at h ⊢
  exact⟨h.1,ZsL hb h.2⟩
theorem ZgW {N v:Nat}{l:List Zon}{o:Option Zon}:AV.ltL (N+6) (rows zonC l++zC N v o)=true:=by
 refine ZsL ?_ (Zbs l)
 cases o <;> simp[zC,AV.ltL,AV.lt]
theorem Zlw {N v:Nat}{l:List Zon}{o:Option Zon}:(rows zonC l++zC N v o).length=(l.length+o.toList.length)*2:=by
 rw[List.length_append,ZgV]
 cases o <;> simp[zC] <;> omega
theorem zc_at {l:List Zon}{a b:AV}{off:Nat}(h:off=l.length*2+1):(rows zonC l++[a,b])[off]?=some b:=by
 subst h
 rw[List.getElem?_append_right (by rw[ZgV];omega),ZgV,Nat.add_sub_cancel_left];rfl
theorem zc_set {l:List Zon}{a b c:AV}{off:Nat}(h:off=l.length*2+1):setCells (rows zonC l++[a,b]) off [c]=rows zonC l++[a,c]:=by
 subst h
 simp only[setCells]
 rw[List.set_append_right _ _ (by rw[ZgV];omega),ZgV,Nat.add_sub_cancel_left];rfl
theorem zc_put {l:List Zon}{a b c:AV}:aPut (rows zonC l++[a,b]) (some (l.length*2+1)) c=rows zonC l++[a,c]:=zc_set rfl
theorem zc_at2 {l:List Zon}{N v:Nat}{a b:AV}{off:Nat}(h:off=l.length*2+1):(rows zonC l++zC N v none++[a,b])[off]?=some b:=by
 rw[show rows zonC l++zC N v none=rows zonC l from List.append_nil _];exact zc_at h
theorem zc_put2 {l:List Zon}{N v:Nat}{a b c:AV}:aPut (rows zonC l++zC N v none++[a,b]) (some (l.length*2+1)) c=rows zonC l++[a,c]:=by
 rw[show rows zonC l++zC N v none=rows zonC l from List.append_nil _];exact zc_put
theorem ZlT {s:ByteArray} : ∀ x∈(Zb0 s).1,∀ f∈x.2.2,f.size≤24:=by
 intro x hx f hf
 have h:=Znm x hx
 unfold Zqd at h
 split at h
 ·cases h
 ·split at h
  ·cases h
  ·have : ∀ {fs:List ByteArray},Zj4 fs=0 → ∀ f∈fs,ZfK f=0:=by
    intro fs
    induction fs with
    | nil=>intro _ f hf;cases hf
    | cons g fs ih =>
     intro h f hf
     rw[Zj4] at h
     split at h
     ·rename_i h1;exact absurd h h1
     ·rename_i h1
      rcases List.mem_cons.1 hf with rfl | hf
      ·exact Decidable.of_not_not h1
      ·exact ih h f hf
   exact (Zqn (this h f hf)).2
theorem ZrV {s:ByteArray}:(Zb0 s).1.length≤200:=by
 unfold Zb0
 split
 ·simp
 ·split
  ·rename_i h2;rw[ZjU h2];simp
  ·split
   ·simp
   ·omega
end Go.Proofs.YtlekejpogddndaaGreatDoor
end
section
namespace Go.Proofs.YtlekejpogddndaaGreatDoor
open Go.Ab Go.RowKit Civ
attribute [local simp] Zbj Zby Zbs Zbv ZbU ZfT ZgW
section
theorem Zjc {τ:Operand→AV}:Zar τ [] [(.sl 0 0 true []),(.sl 0 0 true []),(.sl 0 0 true [])]=some [(.sl 0 0 true []),(.sl 0 0 true []),(.sl 0 0 true [])]:=rfl
theorem ZaU {a0 a1 a2 c0 c1 c2:AV}{l:List AV}:setCells (a0::a1::a2::l) 0 [c0,c1,c2]=c0::c1::c2::l:=rfl
theorem ZaS {a0 a1 a2:AV}{l:List AV}:((a0::a1::a2::l).drop 0).take 3=[a0,a1,a2]:=rfl
theorem Zjb {τ:Operand→AV}{y0:Operand}{x0_0:AV}(h0:Zat (τ y0)=some [x0_0]) (l0:[x0_0].all leaf=true):Zar τ [(0,1,y0)] [(.sl 0 0 true []),(.v (.bool false))]=some [x0_0,(.v (.bool false))]:=by
 simp only[Zar,h0,l0]
 rfl
theorem Zkm {a0 a1 c0 c1:AV}{l:List AV}:setCells (a0::a1::l) 0 [c0,c1]=c0::c1::l:=rfl
theorem Zi9 {τ:Operand→AV}{y0:Operand}{x0_0 x0_1 x0_2 x0_3 x0_4 x0_5 x0_6 x0_7 x0_8 x0_9 x0_10:AV}(h0:Zat (τ y0)=some [x0_0,x0_1,x0_2,x0_3,x0_4,x0_5,x0_6,x0_7,x0_8,x0_9,x0_10]) (l0:[x0_0,x0_1,x0_2,x0_3,x0_4,x0_5,x0_6,x0_7,x0_8,x0_9,x0_10].all leaf=true):Zar τ [(0,11,y0)] [(.v (.string ⟨#[]⟩)),(.v (.int .i64 0)),(.v (.int .i64 0)),(.v (.int .i64 0)),(.v (.int .i64 0)),(.v (.int .i64 0)),(.v (.int .i64 0)),(.v (.int .i64 0)),(.v (.int .i64 0)),(.v (.int .i64 0)),(.v (.string ⟨#[]⟩))]=some [x0_0,x0_1,x0_2,x0_3,x0_4,x0_5,x0_6,x0_7,x0_8,x0_9,x0_10]:=by
 simp only[Zar,h0,l0]
 rfl
theorem ZqZ {a0 a1 a2 a3 a4 a5 a6 a7 a8 a9 a10:AV}{l:List AV}:(a0::a1::a2::a3::a4::a5::a6::a7::a8::a9::a10::l).take 11=[a0,a1,a2,a3,a4,a5,a6,a7,a8,a9,a10]:=rfl
theorem Zkn {a0 c0:AV}{l:List AV}:setCells (a0::l) 0 [c0]=c0::l:=rfl
theorem ZaF {τ:Operand→AV}:Zar τ [] [(.sl 0 0 true []),(.sl 0 0 true []),(.sl 0 0 true [])]=some [(.sl 0 0 true []),(.sl 0 0 true []),(.sl 0 0 true [])]:=rfl
theorem Zi8 {τ:Operand→AV}{y0:Operand}{x0_0:AV}(h0:Zat (τ y0)=some [x0_0]) (l0:[x0_0].all leaf=true):Zar τ [(0,1,y0)] [(.v (.string ⟨#[]⟩)),(.sl 0 0 true [])]=some [x0_0,(.sl 0 0 true [])]:=by
 simp only[Zar,h0,l0]
 rfl
theorem Zi6 {a0 a1 a2 a3 a4 a5 a6 a7 a8 a9 c0 c1 c2 c3 c4 c5 c6 c7 c8 c9:AV}{l:List AV}:setCells (a0::a1::a2::a3::a4::a5::a6::a7::a8::a9::l) 0 [c0,c1,c2,c3,c4,c5,c6,c7,c8,c9]=c0::c1::c2::c3::c4::c5::c6::c7::c8::c9::l:=rfl
theorem Zi5 {a0 a1 a2 a3 a4 a5 a6 a7 a8 a9:AV}{l:List AV}:((a0::a1::a2::a3::a4::a5::a6::a7::a8::a9::l).drop 0).take 10=[a0,a1,a2,a3,a4,a5,a6,a7,a8,a9]:=rfl
theorem Zi7 {τ:Operand→AV}{y0:Operand}{x0_0 x0_1 x0_2 x0_3 x0_4 x0_5 x0_6 x0_7 x0_8 x0_9:AV}(h0:Zat (τ y0)=some [x0_0,x0_1,x0_2,x0_3,x0_4,x0_5,x0_6,x0_7,x0_8,x0_9]) (l0:[x0_0,x0_1,x0_2,x0_3,x0_4,x0_5,x0_6,x0_7,x0_8,x0_9].all leaf=true):Zar τ [(0,10,y0)] [(.v (.int .i64 0)),(.v (.string ⟨#[]⟩)),(.v (.int .i64 0)),(.v (.string ⟨#[]⟩)),(.v (.bool false)),(.v (.int .i64 0)),(.v (.int .i64 0)),(.v (.int .i64 0)),(.v (.int .i64 0)),(.v (.int .i64 0))]=some [x0_0,x0_1,x0_2,x0_3,x0_4,x0_5,x0_6,x0_7,x0_8,x0_9]:=by
 simp only[Zar,h0,l0]
 rfl
theorem Zkk {a0 a1 a2 a3 a4 a5 a6 a7 a8 a9:AV}{l:List AV}:(a0::a1::a2::a3::a4::a5::a6::a7::a8::a9::l).take 10=[a0,a1,a2,a3,a4,a5,a6,a7,a8,a9]:=rfl
theorem Zfv {a0 a1 c0:AV}{l:List AV}:setCells (a0::a1::l) 1 [c0]=a0::c0::l:=rfl
theorem Zkl {a0 a1:AV}{l:List AV}:((a0::a1::l).drop 0).take 2=[a0,a1]:=rfl
theorem ZhQ {τ:Operand→AV}{y0:Operand}{x0_0 x0_1:AV}(h0:Zat (τ y0)=some [x0_0,x0_1]) (l0:[x0_0,x0_1].all leaf=true):Zar τ [(0,2,y0)] [(.v (.string ⟨#[]⟩)),(.sl 0 0 true [])]=some [x0_0,x0_1]:=by
 simp only[Zar,h0,l0]
 rfl
theorem ZtZ {h:AH}{n:Nat}(hn:h.length=n) {e0 e1 e2 e3 e4 e5 e6 e7 e8 e9:Ent}:(h++[e0,e1,e2,e3,e4,e5,e6,e7,e8,e9]).length=n+10:=by subst hn;simp
theorem Zt0 {h:AH}{e0 e1 e2 e3 e4 e5 e6 e7 e8 e9 e:Ent}:(h++[e0,e1,e2,e3,e4,e5,e6,e7,e8,e9])++[e]=h++[e0,e1,e2,e3,e4,e5,e6,e7,e8,e9,e]:=by simp
theorem ZmV {a0 a1:AV}{l:List AV}:(a0::a1::l).take 2=[a0,a1]:=rfl
theorem ZhP {τ:Operand→AV}{y0:Operand}{x0_0 x0_1:AV}(h0:Zat (τ y0)=some [x0_0,x0_1]) (l0:[x0_0,x0_1].all leaf=true):Zar τ [(0,2,y0)] [(.v (.string ⟨#[]⟩)),(.v (.string ⟨#[]⟩))]=some [x0_0,x0_1]:=by
 simp only[Zar,h0,l0]
 rfl
theorem Zq0 {a0 a1 a2 c0:AV}{l:List AV}:setCells (a0::a1::a2::l) 2 [c0]=a0::a1::c0::l:=rfl
theorem Zja {τ:Operand→AV}{y0:Operand}{x0_0 x0_1 x0_2 x0_3 x0_4 x0_5 x0_6 x0_7 x0_8 x0_9:AV}(h0:Zat (τ y0)=some [x0_0,x0_1,x0_2,x0_3,x0_4,x0_5,x0_6,x0_7,x0_8,x0_9]) (l0:[x0_0,x0_1,x0_2,x0_3,x0_4,x0_5,x0_6,x0_7,x0_8,x0_9].all leaf=true):Zar τ [(0,10,y0)] [(.v (.int .i64 0)),(.v (.string ⟨#[]⟩)),(.v (.int .i64 0)),(.v (.string ⟨#[]⟩)),(.v (.bool false)),(.v (.int .i64 0)),(.v (.int .i64 0)),(.v (.int .i64 0)),(.v (.int .i64 0)),(.v (.int .i64 0))]=some [x0_0,x0_1,x0_2,x0_3,x0_4,x0_5,x0_6,x0_7,x0_8,x0_9]:=by
 simp only[Zar,h0,l0]
 rfl
theorem ZtY { e:Ent}:([]:AH)++[e]=[e]:=rfl
theorem Zq1 {e0 e1 e2 e3 e4 e5 e6 e7 d0:Ent}:([e0,e1,e2,e3,e4,e5,e6,e7]:AH)++[d0]=[e0,e1,e2,e3,e4,e5,e6,e7,d0]:=rfl
theorem ZhO {τ:Operand→AV}:Zar τ [] [(.sl 0 0 true []),(.sl 0 0 true []),(.sl 0 0 true [])]=some [(.sl 0 0 true []),(.sl 0 0 true []),(.sl 0 0 true [])]:=rfl
theorem ZhN {τ:Operand→AV}:Zar τ [] [(.sl 0 0 true []),(.sl 0 0 true []),(.sl 0 0 true [])]=some [(.sl 0 0 true []),(.sl 0 0 true []),(.sl 0 0 true [])]:=rfl
end
def c130:AC:=(Sr [Oo 2 (.new 26 3 [(.sl 0 0 true []),(.sl 0 0 true []),(.sl 0 0 true [])]),Mc 3 0,Mc 4 0] (Sr [Mv 20 0,Cl 21 199 [(.tmp 20)],Mv 19 21,Ex 22 19 0,Ex 23 19 1,Ex 24 19 2,Mv 5 22,Mv 6 23,Mv 7 24] (.seq (Sr [Mv 25 7,Bc 26 .neq 25 0] (Cd 26 (Sr [Oo 27 (.build [(.sl 0 0 true []),(.sl 0 0 true []),(.sl 0 0 true [])] []),Mv 28 6,Mv 29 7,⟨none,none,(.store 3 (.tmp 2) (.tmp 27))⟩,Mv 3 28,Mv 4 29] .ret) .skip)) (Sr [Oo 8 (.new 26 3 [(.sl 0 0 true []),(.sl 0 0 true []),(.sl 0 0 true [])])] (Sr [Mb 9 false] (.seq (Sr [Mc 10 0] (.block 0 (.loop (.seq (Sr [Mv 30 10,Mv 31 5,Oo 32 (.len false (.tmp 31)),Bn 33 .lss 30 32] (Cd 33 .skip (.exit 0))) (.seq (.block 1 (Sr [Mv 36 5,Mv 37 10,Oo 38 (.ia 3 (.tmp 36) (.tmp 37)),Fa 39 2 38,Ld 40 39,Oo 41 (.build [(.sl 0 0 true []),(.v (.bool false))] [(0,(1,(.tmp 40)))]),Oo 11 (.new 250 2 [(.sl 0 0 true []),(.v (.bool false))]),⟨none,none,(.store 2 (.tmp 11) (.tmp 41))⟩] (Sr [Mv 42 9,Mv 12 42] (Sr [Ms 13] (.seq (Sr [Mv 43 9,Oo 44 (.un .not (.tmp 43))] (Cd 44 (.reg [Cl 45 200 [(.tmp 11)],Mv 13 45]) .skip)) (.seq (.block 2 (Sr [Mv 48 9,Mv 47 48] (Cd 47 (Sr [Fa 49 1 8,Ld 50 49,Oo 51 (.len false (.tmp 50)),Bc 52 .sub 51 1,Mv 14 52] (Sr [Cl 53 201 [(.tmp 11)],Oo 15 (.new 63 10 [(iv 0),Ss,(iv 0),Ss,(.v (.bool false)),(iv 0),(iv 0),(iv 0),(iv 0),(iv 0)]),⟨none,none,(.store 10 (.tmp 15) (.tmp 53))⟩] (.seq (.drw [Fa 54 1 8,Oo 55 (.loadR false 1 (.tmp 54)),Mv 56 14,Fa 57 1 8,Ld 58 57,Mv 59 14,Oo 60 (.ia 2 (.tmp 58) (.tmp 59)),Fa 61 1 60,Ld 62 61,Oo 63 (.load true 10 (.tmp 15)),Oo 64 (.lit 63 10 1 [(iv 0),Ss,(iv 0),Ss,(.v (.bool false)),(iv 0),(iv 0),(iv 0),(iv 0),(iv 0)] [(0,(10,(.tmp 63)))])] [true,false,false,false] [Oo 65 (.app 63 10 96 (.tmp 62) (.tmp 64)),Oo 66 (.ia 2 (.tmp 55) (.tmp 56)),Fa 67 1 66,Sc 67 65]) (.reg [Fa 68 4 15,Ld 69 68,Oo 70 (.un .not (.tmp 69)),Mv 9 70])))) (Sr [Mv 72 13,Oo 73 (.bin .eql (.tmp 72) (.const (.string ⟨#[82,117,108,101]⟩))),Mv 71 73] (Cd 71 (.orPan (.drw [Fa 74 0 8,Oo 75 (.loadR false 1 (.tmp 74))] [true,true,false,false,false] [Cl 76 202 [(.tmp 11)],Oo 77 (.lit 36 11 1 [Ss,(iv 0),(iv 0),(iv 0),(iv 0),(iv 0),(iv 0),(iv 0),(iv 0),(iv 0),Ss] [(0,(11,(.tmp 76)))]),Oo 78 (.app 36 11 104 (.tmp 75) (.tmp 77)),Fa 79 0 8,Sc 79 78]) (.tmp 11) 202 [Fa 74 0 8,Ld 75 74,Mv 76 11,Mb 77 false,Mb 78 false,Mb 79 false,⟨none,none,(.mv (.const (.bool false)))⟩] 76) (Sr [Mv 81 13,Oo 82 (.bin .eql (.tmp 81) (.const (.string ⟨#[90,111,110,101]⟩))),Mv 80 82] (Cd 80 (Sr [Cl 83 203 [(.tmp 11)],Oo 84 (.build [Ss,(.sl 0 0 true [])] [(0,(1,(.tmp 83)))]),Oo 16 (.new 53 2 [Ss,(.sl 0 0 true [])]),⟨none,none,(.store 2 (.tmp 16) (.tmp 84))⟩] (Sr [Cl 85 201 [(.tmp 11)],Oo 17 (.new 63 10 [(iv 0),Ss,(iv 0),Ss,(.v (.bool false)),(iv 0),(iv 0),(iv 0),(iv 0),(iv 0)]),⟨none,none,(.store 10 (.tmp 17) (.tmp 85))⟩] (Sr [Fa 86 1 16,Ld 87 86,Oo 88 (.load true 10 (.tmp 17)),Oo 89 (.lit 63 10 1 [(iv 0),Ss,(iv 0),Ss,(.v (.bool false)),(iv 0),(iv 0),(iv 0),(iv 0),(iv 0)] [(0,(10,(.tmp 88)))]),Oo 90 (.app 63 10 96 (.tmp 87) (.tmp 89)),Fa 91 1 16,Sc 91 90] (Sr [Fa 92 1 8,Ld 93 92,Oo 94 (.load true 2 (.tmp 16)),Oo 95 (.lit 53 2 1 [Ss,(.sl 0 0 true [])] [(0,(2,(.tmp 94)))]),Oo 96 (.app 53 2 40 (.tmp 93) (.tmp 95)),Fa 97 1 8,Sc 97 96] (.reg [Fa 98 4 17,Ld 99 98,Oo 100 (.un .not (.tmp 99)),Mv 9 100]))))) (Sr [Mv 102 13,Oo 103 (.bin .eql (.tmp 102) (.const (.string ⟨#[76,105,110,107]⟩))),Mv 101 103] (Cd 101 (Sr [Oo 18 (.new 129 2 [Ss,Ss])] (Sr [Cl 104 203 [(.tmp 11)],Fa 105 0 18,Sc 105 104] (Sr [Cl 106 203 [(.tmp 11)],Fa 107 1 18,Sc 107 106] (.reg [Fa 108 2 8,Ld 109 108,Oo 110 (.load true 2 (.tmp 18)),Oo 111 (.lit 129 2 1 [Ss,Ss] [(0,(2,(.tmp 110)))]),Oo 112 (.app 129 2 32 (.tmp 109) (.tmp 111)),Fa 113 2 8,Sc 113 112])))) (.reg [Fa 46 1 11,⟨none,none,(.store 1 (.tmp 46) (.const (.bool true)))⟩])))))))))) (Sr [Fa 114 1 11,Ld 115 114,Mv 116 115,Of 117 116 (.fa 0 (.tmp 11)),Of 118 116 (.load false 1 (.tmp 117)),Of 119 116 (.len false (.tmp 118)),Of 120 116 (.bin .gtr (.tmp 119) (Ci 0)),Oo 121 (.pick (.tmp 116) (.const (.bool true)) (.tmp 120)),Mv 122 121,Of 123 122 (mt 5),Of 124 122 (mt 10),Of 125 122 (.ia 3 (.tmp 123) (.tmp 124)),Of 126 122 (.fa 1 (.tmp 125)),Of 127 122 (.load false 1 (.tmp 126)),Of 128 122 (mt 12),Of 129 122 (.eqb true (.tmp 127) (.tmp 128)),Oo 130 (.pick (.tmp 122) (.const (.bool true)) (.tmp 129))] (Cd 130 (.seq (.drwU [[],[0],[0,1],[0],[0],[0],[1,2,3,4,5],[],[]] [Oo 131 (.build [(.sl 0 0 true []),(.sl 0 0 true []),(.sl 0 0 true [])] []),Mv 132 5,Mv 133 10,Oo 134 (.ia 3 (.tmp 132) (.tmp 133)),Fa 135 0 134,Ld 136 135,⟨none,none,(.store 3 (.tmp 2) (.tmp 131))⟩,Mv 3 136,Mc 4 1]) .ret) .skip)))))))) (.reg [Mv 34 10,Bc 35 .add 34 1,Mv 10 35])))))) (.seq (Sr [Mv 137 9] (Cd 137 (Sr [Oo 138 (.build [(.sl 0 0 true []),(.sl 0 0 true []),(.sl 0 0 true [])] []),⟨none,none,(.store 3 (.tmp 2) (.tmp 138))⟩,Mc 3 0,Mc 4 1] .ret) .skip)) (Sr [Oo 139 (.load true 3 (.tmp 8)),Cl 140 79 [(.tmp 139)],Mv 7 140] (.seq (Sr [Mv 141 7,Bc 142 .neq 141 0] (Cd 142 (Sr [Oo 143 (.build [(.sl 0 0 true []),(.sl 0 0 true []),(.sl 0 0 true [])] []),Mv 144 7,⟨none,none,(.store 3 (.tmp 2) (.tmp 143))⟩,Mc 3 0,Mv 4 144] .ret) .skip)) (Sr [Oo 145 (.load true 3 (.tmp 8)),Mv 146 7,⟨none,none,(.store 3 (.tmp 2) (.tmp 145))⟩,Mc 3 0,Mv 4 146] .ret))))))))))
theorem k130:ZaA Tryz.prog 130=some ⟨c130,[(.cell 2 true 3),(.tmp 3),(.tmp 4)],147⟩:=by kernel_rfl
theorem trule_e {t t1:TS}{r:Rul}{id:Nat}{h:AH}(ho:okTS t) (he:ZkH t=(r,t1)) (h1:h[id]?=some (takE t)):ACalls Tryz.prog 202 [.ptr id 0 0] h fun x h'=>x=.ret (.agg (rulC r))∧h'=h.set id (takE t1):=by
 have:=trule_a ho h1
 rw[he] at this
 exact this
theorem tera_e {t t1:TS}{r:Era}{id:Nat}{h:AH}(ho:okTS t) (he:tEra t=(r,t1)) (h1:h[id]?=some (takE t)):ACalls Tryz.prog 201 [.ptr id 0 0] h fun x h'=>x=.ret (.agg (eraC r))∧h'=h.set id (takE t1):=by
 have:=tera_a ho h1
 rw[he] at this
 exact this
theorem ZbL {n e:AV}:Wk (.tup [.agg [.sl 0 0 true [],.sl 0 0 true [],.sl 0 0 true []],n,e]) (.tup [.agg (srcC srcZ),n,e]) :=
 Wk.tup (wkw (Wk.agg (wkw Wk.nilF (wkw Wk.nilF (wkw Wk.nilF wk0)))) (wk1 rfl (wk1 rfl wk0)))
theorem okSrc_Z:Zgq (curS srcZ none):=by rw[Ze3];exact⟨fun _ h=>(by cases h),fun _ h=>(by cases h),fun _ h=>(by cases h)⟩
theorem lt26 {N:Nat}:decide (N+2<N+6)=true:=by simp
attribute [local simp] lt26
theorem lt36 {N:Nat}:decide (N+3<N+6)=true:=by simp
attribute [local simp] lt36
theorem lt46 {N:Nat}:decide (N+4<N+6)=true:=by simp
attribute [local simp] lt46
theorem lt56 {N:Nat}:decide (N+5<N+6)=true:=by simp
attribute [local simp] lt56
theorem rparse_a {s:ByteArray}{h:AH}:Ac 130 [sv s] h (.tup [.agg (srcC (ZbJ s).1),iv (ZbJ s).2.1,iv (ZbJ s).2.2]):=by
 obtain⟨L,hL⟩ : ∃ L,L=(Zb0 s).1:=⟨_,rfl⟩
 have hf24:=ZlT (s:=s)
 have hL200:=ZrV (s:=s)
 rw[←hL] at hf24 hL200
 have hV0:=Zsr s
 rw[←hL] at hV0
 refine tW' k130 fun N hn hlt hlA hbd=>?_
 simp only[tb'] at hbd ⊢
 refine wr'<|E' (ZaV (hl0 hn) ha0) pt<|mw<|mw<|sn'<|wr'<|mw<|Zad mp (Zp1) pt<|?_
 rw[←hL]
 refine mw<|Vw (ZaN lk gt)<|Vw (ZaN lk gt)<|Vw (ZaN lk gt)<|mw<|mw<|mw<|sn'<|Zam<|wr'<|mw<|Vw (ZaT lk lki)<|?_
 refine sn' ?_
 refine cd' lk (fun hc1=>?_) (fun hc1=>?_)
 ·have hV:ZbJ s=(srcZ,(Zb0 s).2.1,(Zb0 s).2.2):=by rw[hV0];exact if_pos hc1
  refine wr'<|Vw (Zau Zjc)<|mw<|mw<|E' (Zak lk cv gx rfl (nb' rfl) rfl ZaU (hs0 hn)) ptn<|mw<|mw<|sn'<|Zaa<|Zai<|Zae (rsn (rm1 (rr_c gt gx (ld1 ZaS rfl)) (rm1 (rr_t gt) (rm1 (rr_t gt) rm0))))<|rtW'<|?_
  rw[hV];exact ZbL
 have hV:ZbJ s=outP L:=by rw[hV0];exact if_neg hc1
 clear hV0
 refine Zaf<|Zah<|wr'<|E' (ZaV (hl1 hn) ha1) pt<|Zas<|?_
 refine Za5 (ALe.trans (ALe.own0Cell (st':=11) (ty:=36) gx gt0 (hl2 hn) pt0 (Eq.trans (congrArg (fun z=>List.set z _ _) ha2) (hs1 hn))) (ALe.trans (ALe.own0Cell (st':=2) (ty:=53) gx gt1 (hl3 hn) pt1 (Eq.trans (congrArg (fun z=>List.set z _ _) ha3) (hs1 hn))) (ALe.own0Cell (st':=2) (ty:=129) gx gt2 (hl4 hn) pt2 (Eq.trans (congrArg (fun z=>List.set z _ _) ha4) (hs1 hn))))) ?_
 refine wr'<|mv' lkb pt9<|Zas<|Za5 ((ALe.newEnt (ty:=63) (st:=10) ha5))<|Zam<|wr'<|mv' lki pt10<|sn'<|Zap<|?_
 refine w_lp (ι:=Nat×Src×Option Zon×Nat×Nat×Nat×Nat×Nat) (fun (x_:Nat×Src×Option Zon×Nat×Nat×Nat×Nat×Nat)=>match x_ with | ⟨k,sr,o,m,v1,v2,v3,v4⟩=>[(9,bv o.isSome),(10,iv (k:Int)),(3,.any),(4,.any)]++rn' 11 8++rn' 30 107) (fun (x_:Nat×Src×Option Zon×Nat×Nat×Nat×Nat×Nat)=>match x_ with | ⟨k,sr,o,m,v1,v2,v3,v4⟩=>[(1,.mk 0 26 3 [.own (N+2) v1 sr.1.length,.own (N+3) v2 m,.own (N+4) v3 sr.2.2.length]),(2,.mk v1 36 11 (rows rulC sr.1)),(3,.mk v2 53 2 (rows zonC sr.2.1++zC N v4 o)),(4,.mk v3 129 2 (rows lnkC sr.2.2)),(5,.mk v4 63 10 (rows eraC (eC o)))]) (fun (x_:Nat×Src×Option Zon×Nat×Nat×Nat×Nat×Nat)=>match x_ with | ⟨k,sr,o,m,v1,v2,v3,v4⟩=>k≤L.length∧m=sr.2.1.length+o.toList.length∧sr.1.length≤k∧m≤k∧sr.2.2.length≤k∧(eC o).length≤k∧Zgq (curS sr o)∧runR (srcZ,false) L=runR (curS sr o,o.isSome) (L.drop k)) (fun (x_:Nat×Src×Option Zon×Nat×Nat×Nat×Nat×Nat)=>match x_ with | ⟨k,sr,o,m,v1,v2,v3,v4⟩=>L.length-k) (⟨0,srcZ,none,0,0,0,0,0⟩) (by exact⟨Nat.zero_le _,rfl,Nat.le_refl _,Nat.le_refl _,Nat.le_refl _,Nat.le_refl _,okSrc_Z,rfl⟩) ?_
 rintro⟨k,sr,o,m,v1,v2,v3,v4⟩ hi1
 try simp only[sm',Nat.reduceAdd]
 obtain⟨hk1,hm,hk2,hk3,hk4,hk5,hok,hrun⟩:=hi1
 refine Zam<|wr'<|mw<|mw<|Vw (ZaL lk)<|Vw (Zbb lk lk)<|sn'<|?_
 refine cd' lk (fun hc2=>?_) (fun hc2=>?_)
 ·have hk:k<L.length:=by omega
  have hfs:=hf24 _ (List.getElem_mem hk)
  have hokt:okTS (L[k].2.2,false):=hfs
  rw[runR_at hk] at hrun
  have hPT:=pt_body (p:=(curS sr o,o.isSome)) hok (L[k].2.2,false) hokt
  refine Zaf<|Zah<|Zam<|Zap<|wr'<|mw<|mw<|?_
  refine V' (Za0 lk lk Zbm (nb' rfl) ro om ro rfl) pt ?_
  refine V' (ZbM lk38 dp2) pt39<|V' (ZaE lk39 gt0) pt40<|V' (Zau (Zjb (cvl lk40 rfl) rfl)) pt41<|E' (ZaV (hl6 hn) ha6) pt11<|E' (Zak lk11 (cvl lk41 rfl) gx rfl (nb' rfl) rfl Zkm (hs6 hn)) ptn<|Zas<|Za5 ((ALe.same (WkL.refl _) rfl))<|wr'<|?_
  by_cases hs36:o=none
  ·subst hs36
   simp only[Option.isSome_none] at hrun hPT
   have hm':m=sr.2.1.length:=by simpa using hm
   subst hm'
   obtain⟨w,t1,e1⟩ : ∃ a b,ZaR (L[k].2.2,false)=(a,b):=⟨_,_,rfl⟩
   obtain⟨z1,o1⟩:=Za8 hokt e1
   refine mw<|mw<|sn'<|wr'<|mw<|sn'<|Zam<|wr'<|mw<|?_
   refine V' ((by first | exact v_not lk | exact Zax lk)) pt ?_
   refine sn' ?_
   refine ZcZ lk (by rfl) ?_
   refine Zav<|ZaO mp (Zdg e1 gx) (hs6 hn) pt<|mw<|sn'<|Zam<|Zap<|wr'<|mw<|mw<|sn'<|?_
   refine ZdO lk (by rfl) ?_
   refine wr'<|mw<|Vw (ZcF lk lks)<|mw<|sn'<|?_
   refine cd' lk (fun hc5=>?_) (fun hc5=>?_)
   ·have hwR:w=ruleA:=hc5
    obtain⟨r,u,eR⟩ : ∃ a b,ZkH t1=(a,b):=⟨_,_,rfl⟩
    have hB:ZeE (curS sr none,false) (L[k].2.2,false)=((curS (sr.1++[r],sr.2.1,sr.2.2) none,false),u):=by unfold ZeE;rw[if_neg (by simp)];simp only[Zb1,e1,if_pos hwR,ret2,eR];rfl
    have hq:True:=trivial
    refine w_orl<|ZoK [N+1]<|Dw (Zab lk)<|?_
    refine d_ldP lk gx (ld0 gt) (by simp) pt ?_
    refine ZbI<|ZnK<|?_
    refine k_calls mp (trule_e o1 eR gx) (hs6 hn) (by intro i hi;simp only[cond_true,List.mem_cons,List.not_mem_nil,or_false] at hi;subst hi;first | rfl | exact (hga hn rfl).trans (hga hn rfl).symm) pt ?_
    refine ZsY rfl rfl (Zdm (Zi9 cv rfl) (hl7 hn) ha7) (by intro i hi;simp only[cond_true,List.mem_cons,List.not_mem_nil,or_false] at hi;subst hi;first | rfl | exact (hga hn rfl).trans (hga hn rfl).symm) pt ?_
    refine ZsY rfl rfl (Zdn (Zcs lk gx rfl ZqZ (nb' rfl)) lk gx (Znq _) om rfl (hs2 hn)) (by intro i hi;simp at hi) pt ?_
    refine Zqf rfl (Zab lk) pt ?_
    refine ZsY rfl rfl (Zak lk cv gx rfl (nb' rfl) rfl Zkn (hs1 hn)) (by intro i hi;simp at hi) ptn ?_
    refine ZsX<|Zaz<|Zah<|wr'<|Vw (Zab lk)<|Vw (Zac lk gx gt1)<|mw<|?_
    refine ZaG (t:=116) gt pt pt (fun hg116=>?_) (fun hg116=>?_)
    ·have hN:=Za7 hB (.inl hg116)
     refine s_no gt pt<|s_no gt pt<|s_no gt pt<|s_no gt pt<|Vw (Zag lk lkb)<|mw<|s_no gt pt<|s_no gt pt<|s_no gt pt<|s_no gt pt<|s_no gt pt<|s_no gt pt<|s_no gt pt<|Vw (Zag lk lkb)<|?_
     refine sn'<|ZaC lk<|Zam<|Zb2<|u_fr rfl (Zau ZaF) pt<|u_fr rfl (v_mv lk) pt<|u_fr rfl (v_mv lk) pt<|?_
     refine u_fr rfl (Za0 lk lk Zbm (nb' rfl) ro om ro rfl) pt ?_
     refine u_fr rfl (ZbM lk dp0) pt<|u_fr rfl (ZaE lk gt) pt<|?_
     refine u_st (Zak lk cv gx rfl (nb' rfl) rfl ZaU (hs0 hn)) lk nh ptn ?_
     refine u_fr rfl (v_mv lk) pt<|u_fr rfl (v_mv lki) pt<|Zc8<|Zah<|Zaa<|Zaq<|Zai<|Zai<|Zaq<|Zai<|Zae (rsn (rm1 (rr_c gt gx (ld1 ZaS rfl)) (rm1 (rr_t gt) (rm1 (rr_t gt) rm0))))<|rtW'<|?_
     have hP:ZbJ s=(srcZ,L[k].1,1):=by rw[hV,outP,hrun,hN]
     rw[hP];exact ZbL
    refine s_do gt<|Vw (Zab lk)<|s_do gt<|Vw (Zac lk gx gt0)<|s_do gt<|Vw (ZaL lk)<|s_do gt<|Vw (ZbD lk lki)<|Vw (Zaj lk lk)<|mw<|?_
    refine sp' (t:=122) gt pt pt (fun hg122=>?_) (fun hg122=>?_)
    ·have hN:=Za7 hB (.inr (.inl (by intro e;rw[e] at hg122;exact absurd hg122 (by decide))))
     refine s_no gt pt<|s_no gt pt<|s_no gt pt<|s_no gt pt<|s_no gt pt<|s_no gt pt<|s_no gt pt<|Vw (Zag lk lkb)<|sn'<|ZaC lk<|Zam<|Zb2<|u_fr rfl (Zau ZaF) pt<|?_
     refine u_fr rfl (v_mv lk) pt<|u_fr rfl (v_mv lk) pt<|?_
     refine u_fr rfl (Za0 lk lk Zbm (nb' rfl) ro om ro rfl) pt ?_
     refine u_fr rfl (ZbM lk dp0) pt<|u_fr rfl (ZaE lk gt) pt<|?_
     refine u_st (Zak lk cv gx rfl (nb' rfl) rfl ZaU (hs0 hn)) lk nh ptn ?_
     refine u_fr rfl (v_mv lk) pt<|u_fr rfl (v_mv lki) pt<|Zc8<|Zah<|Zaa<|Zaq<|Zai<|Zai<|Zaq<|Zai<|Zae (rsn (rm1 (rr_c gt gx (ld1 ZaS rfl)) (rm1 (rr_t gt) (rm1 (rr_t gt) rm0))))<|rtW'<|?_
     have hP:ZbJ s=(srcZ,L[k].1,1):=by rw[hV,outP,hrun,hN]
     rw[hP];exact ZbL
    refine s_do gt<|mw<|s_do gt<|mw<|s_do gt<|?_
    refine V' (Za0 lk lk Zbm (nb' rfl) ro om ro rfl) pt ?_
    refine s_do gt<|Vw (ZbM lk dp1)<|s_do gt<|Vw (ZaE lk gt)<|s_do gt<|mw<|s_do gt<|Vw (ZdP lk lk)<|Vw (Zaj lk lk)<|sn'<|?_
    refine cd' lk (fun hc8=>?_) (fun hc8=>?_)
    ·have hN:=Za7 hB (.inr (.inr (by simpa using hc8)))
     refine Zam<|Zb2<|u_fr rfl (Zau ZaF) pt<|u_fr rfl (v_mv lk) pt<|u_fr rfl (v_mv lk) pt<|?_
     refine u_fr rfl (Za0 lk lk Zbm (nb' rfl) ro om ro rfl) pt ?_
     refine u_fr rfl (ZbM lk dp0) pt<|u_fr rfl (ZaE lk gt) pt<|?_
     refine u_st (Zak lk cv gx rfl (nb' rfl) rfl ZaU (hs0 hn)) lk nh ptn ?_
     refine u_fr rfl (v_mv lk) pt<|u_fr rfl (v_mv lki) pt<|Zc8<|Zah<|Zaa<|Zaq<|Zai<|Zai<|Zaq<|Zai<|Zae (rsn (rm1 (rr_c gt gx (ld1 ZaS rfl)) (rm1 (rr_t gt) (rm1 (rr_t gt) rm0))))<|rtW'<|?_
     have hP:ZbJ s=(srcZ,L[k].1,1):=by rw[hV,outP,hrun,hN]
     rw[hP];exact ZbL
    have hu1:u.2=false:=by simpa using hg116
    have hu2:u.1=[]:=List.eq_nil_of_length_eq_zero om
    have hS:=Zdw hB hu1 hu2 (by simpa using hc8)
    rw[hS] at hrun
    have hokq:=hPT.1
    rw[hB] at hokq
    refine Zaf<|Zaz<|Zah<|Zav<|mw<|?_
    refine V' (Zay lk lki om om) pt ?_
    refine mw<|Zas<|ZaB<|?_
    refine lU' (⟨k+1,(sr.1++[r],sr.2.1,sr.2.2),none,sr.2.1.length,v1+1,v2,v3,v4⟩) (by (try dsimp only);exact⟨by omega,by simp,by simp;omega,by omega,by omega,by simp[eC],hokq,hrun⟩) (by (try dsimp only);(try simp only[sm',Nat.reduceAdd]);exact bkE' 6 hn hlt (by repeat (first | exact wk0 | refine wka ?_ | refine wk1 rfl ?_ | refine wk1 (by first | rfl | exact ivx om | (simp;done) | exact bvx (by have h9:=hs68;unfold ZcB at h9;rw[h9];rfl) | exact bvx (by have h9:=hs106;unfold ZcB at h9;rw[h9];rfl) | exact bvx (by have h9:=hs68;unfold ZcB at h9;rw[Bool.not_eq_true] at h9;rw[h9];rfl) | exact bvx (by have h9:=hs106;unfold ZcB at h9;rw[Bool.not_eq_true] at h9;rw[h9];rfl)) ?_)) (by simp only[zonC,ZaZ,Zbi,zC,eC,List.append_nil,List.length_append,List.length_singleton];rfl) (hT:=by first | rfl | (simp only[AV.lt,AV.ltL,Ent.lt,List.all_cons,List.all_nil,Bool.and_true,Bool.and_self,decide_true,Zbj,Zby,Zbs,Zbv,ZbU,ZfT,ZgW,lt26,lt36,lt46,lt56];done) | exact lt') (hE:=by first | rfl | (simp only[AV.lt,AV.ltL,Ent.lt,List.all_cons,List.all_nil,Bool.and_true,Bool.and_self,decide_true,Zbj,Zby,Zbs,Zbv,ZbU,ZfT,ZgW,lt26,lt36,lt46,lt56];done) | exact lt'))
   have hwR:¬w=ruleA:=hc5
   refine wr'<|mw<|Vw (ZcF lk lks)<|mw<|sn'<|?_
   refine cd' lk (fun hc6=>?_) (fun hc6=>?_)
   ·have hwZ:w=zoneA:=hc6
    obtain⟨nm,t2,e2⟩ : ∃ a b,ZeV t1=(a,b):=⟨_,_,rfl⟩
    have o2:=Zgp o1 e2
    obtain⟨x,u,eE⟩ : ∃ a b,tEra t2=(a,b):=⟨_,_,rfl⟩
    have hB:ZeE (curS sr none,false) (L[k].2.2,false)=(Zcz (sr.1,sr.2.1++[(nm,[])],sr.2.2) x,u):=by unfold ZeE;rw[if_neg (by simp)];simp only[Zb1,e1,if_neg hwR,if_pos hwZ,ret2,e2,eE,Ze3]
    have hw:Zcz (sr.1,sr.2.1++[(nm,[])],sr.2.2) x=((sr.1,sr.2.1++[(nm,[x])],sr.2.2),!ZcB x):=by unfold Zcz;rw[ZfZ];rfl
    refine wr'<|ZaO mp (ZkE o1 e2 gx) (hs6 hn) pt<|Vw (Zau (Zi8 cv rfl))<|E' (ZaV (hl7 hn) ha7) pt<|E' (Zak lk cv gx rfl (nb' rfl) rfl Zkm (hs7 hn)) ptn<|sn'<|wr'<|ZaO mp (tera_e o2 eE gx) (hs6 hn) pt<|E' (ZaV (hl8 hn) ha8) pt<|E' (Zak lk cv gx rfl (nb' rfl) rfl Zi6 (hs8 hn)) ptn<|Zas<|?_
    refine Za5 ((ALe.own0CellRe (ty2:=63) (st2:=10) gx gx om gt1 pt1 (Eq.trans (congrArg (fun z=>List.set z _ _) (hs5 hn)) (hs7 hn)))) ?_
    refine wr'<|Vw (Zab lk)<|Vw (Zac lk gx gt1)<|Vw (Zan lk gx Zi5 rfl)<|E' (Zdm (Zi7 cv rfl) (hl9 hn) ha9) pt<|?_
    refine E' (Zdn (Zcs lk gx rfl Zkk (nb' rfl)) lk gx rfl om rfl (hs5 hn)) pt ?_
    refine Vw (Zab lk)<|E' (Zak lk cv gx rfl (nb' rfl) rfl Zfv (hs7 hn)) ptn<|sn'<|wr'<|Vw (Zab lk)<|Vw (Zac lk gx gt1)<|Vw (Zan lk gx Zkl rfl)<|E' (Zdm (ZhQ cv rfl) (ZtZ hn) Zt0) pt<|?_
    refine E' (Zdn (Zcs lk gx rfl ZmV (nb' rfl)) lk gx Zlw om rfl (hs3 hn)) pt ?_
    refine Vw (Zab lk)<|E' (Zak lk cv gx rfl (nb' rfl) rfl Zfv (hs1 hn)) ptn<|sn'<|Zav<|?_
    by_cases hs106:ZcB x=true
    ·have hq:Zcz (sr.1,sr.2.1++[(nm,[])],sr.2.2) x=(curS (sr.1,sr.2.1++[(nm,[x])],sr.2.2) none,false):=by rw[hw,hs106,Ze3];rfl
     refine Vw (Zab lk)<|Vw (Zac lk gx gt4)<|Vw (Zax lk)<|mw<|Zas<|Zaz<|Zah<|wr'<|Vw (Zab lk)<|Vw (Zac lk gx gt1)<|mw<|?_
     refine ZaG (t:=116) gt pt pt (fun hg116=>?_) (fun hg116=>?_)
     ·have hN:=Za7 hB (.inl hg116)
      refine s_no gt pt<|s_no gt pt<|s_no gt pt<|s_no gt pt<|Vw (Zag lk lkb)<|mw<|s_no gt pt<|s_no gt pt<|s_no gt pt<|s_no gt pt<|s_no gt pt<|s_no gt pt<|s_no gt pt<|Vw (Zag lk lkb)<|?_
      refine sn'<|ZaC lk<|Zam<|Zb2<|u_fr rfl (Zau ZaF) pt<|u_fr rfl (v_mv lk) pt<|u_fr rfl (v_mv lk) pt<|?_
      refine u_fr rfl (Za0 lk lk Zbm (nb' rfl) ro om ro rfl) pt ?_
      refine u_fr rfl (ZbM lk dp0) pt<|u_fr rfl (ZaE lk gt) pt<|?_
      refine u_st (Zak lk cv gx rfl (nb' rfl) rfl ZaU (hs0 hn)) lk nh ptn ?_
      refine u_fr rfl (v_mv lk) pt<|u_fr rfl (v_mv lki) pt<|Zc8<|Zah<|Zaa<|Zaq<|Zai<|Zai<|Zaq<|Zai<|Zae (rsn (rm1 (rr_c gt gx (ld1 ZaS rfl)) (rm1 (rr_t gt) (rm1 (rr_t gt) rm0))))<|rtW'<|?_
      have hP:ZbJ s=(srcZ,L[k].1,1):=by rw[hV,outP,hrun,hN]
      rw[hP];exact ZbL
     refine s_do gt<|Vw (Zab lk)<|s_do gt<|Vw (Zac lk gx gt0)<|s_do gt<|Vw (ZaL lk)<|s_do gt<|Vw (ZbD lk lki)<|Vw (Zaj lk lk)<|mw<|?_
     refine sp' (t:=122) gt pt pt (fun hg122=>?_) (fun hg122=>?_)
     ·have hN:=Za7 hB (.inr (.inl (by intro e;rw[e] at hg122;exact absurd hg122 (by decide))))
      refine s_no gt pt<|s_no gt pt<|s_no gt pt<|s_no gt pt<|s_no gt pt<|s_no gt pt<|s_no gt pt<|Vw (Zag lk lkb)<|sn'<|ZaC lk<|Zam<|Zb2<|u_fr rfl (Zau ZaF) pt<|?_
      refine u_fr rfl (v_mv lk) pt<|u_fr rfl (v_mv lk) pt<|?_
      refine u_fr rfl (Za0 lk lk Zbm (nb' rfl) ro om ro rfl) pt ?_
      refine u_fr rfl (ZbM lk dp0) pt<|u_fr rfl (ZaE lk gt) pt<|?_
      refine u_st (Zak lk cv gx rfl (nb' rfl) rfl ZaU (hs0 hn)) lk nh ptn ?_
      refine u_fr rfl (v_mv lk) pt<|u_fr rfl (v_mv lki) pt<|Zc8<|Zah<|Zaa<|Zaq<|Zai<|Zai<|Zaq<|Zai<|Zae (rsn (rm1 (rr_c gt gx (ld1 ZaS rfl)) (rm1 (rr_t gt) (rm1 (rr_t gt) rm0))))<|rtW'<|?_
      have hP:ZbJ s=(srcZ,L[k].1,1):=by rw[hV,outP,hrun,hN]
      rw[hP];exact ZbL
     refine s_do gt<|mw<|s_do gt<|mw<|s_do gt<|?_
     refine V' (Za0 lk lk Zbm (nb' rfl) ro om ro rfl) pt ?_
     refine s_do gt<|Vw (ZbM lk dp1)<|s_do gt<|Vw (ZaE lk gt)<|s_do gt<|mw<|s_do gt<|Vw (ZdP lk lk)<|Vw (Zaj lk lk)<|sn'<|?_
     refine cd' lk (fun hc8=>?_) (fun hc8=>?_)
     ·have hN:=Za7 hB (.inr (.inr (by simpa using hc8)))
      refine Zam<|Zb2<|u_fr rfl (Zau ZaF) pt<|u_fr rfl (v_mv lk) pt<|u_fr rfl (v_mv lk) pt<|?_
      refine u_fr rfl (Za0 lk lk Zbm (nb' rfl) ro om ro rfl) pt ?_
      refine u_fr rfl (ZbM lk dp0) pt<|u_fr rfl (ZaE lk gt) pt<|?_
      refine u_st (Zak lk cv gx rfl (nb' rfl) rfl ZaU (hs0 hn)) lk nh ptn ?_
      refine u_fr rfl (v_mv lk) pt<|u_fr rfl (v_mv lki) pt<|Zc8<|Zah<|Zaa<|Zaq<|Zai<|Zai<|Zaq<|Zai<|Zae (rsn (rm1 (rr_c gt gx (ld1 ZaS rfl)) (rm1 (rr_t gt) (rm1 (rr_t gt) rm0))))<|rtW'<|?_
      have hP:ZbJ s=(srcZ,L[k].1,1):=by rw[hV,outP,hrun,hN]
      rw[hP];exact ZbL
     have hu1:u.2=false:=by simpa using hg116
     have hu2:u.1=[]:=List.eq_nil_of_length_eq_zero om
     have hS:=Zdw hB hu1 hu2 (by simpa using hc8)
     rw[hS] at hrun
     have hokq:=hPT.1
     rw[hB] at hokq
     refine Zaf<|Zaz<|?_
     refine Za5 ((ALe.iceCellNew (ds:=rows eraC [x]) (k:=sr.2.1.length*2+1) (ty2:=63) (st2:=10) gx gx om (zc_at2 rfl) rfl (Nat.le_refl _) zc_put2 (hs5 hn) (hs3 hn))) ?_
     refine Zav<|mw<|?_
     refine V' (Zay lk lki om om) pt ?_
     refine mw<|Zas<|ZaB<|?_
     refine lU' (⟨k+1,(sr.1,sr.2.1++[(nm,[x])],sr.2.2),none,sr.2.1.length+1,v1,v2+1,v3,v4+3⟩) (by (try dsimp only);rw[hq] at hrun hokq;exact⟨by omega,by simp,by omega,by omega,by omega,by simp[eC],hokq,hrun⟩) (by (try dsimp only);(try simp only[sm',Nat.reduceAdd]);exact bkE' 6 hn hlt (by repeat (first | exact wk0 | refine wka ?_ | refine wk1 rfl ?_ | refine wk1 (by first | rfl | exact ivx om | (simp;done) | exact bvx (by have h9:=hs68;unfold ZcB at h9;rw[h9];rfl) | exact bvx (by have h9:=hs106;unfold ZcB at h9;rw[h9];rfl) | exact bvx (by have h9:=hs68;unfold ZcB at h9;rw[Bool.not_eq_true] at h9;rw[h9];rfl) | exact bvx (by have h9:=hs106;unfold ZcB at h9;rw[Bool.not_eq_true] at h9;rw[h9];rfl)) ?_)) (by simp only[zonC,ZaZ,Zbi,zC,eC,List.append_nil,List.length_append,List.length_singleton];rfl) (hT:=by first | rfl | (simp only[AV.lt,AV.ltL,Ent.lt,List.all_cons,List.all_nil,Bool.and_true,Bool.and_self,decide_true,Zbj,Zby,Zbs,Zbv,ZbU,ZfT,ZgW,lt26,lt36,lt46,lt56];done) | exact lt') (hE:=by first | rfl | (simp only[AV.lt,AV.ltL,Ent.lt,List.all_cons,List.all_nil,Bool.and_true,Bool.and_self,decide_true,Zbj,Zby,Zbs,Zbv,ZbU,ZfT,ZgW,lt26,lt36,lt46,lt56];done) | exact lt'))
    have hq:Zcz (sr.1,sr.2.1++[(nm,[])],sr.2.2) x=(curS sr (some (nm,[x])),true):=by rw[hw,show ZcB x=false by simpa using hs106];rfl
    refine Vw (Zab lk)<|Vw (Zac lk gx gt4)<|Vw (Zax lk)<|mw<|Zas<|Zaz<|Zah<|wr'<|Vw (Zab lk)<|Vw (Zac lk gx gt1)<|mw<|?_
    refine ZaG (t:=116) gt pt pt (fun hg116=>?_) (fun hg116=>?_)
    ·have hN:=Za7 hB (.inl hg116)
     refine s_no gt pt<|s_no gt pt<|s_no gt pt<|s_no gt pt<|Vw (Zag lk lkb)<|mw<|s_no gt pt<|s_no gt pt<|s_no gt pt<|s_no gt pt<|s_no gt pt<|s_no gt pt<|s_no gt pt<|Vw (Zag lk lkb)<|?_
     refine sn'<|ZaC lk<|Zam<|Zb2<|u_fr rfl (Zau ZaF) pt<|u_fr rfl (v_mv lk) pt<|u_fr rfl (v_mv lk) pt<|?_
     refine u_fr rfl (Za0 lk lk Zbm (nb' rfl) ro om ro rfl) pt ?_
     refine u_fr rfl (ZbM lk dp0) pt<|u_fr rfl (ZaE lk gt) pt<|?_
     refine u_st (Zak lk cv gx rfl (nb' rfl) rfl ZaU (hs0 hn)) lk nh ptn ?_
     refine u_fr rfl (v_mv lk) pt<|u_fr rfl (v_mv lki) pt<|Zc8<|Zah<|Zaa<|Zaq<|Zai<|Zai<|Zaq<|Zai<|Zae (rsn (rm1 (rr_c gt gx (ld1 ZaS rfl)) (rm1 (rr_t gt) (rm1 (rr_t gt) rm0))))<|rtW'<|?_
     have hP:ZbJ s=(srcZ,L[k].1,1):=by rw[hV,outP,hrun,hN]
     rw[hP];exact ZbL
    refine s_do gt<|Vw (Zab lk)<|s_do gt<|Vw (Zac lk gx gt0)<|s_do gt<|Vw (ZaL lk)<|s_do gt<|Vw (ZbD lk lki)<|Vw (Zaj lk lk)<|mw<|?_
    refine sp' (t:=122) gt pt pt (fun hg122=>?_) (fun hg122=>?_)
    ·have hN:=Za7 hB (.inr (.inl (by intro e;rw[e] at hg122;exact absurd hg122 (by decide))))
     refine s_no gt pt<|s_no gt pt<|s_no gt pt<|s_no gt pt<|s_no gt pt<|s_no gt pt<|s_no gt pt<|Vw (Zag lk lkb)<|sn'<|ZaC lk<|Zam<|Zb2<|u_fr rfl (Zau ZaF) pt<|?_
     refine u_fr rfl (v_mv lk) pt<|u_fr rfl (v_mv lk) pt<|?_
     refine u_fr rfl (Za0 lk lk Zbm (nb' rfl) ro om ro rfl) pt ?_
     refine u_fr rfl (ZbM lk dp0) pt<|u_fr rfl (ZaE lk gt) pt<|?_
     refine u_st (Zak lk cv gx rfl (nb' rfl) rfl ZaU (hs0 hn)) lk nh ptn ?_
     refine u_fr rfl (v_mv lk) pt<|u_fr rfl (v_mv lki) pt<|Zc8<|Zah<|Zaa<|Zaq<|Zai<|Zai<|Zaq<|Zai<|Zae (rsn (rm1 (rr_c gt gx (ld1 ZaS rfl)) (rm1 (rr_t gt) (rm1 (rr_t gt) rm0))))<|rtW'<|?_
     have hP:ZbJ s=(srcZ,L[k].1,1):=by rw[hV,outP,hrun,hN]
     rw[hP];exact ZbL
    refine s_do gt<|mw<|s_do gt<|mw<|s_do gt<|?_
    refine V' (Za0 lk lk Zbm (nb' rfl) ro om ro rfl) pt ?_
    refine s_do gt<|Vw (ZbM lk dp1)<|s_do gt<|Vw (ZaE lk gt)<|s_do gt<|mw<|s_do gt<|Vw (ZdP lk lk)<|Vw (Zaj lk lk)<|sn'<|?_
    refine cd' lk (fun hc8=>?_) (fun hc8=>?_)
    ·have hN:=Za7 hB (.inr (.inr (by simpa using hc8)))
     refine Zam<|Zb2<|u_fr rfl (Zau ZaF) pt<|u_fr rfl (v_mv lk) pt<|u_fr rfl (v_mv lk) pt<|?_
     refine u_fr rfl (Za0 lk lk Zbm (nb' rfl) ro om ro rfl) pt ?_
     refine u_fr rfl (ZbM lk dp0) pt<|u_fr rfl (ZaE lk gt) pt<|?_
     refine u_st (Zak lk cv gx rfl (nb' rfl) rfl ZaU (hs0 hn)) lk nh ptn ?_
     refine u_fr rfl (v_mv lk) pt<|u_fr rfl (v_mv lki) pt<|Zc8<|Zah<|Zaa<|Zaq<|Zai<|Zai<|Zaq<|Zai<|Zae (rsn (rm1 (rr_c gt gx (ld1 ZaS rfl)) (rm1 (rr_t gt) (rm1 (rr_t gt) rm0))))<|rtW'<|?_
     have hP:ZbJ s=(srcZ,L[k].1,1):=by rw[hV,outP,hrun,hN]
     rw[hP];exact ZbL
    have hu1:u.2=false:=by simpa using hg116
    have hu2:u.1=[]:=List.eq_nil_of_length_eq_zero om
    have hS:=Zdw hB hu1 hu2 (by simpa using hc8)
    rw[hS] at hrun
    have hokq:=hPT.1
    rw[hB] at hokq
    refine Zaf<|Zaz<|Zah<|Zav<|mw<|?_
    refine V' (Zay lk lki om om) pt ?_
    refine mw<|Zas<|ZaB<|?_
    refine lU' (⟨k+1,sr,some (nm,[x]),sr.2.1.length+1,v1,v2+1,v3,v4+2⟩) (by (try dsimp only);rw[hq] at hrun hokq;exact⟨by omega,by simp,by omega,by omega,by omega,by simp[eC],hokq,hrun⟩) (by (try dsimp only);(try simp only[sm',Nat.reduceAdd]);exact bkE' 6 hn hlt (by repeat (first | exact wk0 | refine wka ?_ | refine wk1 rfl ?_ | refine wk1 (by first | rfl | exact ivx om | (simp;done) | exact bvx (by have h9:=hs68;unfold ZcB at h9;rw[h9];rfl) | exact bvx (by have h9:=hs106;unfold ZcB at h9;rw[h9];rfl) | exact bvx (by have h9:=hs68;unfold ZcB at h9;rw[Bool.not_eq_true] at h9;rw[h9];rfl) | exact bvx (by have h9:=hs106;unfold ZcB at h9;rw[Bool.not_eq_true] at h9;rw[h9];rfl)) ?_)) (by simp only[zonC,ZaZ,Zbi,zC,eC,List.append_nil,List.length_append,List.length_singleton];rfl) (hT:=by first | rfl | (simp only[AV.lt,AV.ltL,Ent.lt,List.all_cons,List.all_nil,Bool.and_true,Bool.and_self,decide_true,Zbj,Zby,Zbs,Zbv,ZbU,ZfT,ZgW,lt26,lt36,lt46,lt56];done) | exact lt') (hE:=by first | rfl | (simp only[AV.lt,AV.ltL,Ent.lt,List.all_cons,List.all_nil,Bool.and_true,Bool.and_self,decide_true,Zbj,Zby,Zbs,Zbv,ZbU,ZfT,ZgW,lt26,lt36,lt46,lt56];done) | exact lt'))
   have hwZ:¬w=zoneA:=hc6
   refine wr'<|mw<|Vw (ZcF lk lks)<|mw<|sn'<|?_
   refine cd' lk (fun hc7=>?_) (fun hc7=>?_)
   ·have hwL:w=linkA:=hc7
    obtain⟨n1,t2,e2⟩ : ∃ a b,ZeV t1=(a,b):=⟨_,_,rfl⟩
    have o2:=Zgp o1 e2
    obtain⟨n2,u,e3⟩ : ∃ a b,ZeV t2=(a,b):=⟨_,_,rfl⟩
    have hB:ZeE (curS sr none,false) (L[k].2.2,false)=((curS (sr.1,sr.2.1,sr.2.2++[(n1,n2)]) none,false),u):=by unfold ZeE;rw[if_neg (by simp)];simp only[Zb1,e1,if_neg hwR,if_neg hwZ,if_pos hwL,ret2,e2,e3];rfl
    refine wr'<|E' (ZaV (hl7 hn) ha7) pt<|sn'<|wr'<|ZaO mp (ZkE o1 e2 gx) (hs6 hn) pt<|Vw (Zab lk)<|E' (Zak lk cv gx rfl (nb' rfl) rfl Zkn (hs7 hn)) ptn<|sn'<|wr'<|?_
    refine ZaO mp (ZkE o2 e3 gx) (hs6 hn) pt<|Vw (Zab lk)<|E' (Zak lk cv gx rfl (nb' rfl) rfl Zfv (hs7 hn)) ptn<|sn'<|Zav<|Vw (Zab lk)<|Vw (Zac lk gx gt2)<|Vw (Zan lk gx Zkl rfl)<|E' (Zdm (ZhP cv rfl) (hl8 hn) ha8) pt<|?_
    refine E' (Zdn (Zcs lk gx rfl ZmV (nb' rfl)) lk gx (ZnF _) om rfl (hs4 hn)) pt ?_
    refine Vw (Zab lk)<|E' (Zak lk cv gx rfl (nb' rfl) rfl Zq0 (hs1 hn)) ptn<|Zas<|Zaz<|Zah<|wr'<|Vw (Zab lk)<|Vw (Zac lk gx gt1)<|mw<|?_
    refine ZaG (t:=116) gt pt pt (fun hg116=>?_) (fun hg116=>?_)
    ·have hN:=Za7 hB (.inl hg116)
     refine s_no gt pt<|s_no gt pt<|s_no gt pt<|s_no gt pt<|Vw (Zag lk lkb)<|mw<|s_no gt pt<|s_no gt pt<|s_no gt pt<|s_no gt pt<|s_no gt pt<|s_no gt pt<|s_no gt pt<|Vw (Zag lk lkb)<|?_
     refine sn'<|ZaC lk<|Zam<|Zb2<|u_fr rfl (Zau ZaF) pt<|u_fr rfl (v_mv lk) pt<|u_fr rfl (v_mv lk) pt<|?_
     refine u_fr rfl (Za0 lk lk Zbm (nb' rfl) ro om ro rfl) pt ?_
     refine u_fr rfl (ZbM lk dp0) pt<|u_fr rfl (ZaE lk gt) pt<|?_
     refine u_st (Zak lk cv gx rfl (nb' rfl) rfl ZaU (hs0 hn)) lk nh ptn ?_
     refine u_fr rfl (v_mv lk) pt<|u_fr rfl (v_mv lki) pt<|Zc8<|Zah<|Zaa<|Zaq<|Zai<|Zai<|Zaq<|Zai<|Zae (rsn (rm1 (rr_c gt gx (ld1 ZaS rfl)) (rm1 (rr_t gt) (rm1 (rr_t gt) rm0))))<|rtW'<|?_
     have hP:ZbJ s=(srcZ,L[k].1,1):=by rw[hV,outP,hrun,hN]
     rw[hP];exact ZbL
    refine s_do gt<|Vw (Zab lk)<|s_do gt<|Vw (Zac lk gx gt0)<|s_do gt<|Vw (ZaL lk)<|s_do gt<|Vw (ZbD lk lki)<|Vw (Zaj lk lk)<|mw<|?_
    refine sp' (t:=122) gt pt pt (fun hg122=>?_) (fun hg122=>?_)
    ·have hN:=Za7 hB (.inr (.inl (by intro e;rw[e] at hg122;exact absurd hg122 (by decide))))
     refine s_no gt pt<|s_no gt pt<|s_no gt pt<|s_no gt pt<|s_no gt pt<|s_no gt pt<|s_no gt pt<|Vw (Zag lk lkb)<|sn'<|ZaC lk<|Zam<|Zb2<|u_fr rfl (Zau ZaF) pt<|?_
     refine u_fr rfl (v_mv lk) pt<|u_fr rfl (v_mv lk) pt<|?_
     refine u_fr rfl (Za0 lk lk Zbm (nb' rfl) ro om ro rfl) pt ?_
     refine u_fr rfl (ZbM lk dp0) pt<|u_fr rfl (ZaE lk gt) pt<|?_
     refine u_st (Zak lk cv gx rfl (nb' rfl) rfl ZaU (hs0 hn)) lk nh ptn ?_
     refine u_fr rfl (v_mv lk) pt<|u_fr rfl (v_mv lki) pt<|Zc8<|Zah<|Zaa<|Zaq<|Zai<|Zai<|Zaq<|Zai<|Zae (rsn (rm1 (rr_c gt gx (ld1 ZaS rfl)) (rm1 (rr_t gt) (rm1 (rr_t gt) rm0))))<|rtW'<|?_
     have hP:ZbJ s=(srcZ,L[k].1,1):=by rw[hV,outP,hrun,hN]
     rw[hP];exact ZbL
    refine s_do gt<|mw<|s_do gt<|mw<|s_do gt<|?_
    refine V' (Za0 lk lk Zbm (nb' rfl) ro om ro rfl) pt ?_
    refine s_do gt<|Vw (ZbM lk dp1)<|s_do gt<|Vw (ZaE lk gt)<|s_do gt<|mw<|s_do gt<|Vw (ZdP lk lk)<|Vw (Zaj lk lk)<|sn'<|?_
    refine cd' lk (fun hc8=>?_) (fun hc8=>?_)
    ·have hN:=Za7 hB (.inr (.inr (by simpa using hc8)))
     refine Zam<|Zb2<|u_fr rfl (Zau ZaF) pt<|u_fr rfl (v_mv lk) pt<|u_fr rfl (v_mv lk) pt<|?_
     refine u_fr rfl (Za0 lk lk Zbm (nb' rfl) ro om ro rfl) pt ?_
     refine u_fr rfl (ZbM lk dp0) pt<|u_fr rfl (ZaE lk gt) pt<|?_
     refine u_st (Zak lk cv gx rfl (nb' rfl) rfl ZaU (hs0 hn)) lk nh ptn ?_
     refine u_fr rfl (v_mv lk) pt<|u_fr rfl (v_mv lki) pt<|Zc8<|Zah<|Zaa<|Zaq<|Zai<|Zai<|Zaq<|Zai<|Zae (rsn (rm1 (rr_c gt gx (ld1 ZaS rfl)) (rm1 (rr_t gt) (rm1 (rr_t gt) rm0))))<|rtW'<|?_
     have hP:ZbJ s=(srcZ,L[k].1,1):=by rw[hV,outP,hrun,hN]
     rw[hP];exact ZbL
    have hu1:u.2=false:=by simpa using hg116
    have hu2:u.1=[]:=List.eq_nil_of_length_eq_zero om
    have hS:=Zdw hB hu1 hu2 (by simpa using hc8)
    rw[hS] at hrun
    have hokq:=hPT.1
    rw[hB] at hokq
    refine Zaf<|Zaz<|Zah<|Zav<|mw<|?_
    refine V' (Zay lk lki om om) pt ?_
    refine mw<|Zas<|ZaB<|?_
    refine lU' (⟨k+1,(sr.1,sr.2.1,sr.2.2++[(n1,n2)]),none,sr.2.1.length,v1,v2,v3+1,v4⟩) (by (try dsimp only);exact⟨by omega,by simp,by omega,by omega,by simp;omega,by simp[eC],hokq,hrun⟩) (by (try dsimp only);(try simp only[sm',Nat.reduceAdd]);exact bkE' 6 hn hlt (by repeat (first | exact wk0 | refine wka ?_ | refine wk1 rfl ?_ | refine wk1 (by first | rfl | exact ivx om | (simp;done) | exact bvx (by have h9:=hs68;unfold ZcB at h9;rw[h9];rfl) | exact bvx (by have h9:=hs106;unfold ZcB at h9;rw[h9];rfl) | exact bvx (by have h9:=hs68;unfold ZcB at h9;rw[Bool.not_eq_true] at h9;rw[h9];rfl) | exact bvx (by have h9:=hs106;unfold ZcB at h9;rw[Bool.not_eq_true] at h9;rw[h9];rfl)) ?_)) (by simp only[zonC,ZaZ,Zbi,zC,eC,List.append_nil,List.length_append,List.length_singleton];rfl) (hT:=by first | rfl | (simp only[AV.lt,AV.ltL,Ent.lt,List.all_cons,List.all_nil,Bool.and_true,Bool.and_self,decide_true,Zbj,Zby,Zbs,Zbv,ZbU,ZfT,ZgW,lt26,lt36,lt46,lt56];done) | exact lt') (hE:=by first | rfl | (simp only[AV.lt,AV.ltL,Ent.lt,List.all_cons,List.all_nil,Bool.and_true,Bool.and_self,decide_true,Zbj,Zby,Zbs,Zbv,ZbU,ZfT,ZgW,lt26,lt36,lt46,lt56];done) | exact lt'))
   have hwL:¬w=linkA:=hc7
   have hB:ZeE (curS sr none,false) (L[k].2.2,false)=((curS sr none,false),bad t1):=by unfold ZeE;rw[if_neg (by simp)];simp only[Zb1,e1,if_neg hwR,if_neg hwZ,if_neg hwL]
   have hN:=Za7 hB (.inl rfl)
   refine Zav<|Vw (Zab lk)<|E' (Zak lk (cvl lkb rfl) gx rfl (nb' rfl) rfl Zfv (hs6 hn)) ptn<|Zas<|Zaz<|Zah<|wr'<|Vw (Zab lk)<|Vw (Zac lk gx gt1)<|mw<|s_no gt pt<|s_no gt pt<|s_no gt pt<|?_
   refine s_no gt pt<|Vw (Zag lk lkb)<|mw<|s_no gt pt<|s_no gt pt<|s_no gt pt<|s_no gt pt<|s_no gt pt<|s_no gt pt<|s_no gt pt<|Vw (Zag lk lkb)<|sn'<|ZaC lk<|?_
   refine Zam<|Zb2<|u_fr rfl (Zau ZaF) pt<|u_fr rfl (v_mv lk) pt<|u_fr rfl (v_mv lk) pt<|?_
   refine u_fr rfl (Za0 lk lk Zbm (nb' rfl) ro om ro rfl) pt ?_
   refine u_fr rfl (ZbM lk dp0) pt<|u_fr rfl (ZaE lk gt) pt<|?_
   refine u_st (Zak lk cv gx rfl (nb' rfl) rfl ZaU (hs0 hn)) lk nh ptn ?_
   refine u_fr rfl (v_mv lk) pt<|u_fr rfl (v_mv lki) pt<|Zc8<|Zah<|Zaa<|Zaq<|Zai<|Zai<|Zaq<|Zai<|Zae (rsn (rm1 (rr_c gt gx (ld1 ZaS rfl)) (rm1 (rr_t gt) (rm1 (rr_t gt) rm0))))<|rtW'<|?_
   have hP:ZbJ s=(srcZ,L[k].1,1):=by rw[hV,outP,hrun,hN]
   rw[hP];exact ZbL
  obtain⟨z,rfl⟩:=Option.ne_none_iff_exists'.1 hs36
  simp only[Option.isSome_some] at hrun hPT
  have hm':m=sr.2.1.length+1:=by simpa using hm
  have hk5':z.2.length≤k:=hk5
  obtain⟨x,u,eE⟩ : ∃ a b,tEra (L[k].2.2,false)=(a,b):=⟨_,_,rfl⟩
  have hB:ZeE (curS sr (some z),true) (L[k].2.2,false)=(Zcz (curS sr (some z)) x,u):=by unfold ZeE;rw[if_pos rfl];simp only[Zb1,ret2,eE]
  have hw:Zcz (curS sr (some z)) x=((sr.1,sr.2.1++[(z.1,z.2++[x])],sr.2.2),!ZcB x):=by unfold Zcz curS;rw[show sr.2.1++(some z).toList=sr.2.1++[z] from rfl,ZfZ]
  refine mw<|mw<|sn'<|wr'<|mw<|sn'<|Zam<|wr'<|mw<|?_
  refine V' ((by first | exact v_not lk | exact Zax lk)) pt ?_
  refine sn' ?_
  refine ZdO lk (by rfl) ?_
  refine Zaf<|Zah<|Zam<|Zap<|wr'<|mw<|mw<|sn'<|?_
  refine ZcZ lk (by rfl) ?_
  refine wr'<|Vw (Zab lk)<|Vw (Zac lk gx gt1)<|Vw (ZcW lk)<|?_
  refine V' (Zbt lk lki om om) pt ?_
  refine mw<|sn'<|wr'<|ZaO mp (tera_e hokt eE gx) (hs6 hn) pt<|E' (ZaV (hl7 hn) ha7) pt<|E' (Zak lk cv gx rfl (nb' rfl) rfl Zi6 (hs7 hn)) ptn<|sn'<|Zam<|ZoK [N+1]<|Dw (Zab lk)<|?_
  refine d_ldP lk gx (ld0 gt) (by simp) pt ?_
  refine Dw (v_mv lk)<|Dw (Zab lk)<|Dw (Zac lk gx gt1)<|Dw (v_mv lk)<|?_
  refine D' (v_iaO lk lk (hga hn rfl) (nb' rfl) om om (by rw[Zlw];simp;omega)) pt ?_
  refine D' (ZbN lk) pt ?_
  refine D' (Zac lk gx (zc_at om)) pt ?_
  refine Dw (Zan lk gx Zi5 rfl)<|ZmE rfl rfl (hlk hn rfl) (l_lit (Zja cv rfl)) pt ZtY<|ZbI<|k_e_ent Zq1<|?_
  refine ZsY rfl rfl (Zdn (Zcs lk gx rfl Zkk (nb' rfl)) lk gx (Zk3 _) om rfl (hs5 hn)) (by intro i hi;simp only[cond_true,List.mem_cons,List.not_mem_nil,or_false] at hi;subst hi;first | rfl | exact (hga hn rfl).trans (hga hn rfl).symm) pt ?_
  refine Zqf rfl (v_iaO lk lk (hga hn rfl) (nb' rfl) om om (by rw[Zlw];simp;omega)) pt ?_
  refine Zqf rfl (ZbN lk) pt ?_
  refine ZsY rfl rfl (Zak lk cv (hga hn rfl) rfl (by rw[Zlw];simp;omega) rfl (zc_set om) (hs3 hn)) (by intro i hi;simp at hi) ptn ?_
  refine ZsX<|Zah<|Zav<|?_
  by_cases hs68:ZcB x=true
  ·have hq:Zcz (curS sr (some z)) x=(curS (sr.1,sr.2.1++[(z.1,z.2++[x])],sr.2.2) none,false):=by rw[hw,hs68,Ze3];rfl
   refine Vw (Zab lk)<|Vw (Zac lk gx gt4)<|Vw (Zax lk)<|mw<|Zas<|Zaz<|Zah<|wr'<|Vw (Zab lk)<|Vw (Zac lk gx gt1)<|mw<|?_
   refine ZaG (t:=116) gt pt pt (fun hg116=>?_) (fun hg116=>?_)
   ·have hN:=Za7 hB (.inl hg116)
    refine s_no gt pt<|s_no gt pt<|s_no gt pt<|s_no gt pt<|Vw (Zag lk lkb)<|mw<|s_no gt pt<|s_no gt pt<|s_no gt pt<|s_no gt pt<|s_no gt pt<|s_no gt pt<|s_no gt pt<|Vw (Zag lk lkb)<|?_
    refine sn'<|ZaC lk<|Zam<|Zb2<|u_fr rfl (Zau ZaF) pt<|u_fr rfl (v_mv lk) pt<|u_fr rfl (v_mv lk) pt<|?_
    refine u_fr rfl (Za0 lk lk Zbm (nb' rfl) ro om ro rfl) pt ?_
    refine u_fr rfl (ZbM lk dp0) pt<|u_fr rfl (ZaE lk gt) pt<|?_
    refine u_st (Zak lk cv gx rfl (nb' rfl) rfl ZaU (hs0 hn)) lk nh ptn ?_
    refine u_fr rfl (v_mv lk) pt<|u_fr rfl (v_mv lki) pt<|Zc8<|Zah<|Zaa<|Zaq<|Zai<|Zai<|Zaq<|Zai<|Zae (rsn (rm1 (rr_c gt gx (ld1 ZaS rfl)) (rm1 (rr_t gt) (rm1 (rr_t gt) rm0))))<|rtW'<|?_
    have hP:ZbJ s=(srcZ,L[k].1,1):=by rw[hV,outP,hrun,hN]
    rw[hP];exact ZbL
   refine s_do gt<|Vw (Zab lk)<|s_do gt<|Vw (Zac lk gx gt0)<|s_do gt<|Vw (ZaL lk)<|s_do gt<|Vw (ZbD lk lki)<|Vw (Zaj lk lk)<|mw<|?_
   refine sp' (t:=122) gt pt pt (fun hg122=>?_) (fun hg122=>?_)
   ·have hN:=Za7 hB (.inr (.inl (by intro e;rw[e] at hg122;exact absurd hg122 (by decide))))
    refine s_no gt pt<|s_no gt pt<|s_no gt pt<|s_no gt pt<|s_no gt pt<|s_no gt pt<|s_no gt pt<|Vw (Zag lk lkb)<|sn'<|ZaC lk<|Zam<|Zb2<|u_fr rfl (Zau ZaF) pt<|?_
    refine u_fr rfl (v_mv lk) pt<|u_fr rfl (v_mv lk) pt<|?_
    refine u_fr rfl (Za0 lk lk Zbm (nb' rfl) ro om ro rfl) pt ?_
    refine u_fr rfl (ZbM lk dp0) pt<|u_fr rfl (ZaE lk gt) pt<|?_
    refine u_st (Zak lk cv gx rfl (nb' rfl) rfl ZaU (hs0 hn)) lk nh ptn ?_
    refine u_fr rfl (v_mv lk) pt<|u_fr rfl (v_mv lki) pt<|Zc8<|Zah<|Zaa<|Zaq<|Zai<|Zai<|Zaq<|Zai<|Zae (rsn (rm1 (rr_c gt gx (ld1 ZaS rfl)) (rm1 (rr_t gt) (rm1 (rr_t gt) rm0))))<|rtW'<|?_
    have hP:ZbJ s=(srcZ,L[k].1,1):=by rw[hV,outP,hrun,hN]
    rw[hP];exact ZbL
   refine s_do gt<|mw<|s_do gt<|mw<|s_do gt<|?_
   refine V' (Za0 lk lk Zbm (nb' rfl) ro om ro rfl) pt ?_
   refine s_do gt<|Vw (ZbM lk dp1)<|s_do gt<|Vw (ZaE lk gt)<|s_do gt<|mw<|s_do gt<|Vw (ZdP lk lk)<|Vw (Zaj lk lk)<|sn'<|?_
   refine cd' lk (fun hc8=>?_) (fun hc8=>?_)
   ·have hN:=Za7 hB (.inr (.inr (by simpa using hc8)))
    refine Zam<|Zb2<|u_fr rfl (Zau ZaF) pt<|u_fr rfl (v_mv lk) pt<|u_fr rfl (v_mv lk) pt<|?_
    refine u_fr rfl (Za0 lk lk Zbm (nb' rfl) ro om ro rfl) pt ?_
    refine u_fr rfl (ZbM lk dp0) pt<|u_fr rfl (ZaE lk gt) pt<|?_
    refine u_st (Zak lk cv gx rfl (nb' rfl) rfl ZaU (hs0 hn)) lk nh ptn ?_
    refine u_fr rfl (v_mv lk) pt<|u_fr rfl (v_mv lki) pt<|Zc8<|Zah<|Zaa<|Zaq<|Zai<|Zai<|Zaq<|Zai<|Zae (rsn (rm1 (rr_c gt gx (ld1 ZaS rfl)) (rm1 (rr_t gt) (rm1 (rr_t gt) rm0))))<|rtW'<|?_
    have hP:ZbJ s=(srcZ,L[k].1,1):=by rw[hV,outP,hrun,hN]
    rw[hP];exact ZbL
   have hu1:u.2=false:=by simpa using hg116
   have hu2:u.1=[]:=List.eq_nil_of_length_eq_zero om
   have hS:=Zdw hB hu1 hu2 (by simpa using hc8)
   rw[hS] at hrun
   have hokq:=hPT.1
   rw[hB] at hokq
   refine Zaf<|Zaz<|?_
   refine Za5 ((ALe.iceCellNew (ds:=rows eraC (z.2++[x])) (k:=sr.2.1.length*2+1) (ty2:=63) (st2:=10) gx gx om (zc_at rfl) (by rw[ZaZ,Zbi];exact List.take_of_length_le (by simp[Zk3,eC];omega)) (by simp[Zk3,eC];omega) zc_put (hs5 hn) (hs3 hn))) ?_
   refine Zav<|mw<|?_
   refine V' (Zay lk lki om om) pt ?_
   refine mw<|Zas<|ZaB<|?_
   refine lU' (⟨k+1,(sr.1,sr.2.1++[(z.1,z.2++[x])],sr.2.2),none,m,v1,v2,v3,v4+2⟩) (by (try dsimp only);rw[hq] at hrun hokq;exact⟨by omega,by simp;omega,by omega,by omega,by omega,by simp[eC],hokq,hrun⟩) (by (try dsimp only);(try simp only[sm',Nat.reduceAdd]);exact bkE' 6 hn hlt (by repeat (first | exact wk0 | refine wka ?_ | refine wk1 rfl ?_ | refine wk1 (by first | rfl | exact ivx om | (simp;done) | exact bvx (by have h9:=hs68;unfold ZcB at h9;rw[h9];rfl) | exact bvx (by have h9:=hs106;unfold ZcB at h9;rw[h9];rfl) | exact bvx (by have h9:=hs68;unfold ZcB at h9;rw[Bool.not_eq_true] at h9;rw[h9];rfl) | exact bvx (by have h9:=hs106;unfold ZcB at h9;rw[Bool.not_eq_true] at h9;rw[h9];rfl)) ?_)) (by simp only[zonC,ZaZ,Zbi,zC,eC,List.append_nil,List.length_append,List.length_singleton];rfl) (hT:=by first | rfl | (simp only[AV.lt,AV.ltL,Ent.lt,List.all_cons,List.all_nil,Bool.and_true,Bool.and_self,decide_true,Zbj,Zby,Zbs,Zbv,ZbU,ZfT,ZgW,lt26,lt36,lt46,lt56];done) | exact lt') (hE:=by first | rfl | (simp only[AV.lt,AV.ltL,Ent.lt,List.all_cons,List.all_nil,Bool.and_true,Bool.and_self,decide_true,Zbj,Zby,Zbs,Zbv,ZbU,ZfT,ZgW,lt26,lt36,lt46,lt56];done) | exact lt'))
  have hq:Zcz (curS sr (some z)) x=(curS sr (some (z.1,z.2++[x])),true):=by rw[hw,show ZcB x=false by simpa using hs68];rfl
  refine Vw (Zab lk)<|Vw (Zac lk gx gt4)<|Vw (Zax lk)<|mw<|Zas<|Zaz<|Zah<|wr'<|Vw (Zab lk)<|Vw (Zac lk gx gt1)<|mw<|?_
  refine ZaG (t:=116) gt pt pt (fun hg116=>?_) (fun hg116=>?_)
  ·have hN:=Za7 hB (.inl hg116)
   refine s_no gt pt<|s_no gt pt<|s_no gt pt<|s_no gt pt<|Vw (Zag lk lkb)<|mw<|s_no gt pt<|s_no gt pt<|s_no gt pt<|s_no gt pt<|s_no gt pt<|s_no gt pt<|s_no gt pt<|Vw (Zag lk lkb)<|?_
   refine sn'<|ZaC lk<|Zam<|Zb2<|u_fr rfl (Zau ZaF) pt<|u_fr rfl (v_mv lk) pt<|u_fr rfl (v_mv lk) pt<|?_
   refine u_fr rfl (Za0 lk lk Zbm (nb' rfl) ro om ro rfl) pt ?_
   refine u_fr rfl (ZbM lk dp0) pt<|u_fr rfl (ZaE lk gt) pt<|?_
   refine u_st (Zak lk cv gx rfl (nb' rfl) rfl ZaU (hs0 hn)) lk nh ptn ?_
   refine u_fr rfl (v_mv lk) pt<|u_fr rfl (v_mv lki) pt<|Zc8<|Zah<|Zaa<|Zaq<|Zai<|Zai<|Zaq<|Zai<|Zae (rsn (rm1 (rr_c gt gx (ld1 ZaS rfl)) (rm1 (rr_t gt) (rm1 (rr_t gt) rm0))))<|rtW'<|?_
   have hP:ZbJ s=(srcZ,L[k].1,1):=by rw[hV,outP,hrun,hN]
   rw[hP];exact ZbL
  refine s_do gt<|Vw (Zab lk)<|s_do gt<|Vw (Zac lk gx gt0)<|s_do gt<|Vw (ZaL lk)<|s_do gt<|Vw (ZbD lk lki)<|Vw (Zaj lk lk)<|mw<|?_
  refine sp' (t:=122) gt pt pt (fun hg122=>?_) (fun hg122=>?_)
  ·have hN:=Za7 hB (.inr (.inl (by intro e;rw[e] at hg122;exact absurd hg122 (by decide))))
   refine s_no gt pt<|s_no gt pt<|s_no gt pt<|s_no gt pt<|s_no gt pt<|s_no gt pt<|s_no gt pt<|Vw (Zag lk lkb)<|sn'<|ZaC lk<|Zam<|Zb2<|u_fr rfl (Zau ZaF) pt<|?_
   refine u_fr rfl (v_mv lk) pt<|u_fr rfl (v_mv lk) pt<|?_
   refine u_fr rfl (Za0 lk lk Zbm (nb' rfl) ro om ro rfl) pt ?_
   refine u_fr rfl (ZbM lk dp0) pt<|u_fr rfl (ZaE lk gt) pt<|?_
   refine u_st (Zak lk cv gx rfl (nb' rfl) rfl ZaU (hs0 hn)) lk nh ptn ?_
   refine u_fr rfl (v_mv lk) pt<|u_fr rfl (v_mv lki) pt<|Zc8<|Zah<|Zaa<|Zaq<|Zai<|Zai<|Zaq<|Zai<|Zae (rsn (rm1 (rr_c gt gx (ld1 ZaS rfl)) (rm1 (rr_t gt) (rm1 (rr_t gt) rm0))))<|rtW'<|?_
   have hP:ZbJ s=(srcZ,L[k].1,1):=by rw[hV,outP,hrun,hN]
   rw[hP];exact ZbL
  refine s_do gt<|mw<|s_do gt<|mw<|s_do gt<|?_
  refine V' (Za0 lk lk Zbm (nb' rfl) ro om ro rfl) pt ?_
  refine s_do gt<|Vw (ZbM lk dp1)<|s_do gt<|Vw (ZaE lk gt)<|s_do gt<|mw<|s_do gt<|Vw (ZdP lk lk)<|Vw (Zaj lk lk)<|sn'<|?_
  refine cd' lk (fun hc8=>?_) (fun hc8=>?_)
  ·have hN:=Za7 hB (.inr (.inr (by simpa using hc8)))
   refine Zam<|Zb2<|u_fr rfl (Zau ZaF) pt<|u_fr rfl (v_mv lk) pt<|u_fr rfl (v_mv lk) pt<|?_
   refine u_fr rfl (Za0 lk lk Zbm (nb' rfl) ro om ro rfl) pt ?_
   refine u_fr rfl (ZbM lk dp0) pt<|u_fr rfl (ZaE lk gt) pt<|?_
   refine u_st (Zak lk cv gx rfl (nb' rfl) rfl ZaU (hs0 hn)) lk nh ptn ?_
   refine u_fr rfl (v_mv lk) pt<|u_fr rfl (v_mv lki) pt<|Zc8<|Zah<|Zaa<|Zaq<|Zai<|Zai<|Zaq<|Zai<|Zae (rsn (rm1 (rr_c gt gx (ld1 ZaS rfl)) (rm1 (rr_t gt) (rm1 (rr_t gt) rm0))))<|rtW'<|?_
   have hP:ZbJ s=(srcZ,L[k].1,1):=by rw[hV,outP,hrun,hN]
   rw[hP];exact ZbL
  have hu1:u.2=false:=by simpa using hg116
  have hu2:u.1=[]:=List.eq_nil_of_length_eq_zero om
  have hS:=Zdw hB hu1 hu2 (by simpa using hc8)
  rw[hS] at hrun
  have hokq:=hPT.1
  rw[hB] at hokq
  refine Zaf<|Zaz<|Zah<|Zav<|mw<|?_
  refine V' (Zay lk lki om om) pt ?_
  refine mw<|Zas<|ZaB<|?_
  refine lU' (⟨k+1,sr,some (z.1,z.2++[x]),m,v1,v2,v3,v4+1⟩) (by (try dsimp only);rw[hq] at hrun hokq;exact⟨by omega,by simp;omega,by omega,by omega,by omega,by simp[eC] at hk5 ⊢;omega,hokq,hrun⟩) (by (try dsimp only);(try simp only[sm',Nat.reduceAdd]);exact bkE' 6 hn hlt (by repeat (first | exact wk0 | refine wka ?_ | refine wk1 rfl ?_ | refine wk1 (by first | rfl | exact ivx om | (simp;done) | exact bvx (by have h9:=hs68;unfold ZcB at h9;rw[h9];rfl) | exact bvx (by have h9:=hs106;unfold ZcB at h9;rw[h9];rfl) | exact bvx (by have h9:=hs68;unfold ZcB at h9;rw[Bool.not_eq_true] at h9;rw[h9];rfl) | exact bvx (by have h9:=hs106;unfold ZcB at h9;rw[Bool.not_eq_true] at h9;rw[h9];rfl)) ?_)) (by simp only[zonC,ZaZ,Zbi,zC,eC,List.append_nil,List.length_append,List.length_singleton];rfl) (hT:=by first | rfl | (simp only[AV.lt,AV.ltL,Ent.lt,List.all_cons,List.all_nil,Bool.and_true,Bool.and_self,decide_true,Zbj,Zby,Zbs,Zbv,ZbU,ZfT,ZgW,lt26,lt36,lt46,lt56];done) | exact lt') (hE:=by first | rfl | (simp only[AV.lt,AV.ltL,Ent.lt,List.all_cons,List.all_nil,Bool.and_true,Bool.and_self,decide_true,Zbj,Zby,Zbs,Zbv,ZbU,ZfT,ZgW,lt26,lt36,lt46,lt56];done) | exact lt'))
 have hke:k=L.length:=by omega
 rw[List.drop_of_length_le om,runR] at hrun
 have hV2:ZbJ s=endP (curS sr o,o.isSome):=by rw[hV,outP,hrun]
 refine ZaQ<|ZaD<|ZaD<|Zba<|Zah<|Zam<|wr'<|mw<|sn'<|?_
 refine cd' lk (fun hc9=>?_) (fun hc9=>?_)
 ·have hP:ZbJ s=(srcZ,0,1):=by rw[hV2];exact if_pos hc9
  refine wr'<|Vw (Zau ZhO)<|E' (Zak lk cv gx rfl (nb' rfl) rfl ZaU (hs0 hn)) ptn<|mw<|mw<|sn'<|Zaa<|Zai<|Zae (rsn (rm1 (rr_c gt gx (ld1 ZaS rfl)) (rm1 (rr_t gt) (rm1 (rr_t gt) rm0))))<|rtW'<|?_
  rw[hP];exact ZbL
 obtain rfl:o=none:=by cases o;rfl;cases hc9
 have hm':m=sr.2.1.length:=by simpa using hm
 subst hm'
 rw[Ze3] at hok hV2
 refine Zaf ?_
 refine Za5 ((ALe.trans (ALe.iceCellR (ds:=rows rulC sr.1) gx gx om gt0 (List.take_of_length_le (by rw[Znq];exact Nat.le_refl _)) (by rw[Znq];exact Nat.le_refl _) pt0 (hs2 hn) (hs1 hn)) (ALe.trans (ALe.iceCellR (ds:=rows zonC sr.2.1) gx gx om gt1 (by rw[show rows zonC sr.2.1++zC N v4 none=rows zonC sr.2.1 from List.append_nil _];exact List.take_of_length_le (by rw[ZgV];exact Nat.le_refl _)) (by rw[Zlw];simp) pt1 (hs3 hn) (hs1 hn)) (ALe.iceCellR (ds:=rows lnkC sr.2.2) gx gx om gt2 (List.take_of_length_le (by rw[ZnF];exact Nat.le_refl _)) (by rw[ZnF];exact Nat.le_refl _) pt2 (hs4 hn) (hs1 hn))))) ?_
 refine wr'<|Vw (Zan lk gx ZaS rfl)<|Zad mp (Zsi (a:=sr.1) (z:=sr.2.1) (l:=sr.2.2) hok) pt<|mw<|sn'<|Zam<|wr'<|mw<|Vw (ZaT lk lki)<|sn'<|?_
 refine cd' lk (fun hc10=>?_) (fun hc10=>?_)
 ·have hP:ZbJ s=(srcZ,0,ZbR sr):=by rw[hV2,endP,if_neg (by simp)];exact if_pos hc10
  refine wr'<|Vw (Zau ZhN)<|mw<|E' (Zak lk cv gx rfl (nb' rfl) rfl ZaU (hs0 hn)) ptn<|mw<|mw<|sn'<|Zaa<|Zai<|Zae (rsn (rm1 (rr_c gt gx (ld1 ZaS rfl)) (rm1 (rr_t gt) (rm1 (rr_t gt) rm0))))<|rtW'<|?_
  rw[hP];exact ZbL
 have h0:ZbR sr=0:=Decidable.of_not_not hc10
 have hP:ZbJ s=(sr,0,0):=by rw[hV2,endP,if_neg (by simp)];exact if_neg hc10
 refine Zaf<|Zah<|wr'<|Vw (Zan lk gx ZaS rfl)<|mw<|E' (Zak lk cv gx rfl (nb' rfl) rfl ZaU (hs0 hn)) ptn<|mw<|mw<|sn'<|Zaa<|Zae (rsn (rm1 (rr_c gt gx (ld1 ZaS rfl)) (rm1 (rr_t gt) (rm1 (rr_t gt) rm0))))<|rtW'<|?_
 rw[hP];exact Wk.tup (wk1 rfl (wk1 rfl (wk1 (ivx h0.symm) wk0)))
end Go.Proofs.YtlekejpogddndaaGreatDoor
end
section
namespace Go.Proofs.YtlekejpogddndaaGreatDoor
open Go.Ab Go.RowKit Civ
attribute [local simp] Zbj Zby Zbs Zbv Zb3 Zdd Zd5 ZbU
section
theorem Zkf {a0 a1 a2 c0 c1 c2:AV}{l:List AV}:setCells (a0::a1::a2::l) 0 [c0,c1,c2]=c0::c1::c2::l:=rfl
theorem Zke {a0 a1 a2:AV}{l:List AV}:((a0::a1::a2::l).drop 0).take 3=[a0,a1,a2]:=rfl
end
def c63:AC:=(Sr [Oo 0 (.new 26 3 [(.sl 0 0 true []),(.sl 0 0 true []),(.sl 0 0 true [])])] (Sr [Oo 5 (.call (.func 130) [(.const (.string ⟨#[82,117,108,101,32,101,117,32,49,57,56,49,32,109,97,120,32,77,97,114,32,108,97,115,116,83,117,110,32,49,58,48,48,117,32,49,58,48,48,32,83,10,82,117,108,101,32,101,117,32,49,57,57,54,32,109,97,120,32,79,99,116,32,108,97,115,116,83,117,110,32,49,58,48,48,117,32,48,32,45,10,90,111,110,101,32,72,101,114,101,47,84,111,119,110,32,48,58,49,48,32,45,32,76,77,84,32,49,56,56,48,32,74,97,110,32,49,32,48,10,32,32,49,58,48,48,32,101,117,32,67,69,37,115,84,10,76,105,110,107,32,72,101,114,101,47,84,111,119,110,32,79,108,100,10]⟩))]),Mv 4 5,Ex 6 4 0,Ex 7 4 1,Ex 8 4 2,Oo 1 (.new 26 3 [(.sl 0 0 true []),(.sl 0 0 true []),(.sl 0 0 true [])]),⟨none,none,(.store 3 (.tmp 1) (.tmp 6))⟩,Mv 2 7,Mv 3 8] (Sr [Oo 9 (.load true 3 (.tmp 1)),⟨none,none,(.store 3 (.tmp 0) (.tmp 9))⟩] .ret)))
theorem k63:ZaA Tryz.prog 63=some ⟨c63,[(.cell 0 true 3)],10⟩:=by kernel_rfl
def txtS:Bs:=[82,117,108,101,32,101,117,32,49,57,56,49,32,109,97,120,32,77,97,114,32,108,97,115,116,83,117,110,32,49,58,48,48,117,32,49,58,48,48,32,83,10,82,117,108,101,32,101,117,32,49,57,57,54,32,109,97,120,32,79,99,116,32,108,97,115,116,83,117,110,32,49,58,48,48,117,32,48,32,45,10,90,111,110,101,32,72,101,114,101,47,84,111,119,110,32,48,58,49,48,32,45,32,76,77,84,32,49,56,56,48,32,74,97,110,32,49,32,48,10,32,32,49,58,48,48,32,101,117,32,67,69,37,115,84,10,76,105,110,107,32,72,101,114,101,47,84,111,119,110,32,79,108,100,10]
def nEu:ByteArray:=bA [101,117]
def nHt:ByteArray:=bA [72,101,114,101,47,84,111,119,110]
def nOld:ByteArray:=bA [79,108,100]
def rul0:List Rul:=[(nEu,1981,2100,3,(2,0,0),3600,3,3600,bA [83]),(nEu,1996,2100,10,(2,0,0),3600,3,0,bA [])]
def era0:Era:=(600,bA [],0,bA [76,77,84],false,((1880,1,1),0,2))
def era1:Era:=(3600,nEu,0,bA [67,69,37,115,84],true,((0,0,0),0,0))
def src0:Src:=(rul0,[(nHt,[era0,era1])],[(nHt,nOld)])
theorem prs0:ZbJ (bA txtS)=(src0,0,0):=by kernel_rfl
theorem src0_ok:Zgq src0:=by
 refine⟨fun r hr=>?_,fun z hz=>?_,fun l hl=>?_⟩
 ·simp only[src0,rul0,List.mem_cons,List.not_mem_nil,or_false] at hr
  rcases hr with rfl | rfl <;> exact⟨by decide,by decide⟩
 ·simp only[src0,List.mem_cons,List.not_mem_nil,or_false] at hz
  subst hz
  refine⟨by decide,fun x hx=>?_⟩
  simp only[List.mem_cons,List.not_mem_nil,or_false] at hx
  rcases hx with rfl | rfl <;> exact⟨by decide,by decide⟩
 simp only[src0,List.mem_cons,List.not_mem_nil,or_false] at hl
 subst hl;exact⟨by decide,by decide⟩
theorem rp_txt {h:AH}:Ac 130 [sv (bA txtS)] h (.tup [.agg (srcC src0),iv 0,iv 0]):=by
 have:=rparse_a (s:=bA txtS) (h:=h)
 rw[prs0] at this
 exact this
theorem parsed_a {h:AH}:Ac 63 [] h (.agg (srcC src0)):=by
 refine tI' k63 fun N hn hlt hlA hbd=>?_
 simp only[tb'] at hbd ⊢
 refine wr'<|E' (ZaV (hl0 hn) ha0) pt<|sn'<|wr'<|Zad mp (rp_txt) pt<|mw<|Vw (ZaN lk gt)<|Vw (ZaN lk gt)<|Vw (ZaN lk gt)<|E' (ZaV (hl1 hn) ha1) pt<|E' (Zak lk cv gx rfl (nb' rfl) rfl Zkf (hs1 hn)) ptn<|?_
 exact mw<|mw<|sn'<|wr'<|Vw (Zan lk gx Zke rfl)<|E' (Zak lk cv gx rfl (nb' rfl) rfl Zkf (hs0 hn)) ptn<|sn'<|Zaa<|Zae (rs1 (rr_c gt gx (ld1 Zke rfl)))<|rT' rfl
def insT (t:Trn):List Trn→List Trn
 | []=>[t]
 | u::l=>if t.1≤u.1 then t::u::l else u::insT t l
def insS:List Trn→List Trn
 | []=>[]
 | t::l=>insT t (insS l)
theorem ZiJ (t:Trn) : ∀ l:List Trn,(insT t l).Perm (t::l)
 | []=>.refl _
 | u::l=>by
  rw[insT]
  split
  ·exact .refl _
  exact ((ZiJ t l).cons u).trans (List.Perm.swap t u l)
theorem Zmt : ∀ l:List Trn,(insS l).Perm l
 | []=>.refl _
 | t::l=>(ZiJ t _).trans ((Zmt l).cons t)
theorem Zpk {t:Trn} : ∀ {l:List Trn},l.Pairwise (fun a b=>a.1≤b.1)→(insT t l).Pairwise fun a b=>a.1≤b.1
 | [],_=>by simp[insT]
 | u::l,h=>by
  rw[insT]
  rw[List.pairwise_cons] at h
  split
  ·rename_i hle
   refine List.pairwise_cons.2 ⟨fun x hx=>?_,List.pairwise_cons.2 h⟩
   rcases List.mem_cons.1 hx with rfl | hx
   ·exact hle
   have:=h.1 x hx;omega
  rename_i hle
  refine List.pairwise_cons.2 ⟨fun x hx=>?_,Zpk h.2⟩
  rcases List.mem_cons.1 ((ZiJ t l).mem_iff.1 hx) with rfl | hx
  ·omega
  exact h.1 x hx
theorem Zpl : ∀ l:List Trn,(insS l).Pairwise fun a b=>a.1≤b.1
 | []=>.nil
 | t::l=>Zpk (Zpl l)
def ZlI (l:List Rul) (nm:ByteArray) (sh:Int):List Tim×Int :=
 if ZdH l nm sh≠0 then ([],ZdH l nm sh) else if gapB (insS (Zbf l nm))=true then ([],4) else if 1000<(insS (Zbf l nm)).length then ([],2) else (outV sh 0 (insS (Zbf l nm)),0)
theorem ZrM (l:List Rul) (nm:ByteArray) (sh:Int):Zbc l nm sh=ZlI l nm sh:=by
 unfold ZlI
 by_cases h:ZdH l nm sh=0
 ·rw[if_neg (by simp[h]),ZoS h (Zmt _) (Zpl _)]
 rw[if_pos h,ZlH h]
theorem tim0_err:(ZlI rul0 nEu 3600).2=0:=by kernel_rfl
theorem chk0:Zb7 src0=0:=by
 have h1:ZbR src0=0:=by kernel_rfl
 have h2:(Zdp src0.2.1 src0.2.2).Nodup:=by decide
 have h3:Zjp src0=false:=by kernel_rfl
 have h4:Za4 (errX src0.1) (Zdl src0.2.1)=0:=by
  refine ZnT fun y hy=>?_
  simp only[src0,Zdl,List.flatMap_cons,List.flatMap_nil,List.append_nil,List.mem_cons,List.not_mem_nil,or_false] at hy
  rcases hy with rfl | rfl
  ·rfl
  show (if nEu=⟨#[]⟩ then 0 else (Zbc rul0 nEu 3600).2)=0
  rw[ZrM,tim0_err];split <;> rfl
 have h5:(src0.2.1.any fun z=>!risL (Zcd z.2))=false:=by kernel_rfl
 unfold Zb7
 rw[if_neg (by simp[h1]),if_neg (by simpa using h2),if_neg (by simp[h3]),if_neg (by simp[h4]),if_neg (by simp[h5])]
end Go.Proofs.YtlekejpogddndaaGreatDoor
end
section
namespace Go.Proofs.YtlekejpogddndaaGreatDoor
open Go.Ab Go.RowKit Civ
attribute [local simp] Zbj Zby Zbs Zbv Zb3 Zdd Zd5 ZbU
theorem find0:ZcM src0 nOld=((nHt,[era0,era1]),0):=by
 unfold ZcM;rw[if_neg (by simp[chk0])];kernel_rfl
end Go.Proofs.YtlekejpogddndaaGreatDoor
end
section
namespace Go.Proofs.YtlekejpogddndaaGreatDoor
open Go.Ab Civ
def Zsq:List Chg:=cutV (eraG era0 tMin []) (endV era0)++eraG era1 (endV era0) (ZlI rul0 nEu 3600).1
theorem Zsp:Za1 rul0 tMin none [era0,era1]=Zsq:=by
 have e0:Zbg rul0 era0=[]:=if_pos (by decide)
 have e1:Zbg rul0 era1=(ZlI rul0 nEu 3600).1:=by
  unfold Zbg
  rw[if_neg (by decide),ZrM];rfl
 rw[Za1,Za1,e0,e1,if_neg (by decide)]
 unfold Zsq
 rw[show ZbK none tMin=tMin from rfl,show ZbK (some (endV era0)) tMin=endV era0 from by decide]
def tab0:Tab:=stV (inP Zsq)
theorem ZpT:tab0.1=(600,0,bA [76,77,84]):=by kernel_rfl
theorem ZoY:tab0.2.length=211:=by kernel_rfl
theorem tab0_ok1:locE tab0.1=0:=by kernel_rfl
theorem tab0_ok2:Zcc tab0.2=0:=by kernel_rfl
theorem table0:Zht rul0 [era0,era1]=tab0:=by
 have:=ZlR (s:=src0) (z:=(nHt,[era0,era1])) chk0 (by simp[src0])
 have e:stV (inP (Za1 rul0 tMin none [era0,era1]))=Zht rul0 [era0,era1]:=this
 rw[←e,Zsp];rfl
theorem of0:ofV src0 (nHt,[era0,era1])=(tab0,0):=by
 unfold ofV
 show tabR (Zht rul0 [era0,era1])=_
 rw[table0]
 unfold tabR
 rw[if_neg (by rw[tab0_ok1];simp),if_neg (by rw[tab0_ok2];simp),if_neg (by rw[ZoY];decide)]
theorem comp0:Zn5 src0 nOld=(tab0,0):=by
 unfold Zn5
 rw[find0,if_neg (by simp),of0]
theorem chkT0:Za9 tab0=0:=by
 have h:=ZlM (rl:=rul0) (es:=[era0,era1]) (by
  have:=congrArg Prod.snd of0
  exact this)
 rwa [table0] at h
theorem ZlK:Zbu ZbV 100=(7200,3600,⟨#[66]⟩):=by kernel_rfl
theorem ZlJ:Zbu ZbV 99=(3600,0,⟨#[65]⟩):=by kernel_rfl
theorem Zka:Za9 ZbV=0:=by kernel_rfl
end Go.Proofs.YtlekejpogddndaaGreatDoor
end
section
namespace Go.Proofs.YtlekejpogddndaaGreatDoor
open Go.Ab Civ
attribute [local simp] Zbj Zby Zbs Zbv ZbU Zdd Zb3
section
theorem Zej {a0 a1 a2 a3:AV}{l:List AV}:((a0::a1::a2::a3::l).drop 1).take 3=[a1,a2,a3]:=rfl
theorem Zhm {a0 a1 a2 c0 c1 c2:AV}{l:List AV}:setCells (a0::a1::a2::l) 0 [c0,c1,c2]=c0::c1::c2::l:=rfl
theorem ZdA {a0 a1 a2:AV}{l:List AV}:((a0::a1::a2::l).drop 0).take 3=[a0,a1,a2]:=rfl
theorem ZtX {τ:Operand→AV}:Zar τ [] [(.v (.int .i64 0)),(.v (.int .i64 0)),(.v (.string ⟨#[]⟩)),(.sl 0 0 true [])]=some [(.v (.int .i64 0)),(.v (.int .i64 0)),(.v (.string ⟨#[]⟩)),(.sl 0 0 true [])]:=rfl
theorem Zki {a0 a1:AV}{l:List AV}:((a0::a1::l).drop 0).take 2=[a0,a1]:=rfl
theorem ZmU {a0 a1 a2 a3:AV}{l:List AV}:(a0::a1::a2::a3::l).take 4=[a0,a1,a2,a3]:=rfl
theorem ZcG {a0 a1 a2 a3 c0 c1 c2 c3:AV}{l:List AV}:setCells (a0::a1::a2::a3::l) 0 [c0,c1,c2,c3]=c0::c1::c2::c3::l:=rfl
theorem Zkj {τ:Operand→AV}:Zar τ [] [(.v (.int .i64 0)),(.v (.int .i64 0)),(.v (.string ⟨#[]⟩)),(.sl 0 0 true [])]=some [(.v (.int .i64 0)),(.v (.int .i64 0)),(.v (.string ⟨#[]⟩)),(.sl 0 0 true [])]:=rfl
theorem Zcq {a0 a1 a2 a3:AV}{l:List AV}:((a0::a1::a2::a3::l).drop 0).take 4=[a0,a1,a2,a3]:=rfl
theorem ZqX {τ:Operand→AV}:Zar τ [] [(.v (.int .i64 0)),(.v (.int .i64 0)),(.v (.string ⟨#[]⟩)),(.sl 0 0 true [])]=some [(.v (.int .i64 0)),(.v (.int .i64 0)),(.v (.string ⟨#[]⟩)),(.sl 0 0 true [])]:=rfl
theorem Zow {a0 b0:Int}{a1 b1:Int}{a2 b2:ByteArray}:Zbn [.int,.int,.str] [iv a0,iv a1,sv a2] [iv b0,iv b1,sv b2]=some (decide (a0=b0∧a1=b1∧a2=b2)):=by
 simp only[Zbn,ZdY,if_true,ZcV,Option.some.injEq]
 simp only[Bool.decide_and,Bool.and_true]
 try (congr 1 <;> simp)
 try rfl
theorem ZqW {τ:Operand→AV}{y0 y1:Operand}{x0_0 x1_0 x1_1 x1_2:AV}(h0:Zat (τ y0)=some [x0_0]) (l0:[x0_0].all leaf=true) (h1:Zat (τ y1)=some [x1_0,x1_1,x1_2]) (l1:[x1_0,x1_1,x1_2].all leaf=true):Zar τ [(0,1,y0),(1,3,y1)] [(.v (.int .i64 0)),(.v (.int .i64 0)),(.v (.int .i64 0)),(.v (.string ⟨#[]⟩))]=some [x0_0,x1_0,x1_1,x1_2]:=by
 simp only[Zar,h0,l0,h1,l1]
 rfl
theorem ZqV {τ:Operand→AV}{y0:Operand}{x0_0 x0_1 x0_2 x0_3:AV}(h0:Zat (τ y0)=some [x0_0,x0_1,x0_2,x0_3]) (l0:[x0_0,x0_1,x0_2,x0_3].all leaf=true):Zar τ [(0,4,y0)] [(.v (.int .i64 0)),(.v (.int .i64 0)),(.v (.int .i64 0)),(.v (.string ⟨#[]⟩))]=some [x0_0,x0_1,x0_2,x0_3]:=by
 simp only[Zar,h0,l0]
 rfl
theorem ZtW { e:Ent}:([]:AH)++[e]=[e]:=rfl
theorem ZqU {e0 e1 e2 e3 e4 e5 d0:Ent}:([e0,e1,e2,e3,e4,e5]:AH)++[d0]=[e0,e1,e2,e3,e4,e5,d0]:=rfl
theorem ZqS {a0 a1 a2 a3 c0:AV}{l:List AV}:setCells (a0::a1::a2::a3::l) 3 [c0]=a0::a1::a2::c0::l:=rfl
theorem ZqT {a0 a1 c0 c1:AV}{l:List AV}:setCells (a0::a1::l) 0 [c0,c1]=c0::c1::l:=rfl
theorem Zi3 {τ:Operand→AV}:Zar τ [] [(.v (.int .i64 0)),(.v (.int .i64 0)),(.v (.string ⟨#[]⟩)),(.sl 0 0 true [])]=some [(.v (.int .i64 0)),(.v (.int .i64 0)),(.v (.string ⟨#[]⟩)),(.sl 0 0 true [])]:=rfl
end
def c78:AC:=(Sr [Oo 2 (.box 26 3 (.tmp 0)),Oo 3 (.box 53 2 (.tmp 1)),Oo 4 (.new 40 4 [(iv 0),(iv 0),Ss,(.sl 0 0 true [])]),Mc 5 0] (Sr [Oo 10 (.build [(iv 0),(iv 0),Ss,(.sl 0 0 true [])] []),Oo 11 (.box 198 4 (.tmp 10)),Mv 6 11] (.seq (Sd [Oo 12 (.load true 3 (.tmp 2)),Oo 13 (.load true 2 (.tmp 3)),Cl 14 67 [],Cl 15 69 [(.tmp 12),(.tmp 13),(.tmp 14)],Oo 16 (.len false (.tmp 15)),Mc 17 0] (.block 0 (.loop (Sr [Bn 18 .lss 17 16] (.seq (Cd 18 .skip (.exit 0)) (.seq (.block 1 (Sr [Mv 19 17,Oo 20 (.ia 4 (.tmp 15) (.tmp 17)),Oo 21 (.load true 4 (.tmp 20)),Oo 8 (.new 121 4 [(iv 0),(iv 0),(iv 0),Ss]),Mv 7 19,⟨none,none,(.store 4 (.tmp 8) (.tmp 21))⟩] (.seq (Sd [Fa 22 0 8,Ld 23 22,Cl 24 68 [],Bn 25 .gtr 23 24] (Cd 25 (.exit 0) .skip)) (.seq (Sr [Fa 26 1 8,Oo 27 (.load true 3 (.tmp 26)),Cl 28 77 [(.tmp 27)],Mv 9 28] (Sr [Mv 29 9,Bc 30 .neq 29 0] (Cd 30 (Sr [Oo 31 (.build [(iv 0),(iv 0),Ss,(.sl 0 0 true [])] []),Mv 32 9,⟨none,none,(.store 4 (.tmp 4) (.tmp 31))⟩,Mv 5 32] .ret) .skip))) (.block 2 (Sr [Mv 34 7,Bc 35 .eql 34 0,Mv 33 35] (Cd 33 (.reg [Mv 36 6,Fa 37 1 8,Oo 38 (.load true 3 (.tmp 37)),Nk 39 36,Fa 40 0 39,Fa 41 0 40,⟨none,none,(.store 3 (.tmp 41) (.tmp 38))⟩]) (.seq (.orPan (.drw [Fa 43 1 8,Oo 44 (.loadR true 3 (.tmp 43)),Mv 45 6] [true,false,false] [Cl 46 147 [(.tmp 45)],Oo 47 (.eqs true [.int,.int,.str] (.tmp 44) (.tmp 46)),Mv 42 47]) (.tmp 45) 147 [Fa 43 1 8,Oo 44 (.load true 3 (.tmp 43)),Mv 45 6,Mv 46 45,Mb 47 false,Mb 42 false] 46) (Cd 42 (.drw [Mv 48 6,Mv 49 6,Nk 50 49,Fa 51 0 50,Fa 52 3 51,Ld 53 52,Fa 54 0 8,Ld 55 54,Fa 56 1 8,Oo 57 (.load true 3 (.tmp 56)),Oo 58 (.build [(iv 0),(iv 0),(iv 0),Ss] [(0,(1,(.tmp 55))),(1,(3,(.tmp 57)))]),Oo 59 (.lit 68 4 1 [(iv 0),(iv 0),(iv 0),Ss] [(0,(4,(.tmp 58)))])] [false,false,false,false,false] [Oo 60 (.app 68 4 40 (.tmp 53) (.tmp 59)),Nk 61 48,Fa 62 0 61,Fa 63 3 62,Sc 63 60]) .skip))))))))) (.reg [Bc 64 .add 17 1,Mv 17 64]))))))) (.seq (Sr [Mv 65 6,Nk 66 65,Fa 67 0 66,Fa 68 3 67,Ld 69 68,Oo 70 (.len false (.tmp 69)),Bc 71 .gtr 70 1000] (Cd 71 (Sr [Oo 72 (.build [(iv 0),(iv 0),Ss,(.sl 0 0 true [])] []),⟨none,none,(.store 4 (.tmp 4) (.tmp 72))⟩,Mc 5 2] .ret) .skip)) (Sr [Mv 73 6,Nk 74 73,Fa 75 0 74,Oo 76 (.load true 4 (.tmp 75)),⟨none,none,(.store 4 (.tmp 4) (.tmp 76))⟩,Mc 5 0] .ret)))))
theorem k78:ZaA Tryz.prog 78=some ⟨c78,[(.cell 4 true 4),(.tmp 5)],77⟩:=by kernel_rfl
def c24:AC:=(Sr [Oo 2 (.box 26 3 (.tmp 0)),Oo 4 (.new 40 4 [(iv 0),(iv 0),Ss,(.sl 0 0 true [])]),Mc 5 0] (Sr [Oo 9 (.load true 3 (.tmp 2)),Mv 10 1,Cl 11 30 [(.tmp 9),(.tmp 10)],Mv 8 11,Ex 12 8 0,Ex 13 8 1,Oo 6 (.new 53 2 [Ss,(.sl 0 0 true [])]),⟨none,none,(.store 2 (.tmp 6) (.tmp 12))⟩,Mv 7 13] (.seq (Sr [Mv 14 7,Bc 15 .neq 14 0] (Cd 15 (Sr [Oo 16 (.build [(iv 0),(iv 0),Ss,(.sl 0 0 true [])] []),Mv 17 7,⟨none,none,(.store 4 (.tmp 4) (.tmp 16))⟩,Mv 5 17] .ret) .skip)) (Sr [Oo 18 (.load true 3 (.tmp 2)),Oo 19 (.load true 2 (.tmp 6)),Cl 20 78 [(.tmp 18),(.tmp 19)],Ex 21 20 0,Ex 22 20 1,⟨none,none,(.store 4 (.tmp 4) (.tmp 21))⟩,Mv 5 22] .ret))))
theorem k24:ZaA Tryz.prog 24=some ⟨c24,[(.cell 4 true 4),(.tmp 5)],23⟩:=by kernel_rfl
theorem last_eq : ∀ (F:Loc) (l:List Chg),ZiI F l=Zgs F l
 | F,[]=>rfl
 | F,c::l=>by
  rw[Zgr (l:=c::l) (by simp)]
  unfold ZiI
  rw[List.getLast?_eq_getElem?,List.getElem?_eq_getElem (by simp)]
  rfl
theorem ZsQ {ps:List Chg}{i:Nat}(hi:i<ps.length) (h1 : ∀ c∈ps.take i,c.1≤tMax) (h2:ps[i].1≤tMax) (h3:Zcc (ps.take i)=0) (h4:locE ps[i].2≠0):Zcc (inP ps)=locE ps[i].2:=by
 have e:inP ps=(ps.take i++[ps[i]])++inP (ps.drop (i+1)):=by
  conv=>lhs;rw[←List.take_append_drop i ps]
  unfold inP
  rw[List.takeWhile_append_of_pos (fun c hc=>by have:=h1 c hc;simpa using this),List.drop_eq_getElem_cons hi,List.takeWhile_cons,if_pos (by simpa using h2),List.append_assoc]
  rfl
 have h5:=ZiF (c:=ps[i]) h3
 rw[e,Zmo (by rw[h5];exact h4),h5]
theorem mlast_o {F:Loc}{l:List Chg}{id q v0 ver ty ty2:Nat}{h:AH}(h1:h[id]?=some (.mk v0 ty 4 [iv F.1,iv F.2.1,sv F.2.2,.own q ver l.length])) (h2:h[q]?=some (.mk ver ty2 4 (rows chgC l))) (hl:l.length≤9223372036854775807) :
  Ac 147 [.ptr id v0 0] h (.agg [iv (ZiI F l).1,iv (ZiI F l).2.1,sv (ZiI F l).2.2]):=by
 have hid:id<h.length:=(List.getElem?_eq_some_iff.1 h1).1
 rw[last_eq]
 refine tI' k147 fun N hn hlt hlA hbd=>?_
 simp only[tb'] at hbd ⊢
 refine wr'<|E' (ZaV (hl0 hn) ha0) pt<|sn'<|Zam<|wr'<|mw<|Vw (Zbr lk)<|Vw (Zab lk)<|Vw (Zab lk)<|Vw (Zac lk (ZdW h1) gt3)<|Vw (ZcW lk)<|?_
 refine mw<|sn'<|wr'<|mw<|Vw (ZbD lk lki)<|sn'<|?_
 refine cd' lk (fun hc1=>?_) (fun hc1=>?_)
 ·have hl0:0<l.length:=by omega
  refine wr'<|mw<|Vw (Zbr lk)<|Vw (Zab lk)<|Vw (Zab lk)<|Vw (Zac lk (ZdW h1) gt3)<|mw<|?_
  refine V' (Zbt lk lki om om) pt ?_
  refine V' (ZlC (k:=l.length-1) lk lk (ZdW h2) Zcb (nb' rfl) ro om (by first | rfl | (simp;done) | omega)) pt ?_
  refine V' (ZbN lk) pt ?_
  refine V' (v_ldOFA lk (ZdW h2) Zcb om (nb' rfl) Zej rfl) pt ?_
  refine E' (Zak lk cv gx rfl (nb' rfl) rfl Zhm (hs0 hn)) ptn<|sn'<|Zaa<|Zai<|Zae (rs1 (rr_c gt gx (ld1 ZdA rfl)))<|rT'<|?_
  rw[Zgr hl0]
 have hl0:l=[]:=List.eq_nil_of_length_eq_zero om
 refine Zaf<|Zah<|wr'<|mw<|Vw (Zbr lk)<|Vw (Zab lk)<|Vw (Zab lk)<|Vw (Zan lk (ZdW h1) ZdA rfl)<|E' (Zak lk cv gx rfl (nb' rfl) rfl Zhm (hs0 hn)) ptn<|sn'<|Zaa<|Zae (rs1 (rr_c gt gx (ld1 ZdA rfl)))<|?_
 refine rT' ?_
 subst hl0;rfl
theorem mlast_r {F:Loc}{l:List Chg}{id q v0 ver ty ty2:Nat}{h:AH}(h1:h[id]?=some (.mk v0 ty 4 [iv F.1,iv F.2.1,sv F.2.2,.own q ver l.length])) (h2:h[q]?=some (.mk ver ty2 4 (rows chgC l))) (hl:l.length≤9223372036854775807) :
  ACalls Tryz.prog 147 [.ptr id v0 0] h fun x h'=>x=.ret (.agg [iv (ZiI F l).1,iv (ZiI F l).2.1,sv (ZiI F l).2.2])∧h'=h:=(mlast_o h1 h2 hl).mono fun _ _ e=>⟨e.2,e.1⟩
theorem Zmj (fm lt:ByteArray) (sa:Int):(ZkX fm lt sa).size≤2*fm.size+lt.size:=by
 unfold ZkX
 have h1:=Zh1 (s:=fm) (p:=[47])
 have h2:=Zh1 (s:=fm) (p:=[37,115])
 have e:(aB lt).length=lt.size:=rfl
 split
 ·split <;> (rw[Zdo];omega)
 split
 ·rw[Zdo,List.length_append,List.length_append,e];omega
 omega
theorem Zma {rl:List Rul}{f:Int} : ∀ (es:List Era) (prev:Option Int),(Za1 rl f prev es).length≤1001*es.length
 | [],_=>by simp[Za1]
 | [x],prev=>by
  have h1:=Zgw (x:=x) (b:=ZbK prev f) (Zbg rl x)
  have h2:=Zfh (rl:=rl) (x:=x)
  rw[Za1,List.length_singleton];omega
 | x::y::es,prev=>by
  have h1:=Zgw (x:=x) (b:=ZbK prev f) (Zbg rl x)
  have h2:=Zfh (rl:=rl) (x:=x)
  have h3:=Zpw (eraG x (ZbK prev f) (Zbg rl x)) (endV x)
  have h4:=Zma (rl:=rl) (f:=f) (y::es) (some (endV x))
  rw[Za1,List.length_append,List.length_cons]
  split
  ·rw[List.length_nil];omega
  omega
theorem Ztg {rl:List Rul}{x:Era}{b:Int}(hx:ZbO (xFm x)=true) : ∀ c∈eraG x b (Zbg rl x),c.2.2.2.size≤72:=by
 have hf:=ZiL hx
 intro c hc
 rcases List.mem_cons.1 hc with rfl | hc
 ·have key : ∀ (l:List Tim) (sa:Int) (lt:ByteArray),(∀ t∈l,t.2.2.size≤24)→lt.size≤24→(ZdM sa lt l b).2.size≤24:=by
   intro l
   induction l with
   | nil=>intro _ _ _ h;exact h
   | cons t l ih =>
    intro sa lt hl h
    rw[ZdM]
    split
    ·exact ih _ _ (fun u hu=>hl u (by simp[hu])) (hl t (by simp))
    exact ih _ _ (fun u hu=>hl u (by simp[hu])) h
  have:=key (Zbg rl x) (xSv x) ⟨#[]⟩ (fun t ht=>(ZjE ht).2.2) (by decide)
  have h2:=Zmj (xFm x) (ZdM (xSv x) ⟨#[]⟩ (Zbg rl x) b).2 (ZdM (xSv x) ⟨#[]⟩ (Zbg rl x) b).1
  show (ZkX _ _ _).size≤72
  omega
 obtain⟨t,ht,rfl⟩:=List.mem_map.1 hc
 have h3:=(ZjE (List.mem_filter.1 ht).1).2.2
 have h2:=Zmj (xFm x) t.2.2 t.2.1
 show (ZkX _ _ _).size≤72
 omega
theorem Zo3 {rl:List Rul}{f:Int} : ∀ {es:List Era}{prev:Option Int},(∀ x∈es,ZbO (xFm x)=true) → ∀ c∈Za1 rl f prev es,c.2.2.2.size≤72
 | [],_,_,c,h=>by cases h
 | [x],prev,hx,c,h=>Ztg (hx x (by simp)) c h
 | x::y::es,prev,hx,c,h=>by
  rw[Za1] at h
  rcases List.mem_append.1 h with h | h
  ·split at h
   ·cases h
   exact Ztg (hx x (by simp)) c ((List.takeWhile_sublist _).subset h)
  exact Zo3 (fun z hz=>hx z (by simp[hz])) c h
def ofP (a:List Rul) (es:List Era):Tab×Int:=tabR (stV (inP (Za1 a tMin none es)))
theorem ZhR {e:AV}:Wk (.tup [.agg [.v (.int .i64 0),.v (.int .i64 0),.v (.string ⟨#[]⟩),.sl 0 0 true []],e]) (.tup [tabA noTab,e]):=Wk.tup (wkw (Wk.agg (wk1 rfl (wk1 rfl (wk1 rfl (wkw Wk.nilF wk0))))) (wk1 rfl wk0))
theorem tof_a {a:List Rul}{z:List Zon}{k:List Lnk}{nm:ByteArray}{es:List Era}{h:AH}(hok:okRs a) (ha:a.length≤9223372036854775807) (hz:okZ es) (hne:inP (Za1 a tMin none es)≠[]) :
  Ac 78 [.agg (srcB a z k),.agg [sv nm,.sl es.length 10 false (rows eraC es)]] h (.tup [tabA (ofP a es).1,iv (ofP a es).2]):=by
 have hlen:=hz.len
 have hpl:=Zma (rl:=a) (f:=tMin) es none
 have hps:=Zo3 (rl:=a) (f:=tMin) (prev:=none) (es:=es) (fun x hx=>(hz.fm x hx).1)
 have hO:ofP a es=_:=tabR_st (.inr hne)
 have hparts : ∀ h:AH,ACalls Tryz.prog 69 [.agg (srcB a z k),.agg [sv nm,.sl es.length 10 false (rows eraC es)],iv tMin] h fun y h'=>h'=h∧y=.ret (.sl (Za1 a tMin none es).length 4 false (rows chgC (Za1 a tMin none es))):=fun h=>parts_a hok ha hz (by decide)
 generalize Za1 a tMin none es=ps at hpl hps hne hO hparts
 refine tW' k78 fun N hn hlt hlA hbd=>?_
 simp only[tb'] at hbd ⊢
 refine wr'<|E' (Zbd cv rfl (hl0 hn) ha0) pt<|E' (Zbd cv rfl (hl1 hn) ha1) pt<|E' (ZaV (hl2 hn) ha2) pt<|mw<|sn'<|wr'<|Vw (Zau ZtX)<|E' (Zbd cv rfl (hl3 hn) ha3) pt<|mw<|Zas<|?_
 refine Zah<|Zam<|Zam<|ZbZ<|Dw (Zan lk gx ZdA rfl)<|Dw (Zan lk gx Zki rfl)<|?_
 refine ZaY mp0 (fun hE hX=>ZnJ) pt ?_
 refine ZaY mp (fun hE hX=>hparts _) pt ?_
 refine Dw (ZaL lk)<|Dw (v_mv lki)<|ZbI<|?_
 refine Zch ?_
 refine Zas ?_
 refine Za5 (ALe.own0Cell (st':=4) (ty:=68) gx gt3 (hl4 hn) pt3 (Eq.trans (congrArg (fun z=>List.set z _ _) ha4) (hs3 hn))) ?_
 refine Zap ?_
 refine w_lp (ι:=Nat×Nat) (fun (x_:Nat×Nat)=>match x_ with | ⟨i,v⟩=>[(17,iv (i:Int)),(5,.any)]++rn' 7 3++rn' 18 47) (fun (x_:Nat×Nat)=>match x_ with | ⟨i,v⟩=>[(3,.mk 0 198 4 [iv (stV (ps.take i)).1.1,iv (stV (ps.take i)).1.2.1,sv (stV (ps.take i)).1.2.2,.own (N+4) v (stV (ps.take i)).2.length]),(4,.mk v 68 4 (rows chgC (stV (ps.take i)).2))]) (fun (x_:Nat×Nat)=>match x_ with | ⟨i,v⟩=>i≤ps.length∧(∀ c∈ps.take i,c.1≤tMax)∧Zcc (ps.take i)=0) (fun (x_:Nat×Nat)=>match x_ with | ⟨i,v⟩=>ps.length-i) (⟨0,0⟩) (by exact⟨Nat.zero_le _,⟨fun c hc=>(by cases hc),rfl⟩⟩) ?_
 rintro⟨i,v⟩ hi1
 try simp only[sm',Nat.reduceAdd]
 obtain⟨hi1,hi2,hi3⟩:=hi1
 refine wr'<|Vw (Zbb lk lk)<|sn'<|Zam<|?_
 refine cd' lk (fun hc1=>?_) (fun hc1=>?_)
 ·have hi:i<ps.length:=by omega
  have hsz:=hps _ (List.getElem_mem hi)
  have hsl:=ZrU (ps.take i)
  rw[List.length_take] at hsl
  have htk:=List.take_succ_eq_append_getElem hi
  refine Zaf<|Zah<|Zam<|Zap<|wr'<|mw<|?_
  refine V' (Za0 lk lk Zcb (nb' rfl) ro om ro rfl) pt ?_
  refine Vw (ZaI lk ZmU rfl)<|E' (ZaV (hl5 hn) ha5) pt<|mw<|E' (Zak lk cv gx rfl (nb' rfl) rfl ZcG (hs5 hn)) ptn<|sn'<|Zam<|Zam<|ZbZ<|Dw (Zab lk)<|Dw (Zac lk gx gt0)<|?_
  refine ZaY mp0 (fun hE hX=>most_a) pt ?_
  refine Dw (ZbD lk lk)<|ZbI<|?_
  refine Zch ?_
  refine sn' ?_
  refine cd' lk (fun hc2=>?_) (fun hc2=>?_)
  ·have hP:inP ps=ps.take i:=Zpm hi2 (fun hh=>by simp only[tMax];omega)
   refine ZaQ<|ZaD<|x_pas (Nat.ne_of_beq_eq_false rfl)<|ZaD<|ZaD<|Zba<|Zah<|Zam<|wr'<|mw<|Vw (Zbr lk)<|Vw (Zab lk)<|Vw (Zab lk)<|?_
   refine Vw (Zac lk gx gt3)<|Vw (ZcW lk)<|Vw (ZbD lk lki)<|sn'<|?_
   refine cd' lk (fun hc6=>?_) (fun hc6=>?_)
   ·rw[hP,hi3,if_neg (by simp),if_pos om] at hO
    refine wr'<|Vw (Zau Zkj)<|E' (Zak lk cv gx rfl (nb' rfl) rfl ZcG (hs2 hn)) ptn<|mw<|sn'<|Zaa<|Zai<|Zae (rsn (rm1 (rr_c gt gx (ld1 Zcq rfl)) (rm1 (rr_t gt) rm0)))<|rtW'<|?_
    rw[hO];exact ZhR
   rw[hP,hi3,if_neg (by simp),if_neg om] at hO
   refine Zaf ?_
   refine Za5 (ALe.iceCellR gx gx om gt3 (List.take_of_length_le (by rw[ZcD];exact Nat.le_refl _)) (by rw[ZcD];exact Nat.le_refl _) pt3 (hs4 hn) (hs3 hn)) ?_
   refine wr'<|mw<|Vw (Zbr lk)<|Vw (Zab lk)<|Vw (Zan lk gx Zcq rfl)<|E' (Zak lk cv gx rfl (nb' rfl) rfl ZcG (hs2 hn)) ptn<|mw<|sn'<|Zaa<|Zae (rsn (rm1 (rr_c gt gx (ld1 Zcq rfl)) (rm1 (rr_t gt) rm0)))<|rtW'<|?_
   rw[hO];exact Wk.tup (wkw (Wk.agg (wk1 rfl (wk1 rfl (wk1 rfl (wkw Wk.full wk0))))) (wk1 rfl wk0))
  refine Zaf<|Zah<|Zam<|wr'<|Vw (Zab lk)<|Vw (Zan lk gx Zej rfl)<|?_
  refine Zad mp (ZnE (by simp only[maxLen];omega)) pt ?_
  refine mw<|sn'<|wr'<|mw<|Vw (ZaT lk lki)<|sn'<|?_
  refine cd' lk (fun hc3=>?_) (fun hc3=>?_)
  ·have hlE:locE ps[i].2≠0:=hc3
   have hE:=ZsQ hi hi2 (by simp only[tMax];omega) hi3 hlE
   rw[hE,if_pos hlE] at hO
   refine wr'<|Vw (Zau ZqX)<|mw<|E' (Zak lk cv gx rfl (nb' rfl) rfl ZcG (hs2 hn)) ptn<|mw<|sn'<|Zaa<|Zai<|Zaq<|Zai<|Zai<|Zaq<|?_
   refine Zai<|Zae (rsn (rm1 (rr_c gt gx (ld1 Zcq rfl)) (rm1 (rr_t gt) rm0)))<|rtW'<|?_
   rw[hO];exact ZhR
  have hlE:locE ps[i].2=0:=Decidable.of_not_not hc3
  have hlE2:Zcc (ps.take (i+1))=0:=by rw[htk,ZiF hi3];exact hlE
  have hle2 : ∀ c∈ps.take (i+1),c.1≤tMax:=fun c hc=>by rw[htk] at hc;rcases List.mem_append.1 hc with hc | hc;exact hi2 c hc;simp only[List.mem_singleton] at hc;subst hc;simp only[tMax];omega
  refine Zaf<|Zah<|Zap<|wr'<|mw<|Vw (ZaP lk lki)<|mw<|sn'<|?_
  refine cd' lk (fun hc4=>?_) (fun hc4=>?_)
  ·obtain rfl:i=0:=by omega
   have hS:stV (ps.take (0+1))=(ps[0].2,[]):=by rw[htk];rfl
   refine Zav<|mw<|Vw (Zab lk)<|Vw (Zan lk gx Zej rfl)<|Vw (Zbr lk)<|Vw (Zab lk)<|Vw (Zab lk)<|E' (Zak lk cv gx rfl (nb' rfl) rfl Zhm (hs3 hn)) ptn<|Zas<|Zaz<|Zaz<|Zah<|Zav<|?_
   refine V' (Zay lk lki om om) pt ?_
   refine mw<|Zas<|ZaB<|?_
   refine lU' (⟨0+1,v⟩) (by (try dsimp only);exact⟨by omega,hle2,hlE2⟩) (by (try dsimp only);(try simp only[sm',Nat.reduceAdd]);exact bk' 5 hn hlt (by rw[hS];rfl) (hT:=by simp[AV.lt,AV.ltL,Ent.lt]) (hE:=by simp[AV.lt,AV.ltL,Ent.lt]))
  have hnt:ps.take i≠[]:=List.ne_nil_of_length_pos (by rw[List.length_take];omega)
  have hS:=stV_snoc (c:=ps[i]) hnt
  rw[←htk] at hS
  refine Zam<|w_orl<|ZoK [N+5]<|Dw (Zab lk)<|?_
  refine d_ldP lk gx (ld1 Zej rfl) (by simp) pt ?_
  refine Dw (v_mv lk)<|ZbI<|ZnK<|?_
  refine k_call mp (mlast_r (F:=(stV (ps.take i)).1) (l:=(stV (ps.take i)).2) gx gx om) (by intro i hi;simp only[cond_true,List.mem_cons,List.not_mem_nil,or_false] at hi;subst hi;first | rfl | exact (hga hn rfl).trans (hga hn rfl).symm) pt ?_
  refine Zqf rfl (ZlD lk lk Zow) pt<|Zqf rfl (v_mv lk) pt<|ZsX<|Zah<|?_
  refine cd' lk (fun hc5=>?_) (fun hc5=>?_)
  ·have hne5:¬ps[i].2=ZiI (stV (ps.take i)).1 (stV (ps.take i)).2:=fun e=>hc5 (by rw[e];exact⟨rfl,rfl,rfl⟩)
   rw[if_neg hne5] at hS
   refine ZbZ<|Dw (v_mv lk)<|Dw (v_mv lk)<|Dw (Zbr lk)<|Dw (Zab lk)<|Dw (Zab lk)<|Dw (Zac lk gx gt3)<|Dw (Zab lk)<|Dw (Zac lk gx gt0)<|Dw (Zab lk)<|Dw (Zan lk gx Zej rfl)<|Dw (Zau (ZqW cv rfl cv rfl))<|ZmE rfl rfl (hlk hn rfl) (l_lit (ZqV cv rfl)) pt ZtW<|ZbI<|?_
   refine ZnZ ZqU ?_
   refine E' (Zdn (Zcs lk gx rfl ZmU (nb' rfl)) lk gx (ZcD _) om rfl (hs4 hn)) pt ?_
   refine Vw (Zbr lk)<|Vw (Zab lk)<|Vw (Zab lk)<|E' (Zak lk cv gx rfl (nb' rfl) rfl ZqS (hs3 hn)) ptn<|Zas<|Zaz<|Zaz<|Zah<|Zav<|?_
   refine V' (Zay lk lki om om) pt ?_
   refine mw<|Zas<|ZaB<|?_
   refine lU' (⟨i+1,v+1⟩) (by (try dsimp only);exact⟨by omega,hle2,hlE2⟩) (by (try dsimp only);(try simp only[sm',Nat.reduceAdd]);exact bk' 5 hn hlt (by rw[hS,List.length_append,ZaZ,Zbi];rfl) (hT:=by simp[AV.lt,AV.ltL,Ent.lt]) (hE:=by simp[AV.lt,AV.ltL,Ent.lt]))
  have hne5:ps[i].2=ZiI (stV (ps.take i)).1 (stV (ps.take i)).2:=by obtain⟨x1,x2,x3⟩:=Decidable.of_not_not hc5;exact Prod.ext x1 (Prod.ext x2 x3)
  rw[if_pos hne5,List.append_nil] at hS
  refine Zaf<|Zaz<|Zaz<|Zah<|Zav<|?_
  refine V' (Zay lk lki om om) pt ?_
  refine mw<|Zas<|ZaB<|?_
  refine lU' (⟨i+1,v⟩) (by (try dsimp only);exact⟨by omega,hle2,hlE2⟩) (by (try dsimp only);(try simp only[sm',Nat.reduceAdd]);exact bk' 5 hn hlt (by rw[hS];rfl) (hT:=by simp[AV.lt,AV.ltL,Ent.lt]) (hE:=by simp[AV.lt,AV.ltL,Ent.lt]))
 have hP:inP ps=ps.take i:=Zpm hi2 (fun hh=>absurd hh om)
 have hsl:=ZrU (ps.take i)
 rw[List.length_take] at hsl
 refine ZaQ<|ZaD<|ZaD<|Zba<|Zah<|Zam<|wr'<|mw<|Vw (Zbr lk)<|Vw (Zab lk)<|Vw (Zab lk)<|Vw (Zac lk gx gt3)<|Vw (ZcW lk)<|?_
 refine Vw (ZbD lk lki)<|sn'<|?_
 refine cd' lk (fun hc6=>?_) (fun hc6=>?_)
 ·rw[hP,hi3,if_neg (by simp),if_pos om] at hO
  refine wr'<|Vw (Zau Zkj)<|E' (Zak lk cv gx rfl (nb' rfl) rfl ZcG (hs2 hn)) ptn<|mw<|sn'<|Zaa<|Zai<|Zae (rsn (rm1 (rr_c gt gx (ld1 Zcq rfl)) (rm1 (rr_t gt) rm0)))<|rtW'<|?_
  rw[hO];exact ZhR
 rw[hP,hi3,if_neg (by simp),if_neg om] at hO
 refine Zaf ?_
 refine Za5 (ALe.iceCellR gx gx om gt3 (List.take_of_length_le (by rw[ZcD];exact Nat.le_refl _)) (by rw[ZcD];exact Nat.le_refl _) pt3 (hs4 hn) (hs3 hn)) ?_
 refine wr'<|mw<|Vw (Zbr lk)<|Vw (Zab lk)<|Vw (Zan lk gx Zcq rfl)<|E' (Zak lk cv gx rfl (nb' rfl) rfl ZcG (hs2 hn)) ptn<|mw<|sn'<|Zaa<|Zae (rsn (rm1 (rr_c gt gx (ld1 Zcq rfl)) (rm1 (rr_t gt) rm0)))<|rtW'<|?_
 rw[hO];exact Wk.tup (wkw (Wk.agg (wk1 rfl (wk1 rfl (wk1 rfl (wkw Wk.full wk0))))) (wk1 rfl wk0))
theorem comp_a {a:List Rul}{z:List Zon}{k:List Lnk}{nm:ByteArray}{h:AH}(hok:Zgq (a,z,k)) :
  Ac 24 [.agg (srcB a z k),sv nm] h (.tup [tabA (Zn5 (a,z,k) nm).1,iv (Zn5 (a,z,k) nm).2]):=by
 refine tW' k24 fun N hn hlt hlA hbd=>?_
 simp only[tb'] at hbd ⊢
 refine wr'<|E' (Zbd cv rfl (hl0 hn) ha0) pt<|E' (ZaV (hl1 hn) ha1) pt<|mw<|sn'<|wr'<|Vw (Zan lk gx ZdA rfl)<|mw<|Zad mp (zfind_a hok) pt<|mw<|Vw (ZaN lk gt)<|?_
 refine Vw (ZaN lk gt)<|E' (ZaV (hl2 hn) ha2) pt<|E' (Zak lk cv gx rfl (nb' rfl) rfl ZqT (hs2 hn)) ptn<|mw<|sn'<|Zam<|wr'<|mw<|Vw (ZaT lk lki)<|sn'<|?_
 refine cd' lk (fun hc1=>?_) (fun hc1=>?_)
 ·have hF:Zn5 (a,z,k) nm=(noTab,(ZcM (a,z,k) nm).2):=if_pos hc1
  refine wr'<|Vw (Zau Zi3)<|mw<|E' (Zak lk cv gx rfl (nb' rfl) rfl ZcG (hs1 hn)) ptn<|mw<|sn'<|Zaa<|Zai<|Zae (rsn (rm1 (rr_c gt gx (ld1 Zcq rfl)) (rm1 (rr_t gt) rm0)))<|rtW'<|?_
  rw[hF];exact ZhR
 have hf0:(ZcM (a,z,k) nm).2=0:=Decidable.of_not_not hc1
 obtain⟨hz0,hm,_⟩:=Ztb hf0
 have hE:=Zlc hz0
 have hal:=(Zed hE).1
 simp only at hal
 obtain⟨⟨pl,hpl⟩,_⟩:=Zo4 hz0 hm tMin
 have hne:inP (Za1 a tMin none (ZcM (a,z,k) nm).1.2)≠[]:=by rw[show Za1 a tMin none (ZcM (a,z,k) nm).1.2=_ from hpl];unfold inP;rw[List.takeWhile_cons,if_pos (decide_eq_true (by show tMin≤tMax;decide))];simp
 have hF:Zn5 (a,z,k) nm=ofP a (ZcM (a,z,k) nm).1.2:=by unfold Zn5;rw[if_neg hc1];unfold ofV ofP;rw[←ZlR hz0 hm]
 refine Zaf<|Zah<|wr'<|Vw (Zan lk gx ZdA rfl)<|Vw (Zan lk gx Zki rfl)<|?_
 refine Zad mp (tof_a (Zsw hok) om (Zhf hE hm) hne) pt ?_
 refine Vw (ZaN lk gt)<|Vw (ZaN lk gt)<|E' (Zak lk cv gx rfl (nb' rfl) rfl ZcG (hs1 hn)) ptn<|mw<|sn'<|Zaa<|Zae (rsn (rm1 (rr_c gt gx (ld1 Zcq rfl)) (rm1 (rr_t gt) rm0)))<|rtW'<|?_
 rw[hF];exact Wk.refl _
end Go.Proofs.YtlekejpogddndaaGreatDoor
end
section
namespace Go.Proofs.YtlekejpogddndaaGreatDoor
open Go.Ab Go.RowKit Civ
attribute [local simp] Zbj Zby Zbs Zbv Zb3 Zdd Zd5 ZbU
section
theorem Zoy {a0 a1 a2 a3 c0 c1 c2 c3:AV}{l:List AV}:setCells (a0::a1::a2::a3::l) 0 [c0,c1,c2,c3]=c0::c1::c2::c3::l:=rfl
theorem Zi4 {a0 a1 a2 c0 c1 c2:AV}{l:List AV}:setCells (a0::a1::a2::l) 0 [c0,c1,c2]=c0::c1::c2::l:=rfl
theorem Zox {a0 a1 a2 a3:AV}{l:List AV}:((a0::a1::a2::a3::l).drop 0).take 4=[a0,a1,a2,a3]:=rfl
theorem ZeG {a0 a1 a2:AV}{l:List AV}:((a0::a1::a2::l).drop 0).take 3=[a0,a1,a2]:=rfl
theorem Zf0 {τ:Operand→AV}{y0 y1:Operand}{x0_0 x1_0:AV}(h0:Zat (τ y0)=some [x0_0]) (l0:[x0_0].all leaf=true) (h1:Zat (τ y1)=some [x1_0]) (l1:[x1_0].all leaf=true):Zar τ [(0,1,y0),(2,1,y1)] [(.v (.int .i64 0)),(.v (.int .i64 0)),(.v (.string ⟨#[]⟩))]=some [x0_0,(.v (.int .i64 0)),x1_0]:=by
 simp only[Zar,h0,l0,h1,l1]
 rfl
theorem Zfc {a0 b0:Int}{a1 b1:Int}{a2 b2:ByteArray}:Zbn [.int,.int,.str] [iv a0,iv a1,sv a2] [iv b0,iv b1,sv b2]=some (decide (a0=b0∧a1=b1∧a2=b2)):=by
 simp only[Zbn,ZdY,if_true,ZcV,Option.some.injEq]
 simp only[Bool.decide_and,Bool.and_true]
 try (congr 1 <;> simp)
 try rfl
theorem ZqY {a0 a1 a2:AV}{l:List AV}:(a0::a1::a2::l).take 3=[a0,a1,a2]:=rfl
end
def c22:AC:=(Sr [Mb 0 false] (Sr [Cl 8 63 [],Oo 9 (.call (.func 24) [(.tmp 8),(.const (.string ⟨#[79,108,100]⟩))]),Mv 7 9,Ex 10 7 0,Ex 11 7 1,Oo 1 (.new 40 4 [(iv 0),(iv 0),Ss,(.sl 0 0 true [])]),⟨none,none,(.store 4 (.tmp 1) (.tmp 10))⟩,Mv 2 11] (Sr [Cl 13 76 [],Cl 14 17 [(.tmp 13),(Ci 100)],Mv 12 14,Ex 15 12 0,Ex 16 12 1,Oo 3 (.new 29 3 [(iv 0),(iv 0),Ss]),⟨none,none,(.store 3 (.tmp 3) (.tmp 15))⟩,Mv 4 16] (Sr [Cl 18 76 [],Cl 19 17 [(.tmp 18),(Ci 99)],Mv 17 19,Ex 20 17 0,Ex 21 17 1,Oo 5 (.new 29 3 [(iv 0),(iv 0),Ss]),⟨none,none,(.store 3 (.tmp 5) (.tmp 20))⟩,Mv 6 21] (Sd [Mv 22 2,Bc 23 .eql 22 0,Mv 24 23,Ot 25 24 (mt 4),Ot 26 24 (.bin .eql (.tmp 25) (Ci 0)),Oo 27 (.pick (.tmp 24) (.tmp 26) (.const (.bool false))),Mv 28 27,Ot 29 28 (mt 6),Ot 30 28 (.bin .eql (.tmp 29) (Ci 0)),Oo 31 (.pick (.tmp 28) (.tmp 30) (.const (.bool false))),Mv 32 31,Ot 33 32 (.load true 4 (.tmp 1)),Ot 34 32 (.call (.func 23) [(.tmp 33)]),Ot 35 32 (.bin .eql (.tmp 34) (Ci 0)),Oo 36 (.pick (.tmp 32) (.tmp 35) (.const (.bool false))),Mv 37 36,Ot 38 37 (.fa 0 (.tmp 1)),Ot 39 37 (.load true 3 (.tmp 38)),Ot 40 37 (.build [(iv 0),(iv 0),Ss] [(0,(1,(Ci 600))),(2,(1,(.const (.string ⟨#[76,77,84]⟩))))]),Ot 41 37 (.eqs false [.int,.int,.str] (.tmp 39) (.tmp 40)),Oo 42 (.pick (.tmp 37) (.tmp 41) (.const (.bool false))),Mv 43 42,Ot 44 43 (.fa 3 (.tmp 1)),Ot 45 43 (.load false 1 (.tmp 44)),Ot 46 43 (.len false (.tmp 45)),Ot 47 43 (.bin .eql (.tmp 46) (Ci 211)),Oo 48 (.pick (.tmp 43) (.tmp 47) (.const (.bool false))),Mv 49 48,Ot 50 49 (.load true 3 (.tmp 3)),Ot 51 49 (.call (.func 76) []),Ot 52 49 (.fld false 3 1 (.tmp 51)),Ot 53 49 (.ia 4 (.tmp 52) (Ci 0)),Ot 54 49 (.fa 1 (.tmp 53)),Ot 55 49 (.load true 3 (.tmp 54)),Ot 56 49 (.eqs false [.int,.int,.str] (.tmp 50) (.tmp 55)),Oo 57 (.pick (.tmp 49) (.tmp 56) (.const (.bool false))),Mv 58 57,Ot 59 58 (.load true 3 (.tmp 5)),Ot 60 58 (.call (.func 76) []),Ot 61 58 (.fld true 0 3 (.tmp 60)),Ot 62 58 (.eqs false [.int,.int,.str] (.tmp 59) (.tmp 61)),Oo 63 (.pick (.tmp 58) (.tmp 62) (.const (.bool false))),Mv 0 63] .ret)))))
theorem k22:ZaA Tryz.prog 22=some ⟨c22,[(.tmp 0)],64⟩:=by kernel_rfl
theorem okT_chk0 {t:Tab}(h:Za9 t=0):okT t:=by
 obtain⟨_,h2,h3⟩:=Zdy h
 have e:=Ze1 h2
 refine⟨by simp only[maxLen];omega,fun x hx=>?_⟩
 have:=Ze1 (h3 x hx).2
 simp only[maxLen];omega
def lkL (t:Tab) (n:Int):Loc:=if Za9 t=0∧Zda n=true then Zbu t n else (0,0,⟨#[]⟩)
def lkE (t:Tab) (n:Int):Int:=if Za9 t≠0 then Za9 t else if Zda n=true then 0 else 3
theorem lk_in {t:Tab}{n:Int}(h:Za9 t=0) (hn:Zda n=true):lkL t n=Zbu t n∧lkE t n=0:=⟨if_pos ⟨h,hn⟩,by unfold lkE;rw[if_neg (by simpa using h),if_pos hn]⟩
theorem Zib {t:Tab}{n:Int}{full:Bool}{h:AH}(ht:okT t):Ac 17 [.agg [iv t.1.1,iv t.1.2.1,sv t.1.2.2,.sl t.2.length 4 full (rows chgC t.2)],iv n] h (.tup [.agg (locC (lkL t n)),iv (lkE t n)]):=ZrJ ht
theorem tl1 {h:AH}:Ac 17 [tabA ZbV,iv 100] h (.tup [.agg (locC (7200,3600,⟨#[66]⟩)),iv 0]):=by
 have:=Zib (t:=ZbV) (n:=100) (full:=false) (h:=h) Zgo
 obtain⟨e1,e2⟩:=lk_in Zka (show Zda 100=true from by decide)
 rw[e1,e2,ZlK] at this
 exact this
theorem tl2 {h:AH}:Ac 17 [tabA ZbV,iv 99] h (.tup [.agg (locC (3600,0,⟨#[65]⟩)),iv 0]):=by
 have:=Zib (t:=ZbV) (n:=99) (full:=false) (h:=h) Zgo
 obtain⟨e1,e2⟩:=lk_in Zka (show Zda 99=true from by decide)
 rw[e1,e2,ZlJ] at this
 exact this
theorem tcomp0 {h:AH}:Ac 24 [.agg (srcC src0),sv nOld] h (.tup [tabA tab0,iv 0]):=by
 have:=comp_a (a:=src0.1) (z:=src0.2.1) (k:=src0.2.2) (nm:=nOld) (h:=h) src0_ok
 rw[show (src0.1,src0.2.1,src0.2.2)=src0 from rfl,comp0] at this
 exact this
theorem tchk0 {h:AH}:Ac 23 [tabA tab0] h (iv 0):=by
 have ho:=okT_chk0 chkT0
 have:=Zn9 (a:=tab0.1.1) (b:=tab0.1.2.1) (c:=tab0.1.2.2) (l:=tab0.2) (full:=false) (h:=h) ho.1 ho.2
 rw[show Za9 ((tab0.1.1,tab0.1.2.1,tab0.1.2.2),tab0.2)=0 from chkT0] at this
 exact this
theorem tbegun_a {h:AH}:Ac 22 [] h (bv true):=by
 refine tI' k22 fun N hn hlt hlA hbd=>?_
 simp only[tb'] at hbd ⊢
 refine wr'<|mw<|sn'<|wr'<|Zad mp0 (parsed_a) pt<|Zad mp (tcomp0) pt<|mw<|Vw (ZaN lk gt)<|Vw (ZaN lk gt)<|E' (ZaV (hl0 hn) ha0) pt<|E' (Zak lk cv gx rfl (nb' rfl) rfl Zoy (hs0 hn)) ptn<|?_
 refine mw<|sn'<|wr'<|Zad mp0 (ZeW) pt<|Zad mp (tl1) pt<|mw<|Vw (ZaN lk gt)<|Vw (ZaN lk gt)<|E' (ZaV (hl1 hn) ha1) pt<|E' (Zak lk cv gx rfl (nb' rfl) rfl Zi4 (hs1 hn)) ptn<|mw<|Zas<|?_
 refine Zah<|wr'<|Zad mp0 (ZeW) pt<|Zad mp (tl2) pt<|mw<|Vw (ZaN lk gt)<|Vw (ZaN lk gt)<|E' (ZaV (hl2 hn) ha2) pt<|E' (Zak lk cv gx rfl (nb' rfl) rfl Zi4 (hs2 hn)) ptn<|mw<|sn'<|Zam<|?_
 refine ZbZ<|Dw (v_mv lk)<|Dw (ZaP lk lki)<|Dw (v_mv lk)<|?_
 refine ZfV (t:=24) gt (b:=true) (by rfl) pt ?_
 refine d_do gt<|Dw (v_mv lk)<|d_do gt<|Dw (ZaP lk lki)<|Dw (Zag lk lk)<|Dw (v_mv lk)<|?_
 refine ZfV (t:=28) gt (b:=true) (by rfl) pt ?_
 refine d_do gt<|Dw (v_mv lk)<|d_do gt<|Dw (ZaP lk lki)<|Dw (Zag lk lk)<|Dw (v_mv lk)<|?_
 refine ZfV (t:=32) gt (b:=true) (by rfl) pt ?_
 refine d_do gt<|Dw (Zan lk gx Zox rfl)<|d_do gt<|?_
 refine ZaY mp (fun hE hX=>tchk0) pt ?_
 refine d_do gt<|Dw (ZaP lk lki)<|Dw (Zag lk lk)<|Dw (v_mv lk)<|?_
 refine ZfV (t:=37) gt (b:=true) (by rfl) pt ?_
 refine d_do gt<|Dw (Zab lk)<|d_do gt<|Dw (Zan lk gx ZeG rfl)<|d_do gt<|Dw (Zau (Zf0 (cvl lki rfl) rfl (cvl lks rfl) rfl))<|d_do gt<|Dw (Zf9 lk lk Zfc)<|Dw (Zag lk lk)<|Dw (v_mv lk)<|?_
 refine ZfV (t:=43) gt (b:=true) (by exact decide_eq_true (by rw[ZpT];exact⟨rfl,rfl,rfl⟩)) pt ?_
 refine d_do gt<|Dw (Zab lk)<|d_do gt<|Dw (Zac lk gx gt3)<|d_do gt<|Dw (ZaL lk)<|d_do gt<|Dw (ZaP lk lki)<|Dw (Zag lk lk)<|Dw (v_mv lk)<|?_
 refine ZfV (t:=49) gt (b:=true) (by exact decide_eq_true (by rw[ZoY];rfl)) pt ?_
 refine d_do gt<|Dw (Zan lk gx ZeG rfl)<|d_do gt<|?_
 refine ZaY mp0 (fun hE hX=>ZeW) pt ?_
 refine d_do gt<|Dw (v_fld lk gt)<|d_do gt<|?_
 refine D' (Za0 (k:=0) lk lki Zcb (nb' rfl) (by first | rfl | first | omega | decide) (by first | omega | decide) ro rfl) pt ?_
 refine d_do gt<|Dw (ZbM lk dp1)<|d_do gt<|Dw (ZaI lk ZqY rfl)<|d_do gt<|Dw (Zf9 lk lk Zfc)<|Dw (Zag lk lk)<|Dw (v_mv lk)<|?_
 refine ZfV (t:=58) gt (b:=true) (by rfl) pt ?_
 refine d_do gt<|Dw (Zan lk gx ZeG rfl)<|d_do gt<|?_
 refine ZaY mp0 (fun hE hX=>ZeW) pt ?_
 refine d_do gt<|Dw (v_fldA lk ZeG rfl)<|d_do gt<|Dw (Zf9 lk lk Zfc)<|Dw (Zag lk lk)<|Dw (v_mv lk)<|ZbI<|?_
 refine Zch ?_
 exact sn'<|Zaa<|Zae rz<|rT' rfl
end Go.Proofs.YtlekejpogddndaaGreatDoor
end
section
namespace Go.Proofs.YtlekejpogddndaaGreatDoor.localOrder
open Go.Ab Go.RowKit Civ
attribute [local simp] Zb3
section
theorem Zho {τ:Operand→AV}{y0 y1 y2:Operand}{x0_0 x1_0 x2_0:AV}(h0:Zat (τ y0)=some [x0_0]) (l0:[x0_0].all leaf=true) (h1:Zat (τ y1)=some [x1_0]) (l1:[x1_0].all leaf=true) (h2:Zat (τ y2)=some [x2_0]) (l2:[x2_0].all leaf=true):Zar τ [(0,1,y0),(1,1,y1),(2,1,y2)] [(.v (.int .i64 0)),(.v (.int .i64 0)),(.v (.int .i64 0))]=some [x0_0,x1_0,x2_0]:=by
 simp only[Zar,h0,l0,h1,l1,h2,l2]
 rfl
theorem Zc7 {a0 a1 a2 c0 c1 c2:AV}{l:List AV}:setCells (a0::a1::a2::l) 0 [c0,c1,c2]=c0::c1::c2::l:=rfl
theorem ZgS {τ:Operand→AV}{y0:Operand}{x0_0:AV}(h0:Zat (τ y0)=some [x0_0]) (l0:[x0_0].all leaf=true):Zar τ [(0,1,y0)] [(.v (.int .i64 0)),(.v (.int .i64 0)),(.v (.int .i64 0))]=some [x0_0,(.v (.int .i64 0)),(.v (.int .i64 0))]:=by
 simp only[Zar,h0,l0]
 rfl
theorem Zem {a0 a1 a2:AV}{l:List AV}:((a0::a1::a2::l).drop 0).take 3=[a0,a1,a2]:=rfl
theorem ZgR {τ:Operand→AV}{y0 y1 y2:Operand}{x0_0 x1_0 x2_0:AV}(h0:Zat (τ y0)=some [x0_0]) (l0:[x0_0].all leaf=true) (h1:Zat (τ y1)=some [x1_0]) (l1:[x1_0].all leaf=true) (h2:Zat (τ y2)=some [x2_0]) (l2:[x2_0].all leaf=true):Zar τ [(0,1,y0),(1,1,y1),(2,1,y2)] [(.v (.int .i64 0)),(.v (.int .i64 0)),(.v (.int .i64 0))]=some [x0_0,x1_0,x2_0]:=by
 simp only[Zar,h0,l0,h1,l1,h2,l2]
 rfl
theorem Zf3 {a0 b0:Int}{a1 b1:Int}{a2 b2:Int}:Zbn [.int,.int,.int] [iv a0,iv a1,iv a2] [iv b0,iv b1,iv b2]=some (decide (a0=b0∧a1=b1∧a2=b2)):=by
 simp only[Zbn,ZdY,if_true,ZcV,Option.some.injEq]
 simp only[Bool.decide_and,Bool.and_true]
 try (congr 1 <;> simp)
 try rfl
theorem ZgQ {τ:Operand→AV}{y0 y1 y2:Operand}{x0_0 x1_0 x2_0:AV}(h0:Zat (τ y0)=some [x0_0]) (l0:[x0_0].all leaf=true) (h1:Zat (τ y1)=some [x1_0]) (l1:[x1_0].all leaf=true) (h2:Zat (τ y2)=some [x2_0]) (l2:[x2_0].all leaf=true):Zar τ [(0,1,y0),(1,1,y1),(2,1,y2)] [(.v (.int .i64 0)),(.v (.int .i64 0)),(.v (.int .i64 0))]=some [x0_0,x1_0,x2_0]:=by
 simp only[Zar,h0,l0,h1,l1,h2,l2]
 rfl
theorem Zel {a0 a1 a2 a3:AV}{l:List AV}:((a0::a1::a2::a3::l).drop 0).take 4=[a0,a1,a2,a3]:=rfl
theorem Zf4 {τ:Operand→AV}:Zar τ [] [(.v (.int .i64 0)),(.v (.int .i64 0)),(.v (.int .i64 0))]=some [(.v (.int .i64 0)),(.v (.int .i64 0)),(.v (.int .i64 0))]:=rfl
end
def c33:AC:=(Sr [Mb 0 false] (Sr [Oo 8 (.build [(iv 0),(iv 0),(iv 0)] [(0,(1,(Ci 2000))),(1,(1,(Ci 2))),(2,(1,(Ci 29)))]),Cl 9 35 [(.tmp 8)],Mv 7 9,Ex 10 7 0,Ex 11 7 1,Mv 1 10,Mv 2 11] (Sr [Mv 13 1,Cl 14 93 [(.tmp 13)],Mv 12 14,Ex 15 12 0,Ex 16 12 1,Oo 3 (.new 59 3 [(iv 0),(iv 0),(iv 0)]),⟨none,none,(.store 3 (.tmp 3) (.tmp 15))⟩,Mv 4 16] (Sr [Oo 18 (.build [(iv 0),(iv 0),(iv 0)] [(0,(1,(Ci 2)))]),Cl 19 94 [(Ci 2020),(Ci 3),(.tmp 18)],Mv 17 19,Ex 20 17 0,Ex 21 17 1,Oo 5 (.new 59 3 [(iv 0),(iv 0),(iv 0)]),⟨none,none,(.store 3 (.tmp 5) (.tmp 20))⟩,Mv 6 21] (Sr [Mv 22 2,Bc 23 .eql 22 0,Mv 24 23,Ot 25 24 (mt 4),Ot 26 24 (.bin .eql (.tmp 25) (Ci 0)),Oo 27 (.pick (.tmp 24) (.tmp 26) (.const (.bool false))),Mv 28 27,Ot 29 28 (mt 6),Ot 30 28 (.bin .eql (.tmp 29) (Ci 0)),Oo 31 (.pick (.tmp 28) (.tmp 30) (.const (.bool false))),Mv 32 31,Ot 33 32 (mt 1),Ot 34 32 (.bin .eql (.tmp 33) (Ci 11016)),Oo 35 (.pick (.tmp 32) (.tmp 34) (.const (.bool false))),Mv 36 35,Ot 37 36 (.load true 3 (.tmp 3)),Ot 38 36 (.build [(iv 0),(iv 0),(iv 0)] [(0,(1,(Ci 2000))),(1,(1,(Ci 2))),(2,(1,(Ci 29)))]),Ot 39 36 (.eqs false [.int,.int,.int] (.tmp 37) (.tmp 38)),Oo 40 (.pick (.tmp 36) (.tmp 39) (.const (.bool false))),Mv 41 40,Ot 42 41 (mt 1),Ot 43 41 (.call (.func 95) [(.tmp 42)]),Ot 44 41 (.bin .eql (.tmp 43) (Ci 2)),Oo 45 (.pick (.tmp 41) (.tmp 44) (.const (.bool false))),Mv 46 45,Ot 47 46 (.load true 3 (.tmp 5)),Ot 48 46 (.build [(iv 0),(iv 0),(iv 0)] [(0,(1,(Ci 2020))),(1,(1,(Ci 3))),(2,(1,(Ci 29)))]),Ot 49 46 (.eqs false [.int,.int,.int] (.tmp 47) (.tmp 48)),Oo 50 (.pick (.tmp 46) (.tmp 49) (.const (.bool false))),Mv 0 50] .ret)))))
theorem k33:ZaA Tryz.prog 33=some ⟨c33,[(.tmp 0)],51⟩:=by kernel_rfl
def c8:AC:=(Sr [Oo 3 (.box 40 4 (.tmp 0)),Mb 6 false] (.seq (Sr [Cl 21 32 [],Oo 22 (.un .not (.tmp 21)),Mv 23 22,Of 24 23 (.call (.func 22) []),Of 25 23 (.un .not (.tmp 24)),Oo 26 (.pick (.tmp 23) (.const (.bool true)) (.tmp 25)),Mv 27 26,Of 28 27 (.call (.func 33) []),Of 29 27 (.un .not (.tmp 28)),Oo 30 (.pick (.tmp 27) (.const (.bool true)) (.tmp 29))] (Cd 30 (Sr [Mb 6 false] .ret) .skip)) (.seq (Sr [Mv 31 2,Bc 32 .lss 31 0,Mv 33 32,Of 34 33 (mt 2),Of 35 33 (.bin .gtr (.tmp 34) (Ci 864000)),Oo 36 (.pick (.tmp 33) (.const (.bool true)) (.tmp 35))] (Cd 36 (Sr [Mb 6 true] .ret) .skip)) (Sr [Oo 38 (.load true 4 (.tmp 3)),Mv 39 1,Cl 40 17 [(.tmp 38),(.tmp 39)],Mv 37 40,Ex 41 37 0,Ex 42 37 1,Oo 7 (.new 29 3 [(iv 0),(iv 0),Ss]),⟨none,none,(.store 3 (.tmp 7) (.tmp 41))⟩,Mv 8 42] (Sr [Oo 44 (.load true 4 (.tmp 3)),Mv 45 1,Mv 46 2,Bn 47 .add 45 46,Cl 48 17 [(.tmp 44),(.tmp 47)],Mv 43 48,Ex 49 43 0,Ex 50 43 1,Oo 9 (.new 29 3 [(iv 0),(iv 0),Ss]),⟨none,none,(.store 3 (.tmp 9) (.tmp 49))⟩,Mv 10 50] (Sr [Oo 52 (.load true 4 (.tmp 3)),Mv 53 1,Mv 54 2,Bc 55 .quo 54 2,Bn 56 .add 53 55,Cl 57 17 [(.tmp 52),(.tmp 56)],Mv 51 57,Ex 58 51 0,Ex 59 51 1,Oo 11 (.new 29 3 [(iv 0),(iv 0),Ss]),⟨none,none,(.store 3 (.tmp 11) (.tmp 58))⟩,Mv 12 59] (Sr [Oo 61 (.load true 4 (.tmp 3)),Mv 62 1,Cl 63 34 [(.tmp 61),(.tmp 62)],Mv 60 63,Ex 64 60 0,Ex 65 60 1,Ex 66 60 2,Oo 13 (.new 59 3 [(iv 0),(iv 0),(iv 0)]),⟨none,none,(.store 3 (.tmp 13) (.tmp 64))⟩,Mv 14 65,Mv 15 66] (Sr [Oo 68 (.load true 4 (.tmp 3)),Mv 69 1,Mv 70 2,Bn 71 .add 69 70,Cl 72 34 [(.tmp 68),(.tmp 71)],Mv 67 72,Ex 73 67 0,Ex 74 67 1,Ex 75 67 2,Oo 16 (.new 59 3 [(iv 0),(iv 0),(iv 0)]),⟨none,none,(.store 3 (.tmp 16) (.tmp 73))⟩,Mv 17 74,Mv 18 75] (.seq (Sr [Mv 76 8,Bc 77 .neq 76 0,Mv 78 77,Of 79 78 (mt 10),Of 80 78 (.bin .neq (.tmp 79) (Ci 0)),Oo 81 (.pick (.tmp 78) (.const (.bool true)) (.tmp 80)),Mv 82 81,Of 83 82 (mt 12),Of 84 82 (.bin .neq (.tmp 83) (Ci 0)),Oo 85 (.pick (.tmp 82) (.const (.bool true)) (.tmp 84)),Mv 86 85,Of 87 86 (mt 15),Of 88 86 (.bin .neq (.tmp 87) (Ci 0)),Oo 89 (.pick (.tmp 86) (.const (.bool true)) (.tmp 88)),Mv 90 89,Of 91 90 (mt 18),Of 92 90 (.bin .neq (.tmp 91) (Ci 0)),Oo 93 (.pick (.tmp 90) (.const (.bool true)) (.tmp 92)),Mv 94 93,Of 95 94 (.fa 0 (.tmp 7)),Of 96 94 (.load false 1 (.tmp 95)),Of 97 94 (.fa 0 (.tmp 9)),Of 98 94 (.load false 1 (.tmp 97)),Of 99 94 (.bin .neq (.tmp 96) (.tmp 98)),Oo 100 (.pick (.tmp 94) (.const (.bool true)) (.tmp 99))] (Cd 100 (Sr [Mv 101 8,Bc 102 .eql 101 0,Mv 103 102,Of 104 103 (.load true 3 (.tmp 13)),Of 105 103 (.build [(iv 0),(iv 0),(iv 0)] []),Of 106 103 (.eqs false [.int,.int,.int] (.tmp 104) (.tmp 105)),Oo 107 (.pick (.tmp 103) (.const (.bool true)) (.tmp 106)),Mv 6 107] .ret) .skip)) (Sr [Oo 109 (.load true 3 (.tmp 13)),Cl 110 35 [(.tmp 109)],Mv 108 110,Ex 111 108 0,Ex 112 108 1,Mv 19 111,Mv 8 112] (Sr [Oo 114 (.load true 3 (.tmp 16)),Cl 115 35 [(.tmp 114)],Mv 113 115,Ex 116 113 0,Ex 117 113 1,Mv 20 116,Mv 10 117] (Sr [Mv 118 8,Bc 119 .eql 118 0,Mv 120 119,Ot 121 120 (mt 10),Ot 122 120 (.bin .eql (.tmp 121) (Ci 0)),Oo 123 (.pick (.tmp 120) (.tmp 122) (.const (.bool false))),Mv 124 123,Ot 125 124 (mt 20),Ot 126 124 (mt 19),Ot 127 124 (.bin .sub (.tmp 125) (.tmp 126)),Ot 128 124 (.bin .mul (.tmp 127) (Ci 86400)),Ot 129 124 (mt 17),Ot 130 124 (.bin .add (.tmp 128) (.tmp 129)),Ot 131 124 (mt 14),Ot 132 124 (.bin .sub (.tmp 130) (.tmp 131)),Ot 133 124 (mt 2),Ot 134 124 (.bin .eql (.tmp 132) (.tmp 133)),Oo 135 (.pick (.tmp 124) (.tmp 134) (.const (.bool false))),Mv 136 135,Ot 137 136 (.fa 2 (.tmp 11)),Ot 138 136 (.load false 1 (.tmp 137)),Ot 139 136 (.bin .neq (.tmp 138) (.const (.string ⟨#[]⟩))),Oo 140 (.pick (.tmp 136) (.tmp 139) (.const (.bool false))),Mv 6 140] .ret))))))))))))
theorem k8:ZaA Tryz.prog 8=some ⟨c8,[(.tmp 6)],141⟩:=by kernel_rfl
theorem cd0 {h:AH}:Ac 35 [.agg [iv 2000,iv 2,iv 29]] h (.tup [iv 11016,iv 0]):=by
 have:=Zpv (y:=2000) (m:=2) (d:=29) (h:=h)
 rwa [show (if Za2 2000 2 29 then num 2000 2 29 else 0)=11016 from by kernel_rfl,show (if Za2 2000 2 29 then (0:Int) else 3)=0 from by kernel_rfl] at this
theorem cd1 {h:AH}:Ac 93 [iv 11016] h (.tup [Zn2 (2000,2,29),iv 0]):=by
 have:=of_a (n:=11016) (h:=h)
 rwa [show (if (-719162:Int)≤11016∧(11016:Int)≤2932896 then Zbl 11016 else (0,0,0))=(2000,2,29) from by kernel_rfl,show (if (-719162:Int)≤11016∧(11016:Int)≤2932896 then (0:Int) else 3)=0 from by kernel_rfl] at this
theorem cd2 {h:AH}:Ac 94 [iv 2020,iv 3,.agg [iv 2,iv 0,iv 0]] h (.tup [.agg [iv 2020,iv 3,iv 29],iv 0]):=by
 have:=on_a (y:=2020) (m:=3) (k:=2) (wk:=0) (n:=0) (h:=h)
 rwa [show onV 2020 3 2 0 0=((2020,3,29),0) from by kernel_rfl] at this
theorem cd3 {h:AH}:Ac 95 [iv 11016] h (iv 2):=by
 have:=Zh4 (n:=11016) (h:=h)
 rwa [show wd 11016=2 from by kernel_rfl] at this
theorem cbegun_a {h:AH}:Ac 33 [] h (bv true):=by
 refine tI' k33 fun N hn hlt hlA hbd=>?_
 simp only[tb'] at hbd ⊢
 refine wr'<|mw<|sn'<|wr'<|Vw (Zau (Zho (cvl lki rfl) rfl (cvl lki rfl) rfl (cvl lki rfl) rfl))<|Zad mp (cd0) pt<|mw<|Vw (ZaN lk gt)<|Vw (ZaN lk gt)<|mw<|mw<|?_
 refine sn'<|wr'<|mw<|Zad mp (cd1) pt<|mw<|Vw (ZaN lk gt)<|Vw (ZaN lk gt)<|E' (ZaV (hl0 hn) ha0) pt<|E' (Zak lk cv gx rfl (nb' rfl) rfl Zc7 (hs0 hn)) ptn<|mw<|sn'<|?_
 refine wr'<|Vw (Zau (ZgS (cvl lki rfl) rfl))<|Zad mp (cd2) pt<|mw<|Vw (ZaN lk gt)<|Vw (ZaN lk gt)<|E' (ZaV (hl1 hn) ha1) pt<|E' (Zak lk cv gx rfl (nb' rfl) rfl Zc7 (hs1 hn)) ptn<|mw<|sn'<|wr'<|?_
 refine mw<|Vw (ZaP lk lki)<|mw<|?_
 refine ZbF (t:=24) gt (b:=true) (by rfl) pt ?_
 refine s_do gt<|mw<|s_do gt<|Vw (ZaP lk lki)<|Vw (Zag lk lk)<|mw<|?_
 refine ZbF (t:=28) gt (b:=true) (by rfl) pt ?_
 refine s_do gt<|mw<|s_do gt<|Vw (ZaP lk lki)<|Vw (Zag lk lk)<|mw<|?_
 refine ZbF (t:=32) gt (b:=true) (by rfl) pt ?_
 refine s_do gt<|mw<|s_do gt<|Vw (ZaP lk lki)<|Vw (Zag lk lk)<|mw<|?_
 refine ZbF (t:=36) gt (b:=true) (by rfl) pt ?_
 refine s_do gt<|Vw (Zan lk gx Zem rfl)<|s_do gt<|Vw (Zau (ZgR (cvl lki rfl) rfl (cvl lki rfl) rfl (cvl lki rfl) rfl))<|s_do gt<|Vw (Zf9 lk lk Zf3)<|Vw (Zag lk lk)<|mw<|?_
 refine ZbF (t:=41) gt (b:=true) (by rfl) pt ?_
 refine s_do gt<|mw<|s_do gt<|Zad mp (cd3) pt<|s_do gt<|Vw (ZaP lk lki)<|Vw (Zag lk lk)<|mw<|?_
 refine ZbF (t:=46) gt (b:=true) (by rfl) pt ?_
 exact s_do gt<|Vw (Zan lk (hga hn rfl) Zem rfl)<|s_do gt<|Vw (Zau (ZgQ (cvl lki rfl) rfl (cvl lki rfl) rfl (cvl lki rfl) rfl))<|s_do gt<|Vw (Zf9 lk lk Zf3)<|Vw (Zag lk lk)<|mw<|sn'<|Zaa<|Zae rz<|rT' rfl
theorem Zto {k:Int}{h:AH}(h1 : -719162≤k) (h2:k≤2932896):Ac 35 [.agg [iv (Zbl k).1,iv (Zbl k).2.1,iv (Zbl k).2.2]] h (.tup [iv k,iv 0]):=by
 obtain⟨e1,e2⟩:=ZfU (days:=k) om om
 have:=Zpv (y:=(Zbl k).1) (m:=(Zbl k).2.1) (d:=(Zbl k).2.2) (h:=h)
 rwa [if_pos e1,if_pos e1,e2] at this
theorem Zry {t:Tab}{n:Int}(h1:lkE t n=0) (h2:ZpM t n=0):(-719162≤(n+(Zbu t n).1)/86400∧(n+(Zbu t n).1)/86400≤2932896)∧Znc t n=Zbl ((n+(Zbu t n).1)/86400)∧ZpL t n=(n+(Zbu t n).1)%86400:=by
 have hE:Zjq t n=0:=h1
 have h3:shE (n+(Zbu t n).1)=0:=by unfold ZpM at h2;rwa [if_pos hE] at h2
 have h4:inD ((n+(Zbu t n).1)/86400):=by
  unfold shE at h3
  split at h3
  ·rename_i hh;exact hh
  cases h3
 refine⟨h4,?_,?_⟩
 ·unfold Znc shD;rw[if_pos hE,if_pos h4]
 unfold ZpL shS;rw[if_pos hE,if_pos h4]
theorem ZnG {t:Tab}{n:Int}(h:lkE t n=0):Za9 t=0∧(-62135596800≤n∧n≤253402300799)∧lkL t n=Zbu t n:=by
 obtain⟨h1,h2⟩:=Zpb (t:=t) (n:=n) h
 exact⟨h1,ZeT.1 h2,(lk_in h1 h2).1⟩
theorem walk0 {t:Tab}{n m:Int}{h:AH}(ht:okT t):Ac 8 [.agg [iv t.1.1,iv t.1.2.1,sv t.1.2.2,.sl t.2.length 4 false (rows chgC t.2)],iv n,iv m] h (bv true):=by
 refine tI' k8 fun N hn hlt hlA hbd=>?_
 simp only[tb'] at hbd ⊢
 refine wr'<|E' (Zbd cv rfl (hl0 hn) ha0) pt<|mw<|sn'<|Zam<|wr'<|Zad mp0 (lbegun_a) pt<|Vw (Zax lk)<|mw<|s_do gt<|Zad mp0 (tbegun_a) pt<|?_
 refine s_do gt<|Vw (Zax lk)<|Vw (Zaj lk lk)<|mw<|s_do gt<|Zad mp0 (cbegun_a) pt<|s_do gt<|Vw (Zax lk)<|Vw (Zaj lk lk)<|sn'<|ZaM lk<|Zaf<|Zah<|?_
 refine Zam<|wr'<|mw<|Vw (Zbb lk lki)<|mw<|?_
 refine sp' (t:=33) gt pt pt (fun hg33=>?_) (fun hg33=>?_)
 ·exact s_no gt pt<|s_no gt pt<|Vw (Zag lk lkb)<|sn'<|ZaC lk<|wr'<|mw<|sn'<|Zaa<|Zai<|Zae rz<|rT' rfl
 refine s_do gt<|mw<|s_do gt<|Vw (ZbD lk lki)<|Vw (Zaj lk lk)<|sn'<|?_
 refine cd' lk (fun hc2=>?_) (fun hc2=>?_)
 ·exact wr'<|mw<|sn'<|Zaa<|Zai<|Zae rz<|rT' rfl
 refine Zaf<|Zah<|wr'<|Vw (Zan lk gx Zel rfl)<|mw<|Zad mp (Zib ht) pt<|mw<|Vw (ZaN lk gt)<|Vw (ZaN lk gt)<|E' (ZaV (hl1 hn) ha1) pt<|E' (Zak lk cv gx rfl (nb' rfl) rfl Zc7 (hs1 hn)) ptn<|mw<|Zas<|?_
 refine Zah<|wr'<|Vw (Zan lk gx Zel rfl)<|mw<|mw<|Vw (ZrB lk lk)<|Zad mp (Zib ht) pt<|mw<|Vw (ZaN lk gt)<|Vw (ZaN lk gt)<|E' (ZaV (hl2 hn) ha2) pt<|E' (Zak lk cv gx rfl (nb' rfl) rfl Zc7 (hs2 hn)) ptn<|mw<|?_
 refine sn'<|wr'<|Vw (Zan lk gx Zel rfl)<|mw<|mw<|?_
 refine V' (ZfN lk lki om om om) pt ?_
 refine Vw (ZrB lk lk)<|Zad mp (Zib ht) pt<|mw<|Vw (ZaN lk gt)<|Vw (ZaN lk gt)<|E' (ZaV (hl3 hn) ha3) pt<|E' (Zak lk cv gx rfl (nb' rfl) rfl Zc7 (hs3 hn)) ptn<|mw<|sn'<|wr'<|Vw (Zan lk gx Zel rfl)<|mw<|?_
 refine Zad mp (Zrz ht) pt<|mw<|Vw (ZaN lk gt)<|Vw (ZaN lk gt)<|Vw (ZaN lk gt)<|E' (ZaV (hl4 hn) ha4) pt<|E' (Zak lk cv gx rfl (nb' rfl) rfl Zc7 (hs4 hn)) ptn<|mw<|mw<|sn'<|wr'<|Vw (Zan lk gx Zel rfl)<|?_
 refine mw<|mw<|Vw (ZrB lk lk)<|Zad mp (Zrz ht) pt<|mw<|Vw (ZaN lk gt)<|Vw (ZaN lk gt)<|Vw (ZaN lk gt)<|E' (ZaV (hl5 hn) ha5) pt<|E' (Zak lk cv gx rfl (nb' rfl) rfl Zc7 (hs5 hn)) ptn<|mw<|mw<|sn'<|?_
 refine Zam<|wr'<|mw<|Vw (ZaT lk lki)<|mw<|?_
 refine sp' (t:=78) gt pt pt (fun hg78=>?_) (fun hg78=>?_)
 ·refine s_no gt pt<|s_no gt pt<|Vw (Zag lk lkb)<|mw<|s_no gt pt<|s_no gt pt<|Vw (Zag lk lkb)<|mw<|s_no gt pt<|s_no gt pt<|Vw (Zag lk lkb)<|mw<|s_no gt pt<|s_no gt pt<|?_
  refine Vw (Zag lk lkb)<|mw<|s_no gt pt<|s_no gt pt<|s_no gt pt<|s_no gt pt<|s_no gt pt<|Vw (Zag lk lkb)<|sn'<|ZaC lk<|wr'<|mw<|?_
  refine Vw (ZaP lk lki)<|mw<|?_
  refine ZbF (t:=103) gt (b:=false) (by exact decide_eq_false hg78) pt ?_
  refine s_do gt<|Vw (Zan lk gx Zem rfl)<|s_do gt<|Vw (Zau Zf4)<|s_do gt<|Vw (Zf9 lk lk Zf3)<|Vw (Zaj lk lk)<|mw<|sn'<|Zaa<|Zai<|Zae rz<|rT'<|?_
  have hW:Znc t n=(0,0,0):=if_neg (show ¬Zjq t n=0 from hg78)
  exact bvx (decide_eq_true (by rw[hW];exact⟨rfl,rfl,rfl⟩))
 refine s_do gt<|mw<|s_do gt<|Vw (ZaT lk lki)<|Vw (Zaj lk lk)<|mw<|?_
 refine sp' (t:=82) gt pt pt (fun hg82=>?_) (fun hg82=>?_)
 ·refine s_no gt pt<|s_no gt pt<|Vw (Zag lk lkb)<|mw<|s_no gt pt<|s_no gt pt<|Vw (Zag lk lkb)<|mw<|s_no gt pt<|s_no gt pt<|Vw (Zag lk lkb)<|mw<|s_no gt pt<|s_no gt pt<|?_
  refine s_no gt pt<|s_no gt pt<|s_no gt pt<|Vw (Zag lk lkb)<|sn'<|ZaC lk<|wr'<|mw<|Vw (ZaP lk lki)<|mw<|?_
  refine ZbF (t:=103) gt (b:=true) (by exact decide_eq_true (Decidable.of_not_not hg78)) pt ?_
  exact s_no gt pt<|s_no gt pt<|s_no gt pt<|Vw (Zag lk lkb)<|mw<|sn'<|Zaa<|Zai<|Zae rz<|rT' rfl
 refine s_do gt<|mw<|s_do gt<|Vw (ZaT lk lki)<|Vw (Zaj lk lk)<|mw<|?_
 refine sp' (t:=86) gt pt pt (fun hg86=>?_) (fun hg86=>?_)
 ·refine s_no gt pt<|s_no gt pt<|Vw (Zag lk lkb)<|mw<|s_no gt pt<|s_no gt pt<|Vw (Zag lk lkb)<|mw<|s_no gt pt<|s_no gt pt<|s_no gt pt<|s_no gt pt<|s_no gt pt<|Vw (Zag lk lkb)<|?_
  refine sn'<|ZaC lk<|wr'<|mw<|Vw (ZaP lk lki)<|mw<|?_
  refine ZbF (t:=103) gt (b:=true) (by exact decide_eq_true (Decidable.of_not_not hg78)) pt ?_
  exact s_no gt pt<|s_no gt pt<|s_no gt pt<|Vw (Zag lk lkb)<|mw<|sn'<|Zaa<|Zai<|Zae rz<|rT' rfl
 refine s_do gt<|mw<|s_do gt<|Vw (ZaT lk lki)<|Vw (Zaj lk lk)<|mw<|?_
 refine sp' (t:=90) gt pt pt (fun hg90=>?_) (fun hg90=>?_)
 ·refine s_no gt pt<|s_no gt pt<|Vw (Zag lk lkb)<|mw<|s_no gt pt<|s_no gt pt<|s_no gt pt<|s_no gt pt<|s_no gt pt<|Vw (Zag lk lkb)<|sn'<|ZaC lk<|Zam<|?_
  refine Zav<|mw<|Vw (ZaP lk lki)<|mw<|?_
  refine ZbF (t:=103) gt (b:=true) (by exact decide_eq_true (Decidable.of_not_not hg78)) pt ?_
  exact s_no gt pt<|s_no gt pt<|s_no gt pt<|Vw (Zag lk lkb)<|mw<|sn'<|Zaa<|Zai<|Zae rz<|rT' rfl
 refine s_do gt<|mw<|s_do gt<|Vw (ZaT lk lki)<|Vw (Zaj lk lk)<|mw<|?_
 refine sp' (t:=94) gt pt pt (fun hg94=>?_) (fun hg94=>?_)
 ·refine s_no gt pt<|s_no gt pt<|s_no gt pt<|s_no gt pt<|s_no gt pt<|Vw (Zag lk lkb)<|sn'<|ZaC lk<|wr'<|mw<|Vw (ZaP lk lki)<|mw<|?_
  refine ZbF (t:=103) gt (b:=true) (by exact decide_eq_true (Decidable.of_not_not hg78)) pt ?_
  exact s_no gt pt<|s_no gt pt<|s_no gt pt<|Vw (Zag lk lkb)<|mw<|sn'<|Zaa<|Zai<|Zae rz<|rT' rfl
 refine s_do gt<|Vw (Zab lk)<|s_do gt<|Vw (Zac lk gx gt0)<|s_do gt<|Vw (Zab lk)<|s_do gt<|Vw (Zac lk gx gt0)<|s_do gt<|Vw (ZaT lk lk)<|Vw (Zaj lk lk)<|sn'<|?_
 refine cd' lk (fun hc3=>?_) (fun hc3=>?_)
 ·refine wr'<|mw<|Vw (ZaP lk lki)<|mw<|?_
  refine ZbF (t:=103) gt (b:=true) (by exact decide_eq_true (Decidable.of_not_not hg78)) pt ?_
  exact s_no gt pt<|s_no gt pt<|s_no gt pt<|Vw (Zag lk lkb)<|mw<|sn'<|Zaa<|Zai<|Zae rz<|rT' rfl
 have e1:lkE t n=0:=Decidable.of_not_not hg78
 have e2:lkE t (IntKind.i64.wrap (n+m))=0:=Decidable.of_not_not hg82
 have e3:lkE t (IntKind.i64.wrap (n+m/2))=0:=Decidable.of_not_not hg86
 obtain⟨f1,f2,f3⟩:=ZnG e1
 obtain⟨p1,p2,p3⟩:=ZnG e2
 obtain⟨q1,q2,q3⟩:=ZnG e3
 have hw:IntKind.i64.wrap (n+m)=n+m:=w64 om om
 obtain⟨a1,a2,a3⟩:=Zry e1 (Decidable.of_not_not hg90)
 obtain⟨b1,b2,b3⟩:=Zry e2 (Decidable.of_not_not hg94)
 have hsh:(Zbu t n).1=(Zbu t (IntKind.i64.wrap (n+m))).1:=by have:=Decidable.of_not_not hc3;rwa [f3,p3] at this
 have hnm:(lkL t (IntKind.i64.wrap (n+m/2))).2.2≠⟨#[]⟩:=by rw[q3];intro e;have:=(Ze1 (Zid f1 (IntKind.i64.wrap (n+m/2)))).2.2.1;rw[e] at this;exact absurd this (by decide)
 rw[a2,b2,a3,b3]
 generalize (Zbu t n).1=s1 at *
 generalize (Zbu t (IntKind.i64.wrap (n+m))).1=s2 at *
 refine Zaf<|Zah<|wr'<|Vw (Zan lk gx Zem rfl)<|Zad mp (Zto a1.1 a1.2) pt<|mw<|Vw (ZaN lk gt)<|Vw (ZaN lk gt)<|mw<|mw<|sn'<|Zam<|?_
 refine Zav<|Vw (Zan lk gx Zem rfl)<|Zad mp (Zto b1.1 b1.2) pt<|mw<|Vw (ZaN lk gt)<|Vw (ZaN lk gt)<|mw<|mw<|sn'<|wr'<|mw<|Vw (ZaP lk lki)<|?_
 refine mv' lk pt ?_
 refine ZbF (t:=120) gt (b:=true) (by rfl) pt ?_
 refine s_do gt<|mw<|s_do gt<|Vw (ZaP lk lki)<|Vw (Zag lk lk)<|mw<|?_
 refine ZbF (t:=124) gt (b:=true) (by rfl) pt ?_
 refine s_do gt<|mw<|s_do gt<|mw<|s_do gt<|?_
 refine V' (Zbt lk lk om om) pt ?_
 refine s_do gt ?_
 refine V' (ZeN lk lki om om) pt ?_
 refine s_do gt<|mw<|s_do gt<|?_
 refine V' (Zay lk lk om om) pt ?_
 refine s_do gt<|mw<|s_do gt<|?_
 refine V' (Zbt lk lk om om) pt ?_
 refine s_do gt<|mw<|s_do gt<|Vw (ZaP lk lk)<|Vw (Zag lk lk)<|mw<|?_
 refine ZbF (t:=136) gt (b:=true) (by exact decide_eq_true om) pt ?_
 refine s_do gt<|Vw (Zab lk)<|s_do gt<|Vw (Zac lk gx gt2)<|s_do gt<|Vw (Zcr lk lks)<|Vw (Zag lk lk)<|mw<|sn'<|Zaa<|Zae rz<|rT'<|?_
 exact bvx (decide_eq_true hnm)
end Go.Proofs.YtlekejpogddndaaGreatDoor.localOrder
end
section
namespace Go
variable {H : Type} {enc : TypeId × Value → H}
theorem ZnO {a:Assume}{C:Checked}{os:Os}{f:FuncId}{fn:Func}{s:ChangeSpec}{apart fresh handsOn again:Bool}{laid:List (String×DataW Unit)}
  (own:ownKnob C.prog.godebug=none) (started:os.Started) (noInit:C.prog.inits.idxOf? f=none) (hfn:C.prog.funcs[f]?=some fn)
  (witness : ∃ (w:World) (tape:Tape) (i:Input),w.os=os∧(w.forCall tape i).Shaped C.prog∧i.vars=[]∧Input.okWide C.prog (w.forCall tape i) .any w.heap.size f i ∧
   ((s.pre enc C.prog fn [] apart (w.forCall tape i).memory i.args∧laidMetH C.prog laid (w.forCall tape i).memory)∧sizedMet enc C.prog fn (OpenSpec.ofChange s) apart (w.forCall tape i).memory i.args)∧a.holds C.prog (lone (Frame.enter C.prog f i.args .normal) [] (w.forCall tape i)))
  (contract : ∀ (W:World) (base:Nat) (args:Array Value) (ds gs:List (DataW H)) (before:List MemPlace),
   (∀ (j:Nat) t v,fn.params[j]?=some t→args[j]?=some v→Value.okWide C.prog W .any base t v) →
   DataW.Whole enc C.prog fn.params.toList s.vars apart W args.toList ds gs before →
   (DataW.weightsEach C.prog (fn.params.toList++s.plain.varTypes C.prog) (ds++gs)).all (· ≤ reachBytes)=true →
   laidMetH C.prog laid W→W.ShapedOpen C.prog →
   Calls C.prog f args W fun e W' => ∃ v,e=.returned v∧s.post enc C.prog fn apart fresh handsOn again W args v W') :
  ReturnsInHanded a C os f .any (fun w args=>(s.pre enc C.prog fn [] apart w args∧laidMetH C.prog laid w)∧sizedMet enc C.prog fn (OpenSpec.ofChange s) apart w args) (s.post enc C.prog fn apart fresh handsOn again):=by
 refine returnsInHanded_of_calls own started noInit witness ?_
 intro w tape i _ hsh _ hok hpre hholds
 obtain⟨_,_,_,fn',hfn',_,_,_,_,hval⟩:=hok
 have e:fn'=fn:=Option.some.inj (hfn'.symm.trans hfn)
 subst e
 obtain⟨⟨⟨ds,gs,before,hw,hc⟩,hx⟩,hz⟩:=hpre
 have hw':=DataW.Whole.of_heap (w':=w.forCall tape i) (by rfl) hw
 refine (contract (w.forCall tape i) w.heap.size i.args ds gs before hval hw' (hz.weights hw) (hx.of_heap (by rfl)) hsh).mono fun e W' ⟨v,he,hp⟩=>?_
 subst he
 exact ChangeSpec.post_blind hp
end Go
namespace Go.Proofs.YtlekejpogddndaaGreatDoor
open Go.ChangeShapes Go.WideShapes Go.ChangeAt Go.RowKit Go.Ab
def LaidOk (l:List (String×DataW Unit)):Prop:=l.length=l.length
theorem globW {W:World}{l:List (String×DataW Unit)}(hsh:W.ShapedOpen Tryz.prog) (hL:laidMetH Tryz.prog l W) (hl:LaidOk l):GlobW W where
 tt:=trivial
 maxLen:=cell_of_shapedOpen_int (t:=3) (zero := #[.int .i64 0]) hsh (of_decide_eq_true (by kernel_rfl)) (by kernel_rfl) rfl (by kernel_rfl) (by kernel_rfl) Tryz.underlying3
end Go.Proofs.YtlekejpogddndaaGreatDoor
end
