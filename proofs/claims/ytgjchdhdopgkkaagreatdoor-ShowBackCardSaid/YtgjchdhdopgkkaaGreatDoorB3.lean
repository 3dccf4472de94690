/-
  Part 3 of the proof: own lemmas and contracts on plain data. No condition beyond those that each lemma states.
-/
import Derived.Test.YtgjchdhdopgkkaaGreatDoorB2
import Derived.WalkKit
import Derived.WalkSpells
import Derived.WalkLawsBesides
import Derived.Deep.QuietTactic
import Derived.BigQuiet
import Derived.Lib.Hide
import Derived.Lib.QuietBelow
import Derived.Deep.RegionHeld3
import Derived.Deep.DeepCutAuto
import Derived.ProofKit
import Derived.Carry
import Derived.Lib.SmallJoins
import Derived.Deep.Slices
import Derived.Lib.ItoaLen
set_option linter.all false
set_option maxRecDepth 1000000
set_option maxHeartbeats 4000000
section
namespace Go.Proofs.YtgjchdhdopgkkaaGreatDoor
open Go.Ab Go.RowKit Civ
attribute [local simp] Zbd
theorem tname_a {t:TS}{id:Nat}{h:AH}(hz:(Za1 t).1.size≤maxLen) (h1:h[id]?=some (takE t)):ACalls Tryz.prog 52 [.ptr id 0 0] h fun x h'=>x=.ret (sv (Zft t).1)∧h'=h.set id (takE (Zft t).2):=by
 have hid:id<h.length:=(List.getElem?_eq_some_iff.1 h1).1
 refine tJ' k52 fun N hn hlt hlA hbd=>?_
 simp only [tb'] at hbd ⊢
 refine ZbG (h1:=h.set id (takE t)++[]) (by rw [ZbU h1]) ?_
 refine wr'<|mv' lks pt<|sn'<|wr'<|mv' lk pt<|ZaA mp (ZnK (ZaC hid)) (Zax hid) pt<|mv' lk pt<|sn'<|Zam<|Zam<|?_
 refine Zar<|mv' lk pt<|Zae mp (Zdz hz) pt<|V' (Zav lk) pt<|sn'<|?_
 refine Zaw lk (fun hc1=>?_) (fun hc1=>?_)
 ·refine Zar<|mv' lk pt<|V' (ZaD lk) pt<|V' (Zaa lk) pt<|E' (Zal lk (cvl lkb rfl) (ZaC hid) rfl (nb' rfl) rfl Zc6 (Zax hid)) ptn<|sn'<|wr'<|mv' lk pt<|mv' lk pt<|sn'<|Zab<|?_
  refine Zag rz ?_
  exact ⟨_,_,rfl,Zad hn,ZaR hlt ZaU,rfl,rfl,by unfold Zft;rw [if_neg (by simpa using hc1)]⟩
 refine Zaf<|Zai<|wr'<|mv' lk pt<|mv' lk pt<|sn'<|Zab<|Zag rz<|?_
 exact ⟨_,_,rfl,Zad hn,ZaR hlt ZaU,rfl,rfl,by unfold Zft;rw [if_pos (by simpa using hc1)]⟩
theorem Ztm {l:List ByteArray}{s:ByteArray}{d:Int}{k:Nat}(h:k<l.length):idxL (l.drop k) s (d+k)=if s=l[k] then some (d+k) else idxL (l.drop (k+1)) s (d+(k+1:Nat)):=by
 rw [List.drop_eq_getElem_cons h,idxL]
 congr 2
 push_cast;omega
theorem Ztl {s:ByteArray} : ∀ {l:List ByteArray}{d:Int},(∀ x∈l,s≠x)→idxL l s d=none
 | [],_,_=>rfl
 | x::l,d,h=>by rw [idxL,if_neg (h x (by simp))];exact Ztl fun y hy=>h y (by simp [hy])
theorem Zoi {s:ByteArray} : ∀ {l:List ByteArray}{d:Int},idxL l s d=(idxL l s 0).map (· + d)
 | [],_=>rfl
 | x::l,d=>by
  rw [idxL,idxL]
  split
  ·simp
  rw [Zoi (l:=l) (d:=d+1),Zoi (l:=l) (d:=0+1),Option.map_map];congr 1;funext y;simp;omega
theorem Zpm {nl:List ByteArray}{all s:ByteArray}{h:AH}(hl:nl.length≤20) (hz:all.size=3*nl.length) (h3 : ∀ x∈nl,x.size=3) (hx : ∀ k (hk:k<nl.length),all.extract (3*k) (3*k+3)=nl[k]):Ac 129 [sv all,sv s] h (iv ((idxL nl s 0).getD (-1))):=by
 refine tI' k129 fun N hn hlt hlA hbd=>?_
 simp only [tb'] at hbd ⊢
 refine wr'<|mv' lki pt<|sn'<|Zam<|wr'<|mv' lki pt<|sn'<|Zao<|?_
 refine w_lp (ι:=Nat) (fun (k:Nat)=>[(5,iv ((3*k:Nat):Int)),(4,.any)]++rn' 6 21) (fun (k:Nat)=>[]) (fun (k:Nat)=>k≤nl.length∧idxL nl s 0=idxL (nl.drop k) s (0+(k:Int))) (fun (k:Nat)=>nl.length-k) (0) (by exact ⟨Nat.zero_le _,by simp⟩) ?_
 rintro k hi1
 try simp only [sm',Nat.reduceAdd]
 obtain ⟨hk1,hk2⟩:=hi1
 refine Zam<|wr'<|mv' lk pt<|?_
 refine V' (ZaE lk lki (by omega) (by omega)) pt ?_
 refine mv' lk pt<|V' (Zbi lk) pt<|V' (ZeT lk lk) pt<|mv' lk pt<|?_
 refine sp' (t:=11) gt pt pt (fun hg11=>?_) (fun hg11=>?_)
 ·have hk:k<nl.length:=by omega
  rw [Ztm hk] at hk2
  refine s_do gt<|mv' lk pt<|s_do gt<|V' (Zbi lk) pt<|s_do gt<|V' (ZaX lk lki) pt<|V' (Zaj lk lk) pt<|sn'<|?_
  refine cd' lk (fun hc1=>?_) (fun hc1=>?_)
  ·have he:=hx k hk
   refine Zaf<|Zai<|Zam<|Zao<|wr'<|mv' lk pt<|mv' lk pt<|mv' lk pt<|?_
   refine V' (ZaE lk lki (by omega) (by omega)) pt ?_
   refine V' (Zd6 lk (oi lk) (oi lk) (by omega) (by omega) (by omega)) pt ?_
   refine mv' lk pt<|V' (Zcj lk lk) pt<|sn'<|?_
   refine cd' lk (fun hc2=>?_) (fun hc2=>?_)
   ·have hc2':s=nl[k]:=by rw [←he];exact hc2.symm
    rw [if_pos hc2'] at hk2
    refine wr'<|mv' lk pt<|?_
    refine V' (Zf7 lk lki (by omega) (by omega) (by omega)) pt ?_
    refine mv' lk pt<|sn'<|Zab<|Zaq<|Zak<|Zak<|Zaq<|Zak<|Zag rz<|rT'<|?_
    refine ivx ?_;rw [hk2];simp
   have hc2':¬s=nl[k]:=by rw [←he];exact fun e=>hc2 e.symm
   rw [if_neg hc2'] at hk2
   refine Zaf<|ZaF<|Zai<|Zar<|mv' lk pt<|?_
   refine V' (ZaE lk lki (by omega) (by omega)) pt ?_
   refine mv' lk pt<|Zas<|ZaI<|?_
   refine lT' (k+1) (by (try dsimp only);exact ⟨by omega,by rw [hk2]⟩)
  refine Za0<|ZaO<|ZaO<|Zbp<|Zai<|wr'<|mv' lki pt<|sn'<|Zab<|Zag rz<|rT'<|?_
  refine ivx ?_;rw [Ztl (l:=nl) (d:=0) (fun x hx e=>hc1 (by rw [e,h3 x hx];rfl))];rfl
 refine s_no gt pt<|s_no gt pt<|s_no gt pt<|V' (Zah lk lkb) pt<|sn'<|ZaY lk<|Za0<|ZaO<|ZaO<|Zbp<|Zai<|wr'<|?_
 refine mv' lki pt<|sn'<|Zab<|Zag rz<|rT'<|?_
 refine ivx ?_;rw [List.drop_of_length_le (by omega)] at hk2;rw [hk2];rfl
def monA:ByteArray:=bA [74,97,110,70,101,98,77,97,114,65,112,114,77,97,121,74,117,110,74,117,108,65,117,103,83,101,112,79,99,116,78,111,118,68,101,99]
def dayA:ByteArray:=bA [83,117,110,77,111,110,84,117,101,87,101,100,84,104,117,70,114,105,83,97,116]
theorem mon_at : ∀ k (hk:k<monL.length),monA.extract (3*k) (3*k+3)=monL[k]:=by decide
theorem day_at : ∀ k (hk:k<dayL.length),dayA.extract (3*k) (3*k+3)=dayL[k]:=by decide
theorem mon_3 : ∀ x∈monL,x.size=3:=by decide
theorem day_3 : ∀ x∈dayL,x.size=3:=by decide
theorem Zlq {s:ByteArray} : ∀ {l:List ByteArray}{d n:Int},idxL l s d=some n→d≤n∧n<d+l.length
 | [],_,_,h=>by cases h
 | x::l,d,n,h=>by
  rw [idxL] at h
  split at h
  ·cases h;simp;omega
  have:=Zlq h;simp;omega
theorem tmonth_a {t:TS}{id:Nat}{h:AH}(h1:h[id]?=some (takE t)):ACalls Tryz.prog 89 [.ptr id 0 0] h fun x h'=>x=.ret (iv (Zea t).1)∧h'=h.set id (takE (Zea t).2):=by
 have hid:id<h.length:=(List.getElem?_eq_some_iff.1 h1).1
 have hM:idxL monL (Za1 t).1 1=(idxL monL (Za1 t).1 0).map (· + 1):=Zoi
 obtain ⟨o,ho⟩ : ∃ o,o=idxL monL (Za1 t).1 0:=⟨_,rfl⟩
 rw [←ho] at hM
 have hbd : ∀ n,o=some n→0≤n∧n<12:=fun n e=>by have:=Zlq (ho.symm.trans e);have h12:(monL.length:Int)=12:=rfl;omega
 refine tJ' k89 fun N hn hlt hlA hbd=>?_
 simp only [tb'] at hbd ⊢
 refine ZbG (h1:=h.set id (takE t)++[]) (by rw [ZbU h1]) ?_
 refine wr'<|mv' lki pt<|sn'<|wr'<|mv' lk pt<|ZaA mp (ZnK (ZaC hid)) (Zax hid) pt<|?_
 refine Zae mp (Zpm (nl:=monL) (all:=monA) (by decide) (by decide) mon_3 mon_at) pt ?_
 rw [←ho]
 have hcase:(o=none) ∨ ∃ n,o=some n:=by cases o <;> simp
 have hgd : -1≤o.getD (-1)∧o.getD (-1)<12:=by rcases hcase with rfl | ⟨n,rfl⟩;exact ⟨by decide,by decide⟩;have:=hbd n rfl;exact ⟨by simp;omega,by simp;omega⟩
 refine mv' lk pt<|sn'<|Zam<|wr'<|mv' lk pt<|V' (Zbu lk lki) pt<|sn'<|?_
 refine cd' lk (fun hc1=>?_) (fun hc1=>?_)
 ·refine Zar<|mv' lk pt<|V' (ZaD lk) pt<|V' (Zaa lk) pt<|E' (Zal lk (cvl lkb rfl) (ZaC hid) rfl (nb' rfl) rfl Zc6 (Zax hid)) ptn<|sn'<|wr'<|mv' lk pt<|?_
  refine V' (ZaE lk lki (by omega) (by omega)) pt ?_
  refine mv' lk pt<|sn'<|Zab<|Zag rz<|?_
  have ho2:o=none:=by rcases hcase with e | ⟨n,rfl⟩;exact e;have:=hbd n rfl;simp at hc1;omega
  have hT:Zea t=(0,bad (Za1 t).2):=by unfold Zea;rw [hM,ho2];rfl
  exact ⟨_,_,rfl,Zad hn,ZaR hlt ZaU,rfl,by rw [hT,ho2];rfl,by rw [hT]⟩
 refine Zaf<|Zai<|wr'<|mv' lk pt<|?_
 refine V' (ZaE lk lki (by omega) (by omega)) pt ?_
 refine mv' lk pt<|sn'<|Zab<|Zag rz<|?_
 obtain ⟨n,rfl⟩ : ∃ n,o=some n:=by rcases hcase with rfl | e;exact absurd (by decide:(-1:Int)<0) hc1;exact e
 have hT:Zea t=(n+1,(Za1 t).2):=by unfold Zea;rw [hM];rfl
 exact ⟨_,_,rfl,Zad hn,ZaR hlt ZaU,rfl,by rw [hT];rfl,by rw [hT]⟩
theorem Zig {s:ByteArray}{t:TS}{id:Nat}{h:AH}(h1:h[id]?=some (takE t)):ACalls Tryz.prog 130 [.ptr id 0 0,sv s] h fun x h'=>x=.ret (iv (ZeD s t).1)∧h'=h.set id (takE (ZeD s t).2):=by
 have hid:id<h.length:=(List.getElem?_eq_some_iff.1 h1).1
 obtain ⟨o,ho⟩ : ∃ o,o=idxL dayL s 0:=⟨_,rfl⟩
 have hbd : ∀ n,o=some n→0≤n∧n<7:=fun n e=>by have:=Zlq (ho.symm.trans e);have h7:(dayL.length:Int)=7:=rfl;omega
 refine tJ' k130 fun N hn hlt hlA hbd=>?_
 simp only [tb'] at hbd ⊢
 refine ZbG (h1:=h.set id (takE t)++[]) (by rw [ZbU h1]) ?_
 refine wr'<|mv' lki pt<|sn'<|wr'<|mv' lk pt<|?_
 refine Zae mp (Zpm (nl:=dayL) (all:=dayA) (by decide) (by decide) day_3 day_at) pt ?_
 rw [←ho]
 have hcase:(o=none) ∨ ∃ n,o=some n:=by cases o <;> simp
 refine mv' lk pt<|sn'<|Zam<|wr'<|mv' lk pt<|V' (Zbu lk lki) pt<|sn'<|?_
 refine cd' lk (fun hc1=>?_) (fun hc1=>?_)
 ·refine wr'<|mv' lk pt<|V' (ZaD lk) pt<|V' (Zaa lk) pt<|E' (Zal lk (cvl lkb rfl) (ZaC hid) rfl (nb' rfl) rfl Zc6 (Zax hid)) ptn<|sn'<|wr'<|mv' lki pt<|sn'<|Zab<|?_
  refine Zak<|Zag rz<|?_
  have ho2:o=none:=by rcases hcase with e | ⟨n,rfl⟩;exact e;have:=hbd n rfl;simp at hc1;omega
  have hT:ZeD s t=(0,bad t):=by unfold ZeD;rw [←ho,ho2]
  exact ⟨_,_,rfl,Zad hn,ZaR hlt ZaU,rfl,by rw [hT],by rw [hT]⟩
 refine Zaf<|Zai<|wr'<|mv' lk pt<|mv' lk pt<|sn'<|Zab<|Zag rz<|?_
 obtain ⟨n,rfl⟩ : ∃ n,o=some n:=by rcases hcase with rfl | e;exact absurd (by decide:(-1:Int)<0) hc1;exact e
 have hT:ZeD s t=(n,t):=by unfold ZeD;rw [←ho]
 exact ⟨_,_,rfl,Zad hn,ZaR hlt ZaU,rfl,by rw [hT];rfl,by rw [hT]⟩
theorem ZrZ {s:ByteArray}{t:TS}{id:Nat}{h:AH}(h1:h[id]?=some (takE t)):ACalls Tryz.prog 128 [.ptr id 0 0,sv s] h fun x h'=>x=.ret (iv (tSix s t).1)∧h'=h.set id (takE (tSix s t).2):=by
 have hid:id<h.length:=(List.getElem?_eq_some_iff.1 h1).1
 refine tJ' k128 fun N hn hlt hlA hbd=>?_
 simp only [tb'] at hbd ⊢
 refine ZbG (h1:=h.set id (takE t)++[]) (by rw [ZbU h1]) ?_
 refine wr'<|mv' lki pt<|sn'<|wr'<|mv' lk pt<|mv' lk pt<|?_
 refine ZaA mp (Zek (by omega) (ZaC hid)) (Zax hid) pt ?_
 refine mv' lk pt<|sn'<|Zam<|wr'<|mv' lk pt<|V' (ZbN lk lki) pt<|sn'<|?_
 refine cd' lk (fun hc1=>?_) (fun hc1=>?_)
 ·refine Zar<|mv' lk pt<|V' (ZaD lk) pt<|V' (Zaa lk) pt<|E' (Zal lk (cvl lkb rfl) (ZaC hid) rfl (nb' rfl) rfl Zc6 (Zax hid)) ptn<|sn'<|wr'<|mv' lk pt<|mv' lk pt<|sn'<|Zab<|?_
  refine Zag rz ?_
  exact ⟨_,_,rfl,Zad hn,ZaR hlt ZaU,rfl,rfl,by unfold tSix;rw [if_pos (by omega)]⟩
 refine Zaf<|Zai<|wr'<|mv' lk pt<|mv' lk pt<|sn'<|Zab<|Zag rz<|?_
 exact ⟨_,_,rfl,Zad hn,ZaR hlt ZaU,rfl,rfl,by unfold tSix;rw [if_neg (by omega)]⟩
end Go.Proofs.YtgjchdhdopgkkaaGreatDoor
end
section
namespace Go.Proofs.YtgjchdhdopgkkaaGreatDoor
open Go.Ab Go.RowKit Civ
attribute [local simp] Zbd
section
theorem ZhQ {τ:Operand→AV}{y0:Operand}{x0_0:AV}(h0:Zap (τ y0)=some [x0_0]) (l0:[x0_0].all leaf=true):Zat τ [(0,1,y0)] [(.v (.string ⟨#[]⟩))]=some [x0_0]:=by
 simp only [Zat,h0,l0]
 rfl
theorem Znk {a0:AV}{l:List AV}:(a0::l).take 1=[a0]:=rfl
theorem Zks {a0 a1 c0:AV}{l:List AV}:setCells (a0::a1::l) 1 [c0]=a0::c0::l:=rfl
theorem Znl {τ:Operand→AV}{y0 y1:Operand}{x0_0 x1_0:AV}(h0:Zap (τ y0)=some [x0_0]) (l0:[x0_0].all leaf=true) (h1:Zap (τ y1)=some [x1_0]) (l1:[x1_0].all leaf=true):Zat τ [(0,1,y0),(1,1,y1)] [(.v (.int .i64 0)),(.v (.int .i64 0)),(.v (.int .i64 0))]=some [x0_0,x1_0,(.v (.int .i64 0))]:=by
 simp only [Zat,h0,l0,h1,l1]
 rfl
theorem ZbI {a0 a1 a2 c0 c1 c2:AV}{l:List AV}:setCells (a0::a1::a2::l) 0 [c0,c1,c2]=c0::c1::c2::l:=rfl
theorem ZbH {a0 a1 a2:AV}{l:List AV}:((a0::a1::a2::l).drop 0).take 3=[a0,a1,a2]:=rfl
theorem Zeu {τ:Operand→AV}{y0 y1 y2:Operand}{x0_0 x1_0 x2_0:AV}(h0:Zap (τ y0)=some [x0_0]) (l0:[x0_0].all leaf=true) (h1:Zap (τ y1)=some [x1_0]) (l1:[x1_0].all leaf=true) (h2:Zap (τ y2)=some [x2_0]) (l2:[x2_0].all leaf=true):Zat τ [(0,1,y0),(1,1,y1),(2,1,y2)] [(.v (.int .i64 0)),(.v (.int .i64 0)),(.v (.int .i64 0))]=some [x0_0,x1_0,x2_0]:=by
 simp only [Zat,h0,l0,h1,l1,h2,l2]
 rfl
theorem Zkt {a0 c0:AV}{l:List AV}:setCells (a0::l) 0 [c0]=c0::l:=rfl
theorem Zc5 {τ:Operand→AV}{y0 y1:Operand}{x0_0 x1_0:AV}(h0:Zap (τ y0)=some [x0_0]) (l0:[x0_0].all leaf=true) (h1:Zap (τ y1)=some [x1_0]) (l1:[x1_0].all leaf=true):Zat τ [(0,1,y0),(2,1,y1)] [(.v (.int .i64 0)),(.v (.int .i64 0)),(.v (.int .i64 0))]=some [x0_0,(.v (.int .i64 0)),x1_0]:=by
 simp only [Zat,h0,l0,h1,l1]
 rfl
end
def c91:AC:=(Sr [Oo 2 (.new 46 3 [(iv 0),(iv 0),(iv 0)])] (Sr [Mv 5 0,Cl 6 49 [(.tmp 5)],Mv 3 6] (.seq (Sr [Mv 7 3,Oo 8 (.len true (.tmp 7)),Bc 9 .geq 8 4,Mv 10 9,Ot 11 10 (mt 3),Ot 12 10 (.sls (.tmp 11) none (some (Ci 4))),Ot 13 10 (.bin .eql (.tmp 12) (.const (.string ⟨#[108,97,115,116]⟩))),Oo 14 (.pick (.tmp 10) (.tmp 13) (.const (.bool false)))] (Cd 14 (Sr [Mv 15 0,Mv 16 3,Oo 17 (.sls (.tmp 16) (some (Ci 4)) none),Cl 18 130 [(.tmp 15),(.tmp 17)],Oo 19 (.build [(iv 0),(iv 0),(iv 0)] [(0,(1,(Ci 2))),(1,(1,(.tmp 18)))]),⟨none,none,(.store 3 (.tmp 2) (.tmp 19))⟩] .ret) .skip)) (.seq (Sr [Mv 20 3,Oo 21 (.len true (.tmp 20)),Bc 22 .gtr 21 5,Mv 23 22,Ot 24 23 (mt 3),Ot 25 23 (.ix (.tmp 24) (Ci 4)),Ot 26 23 (.bin .eql (.tmp 25) (.const (.int .u8 61))),Oo 27 (.pick (.tmp 23) (.tmp 26) (.const (.bool false))),Mv 28 27,Ot 29 28 (mt 3),Ot 30 28 (.ix (.tmp 29) (Ci 3)),Ot 31 28 (.bin .eql (.tmp 30) (.const (.int .u8 62))),Ot 32 28 (mt 31),Of 33 32 (mt 3),Of 34 32 (.ix (.tmp 33) (Ci 3)),Of 35 32 (.bin .eql (.tmp 34) (.const (.int .u8 60))),Ot 36 28 (.pick (.tmp 32) (.const (.bool true)) (.tmp 35)),Oo 37 (.pick (.tmp 28) (.tmp 36) (.const (.bool false)))] (Cd 37 (.seq (.drwU [[],[0],[0],[],[0,1,2,3],[0,1,2,3,4],[0,1,2,3,4],[],[],[0,1,2,3,4,5,6,7,8],[]] [Mv 38 0,Mv 39 3,Oo 40 (.sls (.tmp 39) none (some (Ci 3))),Cl 41 130 [(.tmp 38),(.tmp 40)],Mv 42 0,Mv 43 3,Oo 44 (.sls (.tmp 43) (some (Ci 5)) none),Cl 45 88 [(.tmp 42),(.tmp 44),(Ci 1),(Ci 2)],Oo 46 (.build [(iv 0),(iv 0),(iv 0)] [(0,(1,(Ci 3))),(1,(1,(.tmp 41))),(2,(1,(.tmp 45)))]),Oo 4 (.new 46 3 [(iv 0),(iv 0),(iv 0)]),⟨none,none,(.store 3 (.tmp 4) (.tmp 46))⟩]) (.seq (Sr [Mv 47 3,Oo 48 (.ix (.tmp 47) (Ci 3)),Oo 49 (.bin .eql (.tmp 48) (.const (.int .u8 60)))] (Cd 49 (.reg [Fa 50 0 4,⟨none,none,(.store 1 (.tmp 50) (Ci 4))⟩]) .skip)) (Sr [Oo 51 (.load true 3 (.tmp 4)),⟨none,none,(.store 3 (.tmp 2) (.tmp 51))⟩] .ret))) .skip)) (Sr [Mv 52 0,Mv 53 3,Cl 54 88 [(.tmp 52),(.tmp 53),(Ci 1),(Ci 2)],Oo 55 (.build [(iv 0),(iv 0),(iv 0)] [(0,(1,(Ci 1))),(2,(1,(.tmp 54)))]),⟨none,none,(.store 3 (.tmp 2) (.tmp 55))⟩] .ret)))))
theorem k91:ZaH Tryz.prog 91=some ⟨c91,[(.cell 2 true 3)],56⟩:=by kernel_rfl
def c87:AC:=(Sr [Mc 4 0] (.seq (Sr [Mv 9 1,Oo 10 (.bin .eql (.tmp 9) (.const (.string ⟨#[48]⟩)))] (Cd 10 (Sr [Mc 4 0] .ret) .skip)) (Sr [Oo 5 (.mv (.const (.slice none 0 0)))] (Sr [Mc 6 0] (.seq (Sr [Mc 7 0] (.block 0 (.loop (.seq (Sr [Mv 11 7,Mv 12 1,Oo 13 (.len true (.tmp 12)),Bn 14 .leq 11 13] (Cd 14 .skip (.exit 0))) (.seq (.block 1 (Sr [Mv 17 7,Mv 18 1,Oo 19 (.len true (.tmp 18)),Bn 20 .eql 17 19,Mv 21 20,Of 22 21 (mt 1),Of 23 21 (mt 7),Of 24 21 (.ix (.tmp 22) (.tmp 23)),Of 25 21 (.bin .eql (.tmp 24) (.const (.int .u8 58))),Oo 26 (.pick (.tmp 21) (.const (.bool true)) (.tmp 25))] (Cd 26 (Sr [Mv 27 5,Mv 28 1,Mv 29 6,Mv 30 7,Oo 31 (.sls (.tmp 28) (some (.tmp 29)) (some (.tmp 30))),Oo 32 (.lit 9 1 1 [Ss] [(0,(1,(.tmp 31)))]),Oo 33 (.app 9 1 16 (.tmp 27) (.tmp 32)),Mv 5 33] (.reg [Mv 34 7,Bc 35 .add 34 1,Mv 6 35])) .skip))) (.reg [Mv 15 7,Bc 16 .add 15 1,Mv 7 16])))))) (.seq (Sr [Mv 36 5,Oo 37 (.len false (.tmp 36)),Bc 38 .neq 37 2,Mv 39 38,Ot 40 39 (mt 5),Ot 41 39 (.len false (.tmp 40)),Ot 42 39 (.bin .neq (.tmp 41) (Ci 3)),Oo 43 (.pick (.tmp 39) (.tmp 42) (.const (.bool false)))] (Cd 43 (Sr [Mv 44 0,Nk 45 44,Fa 46 1 45,⟨none,none,(.store 1 (.tmp 46) (.const (.bool true)))⟩] (Sr [Mc 4 0] .ret)) .skip)) (.seq (.drwU [[],[0],[0],[0],[],[],[0,1,2,3,4,5],[0,1,2,3,4,5,6],[0,1,2,3,4,5,6],[0,1,2,3,4,5,6],[5],[5],[],[]] [Mv 47 0,Mv 48 5,Oo 49 (.ia 1 (.tmp 48) (Ci 0)),Ld 50 49,Cl 51 88 [(.tmp 47),(.tmp 50),(Ci 1),(Ci 2)],Oo 52 (.bin .mul (Ci 3600) (.tmp 51)),Mv 53 0,Mv 54 5,Oo 55 (.ia 1 (.tmp 54) (Ci 1)),Ld 56 55,Cl 57 128 [(.tmp 53),(.tmp 56)],Oo 58 (.bin .mul (Ci 60) (.tmp 57)),Bn 59 .add 52 58,Mv 8 59]) (.seq (Sr [Mv 60 5,Oo 61 (.len false (.tmp 60)),Bc 62 .eql 61 3] (Cd 62 (.reg [Mv 63 8,Mv 64 0,Mv 65 5,Oo 66 (.ia 1 (.tmp 65) (Ci 2)),Ld 67 66,Cl 68 128 [(.tmp 64),(.tmp 67)],Bn 69 .add 63 68,Mv 8 69]) .skip)) (Sr [Mv 70 8,Mv 4 70] .ret)))))))))
theorem k87:ZaH Tryz.prog 87=some ⟨c87,[(.tmp 4)],71⟩:=by kernel_rfl
def c90:AC:=(Sr [Mc 4 0,Mc 5 0] (Sr [Mv 9 0,Cl 10 49 [(.tmp 9)],Mv 6 10] (Sr [Mv 11 1,Mv 7 11] (.seq (Sr [Mv 12 6,Oo 13 (.bin .neq (.tmp 12) (.const (.string ⟨#[]⟩)))] (Cd 13 (.seq (Sr [Mc 8 1] (.block 0 (.loop (.seq (Sr [Mv 14 8,Bc 15 .leq 14 3] (Cd 15 .skip (.exit 0))) (.seq (.block 1 (Sd [Mv 18 6,Mv 19 6,Oo 20 (.len true (.tmp 19)),Bc 21 .sub 20 1,Oo 22 (.ix (.tmp 18) (.tmp 21)),Mv 23 8,Oo 24 (.ix (.const (.string ⟨#[63,119,115,117]⟩)) (.tmp 23)),Bn 25 .eql 22 24] (Cd 25 (.reg [Mv 26 8,Mv 7 26]) .skip))) (.reg [Mv 16 8,Bc 17 .add 16 1,Mv 8 17])))))) (Sr [Mv 27 6,Mv 28 6,Oo 29 (.len true (.tmp 28)),Bc 30 .sub 29 1,Oo 31 (.ix (.tmp 27) (.tmp 30)),Cl 32 71 [(.tmp 31)],Oo 33 (.un .not (.tmp 32))] (Cd 33 (.seq (Sd [Mv 34 6,Mv 35 6,Oo 36 (.len true (.tmp 35)),Bc 37 .sub 36 1,Oo 38 (.ix (.tmp 34) (.tmp 37)),Mv 39 7,Oo 40 (.ix (.const (.string ⟨#[63,119,115,117]⟩)) (.tmp 39)),Bn 41 .neq 38 40] (Cd 41 (.reg [Mv 42 0,Nk 43 42,Fa 44 1 43,⟨none,none,(.store 1 (.tmp 44) (.const (.bool true)))⟩]) .skip)) (.reg [Mv 45 6,Mv 46 6,Oo 47 (.len true (.tmp 46)),Bc 48 .sub 47 1,Oo 49 (.sls (.tmp 45) none (some (.tmp 48))),Mv 6 49])) .skip))) .skip)) (Sr [Mv 50 0,Mv 51 6,Cl 52 87 [(.tmp 50),(.tmp 51)],Mv 53 7,Mv 4 52,Mv 5 53] .ret)))))
theorem k90:ZaH Tryz.prog 90=some ⟨c90,[(.tmp 4),(.tmp 5)],54⟩:=by kernel_rfl
theorem ZtF : ∀ {l:Bs}{n:Int},(∀ c∈l,digB c.toNat=true)→0≤n→0≤decL n l∧decL n l+1≤(n+1)*10 ^ l.length
 | [],n,h,h0=>by simp [decL];omega
 | c::l,n,h,h0=>by
  have hd:=ZiT (h c (by simp))
  obtain ⟨i1,i2⟩:=ZtF (l:=l) (n:=10*n+c.toNat-48) (fun x hx=>h x (by simp [hx])) (by omega)
  refine ⟨i1,Int.le_trans i2 ?_⟩
  rw [List.length_cons,Int.pow_succ,Int.mul_comm (10 ^ l.length) 10,←Int.mul_assoc]
  exact Int.mul_le_mul_of_nonneg_right (by omega) (by exact_mod_cast Nat.zero_le (10 ^ l.length))
theorem Zn8 {s:ByteArray}{a b n:Int}(h:numV s a b=some n) (hb:b≤4):0≤n∧n<10000∧s.size≤4:=by
 obtain ⟨h1,h2,rfl⟩:=ZiH h
 have hz:s.size≤4:=by unfold wi at h1;simp at h1;omega
 have hl:(aB s).length≤4:=by rw [Zbr];exact hz
 have:=ZtF (l:=aB s) (n:=0) (fun c hc=>ZfZ (l:=aB s) h2 hc) (by omega)
 have hp:(10:Int) ^ (aB s).length≤10000:=by
  obtain ⟨m,hm⟩ : ∃ m,m=(aB s).length:=⟨_,rfl⟩
  rw [←hm] at hl ⊢
  have:m=0∨m=1∨m=2∨m=3∨m=4:=by omega
  rcases this with rfl | rfl | rfl | rfl | rfl <;> decide
 omega
theorem Zil {s:ByteArray}{a b:Int}{t:TS}(hb:b≤4):0≤(tNum s a b t).1∧(tNum s a b t).1<10000:=by
 unfold tNum
 split
 ·rename_i n hn;have:=Zn8 hn hb;exact ⟨this.1,this.2.1⟩
 show (0:Int)≤0∧(0:Int)<10000;decide
theorem Zhi {s:ByteArray}{t:TS}:0≤(tSix s t).1∧(tSix s t).1<10000:=Zil (by omega)
theorem Zqq {l:List ByteArray}{t:TS}(h:l.length=2):Zfs (l.map aB) t=(3600*(tNum l[0] 1 2 t).1+60*(tSix l[1] (tNum l[0] 1 2 t).2).1,(tSix l[1] (tNum l[0] 1 2 t).2).2):=by
 match l,h with
 | [a,b],_=>rfl
theorem Zmc {l:List ByteArray}{t:TS}(h:l.length=3):Zfs (l.map aB) t=(3600*(tNum l[0] 1 2 t).1+60*(tSix l[1] (tNum l[0] 1 2 t).2).1+(tSix l[2] (tSix l[1] (tNum l[0] 1 2 t).2).2).1,(tSix l[2] (tSix l[1] (tNum l[0] 1 2 t).2).2).2):=by
 match l,h with
 | [a,b,c],_=>rfl
theorem Zqr {l:List Bs}{t:TS}(h2:l.length≠2) (h3:l.length≠3):Zfs l t=(0,bad t):=by
 unfold Zfs
 split
 ·exact absurd rfl h2
 ·exact absurd rfl h3
 rfl
theorem Zih {s:ByteArray}{t:TS}{id:Nat}{h:AH}(hz:s.size≤24) (h1:h[id]?=some (takE t)):ACalls Tryz.prog 87 [.ptr id 0 0,sv s] h fun x h'=>x=.ret (iv (Zb3 s t).1)∧h'=h.set id (takE (Zb3 s t).2):=by
 have hid:id<h.length:=(List.getElem?_eq_some_iff.1 h1).1
 refine tJ' k87 fun N hn hlt hlA hbd=>?_
 simp only [tb'] at hbd ⊢
 refine ZbG (h1:=h.set id (takE t)++[]) (by rw [ZbU h1]) ?_
 refine wr'<|mv' lki pt<|sn'<|Zam<|wr'<|mv' lk pt<|V' (Zcj lk lks) pt<|sn'<|?_
 refine cd' lk (fun hc1=>?_) (fun hc1=>?_)
 ·have hT:Zb3 s t=(0,t):=if_pos hc1
  refine wr'<|mv' lki pt<|sn'<|Zab<|Zak<|Zag rz<|?_
  exact ⟨_,_,rfl,Zad hn,ZaR hlt ZaU,rfl,by rw [hT],by rw [hT]⟩
 have hT0:Zb3 s t=Zfs (cutC 58 (aB s)) t:=if_neg hc1
 refine Zaf<|Zai<|wr'<|mv' lkn pt5<|Zas<|ZbQ (ALe.own0' (st':=1) (ty:=9) gt5 (hl0 (Zad hn)) pt5 ha0)<|wr'<|mv' lki pt6<|sn'<|Zam<|Zam<|?_
 refine Zar<|mv' lki pt<|sn'<|Zao<|?_
 refine w_lp (ι:=Nat×Nat×List ByteArray×Nat) (fun (x_:Nat×Nat×List ByteArray×Nat)=>match x_ with | ⟨f,i,ps,v⟩=>[(5,.own (N+0) v ps.length),(6,iv (f:Int)),(7,iv (i:Int))]++rn' 11 25) (fun (x_:Nat×Nat×List ByteArray×Nat)=>match x_ with | ⟨f,i,ps,v⟩=>[(0,.mk v 9 1 (rows strC ps))]) (fun (x_:Nat×Nat×List ByteArray×Nat)=>match x_ with | ⟨f,i,ps,v⟩=>i≤s.size+1∧f≤i∧ps.length≤i∧(i≤s.size→clean 58 s f i∧cutC 58 (aB s)=ps.map aB++cutC 58 ((aB s).drop f))∧(i=s.size+1→cutC 58 (aB s)=ps.map aB)) (fun (x_:Nat×Nat×List ByteArray×Nat)=>match x_ with | ⟨f,i,ps,v⟩=>s.size+1-i) (⟨0,0,[],0⟩) (by exact ⟨by omega,by omega,by simp,fun _=>⟨Zdk,rfl⟩,fun h=>by omega⟩) ?_
 rintro ⟨f,i,ps,v⟩ hi1
 try simp only [sm',Nat.reduceAdd]
 obtain ⟨hk1,hk2,hk3,hk4,hk5⟩:=hi1
 refine Zam<|wr'<|mv' lk pt<|mv' lk pt<|V' (Zbi lk) pt<|V' (ZeT lk lk) pt<|sn'<|?_
 refine cd' lk (fun hc2=>?_) (fun hc2=>?_)
 ·have hi:i≤s.size:=by omega
  obtain ⟨hk6,hk7⟩:=hk4 hi
  refine Zaf<|Zai<|Zam<|Zao<|wr'<|mv' lk pt<|mv' lk pt<|V' (Zbi lk) pt<|V' (ZaX lk lk) pt<|mv' lk pt<|?_
  refine sp' (t:=21) gt pt pt (fun hg21=>?_) (fun hg21=>?_)
  ·have hie:i=s.size:=by omega
   have hseg:cutC 58 (aB s)=(ps++[s.extract f i]).map aB:=by rw [hk7,Znb hk6 hk2 hie];simp
   refine s_no gt pt<|s_no gt pt<|s_no gt pt<|s_no gt pt<|V' (Zaj lk lkb) pt<|sn'<|ZaG lk<|wr'<|mv' lk pt<|mv' lk pt<|mv' lk pt<|mv' lk pt<|?_
   refine V' (Zd6 lk (oi lk) (oi lk) (by omega) (by omega) (by omega)) pt ?_
   refine E' (Zeh (ZhQ (cvl lk rfl) rfl) (hl1 (Zad hn)) ha1) pt ?_
   refine E' (Zej (Zc9 lk (hga (Zad hn) rfl) rfl Znk (nb' rfl)) lk (hga (Zad hn) rfl) (ZdK _) (by omega) rfl (hs0 (Zad hn))) pt ?_
   refine mv' lk pt<|sn'<|Zar<|mv' lk pt<|?_
   refine V' (ZaE lk lki (by omega) (by omega)) pt ?_
   refine mv' lk pt<|Zas<|ZaF<|Zai<|Zar<|mv' lk pt<|?_
   refine V' (ZaE lk lki (by omega) (by omega)) pt ?_
   refine mv' lk pt<|Zas<|ZaI<|?_
   refine lU' (⟨i+1,i+1,ps++[s.extract f i],v+1⟩) (by (try dsimp only);exact ⟨by omega,by omega,by simp;omega,fun h=>by omega,fun _=>hseg⟩) (by (try dsimp only);(try simp only [sm',Nat.reduceAdd]);exact bkE' 1 (Zad hn) (ZaR hlt ZaU) (by repeat (first | exact wk0 | refine wka ?_ | refine wk1 rfl ?_ | refine wk1 (by first | rfl | exact ivx (by omega) | (simp;done)) ?_)) (by simp only [Zbo,Zbv,strC];rfl))
  have hilt:i<s.size:=by omega
  refine s_do gt<|mv' lk pt<|s_do gt<|mv' lk pt<|s_do gt<|?_
  refine V' (v_ix lk lk (by omega) (by omega)) pt ?_
  refine s_do gt<|V' (ZaX lk lki) pt<|V' (Zah lk lk) pt<|sn'<|?_
  refine cd' lk (fun hc3=>?_) (fun hc3=>?_)
  ·have hx:Zaz s i=58:=Zi2 (n:=58) (by omega) hc3
   have hseg:cutC 58 (aB s)=(ps++[s.extract f i]).map aB++cutC 58 ((aB s).drop (i+1)):=by rw [hk7,Zqf hk6 hk2 hilt hx];simp
   refine wr'<|mv' lk pt<|mv' lk pt<|mv' lk pt<|mv' lk pt<|?_
   refine V' (Zd6 lk (oi lk) (oi lk) (by omega) (by omega) (by omega)) pt ?_
   refine E' (Zeh (ZhQ (cvl lk rfl) rfl) (hl1 (Zad hn)) ha1) pt ?_
   refine E' (Zej (Zc9 lk (hga (Zad hn) rfl) rfl Znk (nb' rfl)) lk (hga (Zad hn) rfl) (ZdK _) (by omega) rfl (hs0 (Zad hn))) pt ?_
   refine mv' lk pt<|sn'<|Zar<|mv' lk pt<|?_
   refine V' (ZaE lk lki (by omega) (by omega)) pt ?_
   refine mv' lk pt<|Zas<|ZaF<|Zai<|Zar<|mv' lk pt<|?_
   refine V' (ZaE lk lki (by omega) (by omega)) pt ?_
   refine mv' lk pt<|Zas<|ZaI<|?_
   refine lU' (⟨i+1,i+1,ps++[s.extract f i],v+1⟩) (by (try dsimp only);exact ⟨by omega,by omega,by simp;omega,fun h=>⟨Zdk,hseg⟩,fun h=>by omega⟩) (by (try dsimp only);(try simp only [sm',Nat.reduceAdd]);exact bkE' 1 (Zad hn) (ZaR hlt ZaU) (by repeat (first | exact wk0 | refine wka ?_ | refine wk1 rfl ?_ | refine wk1 (by first | rfl | exact ivx (by omega) | (simp;done)) ?_)) (by simp only [Zbo,Zbv,strC];rfl))
  have hx:Zaz s i≠58:=ZlC (n:=58) (by omega) hc3
  refine Zaf<|ZaF<|Zai<|Zar<|mv' lk pt<|?_
  refine V' (ZaE lk lki (by omega) (by omega)) pt ?_
  refine mv' lk pt<|Zas<|ZaI<|?_
  refine lU' (⟨f,i+1,ps,v⟩) (by (try dsimp only);exact ⟨by omega,by omega,by omega,fun h=>⟨Zqi hk6 hk2 hilt hx,hk7⟩,fun h=>by omega⟩) (by (try dsimp only);(try simp only [sm',Nat.reduceAdd]);exact ALe.same (by repeat (first | exact wk0 | refine wka ?_ | refine wk1 rfl ?_ | refine wk1 (by first | rfl | exact ivx (by omega) | (simp;done)) ?_)) rfl)
 have hC:=hk5 (by omega)
 rw [hC] at hT0
 have hps:ps.length≤25:=by omega
 refine Za0<|ZaO<|ZaO<|Zbp<|Zai<|Zam<|wr'<|mv' lk pt<|V' (Zdr lk) pt<|V' (Za6 lk lki) pt<|mv' lk pt<|?_
 refine sp' (t:=39) gt pt pt (fun hg39=>?_) (fun hg39=>?_)
 ·refine s_do gt<|mv' lk pt<|s_do gt<|V' (Zdr lk) pt<|s_do gt<|V' (Za6 lk lki) pt<|V' (Zaj lk lk) pt<|sn'<|?_
  refine cd' lk (fun hc4=>?_) (fun hc4=>?_)
  ·rw [Zqr (by rw [List.length_map];omega) (by rw [List.length_map];omega)] at hT0
   refine wr'<|mv' lk pt<|V' (ZaD lk) pt<|V' (Zaa lk) pt<|E' (Zal lk (cvl lkb rfl) (ZaC hid) rfl (nb' rfl) rfl Zks (Zax hid)) ptn<|sn'<|wr'<|mv' lki pt<|sn'<|Zab<|?_
   refine Zak<|Zag rz<|?_
   exact ⟨_,_,rfl,Zad hn,ZaR hlt ZaU,rfl,by rw [hT0],by rw [hT0]⟩
  have hl3:ps.length=3:=by omega
  have hl0:2≤ps.length:=by omega
  rw [Zmc hl3] at hT0
  refine Zaf ?_
  refine ZbQ (ALe.iceR (hga (Zad hn) rfl) gt5 (List.take_of_length_le (by rw [Zbw Za2];first | exact Nat.le_refl _ | omega)) (by rw [Zbw Za2];first | exact Nat.le_refl _ | omega) pt5 (hs0 (Zad hn))) ?_
  refine Zam<|Zco<|u_fr rfl (v_mv lk) pt<|u_fr rfl (v_mv lk) pt<|?_
  refine u_fr rfl (Zbg (k:=0) lk lki Za2 (nb' rfl) ro (by omega) ro rfl) pt ?_
  refine u_fr rfl (ZaZ lk gt) pt ?_
  refine ZdH mp (ZaC hid) (fun hU hUe=>Zek (by omega) hUe) nh (Zax hid) pt ?_
  have hb1:=Zil (s:=ps[0]) (a:=1) (b:=2) (t:=t) (by omega)
  refine u_fr rfl (Zge lki lk (by omega) (by omega)) pt ?_
  refine u_fr rfl (v_mv lk) pt<|u_fr rfl (v_mv lk) pt<|?_
  refine u_fr rfl (Zbg (k:=1) lk lki Za2 (nb' rfl) ro (by omega) ro rfl) pt ?_
  refine u_fr rfl (ZaZ lk gt) pt ?_
  refine ZdH mp (ZaC hid) (fun hU hUe=>ZrZ hUe) nh (Zax hid) pt ?_
  have hb2:=Zhi (s:=ps[1]) (t:=(tNum ps[0] 1 2 t).2)
  refine u_fr rfl (Zge lki lk (by omega) (by omega)) pt ?_
  refine u_fr rfl (ZaE lk lk (by omega) (by omega)) pt ?_
  refine u_fr rfl (v_mv lk) pt<|Zds<|Zai<|Zam<|wr'<|mv' lk pt<|V' (ZaK lk) pt<|V' (ZaX lk lki) pt<|sn'<|?_
  refine ZcW lk (by simp [hl3]) ?_
  refine Zar<|mv' lk pt<|mv' lk pt<|mv' lk pt<|?_
  refine V' (Zbg (k:=2) lk lki Za2 (nb' rfl) ro (by omega) ro rfl) pt ?_
  refine V' (ZaZ lk gt) pt<|ZaA mp (ZrZ (ZaC hid)) (Zax hid) pt<|?_
  have hb3:=Zhi (s:=ps[2]) (t:=(tSix ps[1] (tNum ps[0] 1 2 t).2).2)
  refine V' (ZaE lk lk (by omega) (by omega)) pt ?_
  refine mv' lk pt<|sn'<|wr'<|mv' lk pt<|mv' lk pt<|sn'<|Zab<|Zag rz<|?_
  exact ⟨_,_,rfl,Zad hn,ZaR hlt ZaU,rfl,by rw [hT0] <;> rfl,by rw [hT0] <;> rfl⟩
 have hl2:ps.length=2:=by omega
 have hl0:2≤ps.length:=by omega
 rw [Zqq hl2] at hT0
 refine s_no gt pt<|s_no gt pt<|s_no gt pt<|V' (Zah lk lkb) pt<|sn'<|ZaY lk<|Zaf<|?_
 refine ZbQ (ALe.iceR (hga (Zad hn) rfl) gt5 (List.take_of_length_le (by rw [Zbw Za2];first | exact Nat.le_refl _ | omega)) (by rw [Zbw Za2];first | exact Nat.le_refl _ | omega) pt5 (hs0 (Zad hn))) ?_
 refine Zam<|Zco<|u_fr rfl (v_mv lk) pt<|u_fr rfl (v_mv lk) pt<|?_
 refine u_fr rfl (Zbg (k:=0) lk lki Za2 (nb' rfl) ro (by omega) ro rfl) pt ?_
 refine u_fr rfl (ZaZ lk gt) pt ?_
 refine ZdH mp (ZaC hid) (fun hU hUe=>Zek (by omega) hUe) nh (Zax hid) pt ?_
 have hb1:=Zil (s:=ps[0]) (a:=1) (b:=2) (t:=t) (by omega)
 refine u_fr rfl (Zge lki lk (by omega) (by omega)) pt ?_
 refine u_fr rfl (v_mv lk) pt<|u_fr rfl (v_mv lk) pt<|?_
 refine u_fr rfl (Zbg (k:=1) lk lki Za2 (nb' rfl) ro (by omega) ro rfl) pt ?_
 refine u_fr rfl (ZaZ lk gt) pt ?_
 refine ZdH mp (ZaC hid) (fun hU hUe=>ZrZ hUe) nh (Zax hid) pt ?_
 have hb2:=Zhi (s:=ps[1]) (t:=(tNum ps[0] 1 2 t).2)
 refine u_fr rfl (Zge lki lk (by omega) (by omega)) pt ?_
 refine u_fr rfl (ZaE lk lk (by omega) (by omega)) pt ?_
 refine u_fr rfl (v_mv lk) pt<|Zds<|Zai<|Zam<|wr'<|mv' lk pt<|V' (ZaK lk) pt<|V' (ZaX lk lki) pt<|sn'<|?_
 refine ZcD lk (by simp [hl2]) ?_
 refine Zaf<|Zai<|wr'<|mv' lk pt<|mv' lk pt<|sn'<|Zab<|Zag rz<|?_
 exact ⟨_,_,rfl,Zad hn,ZaR hlt ZaU,rfl,by rw [hT0] <;> rfl,by rw [hT0] <;> rfl⟩
theorem ZdI {t t1:TS}{s:ByteArray}{id:Nat}{h:AH}(he:Za1 t=(s,t1)) (h1:h[id]?=some (takE t)):ACalls Tryz.prog 49 [.ptr id 0 0] h fun x h'=>x=.ret (sv s)∧h'=h.set id (takE t1):=by
 have:=ZnK h1
 rw [he] at this
 exact this
theorem ZfW {s:ByteArray}{k:Nat}{n:Int}(h:¬((Zaz s (k:Int).toNat).toNat:Int)=n):ZbF s k≠n:=h
theorem tform_a {t:TS}{id:Nat}{h:AH}(hz:(Za1 t).1.size≤24) (h1:h[id]?=some (takE t)):ACalls Tryz.prog 91 [.ptr id 0 0] h fun x h'=>x=.ret (.agg [iv (Zhj t).1.1,iv (Zhj t).1.2.1,iv (Zhj t).1.2.2])∧h'=h.set id (takE (Zhj t).2):=by
 have hid:id<h.length:=(List.getElem?_eq_some_iff.1 h1).1
 obtain ⟨s,t1,he⟩ : ∃ s t1,Za1 t=(s,t1):=⟨_,_,rfl⟩
 have hF:Zhj t=Zcg s t1:=by unfold Zhj;rw [he]
 rw [he] at hz
 replace hz:s.size≤24:=hz
 obtain ⟨q,hq⟩ : ∃ q,q=ZbR s:=⟨_,rfl⟩
 have hK:ZbR s=if 4≤s.size∧s.extract 0 4=bA [108,97,115,116] then 2 else if 5<s.size∧ZbF s 4=61∧ZbF s 3=62 then 3 else if 5<s.size∧ZbF s 4=61∧ZbF s 3=60 then 4 else 1:=rfl
 refine tJ' k91 fun N hn hlt hlA hbd=>?_
 simp only [tb'] at hbd ⊢
 refine ZbG (h1:=h.set id (takE t)++[]) (by rw [ZbU h1]) ?_
 refine wr'<|E' (Zbq (hl0 (Zad hn)) ha0) pt<|sn'<|wr'<|mv' lk pt<|ZaA mp (ZdI he (ZaC hid)) (Zax hid) pt<|mv' lk pt<|sn'<|Zam<|Zam<|?_
 refine Zar<|mv' lk pt<|V' (Zbi lk) pt<|V' (Zie lk lki) pt<|mv' lk pt<|?_
 refine sp' (t:=10) gt pt pt (fun hg10=>?_) (fun hg10=>?_)
 ·refine s_do gt<|mv' lk pt<|s_do gt<|?_
  refine V' (Zd6 lk on_ (oi lki) (by omega) (by omega) (by omega)) pt ?_
  refine s_do gt<|V' (Zcj lk lks) pt<|V' (Zaj lk lk) pt<|sn'<|?_
  refine cd' lk (fun hc1=>?_) (fun hc1=>?_)
  ·have hk:ZbR s=2:=by rw [hK];exact if_pos ⟨by omega,hc1⟩
   have hT:Zhj t=((2,(ZeD (s.extract 4 s.size) t1).1,0),(ZeD (s.extract 4 s.size) t1).2):=by rw [hF];unfold Zcg;rw [if_pos hk]
   refine wr'<|mv' lk pt<|mv' lk pt<|?_
   refine V' (Zd6 lk (oi lki) on_ (by omega) (by omega) (by omega)) pt ?_
   refine ZaA mp (Zig (ZaC hid)) (Zax hid) pt<|V' (ZaB (Znl (cvl lki rfl) rfl (cvl lk rfl) rfl)) pt<|E' (Zal lk (cvl lk rfl) (hga (Zad hn) rfl) rfl (nb' rfl) rfl ZbI (hs0 (Zad hn))) ptn<|sn'<|Zab<|Zak<|Zag (rs1 (rr_c gt (hga (Zad hn) rfl) (ld1 ZbH rfl)))<|?_
   exact ⟨_,_,rfl,Zad hn,ZaR hlt ZaU,rfl,by rw [hT] <;> rfl,by rw [hT] <;> rfl⟩
  have hn2:¬(4≤s.size∧s.extract 0 4=bA [108,97,115,116]):=fun e=>hc1 e.2
  rw [if_neg hn2] at hK
  refine Zaf<|Zai<|Zam<|wr'<|mv' lk pt<|V' (Zbi lk) pt<|V' (ZbN lk lki) pt<|mv' lk pt<|?_
  refine sp' (t:=23) gt pt pt (fun hg23=>?_) (fun hg23=>?_)
  ·refine s_do gt<|mv' lk pt<|s_do gt<|?_
   refine V' (v_ix lk lki (by omega) (by omega)) pt ?_
   refine s_do gt<|V' (ZaX lk lki) pt<|V' (Zaj lk lk) pt<|mv' lk pt<|?_
   refine sp' (t:=28) gt pt pt (fun hg28=>?_) (fun hg28=>?_)
   ·refine s_do gt<|mv' lk pt<|s_do gt<|?_
    refine V' (v_ix lk lki (by omega) (by omega)) pt ?_
    refine s_do gt<|V' (ZaX lk lki) pt<|s_do gt<|mv' lk pt<|?_
    refine sp' (t:=32) gt pt pt (fun hg32=>?_) (fun hg32=>?_)
    ·have hk:ZbR s=3:=by rw [hK];exact if_pos ⟨by omega,hg28,hg32⟩
     refine s_no gt pt<|s_no gt pt<|s_no gt pt<|s_do gt<|V' (Zaj lk lkb) pt<|V' (Zaj lk lk) pt<|sn'<|ZaG lk<|Zam<|Zco<|u_fr rfl (v_mv lk) pt<|u_fr rfl (v_mv lk) pt<|?_
     refine u_fr rfl (Zd6 lk on_ (oi lki) (by omega) (by omega) (by omega)) pt ?_
     refine ZdH mp (ZaC hid) (fun hU hUe=>Zig hUe) nh (Zax hid) pt ?_
     refine u_fr rfl (v_mv lk) pt<|u_fr rfl (v_mv lk) pt<|?_
     refine u_fr rfl (Zd6 lk (oi lki) on_ (by omega) (by omega) (by omega)) pt ?_
     refine ZdH mp (ZaC hid) (fun hU hUe=>Zek (by omega) hUe) nh (Zax hid) pt ?_
     refine u_fr rfl (ZaB (Zeu (cvl lki rfl) rfl (cvl lk rfl) rfl (cvl lk rfl) rfl)) pt ?_
     refine u_al rfl (Zbq (hl1 (Zad hn)) ha1) (hl1 (Zad hn)) nh pt ?_
     refine u_st (Zal lk (cvl lk rfl) (hga (Zad hn) rfl) rfl (nb' rfl) rfl ZbI (hs1 (Zad hn))) lk nh ptn ?_
     refine Zds<|Zai<|Zam<|wr'<|mv' lk pt<|?_
     refine V' (v_ix lk lki (by omega) (by omega)) pt ?_
     refine V' (ZaX lk lki) pt<|sn'<|?_
     refine ZcD lk (by exact decide_eq_false (by rw [hg32];decide)) ?_
     refine Zaf<|Zai<|wr'<|V' (Zau lk (hga (Zad hn) rfl) ZbH rfl) pt<|E' (Zal lk (cvl lk rfl) (hga (Zad hn) rfl) rfl (nb' rfl) rfl ZbI (hs0 (Zad hn))) ptn<|sn'<|Zab<|Zak<|Zag (rs1 (rr_c gt (hga (Zad hn) rfl) (ld1 ZbH rfl)))<|?_
     exact ⟨_,_,rfl,Zad hn,ZaR hlt ZaU,rfl,by rw [hF];unfold Zcg;rw [hk] <;> rfl,by rw [hF];unfold Zcg;rw [hk] <;> rfl⟩
    have h3:ZbF s 3≠62:=ZfW hg32
    refine s_do gt<|mv' lk pt<|s_do gt<|?_
    refine V' (v_ix lk lki (by omega) (by omega)) pt ?_
    refine s_do gt<|V' (ZaX lk lki) pt<|s_do gt<|V' (Zah lk lk) pt<|V' (Zaj lk lk) pt<|sn'<|?_
    refine cd' lk (fun hc2=>?_) (fun hc2=>?_)
    ·have hk:ZbR s=4:=by rw [hK,if_neg (fun e=>h3 e.2.2)];exact if_pos ⟨by omega,hg28,hc2⟩
     refine Zam<|Zco<|u_fr rfl (v_mv lk) pt<|u_fr rfl (v_mv lk) pt<|?_
     refine u_fr rfl (Zd6 lk on_ (oi lki) (by omega) (by omega) (by omega)) pt ?_
     refine ZdH mp (ZaC hid) (fun hU hUe=>Zig hUe) nh (Zax hid) pt ?_
     refine u_fr rfl (v_mv lk) pt<|u_fr rfl (v_mv lk) pt<|?_
     refine u_fr rfl (Zd6 lk (oi lki) on_ (by omega) (by omega) (by omega)) pt ?_
     refine ZdH mp (ZaC hid) (fun hU hUe=>Zek (by omega) hUe) nh (Zax hid) pt ?_
     refine u_fr rfl (ZaB (Zeu (cvl lki rfl) rfl (cvl lk rfl) rfl (cvl lk rfl) rfl)) pt ?_
     refine u_al rfl (Zbq (hl1 (Zad hn)) ha1) (hl1 (Zad hn)) nh pt ?_
     refine u_st (Zal lk (cvl lk rfl) (hga (Zad hn) rfl) rfl (nb' rfl) rfl ZbI (hs1 (Zad hn))) lk nh ptn ?_
     refine Zds<|Zai<|Zam<|wr'<|mv' lk pt<|?_
     refine V' (v_ix lk lki (by omega) (by omega)) pt ?_
     refine V' (ZaX lk lki) pt<|sn'<|?_
     refine ZcW lk (by exact decide_eq_true hc2) ?_
     refine Zar<|V' (Zaa lk) pt<|E' (Zal lk (cvl lki rfl) (hga (Zad hn) rfl) rfl (nb' rfl) rfl Zkt (hs1 (Zad hn))) ptn<|sn'<|wr'<|V' (Zau lk (hga (Zad hn) rfl) ZbH rfl) pt<|E' (Zal lk (cvl lk rfl) (hga (Zad hn) rfl) rfl (nb' rfl) rfl ZbI (hs0 (Zad hn))) ptn<|sn'<|Zab<|Zak<|Zag (rs1 (rr_c gt (hga (Zad hn) rfl) (ld1 ZbH rfl)))<|?_
     exact ⟨_,_,rfl,Zad hn,ZaR hlt ZaU,rfl,by rw [hF];unfold Zcg;rw [hk] <;> rfl,by rw [hF];unfold Zcg;rw [hk] <;> rfl⟩
    have h3':ZbF s 3≠60:=ZfW hc2
    have hk:ZbR s=1:=by rw [hK,if_neg (fun e=>h3 e.2.2),if_neg (fun e=>h3' e.2.2)]
    refine Zaf<|Zai<|wr'<|mv' lk pt<|mv' lk pt<|?_
    refine ZaA mp (Zek (by omega) (ZaC hid)) (Zax hid) pt ?_
    refine V' (ZaB (Zc5 (cvl lki rfl) rfl (cvl lk rfl) rfl)) pt<|E' (Zal lk (cvl lk rfl) (hga (Zad hn) rfl) rfl (nb' rfl) rfl ZbI (hs0 (Zad hn))) ptn<|sn'<|Zab<|Zag (rs1 (rr_c gt (hga (Zad hn) rfl) (ld1 ZbH rfl)))<|?_
    exact ⟨_,_,rfl,Zad hn,ZaR hlt ZaU,rfl,by rw [hF];unfold Zcg;rw [hk] <;> rfl,by rw [hF];unfold Zcg;rw [hk] <;> rfl⟩
   have h4:ZbF s 4≠61:=ZfW hg28
   have hk:ZbR s=1:=by rw [hK,if_neg (fun e=>h4 e.2.1),if_neg (fun e=>h4 e.2.1)]
   refine s_no gt pt<|s_no gt pt<|s_no gt pt<|s_no gt pt<|s_nu gt pt<|s_nu gt pt<|s_nu gt pt<|s_no gt pt<|V' (Zah lk lkb) pt<|sn'<|ZaY lk<|Zaf<|Zai<|?_
   refine wr'<|mv' lk pt<|mv' lk pt<|?_
   refine ZaA mp (Zek (by omega) (ZaC hid)) (Zax hid) pt ?_
   refine V' (ZaB (Zc5 (cvl lki rfl) rfl (cvl lk rfl) rfl)) pt<|E' (Zal lk (cvl lk rfl) (hga (Zad hn) rfl) rfl (nb' rfl) rfl ZbI (hs0 (Zad hn))) ptn<|sn'<|Zab<|Zag (rs1 (rr_c gt (hga (Zad hn) rfl) (ld1 ZbH rfl)))<|?_
   exact ⟨_,_,rfl,Zad hn,ZaR hlt ZaU,rfl,by rw [hF];unfold Zcg;rw [hk] <;> rfl,by rw [hF];unfold Zcg;rw [hk] <;> rfl⟩
  have hk:ZbR s=1:=by rw [hK,if_neg (by omega),if_neg (by omega)]
  refine s_no gt pt<|s_no gt pt<|s_no gt pt<|V' (Zah lk lkb) pt<|mv' lk pt<|s_no gt pt<|s_no gt pt<|s_no gt pt<|s_no gt pt<|s_nu gt pt<|s_nu gt pt<|s_nu gt pt<|s_no gt pt<|V' (Zah lk lkb) pt<|?_
  refine sn'<|ZaY lk<|Zaf<|Zai<|wr'<|mv' lk pt<|mv' lk pt<|?_
  refine ZaA mp (Zek (by omega) (ZaC hid)) (Zax hid) pt ?_
  refine V' (ZaB (Zc5 (cvl lki rfl) rfl (cvl lk rfl) rfl)) pt<|E' (Zal lk (cvl lk rfl) (hga (Zad hn) rfl) rfl (nb' rfl) rfl ZbI (hs0 (Zad hn))) ptn<|sn'<|Zab<|Zag (rs1 (rr_c gt (hga (Zad hn) rfl) (ld1 ZbH rfl)))<|?_
  exact ⟨_,_,rfl,Zad hn,ZaR hlt ZaU,rfl,by rw [hF];unfold Zcg;rw [hk] <;> rfl,by rw [hF];unfold Zcg;rw [hk] <;> rfl⟩
 have hn2:¬(4≤s.size∧s.extract 0 4=bA [108,97,115,116]):=fun e=>by omega
 rw [if_neg hn2] at hK
 refine s_no gt pt<|s_no gt pt<|s_no gt pt<|V' (Zah lk lkb) pt<|sn'<|ZaY lk<|Zaf<|Zai<|Zam<|wr'<|mv' lk pt<|V' (Zbi lk) pt<|?_
 refine V' (ZbN lk lki) pt<|mv' lk pt<|?_
 refine sp' (t:=23) gt pt pt (fun hg23=>?_) (fun hg23=>?_)
 ·refine s_do gt<|mv' lk pt<|s_do gt<|?_
  refine V' (v_ix lk lki (by omega) (by omega)) pt ?_
  refine s_do gt<|V' (ZaX lk lki) pt<|V' (Zaj lk lk) pt<|mv' lk pt<|?_
  refine sp' (t:=28) gt pt pt (fun hg28=>?_) (fun hg28=>?_)
  ·refine s_do gt<|mv' lk pt<|s_do gt<|?_
   refine V' (v_ix lk lki (by omega) (by omega)) pt ?_
   refine s_do gt<|V' (ZaX lk lki) pt<|s_do gt<|mv' lk pt<|?_
   refine sp' (t:=32) gt pt pt (fun hg32=>?_) (fun hg32=>?_)
   ·have hk:ZbR s=3:=by rw [hK];exact if_pos ⟨by omega,hg28,hg32⟩
    refine s_no gt pt<|s_no gt pt<|s_no gt pt<|s_do gt<|V' (Zaj lk lkb) pt<|V' (Zaj lk lk) pt<|sn'<|ZaG lk<|Zam<|Zco<|u_fr rfl (v_mv lk) pt<|u_fr rfl (v_mv lk) pt<|?_
    refine u_fr rfl (Zd6 lk on_ (oi lki) (by omega) (by omega) (by omega)) pt ?_
    refine ZdH mp (ZaC hid) (fun hU hUe=>Zig hUe) nh (Zax hid) pt ?_
    refine u_fr rfl (v_mv lk) pt<|u_fr rfl (v_mv lk) pt<|?_
    refine u_fr rfl (Zd6 lk (oi lki) on_ (by omega) (by omega) (by omega)) pt ?_
    refine ZdH mp (ZaC hid) (fun hU hUe=>Zek (by omega) hUe) nh (Zax hid) pt ?_
    refine u_fr rfl (ZaB (Zeu (cvl lki rfl) rfl (cvl lk rfl) rfl (cvl lk rfl) rfl)) pt ?_
    refine u_al rfl (Zbq (hl1 (Zad hn)) ha1) (hl1 (Zad hn)) nh pt ?_
    refine u_st (Zal lk (cvl lk rfl) (hga (Zad hn) rfl) rfl (nb' rfl) rfl ZbI (hs1 (Zad hn))) lk nh ptn ?_
    refine Zds<|Zai<|Zam<|wr'<|mv' lk pt<|?_
    refine V' (v_ix lk lki (by omega) (by omega)) pt ?_
    refine V' (ZaX lk lki) pt<|sn'<|?_
    refine ZcD lk (by exact decide_eq_false (by rw [hg32];decide)) ?_
    refine Zaf<|Zai<|wr'<|V' (Zau lk (hga (Zad hn) rfl) ZbH rfl) pt<|E' (Zal lk (cvl lk rfl) (hga (Zad hn) rfl) rfl (nb' rfl) rfl ZbI (hs0 (Zad hn))) ptn<|sn'<|Zab<|Zak<|Zag (rs1 (rr_c gt (hga (Zad hn) rfl) (ld1 ZbH rfl)))<|?_
    exact ⟨_,_,rfl,Zad hn,ZaR hlt ZaU,rfl,by rw [hF];unfold Zcg;rw [hk] <;> rfl,by rw [hF];unfold Zcg;rw [hk] <;> rfl⟩
   have h3:ZbF s 3≠62:=ZfW hg32
   refine s_do gt<|mv' lk pt<|s_do gt<|?_
   refine V' (v_ix lk lki (by omega) (by omega)) pt ?_
   refine s_do gt<|V' (ZaX lk lki) pt<|s_do gt<|V' (Zah lk lk) pt<|V' (Zaj lk lk) pt<|sn'<|?_
   refine cd' lk (fun hc2=>?_) (fun hc2=>?_)
   ·have hk:ZbR s=4:=by rw [hK,if_neg (fun e=>h3 e.2.2)];exact if_pos ⟨by omega,hg28,hc2⟩
    refine Zam<|Zco<|u_fr rfl (v_mv lk) pt<|u_fr rfl (v_mv lk) pt<|?_
    refine u_fr rfl (Zd6 lk on_ (oi lki) (by omega) (by omega) (by omega)) pt ?_
    refine ZdH mp (ZaC hid) (fun hU hUe=>Zig hUe) nh (Zax hid) pt ?_
    refine u_fr rfl (v_mv lk) pt<|u_fr rfl (v_mv lk) pt<|?_
    refine u_fr rfl (Zd6 lk (oi lki) on_ (by omega) (by omega) (by omega)) pt ?_
    refine ZdH mp (ZaC hid) (fun hU hUe=>Zek (by omega) hUe) nh (Zax hid) pt ?_
    refine u_fr rfl (ZaB (Zeu (cvl lki rfl) rfl (cvl lk rfl) rfl (cvl lk rfl) rfl)) pt ?_
    refine u_al rfl (Zbq (hl1 (Zad hn)) ha1) (hl1 (Zad hn)) nh pt ?_
    refine u_st (Zal lk (cvl lk rfl) (hga (Zad hn) rfl) rfl (nb' rfl) rfl ZbI (hs1 (Zad hn))) lk nh ptn ?_
    refine Zds<|Zai<|Zam<|wr'<|mv' lk pt<|?_
    refine V' (v_ix lk lki (by omega) (by omega)) pt ?_
    refine V' (ZaX lk lki) pt<|sn'<|?_
    refine ZcW lk (by exact decide_eq_true hc2) ?_
    refine Zar<|V' (Zaa lk) pt<|E' (Zal lk (cvl lki rfl) (hga (Zad hn) rfl) rfl (nb' rfl) rfl Zkt (hs1 (Zad hn))) ptn<|sn'<|wr'<|V' (Zau lk (hga (Zad hn) rfl) ZbH rfl) pt<|E' (Zal lk (cvl lk rfl) (hga (Zad hn) rfl) rfl (nb' rfl) rfl ZbI (hs0 (Zad hn))) ptn<|sn'<|Zab<|Zak<|Zag (rs1 (rr_c gt (hga (Zad hn) rfl) (ld1 ZbH rfl)))<|?_
    exact ⟨_,_,rfl,Zad hn,ZaR hlt ZaU,rfl,by rw [hF];unfold Zcg;rw [hk] <;> rfl,by rw [hF];unfold Zcg;rw [hk] <;> rfl⟩
   have h3':ZbF s 3≠60:=ZfW hc2
   have hk:ZbR s=1:=by rw [hK,if_neg (fun e=>h3 e.2.2),if_neg (fun e=>h3' e.2.2)]
   refine Zaf<|Zai<|wr'<|mv' lk pt<|mv' lk pt<|?_
   refine ZaA mp (Zek (by omega) (ZaC hid)) (Zax hid) pt ?_
   refine V' (ZaB (Zc5 (cvl lki rfl) rfl (cvl lk rfl) rfl)) pt<|E' (Zal lk (cvl lk rfl) (hga (Zad hn) rfl) rfl (nb' rfl) rfl ZbI (hs0 (Zad hn))) ptn<|sn'<|Zab<|Zag (rs1 (rr_c gt (hga (Zad hn) rfl) (ld1 ZbH rfl)))<|?_
   exact ⟨_,_,rfl,Zad hn,ZaR hlt ZaU,rfl,by rw [hF];unfold Zcg;rw [hk] <;> rfl,by rw [hF];unfold Zcg;rw [hk] <;> rfl⟩
  have h4:ZbF s 4≠61:=ZfW hg28
  have hk:ZbR s=1:=by rw [hK,if_neg (fun e=>h4 e.2.1),if_neg (fun e=>h4 e.2.1)]
  refine s_no gt pt<|s_no gt pt<|s_no gt pt<|s_no gt pt<|s_nu gt pt<|s_nu gt pt<|s_nu gt pt<|s_no gt pt<|V' (Zah lk lkb) pt<|sn'<|ZaY lk<|Zaf<|Zai<|?_
  refine wr'<|mv' lk pt<|mv' lk pt<|?_
  refine ZaA mp (Zek (by omega) (ZaC hid)) (Zax hid) pt ?_
  refine V' (ZaB (Zc5 (cvl lki rfl) rfl (cvl lk rfl) rfl)) pt<|E' (Zal lk (cvl lk rfl) (hga (Zad hn) rfl) rfl (nb' rfl) rfl ZbI (hs0 (Zad hn))) ptn<|sn'<|Zab<|Zag (rs1 (rr_c gt (hga (Zad hn) rfl) (ld1 ZbH rfl)))<|?_
  exact ⟨_,_,rfl,Zad hn,ZaR hlt ZaU,rfl,by rw [hF];unfold Zcg;rw [hk] <;> rfl,by rw [hF];unfold Zcg;rw [hk] <;> rfl⟩
 have hk:ZbR s=1:=by rw [hK,if_neg (by omega),if_neg (by omega)]
 refine s_no gt pt<|s_no gt pt<|s_no gt pt<|V' (Zah lk lkb) pt<|mv' lk pt<|s_no gt pt<|s_no gt pt<|s_no gt pt<|s_no gt pt<|s_nu gt pt<|s_nu gt pt<|s_nu gt pt<|s_no gt pt<|V' (Zah lk lkb) pt<|?_
 refine sn'<|ZaY lk<|Zaf<|Zai<|wr'<|mv' lk pt<|mv' lk pt<|?_
 refine ZaA mp (Zek (by omega) (ZaC hid)) (Zax hid) pt ?_
 refine V' (ZaB (Zc5 (cvl lki rfl) rfl (cvl lk rfl) rfl)) pt<|E' (Zal lk (cvl lk rfl) (hga (Zad hn) rfl) rfl (nb' rfl) rfl ZbI (hs0 (Zad hn))) ptn<|sn'<|Zab<|Zag (rs1 (rr_c gt (hga (Zad hn) rfl) (ld1 ZbH rfl)))<|?_
 exact ⟨_,_,rfl,Zad hn,ZaR hlt ZaU,rfl,by rw [hF];unfold Zcg;rw [hk] <;> rfl,by rw [hF];unfold Zcg;rw [hk] <;> rfl⟩
theorem ZpU {c d:Int}(hd:d=1∨d=2) : ∀ k:Nat,k≤3→1≤ZdY c d k∧ZdY c d k≤3
 | 0,_=>by unfold ZdY;omega
 | k+1,h=>by
  have:=ZpU (c:=c) hd k (by omega)
  unfold ZdY
  split <;> omega
theorem tclock_a {d:Int}{t:TS}{id:Nat}{h:AH}(hd:d=1∨d=2) (hz:(Za1 t).1.size≤24) (h1:h[id]?=some (takE t)):ACalls Tryz.prog 90 [.ptr id 0 0,iv d] h fun x h'=>x=.ret (.tup [iv (Zdt d t).1.1,iv (Zdt d t).1.2])∧h'=h.set id (takE (Zdt d t).2):=by
 have hid:id<h.length:=(List.getElem?_eq_some_iff.1 h1).1
 obtain ⟨s,t1,he⟩ : ∃ s t1,Za1 t=(s,t1):=⟨_,_,rfl⟩
 have hF:Zdt d t=ZeA d s t1:=by unfold Zdt;rw [he]
 rw [he] at hz
 replace hz:s.size≤24:=hz
 have hem:=Zes (f:=s)
 have hkb:=ZpU (c:=ZbA s) hd 3 (by omega)
 have hws:(⟨#[63,119,115,117]⟩:ByteArray).size=4:=rfl
 refine tJ' k90 fun N hn hlt hlA hbd=>?_
 simp only [tb'] at hbd ⊢
 refine ZbG (h1:=h.set id (takE t)++[]) (by rw [ZbU h1]) ?_
 refine wr'<|mv' lki pt<|mv' lki pt<|sn'<|wr'<|mv' lk pt<|ZaA mp (ZdI he (ZaC hid)) (Zax hid) pt<|mv' lk pt<|sn'<|Zam<|?_
 refine Zar<|mv' lk pt<|mv' lk pt<|sn'<|Zam<|wr'<|mv' lk pt<|V' (Zcp lk lks) pt<|sn'<|?_
 refine cd' lk (fun hc1=>?_) (fun hc1=>?_)
 ·have h0:s.size≠0:=fun e=>hc1 (hem.2 e)
  have hL:((Zaz s ((s.size:Int)-1).toNat).toNat:Int)=ZbA s:=by unfold ZbA ZbF;congr 2;congr 1;omega
  have hbl:(0:Int)≤((Zaz s ((s.size:Int)-1).toNat).toNat:Int)∧((Zaz s ((s.size:Int)-1).toNat).toNat:Int)≤255:=ZdN _ _
  refine Zam<|wr'<|mv' lki pt<|sn'<|Zao<|?_
  refine w_lp (ι:=Nat) (fun (k:Nat)=>[(7,iv (ZdY (ZbA s) d k)),(8,iv ((k+1:Nat):Int))]++rn' 14 13) (fun (k:Nat)=>[]) (fun (k:Nat)=>k≤3) (fun (k:Nat)=>3-k) (0) (by omega) ?_
  rintro k hi1
  try simp only [sm',Nat.reduceAdd]
  refine Zam<|wr'<|mv' lk pt<|V' (ZeT lk lki) pt<|sn'<|?_
  refine cd' lk (fun hc2=>?_) (fun hc2=>?_)
  ·have hk:k+1≤3:=by omega
   refine Zaf<|Zai<|Zam<|Zao<|Zam<|ZbJ<|D' (v_mv lk) pt<|D' (v_mv lk) pt<|D' (Zbi lk) pt<|?_
   refine D' (ZcC lk lki (by omega) (by omega)) pt ?_
   refine D' (v_ix lk lk (by omega) (by omega)) pt ?_
   refine D' (v_mv lk) pt ?_
   refine D' (v_ix lks lk (by omega) (by omega)) pt ?_
   refine D' (ZaX lk lk) pt<|Zbt<|?_
   refine Zb4 ?_
   refine sn' ?_
   refine cd' lk (fun hc3=>?_) (fun hc3=>?_)
   ·have hkk:ZdY (ZbA s) d (k+1)=((k+1:Nat):Int):=by unfold ZdY;exact if_pos (hL.symm.trans hc3)
    refine Zar<|mv' lk pt<|mv' lk pt<|Zas<|ZaF<|Zai<|Zar<|mv' lk pt<|?_
    refine V' (ZaE lk lki (by omega) (by omega)) pt ?_
    refine mv' lk pt<|Zas<|ZaI<|?_
    refine lU' (k+1) (by (try dsimp only);omega) (by (try dsimp only);(try simp only [sm',Nat.reduceAdd]);exact ALe.same (by repeat (first | exact wk0 | refine wka ?_ | refine wk1 rfl ?_ | refine wk1 (by first | rfl | exact ivx (by omega) | exact ivx hkk.symm) ?_)) rfl)
   have hkk:ZdY (ZbA s) d (k+1)=ZdY (ZbA s) d k:=by rw [ZdY,if_neg (show ¬ZbA s=ZbF wsuA (k+1) from fun e=>hc3 (hL.trans e))]
   refine Zaf<|ZaF<|Zai<|Zar<|mv' lk pt<|?_
   refine V' (ZaE lk lki (by omega) (by omega)) pt ?_
   refine mv' lk pt<|Zas<|ZaI<|?_
   refine lU' (k+1) (by (try dsimp only);omega) (by (try dsimp only);(try simp only [sm',Nat.reduceAdd]);exact ALe.same (by repeat (first | exact wk0 | refine wka ?_ | refine wk1 rfl ?_ | refine wk1 (by first | rfl | exact ivx (by omega) | exact ivx hkk.symm) ?_)) rfl)
  have hk3:k=3:=by omega
  subst hk3
  refine Za0<|ZaO<|ZaO<|Zbp<|Zai<|wr'<|mv' lk pt<|mv' lk pt<|V' (Zbi lk) pt<|?_
  refine V' (ZcC lk lki (by omega) (by omega)) pt ?_
  refine V' (v_ix lk lk (by omega) (by omega)) pt ?_
  refine Zae mp (ZeH hbl.1 hbl.2) pt<|V' (Zav lk) pt<|sn'<|?_
  refine Zaw lk (fun hc4=>?_) (fun hc4=>?_)
  ·have hdg:¬digB (ZbA s)=true:=by rw [←hL];simpa using hc4
   refine Zam<|Zam<|ZbJ<|D' (v_mv lk) pt<|D' (v_mv lk) pt<|D' (Zbi lk) pt<|?_
   refine D' (ZcC lk lki (by omega) (by omega)) pt ?_
   refine D' (v_ix lk lk (by omega) (by omega)) pt ?_
   refine D' (v_mv lk) pt ?_
   refine D' (v_ix lks lk (by omega) (by omega)) pt ?_
   refine D' (Za6 lk lk) pt<|Zbt<|?_
   refine Zb4 ?_
   refine sn' ?_
   refine cd' lk (fun hc5=>?_) (fun hc5=>?_)
   ·have hne:¬ZbA s=ZbF wsuA (ZdY (ZbA s) d 3).toNat:=fun e=>hc5 (hL.trans e)
    have hT:Zdt d t=(((Zb3 (s.extract 0 (s.size-1)) (bad t1)).1,ZdY (ZbA s) d 3),(Zb3 (s.extract 0 (s.size-1)) (bad t1)).2):=by rw [hF];unfold ZeA;rw [if_neg h0,if_neg hdg];simp only [if_neg hne]
    refine Zar<|mv' lk pt<|V' (ZaD lk) pt<|V' (Zaa lk) pt<|E' (Zal lk (cvl lkb rfl) (ZaC hid) rfl (nb' rfl) rfl Zks (Zax hid)) ptn<|sn'<|Zar<|mv' lk pt<|mv' lk pt<|V' (Zbi lk) pt<|?_
    refine V' (ZcC lk lki (by omega) (by omega)) pt ?_
    refine V' (Zd6 lk on_ (oi lk) (by omega) (by omega) (by omega)) pt ?_
    rw [show s.extract (Int.toNat 0) ((s.size:Int)-1).toNat=s.extract 0 (s.size-1) by congr 1;omega]
    refine mv' lk pt<|sn'<|wr'<|mv' lk pt<|mv' lk pt<|?_
    refine ZaA mp (Zih (t:=bad t1) (by first | assumption | (rw [ByteArray.size_extract];omega)) (ZaC hid)) (Zax hid) pt ?_
    refine mv' lk pt<|mv' lk pt<|mv' lk pt<|sn'<|Zab<|Zag ry<|?_
    exact ⟨_,_,rfl,Zad hn,ZaR hlt ZaU,rfl,by rw [hT] <;> rfl,by rw [hT] <;> rfl⟩
   have hne:ZbA s=ZbF wsuA (ZdY (ZbA s) d 3).toNat:=hL.symm.trans (Decidable.of_not_not hc5)
   have hT:Zdt d t=(((Zb3 (s.extract 0 (s.size-1)) t1).1,ZdY (ZbA s) d 3),(Zb3 (s.extract 0 (s.size-1)) t1).2):=by rw [hF];unfold ZeA;rw [if_neg h0,if_neg hdg];simp only [if_pos hne]
   refine Zaf<|Zai<|Zar<|mv' lk pt<|mv' lk pt<|V' (Zbi lk) pt<|?_
   refine V' (ZcC lk lki (by omega) (by omega)) pt ?_
   refine V' (Zd6 lk on_ (oi lk) (by omega) (by omega) (by omega)) pt ?_
   rw [show s.extract (Int.toNat 0) ((s.size:Int)-1).toNat=s.extract 0 (s.size-1) by congr 1;omega]
   refine mv' lk pt<|sn'<|wr'<|mv' lk pt<|mv' lk pt<|?_
   refine ZaA mp (Zih (t:=t1) (by first | assumption | (rw [ByteArray.size_extract];omega)) (ZaC hid)) (Zax hid) pt ?_
   refine mv' lk pt<|mv' lk pt<|mv' lk pt<|sn'<|Zab<|Zag ry<|?_
   exact ⟨_,_,rfl,Zad hn,ZaR hlt ZaU,rfl,by rw [hT] <;> rfl,by rw [hT] <;> rfl⟩
  have hdg:digB (ZbA s)=true:=by rw [←hL];simpa using hc4
  have hT:Zdt d t=(((Zb3 s t1).1,ZdY (ZbA s) d 3),(Zb3 s t1).2):=by rw [hF];unfold ZeA;rw [if_neg h0,if_pos hdg]
  refine Zaf<|Zai<|wr'<|mv' lk pt<|mv' lk pt<|?_
  refine ZaA mp (Zih (t:=t1) (by first | assumption | (rw [ByteArray.size_extract];omega)) (ZaC hid)) (Zax hid) pt ?_
  refine mv' lk pt<|mv' lk pt<|mv' lk pt<|sn'<|Zab<|Zag ry<|?_
  exact ⟨_,_,rfl,Zad hn,ZaR hlt ZaU,rfl,by rw [hT] <;> rfl,by rw [hT] <;> rfl⟩
 have h0:s.size=0:=hem.1 (Decidable.of_not_not hc1)
 have hT:Zdt d t=(((Zb3 s t1).1,d),(Zb3 s t1).2):=by rw [hF];exact if_pos h0
 refine Zaf<|Zai<|wr'<|mv' lk pt<|mv' lk pt<|?_
 refine ZaA mp (Zih (t:=t1) (by first | assumption | (rw [ByteArray.size_extract];omega)) (ZaC hid)) (Zax hid) pt ?_
 refine mv' lk pt<|mv' lk pt<|mv' lk pt<|sn'<|Zab<|Zag ry<|?_
 exact ⟨_,_,rfl,Zad hn,ZaR hlt ZaU,rfl,by rw [hT] <;> rfl,by rw [hT] <;> rfl⟩
end Go.Proofs.YtgjchdhdopgkkaaGreatDoor
end
section
namespace Go.Ab
section
variable {P : Program} {n0 : Nat} {Q : AX → List AV → AH → Prop} {T : List AV} {h : AH} {a : AC}
theorem Zl7 {b:AC}{ι:Type}(f:ι→List (Nat×AV)) (H:ι→AH) (J:ι→Prop) (ha:aw P n0 a (AX.thn (fun T' h' => ∃ i,J i∧ALe n0 T' h' (ZdU T (f i)) (H i)) Q) T h) (hb : ∀ i,J i→aw P n0 b Q (ZdU T (f i)) (H i)):aw P n0 (.seq a b) Q T h :=
 w_seqc (fun i=>(ZdU T (f i),H i)) J ha hb
theorem SimH.renew {w:World}{g:Gh}{h:AH}(hs:SimH w g h) {id v':Nat}(hid:id<h.length) (hb : ∀ ver l,g.loc id ver=some l→ver<v') (A:Option Addr) (ty st:Nat) :
  SimH w (g.add id v' (A,0)) (h.set id (.mk v' ty st []))∧g.le (g.add id v' (A,0)) ∧ ∀ k,Ow (g.add id v' (A,0)) (h.set id (.mk v' ty st [])) k→Ow g h k:=by
 have hloc : ∀ i v l,g.loc i v=some l→(g.add id v' (A,0)).loc i v=some l:=by
  intro i v l hi
  simp only [Gh.add]
  rw [if_neg]
  ·exact hi
  ·rintro ⟨rfl,rfl⟩;exact Nat.lt_irrefl _ (hb _ _ hi)
 have:=hs.put (w':=w) (g':=g.add id v' (A,0)) (h':=h.set id (.mk v' ty st [])) id v' ty st [] A 0 ?_ ?_ ?_ rfl hloc ?_ ?_ (fun v l hl=>Nat.le_of_lt (hb v l hl)) (fun k hk=>rfl) (Nat.le_refl _) (by simp [maxLen]) (.inl ⟨rfl,rfl⟩) (fun _ _ h=>absurd rfl h)
 ·exact ⟨this.1,this.2.1,fun k hk=>(this.2.2 k hk).resolve_right (fun h=>h.2 rfl)⟩
 ·intro i hi
  rw [List.getElem?_set_ne (Ne.symm hi)]
 ·rw [List.getElem?_set_self hid]
 ·simp
 ·intro i v l hi
  simp only [Gh.add] at hi
  split at hi
  ·right;assumption
  ·left;exact hi
 ·simp [Gh.add]
theorem Zmq {h:AH}{i j:Nat}{x y z:Ent}(hne:j≠i):((h.set i x).set j y).set i z=(h.set i z).set j y:=by
 rw [List.set_comm _ _ hne,List.set_set]
theorem ALe.iceCellNew {T:List AV}{h h1 h2:AH}{id j ver ty s n k v' t' s' ty2 st2:Nat}{cells cs cs' ds:List AV}(hi:h[id]?=some (.mk ver ty s cells)) (hj:h[j]?=some (.mk v' t' s' cs)) (hne:j≠id) (hk:cs[k]?=some (.own id ver n)) (hc:cells.take (n*s)=ds) (hl:n*s≤cells.length) (hp:aPut cs (some k) (.sl n s false ds)=cs')
  (e1:h.set id (.mk (ver+1) ty2 st2 [])=h1) (e2:h1.set j (.mk v' t' s' cs')=h2):ALe n0 T h T h2:=fun w0 S0 g0 a w g st=>by
 subst hp hc e1 e2
 have hid:id<h.length:=(List.getElem?_eq_some_iff.1 hi).1
 obtain ⟨h1,h2,h3⟩:=st.sim.ice hi
 have htm:=RepL.mono (g.le_ice h id) (fun _ _=>rfl) _ _ st.tmps
 obtain ⟨k1,k2⟩:=h1.tell (id:=j) (by rw [List.getElem?_set_ne (Ne.symm hne)];exact hj) hk (fun u hu=>h3 n u hl (by
  simp only [Rep] at hu ⊢
  exact hu))
 obtain ⟨r1,r2,r3⟩:=k1.renew (id:=id) (v':=ver+1) (by simpa using hid) (fun v l hv=>by
  have:=(st.sim.fresh id v l hv).2 _ _ _ _ hi
  omega) none ty2 st2
 have htm2:=RepL.mono r2 (fun _ _=>rfl) _ _ htm
 rw [Zmq hne] at r1 r3
 exact ⟨_,htm2,st.defers,r1,st.fr,(st.le.trans (g.le_ice h id)).trans r2,st.bd,fun i hi=>st.ow i (h2 i (k2 i (r3 i hi)))⟩
theorem ALe.own0CellRe {T:List AV}{h h1:AH}{id j ver ty s v' t' s' k st st2 ty2:Nat}{cells cs ds cs':List AV}(hi:h[id]?=some (.mk ver ty s cells)) (hj:h[j]?=some (.mk v' t' s' cs)) (hne:j≠id) (hk:cs[k]?=some (.sl 0 st true ds)) (hp:aPut cs (some k) (.own id (ver+1) 0)=cs') (he:(h.set id (Ent.mk (ver+1) ty2 st2 [])).set j (Ent.mk v' t' s' cs')=h1):ALe n0 T h T h1:=fun w0 S0 g0 a w g s=>by
 subst he hp
 obtain ⟨A1,cap1,l1,l2,l3⟩:=s.sim.ent _ _ _ _ _ hj
 have hid:id<h.length:=(List.getElem?_eq_some_iff.1 hi).1
 have hjl:j<h.length:=(List.getElem?_eq_some_iff.1 hj).1
 rcases l3 with ⟨h0,_⟩ | ⟨b,arr,rfl,x1,x2,x3,x4,x5,x6⟩
 ·rw [h0] at hk;simp at hk
 obtain ⟨u,hu,hr⟩:=x6.get hk
 have hcell:w.cell? ⟨b,k,none⟩=some u:=by
  rw [cell_of_row w b k arr t' (0,0) x3]
  rw [List.getElem?_take] at hu
  split at hu
  ·simpa using hu
  ·cases hu
 simp only [Rep] at hr
 obtain ⟨_,A,cap,rfl,_,_,hc,_,_⟩:=hr
 obtain rfl:cap=0:=(hc trivial).symm
 obtain ⟨q1,q2,q3⟩:=s.sim.renew (id:=id) (v':=ver+1) hid (fun v l hv=>by
  have:=(s.sim.fresh id v l hv).2 _ _ _ _ hi
  omega) A ty2 st2
 have htm:=RepL.mono q2 (fun _ _=>rfl) _ _ s.tmps
 obtain ⟨r1,r2⟩:=q1.tell1 (id:=j) (c':=.own id (ver+1) 0) (by rw [List.getElem?_set_ne (Ne.symm hne)];exact hj) hk (by
  intro b' cap' u' e1 e2 _
  have:=q2.loc _ _ _ l1
  rw [this] at e1
  simp only [Option.some.injEq,Prod.mk.injEq,Addr.mk.injEq] at e1
  obtain ⟨⟨rfl,_⟩,_⟩:=e1
  rw [hcell] at e2
  cases e2
  exact Zcs (Nat.le_refl _) (by simp [maxLen]))
 exact ⟨_,htm,s.defers,r1,s.fr,s.le.trans q2,s.bd,fun i hi=>s.ow i (q3 i (r2 i hi))⟩
theorem ALe.newEnt {T:List AV}{h h1:AH}{ty st:Nat}(he:h++[.mk 0 ty st []]=h1):ALe n0 T h T h1:=fun w0 S0 g0 a w g s=>by
 subst he
 obtain ⟨q1,q2,q3⟩:=s.sim.add0 (w':=w) none ty st (fun _ _=>rfl) (Nat.le_refl _)
 exact ⟨_,RepL.mono q2 (fun _ _=>rfl) _ _ s.tmps,s.defers,q1,s.fr,s.le.trans q2,s.bd,fun i hi=>(q3 i hi).elim (s.ow i) (fun h=>.inr (Nat.le_trans s.fr.size h))⟩
end
end Go.Ab
end
section
namespace Go.Proofs.YtgjchdhdopgkkaaGreatDoor
open Go.Ab Go.RowKit Civ
attribute [local simp] Zbd
section
theorem Zf1 {a0 c0:AV}{l:List AV}:setCells (a0::l) 0 [c0]=c0::l:=rfl
theorem Zcc {a0 a1 c0:AV}{l:List AV}:setCells (a0::a1::l) 1 [c0]=a0::c0::l:=rfl
theorem ZeR {a0 a1 a2 c0:AV}{l:List AV}:setCells (a0::a1::a2::l) 2 [c0]=a0::a1::c0::l:=rfl
theorem Zkr {a0 a1 a2 a3 c0:AV}{l:List AV}:setCells (a0::a1::a2::a3::l) 3 [c0]=a0::a1::a2::c0::l:=rfl
theorem Zra {a0 a1 a2 a3 a4 a5 a6 c0 c1 c2:AV}{l:List AV}:setCells (a0::a1::a2::a3::a4::a5::a6::l) 4 [c0,c1,c2]=a0::a1::a2::a3::c0::c1::c2::l:=rfl
theorem Zq8 {a0 a1 a2 a3 a4 a5 a6 a7 c0:AV}{l:List AV}:setCells (a0::a1::a2::a3::a4::a5::a6::a7::l) 7 [c0]=a0::a1::a2::a3::a4::a5::a6::c0::l:=rfl
theorem Zkq {a0 a1 a2 a3 a4 a5 a6 a7 a8 c0:AV}{l:List AV}:setCells (a0::a1::a2::a3::a4::a5::a6::a7::a8::l) 8 [c0]=a0::a1::a2::a3::a4::a5::a6::a7::c0::l:=rfl
theorem Zkp {a0 a1 a2 a3 a4 a5 a6 a7 a8 a9 c0:AV}{l:List AV}:setCells (a0::a1::a2::a3::a4::a5::a6::a7::a8::a9::l) 9 [c0]=a0::a1::a2::a3::a4::a5::a6::a7::a8::c0::l:=rfl
theorem Zgp {a0 a1 a2 a3 a4 a5 a6 a7 a8 a9 a10 c0:AV}{l:List AV}:setCells (a0::a1::a2::a3::a4::a5::a6::a7::a8::a9::a10::l) 10 [c0]=a0::a1::a2::a3::a4::a5::a6::a7::a8::a9::c0::l:=rfl
theorem ZcM {a0 a1 a2 a3 a4 a5 a6 a7 a8 a9 a10:AV}{l:List AV}:((a0::a1::a2::a3::a4::a5::a6::a7::a8::a9::a10::l).drop 0).take 11=[a0,a1,a2,a3,a4,a5,a6,a7,a8,a9,a10]:=rfl
theorem Zfe {a0 a1 a2 a3 a4 a5 a6 a7 a8 a9 a10 c0 c1 c2 c3 c4 c5 c6 c7 c8 c9 c10:AV}{l:List AV}:setCells (a0::a1::a2::a3::a4::a5::a6::a7::a8::a9::a10::l) 0 [c0,c1,c2,c3,c4,c5,c6,c7,c8,c9,c10]=c0::c1::c2::c3::c4::c5::c6::c7::c8::c9::c10::l:=rfl
theorem Zrb {a0 a1 a2 a3 a4 c0:AV}{l:List AV}:setCells (a0::a1::a2::a3::a4::l) 4 [c0]=a0::a1::a2::a3::c0::l:=rfl
theorem Zdn {a0 a1 a2 a3 a4 a5 a6 a7 a8 a9:AV}{l:List AV}:((a0::a1::a2::a3::a4::a5::a6::a7::a8::a9::l).drop 0).take 10=[a0,a1,a2,a3,a4,a5,a6,a7,a8,a9]:=rfl
theorem Zgq {a0 a1 a2 a3 a4 a5 a6 a7 a8 a9 c0 c1 c2 c3 c4 c5 c6 c7 c8 c9:AV}{l:List AV}:setCells (a0::a1::a2::a3::a4::a5::a6::a7::a8::a9::l) 0 [c0,c1,c2,c3,c4,c5,c6,c7,c8,c9]=c0::c1::c2::c3::c4::c5::c6::c7::c8::c9::l:=rfl
theorem ZlI {τ:Operand→AV}{y0 y1 y2:Operand}{x0_0 x1_0 x2_0:AV}(h0:Zap (τ y0)=some [x0_0]) (l0:[x0_0].all leaf=true) (h1:Zap (τ y1)=some [x1_0]) (l1:[x1_0].all leaf=true) (h2:Zap (τ y2)=some [x2_0]) (l2:[x2_0].all leaf=true):Zat τ [(0,1,y0),(1,1,y1),(2,1,y2)] [(.v (.int .i64 0)),(.v (.int .i64 0)),(.v (.int .i64 0))]=some [x0_0,x1_0,x2_0]:=by
 simp only [Zat,h0,l0,h1,l1,h2,l2]
 rfl
theorem Zq9 {a0 a1 a2 a3 a4 a5 a6 a7 c0 c1 c2:AV}{l:List AV}:setCells (a0::a1::a2::a3::a4::a5::a6::a7::l) 5 [c0,c1,c2]=a0::a1::a2::a3::a4::c0::c1::c2::l:=rfl
end
def c51:AC:=(Sr [Oo 2 (.new 48 11 [Ss,(iv 0),(iv 0),(iv 0),(iv 0),(iv 0),(iv 0),(iv 0),(iv 0),(iv 0),Ss])] (Sr [Oo 3 (.new 48 11 [Ss,(iv 0),(iv 0),(iv 0),(iv 0),(iv 0),(iv 0),(iv 0),(iv 0),(iv 0),Ss])] (Sr [Mv 5 0,Cl 6 52 [(.tmp 5)],Fa 7 0 3,Sc 7 6] (Sr [Mv 8 0,Mv 9 0,Cl 10 49 [(.tmp 9)],Cl 11 88 [(.tmp 8),(.tmp 10),(Ci 4),(Ci 4)],Fa 12 1 3,Sc 12 11] (Sr [Mv 13 0,Cl 14 49 [(.tmp 13)],Mv 4 14] (.seq (Sr [Mv 15 4] (.block 0 (Sr [Oo 21 (.bin .eql (.tmp 15) (.const (.string ⟨#[111,110,108,121]⟩))),Mv 20 21] (Cd 20 (.reg [Fa 22 1 3,Ld 23 22,Fa 24 2 3,Sc 24 23]) (Sr [Oo 26 (.bin .eql (.tmp 15) (.const (.string ⟨#[109,97,120]⟩))),Mv 25 26] (Cd 25 (.reg [Fa 27 2 3,⟨none,none,(.store 1 (.tmp 27) (Ci 2100))⟩]) (.reg [Mv 16 0,Mv 17 4,Cl 18 88 [(.tmp 16),(.tmp 17),(Ci 4),(Ci 4)],Fa 19 2 3,Sc 19 18]))))))) (Sr [Mv 28 0,Cl 29 89 [(.tmp 28)],Fa 30 3 3,Sc 30 29] (Sr [Mv 31 0,Cl 32 91 [(.tmp 31)],Fa 33 4 3,⟨none,none,(.store 3 (.tmp 33) (.tmp 32))⟩] (Sr [Mv 35 0,Cl 36 90 [(.tmp 35),(Ci 1)],Mv 34 36,Ex 37 34 0,Ex 38 34 1,Fa 39 7 3,Sc 39 37,Fa 40 8 3,Sc 40 38] (Sr [Mv 41 0,Mv 42 0,Cl 43 49 [(.tmp 42)],Cl 44 87 [(.tmp 41),(.tmp 43)],Fa 45 9 3,Sc 45 44] (Sr [Mv 46 0,Cl 47 49 [(.tmp 46)],Mv 4 47] (.seq (Sr [Mv 48 4,Oo 49 (.bin .eql (.tmp 48) (.const (.string ⟨#[]⟩))),Mv 50 49,Of 51 50 (mt 4),Of 52 50 (.bin .neq (.tmp 51) (.const (.string ⟨#[45]⟩))),Of 53 50 (mt 52),Ot 54 53 (mt 4),Ot 55 53 (.call (.func 67) [(.tmp 54)]),Ot 56 53 (.un .not (.tmp 55)),Of 57 50 (.pick (.tmp 53) (.tmp 56) (.const (.bool false))),Oo 58 (.pick (.tmp 50) (.const (.bool true)) (.tmp 57))] (Cd 58 (.reg [Mv 59 0,Nk 60 59,Fa 61 1 60,⟨none,none,(.store 1 (.tmp 61) (.const (.bool true)))⟩]) .skip)) (.seq (Sr [Mv 62 4,Oo 63 (.bin .neq (.tmp 62) (.const (.string ⟨#[45]⟩)))] (Cd 63 (.reg [Mv 64 4,Fa 65 10 3,Sc 65 64]) .skip)) (Sr [Oo 66 (.load true 11 (.tmp 3)),⟨none,none,(.store 11 (.tmp 2) (.tmp 66))⟩] .ret))))))))))))))
theorem k51:ZaH Tryz.prog 51=some ⟨c51,[(.cell 2 true 11)],67⟩:=by kernel_rfl
def c50:AC:=(Sr [Oo 2 (.new 64 10 [(iv 0),Ss,(iv 0),Ss,(.v (.bool false)),(iv 0),(iv 0),(iv 0),(iv 0),(iv 0)])] (Sr [Oo 3 (.new 64 10 [(iv 0),Ss,(iv 0),Ss,(.v (.bool false)),(iv 0),(iv 0),(iv 0),(iv 0),(iv 0)])] (Sr [Mv 8 0,Cl 9 49 [(.tmp 8)],Mv 4 9] (.seq (Sr [Mv 10 4,Oo 11 (.bin .neq (.tmp 10) (.const (.string ⟨#[]⟩))),Mv 12 11,Ot 13 12 (mt 4),Ot 14 12 (.ix (.tmp 13) (Ci 0)),Ot 15 12 (.bin .eql (.tmp 14) (.const (.int .u8 45))),Oo 16 (.pick (.tmp 12) (.tmp 15) (.const (.bool false)))] (Cd 16 (.reg [Mv 17 0,Mv 18 4,Oo 19 (.sls (.tmp 18) (some (Ci 1)) none),Cl 20 87 [(.tmp 17),(.tmp 19)],Oo 21 (.un .neg (.tmp 20)),Fa 22 0 3,Sc 22 21]) (.reg [Mv 23 0,Mv 24 4,Cl 25 87 [(.tmp 23),(.tmp 24)],Fa 26 0 3,Sc 26 25]))) (Sr [Mv 27 0,Cl 28 49 [(.tmp 27)],Mv 4 28] (.seq (.block 0 (Sr [Mv 38 4,Oo 39 (.bin .eql (.tmp 38) (.const (.string ⟨#[45]⟩))),Mv 37 39] (Cd 37 .skip (Sr [Mv 41 4,Oo 42 (.bin .neq (.tmp 41) (.const (.string ⟨#[]⟩))),Mv 43 42,Ot 44 43 (mt 4),Ot 45 43 (.ix (.tmp 44) (Ci 0)),Ot 46 43 (.call (.func 71) [(.tmp 45)]),Oo 47 (.pick (.tmp 43) (.tmp 46) (.const (.bool false))),Mv 40 47] (Cd 40 (.seq (Sr [Mv 48 4,Oo 49 (.bin .eql (.tmp 48) (.const (.string ⟨#[48]⟩)))] (Cd 49 (.reg [Mv 50 0,Nk 51 50,Fa 52 1 51,⟨none,none,(.store 1 (.tmp 52) (.const (.bool true)))⟩]) .skip)) (.reg [Mv 53 0,Mv 54 4,Cl 55 87 [(.tmp 53),(.tmp 54)],Fa 56 2 3,Sc 56 55])) (.seq (Sr [Mv 29 4,Cl 30 25 [(.tmp 29)],Oo 31 (.un .not (.tmp 30))] (Cd 31 (.reg [Mv 32 0,Nk 33 32,Fa 34 1 33,⟨none,none,(.store 1 (.tmp 34) (.const (.bool true)))⟩]) .skip)) (.reg [Mv 35 4,Fa 36 1 3,Sc 36 35]))))))) (Sr [Mv 57 0,Cl 58 49 [(.tmp 57)],Fa 59 3 3,Sc 59 58] (.seq (Sr [Fa 60 3 3,Ld 61 60,Cl 62 72 [(.tmp 61)],Oo 63 (.un .not (.tmp 62))] (Cd 63 (.reg [Mv 64 0,Nk 65 64,Fa 66 1 65,⟨none,none,(.store 1 (.tmp 66) (.const (.bool true)))⟩]) .skip)) (.seq (Sr [Mv 67 0,Nk 68 67,Fa 69 0 68,Ld 70 69,Oo 71 (.len false (.tmp 70)),Bc 72 .eql 71 0] (Cd 72 (Sr [Fa 73 4 3,⟨none,none,(.store 1 (.tmp 73) (.const (.bool true)))⟩] (Sr [Oo 74 (.load true 10 (.tmp 3)),⟨none,none,(.store 10 (.tmp 2) (.tmp 74))⟩] .ret)) .skip)) (Sr [Mv 75 0,Mv 76 0,Cl 77 49 [(.tmp 76)],Cl 78 88 [(.tmp 75),(.tmp 77),(Ci 4),(Ci 4)],Mv 5 78] (Sr [Mv 79 0,Cl 80 89 [(.tmp 79)],Mv 6 80] (Sr [Mv 81 0,Mv 82 0,Cl 83 49 [(.tmp 82)],Cl 84 88 [(.tmp 81),(.tmp 83),(Ci 1),(Ci 2)],Mv 7 84] (Sr [Mv 85 5,Mv 86 6,Mv 87 7,Oo 88 (.build [(iv 0),(iv 0),(iv 0)] [(0,(1,(.tmp 85))),(1,(1,(.tmp 86))),(2,(1,(.tmp 87)))]),Fa 89 5 3,Fa 90 0 89,⟨none,none,(.store 3 (.tmp 90) (.tmp 88))⟩] (Sr [Mv 92 0,Cl 93 90 [(.tmp 92),(Ci 2)],Mv 91 93,Ex 94 91 0,Ex 95 91 1,Fa 96 5 3,Fa 97 3 96,Sc 97 94,Fa 98 5 3,Fa 99 4 98,Sc 99 95] (.seq (Sr [Fa 100 5 3,Fa 101 4 100,Ld 102 101,Bc 103 .eql 102 1] (Cd 103 (.reg [Mv 104 0,Nk 105 104,Fa 106 1 105,⟨none,none,(.store 1 (.tmp 106) (.const (.bool true)))⟩]) .skip)) (Sr [Oo 107 (.load true 10 (.tmp 3)),⟨none,none,(.store 10 (.tmp 2) (.tmp 107))⟩] .ret))))))))))))))))
theorem k50:ZaH Tryz.prog 50=some ⟨c50,[(.cell 2 true 10)],108⟩:=by kernel_rfl
def okT (t:TS):Prop := ∀ x∈t.1,x.size≤24
theorem ZiC {t u:TS}(h:u.1=t.1) (ho:okT t):okT u:=by unfold okT;rw [h];exact ho
theorem ZbC {t u:TS}{s:ByteArray}(ho:okT t) (e:Za1 t=(s,u)):s.size≤24∧okT u:=by
 unfold Za1 at e
 split at e
 ·cases e;exact ⟨by decide,ho⟩
 rename_i hn
 obtain ⟨l,b⟩:=t
 cases l with
 | nil=>exact absurd (.inr rfl) hn
 | cons x l=>cases e;exact ⟨ho x (by simp),fun y hy=>ho y (by simp only [List.mem_cons];exact .inr hy)⟩
theorem tNum_fst {s:ByteArray}{a b:Int}{t:TS}:(tNum s a b t).2.1=t.1:=by unfold tNum;split <;> rfl
theorem Zmb {s:ByteArray}{t:TS}:(ZeD s t).2.1=t.1:=by unfold ZeD;split <;> rfl
theorem tSix_fst {s:ByteArray}{t:TS}:(tSix s t).2.1=t.1:=by unfold tSix;dsimp only;split <;> exact tNum_fst
theorem tSpan_fst {s:ByteArray}{t:TS}:(Zb3 s t).2.1=t.1:=by
 unfold Zb3
 split
 ·rfl
 unfold Zfs
 split
 ·exact tSix_fst.trans tNum_fst
 ·exact tSix_fst.trans (tSix_fst.trans tNum_fst)
 rfl
theorem Zqs {s:ByteArray}{t:TS}:(Zcg s t).2.1=t.1:=by
 unfold Zcg
 split
 ·exact Zmb
 split
 ·exact tNum_fst
 exact tNum_fst.trans Zmb
theorem ZnN {d:Int}{s:ByteArray}{t:TS}:(ZeA d s t).2.1=t.1:=by
 unfold ZeA
 split
 ·exact tSpan_fst
 split
 ·exact tSpan_fst
 refine tSpan_fst.trans ?_
 split <;> rfl
theorem tTo_fst {f:Int}{s:ByteArray}{t:TS}:(tTo f s t).2.1=t.1:=by
 unfold tTo
 split
 ·rfl
 split
 ·rfl
 exact tNum_fst
theorem Zh7 {t u:TS}{s:ByteArray}(ho:okT t) (e:Zft t=(s,u)):okT u:=by
 obtain ⟨x,v,ev⟩ : ∃ x v,Za1 t=(x,v):=⟨_,_,rfl⟩
 unfold Zft at e
 rw [ev] at e
 have:=(ZbC ho ev).2
 simp only [Prod.mk.injEq] at e
 obtain ⟨_,e2⟩:=e
 subst e2
 split
 ·exact this
 exact this
theorem ZiD {t u:TS}{n:Int}(ho:okT t) (e:Zea t=(n,u)):okT u:=by
 obtain ⟨x,v,ev⟩ : ∃ x v,Za1 t=(x,v):=⟨_,_,rfl⟩
 unfold Zea at e
 rw [ev] at e
 have:=(ZbC ho ev).2
 split at e <;> cases e <;> exact this
theorem Zla {s:ByteArray}{a b n:Int}{t u:TS}(ho:okT t) (e:tNum s a b t=(n,u)):okT u:=ZiC (by have := @tNum_fst s a b t;rw [e] at this;exact this) ho
theorem Zk9 {s:ByteArray}{n:Int}{t u:TS}(ho:okT t) (e:Zb3 s t=(n,u)):okT u:=ZiC (by have := @tSpan_fst s t;rw [e] at this;exact this) ho
theorem okT_to {f:Int}{s:ByteArray}{n:Int}{t u:TS}(ho:okT t) (e:tTo f s t=(n,u)):okT u:=ZiC (by have := @tTo_fst f s t;rw [e] at this;exact this) ho
theorem ZpM {n:Frm}{t u:TS}(ho:okT t) (e:Zhj t=(n,u)):okT u:=by
 obtain ⟨x,v,ev⟩ : ∃ x v,Za1 t=(x,v):=⟨_,_,rfl⟩
 unfold Zhj at e
 rw [ev] at e
 exact ZiC (by have := @Zqs x v;rw [e] at this;exact this) (ZbC ho ev).2
theorem ZiE {d:Int}{n:Int×Int}{t u:TS}(ho:okT t) (e:Zdt d t=(n,u)):okT u:=by
 obtain ⟨x,v,ev⟩ : ∃ x v,Za1 t=(x,v):=⟨_,_,rfl⟩
 unfold Zdt at e
 rw [ev] at e
 exact ZiC (by have := @ZnN d x v;rw [e] at this;exact this) (ZbC ho ev).2
theorem ZkL {t t1:TS}{s:ByteArray}{id:Nat}{h:AH}(ho:okT t) (he:Zft t=(s,t1)) (h1:h[id]?=some (takE t)):ACalls Tryz.prog 52 [.ptr id 0 0] h fun x h'=>x=.ret (sv s)∧h'=h.set id (takE t1):=by
 have:=tname_a (by have:=(ZbC ho (s:=(Za1 t).1) (u:=(Za1 t).2) rfl).1;unfold maxLen;omega) h1
 rw [he] at this
 exact this
theorem Zpk {s:ByteArray}{a b n:Int}{t t1:TS}{id:Nat}{h:AH}(hb:b≤4) (he:tNum s a b t=(n,t1)) (h1:h[id]?=some (takE t)):ACalls Tryz.prog 88 [.ptr id 0 0,sv s,iv a,iv b] h fun x h'=>x=.ret (iv n)∧h'=h.set id (takE t1):=by
 have:=Zek (s:=s) (a:=a) hb h1
 rw [he] at this
 exact this
theorem Zpl {n:Int}{t t1:TS}{id:Nat}{h:AH}(he:Zea t=(n,t1)) (h1:h[id]?=some (takE t)):ACalls Tryz.prog 89 [.ptr id 0 0] h fun x h'=>x=.ret (iv n)∧h'=h.set id (takE t1):=by
 have:=tmonth_a h1
 rw [he] at this
 exact this
theorem tform_e {n:Frm}{t t1:TS}{id:Nat}{h:AH}(ho:okT t) (he:Zhj t=(n,t1)) (h1:h[id]?=some (takE t)):ACalls Tryz.prog 91 [.ptr id 0 0] h fun x h'=>x=.ret (.agg [iv n.1,iv n.2.1,iv n.2.2])∧h'=h.set id (takE t1):=by
 have:=tform_a (ZbC ho (s:=(Za1 t).1) (u:=(Za1 t).2) rfl).1 h1
 rw [he] at this
 exact this
theorem Zpn {d:Int}{n:Int×Int}{t t1:TS}{id:Nat}{h:AH}(hd:d=1∨d=2) (ho:okT t) (he:Zdt d t=(n,t1)) (h1:h[id]?=some (takE t)):ACalls Tryz.prog 90 [.ptr id 0 0,iv d] h fun x h'=>x=.ret (.tup [iv n.1,iv n.2])∧h'=h.set id (takE t1):=by
 have:=tclock_a hd (ZbC ho (s:=(Za1 t).1) (u:=(Za1 t).2) rfl).1 h1
 rw [he] at this
 exact this
theorem Zhg {s:ByteArray}{n:Int}{t t1:TS}{id:Nat}{h:AH}(hz:s.size≤24) (he:Zb3 s t=(n,t1)) (h1:h[id]?=some (takE t)):ACalls Tryz.prog 87 [.ptr id 0 0,sv s] h fun x h'=>x=.ret (iv n)∧h'=h.set id (takE t1):=by
 have:=Zih hz h1
 rw [he] at this
 exact this
theorem trule_a {t:TS}{id:Nat}{h:AH}(ho:okT t) (h1:h[id]?=some (takE t)):ACalls Tryz.prog 51 [.ptr id 0 0] h fun x h'=>x=.ret (.agg (rulC (ZkN t).1))∧h'=h.set id (takE (ZkN t).2):=by
 have hid:id<h.length:=(List.getElem?_eq_some_iff.1 h1).1
 obtain ⟨nm,t1,e1⟩ : ∃ a b,Zft t=(a,b):=⟨_,_,rfl⟩
 have o1:=Zh7 ho e1
 obtain ⟨s2,t2,e2⟩ : ∃ a b,Za1 t1=(a,b):=⟨_,_,rfl⟩
 obtain ⟨z2,o2⟩:=ZbC o1 e2
 obtain ⟨f,t3,e3⟩ : ∃ a b,tNum s2 4 4 t2=(a,b):=⟨_,_,rfl⟩
 have o3:=Zla o2 e3
 obtain ⟨s4,t4,e4⟩ : ∃ a b,Za1 t3=(a,b):=⟨_,_,rfl⟩
 obtain ⟨z4,o4⟩:=ZbC o3 e4
 obtain ⟨yr,t5,e5⟩ : ∃ a b,tTo f s4 t4=(a,b):=⟨_,_,rfl⟩
 have o5:=okT_to o4 e5
 obtain ⟨m,t6,e6⟩ : ∃ a b,Zea t5=(a,b):=⟨_,_,rfl⟩
 have o6:=ZiD o5 e6
 obtain ⟨k,t7,e7⟩ : ∃ a b,Zhj t6=(a,b):=⟨_,_,rfl⟩
 have o7:=ZpM o6 e7
 obtain ⟨c,t8,e8⟩ : ∃ a b,Zdt 1 t7=(a,b):=⟨_,_,rfl⟩
 have o8:=ZiE o7 e8
 obtain ⟨s9,t9,e9⟩ : ∃ a b,Za1 t8=(a,b):=⟨_,_,rfl⟩
 obtain ⟨z9,o9⟩:=ZbC o8 e9
 obtain ⟨svd,t10,e10⟩ : ∃ a b,Zb3 s9 t9=(a,b):=⟨_,_,rfl⟩
 have o10:=Zk9 o9 e10
 obtain ⟨s11,t11,e11⟩ : ∃ a b,Za1 t10=(a,b):=⟨_,_,rfl⟩
 obtain ⟨z11,o11⟩:=ZbC o10 e11
 have hR:ZkN t=((nm,f,yr,m,k,c.1,c.2,svd,(ZdJ t10).1),(ZdJ t10).2):=by
  simp only [ZkN,Zcn,ret2,Zr8,tToN,Zsa,e1,e2,e3,e4,e5,e6,e7,e8,e9,e10]
 have hL:ZdJ t10=(if s11=bA [45] then ⟨#[]⟩ else s11,if ZdM s11=true then t11 else bad t11):=by unfold ZdJ;rw [e11]
 refine tJ' k51 fun N hn hlt hlA hbd=>?_
 simp only [tb'] at hbd ⊢
 refine ZbG (h1:=h.set id (takE t)++[]) (by rw [ZbU h1]) ?_
 refine wr'<|E' (Zbq (hl0 (Zad hn)) ha0) pt<|sn'<|wr'<|E' (Zbq (hl1 (Zad hn)) ha1) pt<|sn'<|wr'<|mv' lk pt<|ZaA mp (ZkL ho e1 (ZaC hid)) (Zax hid) pt<|?_
 refine V' (Zaa lk) pt<|E' (Zal lk (cvl lk rfl) (hga (Zad hn) rfl) rfl (nb' rfl) rfl Zf1 (hs1 (Zad hn))) ptn<|sn'<|wr'<|mv' lk pt<|mv' lk pt<|ZaA mp (ZdI e2 (ZaC hid)) (Zax hid) pt<|?_
 refine ZaA mp (Zpk (by omega) e3 (ZaC hid)) (Zax hid) pt ?_
 refine V' (Zaa lk) pt<|E' (Zal lk (cvl lk rfl) (hga (Zad hn) rfl) rfl (nb' rfl) rfl Zcc (hs1 (Zad hn))) ptn<|sn'<|wr'<|mv' lk pt<|ZaA mp (ZdI e4 (ZaC hid)) (Zax hid) pt<|mv' lk pt<|sn'<|?_
 refine Zl7 (ι:=Unit) (fun (u:Unit)=>[]++rn' 15 13) (fun (u:Unit)=>h.set id (takE t5)++[.mk 0 48 11 [sv ⟨#[]⟩,iv 0,iv 0,iv 0,iv 0,iv 0,iv 0,iv 0,iv 0,iv 0,sv ⟨#[]⟩],.mk 0 48 11 [sv nm,iv f,iv yr,iv 0,iv 0,iv 0,iv 0,iv 0,iv 0,iv 0,sv ⟨#[]⟩]]) (fun (u:Unit)=>True) ?_ ?_
 ·try simp only [sm',Nat.reduceAdd]
  refine wr'<|mv' lk pt<|sn'<|Zao<|wr'<|V' (Zcj lk lks) pt<|mv' lk pt<|sn'<|?_
  refine cd' lk (fun hc1=>?_) (fun hc1=>?_)
  ·have hq:yr=f∧t5=t4:=by rw [tTo,if_pos (show s4=Zk8 from hc1)] at e5;cases e5;exact ⟨rfl,rfl⟩
   obtain ⟨rfl,rfl⟩:=hq
   refine Zar<|V' (Zaa lk) pt<|V' (Zac lk (hga (Zad hn) rfl) gt1) pt<|V' (Zaa lk) pt<|E' (Zal lk (cvl lk rfl) (hga (Zad hn) rfl) rfl (nb' rfl) rfl ZeR (hs1 (Zad hn))) ptn<|Zas<|ZaF<|ZaI<|?_
   exact cT' (()) (by trivial)
  refine wr'<|V' (Zcj lk lks) pt<|mv' lk pt<|sn'<|?_
  refine cd' lk (fun hc2=>?_) (fun hc2=>?_)
  ·have hq:yr=2100∧t5=t4:=by rw [tTo,if_neg (show ¬s4=Zk8 from hc1),if_pos (show s4=maxA from hc2)] at e5;cases e5;exact ⟨rfl,rfl⟩
   obtain ⟨rfl,rfl⟩:=hq
   refine Zar<|V' (Zaa lk) pt<|E' (Zal lk (cvl lki rfl) (hga (Zad hn) rfl) rfl (nb' rfl) rfl ZeR (hs1 (Zad hn))) ptn<|Zas<|ZaF<|ZaI<|?_
   exact cT' (()) (by trivial)
  have hq:tNum s4 4 4 t4=(yr,t5):=by rw [tTo,if_neg (show ¬s4=Zk8 from hc1),if_neg (show ¬s4=maxA from hc2)] at e5;exact e5
  refine Zar<|mv' lk pt<|mv' lk pt<|?_
  refine ZaA mp (Zpk (by omega) hq (ZaC hid)) (Zax hid) pt ?_
  refine V' (Zaa lk) pt<|E' (Zal lk (cvl lk rfl) (hga (Zad hn) rfl) rfl (nb' rfl) rfl ZeR (hs1 (Zad hn))) ptn<|Zas<|ZaF<|ZaI<|?_
  exact cT' (()) (by trivial)
 rintro u hq9
 try simp only [sm',Nat.reduceAdd]
 refine wr'<|mv' lk pt<|ZaA mp (Zpl e6 (ZaC hid)) (Zax hid) pt<|V' (Zaa lk) pt<|E' (Zal lk (cvl lk rfl) (hga (Zad hn) rfl) rfl (nb' rfl) rfl Zkr (hs1 (Zad hn))) ptn<|sn'<|wr'<|mv' lk pt<|ZaA mp (tform_e o6 e7 (ZaC hid)) (Zax hid) pt<|V' (Zaa lk) pt<|E' (Zal lk (cvl lk rfl) (hga (Zad hn) rfl) rfl (nb' rfl) rfl Zra (hs1 (Zad hn))) ptn<|?_
 refine sn'<|wr'<|mv' lk pt<|ZaA mp (Zpn (.inl rfl) o7 e8 (ZaC hid)) (Zax hid) pt<|mv' lk pt<|V' (Zbb lk gt) pt<|V' (Zbb lk gt) pt<|V' (Zaa lk) pt<|E' (Zal lk (cvl lk rfl) (hga (Zad hn) rfl) rfl (nb' rfl) rfl Zq8 (hs1 (Zad hn))) ptn<|V' (Zaa lk) pt<|E' (Zal lk (cvl lk rfl) (hga (Zad hn) rfl) rfl (nb' rfl) rfl Zkq (hs1 (Zad hn))) ptn<|Zas<|?_
 refine Zai<|wr'<|mv' lk pt<|mv' lk pt<|ZaA mp (ZdI e9 (ZaC hid)) (Zax hid) pt<|ZaA mp (Zhg z9 e10 (ZaC hid)) (Zax hid) pt<|V' (Zaa lk) pt<|E' (Zal lk (cvl lk rfl) (hga (Zad hn) rfl) rfl (nb' rfl) rfl Zkp (hs1 (Zad hn))) ptn<|sn'<|wr'<|mv' lk pt<|?_
 refine ZaA mp (ZdI e11 (ZaC hid)) (Zax hid) pt<|mv' lk pt<|sn'<|Zam<|wr'<|mv' lk pt<|V' (Zcj lk lks) pt<|mv' lk pt<|?_
 refine sp' (t:=50) gt pt pt (fun hg50=>?_) (fun hg50=>?_)
 ·have hLt:ZdJ t10=(s11,bad t11):=by rw [hL,hg50];rfl
  refine s_no gt pt<|s_no gt pt<|s_no gt pt<|s_nu gt pt<|s_nu gt pt<|s_nu gt pt<|s_no gt pt<|V' (Zaj lk lkb) pt<|sn'<|ZaG lk<|Zar<|mv' lk pt<|V' (ZaD lk) pt<|?_
  refine V' (Zaa lk) pt<|E' (Zal lk (cvl lkb rfl) (ZaC hid) rfl (nb' rfl) rfl Zcc (Zax hid)) ptn<|sn'<|Zam<|wr'<|mv' lk pt<|V' (Zcp lk lks) pt<|sn'<|?_
  refine ZcW lk (by exact decide_eq_true (by rw [hg50];decide)) ?_
  refine Zar<|mv' lk pt<|V' (Zaa lk) pt<|E' (Zal lk (cvl lk rfl) (hga (Zad hn) rfl) rfl (nb' rfl) rfl Zgp (hs1 (Zad hn))) ptn<|sn'<|wr'<|V' (Zau lk (hga (Zad hn) rfl) ZcM rfl) pt<|E' (Zal lk (cvl lk rfl) (hga (Zad hn) rfl) rfl (nb' rfl) rfl Zfe (hs0 (Zad hn))) ptn<|sn'<|Zab<|Zag (rs1 (rr_c gt (hga (Zad hn) rfl) (ld1 ZcM rfl)))<|?_
  rw [hLt] at hR
  exact ⟨_,_,rfl,Zad hn,ZaR hlt ZaU,rfl,by rw [hR] <;> rfl,by rw [hR] <;> rfl⟩
 refine s_do gt<|mv' lk pt<|s_do gt<|V' (Zcp lk lks) pt<|s_do gt<|mv' lk pt<|?_
 refine sp' (t:=53) gt pt pt (fun hg53=>?_) (fun hg53=>?_)
 ·refine s_do gt<|mv' lk pt<|s_do gt<|?_
  refine Zae mp (ZhH (by unfold maxLen;omega)) pt ?_
  refine s_do gt<|V' (Zav lk) pt<|s_do gt<|V' (Zaj lk lk) pt<|V' (Zah lk lk) pt<|sn'<|?_
  refine Zaw lk (fun hc3=>?_) (fun hc3=>?_)
  ·have hl:ZbZ s11=false:=by simpa using hc3
   have hLt:ZdJ t10=(s11,bad t11):=by rw [hL,if_neg (show ¬s11=bA [45] from hg53),if_neg (by unfold ZdM;rw [hl,decide_eq_false (show ¬s11=bA [45] from hg53)];simp)]
   refine Zar<|mv' lk pt<|V' (ZaD lk) pt<|V' (Zaa lk) pt<|E' (Zal lk (cvl lkb rfl) (ZaC hid) rfl (nb' rfl) rfl Zcc (Zax hid)) ptn<|sn'<|Zam<|wr'<|mv' lk pt<|V' (Zcp lk lks) pt<|sn'<|?_
   refine ZcW lk (by exact decide_eq_true hg53) ?_
   refine Zar<|mv' lk pt<|V' (Zaa lk) pt<|E' (Zal lk (cvl lk rfl) (hga (Zad hn) rfl) rfl (nb' rfl) rfl Zgp (hs1 (Zad hn))) ptn<|sn'<|wr'<|V' (Zau lk (hga (Zad hn) rfl) ZcM rfl) pt<|E' (Zal lk (cvl lk rfl) (hga (Zad hn) rfl) rfl (nb' rfl) rfl Zfe (hs0 (Zad hn))) ptn<|sn'<|Zab<|Zag (rs1 (rr_c gt (hga (Zad hn) rfl) (ld1 ZcM rfl)))<|?_
   rw [hLt] at hR
   exact ⟨_,_,rfl,Zad hn,ZaR hlt ZaU,rfl,by rw [hR] <;> rfl,by rw [hR] <;> rfl⟩
  have hl:ZbZ s11=true:=by simpa using hc3
  have hLt:ZdJ t10=(s11,t11):=by rw [hL,if_neg (show ¬s11=bA [45] from hg53),if_pos (by unfold ZdM;rw [hl,decide_eq_true hg50];simp)]
  refine Zaf<|Zai<|Zam<|wr'<|mv' lk pt<|V' (Zcp lk lks) pt<|sn'<|?_
  refine ZcW lk (by exact decide_eq_true hg53) ?_
  refine Zar<|mv' lk pt<|V' (Zaa lk) pt<|E' (Zal lk (cvl lk rfl) (hga (Zad hn) rfl) rfl (nb' rfl) rfl Zgp (hs1 (Zad hn))) ptn<|sn'<|wr'<|V' (Zau lk (hga (Zad hn) rfl) ZcM rfl) pt<|E' (Zal lk (cvl lk rfl) (hga (Zad hn) rfl) rfl (nb' rfl) rfl Zfe (hs0 (Zad hn))) ptn<|sn'<|Zab<|Zag (rs1 (rr_c gt (hga (Zad hn) rfl) (ld1 ZcM rfl)))<|?_
  rw [hLt] at hR
  exact ⟨_,_,rfl,Zad hn,ZaR hlt ZaU,rfl,by rw [hR] <;> rfl,by rw [hR] <;> rfl⟩
 have h45:s11=bA [45]:=Decidable.of_not_not hg53
 have hLt:ZdJ t10=(⟨#[]⟩,t11):=by rw [hL,h45];rfl
 refine s_no gt pt<|s_no gt pt<|s_no gt pt<|s_do gt<|V' (Zah lk lkb) pt<|V' (Zah lk lk) pt<|sn'<|ZaY lk<|Zaf<|Zai<|Zam<|wr'<|?_
 refine mv' lk pt<|V' (Zcp lk lks) pt<|sn'<|?_
 refine ZcD lk (by exact decide_eq_false (by rw [h45];decide)) ?_
 refine Zaf<|Zai<|wr'<|V' (Zau lk (hga (Zad hn) rfl) ZcM rfl) pt<|E' (Zal lk (cvl lk rfl) (hga (Zad hn) rfl) rfl (nb' rfl) rfl Zfe (hs0 (Zad hn))) ptn<|sn'<|Zab<|Zag (rs1 (rr_c gt (hga (Zad hn) rfl) (ld1 ZcM rfl)))<|?_
 rw [hLt] at hR
 exact ⟨_,_,rfl,Zad hn,ZaR hlt ZaU,rfl,by rw [hR] <;> rfl,by rw [hR] <;> rfl⟩
theorem Zpq {s:ByteArray}{t:TS}:0≤(Zb3 s t).1∧(Zb3 s t).1<1000000000:=by
 unfold Zb3
 split
 ·exact ⟨Int.le_refl 0,show (0:Int)<1000000000 by decide⟩
 unfold Zfs
 split
 ·rename_i a b _
  have h1:=Zil (s:=bA a) (a:=1) (b:=2) (t:=t) (by omega)
  have h2:=Zhi (s:=bA b) (t:=(tNum (bA a) 1 2 t).2)
  constructor <;> dsimp only <;> omega
 ·rename_i a b c _
  have h1:=Zil (s:=bA a) (a:=1) (b:=2) (t:=t) (by omega)
  have h2:=Zhi (s:=bA b) (t:=(tNum (bA a) 1 2 t).2)
  have h3:=Zhi (s:=bA c) (t:=(tSix (bA b) (tNum (bA a) 1 2 t).2).2)
  constructor <;> dsimp only <;> omega
 exact ⟨Int.le_refl 0,show (0:Int)<1000000000 by decide⟩
abbrev eraZ:List AV:=[iv 0,sv ⟨#[]⟩,iv 0,sv ⟨#[]⟩,bv false,iv 0,iv 0,iv 0,iv 0,iv 0]
theorem ZmJ {t u:TS}{n:Int}(ho:okT t) (e:Zgz t=(n,u)):okT u:=by
 obtain ⟨x,v,ev⟩ : ∃ x v,Za1 t=(x,v):=⟨_,_,rfl⟩
 unfold Zgz at e
 rw [ev] at e
 have:=(ZbC ho ev).2
 split at e
 ·cases e;exact ZiC tSpan_fst this
 exact Zk9 this e
theorem ZmK {s:ByteArray}{t u:TS}{p:Int×ByteArray}(ho:okT t) (e:Zez s t=(p,u)):okT u:=by
 unfold Zez at e
 split at e
 ·cases e;exact ho
 split at e
 ·cases e
  refine ZiC tSpan_fst ?_
  split <;> exact ho
 cases e
 split <;> exact ho
theorem tera_a {t:TS}{id:Nat}{h:AH}(ho:okT t) (h1:h[id]?=some (takE t)):ACalls Tryz.prog 50 [.ptr id 0 0] h fun x h'=>x=.ret (.agg (eraC (tEra t).1))∧h'=h.set id (takE (tEra t).2):=by
 have hid:id<h.length:=(List.getElem?_eq_some_iff.1 h1).1
 obtain ⟨s1,t1,e1⟩ : ∃ a b,Za1 t=(a,b):=⟨_,_,rfl⟩
 obtain ⟨z1,o1⟩:=ZbC ho e1
 have hem1:=Zes (f:=s1)
 obtain ⟨sh,t2,e2⟩ : ∃ a b,Zgz t=(a,b):=⟨_,_,rfl⟩
 have o2:=ZmJ ho e2
 obtain ⟨s3,t3,e3⟩ : ∃ a b,Za1 t2=(a,b):=⟨_,_,rfl⟩
 obtain ⟨z3,o3⟩:=ZbC o2 e3
 have hem3:=Zes (f:=s3)
 obtain ⟨⟨sa,rl⟩,t4,e4⟩ : ∃ a b,Zez s3 t3=(a,b):=⟨_,_,rfl⟩
 have o4:=ZmK o3 e4
 obtain ⟨fm,t5,e5⟩ : ∃ a b,Za1 t4=(a,b):=⟨_,_,rfl⟩
 obtain ⟨z5,o5⟩:=ZbC o4 e5
 obtain ⟨t6,e6⟩ : ∃ u,(if Zb0 fm=true then t5 else bad t5)=u:=⟨_,rfl⟩
 have o6:okT t6:=by rw [←e6];split <;> exact o5
 obtain ⟨s7,t7,e7⟩ : ∃ a b,Za1 t6=(a,b):=⟨_,_,rfl⟩
 obtain ⟨z7,o7⟩:=ZbC o6 e7
 obtain ⟨y,t8,e8⟩ : ∃ a b,tNum s7 4 4 t7=(a,b):=⟨_,_,rfl⟩
 have o8:=Zla o7 e8
 obtain ⟨m,t9,e9⟩ : ∃ a b,Zea t8=(a,b):=⟨_,_,rfl⟩
 have o9:=ZiD o8 e9
 obtain ⟨s10,t10,e10⟩ : ∃ a b,Za1 t9=(a,b):=⟨_,_,rfl⟩
 obtain ⟨z10,o10⟩:=ZbC o9 e10
 obtain ⟨d,t11,e11⟩ : ∃ a b,tNum s10 1 2 t10=(a,b):=⟨_,_,rfl⟩
 have o11:=Zla o10 e11
 obtain ⟨c,t12,e12⟩ : ∃ a b,Zdt 2 t11=(a,b):=⟨_,_,rfl⟩
 have o12:=ZiE o11 e12
 have hU:ZhE t6=(((y,m,d),c.1,c.2),if c.2=1 then bad t12 else t12):=by
  simp only [ZhE,Zcn,ret2,Zr8,tDay,Zr9,e7,e8,e9,e10,e11,e12]
 have hR:tEra t=((sh,rl,sa,fm,(tEnd t6).1.1,(tEnd t6).1.2),(tEnd t6).2):=by
  simp only [tEra,Zcn,ret2,Zsb,Zim,e2,e3,e4,e5,e6]
 refine tJ' k50 fun N hn hlt hlA hbd=>?_
 simp only [tb'] at hbd ⊢
 refine ZbG (h1:=h.set id (takE t)++[]) (by rw [ZbU h1]) ?_
 refine wr'<|E' (Zbq (hl0 (Zad hn)) ha0) pt<|sn'<|wr'<|E' (Zbq (hl1 (Zad hn)) ha1) pt<|sn'<|wr'<|mv' lk pt<|ZaA mp (ZdI e1 (ZaC hid)) (Zax hid) pt<|?_
 refine mv' lk pt<|sn'<|?_
 refine Zl7 (ι:=Unit) (fun (u:Unit)=>[]++rn' 10 17) (fun (u:Unit)=>h.set id (takE t2)++[.mk 0 64 10 eraZ,.mk 0 64 10 [iv sh,sv ⟨#[]⟩,iv 0,sv ⟨#[]⟩,bv false,iv 0,iv 0,iv 0,iv 0,iv 0]]) (fun (u:Unit)=>True) ?_ ?_
 ·try simp only [sm',Nat.reduceAdd]
  refine wr'<|mv' lk pt<|V' (Zcp lk lks) pt<|mv' lk pt<|?_
  refine sp' (t:=12) gt pt pt (fun hg12=>?_) (fun hg12=>?_)
  ·have hn1:s1.size≠0:=fun e=>hg12 (hem1.2 e)
   refine s_do gt<|mv' lk pt<|s_do gt<|?_
   refine V' (v_ix lk lki (by omega) (by omega)) pt ?_
   refine s_do gt<|V' (ZaX lk lki) pt<|V' (Zaj lk lk) pt<|sn'<|?_
   refine cd' lk (fun hc1=>?_) (fun hc1=>?_)
   ·have hc:s1.size≠0∧Zee s1=45:=⟨fun e=>hg12 (hem1.2 e),hc1⟩
    obtain ⟨n,u2,f2⟩ : ∃ a b,Zb3 (s1.extract 1 s1.size) t1=(a,b):=⟨_,_,rfl⟩
    have hb2:=Zpq (s:=s1.extract 1 s1.size) (t:=t1)
    rw [f2] at hb2
    replace hb2:0≤n∧n<1000000000:=hb2
    have hq:sh = -n∧t2=u2:=by unfold Zgz at e2;rw [e1,if_pos hc,f2] at e2;cases e2;exact ⟨rfl,rfl⟩
    obtain ⟨rfl,rfl⟩:=hq
    refine Zar<|mv' lk pt<|mv' lk pt<|?_
    refine V' (Zd6 lk (oi lki) on_ (by omega) (by omega) (by omega)) pt ?_
    refine ZaA mp (Zhg (by rw [ByteArray.size_extract];omega) f2 (ZaC hid)) (Zax hid) pt ?_
    refine V' (v_neg lk (by omega) (by omega)) pt ?_
    refine V' (Zaa lk) pt<|E' (Zal lk (cvl lk rfl) (hga (Zad hn) rfl) rfl (nb' rfl) rfl Zf1 (hs1 (Zad hn))) ptn<|Zas<|ZaI<|?_
    exact cT' (()) (by trivial)
   have hc:¬(s1.size≠0∧Zee s1=45):=fun e=>hc1 e.2
   have f2:Zb3 s1 t1=(sh,t2):=by unfold Zgz at e2;rw [e1,if_neg hc] at e2;exact e2
   refine Zar<|mv' lk pt<|mv' lk pt<|ZaA mp (Zhg z1 f2 (ZaC hid)) (Zax hid) pt<|V' (Zaa lk) pt<|E' (Zal lk (cvl lk rfl) (hga (Zad hn) rfl) rfl (nb' rfl) rfl Zf1 (hs1 (Zad hn))) ptn<|Zas<|ZaI<|?_
   exact cT' (()) (by trivial)
  have hc:¬(s1.size≠0∧Zee s1=45):=fun e=>e.1 (hem1.1 (Decidable.of_not_not hg12))
  have f2:Zb3 s1 t1=(sh,t2):=by unfold Zgz at e2;rw [e1,if_neg hc] at e2;exact e2
  refine s_no gt pt<|s_no gt pt<|s_no gt pt<|V' (Zah lk lkb) pt<|sn'<|ZaY lk<|Zar<|mv' lk pt<|mv' lk pt<|ZaA mp (Zhg z1 f2 (ZaC hid)) (Zax hid) pt<|V' (Zaa lk) pt<|E' (Zal lk (cvl lk rfl) (hga (Zad hn) rfl) rfl (nb' rfl) rfl Zf1 (hs1 (Zad hn))) ptn<|Zas<|?_
  refine ZaI ?_
  exact cT' (()) (by trivial)
 rintro u hq5
 try simp only [sm',Nat.reduceAdd]
 refine wr'<|mv' lk pt<|ZaA mp (ZdI e3 (ZaC hid)) (Zax hid) pt<|mv' lk pt<|sn'<|?_
 refine Zl7 (ι:=Unit) (fun (u:Unit)=>[]++rn' 29 28) (fun (u:Unit)=>h.set id (takE t4)++[.mk 0 64 10 eraZ,.mk 0 64 10 [iv sh,sv rl,iv sa,sv ⟨#[]⟩,bv false,iv 0,iv 0,iv 0,iv 0,iv 0]]) (fun (u:Unit)=>True) ?_ ?_
 ·try simp only [sm',Nat.reduceAdd]
  refine Zao<|wr'<|mv' lk pt<|V' (Zcj lk lks) pt<|mv' lk pt<|sn'<|?_
  refine cd' lk (fun hc2=>?_) (fun hc2=>?_)
  ·have hq:sa=0∧rl=⟨#[]⟩∧t4=t3:=by rw [Zez,if_pos (show s3=bA [45] from hc2)] at e4;cases e4;exact ⟨rfl,rfl,rfl⟩
   obtain ⟨rfl,rfl,rfl⟩:=hq
   refine Zaf<|ZaF<|ZaI<|?_
   exact cT' (()) (by trivial)
  rw [Zez,if_neg (show ¬s3=bA [45] from hc2)] at e4
  have hbz:=ZdN s3 0
  refine wr'<|mv' lk pt<|V' (Zcp lk lks) pt<|mv' lk pt<|?_
  refine sp' (t:=43) gt pt pt (fun hg43=>?_) (fun hg43=>?_)
  ·have hn3:s3.size≠0:=fun e=>hg43 (hem3.2 e)
   refine s_do gt<|mv' lk pt<|s_do gt<|?_
   refine V' (v_ix lk lki (by omega) (by omega)) pt ?_
   refine s_do gt<|Zae mp (ZeH hbz.1 hbz.2) pt<|V' (Zaj lk lk) pt<|mv' lk pt<|sn'<|?_
   refine Zaw lk (fun hc3=>?_) (fun hc3=>?_)
   ·have hc:s3.size≠0∧digB (Zee s3)=true:=⟨fun e=>hg43 (hem3.2 e),hc3⟩
    rw [if_pos hc] at e4
    refine Zam<|wr'<|mv' lk pt<|V' (Zcj lk lks) pt<|sn'<|?_
    refine cd' lk (fun hc4=>?_) (fun hc4=>?_)
    ·rw [if_pos (show s3=bA [48] from hc4)] at e4
     have hsp:Zb3 s3 (bad t3)=(sa,t4):=by cases e4;rfl
     have hrl:rl=⟨#[]⟩:=by cases e4;rfl
     subst hrl
     refine Zar<|mv' lk pt<|V' (ZaD lk) pt<|V' (Zaa lk) pt<|E' (Zal lk (cvl lkb rfl) (ZaC hid) rfl (nb' rfl) rfl Zcc (Zax hid)) ptn<|sn'<|Zar<|mv' lk pt<|mv' lk pt<|ZaA mp (Zhg z3 hsp (ZaC hid)) (Zax hid) pt<|V' (Zaa lk) pt<|E' (Zal lk (cvl lk rfl) (hga (Zad hn) rfl) rfl (nb' rfl) rfl ZeR (hs1 (Zad hn))) ptn<|Zas<|?_
     refine ZaF<|ZaI<|?_
     exact cT' (()) (by trivial)
    rw [if_neg (show ¬s3=bA [48] from hc4)] at e4
    have hsp:Zb3 s3 t3=(sa,t4):=by cases e4;rfl
    have hrl:rl=⟨#[]⟩:=by cases e4;rfl
    subst hrl
    refine Zaf<|Zai<|Zar<|mv' lk pt<|mv' lk pt<|ZaA mp (Zhg z3 hsp (ZaC hid)) (Zax hid) pt<|V' (Zaa lk) pt<|E' (Zal lk (cvl lk rfl) (hga (Zad hn) rfl) rfl (nb' rfl) rfl ZeR (hs1 (Zad hn))) ptn<|Zas<|ZaF<|ZaI<|?_
    exact cT' (()) (by trivial)
   have hc:¬(s3.size≠0∧digB (Zee s3)=true):=fun e=>by have:=e.2;rw [show digB (Zee s3)=false from hc3] at this;cases this
   refine Zam<|wr'<|mv' lk pt<|?_
   rw [if_neg hc] at e4
   refine Zae mp (Zdz (by unfold maxLen;omega)) pt ?_
   refine V' (Zav lk) pt<|sn'<|?_
   refine Zaw lk (fun hc5=>?_) (fun hc5=>?_)
   ·have hnm:¬ZbL s3=true:=by simpa using hc5
    rw [if_neg hnm] at e4
    have hq:sa=0∧rl=s3∧t4=bad t3:=by cases e4;exact ⟨rfl,rfl,rfl⟩
    obtain ⟨rfl,rfl,rfl⟩:=hq
    refine Zar<|mv' lk pt<|V' (ZaD lk) pt<|V' (Zaa lk) pt<|E' (Zal lk (cvl lkb rfl) (ZaC hid) rfl (nb' rfl) rfl Zcc (Zax hid)) ptn<|sn'<|Zar<|mv' lk pt<|V' (Zaa lk) pt<|E' (Zal lk (cvl lk rfl) (hga (Zad hn) rfl) rfl (nb' rfl) rfl Zcc (hs1 (Zad hn))) ptn<|Zas<|ZaF<|ZaI<|?_
    exact cT' (()) (by trivial)
   have hnm:ZbL s3=true:=by simpa using hc5
   rw [if_pos hnm] at e4
   have hq:sa=0∧rl=s3∧t4=t3:=by cases e4;exact ⟨rfl,rfl,rfl⟩
   obtain ⟨rfl,rfl,rfl⟩:=hq
   refine Zaf<|Zai<|Zar<|mv' lk pt<|V' (Zaa lk) pt<|E' (Zal lk (cvl lk rfl) (hga (Zad hn) rfl) rfl (nb' rfl) rfl Zcc (hs1 (Zad hn))) ptn<|Zas<|ZaF<|ZaI<|?_
   exact cT' (()) (by trivial)
  have hc:¬(s3.size≠0∧digB (Zee s3)=true):=fun e=>e.1 (hem3.1 (Decidable.of_not_not hg43))
  refine s_no gt pt<|s_no gt pt<|s_no gt pt<|V' (Zah lk lkb) pt<|mv' lk pt<|sn'<|ZaY lk<|Zam<|wr'<|mv' lk pt<|?_
  rw [if_neg hc] at e4
  refine Zae mp (Zdz (by unfold maxLen;omega)) pt ?_
  refine V' (Zav lk) pt<|sn'<|?_
  refine Zaw lk (fun hc5=>?_) (fun hc5=>?_)
  ·have hnm:¬ZbL s3=true:=by simpa using hc5
   rw [if_neg hnm] at e4
   have hq:sa=0∧rl=s3∧t4=bad t3:=by cases e4;exact ⟨rfl,rfl,rfl⟩
   obtain ⟨rfl,rfl,rfl⟩:=hq
   refine Zar<|mv' lk pt<|V' (ZaD lk) pt<|V' (Zaa lk) pt<|E' (Zal lk (cvl lkb rfl) (ZaC hid) rfl (nb' rfl) rfl Zcc (Zax hid)) ptn<|sn'<|Zar<|mv' lk pt<|V' (Zaa lk) pt<|E' (Zal lk (cvl lk rfl) (hga (Zad hn) rfl) rfl (nb' rfl) rfl Zcc (hs1 (Zad hn))) ptn<|Zas<|ZaF<|ZaI<|?_
   exact cT' (()) (by trivial)
  have hnm:ZbL s3=true:=by simpa using hc5
  rw [if_pos hnm] at e4
  have hq:sa=0∧rl=s3∧t4=t3:=by cases e4;exact ⟨rfl,rfl,rfl⟩
  obtain ⟨rfl,rfl,rfl⟩:=hq
  refine Zaf<|Zai<|Zar<|mv' lk pt<|V' (Zaa lk) pt<|E' (Zal lk (cvl lk rfl) (hga (Zad hn) rfl) rfl (nb' rfl) rfl Zcc (hs1 (Zad hn))) ptn<|Zas<|ZaF<|ZaI<|?_
  exact cT' (()) (by trivial)
 rintro u hq13
 try simp only [sm',Nat.reduceAdd]
 refine wr'<|mv' lk pt<|ZaA mp (ZdI e5 (ZaC hid)) (Zax hid) pt<|V' (Zaa lk) pt<|E' (Zal lk (cvl lk rfl) (hga (Zad hn) rfl) rfl (nb' rfl) rfl Zkr (hs1 (Zad hn))) ptn<|sn'<|?_
 refine Zl7 (ι:=Unit) (fun (u:Unit)=>[]++rn' 60 7) (fun (u:Unit)=>h.set id (takE t6)++[.mk 0 64 10 eraZ,.mk 0 64 10 [iv sh,sv rl,iv sa,sv fm,bv false,iv 0,iv 0,iv 0,iv 0,iv 0]]) (fun (u:Unit)=>True) ?_ ?_
 ·try simp only [sm',Nat.reduceAdd]
  refine wr'<|V' (Zaa lk) pt<|V' (Zac lk (hga (Zad hn) rfl) gt3) pt<|?_
  refine Zae mp (Zgi (by unfold maxLen;omega)) pt ?_
  refine V' (Zav lk) pt<|sn'<|?_
  refine Zaw lk (fun hc6=>?_) (fun hc6=>?_)
  ·have hq:t6=bad t5:=by rw [←e6,if_neg (by simpa using hc6)]
   subst hq
   refine Zar<|mv' lk pt<|V' (ZaD lk) pt<|V' (Zaa lk) pt<|E' (Zal lk (cvl lkb rfl) (ZaC hid) rfl (nb' rfl) rfl Zcc (Zax hid)) ptn<|Zas<|ZaI<|?_
   exact cT' (()) (by trivial)
  have hq:t6=t5:=by rw [←e6,if_pos (by simpa using hc6)]
  subst hq
  refine Zaf<|ZaI<|?_
  exact cT' (()) (by trivial)
 rintro u hq16
 try simp only [sm',Nat.reduceAdd]
 refine Zam<|wr'<|mv' lk pt<|V' (ZaD lk) pt<|V' (Zaa lk) pt<|V' (Zac lk (ZaC hid) gt0) pt<|V' (ZaK lk) pt<|V' (ZaX lk lki) pt<|sn'<|?_
 refine cd' lk (fun hc7=>?_) (fun hc7=>?_)
 ·have hE:tEnd t6=((true,untZ),t6):=by unfold tEnd;rw [if_pos (List.eq_nil_of_length_eq_zero (by omega))]
  rw [hE] at hR
  refine wr'<|V' (Zaa lk) pt<|E' (Zal lk (cvl lkb rfl) (hga (Zad hn) rfl) rfl (nb' rfl) rfl Zrb (hs1 (Zad hn))) ptn<|sn'<|wr'<|V' (Zau lk (hga (Zad hn) rfl) Zdn rfl) pt<|E' (Zal lk (cvl lk rfl) (hga (Zad hn) rfl) rfl (nb' rfl) rfl Zgq (hs0 (Zad hn))) ptn<|sn'<|Zab<|Zak<|?_
  refine Zag (rs1 (rr_c gt (hga (Zad hn) rfl) (ld1 Zdn rfl))) ?_
  exact ⟨_,_,rfl,Zad hn,ZaR hlt ZaU,rfl,by rw [hR] <;> rfl,by rw [hR] <;> rfl⟩
 have hE:tEnd t6=((false,(ZhE t6).1),(ZhE t6).2):=by unfold tEnd;rw [if_neg (by intro e;rw [e] at hc7;exact hc7 rfl)]
 rw [hE,hU] at hR
 refine Zaf<|Zai<|wr'<|mv' lk pt<|mv' lk pt<|ZaA mp (ZdI e7 (ZaC hid)) (Zax hid) pt<|?_
 refine ZaA mp (Zpk (by omega) e8 (ZaC hid)) (Zax hid) pt ?_
 refine mv' lk pt<|sn'<|wr'<|mv' lk pt<|ZaA mp (Zpl e9 (ZaC hid)) (Zax hid) pt<|mv' lk pt<|sn'<|wr'<|mv' lk pt<|mv' lk pt<|?_
 refine ZaA mp (ZdI e10 (ZaC hid)) (Zax hid) pt ?_
 refine ZaA mp (Zpk (by omega) e11 (ZaC hid)) (Zax hid) pt ?_
 refine mv' lk pt<|sn'<|wr'<|mv' lk pt<|mv' lk pt<|mv' lk pt<|V' (ZaB (ZlI (cvl lk rfl) rfl (cvl lk rfl) rfl (cvl lk rfl) rfl)) pt<|V' (Zaa lk) pt<|V' (Zcv lk) pt<|E' (Zal lk (cvl lk rfl) (hga (Zad hn) rfl) rfl (nb' rfl) rfl Zq9 (hs1 (Zad hn))) ptn<|sn'<|?_
 refine wr'<|mv' lk pt<|ZaA mp (Zpn (.inr rfl) o11 e12 (ZaC hid)) (Zax hid) pt<|mv' lk pt<|V' (Zbb lk gt) pt<|V' (Zbb lk gt) pt<|V' (Zaa lk) pt<|V' (Zcv lk) pt<|E' (Zal lk (cvl lk rfl) (hga (Zad hn) rfl) rfl (nb' rfl) rfl Zkq (hs1 (Zad hn))) ptn<|V' (Zaa lk) pt<|V' (Zcv lk) pt<|E' (Zal lk (cvl lk rfl) (hga (Zad hn) rfl) rfl (nb' rfl) rfl Zkp (hs1 (Zad hn))) ptn<|Zas<|?_
 refine Zai<|Zam<|wr'<|V' (Zaa lk) pt<|V' (Zcv lk) pt<|V' (Zac lk (hga (Zad hn) rfl) gt9) pt<|V' (ZaX lk lki) pt<|sn'<|?_
 refine cd' lk (fun hc8=>?_) (fun hc8=>?_)
 ·rw [if_pos hc8] at hR
  refine Zar<|mv' lk pt<|V' (ZaD lk) pt<|V' (Zaa lk) pt<|E' (Zal lk (cvl lkb rfl) (ZaC hid) rfl (nb' rfl) rfl Zcc (Zax hid)) ptn<|sn'<|wr'<|V' (Zau lk (hga (Zad hn) rfl) Zdn rfl) pt<|E' (Zal lk (cvl lk rfl) (hga (Zad hn) rfl) rfl (nb' rfl) rfl Zgq (hs0 (Zad hn))) ptn<|sn'<|Zab<|?_
  refine Zag (rs1 (rr_c gt (hga (Zad hn) rfl) (ld1 Zdn rfl))) ?_
  exact ⟨_,_,rfl,Zad hn,ZaR hlt ZaU,rfl,by rw [hR] <;> rfl,by rw [hR] <;> rfl⟩
 rw [if_neg hc8] at hR
 refine Zaf<|Zai<|wr'<|V' (Zau lk (hga (Zad hn) rfl) Zdn rfl) pt<|E' (Zal lk (cvl lk rfl) (hga (Zad hn) rfl) rfl (nb' rfl) rfl Zgq (hs0 (Zad hn))) ptn<|sn'<|Zab<|Zag (rs1 (rr_c gt (hga (Zad hn) rfl) (ld1 Zdn rfl)))<|?_
 exact ⟨_,_,rfl,Zad hn,ZaR hlt ZaU,rfl,by rw [hR] <;> rfl,by rw [hR] <;> rfl⟩
end Go.Proofs.YtgjchdhdopgkkaaGreatDoor
end
section
namespace Go.Proofs.YtgjchdhdopgkkaaGreatDoor
open Go.Ab Go.RowKit Civ
attribute [local simp] Zbd
section
theorem Zre {a0 c0:AV}{l:List AV}:setCells (a0::l) 0 [c0]=c0::l:=rfl
theorem ZlN {τ:Operand→AV}{y0 y1 y2 y3 y4 y5 y6 y7 y8 y9 y10 y11 y12:Operand}{x0_0 x1_0 x2_0 x3_0 x4_0 x5_0 x6_0 x7_0 x8_0 x9_0 x10_0 x11_0 x12_0:AV}(h0:Zap (τ y0)=some [x0_0]) (l0:[x0_0].all leaf=true) (h1:Zap (τ y1)=some [x1_0]) (l1:[x1_0].all leaf=true) (h2:Zap (τ y2)=some [x2_0]) (l2:[x2_0].all leaf=true) (h3:Zap (τ y3)=some [x3_0]) (l3:[x3_0].all leaf=true) (h4:Zap (τ y4)=some [x4_0]) (l4:[x4_0].all leaf=true) (h5:Zap (τ y5)=some [x5_0]) (l5:[x5_0].all leaf=true) (h6:Zap (τ y6)=some [x6_0]) (l6:[x6_0].all leaf=true) (h7:Zap (τ y7)=some [x7_0]) (l7:[x7_0].all leaf=true) (h8:Zap (τ y8)=some [x8_0]) (l8:[x8_0].all leaf=true) (h9:Zap (τ y9)=some [x9_0]) (l9:[x9_0].all leaf=true) (h10:Zap (τ y10)=some [x10_0]) (l10:[x10_0].all leaf=true) (h11:Zap (τ y11)=some [x11_0]) (l11:[x11_0].all leaf=true) (h12:Zap (τ y12)=some [x12_0]) (l12:[x12_0].all leaf=true):Zat τ [(0,1,y0),(1,1,y1),(2,1,y2),(3,1,y3),(4,1,y4),(5,1,y5),(6,1,y6),(7,1,y7),(8,1,y8),(9,1,y9),(10,1,y10),(11,1,y11),(12,1,y12)] [(.v (.string ⟨#[]⟩)),(.v (.string ⟨#[]⟩)),(.v (.string ⟨#[]⟩)),(.v (.string ⟨#[]⟩)),(.v (.string ⟨#[]⟩)),(.v (.string ⟨#[]⟩)),(.v (.string ⟨#[]⟩)),(.v (.string ⟨#[]⟩)),(.v (.string ⟨#[]⟩)),(.v (.string ⟨#[]⟩)),(.v (.string ⟨#[]⟩)),(.v (.string ⟨#[]⟩)),(.v (.string ⟨#[]⟩))]=some [x0_0,x1_0,x2_0,x3_0,x4_0,x5_0,x6_0,x7_0,x8_0,x9_0,x10_0,x11_0,x12_0]:=by
 simp only [Zat,h0,l0,h1,l1,h2,l2,h3,l3,h4,l4,h5,l5,h6,l6,h7,l7,h8,l8,h9,l9,h10,l10,h11,l11,h12,l12]
 rfl
theorem Zjl {τ:Operand→AV}{y0 y1 y2 y3 y4 y5 y6:Operand}{x0_0 x1_0 x2_0 x3_0 x4_0 x5_0 x6_0:AV}(h0:Zap (τ y0)=some [x0_0]) (l0:[x0_0].all leaf=true) (h1:Zap (τ y1)=some [x1_0]) (l1:[x1_0].all leaf=true) (h2:Zap (τ y2)=some [x2_0]) (l2:[x2_0].all leaf=true) (h3:Zap (τ y3)=some [x3_0]) (l3:[x3_0].all leaf=true) (h4:Zap (τ y4)=some [x4_0]) (l4:[x4_0].all leaf=true) (h5:Zap (τ y5)=some [x5_0]) (l5:[x5_0].all leaf=true) (h6:Zap (τ y6)=some [x6_0]) (l6:[x6_0].all leaf=true):Zat τ [(0,1,y0),(1,1,y1),(2,1,y2),(3,1,y3),(4,1,y4),(5,1,y5),(6,1,y6)] [(.v (.string ⟨#[]⟩)),(.v (.string ⟨#[]⟩)),(.v (.string ⟨#[]⟩)),(.v (.string ⟨#[]⟩)),(.v (.string ⟨#[]⟩)),(.v (.string ⟨#[]⟩)),(.v (.string ⟨#[]⟩))]=some [x0_0,x1_0,x2_0,x3_0,x4_0,x5_0,x6_0]:=by
 simp only [Zat,h0,l0,h1,l1,h2,l2,h3,l3,h4,l4,h5,l5,h6,l6]
 rfl
end
def c112:AC:=(Sr [Ms 2] (.seq (Sr [Mv 4 0,Nk 5 4,Fa 6 0 5,Ld 7 6,Oo 8 (.len false (.tmp 7)),Bc 9 .eql 8 0] (Cd 9 (.reg [Cl 10 111 []]) .skip)) (Sr [Mv 11 0,Nk 12 11,Fa 13 0 12,Ld 14 13,Oo 15 (.ia 1 (.tmp 14) (Ci 0)),Ld 16 15,Mv 3 16] (Sr [Mv 17 0,Mv 18 0,Nk 19 18,Fa 20 0 19,Ld 21 20,Oo 22 (.slc 1 (.tmp 21) (some (Ci 1)) none none),Nk 23 17,Fa 24 0 23,Sc 24 22] (Sr [Mv 25 3,Mv 2 25] .ret)))))
theorem k112:ZaH Tryz.prog 112=some ⟨c112,[(.tmp 2)],26⟩:=by kernel_rfl
def c143:AC:=(Sr [Mc 6 0] (.seq (Sr [Mv 9 0,Oo 10 (.len true (.tmp 9)),Mv 11 1,Bn 12 .lss 10 11,Mv 13 12,Of 14 13 (mt 0),Of 15 13 (.len true (.tmp 14)),Of 16 13 (mt 2),Of 17 13 (.bin .gtr (.tmp 15) (.tmp 16)),Oo 18 (.pick (.tmp 13) (.const (.bool true)) (.tmp 17)),Mv 19 18,Of 20 19 (mt 0),Of 21 19 (.call (.func 117) [(.tmp 20),(.func 119)]),Of 22 19 (.un .not (.tmp 21)),Oo 23 (.pick (.tmp 19) (.const (.bool true)) (.tmp 22))] (Cd 23 (.reg [Cl 24 111 []]) .skip)) (Sr [Mv 26 0,Cl 27 175 [(.tmp 26)],Mv 25 27,Ex 28 25 0,Ex 29 25 1,Mv 7 28,Mv 8 29] (Sr [Mv 30 7,Mv 6 30] .ret))))
theorem k143:ZaH Tryz.prog 143=some ⟨c143,[(.tmp 6)],31⟩:=by kernel_rfl
def c115:AC:=(Sr [Ms 2] (Sr [Mv 4 0,Cl 5 112 [(.tmp 4)],Mv 3 5] (.seq (Sr [Mv 6 3,Cl 7 80 [(.tmp 6)],Oo 8 (.un .not (.tmp 7))] (Cd 8 (.reg [Cl 9 111 []]) .skip)) (Sr [Mv 10 3,Mv 2 10] .ret))))
theorem k115:ZaH Tryz.prog 115=some ⟨c115,[(.tmp 2)],11⟩:=by kernel_rfl
def c192:AC:=(Sr [Mc 4 0] (.seq (Sr [Mv 6 0,Oo 7 (.len false (.tmp 6)),Mc 8 0] (.block 0 (.loop (Sr [Bn 9 .lss 8 7] (.seq (Cd 9 .skip (.exit 0)) (.seq (.block 1 (Sr [Mv 10 8,Mv 5 10] (Sr [Mv 11 1,Mv 12 0,Mv 13 5,Oo 14 (.ia 1 (.tmp 12) (.tmp 13)),Ld 15 14,Bn 16 .eql 11 15] (Cd 16 (Sr [Mv 17 5,Mv 4 17] .ret) .skip)))) (.reg [Bc 18 .add 8 1,Mv 8 18]))))))) (Sr [Oo 4 (.mv (.const (.int .i64 (-1))))] .ret)))
theorem k192:ZaH Tryz.prog 192=some ⟨c192,[(.tmp 4)],19⟩:=by kernel_rfl
def c176:AC:=(Sr [Mc 4 0] (Sr [Mv 6 0,Mv 7 1,Cl 8 192 [(.tmp 6),(.tmp 7)],Mv 5 8] (.seq (Sr [Mv 9 5,Bc 10 .lss 9 0,Mv 11 10,Of 12 11 (mt 1),Of 13 11 (.bin .eql (.tmp 12) (.const (.string ⟨#[]⟩))),Oo 14 (.pick (.tmp 11) (.const (.bool true)) (.tmp 13))] (Cd 14 (.reg [Cl 15 111 []]) .skip)) (Sr [Mv 16 5,Mv 4 16] .ret))))
theorem k176:ZaH Tryz.prog 176=some ⟨c176,[(.tmp 4)],17⟩:=by kernel_rfl
def c54:AC:=(Sr [Oo 0 (.mv (.const (.slice none 0 0)))] (Sr [Oo 1 (.lit 9 1 13 [Ss,Ss,Ss,Ss,Ss,Ss,Ss,Ss,Ss,Ss,Ss,Ss,Ss] [(0,(1,(.const (.string ⟨#[]⟩)))),(1,(1,(.const (.string ⟨#[74,97,110]⟩)))),(2,(1,(.const (.string ⟨#[70,101,98]⟩)))),(3,(1,(.const (.string ⟨#[77,97,114]⟩)))),(4,(1,(.const (.string ⟨#[65,112,114]⟩)))),(5,(1,(.const (.string ⟨#[77,97,121]⟩)))),(6,(1,(.const (.string ⟨#[74,117,110]⟩)))),(7,(1,(.const (.string ⟨#[74,117,108]⟩)))),(8,(1,(.const (.string ⟨#[65,117,103]⟩)))),(9,(1,(.const (.string ⟨#[83,101,112]⟩)))),(10,(1,(.const (.string ⟨#[79,99,116]⟩)))),(11,(1,(.const (.string ⟨#[78,111,118]⟩)))),(12,(1,(.const (.string ⟨#[68,101,99]⟩))))]),Mv 0 1] .ret))
theorem k54:ZaH Tryz.prog 54=some ⟨c54,[(.tmp 0)],2⟩:=by kernel_rfl
def c93:AC:=(Sr [Oo 0 (.mv (.const (.slice none 0 0)))] (Sr [Oo 1 (.lit 9 1 7 [Ss,Ss,Ss,Ss,Ss,Ss,Ss] [(0,(1,(.const (.string ⟨#[83,117,110]⟩)))),(1,(1,(.const (.string ⟨#[77,111,110]⟩)))),(2,(1,(.const (.string ⟨#[84,117,101]⟩)))),(3,(1,(.const (.string ⟨#[87,101,100]⟩)))),(4,(1,(.const (.string ⟨#[84,104,117]⟩)))),(5,(1,(.const (.string ⟨#[70,114,105]⟩)))),(6,(1,(.const (.string ⟨#[83,97,116]⟩))))]),Mv 0 1] .ret))
theorem k93:ZaH Tryz.prog 93=some ⟨c93,[(.tmp 0)],2⟩:=by kernel_rfl
abbrev wrA:AV:=.v (.iface 121 (.agg #[]))
theorem ZbO {h:AH}:ACalls Tryz.prog 111 [] h fun x h'=>h'=h∧x=.pan wrA:=by
 refine ⟨by kernel_rfl,fun w g vs hs ha=>?_⟩
 obtain rfl:vs = #[]:=by
  simp only [RepL] at ha
  cases vs;simp_all
 have hc:Calls Tryz.prog 111 #[] w fun e w'=>e=.panicked [{ v:=.iface 121 (.agg #[]),recovered:=false }]∧w'=w:=by
  go_enter Tryz.func111,Tryz.ntmps111
  go_wp2
  simp [bodyPost]
 refine hc.mono ?_
 rintro e w' ⟨rfl,rfl⟩
 exact ⟨.pan wrA,h,g,by simp only [EndR,Rep];exact ⟨_,rfl,rfl⟩,hs,Gh.le.refl g,Fr.refl _ _,fun k hk=>.inl hk,rfl,rfl⟩
def res (o:Option AV):AE:=match o with
 | none=>.pan wrA
 | some v=>.ret v
abbrev rdE (l:List ByteArray):Ent:=.mk 0 146 1 [.sl l.length 1 false (rows strC l)]
theorem ZaJ {l:List ByteArray}{n:Nat}:(Ent.mk 0 146 1 [.sl l.length 1 false (rows strC l)]).lt n=true:=by simp [Ent.lt,AV.lt,AV.ltL,Zbd]
def RS (id:Nat) (h:AH) (o:Option (AV×List ByteArray)) (x:AE) (h':AH):Prop:=match o with
 | none=>x=.pan wrA ∧ ∃ l',h'=h.set id (rdE l')
 | some p=>x=.ret p.1∧h'=h.set id (rdE p.2)
theorem RS.a {f:FuncId}{as1:List AV}{id:Nat}{h:AH}{o:Option (AV×List ByteArray)}{p:AV×List ByteArray}(hc:ACalls Tryz.prog f as1 h (RS id h o)) (e:o=some p):ACalls Tryz.prog f as1 h fun x h'=>x=.ret p.1∧h'=h.set id (rdE p.2):=by
 subst e;exact hc
theorem RS.p {f:FuncId}{as1:List AV}{id:Nat}{h:AH}{o:Option (AV×List ByteArray)}(hc:ACalls Tryz.prog f as1 h (RS id h o)) (e:o=none):ACalls Tryz.prog f as1 h fun x h'=>x=.pan wrA ∧ ∃ l',h'=h.set id (rdE l'):=by
 subst e;exact hc
theorem Zn0 {f:FuncId}{as1:List AV}{h:AH}{o:Option AV}{v:AV}(hc:ACalls Tryz.prog f as1 h fun x h'=>h'=h∧x=res o) (e:o=some v):ACalls Tryz.prog f as1 h fun x h'=>h'=h∧x=.ret v:=by
 subst e;exact hc
theorem ZnZ {f:FuncId}{as1:List AV}{h:AH}{o:Option AV}(hc:ACalls Tryz.prog f as1 h fun x h'=>h'=h∧x=res o) (e:o=none):ACalls Tryz.prog f as1 h fun x h'=>h'=h∧x=.pan wrA:=by
 subst e;exact hc
theorem ZgG {l:List ByteArray}{id:Nat}{h:AH}(h1:h[id]?=some (rdE l)):ACalls Tryz.prog 112 [.ptr id 0 0] h (RS id h ((Zbf l).map fun p=>(sv p.1,p.2))):=by
 have hid:id<h.length:=(List.getElem?_eq_some_iff.1 h1).1
 refine tJ' k112 fun N hn hlt hlA hbd=>?_
 simp only [tb'] at hbd ⊢
 refine ZbG (h1:=h.set id (rdE l)++[]) (by rw [ZbU h1]) ?_
 refine wr'<|mv' lks pt<|sn'<|Zam<|wr'<|mv' lk pt<|V' (ZaD lk) pt<|V' (Zaa lk) pt<|V' (Zac lk (ZaC hid) gt0) pt<|V' (ZaK lk) pt<|V' (ZaX lk lki) pt<|?_
 refine sn' ?_
 refine cd' lk (fun hc1=>?_) (fun hc1=>?_)
 ·have hl:l=[]:=List.eq_nil_of_length_eq_zero (by omega)
  refine Zar<|Zay mp0 (ZbO)<|ZaS<|Zba<|?_
  exact ⟨_,_,rfl,Zad hn,ZaR hlt ZaJ,rfl,by rw [hl];exact ⟨rfl,[],rfl⟩⟩
 have hlen:0<l.length:=by omega
 refine Zaf<|Zai<|wr'<|mv' lk pt<|V' (ZaD lk) pt<|V' (Zaa lk) pt<|V' (Zac lk (ZaC hid) gt0) pt<|?_
 refine V' (Zbg (k:=0) lk lki Za2 (nb' rfl) ro (by omega) ro rfl) pt ?_
 refine V' (ZaZ lk gt) pt<|mv' lk pt<|sn'<|wr'<|mv' lk pt<|mv' lk pt<|V' (ZaD lk) pt<|V' (Zaa lk) pt<|V' (Zac lk (ZaC hid) gt0) pt<|?_
 refine V' (v_lo (k:=1) lk lki Za2 ro (by omega) ro) pt ?_
 refine V' (ZaD lk) pt<|V' (Zaa lk) pt<|E' (Zal lk (cvl lk rfl) (ZaC hid) rfl (nb' rfl) rfl Zre (Zax hid)) ptn<|sn'<|wr'<|mv' lk pt<|mv' lk pt<|sn'<|Zab<|Zag rz<|?_
 cases l with
 | nil=>cases hlen
 | cons a l=>exact ⟨_,_,rfl,Zad hn,ZaR hlt (ZaJ (l:=l)),rfl,rfl,rfl⟩
theorem ZhO : ∀ {l:Bs}{acc:Nat},(∀ c∈l,digB c.toNat=true) → ∃ m:Nat,Lib.decFrom acc l=some m∧(m:Int)=decL acc l
 | [],acc,h=>⟨acc,rfl,rfl⟩
 | c::l,acc,h=>by
  have hd:=ZiT (h c (by simp))
  have hv:Lib.digitVal c=some (c.toNat-48):=if_pos (by omega)
  obtain ⟨m,h1,h2⟩:=ZhO (l:=l) (acc:=acc*10+(c.toNat-48)) (fun x hx=>h x (by simp [hx]))
  refine ⟨m,by rw [Lib.decFrom,hv];exact h1,?_⟩
  rw [h2,decL]
  congr 1
  omega
theorem atoi_dec {s:ByteArray}(h0:1≤s.size) (h:allB digB s=true):Lib.atoi (aB s)=some (decL 0 (aB s)):=by
 have hm : ∀ c∈aB s,digB c.toNat=true:=fun c hc=>ZfZ (l:=aB s) h hc
 obtain ⟨m,h1,h2⟩:=ZhO (l:=aB s) (acc:=0) hm
 have hl:1≤(aB s).length:=h0
 cases hs:aB s with
 | nil=>rw [hs] at hl;cases hl
 | cons c l =>
  rw [hs] at h1 h2 hm
  have hd:=ZiT (hm c (by simp))
  have e45:(c==45)=false:=by rw [beq_eq_false_iff_ne];rintro rfl;revert hd;decide
  have e43:(c==43)=false:=by rw [beq_eq_false_iff_ne];rintro rfl;revert hd;decide
  simp only [Lib.atoi,e45,e43,Bool.false_eq_true,if_false]
  rw [Lib.decNat,if_neg (by simp),h1,Option.map_some,h2]
  rfl
theorem Zit {s:ByteArray}{a b:Int}{h:AH}(hz:s.size≤24) (ha1:1≤a) (hb4:b≤4):ACalls Tryz.prog 143 [sv s,iv a,iv b] h fun x h'=>h'=h∧x=res ((numV s a b).map iv):=by
 refine tI' k143 fun N hn hlt hlA hbd=>?_
 simp only [tb'] at hbd ⊢
 refine wr'<|mv' lki pt<|sn'<|Zam<|wr'<|mv' lk pt<|V' (Zbi lk) pt<|mv' lk pt<|V' (Zbu lk lk) pt<|mv' lk pt<|?_
 refine sp' (t:=13) gt pt pt (fun hg13=>?_) (fun hg13=>?_)
 ·have hN:numV s a b=none:=if_neg (by rintro ⟨e,_⟩;unfold wi at e;simp at e;omega)
  refine s_no gt pt<|s_no gt pt<|s_no gt pt<|s_no gt pt<|V' (Zaj lk lkb) pt<|mv' lk pt<|s_no gt pt<|s_no gt pt<|s_no gt pt<|V' (Zaj lk lkb) pt<|sn'<|ZaG lk<|Zar<|?_
  refine Zay mp0 (ZbO)<|ZaS<|Zba<|?_
  exact ⟨_,rfl,rfl,by rw [hN];rfl⟩
 refine s_do gt<|mv' lk pt<|s_do gt<|V' (Zbi lk) pt<|s_do gt<|mv' lk pt<|s_do gt<|V' (ZbN lk lk) pt<|V' (Zah lk lk) pt<|mv' lk pt<|?_
 refine sp' (t:=19) gt pt pt (fun hg19=>?_) (fun hg19=>?_)
 ·have hN:numV s a b=none:=if_neg (by rintro ⟨e,_⟩;unfold wi at e;simp at e;omega)
  refine s_no gt pt<|s_no gt pt<|s_no gt pt<|V' (Zaj lk lkb) pt<|sn'<|ZaG lk<|Zar<|Zay mp0 (ZbO)<|ZaS<|Zba<|?_
  exact ⟨_,rfl,rfl,by rw [hN];rfl⟩
 refine s_do gt<|mv' lk pt<|s_do gt<|?_
 refine Zae mp (all_a (fun _ _=>Zlw) (by unfold maxLen;omega)) pt ?_
 refine s_do gt<|V' (Zav lk) pt<|V' (Zah lk lk) pt<|sn'<|?_
 refine Zaw lk (fun hc1=>?_) (fun hc1=>?_)
 ·have hN:numV s a b=none:=if_neg (by rintro ⟨_,e⟩;rw [e] at hc1;simp at hc1)
  refine Zar<|Zay mp0 (ZbO)<|ZaS<|Zba<|?_
  exact ⟨_,rfl,rfl,by rw [hN];rfl⟩
 have hall:allB digB s=true:=by simpa using hc1
 have hN:numV s a b=some (decL 0 (aB s)):=if_pos ⟨by unfold wi;simp;omega,hall⟩
 refine Zaf<|Zai<|wr'<|mv' lk pt<|?_
 refine Zae mp (atoi_a (by omega) (atoi_dec (by omega) hall)) pt ?_
 refine mv' lk pt<|V' (Zbb lk gt) pt<|V' (Zbb lk gt) pt<|mv' lk pt<|mv' lk pt<|sn'<|wr'<|mv' lk pt<|mv' lk pt<|sn'<|Zab<|?_
 refine Zag rz ?_
 exact ⟨_,rfl,rfl,by rw [hN];rfl⟩
theorem Zmk {l:List ByteArray}{id:Nat}{h:AH}(hz : ∀ x∈l,x.size≤24) (h1:h[id]?=some (rdE l)):ACalls Tryz.prog 115 [.ptr id 0 0] h (RS id h ((ZcI l).map fun p=>(sv p.1,p.2))):=by
 have hid:id<h.length:=(List.getElem?_eq_some_iff.1 h1).1
 cases l with
 | nil =>
  refine tJ' k115 fun N hn hlt hlA hbd=>?_
  simp only [tb'] at hbd ⊢
  refine ZbG (h1:=h.set id (rdE [])++[]) (by rw [ZbU h1]) ?_
  refine wr'<|mv' lks pt<|sn'<|wr'<|mv' lk pt<|?_
  refine ZaP mp (RS.p (ZgG (l:=[]) (ZaC hid)) rfl) (fun hP_ hPp_=>?_)
  refine ZaS<|Zba<|?_
  obtain ⟨l',rfl⟩:=hPp_
  rw [Zax hid]
  exact ⟨_,_,rfl,Zad hn,ZaR hlt ZaJ,rfl,rfl,l',rfl⟩
 | cons s l =>
  have hzs:=hz s (by simp)
  refine tJ' k115 fun N hn hlt hlA hbd=>?_
  simp only [tb'] at hbd ⊢
  refine ZbG (h1:=h.set id (rdE (s::l))++[]) (by rw [ZbU h1]) ?_
  refine wr'<|mv' lks pt<|sn'<|wr'<|mv' lk pt<|ZaA mp (RS.a (ZgG (l:=s::l) (ZaC hid)) rfl) (Zax hid) pt<|mv' lk pt<|sn'<|Zam<|Zam<|?_
  refine Zar<|mv' lk pt<|?_
  refine Zae mp (ZgO (s:=s) (by unfold maxLen;omega)) pt ?_
  refine V' (Zav lk) pt<|sn'<|?_
  refine Zaw lk (fun hc1=>?_) (fun hc1=>?_)
  ·have hN:ZcI (s::l)=none:=by unfold ZcI ZaN Zbf Zbs;simp only;rw [if_neg (by simpa using hc1)]
   refine Zar<|Zay mp0 (ZbO)<|ZaS<|Zba<|?_
   exact ⟨_,_,rfl,Zad hn,ZaR hlt ZaJ,rfl,by rw [hN];exact ⟨rfl,l,rfl⟩⟩
  have hN:ZcI (s::l)=some (s,l):=by unfold ZcI ZaN Zbf Zbs;simp only;rw [if_pos (by simpa using hc1)]
  refine Zaf<|Zai<|wr'<|mv' lk pt<|mv' lk pt<|sn'<|Zab<|Zag rz<|?_
  exact ⟨_,_,rfl,Zad hn,ZaR hlt ZaJ,rfl,by rw [hN];exact ⟨rfl,rfl⟩⟩
theorem sindex_a {l:List ByteArray}{s:ByteArray}{h:AH}:Ac 192 [.sl l.length 1 false (rows strC l),sv s] h (iv ((idxL l s 0).getD (-1))):=by
 refine tI' k192 fun N hn hlt hlA hbd=>?_
 simp only [tb'] at hbd ⊢
 refine wr'<|mv' lki pt<|sn'<|Zam<|wr'<|mv' lk pt<|V' (ZaK lk) pt<|mv' lki pt<|sn'<|Zao<|?_
 refine w_lp (ι:=Nat) (fun (k:Nat)=>[(8,iv (k:Int)),(4,.any),(5,.any)]++rn' 9 10) (fun (k:Nat)=>[]) (fun (k:Nat)=>k≤l.length∧idxL l s 0=idxL (l.drop k) s (0+(k:Int))) (fun (k:Nat)=>l.length-k) (0) (by exact ⟨Nat.zero_le _,by simp⟩) ?_
 rintro k hi1
 try simp only [sm',Nat.reduceAdd]
 obtain ⟨hk1,hk2⟩:=hi1
 refine wr'<|V' (Zbu lk lk) pt<|sn'<|Zam<|?_
 refine cd' lk (fun hc1=>?_) (fun hc1=>?_)
 ·have hk:k<l.length:=by omega
  rw [Ztm hk] at hk2
  refine Zaf<|Zai<|Zam<|Zao<|wr'<|mv' lk pt<|mv' lk pt<|sn'<|wr'<|mv' lk pt<|mv' lk pt<|?_
  refine mv' lk pt ?_
  refine V' (Zbg lk lk Za2 (nb' rfl) ro (by omega) ro rfl) pt ?_
  refine V' (ZaZ lk gt) pt<|V' (Zcj lk lk) pt<|sn'<|?_
  refine cd' lk (fun hc2=>?_) (fun hc2=>?_)
  ·rw [if_pos hc2] at hk2
   refine wr'<|mv' lk pt<|mv' lk pt<|sn'<|Zab<|Zaq<|Zak<|Zak<|Zaq<|Zak<|Zag rz<|rT'<|?_
   refine ivx ?_;rw [hk2];simp
  rw [if_neg hc2] at hk2
  refine Zaf<|ZaF<|Zai<|Zar<|?_
  refine V' (ZaE lk lki (by omega) (by omega)) pt ?_
  refine mv' lk pt<|Zas<|ZaI<|?_
  refine lT' (k+1) (by (try dsimp only);exact ⟨by omega,hk2⟩)
 rw [List.drop_of_length_le (by omega)] at hk2
 refine Za0<|ZaO<|ZaO<|Zbp<|Zai<|wr'<|mv' lki pt<|sn'<|Zab<|Zag rz<|rT'<|?_
 refine ivx ?_;rw [hk2];rfl
theorem Zpw {l:List ByteArray}{s:ByteArray}{h:AH}:ACalls Tryz.prog 176 [.sl l.length 1 false (rows strC l),sv s] h fun x h'=>h'=h∧x=res (if s=⟨#[]⟩ then none else (idxL l s 0).map iv):=by
 obtain ⟨o,ho⟩ : ∃ o,o=idxL l s 0:=⟨_,rfl⟩
 have hbd : ∀ n,o=some n→0≤n:=fun n e=>(Zlq (ho.symm.trans e)).1
 rw [←ho]
 have hcase:(o=none) ∨ ∃ n,o=some n:=by cases o <;> simp
 refine tI' k176 fun N hn hlt hlA hbd=>?_
 simp only [tb'] at hbd ⊢
 refine wr'<|mv' lki pt<|sn'<|wr'<|mv' lk pt<|mv' lk pt<|Zae mp (sindex_a) pt<|?_
 rw [←ho]
 refine mv' lk pt<|sn'<|Zam<|wr'<|mv' lk pt<|V' (Zbu lk lki) pt<|mv' lk pt<|?_
 refine sp' (t:=11) gt pt pt (fun hg11=>?_) (fun hg11=>?_)
 ·have hN:o=none:=by rcases hcase with e | ⟨n,rfl⟩;exact e;have:=hbd n rfl;simp at hg11;omega
  have hR:(if s=⟨#[]⟩ then none else o.map iv)=none:=by rw [hN];split <;> rfl
  refine s_no gt pt<|s_no gt pt<|V' (Zaj lk lkb) pt<|sn'<|ZaG lk<|Zar<|Zay mp0 (ZbO)<|ZaS<|Zba<|?_
  exact ⟨_,rfl,rfl,by rw [hR];rfl⟩
 refine s_do gt<|mv' lk pt<|s_do gt<|V' (Zcj lk lks) pt<|V' (Zah lk lk) pt<|sn'<|?_
 refine cd' lk (fun hc1=>?_) (fun hc1=>?_)
 ·have hR:(if s=⟨#[]⟩ then none else o.map iv)=none:=if_pos hc1
  refine Zar<|Zay mp0 (ZbO)<|ZaS<|Zba<|?_
  exact ⟨_,rfl,rfl,by rw [hR];rfl⟩
 obtain ⟨n,rfl⟩ : ∃ n,o=some n:=by rcases hcase with rfl | e;exact absurd (by decide:(-1:Int)<0) hg11;exact e
 have hR:(if s=⟨#[]⟩ then none else (some n).map iv)=some (iv n):=if_neg hc1
 refine Zaf<|Zai<|wr'<|mv' lk pt<|mv' lk pt<|sn'<|Zab<|Zag rz<|?_
 exact ⟨_,rfl,rfl,by rw [hR];rfl⟩
theorem Zlf {h:AH}:Ac 54 [] h (.sl (⟨#[]⟩::monL).length 1 false (rows strC (⟨#[]⟩::monL))):=by
 refine tW' k54 fun N hn hlt hlA hbd=>?_
 simp only [tb'] at hbd ⊢
 refine wr'<|mv' lkn pt0<|sn'<|wr'<|E' (Zeh (ZlN (cvl lks rfl) rfl (cvl lks rfl) rfl (cvl lks rfl) rfl (cvl lks rfl) rfl (cvl lks rfl) rfl (cvl lks rfl) rfl (cvl lks rfl) rfl (cvl lks rfl) rfl (cvl lks rfl) rfl (cvl lks rfl) rfl (cvl lks rfl) rfl (cvl lks rfl) rfl (cvl lks rfl) rfl) (hl0 hn) ha0) pt1<|mv' lk1 pt0<|Zas<|ZbQ (ALe.iceR (hga hn rfl) gt0 rfl (nb' rfl) pt0 (hs0 hn))<|Zab<|Zag (rs1 (rr_t gt0))<|rtW'<|?_
 exact Wk.refl _
theorem ZfK {h:AH}:Ac 93 [] h (.sl dayL.length 1 false (rows strC dayL)):=by
 refine tW' k93 fun N hn hlt hlA hbd=>?_
 simp only [tb'] at hbd ⊢
 refine wr'<|mv' lkn pt0<|sn'<|wr'<|E' (Zeh (Zjl (cvl lks rfl) rfl (cvl lks rfl) rfl (cvl lks rfl) rfl (cvl lks rfl) rfl (cvl lks rfl) rfl (cvl lks rfl) rfl (cvl lks rfl) rfl) (hl0 hn) ha0) pt1<|mv' lk1 pt0<|Zas<|ZbQ (ALe.iceR (hga hn rfl) gt0 rfl (nb' rfl) pt0 (hs0 hn))<|Zab<|Zag (rs1 (rr_t gt0))<|rtW'<|?_
 exact Wk.refl _
end Go.Proofs.YtgjchdhdopgkkaaGreatDoor
end
section
namespace Go.Proofs.YtgjchdhdopgkkaaGreatDoor
open Go.Ab Go.RowKit
section
theorem ZrQ {a0 a1 c0:AV}{l:List AV}:setCells (a0::a1::l) 1 [c0]=a0::c0::l:=rfl
end
def c61:AC:=(Sr [Mc 4 0,Oo 5 (.mv (.const .nilIface))] (Sr [Mv 6 0,Cl 7 95 [(.tmp 6)]] (Sr [Mv 8 0,Mv 9 0,Nk 10 9,Fa 11 1 10,Ld 12 11,Mv 13 1,Oo 14 (.app 5 1 1 (.tmp 12) (.tmp 13)),Nk 15 8,Fa 16 1 15,Sc 16 14] (Sr [Mv 17 1,Oo 18 (.len true (.tmp 17)),Mv 4 18,Oo 5 (.mv (.const .nilIface))] .ret))))
theorem k61:ZaH Tryz.prog 61=some ⟨c61,[(.tmp 4),(.tmp 5)],19⟩:=by kernel_rfl
def c65:AC:=(Sr [Mc 2 0] (Sr [Mv 3 0,Nk 4 3,Fa 5 1 4,Ld 6 5,Oo 7 (.len false (.tmp 6)),Mv 2 7] .ret))
theorem k65:ZaH Tryz.prog 65=some ⟨c65,[(.tmp 2)],8⟩:=by kernel_rfl
abbrev byC (b:UInt8):List AV:=[.v (.int .u8 b.toNat)]
theorem by_lt {n:Nat}(l:Bs):AV.ltL n (rows byC l)=true:=Zfz (fun _ _=>rfl) l
attribute [local simp] by_lt
theorem by_len1 : ∀ x,(byC x).length=1:=fun _=>rfl
theorem ZtO (l:Bs):(rows byC l).length=l.length*1:=Zbw by_len1 l
theorem by_leaf (l:Bs):(rows byC l).all leaf=true:=Ziv (fun _=>rfl) l
theorem ZtN (l:Bs):rows byC l=l.map fun b=>AV.v (.int .u8 b.toNat):=by
 induction l with
 | nil=>rfl
 | cons c l ih=>rw [show rows byC (c::l)=byC c++rows byC l from rfl,ih];rfl
theorem repL_by {w:World}{g:Gh}{l:Bs}{vs:List Value}:RepL w g (rows byC l) vs↔vs=l.map fun b=>Value.int .u8 b.toNat:=ZpH fun b:UInt8=>Value.int .u8 b.toNat
theorem Ztd {P:Program}{T c:Nat}(hs:P.cellsOf T≠0) (hc:1≤c):liesAt P P.depth T c 0 T 1=true:=by
 obtain ⟨d,hd⟩ : ∃ d,P.depth=d+1:=⟨_,rfl⟩
 have hsl:sameLayout P P.depth T T=true:=by rw [hd];unfold sameLayout;simp
 have hr:rowAt P (sameLayout P P.depth · T) P.depth T c 0 1=true:=by
  conv=>lhs;arg 3;rw [hd]
  unfold rowAt
  rw [if_neg hs]
  simp [hsl,hc]
 conv=>lhs;arg 2;rw [hd]
 unfold liesAt
 rw [hr];rfl
theorem Zly (b n:Nat) (w:World) (h0:w.cell? ⟨b,0,none⟩=some (.pointer none)) (hsh:w.shape? b=some (102,n)) (hn:2≤n) (hfz:w.frozen? ⟨b,0,none⟩=false) :
  Calls Tryz.prog 95 #[.pointer (some ⟨b,0,none⟩)] w fun e w'=>e=.returned (.tuple #[])∧w'=w.setCell ⟨b,0,none⟩ (.pointer (some ⟨b,0,none⟩)):=by
 obtain ⟨j,hj,hjs⟩:=Option.map_eq_some_iff.1 Tryz.Builder_Extra_156.sizeBuilder
 have hcs:Tryz.prog.cellsOf 102=2:=by kernel_rfl
 have hl:liesAt Tryz.prog Tryz.prog.depth 102 (n/Tryz.prog.cellsOf 102) 0 102 1=true:=Ztd (by rw [hcs];decide) (by rw [hcs];omega)
 go_enter Tryz.func95,Tryz.ntmps95
 go_wp2
 rw [Lib.run_to_unsafe w ⟨b,0,none⟩ Tryz.underlying99 Tryz.underlying156 hj (by rw [hjs];decide) hsh (by show 0<n;omega)]
 simp only [Result.andThen]
 rw [Oper.upon_value]
 go_wp2
 rw [run_callFunc_extern Tryz.func133 (by kernel_rfl) (by kernel_rfl) (by kernel_rfl) (e:=Extern.AbiNoEscape.same) (by kernel_rfl)]
 rw [Lib.run_noEscape]
 simp only [Result.andThen]
 rw [Oper.upon_value]
 go_wp2
 rw [Lib.run_from_unsafe w ⟨b,0,none⟩ Tryz.underlying156 Tryz.underlying99 hj hsh hl]
 simp only [Result.andThen]
 rw [Oper.upon_value]
 go_wp2
 go_end0
 exact ⟨rfl,rfl⟩
def bldP (id v0:Nat) (p:AV):Prop:=p=.v (.pointer none)∨p=.ptr id v0 0
theorem Zq0 {p B:AV}{id v0:Nat}{h:AH}(h1:h[id]?=some (.mk v0 102 2 [p,B])) (hp:bldP id v0 p) :
  ACalls Tryz.prog 95 [.ptr id v0 0] h fun r h'=>r=.ret (.tup [])∧h'=h.set id (.mk v0 102 2 [.ptr id v0 0,B]):=by
 refine ⟨by kernel_rfl,fun w g vs hs ha=>?_⟩
 simp only [RepL,Rep] at ha
 obtain ⟨u1,us1,e1,⟨b,cap,hl,rfl⟩,rfl⟩:=ha
 obtain rfl:vs = #[.pointer (some ⟨b,0,none⟩)]:=by cases vs;simp_all
 obtain ⟨A,cap',f1,fm,f3⟩:=hs.ent _ _ _ _ _ h1
 rw [hl] at f1
 simp only [Option.some.injEq,Prod.mk.injEq] at f1
 obtain ⟨rfl,rfl⟩:=f1
 rcases f3 with ⟨hz,_⟩ | ⟨b',arr,e,hc0,hd,hb,hsz,hle,hrl⟩
 ·cases hz
 cases e
 simp only [List.length_cons,List.length_nil,RepL] at hrl hle
 obtain ⟨u,us,e2,hu,u',us',rfl,hu',rfl⟩:=hrl
 have how:OwAt g h id b:=⟨v0,_,2,_,_,cap,h1,hl,hc0,rfl⟩
 have hcell:w.cell? ⟨b,0,none⟩=some u:=by
  rw [cell_of_row w b 0 arr _ _ hb]
  have:=congrArg (·[0]?) e2
  simpa using this
 rcases hp with rfl | rfl
 ·simp only [Rep] at hu
  subst hu
  obtain ⟨s1,n1,z1,_⟩:=hs.store h1 hl (k:=0) (c:=.ptr id v0 0) (u:=.pointer (some ⟨b,0,none⟩)) (by simp) (by simp only [Rep];exact ⟨b,cap,hl,rfl⟩)
  have hsh:w.shape? b=some (102,arr.size):=by simp [World.shape?,hb]
  refine (Zly b arr.size w hcell hsh (by simpa using hle) z1).mono ?_
  rintro e w' ⟨rfl,rfl⟩
  refine ⟨.ret (.tup []),_,g,?_,s1,Gh.le.refl g,⟨rfl,rfl,rfl,by simp [World.setCell],fun k hk ho=>heap_setCell_other _ _ _ _ (fun e=>ho ⟨id,by simpa [e] using how⟩)⟩,?_,rfl,rfl⟩
  ·simp only [EndR,Rep];exact ⟨#[],rfl,by simp only [RepL]⟩
  rintro k ⟨m,v,ty,s,c,b2,cap2,q1,q2,q3,q4⟩
  refine .inl ?_
  by_cases hm:m=id
  ·subst hm
   rw [List.getElem?_set_self (List.getElem?_eq_some_iff.1 h1).1] at q1
   cases q1
   exact ⟨m,_,_,_,_,b2,cap2,h1,q2,q3,q4⟩
  rw [List.getElem?_set_ne (Ne.symm hm)] at q1
  exact ⟨m,v,ty,s,c,b2,cap2,q1,q2,q3,q4⟩
 simp only [Rep] at hu
 obtain ⟨b2,cap2,l2,rfl⟩:=hu
 rw [hl] at l2
 cases l2
 refine (Any.Builder_copyCheck_used { Tryz.lays156 with } Tryz.Builder_Extra_156.toX72 b w hcell).mono ?_
 rintro e w' ⟨rfl,rfl⟩
 refine ⟨.ret (.tup []),h,g,?_,hs,Gh.le.refl g,Fr.refl _ _,fun k hk=>.inl hk,rfl,(ZbU h1).symm⟩
 simp only [EndR,Rep];exact ⟨#[],rfl,by simp only [RepL]⟩
theorem Zlg {n:Nat} : ∀ {a b:List AV},AV.ltL n (a++b)=(AV.ltL n a&&AV.ltL n b)
 | [],b=>by simp [AV.ltL]
 | c::a,b=>by simp [AV.ltL,Zlg (a:=a) (b:=b),Bool.and_assoc]
theorem Zkh {p:AV}{L:Bs}{s:ByteArray}{id ib v0 v:Nat}{h:AH}(h1:h[id]?=some (.mk v0 102 2 [p,.own ib v L.length])) (h2:h[ib]?=some (.mk v 5 1 (rows byC L))) (hne:id≠ib) (hp:bldP id v0 p) (hz:L.length+s.size≤140737488355328) :
  ACalls Tryz.prog 61 [.ptr id v0 0,sv s] h fun r h'=>r=.ret (.tup [iv s.size,.v .nilIface])∧h'=(h.set id (.mk v0 102 2 [.ptr id v0 0,.own ib (v+1) (L++aB s).length])).set ib (.mk (v+1) 5 1 (rows byC (L++aB s))):=by
 have hid:id<h.length:=(List.getElem?_eq_some_iff.1 h1).1
 have hib:ib<h.length:=(List.getElem?_eq_some_iff.1 h2).1
 have hpl:p.lt h.length=true:=by rcases hp with rfl | rfl <;> simp [AV.lt,hid]
 refine tJ' k61 fun N hn hlt hlA hbd=>?_
 simp only [tb'] at hbd ⊢
 rw [hn] at hpl
 have hid':id<N:=by omega
 have hib':ib<N:=by omega
 refine ZbG (h1:=(h.set id (.mk v0 102 2 [p,.own ib v L.length])).set ib (.mk v 5 1 (rows byC L))++[]) (by rw [ZgR h1 h2]) ?_
 refine wr'<|mv' lki pt<|mv' rfl pt<|sn'<|wr'<|mv' lk pt<|ZaA mp (Zq0 (B:=.own ib v L.length) (ZeC hne hid) hp) (Zep hne hid) pt<|sn'<|wr'<|?_
 refine mv' lk pt<|mv' lk pt<|V' (ZaD lk) pt<|V' (Zaa lk) pt<|V' (Zac lk (ZeC hne hid) gt1) pt<|mv' lk pt<|?_
 refine E' (Zej (sc_str lk) lk (Ze5 hib) (ZtO _) (by omega) (by rw [←ZtN];exact by_leaf _) (ZdZ hib)) pt ?_
 refine V' (ZaD lk) pt<|V' (Zaa lk) pt<|E' (Zal lk (cvl lk rfl) (ZeC hne hid) rfl (nb' rfl) rfl ZrQ (Zep hne hid)) ptn<|sn'<|wr'<|mv' lk pt<|V' (Zbi lk) pt<|mv' lk pt<|mv' rfl pt<|sn'<|Zab<|?_
 refine Zag ry ?_
 refine ⟨_,[],by simp only [List.append_nil];rfl,Za7 hn,ZdQ hlt (by simp [Ent.lt,AV.lt,AV.ltL, *]) (by rw [←ZtN];simp [Ent.lt,by_lt,Zlg]),rfl,rfl,?_⟩
 rw [←ZtN,←Zbo,List.length_append]
 rfl
theorem bldLen_a {p:AV}{L:Bs}{id ib v0 v:Nat}{h:AH}(h1:h[id]?=some (.mk v0 102 2 [p,.own ib v L.length])) :
  Ac 65 [.ptr id v0 0] h (iv L.length):=by
 refine tI' k65 fun N hn hlt hlA hbd=>?_
 simp only [tb'] at hbd ⊢
 refine wr'<|mv' lki pt<|sn'<|wr'<|mv' lk pt<|V' (ZaD lk) pt<|V' (Zaa lk) pt<|V' (Zac lk (Zm1 h1) gt1) pt<|V' (Zdr lk) pt<|mv' lk pt<|Zas<|?_
 exact Zai<|Zab<|Zag rz<|rT' rfl
structure Turn1 (b:Nat) (w w':World):Prop where
 os:w'.os=w.os
 tape:w'.tape=w.tape
 output:w'.output=w.output
 size:w.heap.size≤w'.heap.size
 block : ∀ k,k<w.heap.size→k≠b→w'.heap[k]?=w.heap[k]?
theorem Zou (b g cap:Nat) (l:Bs) (cur:Array Value) (w:World) (hbk:w.cell? ⟨b,1,none⟩=some (.slice (some ⟨g,0,none⟩) l.length cap)) (hg:w.heap[g]?=some (.cells cur 5 (0,0))) (h0:l≠[]) (hnc:l.length≤cap) (hcm:cap≤maxLen) (hcs:cur.size=cap) (htake:cur.toList.take l.length=l.map fun x=>Value.int .u8 x.toNat) :
  Calls Tryz.prog 66 #[.pointer (some ⟨b,0,none⟩)] w fun e w'=>e=.returned (.string ⟨l.toArray⟩)∧Turn1 g w w':=by
 have hl0:l.length≠0:=by simpa using h0
 have c1:w.drew.cell? ⟨b,1,none⟩=some (.slice (some ⟨g,0,none⟩) l.length cap):=hbk
 have hSD:(Builtin.unsafeSliceData_ #[100] 132 #[.slice (some ⟨g,0,none⟩) l.length cap]).run Tryz.prog w.drew=.ok (.pointer (some ⟨g,0,none⟩)) w.drew :=
  Lib.run_unsafeSliceData_row _ _ _ _ _ _ (by omega)
 have hUS:(Builtin.unsafeString_ #[132,3] 9 #[.pointer (some ⟨g,0,none⟩),.int .i64 l.length]).run Tryz.prog w.drew=.ok (.string ⟨l.toArray⟩) (w.drew.freeze ⟨g,0,none⟩ l.length):=by
  refine Lib.run_unsafeString_row w.drew 132 3 9 5 Tryz.underlying132 (by kernel_rfl) g cur.size (by have hg':w.drew.heap[g]?=some (.cells cur 5 (0,0)):=hg;simp [World.shape?,hg']) l h0 (by omega) (by unfold maxLen at hcm;omega) ?_
  intro j x hx
  have hg':w.drew.heap[g]?=some (.cells cur 5 (0,0)):=hg
  rw [Addr.add_off,Nat.zero_add,cell_of_row w.drew g j cur _ _ hg']
  have:=congrArg (·[j]?) htake
  obtain ⟨hj,rfl⟩:=List.getElem?_eq_some_iff.1 hx
  simpa [List.getElem?_take,hj] using this
 have mixed:Tryz.prog.follows .mixedOrders=true:=by kernel_rfl
 go_enter Tryz.func66,Tryz.ntmps66
 go_wp2
 go_region_o
 all_goals (go_wp2;go_ret;refine ⟨rfl,?_⟩)
 all_goals
  refine ⟨?_,?_,?_,?_,fun k hk hne=>?_⟩ <;> (unfold World.freeze;rw [if_neg hl0]) <;> try rfl
  ·simp
  simp only [Array.getElem?_modify]
  rw [if_neg (fun e=>hne e.symm)];rfl
theorem SimH.drop1 {w w':World}{g:Gh}{h:AH}(hs:SimH w g h) (id:Nat) (hw : ∀ k,g.D k∨(∃ i,i≠id∧OwAt g h i k)→w'.heap[k]?=w.heap[k]?) (hsz:w.heap.size≤w'.heap.size):SimH w' g (h.set id .gone):=by
 have hget : ∀ {i v ty s:Nat} {c:List AV},(h.set id .gone)[i]?=some (.mk v ty s c)→i≠id∧h[i]?=some (.mk v ty s c):=by
  intro i v ty s c he
  by_cases hii:i=id
  ·subst hii
   rcases Nat.lt_or_ge i h.length with hl | hl
   ·rw [List.getElem?_set_self hl] at he;cases he
   rw [List.getElem?_eq_none (by simpa using hl)] at he;cases he
  rw [List.getElem?_set_ne (Ne.symm hii)] at he;exact ⟨hii,he⟩
 have how : ∀ i k,OwAt g (h.set id .gone) i k→i≠id∧OwAt g h i k:=by
  rintro i k ⟨v,ty,s,c,b,cap,e1,e2,e3,e4⟩
  exact ⟨(hget e1).1,v,ty,s,c,b,cap,(hget e1).2,e2,e3,e4⟩
 refine ⟨?_,fun i j k h1 h2=>hs.inj i j k (how i k h1).2 (how j k h2).2,fun k hk=>Nat.lt_of_lt_of_le (hs.lt k hk) hsz,?_,?_,hs.glob.mono (fun _ h=>h) (fun k hk=>hw k (.inl hk))⟩
 ·intro i v ty s cs he
  obtain ⟨hne,he'⟩:=hget he
  obtain ⟨A,cap,h1,h2,h3⟩:=hs.ent i v ty s cs he'
  refine ⟨A,cap,h1,h2,h3.mono (Gh.le.refl g) (fun _ _ _ h=>h) (fun k hk=>hw k (.inl hk)) (fun k hk h0=>hw k (.inr ⟨i,hne,?_⟩))⟩
  obtain ⟨a0,ea,rfl⟩:=Option.map_eq_some_iff.1 hk
  exact ⟨v,ty,s,cs,a0,cap,he',by rw [h1,ea],h0,rfl⟩
 ·intro i v l hl
  obtain ⟨f1,f2⟩:=hs.fresh i v l hl
  refine ⟨by simpa using f1,fun v' ty s c he=>f2 v' ty s c (hget he).2⟩
 intro i v l hl hfr
 by_cases hii:i=id
 ·subst hii
  rw [List.getElem?_set_self (hs.fresh _ _ _ hl).1] at hfr;cases hfr
 rw [List.getElem?_set_ne (Ne.symm hii)] at hfr;exact hs.free i v l hl hfr
theorem Zox {p:AV}{L:Bs}{id ib v0 v:Nat}{h:AH}(h1:h[id]?=some (.mk v0 102 2 [p,.own ib v L.length])) (h2:h[ib]?=some (.mk v 5 1 (rows byC L))) (hL:L≠[]) :
  ACalls Tryz.prog 66 [.ptr id v0 0] h fun r h'=>r=.ret (sv (bA L))∧h'=h.set ib .gone:=by
 refine ⟨by kernel_rfl,fun w g vs hs ha=>?_⟩
 simp only [RepL,Rep] at ha
 obtain ⟨u1,us1,e1,⟨b,cap,hl,rfl⟩,rfl⟩:=ha
 obtain rfl:vs = #[.pointer (some ⟨b,0,none⟩)]:=by cases vs;simp_all
 obtain ⟨A,cap',f1,fm,f3⟩:=hs.ent _ _ _ _ _ h1
 rw [hl] at f1
 simp only [Option.some.injEq,Prod.mk.injEq] at f1
 obtain ⟨rfl,rfl⟩:=f1
 rcases f3 with ⟨hz,_⟩ | ⟨b',arr,e,hc0,hd,hb,hsz,hle,hrl⟩
 ·cases hz
 cases e
 simp only [List.length_cons,List.length_nil,RepL,Rep] at hrl hle
 obtain ⟨u,us,e2,hu,u',us',rfl,⟨Ab,capb,lb,q1,q2,rfl⟩,rfl⟩:=hrl
 have hcell:w.cell? ⟨b,1,none⟩=some (.slice Ab L.length capb):=by
  rw [cell_of_row w b 1 arr _ _ hb]
  have:=congrArg (·[1]?) e2
  simpa using this
 obtain ⟨A2,cap2,k1,k2,k3⟩:=hs.ent _ _ _ _ _ h2
 rw [lb] at k1
 simp only [Option.some.injEq,Prod.mk.injEq] at k1
 obtain ⟨rfl,rfl⟩:=k1
 rcases k3 with ⟨hz,_⟩ | ⟨gb,cur,rfl,hc2,hd2,hb2,hsz2,hle2,hrl2⟩
 ·exact absurd hz (by rw [←List.length_eq_zero_iff,ZtO];simp [hL])
 rw [ZtO,Nat.mul_one] at hrl2 hle2
 have htake:=repL_by.1 hrl2
 have how:OwAt g h ib gb:=⟨v,_,1,_,_,capb,h2,lb,hc2,rfl⟩
 refine (Zou b gb capb L cur w hcell hb2 hL q1 q2 (by simpa using hsz2) htake).mono ?_
 rintro e w' ⟨rfl,ht⟩
 have hw : ∀ k,g.D k∨(∃ i,i≠ib∧OwAt g h i k)→w'.heap[k]?=w.heap[k]?:=by
  rintro k (hk | ⟨i,hne,hk⟩)
  ·exact ht.block k (hs.lt k hk) (fun e=>hd2 (e ▸ hk))
  refine ht.block k (hs.own_not_D ⟨i,hk⟩).2 (fun e=>hne ?_)
  subst e
  exact hs.inj i ib k hk how
 refine ⟨.ret (sv (bA L)),_,g,by simp only [EndR,Rep];rfl,SimH.drop1 hs ib hw ht.size,Gh.le.refl g,⟨ht.os,ht.tape,ht.output,ht.size,fun k hk ho=>ht.block k hk (fun e=>ho ⟨ib,e ▸ how⟩)⟩,?_,rfl,rfl⟩
 rintro k ⟨i,v',ty,s,c,b2,cap2,e1,e2,e3,e4⟩
 refine .inl ⟨i,v',ty,s,c,b2,cap2,?_,e2,e3,e4⟩
 by_cases hii:i=ib
 ·subst hii
  rw [List.getElem?_set_self (List.getElem?_eq_some_iff.1 h2).1] at e1;cases e1
 rw [List.getElem?_set_ne (Ne.symm hii)] at e1;exact e1
end Go.Proofs.YtgjchdhdopgkkaaGreatDoor
end
section
namespace Go.Proofs.YtgjchdhdopgkkaaGreatDoor
open Go.Ab Go.RowKit
attribute [local simp] Zbd
section
theorem ZlT {τ:Operand→AV}:Zat τ [] []=some []:=rfl
end
def c94:AC:=(Sr [Mc 2 0] (.seq (Sr [Mv 4 0,Oo 5 (.len true (.tmp 4)),Mc 6 0] (.block 0 (.loop (Sr [Bn 7 .lss 6 5] (.seq (Cd 7 .skip (.exit 0)) (.seq (.block 1 (Sr [Mv 8 6,Mv 3 8] (Sr [Mv 9 0,Mv 10 3,Oo 11 (.ix (.tmp 9) (.tmp 10)),Cl 12 132 [(.tmp 11)],Oo 13 (.un .not (.tmp 12)),Mv 14 13,Of 15 14 (mt 0),Of 16 14 (mt 3),Of 17 14 (.ix (.tmp 15) (.tmp 16)),Of 18 14 (.bin .eql (.tmp 17) (.const (.int .u8 34))),Oo 19 (.pick (.tmp 14) (.const (.bool true)) (.tmp 18))] (Cd 19 (Sr [Mc 2 1] .ret) .skip)))) (.reg [Bc 20 .add 6 1,Mv 6 20]))))))) (.seq (Sr [Mv 21 0,Oo 22 (.len true (.tmp 21)),Bc 23 .gtr 22 24] (Cd 23 (Sr [Mc 2 2] .ret) .skip)) (Sr [Mc 2 0] .ret))))
theorem k94:ZaH Tryz.prog 94=some ⟨c94,[(.tmp 2)],24⟩:=by kernel_rfl
def c60:AC:=(Sr [Oo 1 (.box 67 3 (.tmp 0)),Mc 2 0] (.seq (.block 0 (Sr [Fa 7 2 1,Ld 8 7,Oo 9 (.len false (.tmp 8)),Bc 10 .eql 9 0,Mv 6 10] (Cd 6 (Sr [Mc 2 1] .ret) (Sr [Fa 12 2 1,Ld 13 12,Oo 14 (.len false (.tmp 13)),Bc 15 .gtr 14 12,Mv 11 15] (Cd 11 (Sr [Mc 2 2] .ret) .skip))))) (.seq (Sr [Fa 16 2 1,Ld 17 16,Oo 18 (.len false (.tmp 17)),Mc 19 0] (.block 1 (.loop (Sr [Bn 20 .lss 19 18] (.seq (Cd 20 .skip (.exit 1)) (.seq (.block 2 (Sr [Oo 21 (.ia 1 (.tmp 17) (.tmp 19)),Ld 22 21,Mv 4 22] (Sr [Mv 23 4,Cl 24 94 [(.tmp 23)],Mv 5 24] (Sr [Mv 25 5,Bc 26 .neq 25 0] (Cd 26 (Sr [Mv 27 5,Mv 2 27] .ret) .skip))))) (.reg [Bc 28 .add 19 1,Mv 19 28]))))))) (Sr [Mc 2 0] .ret))))
theorem k60:ZaH Tryz.prog 60=some ⟨c60,[(.tmp 2)],29⟩:=by kernel_rfl
def c63:AC:=(Sr [Ms 2] (.seq (Sr [Mv 3 0,Oo 4 (.bin .eql (.tmp 3) (.const (.string ⟨#[]⟩))),Mv 5 4,Of 6 5 (mt 0),Of 7 5 (.call (.func 96) [(.tmp 6),(.const (.string ⟨#[32,9,35]⟩))]),Oo 8 (.pick (.tmp 5) (.const (.bool true)) (.tmp 7))] (Cd 8 (Sr [Mv 9 0,Oo 10 (.bin .add (.const (.string ⟨#[34]⟩)) (.tmp 9)),Oo 11 (.bin .add (.tmp 10) (.const (.string ⟨#[34]⟩))),Mv 2 11] .ret) .skip)) (Sr [Mv 12 0,Mv 2 12] .ret)))
theorem k63:ZaH Tryz.prog 63=some ⟨c63,[(.tmp 2)],13⟩:=by kernel_rfl
def c62:AC:=(Sr [Oo 2 (.mv (.const (.slice none 0 0)))] (.seq (Sr [Mv 3 0,Oo 4 (.eqn false (.tmp 3))] (Cd 4 (Sr [Oo 2 (.mv (.const (.slice none 0 0)))] .ret) .skip)) (Sr [Oo 5 (.lit 9 1 0 [] []),Mv 6 0,Oo 7 (.app 9 1 16 (.tmp 5) (.tmp 6)),Mv 2 7] .ret)))
theorem k62:ZaH Tryz.prog 62=some ⟨c62,[(.tmp 2)],8⟩:=by kernel_rfl
def badN (n:Int):Bool:=!plnN n||decide (n=34)
def Zbl (f:ByteArray):Int:=if (aB f).any (fun c=>badN c.toNat)=true then 1 else if 24<f.size then 2 else 0
def Zef:List ByteArray→Int
 | []=>0
 | f::fs=>if Zbl f≠0 then Zbl f else Zef fs
def ZcS (fs:List ByteArray):Int:=if fs.length=0 then 1 else if 12<fs.length then 2 else Zef fs
def quoN (n:Int):Bool:=blkN n||decide (n=35)
def quoB (f:ByteArray):Bool:=decide (f.size=0)||(aB f).any (fun c=>quoN c.toNat)
def Zey (f:ByteArray):ByteArray:=if quoB f=true then bA [34]++f++bA [34] else f
theorem ZtU {p:Int→Bool}{s:ByteArray}{k:Nat}(h:k<s.size) (hp:p (Zaz s k).toNat=true):(aB s).any (fun c=>p c.toNat)=true:=by
 rw [←List.take_append_drop k (aB s),List.any_append,ZdO h]
 simp [hp]
theorem any_go {p:Int→Bool}{s:ByteArray}{k:Nat}(h:k<s.size) (hp:p (Zaz s k).toNat=false) (ht:((aB s).take k).any (fun c=>p c.toNat)=false):((aB s).take (k+1)).any (fun c=>p c.toNat)=false:=by
 rw [List.take_add,List.any_append,ht,ZdO h]
 simp [hp]
theorem any_end {p:Int→Bool}{s:ByteArray}{k:Nat}(h:s.size≤k) (ht:((aB s).take k).any (fun c=>p c.toNat)=false):(aB s).any (fun c=>p c.toNat)=false:=by
 rw [List.take_of_length_le (show (aB s).length≤k from h)] at ht;exact ht
theorem ZqI {f:ByteArray}{h:AH}(hf:f.size≤maxLen):Ac 94 [sv f] h (iv (Zbl f)):=by
 have hm:f.size≤9223372036854775807:=by simpa [maxLen] using hf
 refine tI' k94 fun N hn hlt hlA hbd=>?_
 simp only [tb'] at hbd ⊢
 refine wr'<|mv' lki pt<|sn'<|Zam<|wr'<|mv' lk pt<|V' (Zbi lk) pt<|mv' lki pt<|sn'<|Zao<|?_
 refine w_lp (ι:=Nat) (fun (k:Nat)=>[(6,iv (k:Int)),(2,.any),(3,.any)]++rn' 7 14) (fun (k:Nat)=>[]) (fun (k:Nat)=>k≤f.size∧((aB f).take k).any (fun c=>badN c.toNat)=false) (fun (k:Nat)=>f.size-k) (0) (by exact ⟨Nat.zero_le _,rfl⟩) ?_
 rintro k hi1
 try simp only [sm',Nat.reduceAdd]
 obtain ⟨hk1,hk2⟩:=hi1
 refine wr'<|V' (Zbu lk lk) pt<|sn'<|Zam<|?_
 refine cd' lk (fun hc1=>?_) (fun hc1=>?_)
 ·have hk:k<f.size:=by omega
  refine Zaf<|Zai<|Zam<|Zao<|wr'<|mv' lk pt<|mv' lk pt<|sn'<|wr'<|mv' lk pt<|mv' lk pt<|?_
  refine V' (v_ix lk lk (by omega) (by omega)) pt ?_
  refine Zae mp (ZmT) pt<|V' (Zav lk) pt<|mv' lk pt<|?_
  refine ZaL (t:=14) gt pt pt (fun hg14=>?_) (fun hg14=>?_)
  ·have hb:badN (Zaz f k).toNat=true:=by have:=hg14;rw [Bool.not_eq_true'] at this;unfold badN;rw [show plnN (Zaz f k).toNat=false from this];rfl
   have hE:Zbl f=1:=if_pos (ZtU (p:=badN) hk hb)
   refine s_no gt pt<|s_no gt pt<|s_no gt pt<|s_no gt pt<|V' (Zaj lk lkb) pt<|sn'<|ZaG lk<|wr'<|mv' lki pt<|sn'<|Zab<|?_
   refine Zaq<|Zak<|Zak<|Zaq<|Zak<|Zag rz<|rT'<|?_
   rw [hE]
  have hg14':plnN (Zaz f k).toNat=true:=by have:=hg14;rw [Bool.not_eq_false'] at this;exact this
  refine s_do gt<|mv' lk pt<|s_do gt<|mv' lk pt<|s_do gt<|?_
  refine V' (v_ix lk lk (by omega) (by omega)) pt ?_
  refine s_do gt<|V' (ZaX lk lki) pt<|V' (Zah lk lk) pt<|sn'<|?_
  refine cd' lk (fun hc2=>?_) (fun hc2=>?_)
  ·have hb:badN (Zaz f k).toNat=true:=by unfold badN;rw [show decide (((Zaz f k).toNat:Int)=34)=true from decide_eq_true hc2];simp
   have hE:Zbl f=1:=if_pos (ZtU (p:=badN) hk hb)
   refine wr'<|mv' lki pt<|sn'<|Zab<|Zaq<|Zak<|Zak<|Zaq<|Zak<|Zag rz<|rT'<|?_
   rw [hE]
  have hb:badN (Zaz f k).toNat=false:=by unfold badN;rw [hg14',show decide (((Zaz f k).toNat:Int)=34)=false from decide_eq_false hc2];rfl
  refine Zaf<|ZaF<|Zai<|Zar<|?_
  refine V' (ZaE lk lki (by omega) (by omega)) pt ?_
  refine mv' lk pt<|Zas<|ZaI<|?_
  refine lT' (k+1) (by (try dsimp only);exact ⟨by omega,any_go (p:=badN) hk hb hk2⟩)
 have hA:=any_end (p:=badN) (s:=f) (k:=k) (by omega) hk2
 refine Za0<|ZaO<|ZaO<|Zbp<|Zai<|Zam<|wr'<|mv' lk pt<|V' (Zbi lk) pt<|V' (ZbN lk lki) pt<|sn'<|?_
 refine cd' lk (fun hc3=>?_) (fun hc3=>?_)
 ·refine wr'<|mv' lki pt<|sn'<|Zab<|Zak<|Zag rz<|rT'<|?_
  rw [Zbl,if_neg (by rw [hA];simp),if_pos (by omega)]
 refine Zaf<|Zai<|wr'<|mv' lki pt<|sn'<|Zab<|Zag rz<|rT'<|?_
 rw [Zbl,if_neg (by rw [hA];simp),if_neg (by omega)]
theorem Ztw {fs:List ByteArray}{k:Nat}(h:k<fs.length):Zef (fs.drop k)=if Zbl fs[k]≠0 then Zbl fs[k] else Zef (fs.drop (k+1)):=by
 rw [List.drop_eq_getElem_cons h,Zef]
theorem Zs0 {n:Int}{b:Bool}{fs:List ByteArray}{full:Bool}{h:AH}(hfs : ∀ f∈fs,f.size≤maxLen):Ac 60 [.agg [iv n,bv b,.sl fs.length 1 full (rows strC fs)]] h (iv (ZcS fs)):=by
 refine tI' k60 fun N hn hlt hlA hbd=>?_
 simp only [tb'] at hbd ⊢
 refine wr'<|E' (Zcm (cvl lk rfl) rfl (hl0 hn) ha0) pt<|mv' lki pt<|sn'<|Zam<|Zao<|wr'<|V' (Zaa lk) pt<|V' (Zac lk (hga hn rfl) gt2) pt<|V' (ZaK lk) pt<|V' (ZaX lk lki) pt<|?_
 refine mv' lk pt<|sn'<|?_
 refine cd' lk (fun hc1=>?_) (fun hc1=>?_)
 ·have hE:ZcS fs=1:=if_pos (by omega)
  refine wr'<|mv' lki pt<|sn'<|Zab<|Zaq<|Zak<|Zag rz<|rT'<|?_
  rw [hE]
 refine wr'<|V' (Zaa lk) pt<|V' (Zac lk (hga hn rfl) gt2) pt<|V' (ZaK lk) pt<|V' (ZbN lk lki) pt<|mv' lk pt<|sn'<|?_
 refine cd' lk (fun hc2=>?_) (fun hc2=>?_)
 ·have hE:ZcS fs=2:=by rw [ZcS,if_neg (by omega),if_pos (by omega)]
  refine wr'<|mv' lki pt<|sn'<|Zab<|Zaq<|Zak<|Zag rz<|rT'<|?_
  rw [hE]
 have hE:ZcS fs=Zef fs:=by rw [ZcS,if_neg (by omega),if_neg (by omega)]
 refine Zaf<|ZaF<|Zai<|Zam<|wr'<|V' (Zaa lk) pt<|V' (Zac lk (hga hn rfl) gt2) pt<|V' (ZaK lk) pt<|mv' lki pt<|sn'<|Zao<|?_
 refine w_lp (ι:=Nat) (fun (k:Nat)=>[(19,iv (k:Int)),(2,.any),(4,.any),(5,.any)]++rn' 20 9) (fun (k:Nat)=>[]) (fun (k:Nat)=>k≤fs.length∧ZcS fs=Zef (fs.drop k)) (fun (k:Nat)=>fs.length-k) (0) (by exact ⟨Nat.zero_le _,hE⟩) ?_
 rintro k hi1
 try simp only [sm',Nat.reduceAdd]
 obtain ⟨hk1,hk2⟩:=hi1
 refine wr'<|V' (Zbu lk lk) pt<|sn'<|Zam<|?_
 refine cd' lk (fun hc3=>?_) (fun hc3=>?_)
 ·have hk:k<fs.length:=by omega
  rw [Ztw hk] at hk2
  refine Zaf<|Zai<|Zam<|Zao<|wr'<|?_
  refine V' (Zbg lk lk Za2 (nb' rfl) ro (by omega) ro rfl) pt ?_
  refine V' (ZaZ lk gt) pt<|mv' lk pt<|sn'<|wr'<|mv' lk pt<|Zae mp (ZqI (hfs _ (List.getElem_mem hk))) pt<|mv' lk pt<|sn'<|wr'<|mv' lk pt<|?_
  refine V' (Za6 lk lki) pt<|sn'<|?_
  refine cd' lk (fun hc4=>?_) (fun hc4=>?_)
  ·rw [if_pos hc4] at hk2
   refine wr'<|mv' lk pt<|mv' lk pt<|sn'<|Zab<|Zaq<|Zak<|Zak<|Zaq<|Zak<|Zag rz<|rT'<|?_
   rw [hk2]
  rw [if_neg hc4] at hk2
  refine Zaf<|ZaF<|Zai<|Zar<|?_
  refine V' (ZaE lk lki (by omega) (by omega)) pt ?_
  refine mv' lk pt<|Zas<|ZaI<|?_
  refine lT' (k+1) (by (try dsimp only);exact ⟨by omega,hk2⟩)
 rw [List.drop_of_length_le (by omega)] at hk2
 refine Za0<|ZaO<|ZaO<|Zbp<|Zai<|wr'<|mv' lki pt<|sn'<|Zab<|Zag rz<|rT'<|?_
 rw [hk2];rfl
theorem ZfB (cs:Bs) : ∀ l:Bs,Lib.containsAny l cs=l.any (fun c=>cs.contains c)
 | []=>rfl
 | c::l=>by
  have ih:=ZfB cs l
  unfold Lib.containsAny at ih ⊢
  unfold Lib.indexAny
  by_cases hc:cs.contains c=true
  ·rw [if_pos hc,List.any_cons,hc];rfl
  rw [if_neg hc]
  have hc':cs.contains c=false:=by simpa using hc
  rw [List.any_cons,hc',Bool.false_or,←ih]
  have:=Lib.indexAny_ge cs l
  by_cases h1:Lib.indexAny l cs = -1
  ·rw [if_pos (by simpa using h1),h1]
  rw [if_neg (by simpa using h1)]
  rw [Bool.eq_iff_iff];simp;omega
theorem ZsH (c:UInt8):([32,9,35]:Bs).contains c=quoN c.toNat:=by
 unfold quoN blkN
 rw [Bool.eq_iff_iff]
 simp only [List.contains_cons,List.contains_nil,Bool.or_false,Bool.or_eq_true,beq_iff_eq,decide_eq_true_eq]
 constructor
 ·rintro (rfl | rfl | rfl) <;> simp
 rintro ((h | h) | h)
 ·exact .inl (UInt8.toNat_inj.1 (by simpa using (show c.toNat=32 by omega)))
 ·exact .inr (.inl (UInt8.toNat_inj.1 (by simpa using (show c.toNat=9 by omega))))
 exact .inr (.inr (UInt8.toNat_inj.1 (by simpa using (show c.toNat=35 by omega))))
theorem ZkP {s cs:ByteArray}{h:AH}(hz:s.size≤8000) (hc:cs.size≤8000) (hs : ∀ (j:Nat) b,(aB s)[j]?=some b→b.toNat<128) (hcs : ∀ (j:Nat) b,(aB cs)[j]?=some b→b.toNat<128) :
  Ac 96 [sv s,sv cs] h (bv ((aB s).any fun c=>(aB cs).contains c)):=by
 refine ACalls.of_below (by kernel_rfl) fun w g vs hs' ha=>?_
 simp only [RepL,Rep] at ha
 obtain ⟨u1,us1,e1,rfl,u2,us2,rfl,rfl,rfl⟩:=ha
 obtain rfl:vs = #[.string s,.string cs]:=by cases vs;simp_all
 refine (Tryz.strings_ContainsAny (fun w=>by kernel_rfl) s cs w (by omega) (by omega) hs hcs).mono ?_
 rintro e w' ⟨rfl,hb⟩
 exact ⟨_,rfl,hb,by simp only [Rep];rw [ZfB];rfl⟩
theorem ZiR {f:ByteArray}(h:Zbl f=0):(aB f).any (fun c=>badN c.toNat)=false∧f.size≤24:=by
 unfold Zbl at h
 split at h
 ·cases h
 rename_i h1
 split at h
 ·cases h
 exact ⟨by simpa using h1,by omega⟩
theorem badN_lt {n:Int}(h:badN n=false):n<128:=by
 unfold badN at h
 simp only [Bool.or_eq_false_iff,Bool.not_eq_false'] at h
 have h1:=h.1
 unfold plnN at h1
 simp at h1;omega
theorem Zm6 {f:ByteArray}(h:Zbl f=0) (j:Nat) (b:UInt8) (hb:(aB f)[j]?=some b):b.toNat<128:=by
 have h1:=(ZiR h).1
 rw [List.any_eq_false] at h1
 have:=h1 b (List.mem_of_getElem? hb)
 have:=badN_lt (n:=b.toNat) (by simpa using this)
 omega
theorem Zmm {f:ByteArray}:f=bA []↔f.size=0:=by
 constructor
 ·rintro rfl;rfl
 intro h
 rw [←Znf f,List.eq_nil_of_length_eq_zero (show (aB f).length=0 from h)]
theorem lntext_a {f:ByteArray}{h:AH}(hf:Zbl f=0):Ac 63 [sv f] h (sv (Zey f)):=by
 obtain ⟨hf1,hf2⟩:=ZiR hf
 refine tI' k63 fun N hn hlt hlA hbd=>?_
 simp only [tb'] at hbd ⊢
 refine wr'<|mv' lks pt<|sn'<|Zam<|wr'<|mv' lk pt<|V' (Zcj lk lks) pt<|mv' lk pt<|?_
 refine sp' (t:=5) gt pt pt (fun hg5=>?_) (fun hg5=>?_)
 ·have hq:quoB f=true:=by unfold quoB;rw [show f.size=0 from Zmm.1 hg5];rfl
  refine s_no gt pt<|s_no gt pt<|V' (Zaj lk lkb) pt<|sn'<|ZaG lk<|wr'<|mv' lk pt<|?_
  refine V' (Zc8 lks lk (by rw [show (⟨#[34]⟩:ByteArray).size=1 from rfl];omega)) pt ?_
  refine V' (Zc8 lk lks (by rw [ByteArray.size_append,show (⟨#[34]⟩:ByteArray).size=1 from rfl];omega)) pt ?_
  refine mv' lk pt<|sn'<|Zab<|Zak<|Zag rz<|rT'<|?_
  rw [Zey,if_pos hq];rfl
 have hz:f.size≠0:=fun e=>hg5 (Zmm.2 e)
 refine s_do gt<|mv' lk pt<|s_do gt<|?_
 refine Zae mp (ZkP (by omega) (by decide) (Zm6 hf) (by intro j b hb;have:=List.mem_of_getElem? hb;revert this;show b∈([32,9,35]:Bs)→_;simp;rintro (rfl | rfl | rfl) <;> decide)) pt ?_
 refine V' (Zah lk lk) pt<|sn'<|?_
 refine Zaw lk (fun hc1=>?_) (fun hc1=>?_)
 ·have hq:quoB f=true:=by
   unfold quoB
   have:(aB f).any (fun c=>([32,9,35]:Bs).contains c)=true:=hc1
   simp only [ZsH] at this
   rw [this];simp
  refine wr'<|mv' lk pt<|?_
  refine V' (Zc8 lks lk (by rw [show (⟨#[34]⟩:ByteArray).size=1 from rfl];omega)) pt ?_
  refine V' (Zc8 lk lks (by rw [ByteArray.size_append,show (⟨#[34]⟩:ByteArray).size=1 from rfl];omega)) pt ?_
  refine mv' lk pt<|sn'<|Zab<|Zak<|Zag rz<|rT'<|?_
  rw [Zey,if_pos hq];rfl
 have hq:quoB f=false:=by
  unfold quoB
  have:(aB f).any (fun c=>([32,9,35]:Bs).contains c)=false:=hc1
  simp only [ZsH] at this
  rw [this];simp [hz]
 refine Zaf<|Zai<|wr'<|mv' lk pt<|mv' lk pt<|sn'<|Zab<|Zag rz<|rT'<|?_
 rw [Zey,if_neg (by simp [hq])]
theorem Zs4 {l:List ByteArray}{full:Bool}{h:AH}(hl:l.length≤3000000000000):ACalls Tryz.prog 62 [.sl l.length 1 full (rows strC l)] h fun r h' => ∃ v,r=.ret (.own h.length v l.length)∧h'=h++[.mk v 9 1 (rows strC l)]:=by
 refine tN' k62 fun N hn hlt hlA hbd=>?_
 simp only [tb'] at hbd ⊢
 refine wr'<|mv' lkn pt<|sn'<|Zam<|wr'<|mv' lk pt<|?_
 refine s_eqn lk (fun _=>pt) (fun bn3 hbn3=>?_)
 refine sn' ?_
 refine cd' lk (fun hc1=>?_) (fun hc1=>?_)
 ·refine wr'<|mv' lkn pt2<|Zas<|ZbQ (ALe.own0 (d:=2) (st':=1) (ty:=9) rfl)<|Zab<|Zak<|Zag (rs1 (rr_t gt2))<|?_
  have h0:l=[]:=List.eq_nil_of_length_eq_zero ((Nat.eq_zero_or_pos _).resolve_right (fun e=>by have:=hbn3 e;rw [hc1] at this;cases this))
  subst h0
  exact ⟨0,by simp,by simp [rows]⟩
 refine Zaf<|Zai<|wr'<|E' (Zeh ZlT (hl0 hn) ha0) pt<|mv' lk pt<|?_
 refine E' (Zej (sc_sl lk (ZdK _)) lk (hga hn rfl) rfl (by omega) (Zpt _) (hs0 hn)) pt ?_
 refine mv' lk pt<|sn'<|Zab<|Zag rz<|?_
 exact ⟨0+1,by simp [hn],by simp⟩
end Go.Proofs.YtgjchdhdopgkkaaGreatDoor
end
section
namespace Go.Proofs.YtgjchdhdopgkkaaGreatDoor
open Go.Ab Go.RowKit
attribute [local simp] Zbd Zdi by_lt
section
theorem ZrJ {a0 a1 a2:AV}{l:List AV}:(a0::a1::a2::l).take 3=[a0,a1,a2]:=rfl
theorem Zo8 {a0 a1 a2 c0 c1 c2:AV}{l:List AV}:setCells (a0::a1::a2::l) 0 [c0,c1,c2]=c0::c1::c2::l:=rfl
theorem Zo7 {a0 a1 a2:AV}{l:List AV}:((a0::a1::a2::l).drop 0).take 3=[a0,a1,a2]:=rfl
end
def c23:AC:=(Sr [Ms 2,Mc 3 0] (.seq (Sr [Mv 10 0,Oo 11 (.len false (.tmp 10)),Bc 12 .gtr 11 200] (Cd 12 (Sr [Ms 2,Mc 3 2] .ret) .skip)) (Sr [Oo 4 (.new 102 2 [(.v (.pointer none)),(.sl 0 0 true [])])] (.seq (Sr [Mv 13 0,Oo 14 (.len false (.tmp 13)),Mc 15 0] (.block 0 (.loop (Sr [Bn 16 .lss 15 14] (.seq (Cd 16 .skip (.exit 0)) (.seq (.block 1 (Sr [Oo 17 (.ia 3 (.tmp 13) (.tmp 15)),Oo 18 (.load true 3 (.tmp 17)),Oo 6 (.new 67 3 [(iv 0),(.v (.bool false)),(.sl 0 0 true [])]),⟨none,none,(.store 3 (.tmp 6) (.tmp 18))⟩] (.seq (Sr [Oo 19 (.load true 3 (.tmp 6)),Cl 20 60 [(.tmp 19)],Mv 7 20] (Sr [Mv 21 7,Bc 22 .neq 21 0] (Cd 22 (Sr [Mv 23 7,Ms 2,Mv 3 23] .ret) .skip))) (.seq (Sr [Fa 24 1 6,Ld 25 24] (Cd 25 (.reg [Oo 26 (.call (.func 61) [(.tmp 4),(.const (.string ⟨#[32]⟩))])]) .skip)) (Sr [Fa 27 2 6,Ld 28 27,Cl 29 62 [(.tmp 28)],Mv 8 29] (.seq (Sr [Mv 30 8,Oo 31 (.len false (.tmp 30)),Mc 32 0] (.block 2 (.loop (Sr [Bn 33 .lss 32 31] (.seq (Cd 33 .skip (.exit 2)) (.seq (.block 3 (Sr [Mv 34 32,Mv 9 34] (.reg [Mv 35 8,Mv 36 9,Mv 37 8,Mv 38 9,Oo 39 (.ia 1 (.tmp 37) (.tmp 38)),Ld 40 39,Cl 41 63 [(.tmp 40)],Oo 42 (.ia 1 (.tmp 35) (.tmp 36)),Sc 42 41]))) (.reg [Bc 43 .add 32 1,Mv 32 43]))))))) (.reg [Mv 44 8,Oo 45 (.call (.func 64) [(.tmp 44),(.const (.string ⟨#[32]⟩))]),Oo 46 (.bin .add (.tmp 45) (.const (.string ⟨#[10]⟩))),Cl 47 61 [(.tmp 4),(.tmp 46)]]))))))) (.reg [Bc 48 .add 15 1,Mv 15 48]))))))) (.seq (Sr [Cl 49 65 [(.tmp 4)],Bc 50 .gtr 49 8000] (Cd 50 (Sr [Ms 2,Mc 3 2] .ret) .skip)) (Sr [Cl 51 66 [(.tmp 4)],Mv 2 51,Mc 3 0] .ret))))))
theorem k23:ZaH Tryz.prog 23=some ⟨c23,[(.tmp 2),(.tmp 3)],52⟩:=by kernel_rfl
def ZdB:List Bs→Bs
 | []=>[]
 | [a]=>a
 | a::b::l=>a++32::ZdB (b::l)
theorem join_S : ∀ l:List Bs,Lib.join l [32]=ZdB l
 | []=>rfl
 | [a]=>by simp [Lib.join,ZdB,List.intercalate]
 | a::b::l=>by
  have:=join_S (b::l)
  unfold Lib.join at this ⊢
  rw [ZdB,←this]
  simp [List.intercalate]
theorem ZmZ : ∀ (l:List Bs) (n:Nat),(∀ x∈l,x.length≤n)→(ZdB l).length≤l.length*(n+1)
 | [],n,h=>Nat.zero_le _
 | [a],n,h=>by have:=h a (by simp);simp [ZdB];omega
 | a::b::l,n,h=>by
  have h1:=h a (by simp)
  have h2:=ZmZ (b::l) n (fun x hx=>h x (by simp [hx]))
  rw [ZdB]
  simp only [List.length_append,List.length_cons] at h2 ⊢
  rw [Nat.add_mul (l.length+1) 1]
  omega
def Zoe (x:Ln):Bs:=(if x.2.1=true then [32] else [])++(ZdB (x.2.2.map fun f=>aB (Zey f))++[10])
def Zgj:List Ln→Int
 | []=>0
 | x::xs=>if ZcS x.2.2≠0 then ZcS x.2.2 else Zgj xs
def ZgQ (l:List Ln):Bs:=l.flatMap Zoe
def Zfo (l:List Ln):ByteArray×Int :=
 if 200<l.length then (bA [],2) else if Zgj l≠0 then (bA [],Zgj l) else if 8000<(ZgQ l).length then (bA [],2) else (bA (ZgQ l),0)
def okLns (l:List Ln):Prop := ∀ x∈l,∀ f∈x.2.2,f.size≤maxLen
theorem Zm5 : ∀ {fs:List ByteArray},Zef fs=0 → ∀ f∈fs,Zbl f=0
 | [],_,f,hf=>by simp at hf
 | g::fs,h,f,hf=>by
  rw [Zef] at h
  split at h
  ·rename_i h1;exact absurd h h1
  rename_i h1
  rcases List.mem_cons.1 hf with rfl | hf
  ·exact Decidable.of_not_not h1
  exact Zm5 h f hf
theorem ZfQ {fs:List ByteArray}(h:ZcS fs=0):0<fs.length∧fs.length≤12 ∧ ∀ f∈fs,Zbl f=0:=by
 unfold ZcS at h
 split at h
 ·cases h
 split at h
 ·cases h
 exact ⟨by omega,by omega,Zm5 h⟩
theorem Zr5 {f:ByteArray}(h:Zbl f=0):(Zey f).size≤26:=by
 have:=(ZiR h).2
 unfold Zey
 split
 ·rw [ByteArray.size_append,ByteArray.size_append,ZaQ,List.length_singleton];omega
 omega
theorem Ztk {fs:List ByteArray}(h:ZcS fs=0):(ZdB (fs.map fun f=>aB (Zey f))).length≤324:=by
 obtain ⟨h1,h2,h3⟩:=ZfQ h
 have:=ZmZ (fs.map fun f=>aB (Zey f)) 26 (fun x hx=>by
  obtain ⟨f,hf,rfl⟩:=List.mem_map.1 hx
  exact Zr5 (h3 f hf))
 rw [List.length_map] at this
 omega
theorem Zqt {l:List ByteArray}{id v ty n:Nat}{h:AH}(hnl:l.length=n) (he:h[id]?=some (.mk v ty 1 (rows strC l))) (hl:0<l.length) (hz:l.length≤8000) (hj:(ZdB (l.map aB)).length≤100000) :
  Ac 64 [.own id v n,sv (bA [32])] h (sv (bA (ZdB (l.map aB)))):=by
 subst hnl
 refine ACalls.of_below (by kernel_rfl) fun w g vs hs ha=>?_
 simp only [RepL,Rep] at ha
 obtain ⟨u1,us1,e1,⟨A,cap,l1,q1,q2,rfl⟩,u2,us2,rfl,rfl,rfl⟩:=ha
 obtain rfl:vs = #[.slice A l.length cap,.string (bA [32])]:=by cases vs;simp_all
 obtain ⟨A',cap',f1,fm,f3⟩:=hs.ent _ _ _ _ _ he
 rw [l1] at f1
 simp only [Option.some.injEq,Prod.mk.injEq] at f1
 obtain ⟨rfl,rfl⟩:=f1
 rcases f3 with ⟨hz,_⟩ | ⟨b,arr,rfl,hc0,hd,hb,hsz,hle,hrl⟩
 ·have:=congrArg List.length hz
  rw [ZdK] at this;simp at this;omega
 rw [ZdK,Nat.mul_one] at hrl hle
 have htake:=Zh5.1 hrl
 have hJ:Lib.join (l.map (·.data.toList)) (bA [32]).data.toList=ZdB (l.map aB):=join_S _
 refine (Tryz.strings_Join b 0 cap l (bA [32]) w ?_ (Array.getElem?_eq_some_iff.1 hb).1 (by omega) q1 (by rw [hJ];omega)).mono ?_
 ·intro j x hx
  obtain ⟨hj,rfl⟩:=List.getElem?_eq_some_iff.1 hx
  rw [cell_of_row w b (0+j) arr _ _ hb,Nat.zero_add]
  have:=congrArg (·[j]?) htake
  simpa [List.getElem?_take,hj] using this
 rintro e w' ⟨rfl,hbw⟩
 refine ⟨_,rfl,hbw,?_⟩
 simp only [Rep]
 rw [hJ];rfl
theorem joinE_at {l:List Ln}{k:Nat}(h:k<l.length):Zgj (l.drop k)=if ZcS (l[k]).2.2≠0 then ZcS (l[k]).2.2 else Zgj (l.drop (k+1)):=by
 rw [List.drop_eq_getElem_cons h,Zgj]
theorem joinT_at {l:List Ln}{k:Nat}(h:k<l.length):ZgQ (l.drop k)=Zoe l[k]++ZgQ (l.drop (k+1)):=by
 rw [List.drop_eq_getElem_cons h];rfl
def texted (fs:List ByteArray) (j:Nat):List ByteArray:=(fs.take j).map Zey++fs.drop j
theorem ZjK {fs:List ByteArray}{j:Nat}:(texted fs j).length=fs.length:=by
 unfold texted
 simp;omega
theorem Zqp {fs:List ByteArray}:texted fs fs.length=fs.map Zey:=by unfold texted;simp
theorem Zr4 {fs:List ByteArray}{j:Nat}(h:j<fs.length) (h2:j<(texted fs j).length):(texted fs j)[j]=fs[j]:=by
 have e:(texted fs j)[j]?=some fs[j]:=by
  unfold texted
  rw [List.getElem?_append_right (by simp;omega)]
  simp only [List.length_map,List.length_take,List.getElem?_drop]
  rw [show j+(j-min j fs.length)=j by omega,List.getElem?_eq_getElem h]
 rw [List.getElem?_eq_getElem h2] at e
 exact Option.some.inj e
theorem Zqo {fs:List ByteArray}{j:Nat}(h:j<fs.length):(texted fs j).set j (Zey fs[j])=texted fs (j+1):=by
 unfold texted
 rw [List.set_append_right _ _ (by simp;omega),List.drop_eq_getElem_cons h,List.take_succ_eq_append_getElem h,List.map_append,List.append_assoc]
 congr 1
 simp only [List.length_map,List.length_take]
 rw [show j-min j fs.length=0 by omega]
 rfl
theorem Zoa {l:List Ln}{full:Bool}{h:AH}(hpos:0<l.length) (hok:okLns l):Ac 23 [.sl l.length 3 full (rows lnC l)] h (.tup [sv (Zfo l).1,iv (Zfo l).2]):=by
 refine tI' k23 fun N hn hlt hlA hbd=>?_
 simp only [tb'] at hbd ⊢
 refine wr'<|mv' lks pt<|mv' lki pt<|sn'<|Zam<|wr'<|mv' lk pt<|V' (ZaK lk) pt<|V' (ZbN lk lki) pt<|sn'<|?_
 refine cd' lk (fun hc1=>?_) (fun hc1=>?_)
 ·have hV:Zfo l=(bA [],2):=if_pos (by omega)
  refine wr'<|mv' lks pt<|mv' lki pt<|sn'<|Zab<|Zak<|Zag ry<|rT'<|?_
  rw [hV];rfl
 have hV:Zfo l=if Zgj l≠0 then (bA [],Zgj l) else if 8000<(ZgQ l).length then (bA [],2) else (bA (ZgQ l),0):=if_neg (by omega)
 refine Zaf<|Zai<|wr'<|E' (Zbq (hl0 hn) ha0) pt<|Zas<|?_
 refine ZbQ (ALe.own0Cell (st':=1) (ty:=5) (hga hn rfl) gt1 (hl1 hn) pt1 (Eq.trans (congrArg (fun z=>List.set z _ _) ha1) (hs0 hn))) ?_
 refine Zam<|wr'<|mv' lk pt<|V' (ZaK lk) pt<|mv' lki pt<|sn'<|Zao<|?_
 refine w_lp (ι:=Nat×Bs×Nat×AV) (fun (x_:Nat×Bs×Nat×AV)=>match x_ with | ⟨k,T,v,p⟩=>[(15,iv (k:Int)),(2,.any),(3,.any)]++rn' 6 4++rn' 16 33) (fun (x_:Nat×Bs×Nat×AV)=>match x_ with | ⟨k,T,v,p⟩=>[(0,.mk 0 102 2 [p,.own (N+1) v T.length]),(1,.mk v 5 1 (rows byC T))]) (fun (x_:Nat×Bs×Nat×AV)=>match x_ with | ⟨k,T,v,p⟩=>k≤l.length∧bldP (N+0) 0 p∧Zgj l=Zgj (l.drop k)∧ZgQ l=T++ZgQ (l.drop k)∧T.length≤400*k) (fun (x_:Nat×Bs×Nat×AV)=>match x_ with | ⟨k,T,v,p⟩=>l.length-k) (⟨0,[],0,.v (.pointer none)⟩) (by exact ⟨Nat.zero_le _,.inl rfl,rfl,rfl,by simp⟩) ?_
 rintro ⟨k,T,v,p⟩ hi1
 try simp only [sm',Nat.reduceAdd]
 obtain ⟨hk1,hp,hk3,hk4,hk5⟩:=hi1
 refine wr'<|V' (Zbu lk lk) pt<|sn'<|Zam<|?_
 refine cd' lk (fun hc2=>?_) (fun hc2=>?_)
 ·have hk:k<l.length:=by omega
  rw [joinE_at hk] at hk3
  rw [joinT_at hk] at hk4
  have hfs:=hok _ (List.getElem_mem hk)
  refine Zaf<|Zai<|Zam<|Zao<|wr'<|?_
  refine V' (Zbg lk lk Zbx (nb' rfl) ro (by omega) ro rfl) pt ?_
  refine V' (Zbk lk ZrJ rfl) pt<|E' (Zbq (hl2 hn) ha2) pt<|E' (Zal lk (cvl lk rfl) (hga hn rfl) rfl (nb' rfl) rfl Zo8 (hs2 hn)) ptn<|sn'<|Zam<|wr'<|V' (Zau lk (hga hn rfl) Zo7 rfl) pt<|Zae mp (Zs0 hfs) pt<|mv' lk pt<|sn'<|Zam<|?_
  refine Zar<|mv' lk pt<|V' (Za6 lk lki) pt<|sn'<|?_
  refine cd' lk (fun hc3=>?_) (fun hc3=>?_)
  ·rw [if_pos hc3] at hk3
   rw [if_pos (by rw [hk3];exact hc3),hk3] at hV
   refine wr'<|mv' lk pt<|mv' lks pt<|mv' lk pt<|sn'<|Zab<|Zak<|Zaq<|Zak<|Zak<|Zaq<|Zak<|?_
   refine Zag ry<|rT'<|?_
   rw [hV];rfl
  have hok0:ZcS (l[k]).2.2=0:=Decidable.of_not_not hc3
  rw [if_neg (by rw [hok0];simp)] at hk3
  obtain ⟨he1,he2,he3⟩:=ZfQ hok0
  have hjl:=Ztk hok0
  have hlb:Zoe l[k]=(if (l[k]).2.1=true then [32] else [])++(ZdB ((l[k]).2.2.map fun f=>aB (Zey f))++[10]):=rfl
  refine Zaf<|Zai<|?_
  refine Zfq (ι:=Bs×Nat×AV) (fun (x_:Bs×Nat×AV)=>match x_ with | ⟨T2,v2,p2⟩=>[(6,.ptr (N+2) 0 0)]++rn' 24 3) (fun (x_:Bs×Nat×AV)=>match x_ with | ⟨T2,v2,p2⟩=>[(0,.mk 0 102 2 [p2,.own (N+1) v2 T2.length]),(1,.mk v2 5 1 (rows byC T2))]) (fun (x_:Bs×Nat×AV)=>match x_ with | ⟨T2,v2,p2⟩=>bldP (N+0) 0 p2∧T2=T++(if (l[k]).2.1=true then [32] else [])) ?_ ?_
  ·try simp only [sm',Nat.reduceAdd]
   refine wr'<|V' (Zaa lk) pt<|V' (Zac lk (hga hn rfl) gt1) pt<|sn'<|?_
   refine cd' lk (fun hc4=>?_) (fun hc4=>?_)
   ·refine Zar ?_
    refine Zsw mp (Zkh (hga hn rfl) (hga hn rfl) (by omega) hp (by rw [show (⟨#[32]⟩:ByteArray).size=1 from rfl];omega)) (hs0 hn) (hs1 hn) pt ?_
    refine Zas<|ZaI<|?_
    exact cT' (⟨T++[32],v+1,.ptr (N+0) 0 0⟩) (by exact ⟨.inr rfl,by rw [if_pos hc4]⟩)
   refine Zaf<|ZaI<|?_
   exact cT' (⟨T,v,p⟩) (by exact ⟨hp,by rw [if_neg (by rw [hc4];simp),List.append_nil]⟩)
  rintro ⟨T2,v2,p2⟩ hq15
  try simp only [sm',Nat.reduceAdd]
  obtain ⟨hp2,hT2⟩:=hq15
  have hT2l:T2.length≤T.length+1:=by rw [hT2];split <;> simp
  refine wr'<|V' (Zaa lk) pt<|V' (Zac lk (hga hn rfl) gt2) pt<|?_
  refine s_calla mp (Zs4 (by omega)) (hl3 hn) (fun _=>ha3) (fun _=>pt) (fun va30=>?_)
  refine mv' lk pt<|sn'<|Zam<|wr'<|mv' lk pt<|V' (Zdr lk) pt<|mv' lki pt<|sn'<|Zao<|?_
  refine w_lp (ι:=Nat) (fun (j:Nat)=>[(32,iv (j:Int)),(9,.any)]++rn' 33 11) (fun (j:Nat)=>[(3,.mk va30 9 1 (rows strC (texted (l[k]).2.2 j)))]) (fun (j:Nat)=>j≤(l[k]).2.2.length) (fun (j:Nat)=>(l[k]).2.2.length-j) (0) (by exact Nat.zero_le _) ?_
  rintro j hi2
  try simp only [sm',Nat.reduceAdd]
  refine wr'<|V' (Zbu lk lk) pt<|sn'<|Zam<|?_
  refine cd' lk (fun hc5=>?_) (fun hc5=>?_)
  ·have hj:j<(l[k]).2.2.length:=by omega
   have hjt:j<(texted (l[k]).2.2 j).length:=by rw [ZjK];exact hj
   have hat:=Zr4 hj hjt
   have htl:=ZjK (fs:=(l[k]).2.2) (j:=j)
   refine Zaf<|Zai<|Zam<|Zao<|wr'<|mv' lk pt<|mv' lk pt<|sn'<|Zar<|mv' lk pt<|mv' lk pt<|mv' lk pt<|?_
   refine mv' lk pt ?_
   refine V' (ZrX (k:=j) lk lk (hga hn rfl) Za2 (nb' rfl) ro (by omega) (by first | rfl | (simp;done) | omega)) pt ?_
   refine V' (ZrW lk (hga hn rfl) Za2 (by omega) rfl) pt ?_
   rw [hat]
   refine Zae mp (lntext_a (he3 _ (List.getElem_mem hj))) pt ?_
   refine V' (ZrX (k:=j) lk lk (hga hn rfl) Za2 (nb' rfl) ro (by omega) (by first | rfl | (simp;done) | omega)) pt ?_
   refine E' (e_stOR (z:=Zey (l[k]).2.2[j]) lk (cvl lk rfl) (hga hn rfl) Za2 rfl (by omega) (hs3 hn)) ptn ?_
   refine Zas<|ZaF<|Zai<|Zar<|?_
   refine V' (ZaE lk lki (by omega) (by omega)) pt ?_
   refine mv' lk pt<|Zas<|ZaI<|?_
   refine lU' (j+1) (by (try dsimp only);omega) (by (try dsimp only);(try simp only [sm',Nat.reduceAdd]);exact ALe.same wA' (by rw [←Zqo hj]))
  have hje:j=(l[k]).2.2.length:=by omega
  subst hje
  rw [Zqp]
  refine Za0<|ZaO<|ZaO<|Zbp<|Zai<|Zar<|mv' lk pt<|?_
  refine Zae mp (Zqt (l:=(l[k]).2.2.map Zey) (List.length_map _) (hga hn rfl) (by rw [List.length_map];omega) (by rw [List.length_map];omega) (by rw [List.map_map];exact Nat.le_trans hjl (by decide))) pt ?_
  rw [List.map_map,show (aB ∘ Zey)=fun f=>aB (Zey f) from rfl]
  refine V' (Zc8 lk lks (by rw [ZaQ,show (⟨#[10]⟩:ByteArray).size=1 from rfl];omega)) pt ?_
  rw [show (⟨#[10]⟩:ByteArray)=bA [10] from rfl,Zdd]
  refine Zsw mp (Zkh (hga hn rfl) (hga hn rfl) (by omega) hp2 (by rw [ZaQ,List.length_append,List.length_singleton];omega)) (hs0 hn) (hs1 hn) pt ?_
  refine Zas<|ZaF<|Zai<|Zar<|?_
  refine V' (ZaE lk lki (by omega) (by omega)) pt ?_
  refine mv' lk pt<|Zas<|ZaI<|?_
  refine lU' (⟨k+1,T2++aB (bA (ZdB ((l[k]).2.2.map fun f=>aB (Zey f))++[10])),v2+1,.ptr (N+0) 0 0⟩) (by (try dsimp only);exact ⟨by omega,.inr rfl,hk3,by rw [hk4,hlb,hT2,Zhw];simp [List.append_assoc],by rw [Zhw,List.length_append,List.length_append,List.length_singleton];omega⟩) (by (try dsimp only);(try simp only [sm',Nat.reduceAdd]);exact bk' 2 hn hlt)
 have hkl:k=l.length:=by omega
 rw [List.drop_of_length_le (by omega),Zgj] at hk3
 rw [List.drop_of_length_le (by omega),show ZgQ []=[] from rfl,List.append_nil] at hk4
 rw [if_neg (by rw [hk3];simp),hk4] at hV
 refine Za0<|ZaO<|ZaO<|Zbp<|Zai<|Zam<|wr'<|Zae mp (bldLen_a (hga hn rfl)) pt<|V' (ZbN lk lki) pt<|sn'<|?_
 refine cd' lk (fun hc6=>?_) (fun hc6=>?_)
 ·rw [if_pos (by omega)] at hV
  refine wr'<|mv' lks pt<|mv' lki pt<|sn'<|Zab<|Zak<|Zag ry<|rT'<|?_
  rw [hV];rfl
 rw [if_neg (by omega)] at hV
 have hTne:T≠[]:=by
  intro e
  rw [e] at hk4
  cases l with
  | nil=>simp at hpos
  | cons x xs=>simp [ZgQ,Zoe] at hk4
 refine Zaf<|Zai<|wr'<|ZaA mp (Zox (hga hn rfl) (hga hn rfl) hTne) (hs1 hn) pt<|mv' lk pt<|mv' lki pt<|sn'<|Zab<|Zag ry<|rT'<|?_
 rw [hV]
theorem Zov (b:Nat) (w:World) (hbk:w.cell? ⟨b,1,none⟩=some (.slice none 0 0)) :
  Calls Tryz.prog 66 #[.pointer (some ⟨b,0,none⟩)] w fun e w'=>e=.returned (.string ⟨#[]⟩)∧w'=w.drew:=by
 have c1:w.drew.cell? ⟨b,1,none⟩=some (.slice none 0 0):=hbk
 have hSD:(Builtin.unsafeSliceData_ #[100] 132 #[.slice none 0 0]).run Tryz.prog w.drew=.ok (.pointer none) w.drew:=rfl
 have hUS:(Builtin.unsafeString_ #[132,3] 9 #[.pointer none,.int .i64 0]).run Tryz.prog w.drew=.ok (.string ⟨#[]⟩) w.drew :=
  Lib.run_unsafeString_none _ _ _ _ none
 have mixed:Tryz.prog.follows .mixedOrders=true:=by kernel_rfl
 go_enter Tryz.func66,Tryz.ntmps66
 go_wp2
 go_region_o
 all_goals (go_wp2;go_ret;exact ⟨rfl,rfl⟩)
theorem blen_nil (b:Nat) (w:World) (hbk:w.cell? ⟨b,1,none⟩=some (.slice none 0 0)) :
  Calls Tryz.prog 65 #[.pointer (some ⟨b,0,none⟩)] w fun e w'=>e=.returned (.int .i64 0)∧w'=w:=by
 go_enter Tryz.func65,Tryz.ntmps65
 go_wp2
 go_ret
 exact ⟨rfl,rfl⟩
theorem Zob (A:Option Addr) (c:Nat) (w:World) :
  Calls Tryz.prog 23 #[.slice A 0 c] w fun e w'=>e=.returned (.tuple #[.string ⟨#[]⟩,.int .i64 0])∧Below w.heap.size w w':=by
 go_enter Tryz.func23,Tryz.ntmps23
 go_wp2
 go_loopg [15] 1 (fun gk i wx=>i=.int .i64 0∧w.alloc (.cells #[.pointer none,.slice none 0 0] 102)=wx)
 case atStart=>exact ⟨rfl,rfl⟩
 case round =>
  obtain ⟨rfl,rfl⟩:=hrel
  go_wp2_with (first | (go_at_call 65;refine (blen_nil _ _ (by simp)).mono ?_;rintro e w1 ⟨rfl,rfl⟩) | (go_at_call 66;refine (Zov _ _ (by simp)).mono ?_;rintro e w1 ⟨rfl,rfl⟩))
  go_ret2
  exact ⟨rfl,((Below.refl _ _).alloc (Nat.le_refl _) _).trans (Below.refl _ _).drew⟩
theorem lnJoin_a {l:List Ln}{full:Bool}{h:AH}(hok:okLns l):Ac 23 [.sl l.length 3 full (rows lnC l)] h (.tup [sv (Zfo l).1,iv (Zfo l).2]):=by
 rcases Nat.eq_zero_or_pos l.length with h0 | h0
 ·obtain rfl:l=[]:=List.length_eq_zero_iff.1 h0
  refine ACalls.of_below (by kernel_rfl) fun w g vs hs ha=>?_
  simp only [RepL,Rep] at ha
  obtain ⟨u1,us1,e1,⟨_,A,cap,rfl,_⟩,rfl⟩:=ha
  obtain rfl:vs = #[.slice A 0 cap]:=by cases vs;simp_all
  refine (Zob A cap w).mono ?_
  rintro e w' ⟨rfl,hb⟩
  refine ⟨_,rfl,hb,?_⟩
  simp only [Rep,RepL]
  exact ⟨_,rfl,_,_,rfl,rfl,_,_,rfl,rfl,rfl⟩
 exact Zoa h0 hok
end Go.Proofs.YtgjchdhdopgkkaaGreatDoor
end
section
namespace Go.Proofs.YtgjchdhdopgkkaaGreatDoor
open Go.Ab Go.RowKit
attribute [local simp] Zbd Zdi
def c10:AC:=(Sr [Ms 2,Mc 3 0] (.seq (Sr [Mv 10 0,Oo 11 (.len false (.tmp 10)),Bc 12 .gtr 11 200] (Cd 12 (Sr [Ms 2,Mc 3 2] .ret) .skip)) (Sr [Ms 4] (.seq (Sr [Mc 5 0] (.block 0 (.loop (.seq (Sr [Mv 13 5,Mv 14 0,Oo 15 (.len false (.tmp 14)),Bn 16 .lss 13 15] (Cd 16 .skip (.exit 0))) (.seq (.block 1 (.seq (Sr [Mv 19 0,Mv 20 5,Oo 21 (.ia 3 (.tmp 19) (.tmp 20)),Fa 22 2 21,Ld 23 22,Oo 24 (.len false (.tmp 23)),Bc 25 .eql 24 0] (Cd 25 (Sr [Ms 2,Mc 3 1] .ret) .skip)) (.seq (Sr [Mv 26 0,Mv 27 5,Oo 28 (.ia 3 (.tmp 26) (.tmp 27)),Fa 29 2 28,Ld 30 29,Oo 31 (.len false (.tmp 30)),Bc 32 .gtr 31 12] (Cd 32 (Sr [Ms 2,Mc 3 2] .ret) .skip)) (.seq (Sr [Mv 33 0,Mv 34 5,Oo 35 (.ia 3 (.tmp 33) (.tmp 34)),Fa 36 1 35,Ld 37 36] (Cd 37 (.reg [Mv 38 4,Oo 39 (.bin .add (.tmp 38) (.const (.string ⟨#[32]⟩))),Mv 4 39]) .skip)) (.seq (Sr [Mc 6 0] (.block 2 (.loop (.seq (Sr [Mv 40 6,Mv 41 0,Mv 42 5,Oo 43 (.ia 3 (.tmp 41) (.tmp 42)),Fa 44 2 43,Ld 45 44,Oo 46 (.len false (.tmp 45)),Bn 47 .lss 40 46] (Cd 47 .skip (.exit 2))) (.seq (.block 3 (Sr [Mv 50 0,Mv 51 5,Oo 52 (.ia 3 (.tmp 50) (.tmp 51)),Fa 53 2 52,Ld 54 53,Mv 55 6,Oo 56 (.ia 1 (.tmp 54) (.tmp 55)),Ld 57 56,Mv 7 57] (Sr [Mv 58 7,Oo 59 (.bin .eql (.tmp 58) (.const (.string ⟨#[]⟩))),Mv 8 59] (.seq (Sr [Mc 9 0] (.block 4 (.loop (.seq (Sr [Mv 60 9,Mv 61 7,Oo 62 (.len true (.tmp 61)),Bn 63 .lss 60 62] (Cd 63 .skip (.exit 4))) (.seq (.block 5 (.seq (Sr [Mv 66 7,Mv 67 9,Oo 68 (.ix (.tmp 66) (.tmp 67)),Cl 69 27 [(.tmp 68)],Oo 70 (.un .not (.tmp 69)),Mv 71 70,Of 72 71 (mt 7),Of 73 71 (mt 9),Of 74 71 (.ix (.tmp 72) (.tmp 73)),Of 75 71 (.bin .eql (.tmp 74) (.const (.int .u8 34))),Oo 76 (.pick (.tmp 71) (.const (.bool true)) (.tmp 75))] (Cd 76 (Sr [Ms 2,Mc 3 1] .ret) .skip)) (.reg [Mv 77 8,Mv 78 77,Of 79 78 (mt 7),Of 80 78 (mt 9),Of 81 78 (.ix (.tmp 79) (.tmp 80)),Of 82 78 (.call (.func 28) [(.tmp 81)]),Oo 83 (.pick (.tmp 78) (.const (.bool true)) (.tmp 82)),Mv 84 83,Of 85 84 (mt 7),Of 86 84 (mt 9),Of 87 84 (.ix (.tmp 85) (.tmp 86)),Of 88 84 (.bin .eql (.tmp 87) (.const (.int .u8 35))),Oo 89 (.pick (.tmp 84) (.const (.bool true)) (.tmp 88)),Mv 8 89]))) (.reg [Mv 64 9,Bc 65 .add 64 1,Mv 9 65])))))) (.seq (Sr [Mv 90 7,Oo 91 (.len true (.tmp 90)),Bc 92 .gtr 91 24] (Cd 92 (Sr [Ms 2,Mc 3 2] .ret) .skip)) (.seq (Sr [Mv 93 6,Bc 94 .gtr 93 0] (Cd 94 (.reg [Mv 95 4,Oo 96 (.bin .add (.tmp 95) (.const (.string ⟨#[32]⟩))),Mv 4 96]) .skip)) (.seq (Sr [Mv 97 8] (Cd 97 (.reg [Mv 98 7,Oo 99 (.bin .add (.const (.string ⟨#[34]⟩)) (.tmp 98)),Oo 100 (.bin .add (.tmp 99) (.const (.string ⟨#[34]⟩))),Mv 7 100]) .skip)) (.reg [Mv 101 4,Mv 102 7,Bn 103 .add 101 102,Mv 4 103])))))))) (.reg [Mv 48 6,Bc 49 .add 48 1,Mv 6 49])))))) (.reg [Mv 104 4,Oo 105 (.bin .add (.tmp 104) (.const (.string ⟨#[10]⟩))),Mv 4 105])))))) (.reg [Mv 17 5,Bc 18 .add 17 1,Mv 5 18])))))) (.seq (Sr [Mv 106 4,Oo 107 (.len true (.tmp 106)),Bc 108 .gtr 107 8000] (Cd 108 (Sr [Ms 2,Mc 3 2] .ret) .skip)) (Sr [Mv 109 4,Mv 2 109,Mc 3 0] .ret))))))
end Go.Proofs.YtgjchdhdopgkkaaGreatDoor
end
section
namespace Go.Proofs.YtgjchdhdopgkkaaGreatDoor
open Go.ChangeShapes Go.WideShapes Go.ChangeAt Go.RowKit
theorem own:ownKnob Tryz.prog.godebug=none:=by kernel_rfl
theorem laidOut:laidOutB Tryz.prog=true:=by kernel_rfl
theorem Zgy {H:Type}{enc:TypeId×Value→H}{P:Program}(hl:laidOutB P=true) {W W':World}(hb:Below W.heap.size W W') :
  ∀ (ts:List TypeId) (vs:List Value) (ds:List (DataW H)) (ps:List MemPlace),(ts.all fun t=>P.readableRec t&&decide (t<P.types.size))=true→(∀ x∈ps,x.block<W.heap.size) →
   DataW.TrodAll enc P W 0 (fun _=>true) true ts vs ds ps→DataW.TrodAll enc P W' 0 (fun b=>decide (b<W.heap.size)) true ts vs ds ps
 | [],[],[],ps,_,_,h=>h
 | t::ts,v::vs,d::ds,ps,hr,hlt,h=>by
  obtain ⟨p,q,h1,h2,rfl⟩:=h
  simp only [List.all_cons,Bool.and_eq_true,decide_eq_true_eq] at hr
  exact ⟨p,q,Below.trod hl hr.1.1 hr.1.2 h1 hb (fun x hx=>hlt x (List.mem_append.2 (.inl hx))),
   Zgy hl hb ts vs ds q hr.2 (fun x hx=>hlt x (List.mem_append.2 (.inr hx))) h2,rfl⟩
 | [],_::_,_,_,_,_,h=>by simp [DataW.TrodAll] at h
 | [],[],_::_,_,_,_,h=>by simp [DataW.TrodAll] at h
 | _::_,[],_,_,_,_,h=>by simp [DataW.TrodAll] at h
 | _::_,_::_,[],_,_,_,h=>by simp [DataW.TrodAll] at h
theorem law_post {H:Type}{enc:TypeId×Value→H}{P:Program}{f:Func}{s:ChangeSpec}{handsOn fresh:Bool}{W W':World}{args:Array Value}{ds gs:List (DataW H)}{before:List MemPlace}{tb:TypeId}
  (hl:laidOutB P=true) (hts:(f.params.toList.all fun t=>P.readableRec t&&decide (t<P.types.size))=true)
  (hrt:f.resultTypes = #[tb]) (htb:P.underlying tb=some .bool) (hvars:s.vars=[])
  (hs:s.fn H ds={ results:=[.lit (.bool true)],args:=ds })
  (hW:DataW.Whole enc P f.params.toList s.vars false W args.toList ds gs before) (hb:Below W.heap.size W W') :
  s.post enc P f false fresh handsOn false W args (.bool true) W':=by
 have hW':=hW
 obtain ⟨p,q,hA,hV,rfl,_,_⟩:=hW
 rw [hvars] at hV
 obtain ⟨rfl,rfl⟩:=trodVars_none hV
 have hlt : ∀ x∈p,x.block<W.heap.size:=fun x hx=>by simpa using hW'.lt x (List.mem_append.2 (.inl hx))
 have e1:s.fn H (ds++[])={ results:=[.lit (.bool true)],args:=ds }:=by simpa using hs
 refine ⟨ds,[],p++[],[],p,[],hW',?_,?_,?_,hb.frame _,fun h=>by cases h⟩
 ·rw [e1,hrt];exact trodAll_mk1 (shut_bool htb _)
 ·rw [e1];exact Zgy hl hb _ _ _ _ hts hlt hA
 ·rw [e1,hvars];exact rfl
end Go.Proofs.YtgjchdhdopgkkaaGreatDoor
end
section
namespace Go.Proofs.YtgjchdhdopgkkaaGreatDoor
open Go.ChangeShapes Go.WideShapes Go.ChangeAt Go.RowKit Go.Deep Go.Ab
inductive Ds where
 | int | str | bool
 | pair (a b:Ds)
 | slice (a:Ds)
@[reducible] def El:Ds→Type
 | .int=>Int
 | .str=>ByteArray
 | .bool=>Bool
 | .pair a b=>El a×El b
 | .slice a=>List (El a)
def Ds.size:Ds→Nat
 | .pair a b=>a.size+b.size
 | _=>1
theorem Ds.size_pos (d:Ds):0<d.size:=by
 induction d with
 | pair a b iha ihb=>simp only [Ds.size];omega
 | _=>simp [Ds.size]
def Rd (w:World) (B:Nat):(d:Ds)→List Value→El d→Prop
  | .int,cs,n=>cs=[.int .i64 n] ∧ -9223372036854775808≤n∧n≤9223372036854775807
  | .str,cs,s=>cs=[.string s]∧s.size≤maxLen
  | .bool,cs,b=>cs=[.bool b]
  | .pair a b,cs,p => ∃ c1 c2,cs=c1++c2∧Rd w B a c1 p.1∧Rd w B b c2 p.2
  | .slice a, cs, l => ∃ A c, cs = [.slice A l.length c] ∧ l.length ≤ c ∧ c ≤ maxLen ∧ (A = none → c = 0) ∧
      (0<l.length → ∃ b off,A=some ⟨b,off,none⟩∧b<B ∧ ∀ k (h:k<l.length),∃ r,(∀ j v,r[j]?=some v→w.cell? ⟨b,off+k*a.size+j,none⟩=some v)∧Rd w B a r l[k])
theorem Rd.length {w:World}{B:Nat} : ∀ {d:Ds}{cs:List Value}{x:El d},Rd w B d cs x→cs.length=d.size
 | .int,cs,x,h=>by rw [h.1];rfl
 | .str,cs,x,h=>by rw [h.1];rfl
 | .bool,cs,x,h=>by rw [show cs=_ from h];rfl
 | .pair a b,cs,x,⟨c1,c2,e,h1,h2⟩=>by rw [e,List.length_append,Rd.length h1,Rd.length h2];rfl
 | .slice a,cs,x,⟨A,c,e,_⟩=>by rw [e];rfl
theorem Rd.keep {w w':World}{B B':Nat}(hk : ∀ p:Addr,p.block<B→w'.cell? p=w.cell? p) (hB:B≤B') : ∀ {d:Ds}{cs:List Value}{x:El d},Rd w B d cs x→Rd w' B' d cs x
  | .int,cs,x,h=>h
  | .str,cs,x,h=>h
  | .bool,cs,x,h=>h
  | .pair a b,cs,x,⟨c1,c2,e,h1,h2⟩=>⟨c1,c2,e,Rd.keep hk hB h1,Rd.keep hk hB h2⟩
  | .slice a, cs, x, ⟨A, c, e, hl, hm, hA0, h⟩ => ⟨A, c, e, hl, hm, hA0, fun h0 => by
      obtain ⟨b,off,hA,hb,hi⟩:=h h0
      refine ⟨b,off,hA,by omega,fun k hk'=>?_⟩
      obtain ⟨r,hc,hr⟩:=hi k hk'
      exact ⟨r,fun j v hv=>(hk _ hb).trans (hc j v hv),Rd.keep hk hB hr⟩⟩
theorem Rd.below {w w':World}{B:Nat}{d:Ds}{cs:List Value}{x:El d}(h:Rd w B d cs x) (hb:Below B w w'):Rd w' B d cs x:=h.keep (fun p hp=>hb.cell hp) (Nat.le_refl _)
theorem Rd.more {w:World}{B B':Nat}{d:Ds}{cs:List Value}{x:El d}(h:Rd w B d cs x) (hB:B≤B'):Rd w B' d cs x:=h.keep (fun p hp=>rfl) hB
def Zop (P:Program) (f:TypeId→Ds→Bool):List Field→Nat→Ds→Bool
 | [],_,_=>false
 | fd::fs,off,d=>match fs with
  | []=>fd.offset==off&&P.cellsOf fd.type==d.size&&f fd.type d
  | _::_=>match d with
   | .pair a b=>fd.offset==off&&P.cellsOf fd.type==a.size&&f fd.type a&&Zop P f fs (off+a.size) b
   | _=>false
def fits (P:Program):Nat→TypeId→Ds→Bool
 | 0,_,_=>false
 | n+1,t,d =>
  match P.underlying t with
  | some (.int .i64)=>match d with
   | .int=>true
   | _=>false
  | some .string=>match d with
   | .str=>true
   | _=>false
  | some .bool=>match d with
   | .bool=>true
   | _=>false
  | some (.slice e)=>match d with
   | .slice a=>P.cellsOf e==a.size&&fits P n e a
   | _=>false
  | some (.struct fs)=>P.cellsOf t==d.size&&Zop P (fits P n) fs.toList 0 d
  | _=>false
section
variable {H : Type} {enc : TypeId × Value → H} {P : Program} {w : World} {base : Nat} {spare : Nat → Bool} {held : Bool}
theorem Zmf {w:World}{a:Addr}{v:Value}(h:w.cell? a=some v):a.spot=none:=by
 unfold World.cell? at h
 split at h
 ·split at h
  ·cases h
  ·rename_i hs;simpa using hs
 ·cases h
theorem Zs6 {α β:Type}{Q:Nat→β→α→Prop} : ∀ (n:Nat),(∀ i,i<n → ∃ r y,Q i r y) → ∃ l:List α,l.length=n ∧ ∀ i (h:i<l.length),∃ r,Q i r l[i]
 | 0,_=>⟨[],rfl,fun i h=>absurd h (by simp)⟩
 | n+1,h=>by
  obtain ⟨l,hl,hq⟩:=Zs6 n (fun i hi=>h i (by omega))
  obtain ⟨r,y,hy⟩:=h n (by omega)
  refine ⟨l++[y],by simp [hl],fun i hi=>?_⟩
  by_cases hin:i<l.length
  ·obtain ⟨r',h'⟩:=hq i hin
   exact ⟨r',by rw [List.getElem_append_left hin];exact h'⟩
  ·obtain rfl:i=n:=by simp at hi;omega
   exact ⟨r,by rw [List.getElem_append_right (by omega)];simpa [hl] using hy⟩
theorem ZfO : ∀ (n:Nat) (t:TypeId) (d:Ds) (fuel:Nat) (cs:List Value) (x:DataW H×List MemPlace),fits P n t d=true→DataW.trod enc P w base spare held fuel t cs=some x → ∃ e:El d,Rd w w.heap.size d cs e
  | 0,t,d,fuel,cs,x,hf,h=>by simp [fits] at hf
  | n+1,t,d,fuel,cs,x,hf,h=>by
    unfold fits at hf
    split at hf
    · rename_i hu
      split at hf <;> try (cases hf;done)
      obtain ⟨m,rfl,_,hw⟩:=DataW.trod_int hu h
      exact ⟨m,rfl,by simpa [Lit.wf,IntKind.min,IntKind.max,IntKind.signed,IntKind.bits] using hw⟩
    · rename_i hu
      split at hf <;> try (cases hf;done)
      obtain ⟨s,rfl,_,hw⟩:=DataW.trod_string hu h
      exact ⟨s,rfl,hw⟩
    · rename_i hu
      split at hf <;> try (cases hf;done)
      obtain ⟨b,rfl,_⟩:=DataW.trod_bool hu h
      exact ⟨b,rfl⟩
    · rename_i e hu
      split at hf <;> try (cases hf;done)
      rename_i a
      simp only [Bool.and_eq_true,beq_iff_eq] at hf
      rcases open_slice hu h with ⟨rfl,_⟩ | ⟨ad,len,cap,m,k,D,Pl,rfl,hb,hl,hm,hmm,_,hi⟩
      · exact ⟨([]:List (El a)),none,0,rfl,Nat.le_refl _,by unfold maxLen;omega,fun _=>rfl,fun h0=>absurd h0 (by simp)⟩
      · have hlm:len≤m:=by rw [hmm];split <;> omega
        have hex : ∀ i,i<len → ∃ (r:List Value) (y:El a),(∀ j v,r[j]?=some v→w.cell? ((ad.add (i*a.size)).add j)=some v)∧r.length=a.size∧Rd w w.heap.size a r y:=by
          intro i hil
          obtain ⟨cs',hc,ht⟩:=hi i (by omega)
          rw [hf.1] at hc
          obtain ⟨_,hcl,hat⟩:=World.cells?_some hc
          obtain ⟨y,hy⟩:=ZfO n e a k cs' _ hf.2 ht
          exact ⟨cs',y,fun j v hv=>by rw [hat j (by have:=(List.getElem?_eq_some_iff.1 hv).1;omega)];exact hv,hcl,hy⟩
        obtain ⟨l,hll,hl2⟩:=Zs6 len hex
        refine ⟨l,some ad,cap,by rw [hll],by omega,hm,fun h=>(by cases h),fun h0=>?_⟩
        obtain ⟨r0,hr0,hl0,_⟩:=hl2 0 h0
        have hp:=a.size_pos
        have hc0:=hr0 0 r0[0] (List.getElem?_eq_getElem (by omega))
        have hsp:ad.spot=none:=by
          have:=Zmf hc0
          simpa [Addr.add] using this
        obtain ⟨b,off,sp⟩:=ad
        simp only at hsp
        subst hsp
        refine ⟨b,off,rfl,?_,fun k' hk'=>?_⟩
        · have:=block_lt_of_cell hc0
          simpa [Addr.add] using this
        · obtain ⟨r,hr1,_,hr2⟩:=hl2 k' hk'
          exact ⟨r,fun j v hv=>by have:=hr1 j v hv;simpa [Addr.add_lit] using this,hr2⟩
    · rename_i fs hu
      simp only [Bool.and_eq_true,beq_iff_eq] at hf
      obtain ⟨xs,m,_,_,hcl,hxl,hat⟩:=DataW.trod_struct hu h
      have key : ∀ (l : List Field) (off i : Nat) (d : Ds) (cs' : List Value), Zop P (fits P n) l off d = true → cs'.length = d.size → cs.drop off = cs' → (∀ (j : Nat) (f : Field), l[j]? = some f → fs.toList[i + j]? = some f) →
          ∃ e:El d,Rd w w.heap.size d cs' e:=by
        intro l
        induction l with
        | nil=>intro off i d cs' hg;simp [Zop] at hg
        | cons f l ih =>
          intro off i d cs' hg hcl' hd hj
          have hfi:fs[i]?=some f:=by have:=hj 0 f rfl;simpa using this
          have hlt:i<xs.length:=by rw [hxl];exact (Array.getElem?_eq_some_iff.1 hfi).1
          have ht:=hat i f hfi
          rw [List.getElem?_eq_getElem hlt] at ht
          cases l with
          | nil =>
            simp only [Zop,Bool.and_eq_true,beq_iff_eq] at hg
            rw [hg.1.1,hg.1.2,hd,List.take_of_length_le (by omega)] at ht
            exact ZfO n f.type d m cs' _ hg.2 ht
          | cons g l =>
            cases d with
            | pair a b =>
              simp only [Zop,Bool.and_eq_true,beq_iff_eq] at hg
              obtain ⟨⟨⟨g1,g2⟩,g3⟩,g4⟩:=hg
              rw [g1,g2,hd] at ht
              obtain ⟨e1,he1⟩:=ZfO n f.type a m _ _ g3 ht
              obtain ⟨e2,he2⟩:=ih (off+a.size) (i+1) b (cs'.drop a.size) g4 (by rw [List.length_drop,hcl'];simp [Ds.size]) (by rw [←hd,List.drop_drop]) (fun j f' hf'=>by have:=hj (j+1) f' (by simpa using hf');rw [←this];congr 1;omega)
              exact ⟨(e1,e2),cs'.take a.size,cs'.drop a.size,(List.take_append_drop _ _).symm,he1,he2⟩
            | _=>simp [Zop] at hg
      exact key fs.toList 0 0 _ cs hf.2 (by rw [hcl,hf.1]) (by simp) (fun j f' hf'=>by simpa using hf')
    · cases hf
theorem rd_arg {d:Ds}{t:TypeId}{v:Value}{x:DataW H}{p:List MemPlace}(hf:fits P 20 t d=true) (h:DataW.Trod enc P w base spare held t v x p) : ∃ e:El d,Rd w w.heap.size d v.cells.toList e:=by
 obtain ⟨fuel,hf'⟩:=h
 exact ZfO 20 t d fuel _ _ hf hf'
end
def avs:(d:Ds)→El d→List AV
 | .int,n=>[iv n]
 | .str,s=>[sv s]
 | .bool,b=>[bv b]
 | .pair a b,p=>avs a p.1++avs b p.2
 | .slice a,l=>[.sl (List.length l) a.size false (rows (avs a) l)]
theorem ZlE : ∀ (d:Ds) (x:El d),(avs d x).length=d.size
 | .int,_=>rfl
 | .str,_=>rfl
 | .bool,_=>rfl
 | .pair a b,p=>by simp only [avs,List.length_append,ZlE a,ZlE b,Ds.size]
 | .slice a,l=>rfl
def okD:(d:Ds)→El d→Prop
 | .int,n => -9223372036854775808≤n∧n≤9223372036854775807
 | .str,s=>ByteArray.size s≤maxLen
 | .bool,_=>True
 | .pair a b,p=>okD a p.1∧okD b p.2
 | .slice a,l => ∀ (k:Nat) (h:k<List.length l),okD a (l[k])
theorem Rd.ok {w:World}{B:Nat} : ∀ {d:Ds}{cs:List Value}{x:El d},Rd w B d cs x→okD d x
 | .int,cs,x,h=>h.2
 | .str,cs,x,h=>h.2
 | .bool,cs,x,h=>trivial
 | .pair a b,cs,x,⟨c1,c2,e,h1,h2⟩=>⟨Rd.ok h1,Rd.ok h2⟩
 | .slice a,cs,x,⟨A,c,e,hl,hm,h0,h⟩=>fun k hk=>by
  obtain ⟨b,off,_,_,hi⟩:=h (by omega)
  obtain ⟨r,_,hr⟩:=hi k hk
  exact Rd.ok hr
theorem RepC.append {w:World}{g:Gh} : ∀ {cs ds:List AV}{b off:Nat},RepC w g cs b off→RepC w g ds b (off+cs.length)→RepC w g (cs++ds) b off
 | [],ds,b,off,_,h=>by simpa using h
 | c::cs,ds,b,off,h,k=>by
  simp only [RepC,List.cons_append] at h ⊢
  refine ⟨h.1,RepC.append h.2 ?_⟩
  rw [show off+1+cs.length=off+(c::cs).length by simp;omega]
  exact k
theorem RepC.of_list {w:World}{g:Gh}{b:Nat} : ∀ {cs:List AV}{us:List Value}{off:Nat},RepL w g cs us→(∀ j v,us[j]?=some v→w.cell? ⟨b,off+j,none⟩=some v)→RepC w g cs b off
 | [],us,off,_,_=>by simp only [RepC]
 | c::cs,us,off,h,k=>by
  simp only [RepL] at h
  obtain ⟨u,us',rfl,h1,h2⟩:=h
  simp only [RepC]
  refine ⟨⟨u,k 0 u rfl,h1⟩,RepC.of_list h2 fun j v hv=>?_⟩
  have:=k (j+1) v (by simpa using hv)
  rw [show off+1+j=off+(j+1) by omega]
  exact this
theorem ZmA {w:World}{B:Nat}{g:Gh}(hg : ∀ k,k<B→g.D k) : ∀ (d:Ds) (cs:List Value) (x:El d),Rd w B d cs x→RepL w g (avs d x) cs
 | .int,cs,x,h=>by rw [h.1];simp only [avs,RepL];exact ⟨_,[],rfl,by simp only [Rep],rfl⟩
 | .str,cs,x,h=>by rw [h.1];simp only [avs,RepL];exact ⟨_,[],rfl,by simp only [Rep],rfl⟩
 | .bool,cs,x,h=>by rw [show cs=_ from h];simp only [avs,RepL];exact ⟨_,[],rfl,by simp only [Rep],rfl⟩
 | .pair a b,cs,x,⟨c1,c2,e,h1,h2⟩=>by rw [e];simp only [avs];exact (ZmA hg a c1 x.1 h1).append (ZmA hg b c2 x.2 h2)
 | .slice a,cs,l,⟨A,c,e,hl,hm,h0,h⟩=>by
  rw [e]
  simp only [avs,RepL]
  refine ⟨_,[],rfl,?_,rfl⟩
  simp only [Rep]
  refine ⟨Zbw (ZlE a) l,A,c,rfl,hl,hm,fun h=>(by cases h),h0,fun hne=>?_⟩
  have hpos:0<List.length l:=by
   rcases Nat.eq_zero_or_pos (List.length l) with h' | h'
   ·have:l=[]:=List.eq_nil_of_length_eq_zero h'
    subst this;exact absurd rfl hne
   ·exact h'
  obtain ⟨b,off,eA,hb,hi⟩:=h hpos
  refine ⟨b,off,eA,hg b hb,?_⟩
  have key : ∀ (m:List (El a)) (o:Nat),(∀ k (hk:k<m.length),∃ r,(∀ j v,r[j]?=some v→w.cell? ⟨b,o+k*a.size+j,none⟩=some v)∧RepL w g (avs a m[k]) r)→RepC w g (rows (avs a) m) b o:=by
   intro m
   induction m with
   | nil=>intro o _;simp only [rows,List.flatMap_nil,RepC]
   | cons x m ih =>
    intro o hm'
    simp only [rows,List.flatMap_cons]
    obtain ⟨r,hr1,hr2⟩:=hm' 0 (by simp)
    refine RepC.append (RepC.of_list hr2 fun j v hv=>by have:=hr1 j v hv;simpa using this) ?_
    rw [ZlE]
    refine ih (o+a.size) fun k hk=>?_
    obtain ⟨r,hr1,hr2⟩:=hm' (k+1) (by simpa using hk)
    refine ⟨r,fun j v hv=>?_,by simpa using hr2⟩
    have:=hr1 j v hv
    rw [show o+a.size+k*a.size+j=o+(k+1)*a.size+j by rw [Nat.add_mul];omega]
    exact this
  exact key l off fun k hk=>by
   obtain ⟨r,hr1,hr2⟩:=hi k hk
   exact ⟨r,hr1,ZmA hg a r _ hr2⟩
def g0 (w:World):Gh:=⟨fun k=>k<w.heap.size,fun _ _=>none,[]⟩
theorem sim0 (w:World) (hG:GlobW w):SimH w (g0 w) [] :=
 ⟨fun id ver ty s c h=>(by simp at h),fun i j k hi _=>by obtain ⟨_,_,_,_,_,_,h,_⟩:=hi;simp at h,fun k hk=>hk,fun id ver l h=>(by simp [g0] at h),fun id ver l h=>(by simp [g0] at h),⟨hG,hG.lt⟩⟩
theorem Ztf {P:Program}{f:FuncId}{args:List AV}(hc:ACalls P f args [] fun x h'=>h'=[]∧x=.ret (bv true)) {w:World}(hG:GlobW w) {vs:Array Value}(hr:RepL w (g0 w) args vs.toList) :
  Calls P f vs w fun e w'=>e=.returned (.bool true)∧Below w.heap.size w w':=by
 refine (hc.2 w (g0 w) vs (sim0 w hG) hr).mono ?_
 rintro e w' ⟨x,h',g',h1,h2,h3,h4,h5,rfl,rfl⟩
 cases e <;> simp only [EndR] at h1
 simp only [Rep] at h1
 refine ⟨by rw [h1],h4.os,h4.tape,h4.output,h4.size,fun k hk=>h4.block k hk ?_⟩
 rintro ⟨i,_,_,_,_,_,_,h,_⟩
 simp at h
section
variable {H : Type} {enc : TypeId × Value → H} {P : Program} {w : World} {base : Nat} {spare : Nat → Bool} {held : Bool}
theorem Zq2 (d:Ds) {t:TypeId}{v:Value}{x:DataW H}{p:List MemPlace}{fs:Array Field}{r:Reach}{b:Nat}(ht:P.underlying t=some (.struct fs)) (hf:fits P 20 t d=true) (hv:Value.okWide P w r b t v) (h:DataW.Trod enc P w base spare held t v x p) :
  ∃ e:El d,okD d e∧Rep w (g0 w) (.agg (avs d e)) v:=by
 obtain ⟨e,he⟩:=rd_arg hf h
 obtain ⟨cs,rfl,_⟩:=okWide_struct ht hv
 refine ⟨e,he.ok,?_⟩
 simp only [Rep]
 exact ⟨cs,rfl,ZmA (fun k hk=>hk) d _ e he⟩
theorem arg_cell (d:Ds) {t:TypeId}{v:Value}{x:DataW H}{p:List MemPlace}(hf:fits P 20 t d=true) (hv:v.cells = #[v]) (h:DataW.Trod enc P w base spare held t v x p) :
  ∃ e:El d,okD d e∧RepL w (g0 w) (avs d e) [v]:=by
 obtain ⟨e,he⟩:=rd_arg hf h
 refine ⟨e,he.ok,?_⟩
 have:=ZmA (g:=g0 w) (fun k hk=>hk) d _ e he
 rwa [hv] at this
theorem arg_str {t:TypeId}{v:Value}{x:DataW H}{p:List MemPlace}{r:Reach}{b:Nat}(ht:P.underlying t=some .string) (hv:Value.okWide P w r b t v) (h:DataW.Trod enc P w base spare held t v x p) :
  ∃ e:ByteArray,e.size≤maxLen∧Rep w (g0 w) (sv e) v:=by
 obtain ⟨n,rfl⟩:=okWide_string ht hv
 obtain ⟨e,he,hr⟩:=arg_cell .str (by simp [fits,ht]) rfl h
 simp only [avs,RepL] at hr
 obtain ⟨u,us,h1,h2,rfl⟩:=hr
 cases h1
 exact ⟨e,he,h2⟩
end
theorem repL1 {w:World}{g:Gh}{c:AV}{v:Value}{cs:List AV}{vs:List Value}(h:Rep w g c v) (hs:RepL w g cs vs):RepL w g (c::cs) (v::vs):=by simp only [RepL];exact ⟨v,vs,rfl,h,hs⟩
theorem repL0 {w:World}{g:Gh}:RepL w g [] []:=by simp only [RepL]
end Go.Proofs.YtgjchdhdopgkkaaGreatDoor
end
section
namespace Go.Proofs.YtgjchdhdopgkkaaGreatDoor
open Go.Ab
theorem Zk2 {p:Int→Bool} : ∀ {l:Bs}{n:Nat},runL p l=some n → ∀ c∈l.take n,p c.toNat=true∧plnN c.toNat=true
 | [],n,h,c,hc=>by simp at hc
 | x::l,n,h,c,hc=>by
  unfold runL at h
  split at h
  ·rename_i hp
   split at h
   ·rename_i hq
    rw [Option.map_eq_some_iff] at h
    obtain ⟨m,hm,rfl⟩:=h
    rw [List.take_succ_cons] at hc
    rcases List.mem_cons.1 hc with rfl | hc
    ·exact ⟨hp,hq⟩
    ·exact Zk2 hm c hc
   ·cases h
  ·cases h;simp at hc
theorem Zk1 {p:Int→Bool}{b:Bs}(hb:runL p b=some 0) : ∀ {a:Bs},(∀ c∈a,p c.toNat=true∧plnN c.toNat=true)→runL p (a++b)=some a.length
 | [],h=>hb
 | c::a,h=>by
  have h1:=h c (by simp)
  rw [List.cons_append,runL,if_pos h1.1,if_pos h1.2,Zk1 hb (fun x hx=>h x (by simp [hx]))]
  rfl
theorem ZfY {n:Int}:badN n=false↔plnN n=true∧n≠34:=by
 unfold badN;simp
theorem Zoq {l:Bs}{x:Nat×Nat×Nat}(h:Zce l=some x) : ∀ c∈(l.drop x.1).take x.2.1,badN c.toNat=false:=by
 cases l with
 | nil=>cases h
 | cons c l =>
  by_cases hc:(c.toNat:Int)=34
  ·rw [Zce,if_pos hc] at h
   cases hr:runL quoP l with
   | none=>rw [hr] at h;cases h
   | some n =>
    have:=Zk2 hr
    rw [hr] at h
    simp only at h
    split at h
    ·cases h
    ·split at h
     ·cases h
     ·cases h
      intro y hy
      have:=this y (by simpa using hy)
      exact ZfY.2 ⟨this.2,by have:=this.1;unfold quoP at this;simpa using this⟩
  ·rw [Zce,if_neg hc] at h
   cases hr:runL fldP (c::l) with
   | none=>rw [hr] at h;cases h
   | some n =>
    have:=Zk2 hr
    rw [hr] at h
    simp only at h
    split at h
    ·cases h
    ·cases h
     intro y hy
     have:=this y (by simpa using hy)
     exact ZfY.2 ⟨this.2,by have:=this.1;unfold fldP at this;simp at this;exact this.2⟩
theorem ZiQ {f:ByteArray}(h1 : ∀ c∈aB f,badN c.toNat=false) (h2:f.size≤24):Zbl f=0:=by
 unfold Zbl
 rw [if_neg,if_neg (by omega)]
 rw [List.any_eq_true]
 rintro ⟨c,hc,hb⟩
 rw [h1 c hc] at hb;cases hb
theorem ZfT {f:ByteArray}(h:Zbl f=0):(∀ c∈aB f,badN c.toNat=false)∧f.size≤24:=by
 unfold Zbl at h
 split at h
 ·cases h
 ·rename_i h1
  split at h
  ·cases h
  ·refine ⟨fun c hc=>?_,by omega⟩
   cases hb:badN c.toNat
   ·rfl
   ·exact absurd (List.any_eq_true.2 ⟨c,hc,hb⟩) h1
theorem Zkb : ∀ {k:Nat}{acc:List ByteArray}{l:Bs},(∀ f∈acc,Zbl f=0)→acc.length≤12→(Zgk k acc l).2=0→(∀ f∈(Zgk k acc l).1,Zbl f=0)∧(Zgk k acc l).1.length≤12
 | 0,acc,l,h1,h2,_=>⟨h1,h2⟩
 | k+1,acc,l,h1,h2,h3=>by
  rw [Zgk] at h3 ⊢
  split at h3
  ·rename_i hm
   rw [if_pos hm]
   split at h3
   ·cases h3
   ·rename_i x hx
    split at h3
    ·cases h3
    ·rename_i hn
     rw [if_neg hn]
     refine Zkb (fun f hf=>?_) (by simp;omega) h3
     rcases List.mem_append.1 hf with hf | hf
     ·exact h1 f hf
     ·rw [List.mem_singleton] at hf
      subst hf
      refine ZiQ (fun c hc=>Zoq hx c hc) ?_
      unfold cutF
      rw [ZaQ,List.length_take];omega
  ·rename_i hm
   rw [if_neg hm]
   exact ⟨h1,h2⟩
theorem ZqK {x:Bs}(h:(ZcR x).2=0) (hne:(ZcR x).1≠[]):ZcS (ZcR x).1=0:=by
 obtain ⟨h1,h2⟩:=Zkb (k:=13) (acc:=[]) (l:=x) (fun f hf=>by simp at hf) (by simp) h
 unfold ZcS
 have:0<(ZcR x).1.length:=List.length_pos_iff.2 hne
 rw [if_neg (by omega),if_neg (by show ¬12<(Zgk 13 [] x).1.length;omega)]
 have : ∀ {fs:List ByteArray},(∀ f∈fs,Zbl f=0)→Zef fs=0:=by
  intro fs
  induction fs with
  | nil=>intro _;rfl
  | cons f fs ih =>
   intro h
   rw [Zef,if_neg (by rw [h f (by simp)];simp)]
   exact ih fun g hg=>h g (by simp [hg])
 exact this h1
theorem Zm0 {l:List Ln}:Zgj l=0 ↔ ∀ x∈l,ZcS x.2.2=0:=by
 induction l with
 | nil=>simp [Zgj]
 | cons x l ih =>
  rw [Zgj]
  by_cases h:ZcS x.2.2=0
  ·rw [if_neg (by rw [h];simp),ih]
   simp [h]
  ·rw [if_pos h]
   constructor
   ·intro e;exact absurd e h
   ·intro e;exact e x (by simp)
theorem Zj6 : ∀ {n:Int}{l:List Bs}{acc:List Ln},(ZbW n l acc).2.2≠0→(ZbW n l acc).1=[]
 | n,[],acc,h=>absurd rfl h
 | n,x::xs,acc,h=>by
  rw [ZbW] at h ⊢
  split at h
  ·rename_i h1;rw [if_pos h1]
  ·rename_i h1;rw [if_neg h1];exact Zj6 h
theorem ZiL : ∀ {n:Int}{l:List Bs}{acc:List Ln},(∀ x∈acc,ZcS x.2.2=0) → ∀ x∈(ZbW n l acc).1,ZcS x.2.2=0
 | n,[],acc,h=>h
 | n,y::ys,acc,h=>by
  rw [ZbW]
  split
  ·intro x hx;simp at hx
  ·rename_i h1
   refine ZiL fun x hx=>?_
   split at hx
   ·exact h x hx
   ·rename_i h2
    rcases List.mem_append.1 hx with hx | hx
    ·exact h x hx
    ·rw [List.mem_singleton] at hx
     subst hx
     exact ZqK (Decidable.of_not_not h1) h2
theorem Zin {s:ByteArray} : ∀ x∈(ZbB s).1,ZcS x.2.2=0:=by
 have:=ZiL (n:=1) (l:=cutC 10 (aB s)) (acc:=[]) (fun x hx=>by simp at hx)
 unfold ZbB
 split
 ·intro x hx;simp at hx
 ·split
  ·exact this
  ·split
   ·intro x hx;simp at hx
   ·exact this
def txt (f:ByteArray):Bs:=aB (Zey f)
theorem txt_q {f:ByteArray}(h:quoB f=true):txt f=34::(aB f++[34]):=by
 unfold txt Zey
 rw [if_pos h,aB_app,aB_app,Zhw];rfl
theorem txt_f {f:ByteArray}(h:¬quoB f=true):txt f=aB f:=by unfold txt Zey;rw [if_neg h]
def Zr7 (t:Bs):Prop:=t=[] ∨ ∃ r,t=32::r
theorem Zr6 {t:Bs}(h:Zr7 t):(ZeK t=true→blkN (ZgS t)=true∧ZgS t≠34) ∧ ∀ p:Int→Bool,p 32=false→runL p t=some 0:=by
 rcases h with rfl | ⟨r,rfl⟩
 ·exact ⟨fun h=>by simp [ZeK] at h,fun p _=>rfl⟩
 ·refine ⟨fun _=>⟨rfl,by show ((32:UInt8).toNat:Int)≠34;decide⟩,fun p hp=>?_⟩
  rw [runL,if_neg]
  rw [show ((32:UInt8).toNat:Int)=32 from rfl,hp];simp
theorem ZqS {f:ByteArray}{t:Bs}(hf:Zbl f=0) (ht:Zr7 t) : ∃ o,Zce (txt f++t)=some (o,f.size,(txt f).length)∧((txt f++t).drop o).take f.size=aB f:=by
 obtain ⟨h1,h2⟩:=ZfT hf
 obtain ⟨t1,t2⟩:=Zr6 ht
 by_cases hq:quoB f=true
 ·refine ⟨1,?_,?_⟩
  ·rw [txt_q hq]
   have hr:runL quoP (aB f++34::t)=some (aB f).length:=Zk1 (by rw [runL,if_neg (by decide)]) fun c hc=>by
    have:=ZfY.1 (h1 c hc)
    exact ⟨by unfold quoP;simpa using this.2,this.1⟩
   have e:34::(aB f++[34])++t=34::(aB f++34::t):=by simp
   have hd:(aB f++34::t).drop ((aB f).length+1)=t:=by
    rw [show (aB f++34::t)=(aB f++[34])++t by simp,List.drop_left' (by simp)]
   rw [e,Zce,if_pos (by rfl),hr]
   simp only
   rw [if_neg (by simp),if_neg,Zbr]
   ·simp [Zbr]
   ·rw [hd]
    rintro ⟨a,b⟩
    rw [(t1 a).1] at b;cases b
  ·rw [txt_q hq]
   simp [←Zbr]
 ·have hq':quoB f=false:=by simpa using hq
  unfold quoB at hq'
  rw [Bool.or_eq_false_iff,decide_eq_false_iff_not] at hq'
  have hP : ∀ c∈aB f,fldP c.toNat=true∧plnN c.toNat=true:=fun c hc=>by
   have hb:=ZfY.1 (h1 c hc)
   have hn:quoN c.toNat=false:=by
    cases hh:quoN c.toNat
    ·rfl
    ·have:=List.any_eq_true (p:=fun c:UInt8=>quoN c.toNat).2 ⟨c,hc,hh⟩
     rw [hq'.2] at this;cases this
   unfold quoN at hn
   rw [Bool.or_eq_false_iff,decide_eq_false_iff_not] at hn
   exact ⟨Zoo hn.1 hn.2 hb.2,hb.1⟩
  refine ⟨0,?_,?_⟩
  ·rw [txt_f hq]
   have hr:runL fldP (aB f++t)=some (aB f).length:=Zk1 (t2 _ (by decide)) hP
   cases hl:aB f with
   | nil=>exact absurd (by rw [←Zbr,hl];rfl) hq'.1
   | cons c l =>
    have hc:=hP c (by rw [hl];simp)
    have hc34:(c.toNat:Int)≠34:=by have:=hc.1;unfold fldP at this;simp at this;exact this.2
    rw [←hl]
    have e:aB f++t=c::(l++t):=by rw [hl];rfl
    rw [e,Zce,if_neg hc34,←e,hr]
    simp only
    rw [if_neg,Zbr]
    rw [List.drop_left' rfl]
    rintro ⟨a,b⟩
    exact (t1 a).2 b
  ·rw [txt_f hq,List.drop_zero,List.take_left' (Zbr f)]
theorem Zpe {f:ByteArray}(hf:Zbl f=0) : ∃ c r,txt f=c::r∧blkN c.toNat=false∧(c.toNat:Int)≠35:=by
 by_cases hq:quoB f=true
 ·exact ⟨34,_,txt_q hq,by decide,by decide⟩
 ·have hq':quoB f=false:=by simpa using hq
  unfold quoB at hq'
  rw [Bool.or_eq_false_iff,decide_eq_false_iff_not] at hq'
  rw [txt_f hq]
  cases hl:aB f with
  | nil=>exact absurd (by rw [←Zbr,hl];rfl) hq'.1
  | cons c l =>
   refine ⟨c,l,rfl,?_⟩
   have hn:quoN c.toNat=false:=by
    cases hh:quoN c.toNat
    ·rfl
    ·have:=List.any_eq_true (p:=fun c:UInt8=>quoN c.toNat).2 ⟨c,(show c∈aB f by rw [hl];simp),hh⟩
     rw [hq'.2] at this;cases this
   unfold quoN at hn
   rw [Bool.or_eq_false_iff,decide_eq_false_iff_not] at hn
   exact hn
theorem Zml {c:UInt8}{r:Bs}(hc:blkN c.toNat=false) : ∀ {a:Bs},(∀ x∈a,blkN x.toNat=true)→Zdv (a++c::r)=a.length
 | [],_=>by unfold Zdv;simp [List.takeWhile_cons,hc]
 | x::a,h=>by
  have:=Zml (c:=c) (r:=r) hc (a:=a) (fun y hy=>h y (by simp [hy]))
  unfold Zdv at this ⊢
  rw [List.cons_append,List.takeWhile_cons,h x (by simp)]
  simp [this]
theorem Ztu {k:Nat}{acc:List ByteArray}:Zgk k acc []=(acc,0):=by
 cases k with
 | zero=>rfl
 | succ k=>rw [Zgk,List.drop_nil,if_neg (by simp [ZeK])]
theorem Zka : ∀ {fs:List ByteArray}{k:Nat}{acc:List ByteArray}{a:Bs},(∀ f∈fs,Zbl f=0)→(∀ x∈a,blkN x.toNat=true)→acc.length+fs.length≤12→fs.length≤k→fs≠[]→Zgk k acc (a++ZdB (fs.map txt))=(acc++fs,0)
 | [],k,acc,a,_,_,_,_,hne=>absurd rfl hne
 | f::fs,0,acc,a,h1,h2,h3,h4,_=>by simp at h4
 | f::fs,k+1,acc,a,h1,h2,h3,h4,_=>by
  have hf:=h1 f (by simp)
  obtain ⟨t,ht,hj,hk⟩ : ∃ t,Zr7 t∧ZdB ((f::fs).map txt)=txt f++t∧Zgk k (acc++[f]) t=(acc++f::fs,0):=by
   cases fs with
   | nil=>exact ⟨[],.inl rfl,by simp [ZdB],by rw [Ztu]⟩
   | cons g fs =>
    refine ⟨32::ZdB ((g::fs).map txt),.inr ⟨_,rfl⟩,rfl,?_⟩
    have:=Zka (fs:=g::fs) (k:=k) (acc:=acc++[f]) (a:=[32]) (fun x hx=>h1 x (by simp at hx ⊢;exact .inr hx)) (by simp;decide) (by simp at h3 ⊢;omega) (by simp at h4 ⊢;omega) (by simp)
    rw [show [32]++ZdB ((g::fs).map txt)=32::ZdB ((g::fs).map txt) from rfl] at this
    rw [this];simp
  obtain ⟨c,r,hc,hb,h35⟩:=Zpe hf
  obtain ⟨o,ho,hcut⟩:=ZqS hf ht
  have hs:Zdv (a++(txt f++t))=a.length:=by rw [hc,List.cons_append];exact Zml hb h2
  rw [hj,Zgk,hs,List.drop_left' rfl,if_pos (by rw [hc,List.cons_append,ZeK];simpa using h35),ho]
  simp only
  have h24:=(ZfT hf).2
  rw [if_neg (by simp at h3;omega),List.drop_left' rfl]
  have:cutF (txt f++t) (o,f.size,(txt f).length)=f:=by unfold cutF;simp only;rw [hcut,Znf]
  rw [this,hk]
def Zlk (x:Ln):Bs:=(if x.2.1=true then [32] else [])++ZdB (x.2.2.map txt)
theorem lineB_S (x:Ln):Zoe x=Zlk x++[10]:=by
 unfold Zoe Zlk
 rw [List.append_assoc];rfl
theorem lineL_S {x:Ln}(h:ZcS x.2.2=0):ZcR (Zlk x)=(x.2.2,0):=by
 obtain ⟨h1,h2,h3⟩:=ZfQ h
 have:=Zka (fs:=x.2.2) (k:=13) (acc:=[]) (a:=if x.2.1=true then [32] else []) h3 (by split <;> simp;decide) (by simp;omega) (by omega) (fun e=>by rw [e] at h1;simp at h1)
 exact this
theorem ZqJ {x:Ln}(h:ZcS x.2.2=0):blkN (ZgS (Zlk x))=x.2.1:=by
 obtain ⟨h1,h2,h3⟩:=ZfQ h
 unfold Zlk
 by_cases hi:x.2.1=true
 ·rw [if_pos hi,hi];rfl
 ·rw [if_neg hi]
  have hi':x.2.1=false:=by simpa using hi
  rw [hi']
  cases hl:x.2.2 with
  | nil=>rw [hl] at h1;simp at h1
  | cons f fs =>
   obtain ⟨c,r,hc,hb,_⟩:=Zpe (h3 f (by rw [hl];simp))
   cases fs with
   | nil=>simp only [List.map_cons,List.map_nil,ZdB,List.nil_append,hc];exact hb
   | cons g fs=>simp only [List.map_cons,ZdB,List.nil_append,hc,List.cons_append];exact hb
theorem ZrY {f:ByteArray}(hf:Zbl f=0):(10:UInt8) ∉ txt f:=by
 have h1:=(ZfT hf).1
 have h10:(10:UInt8) ∉ aB f:=fun h=>by have:=(ZfY.1 (h1 _ h)).1;revert this;decide
 by_cases hq:quoB f=true
 ·rw [txt_q hq];simp;exact h10
 ·rw [txt_f hq];exact h10
theorem ZiN : ∀ {l:List Bs},(∀ x∈l,(10:UInt8) ∉ x)→(10:UInt8) ∉ ZdB l
 | [],_=>by simp [ZdB]
 | [a],h=>h a (by simp)
 | a::b::l,h=>by
  have:=ZiN (l:=b::l) (fun x hx=>h x (by simp at hx ⊢;exact .inr hx))
  rw [ZdB]
  simp only [List.mem_append,List.mem_cons,not_or]
  exact ⟨h a (by simp),by decide,this⟩
theorem Zod {x:Ln}(h:ZcS x.2.2=0):(10:UInt8) ∉ Zlk x:=by
 obtain ⟨h1,h2,h3⟩:=ZfQ h
 unfold Zlk
 rw [List.mem_append,not_or]
 refine ⟨by split <;> decide,ZiN fun y hy=>?_⟩
 obtain ⟨f,hf,rfl⟩:=List.mem_map.1 hy
 exact ZrY (h3 f hf)
theorem Zqe : ∀ {l:List Ln},(∀ x∈l,ZcS x.2.2=0)→cutC 10 (ZgQ l)=l.map Zlk++[[]]
 | [],_=>rfl
 | x::l,h=>by
  show cutC 10 (Zoe x++ZgQ l)=_
  rw [lineB_S,List.append_assoc,List.singleton_append,Zht (Zod (h x (by simp))),Zqe (fun y hy=>h y (by simp [hy]))]
  rfl
theorem ZiK : ∀ {l:List Ln}{n:Int}{acc:List Ln},(∀ x∈l,ZcS x.2.2=0) → ∃ y,ZbW n (l.map Zlk++[[]]) acc=(acc++y,0,0)∧y.map (·.2)=l.map (·.2)
  | [], n, acc, _ => ⟨[], by
      simp only [List.map_nil,List.nil_append,ZbW]
      rw [if_neg (by decide),if_pos (show (ZcR []).1=[] from rfl),List.append_nil],rfl⟩
  | x::l,n,acc,h=>by
    have hx:=h x (by simp)
    obtain ⟨y,h1,h2⟩:=ZiK (l:=l) (n:=n+1) (acc:=acc++[(n,x.2.1,x.2.2)]) (fun z hz=>h z (by simp [hz]))
    have hne:x.2.2≠[]:=fun e=>by have:=(ZfQ hx).1;rw [e] at this;simp at this
    refine ⟨(n,x.2.1,x.2.2)::y,?_,by simp [h2]⟩
    rw [List.map_cons,List.cons_append,ZbW,lineL_S hx,if_neg (by simp),if_neg hne,ZqJ hx,h1]
    simp
theorem Zqv {l:List Ln}(h:(Zfo l).2=0):(ZbB (Zfo l).1).2.2=0∧(ZbB (Zfo l).1).1.map (·.2)=l.map (·.2):=by
 unfold Zfo at h ⊢
 split at h
 ·cases h
 ·rename_i h1
  split at h
  ·rename_i h2;exact absurd h h2
  ·rename_i h2
   split at h
   ·cases h
   ·rename_i h3
    rw [if_neg h1,if_neg h2,if_neg h3]
    have hl:=Zm0.1 (Decidable.of_not_not h2)
    obtain ⟨y,e1,e2⟩:=ZiK (n:=1) (acc:=[]) hl
    rw [List.nil_append] at e1
    have hy:y.length=l.length:=by have:=congrArg List.length e2;simpa using this
    have e:ZbB (bA (ZgQ l))=(y,0,0):=by
     unfold ZbB
     rw [if_neg (show ¬8000<(bA (ZgQ l)).size from h3),Zhw,Zqe hl,e1,if_neg (by simp),if_neg (by simp only;omega)]
    rw [e]
    exact ⟨rfl,e2⟩
end Go.Proofs.YtgjchdhdopgkkaaGreatDoor
end
section
namespace Go.Proofs.YtgjchdhdopgkkaaGreatDoor
open Go.Ab
theorem Zj3 {s:ByteArray}(h:(ZaV s).2.2≠0):(ZaV s).1=srcZ:=by
 unfold ZaV at h ⊢
 split
 ·rfl
 ·rename_i h1
  rw [if_neg h1] at h
  unfold outP at h ⊢
  split
  ·rfl
  ·rename_i p hp
   rw [hp] at h
   simp only at h
   unfold endP at h ⊢
   split
   ·rfl
   ·rename_i h2
    rw [if_neg h2] at h
    split
    ·rfl
    ·rename_i h3;rw [if_neg h3] at h;exact absurd rfl h
theorem ZiA {s:ByteArray}(h:(ZaV s).2.2=0):(ZbB s).2.2=0∧runR (srcZ,false) (ZbB s).1=.inl ((ZaV s).1,false)∧ZbT (ZaV s).1=0∧(ZaV s).2.1=0:=by
 unfold ZaV at h ⊢
 split
 ·rename_i h1;rw [if_pos h1] at h;exact absurd h h1
 ·rename_i h1
  rw [if_neg h1] at h
  unfold outP at h ⊢
  split
  ·rename_i n hp;rw [hp] at h;cases h
  ·rename_i p hp
   rw [hp] at h
   simp only at h
   unfold endP at h ⊢
   split
   ·rename_i h2;rw [if_pos h2] at h;cases h
   ·rename_i h2
    rw [if_neg h2] at h
    split
    ·rename_i h3;rw [if_pos h3] at h;exact absurd h h3
    ·rename_i h3
     exact ⟨Decidable.of_not_not h1,by rw [hp];simp only [Sum.inl.injEq];exact Prod.ext rfl (by simpa using h2),Decidable.of_not_not h3,rfl⟩
theorem Zow {s:Src}:ZcU (s,true)=ZaN rEra fun x=>retR (ZbY s x):=by unfold ZcU;rw [if_pos rfl]
theorem Zdl {s:Src}:ZcU (s,false)=ZaN Zbf fun w =>
  if w=ZeW then ZaN ZgK fun r=>retR ((s.1++[r],s.2.1,s.2.2),false)
  else if w=Zfp then ZaN ZcI fun n=>ZaN rEra fun x=>retR (ZbY (s.1,s.2.1++[(n,[])],s.2.2) x)
  else if w=ZgP then ZaN ZcI fun a=>ZaN ZcI fun b=>retR ((s.1,s.2.1,s.2.2++[(a,b)]),false)
  else Zbs none:=by unfold ZcU;rw [if_neg (by simp)]
theorem Ztc {p:PS}{x y:Ln}(h:x.2=y.2):Zch p x=Zch p y:=by unfold Zch;rw [h]
theorem ZiB (s:ByteArray):ZaV s=if (ZbB s).2.2≠0 then (srcZ,(ZbB s).2.1,(ZbB s).2.2) else outP (ZbB s).1:=rfl
end Go.Proofs.YtgjchdhdopgkkaaGreatDoor
end
section
namespace Go.Proofs.YtgjchdhdopgkkaaGreatDoor
open Go.Ab Go.RowKit Civ
attribute [local simp] Zbd
section
theorem Zjq {τ:Operand→AV}{y0 y1 y2 y3:Operand}{x0_0 x1_0 x2_0 x3_0:AV}(h0:Zap (τ y0)=some [x0_0]) (l0:[x0_0].all leaf=true) (h1:Zap (τ y1)=some [x1_0]) (l1:[x1_0].all leaf=true) (h2:Zap (τ y2)=some [x2_0]) (l2:[x2_0].all leaf=true) (h3:Zap (τ y3)=some [x3_0]) (l3:[x3_0].all leaf=true):Zat τ [(0,1,y0),(1,1,y1),(2,1,y2),(3,1,y3)] [(.v (.string ⟨#[]⟩)),(.v (.string ⟨#[]⟩)),(.v (.string ⟨#[]⟩)),(.v (.string ⟨#[]⟩))]=some [x0_0,x1_0,x2_0,x3_0]:=by
 simp only [Zat,h0,l0,h1,l1,h2,l2,h3,l3]
 rfl
theorem Zt6 { e:Ent}:([]:AH)++[e]=[e]:=rfl
theorem ZrH { d0:Ent}:([]:AH)++[d0]=[d0]:=rfl
theorem ZnA {τ:Operand→AV}{y0 y1 y2 y3 y4:Operand}{x0_0 x1_0 x2_0 x3_0 x4_0:AV}(h0:Zap (τ y0)=some [x0_0]) (l0:[x0_0].all leaf=true) (h1:Zap (τ y1)=some [x1_0]) (l1:[x1_0].all leaf=true) (h2:Zap (τ y2)=some [x2_0]) (l2:[x2_0].all leaf=true) (h3:Zap (τ y3)=some [x3_0]) (l3:[x3_0].all leaf=true) (h4:Zap (τ y4)=some [x4_0]) (l4:[x4_0].all leaf=true):Zat τ [(0,1,y0),(1,1,y1),(2,1,y2),(3,1,y3),(4,1,y4)] [(.v (.string ⟨#[]⟩)),(.v (.string ⟨#[]⟩)),(.v (.string ⟨#[]⟩)),(.v (.string ⟨#[]⟩)),(.v (.string ⟨#[]⟩))]=some [x0_0,x1_0,x2_0,x3_0,x4_0]:=by
 simp only [Zat,h0,l0,h1,l1,h2,l2,h3,l3,h4,l4]
 rfl
end
def c53:AC:=(Sr [Ms 4] (Sr [Mv 6 0,Cl 7 92 [(.tmp 6)],Mv 5 7] (.seq (.block 0 (.loop (.seq (Sr [Mv 8 5,Oo 9 (.len true (.tmp 8)),Mv 10 1,Bn 11 .lss 9 10] (Cd 11 .skip (.exit 0))) (.block 1 (.reg [Mv 12 5,Oo 13 (.bin .add (.const (.string ⟨#[48]⟩)) (.tmp 12)),Mv 5 13]))))) (Sr [Mv 14 5,Mv 4 14] .ret))))
theorem k53:ZaH Tryz.prog 53=some ⟨c53,[(.tmp 4)],15⟩:=by kernel_rfl
def c57:AC:=(Sr [Ms 2] (.seq (Sr [Mv 4 0,Bc 5 .lss 4 0] (Cd 5 (Sr [Mv 6 0,Oo 7 (.un .neg (.tmp 6)),Cl 8 57 [(.tmp 7)],Oo 9 (.bin .add (.const (.string ⟨#[45]⟩)) (.tmp 8)),Mv 2 9] .ret) .skip)) (Sr [Mv 10 0,Bc 11 .quo 10 3600,Cl 12 92 [(.tmp 11)],Oo 13 (.bin .add (.tmp 12) (.const (.string ⟨#[58]⟩))),Mv 14 0,Bc 15 .quo 14 60,Bc 16 .rem 15 60,Cl 17 53 [(.tmp 16),(Ci 2)],Bn 18 .add 13 17,Mv 3 18] (.seq (Sr [Mv 19 0,Bc 20 .rem 19 60,Bc 21 .gtr 20 0] (Cd 21 (.reg [Mv 22 3,Mv 23 0,Bc 24 .rem 23 60,Cl 25 53 [(.tmp 24),(Ci 2)],Oo 26 (.bin .add (.const (.string ⟨#[58]⟩)) (.tmp 25)),Bn 27 .add 22 26,Mv 3 27]) .skip)) (Sr [Mv 28 3,Mv 2 28] .ret)))))
theorem k57:ZaH Tryz.prog 57=some ⟨c57,[(.tmp 2)],29⟩:=by kernel_rfl
def c56:AC:=(Sr [Ms 6] (.seq (Sr [Mv 7 1,Mv 8 2,Bn 9 .eql 7 8] (Cd 9 (Sr [Mv 10 0,Cl 11 57 [(.tmp 10)],Mv 6 11] .ret) .skip)) (Sd [Mv 12 0,Cl 13 57 [(.tmp 12)],Oo 14 (.lit 9 1 4 [Ss,Ss,Ss,Ss] [(0,(1,(.const (.string ⟨#[]⟩)))),(1,(1,(.const (.string ⟨#[119]⟩)))),(2,(1,(.const (.string ⟨#[115]⟩)))),(3,(1,(.const (.string ⟨#[117]⟩))))]),Mv 15 1,Oo 16 (.ia 1 (.tmp 14) (.tmp 15)),Ld 17 16,Bn 18 .add 13 17,Mv 6 18] .ret)))
theorem k56:ZaH Tryz.prog 56=some ⟨c56,[(.tmp 6)],19⟩:=by kernel_rfl
def c58:AC:=(Sr [Ms 4] (.seq (Sr [Mv 5 0,Oo 6 (.bin .eql (.tmp 5) (.const (.string ⟨#[]⟩)))] (Cd 6 (Sr [Mv 7 1,Mv 4 7] .ret) .skip)) (Sr [Mv 8 0,Mv 4 8] .ret)))
theorem k58:ZaH Tryz.prog 58=some ⟨c58,[(.tmp 4)],9⟩:=by kernel_rfl
def c55:AC:=(Sr [Oo 1 (.box 46 3 (.tmp 0)),Ms 2] (Sd [Cl 5 93 [],Fa 6 1 1,Ld 7 6,Oo 8 (.ia 1 (.tmp 5) (.tmp 7)),Ld 9 8,Mv 3 9] (Sr [Fa 10 2 1,Ld 11 10,Cl 12 92 [(.tmp 11)],Mv 4 12] (Sr [Mv 13 4,Mv 14 3,Oo 15 (.bin .add (.const (.string ⟨#[108,97,115,116]⟩)) (.tmp 14)),Mv 16 3,Oo 17 (.bin .add (.tmp 16) (.const (.string ⟨#[62,61]⟩))),Mv 18 4,Bn 19 .add 17 18,Mv 20 3,Oo 21 (.bin .add (.tmp 20) (.const (.string ⟨#[60,61]⟩))),Mv 22 4,Bn 23 .add 21 22,Oo 24 (.lit 9 1 5 [Ss,Ss,Ss,Ss,Ss] [(0,(1,(.const (.string ⟨#[]⟩)))),(1,(1,(.tmp 13))),(2,(1,(.tmp 15))),(3,(1,(.tmp 19))),(4,(1,(.tmp 23)))]),Fa 25 0 1,Ld 26 25,Oo 27 (.ia 1 (.tmp 24) (.tmp 26)),Ld 28 27,Mv 2 28] .ret))))
theorem k55:ZaH Tryz.prog 55=some ⟨c55,[(.tmp 2)],29⟩:=by kernel_rfl
def padI (n:Int) (k:Nat):Bs:=List.replicate (k-(Lib.itoa n).length) 48++Lib.itoa n
def spnQ (m:Int):Bs:=Lib.itoa (m/3600)++[58]++padI (m/60%60) 2++(if 0<m%60 then [58]++padI (m%60) 2 else [])
def Zdu (n:Int):Bs:=if n<0 then [45]++spnQ (-n) else spnQ n
def clkS:List ByteArray:=[⟨#[]⟩,⟨#[119]⟩,⟨#[115]⟩,⟨#[117]⟩]
def ZeP (n kind none:Int):ByteArray:=if kind=none then bA (Zdu n) else bA (Zdu n)++clkS.getD kind.toNat ⟨#[]⟩
def orT (s o:ByteArray):ByteArray:=if s=⟨#[]⟩ then o else s
def dayS (k:Int):ByteArray:=dayL.getD k.toNat ⟨#[]⟩
def Zol (d:ByteArray) (n:Int):List ByteArray:=[⟨#[]⟩,bA (Lib.itoa n),⟨#[108,97,115,116]⟩++d,d++⟨#[62,61]⟩++bA (Lib.itoa n),d++⟨#[60,61]⟩++bA (Lib.itoa n)]
def Zjw (k w n:Int):ByteArray:=(Zol (dayS w) n).getD k.toNat ⟨#[]⟩
theorem Zog {n:Int}(h0 : -1000000000≤n) (h1:n≤1000000000):(Lib.itoa n).length≤21:=Lib.itoa_length_le n (by omega) (by omega)
theorem Ze0 {n:Int}{k:Nat}(h0 : -1000000000≤n) (h1:n≤1000000000):(padI n k).length≤k+21:=by
 have:=Zog h0 h1
 unfold padI
 rw [List.length_append,List.length_replicate];omega
theorem ZkS {m:Int}(h0:0≤m) (h1:m≤1000000000):(spnQ m).length≤80:=by
 have h2:=Zog (n:=m/3600) (by omega) (by omega)
 have h3:=Ze0 (n:=m/60%60) (k:=2) (by omega) (by omega)
 have h4:=Ze0 (n:=m%60) (k:=2) (by omega) (by omega)
 unfold spnQ
 split <;> simp only [List.length_append,List.length_cons,List.length_nil] <;> omega
theorem Zfv {n:Int}(h0 : -1000000000≤n) (h1:n≤1000000000):(Zdu n).length≤90:=by
 unfold Zdu
 split
 ·have:=ZkS (m := -n) (by omega) (by omega)
  simp only [List.length_append,List.length_cons,List.length_nil];omega
 have:=ZkS (m:=n) (by omega) (by omega)
 omega
theorem szc {a:UInt8}:(⟨#[a]⟩:ByteArray).size=1:=rfl
theorem ZgN {n:Int}{k:Nat}{h:AH}(h0 : -1000000000≤n) (h1:n≤1000000000) (hk:k≤10):Ac 53 [iv n,iv (k:Int)] h (sv (bA (padI n k))):=by
 have hL:=Zog h0 h1
 refine tI' k53 fun N hn hlt hlA hbd=>?_
 simp only [tb'] at hbd ⊢
 refine wr'<|mv' lks pt<|sn'<|wr'<|mv' lk pt<|?_
 refine Zae mp (ZpW (by omega) (by omega)) pt ?_
 refine mv' lk pt<|sn'<|Zam<|Zao<|?_
 refine w_lp (ι:=Nat) (fun (j:Nat)=>[(5,sv (bA (List.replicate j 48++Lib.itoa n)))]++rn' 8 6) (fun (j:Nat)=>[]) (fun (j:Nat)=>j≤k-(Lib.itoa n).length) (fun (j:Nat)=>k-(Lib.itoa n).length-j) (0) (by exact Nat.zero_le _) ?_
 rintro j hi1
 try simp only [sm',Nat.reduceAdd]
 have hs:(bA (List.replicate j 48++Lib.itoa n)).size=j+(Lib.itoa n).length:=by rw [ZaQ,List.length_append,List.length_replicate]
 refine Zam<|wr'<|mv' lk pt<|V' (Zbi lk) pt<|mv' lk pt<|V' (Zbu lk lk) pt<|sn'<|?_
 refine cd' lk (fun hc1=>?_) (fun hc1=>?_)
 ·rw [hs] at hc1
  refine Zaf<|Zai<|Zao<|Zar<|mv' lk pt<|?_
  refine V' (Zc8 lks lk (by rw [hs,szc];omega)) pt ?_
  refine mv' lk pt<|Zas<|ZaF<|ZaI<|?_
  refine lU' (j+1) (by (try dsimp only);omega) (by (try dsimp only);(try simp only [sm',Nat.reduceAdd]);exact ALe.same (by repeat (first | exact wk0 | refine wka ?_ | refine wk1 rfl ?_ | refine wk1 (by first | rfl | exact ivx (by omega) | exact congrArg sv (by rw [List.replicate_succ];exact (Zdd [48] (List.replicate j 48++Lib.itoa n)).symm)) ?_)) rfl)
 rw [hs] at hc1
 obtain rfl:j=k-(Lib.itoa n).length:=by omega
 exact Za0<|ZaO<|ZaO<|Zbp<|Zai<|wr'<|mv' lk pt<|mv' lk pt<|sn'<|Zab<|Zag rz<|rT' rfl
theorem Zsd {m:Int}{h:AH}(h0:0≤m) (h1:m≤1000000000):Ac 57 [iv m] h (sv (bA (spnQ m))):=by
 have hL:=Zog (n:=m/3600) (by omega) (by omega)
 have hL2:=Ze0 (n:=m/60%60) (k:=2) (by omega) (by omega)
 have hL3:=Ze0 (n:=m%60) (k:=2) (by omega) (by omega)
 refine tI' k57 fun N hn hlt hlA hbd=>?_
 simp only [tb'] at hbd ⊢
 refine wr'<|mv' lks pt<|sn'<|Zam<|wr'<|mv' lk pt<|V' (Zbu lk lki) pt<|sn'<|?_
 refine ZcD lk (by exact decide_eq_false (by omega)) ?_
 refine Zaf<|Zai<|wr'<|mv' lk pt<|?_
 refine V' (Zf7 lk lki (by omega) (by omega) (by omega)) pt ?_
 refine Zae mp (ZpW (by omega) (by omega)) pt ?_
 refine V' (Zc8 lk lks (by rw [ZaQ,szc];omega)) pt ?_
 refine mv' lk pt ?_
 refine V' (Zf7 lk lki (by omega) (by omega) (by omega)) pt ?_
 refine V' (Zfr lk lki (by omega) (by omega)) pt ?_
 refine Zae mp (ZgN (k:=2) (by omega) (by omega) (by omega)) pt ?_
 refine V' (Zc8 lk lk (by rw [ByteArray.size_append,ZaQ,szc,ZaQ];omega)) pt ?_
 refine mv' lk pt<|sn'<|Zam<|wr'<|mv' lk pt<|?_
 refine V' (Zfr lk lki (by omega) (by omega)) pt ?_
 refine V' (ZbN lk lki) pt<|sn'<|?_
 refine cd' lk (fun hc2=>?_) (fun hc2=>?_)
 ·refine Zar<|mv' lk pt<|mv' lk pt<|?_
  refine V' (Zfr lk lki (by omega) (by omega)) pt ?_
  refine Zae mp (ZgN (k:=2) (by omega) (by omega) (by omega)) pt ?_
  refine V' (Zc8 lks lk (by rw [ZaQ,szc];omega)) pt ?_
  refine V' (Zc8 lk lk (by simp only [ByteArray.size_append,ZaQ,szc];omega)) pt ?_
  refine mv' lk pt<|sn'<|wr'<|mv' lk pt<|mv' lk pt<|sn'<|Zab<|Zag rz<|rT'<|?_
  exact congrArg sv (by unfold spnQ;rw [if_pos hc2];simp only [←Zdd];rfl)
 refine Zaf<|Zai<|wr'<|mv' lk pt<|mv' lk pt<|sn'<|Zab<|Zag rz<|rT'<|?_
 exact congrArg sv (by unfold spnQ;rw [if_neg hc2,List.append_nil];simp only [←Zdd];rfl)
theorem spanM_a {n:Int}{h:AH}(h0 : -1000000000≤n) (h1:n<0):Ac 57 [iv n] h (sv (bA ([45]++spnQ (-n)))):=by
 have hL:=ZkS (m := -n) (by omega) (by omega)
 refine tI' k57 fun N hn hlt hlA hbd=>?_
 simp only [tb'] at hbd ⊢
 refine wr'<|mv' lks pt<|sn'<|Zam<|wr'<|mv' lk pt<|V' (Zbu lk lki) pt<|sn'<|?_
 refine ZcW lk (by exact decide_eq_true h1) ?_
 refine wr'<|mv' lk pt<|?_
 refine V' (v_neg lk (by omega) (by omega)) pt ?_
 refine Zae mp (Zsd (by omega) (by omega)) pt ?_
 refine V' (Zc8 lks lk (by rw [ZaQ,szc];omega)) pt ?_
 refine mv' lk pt<|sn'<|Zab<|Zak<|Zag rz<|rT'<|?_
 exact congrArg sv (Zdd [45] _)
theorem Zmi {n:Int}{h:AH}(h0 : -1000000000≤n) (h1:n≤1000000000):Ac 57 [iv n] h (sv (bA (Zdu n))):=by
 by_cases hn:n<0
 ·rw [show Zdu n=[45]++spnQ (-n) from if_pos hn];exact spanM_a h0 hn
 rw [show Zdu n=spnQ n from if_neg hn];exact Zsd (by omega) h1
theorem or_a {s o:ByteArray}{h:AH}:Ac 58 [sv s,sv o] h (sv (orT s o)):=by
 refine tI' k58 fun N hn hlt hlA hbd=>?_
 simp only [tb'] at hbd ⊢
 refine wr'<|mv' lks pt<|sn'<|Zam<|wr'<|mv' lk pt<|V' (Zcj lk lks) pt<|sn'<|?_
 refine cd' lk (fun hc1=>?_) (fun hc1=>?_)
 ·refine wr'<|mv' lk pt<|mv' lk pt<|sn'<|Zab<|Zak<|Zag rz<|rT'<|?_
  exact congrArg sv (if_pos hc1).symm
 refine Zaf<|Zai<|wr'<|mv' lk pt<|mv' lk pt<|sn'<|Zab<|Zag rz<|rT'<|?_
 exact congrArg sv (if_neg hc1).symm
theorem clk_at : ∀ {k:Nat}(h:k<clkS.length),clkS[k].size≤1:=by decide
theorem Znd {n kind none:Int}{h:AH}(h0 : -1000000000≤n) (h1:n≤1000000000) (hk0:0≤kind) (hk1:kind≤3):Ac 56 [iv n,iv kind,iv none] h (sv (ZeP n kind none)):=by
 have hL:=Zfv h0 h1
 have hkl:kind.toNat<clkS.length:=by have:clkS.length=4:=rfl;omega
 have hcs:=clk_at hkl
 refine tI' k56 fun N hn hlt hlA hbd=>?_
 simp only [tb'] at hbd ⊢
 refine wr'<|mv' lks pt<|sn'<|Zam<|wr'<|mv' lk pt<|mv' lk pt<|V' (ZaX lk lk) pt<|sn'<|?_
 refine cd' lk (fun hc1=>?_) (fun hc1=>?_)
 ·refine wr'<|mv' lk pt<|Zae mp (Zmi h0 h1) pt<|mv' lk pt<|sn'<|Zab<|Zak<|Zag rz<|rT'<|?_
  exact congrArg sv (if_pos hc1).symm
 refine Zaf<|Zai<|Zam<|ZbJ<|D' (v_mv lk) pt<|?_
 refine Za9 mp (fun hE hX=>Zmi h0 h1) pt ?_
 refine d_effI rfl rfl (hlk hn rfl) (l_litI (Zjq (cvl lks rfl) rfl (cvl lks rfl) rfl (cvl lks rfl) rfl (cvl lks rfl) rfl) rfl) pt Zt6<|D' (v_mv lk) pt<|?_
 refine D' (Zbg (k:=kind.toNat) (l:=clkS) (f:=strC) lk lk Za2 (nb' rfl) (by first | rfl | first | exact hkl | omega) (by first | exact hkl | omega) ro rfl) pt ?_
 refine D' (ZaZ lk gt) pt ?_
 refine D' (Zc8 lk lk (by rw [ZaQ];omega)) pt ?_
 refine D' (v_mv lk) pt<|Zbt<|?_
 refine ZqT ZrH ?_
 refine sn'<|Zab<|Zag rz<|rT'<|?_
 refine congrArg sv ?_;unfold ZeP;rw [if_neg hc1,List.getD_eq_getElem?_getD,List.getElem?_eq_getElem hkl];rfl
theorem Zqc {k:Int}:(dayS k).size≤3:=by
 unfold dayS
 have:k.toNat=0∨k.toNat=1∨k.toNat=2∨k.toNat=3∨k.toNat=4∨k.toNat=5∨k.toNat=6∨dayL.length≤k.toNat:=by have:dayL.length=7:=rfl;omega
 rcases this with h | h | h | h | h | h | h | h
 all_goals first | (rw [h];decide) | (rw [List.getD_eq_getElem?_getD,List.getElem?_eq_none h];decide)
theorem form_a' {k w n:Int}{h:AH}(hk0:0≤k) (hk1:k≤4) (hw0:0≤w) (hw1:w≤6) (h0 : -1000000000≤n) (h1:n≤1000000000):Ac 55 [.agg [iv k,iv w,iv n]] h (sv (Zjw k w n)):=by
 have hL:=Zog h0 h1
 have hwl:w.toNat<dayL.length:=by have:dayL.length=7:=rfl;omega
 have hkl:k.toNat<(Zol (dayS w) n).length:=by have:(Zol (dayS w) n).length=5:=rfl;omega
 have hd:dayL[w.toNat]=dayS w:=by unfold dayS;rw [List.getD_eq_getElem?_getD,List.getElem?_eq_getElem hwl];rfl
 have hds:=Zqc (k:=w)
 refine tI' k55 fun N hn hlt hlA hbd=>?_
 simp only [tb'] at hbd ⊢
 refine wr'<|E' (Zcm (cvl lk rfl) rfl (hl0 hn) ha0) pt<|mv' lks pt<|sn'<|Zam<|ZbJ<|?_
 refine Za9 mp0 (fun hE hX=>ZfK) pt ?_
 refine D' (Zaa lk) pt<|D' (Zac lk (hga hn rfl) gt1) pt<|?_
 refine D' (Zbg (k:=w.toNat) lk lk Za2 (nb' rfl) (by first | rfl | first | exact hwl | omega) (by first | exact hwl | omega) ro rfl) pt ?_
 refine D' (ZaZ lk gt) pt<|D' (v_mv lk) pt<|?_
 rw [hd]
 refine Zbt ?_
 refine Zb4 ?_
 refine sn'<|wr'<|V' (Zaa lk) pt<|V' (Zac lk (hga hn rfl) gt2) pt<|?_
 refine Zae mp (ZpW (by omega) (by omega)) pt ?_
 refine mv' lk pt<|sn'<|wr'<|mv' lk pt<|mv' lk pt<|?_
 refine V' (Zc8 lks lk (by rw [show (⟨#[108,97,115,116]⟩:ByteArray).size=4 from rfl];omega)) pt ?_
 refine mv' lk pt ?_
 refine V' (Zc8 lk lks (by rw [show (⟨#[62,61]⟩:ByteArray).size=2 from rfl];omega)) pt ?_
 refine mv' lk pt ?_
 refine V' (Zc8 lk lk (by rw [ByteArray.size_append,show (⟨#[62,61]⟩:ByteArray).size=2 from rfl,ZaQ];omega)) pt ?_
 refine mv' lk pt ?_
 refine V' (Zc8 lk lks (by rw [show (⟨#[60,61]⟩:ByteArray).size=2 from rfl];omega)) pt ?_
 refine mv' lk pt ?_
 refine V' (Zc8 lk lk (by rw [ByteArray.size_append,show (⟨#[60,61]⟩:ByteArray).size=2 from rfl,ZaQ];omega)) pt ?_
 refine E' (Zeh (ZnA (cvl lks rfl) rfl (cvl lk rfl) rfl (cvl lk rfl) rfl (cvl lk rfl) rfl (cvl lk rfl) rfl) (hl1 hn) ha1) pt<|V' (Zaa lk) pt<|V' (Zac lk (hga hn rfl) gt0) pt<|?_
 refine V' (ZrX (f:=strC) (k:=k.toNat) (l:=Zol (dayS w) n) lk lk (hga hn rfl) Za2 (nb' rfl) (by omega) hkl rfl) pt ?_
 refine V' (ZrW lk (hga hn rfl) Za2 hkl rfl) pt<|mv' lk pt<|sn'<|Zab<|Zag rz<|rT'<|?_
 refine congrArg sv ?_;unfold Zjw;rw [List.getD_eq_getElem?_getD,List.getElem?_eq_getElem hkl];rfl
end Go.Proofs.YtgjchdhdopgkkaaGreatDoor
end
section
namespace Go.Proofs.YtgjchdhdopgkkaaGreatDoor
open Go.Ab Go.RowKit Civ
attribute [local simp] Zbd Zdi Zbj
section
theorem Zo4 {τ:Operand→AV}{y0 y1:Operand}{x0_0 x1_0:AV}(h0:Zap (τ y0)=some [x0_0]) (l0:[x0_0].all leaf=true) (h1:Zap (τ y1)=some [x1_0]) (l1:[x1_0].all leaf=true):Zat τ [(1,1,y0),(2,1,y1)] [(.v (.int .i64 0)),(.v (.bool false)),(.sl 0 0 true [])]=some [(.v (.int .i64 0)),x0_0,x1_0]:=by
 simp only [Zat,h0,l0,h1,l1]
 rfl
theorem Zo3 {τ:Operand→AV}{y0:Operand}{x0_0 x0_1 x0_2:AV}(h0:Zap (τ y0)=some [x0_0,x0_1,x0_2]) (l0:[x0_0,x0_1,x0_2].all leaf=true):Zat τ [(0,3,y0)] [(.v (.int .i64 0)),(.v (.bool false)),(.sl 0 0 true [])]=some [x0_0,x0_1,x0_2]:=by
 simp only [Zat,h0,l0]
 rfl
theorem Zt5 {a0 a1 a2:AV}{l:List AV}:(a0::a1::a2::l).take 3=[a0,a1,a2]:=rfl
theorem ZrF {a0 c0:AV}{l:List AV}:setCells (a0::l) 0 [c0]=c0::l:=rfl
theorem ZrD {a0 a1 a2 a3 a4 a5 a6:AV}{l:List AV}:((a0::a1::a2::a3::a4::a5::a6::l).drop 4).take 3=[a4,a5,a6]:=rfl
theorem Znz {τ:Operand→AV}{y0 y1 y2 y3 y4 y5 y6 y7 y8:Operand}{x0_0 x1_0 x2_0 x3_0 x4_0 x5_0 x6_0 x7_0 x8_0:AV}(h0:Zap (τ y0)=some [x0_0]) (l0:[x0_0].all leaf=true) (h1:Zap (τ y1)=some [x1_0]) (l1:[x1_0].all leaf=true) (h2:Zap (τ y2)=some [x2_0]) (l2:[x2_0].all leaf=true) (h3:Zap (τ y3)=some [x3_0]) (l3:[x3_0].all leaf=true) (h4:Zap (τ y4)=some [x4_0]) (l4:[x4_0].all leaf=true) (h5:Zap (τ y5)=some [x5_0]) (l5:[x5_0].all leaf=true) (h6:Zap (τ y6)=some [x6_0]) (l6:[x6_0].all leaf=true) (h7:Zap (τ y7)=some [x7_0]) (l7:[x7_0].all leaf=true) (h8:Zap (τ y8)=some [x8_0]) (l8:[x8_0].all leaf=true):Zat τ [(0,1,y0),(1,1,y1),(2,1,y2),(3,1,y3),(4,1,y4),(5,1,y5),(6,1,y6),(7,1,y7),(8,1,y8)] [(.v (.string ⟨#[]⟩)),(.v (.string ⟨#[]⟩)),(.v (.string ⟨#[]⟩)),(.v (.string ⟨#[]⟩)),(.v (.string ⟨#[]⟩)),(.v (.string ⟨#[]⟩)),(.v (.string ⟨#[]⟩)),(.v (.string ⟨#[]⟩)),(.v (.string ⟨#[]⟩))]=some [x0_0,x1_0,x2_0,x3_0,x4_0,x5_0,x6_0,x7_0,x8_0]:=by
 simp only [Zat,h0,l0,h1,l1,h2,l2,h3,l3,h4,l4,h5,l5,h6,l6,h7,l7,h8,l8]
 rfl
theorem Zjp { e:Ent}:([]:AH)++[e]=[e]:=rfl
theorem ZkG {e0 d0:Ent}:([e0]:AH)++[d0]=[e0,d0]:=rfl
theorem Zo6 {τ:Operand→AV}{y0 y1 y2:Operand}{x0_0 x1_0 x2_0:AV}(h0:Zap (τ y0)=some [x0_0]) (l0:[x0_0].all leaf=true) (h1:Zap (τ y1)=some [x1_0]) (l1:[x1_0].all leaf=true) (h2:Zap (τ y2)=some [x2_0]) (l2:[x2_0].all leaf=true):Zat τ [(0,1,y0),(1,1,y1),(2,1,y2)] [(.v (.string ⟨#[]⟩)),(.v (.string ⟨#[]⟩)),(.v (.string ⟨#[]⟩))]=some [x0_0,x1_0,x2_0]:=by
 simp only [Zat,h0,l0,h1,l1,h2,l2]
 rfl
theorem ZrC {a0 a1 a2 a3 a4 a5 a6 a7 a8 a9:AV}{l:List AV}:((a0::a1::a2::a3::a4::a5::a6::a7::a8::a9::l).drop 5).take 5=[a5,a6,a7,a8,a9]:=rfl
theorem ZrE {a0 a1 a2 a3 a4 c0 c1 c2 c3 c4:AV}{l:List AV}:setCells (a0::a1::a2::a3::a4::l) 0 [c0,c1,c2,c3,c4]=c0::c1::c2::c3::c4::l:=rfl
theorem Zo5 {τ:Operand→AV}{y0 y1 y2 y3:Operand}{x0_0 x1_0 x2_0 x3_0:AV}(h0:Zap (τ y0)=some [x0_0]) (l0:[x0_0].all leaf=true) (h1:Zap (τ y1)=some [x1_0]) (l1:[x1_0].all leaf=true) (h2:Zap (τ y2)=some [x2_0]) (l2:[x2_0].all leaf=true) (h3:Zap (τ y3)=some [x3_0]) (l3:[x3_0].all leaf=true):Zat τ [(0,1,y0),(1,1,y1),(2,1,y2),(3,1,y3)] [(.v (.string ⟨#[]⟩)),(.v (.string ⟨#[]⟩)),(.v (.string ⟨#[]⟩)),(.v (.string ⟨#[]⟩))]=some [x0_0,x1_0,x2_0,x3_0]:=by
 simp only [Zat,h0,l0,h1,l1,h2,l2,h3,l3]
 rfl
theorem ZrG {e0 e1 e2 d0:Ent}:([e0,e1,e2]:AH)++[d0]=[e0,e1,e2,d0]:=rfl
theorem Zt4 {a0 a1 a2 a3:AV}{l:List AV}:(a0::a1::a2::a3::l).take 4=[a0,a1,a2,a3]:=rfl
theorem ZrB {a0 a1 a2 a3 a4 a5 a6 a7 a8 a9:AV}{l:List AV}:(a0::a1::a2::a3::a4::a5::a6::a7::a8::a9::l).take 10=[a0,a1,a2,a3,a4,a5,a6,a7,a8,a9]:=rfl
theorem Zo2 {a0 a1 a2 a3 a4 a5 a6 a7 a8 a9 c0 c1 c2 c3 c4 c5 c6 c7 c8 c9:AV}{l:List AV}:setCells (a0::a1::a2::a3::a4::a5::a6::a7::a8::a9::l) 0 [c0,c1,c2,c3,c4,c5,c6,c7,c8,c9]=c0::c1::c2::c3::c4::c5::c6::c7::c8::c9::l:=rfl
theorem Zo1 {a0 a1 a2 a3 a4 a5 a6 a7 a8 a9:AV}{l:List AV}:((a0::a1::a2::a3::a4::a5::a6::a7::a8::a9::l).drop 0).take 10=[a0,a1,a2,a3,a4,a5,a6,a7,a8,a9]:=rfl
theorem Zny {τ:Operand→AV}{y0 y1:Operand}{x0_0 x1_0:AV}(h0:Zap (τ y0)=some [x0_0]) (l0:[x0_0].all leaf=true) (h1:Zap (τ y1)=some [x1_0]) (l1:[x1_0].all leaf=true):Zat τ [(0,1,y0),(1,1,y1)] [(.v (.string ⟨#[]⟩)),(.v (.string ⟨#[]⟩))]=some [x0_0,x1_0]:=by
 simp only [Zat,h0,l0,h1,l1]
 rfl
end
def c22:AC:=(.reg [Mv 6 0,Mv 7 0,Nk 8 7,Fa 9 0 8,Ld 10 9,Mv 11 1,Mv 12 2,Oo 13 (.build [(iv 0),(.v (.bool false)),(.sl 0 0 true [])] [(1,(1,(.tmp 11))),(2,(1,(.tmp 12)))]),Oo 14 (.lit 67 3 1 [(iv 0),(.v (.bool false)),(.sl 0 0 true [])] [(0,(3,(.tmp 13)))]),Oo 15 (.app 67 3 40 (.tmp 10) (.tmp 14)),Nk 16 6,Fa 17 0 16,Sc 17 15])
theorem k22:ZaH Tryz.prog 22=some ⟨c22,[],18⟩:=by kernel_rfl
def c20:AC:=(Sr [Oo 3 (.box 48 11 (.tmp 1))] (Sr [Fa 5 2 3,Ld 6 5,Cl 7 53 [(.tmp 6),(Ci 4)],Mv 4 7] (.seq (Sr [Fa 8 2 3,Ld 9 8] (.block 0 (Sr [Fa 11 1 3,Ld 12 11,Bn 13 .eql 9 12,Mv 10 13] (Cd 10 (.reg [Oo 4 (.mv (.const (.string ⟨#[111,110,108,121]⟩)))]) (Sr [Bc 15 .eql 9 2100,Mv 14 15] (Cd 14 (.reg [Oo 4 (.mv (.const (.string ⟨#[109,97,120]⟩)))]) .skip)))))) (.drw [Mv 16 0,Fa 17 0 3,Ld 18 17,Fa 19 1 3,Ld 20 19,Cl 21 53 [(.tmp 20),(Ci 4)],Mv 22 4,Cl 23 54 [],Fa 24 3 3,Ld 25 24,Oo 26 (.ia 1 (.tmp 23) (.tmp 25)),Ld 27 26,Fa 28 4 3,Oo 29 (.load true 3 (.tmp 28)),Cl 30 55 [(.tmp 29)],Fa 31 7 3,Ld 32 31,Fa 33 8 3,Ld 34 33,Cl 35 56 [(.tmp 32),(.tmp 34),(Ci 1)],Fa 36 9 3,Ld 37 36,Cl 38 57 [(.tmp 37)],Fa 39 10 3,Ld 40 39,Oo 41 (.call (.func 58) [(.tmp 40),(.const (.string ⟨#[45]⟩))]),Oo 42 (.lit 9 1 9 [Ss,Ss,Ss,Ss,Ss,Ss,Ss,Ss,Ss] [(0,(1,(.const (.string ⟨#[82,117,108,101]⟩)))),(1,(1,(.tmp 18))),(2,(1,(.tmp 21))),(3,(1,(.tmp 22))),(4,(1,(.tmp 27))),(5,(1,(.tmp 30))),(6,(1,(.tmp 35))),(7,(1,(.tmp 38))),(8,(1,(.tmp 41)))])] [false] [Cl 43 22 [(.tmp 16),(.const (.bool false)),(.tmp 42)]]))))
theorem k20:ZaH Tryz.prog 20=some ⟨c20,[],44⟩:=by kernel_rfl
def c59:AC:=(Sr [Oo 1 (.box 64 10 (.tmp 0)),Oo 2 (.mv (.const (.slice none 0 0)))] (Sr [Fa 6 1 1,Ld 7 6,Oo 8 (.call (.func 58) [(.tmp 7),(.const (.string ⟨#[45]⟩))]),Mv 3 8] (.seq (Sr [Fa 9 2 1,Ld 10 9,Bc 11 .gtr 10 0] (Cd 11 (.reg [Fa 12 2 1,Ld 13 12,Cl 14 57 [(.tmp 13)],Mv 3 14]) .skip)) (Sd [Fa 15 0 1,Ld 16 15,Cl 17 57 [(.tmp 16)],Mv 18 3,Fa 19 3 1,Ld 20 19,Oo 21 (.lit 9 1 3 [Ss,Ss,Ss] [(0,(1,(.tmp 17))),(1,(1,(.tmp 18))),(2,(1,(.tmp 20)))]),Mv 4 21] (.seq (Sr [Fa 22 4 1,Ld 23 22,Oo 24 (.un .not (.tmp 23))] (Cd 24 (Sr [Fa 25 5 1,Oo 26 (.load true 5 (.tmp 25)),Oo 5 (.new 62 5 [(iv 0),(iv 0),(iv 0),(iv 0),(iv 0)]),⟨none,none,(.store 5 (.tmp 5) (.tmp 26))⟩] (.drw [Mv 27 4,Fa 28 0 5,Fa 29 0 28,Ld 30 29,Cl 31 53 [(.tmp 30),(Ci 4)],Cl 32 54 [],Fa 33 0 5,Fa 34 1 33,Ld 35 34,Oo 36 (.ia 1 (.tmp 32) (.tmp 35)),Ld 37 36,Fa 38 0 5,Fa 39 2 38,Ld 40 39,Cl 41 92 [(.tmp 40)],Fa 42 3 5,Ld 43 42,Fa 44 4 5,Ld 45 44,Cl 46 56 [(.tmp 43),(.tmp 45),(Ci 2)],Oo 47 (.lit 9 1 4 [Ss,Ss,Ss,Ss] [(0,(1,(.tmp 31))),(1,(1,(.tmp 37))),(2,(1,(.tmp 41))),(3,(1,(.tmp 46)))])] [false,false] [Oo 48 (.app 9 1 16 (.tmp 27) (.tmp 47)),Mv 4 48])) .skip)) (Sr [Mv 49 4,Mv 2 49] .ret))))))
theorem k59:ZaH Tryz.prog 59=some ⟨c59,[(.tmp 2)],50⟩:=by kernel_rfl
def c21:AC:=(Sr [Oo 3 (.box 52 2 (.tmp 1))] (Sr [Fa 7 1 3,Ld 8 7,Oo 9 (.len false (.tmp 8)),Mc 10 0] (.block 0 (.loop (Sr [Bn 11 .lss 10 9] (.seq (Cd 11 .skip (.exit 0)) (.seq (.block 1 (Sr [Mv 12 10,Oo 13 (.ia 10 (.tmp 8) (.tmp 10)),Oo 14 (.load true 10 (.tmp 13)),Oo 5 (.new 64 10 [(iv 0),Ss,(iv 0),Ss,(.v (.bool false)),(iv 0),(iv 0),(iv 0),(iv 0),(iv 0)]),Mv 4 12,⟨none,none,(.store 10 (.tmp 5) (.tmp 14))⟩] (Sr [Oo 15 (.load true 10 (.tmp 5)),Cl 16 59 [(.tmp 15)],Mv 6 16] (.seq (Sr [Mv 17 4,Bc 18 .eql 17 0] (Cd 18 (.reg [Fa 19 0 3,Ld 20 19,Oo 21 (.lit 9 1 2 [Ss,Ss] [(0,(1,(.const (.string ⟨#[90,111,110,101]⟩)))),(1,(1,(.tmp 20)))]),Mv 22 6,Oo 23 (.app 9 1 16 (.tmp 21) (.tmp 22)),Mv 6 23]) .skip)) (.reg [Mv 24 0,Mv 25 4,Bc 26 .gtr 25 0,Mv 27 6,Cl 28 22 [(.tmp 24),(.tmp 26),(.tmp 27)]]))))) (.reg [Bc 29 .add 10 1,Mv 10 29]))))))))
theorem k21:ZaH Tryz.prog 21=some ⟨c21,[],30⟩:=by kernel_rfl
abbrev shP (B:Nat) (L:List Ln):Ent:=.mk 0 44 1 [.own B L.length L.length]
abbrev shL (L:List Ln):Ent:=.mk L.length 67 3 (rows lnC L)
theorem ZjT {B n:Nat}{L:List Ln}(h:B<n):(shP B L).lt n=true:=by simp [Ent.lt,AV.lt,AV.ltL,h]
theorem Zir {n:Nat}{L:List Ln}:(shL L).lt n=true:=by simp [Ent.lt,Zdi]
def toT (f t:Int):ByteArray:=if t=f then ⟨#[111,110,108,121]⟩ else if t=2100 then ⟨#[109,97,120]⟩ else bA (padI t 4)
def monS (k:Int):ByteArray:=((⟨#[]⟩:ByteArray)::monL).getD k.toNat ⟨#[]⟩
def Zmy (nm lt:ByteArray) (f t m k w n a c s:Int):List ByteArray:=[⟨#[82,117,108,101]⟩,nm,bA (padI f 4),toT f t,monS m,Zjw k w n,ZeP a c 1,bA (Zdu s),orT lt ⟨#[45]⟩]
theorem ZsS {m:Int}(h1:m.toNat<((⟨#[]⟩:ByteArray)::monL).length):((⟨#[]⟩:ByteArray)::monL)[m.toNat]=monS m:=by
 unfold monS;rw [List.getD_eq_getElem?_getD,List.getElem?_eq_getElem h1];rfl
theorem Zh2 {A B:Nat}{b:Bool}{fs:List ByteArray}{L:List Ln}{h:AH}(h1:h[A]?=some (shP B L)) (h2:h[B]?=some (shL L)) (hne:A≠B) (hl:L.length≤1000) :
  ACalls Tryz.prog 22 [.ptr A 0 0,bv b,.sl fs.length 1 false (rows strC fs)] h fun x h'=>x=.ret (.tup [])∧h'=(h.set A (shP B (L++[(0,b,fs)]))).set B (shL (L++[(0,b,fs)])):=by
 have hid:A<h.length:=(List.getElem?_eq_some_iff.1 h1).1
 have hib:B<h.length:=(List.getElem?_eq_some_iff.1 h2).1
 have hB:=hib
 have hlen:(L++[((0:Int),b,fs)]).length=L.length+1:=by simp
 refine tJ' k22 fun N hn hlt hlA hbd=>?_
 simp only [tb'] at hbd ⊢
 rw [hn] at hB
 refine ZbG (h1:=(h.set A (shP B L)).set B (shL L)++[]) (by rw [ZgR h1 h2]) ?_
 refine Zar<|mv' lk pt<|mv' lk pt<|V' (ZaD lk) pt<|V' (Zaa lk) pt<|V' (Zac lk (ZeC hne hid) gt0) pt<|mv' lk pt<|mv' lk pt<|V' (ZaB (Zo4 (cvl lk rfl) rfl (cvl lk rfl) rfl)) pt<|E' (Zeh (Zo3 (cvl lk rfl) rfl) (hl0 (Za7 hn)) ha0) pt<|?_
 refine E' (Zej (Zc9 lk (hga (Za7 hn) rfl) rfl Zt5 (nb' rfl)) lk (Ze5 hib) (Zga _) (by omega) rfl (ZdZ hib)) pt ?_
 refine V' (ZaD lk) pt<|V' (Zaa lk) pt<|E' (Zal lk (cvl lk rfl) (ZeC hne hid) rfl (nb' rfl) rfl ZrF (Zep hne hid)) ptn<|Zas<|Zf6 (rs0)<|?_
 refine ⟨_,_,rfl,Za7 hn,ZdQ hlt (by simp [Ent.lt,AV.lt,AV.ltL,hB]) (by simp [Ent.lt,AV.lt,AV.ltL,Zdi,Zbd,Zlg]),rfl,rfl,?_⟩
 unfold shP shL
 rw [hlen,Zbo,Zbv]
theorem shrule_a {A B:Nat}{nm lt:ByteArray}{f t m k w n a c s:Int}{L:List Ln}{h:AH}(h1:h[A]?=some (shP B L)) (h2:h[B]?=some (shL L)) (hne:A≠B) (hl:L.length≤1000)
  (hf:0≤f∧f≤9999) (ht:0≤t∧t≤9999) (hm:1≤m∧m≤12) (hk:0≤k∧k≤4) (hw:0≤w∧w≤6) (hn':0≤n∧n≤1000) (ha:0≤a∧a≤1000000) (hc:0≤c∧c≤3) (hs:0≤s∧s≤1000000) :
  ACalls Tryz.prog 20 [.ptr A 0 0,.agg [sv nm,iv f,iv t,iv m,iv k,iv w,iv n,iv a,iv c,iv s,sv lt]] h fun x h'=>x=.ret (.tup [])∧h'=(h.set A (shP B (L++[(0,false,Zmy nm lt f t m k w n a c s)]))).set B (shL (L++[(0,false,Zmy nm lt f t m k w n a c s)])):=by
 have hid:A<h.length:=(List.getElem?_eq_some_iff.1 h1).1
 have hib:B<h.length:=(List.getElem?_eq_some_iff.1 h2).1
 have hB:=hib
 have hml:m.toNat<((⟨#[]⟩:ByteArray)::monL).length:=by have:((⟨#[]⟩:ByteArray)::monL).length=13:=rfl;omega
 refine tJ' k20 fun N hn hlt hlA hbd=>?_
 simp only [tb'] at hbd ⊢
 rw [hn] at hB
 refine ZbG (h1:=(h.set A (shP B L)).set B (shL L)++[]) (by rw [ZgR h1 h2]) ?_
 refine wr'<|E' (Zcm (cvl lk rfl) rfl (hl0 (Za7 hn)) ha0) pt<|sn'<|wr'<|V' (Zaa lk) pt<|V' (Zac lk (hga (Za7 hn) rfl) gt2) pt<|?_
 refine Zae mp (ZgN (k:=4) (by omega) (by omega) (by omega)) pt ?_
 refine mv' lk pt<|sn'<|?_
 refine Zfq (ι:=Unit) (fun (u_:Unit)=>[(4,sv (toT f t))]++rn' 8 8) (fun (u_:Unit)=>[]) (fun (u_:Unit)=>True) ?_ ?_
 ·try simp only [sm',Nat.reduceAdd]
  refine wr'<|V' (Zaa lk) pt<|V' (Zac lk (hga (Za7 hn) rfl) gt2) pt<|sn'<|Zao<|wr'<|V' (Zaa lk) pt<|V' (Zac lk (hga (Za7 hn) rfl) gt1) pt<|V' (ZaX lk lk) pt<|mv' lk pt<|Zas<|?_
  refine Zai ?_
  refine cd' lk (fun hc1=>?_) (fun hc1=>?_)
  ·refine Zar<|mv' lks pt<|Zas<|ZaF<|ZaI<|?_
   have hT:toT f t=⟨#[111,110,108,121]⟩:=if_pos hc1
   exact cT' (()) (by trivial) (by (try dsimp only);(try simp only [sm',Nat.reduceAdd]);exact ALe.same (by repeat (first | exact wk0 | refine wka ?_ | refine wk1 rfl ?_ | refine wk1 (by first | rfl | exact congrArg sv hT) ?_)) rfl)
  refine wr'<|V' (ZaX lk lki) pt<|mv' lk pt<|sn'<|?_
  refine cd' lk (fun hc2=>?_) (fun hc2=>?_)
  ·refine Zar<|mv' lks pt<|Zas<|ZaF<|ZaI<|?_
   have hT:toT f t=⟨#[109,97,120]⟩:=by unfold toT;rw [if_neg hc1,if_pos hc2]
   exact cT' (()) (by trivial) (by (try dsimp only);(try simp only [sm',Nat.reduceAdd]);exact ALe.same (by repeat (first | exact wk0 | refine wka ?_ | refine wk1 rfl ?_ | refine wk1 (by first | rfl | exact congrArg sv hT) ?_)) rfl)
  refine Zaf<|ZaF<|ZaI<|?_
  have hT:toT f t=bA (padI t 4):=by unfold toT;rw [if_neg hc1,if_neg hc2]
  exact cT' (()) (by trivial) (by (try dsimp only);(try simp only [sm',Nat.reduceAdd]);exact ALe.same (by repeat (first | exact wk0 | refine wka ?_ | refine wk1 rfl ?_ | refine wk1 (by first | rfl | exact congrArg sv hT) ?_)) rfl)
 rintro u_ hq6
 try simp only [sm',Nat.reduceAdd]
 refine Zl8 []<|D' (v_mv lk) pt<|D' (Zaa lk) pt<|D' (Zac lk (hga (Za7 hn) rfl) gt0) pt<|D' (Zaa lk) pt<|D' (Zac lk (hga (Za7 hn) rfl) gt1) pt<|?_
 refine Za9 mp (fun hE hX=>ZgN (k:=4) (by omega) (by omega) (by omega)) pt ?_
 refine D' (v_mv lk) pt ?_
 refine Za9 mp0 (fun hE hX=>Zlf) pt ?_
 refine D' (Zaa lk) pt<|D' (Zac lk (hga (Za7 hn) rfl) gt3) pt<|?_
 refine D' (Zbg (k:=m.toNat) lk lk Za2 (nb' rfl) (by first | rfl | first | exact hml | omega) (by first | exact hml | omega) ro rfl) pt ?_
 refine D' (ZaZ lk gt) pt ?_
 rw [ZsS hml]
 refine D' (Zaa lk) pt<|D' (Zau lk (hga (Za7 hn) rfl) ZrD rfl) pt<|?_
 refine Za9 mp (fun hE hX=>form_a' (by omega) (by omega) (by omega) (by omega) (by omega) (by omega)) pt ?_
 refine D' (Zaa lk) pt<|D' (Zac lk (hga (Za7 hn) rfl) gt7) pt<|D' (Zaa lk) pt<|D' (Zac lk (hga (Za7 hn) rfl) gt8) pt<|?_
 refine Za9 mp (fun hE hX=>Znd (by omega) (by omega) (by omega) (by omega)) pt ?_
 refine D' (Zaa lk) pt<|D' (Zac lk (hga (Za7 hn) rfl) gt9) pt<|?_
 refine Za9 mp (fun hE hX=>Zmi (by omega) (by omega)) pt ?_
 refine D' (Zaa lk) pt<|D' (Zac lk (hga (Za7 hn) rfl) gt10) pt<|?_
 refine Za9 mp (fun hE hX=>or_a) pt ?_
 refine d_effI rfl rfl (hlk (Za7 hn) rfl) (l_litI (Znz (cvl lks rfl) rfl (cvl lk rfl) rfl (cvl lk rfl) rfl (cvl lk rfl) rfl (cvl lk rfl) rfl (cvl lk rfl) rfl (cvl lk rfl) rfl (cvl lk rfl) rfl (cvl lk rfl) rfl) rfl) pt Zjp<|Zbt<|Zti ZkG<|?_
 refine k_call mp (Zh2 (fs:=Zmy nm lt f t m k w n a c s) (ZeC hne hid) (Ze5 hib) hne hl) (by intro i hi;simp at hi) pt ?_
 refine ZqN<|Zf6 (rs0)<|?_
 refine ⟨_,_,(by rw [Zep hne hid,ZdZ hib]),Za7 hn,ZdQ hlt (ZjT hB) Zir,rfl,rfl,rfl⟩
def eraF (sh:Int) (rl:ByteArray) (sa:Int) (fm:ByteArray) (op:Bool) (y m d a c:Int):List ByteArray :=
 [bA (Zdu sh),if 0<sa then bA (Zdu sa) else orT rl ⟨#[45]⟩,fm]++(if op=true then [] else [bA (padI y 4),monS m,bA (Lib.itoa d),ZeP a c 2])
def shE (sh sa:Int) (op:Bool) (y m d a c:Int):Prop:=(-1000000≤sh∧sh≤1000000)∧(0≤sa∧sa≤1000000)∧(op=false→(0≤y∧y≤9999)∧(1≤m∧m≤12)∧(0≤d∧d≤1000)∧(0≤a∧a≤1000000)∧0≤c∧c≤3)
theorem shera_a {sh sa y m d a c:Int}{rl fm:ByteArray}{op:Bool}{h:AH}(hok:shE sh sa op y m d a c) :
  Ac 59 [.agg [iv sh,sv rl,iv sa,sv fm,bv op,iv y,iv m,iv d,iv a,iv c]] h (.sl (eraF sh rl sa fm op y m d a c).length 1 false (rows strC (eraF sh rl sa fm op y m d a c))):=by
 obtain ⟨hsh,hsa,hrest⟩:=hok
 refine tW' k59 fun N hn hlt hlA hbd=>?_
 simp only [tb'] at hbd ⊢
 refine wr'<|E' (Zcm (cvl lk rfl) rfl (hl0 hn) ha0) pt<|mv' lkn pt<|sn'<|wr'<|V' (Zaa lk) pt<|V' (Zac lk (hga hn rfl) gt1) pt<|Zae mp (or_a) pt<|mv' lk pt<|sn'<|?_
 refine Zfq (ι:=Unit) (fun (u_:Unit)=>[(3,sv (if 0<sa then bA (Zdu sa) else orT rl ⟨#[45]⟩))]++rn' 9 6) (fun (u_:Unit)=>[]) (fun (u_:Unit)=>True) ?_ ?_
 ·try simp only [sm',Nat.reduceAdd]
  refine wr'<|V' (Zaa lk) pt<|V' (Zac lk (hga hn rfl) gt2) pt<|V' (ZbN lk lki) pt<|sn'<|?_
  refine cd' lk (fun hc1=>?_) (fun hc1=>?_)
  ·refine Zar<|V' (Zaa lk) pt<|V' (Zac lk (hga hn rfl) gt2) pt<|?_
   refine Zae mp (Zmi (by omega) (by omega)) pt ?_
   refine mv' lk pt<|Zas<|ZaI<|?_
   have hT:(if 0<sa then bA (Zdu sa) else orT rl ⟨#[45]⟩)=bA (Zdu sa):=if_pos hc1
   exact cT' (()) (by trivial) (by (try dsimp only);(try simp only [sm',Nat.reduceAdd]);exact ALe.same (by repeat (first | exact wk0 | refine wka ?_ | refine wk1 rfl ?_ | refine wk1 (by first | rfl | exact congrArg sv hT) ?_)) rfl)
  refine Zaf<|ZaI<|?_
  have hT:(if 0<sa then bA (Zdu sa) else orT rl ⟨#[45]⟩)=orT rl ⟨#[45]⟩:=if_neg hc1
  exact cT' (()) (by trivial) (by (try dsimp only);(try simp only [sm',Nat.reduceAdd]);exact ALe.same (by repeat (first | exact wk0 | refine wka ?_ | refine wk1 rfl ?_ | refine wk1 (by first | rfl | exact congrArg sv hT) ?_)) rfl)
 rintro u_ hq4
 try simp only [sm',Nat.reduceAdd]
 refine Zam<|ZbJ<|D' (Zaa lk) pt<|D' (Zac lk (hga hn rfl) gt0) pt<|?_
 refine Za9 mp (fun hE hX=>Zmi (by omega) (by omega)) pt ?_
 refine D' (v_mv lk) pt<|D' (Zaa lk) pt<|D' (Zac lk (hga hn rfl) gt3) pt<|ZqW rfl rfl (hlk hn rfl) (ZqM (Zo6 (cvl lk rfl) rfl (cvl lk rfl) rfl (cvl lk rfl) rfl)) pt Zjp<|D' (v_mv lk) pt<|Zbt<|?_
 refine ZqT ZkG ?_
 refine sn'<|Zam<|wr'<|V' (Zaa lk) pt<|V' (Zac lk (hga hn rfl) gt4) pt<|V' (Zav lk) pt<|sn'<|?_
 refine Zaw lk (fun hc2=>?_) (fun hc2=>?_)
 ·obtain rfl:op=false:=by simpa using hc2
  obtain ⟨hy,hm,hd,ha,hc⟩:=hrest rfl
  have hml:m.toNat<((⟨#[]⟩:ByteArray)::monL).length:=by have:((⟨#[]⟩:ByteArray)::monL).length=13:=rfl;omega
  refine wr'<|V' (Zaa lk) pt<|V' (Zau lk (hga hn rfl) ZrC rfl) pt<|E' (Zbq (hl2 hn) ha2) pt<|E' (Zal lk (cvl lk rfl) (hga hn rfl) rfl (nb' rfl) rfl ZrE (hs2 hn)) ptn<|sn'<|ZbJ<|D' (v_mv lk) pt<|D' (Zaa lk) pt<|D' (Zaa lk) pt<|D' (Zac lk (hga hn rfl) gt0) pt<|?_
  refine Za9 mp (fun hE hX=>ZgN (k:=4) (by omega) (by omega) (by omega)) pt ?_
  refine Za9 mp0 (fun hE hX=>Zlf) pt ?_
  refine D' (Zaa lk) pt<|D' (Zaa lk) pt<|D' (Zac lk (hga hn rfl) gt1) pt<|?_
  refine D' (Zbg (k:=m.toNat) lk lk Za2 (nb' rfl) (by first | rfl | first | exact hml | omega) (by first | exact hml | omega) ro rfl) pt ?_
  refine D' (ZaZ lk gt) pt ?_
  rw [ZsS hml]
  refine D' (Zaa lk) pt<|D' (Zaa lk) pt<|D' (Zac lk (hga hn rfl) gt2) pt<|?_
  refine Za9 mp (fun hE hX=>ZpW (by omega) (by omega)) pt ?_
  refine D' (Zaa lk) pt<|D' (Zac lk (hga hn rfl) gt3) pt<|D' (Zaa lk) pt<|D' (Zac lk (hga hn rfl) gt4) pt<|?_
  refine Za9 mp (fun hE hX=>Znd (by omega) (by omega) (by omega) (by omega)) pt ?_
  refine ZqW rfl rfl (hlk hn rfl) (ZqM (Zo5 (cvl lk rfl) rfl (cvl lk rfl) rfl (cvl lk rfl) rfl (cvl lk rfl) rfl)) pt Zjp<|Zbt<|?_
  refine ZqT ZrG ?_
  refine E' (Zej (Zc9 lk (hga hn rfl) rfl Zt4 (nb' rfl)) lk (hga hn rfl) rfl (by omega) rfl (hs1 hn)) pt ?_
  refine mv' lk48 pt4<|sn'<|wr'<|mv' lk4 pt49<|mv' lk49 pt2<|Zas<|ZbQ (ALe.iceR (hga hn rfl) gt2 rfl (nb' rfl) pt2 (hs1 hn))<|Zab<|Zag (rs1 (rr_t gt2))<|rtW'<|?_
  exact Wk.refl _
 obtain rfl:op=true:=by simpa using hc2
 refine Zaf<|Zai<|wr'<|mv' lk4 pt49<|mv' lk49 pt2<|Zas<|ZbQ (ALe.iceR (hga hn rfl) gt2 rfl (nb' rfl) pt2 (hs1 hn))<|Zab<|Zag (rs1 (rr_t gt2))<|rtW'<|?_
 exact Wk.refl _
abbrev eraG (x:Era):List ByteArray:=eraF x.1 x.2.1 x.2.2.1 x.2.2.2.1 x.2.2.2.2.1 x.2.2.2.2.2.1.1 x.2.2.2.2.2.1.2.1 x.2.2.2.2.2.1.2.2 x.2.2.2.2.2.2.1 x.2.2.2.2.2.2.2
abbrev shX (x:Era):Prop:=shE x.1 x.2.2.1 x.2.2.2.2.1 x.2.2.2.2.2.1.1 x.2.2.2.2.2.1.2.1 x.2.2.2.2.2.1.2.2 x.2.2.2.2.2.2.1 x.2.2.2.2.2.2.2
theorem Zlt (x:Era):(eraG x).length≤7:=by
 unfold eraG eraF
 rw [List.length_append]
 by_cases h:x.2.2.2.2.1=true
 ·rw [if_pos h];simp
 rw [if_neg h];simp
def ZdS (nm:ByteArray):List Era→List Ln
 | []=>[]
 | x::xs=>(0,false,[⟨#[90,111,110,101]⟩,nm]++eraG x)::xs.map fun y=>(0,true,eraG y)
theorem ZlX {nm:ByteArray}{es:List Era}:(ZdS nm es).length=es.length:=by
 cases es <;> simp [ZdS]
theorem zone_0 {nm:ByteArray}{es:List Era}(h:0<es.length):ZdS nm (es.take (0+1))=ZdS nm (es.take 0)++[((0:Int),decide (((0:Nat):Int)>0),[⟨#[90,111,110,101]⟩,nm]++eraG es[0])]:=by
 cases es with
 | nil=>cases h
 | cons x xs=>rfl
theorem zone_s {nm:ByteArray}{es:List Era}{j:Nat}(h:j<es.length) (h0:¬(j:Int)=0):ZdS nm (es.take (j+1))=ZdS nm (es.take j)++[((0:Int),decide ((j:Int)>0),eraG es[j])]:=by
 cases es with
 | nil=>cases h
 | cons x xs =>
  cases j with
  | zero=>exact absurd rfl h0
  | succ j =>
   have hj:j<xs.length:=by simpa using h
   rw [List.take_succ_cons,List.take_succ_cons,ZdS,ZdS,List.take_succ_eq_append_getElem hj,List.map_append]
   have:decide (((j+1:Nat):Int)>0)=true:=decide_eq_true (by omega)
   rw [this];rfl
theorem shzone_a {A B:Nat}{nm:ByteArray}{es:List Era}{L:List Ln}{h:AH}(h1:h[A]?=some (shP B L)) (h2:h[B]?=some (shL L)) (hne:A≠B) (hl:L.length+es.length≤1000) (hok : ∀ x∈es,shX x) :
  ACalls Tryz.prog 21 [.ptr A 0 0,.agg [sv nm,.sl es.length 10 false (rows eraC es)]] h fun x h'=>x=.ret (.tup [])∧h'=(h.set A (shP B (L++ZdS nm es))).set B (shL (L++ZdS nm es)):=by
 have hid:A<h.length:=(List.getElem?_eq_some_iff.1 h1).1
 have hib:B<h.length:=(List.getElem?_eq_some_iff.1 h2).1
 have hB:=hib
 refine tJ' k21 fun N hn hlt hlA hbd=>?_
 simp only [tb'] at hbd ⊢
 rw [hn] at hB
 refine ZbG (h1:=(h.set A (shP B L)).set B (shL L)++[]) (by rw [ZgR h1 h2]) ?_
 refine wr'<|E' (Zcm (cvl lk rfl) rfl (hl0 (Za7 hn)) ha0) pt<|sn'<|wr'<|V' (Zaa lk) pt<|V' (Zac lk (hga (Za7 hn) rfl) gt1) pt<|V' (ZaK lk) pt<|mv' lki pt<|sn'<|Zao<|?_
 refine ZrV (ι:=Nat) (fun (j:Nat)=>[(10,iv (j:Int))]++rn' 4 3++rn' 11 19) (fun (j:Nat)=>(h.set A (shP B (L++ZdS nm (es.take j)))).set B (shL (L++ZdS nm (es.take j)))++[.mk 0 52 2 [sv nm,.sl es.length 10 false (rows eraC es)]]) (fun (j:Nat)=>j≤es.length) (fun (j:Nat)=>es.length-j) (0) (by exact Nat.zero_le _) (by try simp only [sm',Nat.reduceAdd];exact ALe.same wA' (by rw [List.take_zero,ZdS,List.append_nil])) ?_
 rintro j hi1
 try simp only [sm',Nat.reduceAdd]
 refine wr'<|V' (Zbu lk lk) pt<|sn'<|Zam<|?_
 refine cd' lk (fun hc1=>?_) (fun hc1=>?_)
 ·have hj:j<es.length:=by omega
  have hxe:=hok _ (List.getElem_mem hj)
  have hlj:(L++ZdS nm (es.take j)).length≤1000:=by rw [List.length_append,ZlX,List.length_take];omega
  refine Zaf<|Zai<|Zam<|Zao<|wr'<|mv' lk pt<|?_
  refine V' (Zbg (k:=j) lk lk Zeq (nb' rfl) ro (by omega) ro rfl) pt ?_
  refine V' (Zbk lk ZrB rfl) pt<|E' (Zbq (hl1 (Za7 hn)) ha1) pt<|mv' lk pt<|E' (Zal lk (cvl lk rfl) (hga (Za7 hn) rfl) rfl (nb' rfl) rfl Zo2 (hs1 (Za7 hn))) ptn<|sn'<|wr'<|V' (Zau lk (hga (Za7 hn) rfl) Zo1 rfl) pt<|Zae mp (shera_a hxe) pt<|mv' lk pt<|sn'<|Zam<|?_
  refine wr'<|mv' lk pt<|V' (ZaX lk lki) pt<|sn'<|?_
  refine cd' lk (fun hc2=>?_) (fun hc2=>?_)
  ·obtain rfl:j=0:=by omega
   have hfl:=Zlt es[0]
   dsimp only [eraG] at hfl
   refine Zar<|V' (Zaa lk) pt<|V' (Zac lk (hga (Za7 hn) rfl) gt0) pt<|E' (Zeh (Zny (cvl lks rfl) rfl (cvl lk rfl) rfl) (hl2 (Za7 hn)) ha2) pt<|mv' lk pt<|?_
   refine E' (Zej (sc_sl lk (ZdK _)) lk (hga (Za7 hn) rfl) rfl (by omega) (Zpt _) (hs2 (Za7 hn))) pt ?_
   refine mv' lk pt<|Zas<|?_
   refine ZbQ (ALe.iceN (hga (Za7 hn) rfl) gt6 (show List.take _ _=rows strC ([⟨#[90,111,110,101]⟩,nm]++eraG es[0]) from List.take_of_length_le (by rw [ZdK,Nat.mul_one,Nat.mul_one,List.length_append];exact Nat.le_refl _)) (by rw [ZdK,Nat.mul_one,Nat.mul_one,List.length_append];exact Nat.le_refl _) (by exact (show 2+(eraG es[0]).length=([⟨#[90,111,110,101]⟩,nm]++eraG es[0]).length from by rw [List.length_append];rfl)) pt6 (hs2 (Za7 hn))) ?_
   refine Zar<|mv' lk pt<|mv' lk pt<|V' (ZbN lk lki) pt<|mv' lk pt<|ZeV mp (Zh2 (fs:=[⟨#[90,111,110,101]⟩,nm]++eraG es[0]) (ZeC hne hid) (Ze5 hib) hne hlj) pt<|Zas<|ZaF<|Zai<|Zar<|?_
   refine V' (ZaE lk lki (by omega) (by omega)) pt ?_
   refine mv' lk pt<|Zas<|ZaI<|?_
   rw [Zep hne hid,ZdZ hib]
   refine lU' (0+1) (by (try dsimp only);omega) (by (try dsimp only);(try simp only [sm',Nat.reduceAdd]);exact ALe.trans (ALe.back wA' rfl (E1:=[.mk 0 52 2 [sv nm,.sl es.length 10 false (rows eraC es)]]) (k:=N+1) (by simp only [List.length_cons,List.length_nil,(Za7 hn)]) (by omega) (by exact lt') (ltw (by omega) (ZdQ hlt (ZjT hB) Zir)) (by exact lt')) (ALe.same (WkL.refl _) (by rw [zone_0 hj,←List.append_assoc];rfl)))
  refine Zaf<|Zai<|Zar<|mv' lk pt<|mv' lk pt<|V' (ZbN lk lki) pt<|mv' lk pt<|ZeV mp (Zh2 (fs:=eraG es[j]) (ZeC hne hid) (Ze5 hib) hne hlj) pt<|Zas<|ZaF<|Zai<|Zar<|?_
  refine V' (ZaE lk lki (by omega) (by omega)) pt ?_
  refine mv' lk pt<|Zas<|ZaI<|?_
  rw [Zep hne hid,ZdZ hib]
  refine lU' (j+1) (by (try dsimp only);omega) (by (try dsimp only);(try simp only [sm',Nat.reduceAdd]);exact ALe.trans (ALe.back wA' rfl (E1:=[.mk 0 52 2 [sv nm,.sl es.length 10 false (rows eraC es)]]) (k:=N+1) (by simp only [List.length_cons,List.length_nil,(Za7 hn)]) (by omega) (by exact lt') (ltw (by omega) (ZdQ hlt (ZjT hB) Zir)) (by exact lt')) (ALe.same (WkL.refl _) (by rw [zone_s hj hc2,←List.append_assoc])))
 obtain rfl:j=es.length:=by omega
 refine Za0<|ZaO<|ZaO<|Zbp<|Zf6 (rs0)<|?_
 refine ⟨_,_,rfl,Za7 hn,ZdQ hlt (ZjT hB) Zir,rfl,rfl,?_⟩
 rw [List.take_length]
end Go.Proofs.YtgjchdhdopgkkaaGreatDoor
end
section
namespace Go.Ab
theorem ACalls.iceArg {P:Program}{f:FuncId}{args args' cs cells:List AV}{h h1:AH}{R:AE→AH→Prop}{id ver ty s n d:Nat}(hi:h[id]?=some (.mk ver ty s cells)) (hd:args[d]?=some (.own id ver n)) (hl:n*s≤cells.length)
  (hcs:cells.take (n*s)=cs) (ha:args.set d (.sl n s false cs)=args') (hh:h.set id .gone=h1) (hc:ACalls P f args' h1 R):ACalls P f args h R:=by
 subst hcs ha hh
 refine ⟨hc.1,fun w g vs hs hr=>?_⟩
 obtain ⟨h1,h2,h3⟩:=hs.ice hi
 have htm:=RepL.mono (g.le_ice h id) (fun _ _=>rfl) _ _ hr
 obtain ⟨u,hu,hru⟩:=hr.get hd
 have hset:=htm.set (k:=d) (h3 n u hl hru)
 have hself:vs.toList.set d u=vs.toList:=by
  apply List.ext_getElem?
  intro j
  by_cases hj:j=d
  ·subst hj
   have:j<vs.toList.length:=(List.getElem?_eq_some_iff.1 hu).1
   rw [List.getElem?_set_self this,hu]
  rw [List.getElem?_set_ne (Ne.symm hj)]
 rw [hself] at hset
 refine (hc.2 w (g.ice h id) vs h1 hset).mono ?_
 rintro e w' ⟨x,h',g',a1,a2,a3,a4,a5,a6⟩
 exact ⟨x,h',g',a1,a2,(g.le_ice h id).trans a3,⟨a4.os,a4.tape,a4.output,a4.size,fun i hi hn=>a4.block i hi (fun ho=>hn (h2 i ho))⟩,fun k hk=>(a5 k hk).imp (h2 k) (fun z=>z),a6⟩
end Go.Ab
namespace Go.Proofs.YtgjchdhdopgkkaaGreatDoor
open Go.Ab Go.RowKit Civ
attribute [local simp] Za4 Zbj Zca Za5 Zbd Zdi ZjT Zir
section
theorem ZkC {a0 a1 a2 a3 a4 a5 a6 a7 a8 a9 a10:AV}{l:List AV}:(a0::a1::a2::a3::a4::a5::a6::a7::a8::a9::a10::l).take 11=[a0,a1,a2,a3,a4,a5,a6,a7,a8,a9,a10]:=rfl
theorem Zgu {a0 b0:ByteArray}{a1 b1:Int}{a2 b2:Int}{a3 b3:Int}{a4 b4:Int}{a5 b5:Int}{a6 b6:Int}{a7 b7:Int}{a8 b8:Int}{a9 b9:Int}{a10 b10:ByteArray}:ZbD [.str,.int,.int,.int,.int,.int,.int,.int,.int,.int,.str] [sv a0,iv a1,iv a2,iv a3,iv a4,iv a5,iv a6,iv a7,iv a8,iv a9,sv a10] [sv b0,iv b1,iv b2,iv b3,iv b4,iv b5,iv b6,iv b7,iv b8,iv b9,sv b10]=some (decide (a0=b0∧a1=b1∧a2=b2∧a3=b3∧a4=b4∧a5=b5∧a6=b6∧a7=b7∧a8=b8∧a9=b9∧a10=b10)):=by
 simp only [ZbD,Zer,if_true,Zdc,Option.some.injEq]
 simp only [Bool.decide_and,Bool.and_true]
 try (congr 1 <;> simp)
 try rfl
theorem Zg9 {a0 a1:AV}{l:List AV}:(a0::a1::l).take 2=[a0,a1]:=rfl
theorem ZrA {a0 b0:ByteArray}{a1 b1:ByteArray}:ZbD [.str,.str] [sv a0,sv a1] [sv b0,sv b1]=some (decide (a0=b0∧a1=b1)):=by
 simp only [ZbD,Zer,if_true,Zdc,Option.some.injEq]
 simp only [Bool.decide_and,Bool.and_true]
 try (congr 1 <;> simp)
 try rfl
theorem ZkD {a0 a1 a2 a3 a4 a5 a6 a7 a8 a9:AV}{l:List AV}:(a0::a1::a2::a3::a4::a5::a6::a7::a8::a9::l).take 10=[a0,a1,a2,a3,a4,a5,a6,a7,a8,a9]:=rfl
theorem Zha {a0 b0:Int}{a1 b1:ByteArray}{a2 b2:Int}{a3 b3:ByteArray}{a4 b4:Bool}{a5 b5:Int}{a6 b6:Int}{a7 b7:Int}{a8 b8:Int}{a9 b9:Int}:ZbD [.int,.str,.int,.str,.bool,.int,.int,.int,.int,.int] [iv a0,sv a1,iv a2,sv a3,bv a4,iv a5,iv a6,iv a7,iv a8,iv a9] [iv b0,sv b1,iv b2,sv b3,bv b4,iv b5,iv b6,iv b7,iv b8,iv b9]=some (decide (a0=b0∧a1=b1∧a2=b2∧a3=b3∧a4=b4∧a5=b5∧a6=b6∧a7=b7∧a8=b8∧a9=b9)):=by
 simp only [ZbD,Zer,if_true,Zdc,Option.some.injEq]
 simp only [Bool.decide_and,Bool.and_true]
 try (congr 1 <;> simp)
 try rfl
theorem ZkF {a0 a1 c0 c1:AV}{l:List AV}:setCells (a0::a1::l) 0 [c0,c1]=c0::c1::l:=rfl
theorem ZkE {a0 a1:AV}{l:List AV}:((a0::a1::l).drop 0).take 2=[a0,a1]:=rfl
end
def c33:AC:=(Sr [Mb 4 false] (.seq (Sr [Mv 6 0,Oo 7 (.len false (.tmp 6)),Mv 8 1,Oo 9 (.len false (.tmp 8)),Bn 10 .neq 7 9] (Cd 10 (Sr [Mb 4 false] .ret) .skip)) (.seq (Sr [Mv 11 0,Oo 12 (.len false (.tmp 11)),Mc 13 0] (.block 0 (.loop (Sr [Bn 14 .lss 13 12] (.seq (Cd 14 .skip (.exit 0)) (.seq (.block 1 (Sr [Mv 15 13,Mv 5 15] (Sd [Mv 16 0,Mv 17 5,Oo 18 (.ia 11 (.tmp 16) (.tmp 17)),Oo 19 (.load true 11 (.tmp 18)),Mv 20 1,Mv 21 5,Oo 22 (.ia 11 (.tmp 20) (.tmp 21)),Oo 23 (.load true 11 (.tmp 22)),Oo 24 (.eqs true [.str,.int,.int,.int,.int,.int,.int,.int,.int,.int,.str] (.tmp 19) (.tmp 23))] (Cd 24 (Sr [Mb 4 false] .ret) .skip)))) (.reg [Bc 25 .add 13 1,Mv 13 25]))))))) (Sr [Mb 4 true] .ret))))
theorem k33:ZaH Tryz.prog 33=some ⟨c33,[(.tmp 4)],26⟩:=by kernel_rfl
def c34:AC:=(Sr [Mb 4 false] (.seq (Sr [Mv 6 0,Oo 7 (.len false (.tmp 6)),Mv 8 1,Oo 9 (.len false (.tmp 8)),Bn 10 .neq 7 9] (Cd 10 (Sr [Mb 4 false] .ret) .skip)) (.seq (Sr [Mv 11 0,Oo 12 (.len false (.tmp 11)),Mc 13 0] (.block 0 (.loop (Sr [Bn 14 .lss 13 12] (.seq (Cd 14 .skip (.exit 0)) (.seq (.block 1 (Sr [Mv 15 13,Mv 5 15] (Sd [Mv 16 0,Mv 17 5,Oo 18 (.ia 2 (.tmp 16) (.tmp 17)),Oo 19 (.load true 2 (.tmp 18)),Mv 20 1,Mv 21 5,Oo 22 (.ia 2 (.tmp 20) (.tmp 21)),Oo 23 (.load true 2 (.tmp 22)),Oo 24 (.eqs true [.str,.str] (.tmp 19) (.tmp 23))] (Cd 24 (Sr [Mb 4 false] .ret) .skip)))) (.reg [Bc 25 .add 13 1,Mv 13 25]))))))) (Sr [Mb 4 true] .ret))))
theorem k34:ZaH Tryz.prog 34=some ⟨c34,[(.tmp 4)],26⟩:=by kernel_rfl
def c37:AC:=(Sr [Mb 4 false] (.seq (Sr [Mv 6 0,Oo 7 (.len false (.tmp 6)),Mv 8 1,Oo 9 (.len false (.tmp 8)),Bn 10 .neq 7 9] (Cd 10 (Sr [Mb 4 false] .ret) .skip)) (.seq (Sr [Mv 11 0,Oo 12 (.len false (.tmp 11)),Mc 13 0] (.block 0 (.loop (Sr [Bn 14 .lss 13 12] (.seq (Cd 14 .skip (.exit 0)) (.seq (.block 1 (Sr [Mv 15 13,Mv 5 15] (Sd [Mv 16 0,Mv 17 5,Oo 18 (.ia 10 (.tmp 16) (.tmp 17)),Oo 19 (.load true 10 (.tmp 18)),Mv 20 1,Mv 21 5,Oo 22 (.ia 10 (.tmp 20) (.tmp 21)),Oo 23 (.load true 10 (.tmp 22)),Oo 24 (.eqs true [.int,.str,.int,.str,.bool,.int,.int,.int,.int,.int] (.tmp 19) (.tmp 23))] (Cd 24 (Sr [Mb 4 false] .ret) .skip)))) (.reg [Bc 25 .add 13 1,Mv 13 25]))))))) (Sr [Mb 4 true] .ret))))
theorem k37:ZaH Tryz.prog 37=some ⟨c37,[(.tmp 4)],26⟩:=by kernel_rfl
def c36:AC:=(Sr [Oo 2 (.box 52 2 (.tmp 0)),Oo 3 (.box 52 2 (.tmp 1)),Mb 4 false] (Sr [Fa 5 0 2,Ld 6 5,Fa 7 0 3,Ld 8 7,Bn 9 .eql 6 8,Mv 10 9,Ot 11 10 (.fa 1 (.tmp 2)),Ot 12 10 (.load false 1 (.tmp 11)),Ot 13 10 (.fa 1 (.tmp 3)),Ot 14 10 (.load false 1 (.tmp 13)),Ot 15 10 (.call (.func 37) [(.tmp 12),(.tmp 14)]),Oo 16 (.pick (.tmp 10) (.tmp 15) (.const (.bool false))),Mv 4 16] .ret))
theorem k36:ZaH Tryz.prog 36=some ⟨c36,[(.tmp 4)],17⟩:=by kernel_rfl
def c35:AC:=(Sr [Mb 6 false] (.seq (Sr [Mv 10 0,Oo 11 (.len false (.tmp 10)),Mv 12 1,Oo 13 (.len false (.tmp 12)),Bn 14 .neq 11 13] (Cd 14 (Sr [Mb 6 false] .ret) .skip)) (.seq (Sr [Mv 15 0,Oo 16 (.len false (.tmp 15)),Mc 17 0] (.block 0 (.loop (Sr [Bn 18 .lss 17 16] (.seq (Cd 18 .skip (.exit 0)) (.seq (.block 1 (Sr [Mv 19 17,Oo 20 (.ia 2 (.tmp 15) (.tmp 17)),Oo 21 (.load true 2 (.tmp 20)),Oo 8 (.new 52 2 [Ss,(.sl 0 0 true [])]),Mv 7 19,⟨none,none,(.store 2 (.tmp 8) (.tmp 21))⟩] (Sr [Mv 22 1,Mv 23 7,Oo 24 (.ia 2 (.tmp 22) (.tmp 23)),Oo 25 (.load true 2 (.tmp 24)),Oo 9 (.new 52 2 [Ss,(.sl 0 0 true [])]),⟨none,none,(.store 2 (.tmp 9) (.tmp 25))⟩] (Sr [Mv 26 2,Oo 27 (.load true 2 (.tmp 8)),Oo 28 (.load true 2 (.tmp 9)),Oo 29 (.call (.tmp 26) [(.tmp 27),(.tmp 28)]),Oo 30 (.un .not (.tmp 29))] (Cd 30 (Sr [Mb 6 false] .ret) .skip))))) (.reg [Bc 31 .add 17 1,Mv 17 31]))))))) (Sr [Mb 6 true] .ret))))
theorem k35:ZaH Tryz.prog 35=some ⟨c35,[(.tmp 6)],32⟩:=by kernel_rfl
def c13:AC:=(Sr [Oo 2 (.box 26 3 (.tmp 0)),Oo 3 (.box 26 3 (.tmp 1)),Mb 4 false] (Sr [Fa 5 0 2,Ld 6 5,Fa 7 0 3,Ld 8 7,Cl 9 33 [(.tmp 6),(.tmp 8)],Mv 10 9,Ot 11 10 (.fa 2 (.tmp 2)),Ot 12 10 (.load false 1 (.tmp 11)),Ot 13 10 (.fa 2 (.tmp 3)),Ot 14 10 (.load false 1 (.tmp 13)),Ot 15 10 (.call (.func 34) [(.tmp 12),(.tmp 14)]),Oo 16 (.pick (.tmp 10) (.tmp 15) (.const (.bool false))),Mv 17 16,Ot 18 17 (.fa 1 (.tmp 2)),Ot 19 17 (.load false 1 (.tmp 18)),Ot 20 17 (.fa 1 (.tmp 3)),Ot 21 17 (.load false 1 (.tmp 20)),Ot 22 17 (.call (.func 35) [(.tmp 19),(.tmp 21),(.func 36)]),Oo 23 (.pick (.tmp 17) (.tmp 22) (.const (.bool false))),Mv 4 23] .ret))
theorem k13:ZaH Tryz.prog 13=some ⟨c13,[(.tmp 4)],24⟩:=by kernel_rfl
theorem ZtC {a a2:List Rul}{h:AH}:Ac 33 [.sl a.length 11 false (rows rulC a),.sl a2.length 11 false (rows rulC a2)] h (bv (decide (a=a2))):=by
 refine tI' k33 fun N hn hlt hlA hbd=>?_
 simp only [tb'] at hbd ⊢
 refine wr'<|mv' lkb pt<|sn'<|Zam<|wr'<|mv' lk pt<|V' (ZaK lk) pt<|mv' lk pt<|V' (ZaK lk) pt<|V' (Za6 lk lk) pt<|Zas<|?_
 refine Zai ?_
 refine cd' lk (fun hc1=>?_) (fun hc1=>?_)
 ·refine wr'<|mv' lkb pt<|sn'<|Zab<|Zak<|Zag rz<|rT'<|?_
  exact bvx (decide_eq_false (fun e=>hc1 (by rw [e]))).symm
 have hL:a.length=a2.length:=by have:=Decidable.of_not_not hc1;omega
 refine Zaf<|Zai<|Zam<|wr'<|mv' lk pt<|V' (ZaK lk) pt<|mv' lki pt<|sn'<|Zao<|?_
 refine w_lp (ι:=Nat) (fun (k:Nat)=>[(13,iv (k:Int)),(4,.any),(5,.any)]++rn' 14 12) (fun (k:Nat)=>[]) (fun (k:Nat)=>k≤a.length∧a.take k=a2.take k) (fun (k:Nat)=>a.length-k) (0) (by exact ⟨Nat.zero_le _,by simp⟩) ?_
 rintro k hi1
 try simp only [sm',Nat.reduceAdd]
 obtain ⟨hk1,hk2⟩:=hi1
 refine wr'<|V' (Zbu lk lk) pt<|sn'<|Zam<|?_
 refine cd' lk (fun hc2=>?_) (fun hc2=>?_)
 ·have hka:k<a.length:=by omega
  have hkb:k<a2.length:=by omega
  refine Zaf<|Zai<|Zam<|Zao<|wr'<|mv' lk pt<|mv' lk pt<|sn'<|Zam<|ZbJ<|D' (v_mv lk) pt<|D' (v_mv lk) pt<|?_
  refine D' (Zbg (k:=k) lk lk Zem (nb' rfl) ro (by omega) ro rfl) pt ?_
  refine D' (Zbk lk ZkC rfl) pt<|D' (v_mv lk) pt<|D' (v_mv lk) pt<|?_
  refine D' (Zbg (k:=k) lk lk Zem (nb' rfl) ro (by omega) ro rfl) pt ?_
  refine D' (Zbk lk ZkC rfl) pt<|D' (Zgx lk lk Zgu) pt<|Zbt<|?_
  refine Zb4 ?_
  refine sn' ?_
  refine cd' lk (fun hc3=>?_) (fun hc3=>?_)
  ·refine wr'<|mv' lkb pt<|sn'<|Zab<|Zaq<|Zak<|Zak<|Zaq<|Zak<|Zag rz<|rT'<|?_
   exact bvx (decide_eq_false (Zhs hka hkb (by intro e2;apply hc3;rw [e2];simp))).symm
  have hE:a[k]=a2[k]:=by simp only [Prod.ext_iff];simp_all
  refine Zaf<|ZaF<|Zai<|Zar<|?_
  refine V' (ZaE lk lki (by omega) (by omega)) pt ?_
  refine mv' lk pt<|Zas<|ZaI<|?_
  refine lT' (k+1) (by (try dsimp only);exact ⟨by omega,Zgl hka hkb hk2 hE⟩)
 refine Za0<|ZaO<|ZaO<|Zbp<|Zai<|wr'<|mv' lkb pt<|sn'<|Zab<|Zag rz<|rT'<|?_
 exact bvx (decide_eq_true (ZiS (by omega) (by omega) hk2)).symm
theorem ZtD {a a2:List Lnk}{h:AH}:Ac 34 [.sl a.length 2 false (rows lnkC a),.sl a2.length 2 false (rows lnkC a2)] h (bv (decide (a=a2))):=by
 refine tI' k34 fun N hn hlt hlA hbd=>?_
 simp only [tb'] at hbd ⊢
 refine wr'<|mv' lkb pt<|sn'<|Zam<|wr'<|mv' lk pt<|V' (ZaK lk) pt<|mv' lk pt<|V' (ZaK lk) pt<|V' (Za6 lk lk) pt<|Zas<|?_
 refine Zai ?_
 refine cd' lk (fun hc1=>?_) (fun hc1=>?_)
 ·refine wr'<|mv' lkb pt<|sn'<|Zab<|Zak<|Zag rz<|rT'<|?_
  exact bvx (decide_eq_false (fun e=>hc1 (by rw [e]))).symm
 have hL:a.length=a2.length:=by have:=Decidable.of_not_not hc1;omega
 refine Zaf<|Zai<|Zam<|wr'<|mv' lk pt<|V' (ZaK lk) pt<|mv' lki pt<|sn'<|Zao<|?_
 refine w_lp (ι:=Nat) (fun (k:Nat)=>[(13,iv (k:Int)),(4,.any),(5,.any)]++rn' 14 12) (fun (k:Nat)=>[]) (fun (k:Nat)=>k≤a.length∧a.take k=a2.take k) (fun (k:Nat)=>a.length-k) (0) (by exact ⟨Nat.zero_le _,by simp⟩) ?_
 rintro k hi1
 try simp only [sm',Nat.reduceAdd]
 obtain ⟨hk1,hk2⟩:=hi1
 refine wr'<|V' (Zbu lk lk) pt<|sn'<|Zam<|?_
 refine cd' lk (fun hc2=>?_) (fun hc2=>?_)
 ·have hka:k<a.length:=by omega
  have hkb:k<a2.length:=by omega
  refine Zaf<|Zai<|Zam<|Zao<|wr'<|mv' lk pt<|mv' lk pt<|sn'<|Zam<|ZbJ<|D' (v_mv lk) pt<|D' (v_mv lk) pt<|?_
  refine D' (Zbg (k:=k) lk lk ZdV (nb' rfl) ro (by omega) ro rfl) pt ?_
  refine D' (Zbk lk Zg9 rfl) pt<|D' (v_mv lk) pt<|D' (v_mv lk) pt<|?_
  refine D' (Zbg (k:=k) lk lk ZdV (nb' rfl) ro (by omega) ro rfl) pt ?_
  refine D' (Zbk lk Zg9 rfl) pt<|D' (Zgx lk lk ZrA) pt<|Zbt<|?_
  refine Zb4 ?_
  refine sn' ?_
  refine cd' lk (fun hc3=>?_) (fun hc3=>?_)
  ·refine wr'<|mv' lkb pt<|sn'<|Zab<|Zaq<|Zak<|Zak<|Zaq<|Zak<|Zag rz<|rT'<|?_
   exact bvx (decide_eq_false (Zhs hka hkb (by intro e2;apply hc3;rw [e2];simp))).symm
  have hE:a[k]=a2[k]:=by simp only [Prod.ext_iff];simp_all
  refine Zaf<|ZaF<|Zai<|Zar<|?_
  refine V' (ZaE lk lki (by omega) (by omega)) pt ?_
  refine mv' lk pt<|Zas<|ZaI<|?_
  refine lT' (k+1) (by (try dsimp only);exact ⟨by omega,Zgl hka hkb hk2 hE⟩)
 refine Za0<|ZaO<|ZaO<|Zbp<|Zai<|wr'<|mv' lkb pt<|sn'<|Zab<|Zag rz<|rT'<|?_
 exact bvx (decide_eq_true (ZiS (by omega) (by omega) hk2)).symm
theorem eqEras_a {a a2:List Era}{h:AH}:Ac 37 [.sl a.length 10 false (rows eraC a),.sl a2.length 10 false (rows eraC a2)] h (bv (decide (a=a2))):=by
 refine tI' k37 fun N hn hlt hlA hbd=>?_
 simp only [tb'] at hbd ⊢
 refine wr'<|mv' lkb pt<|sn'<|Zam<|wr'<|mv' lk pt<|V' (ZaK lk) pt<|mv' lk pt<|V' (ZaK lk) pt<|V' (Za6 lk lk) pt<|Zas<|?_
 refine Zai ?_
 refine cd' lk (fun hc1=>?_) (fun hc1=>?_)
 ·refine wr'<|mv' lkb pt<|sn'<|Zab<|Zak<|Zag rz<|rT'<|?_
  exact bvx (decide_eq_false (fun e=>hc1 (by rw [e]))).symm
 have hL:a.length=a2.length:=by have:=Decidable.of_not_not hc1;omega
 refine Zaf<|Zai<|Zam<|wr'<|mv' lk pt<|V' (ZaK lk) pt<|mv' lki pt<|sn'<|Zao<|?_
 refine w_lp (ι:=Nat) (fun (k:Nat)=>[(13,iv (k:Int)),(4,.any),(5,.any)]++rn' 14 12) (fun (k:Nat)=>[]) (fun (k:Nat)=>k≤a.length∧a.take k=a2.take k) (fun (k:Nat)=>a.length-k) (0) (by exact ⟨Nat.zero_le _,by simp⟩) ?_
 rintro k hi1
 try simp only [sm',Nat.reduceAdd]
 obtain ⟨hk1,hk2⟩:=hi1
 refine wr'<|V' (Zbu lk lk) pt<|sn'<|Zam<|?_
 refine cd' lk (fun hc2=>?_) (fun hc2=>?_)
 ·have hka:k<a.length:=by omega
  have hkb:k<a2.length:=by omega
  refine Zaf<|Zai<|Zam<|Zao<|wr'<|mv' lk pt<|mv' lk pt<|sn'<|Zam<|ZbJ<|D' (v_mv lk) pt<|D' (v_mv lk) pt<|?_
  refine D' (Zbg (k:=k) lk lk Zeq (nb' rfl) ro (by omega) ro rfl) pt ?_
  refine D' (Zbk lk ZkD rfl) pt<|D' (v_mv lk) pt<|D' (v_mv lk) pt<|?_
  refine D' (Zbg (k:=k) lk lk Zeq (nb' rfl) ro (by omega) ro rfl) pt ?_
  refine D' (Zbk lk ZkD rfl) pt<|D' (Zgx lk lk Zha) pt<|Zbt<|?_
  refine Zb4 ?_
  refine sn' ?_
  refine cd' lk (fun hc3=>?_) (fun hc3=>?_)
  ·refine wr'<|mv' lkb pt<|sn'<|Zab<|Zaq<|Zak<|Zak<|Zaq<|Zak<|Zag rz<|rT'<|?_
   exact bvx (decide_eq_false (Zhs hka hkb (by intro e2;apply hc3;rw [e2];simp))).symm
  have hE:a[k]=a2[k]:=by simp only [Prod.ext_iff];simp_all
  refine Zaf<|ZaF<|Zai<|Zar<|?_
  refine V' (ZaE lk lki (by omega) (by omega)) pt ?_
  refine mv' lk pt<|Zas<|ZaI<|?_
  refine lT' (k+1) (by (try dsimp only);exact ⟨by omega,Zgl hka hkb hk2 hE⟩)
 refine Za0<|ZaO<|ZaO<|Zbp<|Zai<|wr'<|mv' lkb pt<|sn'<|Zab<|Zag rz<|rT'<|?_
 exact bvx (decide_eq_true (ZiS (by omega) (by omega) hk2)).symm
theorem same1_a {n n2:ByteArray}{es es2:List Era}{h:AH}:Ac 36 [.agg [sv n,.sl es.length 10 false (rows eraC es)],.agg [sv n2,.sl es2.length 10 false (rows eraC es2)]] h (bv (decide ((n,es)=(n2,es2)))):=by
 refine tI' k36 fun N hn hlt hlA hbd=>?_
 simp only [tb'] at hbd ⊢
 refine wr'<|E' (Zcm (cvl lk rfl) rfl (hl0 hn) ha0) pt<|E' (Zcm (cvl lk rfl) rfl (hl1 hn) ha1) pt<|mv' lkb pt<|sn'<|wr'<|V' (Zaa lk) pt<|V' (Zac lk (hga hn rfl) gt0) pt<|V' (Zaa lk) pt<|V' (Zac lk (hga hn rfl) gt0) pt<|V' (Zcj lk lk) pt<|?_
 refine mv' lk pt ?_
 refine sp' (t:=10) gt pt pt (fun hg10=>?_) (fun hg10=>?_)
 ·refine s_do gt<|V' (Zaa lk) pt<|s_do gt<|V' (Zac lk (hga hn rfl) gt1) pt<|s_do gt<|V' (Zaa lk) pt<|s_do gt<|V' (Zac lk (hga hn rfl) gt1) pt<|s_do gt<|Zae mp (eqEras_a) pt<|V' (Zaj lk lk) pt<|mv' lk pt<|sn'<|?_
  refine Zab<|Zag rz<|rT'<|?_
  refine bvx ?_;rw [hg10];simp
 refine s_no gt pt<|s_no gt pt<|s_no gt pt<|s_no gt pt<|s_no gt pt<|V' (Zah lk lkb) pt<|mv' lk pt<|sn'<|Zab<|Zag rz<|rT'<|?_
 exact bvx (decide_eq_false (fun e=>hg10 (congrArg Prod.fst e))).symm
theorem ZtB {a a2:List Zon}{h:AH}:Ac 35 [.sl a.length 2 false (rows zonC a),.sl a2.length 2 false (rows zonC a2),.v (.func (.func 36) #[] #[])] h (bv (decide (a=a2))):=by
 refine tI' k35 fun N hn hlt hlA hbd=>?_
 simp only [tb'] at hbd ⊢
 refine wr'<|mv' lkb pt<|sn'<|Zam<|wr'<|mv' lk pt<|V' (ZaK lk) pt<|mv' lk pt<|V' (ZaK lk) pt<|V' (Za6 lk lk) pt<|Zas<|?_
 refine Zai ?_
 refine cd' lk (fun hc1=>?_) (fun hc1=>?_)
 ·refine wr'<|mv' lkb pt<|sn'<|Zab<|Zak<|Zag rz<|rT'<|?_
  exact bvx (decide_eq_false (fun e=>hc1 (by rw [e]))).symm
 have hL:a.length=a2.length:=by have:=Decidable.of_not_not hc1;omega
 refine Zaf<|Zai<|Zam<|wr'<|mv' lk pt<|V' (ZaK lk) pt<|mv' lki pt<|sn'<|Zao<|?_
 refine w_lp (ι:=Nat) (fun (k:Nat)=>[(17,iv (k:Int))]++rn' 6 4++rn' 18 14) (fun (k:Nat)=>[]) (fun (k:Nat)=>k≤a.length∧a.take k=a2.take k) (fun (k:Nat)=>a.length-k) (0) (by exact ⟨Nat.zero_le _,by simp⟩) ?_
 rintro k hi1
 try simp only [sm',Nat.reduceAdd]
 obtain ⟨hk1,hk2⟩:=hi1
 refine wr'<|V' (Zbu lk lk) pt<|sn'<|Zam<|?_
 refine cd' lk (fun hc2=>?_) (fun hc2=>?_)
 ·have hka:k<a.length:=by omega
  have hkb:k<a2.length:=by omega
  refine Zaf<|Zai<|Zam<|Zao<|wr'<|mv' lk pt<|?_
  refine V' (Zbg (k:=k) lk lk ZdT (nb' rfl) ro (by omega) ro rfl) pt ?_
  refine V' (Zbk lk Zg9 rfl) pt<|E' (Zbq (hl0 hn) ha0) pt<|mv' lk pt<|E' (Zal lk (cvl lk rfl) (hga hn rfl) rfl (nb' rfl) rfl ZkF (hs0 hn)) ptn<|sn'<|wr'<|mv' lk pt<|mv' lk pt<|?_
  refine V' (Zbg (k:=k) lk lk ZdT (nb' rfl) ro (by omega) ro rfl) pt ?_
  refine V' (Zbk lk Zg9 rfl) pt<|E' (Zbq (hl1 hn) ha1) pt<|E' (Zal lk (cvl lk rfl) (hga hn rfl) rfl (nb' rfl) rfl ZkF (hs1 hn)) ptn<|sn'<|wr'<|mv' lk pt<|V' (Zau lk (hga hn rfl) ZkE rfl) pt<|V' (Zau lk (hga hn rfl) ZkE rfl) pt<|Ziu lk mp (same1_a (n:=(a[k]).1) (es:=(a[k]).2) (n2:=(a2[k]).1) (es2:=(a2[k]).2)) pt<|V' (Zav lk) pt<|sn'<|?_
  refine Zaw lk (fun hc3=>?_) (fun hc3=>?_)
  ·have hne:a[k]≠a2[k]:=by intro e;rw [e] at hc3;simp at hc3
   refine wr'<|mv' lkb pt<|sn'<|Zab<|Zaq<|Zak<|Zak<|Zaq<|Zak<|Zag rz<|rT'<|?_
   exact bvx (decide_eq_false (Zhs hka hkb hne)).symm
  have hE:a[k]=a2[k]:=by have h5:=hc3;simp at h5;exact Prod.ext h5.1 h5.2
  refine Zaf<|ZaF<|Zai<|Zar<|?_
  refine V' (ZaE lk lki (by omega) (by omega)) pt ?_
  refine mv' lk pt<|Zas<|ZaI<|?_
  refine lU' (k+1) (by (try dsimp only);exact ⟨by omega,Zgl hka hkb hk2 hE⟩) (by (try dsimp only);(try simp only [sm',Nat.reduceAdd]);exact bk' 0 hn hlt)
 refine Za0<|ZaO<|ZaO<|Zbp<|Zai<|wr'<|mv' lkb pt<|sn'<|Zab<|Zag rz<|rT'<|?_
 exact bvx (decide_eq_true (ZiS (by omega) (by omega) hk2)).symm
theorem same_b {a a2:List Rul}{z z2:List Zon}{l l2:List Lnk}{h:AH}:Ac 13 [.agg [.sl a.length 11 false (rows rulC a),.sl z.length 2 false (rows zonC z),.sl l.length 2 false (rows lnkC l)],.agg [.sl a2.length 11 false (rows rulC a2),.sl z2.length 2 false (rows zonC z2),.sl l2.length 2 false (rows lnkC l2)]] h (bv (decide ((a,z,l)=(a2,z2,l2)))):=by
 refine tI' k13 fun N hn hlt hlA hbd=>?_
 simp only [tb'] at hbd ⊢
 refine wr'<|E' (Zcm (cvl lk rfl) rfl (hl0 hn) ha0) pt<|E' (Zcm (cvl lk rfl) rfl (hl1 hn) ha1) pt<|mv' lkb pt<|sn'<|wr'<|V' (Zaa lk) pt<|V' (Zac lk (hga hn rfl) gt0) pt<|V' (Zaa lk) pt<|V' (Zac lk (hga hn rfl) gt0) pt<|Zae mp (ZtC (a:=a) (a2:=a2)) pt<|?_
 refine mv' lk pt ?_
 refine ZaL (t:=10) gt pt pt (fun hg10=>?_) (fun hg10=>?_)
 ·refine s_do gt<|V' (Zaa lk) pt<|s_do gt<|V' (Zac lk (hga hn rfl) gt2) pt<|s_do gt<|V' (Zaa lk) pt<|s_do gt<|V' (Zac lk (hga hn rfl) gt2) pt<|s_do gt<|Zae mp (ZtD (a:=l) (a2:=l2)) pt<|V' (Zaj lk lk) pt<|mv' lk pt<|?_
  refine ZaL (t:=17) gt pt pt (fun hg17=>?_) (fun hg17=>?_)
  ·refine s_do gt<|V' (Zaa lk) pt<|s_do gt<|V' (Zac lk (hga hn rfl) gt1) pt<|s_do gt<|V' (Zaa lk) pt<|s_do gt<|V' (Zac lk (hga hn rfl) gt1) pt<|s_do gt<|Zae mp (ZtB (a:=z) (a2:=z2)) pt<|V' (Zaj lk lk) pt<|mv' lk pt<|sn'<|?_
   refine Zab<|Zag rz<|rT'<|?_
   refine bvx ?_;have h1:=of_decide_eq_true hg10;have h2:=of_decide_eq_true hg17;rw [h1,h2];simp
  refine s_no gt pt<|s_no gt pt<|s_no gt pt<|s_no gt pt<|s_no gt pt<|V' (Zah lk lkb) pt<|mv' lk pt<|sn'<|Zab<|Zag rz<|rT'<|?_
  exact bvx (decide_eq_false (fun e=>of_decide_eq_false hg17 (congrArg (fun x=>x.2.2) e))).symm
 refine s_no gt pt<|s_no gt pt<|s_no gt pt<|s_no gt pt<|s_no gt pt<|V' (Zah lk lkb) pt<|mv' lk pt<|s_no gt pt<|s_no gt pt<|s_no gt pt<|s_no gt pt<|s_no gt pt<|V' (Zah lk lkb) pt<|mv' lk pt<|?_
 refine sn'<|Zab<|Zag rz<|rT'<|?_
 exact bvx (decide_eq_false (fun e=>of_decide_eq_false hg10 (congrArg Prod.fst e))).symm
end Go.Proofs.YtgjchdhdopgkkaaGreatDoor
end
section
namespace Go.Proofs.YtgjchdhdopgkkaaGreatDoor
open Go.Ab Go.RowKit Civ
abbrev ZnU (r:Rul):List ByteArray:=Zmy r.1 r.2.2.2.2.2.2.2.2 r.2.1 r.2.2.1 r.2.2.2.1 r.2.2.2.2.1.1 r.2.2.2.2.1.2.1 r.2.2.2.2.1.2.2 r.2.2.2.2.2.1 r.2.2.2.2.2.2.1 r.2.2.2.2.2.2.2.1
def Zdx (r:Rul):Ln:=(0,false,ZnU r)
def Zlj (l:Lnk):List ByteArray:=[⟨#[76,105,110,107]⟩,l.1,l.2]
def ZeL (l:Lnk):Ln:=(0,false,Zlj l)
def Zcf (z:List Zon):List Ln:=z.flatMap fun x=>ZdS x.1 x.2
def Zec (s:Src):List Ln:=s.1.map Zdx++Zcf s.2.1++s.2.2.map ZeL
def ZhU (s:Src):ByteArray×Int:=if ZbT s≠0 then (⟨#[]⟩,ZbT s) else Zfo (Zec s)
theorem Zcb {α:Type}{p:α→Int} : ∀ {l:List α},ZbK p l=0 → ∀ x∈l,p x=0
 | [],h,x,hx=>by cases hx
 | y::l,h,x,hx=>by
  rw [ZbK] at h
  split at h
  ·rename_i h1;exact absurd h h1
  ·rename_i h1
   rcases List.mem_cons.1 hx with rfl | hx
   ·exact Decidable.of_not_not h1
   ·exact Zcb h x hx
theorem Zfa {s:Src}(h:ZbT s=0):Ze1 s=false∧ZbK Zde s.1=0∧ZbK Zei s.2.1=0∧ZbK ZdW s.2.2=0:=by
 unfold ZbT at h
 split at h
 ·exact absurd h (by decide)
 ·rename_i h0
  split at h
  ·rename_i h1;exact absurd h h1
  ·rename_i h1
   split at h
   ·rename_i h2;exact absurd h h2
   ·rename_i h2
    exact ⟨by simpa using h0,Decidable.of_not_not h1,Decidable.of_not_not h2,h⟩
def shR (r:Rul):Prop:=(1900≤r.2.1∧r.2.1≤r.2.2.1∧r.2.2.1≤2100)∧(1≤r.2.2.2.1∧r.2.2.2.1≤12)∧(1≤r.2.2.2.2.1.1∧r.2.2.2.2.1.1≤4)∧(0≤r.2.2.2.2.1.2.1∧r.2.2.2.2.1.2.1≤6)∧(0≤r.2.2.2.2.1.2.2∧r.2.2.2.2.1.2.2≤31)∧(0≤r.2.2.2.2.2.1∧r.2.2.2.2.2.1≤172800)∧(1≤r.2.2.2.2.2.2.1∧r.2.2.2.2.2.2.1≤3)∧(0≤r.2.2.2.2.2.2.2.1∧r.2.2.2.2.2.2.2.1≤10800)∧ZbL r.1=true∧ZbZ r.2.2.2.2.2.2.2.2=true
theorem Zm3 {y m kind wk n:Int}(h:Zct y m kind wk n=0):(1≤kind∧kind≤4)∧(0≤wk∧wk≤6)∧(kind=1→wk=0)∧(kind=2→n=0)∧(kind≠2→1≤n∧n≤mlen y m):=by
 unfold Zct at h
 split at h
 ·exact absurd h (by decide)
 ·split at h
  ·exact absurd h (by decide)
  ·split at h
   ·exact absurd h (by decide)
   ·split at h
    ·exact absurd h (by decide)
    ·omega
theorem ZpL {y m kind wk n:Int}(h:(onV y m kind wk n).2=0):Zct y m kind wk n=0:=by
 unfold onV at h
 split at h
 ·exact h
 ·rename_i h1;exact Decidable.of_not_not h1
theorem Zk3 {r:Rul}(h:Zde r=0):shR r:=by
 unfold Zde at h
 split at h
 ·exact absurd h (by decide)
 rename_i h1
 split at h
 ·exact absurd h (by decide)
 rename_i h2
 split at h
 ·rename_i h3;exact absurd h h3
 rename_i h3
 split at h
 ·exact absurd h (by decide)
 rename_i h4
 split at h
 ·exact absurd h (by decide)
 rename_i h5
 split at h
 ·exact absurd h (by decide)
 rename_i h6
 have hf:=Zm3 (ZpL (Decidable.of_not_not h3))
 have hml:=ZdL 2001 r.2.2.2.1
 have h1:=Decidable.of_not_not h1
 unfold clkB at h5
 simp only [wi,Bool.and_eq_true,Bool.or_eq_true,decide_eq_true_eq,not_or,Decidable.not_not] at h2 h4 h5 h6
 unfold shR
 refine ⟨by omega,by omega,by omega,by omega,?_,by omega,by omega,by omega,h1.1,h1.2⟩
 by_cases hk:r.2.2.2.2.1.1=2 <;> omega
theorem Zkd {x:Era}{last:Bool}(h:eraX x last=0):shX x∧(x.2.1≠⟨#[]⟩→ZbL x.2.1=true)∧Zb0 x.2.2.2.1=true∧(x.2.1≠⟨#[]⟩→x.2.2.1=0)∧x.2.2.2.2.1=last∧(x.2.2.2.2.1=true→x.2.2.2.2.2=((0,0,0),0,0))∧(x.2.2.2.2.1=false→clkB x.2.2.2.2.2.2.2 false=true∧Zby x.2.2.2.2.2.1.1 x.2.2.2.2.2.1.2.1 x.2.2.2.2.2.1.2.2=true∧x.2.2.2.2.2.2.1≤172800)∧(-64800≤x.1∧x.1≤64800)∧x.2.2.1≤10800:=by
 obtain ⟨sh,rl,sa,fm,op,⟨⟨y,m,d⟩,a,c⟩⟩:=x
 unfold eraX eraE at h
 simp only at h ⊢
 split at h
 ·exact absurd h (by decide)
 rename_i h1
 split at h
 ·exact absurd h (by decide)
 rename_i h2
 split at h
 ·exact absurd h (by decide)
 rename_i h3
 split at h
 ·exact absurd h (by decide)
 rename_i h4
 simp only [wi,Bool.and_eq_true,decide_eq_true_eq,not_or,Decidable.not_not,not_and] at h1 h2 h3 h4
 cases op with
 | true =>
  rw [if_pos rfl] at h
  split at h
  ·exact absurd h (by decide)
  ·rename_i h5
   have h5:=Decidable.of_not_not h5
   obtain ⟨rfl,rfl,rfl,rfl,rfl⟩:=h5
   have hS:shE sh sa true 0 0 0 0 0:=⟨by omega,by omega,fun e=>(by cases e)⟩
   exact ⟨hS,h1.1,h1.2,h3,h4,fun _=>rfl,fun e=>(by cases e),by omega,by omega⟩
 | false =>
  rw [if_neg (by simp)] at h
  split at h
  ·exact absurd h (by decide)
  rename_i h5
  split at h
  ·exact absurd h (by decide)
  rename_i h6
  split at h
  ·exact absurd h (by decide)
  rename_i h7
  have h5:=Decidable.of_not_not h5
  have h7:=Decidable.of_not_not h7
  have h5':=ZcB.1 h5
  have hml:=ZdL y m
  have h8:=h7
  unfold clkB at h8
  simp only [wi,Bool.and_eq_true,Bool.or_eq_true,decide_eq_true_eq,Decidable.not_not] at h6 h8
  have hS:shE sh sa false y m d a c:=⟨by omega,by omega,fun _=>⟨by omega,by omega,by omega,by omega,by omega⟩⟩
  exact ⟨hS,h1.1,h1.2,h3,h4,fun e=>(by cases e),fun _=>⟨h7,h5,by omega⟩,by omega,by omega⟩
theorem ZtA : ∀ {l:List Era},Zeg l=0 → ∀ x∈l,shX x
 | [],h,x,hx=>by cases hx
 | y::l,h,x,hx=>by
  rw [Zeg] at h
  split at h
  ·rename_i h1;exact absurd h h1
  ·rename_i h1
   rcases List.mem_cons.1 hx with rfl | hx
   ·exact (Zkd (Decidable.of_not_not h1)).1
   ·exact ZtA h x hx
theorem ZkI {z:Zon}(h:Zei z=0):ZbL z.1=true∧z.2.length≠0 ∧ ∀ x∈z.2,shX x:=by
 unfold Zei at h
 split at h
 ·exact absurd h (by decide)
 ·rename_i h1
  simp only [not_or,Decidable.not_not] at h1
  exact ⟨h1.1,h1.2,ZtA h⟩
theorem many_ok {s:Src}(h:Ze1 s=false):(∀ z∈s.2.1,z.2.length≤8)∧s.1.length≤40∧s.2.1.length≤20∧s.2.2.length≤20:=by
 unfold Ze1 at h
 simp only [Bool.or_eq_false_iff,decide_eq_false_iff_not,List.any_eq_false,decide_eq_true_eq] at h
 exact ⟨fun z hz=>by have:=h.1.1.1 z hz;omega,by omega,by omega,by omega⟩
theorem Zqm {a b:List Zon}:Zcf (a++b)=Zcf a++Zcf b:=List.flatMap_append
theorem zonesL_s {z:List Zon}{k:Nat}(h:k<z.length):Zcf (z.take (k+1))=Zcf (z.take k)++ZdS (z[k]).1 (z[k]).2:=by
 rw [List.take_succ_eq_append_getElem h,Zqm];simp [Zcf]
theorem Zhd : ∀ {z:List Zon},(∀ x∈z,x.2.length≤8)→(Zcf z).length≤8*z.length
 | [],_=>by simp [Zcf]
 | x::z,h=>by
  have h1:=Zhd (z:=z) (fun y hy=>h y (by simp [hy]))
  have h2:=h x (by simp)
  have:Zcf (x::z)=ZdS x.1 x.2++Zcf z:=by simp [Zcf]
  rw [this,List.length_append,ZlX,List.length_cons];omega
theorem Zmn {n kind none:Int}(h0 : -1000000000≤n) (h1:n≤1000000000) (hk0:0≤kind) (hk1:kind≤3):(ZeP n kind none).size≤100:=by
 have hL:=Zfv h0 h1
 have hkl:kind.toNat<clkS.length:=by have:clkS.length=4:=rfl;omega
 have hcs:=clk_at hkl
 unfold ZeP
 split
 ·rw [ZaQ];omega
 ·rw [ByteArray.size_append,ZaQ,List.getD_eq_getElem?_getD,List.getElem?_eq_getElem hkl]
  simp only [Option.getD_some];omega
theorem sizeForm {k w n:Int}(h0 : -1000000000≤n) (h1:n≤1000000000):(Zjw k w n).size≤40:=by
 have hL:=Zog h0 h1
 have hds:=Zqc (k:=w)
 have h4:(⟨#[108,97,115,116]⟩:ByteArray).size=4:=rfl
 have h5:(⟨#[62,61]⟩:ByteArray).size=2:=rfl
 have h6:(⟨#[60,61]⟩:ByteArray).size=2:=rfl
 have key : ∀ x∈Zol (dayS w) n,x.size≤40:=by
  intro x hx
  simp only [Zol,List.mem_cons,List.not_mem_nil,or_false] at hx
  rcases hx with rfl | rfl | rfl | rfl | rfl
  ·exact Nat.zero_le _
  ·rw [ZaQ];omega
  ·rw [ByteArray.size_append];omega
  ·rw [ByteArray.size_append,ByteArray.size_append,ZaQ];omega
  ·rw [ByteArray.size_append,ByteArray.size_append,ZaQ];omega
 unfold Zjw
 by_cases hkl:k.toNat<(Zol (dayS w) n).length
 ·rw [List.getD_eq_getElem?_getD,List.getElem?_eq_getElem hkl];exact key _ (List.getElem_mem hkl)
 ·rw [List.getD_eq_getElem?_getD,List.getElem?_eq_none (by omega)];exact Nat.zero_le _
theorem Zsm {k:Int}:(monS k).size≤3:=by
 have key : ∀ x∈((⟨#[]⟩:ByteArray)::monL),x.size≤3:=by decide
 unfold monS
 by_cases hkl:k.toNat<((⟨#[]⟩:ByteArray)::monL).length
 ·rw [List.getD_eq_getElem?_getD,List.getElem?_eq_getElem hkl];exact key _ (List.getElem_mem hkl)
 ·rw [List.getD_eq_getElem?_getD,List.getElem?_eq_none (by omega)];exact Nat.zero_le _
theorem sizeTo {f t:Int}(h0 : -1000000000≤t) (h1:t≤1000000000):(toT f t).size≤40:=by
 have:=Ze0 (k:=4) h0 h1
 unfold toT
 split
 ·decide
 ·split
  ·decide
  ·rw [ZaQ];omega
theorem sizeOr {s o:ByteArray}(hs:s.size≤100) (ho:o.size≤100):(orT s o).size≤100:=by
 unfold orT;split <;> assumption
theorem ZfL {s:ByteArray}(h:ZbL s=true):s.size≤24:=by
 unfold ZbL at h
 simp only [Bool.and_eq_true,decide_eq_true_eq] at h
 exact h.1.1.2
theorem Ziq {s:ByteArray}(h:ZbZ s=true):s.size≤24:=by
 unfold ZbZ at h
 simp only [Bool.and_eq_true,decide_eq_true_eq] at h
 exact h.1
theorem ZjS {s:ByteArray}(h:Zb0 s=true):s.size≤24:=by
 unfold Zb0 at h
 split at h
 ·cases h
 ·omega
def small (l:List Ln):Prop := ∀ x∈l,∀ f∈x.2.2,f.size≤100
theorem Zqx {r:Rul}(h:shR r) : ∀ f∈ZnU r,f.size≤100:=by
 obtain ⟨h1,h2,h3,h4,h5,h6,h7,h8,h9,h10⟩:=h
 intro f hf
 simp only [Zmy,List.mem_cons,List.not_mem_nil,or_false] at hf
 rcases hf with rfl | rfl | rfl | rfl | rfl | rfl | rfl | rfl | rfl
 ·decide
 ·have:=ZfL h9;omega
 ·rw [ZaQ];have:=Ze0 (n:=r.2.1) (k:=4) (by omega) (by omega);omega
 ·have:=sizeTo (f:=r.2.1) (t:=r.2.2.1) (by omega) (by omega);omega
 ·have:=Zsm (k:=r.2.2.2.1);omega
 ·have:=sizeForm (k:=r.2.2.2.2.1.1) (w:=r.2.2.2.2.1.2.1) (n:=r.2.2.2.2.1.2.2) (by omega) (by omega);omega
 ·exact Zmn (by omega) (by omega) (by omega) (by omega)
 ·rw [ZaQ];have:=Zfv (n:=r.2.2.2.2.2.2.2.1) (by omega) (by omega);omega
 ·exact sizeOr (by have:=Ziq h10;omega) (by decide)
theorem Zsk {x:Era}(h:shX x) (hr:x.2.1.size≤24) (hf:x.2.2.2.1.size≤24) : ∀ f∈eraG x,f.size≤100:=by
 obtain ⟨h1,h2,h3⟩:=h
 intro f hx
 unfold eraG eraF at hx
 rcases List.mem_append.1 hx with hx | hx
 ·simp only [List.mem_cons,List.not_mem_nil,or_false] at hx
  rcases hx with rfl | rfl | rfl
  ·rw [ZaQ];have:=Zfv (n:=x.1) (by omega) (by omega);omega
  ·split
   ·rw [ZaQ];have:=Zfv (n:=x.2.2.1) (by omega) (by omega);omega
   ·exact sizeOr (by omega) (by decide)
  ·omega
 ·split at hx
  ·cases hx
  ·rename_i ho
   obtain ⟨a1,a2,a3,a4,a5⟩:=h3 (by simpa using ho)
   simp only [List.mem_cons,List.not_mem_nil,or_false] at hx
   rcases hx with rfl | rfl | rfl | rfl
   ·rw [ZaQ];have:=Ze0 (n:=x.2.2.2.2.2.1.1) (k:=4) (by omega) (by omega);omega
   ·have:=Zsm (k:=x.2.2.2.2.2.1.2.1);omega
   ·rw [ZaQ];have:=Zog (n:=x.2.2.2.2.2.1.2.2) (by omega) (by omega);omega
   ·exact Zmn (by omega) (by omega) (by omega) (by omega)
theorem Zqw {nm:ByteArray}{es:List Era}(hn:nm.size≤24) (h : ∀ x∈es,∀ f∈eraG x,f.size≤100):small (ZdS nm es):=by
 cases es with
 | nil=>intro x hx;cases hx
 | cons e es =>
  intro x hx f hf
  rw [ZdS] at hx
  rcases List.mem_cons.1 hx with rfl | hx
  ·rcases List.mem_append.1 hf with hf | hf
   ·simp only [List.mem_cons,List.not_mem_nil,or_false] at hf
    rcases hf with rfl | rfl
    ·decide
    ·omega
   ·exact h e (by simp) f hf
  ·obtain ⟨y,hy,rfl⟩:=List.mem_map.1 hx
   exact h y (by simp [hy]) f hf
theorem Zp7 : ∀ {l:List Era},Zeg l=0 → ∀ x∈l,x.2.1.size≤24∧x.2.2.2.1.size≤24
 | [],h,x,hx=>by cases hx
 | y::l,h,x,hx=>by
  rw [Zeg] at h
  split at h
  ·rename_i h1;exact absurd h h1
  ·rename_i h1
   rcases List.mem_cons.1 hx with rfl | hx
   ·obtain ⟨_,a,b,_⟩:=Zkd (Decidable.of_not_not h1)
    refine ⟨?_,ZjS b⟩
    by_cases he:x.2.1=⟨#[]⟩
    ·rw [he];decide
    ·exact ZfL (a he)
   ·exact Zp7 h x hx
theorem ZnQ {s:Src}(h:ZbT s=0):small (Zec s):=by
 obtain ⟨_,h1,h2,h3⟩:=Zfa h
 intro x hx f hf
 unfold Zec at hx
 rcases List.mem_append.1 hx with hx | hx
 ·rcases List.mem_append.1 hx with hx | hx
  ·obtain ⟨r,hr,rfl⟩:=List.mem_map.1 hx
   exact Zqx (Zk3 (Zcb h1 r hr)) f hf
  ·obtain ⟨z,hz,hx⟩:=List.mem_flatMap.1 hx
   have hz0:=Zcb h2 z hz
   obtain ⟨a,b,c⟩:=ZkI hz0
   have hF:=Zp7 (l:=z.2) (by unfold Zei at hz0;split at hz0;exact absurd hz0 (by decide);exact hz0)
   exact Zqw (ZfL a) (fun y hy=>Zsk (c y hy) (hF y hy).1 (hF y hy).2) x hx f hf
 ·obtain ⟨l,hl,rfl⟩:=List.mem_map.1 hx
  have:=Zcb h3 l hl
  unfold ZdW at this
  split at this
  ·exact absurd this (by decide)
  ·rename_i hh
   have hh:=Decidable.of_not_not hh
   simp only [ZeL,Zlj,List.mem_cons,List.not_mem_nil,or_false] at hf
   rcases hf with rfl | rfl | rfl
   ·decide
   ·have:=ZfL hh.1;omega
   ·have:=ZfL hh.2;omega
theorem Zn7 {l:List Ln}(h:small l):okLns l:=fun x hx f hf=>Nat.le_trans (h x hx f hf) (by decide)
end Go.Proofs.YtgjchdhdopgkkaaGreatDoor
end
section
namespace Go.Proofs.YtgjchdhdopgkkaaGreatDoor
open Go.Ab Go.RowKit Civ
attribute [local simp] Za4 Zbj Zca Za5 Zbd Zdi ZjT Zir
section
theorem Zry {a0 a1 a2:AV}{l:List AV}:((a0::a1::a2::l).drop 0).take 3=[a0,a1,a2]:=rfl
theorem Znx {τ:Operand→AV}:Zat τ [] [(.sl 0 0 true [])]=some [(.sl 0 0 true [])]:=rfl
theorem Zrx {a0 a1 a2 a3 a4 a5 a6 a7 a8 a9 a10:AV}{l:List AV}:(a0::a1::a2::a3::a4::a5::a6::a7::a8::a9::a10::l).take 11=[a0,a1,a2,a3,a4,a5,a6,a7,a8,a9,a10]:=rfl
theorem Zo0 {a0 a1 a2 a3 a4 a5 a6 a7 a8 a9 a10 c0 c1 c2 c3 c4 c5 c6 c7 c8 c9 c10:AV}{l:List AV}:setCells (a0::a1::a2::a3::a4::a5::a6::a7::a8::a9::a10::l) 0 [c0,c1,c2,c3,c4,c5,c6,c7,c8,c9,c10]=c0::c1::c2::c3::c4::c5::c6::c7::c8::c9::c10::l:=rfl
theorem ZoZ {a0 a1 a2 a3 a4 a5 a6 a7 a8 a9 a10:AV}{l:List AV}:((a0::a1::a2::a3::a4::a5::a6::a7::a8::a9::a10::l).drop 0).take 11=[a0,a1,a2,a3,a4,a5,a6,a7,a8,a9,a10]:=rfl
theorem Znv {a0 a1:AV}{l:List AV}:(a0::a1::l).take 2=[a0,a1]:=rfl
theorem ZkB {a0 a1 c0 c1:AV}{l:List AV}:setCells (a0::a1::l) 0 [c0,c1]=c0::c1::l:=rfl
theorem Zrz {a0 a1:AV}{l:List AV}:((a0::a1::l).drop 0).take 2=[a0,a1]:=rfl
theorem Znw {τ:Operand→AV}{y0 y1 y2:Operand}{x0_0 x1_0 x2_0:AV}(h0:Zap (τ y0)=some [x0_0]) (l0:[x0_0].all leaf=true) (h1:Zap (τ y1)=some [x1_0]) (l1:[x1_0].all leaf=true) (h2:Zap (τ y2)=some [x2_0]) (l2:[x2_0].all leaf=true):Zat τ [(0,1,y0),(1,1,y1),(2,1,y2)] [(.v (.string ⟨#[]⟩)),(.v (.string ⟨#[]⟩)),(.v (.string ⟨#[]⟩))]=some [x0_0,x1_0,x2_0]:=by
 simp only [Zat,h0,l0,h1,l1,h2,l2]
 rfl
end
def c8:AC:=(Sr [Oo 1 (.box 26 3 (.tmp 0)),Ms 2,Mc 3 0] (.seq (Sr [Oo 12 (.load true 3 (.tmp 1)),Cl 13 17 [(.tmp 12)],Mv 4 13] (Sr [Mv 14 4,Bc 15 .neq 14 0] (Cd 15 (Sr [Mv 16 4,Ms 2,Mv 3 16] .ret) .skip))) (Sr [Oo 17 (.build [(.sl 0 0 true [])] []),Oo 18 (.box 44 1 (.tmp 17)),Mv 5 18] (.seq (Sr [Fa 19 0 1,Ld 20 19,Oo 21 (.len false (.tmp 20)),Mc 22 0] (.block 0 (.loop (Sr [Bn 23 .lss 22 21] (.seq (Cd 23 .skip (.exit 0)) (.seq (.block 1 (Sr [Oo 24 (.ia 11 (.tmp 20) (.tmp 22)),Oo 25 (.load true 11 (.tmp 24)),Oo 7 (.new 48 11 [Ss,(iv 0),(iv 0),(iv 0),(iv 0),(iv 0),(iv 0),(iv 0),(iv 0),(iv 0),Ss]),⟨none,none,(.store 11 (.tmp 7) (.tmp 25))⟩] (.reg [Mv 26 5,Oo 27 (.load true 11 (.tmp 7)),Cl 28 20 [(.tmp 26),(.tmp 27)]]))) (.reg [Bc 29 .add 22 1,Mv 22 29]))))))) (.seq (Sr [Fa 30 1 1,Ld 31 30,Oo 32 (.len false (.tmp 31)),Mc 33 0] (.block 2 (.loop (Sr [Bn 34 .lss 33 32] (.seq (Cd 34 .skip (.exit 2)) (.seq (.block 3 (Sr [Oo 35 (.ia 2 (.tmp 31) (.tmp 33)),Oo 36 (.load true 2 (.tmp 35)),Oo 9 (.new 52 2 [Ss,(.sl 0 0 true [])]),⟨none,none,(.store 2 (.tmp 9) (.tmp 36))⟩] (.reg [Mv 37 5,Oo 38 (.load true 2 (.tmp 9)),Cl 39 21 [(.tmp 37),(.tmp 38)]]))) (.reg [Bc 40 .add 33 1,Mv 33 40]))))))) (.seq (Sr [Fa 41 2 1,Ld 42 41,Oo 43 (.len false (.tmp 42)),Mc 44 0] (.block 4 (.loop (Sr [Bn 45 .lss 44 43] (.seq (Cd 45 .skip (.exit 4)) (.seq (.block 5 (Sr [Oo 46 (.ia 2 (.tmp 42) (.tmp 44)),Oo 47 (.load true 2 (.tmp 46)),Oo 11 (.new 55 2 [Ss,Ss]),⟨none,none,(.store 2 (.tmp 11) (.tmp 47))⟩] (.reg [Mv 48 5,Fa 49 0 11,Ld 50 49,Fa 51 1 11,Ld 52 51,Oo 53 (.lit 9 1 3 [Ss,Ss,Ss] [(0,(1,(.const (.string ⟨#[76,105,110,107]⟩)))),(1,(1,(.tmp 50))),(2,(1,(.tmp 52)))]),Cl 54 22 [(.tmp 48),(.const (.bool false)),(.tmp 53)]]))) (.reg [Bc 55 .add 44 1,Mv 44 55]))))))) (Sr [Mv 56 5,Nk 57 56,Fa 58 0 57,Ld 59 58,Cl 60 23 [(.tmp 59)],Ex 61 60 0,Ex 62 60 1,Mv 2 61,Mv 3 62] .ret)))))))
theorem k8:ZaH Tryz.prog 8=some ⟨c8,[(.tmp 2),(.tmp 3)],63⟩:=by kernel_rfl
theorem map_s {α β:Type}{f:α→β}{a:List α}{k:Nat}(h:k<a.length):(a.take (k+1)).map f=(a.take k).map f++[f a[k]]:=by
 rw [List.take_succ_eq_append_getElem h,List.map_append];rfl
theorem show_b {a:List Rul}{z:List Zon}{l:List Lnk}{h:AH}(hok:ZeJ (a,z,l)):Ac 8 [.agg [.sl a.length 11 false (rows rulC a),.sl z.length 2 false (rows zonC z),.sl l.length 2 false (rows lnkC l)]] h (.tup [sv (ZhU (a,z,l)).1,iv (ZhU (a,z,l)).2]):=by
 refine tI' k8 fun N hn hlt hlA hbd=>?_
 simp only [tb'] at hbd ⊢
 refine wr'<|E' (Zcm (cvl lk rfl) rfl (hl0 hn) ha0) pt<|mv' lks pt<|mv' lki pt<|sn'<|Zam<|wr'<|V' (Zau lk (hga hn rfl) Zry rfl) pt<|Zae mp (ZkW (a:=a) (z:=z) (l:=l) hok) pt<|mv' lk pt<|Zas<|?_
 refine Zai<|wr'<|mv' lk pt<|V' (Za6 lk lki) pt<|sn'<|?_
 refine cd' lk (fun hc1=>?_) (fun hc1=>?_)
 ·have hV:ZhU (a,z,l)=(⟨#[]⟩,ZbT (a,z,l)):=if_pos hc1
  refine wr'<|mv' lk pt<|mv' lks pt<|mv' lk pt<|sn'<|Zab<|Zak<|Zag ry<|rT'<|?_
  rw [hV]
 have hc:ZbT (a,z,l)=0:=Decidable.of_not_not hc1
 have hV:ZhU (a,z,l)=Zfo (Zec (a,z,l)):=if_neg hc1
 obtain ⟨hp0,hp1,hp2,hp3⟩:=Zfa hc
 obtain ⟨hm1,hm2,hm3,hm4⟩:=many_ok hp0
 dsimp only at hm1 hm2 hm3 hm4
 refine Zaf<|Zai<|wr'<|V' (ZaB Znx) pt<|E' (Zcm (cvl lk rfl) rfl (hl1 hn) ha1) pt<|mv' lk pt<|Zas<|?_
 refine ZbQ (ALe.own0Cell (st':=3) (ty:=67) (hga hn rfl) gt0 (hl2 hn) pt0 (Eq.trans (congrArg (fun z=>List.set z _ _) ha2) (hs1 hn))) ?_
 refine Zam<|wr'<|V' (Zaa lk) pt<|V' (Zac lk (hga hn rfl) gt0) pt<|V' (ZaK lk) pt<|mv' lki pt<|sn'<|Zao<|?_
 refine w_lp (ι:=Nat) (fun (k:Nat)=>[(22,iv (k:Int)),(7,.any)]++rn' 23 7) (fun (k:Nat)=>[(1,shP (N+2) ((a.take k).map Zdx)),(2,shL ((a.take k).map Zdx))]) (fun (k:Nat)=>k≤a.length) (fun (k:Nat)=>a.length-k) (0) (by exact Nat.zero_le _) ?_
 rintro k hi1
 try simp only [sm',Nat.reduceAdd]
 refine wr'<|V' (Zbu lk lk) pt<|sn'<|Zam<|?_
 refine cd' lk (fun hc2=>?_) (fun hc2=>?_)
 ·have hka:k<a.length:=by omega
  obtain ⟨b1,b2,b3,b4,b5,b6,b7,b8,_⟩:=Zk3 (Zcb hp1 _ (List.getElem_mem hka))
  refine Zaf<|Zai<|Zam<|Zao<|wr'<|?_
  refine V' (Zbg (k:=k) lk lk Zem (nb' rfl) ro (by omega) ro rfl) pt ?_
  refine V' (Zbk lk Zrx rfl) pt<|E' (Zbq (hl3 hn) ha3) pt<|E' (Zal lk (cvl lk rfl) (hga hn rfl) rfl (nb' rfl) rfl Zo0 (hs3 hn)) ptn<|sn'<|Zar<|mv' lk pt<|V' (Zau lk (hga hn rfl) ZoZ rfl) pt<|?_
  refine ZeV mp (shrule_a (L:=(a.take k).map Zdx) (hga hn rfl) (hga hn rfl) (by omega) (by rw [List.length_map,List.length_take];omega) (by omega) (by omega) (by omega) (by omega) (by omega) (by omega) (by omega) (by omega) (by omega)) pt ?_
  refine Zas<|ZaF<|Zai<|Zar<|?_
  refine V' (ZaE lk lki (by omega) (by omega)) pt ?_
  refine mv' lk pt<|Zas<|ZaI<|?_
  rw [hs1 hn,hs2 hn]
  refine lU' (k+1) (by (try dsimp only);omega) (by (try dsimp only);(try simp only [sm',Nat.reduceAdd]);exact bk' 3 hn hlt (by rw [map_s hka];rfl))
 obtain rfl:k=a.length:=by omega
 rw [List.take_length]
 refine Za0<|ZaO<|ZaO<|Zbp<|Zai<|Zam<|wr'<|V' (Zaa lk) pt<|V' (Zac lk (hga hn rfl) gt1) pt<|V' (ZaK lk) pt<|mv' lki pt<|sn'<|?_
 refine Zao ?_
 refine ZhD (ι:=Nat) (fun (k:Nat)=>[(33,iv (k:Int)),(9,.any)]++rn' 34 7) (fun (k:Nat)=>[(1,shP (N+2) (a.map Zdx++Zcf (z.take k))),(2,shL (a.map Zdx++Zcf (z.take k)))]) (fun (k:Nat)=>k≤z.length) (fun (k:Nat)=>z.length-k) (0) (by exact Nat.zero_le _) (by try simp only [sm',Nat.reduceAdd];exact ALe.same wA' (by rw [List.take_zero];simp [Zcf])) ?_
 rintro k hi2
 try simp only [sm',Nat.reduceAdd]
 refine wr'<|V' (Zbu lk lk) pt<|sn'<|Zam<|?_
 refine cd' lk (fun hc3=>?_) (fun hc3=>?_)
 ·have hkz:k<z.length:=by omega
  have hz0:=ZkI (Zcb hp2 _ (List.getElem_mem hkz))
  have hzl:=hm1 _ (List.getElem_mem hkz)
  have hzn:=Zhd (z:=z.take k) (fun x hx=>hm1 x (List.mem_of_mem_take hx))
  rw [List.length_take] at hzn
  refine Zaf<|Zai<|Zam<|Zao<|wr'<|?_
  refine V' (Zbg (k:=k) lk lk ZdT (nb' rfl) ro (by omega) ro rfl) pt ?_
  refine V' (Zbk lk Znv rfl) pt<|E' (Zbq (hl3 hn) ha3) pt<|E' (Zal lk (cvl lk rfl) (hga hn rfl) rfl (nb' rfl) rfl ZkB (hs3 hn)) ptn<|sn'<|Zar<|mv' lk pt<|V' (Zau lk (hga hn rfl) Zrz rfl) pt<|?_
  refine ZeV mp (shzone_a (L:=a.map Zdx++Zcf (z.take k)) (nm:=(z[k]).1) (es:=(z[k]).2) (hga hn rfl) (hga hn rfl) (by omega) (by rw [List.length_append,List.length_map];omega) hz0.2.2) pt ?_
  refine Zas<|ZaF<|Zai<|Zar<|?_
  refine V' (ZaE lk lki (by omega) (by omega)) pt ?_
  refine mv' lk pt<|Zas<|ZaI<|?_
  rw [hs1 hn,hs2 hn]
  have hL2:a.map Zdx++Zcf (z.take (k+1))=(a.map Zdx++Zcf (z.take k))++ZdS (z[k]).1 (z[k]).2:=by rw [zonesL_s hkz,List.append_assoc]
  refine lU' (k+1) (by (try dsimp only);omega) (by (try dsimp only);(try simp only [sm',Nat.reduceAdd]);exact bk' 3 hn hlt (by rw [hL2];rfl))
 obtain rfl:k=z.length:=by omega
 rw [List.take_length]
 have hzn:=Zhd (z:=z) hm1
 refine Za0<|ZaO<|ZaO<|Zbp<|Zai<|Zam<|wr'<|V' (Zaa lk) pt<|V' (Zac lk (hga hn rfl) gt2) pt<|V' (ZaK lk) pt<|mv' lki pt<|sn'<|?_
 refine Zao ?_
 refine ZhD (ι:=Nat) (fun (k:Nat)=>[(44,iv (k:Int)),(11,.any)]++rn' 45 11) (fun (k:Nat)=>[(1,shP (N+2) (a.map Zdx++Zcf z++(l.take k).map ZeL)),(2,shL (a.map Zdx++Zcf z++(l.take k).map ZeL))]) (fun (k:Nat)=>k≤l.length) (fun (k:Nat)=>l.length-k) (0) (by exact Nat.zero_le _) (by try simp only [sm',Nat.reduceAdd];exact ALe.same wA' (by rw [List.take_zero,List.map_nil,List.append_nil])) ?_
 rintro k hi3
 try simp only [sm',Nat.reduceAdd]
 refine wr'<|V' (Zbu lk lk) pt<|sn'<|Zam<|?_
 refine cd' lk (fun hc4=>?_) (fun hc4=>?_)
 ·have hkl:k<l.length:=by omega
  refine Zaf<|Zai<|Zam<|Zao<|wr'<|?_
  refine V' (Zbg (k:=k) lk lk ZdV (nb' rfl) ro (by omega) ro rfl) pt ?_
  refine V' (Zbk lk Znv rfl) pt<|E' (Zbq (hl3 hn) ha3) pt<|E' (Zal lk (cvl lk rfl) (hga hn rfl) rfl (nb' rfl) rfl ZkB (hs3 hn)) ptn<|sn'<|Zar<|mv' lk pt<|V' (Zaa lk) pt<|V' (Zac lk (hga hn rfl) gt0) pt<|V' (Zaa lk) pt<|V' (Zac lk (hga hn rfl) gt1) pt<|E' (Zeh (Znw (cvl lks rfl) rfl (cvl lk rfl) rfl (cvl lk rfl) rfl) (hl4 hn) ha4) pt<|?_
  refine ZeV mp (ACalls.iceArg (d:=2) (hga hn rfl) rfl (nb' rfl) rfl rfl (hs4 hn) (Zh2 (fs:=Zlj l[k]) (L:=a.map Zdx++Zcf z++(l.take k).map ZeL) (hga hn rfl) (hga hn rfl) (by omega) (by rw [List.length_append,List.length_append,List.length_map,List.length_map,List.length_take];omega))) pt ?_
  refine Zas<|ZaF<|Zai<|Zar<|?_
  refine V' (ZaE lk lki (by omega) (by omega)) pt ?_
  refine mv' lk pt<|Zas<|ZaI<|?_
  rw [hs1 hn,hs2 hn]
  have hL3:a.map Zdx++Zcf z++(l.take (k+1)).map ZeL=(a.map Zdx++Zcf z++(l.take k).map ZeL)++[(0,false,Zlj l[k])]:=by rw [map_s hkl,←List.append_assoc];rfl
  refine lU' (k+1) (by (try dsimp only);omega) (by (try dsimp only);(try simp only [sm',Nat.reduceAdd]);exact bk' 3 hn hlt (by rw [hL3];rfl))
 obtain rfl:k=l.length:=by omega
 rw [List.take_length]
 refine Za0<|ZaO<|ZaO<|Zbp<|?_
 refine ZbQ (ALe.iceCellR (hga hn rfl) (hga hn rfl) (by omega) gt0 (show List.take _ _=rows lnC (Zec (a,z,l)) from List.take_of_length_le (by rw [Zga];exact Nat.le_refl _)) (by rw [Zga];exact Nat.le_refl _) pt0 (hs2 hn) (hs1 hn)) ?_
 refine wr'<|mv' lk pt<|V' (ZaD lk) pt<|V' (Zaa lk) pt<|V' (Zac lk (hga hn rfl) gt0) pt<|Zae mp (lnJoin_a (l:=Zec (a,z,l)) (Zn7 (ZnQ hc))) pt<|V' (Zbb lk gt) pt<|V' (Zbb lk gt) pt<|mv' lk pt<|mv' lk pt<|sn'<|Zab<|?_
 refine Zag ry<|rT'<|?_
 rw [hV]
theorem Zst {s:Src}{h:AH}(hok:ZeJ s):Ac 8 [.agg (srcC s)] h (.tup [sv (ZhU s).1,iv (ZhU s).2]):=show_b hok
theorem ZpE {s t:Src}{h:AH}:Ac 13 [.agg (srcC s),.agg (srcC t)] h (bv (decide (s=t))):=same_b
end Go.Proofs.YtgjchdhdopgkkaaGreatDoor
end
section
namespace Go.Proofs.YtgjchdhdopgkkaaGreatDoor
open Go.Ab Go.RowKit Civ
attribute [local simp] Zbd
section
theorem ZlM {τ:Operand→AV}{y0 y1:Operand}{x0_0 x1_0:AV}(h0:Zap (τ y0)=some [x0_0]) (l0:[x0_0].all leaf=true) (h1:Zap (τ y1)=some [x1_0]) (l1:[x1_0].all leaf=true):Zat τ [(0,1,y0),(1,1,y1)] [(.v (.int .i64 0)),(.v (.int .i64 0))]=some [x0_0,x1_0]:=by
 simp only [Zat,h0,l0,h1,l1]
 rfl
end
def c144:AC:=(Sr [Mc 2 0] (Sr [Cl 3 54 [],Mv 4 0,Cl 5 112 [(.tmp 4)],Cl 6 176 [(.tmp 3),(.tmp 5)],Mv 2 6] .ret))
theorem k144:ZaH Tryz.prog 144=some ⟨c144,[(.tmp 2)],7⟩:=by kernel_rfl
def c147:AC:=(Sr [Mc 2 0] (.seq (Sr [Mv 8 0,Oo 9 (.bin .eql (.tmp 8) (.const (.string ⟨#[48]⟩)))] (Cd 9 (Sr [Mc 2 0] .ret) .skip)) (Sr [Mv 10 0,Oo 11 (.call (.func 75) [(.tmp 10),(.const (.string ⟨#[58]⟩))]),Mv 3 11] (.seq (Sr [Mv 12 3,Oo 13 (.len false (.tmp 12)),Bc 14 .lss 13 2,Mv 15 14,Of 16 15 (mt 3),Of 17 15 (.len false (.tmp 16)),Of 18 15 (.bin .gtr (.tmp 17) (Ci 3)),Oo 19 (.pick (.tmp 15) (.const (.bool true)) (.tmp 18))] (Cd 19 (.reg [Cl 20 111 []]) .skip)) (Sr [Mv 21 3,Oo 22 (.ia 1 (.tmp 21) (Ci 0)),Ld 23 22,Cl 24 143 [(.tmp 23),(Ci 1),(Ci 2)],Oo 25 (.bin .mul (Ci 3600) (.tmp 24)),Mv 4 25] (.seq (Sr [Mv 26 3,Oo 27 (.slc 1 (.tmp 26) (some (Ci 1)) none none),Oo 28 (.len false (.tmp 27)),Mc 29 0] (.block 0 (.loop (Sr [Bn 30 .lss 29 28] (.seq (Cd 30 .skip (.exit 0)) (.seq (.block 1 (Sr [Mv 31 29,Oo 32 (.ia 1 (.tmp 27) (.tmp 29)),Ld 33 32,Mv 5 31,Mv 6 33] (Sr [Mv 34 6,Cl 35 143 [(.tmp 34),(Ci 2),(Ci 2)],Mv 7 35] (.seq (Sr [Mv 36 7,Bc 37 .gtr 36 59] (Cd 37 (.reg [Cl 38 111 []]) .skip)) (.reg [Mv 39 4,Mv 40 7,Oo 41 (.lit 3 1 2 [(iv 0),(iv 0)] [(0,(1,(Ci 60))),(1,(1,(Ci 1)))]),Mv 42 5,Oo 43 (.ia 1 (.tmp 41) (.tmp 42)),Ld 44 43,Bn 45 .mul 40 44,Bn 46 .add 39 45,Mv 4 46]))))) (.reg [Bc 47 .add 29 1,Mv 29 47]))))))) (Sr [Mv 48 4,Mv 2 48] .ret)))))))
theorem k147:ZaH Tryz.prog 147=some ⟨c147,[(.tmp 2)],49⟩:=by kernel_rfl
theorem ls' {p:Prop}(h:p:=by first | rfl | (simp only [AV.lt,AV.ltL,Ent.lt,List.all_cons,List.all_nil,Bool.and_true,Bool.and_self,decide_true,Zbd];done) | exact lt'):p:=h
theorem Za8 {α β:Type}{f:RM α}{k:α→RM β}{l l':List ByteArray}{a:α}(e:f l=some (a,l')):ZaN f k l=k a l':=by unfold ZaN;rw [e]
theorem Zbh {α β:Type}{f:RM α}{k:α→RM β}{l:List ByteArray}(e:f l=none):ZaN f k l=none:=by unfold ZaN;rw [e]
theorem bindR_assoc {α β γ:Type}{f:RM α}{g:α→RM β}{k:β→RM γ}:ZaN (ZaN f g) k=ZaN f (fun a=>ZaN (g a) k):=by
 funext l
 unfold ZaN
 cases f l <;> rfl
theorem ZbX {α β:Type}{o:Option α}{k:α→RM β}{l:List ByteArray}{a:α}(e:o=some a):ZaN (Zbs o) k l=k a l:=by subst e;rfl
theorem Zck {α β:Type}{o:Option α}{k:α→RM β}{l:List ByteArray}(e:o=none):ZaN (Zbs o) k l=none:=by subst e;rfl
def okL (l:List ByteArray):Prop := ∀ x∈l,x.size≤24
theorem Zb8 {l l':List ByteArray}{s:ByteArray}(ho:okL l) (e:Zbf l=some (s,l')):s.size≤24∧okL l':=by
 cases l with
 | nil=>cases e
 | cons x l =>
  simp only [Zbf,Option.some.injEq,Prod.mk.injEq] at e
  obtain ⟨rfl,rfl⟩:=e
  exact ⟨ho x (by simp),fun y hy=>ho y (List.mem_cons_of_mem _ hy)⟩
theorem Zlb {l l':List ByteArray}{s:ByteArray}(ho:okL l) (e:ZcI l=some (s,l')):s.size≤24∧okL l':=by
 unfold ZcI ZaN at e
 cases hn:Zbf l with
 | none=>rw [hn] at e;cases e
 | some p =>
  rw [hn] at e
  obtain ⟨h1,h2⟩:=Zb8 ho hn
  simp only [Zbs] at e
  by_cases hb:ZbL p.1=true
  ·rw [if_pos hb] at e;cases e;exact ⟨h1,h2⟩
  rw [if_neg hb] at e;cases e
theorem ZmN {l l':List ByteArray}{n:Int}(ho:okL l) (e:Zdg l=some (n,l')):okL l':=by
 unfold Zdg ZaN at e
 cases hn:Zbf l with
 | none=>rw [hn] at e;cases e
 | some p =>
  rw [hn] at e
  obtain ⟨h1,h2⟩:=Zb8 ho hn
  simp only [Zbs] at e
  cases hi:idxL monL p.1 1 with
  | none=>rw [hi] at e;cases e
  | some n=>rw [hi] at e;cases e;exact h2
theorem ZcZ {l l':List ByteArray}{s:ByteArray}{id:Nat}{h:AH}(e:Zbf l=some (s,l')) (h1:h[id]?=some (rdE l)):ACalls Tryz.prog 112 [.ptr id 0 0] h fun x h'=>x=.ret (sv s)∧h'=h.set id (rdE l'):=RS.a (p:=(sv s,l')) (ZgG h1) (by rw [e];rfl)
theorem ZcY {l:List ByteArray}{id:Nat}{h:AH}(e:Zbf l=none) (h1:h[id]?=some (rdE l)):ACalls Tryz.prog 112 [.ptr id 0 0] h fun x h'=>x=.pan wrA ∧ ∃ l',h'=h.set id (rdE l'):=RS.p (ZgG h1) (by rw [e];rfl)
theorem ZkV {l l':List ByteArray}{s:ByteArray}{id:Nat}{h:AH}(ho:okL l) (e:ZcI l=some (s,l')) (h1:h[id]?=some (rdE l)):ACalls Tryz.prog 115 [.ptr id 0 0] h fun x h'=>x=.ret (sv s)∧h'=h.set id (rdE l'):=RS.a (p:=(sv s,l')) (Zmk ho h1) (by rw [e];rfl)
theorem ZkU {l:List ByteArray}{id:Nat}{h:AH}(ho:okL l) (e:ZcI l=none) (h1:h[id]?=some (rdE l)):ACalls Tryz.prog 115 [.ptr id 0 0] h fun x h'=>x=.pan wrA ∧ ∃ l',h'=h.set id (rdE l'):=RS.p (Zmk ho h1) (by rw [e];rfl)
theorem ZgC {s:ByteArray}{a b n:Int}{h:AH}(hz:s.size≤24) (ha1:1≤a) (hb4:b≤4) (e:numV s a b=some n):Ac 143 [sv s,iv a,iv b] h (iv n):=Zn0 (Zit hz ha1 hb4) (by rw [e];rfl)
theorem ZgB {s:ByteArray}{a b:Int}{h:AH}(hz:s.size≤24) (ha1:1≤a) (hb4:b≤4) (e:numV s a b=none):ACalls Tryz.prog 143 [sv s,iv a,iv b] h fun x h'=>h'=h∧x=.pan wrA:=ZnZ (Zit hz ha1 hb4) (by rw [e];rfl)
theorem idx_mon0:idxL monL ⟨#[]⟩ 1=none:=by decide
theorem idx_day0:idxL dayL ⟨#[]⟩ 0=none:=by decide
theorem one_mon {s:ByteArray}:(if s=⟨#[]⟩ then none else (idxL (⟨#[]⟩::monL) s 0).map iv)=(idxL monL s 1).map iv:=by
 by_cases h:s=⟨#[]⟩
 ·rw [if_pos h,h,idx_mon0];rfl
 rw [if_neg h,idxL,if_neg h];rfl
theorem one_day {s:ByteArray}:(if s=⟨#[]⟩ then none else (idxL dayL s 0).map iv)=(idxL dayL s 0).map iv:=by
 by_cases h:s=⟨#[]⟩
 ·rw [if_pos h,h,idx_day0];rfl
 rw [if_neg h]
theorem Zpz {s:ByteArray}{h:AH}:ACalls Tryz.prog 176 [.sl (⟨#[]⟩::monL).length 1 false (rows strC (⟨#[]⟩::monL)),sv s] h fun x h'=>h'=h∧x=res ((idxL monL s 1).map iv):=by
 have:=Zpw (l:=⟨#[]⟩::monL) (s:=s) (h:=h)
 rw [one_mon] at this
 exact this
theorem ZfM {s:ByteArray}{h:AH}:ACalls Tryz.prog 176 [.sl dayL.length 1 false (rows strC dayL),sv s] h fun x h'=>h'=h∧x=res ((idxL dayL s 0).map iv):=by
 have:=Zpw (l:=dayL) (s:=s) (h:=h)
 rw [one_day] at this
 exact this
theorem ZjR {l:List ByteArray}{id:Nat}{h:AH}(h1:h[id]?=some (rdE l)):ACalls Tryz.prog 144 [.ptr id 0 0] h (RS id h ((Zdg l).map fun p=>(iv p.1,p.2))):=by
 have hid:id<h.length:=(List.getElem?_eq_some_iff.1 h1).1
 refine tJ' k144 fun N hn hlt hlA hbd=>?_
 simp only [tb'] at hbd ⊢
 refine ZbG (h1:=h.set id (rdE l)++[]) (by rw [ZbU h1]) ?_
 refine wr'<|mv' lki pt<|sn'<|wr'<|Zae mp0 (Zlf) pt<|mv' lk pt<|?_
 by_cases hs4 : ∃ p,Zbf l=some p
 ·obtain ⟨⟨s,l1⟩,e1⟩:=hs4
  refine ZaA mp (ZcZ e1 (ZaC hid)) (Zax hid) pt ?_
  by_cases hs5 : ∃ n,idxL monL s 1=some n
  ·obtain ⟨n,e2⟩:=hs5
   have hN:Zdg l=some (n,l1):=by unfold Zdg;rw [Za8 e1];unfold Zbs;rw [e2]
   refine Zae mp (Zn0 (v:=iv n) Zpz (by rw [e2];rfl)) pt ?_
   refine mv' lk pt<|sn'<|Zab<|Zag rz<|?_
   exact ⟨_,_,rfl,Zad hn,ZaR hlt ZaJ,rfl,by rw [hN];exact ⟨rfl,rfl⟩⟩
  have e2:=ZaT hs5
  have hN:Zdg l=none:=by unfold Zdg;rw [Za8 e1];unfold Zbs;rw [e2]
  refine Zay mp (ZnZ Zpz (by rw [e2];rfl)) ?_
  refine ZaS<|Zba<|?_
  exact ⟨_,_,rfl,Zad hn,ZaR hlt ZaJ,rfl,by rw [hN];exact ⟨rfl,l1,rfl⟩⟩
 have e1:=ZaT hs4
 have hN:Zdg l=none:=Zbh e1
 refine ZaP mp (ZcY e1 (ZaC hid)) (fun hP_ hPp_=>?_)
 refine ZaS<|Zba<|?_
 obtain ⟨l',rfl⟩:=hPp_
 rw [Zax hid]
 exact ⟨_,_,rfl,Zad hn,ZaR hlt ZaJ,rfl,by rw [hN];exact ⟨rfl,l',rfl⟩⟩
theorem Zpy {l l':List ByteArray}{n:Int}{id:Nat}{h:AH}(e:Zdg l=some (n,l')) (h1:h[id]?=some (rdE l)):ACalls Tryz.prog 144 [.ptr id 0 0] h fun x h'=>x=.ret (iv n)∧h'=h.set id (rdE l'):=RS.a (p:=(iv n,l')) (ZjR h1) (by rw [e];rfl)
theorem Zpx {l:List ByteArray}{id:Nat}{h:AH}(e:Zdg l=none) (h1:h[id]?=some (rdE l)):ACalls Tryz.prog 144 [.ptr id 0 0] h fun x h'=>x=.pan wrA ∧ ∃ l',h'=h.set id (rdE l'):=RS.p (ZjR h1) (by rw [e];rfl)
def accV:Int→Nat→List ByteArray→Option Int
 | n,_,[]=>some n
 | n,i,x::xs=>match sixV x with
  | none=>none
  | some k=>accV (n+k*(if i=0 then 60 else 1)) (i+1) xs
theorem accV_at {n:Int}{i j:Nat}{l:List ByteArray}(h:j<l.length):accV n i (l.drop j)=match sixV l[j] with
  | none=>none
  | some k=>accV (n+k*(if i=0 then 60 else 1)) (i+1) (l.drop (j+1)):=by
 rw [List.drop_eq_getElem_cons h,accV]
def spanP:List ByteArray→Option Int
 | []=>none
 | a::r=>match numV a 1 2 with
  | none=>none
  | some x=>accV (3600*x) 0 r
theorem spanP_at {ps:List ByteArray}(h:0<ps.length):spanP ps=match numV ps[0] 1 2 with
  | none=>none
  | some x=>accV (3600*x) 0 (ps.drop 1):=by
 cases ps with
 | nil=>cases h
 | cons a r=>rfl
theorem Zsc {s:ByteArray}{ps:List ByteArray}(h0:s≠bA [48]) (hc:cutC 58 (aB s)=ps.map aB) (h:ps.length=2∨ps.length=3):ZbV s=spanP ps:=by
 unfold ZbV
 rw [if_neg h0,hc]
 rcases h with h | h
 ·match ps,h with
  | [a,b],_ =>
   simp only [List.map_cons,List.map_nil,Znf,spanP]
   cases numV a 1 2 with
   | none=>rfl
   | some x =>
    simp only [accV]
    cases sixV b with
    | none=>rfl
    | some y=>simp only [if_pos];congr 1;omega
 match ps,h with
 | [a,b,c],_ =>
  simp only [List.map_cons,List.map_nil,Znf,spanP]
  cases numV a 1 2 with
  | none=>rfl
  | some x =>
   simp only [accV]
   cases sixV b with
   | none=>rfl
   | some y =>
    simp only
    cases sixV c with
    | none=>rfl
    | some z=>simp;omega
theorem sixV_of {s:ByteArray}{n:Int}(h:numV s 2 2=some n):sixV s=if n>59 then none else some n:=by unfold sixV;rw [h]
theorem sixV_no {s:ByteArray}(h:numV s 2 2=none):sixV s=none:=by unfold sixV;rw [h]
theorem cutC_map {s:ByteArray}:cutC 58 (aB s)=((cutC 58 (aB s)).map bA).map aB:=by rw [List.map_map];simp [Function.comp_def,Zhw]
theorem Zmj {s:ByteArray}{ps:List ByteArray}(h0:s≠bA [48]) (hc:cutC 58 (aB s)=ps.map aB) (h2:ps.length≠2) (h3:ps.length≠3):ZbV s=none:=by
 unfold ZbV
 rw [if_neg h0,hc]
 match ps,h2,h3 with
 | [],_,_=>rfl
 | [_],_,_=>rfl
 | [_,_],h,_=>exact absurd rfl h
 | [_,_,_],_,h=>exact absurd rfl h
 | _::_::_::_::_,_,_=>rfl
end Go.Proofs.YtgjchdhdopgkkaaGreatDoor
end
