/-
  Part 2 of the proof: own lemmas and contracts on plain data. No condition beyond those that each lemma states.
-/
import Derived.Test.YtlekejpogddndaaGreatDoorLo1
import Derived.Lib.IndexBytes
import Derived.RangeFuncLeaves
import Derived.Sort.OwnSortedInts
import Derived.Maps.OwnOps
import Derived.Maps.RangeWalk
import Derived.Maps.Views
import Derived.Sort.KeysCollected
import Derived.WalkSpells
import Derived.WalkLawsBesides
import Derived.Lib.Hide
set_option linter.all false
set_option maxRecDepth 1000000
set_option maxHeartbeats 4000000
section
namespace Go.Proofs.YtlekejpogddndaaGreatDoor
open Go.Ab Civ
def c153:AC:=(Sr [Oo 5 (.box 34 3 (.tmp 2)),Oo 6 (.new 59 3 [(iv 0),(iv 0),(iv 0)]),Mc 7 0] (.seq (Sr [Mv 11 0,Cl 12 73 [(.tmp 11),(Ci 1),(Ci 9999)],Oo 13 (.un .not (.tmp 12)),Mv 14 13,Of 15 14 (mt 1),Of 16 14 (.call (.func 73) [(.tmp 15),(Ci 1),(Ci 12)]),Of 17 14 (.un .not (.tmp 16)),Oo 18 (.pick (.tmp 14) (.const (.bool true)) (.tmp 17))] (Cd 18 (Sr [Oo 19 (.build [(iv 0),(iv 0),(iv 0)] []),⟨none,none,(.store 3 (.tmp 6) (.tmp 19))⟩,Mc 7 3] .ret) .skip)) (.seq (Sr [Fa 20 0 5,Ld 21 20,Cl 22 73 [(.tmp 21),(Ci 1),(Ci 4)],Oo 23 (.un .not (.tmp 22))] (Cd 23 (Sr [Oo 24 (.build [(iv 0),(iv 0),(iv 0)] []),⟨none,none,(.store 3 (.tmp 6) (.tmp 24))⟩,Mc 7 7] .ret) .skip)) (.seq (Sr [Fa 25 1 5,Ld 26 25,Cl 27 73 [(.tmp 26),(Ci 0),(Ci 6)],Oo 28 (.un .not (.tmp 27)),Mv 29 28,Of 30 29 (.fa 0 (.tmp 5)),Of 31 29 (.load false 1 (.tmp 30)),Of 32 29 (.bin .eql (.tmp 31) (Ci 1)),Of 33 29 (mt 32),Ot 34 33 (.fa 1 (.tmp 5)),Ot 35 33 (.load false 1 (.tmp 34)),Ot 36 33 (.bin .neq (.tmp 35) (Ci 0)),Of 37 29 (.pick (.tmp 33) (.tmp 36) (.const (.bool false))),Oo 38 (.pick (.tmp 29) (.const (.bool true)) (.tmp 37))] (Cd 38 (Sr [Oo 39 (.build [(iv 0),(iv 0),(iv 0)] []),⟨none,none,(.store 3 (.tmp 6) (.tmp 39))⟩,Mc 7 3] .ret) .skip)) (Sr [Mv 40 0,Mv 41 1,Cl 42 228 [(.tmp 40),(.tmp 41)],Mv 8 42] (.seq (Sr [Fa 43 0 5,Ld 44 43,Bc 45 .eql 44 2,Mv 46 45,Ot 47 46 (.fa 2 (.tmp 5)),Ot 48 46 (.load false 1 (.tmp 47)),Ot 49 46 (.bin .neq (.tmp 48) (Ci 0)),Oo 50 (.pick (.tmp 46) (.tmp 49) (.const (.bool false))),Mv 51 50,Of 52 51 (.fa 0 (.tmp 5)),Of 53 51 (.load false 1 (.tmp 52)),Of 54 51 (.bin .neq (.tmp 53) (Ci 2)),Of 55 51 (mt 54),Ot 56 55 (.fa 2 (.tmp 5)),Ot 57 55 (.load false 1 (.tmp 56)),Ot 58 55 (mt 8),Ot 59 55 (.call (.func 73) [(.tmp 57),(Ci 1),(.tmp 58)]),Ot 60 55 (.un .not (.tmp 59)),Of 61 51 (.pick (.tmp 55) (.tmp 60) (.const (.bool false))),Oo 62 (.pick (.tmp 51) (.const (.bool true)) (.tmp 61))] (Cd 62 (Sr [Oo 63 (.build [(iv 0),(iv 0),(iv 0)] []),⟨none,none,(.store 3 (.tmp 6) (.tmp 63))⟩,Mc 7 3] .ret) .skip)) (Sr [Mv 64 0,Mv 65 1,Oo 66 (.build [(iv 0),(iv 0),(iv 0)] [(0,(1,(.tmp 64))),(1,(1,(.tmp 65))),(2,(1,(Ci 1)))]),Cl 67 149 [(.tmp 66)],Bc 68 .sub 67 1,Mv 9 68] (.seq (Sr [Fa 69 0 5,Ld 70 69] (.block 0 (Sr [Bc 76 .eql 70 1,Mv 75 76] (Cd 75 (.reg [Mv 77 9,Fa 78 2 5,Ld 79 78,Bn 80 .add 77 79,Mv 9 80]) (Sr [Bc 82 .eql 70 2,Mv 81 82] (Cd 81 (.reg [Mv 83 9,Mv 84 8,Bn 85 .add 83 84,Mv 9 85]) (.reg [Mv 71 9,Fa 72 2 5,Ld 73 72,Bn 74 .add 71 73,Mv 9 74]))))))) (.seq (Sr [Mc 10 0] (.block 1 (.loop (.seq (Sd [Mv 86 10,Bc 87 .lss 86 7,Mv 88 87,Ot 89 88 (.fa 0 (.tmp 5)),Ot 90 88 (.load false 1 (.tmp 89)),Ot 91 88 (.bin .gtr (.tmp 90) (Ci 1)),Oo 92 (.pick (.tmp 88) (.tmp 91) (.const (.bool false))),Mv 93 92,Ot 94 93 (mt 9),Ot 95 93 (.call (.func 229) [(.tmp 94)]),Ot 96 93 (.fa 1 (.tmp 5)),Ot 97 93 (.load false 1 (.tmp 96)),Ot 98 93 (.bin .neq (.tmp 95) (.tmp 97)),Oo 99 (.pick (.tmp 93) (.tmp 98) (.const (.bool false)))] (Cd 99 .skip (.exit 1))) (.seq (.block 2 (Sr [Fa 102 0 5,Ld 103 102,Bc 104 .eql 103 3] (Cd 104 (.reg [Mv 105 9,Bc 106 .add 105 1,Mv 9 106]) (.reg [Mv 107 9,Bc 108 .sub 107 1,Mv 9 108])))) (.reg [Mv 100 10,Bc 101 .add 100 1,Mv 10 101])))))) (.seq (Sr [Mv 109 9,Cl 110 74 [],Cl 111 75 [],Cl 112 73 [(.tmp 109),(.tmp 110),(.tmp 111)],Oo 113 (.un .not (.tmp 112))] (Cd 113 (Sr [Oo 114 (.build [(iv 0),(iv 0),(iv 0)] []),⟨none,none,(.store 3 (.tmp 6) (.tmp 114))⟩,Mc 7 3] .ret) .skip)) (Sr [Mv 115 9,Cl 116 230 [(.tmp 115)],⟨none,none,(.store 3 (.tmp 6) (.tmp 116))⟩,Mc 7 0] .ret)))))))))))
theorem k153:ZaA Tryz.prog 153=some ⟨c153,[(.cell 6 true 3),(.tmp 7)],117⟩:=by kernel_rfl
namespace Civ
def fwd (n k:Int):Int:=n+(k-wd n)%7
def bwd (n k:Int):Int:=n-(wd n-k)%7
theorem Zrw {n k j:Int}(h0:0≤j) (h1:j≤(k-wd n)%7) (hk:0≤k∧k≤6):wd (n+j)=k↔j=(k-wd n)%7:=by unfold wd at *;omega
theorem Zrx {n k j:Int}(h0:0≤j) (h1:j≤(wd n-k)%7) (hk:0≤k∧k≤6):wd (n-j)=k↔j=(wd n-k)%7:=by unfold wd at *;omega
def ZbX (y m kind wk n:Int):Int :=
 if ¬(1≤y∧y≤9999)∨¬(1≤m∧m≤12) then 3
 else if ¬(1≤kind∧kind≤4) then 7
 else if ¬(0≤wk∧wk≤6)∨kind=1∧wk≠0 then 3
 else if kind=2∧n≠0∨kind≠2∧¬(1≤n∧n≤mlen y m) then 3
 else 0
def Zdj (y m kind wk n:Int):Int :=
 if kind=2 then bwd (num y m (mlen y m)) wk else if kind=3 then fwd (num y m n) wk else if kind=4 then bwd (num y m n) wk else num y m n
def onV (y m kind wk n:Int):(Int×Int×Int)×Int :=
 if ZbX y m kind wk n≠0 then ((0,0,0),ZbX y m kind wk n)
 else if -719162≤Zdj y m kind wk n∧Zdj y m kind wk n≤2932896 then (Zbl (Zdj y m kind wk n),0) else ((0,0,0),3)
theorem formE_bd (y m kind wk n:Int):0≤ZbX y m kind wk n∧ZbX y m kind wk n≤7:=by
 unfold ZbX;repeat' split
 all_goals omega
theorem ZjP {y m kind wk n k:Int}(h:ZbX y m kind wk n=k) (hk:k≠0):onV y m kind wk n=((0,0,0),k):=by
 unfold onV;rw[h,if_pos hk]
theorem Ziz {y m kind wk n k:Int}(h:ZbX y m kind wk n=0) (hk:Zdj y m kind wk n=k):onV y m kind wk n=if -719162≤k∧k≤2932896 then (Zbl k,0) else ((0,0,0),3):=by
 unfold onV;rw[h,if_neg (by simp),hk]
theorem Zp8 (y m d:Int):num y m d=num y m 1+d-1:=by unfold num;omega
theorem ZkW {y m:Int}(hy:1≤y∧y≤20000) (hm:1≤m∧m≤12) : -8000000≤num y m 1∧num y m 1≤8000000:=by
 have:=bef_bd hy.1 hy.2
 have:=ZmI (y:=y) (m:=m) hm.1 om
 unfold num;omega
theorem num_ref1 {y m d:Int}(hm:3≤m) (hm2:m≤12):y/400*146097+y%400*365+y%400/4-y%400/100+(153*(m-3)+2)/5+d-1-719468=num y m d:=by
 have:=lp_iff y
 unfold num cum bef;rw[if_neg om,this];split <;> omega
theorem num_ref2 {y m d:Int}(hm:1≤m) (hm2:m<3):(y-1)/400*146097+(y-1)%400*365+(y-1)%400/4-(y-1)%400/100+(153*(m-3+12)+2)/5+d-1-719468=num y m d:=by
 unfold num cum bef;rw[if_pos om];omega
theorem Zsz (y:Int):num y 1 1=bef y-719162:=by unfold num;rw[Ztt];omega
theorem Zk1 {y m k wk n:Int}(h:ZbX y m k wk n=0):(1≤y∧y≤9999)∧(1≤m∧m≤12)∧(1≤k∧k≤4)∧(0≤wk∧wk≤6)∧(k=1→wk=0)∧(k=2→n=0)∧(k≠2→1≤n∧n≤mlen y m):=by
 unfold ZbX at h
 repeat' split at h
 all_goals omega
end Civ
theorem Zh4 {n:Int}{h:AH}:Ac 95 [iv n] h (iv (wd n)):=by
 have hb1 : -6≤n.tmod 7∧n.tmod 7≤6:=by rw[ZpN];split <;> omega
 have hb2 : -6≤(n.tmod 7+4).tmod 7∧(n.tmod 7+4).tmod 7≤6:=by rw[ZpN];split <;> omega
 refine tI' k95 fun N hn hlt hlA hbd=>?_
 simp only[tb'] at hbd ⊢
 refine wr'<|mw<|sn'<|wr'<|mw<|?_
 refine V' (ZlB lk lki om) pt ?_
 refine V' (Zay lk lki om om) pt ?_
 refine V' (ZlB lk lki om) pt ?_
 refine V' (Zay lk lki om om) pt ?_
 refine V' (ZlB lk lki om) pt ?_
 refine mw<|sn'<|Zaa<|Zae rz<|rT'<|?_
 exact ivx (wd_go n)
theorem toward_f {n k:Int}{h:AH}(h0 : -100000000≤n) (h1:n≤100000000) (hk:0≤k∧k≤6):Ac 166 [iv n,iv k,iv 1] h (iv (fwd n k)):=by
 refine tI' k166 fun N hn hlt hlA hbd=>?_
 simp only[tb'] at hbd ⊢
 refine wr'<|mw<|sn'<|Zam<|Zap<|?_
 refine Zhs (ι:=Nat) (fun (j:Nat)=>[(0,iv (n+j))]++rn' 7 7) (fun (j:Nat)=>[]) (fun (j:Nat)=>(j:Int)≤(k-wd n)%7) (fun (j:Nat)=>7-j) (0) (by have:=wd_bd n;omega) (by try simp only[sm',Nat.reduceAdd];exact ALe.same (by repeat (first | exact wk0 | refine wka ?_ | refine wk1 rfl ?_ | refine wk1 (by first | rfl | exact ivx (by simp)) ?_)) rfl) ?_
 rintro j hi1
 try simp only[sm',Nat.reduceAdd]
 have hwf:=Zrw (n:=n) (k:=k) (j:=j) om hi1 hk
 refine Zam<|wr'<|mw<|Zad mp (Zh4) pt<|mw<|Vw (ZaT lk lk)<|sn'<|?_
 refine cd' lk (fun hc1=>?_) (fun hc1=>?_)
 ·have hj:¬(j:Int)=(k-wd n)%7:=fun e=>hc1 (hwf.2 e)
  refine Zaf<|Zah<|Zap<|Zav<|mw<|mw<|?_
  refine V' (Zay lk lk om om) pt ?_
  refine mw<|Zas<|Zaz<|ZaB<|?_
  refine lU' (j+1) (by (try dsimp only);omega) (by (try dsimp only);(try simp only[sm',Nat.reduceAdd]);exact ALe.same (by repeat (first | exact wk0 | refine wka ?_ | refine wk1 rfl ?_ | refine wk1 (by first | rfl | exact ivx om) ?_)) rfl)
 have hj:=hwf.1 (Decidable.of_not_not hc1)
 refine ZaQ<|ZaD<|ZaD<|Zba<|Zah<|wr'<|mw<|mw<|sn'<|Zaa<|Zae rz<|rT'<|?_
 refine ivx ?_;unfold fwd;omega
theorem ZoP {n k:Int}{h:AH}(h0 : -100000000≤n) (h1:n≤100000000) (hk:0≤k∧k≤6):Ac 166 [iv n,iv k,iv (-1)] h (iv (bwd n k)):=by
 refine tI' k166 fun N hn hlt hlA hbd=>?_
 simp only[tb'] at hbd ⊢
 refine wr'<|mw<|sn'<|Zam<|Zap<|?_
 refine Zhs (ι:=Nat) (fun (j:Nat)=>[(0,iv (n-j))]++rn' 7 7) (fun (j:Nat)=>[]) (fun (j:Nat)=>(j:Int)≤(wd n-k)%7) (fun (j:Nat)=>7-j) (0) (by have:=wd_bd n;omega) (by try simp only[sm',Nat.reduceAdd];exact ALe.same (by repeat (first | exact wk0 | refine wka ?_ | refine wk1 rfl ?_ | refine wk1 (by first | rfl | exact ivx (by simp)) ?_)) rfl) ?_
 rintro j hi1
 try simp only[sm',Nat.reduceAdd]
 have hwf:=Zrx (n:=n) (k:=k) (j:=j) om hi1 hk
 refine Zam<|wr'<|mw<|Zad mp (Zh4) pt<|mw<|Vw (ZaT lk lk)<|sn'<|?_
 refine cd' lk (fun hc1=>?_) (fun hc1=>?_)
 ·have hj:¬(j:Int)=(wd n-k)%7:=fun e=>hc1 (hwf.2 e)
  refine Zaf<|Zah<|Zap<|Zav<|mw<|mw<|?_
  refine V' (Zay lk lk om om) pt ?_
  refine mw<|Zas<|Zaz<|ZaB<|?_
  refine lU' (j+1) (by (try dsimp only);omega) (by (try dsimp only);(try simp only[sm',Nat.reduceAdd]);exact ALe.same (by repeat (first | exact wk0 | refine wka ?_ | refine wk1 rfl ?_ | refine wk1 (by first | rfl | exact ivx om) ?_)) rfl)
 have hj:=hwf.1 (Decidable.of_not_not hc1)
 refine ZaQ<|ZaD<|ZaD<|Zba<|Zah<|wr'<|mw<|mw<|sn'<|Zaa<|Zae rz<|rT'<|?_
 refine ivx ?_;unfold bwd;omega
theorem ZbC {n a b:Int}:wi n a b=true↔a≤n∧n≤b:=by unfold wi;simp
theorem Zce {n a b:Int}:wi n a b=false↔¬(a≤n∧n≤b):=by rw[←ZbC];simp
theorem form_a {y m k wk n:Int}{h:AH}:Ac 165 [iv y,iv m,.agg [iv k,iv wk,iv n]] h (iv (ZbX y m k wk n)):=by
 refine tI' k165 fun N hn hlt hlA hbd=>?_
 simp only[tb'] at hbd ⊢
 refine wr'<|E' (Zbd cv rfl (hl0 hn) ha0) pt<|mw<|sn'<|Zam<|Zap<|wr'<|mw<|Zad mp (Zb6) pt<|Vw (Zax lk)<|mw<|?_
 refine ZaG (t:=11) gt pt pt (fun hg11=>?_) (fun hg11=>?_)
 ·refine s_no gt pt<|s_no gt pt<|s_no gt pt<|Vw (Zag lk lkb)<|mw<|sn'<|ZaC lk<|wr'<|mw<|sn'<|Zaa<|?_
  refine Zaq<|Zai<|Zae rz<|rT'<|?_
  refine ivx ?_;unfold ZbX;simp only[Bool.not_eq_true',Bool.not_eq_false',ZbC,Zce,decide_eq_true_eq,decide_eq_false_iff_not] at *;repeat' split
  all_goals omega
 refine s_do gt<|mw<|s_do gt<|Zad mp (Zb6) pt<|s_do gt<|Vw (Zax lk)<|Vw (Zaj lk lk)<|mw<|sn'<|?_
 refine Zaw lk (fun hc1=>?_) (fun hc1=>?_)
 ·refine wr'<|mw<|sn'<|Zaa<|Zaq<|Zai<|Zae rz<|rT'<|?_
  refine ivx ?_;unfold ZbX;simp only[Bool.not_eq_true',Bool.not_eq_false',ZbC,Zce,decide_eq_true_eq,decide_eq_false_iff_not] at *;repeat' split
  all_goals omega
 refine wr'<|Vw (Zab lk)<|Vw (Zac lk gx gt0)<|Zad mp (Zb6) pt<|Vw (Zax lk)<|mw<|sn'<|?_
 refine Zaw lk (fun hc2=>?_) (fun hc2=>?_)
 ·refine wr'<|mw<|sn'<|Zaa<|Zaq<|Zai<|Zae rz<|rT'<|?_
  refine ivx ?_;unfold ZbX;simp only[Bool.not_eq_true',Bool.not_eq_false',ZbC,Zce,decide_eq_true_eq,decide_eq_false_iff_not] at *;repeat' split
  all_goals omega
 refine wr'<|Vw (Zab lk)<|Vw (Zac lk gx gt1)<|Zad mp (Zb6) pt<|Vw (Zax lk)<|mw<|?_
 refine ZaG (t:=26) gt pt pt (fun hg26=>?_) (fun hg26=>?_)
 ·refine s_no gt pt<|s_no gt pt<|s_no gt pt<|s_no gt pt<|s_nu gt pt<|s_nu gt pt<|s_nu gt pt<|s_no gt pt<|Vw (Zag lk lkb)<|mw<|sn'<|ZaC lk<|Zam<|?_
  refine Zav<|mw<|sn'<|Zaa<|Zaq<|Zai<|Zae rz<|rT'<|?_
  refine ivx ?_;unfold ZbX;simp only[Bool.not_eq_true',Bool.not_eq_false',ZbC,Zce,decide_eq_true_eq,decide_eq_false_iff_not] at *;repeat' split
  all_goals omega
 refine s_do gt<|Vw (Zab lk)<|s_do gt<|Vw (Zac lk gx gt0)<|s_do gt<|Vw (ZaP lk lki)<|s_do gt<|mw<|?_
 refine sp' (t:=30) gt pt pt (fun hg30=>?_) (fun hg30=>?_)
 ·refine s_do gt<|Vw (Zab lk)<|s_do gt<|Vw (Zac lk gx gt1)<|s_do gt<|Vw (ZaT lk lki)<|s_do gt<|Vw (Zag lk lk)<|Vw (Zaj lk lk)<|mw<|sn'<|?_
  refine cd' lk (fun hc3=>?_) (fun hc3=>?_)
  ·refine wr'<|mw<|sn'<|Zaa<|Zaq<|Zai<|Zae rz<|rT'<|?_
   refine ivx ?_;unfold ZbX;simp only[Bool.not_eq_true',Bool.not_eq_false',ZbC,Zce,decide_eq_true_eq,decide_eq_false_iff_not] at *;repeat' split
   all_goals omega
  refine Zam<|ZbZ<|Dw (Zab lk)<|Dw (Zac lk gx gt0)<|Dw (ZaP lk lki)<|Dw (v_mv lk)<|?_
  refine dq' (t:=40) gt pt pt (fun hg40=>?_) (fun hg40=>?_)
  ·refine d_do gt<|Dw (Zab lk)<|d_do gt<|Dw (Zac lk gx gt2)<|d_do gt<|Dw (ZaT lk lki)<|Dw (Zag lk lk)<|Dw (v_mv lk)<|?_
   refine dq' (t:=45) gt pt pt (fun hg45=>?_) (fun hg45=>?_)
   ·refine d_no gt pt<|d_no gt pt<|d_no gt pt<|d_no gt pt<|d_nu gt pt<|d_nu gt pt<|d_nu gt pt<|d_nu gt pt<|d_nu gt pt<|d_nu gt pt<|d_nu gt pt<|d_no gt pt<|Dw (Zag lk lkb)<|Dw (v_mv lk)<|?_
    refine ZbI ?_
    refine Zch ?_
    refine sn'<|ZaC lk<|wr'<|mw<|sn'<|Zaa<|Zaq<|Zai<|Zae rz<|rT'<|?_
    refine ivx ?_;unfold ZbX;simp only[Bool.not_eq_true',Bool.not_eq_false',ZbC,Zce,decide_eq_true_eq,decide_eq_false_iff_not] at *;repeat' split
    all_goals omega
   refine d_do gt<|Dw (Zab lk)<|d_do gt<|Dw (Zac lk gx gt0)<|d_do gt<|Dw (ZaT lk lki)<|d_do gt<|Dw (v_mv lk)<|?_
   refine dq' (t:=49) gt pt pt (fun hg49=>?_) (fun hg49=>?_)
   ·refine d_do gt<|Dw (Zab lk)<|d_do gt<|Dw (Zac lk gx gt2)<|d_do gt<|Dw (v_mv lk)<|d_do gt<|Dw (v_mv lk)<|d_do gt<|?_
    have hym:(1≤y∧y≤9999)∧(1≤m∧m≤12):=by simp only[Bool.not_eq_true',Bool.not_eq_false',ZbC,Zce] at *;omega
    refine ZaY mp (fun hE hX=>Zds om om hym.2.1 hym.2.2) pt ?_
    refine d_do gt ?_
    refine ZaY mp (fun hE hX=>Zb6) pt ?_
    refine d_do gt<|Dw (Zax lk)<|d_do gt<|Dw (Zag lk lk)<|Dw (Zaj lk lk)<|Dw (v_mv lk)<|ZbI<|?_
    refine Zch ?_
    refine sn' ?_
    refine Zaw lk (fun hc4=>?_) (fun hc4=>?_)
    ·refine wr'<|mw<|sn'<|Zaa<|Zaq<|Zai<|Zae rz<|rT'<|?_
     refine ivx ?_;unfold ZbX;simp only[Bool.not_eq_true',Bool.not_eq_false',ZbC,Zce,decide_eq_true_eq,decide_eq_false_iff_not] at *;repeat' split
     all_goals omega
    refine Zaf<|Zaz<|Zah<|wr'<|mw<|sn'<|Zaa<|Zae rz<|rT'<|?_
    refine ivx ?_;unfold ZbX;simp only[Bool.not_eq_true',Bool.not_eq_false',ZbC,Zce,decide_eq_true_eq,decide_eq_false_iff_not] at *;repeat' split
    all_goals omega
   refine d_no gt pt<|d_no gt pt<|d_no gt pt<|d_no gt pt<|d_no gt pt<|d_no gt pt<|d_no gt pt<|d_do gt<|Dw (Zaj lk lkb)<|Dw (Zaj lk lk)<|Dw (v_mv lk)<|ZbI<|?_
   refine Zch ?_
   refine sn'<|ZaM lk<|Zaf<|Zaz<|Zah<|wr'<|mw<|sn'<|Zaa<|Zae rz<|rT'<|?_
   refine ivx ?_;unfold ZbX;simp only[Bool.not_eq_true',Bool.not_eq_false',ZbC,Zce,decide_eq_true_eq,decide_eq_false_iff_not] at *;repeat' split
   all_goals omega
  refine d_no gt pt<|d_no gt pt<|d_no gt pt<|Dw (Zaj lk lkb)<|Dw (v_mv lk)<|d_do gt<|Dw (Zab lk)<|d_do gt<|Dw (Zac lk gx gt0)<|d_do gt<|Dw (ZaT lk lki)<|d_do gt<|Dw (v_mv lk)<|?_
  refine dq' (t:=49) gt pt pt (fun hg49=>?_) (fun hg49=>?_)
  ·refine d_do gt<|Dw (Zab lk)<|d_do gt<|Dw (Zac lk gx gt2)<|d_do gt<|Dw (v_mv lk)<|d_do gt<|Dw (v_mv lk)<|d_do gt<|?_
   have hym:(1≤y∧y≤9999)∧(1≤m∧m≤12):=by simp only[Bool.not_eq_true',Bool.not_eq_false',ZbC,Zce] at *;omega
   refine ZaY mp (fun hE hX=>Zds om om hym.2.1 hym.2.2) pt ?_
   refine d_do gt ?_
   refine ZaY mp (fun hE hX=>Zb6) pt ?_
   refine d_do gt<|Dw (Zax lk)<|d_do gt<|Dw (Zag lk lk)<|Dw (Zaj lk lk)<|Dw (v_mv lk)<|ZbI<|?_
   refine Zch ?_
   refine sn' ?_
   refine Zaw lk (fun hc4=>?_) (fun hc4=>?_)
   ·refine wr'<|mw<|sn'<|Zaa<|Zaq<|Zai<|Zae rz<|rT'<|?_
    refine ivx ?_;unfold ZbX;simp only[Bool.not_eq_true',Bool.not_eq_false',ZbC,Zce,decide_eq_true_eq,decide_eq_false_iff_not] at *;repeat' split
    all_goals omega
   refine Zaf<|Zaz<|Zah<|wr'<|mw<|sn'<|Zaa<|Zae rz<|rT'<|?_
   refine ivx ?_;unfold ZbX;simp only[Bool.not_eq_true',Bool.not_eq_false',ZbC,Zce,decide_eq_true_eq,decide_eq_false_iff_not] at *;repeat' split
   all_goals omega
  refine d_no gt pt<|d_no gt pt<|d_no gt pt<|d_no gt pt<|d_no gt pt<|d_no gt pt<|d_no gt pt<|d_do gt<|Dw (Zaj lk lkb)<|Dw (Zaj lk lk)<|Dw (v_mv lk)<|ZbI<|?_
  refine Zch ?_
  refine sn'<|ZaM lk<|Zaf<|Zaz<|Zah<|wr'<|mw<|sn'<|Zaa<|Zae rz<|rT'<|?_
  refine ivx ?_;unfold ZbX;simp only[Bool.not_eq_true',Bool.not_eq_false',ZbC,Zce,decide_eq_true_eq,decide_eq_false_iff_not] at *;repeat' split
  all_goals omega
 refine s_no gt pt<|s_no gt pt<|s_no gt pt<|s_do gt<|Vw (Zaj lk lkb)<|Vw (Zaj lk lk)<|mw<|sn'<|ZaM lk<|Zam<|ZbZ<|Dw (Zab lk)<|Dw (Zac lk gx gt0)<|?_
 refine Dw (ZaP lk lki)<|Dw (v_mv lk)<|?_
 refine dq' (t:=40) gt pt pt (fun hg40=>?_) (fun hg40=>?_)
 ·refine d_do gt<|Dw (Zab lk)<|d_do gt<|Dw (Zac lk gx gt2)<|d_do gt<|Dw (ZaT lk lki)<|Dw (Zag lk lk)<|Dw (v_mv lk)<|?_
  refine dq' (t:=45) gt pt pt (fun hg45=>?_) (fun hg45=>?_)
  ·refine d_no gt pt<|d_no gt pt<|d_no gt pt<|d_no gt pt<|d_nu gt pt<|d_nu gt pt<|d_nu gt pt<|d_nu gt pt<|d_nu gt pt<|d_nu gt pt<|d_nu gt pt<|d_no gt pt<|Dw (Zag lk lkb)<|Dw (v_mv lk)<|?_
   refine ZbI ?_
   refine Zch ?_
   refine sn'<|ZaC lk<|wr'<|mw<|sn'<|Zaa<|Zaq<|Zai<|Zae rz<|rT'<|?_
   refine ivx ?_;unfold ZbX;simp only[Bool.not_eq_true',Bool.not_eq_false',ZbC,Zce,decide_eq_true_eq,decide_eq_false_iff_not] at *;repeat' split
   all_goals omega
  refine d_do gt<|Dw (Zab lk)<|d_do gt<|Dw (Zac lk gx gt0)<|d_do gt<|Dw (ZaT lk lki)<|d_do gt<|Dw (v_mv lk)<|?_
  refine dq' (t:=49) gt pt pt (fun hg49=>?_) (fun hg49=>?_)
  ·refine d_do gt<|Dw (Zab lk)<|d_do gt<|Dw (Zac lk gx gt2)<|d_do gt<|Dw (v_mv lk)<|d_do gt<|Dw (v_mv lk)<|d_do gt<|?_
   have hym:(1≤y∧y≤9999)∧(1≤m∧m≤12):=by simp only[Bool.not_eq_true',Bool.not_eq_false',ZbC,Zce] at *;omega
   refine ZaY mp (fun hE hX=>Zds om om hym.2.1 hym.2.2) pt ?_
   refine d_do gt ?_
   refine ZaY mp (fun hE hX=>Zb6) pt ?_
   refine d_do gt<|Dw (Zax lk)<|d_do gt<|Dw (Zag lk lk)<|Dw (Zaj lk lk)<|Dw (v_mv lk)<|ZbI<|?_
   refine Zch ?_
   refine sn' ?_
   refine Zaw lk (fun hc4=>?_) (fun hc4=>?_)
   ·refine wr'<|mw<|sn'<|Zaa<|Zaq<|Zai<|Zae rz<|rT'<|?_
    refine ivx ?_;unfold ZbX;simp only[Bool.not_eq_true',Bool.not_eq_false',ZbC,Zce,decide_eq_true_eq,decide_eq_false_iff_not] at *;repeat' split
    all_goals omega
   refine Zaf<|Zaz<|Zah<|wr'<|mw<|sn'<|Zaa<|Zae rz<|rT'<|?_
   refine ivx ?_;unfold ZbX;simp only[Bool.not_eq_true',Bool.not_eq_false',ZbC,Zce,decide_eq_true_eq,decide_eq_false_iff_not] at *;repeat' split
   all_goals omega
  refine d_no gt pt<|d_no gt pt<|d_no gt pt<|d_no gt pt<|d_no gt pt<|d_no gt pt<|d_no gt pt<|d_do gt<|Dw (Zaj lk lkb)<|Dw (Zaj lk lk)<|Dw (v_mv lk)<|ZbI<|?_
  refine Zch ?_
  refine sn'<|ZaM lk<|Zaf<|Zaz<|Zah<|wr'<|mw<|sn'<|Zaa<|Zae rz<|rT'<|?_
  refine ivx ?_;unfold ZbX;simp only[Bool.not_eq_true',Bool.not_eq_false',ZbC,Zce,decide_eq_true_eq,decide_eq_false_iff_not] at *;repeat' split
  all_goals omega
 refine d_no gt pt<|d_no gt pt<|d_no gt pt<|Dw (Zaj lk lkb)<|Dw (v_mv lk)<|d_do gt<|Dw (Zab lk)<|d_do gt<|Dw (Zac lk gx gt0)<|d_do gt<|Dw (ZaT lk lki)<|d_do gt<|Dw (v_mv lk)<|?_
 refine dq' (t:=49) gt pt pt (fun hg49=>?_) (fun hg49=>?_)
 ·refine d_do gt<|Dw (Zab lk)<|d_do gt<|Dw (Zac lk gx gt2)<|d_do gt<|Dw (v_mv lk)<|d_do gt<|Dw (v_mv lk)<|d_do gt<|?_
  have hym:(1≤y∧y≤9999)∧(1≤m∧m≤12):=by simp only[Bool.not_eq_true',Bool.not_eq_false',ZbC,Zce] at *;omega
  refine ZaY mp (fun hE hX=>Zds om om hym.2.1 hym.2.2) pt ?_
  refine d_do gt ?_
  refine ZaY mp (fun hE hX=>Zb6) pt ?_
  refine d_do gt<|Dw (Zax lk)<|d_do gt<|Dw (Zag lk lk)<|Dw (Zaj lk lk)<|Dw (v_mv lk)<|ZbI<|?_
  refine Zch ?_
  refine sn' ?_
  refine Zaw lk (fun hc4=>?_) (fun hc4=>?_)
  ·refine wr'<|mw<|sn'<|Zaa<|Zaq<|Zai<|Zae rz<|rT'<|?_
   refine ivx ?_;unfold ZbX;simp only[Bool.not_eq_true',Bool.not_eq_false',ZbC,Zce,decide_eq_true_eq,decide_eq_false_iff_not] at *;repeat' split
   all_goals omega
  refine Zaf<|Zaz<|Zah<|wr'<|mw<|sn'<|Zaa<|Zae rz<|rT'<|?_
  refine ivx ?_;unfold ZbX;simp only[Bool.not_eq_true',Bool.not_eq_false',ZbC,Zce,decide_eq_true_eq,decide_eq_false_iff_not] at *;repeat' split
  all_goals omega
 refine d_no gt pt<|d_no gt pt<|d_no gt pt<|d_no gt pt<|d_no gt pt<|d_no gt pt<|d_no gt pt<|d_do gt<|Dw (Zaj lk lkb)<|Dw (Zaj lk lk)<|Dw (v_mv lk)<|ZbI<|?_
 refine Zch ?_
 refine sn'<|ZaM lk<|Zaf<|Zaz<|Zah<|wr'<|mw<|sn'<|Zaa<|Zae rz<|rT'<|?_
 refine ivx ?_;unfold ZbX;simp only[Bool.not_eq_true',Bool.not_eq_false',ZbC,Zce,decide_eq_true_eq,decide_eq_false_iff_not] at *;repeat' split
 all_goals omega
theorem on_a {y m k wk n:Int}{h:AH}:Ac 94 [iv y,iv m,.agg [iv k,iv wk,iv n]] h (.tup [.agg [iv (onV y m k wk n).1.1,iv (onV y m k wk n).1.2.1,iv (onV y m k wk n).1.2.2],iv (onV y m k wk n).2]):=by
 have hfb:=formE_bd y m k wk n
 refine tI' k94 fun N hn hlt hlA hbd=>?_
 simp only[tb'] at hbd ⊢
 refine wr'<|E' (Zbd cv rfl (hl0 hn) ha0) pt<|E' (ZaV (hl1 hn) ha1) pt<|mw<|sn'<|Zam<|wr'<|mw<|mw<|Vw (Zan lk gx Zbh rfl)<|Zad mp (form_a) pt<|?_
 refine mw<|sn'<|wr'<|mw<|Vw (ZaT lk lki)<|sn'<|?_
 refine cd' lk (fun hc1=>?_) (fun hc1=>?_)
 ·have hv:=ZjP (y:=y) (m:=m) (kind:=k) (wk:=wk) (n:=n) rfl hc1
  refine wr'<|Vw (Zau Zrp)<|mw<|E' (Zak lk cv gx rfl (nb' rfl) rfl ZbB (hs1 hn)) ptn<|mw<|sn'<|Zaa<|Zai<|Zae (rsn (rm1 (rr_c gt gx (ld1 Zbh rfl)) (rm1 (rr_t gt) rm0)))<|rT'<|?_
  rw[hv]
 have he:ZbX y m k wk n=0:=Decidable.of_not_not hc1
 obtain⟨hy,hm,hk,hw,hk1,hk2,hn3⟩:=Zk1 he
 have hnb:=ZkW (y:=y) (m:=m) ⟨hy.1,by omega⟩ hm
 have hml:=Zd3 y m
 have hn':0≤n∧n≤31:=by by_cases e:k=2 <;> simp_all <;> omega
 refine Zaf<|Zah<|wr'<|mw<|mw<|Vw (Zau (Zro cv rfl cv rfl (cvl lki rfl) rfl))<|?_
 refine Zad mp (ZhX om om om om om om) pt ?_
 refine mw<|sn'<|wr'<|mw<|Vw (Zab lk)<|Vw (Zac lk gx gt2)<|?_
 refine V' (Zay lk lk om om) pt ?_
 refine V' (Zbt lk lki om om) pt ?_
 refine mw<|sn'<|Zam<|wr'<|Vw (Zab lk)<|Vw (Zac lk gx gt0)<|sn'<|Zap<|wr'<|Vw (ZaP lk lki)<|?_
 refine mw<|sn'<|?_
 refine cd' lk (fun hc2=>?_) (fun hc2=>?_)
 ·have hd:Zdj y m k wk n=bwd (num y m 1+mlen y m-1) wk:=by unfold Zdj;rw[if_pos hc2,Zp8 y m (mlen y m)]
  refine ZbZ<|Dw (v_mv lk)<|Dw (v_mv lk)<|Dw (v_mv lk)<|?_
  refine ZaY mp (fun hE hX=>Zds om om hm.1 hm.2) pt ?_
  refine D' (Zay lk lk om om) pt ?_
  refine D' (Zbt lk lki om om) pt ?_
  refine Dw (Zab lk)<|Dw (Zac lk gx gt1)<|?_
  refine ZaY mp (fun hE hX=>ZoP om om hw) pt ?_
  refine Dw (v_mv lk)<|ZbI<|?_
  refine Zch ?_
  refine Zas<|Zaz<|Zah<|wr'<|mw<|Zad mp (of_a) pt<|Vw (ZaN lk gt)<|Vw (ZaN lk gt)<|E' (Zak lk cv gx rfl (nb' rfl) rfl ZbB (hs1 hn)) ptn<|mw<|sn'<|Zaa<|?_
  refine Zae (rsn (rm1 (rr_c gt gx (ld1 Zbh rfl)) (rm1 (rr_t gt) rm0)))<|rT'<|?_
  rw[Ziz he hd];split <;> rfl
 refine wr'<|Vw (ZaP lk lki)<|mw<|sn'<|?_
 refine cd' lk (fun hc3=>?_) (fun hc3=>?_)
 ·have hd:Zdj y m k wk n=fwd (num y m 1+n-1) wk:=by unfold Zdj;rw[if_neg hc2,if_pos hc3,Zp8 y m n]
  refine Zav<|mw<|Vw (Zab lk)<|Vw (Zac lk gx gt1)<|?_
  refine Zad mp (toward_f om om hw) pt ?_
  refine mw<|Zas<|Zaz<|Zah<|wr'<|mw<|Zad mp (of_a) pt<|Vw (ZaN lk gt)<|Vw (ZaN lk gt)<|E' (Zak lk cv gx rfl (nb' rfl) rfl ZbB (hs1 hn)) ptn<|mw<|sn'<|?_
  refine Zaa<|Zae (rsn (rm1 (rr_c gt gx (ld1 Zbh rfl)) (rm1 (rr_t gt) rm0)))<|rT'<|?_
  rw[Ziz he hd];split <;> rfl
 refine wr'<|Vw (ZaP lk lki)<|mw<|sn'<|?_
 refine cd' lk (fun hc4=>?_) (fun hc4=>?_)
 ·have hd:Zdj y m k wk n=bwd (num y m 1+n-1) wk:=by unfold Zdj;rw[if_neg hc2,if_neg hc3,if_pos hc4,Zp8 y m n]
  refine Zav<|mw<|Vw (Zab lk)<|Vw (Zac lk gx gt1)<|?_
  refine Zad mp (ZoP om om hw) pt ?_
  refine mw<|Zas<|Zaz<|Zah<|wr'<|mw<|Zad mp (of_a) pt<|Vw (ZaN lk gt)<|Vw (ZaN lk gt)<|E' (Zak lk cv gx rfl (nb' rfl) rfl ZbB (hs1 hn)) ptn<|mw<|sn'<|?_
  refine Zaa<|Zae (rsn (rm1 (rr_c gt gx (ld1 Zbh rfl)) (rm1 (rr_t gt) rm0)))<|rT'<|?_
  rw[Ziz he hd];split <;> rfl
 have hd:Zdj y m k wk n=num y m 1+n-1:=by unfold Zdj;rw[if_neg hc2,if_neg hc3,if_neg hc4,Zp8 y m n]
 refine Zaf<|Zaz<|Zah<|wr'<|mw<|Zad mp (of_a) pt<|Vw (ZaN lk gt)<|Vw (ZaN lk gt)<|E' (Zak lk cv gx rfl (nb' rfl) rfl ZbB (hs1 hn)) ptn<|mw<|sn'<|Zaa<|?_
 refine Zae (rsn (rm1 (rr_c gt gx (ld1 Zbh rfl)) (rm1 (rr_t gt) rm0)))<|rT'<|?_
 rw[Ziz he hd];split <;> rfl
theorem Zb9 {n a b:Int}{h:AH}:Ac 73 [iv n,iv a,iv b] h (bv (wi n a b)):=ZaW
theorem Zgh {y:Int}{h:AH}(h0:0≤y):Ac 282 [iv y] h (bv (Zjr y)):=by
 refine tI' k282 fun N hn hlt hlA hbd=>?_
 simp only[tb'] at hbd ⊢
 refine wr'<|mw<|sn'<|wr'<|mw<|?_
 refine V' (ZfM lk lki om om) pt ?_
 refine Vw (ZaP lk lki)<|mw<|?_
 refine sp' (t:=6) gt pt pt (fun hg6=>?_) (fun hg6=>?_)
 ·refine s_no gt pt<|s_no gt pt<|s_no gt pt<|s_no gt pt<|s_nu gt pt<|s_nu gt pt<|s_nu gt pt<|s_no gt pt<|Vw (Zag lk lkb)<|mw<|sn'<|Zaa<|Zae rz<|?_
  refine rT' ?_
  refine bvx ?_;unfold Zjr;rw[Bool.eq_iff_iff];simp at *;omega
 refine s_do gt<|mw<|s_do gt<|?_
 refine V' (ZfM lk lki om om) pt ?_
 refine s_do gt<|Vw (ZaP lk lki)<|s_do gt<|mw<|?_
 refine sp' (t:=10) gt pt pt (fun hg10=>?_) (fun hg10=>?_)
 ·refine s_do gt<|mw<|s_do gt<|?_
  refine V' (ZfM lk lki om om) pt ?_
  refine s_do gt<|Vw (ZaT lk lki)<|s_do gt<|Vw (Zag lk lk)<|Vw (Zaj lk lk)<|mw<|sn'<|Zaa<|Zae rz<|rT'<|?_
  refine bvx ?_;unfold Zjr;rw[Bool.eq_iff_iff];simp at *;omega
 refine s_no gt pt<|s_no gt pt<|s_no gt pt<|s_do gt<|Vw (Zaj lk lkb)<|Vw (Zaj lk lk)<|mw<|sn'<|Zaa<|Zae rz<|rT'<|?_
 refine bvx ?_;unfold Zjr;rw[Bool.eq_iff_iff];simp at *;omega
theorem Zis {y m:Int}{h:AH}(h0:0≤y):Ac 228 [iv y,iv m] h (iv (mlen y m)):=by
 refine tI' k228 fun N hn hlt hlA hbd=>?_
 simp only[tb'] at hbd ⊢
 refine wr'<|mw<|sn'<|Zam<|wr'<|mw<|sn'<|Zap<|Zam<|Zam<|?_
 refine Zav<|Vw (ZaP lk lki)<|mw<|sn'<|?_
 refine cd' lk (fun hc1=>?_) (fun hc1=>?_)
 ·refine Zaf<|Zah<|?_
  refine cd' lk (fun hc4=>?_) (fun hc4=>?_)
  ·refine wr'<|mw<|sn'<|Zaa<|Zaq<|Zai<|Zae rz<|rT'<|?_
   refine ivx ?_;unfold mlen lp;simp_all
  refine wr'<|Vw (ZaP lk lki)<|mw<|sn'<|?_
  refine cd' lk (fun hc5=>?_) (fun hc5=>?_)
  ·refine Zam<|wr'<|mw<|Zad mp (Zgh h0) pt<|sn'<|?_
   refine Zaw lk (fun hc6=>?_) (fun hc6=>?_)
   ·refine wr'<|mw<|sn'<|Zaa<|Zai<|Zaq<|Zai<|Zae rz<|rT'<|?_
    refine ivx ?_;unfold mlen lp;simp_all
   refine Zaf<|Zah<|wr'<|mw<|sn'<|Zaa<|Zaq<|Zai<|Zae rz<|rT'<|?_
   refine ivx ?_;unfold mlen lp;simp_all
  refine Zaf<|Zaz<|Zah<|wr'<|mw<|sn'<|Zaa<|Zae rz<|rT'<|?_
  refine ivx ?_;unfold mlen lp;simp_all
 refine wr'<|Vw (ZaP lk lki)<|mw<|sn'<|?_
 refine cd' lk (fun hc2=>?_) (fun hc2=>?_)
 ·refine Zaf<|Zah<|?_
  refine cd' lk (fun hc4=>?_) (fun hc4=>?_)
  ·refine wr'<|mw<|sn'<|Zaa<|Zaq<|Zai<|Zae rz<|rT'<|?_
   refine ivx ?_;unfold mlen lp;simp_all
  refine wr'<|Vw (ZaP lk lki)<|mw<|sn'<|?_
  refine cd' lk (fun hc5=>?_) (fun hc5=>?_)
  ·refine Zam<|wr'<|mw<|Zad mp (Zgh h0) pt<|sn'<|?_
   refine Zaw lk (fun hc6=>?_) (fun hc6=>?_)
   ·refine wr'<|mw<|sn'<|Zaa<|Zai<|Zaq<|Zai<|Zae rz<|rT'<|?_
    refine ivx ?_;unfold mlen lp;simp_all
   refine Zaf<|Zah<|wr'<|mw<|sn'<|Zaa<|Zaq<|Zai<|Zae rz<|rT'<|?_
   refine ivx ?_;unfold mlen lp;simp_all
  refine Zaf<|Zaz<|Zah<|wr'<|mw<|sn'<|Zaa<|Zae rz<|rT'<|?_
  refine ivx ?_;unfold mlen lp;simp_all
 refine wr'<|Vw (ZaP lk lki)<|mw<|sn'<|?_
 refine cd' lk (fun hc3=>?_) (fun hc3=>?_)
 ·refine Zaf<|Zah<|?_
  refine cd' lk (fun hc4=>?_) (fun hc4=>?_)
  ·refine wr'<|mw<|sn'<|Zaa<|Zaq<|Zai<|Zae rz<|rT'<|?_
   refine ivx ?_;unfold mlen lp;simp_all
  refine wr'<|Vw (ZaP lk lki)<|mw<|sn'<|?_
  refine cd' lk (fun hc5=>?_) (fun hc5=>?_)
  ·refine Zam<|wr'<|mw<|Zad mp (Zgh h0) pt<|sn'<|?_
   refine Zaw lk (fun hc6=>?_) (fun hc6=>?_)
   ·refine wr'<|mw<|sn'<|Zaa<|Zai<|Zaq<|Zai<|Zae rz<|rT'<|?_
    refine ivx ?_;unfold mlen lp;simp_all
   refine Zaf<|Zah<|wr'<|mw<|sn'<|Zaa<|Zaq<|Zai<|Zae rz<|rT'<|?_
   refine ivx ?_;unfold mlen lp;simp_all
  refine Zaf<|Zaz<|Zah<|wr'<|mw<|sn'<|Zaa<|Zae rz<|rT'<|?_
  refine ivx ?_;unfold mlen lp;simp_all
 refine Zav<|Vw (ZaP lk lki)<|mw<|sn'<|?_
 refine cd' lk (fun hc4=>?_) (fun hc4=>?_)
 ·refine wr'<|mw<|sn'<|Zaa<|Zaq<|Zai<|Zae rz<|rT'<|?_
  refine ivx ?_;unfold mlen lp;simp_all
 refine wr'<|Vw (ZaP lk lki)<|mw<|sn'<|?_
 refine cd' lk (fun hc5=>?_) (fun hc5=>?_)
 ·refine Zam<|wr'<|mw<|Zad mp (Zgh h0) pt<|sn'<|?_
  refine Zaw lk (fun hc6=>?_) (fun hc6=>?_)
  ·refine wr'<|mw<|sn'<|Zaa<|Zai<|Zaq<|Zai<|Zae rz<|rT'<|?_
   refine ivx ?_;unfold mlen lp;simp_all
  refine Zaf<|Zah<|wr'<|mw<|sn'<|Zaa<|Zaq<|Zai<|Zae rz<|rT'<|?_
  refine ivx ?_;unfold mlen lp;simp_all
 refine Zaf<|Zaz<|Zah<|wr'<|mw<|sn'<|Zaa<|Zae rz<|rT'<|?_
 refine ivx ?_;unfold mlen lp;simp_all
theorem Zfj {y m d:Int}{h:AH}:Ac 227 [.agg [iv y,iv m,iv d]] h (bv (Za2 y m d)):=by
 refine tI' k227 fun N hn hlt hlA hbd=>?_
 simp only[tb'] at hbd ⊢
 refine wr'<|E' (Zbd cv rfl (hl0 hn) ha0) pt<|mw<|sn'<|Zam<|ZbZ<|Dw (Zab lk)<|Dw (Zac lk gx gt0)<|?_
 refine ZaY mp (fun hE hX=>Zb9) pt ?_
 refine D' (v_mv lk) pt ?_
 refine ZgA (t:=6) gt pt pt (fun hg6=>?_) (fun hg6=>?_)
 ·refine d_do gt<|Dw (Zab lk)<|d_do gt<|Dw (Zac lk gx gt1)<|d_do gt<|?_
  refine ZaY mp (fun hE hX=>Zb9) pt ?_
  refine Dw (Zag lk lk)<|Dw (v_mv lk)<|?_
  refine ZgA (t:=11) gt pt pt (fun hg11=>?_) (fun hg11=>?_)
  ·refine d_do gt<|Dw (Zab lk)<|d_do gt<|Dw (Zac lk gx gt2)<|d_do gt<|Dw (Zab lk)<|d_do gt<|Dw (Zac lk gx gt0)<|d_do gt<|Dw (Zab lk)<|d_do gt<|Dw (Zac lk gx gt1)<|d_do gt<|?_
   have hy:1≤y∧y≤9999:=by simp only[ZbC] at *;omega
   refine ZaY mp (fun hE hX=>Zis om) pt ?_
   refine d_do gt ?_
   refine ZaY mp (fun hE hX=>Zb9) pt ?_
   refine Dw (Zag lk lk)<|Dw (v_mv lk)<|ZbI<|?_
   refine Zch ?_
   refine sn'<|Zaa<|Zae rz<|rT'<|?_
   refine bvx ?_;rw[show Za2 y m d=(wi y 1 9999&&(wi m 1 12&&wi d 1 (mlen y m))) from by unfold Za2 wi;simp[Bool.and_assoc]];simp_all
  refine d_no gt pt<|d_no gt pt<|d_no gt pt<|d_no gt pt<|d_no gt pt<|d_no gt pt<|d_no gt pt<|d_no gt pt<|Dw (Zaj lk lkb)<|Dw (v_mv lk)<|ZbI<|?_
  refine Zch ?_
  refine sn'<|Zaa<|Zae rz<|rT'<|?_
  refine bvx ?_;rw[show Za2 y m d=(wi y 1 9999&&(wi m 1 12&&wi d 1 (mlen y m))) from by unfold Za2 wi;simp[Bool.and_assoc]];simp_all
 refine d_no gt pt<|d_no gt pt<|d_no gt pt<|Dw (Zaj lk lkb)<|Dw (v_mv lk)<|d_no gt pt<|d_no gt pt<|d_no gt pt<|d_no gt pt<|d_no gt pt<|d_no gt pt<|d_no gt pt<|d_no gt pt<|Dw (Zaj lk lkb)<|?_
 refine Dw (v_mv lk)<|ZbI<|?_
 refine Zch ?_
 refine sn'<|Zaa<|Zae rz<|rT'<|?_
 refine bvx ?_;rw[show Za2 y m d=(wi y 1 9999&&(wi m 1 12&&wi d 1 (mlen y m))) from by unfold Za2 wi;simp[Bool.and_assoc]];simp_all
theorem Zec {y m d:Int}{h:AH}(y0:1≤y) (y1:y≤20000) (m0:1≤m) (m1:m≤12) (d0 : -1000≤d) (d1:d≤1000):Ac 149 [.agg [iv y,iv m,iv d]] h (iv (num y m d)):=by
 refine tI' k149 fun N hn hlt hlA hbd=>?_
 simp only[tb'] at hbd ⊢
 refine wr'<|E' (Zbd cv rfl (hl0 hn) ha0) pt<|mw<|sn'<|Zam<|ZbZ<|Dw (Zab lk)<|Dw (Zac lk gx gt0)<|Dw (Zab lk)<|Dw (Zac lk gx gt1)<|?_
 refine D' (Zbt lk lki om om) pt ?_
 refine Dw (v_mv lk)<|Dw (v_mv lk)<|ZbI<|?_
 refine Zch ?_
 refine sn'<|Zam<|wr'<|mw<|Vw (Zbb lk lki)<|sn'<|?_
 refine cd' lk (fun hc1=>?_) (fun hc1=>?_)
 ·refine wr'<|mw<|?_
  refine V' (Zbt lk lki om om) pt ?_
  refine mw<|sn'<|Zav<|mw<|?_
  refine V' (Zay lk lki om om) pt ?_
  refine mw<|sn'<|wr'<|mw<|?_
  refine V' (ZfN lk lki om om om) pt ?_
  refine V' (ZeN lk lki om om) pt ?_
  refine mv' lk pt ?_
  refine V' (ZfM lk lki om om) pt ?_
  refine V' (ZeN lk lki om om) pt ?_
  refine V' (Zay lk lk om om) pt ?_
  refine mv' lk pt ?_
  refine V' (ZfM lk lki om om) pt ?_
  refine V' (ZfN lk lki om om om) pt ?_
  refine V' (Zay lk lk om om) pt ?_
  refine mv' lk pt ?_
  refine V' (ZfM lk lki om om) pt ?_
  refine V' (ZfN lk lki om om om) pt ?_
  refine V' (Zbt lk lk om om) pt ?_
  refine mw<|sn'<|wr'<|mw<|mw<|?_
  refine V' (ZeN lki lk om om) pt ?_
  refine V' (Zay lk lki om om) pt ?_
  refine V' (ZfN lk lki om om om) pt ?_
  refine V' (Zay lk lk om om) pt ?_
  refine Vw (Zab lk)<|Vw (Zac lk gx gt2)<|?_
  refine V' (Zay lk lk om om) pt ?_
  refine V' (Zbt lk lki om om) pt ?_
  refine V' (Zbt lk lki om om) pt ?_
  refine mw<|sn'<|Zaa<|Zae rz<|rT'<|?_
  refine ivx ?_;rw[←num_ref2 m0 om]
 refine Zaf<|Zah<|wr'<|mw<|?_
 refine V' (ZfN lk lki om om om) pt ?_
 refine V' (ZeN lk lki om om) pt ?_
 refine mv' lk pt ?_
 refine V' (ZfM lk lki om om) pt ?_
 refine V' (ZeN lk lki om om) pt ?_
 refine V' (Zay lk lk om om) pt ?_
 refine mv' lk pt ?_
 refine V' (ZfM lk lki om om) pt ?_
 refine V' (ZfN lk lki om om om) pt ?_
 refine V' (Zay lk lk om om) pt ?_
 refine mv' lk pt ?_
 refine V' (ZfM lk lki om om) pt ?_
 refine V' (ZfN lk lki om om om) pt ?_
 refine V' (Zbt lk lk om om) pt ?_
 refine mw<|sn'<|wr'<|mw<|mw<|?_
 refine V' (ZeN lki lk om om) pt ?_
 refine V' (Zay lk lki om om) pt ?_
 refine V' (ZfN lk lki om om om) pt ?_
 refine V' (Zay lk lk om om) pt ?_
 refine Vw (Zab lk)<|Vw (Zac lk gx gt2)<|?_
 refine V' (Zay lk lk om om) pt ?_
 refine V' (Zbt lk lki om om) pt ?_
 refine V' (Zbt lk lki om om) pt ?_
 refine mw<|sn'<|Zaa<|Zae rz<|rT'<|?_
 refine ivx ?_;rw[←num_ref1 om m1]
theorem rfirst_a {h:AH}:Ac 74 [] h (iv (-719162)):=by
 refine tI' k74 fun N hn hlt hlA hbd=>?_
 simp only[tb'] at hbd ⊢
 refine wr'<|mw<|sn'<|wr'<|Vw (Zau (Zji (cvl lki rfl) rfl (cvl lki rfl) rfl (cvl lki rfl) rfl))<|?_
 refine Zad mp (Zec om om om om om om) pt ?_
 refine mw<|sn'<|Zaa<|Zae rz<|rT'<|?_
 exact ivx (by decide)
theorem rlast_a {h:AH}:Ac 75 [] h (iv 2932896):=by
 refine tI' k75 fun N hn hlt hlA hbd=>?_
 simp only[tb'] at hbd ⊢
 refine wr'<|mw<|sn'<|wr'<|Vw (Zau (Zjv (cvl lki rfl) rfl (cvl lki rfl) rfl (cvl lki rfl) rfl))<|?_
 refine Zad mp (Zec om om om om om om) pt ?_
 refine mw<|sn'<|Zaa<|Zae rz<|rT'<|?_
 exact ivx (by decide)
theorem Zp0 {n:Int}{h:AH}:Ac 229 [iv n] h (iv (wd n)):=by
 have hb1 : -6≤n.tmod 7∧n.tmod 7≤6:=by rw[ZpN];split <;> omega
 refine tI' k229 fun N hn hlt hlA hbd=>?_
 simp only[tb'] at hbd ⊢
 refine wr'<|mw<|sn'<|wr'<|mw<|?_
 refine V' (ZlB lk lki om) pt ?_
 refine mw<|sn'<|Zam<|wr'<|mw<|Vw (Zbb lk lki)<|sn'<|?_
 refine cd' lk (fun hc1=>?_) (fun hc1=>?_)
 ·refine Zav<|mw<|?_
  refine V' (Zay lk lki om om) pt ?_
  refine mw<|sn'<|wr'<|mw<|?_
  refine V' (Zay lk lki om om) pt ?_
  refine V' (ZfM lk lki om om) pt ?_
  refine mw<|sn'<|Zaa<|Zae rz<|rT'<|?_
  refine ivx ?_;unfold wd;rw[ZpN] at *;split at * <;> omega
 refine Zaf<|Zah<|wr'<|mw<|?_
 refine V' (Zay lk lki om om) pt ?_
 refine V' (ZfM lk lki om om) pt ?_
 refine mw<|sn'<|Zaa<|Zae rz<|rT'<|?_
 refine ivx ?_;unfold wd;rw[ZpN] at *;split at * <;> omega
theorem Zsh {n:Int}{h:AH}(h0 : -719162≤n) (h1:n≤2932896):Ac 230 [iv n] h (Zn2 (Zbl n)):=by
 refine tI' k230 fun N hn hlt hlA hbd=>?_
 simp only[tb'] at hbd ⊢
 refine wr'<|E' (ZaV (hl0 hn) ha0) pt<|sn'<|wr'<|mw<|mw<|sn'<|Zam<|Zap<|?_
 refine w_lp (ι:=Int×Int) (fun (x_:Int×Int)=>match x_ with | ⟨y,z⟩=>[(3,iv y),(4,iv z),(5,.any)]++rn' 7 15) (fun (x_:Int×Int)=>match x_ with | ⟨y,z⟩=>[]) (fun (x_:Int×Int)=>match x_ with | ⟨y,z⟩=>1≤y∧y<z∧z≤10000∧num y 1 1≤n∧n<num z 1 1) (fun (x_:Int×Int)=>match x_ with | ⟨y,z⟩=>(z-y).toNat) (⟨1,10000⟩) (by exact⟨by omega,by omega,by omega,by rw[Zsz,bef_1];omega,by rw[Zsz,Zde];omega⟩) ?_
 rintro⟨y,z⟩ hi1
 try simp only[sm',Nat.reduceAdd]
 obtain⟨hy,hyz,hz,hn1,hn2⟩:=hi1
 refine Zam<|wr'<|mw<|mw<|?_
 refine V' (Zbt lk lk om om) pt ?_
 refine Vw (ZbD lk lki)<|sn'<|?_
 refine cd' lk (fun hc1=>?_) (fun hc1=>?_)
 ·refine Zaf<|Zah<|Zap<|wr'<|mw<|mw<|?_
  refine V' (Zay lk lk om om) pt ?_
  refine V' (ZfN lk lki om om om) pt ?_
  refine mw<|sn'<|wr'<|mw<|Vw (Zau (Zjx cv rfl (cvl lki rfl) rfl (cvl lki rfl) rfl))<|?_
  refine Zad mp (Zec om om om om om om) pt ?_
  refine mw<|Vw (Zdq lk lk)<|sn'<|?_
  refine cd' lk (fun hc2=>?_) (fun hc2=>?_)
  ·refine Zav<|mw<|mw<|Zas<|Zaz<|ZaB<|?_
   refine lU' (⟨(y+z)/2,z⟩) (by (try dsimp only);exact⟨by omega,by omega,by omega,by omega,by omega⟩) (by (try dsimp only);(try simp only[sm',Nat.reduceAdd]);exact ALe.same (by repeat (first | exact wk0 | refine wka ?_ | refine wk1 rfl ?_ | refine wk1 (by first | rfl | exact ivx om | (simp;done)) ?_)) rfl)
  refine Zav<|mw<|mw<|Zas<|Zaz<|ZaB<|?_
  refine lU' (⟨y,(y+z)/2⟩) (by (try dsimp only);exact⟨by omega,by omega,by omega,by omega,by omega⟩) (by (try dsimp only);(try simp only[sm',Nat.reduceAdd]);exact ALe.same (by repeat (first | exact wk0 | refine wka ?_ | refine wk1 rfl ?_ | refine wk1 (by first | rfl | exact ivx om | (simp;done)) ?_)) rfl)
 obtain rfl:z=y+1:=by omega
 have hup:num y 12 1+mlen y 12=num (y+1) 1 1:=by rw[Zsz,Zfr];unfold num cum mlen;simp;omega
 refine ZaQ<|ZaD<|ZaD<|Zba<|Zah<|wr'<|mw<|Vw (Zau (Zjw cv rfl (cvl lki rfl) rfl (cvl lki rfl) rfl))<|E' (ZaV (hl1 hn) ha1) pt<|E' (Zak lk cv gx rfl (nb' rfl) rfl ZbB (hs1 hn)) ptn<|sn'<|Zam<|?_
 refine Zap ?_
 refine w_lp (ι:=Int) (fun (m:Int)=>[]++rn' 24 8) (fun (m:Int)=>[(1,.mk 0 59 3 [iv y,iv m,iv 1])]) (fun (m:Int)=>1≤m∧m≤12∧n<num y m 1+mlen y m) (fun (m:Int)=>m.toNat) (12) (by exact⟨by omega,by omega,by rw[hup];exact hn2⟩) ?_
 rintro m hi2
 try simp only[sm',Nat.reduceAdd]
 obtain⟨hm0,hm1,hn3⟩:=hi2
 refine Zam<|wr'<|Vw (Zan lk gx Zbh rfl)<|?_
 refine Zad mp (Zec om om om om om om) pt ?_
 refine mw<|Vw (ZbD lk lk)<|sn'<|?_
 refine cd' lk (fun hc3=>?_) (fun hc3=>?_)
 ·have hm2:2≤m:=by
   rcases Int.lt_or_le m 2 with c | c
   ·obtain rfl:m=1:=by omega
    omega
   exact c
  have hst:num y (m-1) 1+mlen y (m-1)=num y m 1:=by have:=ZgB (y:=y) (m:=m-1) om om;rw[show m-1+1=m by omega] at this;unfold num;omega
  refine Zaf<|Zah<|Zap<|Zav<|Vw (Zab lk)<|Vw (Zac lk gx gt1)<|?_
  refine V' (Zbt lk lki om om) pt ?_
  refine Vw (Zab lk)<|E' (Zak lk cv gx rfl (nb' rfl) rfl Zrn (hs1 hn)) ptn<|Zas<|Zaz<|ZaB<|?_
  refine lT' (m-1) (by (try dsimp only);exact⟨by omega,by omega,by rw[hst];exact hc3⟩)
 have hd:Za2 y m (n-num y m 1+1)=true:=by
  have h1:=Zmg (Zcp.2 ⟨hy,by omega,hm0,hm1,by omega,by have:=Zd3 y m;omega⟩:Za2 y m 1=true)
  rw[Zcp];omega
 have hdn:num y m (n-num y m 1+1)=n:=by unfold num;omega
 have hde:=Ztp hd hdn
 have hnb:=ZkW (y:=y) (m:=m) ⟨hy,by omega⟩ ⟨hm0,hm1⟩
 refine ZaQ<|ZaD<|ZaD<|Zba<|Zah<|wr'<|mw<|Vw (Zan lk gx Zbh rfl)<|?_
 refine Zad mp (Zec om om om om om om) pt ?_
 refine V' (Zbt lk lk om om) pt ?_
 refine V' (Zay lk lki om om) pt ?_
 refine Vw (Zab lk)<|E' (Zak lk cv gx rfl (nb' rfl) rfl Zrm (hs1 hn)) ptn<|sn'<|wr'<|Vw (Zan lk gx Zbh rfl)<|E' (Zak lk cv gx rfl (nb' rfl) rfl ZbB (hs0 hn)) ptn<|sn'<|Zaa<|Zae (rs1 (rr_c gt gx (ld1 Zbh rfl)))<|rT'<|?_
 rw[hde]
def onSt (y m k n:Int):Int:=num y m 1-1+if k=2 then mlen y m else n
def onGo (k wk s:Int) (j:Nat):Int:=if k=3 then s+j else s-j
def Zg6 (k wk s:Int):Int:=if k≤1 then 0 else if k=3 then (wk-wd s)%7 else (wd s-wk)%7
theorem ZhV (k wk s:Int):0≤Zg6 k wk s∧Zg6 k wk s≤6:=by
 unfold Zg6
 repeat' split
 all_goals omega
theorem onGo_go {k wk s:Int}{j:Nat}(hw:0≤wk∧wk≤6) (hj:(j:Int)≤Zg6 k wk s) (h:j<7∧1<k∧wd (onGo k wk s j)≠wk):(j:Int)+1≤Zg6 k wk s:=by
 have h1:=Zrw (n:=s) (k:=wk) (j:=j) om
 have h2:=Zrx (n:=s) (k:=wk) (j:=j) om
 unfold Zg6 onGo at *
 rw[if_neg om] at hj ⊢
 split at hj <;> rename_i h3
 ·simp only[h3,if_true] at h ⊢
  have:=h1 hj hw
  omega
 simp only[h3,if_false] at h ⊢
 have:=h2 hj hw
 omega
theorem onGo_end {y m k wk n:Int}{j:Nat}(hk:1≤k∧k≤4) (hw:0≤wk∧wk≤6) (hj:(j:Int)≤Zg6 k wk (onSt y m k n)) (h:¬(j<7∧1<k∧wd (onGo k wk (onSt y m k n) j)≠wk)):Zdj y m k wk n=onGo k wk (onSt y m k n) j:=by
 have hb:=ZhV k wk (onSt y m k n)
 have h1:=Zrw (n:=onSt y m k n) (k:=wk) (j:=j) om
 have h2:=Zrx (n:=onSt y m k n) (k:=wk) (j:=j) om
 have e1:=Zp8 y m n
 have e2:=Zp8 y m (mlen y m)
 have h5:k=1∨k=2∨k=3∨k=4:=by omega
 rcases h5 with rfl | rfl | rfl | rfl
 ·simp only[Zg6,onGo,onSt,Zdj,fwd,bwd] at *
  simp at hj ⊢
  omega
 ·simp only[Zg6,onGo,onSt,Zdj,fwd,bwd] at *
  simp at hj h h1 h2 ⊢
  rw[show num y m (mlen y m)=num y m 1-1+mlen y m by omega]
  omega
 ·simp only[Zg6,onGo,onSt,Zdj,fwd,bwd] at *
  simp at hj h h1 h2 ⊢
  rw[show num y m n=num y m 1-1+n by omega]
  omega
 simp only[Zg6,onGo,onSt,Zdj,fwd,bwd] at *
 simp at hj h h1 h2 ⊢
 rw[show num y m n=num y m 1-1+n by omega]
 omega
theorem onSt_bd {y m k n:Int}(hy:1≤y∧y≤20000) (hm:1≤m∧m≤12) (hn:k≠2→1≤n∧n≤mlen y m) : -8000010≤onSt y m k n∧onSt y m k n≤8000040:=by
 have h1:=ZkW hy hm
 have h2:=Zd3 y m
 unfold onSt;split
 ·omega
 have:=hn (by assumption);omega
theorem onGo_bd {k wk s:Int}{j:Nat}(h:(j:Int)≤Zg6 k wk s):s-6≤onGo k wk s j∧onGo k wk s j≤s+6:=by
 have:=ZhV k wk s
 unfold onGo;split <;> omega
theorem wiB {n a b:Int}:wi n a b=decide (a≤n∧n≤b):=by unfold wi;rw[Bool.decide_and]
theorem ron_a {y m k wk n:Int}{h:AH}:Ac 153 [iv y,iv m,.agg [iv k,iv wk,iv n]] h (.tup [.agg [iv (onV y m k wk n).1.1,iv (onV y m k wk n).1.2.1,iv (onV y m k wk n).1.2.2],iv (onV y m k wk n).2]):=by
 refine tI' k153 fun N hn hlt hlA hbd=>?_
 simp only[tb'] at hbd ⊢
 refine wr'<|E' (Zbd cv rfl (hl0 hn) ha0) pt<|E' (ZaV (hl1 hn) ha1) pt<|mw<|sn'<|Zam<|?_
 refine Zf7 (ι:=Unit) (fun (u_:Unit)=>[(18,bv (decide (¬(1≤y∧y≤9999)∨¬(1≤m∧m≤12))))]++rn' 11 7) (fun (u_:Unit)=>[]) (fun (u_:Unit)=>True) ?_ ?_
 ·try simp only[sm',Nat.reduceAdd]
  refine Zav<|mw<|Zad mp (Zb9) pt<|Vw (Zax lk)<|mw<|?_
  refine ZaG (t:=14) gt pt pt (fun hg14=>?_) (fun hg14=>?_)
  ·refine s_no gt pt<|s_no gt pt<|s_no gt pt<|Vw (Zag lk lkb)<|Zas<|ZaB<|?_
   exact cT' (()) (by trivial) (by (try dsimp only);(try simp only[sm',Nat.reduceAdd]);exact ALe.same (by repeat (first | exact wk0 | refine wka ?_ | refine wk1 rfl ?_ | refine wk1 (by first | rfl | exact bvx (by first | (simp_all [wiB];done) | (rw[Bool.eq_iff_iff];simp_all [wiB];omega) | (rw[Bool.eq_iff_iff];simp_all [wiB];done))) ?_)) rfl)
  refine s_do gt<|mw<|s_do gt<|Zad mp (Zb9) pt<|s_do gt<|Vw (Zax lk)<|Vw (Zaj lk lk)<|Zas<|ZaB<|?_
  exact cT' (()) (by trivial) (by (try dsimp only);(try simp only[sm',Nat.reduceAdd]);exact ALe.same (by repeat (first | exact wk0 | refine wka ?_ | refine wk1 rfl ?_ | refine wk1 (by first | rfl | exact bvx (by first | (simp_all [wiB];done) | (rw[Bool.eq_iff_iff];simp_all [wiB];omega) | (rw[Bool.eq_iff_iff];simp_all [wiB];done))) ?_)) rfl)
 rintro u_ hq2
 try simp only[sm',Nat.reduceAdd]
 refine cd' lk (fun hc1=>?_) (fun hc1=>?_)
 ·have hv:=ZjP (y:=y) (m:=m) (kind:=k) (wk:=wk) (n:=n) (k:=3) (by unfold ZbX;rw[if_pos hc1]) om
  refine wr'<|Vw (Zau Zm6)<|E' (Zak lk cv gx rfl (nb' rfl) rfl ZbB (hs1 hn)) ptn<|mw<|sn'<|Zaa<|Zai<|Zae (rsn (rm1 (rr_c gt gx (ld1 Zbh rfl)) (rm1 (rr_t gt) rm0)))<|rT'<|?_
  rw[hv]
 have hym:(1≤y∧y≤9999)∧(1≤m∧m≤12):=by omega
 refine Zaf<|Zah<|Zam<|wr'<|Vw (Zab lk)<|Vw (Zac lk gx gt0)<|Zad mp (Zb9) pt<|Vw (Zax lk)<|sn'<|?_
 refine Zaw lk (fun hc2=>?_) (fun hc2=>?_)
 ·have hk:¬(1≤k∧k≤4):=by have h9:=hc2;simp[wiB] at h9;omega
  have hv:=ZjP (y:=y) (m:=m) (kind:=k) (wk:=wk) (n:=n) (k:=7) (by unfold ZbX;rw[if_neg hc1,if_pos hk]) om
  refine wr'<|Vw (Zau Zm5)<|E' (Zak lk cv gx rfl (nb' rfl) rfl ZbB (hs1 hn)) ptn<|mw<|sn'<|Zaa<|Zai<|Zae (rsn (rm1 (rr_c gt gx (ld1 Zbh rfl)) (rm1 (rr_t gt) rm0)))<|rT'<|?_
  rw[hv]
 have hk:1≤k∧k≤4:=by have h9:=hc2;simp[wiB] at h9;omega
 refine Zaf<|Zah<|Zam<|?_
 refine Zf7 (ι:=Unit) (fun (u_:Unit)=>[(38,bv (decide (¬(0≤wk∧wk≤6)∨k=1∧wk≠0)))]++rn' 25 13) (fun (u_:Unit)=>[]) (fun (u_:Unit)=>True) ?_ ?_
 ·try simp only[sm',Nat.reduceAdd]
  refine Zav<|Vw (Zab lk)<|Vw (Zac lk gx gt1)<|Zad mp (Zb9) pt<|Vw (Zax lk)<|mw<|?_
  refine ZaG (t:=29) gt pt pt (fun hg29=>?_) (fun hg29=>?_)
  ·refine s_no gt pt<|s_no gt pt<|s_no gt pt<|s_no gt pt<|s_nu gt pt<|s_nu gt pt<|s_nu gt pt<|s_no gt pt<|Vw (Zag lk lkb)<|Zas<|ZaB<|?_
   exact cT' (()) (by trivial) (by (try dsimp only);(try simp only[sm',Nat.reduceAdd]);exact ALe.same (by repeat (first | exact wk0 | refine wka ?_ | refine wk1 rfl ?_ | refine wk1 (by first | rfl | exact bvx (by first | (simp_all [wiB];done) | (rw[Bool.eq_iff_iff];simp_all [wiB];omega) | (rw[Bool.eq_iff_iff];simp_all [wiB];done))) ?_)) rfl)
  refine s_do gt<|Vw (Zab lk)<|s_do gt<|Vw (Zac lk gx gt0)<|s_do gt<|Vw (ZaP lk lki)<|s_do gt<|mw<|?_
  refine sp' (t:=33) gt pt pt (fun hg33=>?_) (fun hg33=>?_)
  ·refine s_do gt<|Vw (Zab lk)<|s_do gt<|Vw (Zac lk gx gt1)<|s_do gt<|Vw (ZaT lk lki)<|s_do gt<|Vw (Zag lk lk)<|Vw (Zaj lk lk)<|Zas<|ZaB<|?_
   exact cT' (()) (by trivial) (by (try dsimp only);(try simp only[sm',Nat.reduceAdd]);exact ALe.same (by repeat (first | exact wk0 | refine wka ?_ | refine wk1 rfl ?_ | refine wk1 (by first | rfl | exact bvx (by first | (simp_all [wiB];done) | (rw[Bool.eq_iff_iff];simp_all [wiB];omega) | (rw[Bool.eq_iff_iff];simp_all [wiB];done))) ?_)) rfl)
  refine s_no gt pt<|s_no gt pt<|s_no gt pt<|s_do gt<|Vw (Zaj lk lkb)<|Vw (Zaj lk lk)<|Zas<|ZaB<|?_
  exact cT' (()) (by trivial) (by (try dsimp only);(try simp only[sm',Nat.reduceAdd]);exact ALe.same (by repeat (first | exact wk0 | refine wka ?_ | refine wk1 rfl ?_ | refine wk1 (by first | rfl | exact bvx (by first | (simp_all [wiB];done) | (rw[Bool.eq_iff_iff];simp_all [wiB];omega) | (rw[Bool.eq_iff_iff];simp_all [wiB];done))) ?_)) rfl)
 rintro u_ hq8
 try simp only[sm',Nat.reduceAdd]
 refine cd' lk (fun hc3=>?_) (fun hc3=>?_)
 ·have hv:=ZjP (y:=y) (m:=m) (kind:=k) (wk:=wk) (n:=n) (k:=3) (by unfold ZbX;rw[if_neg hc1,if_neg om,if_pos hc3]) om
  refine wr'<|Vw (Zau Zm4)<|E' (Zak lk cv gx rfl (nb' rfl) rfl ZbB (hs1 hn)) ptn<|mw<|sn'<|Zaa<|Zai<|Zae (rsn (rm1 (rr_c gt gx (ld1 Zbh rfl)) (rm1 (rr_t gt) rm0)))<|rT'<|?_
  rw[hv]
 refine Zaf<|Zah<|wr'<|mw<|mw<|?_
 refine Zad mp (Zis om) pt ?_
 refine mw<|sn'<|Zam<|?_
 refine Zf7 (ι:=Unit) (fun (u_:Unit)=>[(62,bv (decide (k=2∧n≠0∨k≠2∧¬(1≤n∧n≤mlen y m))))]++rn' 43 19) (fun (u_:Unit)=>[]) (fun (u_:Unit)=>True) ?_ ?_
 ·try simp only[sm',Nat.reduceAdd]
  refine Zav<|Vw (Zab lk)<|Vw (Zac lk gx gt0)<|Vw (ZaP lk lki)<|mw<|?_
  refine sp' (t:=46) gt pt pt (fun hg46=>?_) (fun hg46=>?_)
  ·refine s_do gt<|Vw (Zab lk)<|s_do gt<|Vw (Zac lk gx gt2)<|s_do gt<|Vw (ZaT lk lki)<|Vw (Zag lk lk)<|mw<|?_
   refine sp' (t:=51) gt pt pt (fun hg51=>?_) (fun hg51=>?_)
   ·refine s_no gt pt<|s_no gt pt<|s_no gt pt<|s_no gt pt<|s_nu gt pt<|s_nu gt pt<|s_nu gt pt<|s_nu gt pt<|s_nu gt pt<|s_no gt pt<|Vw (Zag lk lkb)<|Zas<|ZaB<|?_
    exact cT' (()) (by trivial) (by (try dsimp only);(try simp only[sm',Nat.reduceAdd]);exact ALe.same (by repeat (first | exact wk0 | refine wka ?_ | refine wk1 rfl ?_ | refine wk1 (by first | rfl | exact bvx (by first | (simp_all [wiB];done) | (rw[Bool.eq_iff_iff];simp_all [wiB];omega) | (rw[Bool.eq_iff_iff];simp_all [wiB];done))) ?_)) rfl)
   refine s_do gt<|Vw (Zab lk)<|s_do gt<|Vw (Zac lk gx gt0)<|s_do gt<|Vw (ZaT lk lki)<|s_do gt<|mw<|?_
   refine sp' (t:=55) gt pt pt (fun hg55=>?_) (fun hg55=>?_)
   ·refine s_do gt<|Vw (Zab lk)<|s_do gt<|Vw (Zac lk gx gt2)<|s_do gt<|mw<|s_do gt<|Zad mp (Zb9) pt<|s_do gt<|Vw (Zax lk)<|s_do gt<|Vw (Zag lk lk)<|Vw (Zaj lk lk)<|Zas<|?_
    refine ZaB ?_
    exact cT' (()) (by trivial) (by (try dsimp only);(try simp only[sm',Nat.reduceAdd]);exact ALe.same (by repeat (first | exact wk0 | refine wka ?_ | refine wk1 rfl ?_ | refine wk1 (by first | rfl | exact bvx (by first | (simp_all [wiB];done) | (rw[Bool.eq_iff_iff];simp_all [wiB];omega) | (rw[Bool.eq_iff_iff];simp_all [wiB];done))) ?_)) rfl)
   refine s_no gt pt<|s_no gt pt<|s_no gt pt<|s_no gt pt<|s_no gt pt<|s_do gt<|Vw (Zaj lk lkb)<|Vw (Zaj lk lk)<|Zas<|ZaB<|?_
   exact cT' (()) (by trivial) (by (try dsimp only);(try simp only[sm',Nat.reduceAdd]);exact ALe.same (by repeat (first | exact wk0 | refine wka ?_ | refine wk1 rfl ?_ | refine wk1 (by first | rfl | exact bvx (by first | (simp_all [wiB];done) | (rw[Bool.eq_iff_iff];simp_all [wiB];omega) | (rw[Bool.eq_iff_iff];simp_all [wiB];done))) ?_)) rfl)
  refine s_no gt pt<|s_no gt pt<|s_no gt pt<|Vw (Zaj lk lkb)<|mw<|s_do gt<|Vw (Zab lk)<|s_do gt<|Vw (Zac lk gx gt0)<|s_do gt<|Vw (ZaT lk lki)<|s_do gt<|mw<|?_
  refine sp' (t:=55) gt pt pt (fun hg55=>?_) (fun hg55=>?_)
  ·refine s_do gt<|Vw (Zab lk)<|s_do gt<|Vw (Zac lk gx gt2)<|s_do gt<|mw<|s_do gt<|Zad mp (Zb9) pt<|s_do gt<|Vw (Zax lk)<|s_do gt<|Vw (Zag lk lk)<|Vw (Zaj lk lk)<|Zas<|?_
   refine ZaB ?_
   exact cT' (()) (by trivial) (by (try dsimp only);(try simp only[sm',Nat.reduceAdd]);exact ALe.same (by repeat (first | exact wk0 | refine wka ?_ | refine wk1 rfl ?_ | refine wk1 (by first | rfl | exact bvx (by first | (simp_all [wiB];done) | (rw[Bool.eq_iff_iff];simp_all [wiB];omega) | (rw[Bool.eq_iff_iff];simp_all [wiB];done))) ?_)) rfl)
  refine s_no gt pt<|s_no gt pt<|s_no gt pt<|s_no gt pt<|s_no gt pt<|s_do gt<|Vw (Zaj lk lkb)<|Vw (Zaj lk lk)<|Zas<|ZaB<|?_
  exact cT' (()) (by trivial) (by (try dsimp only);(try simp only[sm',Nat.reduceAdd]);exact ALe.same (by repeat (first | exact wk0 | refine wka ?_ | refine wk1 rfl ?_ | refine wk1 (by first | rfl | exact bvx (by first | (simp_all [wiB];done) | (rw[Bool.eq_iff_iff];simp_all [wiB];omega) | (rw[Bool.eq_iff_iff];simp_all [wiB];done))) ?_)) rfl)
 rintro u_ hq12
 try simp only[sm',Nat.reduceAdd]
 refine cd' lk (fun hc4=>?_) (fun hc4=>?_)
 ·have hv:=ZjP (y:=y) (m:=m) (kind:=k) (wk:=wk) (n:=n) (k:=3) (by unfold ZbX;rw[if_neg hc1,if_neg om,if_neg hc3,if_pos hc4]) om
  refine wr'<|Vw (Zau Zm3)<|E' (Zak lk cv gx rfl (nb' rfl) rfl ZbB (hs1 hn)) ptn<|mw<|sn'<|Zaa<|Zai<|Zae (rsn (rm1 (rr_c gt gx (ld1 Zbh rfl)) (rm1 (rr_t gt) rm0)))<|rT'<|?_
  rw[hv]
 have he:ZbX y m k wk n=0:=by unfold ZbX;rw[if_neg hc1,if_neg om,if_neg hc3,if_neg hc4]
 have hw:0≤wk∧wk≤6:=by omega
 have hsb:=onSt_bd (y:=y) (m:=m) (k:=k) (n:=n) ⟨hym.1.1,by omega⟩ hym.2 om
 have hnb:=ZkW (y:=y) (m:=m) ⟨hym.1.1,by omega⟩ hym.2
 have hml:=Zd3 y m
 have hn':0≤n∧n≤31:=by omega
 refine Zaf<|Zah<|wr'<|mw<|mw<|Vw (Zau (Zm2 cv rfl cv rfl (cvl lki rfl) rfl))<|?_
 refine Zad mp (Zec om om om om om om) pt ?_
 refine V' (Zbt lk lki om om) pt ?_
 refine mw<|sn'<|?_
 refine Zf7 (ι:=Unit) (fun (u_:Unit)=>[(9,iv (onSt y m k n))]++rn' 69 17) (fun (u_:Unit)=>[]) (fun (u_:Unit)=>True) ?_ ?_
 ·try simp only[sm',Nat.reduceAdd]
  refine wr'<|Vw (Zab lk)<|Vw (Zac lk gx gt0)<|sn'<|Zap<|wr'<|Vw (ZaP lk lki)<|mw<|sn'<|?_
  refine cd' lk (fun hc5=>?_) (fun hc5=>?_)
  ·refine Zav<|mw<|Vw (Zab lk)<|Vw (Zac lk gx gt2)<|?_
   refine V' (Zay lk lk om om) pt ?_
   refine mw<|Zas<|Zaz<|ZaB<|?_
   exact cT' (()) (by trivial) (by (try dsimp only);(try simp only[sm',Nat.reduceAdd]);exact ALe.same (by repeat (first | exact wk0 | refine wka ?_ | refine wk1 rfl ?_ | refine wk1 (by first | rfl | exact ivx (by unfold onSt;simp_all) | exact ivx (by unfold onSt;rw[if_neg om])) ?_)) rfl)
  refine wr'<|Vw (ZaP lk lki)<|mw<|sn'<|?_
  refine cd' lk (fun hc6=>?_) (fun hc6=>?_)
  ·refine Zav<|mw<|mw<|?_
   refine V' (Zay lk lk om om) pt ?_
   refine mw<|Zas<|Zaz<|ZaB<|?_
   exact cT' (()) (by trivial) (by (try dsimp only);(try simp only[sm',Nat.reduceAdd]);exact ALe.same (by repeat (first | exact wk0 | refine wka ?_ | refine wk1 rfl ?_ | refine wk1 (by first | rfl | exact ivx (by unfold onSt;simp_all) | exact ivx (by unfold onSt;rw[if_neg om])) ?_)) rfl)
  refine Zav<|mw<|Vw (Zab lk)<|Vw (Zac lk gx gt2)<|?_
  refine V' (Zay lk lk om om) pt ?_
  refine mw<|Zas<|Zaz<|ZaB<|?_
  exact cT' (()) (by trivial) (by (try dsimp only);(try simp only[sm',Nat.reduceAdd]);exact ALe.same (by repeat (first | exact wk0 | refine wka ?_ | refine wk1 rfl ?_ | refine wk1 (by first | rfl | exact ivx (by unfold onSt;simp_all) | exact ivx (by unfold onSt;rw[if_neg om])) ?_)) rfl)
 rintro u_ hq19
 try simp only[sm',Nat.reduceAdd]
 refine Zam<|wr'<|mw<|sn'<|Zap<|?_
 refine Zhs (ι:=Nat) (fun (j:Nat)=>[(9,iv (onGo k wk (onSt y m k n) j)),(10,iv (j:Int))]++rn' 86 23) (fun (j:Nat)=>[]) (fun (j:Nat)=>(j:Int)≤Zg6 k wk (onSt y m k n)) (fun (j:Nat)=>7-j) (0) (by exact (ZhV _ _ _).1) (by try simp only[sm',Nat.reduceAdd];exact ALe.same (by repeat (first | exact wk0 | refine wka ?_ | refine wk1 rfl ?_ | refine wk1 (by first | rfl | exact ivx (by unfold onGo;simp)) ?_)) rfl) ?_
 rintro j hi1
 try simp only[sm',Nat.reduceAdd]
 have hgb:=onGo_bd hi1
 have hfb:=ZhV k wk (onSt y m k n)
 refine Zam ?_
 refine Zf7 (ι:=Unit) (fun (u_:Unit)=>[(99,bv (decide (j<7∧1<k∧wd (onGo k wk (onSt y m k n) j)≠wk)))]++rn' 86 13) (fun (u_:Unit)=>[]) (fun (u_:Unit)=>True) ?_ ?_
 ·try simp only[sm',Nat.reduceAdd]
  refine ZbZ<|Dw (v_mv lk)<|Dw (Zbb lk lki)<|Dw (v_mv lk)<|?_
  refine dq' (t:=88) gt pt pt (fun hg88=>?_) (fun hg88=>?_)
  ·refine d_do gt<|Dw (Zab lk)<|d_do gt<|Dw (Zac lk gx gt0)<|d_do gt<|Dw (ZbD lk lki)<|Dw (Zag lk lk)<|Dw (v_mv lk)<|?_
   refine dq' (t:=93) gt pt pt (fun hg93=>?_) (fun hg93=>?_)
   ·refine d_do gt<|Dw (v_mv lk)<|d_do gt<|?_
    refine ZaY mp (fun hE hX=>Zp0) pt ?_
    refine d_do gt<|Dw (Zab lk)<|d_do gt<|Dw (Zac lk gx gt1)<|d_do gt<|Dw (ZaT lk lk)<|Dw (Zag lk lk)<|ZbI<|?_
    refine Zch ?_
    refine Zas<|ZaB<|?_
    exact cT' (()) (by trivial) (by (try dsimp only);(try simp only[sm',Nat.reduceAdd]);exact ALe.same (by repeat (first | exact wk0 | refine wka ?_ | refine wk1 rfl ?_ | refine wk1 (by first | rfl | exact bvx (by first | (simp_all [wiB];done) | (rw[Bool.eq_iff_iff];simp_all [wiB];omega) | (rw[Bool.eq_iff_iff];simp_all [wiB];done))) ?_)) rfl)
   refine d_no gt pt<|d_no gt pt<|d_no gt pt<|d_no gt pt<|d_no gt pt<|Dw (Zaj lk lkb)<|ZbI<|?_
   refine Zch ?_
   refine Zas<|ZaB<|?_
   exact cT' (()) (by trivial) (by (try dsimp only);(try simp only[sm',Nat.reduceAdd]);exact ALe.same (by repeat (first | exact wk0 | refine wka ?_ | refine wk1 rfl ?_ | refine wk1 (by first | rfl | exact bvx (by first | (simp_all [wiB];done) | (rw[Bool.eq_iff_iff];simp_all [wiB];omega) | (rw[Bool.eq_iff_iff];simp_all [wiB];done))) ?_)) rfl)
  refine d_no gt pt<|d_no gt pt<|d_no gt pt<|Dw (Zaj lk lkb)<|Dw (v_mv lk)<|d_no gt pt<|d_no gt pt<|d_no gt pt<|d_no gt pt<|d_no gt pt<|Dw (Zaj lk lkb)<|ZbI<|?_
  refine Zch ?_
  refine Zas<|ZaB<|?_
  exact cT' (()) (by trivial) (by (try dsimp only);(try simp only[sm',Nat.reduceAdd]);exact ALe.same (by repeat (first | exact wk0 | refine wka ?_ | refine wk1 rfl ?_ | refine wk1 (by first | rfl | exact bvx (by first | (simp_all [wiB];done) | (rw[Bool.eq_iff_iff];simp_all [wiB];omega) | (rw[Bool.eq_iff_iff];simp_all [wiB];done))) ?_)) rfl)
 rintro u_ hq21
 try simp only[sm',Nat.reduceAdd]
 refine cd' lk (fun hc7=>?_) (fun hc7=>?_)
 ·have hgo:=onGo_go hw hi1 hc7
  refine Zaf<|Zah<|Zam<|Zap<|wr'<|Vw (Zab lk)<|Vw (Zac lk gx gt0)<|Vw (ZaP lk lki)<|sn'<|?_
  refine cd' lk (fun hc8=>?_) (fun hc8=>?_)
  ·refine Zav<|mw<|?_
   refine V' (Zay lk lki om om) pt ?_
   refine mw<|Zas<|Zaz<|Zah<|Zav<|mw<|?_
   refine V' (Zay lk lki om om) pt ?_
   refine mw<|Zas<|ZaB<|?_
   refine lU' (j+1) (by (try dsimp only);omega) (by (try dsimp only);(try simp only[sm',Nat.reduceAdd]);exact ALe.same (by repeat (first | exact wk0 | refine wka ?_ | refine wk1 rfl ?_ | refine wk1 (by first | rfl | exact ivx (by unfold onGo;simp_all;omega) | exact ivx om) ?_)) rfl)
  refine Zav<|mw<|?_
  refine V' (Zbt lk lki om om) pt ?_
  refine mw<|Zas<|Zaz<|Zah<|Zav<|mw<|?_
  refine V' (Zay lk lki om om) pt ?_
  refine mw<|Zas<|ZaB<|?_
  refine lU' (j+1) (by (try dsimp only);omega) (by (try dsimp only);(try simp only[sm',Nat.reduceAdd]);exact ALe.same (by repeat (first | exact wk0 | refine wka ?_ | refine wk1 rfl ?_ | refine wk1 (by first | rfl | exact ivx (by unfold onGo;simp_all;omega) | exact ivx om) ?_)) rfl)
 have hd:=onGo_end hk hw hi1 hc7
 rw[←hd]
 refine ZaQ<|ZaD<|ZaD<|Zba<|Zah<|Zam<|wr'<|mw<|Zad mp0 (rfirst_a) pt<|Zad mp0 (rlast_a) pt<|Zad mp (Zb9) pt<|Vw (Zax lk)<|Zas<|?_
 refine Zah ?_
 refine Zaw lk (fun hc9=>?_) (fun hc9=>?_)
 ·have hr:¬(-719162≤Zdj y m k wk n∧Zdj y m k wk n≤2932896):=by have h9:=hc9;simp[wiB] at h9;omega
  refine wr'<|Vw (Zau Zlu)<|E' (Zak lk cv gx rfl (nb' rfl) rfl ZbB (hs1 hn)) ptn<|mw<|sn'<|Zaa<|Zai<|Zae (rsn (rm1 (rr_c gt gx (ld1 Zbh rfl)) (rm1 (rr_t gt) rm0)))<|rT'<|?_
  rw[Ziz he rfl,if_neg hr]
 have hr : -719162≤Zdj y m k wk n∧Zdj y m k wk n≤2932896:=by have h9:=hc9;simp[wiB] at h9;omega
 refine Zaf<|Zah<|wr'<|mw<|Zad mp (Zsh hr.1 hr.2) pt<|E' (Zak lk cv gx rfl (nb' rfl) rfl ZbB (hs1 hn)) ptn<|mw<|sn'<|Zaa<|Zae (rsn (rm1 (rr_c gt gx (ld1 Zbh rfl)) (rm1 (rr_t gt) rm0)))<|rT'<|?_
 rw[Ziz he rfl,if_pos hr]
end Go.Proofs.YtlekejpogddndaaGreatDoor
end
section
namespace Go.Proofs.YtlekejpogddndaaGreatDoor
open Go.Ab Go.RowKit
def c232:AC:=(Sr [Mb 6 false] (Sr [Mv 7 0,Mv 8 1,Bn 9 .geq 7 8,Mv 10 9,Ot 11 10 (mt 0),Ot 12 10 (mt 2),Ot 13 10 (.bin .leq (.tmp 11) (.tmp 12)),Oo 14 (.pick (.tmp 10) (.tmp 13) (.const (.bool false))),Mv 6 14] .ret))
theorem k232:ZaA Tryz.prog 232=some ⟨c232,[(.tmp 6)],15⟩:=by kernel_rfl
def c233:AC:=(Sr [Mb 4 false] (Sr [Mv 5 0,Cl 6 232 [(.tmp 5),(Ci 1),(Ci 3)],Mv 7 6,Ot 8 7 (mt 1),Ot 9 7 (mt 8),Of 10 9 (mt 0),Of 11 9 (.bin .neq (.tmp 10) (Ci 1)),Ot 12 7 (.pick (.tmp 9) (.const (.bool true)) (.tmp 11)),Oo 13 (.pick (.tmp 7) (.tmp 12) (.const (.bool false))),Mv 4 13] .ret))
theorem k233:ZaA Tryz.prog 233=some ⟨c233,[(.tmp 4)],14⟩:=by kernel_rfl
def c179:AC:=(Sr [Mb 2 false] (Sr [Mv 3 0,Cl 4 177 [(.tmp 3)],Mv 5 4,Of 6 5 (mt 0),Of 7 5 (.call (.func 180) [(.tmp 6)]),Oo 8 (.pick (.tmp 5) (.const (.bool true)) (.tmp 7)),Mv 9 8,Of 10 9 (mt 0),Of 11 9 (.call (.func 181) [(.const (.string ⟨#[95,45,47,43]⟩)),(.tmp 10)]),Of 12 9 (.bin .geq (.tmp 11) (Ci 0)),Oo 13 (.pick (.tmp 9) (.const (.bool true)) (.tmp 12)),Mv 2 13] .ret))
theorem k179:ZaA Tryz.prog 179=some ⟨c179,[(.tmp 2)],14⟩:=by kernel_rfl
def c112:AC:=(Sr [Mb 2 false] (Sr [Mv 3 0,Oo 4 (.bin .neq (.tmp 3) (.const (.string ⟨#[]⟩))),Mv 5 4,Ot 6 5 (mt 0),Ot 7 5 (.len true (.tmp 6)),Ot 8 5 (.bin .leq (.tmp 7) (Ci 24)),Oo 9 (.pick (.tmp 5) (.tmp 8) (.const (.bool false))),Mv 10 9,Ot 11 10 (mt 0),Ot 12 10 (.ix (.tmp 11) (Ci 0)),Ot 13 10 (.call (.func 177) [(.tmp 12)]),Oo 14 (.pick (.tmp 10) (.tmp 13) (.const (.bool false))),Mv 15 14,Ot 16 15 (mt 0),Ot 17 15 (.call (.func 178) [(.tmp 16),(.func 179)]),Oo 18 (.pick (.tmp 15) (.tmp 17) (.const (.bool false))),Mv 2 18] .ret))
theorem k112:ZaA Tryz.prog 112=some ⟨c112,[(.tmp 2)],19⟩:=by kernel_rfl
def c231:AC:=(Sr [Mb 2 false] (Sr [Mv 3 0,Oo 4 (.len true (.tmp 3)),Bc 5 .leq 4 24,Mv 6 5,Ot 7 6 (mt 0),Ot 8 6 (.call (.func 178) [(.tmp 7),(.func 177)]),Oo 9 (.pick (.tmp 6) (.tmp 8) (.const (.bool false))),Mv 2 9] .ret))
theorem k231:ZaA Tryz.prog 231=some ⟨c231,[(.tmp 2)],10⟩:=by kernel_rfl
def c310:AC:=(Sr [Mb 2 false] (.seq (Sr [Mv 6 0,Oo 7 (.bin .eql (.tmp 6) (.const (.string ⟨#[]⟩))),Mv 8 7,Of 9 8 (mt 0),Of 10 8 (.len true (.tmp 9)),Of 11 8 (.bin .gtr (.tmp 10) (Ci 24)),Oo 12 (.pick (.tmp 8) (.const (.bool true)) (.tmp 11))] (Cd 12 (Sr [Mb 2 false] .ret) .skip)) (Sr [Mv 14 0,Oo 15 (.call (.func 320) [(.tmp 14),(.const (.string ⟨#[47]⟩))]),Mv 13 15,Ex 16 13 0,Ex 17 13 1,Ex 18 13 2,Mv 3 16,Mv 4 17,Mv 5 18] (.seq (Sr [Mv 19 5] (Cd 19 (Sr [Mv 20 3,Oo 21 (.bin .neq (.tmp 20) (.const (.string ⟨#[]⟩))),Mv 22 21,Ot 23 22 (mt 4),Ot 24 22 (.bin .neq (.tmp 23) (.const (.string ⟨#[]⟩))),Oo 25 (.pick (.tmp 22) (.tmp 24) (.const (.bool false))),Mv 26 25,Ot 27 26 (mt 3),Ot 28 26 (.call (.func 150) [(.tmp 27)]),Oo 29 (.pick (.tmp 26) (.tmp 28) (.const (.bool false))),Mv 30 29,Ot 31 30 (mt 4),Ot 32 30 (.call (.func 150) [(.tmp 31)]),Oo 33 (.pick (.tmp 30) (.tmp 32) (.const (.bool false))),Mv 2 33] .ret) .skip)) (Sr [Mv 35 0,Oo 36 (.call (.func 320) [(.tmp 35),(.const (.string ⟨#[37,115]⟩))]),Mv 34 36,Ex 37 34 0,Ex 38 34 1,Ex 39 34 2,Mv 3 37,Mv 4 38] (Sr [Mv 40 3,Cl 41 150 [(.tmp 40)],Mv 42 41,Ot 43 42 (mt 4),Ot 44 42 (.call (.func 150) [(.tmp 43)]),Oo 45 (.pick (.tmp 42) (.tmp 44) (.const (.bool false))),Mv 2 45] .ret))))))
theorem k310:ZaA Tryz.prog 310=some ⟨c310,[(.tmp 2)],46⟩:=by kernel_rfl
theorem Zb5 {n a b:Int}{h:AH}:Ac 232 [iv n,iv a,iv b] h (bv (wi n a b)):=by
 refine tI' k232 fun N hn hlt hlA hbd=>?_
 simp only[tb'] at hbd ⊢
 refine wr'<|mw<|sn'<|wr'<|mw<|mw<|Vw (ZeR lk lk)<|mw<|?_
 refine sp' (t:=10) gt pt pt (fun hg10=>?_) (fun hg10=>?_)
 ·refine s_do gt<|mw<|s_do gt<|mw<|s_do gt<|Vw (Zdq lk lk)<|Vw (Zag lk lk)<|mw<|sn'<|Zaa<|Zae rz<|rT'<|?_
  refine bvx ?_;unfold wi;rw[Bool.eq_iff_iff];simp;omega
 refine s_no gt pt<|s_no gt pt<|s_no gt pt<|Vw (Zaj lk lkb)<|mw<|sn'<|Zaa<|Zae rz<|rT'<|?_
 refine bvx ?_;unfold wi;rw[Bool.eq_iff_iff];simp;omega
def clkB (n:Int) (wall:Bool):Bool:=wi n 1 3&&(wall||decide (n≠1))
theorem ZiP {n:Int}{b:Bool}{h:AH}:Ac 233 [iv n,bv b] h (bv (clkB n b)):=by
 refine tI' k233 fun N hn hlt hlA hbd=>?_
 simp only[tb'] at hbd ⊢
 refine wr'<|mw<|sn'<|wr'<|mw<|Zad mp (Zb5) pt<|mw<|?_
 refine ZaG (t:=7) gt pt pt (fun hg7=>?_) (fun hg7=>?_)
 ·refine s_do gt<|mw<|s_do gt<|mw<|?_
  refine ZaG (t:=9) gt pt pt (fun hg9=>?_) (fun hg9=>?_)
  ·refine s_no gt pt<|s_no gt pt<|s_do gt<|Vw (Zag lk lkb)<|Vw (Zag lk lk)<|mw<|sn'<|Zaa<|Zae rz<|rT'<|?_
   refine bvx ?_;unfold clkB;simp_all
  refine s_do gt<|mw<|s_do gt<|Vw (ZaT lk lki)<|s_do gt<|Vw (Zaj lk lk)<|Vw (Zag lk lk)<|mw<|sn'<|Zaa<|Zae rz<|rT'<|?_
  refine bvx ?_;unfold clkB;simp_all
 refine s_no gt pt<|s_no gt pt<|s_nu gt pt<|s_nu gt pt<|s_no gt pt<|Vw (Zaj lk lkb)<|mw<|sn'<|Zaa<|Zae rz<|rT'<|?_
 refine bvx ?_;unfold clkB;simp_all
def Zmk (n:Int):Bool:=letB n||digB n||decide (0≤Lib.indexByte [95,45,47,43] n.toNat.toUInt8)
theorem indexN_a {n:Int}{h:AH}:Ac 181 [sv (bA [95,45,47,43]),uv n] h (iv (Lib.indexByte [95,45,47,43] n.toNat.toUInt8)):=ZnL
theorem name1_a {n:Int}{h:AH}:Ac 179 [uv n] h (bv (Zmk n)):=by
 refine tI' k179 fun N hn hlt hlA hbd=>?_
 simp only[tb'] at hbd ⊢
 refine wr'<|mw<|sn'<|wr'<|mw<|Zad mp (ZhZ) pt<|mw<|?_
 refine ZaG (t:=5) gt pt pt (fun hg5=>?_) (fun hg5=>?_)
 ·refine s_no gt pt<|s_no gt pt<|Vw (Zag lk lkb)<|mw<|s_no gt pt<|s_no gt pt<|s_no gt pt<|Vw (Zag lk lkb)<|mw<|sn'<|Zaa<|Zae rz<|rT'<|?_
  refine bvx ?_;unfold Zmk;rw[Bool.eq_iff_iff];simp_all
 refine s_do gt<|mw<|s_do gt<|Zad mp (Zti) pt<|Vw (Zaj lk lk)<|mw<|?_
 refine ZaG (t:=9) gt pt pt (fun hg9=>?_) (fun hg9=>?_)
 ·refine s_no gt pt<|s_no gt pt<|s_no gt pt<|Vw (Zag lk lkb)<|mw<|sn'<|Zaa<|Zae rz<|rT'<|?_
  refine bvx ?_;unfold Zmk;rw[Bool.eq_iff_iff];simp_all
 refine s_do gt<|mw<|s_do gt<|Zad mp (indexN_a) pt<|s_do gt<|Vw (ZeR lk lki)<|Vw (Zaj lk lk)<|mw<|sn'<|Zaa<|Zae rz<|rT'<|?_
 refine bvx ?_;unfold Zmk;rw[Bool.eq_iff_iff];simp_all
def Zcv (s:ByteArray):Bool:=decide (s.size≠0)&&decide (s.size≤24)&&letB (ZaH s 0).toNat&&allB Zmk s
theorem Zmi {s:ByteArray}{h:AH}(hs:s.size≤maxLen):Ac 112 [sv s] h (bv (Zcv s)):=by
 have hm:s.size≤9223372036854775807:=by simpa [maxLen] using hs
 have hem:=ZeA (f:=s)
 refine tI' k112 fun N hn hlt hlA hbd=>?_
 simp only[tb'] at hbd ⊢
 refine wr'<|mw<|sn'<|wr'<|mw<|Vw (Zcr lk lks)<|mw<|?_
 refine sp' (t:=5) gt pt pt (fun hg5=>?_) (fun hg5=>?_)
 ·have hne:s.size≠0:=fun e=>hg5 (hem.2 e)
  refine s_do gt<|mw<|s_do gt<|Vw (Zbe lk)<|s_do gt<|Vw (Zdq lk lki)<|Vw (Zag lk lk)<|mw<|?_
  refine sp' (t:=10) gt pt pt (fun hg10=>?_) (fun hg10=>?_)
  ·refine s_do gt<|mw<|s_do gt<|?_
   refine V' (v_ix lk lki om om) pt ?_
   refine s_do gt<|Zad mp (ZhZ) pt<|Vw (Zag lk lk)<|mw<|?_
   refine ZaG (t:=15) gt pt pt (fun hg15=>?_) (fun hg15=>?_)
   ·refine s_do gt<|mw<|s_do gt<|?_
    refine Zad mp (all_a (fun _ _=>name1_a) hs) pt ?_
    refine Vw (Zag lk lk)<|mw<|sn'<|Zaa<|Zae rz<|rT'<|?_
    refine bvx ?_;unfold Zcv;simp_all <;> (try intros) <;> omega
   refine s_no gt pt<|s_no gt pt<|Vw (Zaj lk lkb)<|mw<|sn'<|Zaa<|Zae rz<|rT'<|?_
   refine bvx ?_;unfold Zcv;simp_all <;> (try intros) <;> omega
  refine s_no gt pt<|s_no gt pt<|s_no gt pt<|Vw (Zaj lk lkb)<|mw<|s_no gt pt<|s_no gt pt<|Vw (Zaj lk lkb)<|mw<|sn'<|Zaa<|Zae rz<|rT'<|?_
  refine bvx ?_;unfold Zcv;simp_all <;> (try intros) <;> omega
 refine s_no gt pt<|s_no gt pt<|s_no gt pt<|Vw (Zaj lk lkb)<|mw<|s_no gt pt<|s_no gt pt<|s_no gt pt<|Vw (Zaj lk lkb)<|mw<|s_no gt pt<|s_no gt pt<|Vw (Zaj lk lkb)<|mw<|?_
 refine sn'<|Zaa<|Zae rz<|rT'<|?_
 refine bvx ?_;unfold Zcv;simp_all <;> (try intros) <;> omega
def Zco (s:ByteArray):Bool:=decide (s.size≤24)&&allB letB s
theorem ZsT {s:ByteArray}{h:AH}(hs:s.size≤maxLen):Ac 231 [sv s] h (bv (Zco s)):=by
 have hm:s.size≤9223372036854775807:=by simpa [maxLen] using hs
 refine tI' k231 fun N hn hlt hlA hbd=>?_
 simp only[tb'] at hbd ⊢
 refine wr'<|mw<|sn'<|wr'<|mw<|Vw (Zbe lk)<|Vw (Zdq lk lki)<|mw<|?_
 refine sp' (t:=6) gt pt pt (fun hg6=>?_) (fun hg6=>?_)
 ·refine s_do gt<|mw<|s_do gt<|?_
  refine Zad mp (all_a (fun _ _=>ZhZ) hs) pt ?_
  refine Vw (Zag lk lk)<|mw<|sn'<|Zaa<|Zae rz<|rT'<|?_
  refine bvx ?_;unfold Zco;simp_all <;> (try intros) <;> omega
 refine s_no gt pt<|s_no gt pt<|Vw (Zaj lk lkb)<|mw<|sn'<|Zaa<|Zae rz<|rT'<|?_
 refine bvx ?_;unfold Zco;simp_all <;> (try intros) <;> omega
abbrev cutL (s:ByteArray) (p:Bs):Bs×Bs×Bool:=Lib.cut (aB s) p
def ZbO (s:ByteArray):Bool:=if s.size=0∨24<s.size then false else
 if (cutL s [47]).2.2=true then decide (bA (cutL s [47]).1≠⟨#[]⟩)&&decide (bA (cutL s [47]).2.1≠⟨#[]⟩)&&allB Zbk (bA (cutL s [47]).1)&&allB Zbk (bA (cutL s [47]).2.1)
 else allB Zbk (bA (cutL s [37,115]).1)&&allB Zbk (bA (cutL s [37,115]).2.1)
theorem Zh1 {s:ByteArray}{p:Bs}:(cutL s p).1.length≤s.size∧(cutL s p).2.1.length≤s.size:=by
 unfold cutL Lib.cut
 split
 ·simp only[List.length_take,List.length_drop,Zeg];omega
 simp[Zeg]
theorem cut1_a {s:ByteArray}{h:AH}(hz:s.size≤24):Ac 320 [sv s,sv (bA [47])] h (.tup [sv (bA (cutL s [47]).1),sv (bA (cutL s [47]).2.1),bv (cutL s [47]).2.2]):=cut_a om
theorem cut2_a {s:ByteArray}{h:AH}(hz:s.size≤24):Ac 320 [sv s,sv (bA [37,115])] h (.tup [sv (bA (cutL s [37,115]).1),sv (bA (cutL s [37,115]).2.1),bv (cutL s [37,115]).2.2]):=cut_a om
theorem Zpo {s:ByteArray}{h:AH}(hs:s.size≤maxLen):Ac 310 [sv s] h (bv (ZbO s)):=by
 have hm:s.size≤9223372036854775807:=by simpa [maxLen] using hs
 have hem:=ZeA (f:=s)
 have k1:=Zh1 (s:=s) (p:=[47])
 have k2:=Zh1 (s:=s) (p:=[37,115])
 refine tI' k310 fun N hn hlt hlA hbd=>?_
 simp only[tb'] at hbd ⊢
 refine wr'<|mw<|sn'<|Zam<|wr'<|mw<|Vw (ZcF lk lks)<|mw<|?_
 refine sp' (t:=8) gt pt pt (fun hg8=>?_) (fun hg8=>?_)
 ·have hB:ZbO s=false:=if_pos (.inl (hem.1 hg8))
  refine s_no gt pt<|s_no gt pt<|s_no gt pt<|Vw (Zag lk lkb)<|sn'<|ZaC lk<|wr'<|mw<|sn'<|Zaa<|Zai<|?_
  refine Zae rz<|rT'<|?_
  rw[hB]
 refine s_do gt<|mw<|s_do gt<|Vw (Zbe lk)<|s_do gt<|Vw (ZbD lk lki)<|Vw (Zaj lk lk)<|sn'<|?_
 refine cd' lk (fun hc1=>?_) (fun hc1=>?_)
 ·have hB:ZbO s=false:=if_pos (.inr om)
  refine wr'<|mw<|sn'<|Zaa<|Zai<|Zae rz<|rT'<|?_
  rw[hB]
 have hB:ZbO s=if (cutL s [47]).2.2=true then decide (bA (cutL s [47]).1≠⟨#[]⟩)&&decide (bA (cutL s [47]).2.1≠⟨#[]⟩)&&allB Zbk (bA (cutL s [47]).1)&&allB Zbk (bA (cutL s [47]).2.1) else allB Zbk (bA (cutL s [37,115]).1)&&allB Zbk (bA (cutL s [37,115]).2.1):=if_neg (by have:s.size≠0:=fun e=>hg8 (hem.2 e);omega)
 have hz:s.size≤24:=by omega
 refine Zaf<|Zah<|wr'<|mw<|Zad mp (cut1_a hz) pt<|mw<|Vw (ZaN lk gt)<|Vw (ZaN lk gt)<|Vw (ZaN lk gt)<|mw<|mw<|mw<|Zas<|?_
 refine Zah<|Zam<|wr'<|mw<|sn'<|?_
 refine cd' lk (fun hc2=>?_) (fun hc2=>?_)
 ·rw[if_pos hc2] at hB
  refine wr'<|mw<|Vw (Zcr lk lks)<|mw<|?_
  refine sp' (t:=22) gt pt pt (fun hg22=>?_) (fun hg22=>?_)
  ·refine s_do gt<|mw<|s_do gt<|Vw (Zcr lk lks)<|Vw (Zag lk lk)<|mw<|?_
   refine sp' (t:=26) gt pt pt (fun hg26=>?_) (fun hg26=>?_)
   ·refine s_do gt<|mw<|s_do gt<|?_
    refine Zad mp (Ziw (by rw[Zdo];unfold maxLen;omega)) pt ?_
    refine Vw (Zag lk lk)<|mw<|?_
    refine ZaG (t:=30) gt pt pt (fun hg30=>?_) (fun hg30=>?_)
    ·refine s_do gt<|mw<|s_do gt<|?_
     refine Zad mp (Ziw (by rw[Zdo];unfold maxLen;omega)) pt ?_
     refine Vw (Zag lk lk)<|mw<|sn'<|Zaa<|Zai<|Zae rz<|rT'<|?_
     rw[hB];refine bvx ?_;simp_all
    refine s_no gt pt<|s_no gt pt<|Vw (Zaj lk lkb)<|mw<|sn'<|Zaa<|Zai<|Zae rz<|rT'<|?_
    rw[hB];refine bvx ?_;simp_all
   refine s_no gt pt<|s_no gt pt<|Vw (Zaj lk lkb)<|mw<|s_no gt pt<|s_no gt pt<|Vw (Zaj lk lkb)<|mw<|sn'<|Zaa<|Zai<|Zae rz<|rT'<|?_
   rw[hB];refine bvx ?_;simp_all
  refine s_no gt pt<|s_no gt pt<|Vw (Zaj lk lkb)<|mw<|s_no gt pt<|s_no gt pt<|Vw (Zaj lk lkb)<|mw<|s_no gt pt<|s_no gt pt<|Vw (Zaj lk lkb)<|mw<|sn'<|?_
  refine Zaa<|Zai<|Zae rz<|rT'<|?_
  rw[hB];refine bvx ?_;simp_all
 rw[if_neg (by rw[hc2];simp)] at hB
 refine Zaf<|Zah<|wr'<|mw<|Zad mp (cut2_a hz) pt<|mw<|Vw (ZaN lk gt)<|Vw (ZaN lk gt)<|Vw (ZaN lk gt)<|mw<|mw<|sn'<|?_
 refine wr'<|mw<|?_
 refine Zad mp (Ziw (by rw[Zdo];unfold maxLen;omega)) pt ?_
 refine mv' lk pt ?_
 refine ZaG (t:=42) gt pt pt (fun hg42=>?_) (fun hg42=>?_)
 ·refine s_do gt<|mw<|s_do gt<|?_
  refine Zad mp (Ziw (by rw[Zdo];unfold maxLen;omega)) pt ?_
  refine Vw (Zag lk lk)<|mw<|sn'<|Zaa<|Zae rz<|rT'<|?_
  rw[hB];refine bvx ?_;simp_all
 refine s_no gt pt<|s_no gt pt<|Vw (Zaj lk lkb)<|mw<|sn'<|Zaa<|Zae rz<|rT'<|?_
 rw[hB];refine bvx ?_;simp_all
end Go.Proofs.YtlekejpogddndaaGreatDoor
end
section
namespace Go.Proofs.YtlekejpogddndaaGreatDoor
open Go.Ab Go.RowKit Civ
attribute [local simp] Zbj Zby Zbs Zbv
section
theorem Zrd {a0 a1 a2 a3 a4 a5 a6:AV}{l:List AV}:((a0::a1::a2::a3::a4::a5::a6::l).drop 4).take 3=[a4,a5,a6]:=rfl
theorem Zrf {a0 a1 a2 c0 c1 c2:AV}{l:List AV}:setCells (a0::a1::a2::l) 0 [c0,c1,c2]=c0::c1::c2::l:=rfl
theorem Zfz {a0 a1 a2 a3 a4 a5 a6 a7 a8 a9:AV}{l:List AV}:((a0::a1::a2::a3::a4::a5::a6::a7::a8::a9::l).drop 5).take 5=[a5,a6,a7,a8,a9]:=rfl
theorem ZeI {τ:Operand→AV}:Zar τ [] [(.v (.int .i64 0)),(.v (.int .i64 0)),(.v (.int .i64 0)),(.v (.int .i64 0)),(.v (.int .i64 0))]=some [(.v (.int .i64 0)),(.v (.int .i64 0)),(.v (.int .i64 0)),(.v (.int .i64 0)),(.v (.int .i64 0))]:=rfl
theorem Zdu {a0 b0:Int}{a1 b1:Int}{a2 b2:Int}{a3 b3:Int}{a4 b4:Int}:Zbn [.int,.int,.int,.int,.int] [iv a0,iv a1,iv a2,iv a3,iv a4] [iv b0,iv b1,iv b2,iv b3,iv b4]=some (decide (a0=b0∧a1=b1∧a2=b2∧a3=b3∧a4=b4)):=by
 simp only[Zbn,ZdY,if_true,ZcV,Option.some.injEq]
 simp only[Bool.decide_and,Bool.and_true]
 try (congr 1 <;> simp)
 try rfl
theorem ZfA {a0 a1 a2 a3 a4 a5 a6 a7:AV}{l:List AV}:((a0::a1::a2::a3::a4::a5::a6::a7::l).drop 5).take 3=[a5,a6,a7]:=rfl
theorem Zrc {a0 a1 a2 a3 a4 a5 a6 a7 a8 a9:AV}{l:List AV}:(a0::a1::a2::a3::a4::a5::a6::a7::a8::a9::l).take 10=[a0,a1,a2,a3,a4,a5,a6,a7,a8,a9]:=rfl
theorem ZoD {a0 a1 a2 a3 a4 a5 a6 a7 a8 a9 c0 c1 c2 c3 c4 c5 c6 c7 c8 c9:AV}{l:List AV}:setCells (a0::a1::a2::a3::a4::a5::a6::a7::a8::a9::l) 0 [c0,c1,c2,c3,c4,c5,c6,c7,c8,c9]=c0::c1::c2::c3::c4::c5::c6::c7::c8::c9::l:=rfl
theorem ZoB {a0 a1 a2 a3 a4 a5 a6 a7 a8 a9:AV}{l:List AV}:((a0::a1::a2::a3::a4::a5::a6::a7::a8::a9::l).drop 0).take 10=[a0,a1,a2,a3,a4,a5,a6,a7,a8,a9]:=rfl
theorem Zrb {a0 a1 a2 a3 a4 a5 a6 a7 a8 a9 a10:AV}{l:List AV}:(a0::a1::a2::a3::a4::a5::a6::a7::a8::a9::a10::l).take 11=[a0,a1,a2,a3,a4,a5,a6,a7,a8,a9,a10]:=rfl
theorem ZoC {a0 a1 a2 a3 a4 a5 a6 a7 a8 a9 a10 c0 c1 c2 c3 c4 c5 c6 c7 c8 c9 c10:AV}{l:List AV}:setCells (a0::a1::a2::a3::a4::a5::a6::a7::a8::a9::a10::l) 0 [c0,c1,c2,c3,c4,c5,c6,c7,c8,c9,c10]=c0::c1::c2::c3::c4::c5::c6::c7::c8::c9::c10::l:=rfl
theorem ZoA {a0 a1 a2 a3 a4 a5 a6 a7 a8 a9 a10:AV}{l:List AV}:((a0::a1::a2::a3::a4::a5::a6::a7::a8::a9::a10::l).drop 0).take 11=[a0,a1,a2,a3,a4,a5,a6,a7,a8,a9,a10]:=rfl
theorem Zjd {a0 a1:AV}{l:List AV}:(a0::a1::l).take 2=[a0,a1]:=rfl
theorem Zhn {a0 a1 c0 c1:AV}{l:List AV}:setCells (a0::a1::l) 0 [c0,c1]=c0::c1::l:=rfl
theorem Zku {a0 a1:AV}{l:List AV}:((a0::a1::l).drop 0).take 2=[a0,a1]:=rfl
theorem Zre {a0 a1 a2:AV}{l:List AV}:((a0::a1::a2::l).drop 0).take 3=[a0,a1,a2]:=rfl
end
def c156:AC:=(Sr [Oo 1 (.box 36 11 (.tmp 0)),Mc 2 0] (.seq (.block 0 (Sr [Fa 6 0 1,Ld 7 6,Cl 8 112 [(.tmp 7)],Oo 9 (.un .not (.tmp 8)),Mv 10 9,Of 11 10 (.fa 10 (.tmp 1)),Of 12 10 (.load false 1 (.tmp 11)),Of 13 10 (.call (.func 231) [(.tmp 12)]),Of 14 10 (.un .not (.tmp 13)),Oo 15 (.pick (.tmp 10) (.const (.bool true)) (.tmp 14)),Mv 5 15] (Cd 5 (Sr [Mc 2 1] .ret) (Sr [Fa 17 1 1,Ld 18 17,Bc 19 .lss 18 1900,Mv 20 19,Of 21 20 (.fa 1 (.tmp 1)),Of 22 20 (.load false 1 (.tmp 21)),Of 23 20 (.fa 2 (.tmp 1)),Of 24 20 (.load false 1 (.tmp 23)),Of 25 20 (.bin .gtr (.tmp 22) (.tmp 24)),Oo 26 (.pick (.tmp 20) (.const (.bool true)) (.tmp 25)),Mv 27 26,Of 28 27 (.fa 2 (.tmp 1)),Of 29 27 (.load false 1 (.tmp 28)),Of 30 27 (.bin .gtr (.tmp 29) (Ci 2100)),Oo 31 (.pick (.tmp 27) (.const (.bool true)) (.tmp 30)),Mv 32 31,Of 33 32 (.fa 3 (.tmp 1)),Of 34 32 (.load false 1 (.tmp 33)),Of 35 32 (.call (.func 232) [(.tmp 34),(Ci 1),(Ci 12)]),Of 36 32 (.un .not (.tmp 35)),Oo 37 (.pick (.tmp 32) (.const (.bool true)) (.tmp 36)),Mv 16 37] (Cd 16 (Sr [Mc 2 3] .ret) .skip))))) (.seq (Sr [Fa 39 3 1,Ld 40 39,Fa 41 4 1,Oo 42 (.load true 3 (.tmp 41)),Cl 43 94 [(Ci 2001),(.tmp 40),(.tmp 42)],Mv 38 43,Ex 44 38 0,Ex 45 38 1,Oo 3 (.new 59 3 [(iv 0),(iv 0),(iv 0)]),⟨none,none,(.store 3 (.tmp 3) (.tmp 44))⟩,Mv 4 45] (Sr [Mv 46 4,Bc 47 .neq 46 0] (Cd 47 (Sr [Mv 48 4,Mv 2 48] .ret) .skip))) (.seq (.block 1 (Sr [Fa 50 7 1,Ld 51 50,Cl 52 232 [(.tmp 51),(Ci 0),(Ci 172800)],Oo 53 (.un .not (.tmp 52)),Mv 49 53] (Cd 49 (Sr [Mc 2 3] .ret) (Sr [Fa 55 8 1,Ld 56 55,Cl 57 233 [(.tmp 56),(.const (.bool true))],Oo 58 (.un .not (.tmp 57)),Mv 54 58] (Cd 54 (Sr [Mc 2 7] .ret) (Sr [Fa 60 9 1,Ld 61 60,Cl 62 232 [(.tmp 61),(Ci 0),(Ci 10800)],Oo 63 (.un .not (.tmp 62)),Mv 59 63] (Cd 59 (Sr [Mc 2 3] .ret) .skip))))))) (Sr [Mc 2 0] .ret)))))
theorem k156:ZaA Tryz.prog 156=some ⟨c156,[(.tmp 2)],64⟩:=by kernel_rfl
def c209:AC:=(Sr [Oo 1 (.box 129 2 (.tmp 0)),Mc 2 0] (.seq (Sr [Fa 3 0 1,Ld 4 3,Cl 5 112 [(.tmp 4)],Oo 6 (.un .not (.tmp 5)),Mv 7 6,Of 8 7 (.fa 1 (.tmp 1)),Of 9 7 (.load false 1 (.tmp 8)),Of 10 7 (.call (.func 112) [(.tmp 9)]),Of 11 7 (.un .not (.tmp 10)),Oo 12 (.pick (.tmp 7) (.const (.bool true)) (.tmp 11))] (Cd 12 (Sr [Mc 2 1] .ret) .skip)) (Sr [Mc 2 0] .ret)))
theorem k209:ZaA Tryz.prog 209=some ⟨c209,[(.tmp 2)],13⟩:=by kernel_rfl
def c278:AC:=(Sr [Oo 2 (.box 63 10 (.tmp 0)),Mc 4 0] (.seq (.block 0 (Sr [Fa 8 1 2,Ld 9 8,Oo 10 (.bin .neq (.tmp 9) (.const (.string ⟨#[]⟩))),Mv 11 10,Ot 12 11 (.fa 1 (.tmp 2)),Ot 13 11 (.load false 1 (.tmp 12)),Ot 14 11 (.call (.func 112) [(.tmp 13)]),Ot 15 11 (.un .not (.tmp 14)),Oo 16 (.pick (.tmp 11) (.tmp 15) (.const (.bool false))),Mv 17 16,Of 18 17 (.fa 3 (.tmp 2)),Of 19 17 (.load false 1 (.tmp 18)),Of 20 17 (.call (.func 310) [(.tmp 19)]),Of 21 17 (.un .not (.tmp 20)),Oo 22 (.pick (.tmp 17) (.const (.bool true)) (.tmp 21)),Mv 7 22] (Cd 7 (Sr [Mc 4 1] .ret) (Sr [Fa 24 0 2,Ld 25 24,Cl 26 232 [(.tmp 25),(.const (.int .i64 (-64800))),(Ci 64800)],Oo 27 (.un .not (.tmp 26)),Mv 28 27,Of 29 28 (.fa 2 (.tmp 2)),Of 30 28 (.load false 1 (.tmp 29)),Of 31 28 (.call (.func 232) [(.tmp 30),(Ci 0),(Ci 10800)]),Of 32 28 (.un .not (.tmp 31)),Oo 33 (.pick (.tmp 28) (.const (.bool true)) (.tmp 32)),Mv 23 33] (Cd 23 (Sr [Mc 4 3] .ret) (Sr [Fa 35 1 2,Ld 36 35,Oo 37 (.bin .neq (.tmp 36) (.const (.string ⟨#[]⟩))),Mv 38 37,Ot 39 38 (.fa 2 (.tmp 2)),Ot 40 38 (.load false 1 (.tmp 39)),Ot 41 38 (.bin .neq (.tmp 40) (Ci 0)),Oo 42 (.pick (.tmp 38) (.tmp 41) (.const (.bool false))),Mv 34 42] (Cd 34 (Sr [Mc 4 1] .ret) (Sr [Fa 44 4 2,Ld 45 44,Mv 46 1,Oo 47 (.eqb true (.tmp 45) (.tmp 46)),Mv 43 47] (Cd 43 (Sr [Mc 4 4] .ret) (Sr [Fa 49 4 2,Ld 50 49,Mv 48 50] (Cd 48 (.seq (Sr [Fa 51 5 2,Oo 52 (.load true 5 (.tmp 51)),Oo 53 (.build [(iv 0),(iv 0),(iv 0),(iv 0),(iv 0)] []),Oo 54 (.eqs true [.int,.int,.int,.int,.int] (.tmp 52) (.tmp 53))] (Cd 54 (Sr [Mc 4 1] .ret) .skip)) (Sr [Mc 4 0] .ret)) .skip))))))))))) (.seq (Sr [Fa 56 5 2,Fa 57 0 56,Oo 58 (.load true 3 (.tmp 57)),Cl 59 35 [(.tmp 58)],Mv 55 59,Ex 60 55 0,Ex 61 55 1,Mv 5 60,Mv 6 61] (Sr [Mv 62 6,Bc 63 .neq 62 0] (Cd 63 (Sr [Mv 64 6,Mv 4 64] .ret) .skip))) (.seq (.block 1 (Sr [Fa 66 5 2,Fa 67 3 66,Ld 68 67,Cl 69 232 [(.tmp 68),(Ci 0),(Ci 172800)],Oo 70 (.un .not (.tmp 69)),Mv 65 70] (Cd 65 (Sr [Mc 4 3] .ret) (Sr [Fa 72 5 2,Fa 73 4 72,Ld 74 73,Cl 75 233 [(.tmp 74),(.const (.bool false))],Oo 76 (.un .not (.tmp 75)),Mv 71 76] (Cd 71 (Sr [Mc 4 7] .ret) .skip))))) (Sr [Mc 4 0] .ret)))))
theorem k278:ZaA Tryz.prog 278=some ⟨c278,[(.tmp 4)],77⟩:=by kernel_rfl
def c207:AC:=(Sr [Oo 1 (.box 53 2 (.tmp 0)),Mc 2 0] (.seq (Sr [Fa 6 0 1,Ld 7 6,Cl 8 112 [(.tmp 7)],Oo 9 (.un .not (.tmp 8)),Mv 10 9,Of 11 10 (.fa 1 (.tmp 1)),Of 12 10 (.load false 1 (.tmp 11)),Of 13 10 (.len false (.tmp 12)),Of 14 10 (.bin .eql (.tmp 13) (Ci 0)),Oo 15 (.pick (.tmp 10) (.const (.bool true)) (.tmp 14))] (Cd 15 (Sr [Mc 2 1] .ret) .skip)) (.seq (Sr [Fa 16 1 1,Ld 17 16,Oo 18 (.len false (.tmp 17)),Mc 19 0] (.block 0 (.loop (Sr [Bn 20 .lss 19 18] (.seq (Cd 20 .skip (.exit 0)) (.seq (.block 1 (Sr [Mv 21 19,Oo 22 (.ia 10 (.tmp 17) (.tmp 19)),Oo 23 (.load true 10 (.tmp 22)),Oo 4 (.new 63 10 [(iv 0),Ss,(iv 0),Ss,(.v (.bool false)),(iv 0),(iv 0),(iv 0),(iv 0),(iv 0)]),Mv 3 21,⟨none,none,(.store 10 (.tmp 4) (.tmp 23))⟩] (Sr [Oo 24 (.load true 10 (.tmp 4)),Mv 25 3,Fa 26 1 1,Ld 27 26,Oo 28 (.len false (.tmp 27)),Bc 29 .sub 28 1,Bn 30 .eql 25 29,Cl 31 278 [(.tmp 24),(.tmp 30)],Mv 5 31] (Sr [Mv 32 5,Bc 33 .neq 32 0] (Cd 33 (Sr [Mv 34 5,Mv 2 34] .ret) .skip))))) (.reg [Bc 35 .add 19 1,Mv 19 35]))))))) (Sr [Mc 2 0] .ret))))
theorem k207:ZaA Tryz.prog 207=some ⟨c207,[(.tmp 2)],36⟩:=by kernel_rfl
def c205:AC:=(Sr [Mc 4 0] (.seq (Sr [Mv 8 0,Oo 9 (.len false (.tmp 8)),Mc 10 0] (.block 0 (.loop (Sr [Bn 11 .lss 10 9] (.seq (Cd 11 .skip (.exit 0)) (.seq (.block 1 (Sr [Oo 12 (.ia 11 (.tmp 8) (.tmp 10)),Oo 13 (.load true 11 (.tmp 12)),Oo 6 (.new 36 11 [Ss,(iv 0),(iv 0),(iv 0),(iv 0),(iv 0),(iv 0),(iv 0),(iv 0),(iv 0),Ss]),⟨none,none,(.store 11 (.tmp 6) (.tmp 13))⟩] (Sr [Mv 14 1,Oo 15 (.load true 11 (.tmp 6)),Oo 16 (.call (.tmp 14) [(.tmp 15)]),Mv 7 16] (Sr [Mv 17 7,Bc 18 .neq 17 0] (Cd 18 (Sr [Mv 19 7,Mv 4 19] .ret) .skip))))) (.reg [Bc 20 .add 10 1,Mv 10 20]))))))) (Sr [Mc 4 0] .ret)))
theorem k205:ZaA Tryz.prog 205=some ⟨c205,[(.tmp 4)],21⟩:=by kernel_rfl
def c206:AC:=(Sr [Mc 4 0] (.seq (Sr [Mv 8 0,Oo 9 (.len false (.tmp 8)),Mc 10 0] (.block 0 (.loop (Sr [Bn 11 .lss 10 9] (.seq (Cd 11 .skip (.exit 0)) (.seq (.block 1 (Sr [Oo 12 (.ia 2 (.tmp 8) (.tmp 10)),Oo 13 (.load true 2 (.tmp 12)),Oo 6 (.new 53 2 [Ss,(.sl 0 0 true [])]),⟨none,none,(.store 2 (.tmp 6) (.tmp 13))⟩] (Sr [Mv 14 1,Oo 15 (.load true 2 (.tmp 6)),Oo 16 (.call (.tmp 14) [(.tmp 15)]),Mv 7 16] (Sr [Mv 17 7,Bc 18 .neq 17 0] (Cd 18 (Sr [Mv 19 7,Mv 4 19] .ret) .skip))))) (.reg [Bc 20 .add 10 1,Mv 10 20]))))))) (Sr [Mc 4 0] .ret)))
theorem k206:ZaA Tryz.prog 206=some ⟨c206,[(.tmp 4)],21⟩:=by kernel_rfl
def c208:AC:=(Sr [Mc 4 0] (.seq (Sr [Mv 8 0,Oo 9 (.len false (.tmp 8)),Mc 10 0] (.block 0 (.loop (Sr [Bn 11 .lss 10 9] (.seq (Cd 11 .skip (.exit 0)) (.seq (.block 1 (Sr [Oo 12 (.ia 2 (.tmp 8) (.tmp 10)),Oo 13 (.load true 2 (.tmp 12)),Oo 6 (.new 129 2 [Ss,Ss]),⟨none,none,(.store 2 (.tmp 6) (.tmp 13))⟩] (Sr [Mv 14 1,Oo 15 (.load true 2 (.tmp 6)),Oo 16 (.call (.tmp 14) [(.tmp 15)]),Mv 7 16] (Sr [Mv 17 7,Bc 18 .neq 17 0] (Cd 18 (Sr [Mv 19 7,Mv 4 19] .ret) .skip))))) (.reg [Bc 20 .add 10 1,Mv 10 20]))))))) (Sr [Mc 4 0] .ret)))
theorem k208:ZaA Tryz.prog 208=some ⟨c208,[(.tmp 4)],21⟩:=by kernel_rfl
def c204:AC:=(Sr [Oo 1 (.box 26 3 (.tmp 0)),Mb 2 false] (.seq (Sr [Fa 5 1 1,Ld 6 5,Oo 7 (.len false (.tmp 6)),Mc 8 0] (.block 0 (.loop (Sr [Bn 9 .lss 8 7] (.seq (Cd 9 .skip (.exit 0)) (.seq (.block 1 (Sr [Oo 10 (.ia 2 (.tmp 6) (.tmp 8)),Oo 11 (.load true 2 (.tmp 10)),Oo 4 (.new 53 2 [Ss,(.sl 0 0 true [])]),⟨none,none,(.store 2 (.tmp 4) (.tmp 11))⟩] (Sr [Fa 12 1 4,Ld 13 12,Oo 14 (.len false (.tmp 13)),Bc 15 .gtr 14 8] (Cd 15 (Sr [Mb 2 true] .ret) .skip)))) (.reg [Bc 16 .add 8 1,Mv 8 16]))))))) (Sr [Fa 17 0 1,Ld 18 17,Oo 19 (.len false (.tmp 18)),Bc 20 .gtr 19 40,Mv 21 20,Of 22 21 (.fa 1 (.tmp 1)),Of 23 21 (.load false 1 (.tmp 22)),Of 24 21 (.len false (.tmp 23)),Of 25 21 (.bin .gtr (.tmp 24) (Ci 20)),Oo 26 (.pick (.tmp 21) (.const (.bool true)) (.tmp 25)),Mv 27 26,Of 28 27 (.fa 2 (.tmp 1)),Of 29 27 (.load false 1 (.tmp 28)),Of 30 27 (.len false (.tmp 29)),Of 31 27 (.bin .gtr (.tmp 30) (Ci 20)),Oo 32 (.pick (.tmp 27) (.const (.bool true)) (.tmp 31)),Mv 2 32] .ret)))
theorem k204:ZaA Tryz.prog 204=some ⟨c204,[(.tmp 2)],33⟩:=by kernel_rfl
def c132:AC:=(Sr [Oo 1 (.box 26 3 (.tmp 0)),Mc 2 0] (.seq (Sr [Oo 4 (.load true 3 (.tmp 1)),Cl 5 204 [(.tmp 4)]] (Cd 5 (Sr [Mc 2 2] .ret) .skip)) (Sr [Fa 6 0 1,Ld 7 6,Cl 8 205 [(.tmp 7),(.func 156)],Mv 3 8] (.seq (Sr [Mv 9 3,Bc 10 .eql 9 0] (Cd 10 (.reg [Fa 11 1 1,Ld 12 11,Cl 13 206 [(.tmp 12),(.func 207)],Mv 3 13]) .skip)) (.seq (Sr [Mv 14 3,Bc 15 .eql 14 0] (Cd 15 (.reg [Fa 16 2 1,Ld 17 16,Cl 18 208 [(.tmp 17),(.func 209)],Mv 3 18]) .skip)) (Sr [Mv 19 3,Mv 2 19] .ret))))))
theorem k132:ZaA Tryz.prog 132=some ⟨c132,[(.tmp 2)],20⟩:=by kernel_rfl
def Zbw (r:Rul):Int :=
 if ¬(Zcv r.1=true∧Zco r.2.2.2.2.2.2.2.2=true) then 1
 else if r.2.1<1900∨r.2.1>r.2.2.1∨r.2.2.1>2100∨¬wi r.2.2.2.1 1 12=true then 3
 else if (onV 2001 r.2.2.2.1 r.2.2.2.2.1.1 r.2.2.2.2.1.2.1 r.2.2.2.2.1.2.2).2≠0 then (onV 2001 r.2.2.2.1 r.2.2.2.2.1.1 r.2.2.2.2.1.2.1 r.2.2.2.2.1.2.2).2
 else if ¬wi r.2.2.2.2.2.1 0 172800=true then 3
 else if ¬clkB r.2.2.2.2.2.2.1 true=true then 7
 else if ¬wi r.2.2.2.2.2.2.2.1 0 10800=true then 3 else 0
def Zev (l:Lnk):Int:=if ¬(Zcv l.1=true∧Zcv l.2=true) then 1 else 0
theorem link_b {a b:ByteArray}{h:AH}(ha:a.size≤maxLen) (hb:b.size≤maxLen):Ac 209 [.agg [sv a,sv b]] h (iv (Zev (a,b))):=by
 refine tI' k209 fun N hn hlt hlA hbd=>?_
 simp only[tb'] at hbd ⊢
 refine wr'<|E' (Zbd cv rfl (hl0 hn) ha0) pt<|mw<|sn'<|Zam<|wr'<|Vw (Zab lk)<|Vw (Zac lk gx gt0)<|Zad mp (Zmi ha) pt<|Vw (Zax lk)<|mw<|?_
 refine ZaG (t:=7) gt pt pt (fun hg7=>?_) (fun hg7=>?_)
 ·refine s_no gt pt<|s_no gt pt<|s_no gt pt<|s_no gt pt<|Vw (Zag lk lkb)<|sn'<|ZaC lk<|wr'<|mw<|sn'<|Zaa<|?_
  refine Zai<|Zae rz<|rT'<|?_
  rw[show Zev (a,b)=1 by unfold Zev;simp_all]
 refine s_do gt<|Vw (Zab lk)<|s_do gt<|Vw (Zac lk gx gt1)<|s_do gt<|Zad mp (Zmi hb) pt<|s_do gt<|Vw (Zax lk)<|Vw (Zaj lk lk)<|sn'<|?_
 refine Zaw lk (fun hc1=>?_) (fun hc1=>?_)
 ·refine wr'<|mw<|sn'<|Zaa<|Zai<|Zae rz<|rT'<|?_
  rw[show Zev (a,b)=1 by unfold Zev;simp_all]
 refine Zaf<|Zah<|wr'<|mw<|sn'<|Zaa<|Zae rz<|rT'<|?_
 rw[show Zev (a,b)=0 by unfold Zev;simp_all]
theorem rule_b {nm lt:ByteArray}{f t m k w n a c s:Int}{h:AH}(hn:nm.size≤maxLen) (hl:lt.size≤maxLen):Ac 156 [.agg [sv nm,iv f,iv t,iv m,iv k,iv w,iv n,iv a,iv c,iv s,sv lt]] h (iv (Zbw (nm,f,t,m,(k,w,n),a,c,s,lt))):=by
 have hnm:=hn
 clear hn
 refine tI' k156 fun N hn hlt hlA hbd=>?_
 simp only[tb'] at hbd ⊢
 refine wr'<|E' (Zbd cv rfl (hl0 hn) ha0) pt<|mw<|sn'<|Zam<|Zap<|wr'<|Vw (Zab lk)<|Vw (Zac lk gx gt0)<|Zad mp (Zmi hnm) pt<|Vw (Zax lk)<|?_
 refine mv' lk pt ?_
 refine ZaG (t:=10) gt pt pt (fun hg10=>?_) (fun hg10=>?_)
 ·refine s_no gt pt<|s_no gt pt<|s_no gt pt<|s_no gt pt<|Vw (Zag lk lkb)<|mw<|sn'<|ZaC lk<|wr'<|mw<|sn'<|?_
  refine Zaa<|Zaq<|Zai<|Zae rz<|rT'<|?_
  rw[show Zbw (nm,f,t,m,(k,w,n),a,c,s,lt)=1 by unfold Zbw;simp_all]
 refine s_do gt<|Vw (Zab lk)<|s_do gt<|Vw (Zac lk gx gt10)<|s_do gt<|Zad mp (ZsT hl) pt<|s_do gt<|Vw (Zax lk)<|Vw (Zaj lk lk)<|mw<|sn'<|?_
 refine Zaw lk (fun hc1=>?_) (fun hc1=>?_)
 ·refine wr'<|mw<|sn'<|Zaa<|Zaq<|Zai<|Zae rz<|rT'<|?_
  rw[show Zbw (nm,f,t,m,(k,w,n),a,c,s,lt)=1 by unfold Zbw;simp_all]
 have h1:Zcv nm=true∧Zco lt=true:=by simp_all
 have hR:Zbw (nm,f,t,m,(k,w,n),a,c,s,lt)=if f<1900∨f>t∨t>2100∨¬wi m 1 12=true then 3 else if (onV 2001 m k w n).2≠0 then (onV 2001 m k w n).2 else if ¬wi a 0 172800=true then 3 else if ¬clkB c true=true then 7 else if ¬wi s 0 10800=true then 3 else 0:=if_neg (by simp[h1])
 refine wr'<|Vw (Zab lk)<|Vw (Zac lk gx gt1)<|Vw (Zbb lk lki)<|mw<|?_
 refine sp' (t:=20) gt pt pt (fun hg20=>?_) (fun hg20=>?_)
 ·rw[if_pos (.inl om)] at hR
  refine s_no gt pt<|s_no gt pt<|s_no gt pt<|s_no gt pt<|s_no gt pt<|Vw (Zag lk lkb)<|mw<|s_no gt pt<|s_no gt pt<|s_no gt pt<|Vw (Zag lk lkb)<|mw<|s_no gt pt<|s_no gt pt<|?_
  refine s_no gt pt<|s_no gt pt<|Vw (Zag lk lkb)<|mw<|sn'<|ZaC lk<|wr'<|mw<|sn'<|Zaa<|Zaq<|?_
  refine Zai<|Zae rz<|rT'<|?_
  rw[hR]
 refine s_do gt<|Vw (Zab lk)<|s_do gt<|Vw (Zac lk gx gt1)<|s_do gt<|Vw (Zab lk)<|s_do gt<|Vw (Zac lk gx gt2)<|s_do gt<|Vw (ZbD lk lk)<|Vw (Zaj lk lk)<|mw<|?_
 refine sp' (t:=27) gt pt pt (fun hg27=>?_) (fun hg27=>?_)
 ·rw[if_pos (.inr (.inl om))] at hR
  refine s_no gt pt<|s_no gt pt<|s_no gt pt<|Vw (Zag lk lkb)<|mw<|s_no gt pt<|s_no gt pt<|s_no gt pt<|s_no gt pt<|Vw (Zag lk lkb)<|mw<|sn'<|ZaC lk<|?_
  refine wr'<|mw<|sn'<|Zaa<|Zaq<|Zai<|Zae rz<|rT'<|?_
  rw[hR]
 refine s_do gt<|Vw (Zab lk)<|s_do gt<|Vw (Zac lk gx gt2)<|s_do gt<|Vw (ZbD lk lki)<|Vw (Zaj lk lk)<|mw<|?_
 refine sp' (t:=32) gt pt pt (fun hg32=>?_) (fun hg32=>?_)
 ·rw[if_pos (.inr (.inr (.inl om)))] at hR
  refine s_no gt pt<|s_no gt pt<|s_no gt pt<|s_no gt pt<|Vw (Zag lk lkb)<|mw<|sn'<|ZaC lk<|wr'<|mw<|sn'<|?_
  refine Zaa<|Zaq<|Zai<|Zae rz<|rT'<|?_
  rw[hR]
 refine s_do gt<|Vw (Zab lk)<|s_do gt<|Vw (Zac lk gx gt3)<|s_do gt<|Zad mp (Zb5) pt<|s_do gt<|Vw (Zax lk)<|Vw (Zaj lk lk)<|mw<|sn'<|?_
 refine Zaw lk (fun hc2=>?_) (fun hc2=>?_)
 ·rw[if_pos (.inr (.inr (.inr (by simpa using hc2))))] at hR
  refine wr'<|mw<|sn'<|Zaa<|Zaq<|Zai<|Zae rz<|rT'<|?_
  rw[hR]
 have hw2:wi m 1 12=true:=by simpa using hc2
 have h2:¬(f<1900∨f>t∨t>2100∨¬wi m 1 12=true):=by rw[hw2];simp;omega
 rw[if_neg h2] at hR
 refine Zaf<|Zaz<|Zah<|Zam<|wr'<|Vw (Zab lk)<|Vw (Zac lk gx gt3)<|Vw (Zab lk)<|Vw (Zan lk gx Zrd rfl)<|Zad mp (on_a) pt<|mw<|Vw (ZaN lk gt)<|Vw (ZaN lk gt)<|?_
 refine E' (ZaV (hl1 hn) ha1) pt<|E' (Zak lk cv gx rfl (nb' rfl) rfl Zrf (hs1 hn)) ptn<|mw<|sn'<|wr'<|mw<|Vw (ZaT lk lki)<|sn'<|?_
 refine cd' lk (fun hc3=>?_) (fun hc3=>?_)
 ·rw[if_pos hc3] at hR
  refine wr'<|mw<|mw<|sn'<|Zaa<|Zai<|Zae rz<|rT'<|?_
  rw[hR]
 rw[if_neg hc3] at hR
 refine Zaf<|Zah<|Zam<|Zap<|wr'<|Vw (Zab lk)<|Vw (Zac lk gx gt7)<|Zad mp (Zb5) pt<|Vw (Zax lk)<|mw<|sn'<|?_
 refine Zaw lk (fun hc4=>?_) (fun hc4=>?_)
 ·rw[if_pos (by simpa using hc4)] at hR
  refine wr'<|mw<|sn'<|Zaa<|Zaq<|Zai<|Zae rz<|rT'<|?_
  rw[hR]
 rw[if_neg (by simpa using hc4)] at hR
 refine wr'<|Vw (Zab lk)<|Vw (Zac lk gx gt8)<|Zad mp (ZiP) pt<|Vw (Zax lk)<|mw<|sn'<|?_
 refine Zaw lk (fun hc5=>?_) (fun hc5=>?_)
 ·rw[if_pos (by simpa using hc5)] at hR
  refine wr'<|mw<|sn'<|Zaa<|Zaq<|Zai<|Zae rz<|rT'<|?_
  rw[hR]
 rw[if_neg (by simpa using hc5)] at hR
 refine wr'<|Vw (Zab lk)<|Vw (Zac lk gx gt9)<|Zad mp (Zb5) pt<|Vw (Zax lk)<|mw<|sn'<|?_
 refine Zaw lk (fun hc6=>?_) (fun hc6=>?_)
 ·rw[if_pos (by simpa using hc6)] at hR
  refine wr'<|mw<|sn'<|Zaa<|Zaq<|Zai<|Zae rz<|rT'<|?_
  rw[hR]
 rw[if_neg (by simpa using hc6)] at hR
 refine Zaf<|Zaz<|Zah<|wr'<|mw<|sn'<|Zaa<|Zae rz<|rT'<|?_
 rw[hR]
theorem Zld {y m d:Int}{h:AH}:Ac 35 [.agg [iv y,iv m,iv d]] h (.tup [iv (if Za2 y m d=true then num y m d else 0),iv (if Za2 y m d=true then 0 else 3)]):=Zpv
def eraE (sh:Int) (rl:ByteArray) (sa:Int) (fm:ByteArray) (op:Bool) (y m d a c:Int) (last:Bool):Int :=
 if (rl≠⟨#[]⟩∧¬Zcv rl=true)∨¬ZbO fm=true then 1
 else if ¬wi sh (-64800) 64800=true∨¬wi sa 0 10800=true then 3
 else if rl≠⟨#[]⟩∧sa≠0 then 1
 else if op≠last then 4
 else if op=true then (if ¬(y=0∧m=0∧d=0∧a=0∧c=0) then 1 else 0)
 else if ¬Za2 y m d=true then 3
 else if ¬wi a 0 172800=true then 3
 else if ¬clkB c false=true then 7 else 0
theorem era_b {rl fm:ByteArray}{sh sa y m d a c:Int}{op last:Bool}{h:AH}(hrl:rl.size≤maxLen) (hfm:fm.size≤maxLen):Ac 278 [.agg [iv sh,sv rl,iv sa,sv fm,bv op,iv y,iv m,iv d,iv a,iv c],bv last] h (iv (eraE sh rl sa fm op y m d a c last)):=by
 refine tI' k278 fun N hn hlt hlA hbd=>?_
 simp only[tb'] at hbd ⊢
 refine wr'<|E' (Zbd cv rfl (hl0 hn) ha0) pt<|mw<|sn'<|Zam<|Zap<|wr'<|Vw (Zab lk)<|Vw (Zac lk gx gt1)<|Vw (Zcr lk lks)<|mw<|?_
 refine sp' (t:=11) gt pt pt (fun hg11=>?_) (fun hg11=>?_)
 ·refine s_do gt<|Vw (Zab lk)<|s_do gt<|Vw (Zac lk gx gt1)<|s_do gt<|Zad mp (Zmi hrl) pt<|s_do gt<|Vw (Zax lk)<|Vw (Zag lk lk)<|mw<|?_
  refine ZaG (t:=17) gt pt pt (fun hg17=>?_) (fun hg17=>?_)
  ·refine s_no gt pt<|s_no gt pt<|s_no gt pt<|s_no gt pt<|Vw (Zag lk lkb)<|mw<|sn'<|ZaC lk<|wr'<|mw<|sn'<|?_
   refine Zaa<|Zaq<|Zai<|Zae rz<|rT'<|?_
   refine ivx ?_;unfold eraE;simp_all
  refine s_do gt<|Vw (Zab lk)<|s_do gt<|Vw (Zac lk gx gt3)<|s_do gt<|Zad mp (Zpo hfm) pt<|s_do gt<|Vw (Zax lk)<|Vw (Zaj lk lk)<|mw<|sn'<|?_
  refine Zaw lk (fun hc1=>?_) (fun hc1=>?_)
  ·refine wr'<|mw<|sn'<|Zaa<|Zaq<|Zai<|Zae rz<|rT'<|?_
   refine ivx ?_;unfold eraE;simp_all
  refine wr'<|Vw (Zab lk)<|Vw (Zac lk gx gt0)<|Zad mp (Zb5) pt<|Vw (Zax lk)<|mw<|?_
  refine ZaG (t:=28) gt pt pt (fun hg28=>?_) (fun hg28=>?_)
  ·refine s_no gt pt<|s_no gt pt<|s_no gt pt<|s_no gt pt<|Vw (Zag lk lkb)<|mw<|sn'<|ZaC lk<|wr'<|mw<|sn'<|?_
   refine Zaa<|Zaq<|Zai<|Zae rz<|rT'<|?_
   refine ivx ?_;unfold eraE;simp_all
  refine s_do gt<|Vw (Zab lk)<|s_do gt<|Vw (Zac lk gx gt2)<|s_do gt<|Zad mp (Zb5) pt<|s_do gt<|Vw (Zax lk)<|Vw (Zaj lk lk)<|mw<|sn'<|?_
  refine Zaw lk (fun hc2=>?_) (fun hc2=>?_)
  ·refine wr'<|mw<|sn'<|Zaa<|Zaq<|Zai<|Zae rz<|rT'<|?_
   refine ivx ?_;unfold eraE;simp_all
  refine wr'<|Vw (Zab lk)<|Vw (Zac lk gx gt1)<|Vw (Zcr lk lks)<|mw<|?_
  refine sp' (t:=38) gt pt pt (fun hg38=>?_) (fun hg38=>?_)
  ·refine s_do gt<|Vw (Zab lk)<|s_do gt<|Vw (Zac lk gx gt2)<|s_do gt<|Vw (ZaT lk lki)<|Vw (Zag lk lk)<|mw<|sn'<|?_
   refine cd' lk (fun hc3=>?_) (fun hc3=>?_)
   ·refine wr'<|mw<|sn'<|Zaa<|Zaq<|Zai<|Zae rz<|rT'<|?_
    refine ivx ?_;unfold eraE;simp_all
   refine wr'<|Vw (Zab lk)<|Vw (Zac lk gx gt4)<|mw<|Vw (ZdP lk lk)<|mw<|sn'<|?_
   refine cd' lk (fun hc4=>?_) (fun hc4=>?_)
   ·refine wr'<|mw<|sn'<|Zaa<|Zaq<|Zai<|Zae rz<|rT'<|?_
    refine ivx ?_;unfold eraE;simp_all
   refine wr'<|Vw (Zab lk)<|Vw (Zac lk gx gt4)<|mw<|sn'<|?_
   refine Zaw lk (fun hc5=>?_) (fun hc5=>?_)
   ·refine Zam<|wr'<|Vw (Zab lk)<|Vw (Zan lk gx Zfz rfl)<|Vw (Zau ZeI)<|Vw (ZlD lk lk Zdu)<|sn'<|?_
    refine cd' lk (fun hc6=>?_) (fun hc6=>?_)
    ·refine wr'<|mw<|sn'<|Zaa<|Zai<|Zaq<|Zai<|Zae rz<|rT'<|?_
     refine ivx ?_;unfold eraE;simp_all
    refine Zaf<|Zah<|wr'<|mw<|sn'<|Zaa<|Zaq<|Zai<|Zae rz<|rT'<|?_
    refine ivx ?_;unfold eraE;simp_all
   refine Zaf<|Zaz<|Zah<|Zam<|wr'<|Vw (Zab lk)<|Vw (ZbN lk)<|Vw (Zan lk gx ZfA rfl)<|Zad mp (Zld) pt<|mw<|Vw (ZaN lk gt)<|Vw (ZaN lk gt)<|mw<|?_
   refine mw<|sn'<|wr'<|mw<|Vw (ZaT lk lki)<|sn'<|?_
   refine cd' lk (fun hc7=>?_) (fun hc7=>?_)
   ·refine wr'<|mw<|mw<|sn'<|Zaa<|Zai<|Zae rz<|rT'<|?_
    refine ivx ?_;unfold eraE;simp_all
   refine Zaf<|Zah<|Zam<|Zap<|wr'<|Vw (Zab lk)<|Vw (ZbN lk)<|Vw (Zac lk gx gt8)<|Zad mp (Zb5) pt<|Vw (Zax lk)<|mw<|sn'<|?_
   refine Zaw lk (fun hc8=>?_) (fun hc8=>?_)
   ·refine wr'<|mw<|sn'<|Zaa<|Zaq<|Zai<|Zae rz<|rT'<|?_
    refine ivx ?_;unfold eraE;simp_all
   refine wr'<|Vw (Zab lk)<|Vw (ZbN lk)<|Vw (Zac lk gx gt9)<|Zad mp (ZiP) pt<|Vw (Zax lk)<|mw<|sn'<|?_
   refine Zaw lk (fun hc9=>?_) (fun hc9=>?_)
   ·refine wr'<|mw<|sn'<|Zaa<|Zaq<|Zai<|Zae rz<|rT'<|?_
    refine ivx ?_;unfold eraE;simp_all
   refine Zaf<|Zaz<|Zah<|wr'<|mw<|sn'<|Zaa<|Zae rz<|rT'<|?_
   refine ivx ?_;unfold eraE;simp_all
  refine s_no gt pt<|s_no gt pt<|s_no gt pt<|Vw (Zaj lk lkb)<|mw<|sn'<|ZaM lk<|wr'<|Vw (Zab lk)<|Vw (Zac lk gx gt4)<|mw<|Vw (ZdP lk lk)<|?_
  refine mw<|sn'<|?_
  refine cd' lk (fun hc4=>?_) (fun hc4=>?_)
  ·refine wr'<|mw<|sn'<|Zaa<|Zaq<|Zai<|Zae rz<|rT'<|?_
   refine ivx ?_;unfold eraE;simp_all
  refine wr'<|Vw (Zab lk)<|Vw (Zac lk gx gt4)<|mw<|sn'<|?_
  refine Zaw lk (fun hc5=>?_) (fun hc5=>?_)
  ·refine Zam<|wr'<|Vw (Zab lk)<|Vw (Zan lk gx Zfz rfl)<|Vw (Zau ZeI)<|Vw (ZlD lk lk Zdu)<|sn'<|?_
   refine cd' lk (fun hc6=>?_) (fun hc6=>?_)
   ·refine wr'<|mw<|sn'<|Zaa<|Zai<|Zaq<|Zai<|Zae rz<|rT'<|?_
    refine ivx ?_;unfold eraE;simp_all
   refine Zaf<|Zah<|wr'<|mw<|sn'<|Zaa<|Zaq<|Zai<|Zae rz<|rT'<|?_
   refine ivx ?_;unfold eraE;simp_all
  refine Zaf<|Zaz<|Zah<|Zam<|wr'<|Vw (Zab lk)<|Vw (ZbN lk)<|Vw (Zan lk gx ZfA rfl)<|Zad mp (Zld) pt<|mw<|Vw (ZaN lk gt)<|Vw (ZaN lk gt)<|mw<|?_
  refine mw<|sn'<|wr'<|mw<|Vw (ZaT lk lki)<|sn'<|?_
  refine cd' lk (fun hc7=>?_) (fun hc7=>?_)
  ·refine wr'<|mw<|mw<|sn'<|Zaa<|Zai<|Zae rz<|rT'<|?_
   refine ivx ?_;unfold eraE;simp_all
  refine Zaf<|Zah<|Zam<|Zap<|wr'<|Vw (Zab lk)<|Vw (ZbN lk)<|Vw (Zac lk gx gt8)<|Zad mp (Zb5) pt<|Vw (Zax lk)<|mw<|sn'<|?_
  refine Zaw lk (fun hc8=>?_) (fun hc8=>?_)
  ·refine wr'<|mw<|sn'<|Zaa<|Zaq<|Zai<|Zae rz<|rT'<|?_
   refine ivx ?_;unfold eraE;simp_all
  refine wr'<|Vw (Zab lk)<|Vw (ZbN lk)<|Vw (Zac lk gx gt9)<|Zad mp (ZiP) pt<|Vw (Zax lk)<|mw<|sn'<|?_
  refine Zaw lk (fun hc9=>?_) (fun hc9=>?_)
  ·refine wr'<|mw<|sn'<|Zaa<|Zaq<|Zai<|Zae rz<|rT'<|?_
   refine ivx ?_;unfold eraE;simp_all
  refine Zaf<|Zaz<|Zah<|wr'<|mw<|sn'<|Zaa<|Zae rz<|rT'<|?_
  refine ivx ?_;unfold eraE;simp_all
 refine s_no gt pt<|s_no gt pt<|s_no gt pt<|s_no gt pt<|Vw (Zaj lk lkb)<|mw<|s_do gt<|Vw (Zab lk)<|s_do gt<|Vw (Zac lk gx gt3)<|s_do gt<|Zad mp (Zpo hfm) pt<|s_do gt<|Vw (Zax lk)<|?_
 refine Vw (Zaj lk lk)<|mw<|sn'<|?_
 refine Zaw lk (fun hc1=>?_) (fun hc1=>?_)
 ·refine wr'<|mw<|sn'<|Zaa<|Zaq<|Zai<|Zae rz<|rT'<|?_
  refine ivx ?_;unfold eraE;simp_all
 refine wr'<|Vw (Zab lk)<|Vw (Zac lk gx gt0)<|Zad mp (Zb5) pt<|Vw (Zax lk)<|mw<|?_
 refine ZaG (t:=28) gt pt pt (fun hg28=>?_) (fun hg28=>?_)
 ·refine s_no gt pt<|s_no gt pt<|s_no gt pt<|s_no gt pt<|Vw (Zag lk lkb)<|mw<|sn'<|ZaC lk<|wr'<|mw<|sn'<|?_
  refine Zaa<|Zaq<|Zai<|Zae rz<|rT'<|?_
  refine ivx ?_;unfold eraE;simp_all
 refine s_do gt<|Vw (Zab lk)<|s_do gt<|Vw (Zac lk gx gt2)<|s_do gt<|Zad mp (Zb5) pt<|s_do gt<|Vw (Zax lk)<|Vw (Zaj lk lk)<|mw<|sn'<|?_
 refine Zaw lk (fun hc2=>?_) (fun hc2=>?_)
 ·refine wr'<|mw<|sn'<|Zaa<|Zaq<|Zai<|Zae rz<|rT'<|?_
  refine ivx ?_;unfold eraE;simp_all
 refine wr'<|Vw (Zab lk)<|Vw (Zac lk gx gt1)<|Vw (Zcr lk lks)<|mw<|?_
 refine sp' (t:=38) gt pt pt (fun hg38=>?_) (fun hg38=>?_)
 ·refine s_do gt<|Vw (Zab lk)<|s_do gt<|Vw (Zac lk gx gt2)<|s_do gt<|Vw (ZaT lk lki)<|Vw (Zag lk lk)<|mw<|sn'<|?_
  refine cd' lk (fun hc3=>?_) (fun hc3=>?_)
  ·refine wr'<|mw<|sn'<|Zaa<|Zaq<|Zai<|Zae rz<|rT'<|?_
   refine ivx ?_;unfold eraE;simp_all
  refine wr'<|Vw (Zab lk)<|Vw (Zac lk gx gt4)<|mw<|Vw (ZdP lk lk)<|mw<|sn'<|?_
  refine cd' lk (fun hc4=>?_) (fun hc4=>?_)
  ·refine wr'<|mw<|sn'<|Zaa<|Zaq<|Zai<|Zae rz<|rT'<|?_
   refine ivx ?_;unfold eraE;simp_all
  refine wr'<|Vw (Zab lk)<|Vw (Zac lk gx gt4)<|mw<|sn'<|?_
  refine Zaw lk (fun hc5=>?_) (fun hc5=>?_)
  ·refine Zam<|wr'<|Vw (Zab lk)<|Vw (Zan lk gx Zfz rfl)<|Vw (Zau ZeI)<|Vw (ZlD lk lk Zdu)<|sn'<|?_
   refine cd' lk (fun hc6=>?_) (fun hc6=>?_)
   ·refine wr'<|mw<|sn'<|Zaa<|Zai<|Zaq<|Zai<|Zae rz<|rT'<|?_
    refine ivx ?_;unfold eraE;simp_all
   refine Zaf<|Zah<|wr'<|mw<|sn'<|Zaa<|Zaq<|Zai<|Zae rz<|rT'<|?_
   refine ivx ?_;unfold eraE;simp_all
  refine Zaf<|Zaz<|Zah<|Zam<|wr'<|Vw (Zab lk)<|Vw (ZbN lk)<|Vw (Zan lk gx ZfA rfl)<|Zad mp (Zld) pt<|mw<|Vw (ZaN lk gt)<|Vw (ZaN lk gt)<|mw<|?_
  refine mw<|sn'<|wr'<|mw<|Vw (ZaT lk lki)<|sn'<|?_
  refine cd' lk (fun hc7=>?_) (fun hc7=>?_)
  ·refine wr'<|mw<|mw<|sn'<|Zaa<|Zai<|Zae rz<|rT'<|?_
   refine ivx ?_;unfold eraE;simp_all
  refine Zaf<|Zah<|Zam<|Zap<|wr'<|Vw (Zab lk)<|Vw (ZbN lk)<|Vw (Zac lk gx gt8)<|Zad mp (Zb5) pt<|Vw (Zax lk)<|mw<|sn'<|?_
  refine Zaw lk (fun hc8=>?_) (fun hc8=>?_)
  ·refine wr'<|mw<|sn'<|Zaa<|Zaq<|Zai<|Zae rz<|rT'<|?_
   refine ivx ?_;unfold eraE;simp_all
  refine wr'<|Vw (Zab lk)<|Vw (ZbN lk)<|Vw (Zac lk gx gt9)<|Zad mp (ZiP) pt<|Vw (Zax lk)<|mw<|sn'<|?_
  refine Zaw lk (fun hc9=>?_) (fun hc9=>?_)
  ·refine wr'<|mw<|sn'<|Zaa<|Zaq<|Zai<|Zae rz<|rT'<|?_
   refine ivx ?_;unfold eraE;simp_all
  refine Zaf<|Zaz<|Zah<|wr'<|mw<|sn'<|Zaa<|Zae rz<|rT'<|?_
  refine ivx ?_;unfold eraE;simp_all
 refine s_no gt pt<|s_no gt pt<|s_no gt pt<|Vw (Zaj lk lkb)<|mw<|sn'<|ZaM lk<|wr'<|Vw (Zab lk)<|Vw (Zac lk gx gt4)<|mw<|Vw (ZdP lk lk)<|?_
 refine mw<|sn'<|?_
 refine cd' lk (fun hc4=>?_) (fun hc4=>?_)
 ·refine wr'<|mw<|sn'<|Zaa<|Zaq<|Zai<|Zae rz<|rT'<|?_
  refine ivx ?_;unfold eraE;simp_all
 refine wr'<|Vw (Zab lk)<|Vw (Zac lk gx gt4)<|mw<|sn'<|?_
 refine Zaw lk (fun hc5=>?_) (fun hc5=>?_)
 ·refine Zam<|wr'<|Vw (Zab lk)<|Vw (Zan lk gx Zfz rfl)<|Vw (Zau ZeI)<|Vw (ZlD lk lk Zdu)<|sn'<|?_
  refine cd' lk (fun hc6=>?_) (fun hc6=>?_)
  ·refine wr'<|mw<|sn'<|Zaa<|Zai<|Zaq<|Zai<|Zae rz<|rT'<|?_
   refine ivx ?_;unfold eraE;simp_all
  refine Zaf<|Zah<|wr'<|mw<|sn'<|Zaa<|Zaq<|Zai<|Zae rz<|rT'<|?_
  refine ivx ?_;unfold eraE;simp_all
 refine Zaf<|Zaz<|Zah<|Zam<|wr'<|Vw (Zab lk)<|Vw (ZbN lk)<|Vw (Zan lk gx ZfA rfl)<|Zad mp (Zld) pt<|mw<|Vw (ZaN lk gt)<|Vw (ZaN lk gt)<|mw<|?_
 refine mw<|sn'<|wr'<|mw<|Vw (ZaT lk lki)<|sn'<|?_
 refine cd' lk (fun hc7=>?_) (fun hc7=>?_)
 ·refine wr'<|mw<|mw<|sn'<|Zaa<|Zai<|Zae rz<|rT'<|?_
  refine ivx ?_;unfold eraE;simp_all
 refine Zaf<|Zah<|Zam<|Zap<|wr'<|Vw (Zab lk)<|Vw (ZbN lk)<|Vw (Zac lk gx gt8)<|Zad mp (Zb5) pt<|Vw (Zax lk)<|mw<|sn'<|?_
 refine Zaw lk (fun hc8=>?_) (fun hc8=>?_)
 ·refine wr'<|mw<|sn'<|Zaa<|Zaq<|Zai<|Zae rz<|rT'<|?_
  refine ivx ?_;unfold eraE;simp_all
 refine wr'<|Vw (Zab lk)<|Vw (ZbN lk)<|Vw (Zac lk gx gt9)<|Zad mp (ZiP) pt<|Vw (Zax lk)<|mw<|sn'<|?_
 refine Zaw lk (fun hc9=>?_) (fun hc9=>?_)
 ·refine wr'<|mw<|sn'<|Zaa<|Zaq<|Zai<|Zae rz<|rT'<|?_
  refine ivx ?_;unfold eraE;simp_all
 refine Zaf<|Zaz<|Zah<|wr'<|mw<|sn'<|Zaa<|Zae rz<|rT'<|?_
 refine ivx ?_;unfold eraE;simp_all
abbrev eraX (x:Era) (last:Bool):Int:=eraE x.1 x.2.1 x.2.2.1 x.2.2.2.1 x.2.2.2.2.1 x.2.2.2.2.2.1.1 x.2.2.2.2.2.1.2.1 x.2.2.2.2.2.1.2.2 x.2.2.2.2.2.2.1 x.2.2.2.2.2.2.2 last
def Zgv:List Era→Int
 | []=>0
 | x::xs=>if eraX x xs.isEmpty≠0 then eraX x xs.isEmpty else Zgv xs
def ZeQ (z:Zon):Int:=if ¬Zcv z.1=true∨z.2.length=0 then 1 else Zgv z.2
def Zsx (x:Era):Prop:=x.2.1.size≤maxLen∧x.2.2.2.1.size≤maxLen
theorem Zpr {l:List Era}{k:Nat}(h:k<l.length):Zgv (l.drop k)=if eraX l[k] (decide ((k:Int)=(l.length:Int)-1))≠0 then eraX l[k] (decide ((k:Int)=(l.length:Int)-1)) else Zgv (l.drop (k+1)):=by
 have e:(l.drop (k+1)).isEmpty=decide ((k:Int)=(l.length:Int)-1):=by
  rw[Bool.eq_iff_iff,List.isEmpty_iff,List.drop_eq_nil_iff,decide_eq_true_iff];omega
 rw[List.drop_eq_getElem_cons h,Zgv,e]
theorem zone_b {nm:ByteArray}{l:List Era}{h:AH}(hnm:nm.size≤maxLen) (hl : ∀ x∈l,Zsx x):Ac 207 [.agg [sv nm,.sl l.length 10 false (rows eraC l)]] h (iv (ZeQ (nm,l))):=by
 refine tI' k207 fun N hn hlt hlA hbd=>?_
 simp only[tb'] at hbd ⊢
 refine wr'<|E' (Zbd cv rfl (hl0 hn) ha0) pt<|mw<|sn'<|Zam<|wr'<|Vw (Zab lk)<|Vw (Zac lk gx gt0)<|Zad mp (Zmi hnm) pt<|Vw (Zax lk)<|mw<|?_
 refine ZaG (t:=10) gt pt pt (fun hg10=>?_) (fun hg10=>?_)
 ·have hZ:ZeQ (nm,l)=1:=if_pos (.inl (by simpa using hg10))
  refine s_no gt pt<|s_no gt pt<|s_no gt pt<|s_no gt pt<|Vw (Zag lk lkb)<|sn'<|ZaC lk<|wr'<|mw<|sn'<|Zaa<|?_
  refine Zai<|Zae rz<|rT'<|?_
  rw[hZ]
 refine s_do gt<|Vw (Zab lk)<|s_do gt<|Vw (Zac lk gx gt1)<|s_do gt<|Vw (ZaL lk)<|s_do gt<|Vw (ZaP lk lki)<|Vw (Zaj lk lk)<|sn'<|?_
 refine cd' lk (fun hc1=>?_) (fun hc1=>?_)
 ·have hZ:ZeQ (nm,l)=1:=if_pos (.inr (by show l.length=0;omega))
  refine wr'<|mw<|sn'<|Zaa<|Zai<|Zae rz<|rT'<|?_
  rw[hZ]
 have hZ:ZeQ (nm,l)=Zgv l:=if_neg (by rintro (h1 | h1);exact h1 (by simpa using hg10);exact hc1 (by show (l.length:Int)=0;have:l.length=0:=h1;omega))
 refine Zaf<|Zah<|Zam<|wr'<|Vw (Zab lk)<|Vw (Zac lk gx gt1)<|Vw (ZaL lk)<|mw<|sn'<|Zap<|?_
 refine w_lp (ι:=Nat) (fun (k:Nat)=>[(19,iv (k:Int))]++rn' 2 4++rn' 20 16) (fun (k:Nat)=>[]) (fun (k:Nat)=>k≤l.length∧Zgv l=Zgv (l.drop k)) (fun (k:Nat)=>l.length-k) (0) (by exact⟨Nat.zero_le _,rfl⟩) ?_
 rintro k hi1
 try simp only[sm',Nat.reduceAdd]
 obtain⟨hk1,hk2⟩:=hi1
 refine wr'<|Vw (Zbb lk lk)<|sn'<|Zam<|?_
 refine cd' lk (fun hc2=>?_) (fun hc2=>?_)
 ·have hk:k<l.length:=by omega
  have ho:=hl _ (List.getElem_mem hk)
  rw[Zpr hk] at hk2
  refine Zaf<|Zah<|Zam<|Zap<|wr'<|mw<|?_
  refine V' (Za0 lk lk ZdX (nb' rfl) ro om ro rfl) pt ?_
  refine Vw (ZaI lk Zrc rfl)<|E' (ZaV (hl1 hn) ha1) pt<|mw<|E' (Zak lk cv gx rfl (nb' rfl) rfl ZoD (hs1 hn)) ptn<|sn'<|wr'<|Vw (Zan lk gx ZoB rfl)<|mw<|Vw (Zab lk)<|Vw (Zac lk gx gt1)<|Vw (ZaL lk)<|?_
  refine V' (Zbt lk lki om om) pt ?_
  refine Vw (ZaP lk lk)<|Zad mp (era_b (last:=decide ((k:Int)=(l.length:Int)-1)) ho.1 ho.2) pt<|mw<|sn'<|wr'<|mw<|Vw (ZaT lk lki)<|sn'<|?_
  refine cd' lk (fun hc3=>?_) (fun hc3=>?_)
  ·have hc3':eraX l[k] (decide ((k:Int)=(l.length:Int)-1))≠0:=hc3
   rw[if_pos hc3'] at hk2
   refine wr'<|mw<|mw<|sn'<|Zaa<|Zaq<|Zai<|Zai<|Zaq<|Zai<|Zae rz<|rT'<|?_
   rw[hZ,hk2]
  have hc3':¬eraX l[k] (decide ((k:Int)=(l.length:Int)-1))≠0:=hc3
  rw[if_neg hc3'] at hk2
  refine Zaf<|Zaz<|Zah<|Zav<|?_
  refine V' (Zay lk lki om om) pt ?_
  refine mw<|Zas<|ZaB<|?_
  refine lU' (k+1) (by (try dsimp only);exact⟨by omega,hk2⟩) (by (try dsimp only);(try simp only[sm',Nat.reduceAdd]);exact bk' 1 hn hlt)
 rw[List.drop_of_length_le om] at hk2
 refine ZaQ<|ZaD<|ZaD<|Zba<|Zah<|wr'<|mw<|sn'<|Zaa<|Zae rz<|rT'<|?_
 rw[hZ,hk2];rfl
def Za4 {α:Type}(p:α→Int):List α→Int
 | []=>0
 | x::xs=>if p x≠0 then p x else Za4 p xs
theorem ZdK {α:Type}{p:α→Int}{l:List α}{k:Nat}(h:k<l.length):Za4 p (l.drop k)=if p l[k]≠0 then p l[k] else Za4 p (l.drop (k+1)):=by
 rw[List.drop_eq_getElem_cons h,Za4]
theorem Zqk {p:Rul→Int}{f:FuncId}{l:List Rul}(hp : ∀ x∈l,∀ h:AH,ACalls Tryz.prog f [.agg (rulC x)] h fun y h'=>h'=h∧y=.ret (iv (p x))) {h:AH}:Ac 205 [.sl l.length 11 false (rows rulC l),.v (.func (.func f) #[] #[])] h (iv (Za4 p l)):=by
 refine tI' k205 fun N hn hlt hlA hbd=>?_
 simp only[tb'] at hbd ⊢
 refine wr'<|mw<|sn'<|Zam<|wr'<|mw<|Vw (ZaL lk)<|mw<|sn'<|Zap<|?_
 refine w_lp (ι:=Nat) (fun (k:Nat)=>[(10,iv (k:Int)),(4,.any),(6,.any),(7,.any)]++rn' 11 10) (fun (k:Nat)=>[]) (fun (k:Nat)=>k≤l.length∧Za4 p l=Za4 p (l.drop k)) (fun (k:Nat)=>l.length-k) (0) (by exact⟨Nat.zero_le _,rfl⟩) ?_
 rintro k hi1
 try simp only[sm',Nat.reduceAdd]
 obtain⟨hk1,hk2⟩:=hi1
 refine wr'<|Vw (Zbb lk lk)<|sn'<|Zam<|?_
 refine cd' lk (fun hc1=>?_) (fun hc1=>?_)
 ·have hk:k<l.length:=by omega
  rw[ZdK hk] at hk2
  refine Zaf<|Zah<|Zam<|Zap<|wr'<|?_
  refine V' (Za0 lk lk Zfi (nb' rfl) ro om ro rfl) pt ?_
  refine Vw (ZaI lk Zrb rfl)<|E' (ZaV (hl0 hn) ha0) pt<|E' (Zak lk cv gx rfl (nb' rfl) rfl ZoC (hs0 hn)) ptn<|sn'<|wr'<|mw<|Vw (Zan lk gx ZoA rfl)<|Zio lk mp (hp _ (List.getElem_mem hk) _) pt<|mw<|sn'<|Zam<|?_
  refine Zav<|mw<|Vw (ZaT lk lki)<|sn'<|?_
  refine cd' lk (fun hc2=>?_) (fun hc2=>?_)
  ·rw[if_pos hc2] at hk2
   refine wr'<|mw<|mw<|sn'<|Zaa<|Zaq<|Zai<|Zai<|Zaq<|Zai<|Zae rz<|rT'<|?_
   rw[hk2]
  rw[if_neg hc2] at hk2
  refine Zaf<|Zaz<|Zah<|Zav<|?_
  refine V' (Zay lk lki om om) pt ?_
  refine mw<|Zas<|ZaB<|?_
  refine lU' (k+1) (by (try dsimp only);exact⟨by omega,hk2⟩) (by (try dsimp only);(try simp only[sm',Nat.reduceAdd]);exact bk' 0 hn hlt)
 rw[List.drop_of_length_le om] at hk2
 refine ZaQ<|ZaD<|ZaD<|Zba<|Zah<|wr'<|mw<|sn'<|Zaa<|Zae rz<|rT'<|?_
 rw[hk2];rfl
theorem Zqj {p:Zon→Int}{f:FuncId}{l:List Zon}(hp : ∀ x∈l,∀ h:AH,ACalls Tryz.prog f [.agg (zonC x)] h fun y h'=>h'=h∧y=.ret (iv (p x))) {h:AH}:Ac 206 [.sl l.length 2 false (rows zonC l),.v (.func (.func f) #[] #[])] h (iv (Za4 p l)):=by
 refine tI' k206 fun N hn hlt hlA hbd=>?_
 simp only[tb'] at hbd ⊢
 refine wr'<|mw<|sn'<|Zam<|wr'<|mw<|Vw (ZaL lk)<|mw<|sn'<|Zap<|?_
 refine w_lp (ι:=Nat) (fun (k:Nat)=>[(10,iv (k:Int)),(4,.any),(6,.any),(7,.any)]++rn' 11 10) (fun (k:Nat)=>[]) (fun (k:Nat)=>k≤l.length∧Za4 p l=Za4 p (l.drop k)) (fun (k:Nat)=>l.length-k) (0) (by exact⟨Nat.zero_le _,rfl⟩) ?_
 rintro k hi1
 try simp only[sm',Nat.reduceAdd]
 obtain⟨hk1,hk2⟩:=hi1
 refine wr'<|Vw (Zbb lk lk)<|sn'<|Zam<|?_
 refine cd' lk (fun hc1=>?_) (fun hc1=>?_)
 ·have hk:k<l.length:=by omega
  rw[ZdK hk] at hk2
  refine Zaf<|Zah<|Zam<|Zap<|wr'<|?_
  refine V' (Za0 lk lk ZcO (nb' rfl) ro om ro rfl) pt ?_
  refine Vw (ZaI lk Zjd rfl)<|E' (ZaV (hl0 hn) ha0) pt<|E' (Zak lk cv gx rfl (nb' rfl) rfl Zhn (hs0 hn)) ptn<|sn'<|wr'<|mw<|Vw (Zan lk gx Zku rfl)<|Zio lk mp (hp _ (List.getElem_mem hk) _) pt<|mw<|sn'<|Zam<|?_
  refine Zav<|mw<|Vw (ZaT lk lki)<|sn'<|?_
  refine cd' lk (fun hc2=>?_) (fun hc2=>?_)
  ·rw[if_pos hc2] at hk2
   refine wr'<|mw<|mw<|sn'<|Zaa<|Zaq<|Zai<|Zai<|Zaq<|Zai<|Zae rz<|rT'<|?_
   rw[hk2]
  rw[if_neg hc2] at hk2
  refine Zaf<|Zaz<|Zah<|Zav<|?_
  refine V' (Zay lk lki om om) pt ?_
  refine mw<|Zas<|ZaB<|?_
  refine lU' (k+1) (by (try dsimp only);exact⟨by omega,hk2⟩) (by (try dsimp only);(try simp only[sm',Nat.reduceAdd]);exact bk' 0 hn hlt)
 rw[List.drop_of_length_le om] at hk2
 refine ZaQ<|ZaD<|ZaD<|Zba<|Zah<|wr'<|mw<|sn'<|Zaa<|Zae rz<|rT'<|?_
 rw[hk2];rfl
theorem Zj3 {p:Lnk→Int}{f:FuncId}{l:List Lnk}(hp : ∀ x∈l,∀ h:AH,ACalls Tryz.prog f [.agg (lnkC x)] h fun y h'=>h'=h∧y=.ret (iv (p x))) {h:AH}:Ac 208 [.sl l.length 2 false (rows lnkC l),.v (.func (.func f) #[] #[])] h (iv (Za4 p l)):=by
 refine tI' k208 fun N hn hlt hlA hbd=>?_
 simp only[tb'] at hbd ⊢
 refine wr'<|mw<|sn'<|Zam<|wr'<|mw<|Vw (ZaL lk)<|mw<|sn'<|Zap<|?_
 refine w_lp (ι:=Nat) (fun (k:Nat)=>[(10,iv (k:Int)),(4,.any),(6,.any),(7,.any)]++rn' 11 10) (fun (k:Nat)=>[]) (fun (k:Nat)=>k≤l.length∧Za4 p l=Za4 p (l.drop k)) (fun (k:Nat)=>l.length-k) (0) (by exact⟨Nat.zero_le _,rfl⟩) ?_
 rintro k hi1
 try simp only[sm',Nat.reduceAdd]
 obtain⟨hk1,hk2⟩:=hi1
 refine wr'<|Vw (Zbb lk lk)<|sn'<|Zam<|?_
 refine cd' lk (fun hc1=>?_) (fun hc1=>?_)
 ·have hk:k<l.length:=by omega
  rw[ZdK hk] at hk2
  refine Zaf<|Zah<|Zam<|Zap<|wr'<|?_
  refine V' (Za0 lk lk ZdV (nb' rfl) ro om ro rfl) pt ?_
  refine Vw (ZaI lk Zjd rfl)<|E' (ZaV (hl0 hn) ha0) pt<|E' (Zak lk cv gx rfl (nb' rfl) rfl Zhn (hs0 hn)) ptn<|sn'<|wr'<|mw<|Vw (Zan lk gx Zku rfl)<|Zio lk mp (hp _ (List.getElem_mem hk) _) pt<|mw<|sn'<|Zam<|?_
  refine Zav<|mw<|Vw (ZaT lk lki)<|sn'<|?_
  refine cd' lk (fun hc2=>?_) (fun hc2=>?_)
  ·rw[if_pos hc2] at hk2
   refine wr'<|mw<|mw<|sn'<|Zaa<|Zaq<|Zai<|Zai<|Zaq<|Zai<|Zae rz<|rT'<|?_
   rw[hk2]
  rw[if_neg hc2] at hk2
  refine Zaf<|Zaz<|Zah<|Zav<|?_
  refine V' (Zay lk lki om om) pt ?_
  refine mw<|Zas<|ZaB<|?_
  refine lU' (k+1) (by (try dsimp only);exact⟨by omega,hk2⟩) (by (try dsimp only);(try simp only[sm',Nat.reduceAdd]);exact bk' 0 hn hlt)
 rw[List.drop_of_length_le om] at hk2
 refine ZaQ<|ZaD<|ZaD<|Zba<|Zah<|wr'<|mw<|sn'<|Zaa<|Zae rz<|rT'<|?_
 rw[hk2];rfl
def ZeP (s:Src):Bool:=s.2.1.any (fun z=>decide (8<z.2.length))||decide (40<s.1.length)||decide (20<s.2.1.length)||decide (20<s.2.2.length)
theorem many_b {a:List Rul}{z:List Zon}{l:List Lnk}{h:AH}:Ac 204 [.agg [.sl a.length 11 false (rows rulC a),.sl z.length 2 false (rows zonC z),.sl l.length 2 false (rows lnkC l)]] h (bv (ZeP (a,z,l))):=by
 refine tI' k204 fun N hn hlt hlA hbd=>?_
 simp only[tb'] at hbd ⊢
 refine wr'<|E' (Zbd cv rfl (hl0 hn) ha0) pt<|mw<|sn'<|Zam<|wr'<|Vw (Zab lk)<|Vw (Zac lk gx gt1)<|Vw (ZaL lk)<|mw<|Zas<|?_
 refine Zah<|Zap<|?_
 refine w_lp (ι:=Nat) (fun (k:Nat)=>[(8,iv (k:Int)),(2,.any),(4,.any)]++rn' 9 8) (fun (k:Nat)=>[]) (fun (k:Nat)=>k≤z.length∧(z.take k).any (fun z=>decide (8<z.2.length))=false) (fun (k:Nat)=>z.length-k) (0) (by exact⟨Nat.zero_le _,rfl⟩) ?_
 rintro k hi1
 try simp only[sm',Nat.reduceAdd]
 obtain⟨hk1,hk2⟩:=hi1
 refine wr'<|Vw (Zbb lk lk)<|sn'<|Zam<|?_
 refine cd' lk (fun hc1=>?_) (fun hc1=>?_)
 ·have hk:k<z.length:=by omega
  refine Zaf<|Zah<|Zam<|Zap<|wr'<|?_
  refine V' (Za0 lk lk ZcO (nb' rfl) ro om ro rfl) pt ?_
  refine Vw (ZaI lk Zjd rfl)<|E' (ZaV (hl1 hn) ha1) pt<|E' (Zak lk cv gx rfl (nb' rfl) rfl Zhn (hs1 hn)) ptn<|sn'<|wr'<|Vw (Zab lk)<|Vw (Zac lk gx gt1)<|?_
  refine V' ((by first | exact ZaL lk | exact ZcW lk)) pt ?_
  refine Vw (ZbD lk lki)<|sn'<|?_
  refine cd' lk (fun hc2=>?_) (fun hc2=>?_)
  ·have hA:z.any (fun z=>decide (8<z.2.length))=true:=List.any_eq_true.2 ⟨z[k],List.getElem_mem hk,decide_eq_true om⟩
   refine wr'<|mw<|sn'<|Zaa<|Zaq<|Zai<|Zai<|Zaq<|Zai<|Zae rz<|rT'<|?_
   refine bvx ?_;unfold ZeP;rw[hA];simp
  refine Zaf<|Zaz<|Zah<|Zav<|?_
  refine V' (Zay lk lki om om) pt ?_
  refine mw<|Zas<|ZaB<|?_
  refine lU' (k+1) (by (try dsimp only);exact⟨by omega,by rw[List.take_succ_eq_append_getElem hk,List.any_append,hk2];simp;omega⟩) (by (try dsimp only);(try simp only[sm',Nat.reduceAdd]);exact bk' 1 hn hlt)
 rw[List.take_of_length_le om] at hk2
 refine ZaQ<|ZaD<|ZaD<|Zba<|Zah<|wr'<|Vw (Zab lk)<|Vw (Zac lk gx gt0)<|Vw (ZaL lk)<|Vw (ZbD lk lki)<|mw<|?_
 refine sp' (t:=21) gt pt pt (fun hg21=>?_) (fun hg21=>?_)
 ·refine s_no gt pt<|s_no gt pt<|s_no gt pt<|s_no gt pt<|Vw (Zag lk lkb)<|mw<|s_no gt pt<|s_no gt pt<|s_no gt pt<|s_no gt pt<|Vw (Zag lk lkb)<|mw<|sn'<|?_
  refine Zaa<|Zae rz<|rT'<|?_
  refine bvx ?_;unfold ZeP;rw[hk2];rw[Bool.eq_iff_iff];simp;omega
 refine s_do gt<|Vw (Zab lk)<|s_do gt<|Vw (Zac lk gx gt1)<|s_do gt<|Vw (ZaL lk)<|s_do gt<|Vw (ZbD lk lki)<|Vw (Zaj lk lk)<|mw<|?_
 refine sp' (t:=27) gt pt pt (fun hg27=>?_) (fun hg27=>?_)
 ·refine s_no gt pt<|s_no gt pt<|s_no gt pt<|s_no gt pt<|Vw (Zag lk lkb)<|mw<|sn'<|Zaa<|Zae rz<|rT'<|?_
  refine bvx ?_;unfold ZeP;rw[hk2];rw[Bool.eq_iff_iff];simp;omega
 refine s_do gt<|Vw (Zab lk)<|s_do gt<|Vw (Zac lk gx gt2)<|s_do gt<|Vw (ZaL lk)<|s_do gt<|Vw (ZbD lk lki)<|Vw (Zaj lk lk)<|mw<|sn'<|Zaa<|Zae rz<|?_
 refine rT' ?_
 refine bvx ?_;unfold ZeP;rw[hk2];rw[Bool.eq_iff_iff];simp;omega
def Zgq (s:Src):Prop:=(∀ r∈s.1,r.1.size≤maxLen∧r.2.2.2.2.2.2.2.2.size≤maxLen)∧(∀ z∈s.2.1,z.1.size≤maxLen ∧ ∀ x∈z.2,Zsx x) ∧ ∀ l∈s.2.2,l.1.size≤maxLen∧l.2.size≤maxLen
def ZbR (s:Src):Int:=if ZeP s=true then 2 else if Za4 Zbw s.1≠0 then Za4 Zbw s.1 else if Za4 ZeQ s.2.1≠0 then Za4 ZeQ s.2.1 else Za4 Zev s.2.2
theorem scheck_b {a:List Rul}{z:List Zon}{l:List Lnk}{h:AH}(hok:Zgq (a,z,l)):Ac 132 [.agg [.sl a.length 11 false (rows rulC a),.sl z.length 2 false (rows zonC z),.sl l.length 2 false (rows lnkC l)]] h (iv (ZbR (a,z,l))):=by
 have p1 : ∀ x∈a,∀ h:AH,ACalls Tryz.prog 156 [.agg (rulC x)] h fun y h'=>h'=h∧y=.ret (iv (Zbw x)):=fun x hx h=>rule_b (hok.1 x hx).1 (hok.1 x hx).2
 have p2 : ∀ x∈z,∀ h:AH,ACalls Tryz.prog 207 [.agg (zonC x)] h fun y h'=>h'=h∧y=.ret (iv (ZeQ x)):=fun x hx h=>zone_b (hok.2.1 x hx).1 (hok.2.1 x hx).2
 have p3 : ∀ x∈l,∀ h:AH,ACalls Tryz.prog 209 [.agg (lnkC x)] h fun y h'=>h'=h∧y=.ret (iv (Zev x)):=fun x hx h=>link_b (hok.2.2 x hx).1 (hok.2.2 x hx).2
 refine tI' k132 fun N hn hlt hlA hbd=>?_
 simp only[tb'] at hbd ⊢
 refine wr'<|E' (Zbd cv rfl (hl0 hn) ha0) pt<|mw<|sn'<|Zam<|wr'<|Vw (Zan lk gx Zre rfl)<|Zad mp (many_b) pt<|sn'<|?_
 refine Zaw lk (fun hc1=>?_) (fun hc1=>?_)
 ·refine wr'<|mw<|sn'<|Zaa<|Zai<|Zae rz<|rT'<|?_
  refine ivx ?_;unfold ZbR;simp_all
 refine Zaf<|Zah<|wr'<|Vw (Zab lk)<|Vw (Zac lk gx gt0)<|Zad mp (Zqk p1) pt<|mw<|sn'<|Zam<|wr'<|mw<|?_
 refine Vw (ZaP lk lki)<|sn'<|?_
 refine cd' lk (fun hc2=>?_) (fun hc2=>?_)
 ·refine Zav<|Vw (Zab lk)<|Vw (Zac lk gx gt1)<|Zad mp (Zqj p2) pt<|mw<|sn'<|Zam<|wr'<|mw<|Vw (ZaP lk lki)<|sn'<|?_
  refine cd' lk (fun hc3=>?_) (fun hc3=>?_)
  ·refine Zav<|Vw (Zab lk)<|Vw (Zac lk gx gt2)<|Zad mp (Zj3 p3) pt<|mw<|sn'<|wr'<|mw<|mw<|sn'<|Zaa<|?_
   refine Zae rz<|rT'<|?_
   refine ivx ?_;unfold ZbR;simp_all
  refine Zaf<|Zah<|wr'<|mw<|mw<|sn'<|Zaa<|Zae rz<|rT'<|?_
  refine ivx ?_;unfold ZbR;simp_all
 refine Zaf<|Zah<|Zam<|wr'<|mw<|Vw (ZaP lk lki)<|sn'<|?_
 refine cd' lk (fun hc3=>?_) (fun hc3=>?_)
 ·refine Zav<|Vw (Zab lk)<|Vw (Zac lk gx gt2)<|Zad mp (Zj3 p3) pt<|mw<|sn'<|wr'<|mw<|mw<|sn'<|Zaa<|?_
  refine Zae rz<|rT'<|?_
  refine ivx ?_;unfold ZbR;simp_all
 refine Zaf<|Zah<|wr'<|mw<|mw<|sn'<|Zaa<|Zae rz<|rT'<|?_
 refine ivx ?_;unfold ZbR;simp_all
end Go.Proofs.YtlekejpogddndaaGreatDoor
end
section
namespace Go.Proofs.YtlekejpogddndaaGreatDoor
open Go.Ab
abbrev TS:=List ByteArray×Bool
abbrev bad (t:TS):TS:=(t.1,true)
def ZaR (t:TS):ByteArray×TS:=if t.2=true∨t.1=[] then (⟨#[]⟩,bad t) else (t.1.headD ⟨#[]⟩,t.1.tail,false)
def decL:Int→Bs→Int
 | n,[]=>n
 | n,c::l=>decL (10*n+c.toNat-48) l
def numV (s:ByteArray) (a b:Int):Option Int:=if wi s.size a b=true∧allB digB s=true then some (decL 0 (aB s)) else none
def tNum (s:ByteArray) (a b:Int) (t:TS):Int×TS:=match numV s a b with
 | some n=>(n,t)
 | none=>(0,bad t)
def ZeV (t:TS):ByteArray×TS:=((ZaR t).1,if Zcv (ZaR t).1=true then (ZaR t).2 else bad (ZaR t).2)
def idxL:List ByteArray→ByteArray→Int→Option Int
 | [],_,_=>none
 | x::l,s,d=>if s=x then some d else idxL l s (d+1)
def monL:List ByteArray:=[bA [74,97,110],bA [70,101,98],bA [77,97,114],bA [65,112,114],bA [77,97,121],bA [74,117,110],bA [74,117,108],bA [65,117,103],bA [83,101,112],bA [79,99,116],bA [78,111,118],bA [68,101,99]]
def dayL:List ByteArray:=[bA [83,117,110],bA [77,111,110],bA [84,117,101],bA [87,101,100],bA [84,104,117],bA [70,114,105],bA [83,97,116]]
def ZdF (t:TS):Int×TS:=match idxL monL (ZaR t).1 1 with
 | some n=>(n,(ZaR t).2)
 | none=>(0,bad (ZaR t).2)
def Zd6 (s:ByteArray) (t:TS):Int×TS:=match idxL dayL s 0 with
 | some n=>(n,t)
 | none=>(0,bad t)
def ZcN (s:ByteArray) (k:Nat):Int:=(ZaH s k).toNat
def Zd4 (s:ByteArray):Nat:=if 4≤s.size∧s.extract 0 4=bA [108,97,115,116] then 2 else if 5<s.size∧ZcN s 4=61∧ZcN s 3=62 then 3 else if 5<s.size∧ZcN s 4=61∧ZcN s 3=60 then 4 else 1
def ZbT (s:ByteArray) (t:TS):Frm×TS :=
 if Zd4 s=2 then ((2,(Zd6 (s.extract 4 s.size) t).1,0),(Zd6 (s.extract 4 s.size) t).2)
 else if Zd4 s=1 then ((1,0,(tNum s 1 2 t).1),(tNum s 1 2 t).2)
 else ((Zd4 s,(Zd6 (s.extract 0 3) t).1,(tNum (s.extract 5 s.size) 1 2 (Zd6 (s.extract 0 3) t).2).1),(tNum (s.extract 5 s.size) 1 2 (Zd6 (s.extract 0 3) t).2).2)
def Zg3 (t:TS):Frm×TS:=ZbT (ZaR t).1 (ZaR t).2
def tSix (s:ByteArray) (t:TS):Int×TS:=((tNum s 2 2 t).1,if (tNum s 2 2 t).1>59 then bad (tNum s 2 2 t).2 else (tNum s 2 2 t).2)
def ZeU (l:List Bs) (t:TS):Int×TS:=match l with
 | [a,b]=>(3600*(tNum (bA a) 1 2 t).1+60*(tSix (bA b) (tNum (bA a) 1 2 t).2).1,(tSix (bA b) (tNum (bA a) 1 2 t).2).2)
 | [a,b,c]=>(3600*(tNum (bA a) 1 2 t).1+60*(tSix (bA b) (tNum (bA a) 1 2 t).2).1+(tSix (bA c) (tSix (bA b) (tNum (bA a) 1 2 t).2).2).1,(tSix (bA c) (tSix (bA b) (tNum (bA a) 1 2 t).2).2).2)
 | _=>(0,bad t)
def ZbE (s:ByteArray) (t:TS):Int×TS:=if s=bA [48] then (0,t) else ZeU (cutC 58 (aB s)) t
def wsuA:ByteArray:=bA [63,119,115,117]
def Zdt (c d:Int):Nat→Int
 | 0=>d
 | k+1=>if c=ZcN wsuA (k+1) then ((k+1:Nat):Int) else Zdt c d k
def ZcL (s:ByteArray):Int:=ZcN s (s.size-1)
def Zd2 (d:Int) (s:ByteArray) (t:TS):(Int×Int)×TS :=
 if s.size=0 then (((ZbE s t).1,d),(ZbE s t).2)
 else if digB (ZcL s)=true then (((ZbE s t).1,Zdt (ZcL s) d 3),(ZbE s t).2)
 else let u:TS:=if ZcL s=ZcN wsuA (Zdt (ZcL s) d 3).toNat then t else bad t
  (((ZbE (s.extract 0 (s.size-1)) u).1,Zdt (ZcL s) d 3),(ZbE (s.extract 0 (s.size-1)) u).2)
def Zdb (d:Int) (t:TS):(Int×Int)×TS:=Zd2 d (ZaR t).1 (ZaR t).2
def Zsu:ByteArray:=bA [111,110,108,121]
def maxA:ByteArray:=bA [109,97,120]
def tTo (f:Int) (s:ByteArray) (t:TS):Int×TS:=if s=Zsu then (f,t) else if s=maxA then (2100,t) else tNum s 4 4 t
def Ze2 (s:ByteArray):Bool:=decide (s≠⟨#[]⟩)&&(decide (s=bA [45])||Zco s)
def Zb1 {α β:Type}(f:TS→α×TS) (k:α→TS→β×TS) (t:TS):β×TS:=k (f t).1 (f t).2
def ret2 {α:Type}(a:α) (t:TS):α×TS:=(a,t)
def ZrQ (t:TS):Int×TS:=tNum (ZaR t).1 4 4 (ZaR t).2
def tToN (f:Int) (t:TS):Int×TS:=tTo f (ZaR t).1 (ZaR t).2
def ZrS (t:TS):Int×TS:=ZbE (ZaR t).1 (ZaR t).2
def Zdh (t:TS):ByteArray×TS:=(if (ZaR t).1=bA [45] then ⟨#[]⟩ else (ZaR t).1,if Ze2 (ZaR t).1=true then (ZaR t).2 else bad (ZaR t).2)
def ZkH:TS→Rul×TS :=
 Zb1 ZeV fun nm=>Zb1 ZrQ fun f=>Zb1 (tToN f) fun t2=>Zb1 ZdF fun m=>Zb1 Zg3 fun k=>Zb1 (Zdb 1) fun c=>Zb1 ZrS fun sv=>Zb1 Zdh fun l=>ret2 (nm,f,t2,m,k,c.1,c.2,sv,l)
def ZhJ (s:ByteArray):Int:=ZcN s 0
def Zgc (t:TS):Int×TS:=if (ZaR t).1.size≠0∧ZhJ (ZaR t).1=45 then (-(ZbE ((ZaR t).1.extract 1 (ZaR t).1.size) (ZaR t).2).1,(ZbE ((ZaR t).1.extract 1 (ZaR t).1.size) (ZaR t).2).2) else ZbE (ZaR t).1 (ZaR t).2
def Zd1 (s:ByteArray) (t:TS):(Int×ByteArray)×TS :=
 if s=bA [45] then ((0,⟨#[]⟩),t)
 else if s.size≠0∧digB (ZhJ s)=true then (((ZbE s (if s=bA [48] then bad t else t)).1,⟨#[]⟩),(ZbE s (if s=bA [48] then bad t else t)).2)
 else ((0,s),if Zcv s=true then t else bad t)
def ZrT (t:TS):(Int×ByteArray)×TS:=Zd1 (ZaR t).1 (ZaR t).2
def Zii (t:TS):ByteArray×TS:=((ZaR t).1,if ZbO (ZaR t).1=true then (ZaR t).2 else bad (ZaR t).2)
def tDay (t:TS):Int×TS:=tNum (ZaR t).1 1 2 (ZaR t).2
def ZrR (c:Int×Int) (t:TS):Unit×TS:=((),if c.2=1 then bad t else t)
def Zhu:TS→Unt×TS :=
 Zb1 ZrQ fun y=>Zb1 ZdF fun m=>Zb1 tDay fun d=>Zb1 (Zdb 2) fun c=>Zb1 (ZrR c) fun _=>ret2 ((y,m,d),c.1,c.2)
def untZ:Unt:=((0,0,0),0,0)
def tEnd (t:TS):(Bool×Unt)×TS:=if t.1=[] then ((true,untZ),t) else ((false,(Zhu t).1),(Zhu t).2)
def tEra:TS→Era×TS :=
 Zb1 Zgc fun sh=>Zb1 ZrT fun r=>Zb1 Zii fun f=>Zb1 tEnd fun u=>ret2 (sh,r.2,r.1,f,u.1,u.2)
def Zes:List ByteArray→Option (ByteArray×List ByteArray)
 | []=>none
 | x::l=>some (x,l)
abbrev RM (α:Type):=List ByteArray→Option (α×List ByteArray)
def ZbS {α β:Type}(f:RM α) (k:α→RM β):RM β:=fun l=>match f l with
 | none=>none
 | some p=>k p.1 p.2
def retR {α:Type}(a:α):RM α:=fun l=>some (a,l)
def ZcC {α:Type}(o:Option α):RM α:=fun l=>match o with
 | none=>none
 | some a=>some (a,l)
def Zsk:RM ByteArray:=ZbS Zes fun s=>ZcC (if Zcv s=true then some s else none)
def Zsl:RM Int:=ZbS Zes fun s=>ZcC (idxL monL s 1)
def sixV (s:ByteArray):Option Int:=match numV s 2 2 with
 | some n=>if n>59 then none else some n
 | none=>none
def ZfO (s:ByteArray):Option Int:=if s=bA [48] then some 0 else match cutC 58 (aB s) with
 | [a,b]=>match numV (bA a) 1 2,sixV (bA b) with
  | some x,some y=>some (3600*x+60*y)
  | _,_=>none
 | [a,b,c]=>match numV (bA a) 1 2,sixV (bA b),sixV (bA c) with
  | some x,some y,some z=>some (3600*x+60*y+z)
  | _,_,_=>none
 | _=>none
def formV (s:ByteArray):Option Frm :=
 if Zd4 s=2 then (match idxL dayL (s.extract 4 s.size) 0 with
  | some w=>some (2,w,0)
  | none=>none)
 else if Zd4 s=1 then (match numV s 1 2 with
  | some n=>some (1,0,n)
  | none=>none)
 else match idxL dayL (s.extract 0 3) 0,numV (s.extract 5 s.size) 1 2 with
  | some w,some n=>some ((Zd4 s:Int),w,n)
  | _,_=>none
def wsuK (c:Int):Option Int:=if c=119 then some 1 else if c=115 then some 2 else if c=117 then some 3 else none
def Zpz (d:Int) (s:ByteArray):Option (Int×Int):=match (if s.size=0 then none else wsuK (ZcL s)) with
 | some k=>(match ZfO (s.extract 0 (s.size-1)) with
  | some n=>some (n,k)
  | none=>none)
 | none=>(match ZfO s with
  | some n=>some (n,d)
  | none=>none)
def toV (f:Int) (s:ByteArray):Option Int:=if s=Zsu then some f else if s=maxA then some 2100 else numV s 4 4
def ZnI (s:ByteArray):Option ByteArray:=if Ze2 s=true then some (if s=bA [45] then ⟨#[]⟩ else s) else none
def rRule:RM Rul :=
 ZbS Zsk fun nm=>ZbS (ZbS Zes fun s=>ZcC (numV s 4 4)) fun f=>ZbS (ZbS Zes fun s=>ZcC (toV f s)) fun t2=>ZbS Zsl fun m=>ZbS (ZbS Zes fun s=>ZcC (formV s)) fun k =>
  ZbS (ZbS Zes fun s=>ZcC (Zpz 1 s)) fun c=>ZbS (ZbS Zes fun s=>ZcC (ZfO s)) fun sv=>ZbS (ZbS Zes fun s=>ZcC (ZnI s)) fun l=>retR (nm,f,t2,m,k,c.1,c.2,sv,l)
def Zr8 (s:ByteArray):Option Int:=if s.size≠0∧ZhJ s=45 then (match ZfO (s.extract 1 s.size) with
  | some n=>some (-n)
  | none=>none) else ZfO s
def Zsd (s:ByteArray):Option (Int×ByteArray) :=
 if s=bA [45] then some (0,⟨#[]⟩)
 else if s.size≠0∧digB (ZhJ s)=true∧s≠bA [48] then (match ZfO s with
  | some n=>some (n,⟨#[]⟩)
  | none=>none)
 else if Zcv s=true then some (0,s) else none
def Zsj:RM Unt :=
 ZbS (ZbS Zes fun s=>ZcC (numV s 4 4)) fun y=>ZbS Zsl fun m=>ZbS (ZbS Zes fun s=>ZcC (numV s 1 2)) fun d=>ZbS (ZbS Zes fun s=>ZcC (Zpz 2 s)) fun c=>ZbS (ZcC (if c.2=1 then none else some ())) fun _=>retR ((y,m,d),c.1,c.2)
def rEnd:RM (Bool×Unt):=fun l=>if l=[] then some ((true,untZ),l) else match Zsj l with
 | some p=>some ((false,p.1),p.2)
 | none=>none
def rEra:RM Era :=
 ZbS (ZbS Zes fun s=>ZcC (Zr8 s)) fun sh=>ZbS (ZbS Zes fun s=>ZcC (Zsd s)) fun r=>ZbS (ZbS Zes fun s=>ZcC (if ZbO s=true then some s else none)) fun f=>ZbS rEnd fun u=>retR (sh,r.2,r.1,f,u.1,u.2)
def Agr {α:Type}(f:TS→α×TS) (g:RM α):Prop := ∀ l,(f (l,true)).2.2=true∧match g l with
 | none=>(f (l,false)).2.2=true
 | some p=>f (l,false)=(p.1,p.2,false)
theorem Agr.bind {α β:Type}{f:TS→α×TS}{g:RM α}{k:α→TS→β×TS}{m:α→RM β}(h:Agr f g) (hk : ∀ a,Agr (k a) (m a)):Agr (Zb1 f k) (ZbS g m):=by
 have stay : ∀ (a:α) (t:TS),t.2=true→(k a t).2.2=true:=by
  rintro a ⟨l,b⟩ rfl;exact (hk a l).1
 intro l
 refine⟨stay _ _ (h l).1,?_⟩
 have h2:=(h l).2
 unfold ZbS Zb1
 revert h2
 cases hg:g l with
 | none=>exact fun h2=>stay _ _ h2
 | some p=>intro h2;simp only at h2;rw[h2];exact (hk p.1 p.2).2
theorem Agr.ret {α:Type}(a:α):Agr (ret2 a) (retR a):=fun l=>⟨rfl,rfl⟩
theorem agr_next:Agr ZaR Zes:=by
 intro l
 cases l with
 | nil=>exact⟨rfl,rfl⟩
 | cons x l=>exact⟨rfl,rfl⟩
def AgO {α:Type}(o:Option α) (x:α×TS) (l:List ByteArray):Prop:=match o with
 | none=>x.2.2=true
 | some a=>x=(a,l,false)
theorem Agr.lift {α:Type}{f:TS→α×TS}{o:Option α}(hb : ∀ t:TS,t.2=true→(f t).2.2=true) (hf : ∀ l,AgO o (f (l,false)) l):Agr f (ZcC o):=by
 intro l
 refine⟨hb _ rfl,?_⟩
 have:=hf l
 unfold ZcC
 cases o <;> exact this
theorem Zlj (s:ByteArray) (a b:Int):Agr (tNum s a b) (ZcC (numV s a b)):=by
 refine Agr.lift (fun t h=>?_) (fun l=>?_)
 ·unfold tNum;split <;> simp_all
 ·unfold tNum;cases numV s a b <;> rfl
theorem Zd7 {s:ByteArray}{a b:Int}{t:TS}(h:t.2=true):(tNum s a b t).2.2=true:=by unfold tNum;split <;> simp_all
theorem ZjG {s:ByteArray}{t:TS}(h:t.2=true):(Zd6 s t).2.2=true:=by unfold Zd6;split <;> simp_all
theorem ZdC {s:ByteArray}{t:TS}(h:t.2=true):(tSix s t).2.2=true:=by unfold tSix;have:=Zd7 (s:=s) (a:=2) (b:=2) h;split <;> simp_all
theorem Zcl {s:ByteArray}{t:TS}(h:t.2=true):(ZbE s t).2.2=true:=by
 unfold ZbE
 split
 ·exact h
 ·unfold ZeU
  split
  ·exact ZdC (Zd7 h)
  ·exact ZdC (ZdC (Zd7 h))
  ·rfl
theorem ZdD {s:ByteArray}{a b n:Int}{t:TS}(h:numV s a b=some n):tNum s a b t=(n,t):=by unfold tNum;rw[h]
theorem ZdE {s:ByteArray}{a b:Int}{t:TS}(h:numV s a b=none):tNum s a b t=(0,bad t):=by unfold tNum;rw[h]
theorem Zif {s:ByteArray}{n:Int}{t:TS}(h:sixV s=some n):tSix s t=(n,t):=by
 unfold sixV at h
 split at h
 ·rename_i m hm
  unfold tSix
  rw[ZdD hm]
  split at h
  ·cases h
  ·rename_i hle;cases h;simp[hle]
 ·cases h
theorem Zig {s:ByteArray}{t:TS}(h:sixV s=none):(tSix s t).2.2=true:=by
 unfold sixV at h
 split at h
 ·rename_i m hm
  unfold tSix
  rw[ZdD hm]
  split at h
  ·rename_i hle;simp[hle]
  ·cases h
 ·rename_i hm;unfold tSix;rw[ZdE hm];simp
theorem Zfs (s:ByteArray):Agr (ZbE s) (ZcC (ZfO s)):=by
 refine Agr.lift (fun t h=>Zcl h) (fun l=>?_)
 unfold ZbE ZfO
 by_cases h0:s=bA [48]
 ·simp only[if_pos h0];rfl
 ·simp only[if_neg h0]
  obtain⟨y,hy⟩ : ∃ y,y=cutC 58 (aB s):=⟨_,rfl⟩
  simp only[←hy]
  clear hy
  match y with
  | []=>rfl
  | [_]=>rfl
  | _::_::_::_::_=>rfl
  | [a,b] =>
   simp only[ZeU]
   cases h1:numV (bA a) 1 2 with
   | none=>rw[ZdE h1];exact ZdC rfl
   | some x =>
    rw[ZdD h1]
    cases h2:sixV (bA b) with
    | none=>exact Zig h2
    | some y=>simp only;rw[Zif h2];rfl
  | [a,b,c] =>
   simp only[ZeU]
   cases h1:numV (bA a) 1 2 with
   | none=>rw[ZdE h1];exact ZdC (ZdC rfl)
   | some x =>
    rw[ZdD h1]
    cases h2:sixV (bA b) with
    | none=>exact ZdC (Zig h2)
    | some y =>
     simp only;rw[Zif h2]
     cases h3:sixV (bA c) with
     | none=>exact Zig h3
     | some z=>simp only;rw[Zif h3];rfl
theorem agr_form (s:ByteArray):Agr (ZbT s) (ZcC (formV s)):=by
 refine Agr.lift (fun t h=>?_) (fun l=>?_)
 ·unfold ZbT
  split
  ·exact ZjG h
  ·split
   ·exact Zd7 h
   ·exact Zd7 (ZjG h)
 ·unfold ZbT formV
  by_cases hk2:Zd4 s=2
  ·simp only[if_pos hk2]
   unfold Zd6
   cases h1:idxL dayL (s.extract 4 s.size) 0 <;> rfl
  ·simp only[if_neg hk2]
   by_cases hk1:Zd4 s=1
   ·simp only[if_pos hk1]
    cases h1:numV s 1 2 with
    | none=>rw[ZdE h1];rfl
    | some n=>rw[ZdD h1];rfl
   ·simp only[if_neg hk1]
    cases h1:idxL dayL (s.extract 0 3) 0 with
    | none=>refine Zd7 ?_;unfold Zd6;rw[h1]
    | some w =>
     unfold Zd6;rw[h1]
     cases h2:numV (s.extract 5 s.size) 1 2 with
     | none=>rw[ZdE h2];rfl
     | some n=>rw[ZdD h2];rfl
theorem kindU3 (c d:Int):Zdt c d 3=(wsuK c).getD d:=by
 unfold Zdt Zdt Zdt Zdt wsuK
 rw[show ZcN wsuA (2+1)=117 by decide,show ZcN wsuA (1+1)=115 by decide,show ZcN wsuA (0+1)=119 by decide]
 split
 ·subst c;rfl
 ·split
  ·subst c;rfl
  ·split
   ·subst c;rfl
   ·rfl
theorem wsuK_dig {c k:Int}(h:wsuK c=some k):digB c=false∧1≤k∧k≤3∧c=ZcN wsuA k.toNat:=by
 unfold wsuK at h
 split at h
 ·subst c;cases h;decide
 ·split at h
  ·subst c;cases h;decide
  ·split at h
   ·subst c;cases h;decide
   ·cases h
theorem wsu_lit (k:Int) (h:1≤k∧k≤3):wsuK (ZcN wsuA k.toNat)=some k:=by
 obtain⟨h1,h2⟩:=h
 have:k=1∨k=2∨k=3:=by omega
 rcases this with rfl | rfl | rfl <;> decide
theorem Zj7 {x:UInt8} : ∀ {l z:Bs},cutC x l=[z]→l=z
 | [],z,h=>by simp[cutC] at h;exact h.symm
 | c::l,z,h=>by
  unfold cutC at h
  split at h
  ·simp only[List.cons.injEq] at h;exact absurd h.2 (Zk9 x l)
  ·split at h
   ·rename_i he;exact absurd he (Zk9 x l)
   ·rename_i y ys he
    simp only[List.cons.injEq] at h
    obtain⟨rfl,rfl⟩:=h
    rw[Zj7 he]
theorem Zh2 (x:UInt8) : ∀ {l:Bs}{ys:List Bs}{y:Bs},cutC x l=ys++[y] → ∃ p,l=p++y
 | [],ys,y,h=>by
  cases ys with
  | nil=>simp[cutC] at h;exact⟨[],by simp[h]⟩
  | cons a ys=>simp[cutC] at h
 | c::l,ys,y,h=>by
  unfold cutC at h
  split at h
  ·cases ys with
   | nil=>simp at h;exact absurd h.2 (Zk9 x l)
   | cons a ys =>
    simp only[List.cons_append,List.cons.injEq] at h
    obtain⟨p,hp⟩:=Zh2 x h.2
    exact⟨c::p,by rw[hp];rfl⟩
  ·split at h
   ·rename_i he;exact absurd he (Zk9 x l)
   ·rename_i z zs he
    cases ys with
    | nil =>
     simp only[List.nil_append,List.cons.injEq] at h
     obtain⟨rfl,rfl⟩:=h
     obtain⟨p,hp⟩:=Zh2 x (ys:=[]) (y:=z) (by rw[he];rfl)
     have h0:=Zj7 he
     exact⟨[],by rw[←h0];rfl⟩
    | cons a ys =>
     simp only[List.cons_append,List.cons.injEq] at h
     obtain⟨p,hp⟩:=Zh2 x (l:=l) (ys:=z::ys) (y:=y) (by rw[he,h.2];rfl)
     exact⟨c::p,by rw[hp];rfl⟩
theorem ZmB : ∀ {y:Bs}(hy:y≠[]),y.drop (y.length-1)=[y.getLast hy]
 | [c],_=>rfl
 | c::d::l,_=>by have:=ZmB (y:=d::l) (by simp);simpa using this
theorem ZsW {s:ByteArray}{p y:Bs}(h:aB s=p++y) (hy:y≠[]) : ∃ c∈y,ZcL s=(c.toNat:Int):=by
 refine⟨y.getLast hy,List.getLast_mem hy,?_⟩
 have hl:s.size=p.length+y.length:=by rw[←Zeg,h,List.length_append]
 have hp:0<y.length:=List.length_pos_iff.2 hy
 have h0:s.size-1<s.size:=by omega
 have e1:(aB s).drop (s.size-1)=ZaH s (s.size-1)::(aB s).drop (s.size-1+1):=Zfb h0
 have e2:(aB s).drop (s.size-1)=[y.getLast hy]:=by
  rw[h,show s.size-1=p.length+(y.length-1) by omega,List.drop_append,List.drop_of_length_le om,List.nil_append,Nat.add_sub_cancel_left]
  exact ZmB hy
 rw[e2] at e1
 simp only[List.cons.injEq] at e1
 unfold ZcL ZcN
 rw[e1.1]
theorem Zmh {s:ByteArray}{a b n:Int}(h:numV s a b=some n):wi s.size a b=true∧allB digB s=true∧n=decL 0 (aB s):=by
 unfold numV at h
 split at h
 ·rename_i hc;cases h;exact⟨hc.1,hc.2,rfl⟩
 ·cases h
theorem Zr7 {s:ByteArray}{n:Int}(h:sixV s=some n):s.size=2∧allB digB s=true∧n=decL 0 (aB s)∧n≤59:=by
 unfold sixV at h
 split at h
 ·rename_i m hm
  obtain⟨h1,h2,h3⟩:=Zmh hm
  split at h
  ·cases h
  ·cases h
   unfold wi at h1
   simp at h1
   exact⟨by omega,h2,h3,by omega⟩
 ·cases h
theorem Zli {p:Int→Bool}{l:Bs}(h:allB p (bA l)=true) {c:UInt8}(hc:c∈l):p c.toNat=true:=by
 unfold allB at h
 rw[List.all_eq_true] at h
 exact h c (by simpa [bA] using hc)
theorem ZlV {s:ByteArray}{n:Int}(h:ZfO s=some n):s.size≠0∧digB (ZcL s)=true:=by
 have key : ∀ {ys:List Bs} {y:Bs} {m:Int},cutC 58 (aB s)=ys++[y]→sixV (bA y)=some m→s.size≠0∧digB (ZcL s)=true:=by
  intro ys y m h1 h2
  obtain⟨p,hp⟩:=Zh2 58 h1
  obtain⟨z1,z2,_⟩:=Zr7 h2
  rw[Zdo] at z1
  obtain⟨c,hc,e⟩:=ZsW hp (by rintro rfl;simp at z1)
  refine⟨fun e0=>?_,by rw[e];exact Zli z2 hc⟩
  have:=congrArg List.length hp
  rw[Zeg,List.length_append] at this;omega
 unfold ZfO at h
 split at h
 ·rename_i e;subst e;decide
 ·split at h
  ·rename_i a b hc
   split at h
   ·rename_i x y h1 h2;exact key (ys:=[a]) hc h2
   ·cases h
  ·rename_i a b c hc
   split at h
   ·rename_i x y z h1 h2 h3;exact key (ys:=[a,b]) hc h3
   ·cases h
  ·cases h
theorem agr_at {α:Type}{f:TS→α×TS}{o:Option α}(h:Agr f (ZcC o)) (l:List ByteArray):AgO o (f (l,false)) l:=by
 have:=(h l).2
 unfold ZcC at this
 unfold AgO
 cases o <;> exact this
theorem ZmL {d:Int}(hd:d=1∨d=2) (s:ByteArray):Agr (Zd2 d s) (ZcC (Zpz d s)):=by
 refine Agr.lift (fun t h=>?_) (fun l=>?_)
 ·unfold Zd2
  split
  ·exact Zcl h
  ·split
   ·exact Zcl h
   ·refine Zcl ?_
    split
    ·exact h
    ·rfl
 ·have hS:=agr_at (Zfs s) l
  have hX:=agr_at (Zfs (s.extract 0 (s.size-1))) l
  unfold Zd2 Zpz
  by_cases h0:s.size=0
  ·rw[if_pos h0,if_pos h0]
   cases h1:ZfO s with
   | none=>rw[h1] at hS;exact hS
   | some n=>exact absurd h0 (ZlV h1).1
  ·rw[if_neg h0,if_neg h0,kindU3]
   cases hk:wsuK (ZcL s) with
   | none =>
    simp only[Option.getD_none]
    cases h1:ZfO s with
    | none =>
     rw[h1] at hS
     by_cases hdg:digB (ZcL s)=true
     ·rw[if_pos hdg];exact hS
     ·rw[if_neg hdg]
      by_cases e:ZcL s=ZcN wsuA d.toNat
      ·exfalso
       have:=wsu_lit d om
       rw[←e,hk] at this;cases this
      ·rw[if_neg e]
       exact Zcl (t:=bad (l,false)) rfl
    | some n =>
     rw[h1] at hS
     rw[if_pos (ZlV h1).2]
     have hS':ZbE s (l,false)=(n,l,false):=hS
     rw[hS'];rfl
   | some k =>
    obtain⟨w1,w2,w3,w4⟩:=wsuK_dig hk
    simp only[Option.getD_some]
    rw[if_neg (by rw[w1];exact Bool.false_ne_true),if_pos w4]
    cases h1:ZfO (s.extract 0 (s.size-1)) with
    | none=>rw[h1] at hX;exact hX
    | some n =>
     rw[h1] at hX
     have hX':ZbE (s.extract 0 (s.size-1)) (l,false)=(n,l,false):=hX
     rw[hX'];rfl
theorem agr_to (f:Int) (s:ByteArray):Agr (tTo f s) (ZcC (toV f s)):=by
 unfold tTo toV
 split
 ·exact Agr.lift (fun t h=>h) (fun l=>rfl)
 ·split
  ·exact Agr.lift (fun t h=>h) (fun l=>rfl)
  ·exact Zlj s 4 4
theorem agr_name:Agr ZeV Zsk:=by
 refine (Agr.bind agr_next (k:=fun s t=>(s,if Zcv s=true then t else bad t)) fun s=>?_:Agr (Zb1 ZaR _) _)
 refine Agr.lift (fun t h=>by dsimp only;split;exact h;rfl) (fun l=>?_)
 cases Zcv s <;> rfl
theorem agr_month:Agr ZdF Zsl:=by
 refine (Agr.bind agr_next (k:=fun s t=>match idxL monL s 1 with
  | some n=>(n,t)
  | none=>(0,bad t)) fun s=>?_:Agr (Zb1 ZaR _) _)
 refine Agr.lift (fun t h=>by split;exact h;rfl) (fun l=>?_)
 cases idxL monL s 1 <;> rfl
theorem agr_letter:Agr Zdh (ZbS Zes fun s=>ZcC (ZnI s)):=by
 refine (Agr.bind agr_next (k:=fun s t=>(if s=bA [45] then ⟨#[]⟩ else s,if Ze2 s=true then t else bad t)) fun s=>?_:Agr (Zb1 ZaR _) _)
 refine Agr.lift (fun t h=>by dsimp only;generalize Ze2 s=b;cases b;rfl;exact h) (fun l=>?_)
 unfold ZnI
 cases Ze2 s <;> rfl
theorem agr_rule:Agr ZkH rRule:=by
 refine agr_name.bind fun nm=>?_
 refine (agr_next.bind fun s=>Zlj s 4 4).bind fun f=>?_
 refine (agr_next.bind fun s=>agr_to f s).bind fun t2=>?_
 refine agr_month.bind fun m=>?_
 refine (agr_next.bind fun s=>agr_form s).bind fun k=>?_
 refine (agr_next.bind fun s=>ZmL (.inl rfl) s).bind fun c=>?_
 refine (agr_next.bind fun s=>Zfs s).bind fun sv=>?_
 exact agr_letter.bind fun l=>Agr.ret _
theorem agr_shift:Agr Zgc (ZbS Zes fun s=>ZcC (Zr8 s)):=by
 refine (Agr.bind agr_next (k:=fun s t=>if s.size≠0∧ZhJ s=45 then (-(ZbE (s.extract 1 s.size) t).1,(ZbE (s.extract 1 s.size) t).2) else ZbE s t) fun s=>?_:Agr (Zb1 ZaR _) _)
 unfold Zr8
 split
 ·refine Agr.lift (fun t h=>Zcl h) (fun l=>?_)
  have hS:=(Zfs (s.extract 1 s.size) l).2
  unfold ZcC at hS
  cases h1:ZfO (s.extract 1 s.size) with
  | none=>simp only[h1] at hS ⊢;exact hS
  | some n=>simp only[h1] at hS ⊢;rw[hS];rfl
 ·exact Zfs s
theorem ZsA:Zcv (bA [48])=false:=by decide
theorem ZtK (s:ByteArray):Agr (Zd1 s) (ZcC (Zsd s)):=by
 unfold Zd1 Zsd
 split
 ·exact Agr.lift (fun t h=>h) (fun l=>rfl)
 ·split
  ·rename_i hm hd
   by_cases h0:s=bA [48]
   ·rw[if_neg (by rintro⟨_,_,h⟩;exact h h0),if_neg (by rw[h0,ZsA];simp)]
    refine Agr.lift (fun t h=>Zcl (by rw[if_pos h0])) (fun l=>?_)
    exact Zcl (by rw[if_pos h0])
   ·rw[if_pos ⟨hd.1,hd.2,h0⟩]
    simp only[if_neg h0]
    refine Agr.lift (fun t h=>Zcl h) (fun l=>?_)
    have hS:=(Zfs s l).2
    unfold ZcC at hS
    cases h1:ZfO s with
    | none=>simp only[h1] at hS ⊢;exact hS
    | some n=>simp only[h1] at hS ⊢;rw[hS];rfl
  ·rename_i hm hd
   rw[if_neg (by rintro⟨h1,h2,_⟩;exact hd ⟨h1,h2⟩)]
   refine Agr.lift (fun t h=>by dsimp only;split;exact h;rfl) (fun l=>?_)
   cases Zcv s <;> rfl
theorem agr_format:Agr Zii (ZbS Zes fun s=>ZcC (if ZbO s=true then some s else none)):=by
 refine (Agr.bind agr_next (k:=fun s t=>(s,if ZbO s=true then t else bad t)) fun s=>?_:Agr (Zb1 ZaR _) _)
 refine Agr.lift (fun t h=>by dsimp only;split;exact h;rfl) (fun l=>?_)
 cases ZbO s <;> rfl
theorem ZtJ:Agr Zhu Zsj:=by
 refine (agr_next.bind fun s=>Zlj s 4 4).bind fun y=>?_
 refine agr_month.bind fun m=>?_
 refine (agr_next.bind fun s=>Zlj s 1 2).bind fun d=>?_
 refine (agr_next.bind fun s=>ZmL (.inr rfl) s).bind fun c=>?_
 refine Agr.bind (Agr.lift (fun t h=>?_) (fun l=>?_)) fun _=>Agr.ret _
 ·unfold ZrR;dsimp only;split <;> simp_all
 ·unfold ZrR;by_cases h:c.2=1 <;> simp[h] <;> rfl
theorem agr_end:Agr tEnd rEnd:=by
 intro l
 have hU:=ZtJ l
 unfold tEnd rEnd
 by_cases h0:l=[]
 ·subst h0;exact⟨rfl,rfl⟩
 ·simp only[if_neg h0]
  refine⟨hU.1,?_⟩
  revert hU
  cases Zsj l with
  | none=>exact fun hU=>hU.2
  | some p=>intro hU;have h2:=hU.2;simp only at h2 ⊢;rw[h2]
theorem agr_era:Agr tEra rEra:=by
 refine agr_shift.bind fun sh=>?_
 refine (agr_next.bind fun s=>ZtK s).bind fun r=>?_
 refine agr_format.bind fun f=>?_
 exact agr_end.bind fun u=>Agr.ret _
end Go.Proofs.YtlekejpogddndaaGreatDoor
end
section
namespace Go.Proofs.YtlekejpogddndaaGreatDoor
open Go.Ab
def refN (n:Int):Bool:=letB n||digB n||decide (n=95)||decide (n=45)||decide (n=47)||decide (n=43)
theorem ZsB (c:UInt8):Zmk c.toNat=refN c.toNat:=by
 have hc:((c.toNat:Int).toNat.toUInt8)=c:=by simp
 unfold Zmk refN
 rw[hc,←Lib.contains_iff_indexByte]
 have e : ∀ x:UInt8,decide ((c.toNat:Int)=(x.toNat:Int))=(c==x):=by
  intro x
  rw[Bool.eq_iff_iff,decide_eq_true_iff,beq_iff_eq]
  exact⟨fun h=>UInt8.toNat_inj.1 om,fun h=>by rw[h]⟩
 rw[show (95:Int)=((95:UInt8).toNat:Int) from rfl,show (45:Int)=((45:UInt8).toNat:Int) from rfl,show (47:Int)=((47:UInt8).toNat:Int) from rfl,show (43:Int)=((43:UInt8).toNat:Int) from rfl,e,e,e,e]
 simp[List.contains_cons,Bool.or_assoc] <;> rfl
def fmtL:Nat→Bool→Bs→Bool
 | m,_,[]=>decide (m≤1)
 | m,b,c::l=>if c=47 then !b&&!l.isEmpty&&fmtL (m+1) false l else if c=37 then decide (l.head?=some 115)&&fmtL (m+1) false l else Zbk c.toNat&&fmtL m false l
abbrev plL (l:Bs):Bool:=allB Zbk (bA l)
theorem Zny:plL []=true:=rfl
theorem Zgl (c:UInt8) (l:Bs):plL (c::l)=(Zbk c.toNat&&plL l):=by simp[plL,allB,bA]
theorem pl47:Zbk (47:UInt8).toNat=false:=by decide
theorem pl37:Zbk (37:UInt8).toNat=false:=by decide
theorem pl115:Zbk (115:UInt8).toNat=true:=by decide
theorem pl115':Zbk 115=true:=by decide
theorem ZnQ : ∀ (l:Bs) (m:Nat) (b:Bool),2≤m→fmtL m b l=false
 | [],m,b,h=>by unfold fmtL;simp;omega
 | c::l,m,b,h=>by
  unfold fmtL
  rw[ZnQ l (m+1) false om,ZnQ l m false h]
  simp
theorem Zk2 : ∀ (l:Bs),fmtL 1 false l=plL l
 | []=>rfl
 | c::l=>by
  unfold fmtL
  rw[ZnQ l (1+1) false om,Zk2 l,Zgl]
  split
  ·rename_i h;subst h;rw[pl47];simp
  ·split
   ·rename_i h;subst h;rw[pl37];simp
   ·rfl
theorem plL_no {c:UInt8}{l:Bs}(h:Zbk c.toNat=false) (hc:c∈l):plL l=false:=by
 cases hp:plL l
 ·rfl
 ·rw[Zli hp hc] at h;cases h
def cutP (l:Bs):Bool:=plL (Lib.cut l [37,115]).1&&plL (Lib.cut l [37,115]).2.1
theorem Zn4 (l:Bs):cutP l=if 0≤Lib.index l [37,115] then plL (l.take (Lib.index l [37,115]).toNat)&&plL (l.drop ((Lib.index l [37,115]).toNat+2)) else plL l:=by
 unfold cutP Lib.cut
 split <;> simp[Zny]
theorem Zqg {c:UInt8}{l sub:Bs}(h:sub.isPrefixOf (c::l)=false):Lib.index (c::l) sub=if Lib.index l sub = -1 then -1 else Lib.index l sub+1:=by
 rw[Lib.index,h];simp
theorem ZmF {c:UInt8}{l:Bs}(h:[37,115].isPrefixOf (c::l)=false):cutP (c::l)=(Zbk c.toNat&&cutP l):=by
 have hge:=Lib.index_ge l [37,115]
 rw[Zn4,Zn4,Zqg h]
 by_cases e:Lib.index l [37,115] = -1
 ·rw[e];simp[Zgl]
 ·obtain⟨k,hk⟩ : ∃ k:Nat,Lib.index l [37,115]=k:=⟨(Lib.index l [37,115]).toNat,by omega⟩
  rw[hk]
  rw[if_neg (show ¬(k:Int) = -1 by omega),if_pos om,if_pos om]
  rw[show ((k:Int)+1).toNat=k+1 by omega,show ((k:Int)).toNat=k by omega]
  rw[List.take_succ_cons,Zgl,show k+1+2=(k+2)+1 by omega,List.drop_succ_cons,Bool.and_assoc]
theorem Zs5 : ∀ (l:Bs) (b:Bool),47 ∉ l→fmtL 0 b l=cutP l
 | [],b,h=>rfl
 | c::l,b,h=>by
  have hc:c≠47:=fun e=>h (by simp[e])
  have hl:47 ∉ l:=fun e=>h (by simp[e])
  unfold fmtL
  rw[if_neg hc]
  by_cases hp:c=37
  ·subst hp
   rw[if_pos rfl]
   cases l with
   | nil=>decide
   | cons d l =>
    by_cases hd:d=115
    ·subst hd
     rw[Zk2,Zn4]
     have e:Lib.index (37::115::l) [37,115]=0:=by unfold Lib.index;simp[List.isPrefixOf]
     rw[e]
     simp[Zny,Zgl,pl115,pl115']
    ·rw[ZmF (by simp[List.isPrefixOf];exact fun e=>hd e.symm),pl37]
     simp[hd]
  ·rw[if_neg hp,ZmF (by simp[List.isPrefixOf];intro e;exact absurd e.symm hp),Zs5 l false hl]
theorem Zmw : ∀ (l:Bs) (b:Bool),47∈l → ∃ k:Nat,Lib.index l [47]=k∧fmtL 0 b l=(!(b&&decide (k=0))&&!(l.drop (k+1)).isEmpty&&plL (l.take k)&&plL (l.drop (k+1)))
 | [],b,h=>by cases h
 | c::l,b,h=>by
  by_cases hc:c=47
  ·subst hc
   refine⟨0,by unfold Lib.index;simp[List.isPrefixOf],?_⟩
   unfold fmtL
   rw[if_pos rfl,Zk2]
   simp[Zny]
  ·have hl:47∈l:=by
    rcases List.mem_cons.1 h with e | e
    ·exact absurd e.symm hc
    ·exact e
   obtain⟨k,hk,hf⟩:=Zmw l false hl
   refine⟨k+1,?_,?_⟩
   ·unfold Lib.index
    rw[hk]
    rw[if_neg (by simp[List.isPrefixOf];exact fun e=>hc e.symm),if_neg (by simp)]
    push_cast;rfl
   ·unfold fmtL
    rw[if_neg hc,List.take_succ_cons,List.drop_succ_cons,Zgl]
    by_cases hp:c=37
    ·subst hp
     rw[if_pos rfl,Zk2,plL_no pl47 hl,pl37]
     simp
    ·rw[if_neg hp,hf]
     simp only[Bool.false_and,Bool.not_false,Bool.true_and]
     cases Zbk c.toNat <;> simp
theorem ZjX (l:Bs):(!l.isEmpty)=decide (bA l≠⟨#[]⟩):=by
 cases l with
 | nil=>rfl
 | cons c l =>
  have:bA (c::l)≠⟨#[]⟩:=fun e=>by
   have:=congrArg ByteArray.size e
   rw[Zdo] at this;cases this
  simp[this]
theorem ZnP (s:ByteArray):ZbO s=(decide (s.size≠0)&&decide (s.size≤24)&&fmtL 0 true (aB s)):=by
 unfold ZbO
 by_cases hs:s.size=0∨24<s.size
 ·rw[if_pos hs]
  rcases hs with h | h
  ·simp[h]
  ·simp[show ¬s.size≤24 by omega]
 ·rw[if_neg hs]
  have h1:s.size≠0:=fun e=>hs (.inl e)
  have h2:s.size≤24:=by omega
  simp only[h1,h2,ne_eq,not_false_eq_true,decide_true,Bool.true_and]
  by_cases hm:(47:UInt8)∈aB s
  ·obtain⟨k,hk,hf⟩:=Zmw (aB s) true hm
   have hcut:cutL s [47]=((aB s).take k,(aB s).drop (k+1),true):=by
    unfold cutL Lib.cut
    rw[hk,if_pos om]
    simp
   rw[hcut,hf,if_pos rfl]
   simp only
   rw[ZjX]
   have e:decide (bA ((aB s).take k)≠⟨#[]⟩)=!(true&&decide (k=0)):=by
    rw[←ZjX]
    cases k with
    | zero=>rfl
    | succ k =>
     have:0<(aB s).length:=by rw[Zeg];omega
     cases hq:aB s with
     | nil=>rw[hq] at this;cases this
     | cons c l=>simp
   rw[e]
  ·have hi:Lib.index (aB s) [47] = -1:=by
    have hge:=Lib.index_ge (aB s) [47]
    by_cases e:Lib.index (aB s) [47] = -1
    ·exact e
    ·obtain⟨k,hk⟩ : ∃ k:Nat,Lib.index (aB s) [47]=k:=⟨(Lib.index (aB s) [47]).toNat,by omega⟩
     obtain⟨_,hk1,hk2⟩:=Zgt hk
     exact absurd (List.mem_of_getElem? hk2) hm
   have hcut:(cutL s [47]).2.2=false:=by
    unfold cutL Lib.cut
    rw[hi];rfl
   rw[if_neg (by rw[hcut];simp),Zs5 _ _ hm]
   rfl
end Go.Proofs.YtlekejpogddndaaGreatDoor
end
section
namespace Go.Proofs.YtlekejpogddndaaGreatDoor
open Go.Ab Go.RowKit Civ
def c190:AC:=(Sr [Mb 2 false] (Sr [Mv 3 0,Oo 4 (.cvi .i64 (.tmp 3)),Cl 5 73 [(.tmp 4),(Ci 97),(Ci 122)],Mv 6 5,Of 7 6 (mt 0),Of 8 6 (.cvi .i64 (.tmp 7)),Of 9 6 (.call (.func 73) [(.tmp 8),(Ci 65),(Ci 90)]),Oo 10 (.pick (.tmp 6) (.const (.bool true)) (.tmp 9)),Mv 2 10] .ret))
theorem k190:ZaA Tryz.prog 190=some ⟨c190,[(.tmp 2)],11⟩:=by kernel_rfl
def c191:AC:=(Sr [Mb 2 false] (Sr [Mv 3 0,Oo 4 (.cvi .i64 (.tmp 3)),Cl 5 73 [(.tmp 4),(Ci 48),(Ci 57)],Mv 2 5] .ret))
theorem k191:ZaA Tryz.prog 191=some ⟨c191,[(.tmp 2)],6⟩:=by kernel_rfl
def c115:AC:=(Sr [Mb 2 false] (.seq (Sr [Mv 5 0,Oo 6 (.bin .eql (.tmp 5) (.const (.string ⟨#[]⟩))),Mv 7 6,Of 8 7 (mt 0),Of 9 7 (.len true (.tmp 8)),Of 10 7 (.bin .gtr (.tmp 9) (Ci 24)),Oo 11 (.pick (.tmp 7) (.const (.bool true)) (.tmp 10)),Mv 12 11,Of 13 12 (mt 0),Of 14 12 (.ix (.tmp 13) (Ci 0)),Of 15 12 (.call (.func 190) [(.tmp 14)]),Of 16 12 (.un .not (.tmp 15)),Oo 17 (.pick (.tmp 12) (.const (.bool true)) (.tmp 16))] (Cd 17 (Sr [Mb 2 false] .ret) .skip)) (.seq (Sr [Mc 3 0] (.block 0 (.loop (.seq (Sr [Mv 18 3,Mv 19 0,Oo 20 (.len true (.tmp 19)),Bn 21 .lss 18 20] (Cd 21 .skip (.exit 0))) (.seq (.block 1 (Sr [Mv 24 0,Mv 25 3,Oo 26 (.ix (.tmp 24) (.tmp 25)),Mv 4 26] (Sr [Mv 27 4,Cl 28 190 [(.tmp 27)],Oo 29 (.un .not (.tmp 28)),Mv 30 29,Ot 31 30 (mt 4),Ot 32 30 (.call (.func 191) [(.tmp 31)]),Ot 33 30 (.un .not (.tmp 32)),Oo 34 (.pick (.tmp 30) (.tmp 33) (.const (.bool false))),Mv 35 34,Ot 36 35 (mt 4),Ot 37 35 (.bin .neq (.tmp 36) (.const (.int .u8 95))),Oo 38 (.pick (.tmp 35) (.tmp 37) (.const (.bool false))),Mv 39 38,Ot 40 39 (mt 4),Ot 41 39 (.bin .neq (.tmp 40) (.const (.int .u8 45))),Oo 42 (.pick (.tmp 39) (.tmp 41) (.const (.bool false))),Mv 43 42,Ot 44 43 (mt 4),Ot 45 43 (.bin .neq (.tmp 44) (.const (.int .u8 47))),Oo 46 (.pick (.tmp 43) (.tmp 45) (.const (.bool false))),Mv 47 46,Ot 48 47 (mt 4),Ot 49 47 (.bin .neq (.tmp 48) (.const (.int .u8 43))),Oo 50 (.pick (.tmp 47) (.tmp 49) (.const (.bool false)))] (Cd 50 (Sr [Mb 2 false] .ret) .skip)))) (.reg [Mv 22 3,Bc 23 .add 22 1,Mv 3 23])))))) (Sr [Mb 2 true] .ret))))
theorem k115:ZaA Tryz.prog 115=some ⟨c115,[(.tmp 2)],51⟩:=by kernel_rfl
def c224:AC:=(Sr [Mb 2 false] (.seq (Sr [Mc 3 0] (.block 0 (.loop (.seq (Sr [Mv 4 3,Mv 5 0,Oo 6 (.len true (.tmp 5)),Bn 7 .lss 4 6] (Cd 7 .skip (.exit 0))) (.seq (.block 1 (Sr [Mv 10 0,Mv 11 3,Oo 12 (.ix (.tmp 10) (.tmp 11)),Cl 13 190 [(.tmp 12)],Oo 14 (.un .not (.tmp 13))] (Cd 14 (Sr [Mb 2 false] .ret) .skip))) (.reg [Mv 8 3,Bc 9 .add 8 1,Mv 3 9])))))) (Sr [Mv 15 0,Oo 16 (.len true (.tmp 15)),Bc 17 .leq 16 24,Mv 2 17] .ret)))
theorem k224:ZaA Tryz.prog 224=some ⟨c224,[(.tmp 2)],18⟩:=by kernel_rfl
def c148:AC:=(Sr [Mb 2 false] (.seq (Sr [Mc 3 0] (.block 0 (.loop (.seq (Sr [Mv 4 3,Mv 5 0,Oo 6 (.len true (.tmp 5)),Bn 7 .lss 4 6] (Cd 7 .skip (.exit 0))) (.seq (.block 1 (Sr [Mv 10 0,Mv 11 3,Oo 12 (.ix (.tmp 10) (.tmp 11)),Cl 13 190 [(.tmp 12)],Oo 14 (.un .not (.tmp 13)),Mv 15 14,Ot 16 15 (mt 0),Ot 17 15 (mt 3),Ot 18 15 (.ix (.tmp 16) (.tmp 17)),Ot 19 15 (.call (.func 191) [(.tmp 18)]),Ot 20 15 (.un .not (.tmp 19)),Oo 21 (.pick (.tmp 15) (.tmp 20) (.const (.bool false))),Mv 22 21,Ot 23 22 (mt 0),Ot 24 22 (mt 3),Ot 25 22 (.ix (.tmp 23) (.tmp 24)),Ot 26 22 (.bin .neq (.tmp 25) (.const (.int .u8 43))),Oo 27 (.pick (.tmp 22) (.tmp 26) (.const (.bool false))),Mv 28 27,Ot 29 28 (mt 0),Ot 30 28 (mt 3),Ot 31 28 (.ix (.tmp 29) (.tmp 30)),Ot 32 28 (.bin .neq (.tmp 31) (.const (.int .u8 45))),Oo 33 (.pick (.tmp 28) (.tmp 32) (.const (.bool false)))] (Cd 33 (Sr [Mb 2 false] .ret) .skip))) (.reg [Mv 8 3,Bc 9 .add 8 1,Mv 3 9])))))) (Sr [Mb 2 true] .ret)))
theorem k148:ZaA Tryz.prog 148=some ⟨c148,[(.tmp 2)],34⟩:=by kernel_rfl
def c225:AC:=(Sr [Mb 2 false] (Sr [Mc 3 0] (.seq (Sr [Mc 4 0] (.block 0 (.loop (.seq (Sr [Mv 5 4,Mv 6 0,Oo 7 (.len true (.tmp 6)),Bn 8 .lss 5 7] (Cd 8 .skip (.exit 0))) (.seq (.block 1 (.block 2 (Sr [Mv 12 0,Mv 13 4,Oo 14 (.ix (.tmp 12) (.tmp 13)),Oo 15 (.bin .eql (.tmp 14) (.const (.int .u8 47))),Mv 11 15] (Cd 11 (Sr [Mv 16 3,Bc 17 .add 16 1,Mv 3 17] (Sr [Mv 18 4,Bc 19 .eql 18 0,Mv 20 19,Of 21 20 (mt 4),Of 22 20 (mt 0),Of 23 20 (.len true (.tmp 22)),Of 24 20 (.bin .sub (.tmp 23) (Ci 1)),Of 25 20 (.bin .eql (.tmp 21) (.tmp 24)),Oo 26 (.pick (.tmp 20) (.const (.bool true)) (.tmp 25))] (Cd 26 (Sr [Mb 2 false] .ret) .skip))) (Sr [Mv 28 0,Mv 29 4,Oo 30 (.ix (.tmp 28) (.tmp 29)),Oo 31 (.bin .eql (.tmp 30) (.const (.int .u8 37))),Mv 27 31] (Cd 27 (Sr [Mv 32 3,Bc 33 .add 32 1,Mv 3 33] (Sr [Mv 34 4,Mv 35 0,Oo 36 (.len true (.tmp 35)),Bc 37 .sub 36 1,Bn 38 .eql 34 37,Mv 39 38,Of 40 39 (mt 0),Of 41 39 (mt 4),Of 42 39 (.bin .add (.tmp 41) (Ci 1)),Of 43 39 (.ix (.tmp 40) (.tmp 42)),Of 44 39 (.bin .neq (.tmp 43) (.const (.int .u8 115))),Oo 45 (.pick (.tmp 39) (.const (.bool true)) (.tmp 44))] (Cd 45 (Sr [Mb 2 false] .ret) .skip))) (Sr [Mv 47 0,Mv 48 4,Mv 49 4,Bc 50 .add 49 1,Oo 51 (.sls (.tmp 47) (some (.tmp 48)) (some (.tmp 50))),Cl 52 148 [(.tmp 51)],Oo 53 (.un .not (.tmp 52)),Mv 46 53] (Cd 46 (Sr [Mb 2 false] .ret) .skip)))))))) (.reg [Mv 9 4,Bc 10 .add 9 1,Mv 4 10])))))) (Sr [Mv 54 0,Oo 55 (.bin .neq (.tmp 54) (.const (.string ⟨#[]⟩))),Mv 56 55,Ot 57 56 (mt 0),Ot 58 56 (.len true (.tmp 57)),Ot 59 56 (.bin .leq (.tmp 58) (Ci 24)),Oo 60 (.pick (.tmp 56) (.tmp 59) (.const (.bool false))),Mv 61 60,Ot 62 61 (mt 3),Ot 63 61 (.bin .leq (.tmp 62) (Ci 1)),Oo 64 (.pick (.tmp 61) (.tmp 63) (.const (.bool false))),Mv 2 64] .ret))))
theorem k225:ZaA Tryz.prog 225=some ⟨c225,[(.tmp 2)],65⟩:=by kernel_rfl
theorem Zeq {n:Int}{h:AH}(h0:0≤n) (h1:n≤255):Ac 190 [uv n] h (bv (letB n)):=by
 refine tI' k190 fun N hn hlt hlA hbd=>?_
 simp only[tb'] at hbd ⊢
 refine wr'<|mw<|sn'<|wr'<|mw<|?_
 refine V' (Zh5 lk om om) pt ?_
 refine Zad mp (ZaW) pt<|mw<|?_
 refine ZaG (t:=6) gt pt pt (fun hg6=>?_) (fun hg6=>?_)
 ·refine s_no gt pt<|s_no gt pt<|s_no gt pt<|Vw (Zag lk lkb)<|mw<|sn'<|Zaa<|Zae rz<|rT'<|?_
  refine bvx ?_;unfold wi at *;unfold letB;rw[Bool.eq_iff_iff];simp at *;omega
 refine s_do gt<|mw<|s_do gt<|?_
 refine V' (Zh5 lk om om) pt ?_
 refine s_do gt<|Zad mp (ZaW) pt<|Vw (Zaj lk lk)<|mw<|sn'<|Zaa<|Zae rz<|rT'<|?_
 refine bvx ?_;unfold wi at *;unfold letB;rw[Bool.eq_iff_iff];simp at *;omega
theorem Zea {n:Int}{h:AH}(h0:0≤n) (h1:n≤255):Ac 191 [uv n] h (bv (digB n)):=by
 refine tI' k191 fun N hn hlt hlA hbd=>?_
 simp only[tb'] at hbd ⊢
 refine wr'<|mw<|sn'<|wr'<|mw<|?_
 refine V' (Zh5 lk om om) pt ?_
 refine Zad mp (ZaW) pt<|mw<|sn'<|Zaa<|Zae rz<|rT'<|?_
 refine bvx ?_;unfold wi digB;rw[Bool.eq_iff_iff];simp
theorem Ze9 (s:ByteArray) (k:Nat):(0:Int)≤((ZaH s k).toNat:Int)∧((ZaH s k).toNat:Int)≤255:=by
 have:=(ZaH s k).toNat_lt
 omega
theorem Znr {s:ByteArray}{h:AH}(hs:s.size≤maxLen):Ac 148 [sv s] h (bv (allB Zbk s)):=by
 have hm:s.size≤9223372036854775807:=by simpa [maxLen] using hs
 refine tI' k148 fun N hn hlt hlA hbd=>?_
 simp only[tb'] at hbd ⊢
 refine wr'<|mw<|sn'<|Zam<|wr'<|mw<|sn'<|Zap<|?_
 refine w_lp (ι:=Nat) (fun (k:Nat)=>[(3,iv (k:Int)),(2,.any)]++rn' 4 30) (fun (k:Nat)=>[]) (fun (k:Nat)=>k≤s.size ∧ ∀ j (hj:j<s.size),j<k→Zbk s[j].toNat=true) (fun (k:Nat)=>s.size-k) (0) (by exact⟨by omega,fun j hj h0=>absurd h0 om⟩) ?_
 rintro k hi1
 try simp only[sm',Nat.reduceAdd]
 obtain⟨hk1,hk2⟩:=hi1
 refine Zam<|wr'<|mw<|mw<|Vw (Zbe lk)<|Vw (Zbb lk lk)<|sn'<|?_
 refine cd' lk (fun hc1=>?_) (fun hc1=>?_)
 ·have hk:k<s.size:=by omega
  have hb:=Ze9 s k
  have hbk:ZaH s k=s[k]:=Zc4 hk
  refine Zaf<|Zah<|Zam<|Zap<|wr'<|mw<|mw<|?_
  refine V' (v_ix lk lk om om) pt ?_
  refine Zad mp (Zeq hb.1 hb.2) pt<|Vw (Zax lk)<|mw<|?_
  refine ZaG (t:=15) gt pt pt (fun hg15=>?_) (fun hg15=>?_)
  ·refine s_do gt<|mw<|s_do gt<|mw<|s_do gt<|?_
   refine V' (v_ix lk lk om om) pt ?_
   refine s_do gt<|Zad mp (Zea hb.1 hb.2) pt<|s_do gt<|Vw (Zax lk)<|Vw (Zag lk lk)<|mw<|?_
   refine ZaG (t:=22) gt pt pt (fun hg22=>?_) (fun hg22=>?_)
   ·refine s_do gt<|mw<|s_do gt<|mw<|s_do gt<|?_
    refine V' (v_ix lk lk om om) pt ?_
    refine s_do gt<|Vw (ZaT lk lki)<|Vw (Zag lk lk)<|mw<|?_
    refine sp' (t:=28) gt pt pt (fun hg28=>?_) (fun hg28=>?_)
    ·refine s_do gt<|mw<|s_do gt<|mw<|s_do gt<|?_
     refine V' (v_ix lk lk om om) pt ?_
     refine s_do gt<|Vw (ZaT lk lki)<|Vw (Zag lk lk)<|sn'<|?_
     refine cd' lk (fun hc2=>?_) (fun hc2=>?_)
     ·refine wr'<|mw<|sn'<|Zaa<|Zaq<|Zai<|Zai<|Zaq<|Zai<|Zae rz<|rT'<|?_
      refine bvx ?_;rw[ZiY (k:=k) hk (by rw[←hbk];unfold Zbk;simp at *;simp_all)]
     refine Zaf<|Zaz<|Zah<|Zav<|mw<|?_
     refine V' (Zay lk lki om om) pt ?_
     refine mw<|Zas<|ZaB<|?_
     refine lT' (k+1) (by (try dsimp only);refine⟨by omega,fun j hj h0=>?_⟩;rcases Nat.lt_or_ge j k with e | e;exact hk2 j hj e;obtain rfl:j=k:=om;rw[←hbk];unfold Zbk;simp_all)
    refine s_no gt pt<|s_no gt pt<|s_no gt pt<|s_no gt pt<|Vw (Zaj lk lkb)<|sn'<|ZaM lk<|Zaf<|Zaz<|Zah<|Zav<|mw<|?_
    refine V' (Zay lk lki om om) pt ?_
    refine mw<|Zas<|ZaB<|?_
    refine lT' (k+1) (by (try dsimp only);refine⟨by omega,fun j hj h0=>?_⟩;rcases Nat.lt_or_ge j k with e | e;exact hk2 j hj e;obtain rfl:j=k:=om;rw[←hbk];unfold Zbk;simp_all)
   refine s_no gt pt<|s_no gt pt<|s_no gt pt<|s_no gt pt<|Vw (Zaj lk lkb)<|mw<|s_no gt pt<|s_no gt pt<|s_no gt pt<|s_no gt pt<|Vw (Zaj lk lkb)<|sn'<|ZaM lk<|?_
   refine Zaf<|Zaz<|Zah<|Zav<|mw<|?_
   refine V' (Zay lk lki om om) pt ?_
   refine mw<|Zas<|ZaB<|?_
   refine lT' (k+1) (by (try dsimp only);refine⟨by omega,fun j hj h0=>?_⟩;rcases Nat.lt_or_ge j k with e | e;exact hk2 j hj e;obtain rfl:j=k:=om;rw[←hbk];unfold Zbk;simp_all)
  refine s_no gt pt<|s_no gt pt<|s_no gt pt<|s_no gt pt<|s_no gt pt<|Vw (Zaj lk lkb)<|mw<|s_no gt pt<|s_no gt pt<|s_no gt pt<|s_no gt pt<|Vw (Zaj lk lkb)<|mw<|s_no gt pt<|?_
  refine s_no gt pt<|s_no gt pt<|s_no gt pt<|Vw (Zaj lk lkb)<|sn'<|ZaM lk<|Zaf<|Zaz<|Zah<|Zav<|mw<|?_
  refine V' (Zay lk lki om om) pt ?_
  refine mw<|Zas<|ZaB<|?_
  refine lT' (k+1) (by (try dsimp only);refine⟨by omega,fun j hj h0=>?_⟩;rcases Nat.lt_or_ge j k with e | e;exact hk2 j hj e;obtain rfl:j=k:=om;rw[←hbk];unfold Zbk;simp_all)
 refine ZaQ<|ZaD<|ZaD<|Zba<|Zah<|wr'<|mw<|sn'<|Zaa<|Zae rz<|rT'<|?_
 refine bvx ?_;rw[ZgF fun j hj=>hk2 j hj om]
theorem Zhx {s:ByteArray}{h:AH}(hs:s.size≤maxLen):Ac 224 [sv s] h (bv (Zco s)):=by
 have hm:s.size≤9223372036854775807:=by simpa [maxLen] using hs
 refine tI' k224 fun N hn hlt hlA hbd=>?_
 simp only[tb'] at hbd ⊢
 refine wr'<|mw<|sn'<|Zam<|wr'<|mw<|sn'<|Zap<|?_
 refine w_lp (ι:=Nat) (fun (k:Nat)=>[(3,iv (k:Int)),(2,.any)]++rn' 4 11) (fun (k:Nat)=>[]) (fun (k:Nat)=>k≤s.size ∧ ∀ j (hj:j<s.size),j<k→letB s[j].toNat=true) (fun (k:Nat)=>s.size-k) (0) (by exact⟨by omega,fun j hj h0=>absurd h0 om⟩) ?_
 rintro k hi1
 try simp only[sm',Nat.reduceAdd]
 obtain⟨hk1,hk2⟩:=hi1
 refine Zam<|wr'<|mw<|mw<|Vw (Zbe lk)<|Vw (Zbb lk lk)<|sn'<|?_
 refine cd' lk (fun hc1=>?_) (fun hc1=>?_)
 ·have hk:k<s.size:=by omega
  have hb:=Ze9 s k
  have hbk:ZaH s k=s[k]:=Zc4 hk
  refine Zaf<|Zah<|Zam<|Zap<|wr'<|mw<|mw<|?_
  refine V' (v_ix lk lk om om) pt ?_
  refine Zad mp (Zeq hb.1 hb.2) pt<|Vw (Zax lk)<|sn'<|?_
  refine Zaw lk (fun hc2=>?_) (fun hc2=>?_)
  ·refine wr'<|mw<|sn'<|Zaa<|Zaq<|Zai<|Zai<|Zaq<|Zai<|Zae rz<|rT'<|?_
   refine bvx ?_;unfold Zco;rw[ZiY (k:=k) hk (by rw[←hbk];simp_all)];simp
  refine Zaf<|Zaz<|Zah<|Zav<|mw<|?_
  refine V' (Zay lk lki om om) pt ?_
  refine mw<|Zas<|ZaB<|?_
  refine lT' (k+1) (by (try dsimp only);refine⟨by omega,fun j hj h0=>?_⟩;rcases Nat.lt_or_ge j k with e | e;exact hk2 j hj e;obtain rfl:j=k:=om;rw[←hbk];simp_all)
 refine ZaQ<|ZaD<|ZaD<|Zba<|Zah<|wr'<|mw<|Vw (Zbe lk)<|Vw (Zdq lk lki)<|mw<|sn'<|Zaa<|?_
 refine Zae rz<|rT'<|?_
 refine bvx ?_;unfold Zco;rw[ZgF fun j hj=>hk2 j hj om];rw[Bool.eq_iff_iff];simp;omega
theorem Zdc {s:ByteArray}{h:AH}(hs:s.size≤maxLen):Ac 115 [sv s] h (bv (Zcv s)):=by
 have hm:s.size≤9223372036854775807:=by simpa [maxLen] using hs
 have hem:=ZeA (f:=s)
 have hb0:=Ze9 s 0
 refine tI' k115 fun N hn hlt hlA hbd=>?_
 simp only[tb'] at hbd ⊢
 refine wr'<|mw<|sn'<|Zam<|wr'<|mw<|Vw (ZcF lk lks)<|mw<|?_
 refine sp' (t:=7) gt pt pt (fun hg7=>?_) (fun hg7=>?_)
 ·refine s_no gt pt<|s_no gt pt<|s_no gt pt<|Vw (Zag lk lkb)<|mw<|s_no gt pt<|s_no gt pt<|s_no gt pt<|s_no gt pt<|Vw (Zag lk lkb)<|sn'<|ZaC lk<|Zam<|?_
  refine Zav<|mw<|sn'<|Zaa<|Zai<|Zae rz<|rT'<|?_
  refine bvx ?_;unfold Zcv;simp[hem.1 hg7]
 have hne:s.size≠0:=fun e=>hg7 (hem.2 e)
 refine s_do gt<|mw<|s_do gt<|Vw (Zbe lk)<|s_do gt<|Vw (ZbD lk lki)<|Vw (Zaj lk lk)<|mw<|?_
 refine sp' (t:=12) gt pt pt (fun hg12=>?_) (fun hg12=>?_)
 ·refine s_no gt pt<|s_no gt pt<|s_no gt pt<|s_no gt pt<|Vw (Zag lk lkb)<|sn'<|ZaC lk<|wr'<|mw<|sn'<|Zaa<|?_
  refine Zai<|Zae rz<|rT'<|?_
  refine bvx ?_;unfold Zcv;simp;omega
 refine s_do gt<|mw<|s_do gt<|?_
 refine V' (v_ix lk lki om om) pt ?_
 refine s_do gt<|Zad mp (Zeq hb0.1 hb0.2) pt<|s_do gt<|Vw (Zax lk)<|Vw (Zaj lk lk)<|sn'<|?_
 refine Zaw lk (fun hc1=>?_) (fun hc1=>?_)
 ·refine wr'<|mw<|sn'<|Zaa<|Zai<|Zae rz<|rT'<|?_
  refine bvx ?_;unfold Zcv;simp_all
 have hz:s.size≤24:=by omega
 have hL:letB (ZaH s 0).toNat=true:=by simpa using hc1
 refine Zaf<|Zah<|Zam<|wr'<|mw<|sn'<|Zap<|?_
 refine w_lp (ι:=Nat) (fun (k:Nat)=>[(3,iv (k:Int)),(2,.any),(4,.any)]++rn' 18 33) (fun (k:Nat)=>[]) (fun (k:Nat)=>k≤s.size ∧ ∀ j (hj:j<s.size),j<k→Zmk s[j].toNat=true) (fun (k:Nat)=>s.size-k) (0) (by exact⟨by omega,fun j hj h0=>absurd h0 om⟩) ?_
 rintro k hi1
 try simp only[sm',Nat.reduceAdd]
 obtain⟨hk1,hk2⟩:=hi1
 refine Zam<|wr'<|mw<|mw<|Vw (Zbe lk)<|Vw (Zbb lk lk)<|sn'<|?_
 refine cd' lk (fun hc2=>?_) (fun hc2=>?_)
 ·have hk:k<s.size:=by omega
  have hb:=Ze9 s k
  have hbk:ZaH s k=s[k]:=Zc4 hk
  have hR:=ZsB (ZaH s k)
  refine Zaf<|Zah<|Zam<|Zap<|wr'<|mw<|mw<|?_
  refine V' (v_ix lk lk om om) pt ?_
  refine mw<|sn'<|wr'<|mw<|Zad mp (Zeq hb.1 hb.2) pt<|Vw (Zax lk)<|mw<|?_
  refine ZaG (t:=30) gt pt pt (fun hg30=>?_) (fun hg30=>?_)
  ·refine s_do gt<|mw<|s_do gt<|Zad mp (Zea hb.1 hb.2) pt<|s_do gt<|Vw (Zax lk)<|Vw (Zag lk lk)<|mw<|?_
   refine ZaG (t:=35) gt pt pt (fun hg35=>?_) (fun hg35=>?_)
   ·refine s_do gt<|mw<|s_do gt<|Vw (ZaT lk lki)<|Vw (Zag lk lk)<|mw<|?_
    refine sp' (t:=39) gt pt pt (fun hg39=>?_) (fun hg39=>?_)
    ·refine s_do gt<|mw<|s_do gt<|Vw (ZaT lk lki)<|Vw (Zag lk lk)<|mw<|?_
     refine sp' (t:=43) gt pt pt (fun hg43=>?_) (fun hg43=>?_)
     ·refine s_do gt<|mw<|s_do gt<|Vw (ZaT lk lki)<|Vw (Zag lk lk)<|mw<|?_
      refine sp' (t:=47) gt pt pt (fun hg47=>?_) (fun hg47=>?_)
      ·refine s_do gt<|mw<|s_do gt<|Vw (ZaT lk lki)<|Vw (Zag lk lk)<|sn'<|?_
       refine cd' lk (fun hc3=>?_) (fun hc3=>?_)
       ·refine wr'<|mw<|sn'<|Zaa<|Zaq<|Zai<|Zai<|Zaq<|Zai<|Zae rz<|rT'<|?_
        refine bvx ?_;unfold Zcv;rw[ZiY (k:=k) hk (by rw[←hbk,hR];unfold refN;simp_all)];simp
       refine Zaf<|Zaz<|Zah<|Zav<|mw<|?_
       refine V' (Zay lk lki om om) pt ?_
       refine mw<|Zas<|ZaB<|?_
       refine lT' (k+1) (by (try dsimp only);refine⟨by omega,fun j hj h0=>?_⟩;rcases Nat.lt_or_ge j k with e | e;exact hk2 j hj e;obtain rfl:j=k:=om;rw[←hbk,hR];unfold refN;simp_all)
      refine s_no gt pt<|s_no gt pt<|Vw (Zaj lk lkb)<|sn'<|ZaM lk<|Zaf<|Zaz<|Zah<|Zav<|mw<|?_
      refine V' (Zay lk lki om om) pt ?_
      refine mw<|Zas<|ZaB<|?_
      refine lT' (k+1) (by (try dsimp only);refine⟨by omega,fun j hj h0=>?_⟩;rcases Nat.lt_or_ge j k with e | e;exact hk2 j hj e;obtain rfl:j=k:=om;rw[←hbk,hR];unfold refN;simp_all)
     refine s_no gt pt<|s_no gt pt<|Vw (Zaj lk lkb)<|mw<|s_no gt pt<|s_no gt pt<|Vw (Zaj lk lkb)<|sn'<|ZaM lk<|Zaf<|Zaz<|Zah<|Zav<|?_
     refine mv' lk pt ?_
     refine V' (Zay lk lki om om) pt ?_
     refine mw<|Zas<|ZaB<|?_
     refine lT' (k+1) (by (try dsimp only);refine⟨by omega,fun j hj h0=>?_⟩;rcases Nat.lt_or_ge j k with e | e;exact hk2 j hj e;obtain rfl:j=k:=om;rw[←hbk,hR];unfold refN;simp_all)
    refine s_no gt pt<|s_no gt pt<|Vw (Zaj lk lkb)<|mw<|s_no gt pt<|s_no gt pt<|Vw (Zaj lk lkb)<|mw<|s_no gt pt<|s_no gt pt<|Vw (Zaj lk lkb)<|sn'<|ZaM lk<|?_
    refine Zaf<|Zaz<|Zah<|Zav<|mw<|?_
    refine V' (Zay lk lki om om) pt ?_
    refine mw<|Zas<|ZaB<|?_
    refine lT' (k+1) (by (try dsimp only);refine⟨by omega,fun j hj h0=>?_⟩;rcases Nat.lt_or_ge j k with e | e;exact hk2 j hj e;obtain rfl:j=k:=om;rw[←hbk,hR];unfold refN;simp_all)
   refine s_no gt pt<|s_no gt pt<|Vw (Zaj lk lkb)<|mw<|s_no gt pt<|s_no gt pt<|Vw (Zaj lk lkb)<|mw<|s_no gt pt<|s_no gt pt<|Vw (Zaj lk lkb)<|mw<|s_no gt pt<|s_no gt pt<|?_
   refine Vw (Zaj lk lkb)<|sn'<|ZaM lk<|Zaf<|Zaz<|Zah<|Zav<|mw<|?_
   refine V' (Zay lk lki om om) pt ?_
   refine mw<|Zas<|ZaB<|?_
   refine lT' (k+1) (by (try dsimp only);refine⟨by omega,fun j hj h0=>?_⟩;rcases Nat.lt_or_ge j k with e | e;exact hk2 j hj e;obtain rfl:j=k:=om;rw[←hbk,hR];unfold refN;simp_all)
  refine s_no gt pt<|s_no gt pt<|s_no gt pt<|Vw (Zaj lk lkb)<|mw<|s_no gt pt<|s_no gt pt<|Vw (Zaj lk lkb)<|mw<|s_no gt pt<|s_no gt pt<|Vw (Zaj lk lkb)<|mw<|s_no gt pt<|?_
  refine s_no gt pt<|Vw (Zaj lk lkb)<|mw<|s_no gt pt<|s_no gt pt<|Vw (Zaj lk lkb)<|sn'<|ZaM lk<|Zaf<|Zaz<|Zah<|Zav<|mw<|?_
  refine V' (Zay lk lki om om) pt ?_
  refine mw<|Zas<|ZaB<|?_
  refine lT' (k+1) (by (try dsimp only);refine⟨by omega,fun j hj h0=>?_⟩;rcases Nat.lt_or_ge j k with e | e;exact hk2 j hj e;obtain rfl:j=k:=om;rw[←hbk,hR];unfold refN;simp_all)
 refine ZaQ<|ZaD<|ZaD<|Zba<|Zah<|wr'<|mw<|sn'<|Zaa<|Zae rz<|rT'<|?_
 refine bvx ?_;unfold Zcv;rw[ZgF fun j hj=>hk2 j hj om,hL];simp[hne,hz]
theorem ZfQ {s:ByteArray}{h:AH}(hs:s.size≤maxLen):Ac 225 [sv s] h (bv (ZbO s)):=by
 have hm:s.size≤9223372036854775807:=by simpa [maxLen] using hs
 have hem:=ZeA (f:=s)
 have hF:=ZnP s
 refine tI' k225 fun N hn hlt hlA hbd=>?_
 simp only[tb'] at hbd ⊢
 refine wr'<|mw<|sn'<|wr'<|mw<|sn'<|Zam<|wr'<|mw<|?_
 refine sn'<|Zap<|?_
 refine w_lp (ι:=Nat×Nat) (fun (x_:Nat×Nat)=>match x_ with | ⟨k,m⟩=>[(3,iv (m:Int)),(4,iv (k:Int)),(2,.any)]++rn' 5 49) (fun (x_:Nat×Nat)=>match x_ with | ⟨k,m⟩=>[]) (fun (x_:Nat×Nat)=>match x_ with | ⟨k,m⟩=>k≤s.size∧m≤k∧fmtL 0 true (aB s)=fmtL m (decide (k=0)) ((aB s).drop k)) (fun (x_:Nat×Nat)=>match x_ with | ⟨k,m⟩=>s.size-k) (⟨0,0⟩) (by exact⟨by omega,by omega,rfl⟩) ?_
 rintro⟨k,m⟩ hi1
 try simp only[sm',Nat.reduceAdd]
 obtain⟨hk1,hk2,hk3⟩:=hi1
 refine Zam<|wr'<|mw<|mw<|Vw (Zbe lk)<|Vw (Zbb lk lk)<|sn'<|?_
 refine cd' lk (fun hc1=>?_) (fun hc1=>?_)
 ·have hk:k<s.size:=by omega
  have hb:=Ze9 s k
  have hA:=Zfb hk
  rw[hA,fmtL] at hk3
  have hE:((aB s).drop (k+1)).isEmpty=decide ((k:Int)=(s.size:Int)-1):=by
   rw[Bool.eq_iff_iff,List.isEmpty_iff,List.drop_eq_nil_iff,decide_eq_true_iff,Zeg];omega
  refine Zaf<|Zah<|Zam<|Zap<|Zap<|wr'<|mw<|mw<|?_
  refine V' (v_ix lk lk om om) pt ?_
  refine Vw (ZaP lk lki)<|mw<|sn'<|?_
  refine cd' lk (fun hc2=>?_) (fun hc2=>?_)
  ·have hx:ZaH s k=47:=ZiU (n:=47) om hc2
   rw[if_pos hx,hE] at hk3
   refine wr'<|mw<|?_
   refine V' (Zay lk lki om om) pt ?_
   refine mw<|sn'<|wr'<|mw<|Vw (ZaP lk lki)<|mw<|?_
   refine sp' (t:=20) gt pt pt (fun hg20=>?_) (fun hg20=>?_)
   ·refine s_no gt pt<|s_no gt pt<|s_no gt pt<|s_no gt pt<|s_no gt pt<|Vw (Zag lk lkb)<|sn'<|ZaC lk<|wr'<|mw<|sn'<|?_
    refine Zaa<|Zaq<|Zaq<|Zai<|Zai<|Zaq<|Zai<|Zae rz<|rT'<|?_
    refine bvx ?_;rw[hF,hk3];simp_all
   refine s_do gt<|mw<|s_do gt<|mw<|s_do gt<|Vw (Zbe lk)<|s_do gt<|?_
   refine V' (Zbt lk lki om om) pt ?_
   refine s_do gt<|Vw (ZaP lk lk)<|Vw (Zaj lk lk)<|sn'<|?_
   refine cd' lk (fun hc3=>?_) (fun hc3=>?_)
   ·refine wr'<|mw<|sn'<|Zaa<|Zaq<|Zaq<|Zai<|Zai<|Zaq<|Zai<|Zae rz<|rT'<|?_
    refine bvx ?_;rw[hF,hk3];simp_all
   have hk3':fmtL 0 true (aB s)=fmtL (m+1) false ((aB s).drop (k+1)):=by rw[hk3];simp_all
   refine Zaf<|Zaz<|Zaz<|Zah<|Zav<|mw<|?_
   refine V' (Zay lk lki om om) pt ?_
   refine mw<|Zas<|ZaB<|?_
   refine lT' (⟨k+1,m+1⟩) (by (try dsimp only);exact⟨by omega,by omega,by rw[hk3'];simp⟩)
  have hx:¬ZaH s k=47:=Zle (n:=47) om hc2
  rw[if_neg hx] at hk3
  refine wr'<|mw<|mw<|?_
  refine V' (v_ix lk lk om om) pt ?_
  refine Vw (ZaP lk lki)<|mw<|sn'<|?_
  refine cd' lk (fun hc4=>?_) (fun hc4=>?_)
  ·have hy:ZaH s k=37:=ZiU (n:=37) om hc4
   rw[if_pos hy] at hk3
   refine wr'<|mw<|?_
   refine V' (Zay lk lki om om) pt ?_
   refine mw<|sn'<|wr'<|mw<|mw<|Vw (Zbe lk)<|?_
   refine V' (Zbt lk lki om om) pt ?_
   refine Vw (ZaP lk lk)<|mw<|?_
   refine sp' (t:=39) gt pt pt (fun hg39=>?_) (fun hg39=>?_)
   ·have hD:(aB s).drop (k+1)=[]:=by rw[List.drop_eq_nil_iff,Zeg];omega
    refine s_no gt pt<|s_no gt pt<|s_no gt pt<|s_no gt pt<|s_no gt pt<|Vw (Zag lk lkb)<|sn'<|ZaC lk<|wr'<|mw<|sn'<|?_
    refine Zaa<|Zaq<|Zaq<|Zai<|Zai<|Zaq<|Zai<|Zae rz<|rT'<|?_
    refine bvx ?_;rw[hF,hk3,hD];simp
   have hk':k+1<s.size:=by omega
   have hA':=Zfb hk'
   refine s_do gt<|mw<|s_do gt<|mw<|s_do gt<|?_
   refine V' (Zay lk lki om om) pt ?_
   refine s_do gt ?_
   refine V' (v_ix lk lk om om) pt ?_
   refine s_do gt<|Vw (ZaT lk lki)<|Vw (Zaj lk lk)<|sn'<|?_
   refine cd' lk (fun hc5=>?_) (fun hc5=>?_)
   ·refine wr'<|mw<|sn'<|Zaa<|Zaq<|Zaq<|Zai<|Zai<|Zaq<|Zai<|Zae rz<|rT'<|?_
    refine bvx ?_;rw[hF,hk3,hA'];have h9:¬ZaH s (k+1)=115:=Zle (c:=ZaH s (k+1)) (n:=115) om (by simpa using hc5);simp[h9]
   have hk3':fmtL 0 true (aB s)=fmtL (m+1) false ((aB s).drop (k+1)):=by rw[hk3];have:=ZiU (c:=ZaH s (k+1)) (n:=115) om (by simpa using hc5);rw[hA'];simp[this]
   refine Zaf<|Zaz<|Zaz<|Zah<|Zav<|mw<|?_
   refine V' (Zay lk lki om om) pt ?_
   refine mw<|Zas<|ZaB<|?_
   refine lT' (⟨k+1,m+1⟩) (by (try dsimp only);exact⟨by omega,by omega,by rw[hk3'];simp⟩)
  have hy:¬ZaH s k=37:=Zle (n:=37) om hc4
  rw[if_neg hy] at hk3
  have hone:allB Zbk (s.extract k (k+1))=Zbk (ZaH s k).toNat:=by rw[ZmK,hA,Nat.add_sub_cancel_left];simp[allB,bA]
  refine wr'<|mw<|mw<|mw<|?_
  refine V' (Zay lk lki om om) pt ?_
  refine V' (Zd0 lk (oi lk) (oi lk) om om om) pt ?_
  refine Zad mp (Znr (by rw[ByteArray.size_extract];unfold maxLen at *;omega)) pt ?_
  refine Vw (Zax lk)<|mw<|sn'<|?_
  refine Zaw lk (fun hc6=>?_) (fun hc6=>?_)
  ·refine wr'<|mw<|sn'<|Zaa<|Zaq<|Zaq<|Zai<|Zai<|Zaq<|Zai<|Zae rz<|rT'<|?_
   refine bvx ?_;rw[hF,hk3,←hone];simp_all
  have hk3':fmtL 0 true (aB s)=fmtL m false ((aB s).drop (k+1)):=by rw[hk3,←hone];simp_all
  refine Zaf<|Zaz<|Zaz<|Zah<|Zav<|mw<|?_
  refine V' (Zay lk lki om om) pt ?_
  refine mw<|Zas<|ZaB<|?_
  refine lT' (⟨k+1,m⟩) (by (try dsimp only);exact⟨by omega,by omega,by rw[hk3'];simp⟩)
 have hk4:fmtL 0 true (aB s)=decide (m≤1):=by rw[hk3,ZmO om,fmtL]
 clear hk3
 refine ZaQ<|ZaD<|ZaD<|Zba<|Zah<|wr'<|mw<|Vw (Zcr lk lks)<|mw<|?_
 refine sp' (t:=56) gt pt pt (fun hg56=>?_) (fun hg56=>?_)
 ·refine s_do gt<|mw<|s_do gt<|Vw (Zbe lk)<|s_do gt<|Vw (Zdq lk lki)<|Vw (Zag lk lk)<|mw<|?_
  refine sp' (t:=61) gt pt pt (fun hg61=>?_) (fun hg61=>?_)
  ·refine s_do gt<|mw<|s_do gt<|Vw (Zdq lk lki)<|Vw (Zag lk lk)<|mw<|sn'<|Zaa<|Zae rz<|rT'<|?_
   refine bvx ?_;rw[hF,hk4];clear hF hk4;by_cases h0:s.size=0 <;> simp_all <;> (try intros) <;> first | omega | (rw[Bool.eq_iff_iff];simp;omega)
  refine s_no gt pt<|s_no gt pt<|Vw (Zaj lk lkb)<|mw<|sn'<|Zaa<|Zae rz<|rT'<|?_
  refine bvx ?_;rw[hF,hk4];clear hF hk4;by_cases h0:s.size=0 <;> simp_all <;> (try intros) <;> first | omega | (rw[Bool.eq_iff_iff];simp;omega)
 refine s_no gt pt<|s_no gt pt<|s_no gt pt<|Vw (Zaj lk lkb)<|mw<|s_no gt pt<|s_no gt pt<|Vw (Zaj lk lkb)<|mw<|sn'<|Zaa<|Zae rz<|rT'<|?_
 refine bvx ?_;rw[hF,hk4];clear hF hk4;by_cases h0:s.size=0 <;> simp_all <;> (try intros) <;> first | omega | (rw[Bool.eq_iff_iff];simp;omega)
end Go.Proofs.YtlekejpogddndaaGreatDoor
end
section
namespace Go.Proofs.YtlekejpogddndaaGreatDoor
open Go.Ab Civ
attribute [local simp] Zb3
section
theorem Zhl {a0 a1 a2:AV}{l:List AV}:((a0::a1::a2::l).drop 0).take 3=[a0,a1,a2]:=rfl
theorem Zkh {a0 a1 a2 c0 c1 c2:AV}{l:List AV}:setCells (a0::a1::a2::l) 0 [c0,c1,c2]=c0::c1::c2::l:=rfl
theorem ZqR {a0 a1 a2 a3 c0 c1 c2 c3:AV}{l:List AV}:setCells (a0::a1::a2::a3::l) 0 [c0,c1,c2,c3]=c0::c1::c2::c3::l:=rfl
theorem ZmT {τ:Operand→AV}{y0 y1:Operand}{x0_0 x1_0:AV}(h0:Zat (τ y0)=some [x0_0]) (l0:[x0_0].all leaf=true) (h1:Zat (τ y1)=some [x1_0]) (l1:[x1_0].all leaf=true):Zar τ [(0,1,y0),(2,1,y1)] [(.v (.int .i64 0)),(.v (.int .i64 0)),(.v (.string ⟨#[]⟩))]=some [x0_0,(.v (.int .i64 0)),x1_0]:=by
 simp only[Zar,h0,l0,h1,l1]
 rfl
theorem ZmS {τ:Operand→AV}{y0 y1 y2:Operand}{x0_0 x1_0 x2_0:AV}(h0:Zat (τ y0)=some [x0_0]) (l0:[x0_0].all leaf=true) (h1:Zat (τ y1)=some [x1_0]) (l1:[x1_0].all leaf=true) (h2:Zat (τ y2)=some [x2_0]) (l2:[x2_0].all leaf=true):Zar τ [(0,1,y0),(1,1,y1),(2,1,y2)] [(.v (.int .i64 0)),(.v (.int .i64 0)),(.v (.string ⟨#[]⟩))]=some [x0_0,x1_0,x2_0]:=by
 simp only[Zar,h0,l0,h1,l1,h2,l2]
 rfl
theorem Zlq {τ:Operand→AV}{y0 y1:Operand}{x0_0 x1_0 x1_1 x1_2:AV}(h0:Zat (τ y0)=some [x0_0]) (l0:[x0_0].all leaf=true) (h1:Zat (τ y1)=some [x1_0,x1_1,x1_2]) (l1:[x1_0,x1_1,x1_2].all leaf=true):Zar τ [(0,1,y0),(1,3,y1)] [(.v (.int .i64 0)),(.v (.int .i64 0)),(.v (.int .i64 0)),(.v (.string ⟨#[]⟩))]=some [x0_0,x1_0,x1_1,x1_2]:=by
 simp only[Zar,h0,l0,h1,l1]
 rfl
theorem Zlp {τ:Operand→AV}{y0 y1:Operand}{x0_0 x1_0 x1_1 x1_2:AV}(h0:Zat (τ y0)=some [x0_0]) (l0:[x0_0].all leaf=true) (h1:Zat (τ y1)=some [x1_0,x1_1,x1_2]) (l1:[x1_0,x1_1,x1_2].all leaf=true):Zar τ [(0,1,y0),(1,3,y1)] [(.v (.int .i64 0)),(.v (.int .i64 0)),(.v (.int .i64 0)),(.v (.string ⟨#[]⟩))]=some [x0_0,x1_0,x1_1,x1_2]:=by
 simp only[Zar,h0,l0,h1,l1]
 rfl
theorem Zlo {τ:Operand→AV}{y0 y1:Operand}{x0_0 x0_1 x0_2 x0_3 x1_0 x1_1 x1_2 x1_3:AV}(h0:Zat (τ y0)=some [x0_0,x0_1,x0_2,x0_3]) (l0:[x0_0,x0_1,x0_2,x0_3].all leaf=true) (h1:Zat (τ y1)=some [x1_0,x1_1,x1_2,x1_3]) (l1:[x1_0,x1_1,x1_2,x1_3].all leaf=true):Zar τ [(0,4,y0),(4,4,y1)] [(.v (.int .i64 0)),(.v (.int .i64 0)),(.v (.int .i64 0)),(.v (.string ⟨#[]⟩)),(.v (.int .i64 0)),(.v (.int .i64 0)),(.v (.int .i64 0)),(.v (.string ⟨#[]⟩))]=some [x0_0,x0_1,x0_2,x0_3,x1_0,x1_1,x1_2,x1_3]:=by
 simp only[Zar,h0,l0,h1,l1]
 rfl
theorem Zln {τ:Operand→AV}{y0 y1:Operand}{x0_0 x0_1 x0_2 x1_0:AV}(h0:Zat (τ y0)=some [x0_0,x0_1,x0_2]) (l0:[x0_0,x0_1,x0_2].all leaf=true) (h1:Zat (τ y1)=some [x1_0]) (l1:[x1_0].all leaf=true):Zar τ [(0,3,y0),(3,1,y1)] [(.v (.int .i64 0)),(.v (.int .i64 0)),(.v (.string ⟨#[]⟩)),(.sl 0 0 true [])]=some [x0_0,x0_1,x0_2,x1_0]:=by
 simp only[Zar,h0,l0,h1,l1]
 rfl
theorem ZqQ {a0 a1 a2 a3:AV}{l:List AV}:((a0::a1::a2::a3::l).drop 0).take 4=[a0,a1,a2,a3]:=rfl
end
def c76:AC:=(Sr [Oo 0 (.new 40 4 [(iv 0),(iv 0),Ss,(.sl 0 0 true [])])] (Sr [Oo 3 (.build [(iv 0),(iv 0),Ss] [(0,(1,(Ci 3600))),(2,(1,(.const (.string ⟨#[65]⟩))))]),Oo 4 (.build [(iv 0),(iv 0),Ss] [(0,(1,(Ci 7200))),(1,(1,(Ci 3600))),(2,(1,(.const (.string ⟨#[66]⟩))))]),Oo 1 (.new 29 3 [(iv 0),(iv 0),Ss]),Oo 2 (.new 29 3 [(iv 0),(iv 0),Ss]),⟨none,none,(.store 3 (.tmp 1) (.tmp 3))⟩,⟨none,none,(.store 3 (.tmp 2) (.tmp 4))⟩] (Sr [Oo 5 (.load true 3 (.tmp 1)),Oo 6 (.load true 3 (.tmp 2)),Oo 7 (.build [(iv 0),(iv 0),(iv 0),Ss] [(0,(1,(Ci 100))),(1,(3,(.tmp 6)))]),Oo 8 (.load true 3 (.tmp 1)),Oo 9 (.build [(iv 0),(iv 0),(iv 0),Ss] [(0,(1,(Ci 90000))),(1,(3,(.tmp 8)))]),Oo 10 (.lit 68 4 2 [(iv 0),(iv 0),(iv 0),Ss,(iv 0),(iv 0),(iv 0),Ss] [(0,(4,(.tmp 7))),(4,(4,(.tmp 9)))]),Oo 11 (.build [(iv 0),(iv 0),Ss,(.sl 0 0 true [])] [(0,(3,(.tmp 5))),(3,(1,(.tmp 10)))]),⟨none,none,(.store 4 (.tmp 0) (.tmp 11))⟩] .ret)))
theorem k76:ZaA Tryz.prog 76=some ⟨c76,[(.cell 0 true 4)],12⟩:=by kernel_rfl
def ZbV:Tab:=((3600,0,⟨#[65]⟩),[(100,(7200,3600,⟨#[66]⟩)),(90000,(3600,0,⟨#[65]⟩))])
theorem ZeW {h:AH}:Ac 76 [] h (tabA ZbV):=by
 refine tI' k76 fun N hn hlt hlA hbd=>?_
 simp only[tb'] at hbd ⊢
 refine wr'<|E' (ZaV (hl0 hn) ha0) pt<|sn'<|wr'<|Vw (Zau (ZmT (cvl lki rfl) rfl (cvl lks rfl) rfl))<|Vw (Zau (ZmS (cvl lki rfl) rfl (cvl lki rfl) rfl (cvl lks rfl) rfl))<|E' (ZaV (hl1 hn) ha1) pt<|E' (ZaV (hl2 hn) ha2) pt<|E' (Zak lk cv gx rfl (nb' rfl) rfl Zkh (hs1 hn)) ptn<|E' (Zak lk cv gx rfl (nb' rfl) rfl Zkh (hs2 hn)) ptn<|Zas<|?_
 refine Zah<|wr'<|Vw (Zan lk gx Zhl rfl)<|Vw (Zan lk gx Zhl rfl)<|Vw (Zau (Zlq (cvl lki rfl) rfl cv rfl))<|Vw (Zan lk gx Zhl rfl)<|Vw (Zau (Zlp (cvl lki rfl) rfl cv rfl))<|E' (Zdm (Zlo cv rfl cv rfl) (hl3 hn) ha3) pt<|Vw (Zau (Zln cv rfl cv rfl))<|E' (Zak lk cv gx rfl (nb' rfl) rfl ZqR (hs0 hn)) ptn<|Zas<|?_
 refine Za5 (ALe.iceCellR gx gx om gt3 rfl (nb' rfl) pt3 (hs3 hn) (hs0 hn)) ?_
 exact Zaa<|Zae (rs1 (rr_c gt gx (ld1 ZqQ rfl)))<|rT' rfl
theorem Zgo:okT ZbV:=⟨by decide,by decide⟩
end Go.Proofs.YtlekejpogddndaaGreatDoor
end
section
namespace Go.Proofs.YtlekejpogddndaaGreatDoor
open Go.Ab
attribute [local simp] Zbj Zby Zbs Zbv Zb3
section
theorem Zt1 {a0 a1 a2 a3 a4 a5 a6 a7 a8 a9 a10:AV}{l:List AV}:(a0::a1::a2::a3::a4::a5::a6::a7::a8::a9::a10::l).take 11=[a0,a1,a2,a3,a4,a5,a6,a7,a8,a9,a10]:=rfl
theorem Zlt {a0 a1:AV}{l:List AV}:(a0::a1::l).take 2=[a0,a1]:=rfl
theorem ZpI {a0 a1 a2 a3:AV}{l:List AV}:(a0::a1::a2::a3::l).take 4=[a0,a1,a2,a3]:=rfl
end
def c234:AC:=(Sr [Mc 4 0] (.seq (Sr [Mv 6 0,Oo 7 (.len false (.tmp 6)),Mc 8 0] (.block 0 (.loop (Sr [Bn 9 .lss 8 7] (.seq (Cd 9 .skip (.exit 0)) (.seq (.block 1 (Sr [Mv 10 8,Mv 5 10] (Sr [Mv 11 1,Mv 12 0,Mv 13 5,Oo 14 (.ia 11 (.tmp 12) (.tmp 13)),Oo 15 (.load true 11 (.tmp 14)),Oo 16 (.call (.tmp 11) [(.tmp 15)])] (Cd 16 (Sr [Mv 17 5,Mv 4 17] .ret) .skip)))) (.reg [Bc 18 .add 8 1,Mv 8 18]))))))) (Sr [Oo 4 (.mv (.const (.int .i64 (-1))))] .ret)))
theorem k234:ZaA Tryz.prog 234=some ⟨c234,[(.tmp 4)],19⟩:=by kernel_rfl
def c157:AC:=(Sr [Mb 4 false] (Sr [Mv 5 0,Mv 6 1,Cl 7 234 [(.tmp 5),(.tmp 6)],Bc 8 .geq 7 0,Mv 4 8] .ret))
theorem k157:ZaA Tryz.prog 157=some ⟨c157,[(.tmp 4)],9⟩:=by kernel_rfl
def c218:AC:=(Sr [Mc 4 0] (.seq (Sr [Mv 6 0,Oo 7 (.len false (.tmp 6)),Mc 8 0] (.block 0 (.loop (Sr [Bn 9 .lss 8 7] (.seq (Cd 9 .skip (.exit 0)) (.seq (.block 1 (Sr [Mv 10 8,Mv 5 10] (Sr [Mv 11 1,Mv 12 0,Mv 13 5,Oo 14 (.ia 2 (.tmp 12) (.tmp 13)),Oo 15 (.load true 2 (.tmp 14)),Oo 16 (.call (.tmp 11) [(.tmp 15)])] (Cd 16 (Sr [Mv 17 5,Mv 4 17] .ret) .skip)))) (.reg [Bc 18 .add 8 1,Mv 8 18]))))))) (Sr [Oo 4 (.mv (.const (.int .i64 (-1))))] .ret)))
theorem k218:ZaA Tryz.prog 218=some ⟨c218,[(.tmp 4)],19⟩:=by kernel_rfl
def c136:AC:=(Sr [Mb 4 false] (Sr [Mv 5 0,Mv 6 1,Cl 7 218 [(.tmp 5),(.tmp 6)],Bc 8 .geq 7 0,Mv 4 8] .ret))
theorem k136:ZaA Tryz.prog 136=some ⟨c136,[(.tmp 4)],9⟩:=by kernel_rfl
def c171:AC:=(Sr [Mc 4 0] (.seq (Sr [Mv 6 0,Oo 7 (.len false (.tmp 6)),Mc 8 0] (.block 0 (.loop (Sr [Bn 9 .lss 8 7] (.seq (Cd 9 .skip (.exit 0)) (.seq (.block 1 (Sr [Mv 10 8,Mv 5 10] (Sr [Mv 11 1,Mv 12 0,Mv 13 5,Oo 14 (.ia 2 (.tmp 12) (.tmp 13)),Oo 15 (.load true 2 (.tmp 14)),Oo 16 (.call (.tmp 11) [(.tmp 15)])] (Cd 16 (Sr [Mv 17 5,Mv 4 17] .ret) .skip)))) (.reg [Bc 18 .add 8 1,Mv 8 18]))))))) (Sr [Oo 4 (.mv (.const (.int .i64 (-1))))] .ret)))
theorem k171:ZaA Tryz.prog 171=some ⟨c171,[(.tmp 4)],19⟩:=by kernel_rfl
def c213:AC:=(Sr [Mb 4 false] (Sr [Mv 5 0,Mv 6 1,Cl 7 171 [(.tmp 5),(.tmp 6)],Bc 8 .geq 7 0,Mv 4 8] .ret))
theorem k213:ZaA Tryz.prog 213=some ⟨c213,[(.tmp 4)],9⟩:=by kernel_rfl
def c221:AC:=(Sr [Mc 4 0] (.seq (Sr [Mv 6 0,Oo 7 (.len false (.tmp 6)),Mc 8 0] (.block 0 (.loop (Sr [Bn 9 .lss 8 7] (.seq (Cd 9 .skip (.exit 0)) (.seq (.block 1 (Sr [Mv 10 8,Mv 5 10] (Sr [Mv 11 1,Mv 12 0,Mv 13 5,Oo 14 (.ia 4 (.tmp 12) (.tmp 13)),Oo 15 (.load true 4 (.tmp 14)),Oo 16 (.call (.tmp 11) [(.tmp 15)])] (Cd 16 (Sr [Mv 17 5,Mv 4 17] .ret) .skip)))) (.reg [Bc 18 .add 8 1,Mv 8 18]))))))) (Sr [Oo 4 (.mv (.const (.int .i64 (-1))))] .ret)))
theorem k221:ZaA Tryz.prog 221=some ⟨c221,[(.tmp 4)],19⟩:=by kernel_rfl
def c145:AC:=(Sr [Mc 4 0] (.seq (Sr [Mv 6 0,Oo 7 (.len false (.tmp 6)),Mc 8 0] (.block 0 (.loop (Sr [Bn 9 .lss 8 7] (.seq (Cd 9 .skip (.exit 0)) (.seq (.block 1 (Sr [Mv 10 8,Mv 5 10] (Sr [Mv 11 1,Mv 12 0,Mv 13 5,Oo 14 (.ia 4 (.tmp 12) (.tmp 13)),Oo 15 (.load true 4 (.tmp 14)),Oo 16 (.call (.tmp 11) [(.tmp 15)])] (Cd 16 (Sr [Mv 17 5,Mv 4 17] .ret) .skip)))) (.reg [Bc 18 .add 8 1,Mv 8 18]))))))) (Sr [Oo 4 (.mv (.const (.int .i64 (-1))))] .ret)))
theorem k145:ZaA Tryz.prog 145=some ⟨c145,[(.tmp 4)],19⟩:=by kernel_rfl
theorem Zfn {α:Type}{p:α→Bool}{l:List α}{k:Nat}(hk:k<l.length) (h1:p l[k]=true) (h2 : ∀ j (hj:j<k),p (l[j]'(by omega))=false):l.findIdx p=k:=by
 have hlt:l.findIdx p<l.length:=List.findIdx_lt_length.2 ⟨_,List.getElem_mem hk,h1⟩
 rcases Nat.lt_trichotomy (l.findIdx p) k with e | e | e
 ·have a:=h2 _ e
  have b:=List.findIdx_getElem (w:=hlt)
  rw[a] at b;cases b
 ·exact e
 have:=List.not_of_lt_findIdx e
 rw[h1] at this;cases this
def idxV {α:Type}(p:α→Bool) (l:List α):Int:=if l.findIdx p<l.length then (l.findIdx p:Int) else -1
theorem Zfm {α:Type}(p:α→Bool) (l:List α):decide (0≤idxV p l)=l.any p:=by
 unfold idxV
 rw[Bool.eq_iff_iff,decide_eq_true_iff,List.any_eq_true]
 split
 ·rename_i h
  exact⟨fun _=>⟨_,List.getElem_mem h,List.findIdx_getElem (w:=h)⟩,fun _=>by omega⟩
 rename_i h
 constructor
 ·intro h2;omega
 rintro⟨x,hx,hp⟩;exact absurd (List.findIdx_lt_length.2 ⟨x,hx,hp⟩) h
theorem ixRulC_a {p:Rul→Bool}{f:FuncId}{caps:List AV}{l:List Rul}{full:Bool}{h:AH}(hp : ∀ c∈l,∀ E:AH,ACalls Tryz.prog f ([.agg (rulC c)]++caps) (h++E) fun x h'=>h'=h++E∧x=.ret (bv (p c))) (hl:l.length≤9223372036854775807) :
  Ac 234 [.sl l.length 11 full (rows rulC l),.clo (.func f) caps] h (iv (idxV p l)):=by
 refine tI' k234 fun N hn hlt hlA hbd=>?_
 simp only[tb'] at hbd ⊢
 refine wr'<|mw<|sn'<|Zam<|wr'<|mw<|Vw (ZaL lk)<|mw<|sn'<|Zap<|?_
 refine w_lp (ι:=Nat) (fun (k:Nat)=>[(8,iv (k:Int)),(4,.any),(5,.any)]++rn' 9 10) (fun (k:Nat)=>[]) (fun (k:Nat)=>k≤l.length ∧ ∀ j (hj:j<l.length),j<k→p l[j]=false) (fun (k:Nat)=>l.length-k) (0) (by exact⟨by omega,fun j hj h0=>absurd h0 om⟩) ?_
 rintro k hi1
 try simp only[sm',Nat.reduceAdd]
 obtain⟨hk1,hk2⟩:=hi1
 refine wr'<|Vw (Zbb lk lk)<|sn'<|Zam<|?_
 refine cd' lk (fun hc1=>?_) (fun hc1=>?_)
 ·have hk:k<l.length:=by omega
  refine Zaf<|Zah<|Zam<|Zap<|wr'<|mw<|mw<|sn'<|wr'<|mw<|mw<|?_
  refine mv' lk pt ?_
  refine V' (Za0 lk lk Zfi (nb' rfl) ro om ro rfl) pt ?_
  refine Vw (ZaI lk Zt1 rfl)<|Zip lk mp (hp l[k] (List.getElem_mem hk) _) pt<|sn'<|?_
  refine Zaw lk (fun hc2=>?_) (fun hc2=>?_)
  ·refine wr'<|mw<|mw<|sn'<|Zaa<|Zaq<|Zai<|Zai<|Zaq<|Zai<|Zae rz<|rT'<|?_
   refine ivx ?_
   have hf:l.findIdx p=k:=Zfn hk (by simpa using hc2) (fun j hj=>hk2 j om hj)
   rw[idxV,hf,if_pos hk]
  refine Zaf<|Zaz<|Zah<|Zav<|?_
  refine V' (Zay lk lki om om) pt ?_
  refine mw<|Zas<|ZaB<|?_
  refine lT' (k+1) (by (try dsimp only);refine⟨by omega,fun j hj h0=>?_⟩;by_cases e:j=k;subst e;simpa using hc2;exact hk2 j hj om)
 refine ZaQ<|ZaD<|ZaD<|Zba<|Zah<|wr'<|mw<|sn'<|Zaa<|Zae rz<|rT'<|?_
 refine ivx ?_
 have hf:l.findIdx p=l.length:=List.findIdx_eq_length.2 (fun x hx=>by obtain⟨i,hi,rfl⟩:=List.getElem_of_mem hx;exact hk2 i hi om)
 rw[idxV,hf,if_neg om]
theorem Zmv {p:Rul→Bool}{f:FuncId}{caps:List AV}{l:List Rul}{full:Bool}{h:AH}(hp : ∀ c∈l,∀ E:AH,ACalls Tryz.prog f ([.agg (rulC c)]++caps) (h++E) fun x h'=>h'=h++E∧x=.ret (bv (p c))) (hl:l.length≤9223372036854775807) :
  Ac 157 [.sl l.length 11 full (rows rulC l),.clo (.func f) caps] h (bv (l.any p)):=by
 refine tI' k157 fun N hn hlt hlA hbd=>?_
 simp only[tb'] at hbd ⊢
 refine wr'<|mw<|sn'<|wr'<|mw<|mw<|?_
 refine Zad mp (ixRulC_a (fun c hc E=>by have:=hp c hc E;rwa [List.append_nil]) hl) pt ?_
 refine Vw (ZeR lk lki)<|mw<|sn'<|Zaa<|Zae rz<|rT'<|?_
 exact bvx (by first | exact Zfm p l | (rw[←Zfm];simp))
theorem ixZonC_a {p:Zon→Bool}{f:FuncId}{caps:List AV}{l:List Zon}{full:Bool}{h:AH}(hp : ∀ c∈l,∀ E:AH,ACalls Tryz.prog f ([.agg (zonC c)]++caps) (h++E) fun x h'=>h'=h++E∧x=.ret (bv (p c))) (hl:l.length≤9223372036854775807) :
  Ac 218 [.sl l.length 2 full (rows zonC l),.clo (.func f) caps] h (iv (idxV p l)):=by
 refine tI' k218 fun N hn hlt hlA hbd=>?_
 simp only[tb'] at hbd ⊢
 refine wr'<|mw<|sn'<|Zam<|wr'<|mw<|Vw (ZaL lk)<|mw<|sn'<|Zap<|?_
 refine w_lp (ι:=Nat) (fun (k:Nat)=>[(8,iv (k:Int)),(4,.any),(5,.any)]++rn' 9 10) (fun (k:Nat)=>[]) (fun (k:Nat)=>k≤l.length ∧ ∀ j (hj:j<l.length),j<k→p l[j]=false) (fun (k:Nat)=>l.length-k) (0) (by exact⟨by omega,fun j hj h0=>absurd h0 om⟩) ?_
 rintro k hi1
 try simp only[sm',Nat.reduceAdd]
 obtain⟨hk1,hk2⟩:=hi1
 refine wr'<|Vw (Zbb lk lk)<|sn'<|Zam<|?_
 refine cd' lk (fun hc1=>?_) (fun hc1=>?_)
 ·have hk:k<l.length:=by omega
  refine Zaf<|Zah<|Zam<|Zap<|wr'<|mw<|mw<|sn'<|wr'<|mw<|mw<|?_
  refine mv' lk pt ?_
  refine V' (Za0 lk lk ZcO (nb' rfl) ro om ro rfl) pt ?_
  refine Vw (ZaI lk Zlt rfl)<|Zip lk mp (hp l[k] (List.getElem_mem hk) _) pt<|sn'<|?_
  refine Zaw lk (fun hc2=>?_) (fun hc2=>?_)
  ·refine wr'<|mw<|mw<|sn'<|Zaa<|Zaq<|Zai<|Zai<|Zaq<|Zai<|Zae rz<|rT'<|?_
   refine ivx ?_
   have hf:l.findIdx p=k:=Zfn hk (by simpa using hc2) (fun j hj=>hk2 j om hj)
   rw[idxV,hf,if_pos hk]
  refine Zaf<|Zaz<|Zah<|Zav<|?_
  refine V' (Zay lk lki om om) pt ?_
  refine mw<|Zas<|ZaB<|?_
  refine lT' (k+1) (by (try dsimp only);refine⟨by omega,fun j hj h0=>?_⟩;by_cases e:j=k;subst e;simpa using hc2;exact hk2 j hj om)
 refine ZaQ<|ZaD<|ZaD<|Zba<|Zah<|wr'<|mw<|sn'<|Zaa<|Zae rz<|rT'<|?_
 refine ivx ?_
 have hf:l.findIdx p=l.length:=List.findIdx_eq_length.2 (fun x hx=>by obtain⟨i,hi,rfl⟩:=List.getElem_of_mem hx;exact hk2 i hi om)
 rw[idxV,hf,if_neg om]
theorem ixZonT_a {p:Zon→Bool}{f:FuncId}{l:List Zon}{full:Bool}{h:AH}(hp : ∀ c∈l,∀ E:AH,ACalls Tryz.prog f [.agg (zonC c)] (h++E) fun x h'=>h'=h++E∧x=.ret (bv (p c))) (hl:l.length≤9223372036854775807) :
  Ac 218 [.sl l.length 2 full (rows zonC l),.v (.func (.func f) #[] #[])] h (iv (idxV p l)):=by
 refine tI' k218 fun N hn hlt hlA hbd=>?_
 simp only[tb'] at hbd ⊢
 refine wr'<|mw<|sn'<|Zam<|wr'<|mw<|Vw (ZaL lk)<|mw<|sn'<|Zap<|?_
 refine w_lp (ι:=Nat) (fun (k:Nat)=>[(8,iv (k:Int)),(4,.any),(5,.any)]++rn' 9 10) (fun (k:Nat)=>[]) (fun (k:Nat)=>k≤l.length ∧ ∀ j (hj:j<l.length),j<k→p l[j]=false) (fun (k:Nat)=>l.length-k) (0) (by exact⟨by omega,fun j hj h0=>absurd h0 om⟩) ?_
 rintro k hi1
 try simp only[sm',Nat.reduceAdd]
 obtain⟨hk1,hk2⟩:=hi1
 refine wr'<|Vw (Zbb lk lk)<|sn'<|Zam<|?_
 refine cd' lk (fun hc1=>?_) (fun hc1=>?_)
 ·have hk:k<l.length:=by omega
  refine Zaf<|Zah<|Zam<|Zap<|wr'<|mw<|mw<|sn'<|wr'<|mw<|mw<|?_
  refine mv' lk pt ?_
  refine V' (Za0 lk lk ZcO (nb' rfl) ro om ro rfl) pt ?_
  refine Vw (ZaI lk Zlt rfl)<|Zio lk mp (hp l[k] (List.getElem_mem hk) _) pt<|sn'<|?_
  refine Zaw lk (fun hc2=>?_) (fun hc2=>?_)
  ·refine wr'<|mw<|mw<|sn'<|Zaa<|Zaq<|Zai<|Zai<|Zaq<|Zai<|Zae rz<|rT'<|?_
   refine ivx ?_
   have hf:l.findIdx p=k:=Zfn hk (by simpa using hc2) (fun j hj=>hk2 j om hj)
   rw[idxV,hf,if_pos hk]
  refine Zaf<|Zaz<|Zah<|Zav<|?_
  refine V' (Zay lk lki om om) pt ?_
  refine mw<|Zas<|ZaB<|?_
  refine lT' (k+1) (by (try dsimp only);refine⟨by omega,fun j hj h0=>?_⟩;by_cases e:j=k;subst e;simpa using hc2;exact hk2 j hj om)
 refine ZaQ<|ZaD<|ZaD<|Zba<|Zah<|wr'<|mw<|sn'<|Zaa<|Zae rz<|rT'<|?_
 refine ivx ?_
 have hf:l.findIdx p=l.length:=List.findIdx_eq_length.2 (fun x hx=>by obtain⟨i,hi,rfl⟩:=List.getElem_of_mem hx;exact hk2 i hi om)
 rw[idxV,hf,if_neg om]
theorem Zs1 {p:Zon→Bool}{f:FuncId}{l:List Zon}{full:Bool}{h:AH}(hp : ∀ c∈l,∀ E:AH,ACalls Tryz.prog f [.agg (zonC c)] (h++E) fun x h'=>h'=h++E∧x=.ret (bv (p c))) (hl:l.length≤9223372036854775807) :
  Ac 136 [.sl l.length 2 full (rows zonC l),.v (.func (.func f) #[] #[])] h (bv (l.any p)):=by
 refine tI' k136 fun N hn hlt hlA hbd=>?_
 simp only[tb'] at hbd ⊢
 refine wr'<|mw<|sn'<|wr'<|mw<|mw<|?_
 refine Zad mp (ixZonT_a (fun c hc E=>by have:=hp c hc E;rwa [List.append_nil]) hl) pt ?_
 refine Vw (ZeR lk lki)<|mw<|sn'<|Zaa<|Zae rz<|rT'<|?_
 exact bvx (by first | exact Zfm p l | (rw[←Zfm];simp))
theorem Zpj {p:Lnk→Bool}{f:FuncId}{caps:List AV}{l:List Lnk}{full:Bool}{h:AH}(hp : ∀ c∈l,∀ E:AH,ACalls Tryz.prog f ([.agg (lnkC c)]++caps) (h++E) fun x h'=>h'=h++E∧x=.ret (bv (p c))) (hl:l.length≤9223372036854775807) :
  Ac 171 [.sl l.length 2 full (rows lnkC l),.clo (.func f) caps] h (iv (idxV p l)):=by
 refine tI' k171 fun N hn hlt hlA hbd=>?_
 simp only[tb'] at hbd ⊢
 refine wr'<|mw<|sn'<|Zam<|wr'<|mw<|Vw (ZaL lk)<|mw<|sn'<|Zap<|?_
 refine w_lp (ι:=Nat) (fun (k:Nat)=>[(8,iv (k:Int)),(4,.any),(5,.any)]++rn' 9 10) (fun (k:Nat)=>[]) (fun (k:Nat)=>k≤l.length ∧ ∀ j (hj:j<l.length),j<k→p l[j]=false) (fun (k:Nat)=>l.length-k) (0) (by exact⟨by omega,fun j hj h0=>absurd h0 om⟩) ?_
 rintro k hi1
 try simp only[sm',Nat.reduceAdd]
 obtain⟨hk1,hk2⟩:=hi1
 refine wr'<|Vw (Zbb lk lk)<|sn'<|Zam<|?_
 refine cd' lk (fun hc1=>?_) (fun hc1=>?_)
 ·have hk:k<l.length:=by omega
  refine Zaf<|Zah<|Zam<|Zap<|wr'<|mw<|mw<|sn'<|wr'<|mw<|mw<|?_
  refine mv' lk pt ?_
  refine V' (Za0 lk lk ZdV (nb' rfl) ro om ro rfl) pt ?_
  refine Vw (ZaI lk Zlt rfl)<|Zip lk mp (hp l[k] (List.getElem_mem hk) _) pt<|sn'<|?_
  refine Zaw lk (fun hc2=>?_) (fun hc2=>?_)
  ·refine wr'<|mw<|mw<|sn'<|Zaa<|Zaq<|Zai<|Zai<|Zaq<|Zai<|Zae rz<|rT'<|?_
   refine ivx ?_
   have hf:l.findIdx p=k:=Zfn hk (by simpa using hc2) (fun j hj=>hk2 j om hj)
   rw[idxV,hf,if_pos hk]
  refine Zaf<|Zaz<|Zah<|Zav<|?_
  refine V' (Zay lk lki om om) pt ?_
  refine mw<|Zas<|ZaB<|?_
  refine lT' (k+1) (by (try dsimp only);refine⟨by omega,fun j hj h0=>?_⟩;by_cases e:j=k;subst e;simpa using hc2;exact hk2 j hj om)
 refine ZaQ<|ZaD<|ZaD<|Zba<|Zah<|wr'<|mw<|sn'<|Zaa<|Zae rz<|rT'<|?_
 refine ivx ?_
 have hf:l.findIdx p=l.length:=List.findIdx_eq_length.2 (fun x hx=>by obtain⟨i,hi,rfl⟩:=List.getElem_of_mem hx;exact hk2 i hi om)
 rw[idxV,hf,if_neg om]
theorem Zs2 {p:Lnk→Bool}{f:FuncId}{caps:List AV}{l:List Lnk}{full:Bool}{h:AH}(hp : ∀ c∈l,∀ E:AH,ACalls Tryz.prog f ([.agg (lnkC c)]++caps) (h++E) fun x h'=>h'=h++E∧x=.ret (bv (p c))) (hl:l.length≤9223372036854775807) :
  Ac 213 [.sl l.length 2 full (rows lnkC l),.clo (.func f) caps] h (bv (l.any p)):=by
 refine tI' k213 fun N hn hlt hlA hbd=>?_
 simp only[tb'] at hbd ⊢
 refine wr'<|mw<|sn'<|wr'<|mw<|mw<|?_
 refine Zad mp (Zpj (fun c hc E=>by have:=hp c hc E;rwa [List.append_nil]) hl) pt ?_
 refine Vw (ZeR lk lki)<|mw<|sn'<|Zaa<|Zae rz<|rT'<|?_
 exact bvx (by first | exact Zfm p l | (rw[←Zfm];simp))
theorem ixPrtC_a {p:Chg→Bool}{f:FuncId}{caps:List AV}{l:List Chg}{full:Bool}{h:AH}(hp : ∀ c∈l,∀ E:AH,ACalls Tryz.prog f ([.agg (chgC c)]++caps) (h++E) fun x h'=>h'=h++E∧x=.ret (bv (p c))) (hl:l.length≤9223372036854775807) :
  Ac 221 [.sl l.length 4 full (rows chgC l),.clo (.func f) caps] h (iv (idxV p l)):=by
 refine tI' k221 fun N hn hlt hlA hbd=>?_
 simp only[tb'] at hbd ⊢
 refine wr'<|mw<|sn'<|Zam<|wr'<|mw<|Vw (ZaL lk)<|mw<|sn'<|Zap<|?_
 refine w_lp (ι:=Nat) (fun (k:Nat)=>[(8,iv (k:Int)),(4,.any),(5,.any)]++rn' 9 10) (fun (k:Nat)=>[]) (fun (k:Nat)=>k≤l.length ∧ ∀ j (hj:j<l.length),j<k→p l[j]=false) (fun (k:Nat)=>l.length-k) (0) (by exact⟨by omega,fun j hj h0=>absurd h0 om⟩) ?_
 rintro k hi1
 try simp only[sm',Nat.reduceAdd]
 obtain⟨hk1,hk2⟩:=hi1
 refine wr'<|Vw (Zbb lk lk)<|sn'<|Zam<|?_
 refine cd' lk (fun hc1=>?_) (fun hc1=>?_)
 ·have hk:k<l.length:=by omega
  refine Zaf<|Zah<|Zam<|Zap<|wr'<|mw<|mw<|sn'<|wr'<|mw<|mw<|?_
  refine mv' lk pt ?_
  refine V' (Za0 lk lk Zcb (nb' rfl) ro om ro rfl) pt ?_
  refine Vw (ZaI lk ZpI rfl)<|Zip lk mp (hp l[k] (List.getElem_mem hk) _) pt<|sn'<|?_
  refine Zaw lk (fun hc2=>?_) (fun hc2=>?_)
  ·refine wr'<|mw<|mw<|sn'<|Zaa<|Zaq<|Zai<|Zai<|Zaq<|Zai<|Zae rz<|rT'<|?_
   refine ivx ?_
   have hf:l.findIdx p=k:=Zfn hk (by simpa using hc2) (fun j hj=>hk2 j om hj)
   rw[idxV,hf,if_pos hk]
  refine Zaf<|Zaz<|Zah<|Zav<|?_
  refine V' (Zay lk lki om om) pt ?_
  refine mw<|Zas<|ZaB<|?_
  refine lT' (k+1) (by (try dsimp only);refine⟨by omega,fun j hj h0=>?_⟩;by_cases e:j=k;subst e;simpa using hc2;exact hk2 j hj om)
 refine ZaQ<|ZaD<|ZaD<|Zba<|Zah<|wr'<|mw<|sn'<|Zaa<|Zae rz<|rT'<|?_
 refine ivx ?_
 have hf:l.findIdx p=l.length:=List.findIdx_eq_length.2 (fun x hx=>by obtain⟨i,hi,rfl⟩:=List.getElem_of_mem hx;exact hk2 i hi om)
 rw[idxV,hf,if_neg om]
theorem ixChgC_a {p:Chg→Bool}{f:FuncId}{caps:List AV}{l:List Chg}{full:Bool}{h:AH}(hp : ∀ c∈l,∀ E:AH,ACalls Tryz.prog f ([.agg (chgC c)]++caps) (h++E) fun x h'=>h'=h++E∧x=.ret (bv (p c))) (hl:l.length≤9223372036854775807) :
  Ac 145 [.sl l.length 4 full (rows chgC l),.clo (.func f) caps] h (iv (idxV p l)):=by
 refine tI' k145 fun N hn hlt hlA hbd=>?_
 simp only[tb'] at hbd ⊢
 refine wr'<|mw<|sn'<|Zam<|wr'<|mw<|Vw (ZaL lk)<|mw<|sn'<|Zap<|?_
 refine w_lp (ι:=Nat) (fun (k:Nat)=>[(8,iv (k:Int)),(4,.any),(5,.any)]++rn' 9 10) (fun (k:Nat)=>[]) (fun (k:Nat)=>k≤l.length ∧ ∀ j (hj:j<l.length),j<k→p l[j]=false) (fun (k:Nat)=>l.length-k) (0) (by exact⟨by omega,fun j hj h0=>absurd h0 om⟩) ?_
 rintro k hi1
 try simp only[sm',Nat.reduceAdd]
 obtain⟨hk1,hk2⟩:=hi1
 refine wr'<|Vw (Zbb lk lk)<|sn'<|Zam<|?_
 refine cd' lk (fun hc1=>?_) (fun hc1=>?_)
 ·have hk:k<l.length:=by omega
  refine Zaf<|Zah<|Zam<|Zap<|wr'<|mw<|mw<|sn'<|wr'<|mw<|mw<|?_
  refine mv' lk pt ?_
  refine V' (Za0 lk lk Zcb (nb' rfl) ro om ro rfl) pt ?_
  refine Vw (ZaI lk ZpI rfl)<|Zip lk mp (hp l[k] (List.getElem_mem hk) _) pt<|sn'<|?_
  refine Zaw lk (fun hc2=>?_) (fun hc2=>?_)
  ·refine wr'<|mw<|mw<|sn'<|Zaa<|Zaq<|Zai<|Zai<|Zaq<|Zai<|Zae rz<|rT'<|?_
   refine ivx ?_
   have hf:l.findIdx p=k:=Zfn hk (by simpa using hc2) (fun j hj=>hk2 j om hj)
   rw[idxV,hf,if_pos hk]
  refine Zaf<|Zaz<|Zah<|Zav<|?_
  refine V' (Zay lk lki om om) pt ?_
  refine mw<|Zas<|ZaB<|?_
  refine lT' (k+1) (by (try dsimp only);refine⟨by omega,fun j hj h0=>?_⟩;by_cases e:j=k;subst e;simpa using hc2;exact hk2 j hj om)
 refine ZaQ<|ZaD<|ZaD<|Zba<|Zah<|wr'<|mw<|sn'<|Zaa<|Zae rz<|rT'<|?_
 refine ivx ?_
 have hf:l.findIdx p=l.length:=List.findIdx_eq_length.2 (fun x hx=>by obtain⟨i,hi,rfl⟩:=List.getElem_of_mem hx;exact hk2 i hi om)
 rw[idxV,hf,if_neg om]
end Go.Proofs.YtlekejpogddndaaGreatDoor
end
section
namespace Go.Proofs.YtlekejpogddndaaGreatDoor
open Go.Ab Civ
attribute [local simp] Zb3
section
theorem ZoF {a0 a1 a2:AV}{l:List AV}:(a0::a1::a2::l).take 3=[a0,a1,a2]:=rfl
theorem Zck {a0 a1 a2 c0 c1 c2:AV}{l:List AV}:setCells (a0::a1::a2::l) 0 [c0,c1,c2]=c0::c1::c2::l:=rfl
theorem Zbz {a0 a1 a2:AV}{l:List AV}:((a0::a1::a2::l).drop 0).take 3=[a0,a1,a2]:=rfl
theorem Zff {τ:Operand→AV}{y0 y1:Operand}{x0_0 x0_1 x0_2 x1_0:AV}(h0:Zat (τ y0)=some [x0_0,x0_1,x0_2]) (l0:[x0_0,x0_1,x0_2].all leaf=true) (h1:Zat (τ y1)=some [x1_0]) (l1:[x1_0].all leaf=true):Zar τ [(0,3,y0),(3,1,y1)] [(.v (.int .i64 0)),(.v (.int .i64 0)),(.v (.string ⟨#[]⟩)),(.sl 0 0 true [])]=some [x0_0,x0_1,x0_2,x1_0]:=by
 simp only[Zar,h0,l0,h1,l1]
 rfl
theorem Zfe {τ:Operand→AV}{y0:Operand}{x0_0 x0_1 x0_2 x0_3:AV}(h0:Zat (τ y0)=some [x0_0,x0_1,x0_2,x0_3]) (l0:[x0_0,x0_1,x0_2,x0_3].all leaf=true):Zar τ [(0,4,y0)] [(.v (.int .i64 0)),(.v (.int .i64 0)),(.v (.string ⟨#[]⟩)),(.sl 0 0 true [])]=some [x0_0,x0_1,x0_2,x0_3]:=by
 simp only[Zar,h0,l0]
 rfl
theorem Zjl { e:Ent}:([]:AH)++[e]=[e]:=rfl
theorem ZhH {e0 e1 e2 d0:Ent}:([e0,e1,e2]:AH)++[d0]=[e0,e1,e2,d0]:=rfl
theorem ZhG {a0 a1 a2 a3:AV}{l:List AV}:((a0::a1::a2::a3::l).drop 0).take 4=[a0,a1,a2,a3]:=rfl
theorem Zlv {τ:Operand→AV}:Zar τ [] [(.v (.int .i64 0)),(.v (.int .i64 0)),(.v (.string ⟨#[]⟩))]=some [(.v (.int .i64 0)),(.v (.int .i64 0)),(.v (.string ⟨#[]⟩))]:=rfl
theorem Zjy {τ:Operand→AV}:Zar τ [] [(.v (.int .i64 0)),(.v (.int .i64 0)),(.v (.string ⟨#[]⟩))]=some [(.v (.int .i64 0)),(.v (.int .i64 0)),(.v (.string ⟨#[]⟩))]:=rfl
end
def c147:AC:=(Sr [Oo 2 (.new 29 3 [(iv 0),(iv 0),Ss])] (.seq (Sr [Mv 4 0,Nk 5 4,Fa 6 0 5,Fa 7 3 6,Ld 8 7,Oo 9 (.len false (.tmp 8)),Mv 3 9] (Sr [Mv 10 3,Bc 11 .gtr 10 0] (Cd 11 (Sr [Mv 12 0,Nk 13 12,Fa 14 0 13,Fa 15 3 14,Ld 16 15,Mv 17 3,Bc 18 .sub 17 1,Oo 19 (.ia 4 (.tmp 16) (.tmp 18)),Fa 20 1 19,Oo 21 (.load true 3 (.tmp 20)),⟨none,none,(.store 3 (.tmp 2) (.tmp 21))⟩] .ret) .skip))) (Sr [Mv 22 0,Nk 23 22,Fa 24 0 23,Fa 25 0 24,Oo 26 (.load true 3 (.tmp 25)),⟨none,none,(.store 3 (.tmp 2) (.tmp 26))⟩] .ret)))
theorem k147:ZaA Tryz.prog 147=some ⟨c147,[(.cell 2 true 3)],27⟩:=by kernel_rfl
def c146:AC:=(Sr [Oo 2 (.box 68 4 (.tmp 0)),Mb 3 false] (Sr [Fa 4 0 2,Ld 5 4,Ld 6 1,Bn 7 .gtr 5 6,Mv 3 7] .ret))
theorem k146:ZaA Tryz.prog 146=some ⟨c146,[(.tmp 3)],8⟩:=by kernel_rfl
def c71:AC:=(Sr [Oo 2 (.box 40 4 (.tmp 0)),Oo 3 (.box 3 1 (.tmp 1)),Oo 4 (.new 29 3 [(iv 0),(iv 0),Ss])] (Sr [Fa 7 3 2,Ld 8 7,Oo 9 (.mkfn 146 [(.tmp 3)]),Cl 10 145 [(.tmp 8),(.tmp 9)],Mv 5 10] (.seq (Sr [Mv 11 5,Bc 12 .lss 11 0] (Cd 12 (.reg [Fa 13 3 2,Ld 14 13,Oo 15 (.len false (.tmp 14)),Mv 5 15]) .skip)) (Sd [Fa 16 0 2,Oo 17 (.load true 3 (.tmp 16)),Fa 18 3 2,Ld 19 18,Mv 20 5,Oo 21 (.slc 4 (.tmp 19) none (some (.tmp 20)) none),Oo 22 (.build [(iv 0),(iv 0),Ss,(.sl 0 0 true [])] [(0,(3,(.tmp 17))),(3,(1,(.tmp 21)))]),Oo 23 (.build [(iv 0),(iv 0),Ss,(.sl 0 0 true [])] [(0,(4,(.tmp 22)))]),Oo 24 (.box 198 4 (.tmp 23)),Mv 6 24] (Sr [Mv 25 6,Cl 26 147 [(.tmp 25)],⟨none,none,(.store 3 (.tmp 4) (.tmp 26))⟩] .ret)))))
theorem k71:ZaA Tryz.prog 71=some ⟨c71,[(.cell 4 true 3)],27⟩:=by kernel_rfl
def c17:AC:=(Sr [Oo 2 (.box 40 4 (.tmp 0)),Oo 4 (.new 29 3 [(iv 0),(iv 0),Ss]),Mc 5 0] (.seq (Sr [Oo 7 (.load true 4 (.tmp 2)),Cl 8 23 [(.tmp 7)],Mv 6 8] (Sr [Mv 9 6,Bc 10 .neq 9 0] (Cd 10 (Sr [Oo 11 (.build [(iv 0),(iv 0),Ss] []),Mv 12 6,⟨none,none,(.store 3 (.tmp 4) (.tmp 11))⟩,Mv 5 12] .ret) .skip))) (.seq (Sr [Mv 13 1,Cl 14 70 [(.tmp 13)],Oo 15 (.un .not (.tmp 14))] (Cd 15 (Sr [Oo 16 (.build [(iv 0),(iv 0),Ss] []),⟨none,none,(.store 3 (.tmp 4) (.tmp 16))⟩,Mc 5 3] .ret) .skip)) (Sr [Oo 17 (.load true 4 (.tmp 2)),Mv 18 1,Cl 19 71 [(.tmp 17),(.tmp 18)],⟨none,none,(.store 3 (.tmp 4) (.tmp 19))⟩,Mc 5 0] .ret))))
theorem k17:ZaA Tryz.prog 17=some ⟨c17,[(.cell 4 true 3),(.tmp 5)],20⟩:=by kernel_rfl
abbrev locC (l:Loc):List AV:=[iv l.1,iv l.2.1,sv l.2.2]
theorem there1_a {c:Chg}{n:Int}{h:AH}:Ac 146 [.agg [iv c.1,iv c.2.1,iv c.2.2.1,sv c.2.2.2],.rp [iv n]] h (bv (decide (n<c.1))):=by
 refine tI' k146 fun N hn hlt hlA hbd=>?_
 simp only[tb'] at hbd ⊢
 refine wr'<|E' (Zbd cv rfl (hl0 hn) ha0) pt<|mw<|sn'<|wr'<|Vw (Zab lk)<|Vw (Zac lk gx gt0)<|Vw (ZaE lk gt)<|Vw (ZbD lk lk)<|mw<|Zas<|?_
 refine Zah<|Zaa<|Zae rz<|rT'<|?_
 refine bvx ?_;first | rfl | (rw[Bool.eq_iff_iff];simp)
theorem indexF_a {p:Chg→Bool}{f:FuncId}{caps:List AV}(hp : ∀ (c:Chg) (h:AH),ACalls Tryz.prog f ([.agg [iv c.1,iv c.2.1,iv c.2.2.1,sv c.2.2.2]]++caps) h fun x h'=>h'=h∧x=.ret (bv (p c))) {l:List Chg}{full:Bool}{h:AH}(hl:l.length≤9223372036854775807) :
  Ac 145 [.sl l.length 4 full (rows chgC l),.clo (.func f) caps] h (iv (if l.findIdx p<l.length then (l.findIdx p:Int) else -1)):=ixChgC_a (fun c _ E=>hp c _) hl
def Zgs (a:Loc):List Chg→Loc
 | []=>a
 | c::l=>Zgs c.2 l
theorem Zgr : ∀ {a:Loc}{l:List Chg}(h:0<l.length),Zgs a l=(l[l.length-1]'(by omega)).2
 | a,[c],_=>rfl
 | a,c::d::l,_=>by
  rw[Zgs,Zgr (l:=d::l) (by simp)]
  rfl
def ZiZ (t:Tab) (n:Int):Nat:=t.2.findIdx (fun c=>decide (n<c.1))
theorem ZtL (t:Tab) (n:Int):ZiZ t n≤t.2.length:=List.findIdx_le_length
def Zbu (t:Tab) (n:Int):Loc:=Zgs t.1 (t.2.take (ZiZ t n))
theorem ZsE {a b:Int}{c:ByteArray}{l:List Chg}{full:Bool}{id v0 ty:Nat}{h:AH}(h1:h[id]?=some (.mk v0 ty 4 [iv a,iv b,sv c,.sl l.length 4 full (rows chgC l)])) (hl:l.length≤9223372036854775807) :
  Ac 147 [.ptr id v0 0] h (.agg [iv (Zgs (a,b,c) l).1,iv (Zgs (a,b,c) l).2.1,sv (Zgs (a,b,c) l).2.2]):=by
 have hid:id<h.length:=(List.getElem?_eq_some_iff.1 h1).1
 refine tI' k147 fun N hn hlt hlA hbd=>?_
 simp only[tb'] at hbd ⊢
 refine wr'<|E' (ZaV (hl0 hn) ha0) pt<|sn'<|Zam<|wr'<|mw<|Vw (Zbr lk)<|Vw (Zab lk)<|Vw (Zab lk)<|Vw (Zac lk (ZdW h1) gt3)<|Vw (ZaL lk)<|?_
 refine mw<|sn'<|wr'<|mw<|Vw (ZbD lk lki)<|sn'<|?_
 refine cd' lk (fun hc1=>?_) (fun hc1=>?_)
 ·have hl0:0<l.length:=by omega
  refine wr'<|mw<|Vw (Zbr lk)<|Vw (Zab lk)<|Vw (Zab lk)<|Vw (Zac lk (ZdW h1) gt3)<|mw<|?_
  refine V' (Zbt lk lki om om) pt ?_
  refine V' (Za0 (k:=l.length-1) lk lk Zcb (nb' rfl) ro om ro rfl) pt ?_
  refine Vw (ZbM lk dp1)<|Vw (ZaI lk ZoF rfl)<|E' (Zak lk cv gx rfl (nb' rfl) rfl Zck (hs0 hn)) ptn<|sn'<|Zaa<|Zai<|Zae (rs1 (rr_c gt gx (ld1 Zbz rfl)))<|rT'<|?_
  rw[Zgr hl0]
 have hl0:l=[]:=List.eq_nil_of_length_eq_zero om
 refine Zaf<|Zah<|wr'<|mw<|Vw (Zbr lk)<|Vw (Zab lk)<|Vw (Zab lk)<|Vw (Zan lk (ZdW h1) Zbz rfl)<|E' (Zak lk cv gx rfl (nb' rfl) rfl Zck (hs0 hn)) ptn<|sn'<|Zaa<|Zae (rs1 (rr_c gt gx (ld1 Zbz rfl)))<|?_
 refine rT' ?_
 subst hl0;rfl
theorem ZrP {t:Tab}{n:Int}{full:Bool}{h:AH}(hl:t.2.length≤9223372036854775807) :
  Ac 71 [.agg [iv t.1.1,iv t.1.2.1,sv t.1.2.2,.sl t.2.length 4 full (rows chgC t.2)],iv n] h (.agg [iv (Zbu t n).1,iv (Zbu t n).2.1,sv (Zbu t n).2.2]):=by
 have haf:=ZtL t n
 refine tI' k71 fun N hn hlt hlA hbd=>?_
 simp only[tb'] at hbd ⊢
 refine wr'<|E' (Zbd cv rfl (hl0 hn) ha0) pt<|E' (Zbd cv rfl (hl1 hn) ha1) pt<|E' (ZaV (hl2 hn) ha2) pt<|Zas<|?_
 refine Za5 (ALe.icePtr gx gt3 (by simp) pt3 (hs1 hn)) ?_
 refine wr'<|Vw (Zab lk)<|Vw (Zac lk gx gt3)<|Vw (Zf8 mp)<|?_
 refine Zad mp (indexF_a (p:=fun c=>decide (n<c.1)) (l:=t.2) (fun c h=>there1_a) hl) pt ?_
 refine mw<|sn'<|Zam<|wr'<|mw<|Vw (Zbb lk lki)<|sn'<|?_
 refine cd' lk (fun hc1=>?_) (fun hc1=>?_)
 ·have he:ZiZ t n=t.2.length:=by have haf2:=haf;unfold ZiZ at haf2 ⊢;rcases Nat.lt_or_ge (t.2.findIdx fun c=>decide (n<c.1)) t.2.length with e | e;rw[if_pos e] at hc1;omega;omega
  refine Zav<|Vw (Zab lk)<|Vw (Zac lk gx gt3)<|Vw (ZaL lk)<|mw<|sn'<|Zam<|ZbZ<|Dw (Zab lk)<|Dw (Zan lk gx Zbz rfl)<|Dw (Zab lk)<|Dw (Zac lk gx gt3)<|Dw (v_mv lk)<|?_
  refine D' (v_hi (k:=t.2.length) lk lk Zcb ro om ro) pt ?_
  refine Dw (Zau (Zff cv rfl cv rfl))<|Dw (Zau (Zfe cv rfl))<|ZmE rfl rfl (hlk hn rfl) (l_box cv rfl) pt Zjl<|Dw (v_mv lk)<|ZbI<|?_
  refine ZnZ ZhH ?_
  refine sn'<|wr'<|mw<|?_
  refine Zad mp (ZsE (l:=t.2.take t.2.length) gx (by rw[List.length_take];omega)) pt ?_
  refine E' (Zak lk cv gx rfl (nb' rfl) rfl Zck (hs2 hn)) ptn<|sn'<|Zaa<|Zae (rs1 (rr_c gt gx (ld1 Zbz rfl)))<|rT'<|?_
  rw[Zbu,he]
 have he:t.2.findIdx (fun c=>decide (n<c.1))<t.2.length:=by rcases Nat.lt_or_ge (t.2.findIdx fun c=>decide (n<c.1)) t.2.length with e | e;exact e;rw[if_neg om] at hc1;omega
 rw[if_pos he] at *
 refine Zaf<|Zah<|Zam<|ZbZ<|Dw (Zab lk)<|Dw (Zan lk gx Zbz rfl)<|Dw (Zab lk)<|Dw (Zac lk gx gt3)<|Dw (v_mv lk)<|?_
 refine D' (v_hi (k:=ZiZ t n) lk lk Zcb ro om ro) pt ?_
 refine Dw (Zau (Zff cv rfl cv rfl))<|Dw (Zau (Zfe cv rfl))<|ZmE rfl rfl (hlk hn rfl) (l_box cv rfl) pt Zjl<|Dw (v_mv lk)<|ZbI<|?_
 refine ZnZ ZhH ?_
 refine sn'<|wr'<|mw<|?_
 refine Zad mp (ZsE (l:=t.2.take (ZiZ t n)) gx (by rw[List.length_take];omega)) pt ?_
 exact E' (Zak lk cv gx rfl (nb' rfl) rfl Zck (hs2 hn)) ptn<|sn'<|Zaa<|Zae (rs1 (rr_c gt gx (ld1 Zbz rfl)))<|rT' rfl
theorem ZrJ {t:Tab}{n:Int}{full:Bool}{h:AH}(ht:okT t) :
  Ac 17 [.agg [iv t.1.1,iv t.1.2.1,sv t.1.2.2,.sl t.2.length 4 full (rows chgC t.2)],iv n] h (.tup [.agg (locC (if Za9 t=0∧Zda n=true then Zbu t n else (0,0,⟨#[]⟩))),iv (if Za9 t≠0 then Za9 t else if Zda n=true then 0 else 3)]):=by
 refine tI' k17 fun N hn hlt hlA hbd=>?_
 simp only[tb'] at hbd ⊢
 refine wr'<|E' (Zbd cv rfl (hl0 hn) ha0) pt<|E' (ZaV (hl1 hn) ha1) pt<|mw<|sn'<|Zam<|wr'<|Vw (Zan lk gx ZhG rfl)<|Zad mp (Zn9 (l:=t.2) ht.1 ht.2) pt<|mw<|Zas<|?_
 refine Zah<|wr'<|mw<|Vw (ZaT lk lki)<|sn'<|?_
 refine cd' lk (fun hc1=>?_) (fun hc1=>?_)
 ·have hv:Za9 t≠0:=hc1
  refine wr'<|Vw (Zau Zlv)<|mw<|E' (Zak lk cv gx rfl (nb' rfl) rfl Zck (hs1 hn)) ptn<|mw<|sn'<|Zaa<|Zai<|Zae (rsn (rm1 (rr_c gt gx (ld1 Zbz rfl)) (rm1 (rr_t gt) rm0)))<|rT'<|?_
  rw[if_neg (fun e=>hv e.1),if_pos hv]
 have hv:Za9 t=0:=Decidable.of_not_not hc1
 refine Zaf<|Zah<|Zam<|wr'<|mw<|Zad mp (ZrN) pt<|Vw (Zax lk)<|sn'<|?_
 refine Zaw lk (fun hc2=>?_) (fun hc2=>?_)
 ·have hb:Zda n=false:=by simpa using hc2
  refine wr'<|Vw (Zau Zjy)<|E' (Zak lk cv gx rfl (nb' rfl) rfl Zck (hs1 hn)) ptn<|mw<|sn'<|Zaa<|Zai<|Zae (rsn (rm1 (rr_c gt gx (ld1 Zbz rfl)) (rm1 (rr_t gt) rm0)))<|rT'<|?_
  rw[if_neg (by rw[hb];simp),if_neg (by simpa using hv),if_neg (by rw[hb];simp)]
 have hb:Zda n=true:=by simpa using hc2
 refine Zaf<|Zah<|wr'<|Vw (Zan lk gx ZhG rfl)<|mw<|?_
 refine Zad mp (ZrP (t:=t) (by have:=Zkb hv;omega)) pt ?_
 refine E' (Zak lk cv gx rfl (nb' rfl) rfl Zck (hs1 hn)) ptn<|mw<|sn'<|Zaa<|Zae (rsn (rm1 (rr_c gt gx (ld1 Zbz rfl)) (rm1 (rr_t gt) rm0)))<|rT'<|?_
 rw[if_pos ⟨hv,hb⟩,if_neg (by simpa using hv),if_pos hb]
theorem ZpB : ∀ {a:Int}{l:Loc}{cs:List Chg},chk a l cs=0→(∀ c∈cs,a<c.1)∧cs.Pairwise (fun c d=>c.1<d.1)
 | a,l,[],_=>⟨by simp,List.Pairwise.nil⟩
 | a,l,d::cs,h=>by
  rw[chk] at h
  split at h
  ·cases h
  split at h
  ·cases h
  rename_i h1 h2
  split at h
  ·rename_i h3;exact absurd h h3
  split at h
  ·cases h
  obtain⟨k1,k2⟩:=ZpB h
  refine⟨fun c hc=>?_,List.Pairwise.cons k1 k2⟩
  rcases List.mem_cons.1 hc with rfl | hc
  ·omega
  have:=k1 c hc;omega
theorem Zoa {t:Tab}(h:Za9 t=0):t.2.Pairwise (fun c d=>c.1<d.1):=by
 obtain⟨h1,h2,_⟩:=Zdy h
 unfold Za9 at h
 rw[if_neg om,if_neg (by rw[h2];simp)] at h
 exact (ZpB h).2
end Go.Proofs.YtlekejpogddndaaGreatDoor
end
section
namespace Go.Ab
section
variable {P : Program} {n0 : Nat} {Q : AX → List AV → AH → Prop} {T : List AV} {h : AH} {a : AC}
theorem ZoJ {b:AC}{ι:Type}(f:ι→List (Nat×AV)) (H:ι→AH) (J:ι→Prop) (ha:aw P n0 a (AX.thn (fun T' h' => ∃ i,J i∧ALe n0 T' h' (Zdr T (f i)) (H i)) Q) T h) (hb : ∀ i,J i→aw P n0 b Q (Zdr T (f i)) (H i)):aw P n0 (.seq a b) Q T h :=
 w_seqc (fun i=>(Zdr T (f i),H i)) J ha hb
theorem SimH.renew {w:World}{g:Gh}{h:AH}(hs:SimH w g h) {id v':Nat}(hid:id<h.length) (hb : ∀ ver l,g.loc id ver=some l→ver<v') (A:Option Addr) (ty st:Nat) :
  SimH w (g.add id v' (A,0)) (h.set id (.mk v' ty st []))∧g.le (g.add id v' (A,0)) ∧ ∀ k,Ow (g.add id v' (A,0)) (h.set id (.mk v' ty st [])) k→Ow g h k:=by
 have hloc : ∀ i v l,g.loc i v=some l→(g.add id v' (A,0)).loc i v=some l:=by
  intro i v l hi
  simp only[Gh.add]
  rw[if_neg]
  ·exact hi
  ·rintro⟨rfl,rfl⟩;exact Nat.lt_irrefl _ (hb _ _ hi)
 have:=hs.put (w':=w) (g':=g.add id v' (A,0)) (h':=h.set id (.mk v' ty st [])) id v' ty st [] A 0 ?_ ?_ ?_ rfl hloc ?_ ?_ (fun v l hl=>Nat.le_of_lt (hb v l hl)) (fun k hk=>rfl) (Nat.le_refl _) (by simp[maxLen]) (.inl ⟨rfl,rfl⟩) (fun _ _ h=>absurd rfl h)
 ·exact⟨this.1,this.2.1,fun k hk=>(this.2.2 k hk).resolve_right (fun h=>h.2 rfl)⟩
 ·intro i hi
  rw[List.getElem?_set_ne (Ne.symm hi)]
 ·rw[List.getElem?_set_self hid]
 ·simp
 ·intro i v l hi
  simp only[Gh.add] at hi
  split at hi
  ·right;assumption
  ·left;exact hi
 ·simp[Gh.add]
theorem ZlY {h:AH}{i j:Nat}{x y z:Ent}(hne:j≠i):((h.set i x).set j y).set i z=(h.set i z).set j y:=by
 rw[List.set_comm _ _ hne,List.set_set]
theorem ALe.iceCellNew {T:List AV}{h h1 h2:AH}{id j ver ty s n k v' t' s' ty2 st2:Nat}{cells cs cs' ds:List AV}(hi:h[id]?=some (.mk ver ty s cells)) (hj:h[j]?=some (.mk v' t' s' cs)) (hne:j≠id) (hk:cs[k]?=some (.own id ver n)) (hc:cells.take (n*s)=ds) (hl:n*s≤cells.length) (hp:aPut cs (some k) (.sl n s false ds)=cs')
  (e1:h.set id (.mk (ver+1) ty2 st2 [])=h1) (e2:h1.set j (.mk v' t' s' cs')=h2):ALe n0 T h T h2:=fun w0 S0 g0 a w g st=>by
 subst hp hc e1 e2
 have hid:id<h.length:=(List.getElem?_eq_some_iff.1 hi).1
 obtain⟨h1,h2,h3⟩:=st.sim.ice hi
 have htm:=RepL.mono (g.le_ice h id) (fun _ _=>rfl) _ _ st.tmps
 obtain⟨k1,k2⟩:=h1.tell (id:=j) (by rw[List.getElem?_set_ne (Ne.symm hne)];exact hj) hk (fun u hu=>h3 n u hl (by
  simp only[Rep] at hu ⊢
  exact hu))
 obtain⟨r1,r2,r3⟩:=k1.renew (id:=id) (v':=ver+1) (by simpa using hid) (fun v l hv=>by
  have:=(st.sim.fresh id v l hv).2 _ _ _ _ hi
  omega) none ty2 st2
 have htm2:=RepL.mono r2 (fun _ _=>rfl) _ _ htm
 rw[ZlY hne] at r1 r3
 exact⟨_,htm2,st.defers,r1,st.fr,(st.le.trans (g.le_ice h id)).trans r2,st.bd,fun i hi=>st.ow i (h2 i (k2 i (r3 i hi)))⟩
theorem ALe.own0CellRe {T:List AV}{h h1:AH}{id j ver ty s v' t' s' k st st2 ty2:Nat}{cells cs ds cs':List AV}(hi:h[id]?=some (.mk ver ty s cells)) (hj:h[j]?=some (.mk v' t' s' cs)) (hne:j≠id) (hk:cs[k]?=some (.sl 0 st true ds)) (hp:aPut cs (some k) (.own id (ver+1) 0)=cs') (he:(h.set id (Ent.mk (ver+1) ty2 st2 [])).set j (Ent.mk v' t' s' cs')=h1):ALe n0 T h T h1:=fun w0 S0 g0 a w g s=>by
 subst he hp
 obtain⟨A1,cap1,l1,l2,l3⟩:=s.sim.ent _ _ _ _ _ hj
 have hid:id<h.length:=(List.getElem?_eq_some_iff.1 hi).1
 have hjl:j<h.length:=(List.getElem?_eq_some_iff.1 hj).1
 rcases l3 with ⟨h0,_⟩ | ⟨b,arr,rfl,x1,x2,x3,x4,x5,x6⟩
 ·rw[h0] at hk;simp at hk
 obtain⟨u,hu,hr⟩:=x6.get hk
 have hcell:w.cell? ⟨b,k,none⟩=some u:=by
  rw[cell_of_row w b k arr t' (0,0) x3]
  rw[List.getElem?_take] at hu
  split at hu
  ·simpa using hu
  ·cases hu
 simp only[Rep] at hr
 obtain⟨_,A,cap,rfl,_,_,hc,_,_⟩:=hr
 obtain rfl:cap=0:=(hc trivial).symm
 obtain⟨q1,q2,q3⟩:=s.sim.renew (id:=id) (v':=ver+1) hid (fun v l hv=>by
  have:=(s.sim.fresh id v l hv).2 _ _ _ _ hi
  omega) A ty2 st2
 have htm:=RepL.mono q2 (fun _ _=>rfl) _ _ s.tmps
 obtain⟨r1,r2⟩:=q1.tell1 (id:=j) (c':=.own id (ver+1) 0) (by rw[List.getElem?_set_ne (Ne.symm hne)];exact hj) hk (by
  intro b' cap' u' e1 e2 _
  have:=q2.loc _ _ _ l1
  rw[this] at e1
  simp only[Option.some.injEq,Prod.mk.injEq,Addr.mk.injEq] at e1
  obtain⟨⟨rfl,_⟩,_⟩:=e1
  rw[hcell] at e2
  cases e2
  exact Zb4 (Nat.le_refl _) (by simp[maxLen]))
 exact⟨_,htm,s.defers,r1,s.fr,s.le.trans q2,s.bd,fun i hi=>s.ow i (q3 i (r2 i hi))⟩
theorem ALe.newEnt {T:List AV}{h h1:AH}{ty st:Nat}(he:h++[.mk 0 ty st []]=h1):ALe n0 T h T h1:=fun w0 S0 g0 a w g s=>by
 subst he
 obtain⟨q1,q2,q3⟩:=s.sim.add0 (w':=w) none ty st (fun _ _=>rfl) (Nat.le_refl _)
 exact⟨_,RepL.mono q2 (fun _ _=>rfl) _ _ s.tmps,s.defers,q1,s.fr,s.le.trans q2,s.bd,fun i hi=>(q3 i hi).elim (s.ow i) (fun h=>.inr (Nat.le_trans s.fr.size h))⟩
end
end Go.Ab
end
section
namespace Go.Ab
section
variable {P : Program}
abbrev dfo:Obj:=.deferred (some [])
abbrev mkD (D:Nat):Ent:=.raw D dfo [] []
theorem putA (w:World) (k j:Nat) (o:Obj) (h:j≠k):(w.putObj k o).heap[j]?=w.heap[j]?:=World.putObj_heap_other h
theorem raw_or {h:AH}{i:Nat}{e:Ent}{j k:Nat}{o:Obj}{T:List AV}{vs:List Value}(h1:(h.set i e)[j]?=some (.raw k o T vs)):(j=i∧e=.raw k o T vs)∨(j≠i∧h[j]?=some (.raw k o T vs)):=by
 by_cases hi:j=i
 ·subst hi
  by_cases hl:j<h.length
  ·rw[List.getElem?_set_self hl] at h1;cases h1;exact .inl ⟨rfl,rfl⟩
  ·rw[List.getElem?_eq_none (by simpa using hl)] at h1;cases h1
 ·rw[List.getElem?_set_ne (Ne.symm hi)] at h1;exact .inr ⟨hi,h1⟩
theorem SimH.setRaw {w:World}{g:Gh}{h:AH}(hs:SimH w g h) {i k:Nat}{o o':Obj}{T:List AV}{vs:List Value}(hi:h[i]?=some (.raw k o T vs)) (ho:o'.isCells=false) (e:Ent) (he:e=.raw k o' T vs∨e=.gone) :
  SimH (w.putObj k o') g (h.set i e)∧Fr w (Ow g h) (w.putObj k o') ∧ ∀ j,Ow g (h.set i e) j→Ow g h j:=by
 have hil:i<h.length:=(List.getElem?_eq_some_iff.1 hi).1
 obtain⟨r1,r2,r3,r4⟩:=hs.raw _ _ _ _ _ hi
 have hkl:k<w.heap.size:=(Array.getElem?_eq_some_iff.1 r1).1
 have hget : ∀ {j v ty s:Nat} {c:List AV},(h.set i e)[j]?=some (.mk v ty s c)→j≠i∧h[j]?=some (.mk v ty s c):=by
  intro j v ty s c h1
  by_cases hj:j=i
  ·subst hj
   rw[List.getElem?_set_self hil] at h1
   rcases he with rfl | rfl <;> cases h1
  ·rw[List.getElem?_set_ne (Ne.symm hj)] at h1;exact⟨hj,h1⟩
 have how : ∀ j b,OwAt g (h.set i e) j b→OwAt g h j b:=by
  rintro j b ⟨v,ty,s,c,a,cap,e1,e2⟩
  exact⟨v,ty,s,c,a,cap,(hget e1).2,e2⟩
 have hrw : ∀ {j b:Nat} {x:Obj} {T':List AV} {vs':List Value},(h.set i e)[j]?=some (.raw b x T' vs')→(j=i∧b=k∧x=o'∧T'=T∧vs'=vs)∨(j≠i∧h[j]?=some (.raw b x T' vs')):=by
  intro j b x T' vs' h1
  rcases raw_or h1 with ⟨h2,h3⟩ | h2
  ·rcases he with rfl | rfl <;> cases h3
   exact .inl ⟨h2,rfl,rfl,rfl,rfl⟩
  ·exact .inr h2
 have hrw' : ∀ j b,RwAt (h.set i e) j b→RwAt h j b:=by
  rintro j b ⟨x,T',vs',h1⟩
  rcases hrw h1 with ⟨rfl,rfl,_⟩ | ⟨_,h2⟩
  ·exact⟨_,_,_,hi⟩
  ·exact⟨_,_,_,h2⟩
 have hD : ∀ b,g.D b→(w.putObj k o').heap[b]?=w.heap[b]?:=fun b hb=>putA _ _ _ _ (fun e=>r3 (e ▸ hb))
 have hne : ∀ {j b:Nat},OwAt g h j b→b≠k:=fun hb e=>hs.own_ne_raw hb (by subst e;exact⟨o,T,vs,hi⟩)
 refine⟨⟨?_,fun a b c h1 h2=>hs.inj a b c (how _ _ h1) (how _ _ h2),fun b hb=>by simpa using hs.lt b hb,fun j v l hl=>?_,fun j v l hl hf=>?_,hs.glob.mono (fun _ h=>h) hD,?_,fun a b c h1 h2=>hs.rinj a b c (hrw' _ _ h1) (hrw' _ _ h2)⟩,⟨rfl,rfl,rfl,by simp,fun b _ hn=>putA _ _ _ _ (fun e=>hn (.inr ⟨i,o,T,vs,by subst e;exact hi⟩))⟩,fun j hj=>hj.imp (fun ⟨a,h1⟩=>⟨a,how _ _ h1⟩) (fun ⟨a,h1⟩=>⟨a,hrw' _ _ h1⟩)⟩
 ·intro j v ty s c h1
  obtain⟨hj,h2⟩:=hget h1
  obtain⟨A,cap,e1,e2,e3⟩:=hs.ent _ _ _ _ _ h2
  refine⟨A,cap,e1,e2,e3.mono (Gh.le.refl g) (fun _ _ _ h=>h) hD (fun b hb h0=>?_)⟩
  cases A with
  | none=>simp at hb
  | some a=>exact putA _ _ _ _ (hne (j:=j) ⟨v,ty,s,c,a,cap,h2,e1,h0,by simpa using hb⟩)
 ·have:=hs.fresh j v l hl
  exact⟨by simpa using this.1,fun v' ty s c h1=>this.2 _ _ _ _ (hget h1).2⟩
 ·by_cases hj:j=i
  ·subst hj;rw[List.getElem?_set_self hil] at hf;rcases he with rfl | rfl <;> cases hf
  ·rw[List.getElem?_set_ne (Ne.symm hj)] at hf;exact hs.free _ _ _ hl hf
 ·intro j b x T' vs' h1
  rcases hrw h1 with ⟨rfl,rfl,rfl,rfl,rfl⟩ | ⟨hj,h2⟩
  ·exact⟨World.putObj_heap_same hkl,ho,r3,RepL.mono (Gh.le.refl g) hD _ _ r4⟩
  ·obtain⟨q1,q2,q3,q4⟩:=hs.raw _ _ _ _ _ h2
   exact⟨(putA _ _ _ _ (fun e=>hj (hs.rinj j i b ⟨_,_,_,h2⟩ ⟨o,T,vs,by subst e;exact hi⟩))).trans q1,q2,q3,RepL.mono (Gh.le.refl g) hD _ _ q4⟩
theorem SimH.newRaw {w:World}{g:Gh}{h:AH}(hs:SimH w g h) {o:Obj}{T:List AV}{vs:List Value}(ho:o.isCells=false) (hr:RepL w g T vs) :
  SimH (w.alloc o) g (h++[.raw w.heap.size o T vs])∧Fr w (Ow g h) (w.alloc o) ∧ ∀ j,Ow g (h++[.raw w.heap.size o T vs]) j→Ow g h j∨w.heap.size≤j:=by
 have hget : ∀ {j v ty s:Nat} {c:List AV},(h++[.raw w.heap.size o T vs])[j]?=some (.mk v ty s c)→h[j]?=some (.mk v ty s c):=by
  intro j v ty s c h1
  by_cases hj:j<h.length
  ·rwa [List.getElem?_append_left hj] at h1
  ·rw[List.getElem?_append_right om] at h1
   cases hk:j-h.length with
   | zero=>rw[hk] at h1;simp at h1
   | succ m=>rw[hk] at h1;simp at h1
 have hrw : ∀ {j b:Nat} {x:Obj} {T':List AV} {vs':List Value},(h++[.raw w.heap.size o T vs])[j]?=some (.raw b x T' vs')→(j=h.length∧b=w.heap.size∧x=o∧T'=T∧vs'=vs)∨h[j]?=some (.raw b x T' vs'):=by
  intro j b x T' vs' h1
  by_cases hj:j<h.length
  ·rw[List.getElem?_append_left hj] at h1;exact .inr h1
  ·rw[List.getElem?_append_right om] at h1
   cases hk:j-h.length with
   | zero=>rw[hk] at h1;simp at h1;obtain⟨rfl,rfl,rfl,rfl⟩:=h1;exact .inl ⟨by omega,rfl,rfl,rfl,rfl⟩
   | succ m=>rw[hk] at h1;simp at h1
 have how : ∀ j b,OwAt g (h++[.raw w.heap.size o T vs]) j b→OwAt g h j b:=by
  rintro j b ⟨v,ty,s,c,a,cap,e1,e2⟩
  exact⟨v,ty,s,c,a,cap,hget e1,e2⟩
 have hold : ∀ b,b<w.heap.size→(w.alloc o).heap[b]?=w.heap[b]?:=fun b hb=>Zs0 _ _ _ hb
 have hD : ∀ b,g.D b→(w.alloc o).heap[b]?=w.heap[b]?:=fun b hb=>hold b (hs.lt b hb)
 have hlt : ∀ {j b:Nat},RwAt h j b→b<w.heap.size:=fun hb=>(hs.own_not_D (.inr ⟨_,hb⟩)).2
 refine⟨⟨?_,fun a b c h1 h2=>hs.inj a b c (how _ _ h1) (how _ _ h2),fun b hb=>by have:=hs.lt b hb;simp;omega,fun j v l hl=>?_,fun j v l hl hf=>?_,hs.glob.mono (fun _ h=>h) hD,?_,?_⟩,⟨rfl,rfl,rfl,by simp,fun b hb _=>hold b hb⟩,?_⟩
 ·intro j v ty s c h1
  have h2:=hget h1
  obtain⟨A,cap,e1,e2,e3⟩:=hs.ent _ _ _ _ _ h2
  refine⟨A,cap,e1,e2,e3.mono (Gh.le.refl g) (fun _ _ _ h=>h) hD (fun b hb h0=>?_)⟩
  cases A with
  | none=>simp at hb
  | some a=>exact hold b (hs.own_not_D (.inl ⟨j,v,ty,s,c,a,cap,h2,e1,h0,by simpa using hb⟩)).2
 ·have:=hs.fresh j v l hl
  exact⟨by simp;omega,fun v' ty s c h1=>this.2 _ _ _ _ (hget h1)⟩
 ·have:=(hs.fresh j v l hl).1
  rw[List.getElem?_append_left this] at hf
  exact hs.free _ _ _ hl hf
 ·intro j b x T' vs' h1
  rcases hrw h1 with ⟨rfl,rfl,rfl,rfl,rfl⟩ | h2
  ·exact⟨World.alloc_heap_new w _,ho,fun hd=>Nat.lt_irrefl _ (hs.lt _ hd),RepL.mono (Gh.le.refl g) hD _ _ hr⟩
  ·obtain⟨q1,q2,q3,q4⟩:=hs.raw _ _ _ _ _ h2
   exact⟨(hold b (hlt ⟨_,_,_,h2⟩)).trans q1,q2,q3,RepL.mono (Gh.le.refl g) hD _ _ q4⟩
 ·rintro a b c ⟨x1,x2,x3,h1⟩ ⟨y1,y2,y3,h2⟩
  rcases hrw h1 with ⟨rfl,rfl,_⟩ | h1'
  ·rcases hrw h2 with ⟨rfl,_⟩ | h2'
   ·rfl
   ·exact absurd (hlt ⟨_,_,_,h2'⟩) (Nat.lt_irrefl _)
  ·rcases hrw h2 with ⟨rfl,rfl,_⟩ | h2'
   ·exact absurd (hlt ⟨_,_,_,h1'⟩) (Nat.lt_irrefl _)
   ·exact hs.rinj a b c ⟨_,_,_,h1'⟩ ⟨_,_,_,h2'⟩
 ·rintro b (⟨a,h1⟩ | ⟨a,x1,x2,x3,h1⟩)
  ·exact .inl (.inl ⟨a,how _ _ h1⟩)
  ·rcases hrw h1 with ⟨_,rfl,_⟩ | h2
   ·exact .inr (Nat.le_refl _)
   ·exact .inl (.inr ⟨a,_,_,_,h2⟩)
theorem St.start {w:World}{g:Gh}{h:AH}{T:List AV}{a:Act}(hs:SimH w g h) (ht:RepL w g T a.tmps.toList):St h.length w (Ow g h) ⟨g.D,g.loc,a.defers⟩ T h a w g :=
 ⟨ht,rfl,hs,Fr.refl _ _,⟨fun _ h=>h,fun _ _ _ h=>h⟩,fun i v l hl=>(hs.fresh i v l hl).1,fun k hk=>.inl hk⟩
structure LkY (w:World) (g:Gh) (h:AH) (w':World) (g':Gh) (h':AH):Prop where
 sim:SimH w' g' h'
 le:g.le g'
 fr:Fr w (Ow g h) w'
 ow : ∀ k,Ow g' h' k→Ow g h k∨w.heap.size≤k
theorem LkY.trans {a b c:World}{ga gb gc:Gh}{ha hb hc:AH}(h:LkY a ga ha b gb hb) (k:LkY b gb hb c gc hc):LkY a ga ha c gc hc:=by
 refine⟨k.sim,h.le.trans k.le,h.fr.trans k.fr ?_,?_⟩
 ·intro i hi hlt
  exact (h.ow i hi).resolve_right om
 ·intro i hi
  rcases k.ow i hi with ho | ho
  ·exact h.ow i ho
  ·exact .inr (Nat.le_trans h.fr.size ho)
theorem LkY.of_st {w w':World}{g g':Gh}{h h':AH}{n0:Nat}{df:List Deferred}{T:List AV}{a:Act}(st:St n0 w (Ow g h) ⟨g.D,g.loc,df⟩ T h' a w' g'):LkY w g h w' g' h':=⟨st.sim,⟨st.le.D,st.le.loc⟩,st.fr,st.ow⟩
theorem LkY.rep {w w':World}{g g':Gh}{h h':AH}(hs:SimH w g h) (k:LkY w g h w' g' h') {T:List AV}{vs:List Value}(ht:RepL w g T vs):RepL w' g' T vs :=
 RepL.mono k.le (fun b hb=>k.fr.block b (hs.lt b hb) (fun ho=>(hs.own_not_D ho).1 hb)) _ _ ht
theorem LkY.setRaw {w:World}{g:Gh}{h:AH}(hs:SimH w g h) {i k:Nat}{o o':Obj}{T:List AV}{vs:List Value}(hi:h[i]?=some (.raw k o T vs)) (ho:o'.isCells=false) (e:Ent) (he:e=.raw k o' T vs∨e=.gone):LkY w g h (w.putObj k o') g (h.set i e):=by
 obtain⟨h1,h2,h3⟩:=hs.setRaw hi ho e he
 exact⟨h1,Gh.le.refl g,h2,fun k hk=>.inl (h3 k hk)⟩
theorem LkY.newRaw {w:World}{g:Gh}{h:AH}(hs:SimH w g h) {o:Obj}{T:List AV}{vs:List Value}(ho:o.isCells=false) (hr:RepL w g T vs):LkY w g h (w.alloc o) g (h++[.raw w.heap.size o T vs]):=by
 obtain⟨h1,h2,h3⟩:=hs.newRaw ho hr
 exact⟨h1,Gh.le.refl g,h2,h3⟩
structure RgC where
 pre:List Code
 id:Nat
 g:Operand
 ps:Array Tmp
 asg:Code
 body:Code
 post:List Code
def Zs9:Code→List Code
 | .seq a b=>Zs9 a++Zs9 b
 | c=>[c]
def Zb0:List Code→Option RgC
 | []=>none
 | .block id (.rangeFunc g ps a b)::y=>some ⟨[],id,g,ps,a,b,y⟩
 | x::y=>(Zb0 y).map fun r=>{ r with pre:=x::r.pre }
def splitR (c:Code):Option RgC:=Zb0 (Zs9 c)
def wpL (F:Fence) (n:Nat) (P:Program):List Code→(Exit→Act→World→Prop)→Act→World→Prop
 | [],Q,a,w=>Q .normal a w
 | x::l,Q,a,w=>x.wpIn F n P (Exit.then (wpL F n P l Q) Q) a w
theorem Zky {F:Fence}{n:Nat} : ∀ {l:List Code}{Q Q':Exit→Act→World→Prop}{a:Act}{w:World},wpL F n P l Q a w→(∀ e a w,Q e a w→Q' e a w)→wpL F n P l Q' a w
 | [],Q,Q',a,w,hq,h=>h _ _ _ hq
 | x::l,Q,Q',a,w,hq,h=>by
  refine wpIn_mono hq ?_
  intro e a w hq
  cases e with
  | normal=>exact Zky hq h
  | _=>exact h _ _ _ hq
theorem Zkz {F:Fence}{n:Nat} : ∀ (l m:List Code) {Q:Exit→Act→World→Prop}{a:Act}{w:World},wpL F n P (l++m) Q a w↔wpL F n P l (Exit.then (wpL F n P m Q) Q) a w
 | [],m,Q,a,w=>Iff.rfl
 | x::l,m,Q,a,w=>by
  constructor
  ·intro hq
   refine wpIn_mono hq ?_
   intro e a w hq
   cases e with
   | normal=>exact (Zkz l m).1 hq
   | _=>exact hq
  ·intro hq
   refine wpIn_mono hq ?_
   intro e a w hq
   cases e with
   | normal=>exact (Zkz l m).2 hq
   | _=>exact hq
theorem Zqi {F:Fence}{n:Nat}(c:Code) : ∀ {Q:Exit→Act→World→Prop}{a:Act}{w:World},wpL F n P (Zs9 c) Q a w→c.wpIn F n P Q a w:=by
 fun_induction Zs9 c with
 | case1 x y ihx ihy =>
  intro Q a w hq
  refine wpIn_seq (wpIn_mono (ihx ((Zkz _ _).1 hq)) ?_)
  intro e a w hq
  cases e with
  | normal=>exact ihy hq
  | _=>exact hq
 | case2 c hc =>
  intro Q a w hq
  refine wpIn_mono (show c.wpIn F n P (Exit.then (wpL F n P [] Q) Q) a w from hq) ?_
  intro e a w hq
  cases e <;> exact hq
theorem ZrW : ∀ {l:List Code}{r:RgC},Zb0 l=some r→l=r.pre++Code.block r.id (.rangeFunc r.g r.ps r.asg r.body)::r.post:=by
 intro l
 fun_induction Zb0 l with
 | case1=>intro r h;cases h
 | case2 id g ps x b y=>intro r h;cases h;rfl
 | case3 x y hx ih =>
  intro r h
  obtain⟨r',h1,rfl⟩:=Option.map_eq_some_iff.1 h
  rw[ih h1];rfl
theorem ZlU {F:Fence}{n:Nat}{Q:Exit→Act→World→Prop}(c:Code) {r:RgC}(hc:splitR c=some r) {a:Act}{w:World}
  (hw:wpL F n P r.pre (Exit.then ((Code.block r.id (.rangeFunc r.g r.ps r.asg r.body)).wpIn F n P (Exit.then (wpL F n P r.post Q) Q)) Q) a w):c.wpIn F n P Q a w:=by
 refine Zqi c ?_
 rw[ZrW hc]
 exact (Zkz _ _).2 hw
structure AFR where
 pre:List AC
 g:Operand
 ps:Array Tmp
 asg:AC
 body:AC
 post:AC
 res:List AR
 ntmps:Nat
def ZhC (P:Program) (f:FuncId):Option AFR :=
 match P.funcs[f]? with
 | some fn=>if fn.name == "runtime.NumGoroutine" then none else match fn.body with
  | some c=>match splitR c with
   | some r=>match r.pre.mapM (comp P),comp P r.asg,comp P r.body,r.post.mapM (comp P),fn.results.toList.mapM (ZfW P) with
    | some p,some a,some b,some q,some rs=>some ⟨p,r.g,r.ps,a,b,q.foldr .seq .skip,rs,fn.ntmps⟩
    | _,_,_,_,_=>none
   | none=>none
  | none=>none
 | none=>none
theorem Zh3 {n0:Nat} : ∀ (l:List Code) (al:List AC),l.mapM (comp P)=some al → ∀ {Q:AX→List AV→AH→Prop}{T:List AV}{h:AH},aw P n0 (al.foldr .seq .skip) Q T h →
  ∀ w0 S0 g0 a w g,St n0 w0 S0 g0 T h a w g→wpL Fence.wide 0 P l (Zm9 n0 w0 S0 g0 Q) a w
 | [],al,hm,Q,T,h,hw,w0,S0,g0,a,w,g,st=>by
  simp at hm;subst hm
  exact⟨.normal,T,h,g,st,trivial,hw⟩
 | x::l,al,hm,Q,T,h,hw,w0,S0,g0,a,w,g,st=>by
  simp only[List.mapM_cons,Option.bind_eq_bind,Option.bind_eq_some_iff,Option.pure_def,Option.some.injEq] at hm
  obtain⟨ac,h1,al',h2,rfl⟩:=hm
  refine wpIn_mono (@Zfo P n0 rdN x ac h1 _ _ _ hw w0 S0 g0 a w g st) ?_
  rintro e a' w' ⟨z,T',h',g',k1,k2,k3⟩
  cases z <;> cases e <;> simp only[ExR] at k2 <;> simp only[Exit.then,AX.thn] at k3 ⊢
  case normal.normal =>
   obtain⟨T1,h1,hle,hq⟩:=k3
   obtain⟨g1,st1⟩:=hle w0 S0 g0 a' w' g' k1
   exact Zh3 l al' h2 hq w0 S0 g0 a' w' g1 st1
  case exit.exit=>exact⟨_,T',h',g',k1,by simp only[ExR];exact k2,k3⟩
  case ret.ret=>exact⟨_,T',h',g',k1,by simp only[ExR],k3⟩
  case pan.panic=>exact⟨_,T',h',g',k1,by simp only[ExR];exact k2,k3⟩
def setPs (T:List AV) (ps:Array Tmp) (as1:List AV):List AV:=(ps.toList.zip as1).foldl (fun T p=>T.set p.1 p.2) T
theorem Zl5 {w:World}{g:Gh} : ∀ (ps:List Tmp) (as1:List AV) (args:List Value) (T:List AV) (tm:List Value),RepL w g T tm→RepL w g as1 args →
  RepL w g ((ps.zip as1).foldl (fun T p=>T.set p.1 p.2) T) ((ps.zip args).foldl (fun T p=>T.set p.1 p.2) tm)
 | [],_,_,_,_,ht,_=>by simpa using ht
 | p::ps,[],args,T,tm,ht,ha=>by simp only[RepL] at ha;subst ha;simpa using ht
 | p::ps,c::as1,args,T,tm,ht,ha=>by
  simp only[RepL] at ha
  obtain⟨u,us,rfl,h1,h2⟩:=ha
  simp only[List.zip_cons_cons,List.foldl_cons]
  exact Zl5 ps as1 us _ _ (ht.set h1) h2
theorem ZjZ : ∀ (l:List (Tmp×Value)) (tm:Array Value),(l.foldl (fun t p=>t.setIfInBounds p.1 p.2) tm).toList=l.foldl (fun T p=>T.set p.1 p.2) tm.toList
 | [],tm=>rfl
 | p::l,tm=>by simp only[List.foldl_cons];rw[ZjZ l];simp
def ZtB (i l:Nat) (rdy bsy fin:Obj) (T:List AV) (vs:List Value) (R2:AE→AH→Prop):AX→List AV→AH→Prop
 | .normal,_,h=>h[i]?=some (.raw l bsy T vs)∧R2 (.ret (.v (.bool true))) (h.set i (.raw l rdy T vs))
 | .ret,_,h=>h[i]?=some (.raw l bsy T vs)∧R2 (.ret (.v (.bool false))) (h.set i (.raw l fin T vs))
 | _,_,_=>False
def asgQ (P:Program) (fr:AFR) (i l:Nat) (rdy bsy fin:Obj) (T:List AV) (vs:List Value) (R2:AE→AH→Prop) (x:AX) (T1:List AV) (h2:AH):Prop :=
 x=.normal∧h2[i]?=some (.raw l rdy T vs) ∧ ∀ n1,(h2.set i (.raw l bsy T vs)).length=n1→(∀ e∈h2.set i (.raw l bsy T vs),e.lt n1=true)→aw P n1 fr.body (ZtB i l rdy bsy fin T vs R2) T1 (h2.set i (.raw l bsy T vs))
def Zlm (P:Program) (fr:AFR) (i l:Nat) (rdy bsy fin:Obj) (T:List AV) (vs:List Value):Prop :=
 ∀ (as1:List AV) (h:AH) (R2:AE→AH→Prop),as1.length=fr.ps.size→h[i]?=some (.raw l rdy T vs) →
  (∀ n0,h.length=n0→(∀ e∈h,e.lt n0=true)→AV.ltL n0 as1=true→AV.bdL as1→AV.bdL T→aw P n0 fr.asg (asgQ P fr i l rdy bsy fin T vs R2) (setPs T fr.ps as1) h)→AYield P l as1 h R2
def Ze0 (rs:List AR) (N D:Nat) (R:AE→AH→Prop):AX→List AV→AH→Prop
 | .normal,T,h=>h[N]?=some (mkD D)∧match aRes rs T (h.set N .gone) with
  | some c=>R (.ret c) (h.set N .gone)
  | none=>False
 | .ret,T,h=>h[N]?=some (mkD D)∧match aRes rs T (h.set N .gone) with
  | some c=>R (.ret c) (h.set N .gone)
  | none=>False
 | _,_,_=>False
def rangeA (P:Program) (fr:AFR) (R:AE→AH→Prop) (T:List AV) (h:AH):Prop :=
  ∃ gf caps,Zal T fr.g=.clo (.func gf) caps ∧ ∀ (l D:Nat) (rdy bsy fin:Obj) (vs:List Value),(∀ e∈h,e.lt h.length=true)→AV.ltL h.length T=true→Zlm P fr (h.length+1) l rdy bsy fin T vs →
    ACalls P gf (.v (.func (.yield l) #[] #[])::caps) (h++[mkD D,.raw l rdy T vs]) fun r h3=>(∃ c,r=.ret c) ∧
      ((h3[h.length+1]?=some (.raw l rdy T vs) ∧ ∀ n0,(h3.set (h.length+1) .gone).length=n0→(∀ e∈h3.set (h.length+1) .gone,e.lt n0=true)→aw P n0 fr.post (Ze0 fr.res h.length D R) T (h3.set (h.length+1) .gone)) ∨
       (h3[h.length+1]?=some (.raw l fin T vs)∧Ze0 fr.res h.length D R .ret T (h3.set (h.length+1) .gone)))
def preQ (P:Program) (fr:AFR) (n0:Nat) (R:AE→AH→Prop):AX→List AV→AH→Prop
 | .normal,T,h => ∃ T1 h1,ALe n0 T h T1 h1∧rangeA P fr R T1 h1
 | .ret,T,h=>match aRes fr.res T h with
  | some c=>R (.ret c) h
  | none=>False
 | _,_,_=>False
theorem yrule {fr:AFR}{asg body:Code}(ha:comp P asg=some fr.asg) (hb:comp P body=some fr.body) {i D l:Nat}{T:List AV}{tm:Array Value}{rec:LoopState→Option Code→Loop}{fn:FuncId}
    (hrec:rec=fun st pe=>{ state:=st,pending:=pe,fn:=fn,tmps:=tm,params:=fr.ps,assign:=asg,body:=body,defers:=D }) :
    Zlm P fr i l (.loop (rec .ready none)) (.loop (rec .busy none)) (.loop (rec .done (some .ret))) T tm.toList:=by
  intro as1 h R2 hsz hi hw w g vs hs hr
  obtain⟨q1,q2,q3,q4⟩:=hs.raw _ _ _ _ _ hi
  have hvs:vs.size=fr.ps.size:=by have:=hr.length;simp only[Array.length_toList] at this;omega
  have hy:=run_yield (P:=P) (args:=vs) q1 (by rw[hrec];exact hvs)
  rw[hrec] at hy
  refine⟨fn,_,asg,body,hy,roundIn_of_wpIn trivial ?_⟩
  have ht:RepL w g (setPs T fr.ps as1) ((fr.ps.zip vs).foldl (fun t p=>t.setIfInBounds p.1 p.2) tm).toList:=by
    have:=Zl5 fr.ps.toList as1 vs.toList T tm.toList q4 hr
    rw[←Array.foldl_toList,ZjZ,Array.toList_zip]
    exact this
  letI:Rd:=rdS l
  refine wpIn_mono (Zfo asg fr.asg ha (hw _ rfl hs.ltE (RepL.lt (fun i v l hl=>(hs.fresh i v l hl).1) _ _ hr) (RepL.bd _ _ hr) (RepL.bd _ _ q4)) w _ _ _ w g (St.start (a:={ tmps:=(fr.ps.zip vs).foldl (fun t p=>t.setIfInBounds p.1 p.2) tm,defers:=[] }) hs ht)) ?_
  rintro e a1 w1 ⟨x1,T1,h2,g1,st1,hx1,rfl,hi2,hw1⟩
  cases e <;> simp only[ExR] at hx1
  simp only[Exit.then]
  have k1:=LkY.of_st st1
  obtain⟨r1,_,_,_⟩:=k1.sim.raw _ _ _ _ _ hi2
  refine⟨_,run_beginRound r1 (by rw[hrec]),?_⟩
  have e0:({ rec .ready none with state:=.busy }:Loop)=rec .busy none:=by rw[hrec]
  rw[e0]
  have k2:=LkY.setRaw k1.sim hi2 (o':=.loop (rec .busy none)) rfl (.raw l (.loop (rec .busy none)) T tm.toList) (.inl rfl)
  have st2:=St.start (a:=a1) k2.sim (k2.rep k1.sim st1.tmps)
  refine wpIn_mono (Zfo body fr.body hb (hw1 _ rfl k2.sim.ltE) _ _ _ _ _ g1 st2) ?_
  rintro e a2 w2 ⟨x2,T2,h3,g2,st3,hx2,hq⟩
  have k3:=(k1.trans k2).trans (LkY.of_st st3)
  have fin : ∀ (jump : Option Code) (b : Bool), h3[i]? = some (.raw l (.loop (rec .busy none)) T tm.toList) → b = jump.isNone →
      R2 (.ret (.v (.bool b))) (h3.set i (.raw l (.loop (rec (if jump.isNone then .ready else .done) jump)) T tm.toList)) →
      ∃ v w',(Instr.endRound l jump).run P w2=.ok v w' ∧ ∃ x h' g',EndR w' g' (.returned v) x∧SimH w' g' h'∧g.le g'∧Fr w (Ow g h) w'∧(∀ k,Ow g' h' k→Ow g h k∨w.heap.size≤k)∧R2 x h':=by
    rintro jump b hi3 rfl hR
    obtain⟨p1,_,_,_⟩:=k3.sim.raw _ _ _ _ _ hi3
    refine⟨_,_,run_endRound jump p1,?_⟩
    have e1:({ rec .busy none with state:=if jump.isNone then .ready else .done,pending:=jump }:Loop)=rec (if jump.isNone then .ready else .done) jump:=by rw[hrec]
    rw[e1]
    have k4:=LkY.setRaw k3.sim hi3 (o':=.loop (rec (if jump.isNone then .ready else .done) jump)) rfl (.raw l (.loop (rec (if jump.isNone then .ready else .done) jump)) T tm.toList) (.inl rfl)
    have k5:=k3.trans k4
    exact⟨.ret (.v (.bool jump.isNone)),_,g2,by simp only[EndR,Rep],k5.sim,k5.le,k5.fr,k5.ow,hR⟩
  cases x2 <;> cases e <;> simp only[ExR] at hx2 <;> simp only[ZtB] at hq <;> try (exact hq.elim)
  · exact fin none true hq.1 rfl hq.2
  · exact fin (some .ret) false hq.1 rfl hq.2
theorem ZiN {f:FuncId}(he:enters P f=true) (args:Array Value) (w:World):(callFunc f args).run P w=.ok (.enter f args) w:=by
 unfold enters at he
 split at he <;> try (cases he;done)
 rename_i fd hfd
 simp only[Bool.and_eq_true,bne_iff_ne,ne_eq] at he
 have hb:fd.body≠none:=by intro e;simp[e] at he
 simp[callFunc,hfd,he.1,hb]
theorem ACalls.of_range {f:FuncId}{fr:AFR}(hc:ZhC P f=some fr) {args:List AV}{h:AH}{R:AE→AH→Prop}(hw:aw P h.length (fr.pre.foldr .seq .skip) (preQ P fr h.length R) (args++List.replicate (fr.ntmps-args.length) .any) h):ACalls P f args h R:=by
  unfold ZhC at hc
  split at hc <;> try (cases hc;done)
  rename_i fn hfn
  split at hc <;> try (cases hc;done)
  rename_i hname
  split at hc <;> try (cases hc;done)
  rename_i c hb
  split at hc <;> try (cases hc;done)
  rename_i rg hrg
  split at hc <;> try (cases hc;done)
  rename_i ap aa ab aq rs hap haa hab haq hrs
  cases hc
  simp only at hw
  refine⟨?_,fun w g vs hs ha=>(callsIn_wide (n:=0)).1 (callsIn_of_wp_marks hfn hb trivial (ZlU c hrg ?_) rfl)⟩
  · simp only[enters,hfn,hb]
    simp only[Bool.not_eq_true] at hname
    simp[bne,hname]
  have hlen:vs.size=args.length:=by simpa using ha.length
  have ht:RepL w g (args++List.replicate (fn.ntmps-args.length) .any) (vs++Array.replicate (fn.ntmps-vs.size) undef).toList:=by
    simp only[Array.toList_append,Array.toList_replicate,hlen]
    refine ha.append ?_
    have:=ZkU w g (List.replicate (fn.ntmps-args.length) undef)
    simpa using this
  have fin : ∀ {w1 : World} {g1 : Gh} {h1 : AH} {T1 : List AV} {a1 : Act} {c : AV}, LkY w g h w1 g1 h1 → RepL w1 g1 T1 a1.tmps.toList → aRes rs T1 h1 = some c → R (.ret c) h1 →
      LeavesInM Fence.wide 0 P fn a1.tmps (fun e w' => ∃ x h' g',EndR w' g' e x∧SimH w' g' h'∧g.le g'∧Fr w (Ow g h) w'∧(∀ k,Ow g' h' k→Ow g h k∨w.heap.size≤k)∧R x h') [] .returning w1:=by
    intro w1 g1 h1 T1 a1 c k1 ht1 hres hR
    obtain⟨v,r1,r2⟩:=ZdG hrs hres k1.sim ht1
    exact⟨v,by simpa using r1,.ret c,h1,g1,r2,k1.sim,k1.le,k1.fr,k1.ow,hR⟩
  have hpre:=Zh3 rg.pre ap hap hw w _ _ _ w g (St.start (a:={ tmps:=vs++Array.replicate (fn.ntmps-vs.size) undef,defers:=[] }) hs ht)
  refine Zky hpre ?_
  rintro e1 a1 w1 ⟨x1,T1,h1,g1,st1,hx1,hq1⟩
  have hdf:a1.defers=[]:=st1.defers
  cases x1 <;> cases e1 <;> simp only[ExR] at hx1 <;> simp only[preQ] at hq1 <;> try (exact hq1.elim)
  rotate_left 1
  · split at hq1 <;> try (exact hq1.elim)
    rename_i c0 hc0
    show LeavesInM Fence.wide 0 P fn a1.tmps _ a1.defers .returning w1
    rw[hdf]
    exact fin (LkY.of_st st1) st1.tmps hc0 hq1
  obtain⟨T1',h1',hle1,gf,caps,hgf,hit⟩:=hq1
  obtain⟨g1',st1⟩:=hle1 _ _ _ _ _ _ st1
  have k1:=LkY.of_st st1
  simp only[Exit.then]
  refine wpIn_block (wpIn_rangeFunc ?_)
  intro fn1 _
  show ∃ (l:Nat) (mark:List Deferred) (w₁:World) (d:Deferred) (w₁':World) (f:FuncId) (args:Array Value) (w₂:World),(Instr.enterLoop fn1 a1.tmps rg.ps rg.asg rg.body none).run P w1=_∧_
  obtain⟨rec,hrec⟩ : ∃ rec:LoopState→Option Code→Loop,rec=fun st pe=>{ state:=st,pending:=pe,fn:=fn1,tmps:=a1.tmps,params:=rg.ps,assign:=rg.asg,body:=rg.body,defers:=w1.heap.size }:=⟨_,rfl⟩
  have k2:=LkY.newRaw k1.sim (o:=dfo) (T:=[]) (vs:=[]) rfl (by simp only[RepL])
  have k3:=LkY.newRaw k2.sim (o:=.loop (rec .ready none)) (T:=T1') (vs:=a1.tmps.toList) rfl (k2.rep k1.sim st1.tmps)
  rw[World.size_alloc,List.append_assoc,List.cons_append,List.nil_append] at k3
  have k123:=(k1.trans k2).trans k3
  have hcallee:=Zb8 st1.tmps rg.g
  rw[hgf] at hcallee
  simp only[Rep] at hcallee
  obtain⟨cv,hcv,hcr⟩:=hcallee
  have hy:=yrule (P:=P) (fr:=⟨ap,rg.g,rg.ps,aa,ab,aq.foldr .seq .skip,rs,fn.ntmps⟩) haa hab (i:=h1'.length+1) (D:=w1.heap.size) (l:=w1.heap.size+1) (T:=T1') hrec
  obtain⟨heng,hcall⟩:=hit (w1.heap.size+1) w1.heap.size _ _ _ a1.tmps.toList st1.sim.ltE (RepL.lt (fun i v l hl=>(st1.sim.fresh i v l hl).1) _ _ st1.tmps) hy
  refine⟨w1.heap.size+1,[{ target:=.collected w1.heap.size,args := #[] }],(w1.alloc dfo).alloc (.loop (rec .ready none)),{ target:=.fn (.func gf) cv,args := #[.func (.yield (w1.heap.size+1)) #[] #[]] },(w1.alloc dfo).alloc (.loop (rec .ready none)),gf,
    #[.func (.yield (w1.heap.size+1)) #[] #[]]++cv,(w1.alloc dfo).alloc (.loop (rec .ready none)),(by rw[hrec];exact run_enterLoop_outer _ _ _ _ _),?_,fun _ _=>trivial,?_,fun h=>by simp[Fence.wide] at h,?_⟩
  · simp only[resolve,hcv]
    simp[go_sem]
  · simp[invoke,go_sem,ZiN heng]
  refine callsIn_wide.2 ((hcall _ g1' _ k123.sim (by
    rw[Array.toList_append]
    have hcr':=(k2.trans k3).rep k1.sim hcr
    simp only[List.cons_append,List.nil_append,RepL]
    exact⟨_,_,rfl,by simp only[Rep],hcr'⟩)).mono ?_)
  rintro e3 w3 ⟨x3,h3,g3,hx3,hs3,hle3,hfr3,how3,⟨c3,rfl⟩,hcase⟩
  cases e3 <;> simp only[EndR] at hx3
  have k4:LkY w g h w3 g3 h3:=k123.trans ⟨hs3,hle3,hfr3,how3⟩
  have ht3:RepL w3 g3 T1' a1.tmps.toList:=(LkY.mk hs3 hle3 hfr3 how3).rep k123.sim ((k2.trans k3).rep k1.sim st1.tmps)
  -- the end, with the mark taken up
  have fin2 : ∀ {w5 : World} {g5 : Gh} {h5 : AH} {T5 : List AV} {a5 : Act}, LkY w g h w5 g5 h5 → RepL w5 g5 T5 a5.tmps.toList → a5.defers = [{ target := .collected w1.heap.size, args := #[] }] → Ze0 rs h1'.length w1.heap.size R .ret T5 h5 →
      LeavesInM Fence.wide 0 P fn a5.tmps (fun e w' => ∃ x h' g',EndR w' g' e x∧SimH w' g' h'∧g.le g'∧Fr w (Ow g h) w'∧(∀ k,Ow g' h' k→Ow g h k∨w.heap.size≤k)∧R x h') a5.defers .returning w5:=by
    rintro w5 g5 h5 T5 a5 k5 ht5 hd5 ⟨hi5,hR5⟩
    split at hR5 <;> try (exact hR5.elim)
    rename_i c5 hres
    rw[hd5]
    obtain⟨p1,_,_,_⟩:=k5.sim.raw _ _ _ _ _ hi5
    have k6:=LkY.setRaw k5.sim hi5 (o':=.deferred none) rfl .gone (.inr rfl)
    have ht6:=k6.rep k5.sim ht5
    refine⟨by simp,.inl ⟨_,_,rfl,run_takeDeferred p1,?_⟩⟩
    exact fin (k5.trans k6) ht6 hres hR5
  have drop : ∀ (o : Obj) (st : LoopState) (jump : Option Code), o = .loop (rec st jump) → h3[h1'.length + 1]? = some (.raw (w1.heap.size + 1) o T1' a1.tmps.toList) → st ≠ .busy →
      ∃ w4,(Instr.endLoop (w1.heap.size+1)).run P w3=.ok jump w4∧LkY w g h w4 g3 (h3.set (h1'.length+1) .gone)∧RepL w4 g3 T1' a1.tmps.toList:=by
    rintro o st jump rfl hi3 hst
    obtain⟨p1,_,_,_⟩:=hs3.raw _ _ _ _ _ hi3
    have k5:=LkY.setRaw hs3 hi3 (o':=.loop { rec st jump with state:=.exhausted }) rfl .gone (.inr rfl)
    have ht5:=k5.rep hs3 ht3
    refine⟨_,?_,k4.trans k5,ht5⟩
    have:=run_endLoop (P:=P) p1 (by rw[hrec];exact hst)
    rw[this]
    rw[hrec]
  rcases hcase with ⟨hi3,hpost⟩ | ⟨hi3,hpost⟩
  · obtain⟨w4,r4,k5,ht5⟩:=drop _ .ready none rfl hi3 (by simp)
    refine⟨none,w4,r4,?_⟩
    show wpL Fence.wide 0 P rg.post _ _ w4
    have st5:=St.start (a:={ a1 with defers:=[{ target:=.collected w1.heap.size,args := #[] }]++a1.defers }) k5.sim ht5
    refine Zky (Zh3 rg.post aq haq (hpost _ rfl k5.sim.ltE) _ _ _ _ _ g3 st5) ?_
    rintro e6 a6 w6 ⟨x6,T6,h6,g6,st6,hx6,hq6⟩
    have k6:=k5.trans (LkY.of_st st6)
    have hd6:a6.defers=[{ target:=.collected w1.heap.size,args := #[] }]:=by rw[st6.defers];simp[hdf]
    cases x6 <;> cases e6 <;> simp only[ExR] at hx6 <;> simp only[Ze0] at hq6 <;> try (exact hq6.elim)
    · exact fin2 k6 st6.tmps hd6 hq6
    · exact fin2 k6 st6.tmps hd6 hq6
  · obtain⟨w4,r4,k5,ht5⟩:=drop _ .done (some .ret) rfl hi3 (by simp)
    refine⟨some .ret,w4,r4,wpIn_ret ?_⟩
    exact fin2 (a5:={ a1 with defers:=[{ target:=.collected w1.heap.size,args := #[] }]++a1.defers }) k5 ht5 (by simp[hdf]) hpost
end
section
variable {P : Program} {Kp : AV → List AV → AH → Prop} {K : List AV → AH → Prop} {T T' : List AV} {h h' : AH} {d : Option Nat} {c : AV} {rest : List AOper}
theorem ZhL {f:FuncId}{fr:AFR}(hc:ZhC P f=some fr):enters P f=true:=by
 unfold ZhC at hc
 split at hc <;> try (cases hc;done)
 rename_i fn hfn
 split at hc <;> try (cases hc;done)
 rename_i hname
 split at hc <;> try (cases hc;done)
 rename_i c hb
 simp only[enters,hfn,hb]
 simp only[Bool.not_eq_true] at hname
 simp[bne,hname]
theorem tR' {f:FuncId}{fr:AFR}{args:List AV}{R:AE→Prop}(hc:ZhC P f=some fr) (hw : ∀ n,h.length=n→(∀ e∈h,e.lt n=true)→AV.ltL n args=true→AV.bdL args→aw P n (fr.pre.foldr .seq .skip) (preQ P fr n fun x h' => ∃ z,h'=h++z∧x.lt n=true∧R x) (tA' args fr.ntmps) (h++[]))
  (hl:Nat.ble args.length fr.ntmps=true:=by rfl):ACalls P f args h fun x h'=>h'=h∧R x:=by
 refine ACalls.gc_same ⟨ZhL hc,fun w g vs hs ha=>(ACalls.of_range hc ?_).2 w g vs hs ha⟩
 have:=hw h.length rfl hs.ltE (RepL.lt (fun i v l hl=>(hs.fresh i v l hl).1) _ _ ha) (RepL.bd _ _ ha)
 rw[List.append_nil] at this
 rw[Zij _ _ (Nat.le_of_ble_eq_true hl)]
 exact this
theorem Zsn {fr:AFR}{n0 gf l0:Nat}{R:AE→AH→Prop}{T1 caps:List AV}{h1:AH}(hl:ALe n0 T h T1 h1) (hg:Zal T1 fr.g=.clo (.func gf) caps) (hn:h1.length=l0)
    (hi : ∀ (l D:Nat) (rdy bsy fin:Obj) (vs:List Value),(∀ e∈h1,e.lt l0=true)→AV.ltL l0 T1=true→Zlm P fr (l0+1) l rdy bsy fin T1 vs →
      ACalls P gf (.v (.func (.yield l) #[] #[])::caps) (h1++[mkD D,.raw l rdy T1 vs]) fun r h3=>(∃ c,r=.ret c) ∧
      ((h3[l0+1]?=some (.raw l rdy T1 vs) ∧ ∀ n0,(h3.set (l0+1) .gone).length=n0→(∀ e∈h3.set (l0+1) .gone,e.lt n0=true)→aw P n0 fr.post (Ze0 fr.res l0 D R) T1 (h3.set (l0+1) .gone)) ∨
       (h3[l0+1]?=some (.raw l fin T1 vs)∧Ze0 fr.res l0 D R .ret T1 (h3.set (l0+1) .gone)))):preQ P fr n0 R .normal T h:=by
  subst hn;exact⟨T1,h1,hl,gf,caps,hg,hi⟩
theorem Zsb {l:Nat}{x:Operand}{xs:List Operand}{as1:List AV}(hf:Zal T x=.v (.func (.yield l) #[] #[])) (hx:xs.map (Zal T)=as1) (hc:AYield P l as1 h fun r h''=>r=.ret c∧h''=h') (hp:aPut T d c=T') (hk:arun P Kp rest T' h' K):arun P Kp (⟨d,none,.call x xs⟩::rest) T h K:=by
 subst hp hx
 refine⟨fun _=>?_,fun h=>by cases h⟩
 simp only[astep,hf,ZfE]
 refine⟨trivial,trivial,fun w g vs hs ha=>?_⟩
 obtain⟨f,t,a,b,h1,h2⟩:=hc w g vs hs ha
 refine⟨f,t,a,b,h1,h2.mono ?_⟩
 rintro e w' ⟨x,h',g',k1,k2,k3,k4,k5,rfl,rfl⟩
 exact⟨_,_,g',k1,k2,k3,k4,k5,hk⟩
theorem AYield.mono {l:Nat}{as1:List AV}{R R':AE→AH→Prop}(hc:AYield P l as1 h R) (hr : ∀ r h,R r h→R' r h):AYield P l as1 h R':=fun w g vs hs ha=>by
 obtain⟨f,t,a,b,h1,h2⟩:=hc w g vs hs ha
 exact⟨f,t,a,b,h1,h2.mono fun _ _ ⟨x,h',g',h1,h2,h3,h4,h5,h6⟩=>⟨x,h',g',h1,h2,h3,h4,h5,hr _ _ h6⟩⟩
theorem Ziv {fr:AFR}{n0:Nat}{R:AE→AH→Prop}(hr:aRes fr.res T h=some c) (hR:R (.ret c) h):preQ P fr n0 R .ret T h:=by simp only[preQ,hr];exact hR
theorem ZdU {rs:List AR}{k D:Nat}{R:AE→AH→Prop}(h1:h[k]?=some (mkD D)) (h2:h.set k .gone=h') (hr:aRes rs T h'=some c) (hR:R (.ret c) h'):Ze0 rs k D R .ret T h:=by subst h2;simp only[Ze0,hr];exact⟨h1,hR⟩
theorem YieldAt.gc {l:Nat}{as1:List AV}{R:AE→AH→Prop}(hc:AYield P l as1 h fun x h' => ∃ y z,h'=y++z∧y.length=h.length∧(∀ e∈y,e.lt h.length=true)∧x.lt h.length=true∧R x y):AYield P l as1 h R:=fun w g vs hs ha=>by
 obtain⟨f,t,a,b,q1,q2⟩:=hc w g vs hs ha
 refine⟨f,t,a,b,q1,q2.mono ?_⟩
 rintro e w' ⟨x,h',g',h1,h2,h3,h4,h5,y,z,rfl,hl,hlt,hx,hR⟩
 have hcut:=h2.cut (by rw[hl];exact hlt)
 refine⟨x,y,g'.cut y.length,?_,hcut,h3.cut (fun i v l hi=>by rw[hl];exact (hs.fresh _ _ _ hi).1),h4,fun k hk=>h5 k hk.of_cut,hR⟩
 rw[hl]
 cases x <;> cases e <;> simp only[EndR] at h1 ⊢
 ·exact Rep.cut _ _ hx h1
 ·obtain⟨v,e1,e2⟩:=h1;exact⟨v,e1,Rep.cut _ _ hx e2⟩
theorem y_go {fr:AFR}{i l:Nat}{rdy bsy fin:Obj}{T:List AV}{vs:List Value}(hY:Zlm P fr i l rdy bsy fin T vs) {as1:List AV}(hi:h[i]?=some (.raw l rdy T vs)) (hsz:as1.length=fr.ps.size)
  (hw : ∀ n0,h.length=n0→(∀ e∈h,e.lt n0=true)→AV.ltL n0 as1=true→AV.bdL as1→AV.bdL T→aw P n0 fr.asg (asgQ P fr i l rdy bsy fin T vs fun x h2 => ∃ y z,h2=y++z∧y.length=n0∧(∀ e∈y,e.lt n0=true)∧x.lt n0=true∧x=.ret c∧y=h') (setPs T fr.ps as1) h) :
  AYield P l as1 h fun r h''=>r=.ret c∧h''=h' :=
 YieldAt.gc (hY as1 h _ hsz hi fun n0 hn hlt q1 q2 q3=>by subst hn;exact hw _ rfl hlt q1 q2 q3)
theorem ZtG {fr:AFR}{i l:Nat}{rdy bsy fin:Obj}{vs:List Value}{R2:AE→AH→Prop}{T0:List AV}(hi:h[i]?=some (.raw l rdy T0 vs)) (hs:h.set i (.raw l bsy T0 vs)=h') (hw : ∀ n1,h'.length=n1→(∀ e∈h',e.lt n1=true)→aw P n1 fr.body (ZtB i l rdy bsy fin T0 vs R2) T h'):asgQ P fr i l rdy bsy fin T0 vs R2 .normal T h:=by
 subst hs;exact⟨rfl,hi,hw⟩
theorem ZiV {i l:Nat}{rdy bsy fin:Obj}{vs:List Value}{R2:AE→AH→Prop}{T0:List AV}(hi:h[i]?=some (.raw l bsy T0 vs)) (hs:h.set i (.raw l rdy T0 vs)=h') (hR:R2 (.ret (.v (.bool true))) h'):ZtB i l rdy bsy fin T0 vs R2 .normal T h:=by
 subst hs;exact⟨hi,hR⟩
theorem ZpD {i l:Nat}{rdy bsy fin:Obj}{vs:List Value}{R2:AE→AH→Prop}{T0:List AV}(hi:h[i]?=some (.raw l bsy T0 vs)) (hs:h.set i (.raw l fin T0 vs)=h') (hR:R2 (.ret (.v (.bool false))) h'):ZtB i l rdy bsy fin T0 vs R2 .ret T h:=by
 subst hs;exact⟨hi,hR⟩
theorem AYield.args {l:Nat}{as1 as2:List AV}{R:AE→AH→Prop}(hc:AYield P l as1 h R) (e:as2=as1):AYield P l as2 h R:=e ▸ hc
theorem k_callY {m:Bool}{q:List Bool}{rs:List Nat}{l:Nat}{x:Operand}{xs:List Operand}{as1:List AV}(hf:Zal T x=.v (.func (.yield l) #[] #[])) (hx:xs.map (Zal T)=as1) (hc:AYield P l as1 h fun r h''=>r=.ret c∧h''=h') (hr : ∀ id∈(bif m then rs else []),h'[id]?=h[id]?) (hp:aPut T d c=T') (hk:Zcu P rs q rest T' h' K):Zcu P rs (m::q) (⟨d,none,.call x xs⟩::rest) T h K:=by
 subst hp hx
 refine⟨fun _=>?_,fun h=>by cases h⟩
 refine⟨c,h',?_,hr,hk⟩
 simp only[hf,ZfE]
 exact⟨trivial,trivial,hc.mono fun r h2 hr=>⟨hr.2,hr.1⟩⟩
theorem s_callE {ι:Type}{H:ι→AH}{J:ι→Prop}{f:FuncId}{xs:List Operand}{as1:List AV}(hx:xs.map (Zal T)=as1) (hc:ACalls P f as1 h fun r h''=>r=.ret c ∧ ∃ i,J i∧h''=H i) (hp:aPut T d c=T') (hk : ∀ i,J i→arun P Kp rest T' (H i) K):arun P Kp (⟨d,none,.call (.func f) xs⟩::rest) T h K:=by
 subst hp
 refine ZlZ hx hc ?_
 rintro r h'' ⟨rfl,i,h1,rfl⟩
 exact hk i h1
theorem v_ldOF {α:Type}{f:α→List AV}{sz k off id v ty s:Nat}{l:List α}{x:Operand}(hx:Zal T x=.ptr id v (k*sz+off)) (he:h[id]?=some (.mk v ty s (rows f l))) (hf : ∀ x,(f x).length=sz) (hk:k<l.length) (ho:off<sz) (hc:(f l[k])[off]?=some c):aval h (Zal T) (.load false 1 x)=some c:=by
 refine Zac hx he ?_
 rw[←Zg4 hf hk,List.getElem?_take_of_lt ho,List.getElem?_drop] at hc
 exact hc
theorem v_ldOFA {α:Type}{f:α→List AV}{sz k off id v ty s m:Nat}{l:List α}{x:Operand}{cs:List AV}(hx:Zal T x=.ptr id v (k*sz+off)) (he:h[id]?=some (.mk v ty s (rows f l))) (hf : ∀ x,(f x).length=sz) (hk:k<l.length) (ho:off+m≤sz) (hc:((f l[k]).drop off).take m=cs) (hl:cs.length=m):aval h (Zal T) (.load true m x)=some (.agg cs):=by
 refine Zan hx he ?_ hl
 rw[←Zg4 hf hk,List.drop_take,List.take_take,List.drop_drop,Nat.min_eq_left om] at hc
 exact hc
end
end Go.Ab
end
section
namespace Go.Ab
section
variable {P : Program} {n0 : Nat}
def ZmJ (P:Program):Code→Option AC
 | .skip=>some .skip
 | .region _ ops draw=>match ops.toList.mapM (ZbH P [] ops) with
  | some al=>if draw=false then some (.reg al) else Zj6 P ops
  | none=>none
 | .seq a b=>match ZmJ P a,ZmJ P b with
  | some x,some y=>some (.seq x y)
  | _,_=>none
 | .block id a=>(ZmJ P a).map (.block id)
 | .exit id=>some (.exit id)
 | .ret=>some .ret
 | _=>none
theorem Zn6 [Rd] : ∀ (c:Code) (ac:AC),ZmJ P c=some ac → ∀ {Q:AX→List AV→AH→Prop}{T:List AV}{h:AH},aw P n0 ac Q T h→AW P n0 c Q T h:=by
 intro c
 induction c with
 | skip=>intro ac hc Q T h hw;cases hc;exact Zt2 hw
 | region id ops draw =>
  intro ac hc Q T h hw
  simp only[ZmJ] at hc
  split at hc <;> try (cases hc;done)
  rename_i al hm
  split at hc
  ·rename_i hd;subst hd;cases hc;exact Zm7 hm hw
  ·rename_i hd
   obtain rfl:draw=true:=by simpa using hd
   unfold Zj6 at hc
   split at hc <;> try (cases hc;done)
   rename_i al2 hm2
   split at hc <;> try (cases hc;done)
   rename_i hcond
   cases hc
   exact Zjk hcond.1 hcond.2 hm2 hw
 | seq a b iha ihb =>
  intro ac hc Q T h hw
  simp only[ZmJ] at hc
  split at hc <;> try (cases hc;done)
  rename_i x y hx hy
  cases hc
  refine AW_seq ((iha x hx hw).mono ?_)
  intro z T' h' hq
  cases z <;> simp only[AX.thn] at hq ⊢ <;> first | exact hq | (obtain⟨T1,h1,hle,hq⟩:=hq;exact AW_le hle (ihb y hy hq))
 | cond c a b iha ihb=>intro ac hc;cases hc
 | block id a iha =>
  intro ac hc Q T h hw
  simp only[ZmJ,Option.map_eq_some_iff] at hc
  obtain⟨x,hx,rfl⟩:=hc
  exact ZpJ (iha x hx hw)
 | loop a iha=>intro ac hc;cases hc
 | rangeFunc f ps x y iha ihb=>intro ac hc;cases hc
 | exit id=>intro ac hc Q T h hw;cases hc;exact Zt3 hw
 | scope a iha=>intro ac hc;cases hc
 | label l=>intro ac hc;cases hc
 | goto l=>intro ac hc;cases hc
 | ret=>intro ac hc Q T h hw;cases hc;exact AW_ret hw
 | refuse w=>intro ac hc;cases hc
def Zj9 (P:Program) (f:FuncId):Option AF :=
 match P.funcs[f]? with
 | some fn=>if fn.name == "runtime.NumGoroutine" then none else match fn.body with
  | some c=>match ZmJ P c,fn.results.toList.mapM (ZfW P) with
   | some ac,some rs=>some ⟨ac,rs,fn.ntmps⟩
   | _,_=>none
  | none=>none
 | none=>none
theorem ACalls.of_awU {f:FuncId}{af:AF}(hc:Zj9 P f=some af) {args:List AV}{h:AH}{R:AE→AH→Prop}(hw:aw P h.length af.code (retA af.res R) (args++List.replicate (af.ntmps-args.length) .any) h):ACalls P f args h R:=by
 unfold Zj9 at hc
 split at hc <;> try (cases hc;done)
 rename_i fn hfn
 split at hc <;> try (cases hc;done)
 rename_i hname
 split at hc <;> try (cases hc;done)
 rename_i c hb
 split at hc <;> try (cases hc;done)
 rename_i ac rs hac hrs
 cases hc
 letI:Rd:=rdN
 refine ACalls.of_AW hfn hb ?_ ((Zn6 c ac hac hw).mono ?_)
 ·simp only[enters,hfn,hb]
  simp only[Bool.not_eq_true] at hname
  simp[bne,hname]
 ·intro x T' h' hq
  cases x <;> simp only[retA,RetQ] at hq ⊢
  ·split at hq <;> try (exact hq.elim)
   rename_i r hr
   exact⟨r,fun w g a hs ht=>ZdG hrs hr hs ht,hq⟩
  ·split at hq <;> try (exact hq.elim)
   rename_i r hr
   exact⟨r,fun w g a hs ht=>ZdG hrs hr hs ht,hq⟩
  ·exact hq
theorem ZhK {f:FuncId}{af:AF}(hc:Zj9 P f=some af):enters P f=true:=by
 unfold Zj9 at hc
 split at hc <;> try (cases hc;done)
 rename_i fn hfn
 split at hc <;> try (cases hc;done)
 rename_i hname
 split at hc <;> try (cases hc;done)
 rename_i c hb
 simp only[enters,hfn,hb]
 simp only[Bool.not_eq_true] at hname
 simp[bne,hname]
theorem tU' {f:FuncId}{c:AC}{rs:List AR}{m:Nat}{args:List AV}{h:AH}{R:AE→Prop}(hc:Zj9 P f=some ⟨c,rs,m⟩) (hw : ∀ n,h.length=n→(∀ e∈h,e.lt n=true)→AV.ltL n args=true→AV.bdL args→aw P n c (retA rs fun x h' => ∃ z,h'=h++z∧x.lt n=true∧R x) (tA' args m) (h++[])) (hl:Nat.ble args.length m=true:=by rfl):ACalls P f args h fun x h'=>h'=h∧R x:=by
 refine ACalls.gc_same ⟨ZhK hc,fun w g vs hs ha=>(ACalls.of_awU hc ?_).2 w g vs hs ha⟩
 have:=hw h.length rfl hs.ltE (RepL.lt (fun i v l hl=>(hs.fresh i v l hl).1) _ _ ha) (RepL.bd _ _ ha)
 rw[List.append_nil] at this
 show aw P h.length c _ (args++List.replicate (m-args.length) .any) h
 rw[Zij _ _ (Nat.le_of_ble_eq_true hl)]
 exact this
theorem ZkT {w:World}{g:Gh} : ∀ {vs us:List Value},RepL w g (vs.map .v) us↔us=vs
 | [],us=>by simp only[List.map_nil,RepL]
 | v::vs,us=>by
  simp only[List.map_cons,RepL,Rep,ZkT (vs:=vs)]
  constructor
  ·rintro⟨u,us',rfl,rfl,rfl⟩;rfl
  ·rintro rfl;exact⟨_,_,rfl,rfl,rfl⟩
theorem ACalls.of_turnR {f:FuncId}{args:List AV}{h:AH}{id ver ty st:Nat}{cells cells':List AV}{c:AV}(he:enters P f=true) (hi:h[id]?=some (.mk ver ty st cells)) (hne:cells≠[])
  (hc : ∀ w g (vs:Array Value) b cap arr,SimH w g h→RepL w g args vs.toList→g.loc id ver=some (some ⟨b,0,none⟩,cap)→w.heap[b]?=some (.cells arr ty (0,0))→arr.size=cap*st→cells.length≤arr.size→RepL w g cells (arr.toList.take cells.length) →
   Calls P f vs w fun e w' => ∃ (v:Value) (vs':List Value) (arr':Array Value),e=.returned v∧cells'=vs'.map .v∧w'.heap[b]?=some (.cells arr' ty (0,0))∧arr'.size=arr.size∧vs'.length=cells.length∧arr'.toList.take cells.length=vs' ∧
    w'.os=w.os∧w'.tape=w.tape∧w'.output=w.output∧w.heap.size≤w'.heap.size∧(∀ k,k<w.heap.size→k≠b→w'.heap[k]?=w.heap[k]?)∧Rep w' g c v) :
  ACalls P f args h fun x h'=>x=.ret c∧h'=h.set id (.mk ver ty st cells'):=by
 refine⟨he,fun w g vs hs ha=>?_⟩
 obtain⟨A,cap,f1,fm,f3⟩:=hs.ent _ _ _ _ _ hi
 rcases f3 with ⟨e,_⟩ | ⟨b,arr,rfl,hc0,hd,hb,hsz,hle,hrl⟩
 ·exact absurd e hne
 have hid:id<h.length:=(List.getElem?_eq_some_iff.1 hi).1
 have how:OwAt g h id b:=⟨ver,ty,st,cells,_,cap,hi,f1,hc0,rfl⟩
 refine (hc w g vs b cap arr hs ha f1 hb hsz hle hrl).mono ?_
 rintro e w' ⟨v,vs',arr',rfl,rfl,h1,h2,h3,h4,h5,h6,h7,h8,h9,hv⟩
 have hother : ∀ j,g.D j∨(∃ i,i≠id∧OwAt g h i j)∨(∃ i,RwAt h i j)→w'.heap[j]?=w.heap[j]?:=by
  rintro j (hj | ⟨i,hne',hj⟩ | ⟨i,hj⟩)
  rotate_left 2
  ·exact h9 j (hs.own_not_D (.inr ⟨i,hj⟩)).2 (fun e=>by subst e;exact hs.own_ne_raw how hj)
  ·exact h9 j (hs.lt j hj) (fun e=>hd (e ▸ hj))
  ·exact h9 j (hs.own_not_D (.inl ⟨i,hj⟩)).2 (fun e=>hne' (hs.inj i id j hj (e ▸ how)))
 obtain⟨k1,k2,k3⟩:=hs.put (w':=w') (g':=g) (h':=h.set id (.mk ver ty st (vs'.map .v))) id ver ty st (vs'.map .v) (some ⟨b,0,none⟩) cap
  (fun i hne'=>by rw[List.getElem?_set_ne (Ne.symm hne')]) (by rw[List.getElem?_set_self hid]) (by simp) rfl (fun _ _ _ h=>h) (fun _ _ _ h=>.inl h) f1 (fun v l hv=>(hs.fresh _ _ _ hv).2 _ _ _ _ hi) hother h8 fm
  (.inr ⟨b,arr',rfl,hc0,hd,h1,by rw[h2,hsz],by rw[List.length_map,h3,h2];exact hle,by rw[List.length_map,h3,h4];exact ZkT.2 rfl⟩)
  (fun j hj _ i hne' ho=>by
   simp at hj
   subst hj
   exact hne' (hs.inj i id _ ho how))
 refine⟨.ret c,_,g,hv,k1,k2,⟨h5,h6,h7,h8,fun k hk hn=>h9 k hk (fun e=>hn (.inl ⟨id,e ▸ how⟩))⟩,fun k hk=>?_,rfl,rfl⟩
 ·rcases k3 k hk with ho | ⟨ho,_⟩
  ·exact .inl ho
  ·simp at ho;subst ho;exact .inl (.inl ⟨id,how⟩)
end
end Go.Ab
end
section
namespace Go.Proofs.YtlekejpogddndaaGreatDoor
open Go.Ab
abbrev intC (n:Int):List AV:=[iv n]
theorem Zdd {n:Nat}(l:List Int):AV.ltL n (rows intC l)=true:=Zdi (fun _ _=>rfl) l
theorem ZcS : ∀ x,(intC x).length=1:=fun _=>rfl
theorem Zc1 (l:List Int):(rows intC l).length=l.length*1:=Za6 ZcS l
end Go.Proofs.YtlekejpogddndaaGreatDoor
end
section
namespace Go.Proofs.YtlekejpogddndaaGreatDoor
open Go.Ab Go.Sort
theorem Zeb {w:World}{g:Gh} : ∀ {l:List Int}{vs:List Value},RepL w g (rows intC l) vs↔vs=l.map (Value.int .i64)
 | [],vs=>by simp[rows,RepL]
 | n::l,vs=>by
  rw[show rows intC (n::l)=iv n::rows intC l from rfl]
  simp only[RepL,Rep,List.map_cons]
  constructor
  ·rintro⟨u,us,rfl,rfl,h⟩
   rw[Zeb.1 h]
  ·rintro rfl
   exact⟨_,_,rfl,rfl,Zeb.2 rfl⟩
theorem Zl2 : ∀ l:List Int,rows intC l=(l.map (Value.int .i64)).map .v
 | []=>rfl
 | n::l=>by rw[List.map_cons,List.map_cons,←Zl2 l];rfl
def ZeO (l:List Int):List Int:=l.mergeSort fun x y=>decide (x≤y)
theorem ZcQ (l:List Int):(ZeO l).length=l.length:=List.length_mergeSort l
theorem ZrZ {l:List Int}{id v ty:Nat}{h:AH}(he:h[id]?=some (.mk v ty 1 (rows intC l))) (hl:l.length<4611686018427387904) :
  ACalls Tryz.prog 198 [.own id v l.length] h fun r h'=>r=.ret (.tup [])∧h'=h.set id (.mk v ty 1 (rows intC (ZeO l))):=by
 by_cases h0:l=[]
 ·subst h0
  refine⟨by kernel_rfl,fun w g vs hs ha=>?_⟩
  simp only[RepL,Rep] at ha
  obtain⟨val,us,e,⟨A,cap,e1,e2,e3,rfl⟩,rfl⟩:=ha
  obtain rfl:vs = #[.slice A 0 cap]:=by cases vs;simp_all
  refine (Tryz.slices_Sort_int_none A cap w).mono ?_
  rintro e w' ⟨rfl,rfl⟩
  refine⟨.ret (.tup []),h,g,?_,hs,Gh.le.refl g,Fr.refl _ _,fun k hk=>.inl hk,rfl,?_⟩
  ·exact (by simp only[EndR,Rep];exact⟨#[],rfl,by simp[RepL]⟩)
  ·rw[show ZeO []=[] by simp[ZeO]]
   exact (ZcT he).symm
 refine ACalls.of_turnR (by kernel_rfl) he ?_ ?_
 ·intro e
  have:=congrArg List.length e
  rw[Zc1] at this
  exact h0 (List.eq_nil_of_length_eq_zero (by simpa using this))
 ·intro w g vs b cap arr hs ha hloc hb hsz hle hr
  simp only[RepL,Rep,hloc] at ha
  obtain⟨u1,us1,e1,⟨A,c,e2,hn1,hn2,rfl⟩,rfl⟩:=ha
  simp only[Option.some.injEq,Prod.mk.injEq] at e2
  obtain⟨rfl,rfl⟩:=e2
  obtain rfl:vs = #[.slice (some ⟨b,0,none⟩) l.length cap]:=by cases vs;simp_all
  have hb':b<w.heap.size:=(Array.getElem?_eq_some_iff.1 hb).1
  have hrl2:=Zeb.1 hr
  rw[Zc1,Nat.mul_one] at hrl2 hle
  refine (Tryz.slices_Sort_int b 0 cap l w (holds_of_blockI hb hrl2) hb' hl).mono ?_
  rintro e w' ⟨rfl,n,os,rfl⟩
  obtain⟨q1,q2,q3,q4,q5⟩:=grownBy_sortedI (w:=w) (g:=b) (n:=n) (os:=os) (ZeO l).toArray
  have hb2:=heap_sortedI (n:=n) (os:=os) (ZeO l).toArray hb
  refine⟨_,(ZeO l).map (Value.int .i64),_,rfl,Zl2 _,hb2,by simp[putCells],by rw[Zc1,List.length_map,ZcQ,Nat.mul_one],?_,q1,q2,q3,q4,fun k hk hne=>q5 k hk (by simpa using hne),?_⟩
  ·rw[Zc1,Nat.mul_one]
   exact (congrArg (fun n=>List.take n _) (ZcQ l).symm).trans (take_putCellsI arr (ZeO l) (by rw[ZcQ];exact hle))
  ·simp only[Rep];exact⟨#[],rfl,by simp only[RepL]⟩
end Go.Proofs.YtlekejpogddndaaGreatDoor
end
section
namespace Go.Proofs.YtlekejpogddndaaGreatDoor
open Go.RowKit Go.Maps Go.Sort Civ
def Chs (w:World) (B:Nat) (A:Option Addr) (l:List Chg):Prop :=
 0<l.length → ∃ b off,A=some ⟨b,off,none⟩∧b<B ∧ ∀ k (h:k<l.length),
  w.cell? ⟨b,off+k*4,none⟩=some (.int .i64 l[k].1)∧w.cell? ⟨b,off+k*4+1,none⟩=some (.int .i64 l[k].2.1) ∧
  w.cell? ⟨b,off+k*4+2,none⟩=some (.int .i64 l[k].2.2.1)∧w.cell? ⟨b,off+k*4+3,none⟩=some (.string l[k].2.2.2)
def tv (t:Tab) (A:Option Addr) (c:Nat):Value:=.agg #[.int .i64 t.1.1,.int .i64 t.1.2.1,.string t.1.2.2,.slice A t.2.length c]
theorem law3:Keyed Tryz.prog 3:=int_keyed Tryz.underlying3
theorem zero3 (w:World):(zeroValue 3).run Tryz.prog w=.ok (.int .i64 0) w:=by kernel_rfl
def inL (t:Tab) (k:Nat) (x:Int):Prop:=x=t.1.1 ∨ ∃ c∈t.2.take k,c.2.1=x
theorem ZiK {H:Type}{D:DataW H}(hD:IsMap D) (y:Int) (d:DataW H) (x:Int):has (D.put (.int .i64 y) d) (.int .i64 x)=true↔(has D (.int .i64 x)=true∨x=y):=by
 by_cases h:x=y
 ·subst h
  simp[has_put_same hD (k:=.int .i64 x) trivial d]
 ·rw[has_put_other (by simpa using h)]
  simp[h]
theorem inL_zero {t:Tab}{x:Int}:inL t 0 x↔x=t.1.1:=by simp[inL]
theorem inL_succ {t:Tab}{k:Nat}(hk:k<t.2.length) {x:Int}:inL t (k+1) x↔(inL t k x∨x=t.2[k].2.1):=by
 unfold inL
 rw[List.take_succ_eq_append_getElem hk]
 simp only[List.mem_append,List.mem_singleton]
 constructor
 ·rintro (h | ⟨c,h | h,e⟩)
  ·exact .inl (.inl h)
  ·exact .inl (.inr ⟨c,h,e⟩)
  ·subst h;exact .inr e.symm
 ·rintro ((h | ⟨c,h,e⟩) | h)
  ·exact .inl h
  ·exact .inr ⟨c,.inl h,e⟩
  ·exact .inr ⟨_,.inr rfl,h.symm⟩
def CollI (D0:DataW Unit) (left:Lit→Bool) (ss:List Int):Prop:=ss.Nodup ∧ ∀ x,x∈ss↔(has D0 (.int .i64 x)=true∧left (.int .i64 x)=false)
theorem CollI.start (D0:DataW Unit):CollI D0 (has D0) []:=⟨List.nodup_nil,fun x=>by cases has D0 (.int .i64 x) <;> simp⟩
theorem CollI.step {D0:DataW Unit}{left:Lit→Bool}{ss:List Int}(h:CollI D0 left ss) {x:Int}{y:DataW Unit}(hlk:left (.int .i64 x)=true) (hat : ∀ zd,D0.atKey (.int .i64 x) zd=y):CollI D0 (fun z=>left z&&!z.sameKey (.int .i64 x)) (ss++[x]):=by
 have hhas:has D0 (.int .i64 x)=true:=has_true_of_atKey hat
 have hnew:x ∉ ss:=fun hx=>by have:=((h.2 x).1 hx).2;rw[hlk] at this;cases this
 refine⟨List.nodup_append.2 ⟨h.1,by simp,fun a ha b hb=>by simp at hb;subst hb;exact fun e=>hnew (e ▸ ha)⟩,fun y=>?_⟩
 by_cases hy:y=x
 ·subst hy;simp[hhas,Lit.sameKey]
 ·simp[h.2 y,hy,Lit.sameKey]
theorem Znp (t:Tab) (A:Option Addr) (c:Nat) (w:World) (hl:t.2.length≤1000) (h0:(Lit.int .i64 t.1.1).wf=true) (hwf : ∀ k (h:k<t.2.length),(Lit.int .i64 t.2[k].2.1).wf=true) (hc:Chs w w.heap.size A t.2) :
    Calls Tryz.prog 197 #[tv t A c] w fun e w' => ∃ (v:Value) (ss:List Int),e=.returned v∧ss.Nodup∧(∀ x,x∈ss↔inL t t.2.length x)∧(∃ B,w.heap.size≤B∧w'.ownsRow B 3 1 v ss.length ((ZeO ss).map (Value.int .i64)))∧Below w.heap.size w w':=by
  obtain⟨⟨sh,sv,nm⟩,l⟩:=t
  dsimp only [tv] at *
  obtain⟨i0,hi,hz0,hz1,hz2⟩:=info_parts (show (Tryz.prog.info? 3).map (fun i=>(i.zero,i.size,i.bytes))=some (some (.int .i64 0),1,8) from by kernel_rfl)
  have hmm := @run_makeMap Tryz.prog
  have hm0:=World.ownsMap_made (H:=Unit) (w.alloc (.cells #[.int .i64 sh,.int .i64 sv,.string nm,.slice A l.length c] 40)) Tryz.prog 3 (plainElem Tryz.prog 3)
  obtain⟨w1,hrun1,hown1,hgrow1⟩:=hm0.update (t:=300) (key:=.int .i64 sh) (val:=.int .i64 1) law3 Tryz.underlying300 (by decide) (keyOf_int_mk Tryz.underlying3 h0) (plainElem_int Tryz.underlying3 (show (Lit.int .i64 1).wf=true by decide))
  simp only[World.size_alloc] at hown1 hgrow1 hrun1
  have hb1:Below (w.heap.size+1) (w.alloc (.cells #[.int .i64 sh,.int .i64 sv,.string nm,.slice A l.length c] 40)) w1:=((Below.refl _ _).alloc (by simp) _).grown hgrow1 (by simp) (fun j hj=>by cases hj;exact Nat.le_refl _)
  have bx3:w1.cell? ⟨w.heap.size,3,none⟩=some (.slice A l.length c):=(hb1.cell (by simp)).trans (by simp)
  go_enter Tryz.func197,Tryz.ntmps197
  go_wp2_with fail
  go_loopw [16] (fun i wr => ∃ (k:Nat) (D:DataW Unit),k≤l.length∧i=.int .i64 k∧wr.ownsMap Tryz.prog 3 (plainElem Tryz.prog 3) (w.heap.size+1) (k+1) D∧(∀ x,has D (.int .i64 x)=true↔inL ((sh,sv,nm),l) k x)∧Below (w.heap.size+1) (w.alloc (.cells #[.int .i64 sh,.int .i64 sv,.string nm,.slice A l.length c] 40)) wr)
    (fun i _=>l.length-(intOf i).toNat)
  case atStart=>exact⟨0,_,Nat.zero_le _,rfl,hown1,fun x=>by rw[ZiK ⟨_,rfl⟩,inL_zero];simp[has],hb1⟩
  case round =>
    obtain⟨k,D,hk,rfl,hown,hD,hnx⟩:=hrel
    by_cases hlt:k<l.length
    · obtain⟨b,off,hA,hbw,hcc⟩:=hc om
      subst hA
      obtain⟨e0,e1,e2,e3⟩:=hcc k hlt
      have hw2:=hwf k hlt
      have up : ∀ p:Addr,p.block<w.heap.size→wr.cell? p=w.cell? p:=fun p hp=>(hnx.cell (Nat.lt_succ_of_lt hp)).trans (((Below.refl w.heap.size w).alloc (Nat.le_refl _) _).cell hp)
      replace e0:=(up _ hbw).trans e0
      replace e1:=(up _ hbw).trans e1
      replace e2:=(up _ hbw).trans e2
      replace e3:=(up _ hbw).trans e3
      have hsz:=hnx.size
      simp only[World.size_alloc] at hsz
      have hstep : ∀ x,inL ((sh,sv,nm),l) (k+1) x↔(inL ((sh,sv,nm),l) k x∨x=l[k].2.1):=fun x=>inL_succ (t:=((sh,sv,nm),l)) (k:=k) hlt
      clear up hcc
      generalize hx:l[k]=x at *
      obtain⟨ca,cs,cv,cn⟩:=x
      dsimp only at e0 e1 e2 e3 hw2 hstep
      have HX:=Lib.hid hx;clear hx
      go_wp2_with (first
        | (at_lookup;refine wpList_lookup_own_int _ rfl _ _ 300 rfl 3 3 .i64 law3 Tryz.underlying300 Tryz.underlying3 (zero3 _) (w.heap.size+1) (k+1) _ rfl (hown.alloc _) _ _ rfl (keyOf_int_mk Tryz.underlying3 hw2) ?_;intro cc hat hwc)
        | (at_mapUpdate;refine wpList_mapUpdate_own _ rfl _ _ _ 300 rfl 3 3 law3 Tryz.underlying300 _ (w.heap.size+1) (k+1) _ rfl (hown.alloc _) (by unfold maxLen;omega) _ _ _ rfl rfl (keyOf_int_mk Tryz.underlying3 hw2) _ [] (plainElem_int Tryz.underlying3 (wrap64_wf _)) ?_;intro w3 hown3 hgrow3)
        | go_in)
      go_roundw
      case rel=>exact⟨k+1,_,by omega,by go_num,hown3,fun x=>by rw[ZiK hown.isMap,hD x,hstep x],(hnx.alloc om _).grown hgrow3 (by simp;omega) (fun j hj=>by cases hj;exact Nat.le_refl _)⟩
      case measure=>simp[intOf];omega
    · have hkl:k=l.length:=by omega
      subst hkl
      have hsz:=hnx.size
      simp only[World.size_alloc] at hsz
      have hbl:=hown.lt
      have hsd:=hown.size_le
      have hnw:Below w.heap.size w wr:=((Below.refl w.heap.size w).alloc (Nat.le_refl _) _).trans (hnx.mono (Nat.le_succ _))
      go_wp2_with (first
        | (at_range;refine wpList_range_own _ rfl _ 300 rfl 3 3 law3 Tryz.underlying300 _ (w.heap.size+1) (l.length+1) _ rfl hown ?_;intro w4 hrg0 hg0 hs0)
        | go_in)
      go_frame
      have hn4:Below w.heap.size w w4:=hnw.grown hg0 hnw.size (fun j hj=>by cases hj)
      generalize hRe:wr.heap.size=R at *
      go_loopw [6] (fun v wx => ∃ (left : Lit → Bool) (cnt : Nat) (ss : List Int), wx.ranges Tryz.prog 3 (plainElem Tryz.prog 3) (w.heap.size + 1) R (l.length + 1) D left cnt ∧ ss.length + cnt ≤ Maps.size D ∧
          wx.ownsRow R 3 1 v ss.length (ss.map (Value.int .i64))∧CollI D left ss∧Below w.heap.size w wx∧R≤wx.heap.size)
        (fun _ wx=>wx.rangeLeft (w.heap.size+1) R)
      case atStart=>exact⟨_,_,[],hrg0,by simp,World.ownsRow_nil _ _ _ _,CollI.start D,hn4,by omega⟩
      case round =>
        obtain⟨left,cnt,ss,hrg,hcs,hrow,hC,hnx2,hRs⟩:=hrel
        go_wp2_with (first
          | (at_next;refine wpList_next_ranges_ii _ rfl _ rfl 3 3 .i64 .i64 law3 Tryz.underlying3 Tryz.underlying3 (w.heap.size+1) R (l.length+1) _ _ _ rfl hrg ?_ ?_)
          | go_in)
        · intro hc0 hl0
          have hmem : ∀ x,x∈ss↔inL ((sh,sv,nm),l) l.length x:=fun x=>by rw[hC.2 x,←hD x,hl0];simp
          rcases hrow.2 with ⟨hnil,hn0⟩ | ⟨g,cap,cur,hv,hbase,hb,h1,h2,h3,h4⟩
          · have:ss=[]:=List.eq_nil_of_length_eq_zero hn0
            subst this
            exact absurd ((hmem sh).2 (.inl rfl)) (by simp)
          · subst hv
            have hH:Holds (Value.int .i64) wr g 0 ss.toArray:=holds_of_blockI hb (by simpa using h4)
            have hgl:g<wr.heap.size:=(Array.getElem?_eq_some_iff.1 hb).1
            have hcl:=Tryz.slices_Sort_int g 0 cap ss wr hH hgl om
            go_wp2_with (go_at_call 198;refine hcl.mono ?_;rintro e w' ⟨rfl,nn,os,rfl⟩)
            go_ret
            exact⟨_,ss,rfl,hC.1,hmem,⟨R,by omega,ownsRow_sortedI (ZcQ ss) hbase hb h1 h2 h3⟩,hnx2.grown (grownBy_sortedI _) hnx2.size (fun j hj=>by cases hj;omega)⟩
        · intro x cc w5 cnt2 hwx hwc hlk hat hrg2 hlt hg2 hs2 hen
          have hrow2:=hrow.kept hg2 (Or.inr (row_ne_iter hrow hrg).symm)
          clear hs2
          go_wp2_with (first
            | (at_builtin;refine wpList_append_own _ rfl _ _ 112 rfl R 3 i0 (.int .i64 0) 1 8 Tryz.underlying112 hi hz0 hz1 hz2 rfl (by decide) _ _ _ rfl (hrow2.alloc _) ⟨w5.heap.size,0,none⟩ 1 1 [.int .i64 x] rfl rfl (cell_one_new _ _ _) (by simp[Value.oneCell']) (by unfold maxLen at *;omega) om (by have:=hg2.size;simp;omega) ?_;intro v' w6 hown' hg3 hnil3)
            | go_in)
          have hrg3:=(hrg2.alloc _).kept hg3 (row_ne_low hrow2 om) (row_ne_iter hrow2 hrg2)
          go_roundw
          case rel =>
            refine⟨_,cnt2,ss++[x],hrg3,by simp;omega,by simpa using hown',hC.step hlk hat,?_,?_⟩
            · exact ((hnx2.grown hg2 hnx2.size (fun j hj=>by cases hj;omega)).alloc (by have:=hnx2.size;have:=hg2.size;omega) _).grown hg3 (by have:=hnx2.size;have:=hg2.size;simp;omega) (fun j hj=>by have:=(hrow2.lt j hj).1;omega)
            · have:=hg2.size;have:=hg3.size;simp at this;omega
          case measure=>rw[hrg3.left_eq,hrg.left_eq];exact hlt
end Go.Proofs.YtlekejpogddndaaGreatDoor
end
section
namespace Go.Proofs.YtlekejpogddndaaGreatDoor
open Go.Ab Go.Sort Civ
theorem Zn8 {w:World}{g:Gh}{l:List Chg}{b off:Nat}(hb:b<w.heap.size) (h:RepC w g (rows chgC l) b off):Chs w w.heap.size (some ⟨b,off,none⟩) l:=by
 intro h0
 refine⟨b,off,rfl,hb,fun k hk=>?_⟩
 have h1:=(h.drop (k*4)).take 4
 rw[Zg4 Zcb hk] at h1
 simp only[RepC,Rep] at h1
 obtain⟨⟨u0,c0,rfl⟩,⟨u1,c1,rfl⟩,⟨u2,c2,rfl⟩,⟨u3,c3,rfl⟩,_⟩:=h1
 exact⟨c0,c1,c2,c3⟩
def ddI:List Int→List Int
 | []=>[]
 | a::l=>if a∈ddI l then ddI l else a::ddI l
theorem ZiD : ∀ {l:List Int}{x:Int},x∈ddI l↔x∈l
 | [],x=>by simp[ddI]
 | a::l,x=>by
  unfold ddI
  split
  ·rename_i h
   rw[ZiD,List.mem_cons]
   refine⟨.inr,fun e=>e.elim (fun e=>?_) id⟩
   subst e
   exact ZiD.1 h
  ·rw[List.mem_cons,List.mem_cons,ZiD]
theorem Zgz : ∀ l:List Int,(ddI l).Nodup
 | []=>List.nodup_nil
 | a::l=>by
  unfold ddI
  split
  ·exact Zgz l
  ·rename_i h;exact List.nodup_cons.2 ⟨h,Zgz l⟩
theorem ZjH {l l':List Int}(h:l.Perm l'):ZeO l=ZeO l':=by
 have tr : ∀ a b c:Int,decide (a≤b)=true→decide (b≤c)=true→decide (a≤c)=true:=fun a b c h1 h2=>by simp only[decide_eq_true_eq] at *;omega
 have tto : ∀ a b:Int,(decide (a≤b)||decide (b≤a))=true:=fun a b=>by simp only[Bool.or_eq_true,decide_eq_true_eq];omega
 refine List.Perm.eq_of_pairwise (le:=fun a b:Int=>decide (a≤b)=true) (fun a b _ _ h1 h2=>?_) (List.pairwise_mergeSort tr tto l) (List.pairwise_mergeSort tr tto l') (((List.mergeSort_perm l _).trans h).trans (List.mergeSort_perm l' _).symm)
 simp only[decide_eq_true_eq] at h1 h2
 omega
def shI (t:Tab):List Int:=ZeO (ddI (t.1.1::t.2.map (·.2.1)))
theorem shI_of {t:Tab}{ss:List Int}(h1:ss.Nodup) (h2 : ∀ x,x∈ss↔inL t t.2.length x):ZeO ss=shI t:=by
 refine ZjH ((List.perm_ext_iff_of_nodup h1 (Zgz _)).2 fun x=>?_)
 rw[h2,ZiD]
 unfold inL
 rw[List.take_of_length_le (Nat.le_refl _)]
 simp
theorem wf_of {n:Int}(h1 : -9223372036854775808≤n) (h2:n≤9223372036854775807):(Lit.int .i64 n).wf=true:=by
 have e1:IntKind.i64.min = -9223372036854775808:=by decide
 have e2:IntKind.i64.max=9223372036854775807:=by decide
 simp only[Lit.wf,Bool.and_eq_true,decide_eq_true_eq,e1,e2]
 exact⟨h1,h2⟩
theorem shifts_a {t:Tab}{full:Bool}{h:AH}(hv:Za9 t=0) :
  Ac 197 [.agg [iv t.1.1,iv t.1.2.1,sv t.1.2.2,.sl t.2.length 4 full (rows chgC t.2)]] h (.sl (shI t).length 1 false (rows intC (shI t))):=by
 obtain⟨hv1,hv2,hv3⟩:=Zdy hv
 refine ACalls.of_newrow (by kernel_rfl) (Zc1 _) (fun w g w' g' us hr=>Zeb.2 (Zeb.1 hr)) fun w g vs hs ha=>?_
 simp only[RepL,Rep] at ha
 obtain⟨val,us,e,⟨as1,rfl,u1,us1,ea1,rfl,u2,us2,rfl,rfl,u3,us3,rfl,rfl,u4,us4,rfl,⟨hcl,A,cap,rfl,g1,g2,g3,g4,g5⟩,rfl⟩,rfl⟩:=ha
 obtain rfl:vs = #[.agg as1]:=by cases vs;simp_all
 obtain rfl:as1 = #[.int .i64 t.1.1,.int .i64 t.1.2.1,.string t.1.2.2,.slice A t.2.length cap]:=by cases as1;simp_all
 have hc:Chs w w.heap.size A t.2:=by
  intro h0
  obtain⟨b,off,rfl,hd,hr⟩:=g5 (by intro e;have:=congrArg List.length e;rw[ZcD] at this;simp only[List.length_nil] at this;omega)
  exact Zn8 (hs.lt _ hd) hr h0
 have hw1:=Ze1 hv2
 refine (Znp t A cap w hv1 (wf_of om om) (fun k hk=>by have:=Ze1 (hv3 _ (List.getElem_mem hk)).2;exact wf_of om om) hc).mono ?_
 rintro e w' ⟨v,ss,rfl,hnd,hmem,⟨B,hB,hrow⟩,hbw⟩
 have hsh:=shI_of hnd hmem
 have hlen:ss.length=(shI t).length:=by rw[←hsh,ZcQ]
 rw[hsh,hlen] at hrow
 rcases hrow.2 with ⟨hnil,hn0⟩ | ⟨b,cap',cur,rfl,hbase,hb,k1,k2,k3,k4⟩
 ·exfalso
  have:t.1.1∈ss:=(hmem _).2 (.inl rfl)
  rw[List.eq_nil_of_length_eq_zero (hlen.trans hn0)] at this
  simp at this
 refine⟨b,cap',_,_,_,rfl,k1,k2,Nat.le_trans hB hbase,hb,hbw,?_⟩
 rw[Zc1]
 exact Zeb.2 k4
end Go.Proofs.YtlekejpogddndaaGreatDoor
end
section
namespace Go.Proofs.YtlekejpogddndaaGreatDoor
open Go.Ab Civ
attribute [local simp] Zb3 nm_lt Zdd
section
theorem ZcK {a0 a1 a2 c0 c1 c2:AV}{l:List AV}:setCells (a0::a1::a2::l) 0 [c0,c1,c2]=c0::c1::c2::l:=rfl
theorem Zjo {τ:Operand→AV}:Zar τ [] [(.v (.int .i64 0)),(.v (.int .i64 0)),(.v (.int .i64 0))]=some [(.v (.int .i64 0)),(.v (.int .i64 0)),(.v (.int .i64 0))]:=rfl
theorem ZcJ {a0 a1 a2:AV}{l:List AV}:((a0::a1::a2::l).drop 0).take 3=[a0,a1,a2]:=rfl
theorem Zdf {a0 a1 a2 a3:AV}{l:List AV}:((a0::a1::a2::a3::l).drop 0).take 4=[a0,a1,a2,a3]:=rfl
theorem ZjA {τ:Operand→AV}:Zar τ [] [(.v (.int .i64 0)),(.v (.int .i64 0)),(.v (.int .i64 0))]=some [(.v (.int .i64 0)),(.v (.int .i64 0)),(.v (.int .i64 0))]:=rfl
theorem Zjn {τ:Operand→AV}{y0:Operand}{x0_0:AV}(h0:Zat (τ y0)=some [x0_0]) (l0:[x0_0].all leaf=true):Zar τ [(0,1,y0)] [(.v (.int .i64 0))]=some [x0_0]:=by
 simp only[Zar,h0,l0]
 rfl
theorem ZoI {a0:AV}{l:List AV}:(a0::l).take 1=[a0]:=rfl
end
def c96:AC:=(Sr [Oo 2 (.new 59 3 [(iv 0),(iv 0),(iv 0)]),Mc 3 0,Mc 4 0] (Sr [Mv 8 0,Bc 9 .rem 8 86400,Bc 10 .add 9 86400,Bc 11 .rem 10 86400,Mv 5 11] (Sr [Mv 13 0,Mv 14 5,Bn 15 .sub 13 14,Bc 16 .quo 15 86400,Cl 17 93 [(.tmp 16)],Mv 12 17,Ex 18 12 0,Ex 19 12 1,Oo 6 (.new 59 3 [(iv 0),(iv 0),(iv 0)]),⟨none,none,(.store 3 (.tmp 6) (.tmp 18))⟩,Mv 7 19] (.seq (Sr [Mv 20 7,Bc 21 .neq 20 0] (Cd 21 (Sr [Oo 22 (.build [(iv 0),(iv 0),(iv 0)] []),Mv 23 7,⟨none,none,(.store 3 (.tmp 2) (.tmp 22))⟩,Mc 3 0,Mv 4 23] .ret) .skip)) (Sr [Oo 24 (.load true 3 (.tmp 6)),Mv 25 5,⟨none,none,(.store 3 (.tmp 2) (.tmp 24))⟩,Mv 3 25,Mc 4 0] .ret)))))
theorem k96:ZaA Tryz.prog 96=some ⟨c96,[(.cell 2 true 3),(.tmp 3),(.tmp 4)],26⟩:=by kernel_rfl
def c34:AC:=(Sr [Oo 2 (.box 40 4 (.tmp 0)),Oo 4 (.new 59 3 [(iv 0),(iv 0),(iv 0)]),Mc 5 0,Mc 6 0] (Sr [Oo 10 (.load true 4 (.tmp 2)),Mv 11 1,Cl 12 17 [(.tmp 10),(.tmp 11)],Mv 9 12,Ex 13 9 0,Ex 14 9 1,Oo 7 (.new 29 3 [(iv 0),(iv 0),Ss]),⟨none,none,(.store 3 (.tmp 7) (.tmp 13))⟩,Mv 8 14] (.seq (Sr [Mv 15 8,Bc 16 .neq 15 0] (Cd 16 (Sr [Oo 17 (.build [(iv 0),(iv 0),(iv 0)] []),Mv 18 8,⟨none,none,(.store 3 (.tmp 4) (.tmp 17))⟩,Mc 5 0,Mv 6 18] .ret) .skip)) (Sr [Mv 19 1,Fa 20 0 7,Ld 21 20,Bn 22 .add 19 21,Cl 23 96 [(.tmp 22)],Ex 24 23 0,Ex 25 23 1,Ex 26 23 2,⟨none,none,(.store 3 (.tmp 4) (.tmp 24))⟩,Mv 5 25,Mv 6 26] .ret))))
theorem k34:ZaA Tryz.prog 34=some ⟨c34,[(.cell 4 true 3),(.tmp 5),(.tmp 6)],27⟩:=by kernel_rfl
def c129:AC:=(Sr [Oo 2 (.box 40 4 (.tmp 0)),Oo 4 (.mv (.const (.slice none 0 0)))] (Sr [Oo 5 (.mv (.const (.slice none 0 0)))] (.seq (Sr [Oo 9 (.load true 4 (.tmp 2)),Cl 10 197 [(.tmp 9)],Oo 11 (.len false (.tmp 10)),Mc 12 0] (.block 0 (.loop (Sr [Bn 13 .lss 12 11] (.seq (Cd 13 .skip (.exit 0)) (.seq (.block 1 (Sr [Oo 14 (.ia 1 (.tmp 10) (.tmp 12)),Ld 15 14,Mv 7 15] (Sr [Mv 16 1,Mv 17 7,Bn 18 .sub 16 17,Mv 8 18] (Sr [Mv 19 8,Cl 20 70 [(.tmp 19)],Mv 21 20,Ot 22 21 (.load true 4 (.tmp 2)),Ot 23 21 (mt 8),Ot 24 21 (.call (.func 71) [(.tmp 22),(.tmp 23)]),Ot 25 21 (.fld false 0 1 (.tmp 24)),Ot 26 21 (mt 7),Ot 27 21 (.bin .eql (.tmp 25) (.tmp 26)),Oo 28 (.pick (.tmp 21) (.tmp 27) (.const (.bool false)))] (Cd 28 (.reg [Mv 29 5,Mv 30 8,Oo 31 (.lit 3 1 1 [(iv 0)] [(0,(1,(.tmp 30)))]),Oo 32 (.app 3 1 8 (.tmp 29) (.tmp 31)),Mv 5 32]) .skip))))) (.reg [Bc 33 .add 12 1,Mv 12 33]))))))) (Sr [Mv 34 5,Cl 35 198 [(.tmp 34)]] (Sr [Mv 36 5,Mv 4 36] .ret)))))
theorem k129:ZaA Tryz.prog 129=some ⟨c129,[(.tmp 4)],37⟩:=by kernel_rfl
def c60:AC:=(Sr [Oo 3 (.box 40 4 (.tmp 0)),Oo 4 (.box 59 3 (.tmp 1)),Oo 6 (.mv (.const (.slice none 0 0))),Mc 7 0] (.seq (Sr [Oo 11 (.load true 4 (.tmp 3)),Cl 12 23 [(.tmp 11)],Mv 8 12] (Sr [Mv 13 8,Bc 14 .neq 13 0] (Cd 14 (Sr [Mv 15 8,Oo 6 (.mv (.const (.slice none 0 0))),Mv 7 15] .ret) .skip))) (Sr [Oo 17 (.load true 3 (.tmp 4)),Cl 18 35 [(.tmp 17)],Mv 16 18,Ex 19 16 0,Ex 20 16 1,Mv 9 19,Mv 10 20] (.seq (Sr [Mv 21 10,Bc 22 .eql 21 0,Mv 23 22,Ot 24 23 (mt 2),Ot 25 23 (.bin .lss (.tmp 24) (Ci 0)),Ot 26 23 (mt 25),Of 27 26 (mt 2),Of 28 26 (.bin .geq (.tmp 27) (Ci 86400)),Ot 29 23 (.pick (.tmp 26) (.const (.bool true)) (.tmp 28)),Oo 30 (.pick (.tmp 23) (.tmp 29) (.const (.bool false)))] (Cd 30 (.reg [Mc 10 3]) .skip)) (.seq (Sr [Mv 31 10,Bc 32 .neq 31 0] (Cd 32 (Sr [Mv 33 10,Oo 6 (.mv (.const (.slice none 0 0))),Mv 7 33] .ret) .skip)) (Sr [Oo 34 (.load true 4 (.tmp 3)),Mv 35 9,Bc 36 .mul 35 86400,Mv 37 2,Bn 38 .add 36 37,Cl 39 129 [(.tmp 34),(.tmp 38)],Mv 6 39,Mc 7 0] .ret))))))
theorem k60:ZaA Tryz.prog 60=some ⟨c60,[(.tmp 6),(.tmp 7)],40⟩:=by kernel_rfl
theorem ZrI (n:Int) : -86400<n.tmod 86400∧n.tmod 86400<86400:=by
 rcases Int.lt_or_le n 0 with h | h
 ·have e:n.tmod 86400 = -((-n)%86400):=by
   rw[←Int.tmod_eq_emod_of_nonneg (by omega:0 ≤ -n),Int.neg_tmod,Int.neg_neg]
  omega
 rw[Int.tmod_eq_emod_of_nonneg h];omega
theorem tmod_mod (n:Int):(n.tmod 86400+86400)%86400=n%86400:=by
 rcases Int.lt_or_le n 0 with h | h
 ·have e:n.tmod 86400 = -((-n)%86400):=by
   rw[←Int.tmod_eq_emod_of_nonneg (by omega:0 ≤ -n),Int.neg_tmod,Int.neg_neg]
  omega
 rw[Int.tmod_eq_emod_of_nonneg h];omega
theorem v_sec {h:AH}{T:List AV}{x y:Operand}{n:Int}{k:IntKind}(hx:Zal T x=.v (.int k (n.tmod 86400+86400))) (hy:Zal T y=.v (.int k 86400)):aval h (Zal T) (.bin .rem x y)=some (.v (.int k (n%86400))):=by
 rw[ZfM hx hy (by have:=ZrI n;omega) om,tmod_mod]
theorem v_quoX {h:AH}{T:List AV}{x y:Operand}{a b q:Int}(hx:Zal T x=iv a) (hy:Zal T y=iv b) (hb:b≠0) (hq:a=b*q) (h1 : -9223372036854775808≤q) (h2:q≤9223372036854775807):aval h (Zal T) (.bin .quo x y)=some (iv q):=by
 rw[v_quow hx hy hb,hq,Int.mul_tdiv_cancel_left _ hb,w64 h1 h2]
def inD (n:Int):Prop := -719162≤n∧n≤2932896
instance (n:Int):Decidable (inD n):=by unfold inD;infer_instance
def shD (n:Int):Int×Int×Int:=if inD (n/86400) then Zbl (n/86400) else (0,0,0)
def shS (n:Int):Int:=if inD (n/86400) then n%86400 else 0
def shE (n:Int):Int:=if inD (n/86400) then 0 else 3
theorem shown_a {n:Int}{h:AH}(h0 : -1000000000000000≤n) (h1:n≤1000000000000000):Ac 96 [iv n] h (.tup [Zn2 (shD n),iv (shS n),iv (shE n)]):=by
 have hb:=ZrI n
 refine tI' k96 fun N hn hlt hlA hbd=>?_
 simp only[tb'] at hbd ⊢
 refine wr'<|E' (ZaV (hl0 hn) ha0) pt<|mw<|mw<|sn'<|wr'<|mw<|?_
 refine V' (ZlB lk lki om) pt ?_
 refine V' (Zay lk lki om om) pt ?_
 refine Vw (v_sec lk lki)<|mw<|sn'<|wr'<|mw<|mw<|?_
 refine V' (Zbt lk lk om om) pt ?_
 refine V' (v_quoX (q:=n/86400) lk lki om om om om) pt ?_
 refine Zad mp (of_a) pt<|mw<|Vw (ZaN lk gt)<|Vw (ZaN lk gt)<|E' (ZaV (hl1 hn) ha1) pt<|E' (Zak lk cv gx rfl (nb' rfl) rfl ZcK (hs1 hn)) ptn<|mw<|sn'<|Zam<|wr'<|mw<|Vw (ZaT lk lki)<|?_
 refine sn' ?_
 refine cd' lk (fun hc1=>?_) (fun hc1=>?_)
 ·have hno:¬inD (n/86400):=by intro e;unfold inD at e;rw[if_pos e] at hc1;exact hc1 rfl
  refine wr'<|Vw (Zau Zjo)<|mw<|E' (Zak lk cv gx rfl (nb' rfl) rfl ZcK (hs0 hn)) ptn<|mw<|mw<|sn'<|Zaa<|Zai<|Zae (rsn (rm1 (rr_c gt gx (ld1 ZcJ rfl)) (rm1 (rr_t gt) (rm1 (rr_t gt) rm0))))<|rT'<|?_
  unfold shD shS shE;rw[if_neg hno,if_neg hno,if_neg hno];rw[if_neg (show ¬(-719162≤n/86400∧n/86400≤2932896) from hno)]
 have hyes:inD (n/86400):=Decidable.byContradiction (fun e=>hc1 (by unfold inD at e;rw[if_neg e];decide))
 refine Zaf<|Zah<|wr'<|Vw (Zan lk gx ZcJ rfl)<|mw<|E' (Zak lk cv gx rfl (nb' rfl) rfl ZcK (hs0 hn)) ptn<|mw<|mw<|sn'<|Zaa<|Zae (rsn (rm1 (rr_c gt gx (ld1 ZcJ rfl)) (rm1 (rr_t gt) (rm1 (rr_t gt) rm0))))<|rT'<|?_
 unfold shD shS shE;rw[if_pos hyes,if_pos hyes,if_pos hyes];rw[if_pos (show -719162≤n/86400∧n/86400≤2932896 from hyes)]
theorem Zqe {a:Loc}{l:List Chg}(ha:locE a=0) (hl : ∀ x∈l,locE x.2=0):locE (Zgs a l)=0:=by
 induction l generalizing a with
 | nil=>exact ha
 | cons c l ih=>exact ih (hl c (by simp)) (fun x hx=>hl x (by simp[hx]))
theorem Zid {t:Tab}(h:Za9 t=0) (n:Int):locE (Zbu t n)=0:=by
 obtain⟨_,h2,h3⟩:=Zdy h
 exact Zqe h2 (fun x hx=>(h3 x (List.mem_of_mem_take hx)).2)
def Zjq (t:Tab) (n:Int):Int:=if Za9 t≠0 then Za9 t else if Zda n=true then 0 else 3
def Znc (t:Tab) (n:Int):Int×Int×Int:=if Zjq t n=0 then shD (n+(Zbu t n).1) else (0,0,0)
def ZpL (t:Tab) (n:Int):Int:=if Zjq t n=0 then shS (n+(Zbu t n).1) else 0
def ZpM (t:Tab) (n:Int):Int:=if Zjq t n=0 then shE (n+(Zbu t n).1) else Zjq t n
theorem Zpb {t:Tab}{n:Int}(h:Zjq t n=0):Za9 t=0∧Zda n=true:=by
 unfold Zjq at h
 split at h
 ·rename_i h1;exact absurd h h1
 rename_i h1
 split at h
 ·rename_i h2;exact⟨Decidable.of_not_not h1,h2⟩
 cases h
theorem Zrz {t:Tab}{n:Int}{full:Bool}{h:AH}(ht:okT t) :
  Ac 34 [.agg [iv t.1.1,iv t.1.2.1,sv t.1.2.2,.sl t.2.length 4 full (rows chgC t.2)],iv n] h (.tup [Zn2 (Znc t n),iv (ZpL t n),iv (ZpM t n)]):=by
 refine tI' k34 fun N hn hlt hlA hbd=>?_
 simp only[tb'] at hbd ⊢
 refine wr'<|E' (Zbd cv rfl (hl0 hn) ha0) pt<|E' (ZaV (hl1 hn) ha1) pt<|mw<|mw<|sn'<|wr'<|Vw (Zan lk gx Zdf rfl)<|mw<|Zad mp (ZrJ (t:=t) ht) pt<|mw<|?_
 refine Vw (ZaN lk gt)<|Vw (ZaN lk gt)<|E' (ZaV (hl2 hn) ha2) pt<|E' (Zak lk cv gx rfl (nb' rfl) rfl ZcK (hs2 hn)) ptn<|mw<|sn'<|Zam<|wr'<|mw<|Vw (ZaT lk lki)<|sn'<|?_
 refine cd' lk (fun hc1=>?_) (fun hc1=>?_)
 ·have hv:Zjq t n≠0:=hc1
  refine wr'<|Vw (Zau ZjA)<|mw<|E' (Zak lk cv gx rfl (nb' rfl) rfl ZcK (hs1 hn)) ptn<|mw<|mw<|sn'<|Zaa<|Zai<|Zae (rsn (rm1 (rr_c gt gx (ld1 ZcJ rfl)) (rm1 (rr_t gt) (rm1 (rr_t gt) rm0))))<|rT'<|?_
  unfold Znc ZpL ZpM;rw[if_neg hv,if_neg hv,if_neg hv];rfl
 have hv:Zjq t n=0:=Decidable.of_not_not hc1
 obtain⟨hv1,hv2⟩:=Zpb hv
 have hls:=Ze1 (Zid hv1 n)
 have hbt:=ZeT.1 hv2
 have hif:(if Za9 t=0∧Zda n=true then Zbu t n else (0,0,⟨#[]⟩))=Zbu t n:=if_pos ⟨hv1,hv2⟩
 rw[hif]
 refine Zaf<|Zah<|wr'<|mw<|Vw (Zab lk)<|Vw (Zac lk gx gt0)<|?_
 refine V' (Zay lk lk om om) pt ?_
 refine Zad mp (shown_a (n:=n+(Zbu t n).1) om om) pt ?_
 refine Vw (ZaN lk gt)<|Vw (ZaN lk gt)<|Vw (ZaN lk gt)<|E' (Zak lk cv gx rfl (nb' rfl) rfl ZcK (hs1 hn)) ptn<|mw<|mw<|sn'<|Zaa<|Zae (rsn (rm1 (rr_c gt gx (ld1 ZcJ rfl)) (rm1 (rr_t gt) (rm1 (rr_t gt) rm0))))<|rT'<|?_
 unfold Znc ZpL ZpM;rw[if_pos hv,if_pos hv,if_pos hv]
def ZnS (t:Tab) (n s:Int):Bool:=Zda (n-s)&&decide ((Zbu t (n-s)).1=s)
def wl (t:Tab) (n:Int) (L:List Int):List Int:=(L.filter (ZnS t n)).map (n - ·)
def Zrv (t:Tab) (n:Int):List Int:=ZeO (wl t n (shI t))
theorem ZsJ {l:List Int}{x:Int}:x∈ZeO l↔x∈l:=List.mem_mergeSort
theorem ZsK {t:Tab}{x:Int}:x∈shI t↔x=t.1.1 ∨ ∃ c∈t.2,c.2.1=x:=by
 unfold shI
 rw[ZsJ,ZiD]
 simp
theorem Ztn : ∀ l:List Int,(ddI l).length≤l.length
 | []=>Nat.le_refl _
 | a::l=>by
  have:=Ztn l
  unfold ddI
  split <;> simp <;> omega
theorem shI_len (t:Tab):(shI t).length≤1+t.2.length:=by
 unfold shI
 rw[ZcQ]
 have:=Ztn (t.1.1::t.2.map (·.2.1))
 simp at this
 omega
theorem wl_len (t:Tab) (n:Int) (L:List Int):(wl t n L).length≤L.length:=by
 unfold wl
 rw[List.length_map]
 exact List.length_filter_le _ _
theorem Znb {t:Tab}{n s:Int}{L:List Int}:wl t n (L++[s])=wl t n L++(if ZnS t n s then [n-s] else []):=by
 unfold wl
 rw[List.filter_append,List.map_append]
 congr 1
 cases h:ZnS t n s <;> simp[h]
theorem shI_bd {t:Tab}(h:Za9 t=0) : ∀ x∈shI t,-75600≤x∧x≤75600:=by
 obtain⟨_,h2,h3⟩:=Zdy h
 intro x hx
 rcases ZsK.1 hx with rfl | ⟨c,hc,rfl⟩
 ·exact (Ze1 h2).1
 exact (Ze1 (h3 c hc).2).1
theorem wtimes_a {t:Tab}{n:Int}{full:Bool}{h:AH}(hv:Za9 t=0) (h0 : -1000000000000000≤n) (h1:n≤1000000000000000) :
  Ac 129 [.agg [iv t.1.1,iv t.1.2.1,sv t.1.2.2,.sl t.2.length 4 full (rows chgC t.2)],iv n] h (.sl (Zrv t n).length 1 false (rows intC (Zrv t n))):=by
 have hl:=Zkb hv
 have hsl:=shI_len t
 refine tI' k129 fun N hn hlt hlA hbd=>?_
 simp only[tb'] at hbd ⊢
 refine wr'<|E' (Zbd (cvl lk0 rfl) rfl (hl0 hn) ha0) pt2<|mv' lkn pt4<|sn'<|wr'<|mv' lkn pt5<|Zas<|Za5 (ALe.own0' (st':=1) (ty:=3) gt5 (hl1 hn) pt5 ha1)<|Zam<|wr'<|?_
 refine Vw (Zan lk gx Zdf rfl)<|Zad mp (shifts_a (t:=t) hv) pt<|Vw (ZaL lk)<|mw<|sn'<|Zap<|?_
 refine w_lp (ι:=Nat×Nat) (fun (x_:Nat×Nat)=>match x_ with | ⟨k,v⟩=>[(5,.own (N+1) v (wl t n ((shI t).take k)).length),(12,iv (k:Int)),(7,.any),(8,.any)]++rn' 13 21) (fun (x_:Nat×Nat)=>match x_ with | ⟨k,v⟩=>[(1,.mk v 3 1 (rows intC (wl t n ((shI t).take k))))]) (fun (x_:Nat×Nat)=>match x_ with | ⟨k,v⟩=>k≤(shI t).length) (fun (x_:Nat×Nat)=>match x_ with | ⟨k,v⟩=>(shI t).length-k) (⟨0,0⟩) (by exact Nat.zero_le _) ?_
 rintro⟨k,v⟩ hi1
 try simp only[sm',Nat.reduceAdd]
 refine wr'<|Vw (Zbb lk lk)<|sn'<|Zam<|?_
 refine cd' lk (fun hc1=>?_) (fun hc1=>?_)
 ·have hk:k<(shI t).length:=by omega
  have hbs:=shI_bd hv _ (List.getElem_mem hk)
  have hst:(shI t).take (k+1)=(shI t).take k++[(shI t)[k]]:=List.take_succ_eq_append_getElem hk
  have hwl:=wl_len t n ((shI t).take k)
  have htl:((shI t).take k).length≤k:=by rw[List.length_take];omega
  refine Zaf<|Zah<|Zam<|Zap<|wr'<|?_
  refine V' (Za0 lk lk ZcS (nb' rfl) ro om ro rfl) pt ?_
  refine Vw (ZaE lk gt)<|mw<|sn'<|wr'<|mw<|mw<|?_
  refine V' (Zbt lk lk om om) pt ?_
  refine mw<|sn'<|wr'<|mw<|Zad mp (ZrN) pt<|mw<|?_
  refine ZaG (t:=21) gt pt pt (fun hg21=>?_) (fun hg21=>?_)
  ·refine s_do gt<|Vw (Zan lk gx Zdf rfl)<|s_do gt<|mw<|s_do gt<|?_
   refine Zad mp (ZrP (t:=t) om) pt ?_
   refine s_do gt<|Vw (v_fld lk gt)<|s_do gt<|mw<|s_do gt<|Vw (ZaP lk lk)<|Vw (Zag lk lk)<|sn'<|?_
   refine cd' lk (fun hc2=>?_) (fun hc2=>?_)
   ·have hE:wl t n ((shI t).take (k+1))=wl t n ((shI t).take k)++[n-(shI t)[k]]:=by rw[hst,Znb,if_pos (by unfold ZnS;simp[hg21,hc2])]
    refine Zav<|mw<|mw<|E' (Zdm (Zjn cv rfl) (hl2 hn) ha2) pt<|?_
    refine E' (Zdn (Zcs lk gx rfl ZoI (nb' rfl)) lk gx (Zc1 _) om rfl (hs1 hn)) pt ?_
    refine mw<|Zas<|Zaz<|Zah<|Zav<|?_
    refine V' (Zay lk lki om om) pt ?_
    refine mw<|Zas<|ZaB<|?_
    refine lU' (⟨k+1,v+1⟩) (by (try dsimp only);omega) (by (try dsimp only);(try simp only[sm',Nat.reduceAdd]);exact bkE' 2 hn hlt (by repeat (first | exact wk0 | refine wka ?_ | refine wk1 rfl ?_ | refine wk1 (by first | rfl | exact ivx om | (rw[hE];done) | (rw[hE,List.length_append];rfl)) ?_)) (by simp only[hE,ZaZ,Zbi];try rfl) (hT:=by simp[AV.lt,AV.ltL,Ent.lt]) (hE:=by simp[AV.lt,AV.ltL,Ent.lt]))
   have hE:wl t n ((shI t).take (k+1))=wl t n ((shI t).take k):=by rw[hst,Znb,if_neg (by unfold ZnS;simp[hg21,hc2]),List.append_nil]
   refine Zaf<|Zaz<|Zah<|Zav<|?_
   refine V' (Zay lk lki om om) pt ?_
   refine mw<|Zas<|ZaB<|?_
   refine lU' (⟨k+1,v⟩) (by (try dsimp only);omega) (by (try dsimp only);(try simp only[sm',Nat.reduceAdd]);exact ALe.same (by repeat (first | exact wk0 | refine wka ?_ | refine wk1 rfl ?_ | refine wk1 (by first | rfl | exact ivx om | (rw[hE];done) | (rw[hE,List.length_append];rfl)) ?_)) (by simp only[hE,ZaZ,Zbi];try rfl))
  have hE:wl t n ((shI t).take (k+1))=wl t n ((shI t).take k):=by rw[hst,Znb,if_neg (by unfold ZnS;simp[hg21]),List.append_nil]
  refine s_no gt pt<|s_no gt pt<|s_no gt pt<|s_no gt pt<|s_no gt pt<|s_no gt pt<|Vw (Zaj lk lkb)<|sn'<|ZaM lk<|Zaf<|Zaz<|Zah<|Zav<|?_
  refine V' (Zay lk lki om om) pt ?_
  refine mw<|Zas<|ZaB<|?_
  refine lU' (⟨k+1,v⟩) (by (try dsimp only);omega) (by (try dsimp only);(try simp only[sm',Nat.reduceAdd]);exact ALe.same (by repeat (first | exact wk0 | refine wka ?_ | refine wk1 rfl ?_ | refine wk1 (by first | rfl | exact ivx om | (rw[hE];done) | (rw[hE,List.length_append];rfl)) ?_)) (by simp only[hE,ZaZ,Zbi];try rfl))
 have hkl:k=(shI t).length:=by omega
 have hwl:=wl_len t n ((shI t).take k)
 have htl:(shI t).take k=shI t:=List.take_of_length_le om
 rw[htl] at hwl
 simp only[htl]
 refine ZaQ<|ZaD<|ZaD<|Zba<|Zah<|wr'<|mw<|?_
 refine ZaO mp (ZrZ (l:=wl t n (shI t)) gx om) (hs1 hn) pt ?_
 refine Zas ?_
 refine Za5 (ALe.iceR gx gt5 (List.take_of_length_le (by rw[Zc1,ZcQ];exact Nat.le_refl _)) (by rw[Zc1,ZcQ];exact Nat.le_refl _) pt5 (hs1 hn)) ?_
 refine wr'<|mw<|mw<|sn'<|Zaa<|Zae rz<|rT'<|?_
 show AV.sl _ 1 false _=_
 rw[show (wl t n (shI t)).length=(Zrv t n).length from (ZcQ _).symm]
 rfl
def ZhI (t:Tab) (d:Int×Int×Int) (s:Int):Int:=if Za9 t≠0 then Za9 t else if Za2 d.1 d.2.1 d.2.2=true∧0≤s∧s<86400 then 0 else 3
def ZkB (t:Tab) (d:Int×Int×Int) (s:Int):List Int:=if ZhI t d s=0 then Zrv t (num d.1 d.2.1 d.2.2*86400+s) else []
theorem when_a {t:Tab}{y m d s:Int}{full:Bool}{h:AH}(ht:okT t) :
  Ac 60 [.agg [iv t.1.1,iv t.1.2.1,sv t.1.2.2,.sl t.2.length 4 full (rows chgC t.2)],.agg [iv y,iv m,iv d],iv s] h (.tup [.sl (ZkB t (y,m,d) s).length 1 false (rows intC (ZkB t (y,m,d) s)),iv (ZhI t (y,m,d) s)]):=by
 refine tW' k60 fun N hn hlt hlA hbd=>?_
 simp only[tb'] at hbd ⊢
 refine wr'<|E' (Zbd cv rfl (hl0 hn) ha0) pt<|E' (Zbd cv rfl (hl1 hn) ha1) pt<|mw<|mw<|sn'<|Zam<|wr'<|Vw (Zan lk gx Zdf rfl)<|Zad mp (Zn9 (l:=t.2) ht.1 ht.2) pt<|mw<|?_
 refine sn'<|wr'<|mw<|Vw (ZaT lk lki)<|sn'<|?_
 refine cd' lk (fun hc1=>?_) (fun hc1=>?_)
 ·have hv:Za9 t≠0:=hc1
  have he:ZhI t (y,m,d) s=Za9 t:=if_pos hv
  refine wr'<|mw<|mw<|mw<|sn'<|Zaa<|Zai<|Zae ry<|rtW'<|?_
  rw[ZkB,if_neg (by rw[he];exact hv),he];exact Wk.tup (wkw Wk.nilF (wk1 rfl wk0))
 have hv:Za9 t=0:=Decidable.of_not_not hc1
 refine Zaf<|Zah<|wr'<|Vw (Zan lk gx ZcJ rfl)<|Zad mp (Zpv) pt<|mw<|Vw (ZaN lk gt)<|Vw (ZaN lk gt)<|mw<|mw<|sn'<|Zam<|?_
 refine wr'<|mw<|Vw (ZaP lk lki)<|mw<|?_
 refine sp' (t:=23) gt pt pt (fun hg23=>?_) (fun hg23=>?_)
 ·have hd:Za2 y m d=true:=by cases hd:Za2 y m d <;> simp[hd] at hg23 ⊢
  have hnb:=Zmg hd
  refine s_do gt<|mw<|s_do gt<|Vw (Zbb lk lki)<|s_do gt<|mw<|?_
  refine sp' (t:=26) gt pt pt (fun hg26=>?_) (fun hg26=>?_)
  ·have he:ZhI t (y,m,d) s=3:=by rw[ZhI,if_neg (by simpa using hv),if_neg om]
   refine s_no gt pt<|s_no gt pt<|s_do gt<|Vw (Zag lk lkb)<|Vw (Zag lk lk)<|sn'<|ZaC lk<|Zav<|mw<|sn'<|Zam<|Zam<|?_
   refine Zav<|mw<|Vw (ZaT lk lki)<|sn'<|?_
   refine ZcZ lk (by rfl) ?_
   refine wr'<|mw<|mw<|mw<|sn'<|Zaa<|Zai<|Zae ry<|rtW'<|?_
   rw[ZkB,if_neg (by rw[he];decide),he];exact Wk.tup (wkw Wk.nilF (wk1 rfl wk0))
  refine s_do gt<|mw<|s_do gt<|Vw (ZeR lk lki)<|s_do gt<|Vw (Zaj lk lk)<|Vw (Zag lk lk)<|sn'<|?_
  refine cd' lk (fun hc2=>?_) (fun hc2=>?_)
  ·have he:ZhI t (y,m,d) s=3:=by rw[ZhI,if_neg (by simpa using hv),if_neg om]
   refine Zav<|mw<|sn'<|Zam<|wr'<|mw<|Vw (ZaT lk lki)<|sn'<|?_
   refine ZcZ lk (by rfl) ?_
   refine wr'<|mw<|mw<|mw<|sn'<|Zaa<|Zai<|Zae ry<|rtW'<|?_
   rw[ZkB,if_neg (by rw[he];decide),he];exact Wk.tup (wkw Wk.nilF (wk1 rfl wk0))
  have he:ZhI t (y,m,d) s=0:=by rw[ZhI,if_neg (by simpa using hv),if_pos ⟨hd,by omega,by omega⟩]
  refine Zaf<|Zah<|Zam<|wr'<|mw<|Vw (ZaT lk lki)<|sn'<|?_
  refine ZdO lk (by rw[hd];rfl) ?_
  refine Zaf<|Zah<|wr'<|Vw (Zan lk gx Zdf rfl)<|mw<|?_
  refine V' (ZeN lk lki om om) pt ?_
  refine mv' lk pt ?_
  refine V' (Zay lk lk om om) pt ?_
  refine Zad mp (wtimes_a (t:=t) hv (by rw[hd];simp only[if_true];omega) (by rw[hd];simp only[if_true];omega)) pt ?_
  refine mw<|mw<|sn'<|Zaa<|Zae ry<|rtW'<|?_
  rw[ZkB,if_pos he,he];simp only[hd,if_true];exact Wk.refl _
 have hd:Za2 y m d=false:=by cases hd:Za2 y m d <;> simp[hd] at hg23 ⊢
 have he:ZhI t (y,m,d) s=3:=by rw[ZhI,if_neg (by simpa using hv),if_neg (by simp[hd])]
 refine s_no gt pt<|s_no gt pt<|s_no gt pt<|s_nu gt pt<|s_nu gt pt<|s_no gt pt<|Vw (Zaj lk lkb)<|sn'<|ZaM lk<|Zaf<|Zah<|Zam<|Zam<|?_
 refine Zav<|mw<|Vw (ZaT lk lki)<|sn'<|?_
 refine ZcZ lk (by rw[hd];rfl) ?_
 refine wr'<|mw<|mw<|mw<|sn'<|Zaa<|Zai<|Zae ry<|rtW'<|?_
 rw[show (if Za2 y m d=true then (0:Int) else 3)=3 from by rw[hd];rfl,ZkB,if_neg (by rw[he];decide),he];exact Wk.tup (wkw Wk.nilF (wk1 rfl wk0))
end Go.Proofs.YtlekejpogddndaaGreatDoor
end
section
namespace Go.Proofs.YtlekejpogddndaaGreatDoor
open Go.Ab Civ
def shF (x:Int):Int→List Chg→Int
 | s,[]=>s
 | s,c::l=>if x<c.1 then s else shF x c.2.1 l
theorem shF_is {x:Int} : ∀ {a:Loc}{l:List Chg},(Zgs a (l.take (l.findIdx fun c=>decide (x<c.1)))).1=shF x a.1 l
 | a,[]=>rfl
 | a,c::l=>by
  rw[List.findIdx_cons]
  by_cases hc:x<c.1
  ·simp[hc,Zgs,shF]
  ·simp only[hc,decide_false,cond_false,List.take_succ_cons,Zgs,shF]
   exact shF_is
theorem Zsa (t:Tab) (x:Int):(Zbu t x).1=shF x t.1.1 t.2:=shF_is
def spL (N:Int):Int→Int→List Chg→List Int
 | f,s,[]=>if f≤N-s∧N-s<253402300800 then [N-s] else []
 | f,s,c::l=>(if f≤N-s∧N-s<c.1 then [N-s] else [])++spL N c.1 c.2.1 l
theorem Znn {N:Int} : ∀ {f s:Int}{l:List Chg},(∀ c∈l,f≤c.1∧c.1<253402300800)→l.Pairwise (fun c d=>c.1<d.1) → ∀ {x:Int},x∈spL N f s l↔f≤x∧x<253402300800∧shF x s l=N-x
 | f,s,[],_,_,x=>by
  simp only[spL,shF]
  split
  ·simp only[List.mem_singleton];omega
  ·simp;omega
 | f,s,c::l,hb,hp,x=>by
  obtain⟨h1,h2⟩:=List.pairwise_cons.1 hp
  have hc:=hb c (by simp)
  have ih:=Znn (N:=N) (f:=c.1) (s:=c.2.1) (l:=l) (fun d hd=>⟨by have:=h1 d hd;omega,(hb d (by simp[hd])).2⟩) h2 (x:=x)
  rw[spL,List.mem_append,ih,shF]
  by_cases hx:x<c.1
  ·rw[if_pos hx]
   constructor
   ·rintro (h | h)
    ·split at h
     ·simp at h;omega
     ·simp at h
    ·omega
   ·rintro⟨a,b,e⟩
    left
    rw[if_pos om]
    simp;omega
  ·rw[if_neg hx]
   constructor
   ·rintro (h | h)
    ·split at h
     ·simp at h;omega
     ·simp at h
    ·omega
   ·rintro⟨a,b,e⟩
    exact .inr ⟨by omega,b,e⟩
theorem ZlW {N:Int} : ∀ {f s:Int}{l:List Chg},(∀ c∈l,f≤c.1∧c.1<253402300800)→l.Pairwise (fun c d=>c.1<d.1)→(spL N f s l).Nodup
 | f,s,[],_,_=>by unfold spL;split <;> simp
 | f,s,c::l,hb,hp=>by
  obtain⟨h1,h2⟩:=List.pairwise_cons.1 hp
  have hb2 : ∀ d∈l,c.1≤d.1∧d.1<253402300800:=fun d hd=>⟨by have:=h1 d hd;omega,(hb d (by simp[hd])).2⟩
  rw[spL]
  refine List.nodup_append.2 ⟨by split <;> simp,ZlW hb2 h2,fun a ha b hb3=>?_⟩
  have:=((Znn hb2 h2).1 hb3).1
  split at ha
  ·simp at ha;omega
  ·simp at ha
def spA (t:Tab) (N:Int):List Int:=spL N (-62135596800) t.1.1 t.2
theorem ZpQ {t:Tab}(x:Int):(Zbu t x).1∈shI t:=by
 rw[ZsK]
 have : ∀ (a:Loc) (l:List Chg),Zgs a l=a ∨ ∃ c∈l,Zgs a l=c.2:=by
  intro a l
  induction l generalizing a with
  | nil=>exact .inl rfl
  | cons c l ih =>
   rcases ih c.2 with h | ⟨d,hd,h⟩
   ·exact .inr ⟨c,by simp,h⟩
   ·exact .inr ⟨d,by simp[hd],h⟩
 rcases this t.1 (t.2.take (ZiZ t x)) with h | ⟨c,hc,h⟩
 ·left;unfold Zbu;rw[h]
 ·right;exact⟨c,List.mem_of_mem_take hc,by unfold Zbu;rw[h]⟩
theorem wl_mem {t:Tab}{N x:Int}:x∈wl t N (shI t)↔Zda x=true∧(Zbu t x).1=N-x:=by
 unfold wl ZnS
 rw[List.mem_map]
 constructor
 ·rintro⟨s,hs,rfl⟩
  obtain⟨h1,h2⟩:=List.mem_filter.1 hs
  simp only[Bool.and_eq_true,decide_eq_true_eq] at h2
  exact⟨h2.1,by rw[h2.2];omega⟩
 ·rintro⟨h1,h2⟩
  refine⟨N-x,List.mem_filter.2 ⟨by rw[←h2];exact ZpQ x,?_⟩,by omega⟩
  simp only[show N-(N-x)=x by omega,h1,h2,decide_true,Bool.and_self]
theorem Zr9 (t:Tab):(shI t).Nodup:=(List.mergeSort_perm _ _).nodup_iff.2 (Zgz _)
theorem wl_nodup {t:Tab}{N:Int}:(wl t N (shI t)).Nodup:=by
 unfold wl
 exact List.Pairwise.map _ (fun a b h e=>h om) ((Zr9 t).filter _)
theorem spA_when {t:Tab}(h:Za9 t=0) (N:Int):ZeO (spA t N)=Zrv t N:=by
 obtain⟨_,h2,h3⟩:=Zdy h
 have hr:=Zoa h
 have hb : ∀ c∈t.2,-62135596800≤c.1∧c.1<253402300800:=fun c hc=>by have:=ZeT.1 (h3 c hc).1;omega
 refine ZjH ((List.perm_ext_iff_of_nodup (ZlW hb hr) wl_nodup).2 fun x=>?_)
 rw[Znn hb hr,wl_mem,Zsa,ZeT]
 omega
theorem ZlX (l:List Int):(ZeO l).Pairwise (· ≤ ·):=by
 have tr : ∀ a b c:Int,decide (a≤b)=true→decide (b≤c)=true→decide (a≤c)=true:=fun a b c h1 h2=>by simp only[decide_eq_true_eq] at *;omega
 have tto : ∀ a b:Int,(decide (a≤b)||decide (b≤a))=true:=fun a b=>by simp only[Bool.or_eq_true,decide_eq_true_eq];omega
 exact (List.pairwise_mergeSort tr tto l).imp (fun h=>by simpa using h)
theorem ZpY {l m:List Int}(hp:m.Perm l) (hs:m.Pairwise (· ≤ ·)):m=ZeO l :=
 List.Perm.eq_of_pairwise (le:=fun a b:Int=>a≤b) (fun a b _ _ h1 h2=>by omega) hs (ZlX l) (hp.trans (List.mergeSort_perm l _).symm)
end Go.Proofs.YtlekejpogddndaaGreatDoor
end
section
namespace Go.Proofs.YtlekejpogddndaaGreatDoor
open Go.Ab
attribute [local simp] Zdd
end Go.Proofs.YtlekejpogddndaaGreatDoor
end
