/-
  Part 2 of the proof: own lemmas and contracts on plain data. No condition beyond those that each lemma states.
-/
import Derived.Test.YtgjchdhdopgkkaaGreatDoorB1
import Derived.Lib.IndexBytes
set_option linter.all false
set_option maxRecDepth 1000000
set_option maxHeartbeats 4000000
section
namespace Go.Proofs.YtgjchdhdopgkkaaGreatDoor
open Go.Ab Civ
def c160:AC:=(Sr [Oo 1 (.box 60 3 (.tmp 0)),Mb 2 false] (Sd [Fa 3 0 1,Ld 4 3,Cl 5 149 [(.tmp 4),(Ci 1),(Ci 9999)],Mv 6 5,Ot 7 6 (.fa 1 (.tmp 1)),Ot 8 6 (.load false 1 (.tmp 7)),Ot 9 6 (.call (.func 149) [(.tmp 8),(Ci 1),(Ci 12)]),Oo 10 (.pick (.tmp 6) (.tmp 9) (.const (.bool false))),Mv 11 10,Ot 12 11 (.fa 2 (.tmp 1)),Ot 13 11 (.load false 1 (.tmp 12)),Ot 14 11 (.fa 0 (.tmp 1)),Ot 15 11 (.load false 1 (.tmp 14)),Ot 16 11 (.fa 1 (.tmp 1)),Ot 17 11 (.load false 1 (.tmp 16)),Ot 18 11 (.call (.func 124) [(.tmp 15),(.tmp 17)]),Ot 19 11 (.call (.func 149) [(.tmp 13),(Ci 1),(.tmp 18)]),Oo 20 (.pick (.tmp 11) (.tmp 19) (.const (.bool false))),Mv 2 20] .ret))
theorem k160:ZaH Tryz.prog 160=some ⟨c160,[(.tmp 2)],21⟩:=by kernel_rfl
def c127:AC:=(Sr [Oo 1 (.box 60 3 (.tmp 0)),Mc 2 0,Mc 3 0] (.seq (Sr [Oo 4 (.load true 3 (.tmp 1)),Cl 5 160 [(.tmp 4)],Oo 6 (.un .not (.tmp 5))] (Cd 6 (Sr [Mc 2 0,Mc 3 3] .ret) .skip)) (Sr [Oo 7 (.load true 3 (.tmp 1)),Cl 8 122 [(.tmp 7)],Mv 2 8,Mc 3 0] .ret)))
theorem k127:ZaH Tryz.prog 127=some ⟨c127,[(.tmp 2),(.tmp 3)],9⟩:=by kernel_rfl
def c157:AC:=(Sr [Oo 2 (.new 60 3 [(iv 0),(iv 0),(iv 0)])] (Sr [Mv 6 0,Cl 7 151 [],Bn 8 .add 6 7,Mv 3 8] (Sr [Mv 9 3,Bc 10 .quo 9 366,Bc 11 .add 10 1,Mv 4 11] (.seq (.block 0 (.loop (.seq (Sr [Mv 12 4,Bc 13 .add 12 1,Cl 14 150 [(.tmp 13)],Mv 15 3,Bn 16 .leq 14 15] (Cd 16 .skip (.exit 0))) (.block 1 (.reg [Mv 17 4,Bc 18 .add 17 1,Mv 4 18]))))) (Sr [Mv 19 3,Mv 20 4,Cl 21 150 [(.tmp 20)],Bn 22 .sub 19 21,Mv 3 22] (Sr [Mc 5 1] (.seq (.block 2 (.loop (.seq (Sr [Mv 23 3,Mv 24 4,Mv 25 5,Cl 26 124 [(.tmp 24),(.tmp 25)],Bn 27 .geq 23 26] (Cd 27 .skip (.exit 2))) (.block 3 (Sr [Mv 28 3,Mv 29 4,Mv 30 5,Cl 31 124 [(.tmp 29),(.tmp 30)],Bn 32 .sub 28 31,Mv 3 32] (.reg [Mv 33 5,Bc 34 .add 33 1,Mv 5 34])))))) (Sr [Mv 35 4,Mv 36 5,Mv 37 3,Bc 38 .add 37 1,Oo 39 (.build [(iv 0),(iv 0),(iv 0)] [(0,(1,(.tmp 35))),(1,(1,(.tmp 36))),(2,(1,(.tmp 38)))]),⟨none,none,(.store 3 (.tmp 2) (.tmp 39))⟩] .ret))))))))
theorem k157:ZaH Tryz.prog 157=some ⟨c157,[(.cell 2 true 3)],40⟩:=by kernel_rfl
def c125:AC:=(Sr [Oo 2 (.new 60 3 [(iv 0),(iv 0),(iv 0)]),Mc 3 0] (.seq (Sr [Mv 4 0,Cl 5 155 [],Cl 6 156 [],Cl 7 149 [(.tmp 4),(.tmp 5),(.tmp 6)],Oo 8 (.un .not (.tmp 7))] (Cd 8 (Sr [Oo 9 (.build [(iv 0),(iv 0),(iv 0)] []),⟨none,none,(.store 3 (.tmp 2) (.tmp 9))⟩,Mc 3 3] .ret) .skip)) (Sr [Mv 10 0,Cl 11 157 [(.tmp 10)],⟨none,none,(.store 3 (.tmp 2) (.tmp 11))⟩,Mc 3 0] .ret)))
theorem k125:ZaH Tryz.prog 125=some ⟨c125,[(.cell 2 true 3),(.tmp 3)],12⟩:=by kernel_rfl
abbrev nmC (n:Int):List AV:=[iv n]
theorem nm_len1 : ∀ x,(nmC x).length=1:=fun _=>rfl
abbrev dateA (p:Int×Int×Int):AV:=.agg [iv p.1,iv p.2.1,iv p.2.2]
def lens:List Int:=[31,28,31,30,31,30,31,31,30,31,30,31]
theorem Zcx {n a b:Int}{h:AH}:Ac 149 [iv n,iv a,iv b] h (bv (wi n a b)):=by
 refine tI' k149 fun N hn hlt hlA hbd=>?_
 simp only [tb'] at hbd ⊢
 refine wr'<|mv' lkb pt<|sn'<|wr'<|mv' lk pt<|mv' lk pt<|V' (Zie lk lk) pt<|mv' lk pt<|?_
 refine sp' (t:=10) gt pt pt (fun hg10=>?_) (fun hg10=>?_)
 ·refine s_do gt<|mv' lk pt<|s_do gt<|mv' lk pt<|s_do gt<|V' (ZeT lk lk) pt<|V' (Zaj lk lk) pt<|mv' lk pt<|sn'<|Zab<|Zag rz<|rT'<|?_
  refine bvx ?_;unfold wi;rw [Bool.eq_iff_iff];simp;omega
 refine s_no gt pt<|s_no gt pt<|s_no gt pt<|V' (Zah lk lkb) pt<|mv' lk pt<|sn'<|Zab<|Zag rz<|rT'<|?_
 refine bvx ?_;unfold wi;rw [Bool.eq_iff_iff];simp;omega
theorem leap_a {y:Int}{h:AH}(h0:0≤y) (h1:y≤1000000):Ac 154 [iv y] h (bv (Zjv y)):=by
 refine tI' k154 fun N hn hlt hlA hbd=>?_
 simp only [tb'] at hbd ⊢
 refine wr'<|mv' lkb pt<|sn'<|wr'<|mv' lk pt<|?_
 refine V' (Zfr lk lki (by omega) (by omega)) pt ?_
 refine V' (ZaX lk lki) pt<|mv' lk pt<|?_
 refine sp' (t:=6) gt pt pt (fun hg6=>?_) (fun hg6=>?_)
 ·refine s_do gt<|mv' lk pt<|s_do gt<|?_
  refine V' (Zfr lk lki (by omega) (by omega)) pt ?_
  refine s_do gt<|V' (Za6 lk lki) pt<|s_do gt<|mv' lk pt<|?_
  refine sp' (t:=10) gt pt pt (fun hg10=>?_) (fun hg10=>?_)
  ·refine s_no gt pt<|s_no gt pt<|s_no gt pt<|s_do gt<|V' (Zaj lk lkb) pt<|V' (Zaj lk lk) pt<|mv' lk pt<|sn'<|Zab<|Zag rz<|rT'<|?_
   refine bvx ?_;unfold Zjv;simp_all <;> rfl
  refine s_do gt<|mv' lk pt<|s_do gt<|?_
  refine V' (Zfr lk lki (by omega) (by omega)) pt ?_
  refine s_do gt<|V' (ZaX lk lki) pt<|s_do gt<|V' (Zah lk lk) pt<|V' (Zaj lk lk) pt<|mv' lk pt<|sn'<|Zab<|Zag rz<|rT'<|?_
  refine bvx ?_;unfold Zjv;simp_all <;> rfl
 refine s_no gt pt<|s_no gt pt<|s_no gt pt<|s_no gt pt<|s_nu gt pt<|s_nu gt pt<|s_nu gt pt<|s_no gt pt<|V' (Zah lk lkb) pt<|mv' lk pt<|sn'<|Zab<|Zag rz<|?_
 refine rT' ?_
 refine bvx ?_;unfold Zjv;simp_all <;> rfl
theorem Zte {h:AH}:Ac 153 [] h (.sl 12 1 false (rows nmC lens)):=by
 refine tI' k153 fun N hn hlt hlA hbd=>?_
 simp only [tb'] at hbd ⊢
 exact wr'<|mv' lkn pt0<|sn'<|wr'<|E' (Zeh (ZjJ (cvl lki rfl) rfl (cvl lki rfl) rfl (cvl lki rfl) rfl (cvl lki rfl) rfl (cvl lki rfl) rfl (cvl lki rfl) rfl (cvl lki rfl) rfl (cvl lki rfl) rfl (cvl lki rfl) rfl (cvl lki rfl) rfl (cvl lki rfl) rfl (cvl lki rfl) rfl) (hl0 hn) ha0) pt1<|mv' lk1 pt0<|Zas<|ZbQ (ALe.iceR (hga hn rfl) gt0 rfl (nb' rfl) pt0 (hs0 hn))<|Zab<|Zag (rs1 (rr_t gt0))<|rT' rfl
theorem ZsT {y m:Int}(h1:1≤m) (h2:m≤12) (hk:(m-1).toNat<lens.length):mlen y m=lens[(m-1).toNat]+(if m=2 then lp y else 0):=by
 have hm:m=1∨m=2∨m=3∨m=4∨m=5∨m=6∨m=7∨m=8∨m=9∨m=10∨m=11∨m=12:=by omega
 rcases hm with rfl | rfl | rfl | rfl | rfl | rfl | rfl | rfl | rfl | rfl | rfl | rfl <;> rfl
theorem lens_bd {k:Nat}(hk:k<lens.length):28≤lens[k]∧lens[k]≤31:=by
 have : ∀ x∈lens,28≤x∧x≤31:=by decide
 exact this _ (List.getElem_mem hk)
theorem ZdX {y m:Int}{h:AH}(h0:0≤y) (hy:y≤1000000) (h1:1≤m) (h2:m≤12):Ac 124 [iv y,iv m] h (iv (mlen y m)):=by
 have hk:(m-1).toNat<lens.length:=by show _<12;omega
 have he:=ZsT (y:=y) h1 h2 hk
 have hb:=lens_bd hk
 refine tI' k124 fun N hn hlt hlA hbd=>?_
 simp only [tb'] at hbd ⊢
 refine wr'<|mv' lki pt<|sn'<|wr'<|Zae mp0 (Zte) pt<|mv' lk pt<|?_
 refine V' (ZcC lk lki (by omega) (by omega)) pt ?_
 refine V' (Zbg (l:=lens) (k:=(m-1).toNat) lk lk nm_len1 (nb' rfl) (by omega) hk rfl rfl) pt ?_
 refine V' (ZaZ lk gt) pt<|mv' lk pt<|sn'<|Zam<|wr'<|mv' lk pt<|V' (ZaX lk lki) pt<|mv' lk pt<|?_
 refine sp' (t:=13) gt pt pt (fun hg13=>?_) (fun hg13=>?_)
 ·refine s_do gt<|mv' lk pt<|s_do gt<|Zae mp (leap_a h0 hy) pt<|V' (Zaj lk lk) pt<|sn'<|?_
  refine cd' lk (fun hc1=>?_) (fun hc1=>?_)
  ·refine Zar<|mv' lk pt<|?_
   refine V' (ZaE lk lki (by omega) (by omega)) pt ?_
   refine mv' lk pt<|sn'<|wr'<|mv' lk pt<|mv' lk pt<|sn'<|Zab<|Zag rz<|rT'<|?_
   refine ivx ?_;rw [he];unfold lp;simp_all
  refine Zaf<|Zai<|wr'<|mv' lk pt<|mv' lk pt<|sn'<|Zab<|Zag rz<|rT'<|?_
  refine ivx ?_;rw [he];unfold lp;simp_all
 refine s_no gt pt<|s_no gt pt<|V' (Zah lk lkb) pt<|sn'<|ZaY lk<|Zaf<|Zai<|wr'<|mv' lk pt<|mv' lk pt<|sn'<|?_
 refine Zab<|Zag rz<|rT'<|?_
 refine ivx ?_;rw [he];unfold lp;simp_all
theorem ZpO {y m d:Int}{h:AH}(y0:1≤y) (y1:y≤20000) (m0:1≤m) (m1:m≤12) (d0 : -1000≤d) (d1:d≤1000):Ac 122 [.agg [iv y,iv m,iv d]] h (iv (num y m d)):=by
 have hb:=bef_bd y0 y1
 refine tI' k122 fun N hn hlt hlA hbd=>?_
 simp only [tb'] at hbd ⊢
 refine wr'<|E' (Zcm (cvl lk rfl) rfl (hl0 hn) ha0) pt<|mv' lki pt<|sn'<|Zam<|ZbJ<|D' (Zaa lk) pt<|D' (Zac lk (hga hn rfl) gt0) pt<|?_
 refine Za9 mp (fun hE hX=>ZgZ (by first | assumption | omega) (by first | assumption | omega)) pt ?_
 refine Za9 mp0 (fun hE hX=>Zlu) pt ?_
 refine D' (ZcC lk lk (by omega) (by omega)) pt ?_
 refine D' (Zaa lk) pt<|D' (Zac lk (hga hn rfl) gt2) pt<|?_
 refine D' (ZaE lk lk (by omega) (by omega)) pt ?_
 refine D' (ZcC lk lki (by omega) (by omega)) pt ?_
 refine D' (v_mv lk) pt<|Zbt<|?_
 refine Zb4 ?_
 refine sn'<|Zam<|wr'<|mv' lki pt<|sn'<|Zao<|?_
 refine ZhD (ι:=Int) (fun (k:Int)=>[(3,iv (bef y-719162+d-1+cum y k)),(4,iv k)]++rn' 14 12) (fun (k:Int)=>[]) (fun (k:Int)=>1≤k∧k≤m) (fun (k:Int)=>(m-k).toNat) (1) (by omega) (by try simp only [sm',Nat.reduceAdd];exact ALe.same (by repeat (first | exact wk0 | refine wka ?_ | refine wk1 rfl ?_ | refine wk1 (by first | rfl | exact ivx (by rw [ZtL];omega)) ?_)) rfl) ?_
 rintro k hi1
 try simp only [sm',Nat.reduceAdd]
 obtain ⟨hk1,hk2⟩:=hi1
 have hcb:=Zqh (y:=y) (m:=k) hk1 (by omega)
 refine Zam<|wr'<|mv' lk pt<|V' (Zaa lk) pt<|V' (Zac lk (hga hn rfl) gt1) pt<|V' (Zbu lk lk) pt<|sn'<|?_
 refine cd' lk (fun hc1=>?_) (fun hc1=>?_)
 ·have hcs:=ZgW (y:=y) (m:=k) hk1 (by omega)
  have hml:=ZdL y k
  refine Zaf<|Zai<|Zam<|Zao<|Zar<|mv' lk pt<|V' (Zaa lk) pt<|V' (Zac lk (hga hn rfl) gt0) pt<|mv' lk pt<|?_
  refine Zae mp (ZdX (by omega) (by omega) hk1 (by omega)) pt ?_
  refine V' (ZaE lk lk (by omega) (by omega)) pt ?_
  refine mv' lk pt<|Zas<|ZaF<|Zai<|Zar<|mv' lk pt<|?_
  refine V' (ZaE lk lki (by omega) (by omega)) pt ?_
  refine mv' lk pt<|Zas<|ZaI<|?_
  refine lU' (k+1) (by (try dsimp only);omega) (by (try dsimp only);(try simp only [sm',Nat.reduceAdd]);exact ALe.same (by repeat (first | exact wk0 | refine wka ?_ | refine wk1 rfl ?_ | refine wk1 (by first | rfl | exact ivx (by omega)) ?_)) rfl)
 have hkm:k=m:=by omega
 refine Za0<|ZaO<|ZaO<|Zbp<|Zai<|wr'<|mv' lk pt<|mv' lk pt<|sn'<|Zab<|Zag rz<|rT'<|?_
 refine ivx ?_;rw [hkm];unfold num;omega
theorem is_a {y m d:Int}{h:AH}:Ac 160 [.agg [iv y,iv m,iv d]] h (bv (Zby y m d)):=by
 refine tI' k160 fun N hn hlt hlA hbd=>?_
 simp only [tb'] at hbd ⊢
 refine wr'<|E' (Zcm (cvl lk rfl) rfl (hl0 hn) ha0) pt<|mv' lkb pt<|sn'<|Zam<|ZbJ<|D' (Zaa lk) pt<|D' (Zac lk (hga hn rfl) gt0) pt<|?_
 refine Za9 mp (fun hE hX=>Zcx) pt ?_
 refine D' (v_mv lk) pt ?_
 refine Ze8 (t:=6) gt pt pt (fun hg6=>?_) (fun hg6=>?_)
 ·have hy:1≤y∧y≤9999:=by unfold wi at hg6;simpa using hg6
  refine d_do gt<|D' (Zaa lk) pt<|d_do gt<|D' (Zac lk (hga hn rfl) gt1) pt<|d_do gt<|?_
  refine Za9 mp (fun hE hX=>Zcx) pt ?_
  refine D' (Zaj lk lk) pt<|D' (v_mv lk) pt<|?_
  refine Ze8 (t:=11) gt pt pt (fun hg11=>?_) (fun hg11=>?_)
  ·have hm:1≤m∧m≤12:=by unfold wi at hg11;simpa using hg11
   refine d_do gt<|D' (Zaa lk) pt<|d_do gt<|D' (Zac lk (hga hn rfl) gt2) pt<|d_do gt<|D' (Zaa lk) pt<|d_do gt<|D' (Zac lk (hga hn rfl) gt0) pt<|d_do gt<|D' (Zaa lk) pt<|d_do gt<|D' (Zac lk (hga hn rfl) gt1) pt<|d_do gt<|?_
   refine Za9 mp (fun hE hX=>ZdX (by omega) (by omega) hm.1 hm.2) pt ?_
   refine d_do gt ?_
   refine Za9 mp (fun hE hX=>Zcx) pt ?_
   refine D' (Zaj lk lk) pt<|D' (v_mv lk) pt<|Zbt<|?_
   refine Zb4 ?_
   refine sn'<|Zab<|Zag rz<|rT'<|?_
   refine bvx ?_;rw [show Zby y m d=(wi y 1 9999&&(wi m 1 12&&wi d 1 (mlen y m))) from by unfold Zby wi;simp [Bool.and_assoc]];simp_all
  refine d_no gt pt<|d_no gt pt<|d_no gt pt<|d_no gt pt<|d_no gt pt<|d_no gt pt<|d_no gt pt<|d_no gt pt<|D' (Zah lk lkb) pt<|D' (v_mv lk) pt<|Zbt<|?_
  refine Zb4 ?_
  refine sn'<|Zab<|Zag rz<|rT'<|?_
  refine bvx ?_;rw [show Zby y m d=(wi y 1 9999&&(wi m 1 12&&wi d 1 (mlen y m))) from by unfold Zby wi;simp [Bool.and_assoc]];simp_all
 refine d_no gt pt<|d_no gt pt<|d_no gt pt<|D' (Zah lk lkb) pt<|D' (v_mv lk) pt<|d_no gt pt<|d_no gt pt<|d_no gt pt<|d_no gt pt<|d_no gt pt<|d_no gt pt<|d_no gt pt<|d_no gt pt<|D' (Zah lk lkb) pt<|?_
 refine D' (v_mv lk) pt<|Zbt<|?_
 refine Zb4 ?_
 refine sn'<|Zab<|Zag rz<|rT'<|?_
 refine bvx ?_;rw [show Zby y m d=(wi y 1 9999&&(wi m 1 12&&wi d 1 (mlen y m))) from by unfold Zby wi;simp [Bool.and_assoc]];simp_all
theorem days_a {y m d:Int}{h:AH}:Ac 127 [.agg [iv y,iv m,iv d]] h (.tup [iv (if Zby y m d then num y m d else 0),iv (if Zby y m d then 0 else 3)]):=by
 refine tI' k127 fun N hn hlt hlA hbd=>?_
 simp only [tb'] at hbd ⊢
 refine wr'<|E' (Zcm (cvl lk rfl) rfl (hl0 hn) ha0) pt<|mv' lki pt<|mv' lki pt<|sn'<|Zam<|wr'<|V' (Zau lk (hga hn rfl) ZeS rfl) pt<|Zae mp (is_a) pt<|V' (Zav lk) pt<|Zas<|?_
 refine Zai ?_
 refine Zaw lk (fun hc1=>?_) (fun hc1=>?_)
 ·have hd:Zby y m d=false:=by simpa using hc1
  refine wr'<|mv' lki pt<|mv' lki pt<|sn'<|Zab<|Zak<|Zag ry<|rT'<|?_
  rw [hd];rfl
 have hd:Zby y m d=true:=by simpa using hc1
 have hi:=ZcB.1 hd
 have hl:=ZdL y m
 refine Zaf<|Zai<|wr'<|V' (Zau lk (hga hn rfl) ZeS rfl) pt<|?_
 refine Zae mp (ZpO (by omega) (by omega) (by omega) (by omega) (by omega) (by omega)) pt ?_
 refine mv' lk pt<|mv' lki pt<|sn'<|Zab<|Zag ry<|rT'<|?_
 rw [hd];rfl
theorem date_a {n:Int}{h:AH}(h0 : -719162≤n) (h1:n≤2932896):Ac 157 [iv n] h (dateA (ZdR n)):=by
 have hg:=ZpX (n:=n+719162) (by omega)
 have hn:=Zj9 (n:=n+719162) (by omega) (by omega)
 have hs:=Zl3 h0 h1
 refine tI' k157 fun N hn hlt hlA hbd=>?_
 simp only [tb'] at hbd ⊢
 refine wr'<|E' (Zbq (hl0 hn) ha0) pt<|sn'<|wr'<|mv' lk pt<|Zae mp0 (Zlu) pt<|?_
 refine V' (ZaE lk lk (by omega) (by omega)) pt ?_
 refine mv' lk pt<|sn'<|wr'<|mv' lk pt<|?_
 refine V' (Zf7 lk lki (by omega) (by omega) (by omega)) pt ?_
 refine V' (ZaE lk lki (by omega) (by omega)) pt ?_
 refine mv' lk pt<|sn'<|Zam<|Zao<|?_
 refine w_lp (ι:=Nat×Int) (fun (x_:Nat×Int)=>match x_ with | ⟨k,y⟩=>[(4,iv y)]++rn' 12 7) (fun (x_:Nat×Int)=>match x_ with | ⟨k,y⟩=>[]) (fun (x_:Nat×Int)=>match x_ with | ⟨k,y⟩=>yrOf n=yrUp k (n+719162) y∧1≤y∧y+k≤10100∧bef y≤n+719162∧n+719162<bef y+365*(k:Int)+365) (fun (x_:Nat×Int)=>match x_ with | ⟨k,y⟩=>k) (⟨60,(n+719162)/366+1⟩) (by exact ⟨rfl,by omega,by omega,hg,by omega⟩) ?_
 rintro ⟨k,y⟩ hi1
 try simp only [sm',Nat.reduceAdd]
 obtain ⟨hy1,hy2,hy3,hy4,hy5⟩:=hi1
 refine Zam<|wr'<|mv' lk pt<|?_
 refine V' (ZaE lk lki (by omega) (by omega)) pt ?_
 refine Zae mp (ZgZ (by omega) (by omega)) pt ?_
 refine mv' lk pt<|V' (ZeT lk lk) pt<|sn'<|?_
 refine cd' lk (fun hc1=>?_) (fun hc1=>?_)
 ·obtain ⟨j,rfl⟩ : ∃ j,k=j+1:=by
   cases k with
   | zero=>exfalso;have:=ZlD (a:=y) (b:=y+1) (by omega);have:=ZfX y;have:=ZqF y;unfold bef at *;omega
   | succ j=>exact ⟨j,rfl⟩
  have hst:=ZlD (a:=y) (b:=y+1) (by omega)
  refine Zaf<|Zai<|Zao<|Zar<|mv' lk pt<|?_
  refine V' (ZaE lk lki (by omega) (by omega)) pt ?_
  refine mv' lk pt<|Zas<|ZaF<|ZaI<|?_
  refine lT' (⟨j,y+1⟩) (by (try dsimp only);exact ⟨by rw [hy1,yrUp,if_pos hc1],by omega,by omega,hc1,by omega⟩)
 have hyy:yrOf n=y:=by rw [hy1];cases k with
  | zero=>rfl
  | succ j=>rw [yrUp,if_neg hc1]
 rw [hyy] at hs
 have hbs:=ZfX y
 have hl01:=ZqF y
 refine Za0<|ZaO<|ZaO<|Zbp<|Zai<|wr'<|mv' lk pt<|mv' lk pt<|?_
 refine Zae mp (ZgZ (by omega) (by omega)) pt ?_
 refine V' (ZcC lk lk (by omega) (by omega)) pt ?_
 refine mv' lk pt<|sn'<|wr'<|mv' lki pt<|sn'<|Zam<|Zao<|?_
 refine w_lp (ι:=Nat×Int×Int) (fun (x_:Nat×Int×Int)=>match x_ with | ⟨k,m,r⟩=>[(3,iv r),(5,iv m)]++rn' 23 12) (fun (x_:Nat×Int×Int)=>match x_ with | ⟨k,m,r⟩=>[]) (fun (x_:Nat×Int×Int)=>match x_ with | ⟨k,m,r⟩=>moUp 12 y 1 (n+719162-bef y)=moUp k y m r∧1≤m∧m+k=13∧0≤r∧cum y m+r<365+lp y) (fun (x_:Nat×Int×Int)=>match x_ with | ⟨k,m,r⟩=>k) (⟨12,1,n+719162-bef y⟩) (by exact ⟨rfl,by omega,by omega,by omega,by rw [ZtL];omega⟩) ?_
 rintro ⟨k,m,r⟩ hi2
 try simp only [sm',Nat.reduceAdd]
 obtain ⟨hm1,hm2,hm3,hm4,hm5⟩:=hi2
 have hm12:m≤12:=by
  rcases Int.lt_or_le 12 m with e | e
  ·have:m=13:=by omega
   subst this;rw [ZtK] at hm5;omega
  exact e
 have hcs:=ZgW (y:=y) (m:=m) hm2 hm12
 have hcb:=Zqh (y:=y) (m:=m) hm2 (by omega)
 have hml:=ZdL y m
 refine Zam<|wr'<|mv' lk pt<|mv' lk pt<|mv' lk pt<|?_
 refine Zae mp (ZdX (by omega) (by omega) hm2 hm12) pt ?_
 refine V' (Zie lk lk) pt<|sn'<|?_
 refine cd' lk (fun hc2=>?_) (fun hc2=>?_)
 ·obtain ⟨j,rfl⟩ : ∃ j,k=j+1:=⟨k-1,by omega⟩
  refine Zaf<|Zai<|Zao<|wr'<|mv' lk pt<|mv' lk pt<|mv' lk pt<|?_
  refine Zae mp (ZdX (by omega) (by omega) hm2 hm12) pt ?_
  refine V' (ZcC lk lk (by omega) (by omega)) pt ?_
  refine mv' lk pt<|sn'<|Zar<|mv' lk pt<|?_
  refine V' (ZaE lk lki (by omega) (by omega)) pt ?_
  refine mv' lk pt<|Zas<|ZaF<|ZaI<|?_
  refine lT' (⟨j,m+1,r-mlen y m⟩) (by (try dsimp only);exact ⟨by rw [hm1,moUp,if_pos hc2],by omega,by omega,by omega,by omega⟩)
 have hmm:moUp 12 y 1 (n+719162-bef y)=(m,r):=by rw [hm1];cases k with
  | zero=>rfl
  | succ j=>rw [moUp,if_neg hc2]
 refine Za0<|ZaO<|ZaO<|Zbp<|Zai<|wr'<|mv' lk pt<|mv' lk pt<|mv' lk pt<|?_
 refine V' (ZaE lk lki (by omega) (by omega)) pt ?_
 refine V' (ZaB (ZnH (cvl lk rfl) rfl (cvl lk rfl) rfl (cvl lk rfl) rfl)) pt<|E' (Zal lk (cvl lk rfl) (hga hn rfl) rfl (nb' rfl) rfl ZhA (hs0 hn)) ptn<|sn'<|Zab<|Zag (rs1 (rr_c gt (hga hn rfl) (ld1 ZeS rfl)))<|rT'<|?_
 have hdo:ZdR n=(y,m,r+1):=by simp only [ZdR,hyy,hmm]
 rw [hdo]
theorem of_a {n:Int}{h:AH}:Ac 125 [iv n] h (.tup [dateA (if -719162≤n∧n≤2932896 then ZdR n else (0,0,0)),iv (if -719162≤n∧n≤2932896 then 0 else 3)]):=by
 refine tI' k125 fun N hn hlt hlA hbd=>?_
 simp only [tb'] at hbd ⊢
 refine wr'<|E' (Zbq (hl0 hn) ha0) pt<|mv' lki pt<|sn'<|Zam<|wr'<|mv' lk pt<|Zae mp0 (first_a) pt<|Zae mp0 (last_a) pt<|Zae mp (Zcx) pt<|V' (Zav lk) pt<|?_
 refine sn' ?_
 refine Zaw lk (fun hc1=>?_) (fun hc1=>?_)
 ·have hno:¬(-719162≤n∧n≤2932896):=by unfold wi at hc1;simp at hc1;omega
  refine wr'<|V' (ZaB Zt8) pt<|E' (Zal lk (cvl lk rfl) (hga hn rfl) rfl (nb' rfl) rfl ZhA (hs0 hn)) ptn<|mv' lki pt<|sn'<|Zab<|Zak<|Zag (rsn (rm1 (rr_c gt (hga hn rfl) (ld1 ZeS rfl)) (rm1 (rr_t gt) rm0)))<|rT'<|?_
  rw [if_neg hno,if_neg hno]
 have hyes : -719162≤n∧n≤2932896:=by unfold wi at hc1;simp at hc1;omega
 refine Zaf<|Zai<|wr'<|mv' lk pt<|Zae mp (date_a hyes.1 hyes.2) pt<|E' (Zal lk (cvl lk rfl) (hga hn rfl) rfl (nb' rfl) rfl ZhA (hs0 hn)) ptn<|mv' lki pt<|sn'<|Zab<|Zag (rsn (rm1 (rr_c gt (hga hn rfl) (ld1 ZeS rfl)) (rm1 (rr_t gt) rm0)))<|rT'<|?_
 rw [if_pos hyes,if_pos hyes]
end Go.Proofs.YtgjchdhdopgkkaaGreatDoor
end
section
namespace Go.Proofs.YtgjchdhdopgkkaaGreatDoor
open Go.Ab Civ
section
theorem Zbz {a0 a1 a2:AV}{l:List AV}:((a0::a1::a2::l).drop 0).take 3=[a0,a1,a2]:=rfl
theorem ZrP {τ:Operand→AV}:Zat τ [] [(.v (.int .i64 0)),(.v (.int .i64 0)),(.v (.int .i64 0))]=some [(.v (.int .i64 0)),(.v (.int .i64 0)),(.v (.int .i64 0))]:=rfl
theorem Zb6 {a0 a1 a2 c0 c1 c2:AV}{l:List AV}:setCells (a0::a1::a2::l) 0 [c0,c1,c2]=c0::c1::c2::l:=rfl
theorem ZrO {τ:Operand→AV}{y0 y1 y2:Operand}{x0_0 x1_0 x2_0:AV}(h0:Zap (τ y0)=some [x0_0]) (l0:[x0_0].all leaf=true) (h1:Zap (τ y1)=some [x1_0]) (l1:[x1_0].all leaf=true) (h2:Zap (τ y2)=some [x2_0]) (l2:[x2_0].all leaf=true):Zat τ [(0,1,y0),(1,1,y1),(2,1,y2)] [(.v (.int .i64 0)),(.v (.int .i64 0)),(.v (.int .i64 0))]=some [x0_0,x1_0,x2_0]:=by
 simp only [Zat,h0,l0,h1,l1,h2,l2]
 rfl
theorem Zjs {τ:Operand→AV}{y0 y1 y2:Operand}{x0_0 x1_0 x2_0:AV}(h0:Zap (τ y0)=some [x0_0]) (l0:[x0_0].all leaf=true) (h1:Zap (τ y1)=some [x1_0]) (l1:[x1_0].all leaf=true) (h2:Zap (τ y2)=some [x2_0]) (l2:[x2_0].all leaf=true):Zat τ [(0,1,y0),(1,1,y1),(2,1,y2)] [(.v (.int .i64 0)),(.v (.int .i64 0)),(.v (.int .i64 0))]=some [x0_0,x1_0,x2_0]:=by
 simp only [Zat,h0,l0,h1,l1,h2,l2]
 rfl
theorem ZjG {τ:Operand→AV}{y0 y1 y2:Operand}{x0_0 x1_0 x2_0:AV}(h0:Zap (τ y0)=some [x0_0]) (l0:[x0_0].all leaf=true) (h1:Zap (τ y1)=some [x1_0]) (l1:[x1_0].all leaf=true) (h2:Zap (τ y2)=some [x2_0]) (l2:[x2_0].all leaf=true):Zat τ [(0,1,y0),(1,1,y1),(2,1,y2)] [(.v (.int .i64 0)),(.v (.int .i64 0)),(.v (.int .i64 0))]=some [x0_0,x1_0,x2_0]:=by
 simp only [Zat,h0,l0,h1,l1,h2,l2]
 rfl
theorem ZjI {τ:Operand→AV}{y0 y1 y2:Operand}{x0_0 x1_0 x2_0:AV}(h0:Zap (τ y0)=some [x0_0]) (l0:[x0_0].all leaf=true) (h1:Zap (τ y1)=some [x1_0]) (l1:[x1_0].all leaf=true) (h2:Zap (τ y2)=some [x2_0]) (l2:[x2_0].all leaf=true):Zat τ [(0,1,y0),(1,1,y1),(2,1,y2)] [(.v (.int .i64 0)),(.v (.int .i64 0)),(.v (.int .i64 0))]=some [x0_0,x1_0,x2_0]:=by
 simp only [Zat,h0,l0,h1,l1,h2,l2]
 rfl
theorem ZjH {τ:Operand→AV}{y0 y1 y2:Operand}{x0_0 x1_0 x2_0:AV}(h0:Zap (τ y0)=some [x0_0]) (l0:[x0_0].all leaf=true) (h1:Zap (τ y1)=some [x1_0]) (l1:[x1_0].all leaf=true) (h2:Zap (τ y2)=some [x2_0]) (l2:[x2_0].all leaf=true):Zat τ [(0,1,y0),(1,1,y1),(2,1,y2)] [(.v (.int .i64 0)),(.v (.int .i64 0)),(.v (.int .i64 0))]=some [x0_0,x1_0,x2_0]:=by
 simp only [Zat,h0,l0,h1,l1,h2,l2]
 rfl
theorem ZrN {a0 a1 c0:AV}{l:List AV}:setCells (a0::a1::l) 1 [c0]=a0::c0::l:=rfl
theorem ZrM {a0 a1 a2 c0:AV}{l:List AV}:setCells (a0::a1::a2::l) 2 [c0]=a0::a1::c0::l:=rfl
theorem ZnF {τ:Operand→AV}:Zat τ [] [(.v (.int .i64 0)),(.v (.int .i64 0)),(.v (.int .i64 0))]=some [(.v (.int .i64 0)),(.v (.int .i64 0)),(.v (.int .i64 0))]:=rfl
theorem ZnE {τ:Operand→AV}:Zat τ [] [(.v (.int .i64 0)),(.v (.int .i64 0)),(.v (.int .i64 0))]=some [(.v (.int .i64 0)),(.v (.int .i64 0)),(.v (.int .i64 0))]:=rfl
theorem ZnD {τ:Operand→AV}:Zat τ [] [(.v (.int .i64 0)),(.v (.int .i64 0)),(.v (.int .i64 0))]=some [(.v (.int .i64 0)),(.v (.int .i64 0)),(.v (.int .i64 0))]:=rfl
theorem ZnC {τ:Operand→AV}:Zat τ [] [(.v (.int .i64 0)),(.v (.int .i64 0)),(.v (.int .i64 0))]=some [(.v (.int .i64 0)),(.v (.int .i64 0)),(.v (.int .i64 0))]:=rfl
theorem ZnB {τ:Operand→AV}{y0 y1 y2:Operand}{x0_0 x1_0 x2_0:AV}(h0:Zap (τ y0)=some [x0_0]) (l0:[x0_0].all leaf=true) (h1:Zap (τ y1)=some [x1_0]) (l1:[x1_0].all leaf=true) (h2:Zap (τ y2)=some [x2_0]) (l2:[x2_0].all leaf=true):Zat τ [(0,1,y0),(1,1,y1),(2,1,y2)] [(.v (.int .i64 0)),(.v (.int .i64 0)),(.v (.int .i64 0))]=some [x0_0,x1_0,x2_0]:=by
 simp only [Zat,h0,l0,h1,l1,h2,l2]
 rfl
theorem ZlW {τ:Operand→AV}:Zat τ [] [(.v (.int .i64 0)),(.v (.int .i64 0)),(.v (.int .i64 0))]=some [(.v (.int .i64 0)),(.v (.int .i64 0)),(.v (.int .i64 0))]:=rfl
end
def c152:AC:=(Sr [Mc 2 0] (Sr [Mv 3 0,Bc 4 .rem 3 7,Bc 5 .add 4 4,Bc 6 .rem 5 7,Bc 7 .add 6 7,Bc 8 .rem 7 7,Mv 2 8] .ret))
theorem k152:ZaH Tryz.prog 152=some ⟨c152,[(.tmp 2)],9⟩:=by kernel_rfl
def c123:AC:=(Sr [Mc 6 0] (.seq (.block 0 (.loop (.seq (Sr [Mv 7 0,Cl 8 152 [(.tmp 7)],Mv 9 1,Bn 10 .neq 8 9] (Cd 10 .skip (.exit 0))) (.block 1 (.reg [Mv 11 0,Mv 12 2,Bn 13 .add 11 12,Mv 0 13]))))) (Sr [Mv 14 0,Mv 6 14] .ret)))
theorem k123:ZaH Tryz.prog 123=some ⟨c123,[(.tmp 6)],15⟩:=by kernel_rfl
def c121:AC:=(Sr [Oo 5 (.box 46 3 (.tmp 2)),Mc 6 0] (.seq (.block 0 (Sr [Mv 8 0,Cl 9 149 [(.tmp 8),(Ci 1),(Ci 9999)],Oo 10 (.un .not (.tmp 9)),Mv 11 10,Of 12 11 (mt 1),Of 13 11 (.call (.func 149) [(.tmp 12),(Ci 1),(Ci 12)]),Of 14 11 (.un .not (.tmp 13)),Oo 15 (.pick (.tmp 11) (.const (.bool true)) (.tmp 14)),Mv 7 15] (Cd 7 (Sr [Mc 6 3] .ret) (Sr [Fa 17 0 5,Ld 18 17,Cl 19 149 [(.tmp 18),(Ci 1),(Ci 4)],Oo 20 (.un .not (.tmp 19)),Mv 16 20] (Cd 16 (Sr [Mc 6 7] .ret) (Sr [Fa 22 1 5,Ld 23 22,Cl 24 149 [(.tmp 23),(Ci 0),(Ci 6)],Oo 25 (.un .not (.tmp 24)),Mv 26 25,Of 27 26 (.fa 0 (.tmp 5)),Of 28 26 (.load false 1 (.tmp 27)),Of 29 26 (.bin .eql (.tmp 28) (Ci 1)),Of 30 26 (mt 29),Ot 31 30 (.fa 1 (.tmp 5)),Ot 32 30 (.load false 1 (.tmp 31)),Ot 33 30 (.bin .neq (.tmp 32) (Ci 0)),Of 34 26 (.pick (.tmp 30) (.tmp 33) (.const (.bool false))),Oo 35 (.pick (.tmp 26) (.const (.bool true)) (.tmp 34)),Mv 21 35] (Cd 21 (Sr [Mc 6 3] .ret) (Sd [Fa 37 0 5,Ld 38 37,Bc 39 .eql 38 2,Mv 40 39,Ot 41 40 (.fa 2 (.tmp 5)),Ot 42 40 (.load false 1 (.tmp 41)),Ot 43 40 (.bin .neq (.tmp 42) (Ci 0)),Oo 44 (.pick (.tmp 40) (.tmp 43) (.const (.bool false))),Mv 45 44,Of 46 45 (.fa 0 (.tmp 5)),Of 47 45 (.load false 1 (.tmp 46)),Of 48 45 (.bin .neq (.tmp 47) (Ci 2)),Of 49 45 (mt 48),Ot 50 49 (.fa 2 (.tmp 5)),Ot 51 49 (.load false 1 (.tmp 50)),Ot 52 49 (mt 0),Ot 53 49 (mt 1),Ot 54 49 (.call (.func 124) [(.tmp 52),(.tmp 53)]),Ot 55 49 (.call (.func 149) [(.tmp 51),(Ci 1),(.tmp 54)]),Ot 56 49 (.un .not (.tmp 55)),Of 57 45 (.pick (.tmp 49) (.tmp 56) (.const (.bool false))),Oo 58 (.pick (.tmp 45) (.const (.bool true)) (.tmp 57)),Mv 36 58] (Cd 36 (Sr [Mc 6 3] .ret) .skip))))))))) (Sr [Mc 6 0] .ret)))
theorem k121:ZaH Tryz.prog 121=some ⟨c121,[(.tmp 6)],59⟩:=by kernel_rfl
def c83:AC:=(Sr [Oo 5 (.box 46 3 (.tmp 2)),Oo 6 (.new 60 3 [(iv 0),(iv 0),(iv 0)]),Mc 7 0] (.seq (Sr [Mv 11 0,Mv 12 1,Oo 13 (.load true 3 (.tmp 5)),Cl 14 121 [(.tmp 11),(.tmp 12),(.tmp 13)],Mv 8 14] (Sr [Mv 15 8,Bc 16 .neq 15 0] (Cd 16 (Sr [Oo 17 (.build [(iv 0),(iv 0),(iv 0)] []),Mv 18 8,⟨none,none,(.store 3 (.tmp 6) (.tmp 17))⟩,Mv 7 18] .ret) .skip))) (Sr [Mv 19 0,Mv 20 1,Oo 21 (.build [(iv 0),(iv 0),(iv 0)] [(0,(1,(.tmp 19))),(1,(1,(.tmp 20))),(2,(1,(Ci 1)))]),Cl 22 122 [(.tmp 21)],Mv 9 22] (Sr [Mv 23 9,Fa 24 2 5,Ld 25 24,Bn 26 .add 23 25,Bc 27 .sub 26 1,Mv 10 27] (.seq (Sr [Fa 28 0 5,Ld 29 28] (.block 0 (Sr [Bc 31 .eql 29 2,Mv 30 31] (Cd 30 (.drw [Mv 32 9,Mv 33 0,Mv 34 1,Cl 35 124 [(.tmp 33),(.tmp 34)],Bn 36 .add 32 35,Bc 37 .sub 36 1,Fa 38 1 5,Ld 39 38,Cl 40 123 [(.tmp 37),(.tmp 39),(.const (.int .i64 (-1)))],Mv 10 40] [] []) (Sr [Bc 42 .eql 29 3,Mv 41 42] (Cd 41 (.reg [Mv 43 10,Fa 44 1 5,Ld 45 44,Cl 46 123 [(.tmp 43),(.tmp 45),(Ci 1)],Mv 10 46]) (Sr [Bc 48 .eql 29 4,Mv 47 48] (Cd 47 (.reg [Mv 49 10,Fa 50 1 5,Ld 51 50,Cl 52 123 [(.tmp 49),(.tmp 51),(.const (.int .i64 (-1)))],Mv 10 52]) .skip)))))))) (Sr [Mv 53 10,Cl 54 125 [(.tmp 53)],Ex 55 54 0,Ex 56 54 1,⟨none,none,(.store 3 (.tmp 6) (.tmp 55))⟩,Mv 7 56] .ret))))))
theorem k83:ZaH Tryz.prog 83=some ⟨c83,[(.cell 6 true 3),(.tmp 7)],57⟩:=by kernel_rfl
def c136:AC:=(Sr [Mb 2 false] (Sr [Mv 3 0,Bc 4 .rem 3 400,Bc 5 .eql 4 0,Mv 6 5,Of 7 6 (mt 0),Of 8 6 (.bin .rem (.tmp 7) (Ci 4)),Of 9 6 (.bin .eql (.tmp 8) (Ci 0)),Of 10 6 (mt 9),Ot 11 10 (mt 0),Ot 12 10 (.bin .rem (.tmp 11) (Ci 100)),Ot 13 10 (.bin .neq (.tmp 12) (Ci 0)),Of 14 6 (.pick (.tmp 10) (.tmp 13) (.const (.bool false))),Oo 15 (.pick (.tmp 6) (.const (.bool true)) (.tmp 14)),Mv 2 15] .ret))
theorem k136:ZaH Tryz.prog 136=some ⟨c136,[(.tmp 2)],16⟩:=by kernel_rfl
def c98:AC:=(Sr [Mc 4 0] (.seq (Sr [Mv 5 1] (.block 0 (.seq (Sr [Bc 7 .eql 5 4,Mv 6 7] (Cd 6 .skip (Sr [Bc 8 .eql 5 6,Mv 6 8] (Cd 6 .skip (Sr [Bc 9 .eql 5 9,Mv 6 9] (Cd 6 .skip (.reg [Bc 10 .eql 5 11,Mv 6 10]))))))) (Cd 6 (Sr [Mc 4 30] .ret) (Sr [Bc 12 .eql 5 2,Mv 11 12] (Cd 11 (.seq (Sr [Mv 13 0,Cl 14 136 [(.tmp 13)]] (Cd 14 (Sr [Mc 4 29] .ret) .skip)) (Sr [Mc 4 28] .ret)) .skip)))))) (Sr [Mc 4 31] .ret)))
theorem k98:ZaH Tryz.prog 98=some ⟨c98,[(.tmp 4)],15⟩:=by kernel_rfl
def c74:AC:=(Sr [Oo 1 (.box 60 3 (.tmp 0)),Mb 2 false] (Sd [Fa 3 0 1,Ld 4 3,Cl 5 68 [(.tmp 4),(Ci 1),(Ci 9999)],Mv 6 5,Ot 7 6 (.fa 1 (.tmp 1)),Ot 8 6 (.load false 1 (.tmp 7)),Ot 9 6 (.call (.func 68) [(.tmp 8),(Ci 1),(Ci 12)]),Oo 10 (.pick (.tmp 6) (.tmp 9) (.const (.bool false))),Mv 11 10,Ot 12 11 (.fa 2 (.tmp 1)),Ot 13 11 (.load false 1 (.tmp 12)),Ot 14 11 (.fa 0 (.tmp 1)),Ot 15 11 (.load false 1 (.tmp 14)),Ot 16 11 (.fa 1 (.tmp 1)),Ot 17 11 (.load false 1 (.tmp 16)),Ot 18 11 (.call (.func 98) [(.tmp 15),(.tmp 17)]),Ot 19 11 (.call (.func 68) [(.tmp 13),(Ci 1),(.tmp 18)]),Oo 20 (.pick (.tmp 11) (.tmp 19) (.const (.bool false))),Mv 2 20] .ret))
theorem k74:ZaH Tryz.prog 74=some ⟨c74,[(.tmp 2)],21⟩:=by kernel_rfl
def c99:AC:=(Sr [Oo 1 (.box 60 3 (.tmp 0)),Mc 2 0] (Sd [Fa 6 0 1,Ld 7 6,Fa 8 1 1,Ld 9 8,Bc 10 .sub 9 3,Mv 3 7,Mv 4 10] (.seq (Sr [Mv 11 4,Bc 12 .lss 11 0] (Cd 12 (Sr [Mv 13 3,Bc 14 .sub 13 1,Mv 3 14] (.reg [Mv 15 4,Bc 16 .add 15 12,Mv 4 16])) .skip)) (Sr [Mv 17 3,Bc 18 .quo 17 400,Bc 19 .mul 18 146097,Mv 20 3,Bc 21 .rem 20 400,Bc 22 .mul 21 365,Bn 23 .add 19 22,Mv 24 3,Bc 25 .rem 24 400,Bc 26 .quo 25 4,Bn 27 .add 23 26,Mv 28 3,Bc 29 .rem 28 400,Bc 30 .quo 29 100,Bn 31 .sub 27 30,Mv 5 31] (Sr [Mv 32 5,Mv 33 4,Oo 34 (.bin .mul (Ci 153) (.tmp 33)),Bc 35 .add 34 2,Bc 36 .quo 35 5,Bn 37 .add 32 36,Fa 38 2 1,Ld 39 38,Bn 40 .add 37 39,Bc 41 .sub 40 1,Bc 42 .sub 41 719468,Mv 2 42] .ret)))))
theorem k99:ZaH Tryz.prog 99=some ⟨c99,[(.tmp 2)],43⟩:=by kernel_rfl
def c101:AC:=(Sr [Mc 0 0] (Sr [Oo 1 (.build [(iv 0),(iv 0),(iv 0)] [(0,(1,(Ci 1))),(1,(1,(Ci 1))),(2,(1,(Ci 1)))]),Cl 2 99 [(.tmp 1)],Mv 0 2] .ret))
theorem k101:ZaH Tryz.prog 101=some ⟨c101,[(.tmp 0)],3⟩:=by kernel_rfl
def c102:AC:=(Sr [Mc 0 0] (Sr [Oo 1 (.build [(iv 0),(iv 0),(iv 0)] [(0,(1,(Ci 9999))),(1,(1,(Ci 12))),(2,(1,(Ci 31)))]),Cl 2 99 [(.tmp 1)],Mv 0 2] .ret))
theorem k102:ZaH Tryz.prog 102=some ⟨c102,[(.tmp 0)],3⟩:=by kernel_rfl
def c100:AC:=(Sr [Mc 2 0] (Sr [Mv 4 0,Bc 5 .rem 4 7,Mv 3 5] (.seq (Sr [Mv 6 3,Bc 7 .lss 6 0] (Cd 7 (.reg [Mv 8 3,Bc 9 .add 8 7,Mv 3 9]) .skip)) (Sr [Mv 10 3,Bc 11 .add 10 4,Bc 12 .rem 11 7,Mv 2 12] .ret))))
theorem k100:ZaH Tryz.prog 100=some ⟨c100,[(.tmp 2)],13⟩:=by kernel_rfl
def c103:AC:=(Sr [Oo 2 (.new 60 3 [(iv 0),(iv 0),(iv 0)])] (Sr [Mc 3 1,Mc 4 10000] (.seq (.block 0 (.loop (.seq (Sr [Mv 7 4,Mv 8 3,Bn 9 .sub 7 8,Bc 10 .gtr 9 1] (Cd 10 .skip (.exit 0))) (.block 1 (Sr [Mv 11 3,Mv 12 4,Bn 13 .add 11 12,Bc 14 .quo 13 2,Mv 5 14] (Sr [Mv 15 5,Oo 16 (.build [(iv 0),(iv 0),(iv 0)] [(0,(1,(.tmp 15))),(1,(1,(Ci 1))),(2,(1,(Ci 1)))]),Cl 17 99 [(.tmp 16)],Mv 18 0,Bn 19 .leq 17 18] (Cd 19 (.reg [Mv 20 5,Mv 3 20]) (.reg [Mv 21 5,Mv 4 21])))))))) (Sr [Mv 22 3,Oo 23 (.build [(iv 0),(iv 0),(iv 0)] [(0,(1,(.tmp 22))),(1,(1,(Ci 12))),(2,(1,(Ci 1)))]),Oo 6 (.new 60 3 [(iv 0),(iv 0),(iv 0)]),⟨none,none,(.store 3 (.tmp 6) (.tmp 23))⟩] (.seq (.block 2 (.loop (.seq (Sr [Oo 24 (.load true 3 (.tmp 6)),Cl 25 99 [(.tmp 24)],Mv 26 0,Bn 27 .gtr 25 26] (Cd 27 .skip (.exit 2))) (.block 3 (.reg [Fa 28 1 6,Ld 29 28,Bc 30 .sub 29 1,Fa 31 1 6,Sc 31 30]))))) (Sr [Mv 32 0,Oo 33 (.load true 3 (.tmp 6)),Cl 34 99 [(.tmp 33)],Bn 35 .sub 32 34,Bc 36 .add 35 1,Fa 37 2 6,Sc 37 36] (Sr [Oo 38 (.load true 3 (.tmp 6)),⟨none,none,(.store 3 (.tmp 2) (.tmp 38))⟩] .ret)))))))
theorem k103:ZaH Tryz.prog 103=some ⟨c103,[(.cell 2 true 3)],39⟩:=by kernel_rfl
def c69:AC:=(Sr [Oo 5 (.box 46 3 (.tmp 2)),Oo 6 (.new 60 3 [(iv 0),(iv 0),(iv 0)]),Mc 7 0] (.seq (Sr [Mv 11 0,Cl 12 68 [(.tmp 11),(Ci 1),(Ci 9999)],Oo 13 (.un .not (.tmp 12)),Mv 14 13,Of 15 14 (mt 1),Of 16 14 (.call (.func 68) [(.tmp 15),(Ci 1),(Ci 12)]),Of 17 14 (.un .not (.tmp 16)),Oo 18 (.pick (.tmp 14) (.const (.bool true)) (.tmp 17))] (Cd 18 (Sr [Oo 19 (.build [(iv 0),(iv 0),(iv 0)] []),⟨none,none,(.store 3 (.tmp 6) (.tmp 19))⟩,Mc 7 3] .ret) .skip)) (.seq (Sr [Fa 20 0 5,Ld 21 20,Cl 22 68 [(.tmp 21),(Ci 1),(Ci 4)],Oo 23 (.un .not (.tmp 22))] (Cd 23 (Sr [Oo 24 (.build [(iv 0),(iv 0),(iv 0)] []),⟨none,none,(.store 3 (.tmp 6) (.tmp 24))⟩,Mc 7 7] .ret) .skip)) (.seq (Sr [Fa 25 1 5,Ld 26 25,Cl 27 68 [(.tmp 26),(Ci 0),(Ci 6)],Oo 28 (.un .not (.tmp 27)),Mv 29 28,Of 30 29 (.fa 0 (.tmp 5)),Of 31 29 (.load false 1 (.tmp 30)),Of 32 29 (.bin .eql (.tmp 31) (Ci 1)),Of 33 29 (mt 32),Ot 34 33 (.fa 1 (.tmp 5)),Ot 35 33 (.load false 1 (.tmp 34)),Ot 36 33 (.bin .neq (.tmp 35) (Ci 0)),Of 37 29 (.pick (.tmp 33) (.tmp 36) (.const (.bool false))),Oo 38 (.pick (.tmp 29) (.const (.bool true)) (.tmp 37))] (Cd 38 (Sr [Oo 39 (.build [(iv 0),(iv 0),(iv 0)] []),⟨none,none,(.store 3 (.tmp 6) (.tmp 39))⟩,Mc 7 3] .ret) .skip)) (Sr [Mv 40 0,Mv 41 1,Cl 42 98 [(.tmp 40),(.tmp 41)],Mv 8 42] (.seq (Sr [Fa 43 0 5,Ld 44 43,Bc 45 .eql 44 2,Mv 46 45,Ot 47 46 (.fa 2 (.tmp 5)),Ot 48 46 (.load false 1 (.tmp 47)),Ot 49 46 (.bin .neq (.tmp 48) (Ci 0)),Oo 50 (.pick (.tmp 46) (.tmp 49) (.const (.bool false))),Mv 51 50,Of 52 51 (.fa 0 (.tmp 5)),Of 53 51 (.load false 1 (.tmp 52)),Of 54 51 (.bin .neq (.tmp 53) (Ci 2)),Of 55 51 (mt 54),Ot 56 55 (.fa 2 (.tmp 5)),Ot 57 55 (.load false 1 (.tmp 56)),Ot 58 55 (mt 8),Ot 59 55 (.call (.func 68) [(.tmp 57),(Ci 1),(.tmp 58)]),Ot 60 55 (.un .not (.tmp 59)),Of 61 51 (.pick (.tmp 55) (.tmp 60) (.const (.bool false))),Oo 62 (.pick (.tmp 51) (.const (.bool true)) (.tmp 61))] (Cd 62 (Sr [Oo 63 (.build [(iv 0),(iv 0),(iv 0)] []),⟨none,none,(.store 3 (.tmp 6) (.tmp 63))⟩,Mc 7 3] .ret) .skip)) (Sr [Mv 64 0,Mv 65 1,Oo 66 (.build [(iv 0),(iv 0),(iv 0)] [(0,(1,(.tmp 64))),(1,(1,(.tmp 65))),(2,(1,(Ci 1)))]),Cl 67 99 [(.tmp 66)],Bc 68 .sub 67 1,Mv 9 68] (.seq (Sr [Fa 69 0 5,Ld 70 69] (.block 0 (Sr [Bc 76 .eql 70 1,Mv 75 76] (Cd 75 (.reg [Mv 77 9,Fa 78 2 5,Ld 79 78,Bn 80 .add 77 79,Mv 9 80]) (Sr [Bc 82 .eql 70 2,Mv 81 82] (Cd 81 (.reg [Mv 83 9,Mv 84 8,Bn 85 .add 83 84,Mv 9 85]) (.reg [Mv 71 9,Fa 72 2 5,Ld 73 72,Bn 74 .add 71 73,Mv 9 74]))))))) (.seq (Sr [Mc 10 0] (.block 1 (.loop (.seq (Sd [Mv 86 10,Bc 87 .lss 86 7,Mv 88 87,Ot 89 88 (.fa 0 (.tmp 5)),Ot 90 88 (.load false 1 (.tmp 89)),Ot 91 88 (.bin .gtr (.tmp 90) (Ci 1)),Oo 92 (.pick (.tmp 88) (.tmp 91) (.const (.bool false))),Mv 93 92,Ot 94 93 (mt 9),Ot 95 93 (.call (.func 100) [(.tmp 94)]),Ot 96 93 (.fa 1 (.tmp 5)),Ot 97 93 (.load false 1 (.tmp 96)),Ot 98 93 (.bin .neq (.tmp 95) (.tmp 97)),Oo 99 (.pick (.tmp 93) (.tmp 98) (.const (.bool false)))] (Cd 99 .skip (.exit 1))) (.seq (.block 2 (Sr [Fa 102 0 5,Ld 103 102,Bc 104 .eql 103 3] (Cd 104 (.reg [Mv 105 9,Bc 106 .add 105 1,Mv 9 106]) (.reg [Mv 107 9,Bc 108 .sub 107 1,Mv 9 108])))) (.reg [Mv 100 10,Bc 101 .add 100 1,Mv 10 101])))))) (.seq (Sr [Mv 109 9,Cl 110 101 [],Cl 111 102 [],Cl 112 68 [(.tmp 109),(.tmp 110),(.tmp 111)],Oo 113 (.un .not (.tmp 112))] (Cd 113 (Sr [Oo 114 (.build [(iv 0),(iv 0),(iv 0)] []),⟨none,none,(.store 3 (.tmp 6) (.tmp 114))⟩,Mc 7 3] .ret) .skip)) (Sr [Mv 115 9,Cl 116 103 [(.tmp 115)],⟨none,none,(.store 3 (.tmp 6) (.tmp 116))⟩,Mc 7 0] .ret)))))))))))
theorem k69:ZaH Tryz.prog 69=some ⟨c69,[(.cell 6 true 3),(.tmp 7)],117⟩:=by kernel_rfl
namespace Civ
def fwd (n k:Int):Int:=n+(k-wd n)%7
def bwd (n k:Int):Int:=n-(wd n-k)%7
theorem ZrT {n k j:Int}(h0:0≤j) (h1:j≤(k-wd n)%7) (hk:0≤k∧k≤6):wd (n+j)=k↔j=(k-wd n)%7:=by unfold wd at *;omega
theorem ZrU {n k j:Int}(h0:0≤j) (h1:j≤(wd n-k)%7) (hk:0≤k∧k≤6):wd (n-j)=k↔j=(wd n-k)%7:=by unfold wd at *;omega
def Zct (y m kind wk n:Int):Int :=
 if ¬(1≤y∧y≤9999)∨¬(1≤m∧m≤12) then 3
 else if ¬(1≤kind∧kind≤4) then 7
 else if ¬(0≤wk∧wk≤6)∨kind=1∧wk≠0 then 3
 else if kind=2∧n≠0∨kind≠2∧¬(1≤n∧n≤mlen y m) then 3
 else 0
def ZeB (y m kind wk n:Int):Int :=
 if kind=2 then bwd (num y m (mlen y m)) wk else if kind=3 then fwd (num y m n) wk else if kind=4 then bwd (num y m n) wk else num y m n
def onV (y m kind wk n:Int):(Int×Int×Int)×Int :=
 if Zct y m kind wk n≠0 then ((0,0,0),Zct y m kind wk n)
 else if -719162≤ZeB y m kind wk n∧ZeB y m kind wk n≤2932896 then (ZdR (ZeB y m kind wk n),0) else ((0,0,0),3)
theorem formE_bd (y m kind wk n:Int):0≤Zct y m kind wk n∧Zct y m kind wk n≤7:=by
 unfold Zct;repeat' split
 all_goals omega
theorem ZmI {y m kind wk n k:Int}(h:Zct y m kind wk n=k) (hk:k≠0):onV y m kind wk n=((0,0,0),k):=by
 unfold onV;rw [h,if_pos hk]
theorem Zj4 {y m kind wk n k:Int}(h:Zct y m kind wk n=0) (hk:ZeB y m kind wk n=k):onV y m kind wk n=if -719162≤k∧k≤2932896 then (ZdR k,0) else ((0,0,0),3):=by
 unfold onV;rw [h,if_neg (by simp),hk]
theorem ZqD (y m d:Int):num y m d=num y m 1+d-1:=by unfold num;omega
theorem Zld {y m:Int}(hy:1≤y∧y≤20000) (hm:1≤m∧m≤12) : -8000000≤num y m 1∧num y m 1≤8000000:=by
 have:=bef_bd hy.1 hy.2
 have:=Zqh (y:=y) (m:=m) hm.1 (by omega)
 unfold num;omega
theorem num_ref1 {y m d:Int}(hm:3≤m) (hm2:m≤12):y/400*146097+y%400*365+y%400/4-y%400/100+(153*(m-3)+2)/5+d-1-719468=num y m d:=by
 have:=lp_iff y
 unfold num cum bef;rw [if_neg (by omega),this];split <;> omega
theorem num_ref2 {y m d:Int}(hm:1≤m) (hm2:m<3):(y-1)/400*146097+(y-1)%400*365+(y-1)%400/4-(y-1)%400/100+(153*(m-3+12)+2)/5+d-1-719468=num y m d:=by
 unfold num cum bef;rw [if_pos (by omega)];omega
theorem ZsP (y:Int):num y 1 1=bef y-719162:=by unfold num;rw [ZtL];omega
theorem formE_ok {y m k wk n:Int}(h:Zct y m k wk n=0):(1≤y∧y≤9999)∧(1≤m∧m≤12)∧(1≤k∧k≤4)∧(0≤wk∧wk≤6)∧(k=1→wk=0)∧(k=2→n=0)∧(k≠2→1≤n∧n≤mlen y m):=by
 unfold Zct at h
 repeat' split at h
 all_goals omega
end Civ
theorem Zl6 {n:Int}{h:AH}:Ac 152 [iv n] h (iv (wd n)):=by
 have hb1 : -6≤n.tmod 7∧n.tmod 7≤6:=by rw [Zqn];split <;> omega
 have hb2 : -6≤(n.tmod 7+4).tmod 7∧(n.tmod 7+4).tmod 7≤6:=by rw [Zqn];split <;> omega
 refine tI' k152 fun N hn hlt hlA hbd=>?_
 simp only [tb'] at hbd ⊢
 refine wr'<|mv' lki pt<|sn'<|wr'<|mv' lk pt<|?_
 refine V' (Zpd lk lki (by omega)) pt ?_
 refine V' (ZaE lk lki (by omega) (by omega)) pt ?_
 refine V' (Zpd lk lki (by omega)) pt ?_
 refine V' (ZaE lk lki (by omega) (by omega)) pt ?_
 refine V' (Zpd lk lki (by omega)) pt ?_
 refine mv' lk pt<|sn'<|Zab<|Zag rz<|rT'<|?_
 exact ivx (wd_go n)
theorem toward_f {n k:Int}{h:AH}(h0 : -100000000≤n) (h1:n≤100000000) (hk:0≤k∧k≤6):Ac 123 [iv n,iv k,iv 1] h (iv (fwd n k)):=by
 refine tI' k123 fun N hn hlt hlA hbd=>?_
 simp only [tb'] at hbd ⊢
 refine wr'<|mv' lki pt<|sn'<|Zam<|Zao<|?_
 refine ZhD (ι:=Nat) (fun (j:Nat)=>[(0,iv (n+j))]++rn' 7 7) (fun (j:Nat)=>[]) (fun (j:Nat)=>(j:Int)≤(k-wd n)%7) (fun (j:Nat)=>7-j) (0) (by have:=wd_bd n;omega) (by try simp only [sm',Nat.reduceAdd];exact ALe.same (by repeat (first | exact wk0 | refine wka ?_ | refine wk1 rfl ?_ | refine wk1 (by first | rfl | exact ivx (by simp)) ?_)) rfl) ?_
 rintro j hi1
 try simp only [sm',Nat.reduceAdd]
 have hwf:=ZrT (n:=n) (k:=k) (j:=j) (by omega) hi1 hk
 refine Zam<|wr'<|mv' lk pt<|Zae mp (Zl6) pt<|mv' lk pt<|V' (Za6 lk lk) pt<|sn'<|?_
 refine cd' lk (fun hc1=>?_) (fun hc1=>?_)
 ·have hj:¬(j:Int)=(k-wd n)%7:=fun e=>hc1 (hwf.2 e)
  refine Zaf<|Zai<|Zao<|Zar<|mv' lk pt<|mv' lk pt<|?_
  refine V' (ZaE lk lk (by omega) (by omega)) pt ?_
  refine mv' lk pt<|Zas<|ZaF<|ZaI<|?_
  refine lU' (j+1) (by (try dsimp only);omega) (by (try dsimp only);(try simp only [sm',Nat.reduceAdd]);exact ALe.same (by repeat (first | exact wk0 | refine wka ?_ | refine wk1 rfl ?_ | refine wk1 (by first | rfl | exact ivx (by omega)) ?_)) rfl)
 have hj:=hwf.1 (Decidable.of_not_not hc1)
 refine Za0<|ZaO<|ZaO<|Zbp<|Zai<|wr'<|mv' lk pt<|mv' lk pt<|sn'<|Zab<|Zag rz<|rT'<|?_
 refine ivx ?_;unfold fwd;omega
theorem Zpj {n k:Int}{h:AH}(h0 : -100000000≤n) (h1:n≤100000000) (hk:0≤k∧k≤6):Ac 123 [iv n,iv k,iv (-1)] h (iv (bwd n k)):=by
 refine tI' k123 fun N hn hlt hlA hbd=>?_
 simp only [tb'] at hbd ⊢
 refine wr'<|mv' lki pt<|sn'<|Zam<|Zao<|?_
 refine ZhD (ι:=Nat) (fun (j:Nat)=>[(0,iv (n-j))]++rn' 7 7) (fun (j:Nat)=>[]) (fun (j:Nat)=>(j:Int)≤(wd n-k)%7) (fun (j:Nat)=>7-j) (0) (by have:=wd_bd n;omega) (by try simp only [sm',Nat.reduceAdd];exact ALe.same (by repeat (first | exact wk0 | refine wka ?_ | refine wk1 rfl ?_ | refine wk1 (by first | rfl | exact ivx (by simp)) ?_)) rfl) ?_
 rintro j hi1
 try simp only [sm',Nat.reduceAdd]
 have hwf:=ZrU (n:=n) (k:=k) (j:=j) (by omega) hi1 hk
 refine Zam<|wr'<|mv' lk pt<|Zae mp (Zl6) pt<|mv' lk pt<|V' (Za6 lk lk) pt<|sn'<|?_
 refine cd' lk (fun hc1=>?_) (fun hc1=>?_)
 ·have hj:¬(j:Int)=(wd n-k)%7:=fun e=>hc1 (hwf.2 e)
  refine Zaf<|Zai<|Zao<|Zar<|mv' lk pt<|mv' lk pt<|?_
  refine V' (ZaE lk lk (by omega) (by omega)) pt ?_
  refine mv' lk pt<|Zas<|ZaF<|ZaI<|?_
  refine lU' (j+1) (by (try dsimp only);omega) (by (try dsimp only);(try simp only [sm',Nat.reduceAdd]);exact ALe.same (by repeat (first | exact wk0 | refine wka ?_ | refine wk1 rfl ?_ | refine wk1 (by first | rfl | exact ivx (by omega)) ?_)) rfl)
 have hj:=hwf.1 (Decidable.of_not_not hc1)
 refine Za0<|ZaO<|ZaO<|Zbp<|Zai<|wr'<|mv' lk pt<|mv' lk pt<|sn'<|Zab<|Zag rz<|rT'<|?_
 refine ivx ?_;unfold bwd;omega
theorem Zcu {n a b:Int}:wi n a b=true↔a≤n∧n≤b:=by unfold wi;simp
theorem ZcG {n a b:Int}:wi n a b=false↔¬(a≤n∧n≤b):=by rw [←Zcu];simp
theorem form_a {y m k wk n:Int}{h:AH}:Ac 121 [iv y,iv m,.agg [iv k,iv wk,iv n]] h (iv (Zct y m k wk n)):=by
 refine tI' k121 fun N hn hlt hlA hbd=>?_
 simp only [tb'] at hbd ⊢
 refine wr'<|E' (Zcm (cvl lk rfl) rfl (hl0 hn) ha0) pt<|mv' lki pt<|sn'<|Zam<|Zao<|wr'<|mv' lk pt<|Zae mp (Zcx) pt<|V' (Zav lk) pt<|mv' lk pt<|?_
 refine ZaL (t:=11) gt pt pt (fun hg11=>?_) (fun hg11=>?_)
 ·refine s_no gt pt<|s_no gt pt<|s_no gt pt<|V' (Zaj lk lkb) pt<|mv' lk pt<|sn'<|ZaG lk<|wr'<|mv' lki pt<|sn'<|Zab<|?_
  refine Zaq<|Zak<|Zag rz<|rT'<|?_
  refine ivx ?_;unfold Zct;simp only [Bool.not_eq_true',Bool.not_eq_false',Zcu,ZcG,decide_eq_true_eq,decide_eq_false_iff_not] at *;repeat' split
  all_goals omega
 refine s_do gt<|mv' lk pt<|s_do gt<|Zae mp (Zcx) pt<|s_do gt<|V' (Zav lk) pt<|V' (Zah lk lk) pt<|mv' lk pt<|sn'<|?_
 refine Zaw lk (fun hc1=>?_) (fun hc1=>?_)
 ·refine wr'<|mv' lki pt<|sn'<|Zab<|Zaq<|Zak<|Zag rz<|rT'<|?_
  refine ivx ?_;unfold Zct;simp only [Bool.not_eq_true',Bool.not_eq_false',Zcu,ZcG,decide_eq_true_eq,decide_eq_false_iff_not] at *;repeat' split
  all_goals omega
 refine wr'<|V' (Zaa lk) pt<|V' (Zac lk (hga hn rfl) gt0) pt<|Zae mp (Zcx) pt<|V' (Zav lk) pt<|mv' lk pt<|sn'<|?_
 refine Zaw lk (fun hc2=>?_) (fun hc2=>?_)
 ·refine wr'<|mv' lki pt<|sn'<|Zab<|Zaq<|Zak<|Zag rz<|rT'<|?_
  refine ivx ?_;unfold Zct;simp only [Bool.not_eq_true',Bool.not_eq_false',Zcu,ZcG,decide_eq_true_eq,decide_eq_false_iff_not] at *;repeat' split
  all_goals omega
 refine wr'<|V' (Zaa lk) pt<|V' (Zac lk (hga hn rfl) gt1) pt<|Zae mp (Zcx) pt<|V' (Zav lk) pt<|mv' lk pt<|?_
 refine ZaL (t:=26) gt pt pt (fun hg26=>?_) (fun hg26=>?_)
 ·refine s_no gt pt<|s_no gt pt<|s_no gt pt<|s_no gt pt<|s_nu gt pt<|s_nu gt pt<|s_nu gt pt<|s_no gt pt<|V' (Zaj lk lkb) pt<|mv' lk pt<|sn'<|ZaG lk<|Zam<|?_
  refine Zar<|mv' lki pt<|sn'<|Zab<|Zaq<|Zak<|Zag rz<|rT'<|?_
  refine ivx ?_;unfold Zct;simp only [Bool.not_eq_true',Bool.not_eq_false',Zcu,ZcG,decide_eq_true_eq,decide_eq_false_iff_not] at *;repeat' split
  all_goals omega
 refine s_do gt<|V' (Zaa lk) pt<|s_do gt<|V' (Zac lk (hga hn rfl) gt0) pt<|s_do gt<|V' (ZaX lk lki) pt<|s_do gt<|mv' lk pt<|?_
 refine sp' (t:=30) gt pt pt (fun hg30=>?_) (fun hg30=>?_)
 ·refine s_do gt<|V' (Zaa lk) pt<|s_do gt<|V' (Zac lk (hga hn rfl) gt1) pt<|s_do gt<|V' (Za6 lk lki) pt<|s_do gt<|V' (Zaj lk lk) pt<|V' (Zah lk lk) pt<|mv' lk pt<|sn'<|?_
  refine cd' lk (fun hc3=>?_) (fun hc3=>?_)
  ·refine wr'<|mv' lki pt<|sn'<|Zab<|Zaq<|Zak<|Zag rz<|rT'<|?_
   refine ivx ?_;unfold Zct;simp only [Bool.not_eq_true',Bool.not_eq_false',Zcu,ZcG,decide_eq_true_eq,decide_eq_false_iff_not] at *;repeat' split
   all_goals omega
  refine Zam<|ZbJ<|D' (Zaa lk) pt<|D' (Zac lk (hga hn rfl) gt0) pt<|D' (ZaX lk lki) pt<|D' (v_mv lk) pt<|?_
  refine dq' (t:=40) gt pt pt (fun hg40=>?_) (fun hg40=>?_)
  ·refine d_do gt<|D' (Zaa lk) pt<|d_do gt<|D' (Zac lk (hga hn rfl) gt2) pt<|d_do gt<|D' (Za6 lk lki) pt<|D' (Zaj lk lk) pt<|D' (v_mv lk) pt<|?_
   refine dq' (t:=45) gt pt pt (fun hg45=>?_) (fun hg45=>?_)
   ·refine d_no gt pt<|d_no gt pt<|d_no gt pt<|d_no gt pt<|d_nu gt pt<|d_nu gt pt<|d_nu gt pt<|d_nu gt pt<|d_nu gt pt<|d_nu gt pt<|d_nu gt pt<|d_no gt pt<|D' (Zaj lk lkb) pt<|D' (v_mv lk) pt<|?_
    refine Zbt ?_
    refine Zb4 ?_
    refine sn'<|ZaG lk<|wr'<|mv' lki pt<|sn'<|Zab<|Zaq<|Zak<|Zag rz<|rT'<|?_
    refine ivx ?_;unfold Zct;simp only [Bool.not_eq_true',Bool.not_eq_false',Zcu,ZcG,decide_eq_true_eq,decide_eq_false_iff_not] at *;repeat' split
    all_goals omega
   refine d_do gt<|D' (Zaa lk) pt<|d_do gt<|D' (Zac lk (hga hn rfl) gt0) pt<|d_do gt<|D' (Za6 lk lki) pt<|d_do gt<|D' (v_mv lk) pt<|?_
   refine dq' (t:=49) gt pt pt (fun hg49=>?_) (fun hg49=>?_)
   ·refine d_do gt<|D' (Zaa lk) pt<|d_do gt<|D' (Zac lk (hga hn rfl) gt2) pt<|d_do gt<|D' (v_mv lk) pt<|d_do gt<|D' (v_mv lk) pt<|d_do gt<|?_
    have hym:(1≤y∧y≤9999)∧(1≤m∧m≤12):=by simp only [Bool.not_eq_true',Bool.not_eq_false',Zcu,ZcG] at *;omega
    refine Za9 mp (fun hE hX=>ZdX (by omega) (by omega) hym.2.1 hym.2.2) pt ?_
    refine d_do gt ?_
    refine Za9 mp (fun hE hX=>Zcx) pt ?_
    refine d_do gt<|D' (Zav lk) pt<|d_do gt<|D' (Zaj lk lk) pt<|D' (Zah lk lk) pt<|D' (v_mv lk) pt<|Zbt<|?_
    refine Zb4 ?_
    refine sn' ?_
    refine Zaw lk (fun hc4=>?_) (fun hc4=>?_)
    ·refine wr'<|mv' lki pt<|sn'<|Zab<|Zaq<|Zak<|Zag rz<|rT'<|?_
     refine ivx ?_;unfold Zct;simp only [Bool.not_eq_true',Bool.not_eq_false',Zcu,ZcG,decide_eq_true_eq,decide_eq_false_iff_not] at *;repeat' split
     all_goals omega
    refine Zaf<|ZaF<|Zai<|wr'<|mv' lki pt<|sn'<|Zab<|Zag rz<|rT'<|?_
    refine ivx ?_;unfold Zct;simp only [Bool.not_eq_true',Bool.not_eq_false',Zcu,ZcG,decide_eq_true_eq,decide_eq_false_iff_not] at *;repeat' split
    all_goals omega
   refine d_no gt pt<|d_no gt pt<|d_no gt pt<|d_no gt pt<|d_no gt pt<|d_no gt pt<|d_no gt pt<|d_do gt<|D' (Zah lk lkb) pt<|D' (Zah lk lk) pt<|D' (v_mv lk) pt<|Zbt<|?_
   refine Zb4 ?_
   refine sn'<|ZaY lk<|Zaf<|ZaF<|Zai<|wr'<|mv' lki pt<|sn'<|Zab<|Zag rz<|rT'<|?_
   refine ivx ?_;unfold Zct;simp only [Bool.not_eq_true',Bool.not_eq_false',Zcu,ZcG,decide_eq_true_eq,decide_eq_false_iff_not] at *;repeat' split
   all_goals omega
  refine d_no gt pt<|d_no gt pt<|d_no gt pt<|D' (Zah lk lkb) pt<|D' (v_mv lk) pt<|d_do gt<|D' (Zaa lk) pt<|d_do gt<|D' (Zac lk (hga hn rfl) gt0) pt<|d_do gt<|D' (Za6 lk lki) pt<|d_do gt<|D' (v_mv lk) pt<|?_
  refine dq' (t:=49) gt pt pt (fun hg49=>?_) (fun hg49=>?_)
  ·refine d_do gt<|D' (Zaa lk) pt<|d_do gt<|D' (Zac lk (hga hn rfl) gt2) pt<|d_do gt<|D' (v_mv lk) pt<|d_do gt<|D' (v_mv lk) pt<|d_do gt<|?_
   have hym:(1≤y∧y≤9999)∧(1≤m∧m≤12):=by simp only [Bool.not_eq_true',Bool.not_eq_false',Zcu,ZcG] at *;omega
   refine Za9 mp (fun hE hX=>ZdX (by omega) (by omega) hym.2.1 hym.2.2) pt ?_
   refine d_do gt ?_
   refine Za9 mp (fun hE hX=>Zcx) pt ?_
   refine d_do gt<|D' (Zav lk) pt<|d_do gt<|D' (Zaj lk lk) pt<|D' (Zah lk lk) pt<|D' (v_mv lk) pt<|Zbt<|?_
   refine Zb4 ?_
   refine sn' ?_
   refine Zaw lk (fun hc4=>?_) (fun hc4=>?_)
   ·refine wr'<|mv' lki pt<|sn'<|Zab<|Zaq<|Zak<|Zag rz<|rT'<|?_
    refine ivx ?_;unfold Zct;simp only [Bool.not_eq_true',Bool.not_eq_false',Zcu,ZcG,decide_eq_true_eq,decide_eq_false_iff_not] at *;repeat' split
    all_goals omega
   refine Zaf<|ZaF<|Zai<|wr'<|mv' lki pt<|sn'<|Zab<|Zag rz<|rT'<|?_
   refine ivx ?_;unfold Zct;simp only [Bool.not_eq_true',Bool.not_eq_false',Zcu,ZcG,decide_eq_true_eq,decide_eq_false_iff_not] at *;repeat' split
   all_goals omega
  refine d_no gt pt<|d_no gt pt<|d_no gt pt<|d_no gt pt<|d_no gt pt<|d_no gt pt<|d_no gt pt<|d_do gt<|D' (Zah lk lkb) pt<|D' (Zah lk lk) pt<|D' (v_mv lk) pt<|Zbt<|?_
  refine Zb4 ?_
  refine sn'<|ZaY lk<|Zaf<|ZaF<|Zai<|wr'<|mv' lki pt<|sn'<|Zab<|Zag rz<|rT'<|?_
  refine ivx ?_;unfold Zct;simp only [Bool.not_eq_true',Bool.not_eq_false',Zcu,ZcG,decide_eq_true_eq,decide_eq_false_iff_not] at *;repeat' split
  all_goals omega
 refine s_no gt pt<|s_no gt pt<|s_no gt pt<|s_do gt<|V' (Zah lk lkb) pt<|V' (Zah lk lk) pt<|mv' lk pt<|sn'<|ZaY lk<|Zam<|ZbJ<|D' (Zaa lk) pt<|D' (Zac lk (hga hn rfl) gt0) pt<|?_
 refine D' (ZaX lk lki) pt<|D' (v_mv lk) pt<|?_
 refine dq' (t:=40) gt pt pt (fun hg40=>?_) (fun hg40=>?_)
 ·refine d_do gt<|D' (Zaa lk) pt<|d_do gt<|D' (Zac lk (hga hn rfl) gt2) pt<|d_do gt<|D' (Za6 lk lki) pt<|D' (Zaj lk lk) pt<|D' (v_mv lk) pt<|?_
  refine dq' (t:=45) gt pt pt (fun hg45=>?_) (fun hg45=>?_)
  ·refine d_no gt pt<|d_no gt pt<|d_no gt pt<|d_no gt pt<|d_nu gt pt<|d_nu gt pt<|d_nu gt pt<|d_nu gt pt<|d_nu gt pt<|d_nu gt pt<|d_nu gt pt<|d_no gt pt<|D' (Zaj lk lkb) pt<|D' (v_mv lk) pt<|?_
   refine Zbt ?_
   refine Zb4 ?_
   refine sn'<|ZaG lk<|wr'<|mv' lki pt<|sn'<|Zab<|Zaq<|Zak<|Zag rz<|rT'<|?_
   refine ivx ?_;unfold Zct;simp only [Bool.not_eq_true',Bool.not_eq_false',Zcu,ZcG,decide_eq_true_eq,decide_eq_false_iff_not] at *;repeat' split
   all_goals omega
  refine d_do gt<|D' (Zaa lk) pt<|d_do gt<|D' (Zac lk (hga hn rfl) gt0) pt<|d_do gt<|D' (Za6 lk lki) pt<|d_do gt<|D' (v_mv lk) pt<|?_
  refine dq' (t:=49) gt pt pt (fun hg49=>?_) (fun hg49=>?_)
  ·refine d_do gt<|D' (Zaa lk) pt<|d_do gt<|D' (Zac lk (hga hn rfl) gt2) pt<|d_do gt<|D' (v_mv lk) pt<|d_do gt<|D' (v_mv lk) pt<|d_do gt<|?_
   have hym:(1≤y∧y≤9999)∧(1≤m∧m≤12):=by simp only [Bool.not_eq_true',Bool.not_eq_false',Zcu,ZcG] at *;omega
   refine Za9 mp (fun hE hX=>ZdX (by omega) (by omega) hym.2.1 hym.2.2) pt ?_
   refine d_do gt ?_
   refine Za9 mp (fun hE hX=>Zcx) pt ?_
   refine d_do gt<|D' (Zav lk) pt<|d_do gt<|D' (Zaj lk lk) pt<|D' (Zah lk lk) pt<|D' (v_mv lk) pt<|Zbt<|?_
   refine Zb4 ?_
   refine sn' ?_
   refine Zaw lk (fun hc4=>?_) (fun hc4=>?_)
   ·refine wr'<|mv' lki pt<|sn'<|Zab<|Zaq<|Zak<|Zag rz<|rT'<|?_
    refine ivx ?_;unfold Zct;simp only [Bool.not_eq_true',Bool.not_eq_false',Zcu,ZcG,decide_eq_true_eq,decide_eq_false_iff_not] at *;repeat' split
    all_goals omega
   refine Zaf<|ZaF<|Zai<|wr'<|mv' lki pt<|sn'<|Zab<|Zag rz<|rT'<|?_
   refine ivx ?_;unfold Zct;simp only [Bool.not_eq_true',Bool.not_eq_false',Zcu,ZcG,decide_eq_true_eq,decide_eq_false_iff_not] at *;repeat' split
   all_goals omega
  refine d_no gt pt<|d_no gt pt<|d_no gt pt<|d_no gt pt<|d_no gt pt<|d_no gt pt<|d_no gt pt<|d_do gt<|D' (Zah lk lkb) pt<|D' (Zah lk lk) pt<|D' (v_mv lk) pt<|Zbt<|?_
  refine Zb4 ?_
  refine sn'<|ZaY lk<|Zaf<|ZaF<|Zai<|wr'<|mv' lki pt<|sn'<|Zab<|Zag rz<|rT'<|?_
  refine ivx ?_;unfold Zct;simp only [Bool.not_eq_true',Bool.not_eq_false',Zcu,ZcG,decide_eq_true_eq,decide_eq_false_iff_not] at *;repeat' split
  all_goals omega
 refine d_no gt pt<|d_no gt pt<|d_no gt pt<|D' (Zah lk lkb) pt<|D' (v_mv lk) pt<|d_do gt<|D' (Zaa lk) pt<|d_do gt<|D' (Zac lk (hga hn rfl) gt0) pt<|d_do gt<|D' (Za6 lk lki) pt<|d_do gt<|D' (v_mv lk) pt<|?_
 refine dq' (t:=49) gt pt pt (fun hg49=>?_) (fun hg49=>?_)
 ·refine d_do gt<|D' (Zaa lk) pt<|d_do gt<|D' (Zac lk (hga hn rfl) gt2) pt<|d_do gt<|D' (v_mv lk) pt<|d_do gt<|D' (v_mv lk) pt<|d_do gt<|?_
  have hym:(1≤y∧y≤9999)∧(1≤m∧m≤12):=by simp only [Bool.not_eq_true',Bool.not_eq_false',Zcu,ZcG] at *;omega
  refine Za9 mp (fun hE hX=>ZdX (by omega) (by omega) hym.2.1 hym.2.2) pt ?_
  refine d_do gt ?_
  refine Za9 mp (fun hE hX=>Zcx) pt ?_
  refine d_do gt<|D' (Zav lk) pt<|d_do gt<|D' (Zaj lk lk) pt<|D' (Zah lk lk) pt<|D' (v_mv lk) pt<|Zbt<|?_
  refine Zb4 ?_
  refine sn' ?_
  refine Zaw lk (fun hc4=>?_) (fun hc4=>?_)
  ·refine wr'<|mv' lki pt<|sn'<|Zab<|Zaq<|Zak<|Zag rz<|rT'<|?_
   refine ivx ?_;unfold Zct;simp only [Bool.not_eq_true',Bool.not_eq_false',Zcu,ZcG,decide_eq_true_eq,decide_eq_false_iff_not] at *;repeat' split
   all_goals omega
  refine Zaf<|ZaF<|Zai<|wr'<|mv' lki pt<|sn'<|Zab<|Zag rz<|rT'<|?_
  refine ivx ?_;unfold Zct;simp only [Bool.not_eq_true',Bool.not_eq_false',Zcu,ZcG,decide_eq_true_eq,decide_eq_false_iff_not] at *;repeat' split
  all_goals omega
 refine d_no gt pt<|d_no gt pt<|d_no gt pt<|d_no gt pt<|d_no gt pt<|d_no gt pt<|d_no gt pt<|d_do gt<|D' (Zah lk lkb) pt<|D' (Zah lk lk) pt<|D' (v_mv lk) pt<|Zbt<|?_
 refine Zb4 ?_
 refine sn'<|ZaY lk<|Zaf<|ZaF<|Zai<|wr'<|mv' lki pt<|sn'<|Zab<|Zag rz<|rT'<|?_
 refine ivx ?_;unfold Zct;simp only [Bool.not_eq_true',Bool.not_eq_false',Zcu,ZcG,decide_eq_true_eq,decide_eq_false_iff_not] at *;repeat' split
 all_goals omega
theorem on_a {y m k wk n:Int}{h:AH}:Ac 83 [iv y,iv m,.agg [iv k,iv wk,iv n]] h (.tup [.agg [iv (onV y m k wk n).1.1,iv (onV y m k wk n).1.2.1,iv (onV y m k wk n).1.2.2],iv (onV y m k wk n).2]):=by
 have hfb:=formE_bd y m k wk n
 refine tI' k83 fun N hn hlt hlA hbd=>?_
 simp only [tb'] at hbd ⊢
 refine wr'<|E' (Zcm (cvl lk rfl) rfl (hl0 hn) ha0) pt<|E' (Zbq (hl1 hn) ha1) pt<|mv' lki pt<|sn'<|Zam<|wr'<|mv' lk pt<|mv' lk pt<|V' (Zau lk (hga hn rfl) Zbz rfl) pt<|Zae mp (form_a) pt<|?_
 refine mv' lk pt<|sn'<|wr'<|mv' lk pt<|V' (Za6 lk lki) pt<|sn'<|?_
 refine cd' lk (fun hc1=>?_) (fun hc1=>?_)
 ·have hv:=ZmI (y:=y) (m:=m) (kind:=k) (wk:=wk) (n:=n) rfl hc1
  refine wr'<|V' (ZaB ZrP) pt<|mv' lk pt<|E' (Zal lk (cvl lk rfl) (hga hn rfl) rfl (nb' rfl) rfl Zb6 (hs1 hn)) ptn<|mv' lk pt<|sn'<|Zab<|Zak<|Zag (rsn (rm1 (rr_c gt (hga hn rfl) (ld1 Zbz rfl)) (rm1 (rr_t gt) rm0)))<|rT'<|?_
  rw [hv]
 have he:Zct y m k wk n=0:=Decidable.of_not_not hc1
 obtain ⟨hy,hm,hk,hw,hk1,hk2,hn3⟩:=formE_ok he
 have hnb:=Zld (y:=y) (m:=m) ⟨hy.1,by omega⟩ hm
 have hml:=ZdL y m
 have hn':0≤n∧n≤31:=by by_cases e:k=2 <;> simp_all <;> omega
 refine Zaf<|Zai<|wr'<|mv' lk pt<|mv' lk pt<|V' (ZaB (ZrO (cvl lk rfl) rfl (cvl lk rfl) rfl (cvl lki rfl) rfl)) pt<|?_
 refine Zae mp (ZpO (by omega) (by omega) (by omega) (by omega) (by omega) (by omega)) pt ?_
 refine mv' lk pt<|sn'<|wr'<|mv' lk pt<|V' (Zaa lk) pt<|V' (Zac lk (hga hn rfl) gt2) pt<|?_
 refine V' (ZaE lk lk (by omega) (by omega)) pt ?_
 refine V' (ZcC lk lki (by omega) (by omega)) pt ?_
 refine mv' lk pt<|sn'<|Zam<|wr'<|V' (Zaa lk) pt<|V' (Zac lk (hga hn rfl) gt0) pt<|sn'<|Zao<|wr'<|V' (ZaX lk lki) pt<|?_
 refine mv' lk pt<|sn'<|?_
 refine cd' lk (fun hc2=>?_) (fun hc2=>?_)
 ·have hd:ZeB y m k wk n=bwd (num y m 1+mlen y m-1) wk:=by unfold ZeB;rw [if_pos hc2,ZqD y m (mlen y m)]
  refine ZbJ<|D' (v_mv lk) pt<|D' (v_mv lk) pt<|D' (v_mv lk) pt<|?_
  refine Za9 mp (fun hE hX=>ZdX (by omega) (by omega) hm.1 hm.2) pt ?_
  refine D' (ZaE lk lk (by omega) (by omega)) pt ?_
  refine D' (ZcC lk lki (by omega) (by omega)) pt ?_
  refine D' (Zaa lk) pt<|D' (Zac lk (hga hn rfl) gt1) pt<|?_
  refine Za9 mp (fun hE hX=>Zpj (by omega) (by omega) hw) pt ?_
  refine D' (v_mv lk) pt<|Zbt<|?_
  refine Zb4 ?_
  refine Zas<|ZaF<|Zai<|wr'<|mv' lk pt<|Zae mp (of_a) pt<|V' (Zbb lk gt) pt<|V' (Zbb lk gt) pt<|E' (Zal lk (cvl lk rfl) (hga hn rfl) rfl (nb' rfl) rfl Zb6 (hs1 hn)) ptn<|mv' lk pt<|sn'<|Zab<|?_
  refine Zag (rsn (rm1 (rr_c gt (hga hn rfl) (ld1 Zbz rfl)) (rm1 (rr_t gt) rm0)))<|rT'<|?_
  rw [Zj4 he hd];split <;> rfl
 refine wr'<|V' (ZaX lk lki) pt<|mv' lk pt<|sn'<|?_
 refine cd' lk (fun hc3=>?_) (fun hc3=>?_)
 ·have hd:ZeB y m k wk n=fwd (num y m 1+n-1) wk:=by unfold ZeB;rw [if_neg hc2,if_pos hc3,ZqD y m n]
  refine Zar<|mv' lk pt<|V' (Zaa lk) pt<|V' (Zac lk (hga hn rfl) gt1) pt<|?_
  refine Zae mp (toward_f (by omega) (by omega) hw) pt ?_
  refine mv' lk pt<|Zas<|ZaF<|Zai<|wr'<|mv' lk pt<|Zae mp (of_a) pt<|V' (Zbb lk gt) pt<|V' (Zbb lk gt) pt<|E' (Zal lk (cvl lk rfl) (hga hn rfl) rfl (nb' rfl) rfl Zb6 (hs1 hn)) ptn<|mv' lk pt<|sn'<|?_
  refine Zab<|Zag (rsn (rm1 (rr_c gt (hga hn rfl) (ld1 Zbz rfl)) (rm1 (rr_t gt) rm0)))<|rT'<|?_
  rw [Zj4 he hd];split <;> rfl
 refine wr'<|V' (ZaX lk lki) pt<|mv' lk pt<|sn'<|?_
 refine cd' lk (fun hc4=>?_) (fun hc4=>?_)
 ·have hd:ZeB y m k wk n=bwd (num y m 1+n-1) wk:=by unfold ZeB;rw [if_neg hc2,if_neg hc3,if_pos hc4,ZqD y m n]
  refine Zar<|mv' lk pt<|V' (Zaa lk) pt<|V' (Zac lk (hga hn rfl) gt1) pt<|?_
  refine Zae mp (Zpj (by omega) (by omega) hw) pt ?_
  refine mv' lk pt<|Zas<|ZaF<|Zai<|wr'<|mv' lk pt<|Zae mp (of_a) pt<|V' (Zbb lk gt) pt<|V' (Zbb lk gt) pt<|E' (Zal lk (cvl lk rfl) (hga hn rfl) rfl (nb' rfl) rfl Zb6 (hs1 hn)) ptn<|mv' lk pt<|sn'<|?_
  refine Zab<|Zag (rsn (rm1 (rr_c gt (hga hn rfl) (ld1 Zbz rfl)) (rm1 (rr_t gt) rm0)))<|rT'<|?_
  rw [Zj4 he hd];split <;> rfl
 have hd:ZeB y m k wk n=num y m 1+n-1:=by unfold ZeB;rw [if_neg hc2,if_neg hc3,if_neg hc4,ZqD y m n]
 refine Zaf<|ZaF<|Zai<|wr'<|mv' lk pt<|Zae mp (of_a) pt<|V' (Zbb lk gt) pt<|V' (Zbb lk gt) pt<|E' (Zal lk (cvl lk rfl) (hga hn rfl) rfl (nb' rfl) rfl Zb6 (hs1 hn)) ptn<|mv' lk pt<|sn'<|Zab<|?_
 refine Zag (rsn (rm1 (rr_c gt (hga hn rfl) (ld1 Zbz rfl)) (rm1 (rr_t gt) rm0)))<|rT'<|?_
 rw [Zj4 he hd];split <;> rfl
theorem ZcA {n a b:Int}{h:AH}:Ac 68 [iv n,iv a,iv b] h (bv (wi n a b)):=Zbe
theorem ZgH {y:Int}{h:AH}(h0:0≤y):Ac 136 [iv y] h (bv (Zjv y)):=by
 refine tI' k136 fun N hn hlt hlA hbd=>?_
 simp only [tb'] at hbd ⊢
 refine wr'<|mv' lkb pt<|sn'<|wr'<|mv' lk pt<|?_
 refine V' (Zfr lk lki (by omega) (by omega)) pt ?_
 refine V' (ZaX lk lki) pt<|mv' lk pt<|?_
 refine sp' (t:=6) gt pt pt (fun hg6=>?_) (fun hg6=>?_)
 ·refine s_no gt pt<|s_no gt pt<|s_no gt pt<|s_no gt pt<|s_nu gt pt<|s_nu gt pt<|s_nu gt pt<|s_no gt pt<|V' (Zaj lk lkb) pt<|mv' lk pt<|sn'<|Zab<|Zag rz<|?_
  refine rT' ?_
  refine bvx ?_;unfold Zjv;rw [Bool.eq_iff_iff];simp at *;omega
 refine s_do gt<|mv' lk pt<|s_do gt<|?_
 refine V' (Zfr lk lki (by omega) (by omega)) pt ?_
 refine s_do gt<|V' (ZaX lk lki) pt<|s_do gt<|mv' lk pt<|?_
 refine sp' (t:=10) gt pt pt (fun hg10=>?_) (fun hg10=>?_)
 ·refine s_do gt<|mv' lk pt<|s_do gt<|?_
  refine V' (Zfr lk lki (by omega) (by omega)) pt ?_
  refine s_do gt<|V' (Za6 lk lki) pt<|s_do gt<|V' (Zaj lk lk) pt<|V' (Zah lk lk) pt<|mv' lk pt<|sn'<|Zab<|Zag rz<|rT'<|?_
  refine bvx ?_;unfold Zjv;rw [Bool.eq_iff_iff];simp at *;omega
 refine s_no gt pt<|s_no gt pt<|s_no gt pt<|s_do gt<|V' (Zah lk lkb) pt<|V' (Zah lk lk) pt<|mv' lk pt<|sn'<|Zab<|Zag rz<|rT'<|?_
 refine bvx ?_;unfold Zjv;rw [Bool.eq_iff_iff];simp at *;omega
theorem Zix {y m:Int}{h:AH}(h0:0≤y):Ac 98 [iv y,iv m] h (iv (mlen y m)):=by
 refine tI' k98 fun N hn hlt hlA hbd=>?_
 simp only [tb'] at hbd ⊢
 refine wr'<|mv' lki pt<|sn'<|Zam<|wr'<|mv' lk pt<|sn'<|Zao<|Zam<|Zam<|?_
 refine Zar<|V' (ZaX lk lki) pt<|mv' lk pt<|sn'<|?_
 refine cd' lk (fun hc1=>?_) (fun hc1=>?_)
 ·refine Zaf<|Zai<|?_
  refine cd' lk (fun hc4=>?_) (fun hc4=>?_)
  ·refine wr'<|mv' lki pt<|sn'<|Zab<|Zaq<|Zak<|Zag rz<|rT'<|?_
   refine ivx ?_;unfold mlen lp;simp_all
  refine wr'<|V' (ZaX lk lki) pt<|mv' lk pt<|sn'<|?_
  refine cd' lk (fun hc5=>?_) (fun hc5=>?_)
  ·refine Zam<|wr'<|mv' lk pt<|Zae mp (ZgH h0) pt<|sn'<|?_
   refine Zaw lk (fun hc6=>?_) (fun hc6=>?_)
   ·refine wr'<|mv' lki pt<|sn'<|Zab<|Zak<|Zaq<|Zak<|Zag rz<|rT'<|?_
    refine ivx ?_;unfold mlen lp;simp_all
   refine Zaf<|Zai<|wr'<|mv' lki pt<|sn'<|Zab<|Zaq<|Zak<|Zag rz<|rT'<|?_
   refine ivx ?_;unfold mlen lp;simp_all
  refine Zaf<|ZaF<|Zai<|wr'<|mv' lki pt<|sn'<|Zab<|Zag rz<|rT'<|?_
  refine ivx ?_;unfold mlen lp;simp_all
 refine wr'<|V' (ZaX lk lki) pt<|mv' lk pt<|sn'<|?_
 refine cd' lk (fun hc2=>?_) (fun hc2=>?_)
 ·refine Zaf<|Zai<|?_
  refine cd' lk (fun hc4=>?_) (fun hc4=>?_)
  ·refine wr'<|mv' lki pt<|sn'<|Zab<|Zaq<|Zak<|Zag rz<|rT'<|?_
   refine ivx ?_;unfold mlen lp;simp_all
  refine wr'<|V' (ZaX lk lki) pt<|mv' lk pt<|sn'<|?_
  refine cd' lk (fun hc5=>?_) (fun hc5=>?_)
  ·refine Zam<|wr'<|mv' lk pt<|Zae mp (ZgH h0) pt<|sn'<|?_
   refine Zaw lk (fun hc6=>?_) (fun hc6=>?_)
   ·refine wr'<|mv' lki pt<|sn'<|Zab<|Zak<|Zaq<|Zak<|Zag rz<|rT'<|?_
    refine ivx ?_;unfold mlen lp;simp_all
   refine Zaf<|Zai<|wr'<|mv' lki pt<|sn'<|Zab<|Zaq<|Zak<|Zag rz<|rT'<|?_
   refine ivx ?_;unfold mlen lp;simp_all
  refine Zaf<|ZaF<|Zai<|wr'<|mv' lki pt<|sn'<|Zab<|Zag rz<|rT'<|?_
  refine ivx ?_;unfold mlen lp;simp_all
 refine wr'<|V' (ZaX lk lki) pt<|mv' lk pt<|sn'<|?_
 refine cd' lk (fun hc3=>?_) (fun hc3=>?_)
 ·refine Zaf<|Zai<|?_
  refine cd' lk (fun hc4=>?_) (fun hc4=>?_)
  ·refine wr'<|mv' lki pt<|sn'<|Zab<|Zaq<|Zak<|Zag rz<|rT'<|?_
   refine ivx ?_;unfold mlen lp;simp_all
  refine wr'<|V' (ZaX lk lki) pt<|mv' lk pt<|sn'<|?_
  refine cd' lk (fun hc5=>?_) (fun hc5=>?_)
  ·refine Zam<|wr'<|mv' lk pt<|Zae mp (ZgH h0) pt<|sn'<|?_
   refine Zaw lk (fun hc6=>?_) (fun hc6=>?_)
   ·refine wr'<|mv' lki pt<|sn'<|Zab<|Zak<|Zaq<|Zak<|Zag rz<|rT'<|?_
    refine ivx ?_;unfold mlen lp;simp_all
   refine Zaf<|Zai<|wr'<|mv' lki pt<|sn'<|Zab<|Zaq<|Zak<|Zag rz<|rT'<|?_
   refine ivx ?_;unfold mlen lp;simp_all
  refine Zaf<|ZaF<|Zai<|wr'<|mv' lki pt<|sn'<|Zab<|Zag rz<|rT'<|?_
  refine ivx ?_;unfold mlen lp;simp_all
 refine Zar<|V' (ZaX lk lki) pt<|mv' lk pt<|sn'<|?_
 refine cd' lk (fun hc4=>?_) (fun hc4=>?_)
 ·refine wr'<|mv' lki pt<|sn'<|Zab<|Zaq<|Zak<|Zag rz<|rT'<|?_
  refine ivx ?_;unfold mlen lp;simp_all
 refine wr'<|V' (ZaX lk lki) pt<|mv' lk pt<|sn'<|?_
 refine cd' lk (fun hc5=>?_) (fun hc5=>?_)
 ·refine Zam<|wr'<|mv' lk pt<|Zae mp (ZgH h0) pt<|sn'<|?_
  refine Zaw lk (fun hc6=>?_) (fun hc6=>?_)
  ·refine wr'<|mv' lki pt<|sn'<|Zab<|Zak<|Zaq<|Zak<|Zag rz<|rT'<|?_
   refine ivx ?_;unfold mlen lp;simp_all
  refine Zaf<|Zai<|wr'<|mv' lki pt<|sn'<|Zab<|Zaq<|Zak<|Zag rz<|rT'<|?_
  refine ivx ?_;unfold mlen lp;simp_all
 refine Zaf<|ZaF<|Zai<|wr'<|mv' lki pt<|sn'<|Zab<|Zag rz<|rT'<|?_
 refine ivx ?_;unfold mlen lp;simp_all
theorem ZfN {y m d:Int}{h:AH}:Ac 74 [.agg [iv y,iv m,iv d]] h (bv (Zby y m d)):=by
 refine tI' k74 fun N hn hlt hlA hbd=>?_
 simp only [tb'] at hbd ⊢
 refine wr'<|E' (Zcm (cvl lk rfl) rfl (hl0 hn) ha0) pt<|mv' lkb pt<|sn'<|Zam<|ZbJ<|D' (Zaa lk) pt<|D' (Zac lk (hga hn rfl) gt0) pt<|?_
 refine Za9 mp (fun hE hX=>ZcA) pt ?_
 refine D' (v_mv lk) pt ?_
 refine Ze8 (t:=6) gt pt pt (fun hg6=>?_) (fun hg6=>?_)
 ·refine d_do gt<|D' (Zaa lk) pt<|d_do gt<|D' (Zac lk (hga hn rfl) gt1) pt<|d_do gt<|?_
  refine Za9 mp (fun hE hX=>ZcA) pt ?_
  refine D' (Zaj lk lk) pt<|D' (v_mv lk) pt<|?_
  refine Ze8 (t:=11) gt pt pt (fun hg11=>?_) (fun hg11=>?_)
  ·refine d_do gt<|D' (Zaa lk) pt<|d_do gt<|D' (Zac lk (hga hn rfl) gt2) pt<|d_do gt<|D' (Zaa lk) pt<|d_do gt<|D' (Zac lk (hga hn rfl) gt0) pt<|d_do gt<|D' (Zaa lk) pt<|d_do gt<|D' (Zac lk (hga hn rfl) gt1) pt<|d_do gt<|?_
   have hy:1≤y∧y≤9999:=by simp only [Zcu] at *;omega
   refine Za9 mp (fun hE hX=>Zix (by omega)) pt ?_
   refine d_do gt ?_
   refine Za9 mp (fun hE hX=>ZcA) pt ?_
   refine D' (Zaj lk lk) pt<|D' (v_mv lk) pt<|Zbt<|?_
   refine Zb4 ?_
   refine sn'<|Zab<|Zag rz<|rT'<|?_
   refine bvx ?_;rw [show Zby y m d=(wi y 1 9999&&(wi m 1 12&&wi d 1 (mlen y m))) from by unfold Zby wi;simp [Bool.and_assoc]];simp_all
  refine d_no gt pt<|d_no gt pt<|d_no gt pt<|d_no gt pt<|d_no gt pt<|d_no gt pt<|d_no gt pt<|d_no gt pt<|D' (Zah lk lkb) pt<|D' (v_mv lk) pt<|Zbt<|?_
  refine Zb4 ?_
  refine sn'<|Zab<|Zag rz<|rT'<|?_
  refine bvx ?_;rw [show Zby y m d=(wi y 1 9999&&(wi m 1 12&&wi d 1 (mlen y m))) from by unfold Zby wi;simp [Bool.and_assoc]];simp_all
 refine d_no gt pt<|d_no gt pt<|d_no gt pt<|D' (Zah lk lkb) pt<|D' (v_mv lk) pt<|d_no gt pt<|d_no gt pt<|d_no gt pt<|d_no gt pt<|d_no gt pt<|d_no gt pt<|d_no gt pt<|d_no gt pt<|D' (Zah lk lkb) pt<|?_
 refine D' (v_mv lk) pt<|Zbt<|?_
 refine Zb4 ?_
 refine sn'<|Zab<|Zag rz<|rT'<|?_
 refine bvx ?_;rw [show Zby y m d=(wi y 1 9999&&(wi m 1 12&&wi d 1 (mlen y m))) from by unfold Zby wi;simp [Bool.and_assoc]];simp_all
theorem ZeI {y m d:Int}{h:AH}(y0:1≤y) (y1:y≤20000) (m0:1≤m) (m1:m≤12) (d0 : -1000≤d) (d1:d≤1000):Ac 99 [.agg [iv y,iv m,iv d]] h (iv (num y m d)):=by
 refine tI' k99 fun N hn hlt hlA hbd=>?_
 simp only [tb'] at hbd ⊢
 refine wr'<|E' (Zcm (cvl lk rfl) rfl (hl0 hn) ha0) pt<|mv' lki pt<|sn'<|Zam<|ZbJ<|D' (Zaa lk) pt<|D' (Zac lk (hga hn rfl) gt0) pt<|D' (Zaa lk) pt<|D' (Zac lk (hga hn rfl) gt1) pt<|?_
 refine D' (ZcC lk lki (by omega) (by omega)) pt ?_
 refine D' (v_mv lk) pt<|D' (v_mv lk) pt<|Zbt<|?_
 refine Zb4 ?_
 refine sn'<|Zam<|wr'<|mv' lk pt<|V' (Zbu lk lki) pt<|sn'<|?_
 refine cd' lk (fun hc1=>?_) (fun hc1=>?_)
 ·refine wr'<|mv' lk pt<|?_
  refine V' (ZcC lk lki (by omega) (by omega)) pt ?_
  refine mv' lk pt<|sn'<|Zar<|mv' lk pt<|?_
  refine V' (ZaE lk lki (by omega) (by omega)) pt ?_
  refine mv' lk pt<|sn'<|wr'<|mv' lk pt<|?_
  refine V' (Zf7 lk lki (by omega) (by omega) (by omega)) pt ?_
  refine V' (Zge lk lki (by omega) (by omega)) pt ?_
  refine mv' lk pt ?_
  refine V' (Zfr lk lki (by omega) (by omega)) pt ?_
  refine V' (Zge lk lki (by omega) (by omega)) pt ?_
  refine V' (ZaE lk lk (by omega) (by omega)) pt ?_
  refine mv' lk pt ?_
  refine V' (Zfr lk lki (by omega) (by omega)) pt ?_
  refine V' (Zf7 lk lki (by omega) (by omega) (by omega)) pt ?_
  refine V' (ZaE lk lk (by omega) (by omega)) pt ?_
  refine mv' lk pt ?_
  refine V' (Zfr lk lki (by omega) (by omega)) pt ?_
  refine V' (Zf7 lk lki (by omega) (by omega) (by omega)) pt ?_
  refine V' (ZcC lk lk (by omega) (by omega)) pt ?_
  refine mv' lk pt<|sn'<|wr'<|mv' lk pt<|mv' lk pt<|?_
  refine V' (Zge lki lk (by omega) (by omega)) pt ?_
  refine V' (ZaE lk lki (by omega) (by omega)) pt ?_
  refine V' (Zf7 lk lki (by omega) (by omega) (by omega)) pt ?_
  refine V' (ZaE lk lk (by omega) (by omega)) pt ?_
  refine V' (Zaa lk) pt<|V' (Zac lk (hga hn rfl) gt2) pt<|?_
  refine V' (ZaE lk lk (by omega) (by omega)) pt ?_
  refine V' (ZcC lk lki (by omega) (by omega)) pt ?_
  refine V' (ZcC lk lki (by omega) (by omega)) pt ?_
  refine mv' lk pt<|sn'<|Zab<|Zag rz<|rT'<|?_
  refine ivx ?_;rw [←num_ref2 m0 (by omega)]
 refine Zaf<|Zai<|wr'<|mv' lk pt<|?_
 refine V' (Zf7 lk lki (by omega) (by omega) (by omega)) pt ?_
 refine V' (Zge lk lki (by omega) (by omega)) pt ?_
 refine mv' lk pt ?_
 refine V' (Zfr lk lki (by omega) (by omega)) pt ?_
 refine V' (Zge lk lki (by omega) (by omega)) pt ?_
 refine V' (ZaE lk lk (by omega) (by omega)) pt ?_
 refine mv' lk pt ?_
 refine V' (Zfr lk lki (by omega) (by omega)) pt ?_
 refine V' (Zf7 lk lki (by omega) (by omega) (by omega)) pt ?_
 refine V' (ZaE lk lk (by omega) (by omega)) pt ?_
 refine mv' lk pt ?_
 refine V' (Zfr lk lki (by omega) (by omega)) pt ?_
 refine V' (Zf7 lk lki (by omega) (by omega) (by omega)) pt ?_
 refine V' (ZcC lk lk (by omega) (by omega)) pt ?_
 refine mv' lk pt<|sn'<|wr'<|mv' lk pt<|mv' lk pt<|?_
 refine V' (Zge lki lk (by omega) (by omega)) pt ?_
 refine V' (ZaE lk lki (by omega) (by omega)) pt ?_
 refine V' (Zf7 lk lki (by omega) (by omega) (by omega)) pt ?_
 refine V' (ZaE lk lk (by omega) (by omega)) pt ?_
 refine V' (Zaa lk) pt<|V' (Zac lk (hga hn rfl) gt2) pt<|?_
 refine V' (ZaE lk lk (by omega) (by omega)) pt ?_
 refine V' (ZcC lk lki (by omega) (by omega)) pt ?_
 refine V' (ZcC lk lki (by omega) (by omega)) pt ?_
 refine mv' lk pt<|sn'<|Zab<|Zag rz<|rT'<|?_
 refine ivx ?_;rw [←num_ref1 (by omega) m1]
theorem rfirst_a {h:AH}:Ac 101 [] h (iv (-719162)):=by
 refine tI' k101 fun N hn hlt hlA hbd=>?_
 simp only [tb'] at hbd ⊢
 refine wr'<|mv' lki pt<|sn'<|wr'<|V' (ZaB (Zjs (cvl lki rfl) rfl (cvl lki rfl) rfl (cvl lki rfl) rfl)) pt<|?_
 refine Zae mp (ZeI (by omega) (by omega) (by omega) (by omega) (by omega) (by omega)) pt ?_
 refine mv' lk pt<|sn'<|Zab<|Zag rz<|rT'<|?_
 exact ivx (by decide)
theorem rlast_a {h:AH}:Ac 102 [] h (iv 2932896):=by
 refine tI' k102 fun N hn hlt hlA hbd=>?_
 simp only [tb'] at hbd ⊢
 refine wr'<|mv' lki pt<|sn'<|wr'<|V' (ZaB (ZjG (cvl lki rfl) rfl (cvl lki rfl) rfl (cvl lki rfl) rfl)) pt<|?_
 refine Zae mp (ZeI (by omega) (by omega) (by omega) (by omega) (by omega) (by omega)) pt ?_
 refine mv' lk pt<|sn'<|Zab<|Zag rz<|rT'<|?_
 exact ivx (by decide)
theorem Zqz {n:Int}{h:AH}:Ac 100 [iv n] h (iv (wd n)):=by
 have hb1 : -6≤n.tmod 7∧n.tmod 7≤6:=by rw [Zqn];split <;> omega
 refine tI' k100 fun N hn hlt hlA hbd=>?_
 simp only [tb'] at hbd ⊢
 refine wr'<|mv' lki pt<|sn'<|wr'<|mv' lk pt<|?_
 refine V' (Zpd lk lki (by omega)) pt ?_
 refine mv' lk pt<|sn'<|Zam<|wr'<|mv' lk pt<|V' (Zbu lk lki) pt<|sn'<|?_
 refine cd' lk (fun hc1=>?_) (fun hc1=>?_)
 ·refine Zar<|mv' lk pt<|?_
  refine V' (ZaE lk lki (by omega) (by omega)) pt ?_
  refine mv' lk pt<|sn'<|wr'<|mv' lk pt<|?_
  refine V' (ZaE lk lki (by omega) (by omega)) pt ?_
  refine V' (Zfr lk lki (by omega) (by omega)) pt ?_
  refine mv' lk pt<|sn'<|Zab<|Zag rz<|rT'<|?_
  refine ivx ?_;unfold wd;rw [Zqn] at *;split at * <;> omega
 refine Zaf<|Zai<|wr'<|mv' lk pt<|?_
 refine V' (ZaE lk lki (by omega) (by omega)) pt ?_
 refine V' (Zfr lk lki (by omega) (by omega)) pt ?_
 refine mv' lk pt<|sn'<|Zab<|Zag rz<|rT'<|?_
 refine ivx ?_;unfold wd;rw [Zqn] at *;split at * <;> omega
theorem ZsF {n:Int}{h:AH}(h0 : -719162≤n) (h1:n≤2932896):Ac 103 [iv n] h (dateA (ZdR n)):=by
 refine tI' k103 fun N hn hlt hlA hbd=>?_
 simp only [tb'] at hbd ⊢
 refine wr'<|E' (Zbq (hl0 hn) ha0) pt<|sn'<|wr'<|mv' lki pt<|mv' lki pt<|sn'<|Zam<|Zao<|?_
 refine w_lp (ι:=Int×Int) (fun (x_:Int×Int)=>match x_ with | ⟨y,z⟩=>[(3,iv y),(4,iv z),(5,.any)]++rn' 7 15) (fun (x_:Int×Int)=>match x_ with | ⟨y,z⟩=>[]) (fun (x_:Int×Int)=>match x_ with | ⟨y,z⟩=>1≤y∧y<z∧z≤10000∧num y 1 1≤n∧n<num z 1 1) (fun (x_:Int×Int)=>match x_ with | ⟨y,z⟩=>(z-y).toNat) (⟨1,10000⟩) (by exact ⟨by omega,by omega,by omega,by rw [ZsP,bef_1];omega,by rw [ZsP,ZdD];omega⟩) ?_
 rintro ⟨y,z⟩ hi1
 try simp only [sm',Nat.reduceAdd]
 obtain ⟨hy,hyz,hz,hn1,hn2⟩:=hi1
 refine Zam<|wr'<|mv' lk pt<|mv' lk pt<|?_
 refine V' (ZcC lk lk (by omega) (by omega)) pt ?_
 refine V' (ZbN lk lki) pt<|sn'<|?_
 refine cd' lk (fun hc1=>?_) (fun hc1=>?_)
 ·refine Zaf<|Zai<|Zao<|wr'<|mv' lk pt<|mv' lk pt<|?_
  refine V' (ZaE lk lk (by omega) (by omega)) pt ?_
  refine V' (Zf7 lk lki (by omega) (by omega) (by omega)) pt ?_
  refine mv' lk pt<|sn'<|wr'<|mv' lk pt<|V' (ZaB (ZjI (cvl lk rfl) rfl (cvl lki rfl) rfl (cvl lki rfl) rfl)) pt<|?_
  refine Zae mp (ZeI (by omega) (by omega) (by omega) (by omega) (by omega) (by omega)) pt ?_
  refine mv' lk pt<|V' (ZeT lk lk) pt<|sn'<|?_
  refine cd' lk (fun hc2=>?_) (fun hc2=>?_)
  ·refine Zar<|mv' lk pt<|mv' lk pt<|Zas<|ZaF<|ZaI<|?_
   refine lU' (⟨(y+z)/2,z⟩) (by (try dsimp only);exact ⟨by omega,by omega,by omega,by omega,by omega⟩) (by (try dsimp only);(try simp only [sm',Nat.reduceAdd]);exact ALe.same (by repeat (first | exact wk0 | refine wka ?_ | refine wk1 rfl ?_ | refine wk1 (by first | rfl | exact ivx (by omega) | (simp;done)) ?_)) rfl)
  refine Zar<|mv' lk pt<|mv' lk pt<|Zas<|ZaF<|ZaI<|?_
  refine lU' (⟨y,(y+z)/2⟩) (by (try dsimp only);exact ⟨by omega,by omega,by omega,by omega,by omega⟩) (by (try dsimp only);(try simp only [sm',Nat.reduceAdd]);exact ALe.same (by repeat (first | exact wk0 | refine wka ?_ | refine wk1 rfl ?_ | refine wk1 (by first | rfl | exact ivx (by omega) | (simp;done)) ?_)) rfl)
 obtain rfl:z=y+1:=by omega
 have hup:num y 12 1+mlen y 12=num (y+1) 1 1:=by rw [ZsP,ZfX];unfold num cum mlen;simp;omega
 refine Za0<|ZaO<|ZaO<|Zbp<|Zai<|wr'<|mv' lk pt<|V' (ZaB (ZjH (cvl lk rfl) rfl (cvl lki rfl) rfl (cvl lki rfl) rfl)) pt<|E' (Zbq (hl1 hn) ha1) pt<|E' (Zal lk (cvl lk rfl) (hga hn rfl) rfl (nb' rfl) rfl Zb6 (hs1 hn)) ptn<|sn'<|Zam<|?_
 refine Zao ?_
 refine w_lp (ι:=Int) (fun (m:Int)=>[]++rn' 24 8) (fun (m:Int)=>[(1,.mk 0 60 3 [iv y,iv m,iv 1])]) (fun (m:Int)=>1≤m∧m≤12∧n<num y m 1+mlen y m) (fun (m:Int)=>m.toNat) (12) (by exact ⟨by omega,by omega,by rw [hup];exact hn2⟩) ?_
 rintro m hi2
 try simp only [sm',Nat.reduceAdd]
 obtain ⟨hm0,hm1,hn3⟩:=hi2
 refine Zam<|wr'<|V' (Zau lk (hga hn rfl) Zbz rfl) pt<|?_
 refine Zae mp (ZeI (by omega) (by omega) (by omega) (by omega) (by omega) (by omega)) pt ?_
 refine mv' lk pt<|V' (ZbN lk lk) pt<|sn'<|?_
 refine cd' lk (fun hc3=>?_) (fun hc3=>?_)
 ·have hm2:2≤m:=by
   rcases Int.lt_or_le m 2 with c | c
   ·obtain rfl:m=1:=by omega
    omega
   exact c
  have hst:num y (m-1) 1+mlen y (m-1)=num y m 1:=by have:=ZgW (y:=y) (m:=m-1) (by omega) (by omega);rw [show m-1+1=m by omega] at this;unfold num;omega
  refine Zaf<|Zai<|Zao<|Zar<|V' (Zaa lk) pt<|V' (Zac lk (hga hn rfl) gt1) pt<|?_
  refine V' (ZcC lk lki (by omega) (by omega)) pt ?_
  refine V' (Zaa lk) pt<|E' (Zal lk (cvl lk rfl) (hga hn rfl) rfl (nb' rfl) rfl ZrN (hs1 hn)) ptn<|Zas<|ZaF<|ZaI<|?_
  refine lT' (m-1) (by (try dsimp only);exact ⟨by omega,by omega,by rw [hst];exact hc3⟩)
 have hd:Zby y m (n-num y m 1+1)=true:=by
  have h1:=num_bd (ZcB.2 ⟨hy,by omega,hm0,hm1,by omega,by have:=ZdL y m;omega⟩:Zby y m 1=true)
  rw [ZcB];omega
 have hdn:num y m (n-num y m 1+1)=n:=by unfold num;omega
 have hde:=ZtJ hd hdn
 have hnb:=Zld (y:=y) (m:=m) ⟨hy,by omega⟩ ⟨hm0,hm1⟩
 refine Za0<|ZaO<|ZaO<|Zbp<|Zai<|wr'<|mv' lk pt<|V' (Zau lk (hga hn rfl) Zbz rfl) pt<|?_
 refine Zae mp (ZeI (by omega) (by omega) (by omega) (by omega) (by omega) (by omega)) pt ?_
 refine V' (ZcC lk lk (by omega) (by omega)) pt ?_
 refine V' (ZaE lk lki (by omega) (by omega)) pt ?_
 refine V' (Zaa lk) pt<|E' (Zal lk (cvl lk rfl) (hga hn rfl) rfl (nb' rfl) rfl ZrM (hs1 hn)) ptn<|sn'<|wr'<|V' (Zau lk (hga hn rfl) Zbz rfl) pt<|E' (Zal lk (cvl lk rfl) (hga hn rfl) rfl (nb' rfl) rfl Zb6 (hs0 hn)) ptn<|sn'<|Zab<|Zag (rs1 (rr_c gt (hga hn rfl) (ld1 Zbz rfl)))<|rT'<|?_
 rw [hde]
def onSt (y m k n:Int):Int:=num y m 1-1+if k=2 then mlen y m else n
def onGo (k wk s:Int) (j:Nat):Int:=if k=3 then s+j else s-j
def Zho (k wk s:Int):Int:=if k≤1 then 0 else if k=3 then (wk-wd s)%7 else (wd s-wk)%7
theorem Zh6 (k wk s:Int):0≤Zho k wk s∧Zho k wk s≤6:=by
 unfold Zho
 repeat' split
 all_goals omega
theorem onGo_go {k wk s:Int}{j:Nat}(hw:0≤wk∧wk≤6) (hj:(j:Int)≤Zho k wk s) (h:j<7∧1<k∧wd (onGo k wk s j)≠wk):(j:Int)+1≤Zho k wk s:=by
 have h1:=ZrT (n:=s) (k:=wk) (j:=j) (by omega)
 have h2:=ZrU (n:=s) (k:=wk) (j:=j) (by omega)
 unfold Zho onGo at *
 rw [if_neg (by omega)] at hj ⊢
 split at hj <;> rename_i h3
 ·simp only [h3,if_true] at h ⊢
  have:=h1 hj hw
  omega
 simp only [h3,if_false] at h ⊢
 have:=h2 hj hw
 omega
theorem onGo_end {y m k wk n:Int}{j:Nat}(hk:1≤k∧k≤4) (hw:0≤wk∧wk≤6) (hj:(j:Int)≤Zho k wk (onSt y m k n)) (h:¬(j<7∧1<k∧wd (onGo k wk (onSt y m k n) j)≠wk)):ZeB y m k wk n=onGo k wk (onSt y m k n) j:=by
 have hb:=Zh6 k wk (onSt y m k n)
 have h1:=ZrT (n:=onSt y m k n) (k:=wk) (j:=j) (by omega)
 have h2:=ZrU (n:=onSt y m k n) (k:=wk) (j:=j) (by omega)
 have e1:=ZqD y m n
 have e2:=ZqD y m (mlen y m)
 have h5:k=1∨k=2∨k=3∨k=4:=by omega
 rcases h5 with rfl | rfl | rfl | rfl
 ·simp only [Zho,onGo,onSt,ZeB,fwd,bwd] at *
  simp at hj ⊢
  omega
 ·simp only [Zho,onGo,onSt,ZeB,fwd,bwd] at *
  simp at hj h h1 h2 ⊢
  rw [show num y m (mlen y m)=num y m 1-1+mlen y m by omega]
  omega
 ·simp only [Zho,onGo,onSt,ZeB,fwd,bwd] at *
  simp at hj h h1 h2 ⊢
  rw [show num y m n=num y m 1-1+n by omega]
  omega
 simp only [Zho,onGo,onSt,ZeB,fwd,bwd] at *
 simp at hj h h1 h2 ⊢
 rw [show num y m n=num y m 1-1+n by omega]
 omega
theorem onSt_bd {y m k n:Int}(hy:1≤y∧y≤20000) (hm:1≤m∧m≤12) (hn:k≠2→1≤n∧n≤mlen y m) : -8000010≤onSt y m k n∧onSt y m k n≤8000040:=by
 have h1:=Zld hy hm
 have h2:=ZdL y m
 unfold onSt;split
 ·omega
 have:=hn (by assumption);omega
theorem onGo_bd {k wk s:Int}{j:Nat}(h:(j:Int)≤Zho k wk s):s-6≤onGo k wk s j∧onGo k wk s j≤s+6:=by
 have:=Zh6 k wk s
 unfold onGo;split <;> omega
theorem wiB {n a b:Int}:wi n a b=decide (a≤n∧n≤b):=by unfold wi;rw [Bool.decide_and]
theorem ron_a {y m k wk n:Int}{h:AH}:Ac 69 [iv y,iv m,.agg [iv k,iv wk,iv n]] h (.tup [.agg [iv (onV y m k wk n).1.1,iv (onV y m k wk n).1.2.1,iv (onV y m k wk n).1.2.2],iv (onV y m k wk n).2]):=by
 refine tI' k69 fun N hn hlt hlA hbd=>?_
 simp only [tb'] at hbd ⊢
 refine wr'<|E' (Zcm (cvl lk rfl) rfl (hl0 hn) ha0) pt<|E' (Zbq (hl1 hn) ha1) pt<|mv' lki pt<|sn'<|Zam<|?_
 refine Zfq (ι:=Unit) (fun (u_:Unit)=>[(18,bv (decide (¬(1≤y∧y≤9999)∨¬(1≤m∧m≤12))))]++rn' 11 7) (fun (u_:Unit)=>[]) (fun (u_:Unit)=>True) ?_ ?_
 ·try simp only [sm',Nat.reduceAdd]
  refine Zar<|mv' lk pt<|Zae mp (ZcA) pt<|V' (Zav lk) pt<|mv' lk pt<|?_
  refine ZaL (t:=14) gt pt pt (fun hg14=>?_) (fun hg14=>?_)
  ·refine s_no gt pt<|s_no gt pt<|s_no gt pt<|V' (Zaj lk lkb) pt<|Zas<|ZaI<|?_
   exact cT' (()) (by trivial) (by (try dsimp only);(try simp only [sm',Nat.reduceAdd]);exact ALe.same (by repeat (first | exact wk0 | refine wka ?_ | refine wk1 rfl ?_ | refine wk1 (by first | rfl | exact bvx (by first | (simp_all [wiB];done) | (rw [Bool.eq_iff_iff];simp_all [wiB];omega) | (rw [Bool.eq_iff_iff];simp_all [wiB];done))) ?_)) rfl)
  refine s_do gt<|mv' lk pt<|s_do gt<|Zae mp (ZcA) pt<|s_do gt<|V' (Zav lk) pt<|V' (Zah lk lk) pt<|Zas<|ZaI<|?_
  exact cT' (()) (by trivial) (by (try dsimp only);(try simp only [sm',Nat.reduceAdd]);exact ALe.same (by repeat (first | exact wk0 | refine wka ?_ | refine wk1 rfl ?_ | refine wk1 (by first | rfl | exact bvx (by first | (simp_all [wiB];done) | (rw [Bool.eq_iff_iff];simp_all [wiB];omega) | (rw [Bool.eq_iff_iff];simp_all [wiB];done))) ?_)) rfl)
 rintro u_ hq2
 try simp only [sm',Nat.reduceAdd]
 refine cd' lk (fun hc1=>?_) (fun hc1=>?_)
 ·have hv:=ZmI (y:=y) (m:=m) (kind:=k) (wk:=wk) (n:=n) (k:=3) (by unfold Zct;rw [if_pos hc1]) (by omega)
  refine wr'<|V' (ZaB ZnF) pt<|E' (Zal lk (cvl lk rfl) (hga hn rfl) rfl (nb' rfl) rfl Zb6 (hs1 hn)) ptn<|mv' lki pt<|sn'<|Zab<|Zak<|Zag (rsn (rm1 (rr_c gt (hga hn rfl) (ld1 Zbz rfl)) (rm1 (rr_t gt) rm0)))<|rT'<|?_
  rw [hv]
 have hym:(1≤y∧y≤9999)∧(1≤m∧m≤12):=by omega
 refine Zaf<|Zai<|Zam<|wr'<|V' (Zaa lk) pt<|V' (Zac lk (hga hn rfl) gt0) pt<|Zae mp (ZcA) pt<|V' (Zav lk) pt<|sn'<|?_
 refine Zaw lk (fun hc2=>?_) (fun hc2=>?_)
 ·have hk:¬(1≤k∧k≤4):=by have h9:=hc2;simp [wiB] at h9;omega
  have hv:=ZmI (y:=y) (m:=m) (kind:=k) (wk:=wk) (n:=n) (k:=7) (by unfold Zct;rw [if_neg hc1,if_pos hk]) (by omega)
  refine wr'<|V' (ZaB ZnE) pt<|E' (Zal lk (cvl lk rfl) (hga hn rfl) rfl (nb' rfl) rfl Zb6 (hs1 hn)) ptn<|mv' lki pt<|sn'<|Zab<|Zak<|Zag (rsn (rm1 (rr_c gt (hga hn rfl) (ld1 Zbz rfl)) (rm1 (rr_t gt) rm0)))<|rT'<|?_
  rw [hv]
 have hk:1≤k∧k≤4:=by have h9:=hc2;simp [wiB] at h9;omega
 refine Zaf<|Zai<|Zam<|?_
 refine Zfq (ι:=Unit) (fun (u_:Unit)=>[(38,bv (decide (¬(0≤wk∧wk≤6)∨k=1∧wk≠0)))]++rn' 25 13) (fun (u_:Unit)=>[]) (fun (u_:Unit)=>True) ?_ ?_
 ·try simp only [sm',Nat.reduceAdd]
  refine Zar<|V' (Zaa lk) pt<|V' (Zac lk (hga hn rfl) gt1) pt<|Zae mp (ZcA) pt<|V' (Zav lk) pt<|mv' lk pt<|?_
  refine ZaL (t:=29) gt pt pt (fun hg29=>?_) (fun hg29=>?_)
  ·refine s_no gt pt<|s_no gt pt<|s_no gt pt<|s_no gt pt<|s_nu gt pt<|s_nu gt pt<|s_nu gt pt<|s_no gt pt<|V' (Zaj lk lkb) pt<|Zas<|ZaI<|?_
   exact cT' (()) (by trivial) (by (try dsimp only);(try simp only [sm',Nat.reduceAdd]);exact ALe.same (by repeat (first | exact wk0 | refine wka ?_ | refine wk1 rfl ?_ | refine wk1 (by first | rfl | exact bvx (by first | (simp_all [wiB];done) | (rw [Bool.eq_iff_iff];simp_all [wiB];omega) | (rw [Bool.eq_iff_iff];simp_all [wiB];done))) ?_)) rfl)
  refine s_do gt<|V' (Zaa lk) pt<|s_do gt<|V' (Zac lk (hga hn rfl) gt0) pt<|s_do gt<|V' (ZaX lk lki) pt<|s_do gt<|mv' lk pt<|?_
  refine sp' (t:=33) gt pt pt (fun hg33=>?_) (fun hg33=>?_)
  ·refine s_do gt<|V' (Zaa lk) pt<|s_do gt<|V' (Zac lk (hga hn rfl) gt1) pt<|s_do gt<|V' (Za6 lk lki) pt<|s_do gt<|V' (Zaj lk lk) pt<|V' (Zah lk lk) pt<|Zas<|ZaI<|?_
   exact cT' (()) (by trivial) (by (try dsimp only);(try simp only [sm',Nat.reduceAdd]);exact ALe.same (by repeat (first | exact wk0 | refine wka ?_ | refine wk1 rfl ?_ | refine wk1 (by first | rfl | exact bvx (by first | (simp_all [wiB];done) | (rw [Bool.eq_iff_iff];simp_all [wiB];omega) | (rw [Bool.eq_iff_iff];simp_all [wiB];done))) ?_)) rfl)
  refine s_no gt pt<|s_no gt pt<|s_no gt pt<|s_do gt<|V' (Zah lk lkb) pt<|V' (Zah lk lk) pt<|Zas<|ZaI<|?_
  exact cT' (()) (by trivial) (by (try dsimp only);(try simp only [sm',Nat.reduceAdd]);exact ALe.same (by repeat (first | exact wk0 | refine wka ?_ | refine wk1 rfl ?_ | refine wk1 (by first | rfl | exact bvx (by first | (simp_all [wiB];done) | (rw [Bool.eq_iff_iff];simp_all [wiB];omega) | (rw [Bool.eq_iff_iff];simp_all [wiB];done))) ?_)) rfl)
 rintro u_ hq8
 try simp only [sm',Nat.reduceAdd]
 refine cd' lk (fun hc3=>?_) (fun hc3=>?_)
 ·have hv:=ZmI (y:=y) (m:=m) (kind:=k) (wk:=wk) (n:=n) (k:=3) (by unfold Zct;rw [if_neg hc1,if_neg (by omega),if_pos hc3]) (by omega)
  refine wr'<|V' (ZaB ZnD) pt<|E' (Zal lk (cvl lk rfl) (hga hn rfl) rfl (nb' rfl) rfl Zb6 (hs1 hn)) ptn<|mv' lki pt<|sn'<|Zab<|Zak<|Zag (rsn (rm1 (rr_c gt (hga hn rfl) (ld1 Zbz rfl)) (rm1 (rr_t gt) rm0)))<|rT'<|?_
  rw [hv]
 refine Zaf<|Zai<|wr'<|mv' lk pt<|mv' lk pt<|?_
 refine Zae mp (Zix (by omega)) pt ?_
 refine mv' lk pt<|sn'<|Zam<|?_
 refine Zfq (ι:=Unit) (fun (u_:Unit)=>[(62,bv (decide (k=2∧n≠0∨k≠2∧¬(1≤n∧n≤mlen y m))))]++rn' 43 19) (fun (u_:Unit)=>[]) (fun (u_:Unit)=>True) ?_ ?_
 ·try simp only [sm',Nat.reduceAdd]
  refine Zar<|V' (Zaa lk) pt<|V' (Zac lk (hga hn rfl) gt0) pt<|V' (ZaX lk lki) pt<|mv' lk pt<|?_
  refine sp' (t:=46) gt pt pt (fun hg46=>?_) (fun hg46=>?_)
  ·refine s_do gt<|V' (Zaa lk) pt<|s_do gt<|V' (Zac lk (hga hn rfl) gt2) pt<|s_do gt<|V' (Za6 lk lki) pt<|V' (Zaj lk lk) pt<|mv' lk pt<|?_
   refine sp' (t:=51) gt pt pt (fun hg51=>?_) (fun hg51=>?_)
   ·refine s_no gt pt<|s_no gt pt<|s_no gt pt<|s_no gt pt<|s_nu gt pt<|s_nu gt pt<|s_nu gt pt<|s_nu gt pt<|s_nu gt pt<|s_no gt pt<|V' (Zaj lk lkb) pt<|Zas<|ZaI<|?_
    exact cT' (()) (by trivial) (by (try dsimp only);(try simp only [sm',Nat.reduceAdd]);exact ALe.same (by repeat (first | exact wk0 | refine wka ?_ | refine wk1 rfl ?_ | refine wk1 (by first | rfl | exact bvx (by first | (simp_all [wiB];done) | (rw [Bool.eq_iff_iff];simp_all [wiB];omega) | (rw [Bool.eq_iff_iff];simp_all [wiB];done))) ?_)) rfl)
   refine s_do gt<|V' (Zaa lk) pt<|s_do gt<|V' (Zac lk (hga hn rfl) gt0) pt<|s_do gt<|V' (Za6 lk lki) pt<|s_do gt<|mv' lk pt<|?_
   refine sp' (t:=55) gt pt pt (fun hg55=>?_) (fun hg55=>?_)
   ·refine s_do gt<|V' (Zaa lk) pt<|s_do gt<|V' (Zac lk (hga hn rfl) gt2) pt<|s_do gt<|mv' lk pt<|s_do gt<|Zae mp (ZcA) pt<|s_do gt<|V' (Zav lk) pt<|s_do gt<|V' (Zaj lk lk) pt<|V' (Zah lk lk) pt<|Zas<|?_
    refine ZaI ?_
    exact cT' (()) (by trivial) (by (try dsimp only);(try simp only [sm',Nat.reduceAdd]);exact ALe.same (by repeat (first | exact wk0 | refine wka ?_ | refine wk1 rfl ?_ | refine wk1 (by first | rfl | exact bvx (by first | (simp_all [wiB];done) | (rw [Bool.eq_iff_iff];simp_all [wiB];omega) | (rw [Bool.eq_iff_iff];simp_all [wiB];done))) ?_)) rfl)
   refine s_no gt pt<|s_no gt pt<|s_no gt pt<|s_no gt pt<|s_no gt pt<|s_do gt<|V' (Zah lk lkb) pt<|V' (Zah lk lk) pt<|Zas<|ZaI<|?_
   exact cT' (()) (by trivial) (by (try dsimp only);(try simp only [sm',Nat.reduceAdd]);exact ALe.same (by repeat (first | exact wk0 | refine wka ?_ | refine wk1 rfl ?_ | refine wk1 (by first | rfl | exact bvx (by first | (simp_all [wiB];done) | (rw [Bool.eq_iff_iff];simp_all [wiB];omega) | (rw [Bool.eq_iff_iff];simp_all [wiB];done))) ?_)) rfl)
  refine s_no gt pt<|s_no gt pt<|s_no gt pt<|V' (Zah lk lkb) pt<|mv' lk pt<|s_do gt<|V' (Zaa lk) pt<|s_do gt<|V' (Zac lk (hga hn rfl) gt0) pt<|s_do gt<|V' (Za6 lk lki) pt<|s_do gt<|mv' lk pt<|?_
  refine sp' (t:=55) gt pt pt (fun hg55=>?_) (fun hg55=>?_)
  ·refine s_do gt<|V' (Zaa lk) pt<|s_do gt<|V' (Zac lk (hga hn rfl) gt2) pt<|s_do gt<|mv' lk pt<|s_do gt<|Zae mp (ZcA) pt<|s_do gt<|V' (Zav lk) pt<|s_do gt<|V' (Zaj lk lk) pt<|V' (Zah lk lk) pt<|Zas<|?_
   refine ZaI ?_
   exact cT' (()) (by trivial) (by (try dsimp only);(try simp only [sm',Nat.reduceAdd]);exact ALe.same (by repeat (first | exact wk0 | refine wka ?_ | refine wk1 rfl ?_ | refine wk1 (by first | rfl | exact bvx (by first | (simp_all [wiB];done) | (rw [Bool.eq_iff_iff];simp_all [wiB];omega) | (rw [Bool.eq_iff_iff];simp_all [wiB];done))) ?_)) rfl)
  refine s_no gt pt<|s_no gt pt<|s_no gt pt<|s_no gt pt<|s_no gt pt<|s_do gt<|V' (Zah lk lkb) pt<|V' (Zah lk lk) pt<|Zas<|ZaI<|?_
  exact cT' (()) (by trivial) (by (try dsimp only);(try simp only [sm',Nat.reduceAdd]);exact ALe.same (by repeat (first | exact wk0 | refine wka ?_ | refine wk1 rfl ?_ | refine wk1 (by first | rfl | exact bvx (by first | (simp_all [wiB];done) | (rw [Bool.eq_iff_iff];simp_all [wiB];omega) | (rw [Bool.eq_iff_iff];simp_all [wiB];done))) ?_)) rfl)
 rintro u_ hq12
 try simp only [sm',Nat.reduceAdd]
 refine cd' lk (fun hc4=>?_) (fun hc4=>?_)
 ·have hv:=ZmI (y:=y) (m:=m) (kind:=k) (wk:=wk) (n:=n) (k:=3) (by unfold Zct;rw [if_neg hc1,if_neg (by omega),if_neg hc3,if_pos hc4]) (by omega)
  refine wr'<|V' (ZaB ZnC) pt<|E' (Zal lk (cvl lk rfl) (hga hn rfl) rfl (nb' rfl) rfl Zb6 (hs1 hn)) ptn<|mv' lki pt<|sn'<|Zab<|Zak<|Zag (rsn (rm1 (rr_c gt (hga hn rfl) (ld1 Zbz rfl)) (rm1 (rr_t gt) rm0)))<|rT'<|?_
  rw [hv]
 have he:Zct y m k wk n=0:=by unfold Zct;rw [if_neg hc1,if_neg (by omega),if_neg hc3,if_neg hc4]
 have hw:0≤wk∧wk≤6:=by omega
 have hsb:=onSt_bd (y:=y) (m:=m) (k:=k) (n:=n) ⟨hym.1.1,by omega⟩ hym.2 (by omega)
 have hnb:=Zld (y:=y) (m:=m) ⟨hym.1.1,by omega⟩ hym.2
 have hml:=ZdL y m
 have hn':0≤n∧n≤31:=by omega
 refine Zaf<|Zai<|wr'<|mv' lk pt<|mv' lk pt<|V' (ZaB (ZnB (cvl lk rfl) rfl (cvl lk rfl) rfl (cvl lki rfl) rfl)) pt<|?_
 refine Zae mp (ZeI (by omega) (by omega) (by omega) (by omega) (by omega) (by omega)) pt ?_
 refine V' (ZcC lk lki (by omega) (by omega)) pt ?_
 refine mv' lk pt<|sn'<|?_
 refine Zfq (ι:=Unit) (fun (u_:Unit)=>[(9,iv (onSt y m k n))]++rn' 69 17) (fun (u_:Unit)=>[]) (fun (u_:Unit)=>True) ?_ ?_
 ·try simp only [sm',Nat.reduceAdd]
  refine wr'<|V' (Zaa lk) pt<|V' (Zac lk (hga hn rfl) gt0) pt<|sn'<|Zao<|wr'<|V' (ZaX lk lki) pt<|mv' lk pt<|sn'<|?_
  refine cd' lk (fun hc5=>?_) (fun hc5=>?_)
  ·refine Zar<|mv' lk pt<|V' (Zaa lk) pt<|V' (Zac lk (hga hn rfl) gt2) pt<|?_
   refine V' (ZaE lk lk (by omega) (by omega)) pt ?_
   refine mv' lk pt<|Zas<|ZaF<|ZaI<|?_
   exact cT' (()) (by trivial) (by (try dsimp only);(try simp only [sm',Nat.reduceAdd]);exact ALe.same (by repeat (first | exact wk0 | refine wka ?_ | refine wk1 rfl ?_ | refine wk1 (by first | rfl | exact ivx (by unfold onSt;simp_all) | exact ivx (by unfold onSt;rw [if_neg (by omega)])) ?_)) rfl)
  refine wr'<|V' (ZaX lk lki) pt<|mv' lk pt<|sn'<|?_
  refine cd' lk (fun hc6=>?_) (fun hc6=>?_)
  ·refine Zar<|mv' lk pt<|mv' lk pt<|?_
   refine V' (ZaE lk lk (by omega) (by omega)) pt ?_
   refine mv' lk pt<|Zas<|ZaF<|ZaI<|?_
   exact cT' (()) (by trivial) (by (try dsimp only);(try simp only [sm',Nat.reduceAdd]);exact ALe.same (by repeat (first | exact wk0 | refine wka ?_ | refine wk1 rfl ?_ | refine wk1 (by first | rfl | exact ivx (by unfold onSt;simp_all) | exact ivx (by unfold onSt;rw [if_neg (by omega)])) ?_)) rfl)
  refine Zar<|mv' lk pt<|V' (Zaa lk) pt<|V' (Zac lk (hga hn rfl) gt2) pt<|?_
  refine V' (ZaE lk lk (by omega) (by omega)) pt ?_
  refine mv' lk pt<|Zas<|ZaF<|ZaI<|?_
  exact cT' (()) (by trivial) (by (try dsimp only);(try simp only [sm',Nat.reduceAdd]);exact ALe.same (by repeat (first | exact wk0 | refine wka ?_ | refine wk1 rfl ?_ | refine wk1 (by first | rfl | exact ivx (by unfold onSt;simp_all) | exact ivx (by unfold onSt;rw [if_neg (by omega)])) ?_)) rfl)
 rintro u_ hq19
 try simp only [sm',Nat.reduceAdd]
 refine Zam<|wr'<|mv' lki pt<|sn'<|Zao<|?_
 refine ZhD (ι:=Nat) (fun (j:Nat)=>[(9,iv (onGo k wk (onSt y m k n) j)),(10,iv (j:Int))]++rn' 86 23) (fun (j:Nat)=>[]) (fun (j:Nat)=>(j:Int)≤Zho k wk (onSt y m k n)) (fun (j:Nat)=>7-j) (0) (by exact (Zh6 _ _ _).1) (by try simp only [sm',Nat.reduceAdd];exact ALe.same (by repeat (first | exact wk0 | refine wka ?_ | refine wk1 rfl ?_ | refine wk1 (by first | rfl | exact ivx (by unfold onGo;simp)) ?_)) rfl) ?_
 rintro j hi1
 try simp only [sm',Nat.reduceAdd]
 have hgb:=onGo_bd hi1
 have hfb:=Zh6 k wk (onSt y m k n)
 refine Zam ?_
 refine Zfq (ι:=Unit) (fun (u_:Unit)=>[(99,bv (decide (j<7∧1<k∧wd (onGo k wk (onSt y m k n) j)≠wk)))]++rn' 86 13) (fun (u_:Unit)=>[]) (fun (u_:Unit)=>True) ?_ ?_
 ·try simp only [sm',Nat.reduceAdd]
  refine ZbJ<|D' (v_mv lk) pt<|D' (Zbu lk lki) pt<|D' (v_mv lk) pt<|?_
  refine dq' (t:=88) gt pt pt (fun hg88=>?_) (fun hg88=>?_)
  ·refine d_do gt<|D' (Zaa lk) pt<|d_do gt<|D' (Zac lk (hga hn rfl) gt0) pt<|d_do gt<|D' (ZbN lk lki) pt<|D' (Zaj lk lk) pt<|D' (v_mv lk) pt<|?_
   refine dq' (t:=93) gt pt pt (fun hg93=>?_) (fun hg93=>?_)
   ·refine d_do gt<|D' (v_mv lk) pt<|d_do gt<|?_
    refine Za9 mp (fun hE hX=>Zqz) pt ?_
    refine d_do gt<|D' (Zaa lk) pt<|d_do gt<|D' (Zac lk (hga hn rfl) gt1) pt<|d_do gt<|D' (Za6 lk lk) pt<|D' (Zaj lk lk) pt<|Zbt<|?_
    refine Zb4 ?_
    refine Zas<|ZaI<|?_
    exact cT' (()) (by trivial) (by (try dsimp only);(try simp only [sm',Nat.reduceAdd]);exact ALe.same (by repeat (first | exact wk0 | refine wka ?_ | refine wk1 rfl ?_ | refine wk1 (by first | rfl | exact bvx (by first | (simp_all [wiB];done) | (rw [Bool.eq_iff_iff];simp_all [wiB];omega) | (rw [Bool.eq_iff_iff];simp_all [wiB];done))) ?_)) rfl)
   refine d_no gt pt<|d_no gt pt<|d_no gt pt<|d_no gt pt<|d_no gt pt<|D' (Zah lk lkb) pt<|Zbt<|?_
   refine Zb4 ?_
   refine Zas<|ZaI<|?_
   exact cT' (()) (by trivial) (by (try dsimp only);(try simp only [sm',Nat.reduceAdd]);exact ALe.same (by repeat (first | exact wk0 | refine wka ?_ | refine wk1 rfl ?_ | refine wk1 (by first | rfl | exact bvx (by first | (simp_all [wiB];done) | (rw [Bool.eq_iff_iff];simp_all [wiB];omega) | (rw [Bool.eq_iff_iff];simp_all [wiB];done))) ?_)) rfl)
  refine d_no gt pt<|d_no gt pt<|d_no gt pt<|D' (Zah lk lkb) pt<|D' (v_mv lk) pt<|d_no gt pt<|d_no gt pt<|d_no gt pt<|d_no gt pt<|d_no gt pt<|D' (Zah lk lkb) pt<|Zbt<|?_
  refine Zb4 ?_
  refine Zas<|ZaI<|?_
  exact cT' (()) (by trivial) (by (try dsimp only);(try simp only [sm',Nat.reduceAdd]);exact ALe.same (by repeat (first | exact wk0 | refine wka ?_ | refine wk1 rfl ?_ | refine wk1 (by first | rfl | exact bvx (by first | (simp_all [wiB];done) | (rw [Bool.eq_iff_iff];simp_all [wiB];omega) | (rw [Bool.eq_iff_iff];simp_all [wiB];done))) ?_)) rfl)
 rintro u_ hq21
 try simp only [sm',Nat.reduceAdd]
 refine cd' lk (fun hc7=>?_) (fun hc7=>?_)
 ·have hgo:=onGo_go hw hi1 hc7
  refine Zaf<|Zai<|Zam<|Zao<|wr'<|V' (Zaa lk) pt<|V' (Zac lk (hga hn rfl) gt0) pt<|V' (ZaX lk lki) pt<|sn'<|?_
  refine cd' lk (fun hc8=>?_) (fun hc8=>?_)
  ·refine Zar<|mv' lk pt<|?_
   refine V' (ZaE lk lki (by omega) (by omega)) pt ?_
   refine mv' lk pt<|Zas<|ZaF<|Zai<|Zar<|mv' lk pt<|?_
   refine V' (ZaE lk lki (by omega) (by omega)) pt ?_
   refine mv' lk pt<|Zas<|ZaI<|?_
   refine lU' (j+1) (by (try dsimp only);omega) (by (try dsimp only);(try simp only [sm',Nat.reduceAdd]);exact ALe.same (by repeat (first | exact wk0 | refine wka ?_ | refine wk1 rfl ?_ | refine wk1 (by first | rfl | exact ivx (by unfold onGo;simp_all;omega) | exact ivx (by omega)) ?_)) rfl)
  refine Zar<|mv' lk pt<|?_
  refine V' (ZcC lk lki (by omega) (by omega)) pt ?_
  refine mv' lk pt<|Zas<|ZaF<|Zai<|Zar<|mv' lk pt<|?_
  refine V' (ZaE lk lki (by omega) (by omega)) pt ?_
  refine mv' lk pt<|Zas<|ZaI<|?_
  refine lU' (j+1) (by (try dsimp only);omega) (by (try dsimp only);(try simp only [sm',Nat.reduceAdd]);exact ALe.same (by repeat (first | exact wk0 | refine wka ?_ | refine wk1 rfl ?_ | refine wk1 (by first | rfl | exact ivx (by unfold onGo;simp_all;omega) | exact ivx (by omega)) ?_)) rfl)
 have hd:=onGo_end hk hw hi1 hc7
 rw [←hd]
 refine Za0<|ZaO<|ZaO<|Zbp<|Zai<|Zam<|wr'<|mv' lk pt<|Zae mp0 (rfirst_a) pt<|Zae mp0 (rlast_a) pt<|Zae mp (ZcA) pt<|V' (Zav lk) pt<|Zas<|?_
 refine Zai ?_
 refine Zaw lk (fun hc9=>?_) (fun hc9=>?_)
 ·have hr:¬(-719162≤ZeB y m k wk n∧ZeB y m k wk n≤2932896):=by have h9:=hc9;simp [wiB] at h9;omega
  refine wr'<|V' (ZaB ZlW) pt<|E' (Zal lk (cvl lk rfl) (hga hn rfl) rfl (nb' rfl) rfl Zb6 (hs1 hn)) ptn<|mv' lki pt<|sn'<|Zab<|Zak<|Zag (rsn (rm1 (rr_c gt (hga hn rfl) (ld1 Zbz rfl)) (rm1 (rr_t gt) rm0)))<|rT'<|?_
  rw [Zj4 he rfl,if_neg hr]
 have hr : -719162≤ZeB y m k wk n∧ZeB y m k wk n≤2932896:=by have h9:=hc9;simp [wiB] at h9;omega
 refine Zaf<|Zai<|wr'<|mv' lk pt<|Zae mp (ZsF hr.1 hr.2) pt<|E' (Zal lk (cvl lk rfl) (hga hn rfl) rfl (nb' rfl) rfl Zb6 (hs1 hn)) ptn<|mv' lki pt<|sn'<|Zab<|Zag (rsn (rm1 (rr_c gt (hga hn rfl) (ld1 Zbz rfl)) (rm1 (rr_t gt) rm0)))<|rT'<|?_
 rw [Zj4 he rfl,if_pos hr]
end Go.Proofs.YtgjchdhdopgkkaaGreatDoor
end
section
namespace Go.Proofs.YtgjchdhdopgkkaaGreatDoor
open Go.Ab Go.RowKit
def c82:AC:=(Sr [Mb 6 false] (Sr [Mv 7 0,Mv 8 1,Bn 9 .geq 7 8,Mv 10 9,Ot 11 10 (mt 0),Ot 12 10 (mt 2),Ot 13 10 (.bin .leq (.tmp 11) (.tmp 12)),Oo 14 (.pick (.tmp 10) (.tmp 13) (.const (.bool false))),Mv 6 14] .ret))
theorem k82:ZaH Tryz.prog 82=some ⟨c82,[(.tmp 6)],15⟩:=by kernel_rfl
def c84:AC:=(Sr [Mb 4 false] (Sr [Mv 5 0,Cl 6 82 [(.tmp 5),(Ci 1),(Ci 3)],Mv 7 6,Ot 8 7 (mt 1),Ot 9 7 (mt 8),Of 10 9 (mt 0),Of 11 9 (.bin .neq (.tmp 10) (Ci 1)),Ot 12 7 (.pick (.tmp 9) (.const (.bool true)) (.tmp 11)),Oo 13 (.pick (.tmp 7) (.tmp 12) (.const (.bool false))),Mv 4 13] .ret))
theorem k84:ZaH Tryz.prog 84=some ⟨c84,[(.tmp 4)],14⟩:=by kernel_rfl
def c118:AC:=(Sr [Mb 2 false] (Sr [Mv 3 0,Cl 4 116 [(.tmp 3)],Mv 5 4,Of 6 5 (mt 0),Of 7 5 (.call (.func 119) [(.tmp 6)]),Oo 8 (.pick (.tmp 5) (.const (.bool true)) (.tmp 7)),Mv 9 8,Of 10 9 (mt 0),Of 11 9 (.call (.func 120) [(.const (.string ⟨#[95,45,47,43]⟩)),(.tmp 10)]),Of 12 9 (.bin .geq (.tmp 11) (Ci 0)),Oo 13 (.pick (.tmp 9) (.const (.bool true)) (.tmp 12)),Mv 2 13] .ret))
theorem k118:ZaH Tryz.prog 118=some ⟨c118,[(.tmp 2)],14⟩:=by kernel_rfl
def c80:AC:=(Sr [Mb 2 false] (Sr [Mv 3 0,Oo 4 (.bin .neq (.tmp 3) (.const (.string ⟨#[]⟩))),Mv 5 4,Ot 6 5 (mt 0),Ot 7 5 (.len true (.tmp 6)),Ot 8 5 (.bin .leq (.tmp 7) (Ci 24)),Oo 9 (.pick (.tmp 5) (.tmp 8) (.const (.bool false))),Mv 10 9,Ot 11 10 (mt 0),Ot 12 10 (.ix (.tmp 11) (Ci 0)),Ot 13 10 (.call (.func 116) [(.tmp 12)]),Oo 14 (.pick (.tmp 10) (.tmp 13) (.const (.bool false))),Mv 15 14,Ot 16 15 (mt 0),Ot 17 15 (.call (.func 117) [(.tmp 16),(.func 118)]),Oo 18 (.pick (.tmp 15) (.tmp 17) (.const (.bool false))),Mv 2 18] .ret))
theorem k80:ZaH Tryz.prog 80=some ⟨c80,[(.tmp 2)],19⟩:=by kernel_rfl
def c81:AC:=(Sr [Mb 2 false] (Sr [Mv 3 0,Oo 4 (.len true (.tmp 3)),Bc 5 .leq 4 24,Mv 6 5,Ot 7 6 (mt 0),Ot 8 6 (.call (.func 117) [(.tmp 7),(.func 116)]),Oo 9 (.pick (.tmp 6) (.tmp 8) (.const (.bool false))),Mv 2 9] .ret))
theorem k81:ZaH Tryz.prog 81=some ⟨c81,[(.tmp 2)],10⟩:=by kernel_rfl
def c126:AC:=(Sr [Mb 2 false] (.seq (Sr [Mv 6 0,Oo 7 (.bin .eql (.tmp 6) (.const (.string ⟨#[]⟩))),Mv 8 7,Of 9 8 (mt 0),Of 10 8 (.len true (.tmp 9)),Of 11 8 (.bin .gtr (.tmp 10) (Ci 24)),Oo 12 (.pick (.tmp 8) (.const (.bool true)) (.tmp 11))] (Cd 12 (Sr [Mb 2 false] .ret) .skip)) (Sr [Mv 14 0,Oo 15 (.call (.func 158) [(.tmp 14),(.const (.string ⟨#[47]⟩))]),Mv 13 15,Ex 16 13 0,Ex 17 13 1,Ex 18 13 2,Mv 3 16,Mv 4 17,Mv 5 18] (.seq (Sr [Mv 19 5] (Cd 19 (Sr [Mv 20 3,Oo 21 (.bin .neq (.tmp 20) (.const (.string ⟨#[]⟩))),Mv 22 21,Ot 23 22 (mt 4),Ot 24 22 (.bin .neq (.tmp 23) (.const (.string ⟨#[]⟩))),Oo 25 (.pick (.tmp 22) (.tmp 24) (.const (.bool false))),Mv 26 25,Ot 27 26 (mt 3),Ot 28 26 (.call (.func 159) [(.tmp 27)]),Oo 29 (.pick (.tmp 26) (.tmp 28) (.const (.bool false))),Mv 30 29,Ot 31 30 (mt 4),Ot 32 30 (.call (.func 159) [(.tmp 31)]),Oo 33 (.pick (.tmp 30) (.tmp 32) (.const (.bool false))),Mv 2 33] .ret) .skip)) (Sr [Mv 35 0,Oo 36 (.call (.func 158) [(.tmp 35),(.const (.string ⟨#[37,115]⟩))]),Mv 34 36,Ex 37 34 0,Ex 38 34 1,Ex 39 34 2,Mv 3 37,Mv 4 38] (Sr [Mv 40 3,Cl 41 159 [(.tmp 40)],Mv 42 41,Ot 43 42 (mt 4),Ot 44 42 (.call (.func 159) [(.tmp 43)]),Oo 45 (.pick (.tmp 42) (.tmp 44) (.const (.bool false))),Mv 2 45] .ret))))))
theorem k126:ZaH Tryz.prog 126=some ⟨c126,[(.tmp 2)],46⟩:=by kernel_rfl
theorem Zcw {n a b:Int}{h:AH}:Ac 82 [iv n,iv a,iv b] h (bv (wi n a b)):=by
 refine tI' k82 fun N hn hlt hlA hbd=>?_
 simp only [tb'] at hbd ⊢
 refine wr'<|mv' lkb pt<|sn'<|wr'<|mv' lk pt<|mv' lk pt<|V' (Zie lk lk) pt<|mv' lk pt<|?_
 refine sp' (t:=10) gt pt pt (fun hg10=>?_) (fun hg10=>?_)
 ·refine s_do gt<|mv' lk pt<|s_do gt<|mv' lk pt<|s_do gt<|V' (ZeT lk lk) pt<|V' (Zaj lk lk) pt<|mv' lk pt<|sn'<|Zab<|Zag rz<|rT'<|?_
  refine bvx ?_;unfold wi;rw [Bool.eq_iff_iff];simp;omega
 refine s_no gt pt<|s_no gt pt<|s_no gt pt<|V' (Zah lk lkb) pt<|mv' lk pt<|sn'<|Zab<|Zag rz<|rT'<|?_
 refine bvx ?_;unfold wi;rw [Bool.eq_iff_iff];simp;omega
def clkB (n:Int) (wall:Bool):Bool:=wi n 1 3&&(wall||decide (n≠1))
theorem ZiZ {n:Int}{b:Bool}{h:AH}:Ac 84 [iv n,bv b] h (bv (clkB n b)):=by
 refine tI' k84 fun N hn hlt hlA hbd=>?_
 simp only [tb'] at hbd ⊢
 refine wr'<|mv' lkb pt<|sn'<|wr'<|mv' lk pt<|Zae mp (Zcw) pt<|mv' lk pt<|?_
 refine ZaL (t:=7) gt pt pt (fun hg7=>?_) (fun hg7=>?_)
 ·refine s_do gt<|mv' lk pt<|s_do gt<|mv' lk pt<|?_
  refine ZaL (t:=9) gt pt pt (fun hg9=>?_) (fun hg9=>?_)
  ·refine s_no gt pt<|s_no gt pt<|s_do gt<|V' (Zaj lk lkb) pt<|V' (Zaj lk lk) pt<|mv' lk pt<|sn'<|Zab<|Zag rz<|rT'<|?_
   refine bvx ?_;unfold clkB;simp_all
  refine s_do gt<|mv' lk pt<|s_do gt<|V' (Za6 lk lki) pt<|s_do gt<|V' (Zah lk lk) pt<|V' (Zaj lk lk) pt<|mv' lk pt<|sn'<|Zab<|Zag rz<|rT'<|?_
  refine bvx ?_;unfold clkB;simp_all
 refine s_no gt pt<|s_no gt pt<|s_nu gt pt<|s_nu gt pt<|s_no gt pt<|V' (Zah lk lkb) pt<|mv' lk pt<|sn'<|Zab<|Zag rz<|rT'<|?_
 refine bvx ?_;unfold clkB;simp_all
def ZmP (n:Int):Bool:=letB n||digB n||decide (0≤Lib.indexByte [95,45,47,43] n.toNat.toUInt8)
theorem indexN_a {n:Int}{h:AH}:Ac 120 [sv (bA [95,45,47,43]),uv n] h (iv (Lib.indexByte [95,45,47,43] n.toNat.toUInt8)):=Zoh
theorem name1_a {n:Int}{h:AH}:Ac 118 [uv n] h (bv (ZmP n)):=by
 refine tI' k118 fun N hn hlt hlA hbd=>?_
 simp only [tb'] at hbd ⊢
 refine wr'<|mv' lkb pt<|sn'<|wr'<|mv' lk pt<|Zae mp (Zh8) pt<|mv' lk pt<|?_
 refine ZaL (t:=5) gt pt pt (fun hg5=>?_) (fun hg5=>?_)
 ·refine s_no gt pt<|s_no gt pt<|V' (Zaj lk lkb) pt<|mv' lk pt<|s_no gt pt<|s_no gt pt<|s_no gt pt<|V' (Zaj lk lkb) pt<|mv' lk pt<|sn'<|Zab<|Zag rz<|rT'<|?_
  refine bvx ?_;unfold ZmP;rw [Bool.eq_iff_iff];simp_all
 refine s_do gt<|mv' lk pt<|s_do gt<|Zae mp (Zlw) pt<|V' (Zah lk lk) pt<|mv' lk pt<|?_
 refine ZaL (t:=9) gt pt pt (fun hg9=>?_) (fun hg9=>?_)
 ·refine s_no gt pt<|s_no gt pt<|s_no gt pt<|V' (Zaj lk lkb) pt<|mv' lk pt<|sn'<|Zab<|Zag rz<|rT'<|?_
  refine bvx ?_;unfold ZmP;rw [Bool.eq_iff_iff];simp_all
 refine s_do gt<|mv' lk pt<|s_do gt<|Zae mp (indexN_a) pt<|s_do gt<|V' (Zie lk lki) pt<|V' (Zah lk lk) pt<|mv' lk pt<|sn'<|Zab<|Zag rz<|rT'<|?_
 refine bvx ?_;unfold ZmP;rw [Bool.eq_iff_iff];simp_all
def ZbL (s:ByteArray):Bool:=decide (s.size≠0)&&decide (s.size≤24)&&letB (Zaz s 0).toNat&&allB ZmP s
theorem ZgO {s:ByteArray}{h:AH}(hs:s.size≤maxLen):Ac 80 [sv s] h (bv (ZbL s)):=by
 have hm:s.size≤9223372036854775807:=by simpa [maxLen] using hs
 have hem:=Zes (f:=s)
 refine tI' k80 fun N hn hlt hlA hbd=>?_
 simp only [tb'] at hbd ⊢
 refine wr'<|mv' lkb pt<|sn'<|wr'<|mv' lk pt<|V' (Zcp lk lks) pt<|mv' lk pt<|?_
 refine sp' (t:=5) gt pt pt (fun hg5=>?_) (fun hg5=>?_)
 ·have hne:s.size≠0:=fun e=>hg5 (hem.2 e)
  refine s_do gt<|mv' lk pt<|s_do gt<|V' (Zbi lk) pt<|s_do gt<|V' (ZeT lk lki) pt<|V' (Zaj lk lk) pt<|mv' lk pt<|?_
  refine sp' (t:=10) gt pt pt (fun hg10=>?_) (fun hg10=>?_)
  ·refine s_do gt<|mv' lk pt<|s_do gt<|?_
   refine V' (v_ix lk lki (by omega) (by omega)) pt ?_
   refine s_do gt<|Zae mp (Zh8) pt<|V' (Zaj lk lk) pt<|mv' lk pt<|?_
   refine ZaL (t:=15) gt pt pt (fun hg15=>?_) (fun hg15=>?_)
   ·refine s_do gt<|mv' lk pt<|s_do gt<|?_
    refine Zae mp (all_a (fun _ _=>name1_a) hs) pt ?_
    refine V' (Zaj lk lk) pt<|mv' lk pt<|sn'<|Zab<|Zag rz<|rT'<|?_
    refine bvx ?_;unfold ZbL;simp_all <;> (try intros) <;> omega
   refine s_no gt pt<|s_no gt pt<|V' (Zah lk lkb) pt<|mv' lk pt<|sn'<|Zab<|Zag rz<|rT'<|?_
   refine bvx ?_;unfold ZbL;simp_all <;> (try intros) <;> omega
  refine s_no gt pt<|s_no gt pt<|s_no gt pt<|V' (Zah lk lkb) pt<|mv' lk pt<|s_no gt pt<|s_no gt pt<|V' (Zah lk lkb) pt<|mv' lk pt<|sn'<|Zab<|Zag rz<|rT'<|?_
  refine bvx ?_;unfold ZbL;simp_all <;> (try intros) <;> omega
 refine s_no gt pt<|s_no gt pt<|s_no gt pt<|V' (Zah lk lkb) pt<|mv' lk pt<|s_no gt pt<|s_no gt pt<|s_no gt pt<|V' (Zah lk lkb) pt<|mv' lk pt<|s_no gt pt<|s_no gt pt<|V' (Zah lk lkb) pt<|mv' lk pt<|?_
 refine sn'<|Zab<|Zag rz<|rT'<|?_
 refine bvx ?_;unfold ZbL;simp_all <;> (try intros) <;> omega
def ZbZ (s:ByteArray):Bool:=decide (s.size≤24)&&allB letB s
theorem ZmX {s:ByteArray}{h:AH}(hs:s.size≤maxLen):Ac 81 [sv s] h (bv (ZbZ s)):=by
 have hm:s.size≤9223372036854775807:=by simpa [maxLen] using hs
 refine tI' k81 fun N hn hlt hlA hbd=>?_
 simp only [tb'] at hbd ⊢
 refine wr'<|mv' lkb pt<|sn'<|wr'<|mv' lk pt<|V' (Zbi lk) pt<|V' (ZeT lk lki) pt<|mv' lk pt<|?_
 refine sp' (t:=6) gt pt pt (fun hg6=>?_) (fun hg6=>?_)
 ·refine s_do gt<|mv' lk pt<|s_do gt<|?_
  refine Zae mp (all_a (fun _ _=>Zh8) hs) pt ?_
  refine V' (Zaj lk lk) pt<|mv' lk pt<|sn'<|Zab<|Zag rz<|rT'<|?_
  refine bvx ?_;unfold ZbZ;simp_all <;> (try intros) <;> omega
 refine s_no gt pt<|s_no gt pt<|V' (Zah lk lkb) pt<|mv' lk pt<|sn'<|Zab<|Zag rz<|rT'<|?_
 refine bvx ?_;unfold ZbZ;simp_all <;> (try intros) <;> omega
abbrev cutL (s:ByteArray) (p:Bs):Bs×Bs×Bool:=Lib.cut (aB s) p
def Zb0 (s:ByteArray):Bool:=if s.size=0∨24<s.size then false else
 if (cutL s [47]).2.2=true then decide (bA (cutL s [47]).1≠⟨#[]⟩)&&decide (bA (cutL s [47]).2.1≠⟨#[]⟩)&&allB ZbS (bA (cutL s [47]).1)&&allB ZbS (bA (cutL s [47]).2.1)
 else allB ZbS (bA (cutL s [37,115]).1)&&allB ZbS (bA (cutL s [37,115]).2.1)
theorem Zic {s:ByteArray}{p:Bs}:(cutL s p).1.length≤s.size∧(cutL s p).2.1.length≤s.size:=by
 unfold cutL Lib.cut
 split
 ·simp only [List.length_take,List.length_drop,Zbr];omega
 simp [Zbr]
theorem cut1_a {s:ByteArray}{h:AH}(hz:s.size≤24):Ac 158 [sv s,sv (bA [47])] h (.tup [sv (bA (cutL s [47]).1),sv (bA (cutL s [47]).2.1),bv (cutL s [47]).2.2]):=cut_a (by omega)
theorem cut2_a {s:ByteArray}{h:AH}(hz:s.size≤24):Ac 158 [sv s,sv (bA [37,115])] h (.tup [sv (bA (cutL s [37,115]).1),sv (bA (cutL s [37,115]).2.1),bv (cutL s [37,115]).2.2]):=cut_a (by omega)
theorem Zh9 {s:ByteArray}{h:AH}(hs:s.size≤maxLen):Ac 126 [sv s] h (bv (Zb0 s)):=by
 have hm:s.size≤9223372036854775807:=by simpa [maxLen] using hs
 have hem:=Zes (f:=s)
 have k1:=Zic (s:=s) (p:=[47])
 have k2:=Zic (s:=s) (p:=[37,115])
 refine tI' k126 fun N hn hlt hlA hbd=>?_
 simp only [tb'] at hbd ⊢
 refine wr'<|mv' lkb pt<|sn'<|Zam<|wr'<|mv' lk pt<|V' (Zcj lk lks) pt<|mv' lk pt<|?_
 refine sp' (t:=8) gt pt pt (fun hg8=>?_) (fun hg8=>?_)
 ·have hB:Zb0 s=false:=if_pos (.inl (hem.1 hg8))
  refine s_no gt pt<|s_no gt pt<|s_no gt pt<|V' (Zaj lk lkb) pt<|sn'<|ZaG lk<|wr'<|mv' lkb pt<|sn'<|Zab<|Zak<|?_
  refine Zag rz<|rT'<|?_
  rw [hB]
 refine s_do gt<|mv' lk pt<|s_do gt<|V' (Zbi lk) pt<|s_do gt<|V' (ZbN lk lki) pt<|V' (Zah lk lk) pt<|sn'<|?_
 refine cd' lk (fun hc1=>?_) (fun hc1=>?_)
 ·have hB:Zb0 s=false:=if_pos (.inr (by omega))
  refine wr'<|mv' lkb pt<|sn'<|Zab<|Zak<|Zag rz<|rT'<|?_
  rw [hB]
 have hB:Zb0 s=if (cutL s [47]).2.2=true then decide (bA (cutL s [47]).1≠⟨#[]⟩)&&decide (bA (cutL s [47]).2.1≠⟨#[]⟩)&&allB ZbS (bA (cutL s [47]).1)&&allB ZbS (bA (cutL s [47]).2.1) else allB ZbS (bA (cutL s [37,115]).1)&&allB ZbS (bA (cutL s [37,115]).2.1):=if_neg (by have:s.size≠0:=fun e=>hg8 (hem.2 e);omega)
 have hz:s.size≤24:=by omega
 refine Zaf<|Zai<|wr'<|mv' lk pt<|Zae mp (cut1_a hz) pt<|mv' lk pt<|V' (Zbb lk gt) pt<|V' (Zbb lk gt) pt<|V' (Zbb lk gt) pt<|mv' lk pt<|mv' lk pt<|mv' lk pt<|Zas<|?_
 refine Zai<|Zam<|wr'<|mv' lk pt<|sn'<|?_
 refine cd' lk (fun hc2=>?_) (fun hc2=>?_)
 ·rw [if_pos hc2] at hB
  refine wr'<|mv' lk pt<|V' (Zcp lk lks) pt<|mv' lk pt<|?_
  refine sp' (t:=22) gt pt pt (fun hg22=>?_) (fun hg22=>?_)
  ·refine s_do gt<|mv' lk pt<|s_do gt<|V' (Zcp lk lks) pt<|V' (Zaj lk lk) pt<|mv' lk pt<|?_
   refine sp' (t:=26) gt pt pt (fun hg26=>?_) (fun hg26=>?_)
   ·refine s_do gt<|mv' lk pt<|s_do gt<|?_
    refine Zae mp (Zk7 (by rw [ZaQ];unfold maxLen;omega)) pt ?_
    refine V' (Zaj lk lk) pt<|mv' lk pt<|?_
    refine ZaL (t:=30) gt pt pt (fun hg30=>?_) (fun hg30=>?_)
    ·refine s_do gt<|mv' lk pt<|s_do gt<|?_
     refine Zae mp (Zk7 (by rw [ZaQ];unfold maxLen;omega)) pt ?_
     refine V' (Zaj lk lk) pt<|mv' lk pt<|sn'<|Zab<|Zak<|Zag rz<|rT'<|?_
     rw [hB];refine bvx ?_;simp_all
    refine s_no gt pt<|s_no gt pt<|V' (Zah lk lkb) pt<|mv' lk pt<|sn'<|Zab<|Zak<|Zag rz<|rT'<|?_
    rw [hB];refine bvx ?_;simp_all
   refine s_no gt pt<|s_no gt pt<|V' (Zah lk lkb) pt<|mv' lk pt<|s_no gt pt<|s_no gt pt<|V' (Zah lk lkb) pt<|mv' lk pt<|sn'<|Zab<|Zak<|Zag rz<|rT'<|?_
   rw [hB];refine bvx ?_;simp_all
  refine s_no gt pt<|s_no gt pt<|V' (Zah lk lkb) pt<|mv' lk pt<|s_no gt pt<|s_no gt pt<|V' (Zah lk lkb) pt<|mv' lk pt<|s_no gt pt<|s_no gt pt<|V' (Zah lk lkb) pt<|mv' lk pt<|sn'<|?_
  refine Zab<|Zak<|Zag rz<|rT'<|?_
  rw [hB];refine bvx ?_;simp_all
 rw [if_neg (by rw [hc2];simp)] at hB
 refine Zaf<|Zai<|wr'<|mv' lk pt<|Zae mp (cut2_a hz) pt<|mv' lk pt<|V' (Zbb lk gt) pt<|V' (Zbb lk gt) pt<|V' (Zbb lk gt) pt<|mv' lk pt<|mv' lk pt<|sn'<|?_
 refine wr'<|mv' lk pt<|?_
 refine Zae mp (Zk7 (by rw [ZaQ];unfold maxLen;omega)) pt ?_
 refine mv' lk pt ?_
 refine ZaL (t:=42) gt pt pt (fun hg42=>?_) (fun hg42=>?_)
 ·refine s_do gt<|mv' lk pt<|s_do gt<|?_
  refine Zae mp (Zk7 (by rw [ZaQ];unfold maxLen;omega)) pt ?_
  refine V' (Zaj lk lk) pt<|mv' lk pt<|sn'<|Zab<|Zag rz<|rT'<|?_
  rw [hB];refine bvx ?_;simp_all
 refine s_no gt pt<|s_no gt pt<|V' (Zah lk lkb) pt<|mv' lk pt<|sn'<|Zab<|Zag rz<|rT'<|?_
 rw [hB];refine bvx ?_;simp_all
end Go.Proofs.YtgjchdhdopgkkaaGreatDoor
end
section
namespace Go.Proofs.YtgjchdhdopgkkaaGreatDoor
open Go.Ab Go.RowKit Civ
attribute [local simp] Za4 Zbj Zca Za5
section
theorem Zru {a0 a1 a2 a3 a4 a5 a6:AV}{l:List AV}:((a0::a1::a2::a3::a4::a5::a6::l).drop 4).take 3=[a4,a5,a6]:=rfl
theorem Zrw {a0 a1 a2 c0 c1 c2:AV}{l:List AV}:setCells (a0::a1::a2::l) 0 [c0,c1,c2]=c0::c1::c2::l:=rfl
theorem Zf4 {a0 a1 a2 a3 a4 a5 a6 a7 a8 a9:AV}{l:List AV}:((a0::a1::a2::a3::a4::a5::a6::a7::a8::a9::l).drop 5).take 5=[a5,a6,a7,a8,a9]:=rfl
theorem Zfi {τ:Operand→AV}:Zat τ [] [(.v (.int .i64 0)),(.v (.int .i64 0)),(.v (.int .i64 0)),(.v (.int .i64 0)),(.v (.int .i64 0))]=some [(.v (.int .i64 0)),(.v (.int .i64 0)),(.v (.int .i64 0)),(.v (.int .i64 0)),(.v (.int .i64 0))]:=rfl
theorem Zd0 {a0 b0:Int}{a1 b1:Int}{a2 b2:Int}{a3 b3:Int}{a4 b4:Int}:ZbD [.int,.int,.int,.int,.int] [iv a0,iv a1,iv a2,iv a3,iv a4] [iv b0,iv b1,iv b2,iv b3,iv b4]=some (decide (a0=b0∧a1=b1∧a2=b2∧a3=b3∧a4=b4)):=by
 simp only [ZbD,Zer,if_true,Zdc,Option.some.injEq]
 simp only [Bool.decide_and,Bool.and_true]
 try (congr 1 <;> simp)
 try rfl
theorem Zf5 {a0 a1 a2 a3 a4 a5 a6 a7:AV}{l:List AV}:((a0::a1::a2::a3::a4::a5::a6::a7::l).drop 5).take 3=[a5,a6,a7]:=rfl
theorem Zrt {a0 a1 a2 a3 a4 a5 a6 a7 a8 a9:AV}{l:List AV}:(a0::a1::a2::a3::a4::a5::a6::a7::a8::a9::l).take 10=[a0,a1,a2,a3,a4,a5,a6,a7,a8,a9]:=rfl
theorem ZoY {a0 a1 a2 a3 a4 a5 a6 a7 a8 a9 c0 c1 c2 c3 c4 c5 c6 c7 c8 c9:AV}{l:List AV}:setCells (a0::a1::a2::a3::a4::a5::a6::a7::a8::a9::l) 0 [c0,c1,c2,c3,c4,c5,c6,c7,c8,c9]=c0::c1::c2::c3::c4::c5::c6::c7::c8::c9::l:=rfl
theorem ZoW {a0 a1 a2 a3 a4 a5 a6 a7 a8 a9:AV}{l:List AV}:((a0::a1::a2::a3::a4::a5::a6::a7::a8::a9::l).drop 0).take 10=[a0,a1,a2,a3,a4,a5,a6,a7,a8,a9]:=rfl
theorem Zrs {a0 a1 a2 a3 a4 a5 a6 a7 a8 a9 a10:AV}{l:List AV}:(a0::a1::a2::a3::a4::a5::a6::a7::a8::a9::a10::l).take 11=[a0,a1,a2,a3,a4,a5,a6,a7,a8,a9,a10]:=rfl
theorem ZoX {a0 a1 a2 a3 a4 a5 a6 a7 a8 a9 a10 c0 c1 c2 c3 c4 c5 c6 c7 c8 c9 c10:AV}{l:List AV}:setCells (a0::a1::a2::a3::a4::a5::a6::a7::a8::a9::a10::l) 0 [c0,c1,c2,c3,c4,c5,c6,c7,c8,c9,c10]=c0::c1::c2::c3::c4::c5::c6::c7::c8::c9::c10::l:=rfl
theorem ZoV {a0 a1 a2 a3 a4 a5 a6 a7 a8 a9 a10:AV}{l:List AV}:((a0::a1::a2::a3::a4::a5::a6::a7::a8::a9::a10::l).drop 0).take 11=[a0,a1,a2,a3,a4,a5,a6,a7,a8,a9,a10]:=rfl
theorem Zjo {a0 a1:AV}{l:List AV}:(a0::a1::l).take 2=[a0,a1]:=rfl
theorem Zhz {a0 a1 c0 c1:AV}{l:List AV}:setCells (a0::a1::l) 0 [c0,c1]=c0::c1::l:=rfl
theorem ZkA {a0 a1:AV}{l:List AV}:((a0::a1::l).drop 0).take 2=[a0,a1]:=rfl
theorem Zrv {a0 a1 a2:AV}{l:List AV}:((a0::a1::a2::l).drop 0).take 3=[a0,a1,a2]:=rfl
end
def c43:AC:=(Sr [Oo 1 (.box 48 11 (.tmp 0)),Mc 2 0] (.seq (.block 0 (Sr [Fa 6 0 1,Ld 7 6,Cl 8 80 [(.tmp 7)],Oo 9 (.un .not (.tmp 8)),Mv 10 9,Of 11 10 (.fa 10 (.tmp 1)),Of 12 10 (.load false 1 (.tmp 11)),Of 13 10 (.call (.func 81) [(.tmp 12)]),Of 14 10 (.un .not (.tmp 13)),Oo 15 (.pick (.tmp 10) (.const (.bool true)) (.tmp 14)),Mv 5 15] (Cd 5 (Sr [Mc 2 1] .ret) (Sr [Fa 17 1 1,Ld 18 17,Bc 19 .lss 18 1900,Mv 20 19,Of 21 20 (.fa 1 (.tmp 1)),Of 22 20 (.load false 1 (.tmp 21)),Of 23 20 (.fa 2 (.tmp 1)),Of 24 20 (.load false 1 (.tmp 23)),Of 25 20 (.bin .gtr (.tmp 22) (.tmp 24)),Oo 26 (.pick (.tmp 20) (.const (.bool true)) (.tmp 25)),Mv 27 26,Of 28 27 (.fa 2 (.tmp 1)),Of 29 27 (.load false 1 (.tmp 28)),Of 30 27 (.bin .gtr (.tmp 29) (Ci 2100)),Oo 31 (.pick (.tmp 27) (.const (.bool true)) (.tmp 30)),Mv 32 31,Of 33 32 (.fa 3 (.tmp 1)),Of 34 32 (.load false 1 (.tmp 33)),Of 35 32 (.call (.func 82) [(.tmp 34),(Ci 1),(Ci 12)]),Of 36 32 (.un .not (.tmp 35)),Oo 37 (.pick (.tmp 32) (.const (.bool true)) (.tmp 36)),Mv 16 37] (Cd 16 (Sr [Mc 2 3] .ret) .skip))))) (.seq (Sr [Fa 39 3 1,Ld 40 39,Fa 41 4 1,Oo 42 (.load true 3 (.tmp 41)),Cl 43 83 [(Ci 2001),(.tmp 40),(.tmp 42)],Mv 38 43,Ex 44 38 0,Ex 45 38 1,Oo 3 (.new 60 3 [(iv 0),(iv 0),(iv 0)]),⟨none,none,(.store 3 (.tmp 3) (.tmp 44))⟩,Mv 4 45] (Sr [Mv 46 4,Bc 47 .neq 46 0] (Cd 47 (Sr [Mv 48 4,Mv 2 48] .ret) .skip))) (.seq (.block 1 (Sr [Fa 50 7 1,Ld 51 50,Cl 52 82 [(.tmp 51),(Ci 0),(Ci 172800)],Oo 53 (.un .not (.tmp 52)),Mv 49 53] (Cd 49 (Sr [Mc 2 3] .ret) (Sr [Fa 55 8 1,Ld 56 55,Cl 57 84 [(.tmp 56),(.const (.bool true))],Oo 58 (.un .not (.tmp 57)),Mv 54 58] (Cd 54 (Sr [Mc 2 7] .ret) (Sr [Fa 60 9 1,Ld 61 60,Cl 62 82 [(.tmp 61),(Ci 0),(Ci 10800)],Oo 63 (.un .not (.tmp 62)),Mv 59 63] (Cd 59 (Sr [Mc 2 3] .ret) .skip))))))) (Sr [Mc 2 0] .ret)))))
theorem k43:ZaH Tryz.prog 43=some ⟨c43,[(.tmp 2)],64⟩:=by kernel_rfl
def c47:AC:=(Sr [Oo 1 (.box 55 2 (.tmp 0)),Mc 2 0] (.seq (Sr [Fa 3 0 1,Ld 4 3,Cl 5 80 [(.tmp 4)],Oo 6 (.un .not (.tmp 5)),Mv 7 6,Of 8 7 (.fa 1 (.tmp 1)),Of 9 7 (.load false 1 (.tmp 8)),Of 10 7 (.call (.func 80) [(.tmp 9)]),Of 11 7 (.un .not (.tmp 10)),Oo 12 (.pick (.tmp 7) (.const (.bool true)) (.tmp 11))] (Cd 12 (Sr [Mc 2 1] .ret) .skip)) (Sr [Mc 2 0] .ret)))
theorem k47:ZaH Tryz.prog 47=some ⟨c47,[(.tmp 2)],13⟩:=by kernel_rfl
def c85:AC:=(Sr [Oo 2 (.box 64 10 (.tmp 0)),Mc 4 0] (.seq (.block 0 (Sr [Fa 8 1 2,Ld 9 8,Oo 10 (.bin .neq (.tmp 9) (.const (.string ⟨#[]⟩))),Mv 11 10,Ot 12 11 (.fa 1 (.tmp 2)),Ot 13 11 (.load false 1 (.tmp 12)),Ot 14 11 (.call (.func 80) [(.tmp 13)]),Ot 15 11 (.un .not (.tmp 14)),Oo 16 (.pick (.tmp 11) (.tmp 15) (.const (.bool false))),Mv 17 16,Of 18 17 (.fa 3 (.tmp 2)),Of 19 17 (.load false 1 (.tmp 18)),Of 20 17 (.call (.func 126) [(.tmp 19)]),Of 21 17 (.un .not (.tmp 20)),Oo 22 (.pick (.tmp 17) (.const (.bool true)) (.tmp 21)),Mv 7 22] (Cd 7 (Sr [Mc 4 1] .ret) (Sr [Fa 24 0 2,Ld 25 24,Cl 26 82 [(.tmp 25),(.const (.int .i64 (-64800))),(Ci 64800)],Oo 27 (.un .not (.tmp 26)),Mv 28 27,Of 29 28 (.fa 2 (.tmp 2)),Of 30 28 (.load false 1 (.tmp 29)),Of 31 28 (.call (.func 82) [(.tmp 30),(Ci 0),(Ci 10800)]),Of 32 28 (.un .not (.tmp 31)),Oo 33 (.pick (.tmp 28) (.const (.bool true)) (.tmp 32)),Mv 23 33] (Cd 23 (Sr [Mc 4 3] .ret) (Sr [Fa 35 1 2,Ld 36 35,Oo 37 (.bin .neq (.tmp 36) (.const (.string ⟨#[]⟩))),Mv 38 37,Ot 39 38 (.fa 2 (.tmp 2)),Ot 40 38 (.load false 1 (.tmp 39)),Ot 41 38 (.bin .neq (.tmp 40) (Ci 0)),Oo 42 (.pick (.tmp 38) (.tmp 41) (.const (.bool false))),Mv 34 42] (Cd 34 (Sr [Mc 4 1] .ret) (Sr [Fa 44 4 2,Ld 45 44,Mv 46 1,Oo 47 (.eqb true (.tmp 45) (.tmp 46)),Mv 43 47] (Cd 43 (Sr [Mc 4 4] .ret) (Sr [Fa 49 4 2,Ld 50 49,Mv 48 50] (Cd 48 (.seq (Sr [Fa 51 5 2,Oo 52 (.load true 5 (.tmp 51)),Oo 53 (.build [(iv 0),(iv 0),(iv 0),(iv 0),(iv 0)] []),Oo 54 (.eqs true [.int,.int,.int,.int,.int] (.tmp 52) (.tmp 53))] (Cd 54 (Sr [Mc 4 1] .ret) .skip)) (Sr [Mc 4 0] .ret)) .skip))))))))))) (.seq (Sr [Fa 56 5 2,Fa 57 0 56,Oo 58 (.load true 3 (.tmp 57)),Cl 59 127 [(.tmp 58)],Mv 55 59,Ex 60 55 0,Ex 61 55 1,Mv 5 60,Mv 6 61] (Sr [Mv 62 6,Bc 63 .neq 62 0] (Cd 63 (Sr [Mv 64 6,Mv 4 64] .ret) .skip))) (.seq (.block 1 (Sr [Fa 66 5 2,Fa 67 3 66,Ld 68 67,Cl 69 82 [(.tmp 68),(Ci 0),(Ci 172800)],Oo 70 (.un .not (.tmp 69)),Mv 65 70] (Cd 65 (Sr [Mc 4 3] .ret) (Sr [Fa 72 5 2,Fa 73 4 72,Ld 74 73,Cl 75 84 [(.tmp 74),(.const (.bool false))],Oo 76 (.un .not (.tmp 75)),Mv 71 76] (Cd 71 (Sr [Mc 4 7] .ret) .skip))))) (Sr [Mc 4 0] .ret)))))
theorem k85:ZaH Tryz.prog 85=some ⟨c85,[(.tmp 4)],77⟩:=by kernel_rfl
def c45:AC:=(Sr [Oo 1 (.box 52 2 (.tmp 0)),Mc 2 0] (.seq (Sr [Fa 6 0 1,Ld 7 6,Cl 8 80 [(.tmp 7)],Oo 9 (.un .not (.tmp 8)),Mv 10 9,Of 11 10 (.fa 1 (.tmp 1)),Of 12 10 (.load false 1 (.tmp 11)),Of 13 10 (.len false (.tmp 12)),Of 14 10 (.bin .eql (.tmp 13) (Ci 0)),Oo 15 (.pick (.tmp 10) (.const (.bool true)) (.tmp 14))] (Cd 15 (Sr [Mc 2 1] .ret) .skip)) (.seq (Sr [Fa 16 1 1,Ld 17 16,Oo 18 (.len false (.tmp 17)),Mc 19 0] (.block 0 (.loop (Sr [Bn 20 .lss 19 18] (.seq (Cd 20 .skip (.exit 0)) (.seq (.block 1 (Sr [Mv 21 19,Oo 22 (.ia 10 (.tmp 17) (.tmp 19)),Oo 23 (.load true 10 (.tmp 22)),Oo 4 (.new 64 10 [(iv 0),Ss,(iv 0),Ss,(.v (.bool false)),(iv 0),(iv 0),(iv 0),(iv 0),(iv 0)]),Mv 3 21,⟨none,none,(.store 10 (.tmp 4) (.tmp 23))⟩] (Sr [Oo 24 (.load true 10 (.tmp 4)),Mv 25 3,Fa 26 1 1,Ld 27 26,Oo 28 (.len false (.tmp 27)),Bc 29 .sub 28 1,Bn 30 .eql 25 29,Cl 31 85 [(.tmp 24),(.tmp 30)],Mv 5 31] (Sr [Mv 32 5,Bc 33 .neq 32 0] (Cd 33 (Sr [Mv 34 5,Mv 2 34] .ret) .skip))))) (.reg [Bc 35 .add 19 1,Mv 19 35]))))))) (Sr [Mc 2 0] .ret))))
theorem k45:ZaH Tryz.prog 45=some ⟨c45,[(.tmp 2)],36⟩:=by kernel_rfl
def c42:AC:=(Sr [Mc 4 0] (.seq (Sr [Mv 8 0,Oo 9 (.len false (.tmp 8)),Mc 10 0] (.block 0 (.loop (Sr [Bn 11 .lss 10 9] (.seq (Cd 11 .skip (.exit 0)) (.seq (.block 1 (Sr [Oo 12 (.ia 11 (.tmp 8) (.tmp 10)),Oo 13 (.load true 11 (.tmp 12)),Oo 6 (.new 48 11 [Ss,(iv 0),(iv 0),(iv 0),(iv 0),(iv 0),(iv 0),(iv 0),(iv 0),(iv 0),Ss]),⟨none,none,(.store 11 (.tmp 6) (.tmp 13))⟩] (Sr [Mv 14 1,Oo 15 (.load true 11 (.tmp 6)),Oo 16 (.call (.tmp 14) [(.tmp 15)]),Mv 7 16] (Sr [Mv 17 7,Bc 18 .neq 17 0] (Cd 18 (Sr [Mv 19 7,Mv 4 19] .ret) .skip))))) (.reg [Bc 20 .add 10 1,Mv 10 20]))))))) (Sr [Mc 4 0] .ret)))
theorem k42:ZaH Tryz.prog 42=some ⟨c42,[(.tmp 4)],21⟩:=by kernel_rfl
def c44:AC:=(Sr [Mc 4 0] (.seq (Sr [Mv 8 0,Oo 9 (.len false (.tmp 8)),Mc 10 0] (.block 0 (.loop (Sr [Bn 11 .lss 10 9] (.seq (Cd 11 .skip (.exit 0)) (.seq (.block 1 (Sr [Oo 12 (.ia 2 (.tmp 8) (.tmp 10)),Oo 13 (.load true 2 (.tmp 12)),Oo 6 (.new 52 2 [Ss,(.sl 0 0 true [])]),⟨none,none,(.store 2 (.tmp 6) (.tmp 13))⟩] (Sr [Mv 14 1,Oo 15 (.load true 2 (.tmp 6)),Oo 16 (.call (.tmp 14) [(.tmp 15)]),Mv 7 16] (Sr [Mv 17 7,Bc 18 .neq 17 0] (Cd 18 (Sr [Mv 19 7,Mv 4 19] .ret) .skip))))) (.reg [Bc 20 .add 10 1,Mv 10 20]))))))) (Sr [Mc 4 0] .ret)))
theorem k44:ZaH Tryz.prog 44=some ⟨c44,[(.tmp 4)],21⟩:=by kernel_rfl
def c46:AC:=(Sr [Mc 4 0] (.seq (Sr [Mv 8 0,Oo 9 (.len false (.tmp 8)),Mc 10 0] (.block 0 (.loop (Sr [Bn 11 .lss 10 9] (.seq (Cd 11 .skip (.exit 0)) (.seq (.block 1 (Sr [Oo 12 (.ia 2 (.tmp 8) (.tmp 10)),Oo 13 (.load true 2 (.tmp 12)),Oo 6 (.new 55 2 [Ss,Ss]),⟨none,none,(.store 2 (.tmp 6) (.tmp 13))⟩] (Sr [Mv 14 1,Oo 15 (.load true 2 (.tmp 6)),Oo 16 (.call (.tmp 14) [(.tmp 15)]),Mv 7 16] (Sr [Mv 17 7,Bc 18 .neq 17 0] (Cd 18 (Sr [Mv 19 7,Mv 4 19] .ret) .skip))))) (.reg [Bc 20 .add 10 1,Mv 10 20]))))))) (Sr [Mc 4 0] .ret)))
theorem k46:ZaH Tryz.prog 46=some ⟨c46,[(.tmp 4)],21⟩:=by kernel_rfl
def c41:AC:=(Sr [Oo 1 (.box 26 3 (.tmp 0)),Mb 2 false] (.seq (Sr [Fa 5 1 1,Ld 6 5,Oo 7 (.len false (.tmp 6)),Mc 8 0] (.block 0 (.loop (Sr [Bn 9 .lss 8 7] (.seq (Cd 9 .skip (.exit 0)) (.seq (.block 1 (Sr [Oo 10 (.ia 2 (.tmp 6) (.tmp 8)),Oo 11 (.load true 2 (.tmp 10)),Oo 4 (.new 52 2 [Ss,(.sl 0 0 true [])]),⟨none,none,(.store 2 (.tmp 4) (.tmp 11))⟩] (Sr [Fa 12 1 4,Ld 13 12,Oo 14 (.len false (.tmp 13)),Bc 15 .gtr 14 8] (Cd 15 (Sr [Mb 2 true] .ret) .skip)))) (.reg [Bc 16 .add 8 1,Mv 8 16]))))))) (Sr [Fa 17 0 1,Ld 18 17,Oo 19 (.len false (.tmp 18)),Bc 20 .gtr 19 40,Mv 21 20,Of 22 21 (.fa 1 (.tmp 1)),Of 23 21 (.load false 1 (.tmp 22)),Of 24 21 (.len false (.tmp 23)),Of 25 21 (.bin .gtr (.tmp 24) (Ci 20)),Oo 26 (.pick (.tmp 21) (.const (.bool true)) (.tmp 25)),Mv 27 26,Of 28 27 (.fa 2 (.tmp 1)),Of 29 27 (.load false 1 (.tmp 28)),Of 30 27 (.len false (.tmp 29)),Of 31 27 (.bin .gtr (.tmp 30) (Ci 20)),Oo 32 (.pick (.tmp 27) (.const (.bool true)) (.tmp 31)),Mv 2 32] .ret)))
theorem k41:ZaH Tryz.prog 41=some ⟨c41,[(.tmp 2)],33⟩:=by kernel_rfl
def c17:AC:=(Sr [Oo 1 (.box 26 3 (.tmp 0)),Mc 2 0] (.seq (Sr [Oo 4 (.load true 3 (.tmp 1)),Cl 5 41 [(.tmp 4)]] (Cd 5 (Sr [Mc 2 2] .ret) .skip)) (Sr [Fa 6 0 1,Ld 7 6,Cl 8 42 [(.tmp 7),(.func 43)],Mv 3 8] (.seq (Sr [Mv 9 3,Bc 10 .eql 9 0] (Cd 10 (.reg [Fa 11 1 1,Ld 12 11,Cl 13 44 [(.tmp 12),(.func 45)],Mv 3 13]) .skip)) (.seq (Sr [Mv 14 3,Bc 15 .eql 14 0] (Cd 15 (.reg [Fa 16 2 1,Ld 17 16,Cl 18 46 [(.tmp 17),(.func 47)],Mv 3 18]) .skip)) (Sr [Mv 19 3,Mv 2 19] .ret))))))
theorem k17:ZaH Tryz.prog 17=some ⟨c17,[(.tmp 2)],20⟩:=by kernel_rfl
def Zde (r:Rul):Int :=
 if ¬(ZbL r.1=true∧ZbZ r.2.2.2.2.2.2.2.2=true) then 1
 else if r.2.1<1900∨r.2.1>r.2.2.1∨r.2.2.1>2100∨¬wi r.2.2.2.1 1 12=true then 3
 else if (onV 2001 r.2.2.2.1 r.2.2.2.2.1.1 r.2.2.2.2.1.2.1 r.2.2.2.2.1.2.2).2≠0 then (onV 2001 r.2.2.2.1 r.2.2.2.2.1.1 r.2.2.2.2.1.2.1 r.2.2.2.2.1.2.2).2
 else if ¬wi r.2.2.2.2.2.1 0 172800=true then 3
 else if ¬clkB r.2.2.2.2.2.2.1 true=true then 7
 else if ¬wi r.2.2.2.2.2.2.2.1 0 10800=true then 3 else 0
def ZdW (l:Lnk):Int:=if ¬(ZbL l.1=true∧ZbL l.2=true) then 1 else 0
theorem link_b {a b:ByteArray}{h:AH}(ha:a.size≤maxLen) (hb:b.size≤maxLen):Ac 47 [.agg [sv a,sv b]] h (iv (ZdW (a,b))):=by
 refine tI' k47 fun N hn hlt hlA hbd=>?_
 simp only [tb'] at hbd ⊢
 refine wr'<|E' (Zcm (cvl lk rfl) rfl (hl0 hn) ha0) pt<|mv' lki pt<|sn'<|Zam<|wr'<|V' (Zaa lk) pt<|V' (Zac lk (hga hn rfl) gt0) pt<|Zae mp (ZgO ha) pt<|V' (Zav lk) pt<|mv' lk pt<|?_
 refine ZaL (t:=7) gt pt pt (fun hg7=>?_) (fun hg7=>?_)
 ·refine s_no gt pt<|s_no gt pt<|s_no gt pt<|s_no gt pt<|V' (Zaj lk lkb) pt<|sn'<|ZaG lk<|wr'<|mv' lki pt<|sn'<|Zab<|?_
  refine Zak<|Zag rz<|rT'<|?_
  rw [show ZdW (a,b)=1 by unfold ZdW;simp_all]
 refine s_do gt<|V' (Zaa lk) pt<|s_do gt<|V' (Zac lk (hga hn rfl) gt1) pt<|s_do gt<|Zae mp (ZgO hb) pt<|s_do gt<|V' (Zav lk) pt<|V' (Zah lk lk) pt<|sn'<|?_
 refine Zaw lk (fun hc1=>?_) (fun hc1=>?_)
 ·refine wr'<|mv' lki pt<|sn'<|Zab<|Zak<|Zag rz<|rT'<|?_
  rw [show ZdW (a,b)=1 by unfold ZdW;simp_all]
 refine Zaf<|Zai<|wr'<|mv' lki pt<|sn'<|Zab<|Zag rz<|rT'<|?_
 rw [show ZdW (a,b)=0 by unfold ZdW;simp_all]
theorem rule_b {nm lt:ByteArray}{f t m k w n a c s:Int}{h:AH}(hn:nm.size≤maxLen) (hl:lt.size≤maxLen):Ac 43 [.agg [sv nm,iv f,iv t,iv m,iv k,iv w,iv n,iv a,iv c,iv s,sv lt]] h (iv (Zde (nm,f,t,m,(k,w,n),a,c,s,lt))):=by
 have hnm:=hn
 clear hn
 refine tI' k43 fun N hn hlt hlA hbd=>?_
 simp only [tb'] at hbd ⊢
 refine wr'<|E' (Zcm (cvl lk rfl) rfl (hl0 hn) ha0) pt<|mv' lki pt<|sn'<|Zam<|Zao<|wr'<|V' (Zaa lk) pt<|V' (Zac lk (hga hn rfl) gt0) pt<|Zae mp (ZgO hnm) pt<|V' (Zav lk) pt<|?_
 refine mv' lk pt ?_
 refine ZaL (t:=10) gt pt pt (fun hg10=>?_) (fun hg10=>?_)
 ·refine s_no gt pt<|s_no gt pt<|s_no gt pt<|s_no gt pt<|V' (Zaj lk lkb) pt<|mv' lk pt<|sn'<|ZaG lk<|wr'<|mv' lki pt<|sn'<|?_
  refine Zab<|Zaq<|Zak<|Zag rz<|rT'<|?_
  rw [show Zde (nm,f,t,m,(k,w,n),a,c,s,lt)=1 by unfold Zde;simp_all]
 refine s_do gt<|V' (Zaa lk) pt<|s_do gt<|V' (Zac lk (hga hn rfl) gt10) pt<|s_do gt<|Zae mp (ZmX hl) pt<|s_do gt<|V' (Zav lk) pt<|V' (Zah lk lk) pt<|mv' lk pt<|sn'<|?_
 refine Zaw lk (fun hc1=>?_) (fun hc1=>?_)
 ·refine wr'<|mv' lki pt<|sn'<|Zab<|Zaq<|Zak<|Zag rz<|rT'<|?_
  rw [show Zde (nm,f,t,m,(k,w,n),a,c,s,lt)=1 by unfold Zde;simp_all]
 have h1:ZbL nm=true∧ZbZ lt=true:=by simp_all
 have hR:Zde (nm,f,t,m,(k,w,n),a,c,s,lt)=if f<1900∨f>t∨t>2100∨¬wi m 1 12=true then 3 else if (onV 2001 m k w n).2≠0 then (onV 2001 m k w n).2 else if ¬wi a 0 172800=true then 3 else if ¬clkB c true=true then 7 else if ¬wi s 0 10800=true then 3 else 0:=if_neg (by simp [h1])
 refine wr'<|V' (Zaa lk) pt<|V' (Zac lk (hga hn rfl) gt1) pt<|V' (Zbu lk lki) pt<|mv' lk pt<|?_
 refine sp' (t:=20) gt pt pt (fun hg20=>?_) (fun hg20=>?_)
 ·rw [if_pos (.inl (by omega))] at hR
  refine s_no gt pt<|s_no gt pt<|s_no gt pt<|s_no gt pt<|s_no gt pt<|V' (Zaj lk lkb) pt<|mv' lk pt<|s_no gt pt<|s_no gt pt<|s_no gt pt<|V' (Zaj lk lkb) pt<|mv' lk pt<|s_no gt pt<|s_no gt pt<|?_
  refine s_no gt pt<|s_no gt pt<|V' (Zaj lk lkb) pt<|mv' lk pt<|sn'<|ZaG lk<|wr'<|mv' lki pt<|sn'<|Zab<|Zaq<|?_
  refine Zak<|Zag rz<|rT'<|?_
  rw [hR]
 refine s_do gt<|V' (Zaa lk) pt<|s_do gt<|V' (Zac lk (hga hn rfl) gt1) pt<|s_do gt<|V' (Zaa lk) pt<|s_do gt<|V' (Zac lk (hga hn rfl) gt2) pt<|s_do gt<|V' (ZbN lk lk) pt<|V' (Zah lk lk) pt<|mv' lk pt<|?_
 refine sp' (t:=27) gt pt pt (fun hg27=>?_) (fun hg27=>?_)
 ·rw [if_pos (.inr (.inl (by omega)))] at hR
  refine s_no gt pt<|s_no gt pt<|s_no gt pt<|V' (Zaj lk lkb) pt<|mv' lk pt<|s_no gt pt<|s_no gt pt<|s_no gt pt<|s_no gt pt<|V' (Zaj lk lkb) pt<|mv' lk pt<|sn'<|ZaG lk<|?_
  refine wr'<|mv' lki pt<|sn'<|Zab<|Zaq<|Zak<|Zag rz<|rT'<|?_
  rw [hR]
 refine s_do gt<|V' (Zaa lk) pt<|s_do gt<|V' (Zac lk (hga hn rfl) gt2) pt<|s_do gt<|V' (ZbN lk lki) pt<|V' (Zah lk lk) pt<|mv' lk pt<|?_
 refine sp' (t:=32) gt pt pt (fun hg32=>?_) (fun hg32=>?_)
 ·rw [if_pos (.inr (.inr (.inl (by omega))))] at hR
  refine s_no gt pt<|s_no gt pt<|s_no gt pt<|s_no gt pt<|V' (Zaj lk lkb) pt<|mv' lk pt<|sn'<|ZaG lk<|wr'<|mv' lki pt<|sn'<|?_
  refine Zab<|Zaq<|Zak<|Zag rz<|rT'<|?_
  rw [hR]
 refine s_do gt<|V' (Zaa lk) pt<|s_do gt<|V' (Zac lk (hga hn rfl) gt3) pt<|s_do gt<|Zae mp (Zcw) pt<|s_do gt<|V' (Zav lk) pt<|V' (Zah lk lk) pt<|mv' lk pt<|sn'<|?_
 refine Zaw lk (fun hc2=>?_) (fun hc2=>?_)
 ·rw [if_pos (.inr (.inr (.inr (by simpa using hc2))))] at hR
  refine wr'<|mv' lki pt<|sn'<|Zab<|Zaq<|Zak<|Zag rz<|rT'<|?_
  rw [hR]
 have hw2:wi m 1 12=true:=by simpa using hc2
 have h2:¬(f<1900∨f>t∨t>2100∨¬wi m 1 12=true):=by rw [hw2];simp;omega
 rw [if_neg h2] at hR
 refine Zaf<|ZaF<|Zai<|Zam<|wr'<|V' (Zaa lk) pt<|V' (Zac lk (hga hn rfl) gt3) pt<|V' (Zaa lk) pt<|V' (Zau lk (hga hn rfl) Zru rfl) pt<|Zae mp (on_a) pt<|mv' lk pt<|V' (Zbb lk gt) pt<|V' (Zbb lk gt) pt<|?_
 refine E' (Zbq (hl1 hn) ha1) pt<|E' (Zal lk (cvl lk rfl) (hga hn rfl) rfl (nb' rfl) rfl Zrw (hs1 hn)) ptn<|mv' lk pt<|sn'<|wr'<|mv' lk pt<|V' (Za6 lk lki) pt<|sn'<|?_
 refine cd' lk (fun hc3=>?_) (fun hc3=>?_)
 ·rw [if_pos hc3] at hR
  refine wr'<|mv' lk pt<|mv' lk pt<|sn'<|Zab<|Zak<|Zag rz<|rT'<|?_
  rw [hR]
 rw [if_neg hc3] at hR
 refine Zaf<|Zai<|Zam<|Zao<|wr'<|V' (Zaa lk) pt<|V' (Zac lk (hga hn rfl) gt7) pt<|Zae mp (Zcw) pt<|V' (Zav lk) pt<|mv' lk pt<|sn'<|?_
 refine Zaw lk (fun hc4=>?_) (fun hc4=>?_)
 ·rw [if_pos (by simpa using hc4)] at hR
  refine wr'<|mv' lki pt<|sn'<|Zab<|Zaq<|Zak<|Zag rz<|rT'<|?_
  rw [hR]
 rw [if_neg (by simpa using hc4)] at hR
 refine wr'<|V' (Zaa lk) pt<|V' (Zac lk (hga hn rfl) gt8) pt<|Zae mp (ZiZ) pt<|V' (Zav lk) pt<|mv' lk pt<|sn'<|?_
 refine Zaw lk (fun hc5=>?_) (fun hc5=>?_)
 ·rw [if_pos (by simpa using hc5)] at hR
  refine wr'<|mv' lki pt<|sn'<|Zab<|Zaq<|Zak<|Zag rz<|rT'<|?_
  rw [hR]
 rw [if_neg (by simpa using hc5)] at hR
 refine wr'<|V' (Zaa lk) pt<|V' (Zac lk (hga hn rfl) gt9) pt<|Zae mp (Zcw) pt<|V' (Zav lk) pt<|mv' lk pt<|sn'<|?_
 refine Zaw lk (fun hc6=>?_) (fun hc6=>?_)
 ·rw [if_pos (by simpa using hc6)] at hR
  refine wr'<|mv' lki pt<|sn'<|Zab<|Zaq<|Zak<|Zag rz<|rT'<|?_
  rw [hR]
 rw [if_neg (by simpa using hc6)] at hR
 refine Zaf<|ZaF<|Zai<|wr'<|mv' lki pt<|sn'<|Zab<|Zag rz<|rT'<|?_
 rw [hR]
theorem ZlB {y m d:Int}{h:AH}:Ac 127 [.agg [iv y,iv m,iv d]] h (.tup [iv (if Zby y m d=true then num y m d else 0),iv (if Zby y m d=true then 0 else 3)]):=days_a
def eraE (sh:Int) (rl:ByteArray) (sa:Int) (fm:ByteArray) (op:Bool) (y m d a c:Int) (last:Bool):Int :=
 if (rl≠⟨#[]⟩∧¬ZbL rl=true)∨¬Zb0 fm=true then 1
 else if ¬wi sh (-64800) 64800=true∨¬wi sa 0 10800=true then 3
 else if rl≠⟨#[]⟩∧sa≠0 then 1
 else if op≠last then 4
 else if op=true then (if ¬(y=0∧m=0∧d=0∧a=0∧c=0) then 1 else 0)
 else if ¬Zby y m d=true then 3
 else if ¬wi a 0 172800=true then 3
 else if ¬clkB c false=true then 7 else 0
theorem era_b {rl fm:ByteArray}{sh sa y m d a c:Int}{op last:Bool}{h:AH}(hrl:rl.size≤maxLen) (hfm:fm.size≤maxLen):Ac 85 [.agg [iv sh,sv rl,iv sa,sv fm,bv op,iv y,iv m,iv d,iv a,iv c],bv last] h (iv (eraE sh rl sa fm op y m d a c last)):=by
 refine tI' k85 fun N hn hlt hlA hbd=>?_
 simp only [tb'] at hbd ⊢
 refine wr'<|E' (Zcm (cvl lk rfl) rfl (hl0 hn) ha0) pt<|mv' lki pt<|sn'<|Zam<|Zao<|wr'<|V' (Zaa lk) pt<|V' (Zac lk (hga hn rfl) gt1) pt<|V' (Zcp lk lks) pt<|mv' lk pt<|?_
 refine sp' (t:=11) gt pt pt (fun hg11=>?_) (fun hg11=>?_)
 ·refine s_do gt<|V' (Zaa lk) pt<|s_do gt<|V' (Zac lk (hga hn rfl) gt1) pt<|s_do gt<|Zae mp (ZgO hrl) pt<|s_do gt<|V' (Zav lk) pt<|V' (Zaj lk lk) pt<|mv' lk pt<|?_
  refine ZaL (t:=17) gt pt pt (fun hg17=>?_) (fun hg17=>?_)
  ·refine s_no gt pt<|s_no gt pt<|s_no gt pt<|s_no gt pt<|V' (Zaj lk lkb) pt<|mv' lk pt<|sn'<|ZaG lk<|wr'<|mv' lki pt<|sn'<|?_
   refine Zab<|Zaq<|Zak<|Zag rz<|rT'<|?_
   refine ivx ?_;unfold eraE;simp_all
  refine s_do gt<|V' (Zaa lk) pt<|s_do gt<|V' (Zac lk (hga hn rfl) gt3) pt<|s_do gt<|Zae mp (Zh9 hfm) pt<|s_do gt<|V' (Zav lk) pt<|V' (Zah lk lk) pt<|mv' lk pt<|sn'<|?_
  refine Zaw lk (fun hc1=>?_) (fun hc1=>?_)
  ·refine wr'<|mv' lki pt<|sn'<|Zab<|Zaq<|Zak<|Zag rz<|rT'<|?_
   refine ivx ?_;unfold eraE;simp_all
  refine wr'<|V' (Zaa lk) pt<|V' (Zac lk (hga hn rfl) gt0) pt<|Zae mp (Zcw) pt<|V' (Zav lk) pt<|mv' lk pt<|?_
  refine ZaL (t:=28) gt pt pt (fun hg28=>?_) (fun hg28=>?_)
  ·refine s_no gt pt<|s_no gt pt<|s_no gt pt<|s_no gt pt<|V' (Zaj lk lkb) pt<|mv' lk pt<|sn'<|ZaG lk<|wr'<|mv' lki pt<|sn'<|?_
   refine Zab<|Zaq<|Zak<|Zag rz<|rT'<|?_
   refine ivx ?_;unfold eraE;simp_all
  refine s_do gt<|V' (Zaa lk) pt<|s_do gt<|V' (Zac lk (hga hn rfl) gt2) pt<|s_do gt<|Zae mp (Zcw) pt<|s_do gt<|V' (Zav lk) pt<|V' (Zah lk lk) pt<|mv' lk pt<|sn'<|?_
  refine Zaw lk (fun hc2=>?_) (fun hc2=>?_)
  ·refine wr'<|mv' lki pt<|sn'<|Zab<|Zaq<|Zak<|Zag rz<|rT'<|?_
   refine ivx ?_;unfold eraE;simp_all
  refine wr'<|V' (Zaa lk) pt<|V' (Zac lk (hga hn rfl) gt1) pt<|V' (Zcp lk lks) pt<|mv' lk pt<|?_
  refine sp' (t:=38) gt pt pt (fun hg38=>?_) (fun hg38=>?_)
  ·refine s_do gt<|V' (Zaa lk) pt<|s_do gt<|V' (Zac lk (hga hn rfl) gt2) pt<|s_do gt<|V' (Za6 lk lki) pt<|V' (Zaj lk lk) pt<|mv' lk pt<|sn'<|?_
   refine cd' lk (fun hc3=>?_) (fun hc3=>?_)
   ·refine wr'<|mv' lki pt<|sn'<|Zab<|Zaq<|Zak<|Zag rz<|rT'<|?_
    refine ivx ?_;unfold eraE;simp_all
   refine wr'<|V' (Zaa lk) pt<|V' (Zac lk (hga hn rfl) gt4) pt<|mv' lk pt<|V' (ZdP lk lk) pt<|mv' lk pt<|sn'<|?_
   refine cd' lk (fun hc4=>?_) (fun hc4=>?_)
   ·refine wr'<|mv' lki pt<|sn'<|Zab<|Zaq<|Zak<|Zag rz<|rT'<|?_
    refine ivx ?_;unfold eraE;simp_all
   refine wr'<|V' (Zaa lk) pt<|V' (Zac lk (hga hn rfl) gt4) pt<|mv' lk pt<|sn'<|?_
   refine Zaw lk (fun hc5=>?_) (fun hc5=>?_)
   ·refine Zam<|wr'<|V' (Zaa lk) pt<|V' (Zau lk (hga hn rfl) Zf4 rfl) pt<|V' (ZaB Zfi) pt<|V' (Zgx lk lk Zd0) pt<|sn'<|?_
    refine cd' lk (fun hc6=>?_) (fun hc6=>?_)
    ·refine wr'<|mv' lki pt<|sn'<|Zab<|Zak<|Zaq<|Zak<|Zag rz<|rT'<|?_
     refine ivx ?_;unfold eraE;simp_all
    refine Zaf<|Zai<|wr'<|mv' lki pt<|sn'<|Zab<|Zaq<|Zak<|Zag rz<|rT'<|?_
    refine ivx ?_;unfold eraE;simp_all
   refine Zaf<|ZaF<|Zai<|Zam<|wr'<|V' (Zaa lk) pt<|V' (Zcv lk) pt<|V' (Zau lk (hga hn rfl) Zf5 rfl) pt<|Zae mp (ZlB) pt<|mv' lk pt<|V' (Zbb lk gt) pt<|V' (Zbb lk gt) pt<|mv' lk pt<|?_
   refine mv' lk pt<|sn'<|wr'<|mv' lk pt<|V' (Za6 lk lki) pt<|sn'<|?_
   refine cd' lk (fun hc7=>?_) (fun hc7=>?_)
   ·refine wr'<|mv' lk pt<|mv' lk pt<|sn'<|Zab<|Zak<|Zag rz<|rT'<|?_
    refine ivx ?_;unfold eraE;simp_all
   refine Zaf<|Zai<|Zam<|Zao<|wr'<|V' (Zaa lk) pt<|V' (Zcv lk) pt<|V' (Zac lk (hga hn rfl) gt8) pt<|Zae mp (Zcw) pt<|V' (Zav lk) pt<|mv' lk pt<|sn'<|?_
   refine Zaw lk (fun hc8=>?_) (fun hc8=>?_)
   ·refine wr'<|mv' lki pt<|sn'<|Zab<|Zaq<|Zak<|Zag rz<|rT'<|?_
    refine ivx ?_;unfold eraE;simp_all
   refine wr'<|V' (Zaa lk) pt<|V' (Zcv lk) pt<|V' (Zac lk (hga hn rfl) gt9) pt<|Zae mp (ZiZ) pt<|V' (Zav lk) pt<|mv' lk pt<|sn'<|?_
   refine Zaw lk (fun hc9=>?_) (fun hc9=>?_)
   ·refine wr'<|mv' lki pt<|sn'<|Zab<|Zaq<|Zak<|Zag rz<|rT'<|?_
    refine ivx ?_;unfold eraE;simp_all
   refine Zaf<|ZaF<|Zai<|wr'<|mv' lki pt<|sn'<|Zab<|Zag rz<|rT'<|?_
   refine ivx ?_;unfold eraE;simp_all
  refine s_no gt pt<|s_no gt pt<|s_no gt pt<|V' (Zah lk lkb) pt<|mv' lk pt<|sn'<|ZaY lk<|wr'<|V' (Zaa lk) pt<|V' (Zac lk (hga hn rfl) gt4) pt<|mv' lk pt<|V' (ZdP lk lk) pt<|?_
  refine mv' lk pt<|sn'<|?_
  refine cd' lk (fun hc4=>?_) (fun hc4=>?_)
  ·refine wr'<|mv' lki pt<|sn'<|Zab<|Zaq<|Zak<|Zag rz<|rT'<|?_
   refine ivx ?_;unfold eraE;simp_all
  refine wr'<|V' (Zaa lk) pt<|V' (Zac lk (hga hn rfl) gt4) pt<|mv' lk pt<|sn'<|?_
  refine Zaw lk (fun hc5=>?_) (fun hc5=>?_)
  ·refine Zam<|wr'<|V' (Zaa lk) pt<|V' (Zau lk (hga hn rfl) Zf4 rfl) pt<|V' (ZaB Zfi) pt<|V' (Zgx lk lk Zd0) pt<|sn'<|?_
   refine cd' lk (fun hc6=>?_) (fun hc6=>?_)
   ·refine wr'<|mv' lki pt<|sn'<|Zab<|Zak<|Zaq<|Zak<|Zag rz<|rT'<|?_
    refine ivx ?_;unfold eraE;simp_all
   refine Zaf<|Zai<|wr'<|mv' lki pt<|sn'<|Zab<|Zaq<|Zak<|Zag rz<|rT'<|?_
   refine ivx ?_;unfold eraE;simp_all
  refine Zaf<|ZaF<|Zai<|Zam<|wr'<|V' (Zaa lk) pt<|V' (Zcv lk) pt<|V' (Zau lk (hga hn rfl) Zf5 rfl) pt<|Zae mp (ZlB) pt<|mv' lk pt<|V' (Zbb lk gt) pt<|V' (Zbb lk gt) pt<|mv' lk pt<|?_
  refine mv' lk pt<|sn'<|wr'<|mv' lk pt<|V' (Za6 lk lki) pt<|sn'<|?_
  refine cd' lk (fun hc7=>?_) (fun hc7=>?_)
  ·refine wr'<|mv' lk pt<|mv' lk pt<|sn'<|Zab<|Zak<|Zag rz<|rT'<|?_
   refine ivx ?_;unfold eraE;simp_all
  refine Zaf<|Zai<|Zam<|Zao<|wr'<|V' (Zaa lk) pt<|V' (Zcv lk) pt<|V' (Zac lk (hga hn rfl) gt8) pt<|Zae mp (Zcw) pt<|V' (Zav lk) pt<|mv' lk pt<|sn'<|?_
  refine Zaw lk (fun hc8=>?_) (fun hc8=>?_)
  ·refine wr'<|mv' lki pt<|sn'<|Zab<|Zaq<|Zak<|Zag rz<|rT'<|?_
   refine ivx ?_;unfold eraE;simp_all
  refine wr'<|V' (Zaa lk) pt<|V' (Zcv lk) pt<|V' (Zac lk (hga hn rfl) gt9) pt<|Zae mp (ZiZ) pt<|V' (Zav lk) pt<|mv' lk pt<|sn'<|?_
  refine Zaw lk (fun hc9=>?_) (fun hc9=>?_)
  ·refine wr'<|mv' lki pt<|sn'<|Zab<|Zaq<|Zak<|Zag rz<|rT'<|?_
   refine ivx ?_;unfold eraE;simp_all
  refine Zaf<|ZaF<|Zai<|wr'<|mv' lki pt<|sn'<|Zab<|Zag rz<|rT'<|?_
  refine ivx ?_;unfold eraE;simp_all
 refine s_no gt pt<|s_no gt pt<|s_no gt pt<|s_no gt pt<|V' (Zah lk lkb) pt<|mv' lk pt<|s_do gt<|V' (Zaa lk) pt<|s_do gt<|V' (Zac lk (hga hn rfl) gt3) pt<|s_do gt<|Zae mp (Zh9 hfm) pt<|s_do gt<|V' (Zav lk) pt<|?_
 refine V' (Zah lk lk) pt<|mv' lk pt<|sn'<|?_
 refine Zaw lk (fun hc1=>?_) (fun hc1=>?_)
 ·refine wr'<|mv' lki pt<|sn'<|Zab<|Zaq<|Zak<|Zag rz<|rT'<|?_
  refine ivx ?_;unfold eraE;simp_all
 refine wr'<|V' (Zaa lk) pt<|V' (Zac lk (hga hn rfl) gt0) pt<|Zae mp (Zcw) pt<|V' (Zav lk) pt<|mv' lk pt<|?_
 refine ZaL (t:=28) gt pt pt (fun hg28=>?_) (fun hg28=>?_)
 ·refine s_no gt pt<|s_no gt pt<|s_no gt pt<|s_no gt pt<|V' (Zaj lk lkb) pt<|mv' lk pt<|sn'<|ZaG lk<|wr'<|mv' lki pt<|sn'<|?_
  refine Zab<|Zaq<|Zak<|Zag rz<|rT'<|?_
  refine ivx ?_;unfold eraE;simp_all
 refine s_do gt<|V' (Zaa lk) pt<|s_do gt<|V' (Zac lk (hga hn rfl) gt2) pt<|s_do gt<|Zae mp (Zcw) pt<|s_do gt<|V' (Zav lk) pt<|V' (Zah lk lk) pt<|mv' lk pt<|sn'<|?_
 refine Zaw lk (fun hc2=>?_) (fun hc2=>?_)
 ·refine wr'<|mv' lki pt<|sn'<|Zab<|Zaq<|Zak<|Zag rz<|rT'<|?_
  refine ivx ?_;unfold eraE;simp_all
 refine wr'<|V' (Zaa lk) pt<|V' (Zac lk (hga hn rfl) gt1) pt<|V' (Zcp lk lks) pt<|mv' lk pt<|?_
 refine sp' (t:=38) gt pt pt (fun hg38=>?_) (fun hg38=>?_)
 ·refine s_do gt<|V' (Zaa lk) pt<|s_do gt<|V' (Zac lk (hga hn rfl) gt2) pt<|s_do gt<|V' (Za6 lk lki) pt<|V' (Zaj lk lk) pt<|mv' lk pt<|sn'<|?_
  refine cd' lk (fun hc3=>?_) (fun hc3=>?_)
  ·refine wr'<|mv' lki pt<|sn'<|Zab<|Zaq<|Zak<|Zag rz<|rT'<|?_
   refine ivx ?_;unfold eraE;simp_all
  refine wr'<|V' (Zaa lk) pt<|V' (Zac lk (hga hn rfl) gt4) pt<|mv' lk pt<|V' (ZdP lk lk) pt<|mv' lk pt<|sn'<|?_
  refine cd' lk (fun hc4=>?_) (fun hc4=>?_)
  ·refine wr'<|mv' lki pt<|sn'<|Zab<|Zaq<|Zak<|Zag rz<|rT'<|?_
   refine ivx ?_;unfold eraE;simp_all
  refine wr'<|V' (Zaa lk) pt<|V' (Zac lk (hga hn rfl) gt4) pt<|mv' lk pt<|sn'<|?_
  refine Zaw lk (fun hc5=>?_) (fun hc5=>?_)
  ·refine Zam<|wr'<|V' (Zaa lk) pt<|V' (Zau lk (hga hn rfl) Zf4 rfl) pt<|V' (ZaB Zfi) pt<|V' (Zgx lk lk Zd0) pt<|sn'<|?_
   refine cd' lk (fun hc6=>?_) (fun hc6=>?_)
   ·refine wr'<|mv' lki pt<|sn'<|Zab<|Zak<|Zaq<|Zak<|Zag rz<|rT'<|?_
    refine ivx ?_;unfold eraE;simp_all
   refine Zaf<|Zai<|wr'<|mv' lki pt<|sn'<|Zab<|Zaq<|Zak<|Zag rz<|rT'<|?_
   refine ivx ?_;unfold eraE;simp_all
  refine Zaf<|ZaF<|Zai<|Zam<|wr'<|V' (Zaa lk) pt<|V' (Zcv lk) pt<|V' (Zau lk (hga hn rfl) Zf5 rfl) pt<|Zae mp (ZlB) pt<|mv' lk pt<|V' (Zbb lk gt) pt<|V' (Zbb lk gt) pt<|mv' lk pt<|?_
  refine mv' lk pt<|sn'<|wr'<|mv' lk pt<|V' (Za6 lk lki) pt<|sn'<|?_
  refine cd' lk (fun hc7=>?_) (fun hc7=>?_)
  ·refine wr'<|mv' lk pt<|mv' lk pt<|sn'<|Zab<|Zak<|Zag rz<|rT'<|?_
   refine ivx ?_;unfold eraE;simp_all
  refine Zaf<|Zai<|Zam<|Zao<|wr'<|V' (Zaa lk) pt<|V' (Zcv lk) pt<|V' (Zac lk (hga hn rfl) gt8) pt<|Zae mp (Zcw) pt<|V' (Zav lk) pt<|mv' lk pt<|sn'<|?_
  refine Zaw lk (fun hc8=>?_) (fun hc8=>?_)
  ·refine wr'<|mv' lki pt<|sn'<|Zab<|Zaq<|Zak<|Zag rz<|rT'<|?_
   refine ivx ?_;unfold eraE;simp_all
  refine wr'<|V' (Zaa lk) pt<|V' (Zcv lk) pt<|V' (Zac lk (hga hn rfl) gt9) pt<|Zae mp (ZiZ) pt<|V' (Zav lk) pt<|mv' lk pt<|sn'<|?_
  refine Zaw lk (fun hc9=>?_) (fun hc9=>?_)
  ·refine wr'<|mv' lki pt<|sn'<|Zab<|Zaq<|Zak<|Zag rz<|rT'<|?_
   refine ivx ?_;unfold eraE;simp_all
  refine Zaf<|ZaF<|Zai<|wr'<|mv' lki pt<|sn'<|Zab<|Zag rz<|rT'<|?_
  refine ivx ?_;unfold eraE;simp_all
 refine s_no gt pt<|s_no gt pt<|s_no gt pt<|V' (Zah lk lkb) pt<|mv' lk pt<|sn'<|ZaY lk<|wr'<|V' (Zaa lk) pt<|V' (Zac lk (hga hn rfl) gt4) pt<|mv' lk pt<|V' (ZdP lk lk) pt<|?_
 refine mv' lk pt<|sn'<|?_
 refine cd' lk (fun hc4=>?_) (fun hc4=>?_)
 ·refine wr'<|mv' lki pt<|sn'<|Zab<|Zaq<|Zak<|Zag rz<|rT'<|?_
  refine ivx ?_;unfold eraE;simp_all
 refine wr'<|V' (Zaa lk) pt<|V' (Zac lk (hga hn rfl) gt4) pt<|mv' lk pt<|sn'<|?_
 refine Zaw lk (fun hc5=>?_) (fun hc5=>?_)
 ·refine Zam<|wr'<|V' (Zaa lk) pt<|V' (Zau lk (hga hn rfl) Zf4 rfl) pt<|V' (ZaB Zfi) pt<|V' (Zgx lk lk Zd0) pt<|sn'<|?_
  refine cd' lk (fun hc6=>?_) (fun hc6=>?_)
  ·refine wr'<|mv' lki pt<|sn'<|Zab<|Zak<|Zaq<|Zak<|Zag rz<|rT'<|?_
   refine ivx ?_;unfold eraE;simp_all
  refine Zaf<|Zai<|wr'<|mv' lki pt<|sn'<|Zab<|Zaq<|Zak<|Zag rz<|rT'<|?_
  refine ivx ?_;unfold eraE;simp_all
 refine Zaf<|ZaF<|Zai<|Zam<|wr'<|V' (Zaa lk) pt<|V' (Zcv lk) pt<|V' (Zau lk (hga hn rfl) Zf5 rfl) pt<|Zae mp (ZlB) pt<|mv' lk pt<|V' (Zbb lk gt) pt<|V' (Zbb lk gt) pt<|mv' lk pt<|?_
 refine mv' lk pt<|sn'<|wr'<|mv' lk pt<|V' (Za6 lk lki) pt<|sn'<|?_
 refine cd' lk (fun hc7=>?_) (fun hc7=>?_)
 ·refine wr'<|mv' lk pt<|mv' lk pt<|sn'<|Zab<|Zak<|Zag rz<|rT'<|?_
  refine ivx ?_;unfold eraE;simp_all
 refine Zaf<|Zai<|Zam<|Zao<|wr'<|V' (Zaa lk) pt<|V' (Zcv lk) pt<|V' (Zac lk (hga hn rfl) gt8) pt<|Zae mp (Zcw) pt<|V' (Zav lk) pt<|mv' lk pt<|sn'<|?_
 refine Zaw lk (fun hc8=>?_) (fun hc8=>?_)
 ·refine wr'<|mv' lki pt<|sn'<|Zab<|Zaq<|Zak<|Zag rz<|rT'<|?_
  refine ivx ?_;unfold eraE;simp_all
 refine wr'<|V' (Zaa lk) pt<|V' (Zcv lk) pt<|V' (Zac lk (hga hn rfl) gt9) pt<|Zae mp (ZiZ) pt<|V' (Zav lk) pt<|mv' lk pt<|sn'<|?_
 refine Zaw lk (fun hc9=>?_) (fun hc9=>?_)
 ·refine wr'<|mv' lki pt<|sn'<|Zab<|Zaq<|Zak<|Zag rz<|rT'<|?_
  refine ivx ?_;unfold eraE;simp_all
 refine Zaf<|ZaF<|Zai<|wr'<|mv' lki pt<|sn'<|Zab<|Zag rz<|rT'<|?_
 refine ivx ?_;unfold eraE;simp_all
abbrev eraX (x:Era) (last:Bool):Int:=eraE x.1 x.2.1 x.2.2.1 x.2.2.2.1 x.2.2.2.2.1 x.2.2.2.2.2.1.1 x.2.2.2.2.2.1.2.1 x.2.2.2.2.2.1.2.2 x.2.2.2.2.2.2.1 x.2.2.2.2.2.2.2 last
def Zeg:List Era→Int
 | []=>0
 | x::xs=>if eraX x xs.isEmpty≠0 then eraX x xs.isEmpty else Zeg xs
def Zei (z:Zon):Int:=if ¬ZbL z.1=true∨z.2.length=0 then 1 else Zeg z.2
def ZsO (x:Era):Prop:=x.2.1.size≤maxLen∧x.2.2.2.1.size≤maxLen
theorem Zp8 {l:List Era}{k:Nat}(h:k<l.length):Zeg (l.drop k)=if eraX l[k] (decide ((k:Int)=(l.length:Int)-1))≠0 then eraX l[k] (decide ((k:Int)=(l.length:Int)-1)) else Zeg (l.drop (k+1)):=by
 have e:(l.drop (k+1)).isEmpty=decide ((k:Int)=(l.length:Int)-1):=by
  rw [Bool.eq_iff_iff,List.isEmpty_iff,List.drop_eq_nil_iff,decide_eq_true_iff];omega
 rw [List.drop_eq_getElem_cons h,Zeg,e]
theorem zone_b {nm:ByteArray}{l:List Era}{h:AH}(hnm:nm.size≤maxLen) (hl : ∀ x∈l,ZsO x):Ac 45 [.agg [sv nm,.sl l.length 10 false (rows eraC l)]] h (iv (Zei (nm,l))):=by
 refine tI' k45 fun N hn hlt hlA hbd=>?_
 simp only [tb'] at hbd ⊢
 refine wr'<|E' (Zcm (cvl lk rfl) rfl (hl0 hn) ha0) pt<|mv' lki pt<|sn'<|Zam<|wr'<|V' (Zaa lk) pt<|V' (Zac lk (hga hn rfl) gt0) pt<|Zae mp (ZgO hnm) pt<|V' (Zav lk) pt<|mv' lk pt<|?_
 refine ZaL (t:=10) gt pt pt (fun hg10=>?_) (fun hg10=>?_)
 ·have hZ:Zei (nm,l)=1:=if_pos (.inl (by simpa using hg10))
  refine s_no gt pt<|s_no gt pt<|s_no gt pt<|s_no gt pt<|V' (Zaj lk lkb) pt<|sn'<|ZaG lk<|wr'<|mv' lki pt<|sn'<|Zab<|?_
  refine Zak<|Zag rz<|rT'<|?_
  rw [hZ]
 refine s_do gt<|V' (Zaa lk) pt<|s_do gt<|V' (Zac lk (hga hn rfl) gt1) pt<|s_do gt<|V' (ZaK lk) pt<|s_do gt<|V' (ZaX lk lki) pt<|V' (Zah lk lk) pt<|sn'<|?_
 refine cd' lk (fun hc1=>?_) (fun hc1=>?_)
 ·have hZ:Zei (nm,l)=1:=if_pos (.inr (by show l.length=0;omega))
  refine wr'<|mv' lki pt<|sn'<|Zab<|Zak<|Zag rz<|rT'<|?_
  rw [hZ]
 have hZ:Zei (nm,l)=Zeg l:=if_neg (by rintro (h1 | h1);exact h1 (by simpa using hg10);exact hc1 (by show (l.length:Int)=0;have:l.length=0:=h1;omega))
 refine Zaf<|Zai<|Zam<|wr'<|V' (Zaa lk) pt<|V' (Zac lk (hga hn rfl) gt1) pt<|V' (ZaK lk) pt<|mv' lki pt<|sn'<|Zao<|?_
 refine w_lp (ι:=Nat) (fun (k:Nat)=>[(19,iv (k:Int))]++rn' 2 4++rn' 20 16) (fun (k:Nat)=>[]) (fun (k:Nat)=>k≤l.length∧Zeg l=Zeg (l.drop k)) (fun (k:Nat)=>l.length-k) (0) (by exact ⟨Nat.zero_le _,rfl⟩) ?_
 rintro k hi1
 try simp only [sm',Nat.reduceAdd]
 obtain ⟨hk1,hk2⟩:=hi1
 refine wr'<|V' (Zbu lk lk) pt<|sn'<|Zam<|?_
 refine cd' lk (fun hc2=>?_) (fun hc2=>?_)
 ·have hk:k<l.length:=by omega
  have ho:=hl _ (List.getElem_mem hk)
  rw [Zp8 hk] at hk2
  refine Zaf<|Zai<|Zam<|Zao<|wr'<|mv' lk pt<|?_
  refine V' (Zbg lk lk Zeq (nb' rfl) ro (by omega) ro rfl) pt ?_
  refine V' (Zbk lk Zrt rfl) pt<|E' (Zbq (hl1 hn) ha1) pt<|mv' lk pt<|E' (Zal lk (cvl lk rfl) (hga hn rfl) rfl (nb' rfl) rfl ZoY (hs1 hn)) ptn<|sn'<|wr'<|V' (Zau lk (hga hn rfl) ZoW rfl) pt<|mv' lk pt<|V' (Zaa lk) pt<|V' (Zac lk (hga hn rfl) gt1) pt<|V' (ZaK lk) pt<|?_
  refine V' (ZcC lk lki (by omega) (by omega)) pt ?_
  refine V' (ZaX lk lk) pt<|Zae mp (era_b (last:=decide ((k:Int)=(l.length:Int)-1)) ho.1 ho.2) pt<|mv' lk pt<|sn'<|wr'<|mv' lk pt<|V' (Za6 lk lki) pt<|sn'<|?_
  refine cd' lk (fun hc3=>?_) (fun hc3=>?_)
  ·have hc3':eraX l[k] (decide ((k:Int)=(l.length:Int)-1))≠0:=hc3
   rw [if_pos hc3'] at hk2
   refine wr'<|mv' lk pt<|mv' lk pt<|sn'<|Zab<|Zaq<|Zak<|Zak<|Zaq<|Zak<|Zag rz<|rT'<|?_
   rw [hZ,hk2]
  have hc3':¬eraX l[k] (decide ((k:Int)=(l.length:Int)-1))≠0:=hc3
  rw [if_neg hc3'] at hk2
  refine Zaf<|ZaF<|Zai<|Zar<|?_
  refine V' (ZaE lk lki (by omega) (by omega)) pt ?_
  refine mv' lk pt<|Zas<|ZaI<|?_
  refine lU' (k+1) (by (try dsimp only);exact ⟨by omega,hk2⟩) (by (try dsimp only);(try simp only [sm',Nat.reduceAdd]);exact bk' 1 hn hlt)
 rw [List.drop_of_length_le (by omega)] at hk2
 refine Za0<|ZaO<|ZaO<|Zbp<|Zai<|wr'<|mv' lki pt<|sn'<|Zab<|Zag rz<|rT'<|?_
 rw [hZ,hk2];rfl
def ZbK {α:Type}(p:α→Int):List α→Int
 | []=>0
 | x::xs=>if p x≠0 then p x else ZbK p xs
theorem ZeO {α:Type}{p:α→Int}{l:List α}{k:Nat}(h:k<l.length):ZbK p (l.drop k)=if p l[k]≠0 then p l[k] else ZbK p (l.drop (k+1)):=by
 rw [List.drop_eq_getElem_cons h,ZbK]
theorem ZqR {p:Rul→Int}{f:FuncId}{l:List Rul}(hp : ∀ x∈l,∀ h:AH,ACalls Tryz.prog f [.agg (rulC x)] h fun y h'=>h'=h∧y=.ret (iv (p x))) {h:AH}:Ac 42 [.sl l.length 11 false (rows rulC l),.v (.func (.func f) #[] #[])] h (iv (ZbK p l)):=by
 refine tI' k42 fun N hn hlt hlA hbd=>?_
 simp only [tb'] at hbd ⊢
 refine wr'<|mv' lki pt<|sn'<|Zam<|wr'<|mv' lk pt<|V' (ZaK lk) pt<|mv' lki pt<|sn'<|Zao<|?_
 refine w_lp (ι:=Nat) (fun (k:Nat)=>[(10,iv (k:Int)),(4,.any),(6,.any),(7,.any)]++rn' 11 10) (fun (k:Nat)=>[]) (fun (k:Nat)=>k≤l.length∧ZbK p l=ZbK p (l.drop k)) (fun (k:Nat)=>l.length-k) (0) (by exact ⟨Nat.zero_le _,rfl⟩) ?_
 rintro k hi1
 try simp only [sm',Nat.reduceAdd]
 obtain ⟨hk1,hk2⟩:=hi1
 refine wr'<|V' (Zbu lk lk) pt<|sn'<|Zam<|?_
 refine cd' lk (fun hc1=>?_) (fun hc1=>?_)
 ·have hk:k<l.length:=by omega
  rw [ZeO hk] at hk2
  refine Zaf<|Zai<|Zam<|Zao<|wr'<|?_
  refine V' (Zbg lk lk Zem (nb' rfl) ro (by omega) ro rfl) pt ?_
  refine V' (Zbk lk Zrs rfl) pt<|E' (Zbq (hl0 hn) ha0) pt<|E' (Zal lk (cvl lk rfl) (hga hn rfl) rfl (nb' rfl) rfl ZoX (hs0 hn)) ptn<|sn'<|wr'<|mv' lk pt<|V' (Zau lk (hga hn rfl) ZoV rfl) pt<|Ziu lk mp (hp _ (List.getElem_mem hk) _) pt<|mv' lk pt<|sn'<|Zam<|?_
  refine Zar<|mv' lk pt<|V' (Za6 lk lki) pt<|sn'<|?_
  refine cd' lk (fun hc2=>?_) (fun hc2=>?_)
  ·rw [if_pos hc2] at hk2
   refine wr'<|mv' lk pt<|mv' lk pt<|sn'<|Zab<|Zaq<|Zak<|Zak<|Zaq<|Zak<|Zag rz<|rT'<|?_
   rw [hk2]
  rw [if_neg hc2] at hk2
  refine Zaf<|ZaF<|Zai<|Zar<|?_
  refine V' (ZaE lk lki (by omega) (by omega)) pt ?_
  refine mv' lk pt<|Zas<|ZaI<|?_
  refine lU' (k+1) (by (try dsimp only);exact ⟨by omega,hk2⟩) (by (try dsimp only);(try simp only [sm',Nat.reduceAdd]);exact bk' 0 hn hlt)
 rw [List.drop_of_length_le (by omega)] at hk2
 refine Za0<|ZaO<|ZaO<|Zbp<|Zai<|wr'<|mv' lki pt<|sn'<|Zab<|Zag rz<|rT'<|?_
 rw [hk2];rfl
theorem ZqQ {p:Zon→Int}{f:FuncId}{l:List Zon}(hp : ∀ x∈l,∀ h:AH,ACalls Tryz.prog f [.agg (zonC x)] h fun y h'=>h'=h∧y=.ret (iv (p x))) {h:AH}:Ac 44 [.sl l.length 2 false (rows zonC l),.v (.func (.func f) #[] #[])] h (iv (ZbK p l)):=by
 refine tI' k44 fun N hn hlt hlA hbd=>?_
 simp only [tb'] at hbd ⊢
 refine wr'<|mv' lki pt<|sn'<|Zam<|wr'<|mv' lk pt<|V' (ZaK lk) pt<|mv' lki pt<|sn'<|Zao<|?_
 refine w_lp (ι:=Nat) (fun (k:Nat)=>[(10,iv (k:Int)),(4,.any),(6,.any),(7,.any)]++rn' 11 10) (fun (k:Nat)=>[]) (fun (k:Nat)=>k≤l.length∧ZbK p l=ZbK p (l.drop k)) (fun (k:Nat)=>l.length-k) (0) (by exact ⟨Nat.zero_le _,rfl⟩) ?_
 rintro k hi1
 try simp only [sm',Nat.reduceAdd]
 obtain ⟨hk1,hk2⟩:=hi1
 refine wr'<|V' (Zbu lk lk) pt<|sn'<|Zam<|?_
 refine cd' lk (fun hc1=>?_) (fun hc1=>?_)
 ·have hk:k<l.length:=by omega
  rw [ZeO hk] at hk2
  refine Zaf<|Zai<|Zam<|Zao<|wr'<|?_
  refine V' (Zbg lk lk ZdT (nb' rfl) ro (by omega) ro rfl) pt ?_
  refine V' (Zbk lk Zjo rfl) pt<|E' (Zbq (hl0 hn) ha0) pt<|E' (Zal lk (cvl lk rfl) (hga hn rfl) rfl (nb' rfl) rfl Zhz (hs0 hn)) ptn<|sn'<|wr'<|mv' lk pt<|V' (Zau lk (hga hn rfl) ZkA rfl) pt<|Ziu lk mp (hp _ (List.getElem_mem hk) _) pt<|mv' lk pt<|sn'<|Zam<|?_
  refine Zar<|mv' lk pt<|V' (Za6 lk lki) pt<|sn'<|?_
  refine cd' lk (fun hc2=>?_) (fun hc2=>?_)
  ·rw [if_pos hc2] at hk2
   refine wr'<|mv' lk pt<|mv' lk pt<|sn'<|Zab<|Zaq<|Zak<|Zak<|Zaq<|Zak<|Zag rz<|rT'<|?_
   rw [hk2]
  rw [if_neg hc2] at hk2
  refine Zaf<|ZaF<|Zai<|Zar<|?_
  refine V' (ZaE lk lki (by omega) (by omega)) pt ?_
  refine mv' lk pt<|Zas<|ZaI<|?_
  refine lU' (k+1) (by (try dsimp only);exact ⟨by omega,hk2⟩) (by (try dsimp only);(try simp only [sm',Nat.reduceAdd]);exact bk' 0 hn hlt)
 rw [List.drop_of_length_le (by omega)] at hk2
 refine Za0<|ZaO<|ZaO<|Zbp<|Zai<|wr'<|mv' lki pt<|sn'<|Zab<|Zag rz<|rT'<|?_
 rw [hk2];rfl
theorem Zkc {p:Lnk→Int}{f:FuncId}{l:List Lnk}(hp : ∀ x∈l,∀ h:AH,ACalls Tryz.prog f [.agg (lnkC x)] h fun y h'=>h'=h∧y=.ret (iv (p x))) {h:AH}:Ac 46 [.sl l.length 2 false (rows lnkC l),.v (.func (.func f) #[] #[])] h (iv (ZbK p l)):=by
 refine tI' k46 fun N hn hlt hlA hbd=>?_
 simp only [tb'] at hbd ⊢
 refine wr'<|mv' lki pt<|sn'<|Zam<|wr'<|mv' lk pt<|V' (ZaK lk) pt<|mv' lki pt<|sn'<|Zao<|?_
 refine w_lp (ι:=Nat) (fun (k:Nat)=>[(10,iv (k:Int)),(4,.any),(6,.any),(7,.any)]++rn' 11 10) (fun (k:Nat)=>[]) (fun (k:Nat)=>k≤l.length∧ZbK p l=ZbK p (l.drop k)) (fun (k:Nat)=>l.length-k) (0) (by exact ⟨Nat.zero_le _,rfl⟩) ?_
 rintro k hi1
 try simp only [sm',Nat.reduceAdd]
 obtain ⟨hk1,hk2⟩:=hi1
 refine wr'<|V' (Zbu lk lk) pt<|sn'<|Zam<|?_
 refine cd' lk (fun hc1=>?_) (fun hc1=>?_)
 ·have hk:k<l.length:=by omega
  rw [ZeO hk] at hk2
  refine Zaf<|Zai<|Zam<|Zao<|wr'<|?_
  refine V' (Zbg lk lk ZdV (nb' rfl) ro (by omega) ro rfl) pt ?_
  refine V' (Zbk lk Zjo rfl) pt<|E' (Zbq (hl0 hn) ha0) pt<|E' (Zal lk (cvl lk rfl) (hga hn rfl) rfl (nb' rfl) rfl Zhz (hs0 hn)) ptn<|sn'<|wr'<|mv' lk pt<|V' (Zau lk (hga hn rfl) ZkA rfl) pt<|Ziu lk mp (hp _ (List.getElem_mem hk) _) pt<|mv' lk pt<|sn'<|Zam<|?_
  refine Zar<|mv' lk pt<|V' (Za6 lk lki) pt<|sn'<|?_
  refine cd' lk (fun hc2=>?_) (fun hc2=>?_)
  ·rw [if_pos hc2] at hk2
   refine wr'<|mv' lk pt<|mv' lk pt<|sn'<|Zab<|Zaq<|Zak<|Zak<|Zaq<|Zak<|Zag rz<|rT'<|?_
   rw [hk2]
  rw [if_neg hc2] at hk2
  refine Zaf<|ZaF<|Zai<|Zar<|?_
  refine V' (ZaE lk lki (by omega) (by omega)) pt ?_
  refine mv' lk pt<|Zas<|ZaI<|?_
  refine lU' (k+1) (by (try dsimp only);exact ⟨by omega,hk2⟩) (by (try dsimp only);(try simp only [sm',Nat.reduceAdd]);exact bk' 0 hn hlt)
 rw [List.drop_of_length_le (by omega)] at hk2
 refine Za0<|ZaO<|ZaO<|Zbp<|Zai<|wr'<|mv' lki pt<|sn'<|Zab<|Zag rz<|rT'<|?_
 rw [hk2];rfl
def Ze1 (s:Src):Bool:=s.2.1.any (fun z=>decide (8<z.2.length))||decide (40<s.1.length)||decide (20<s.2.1.length)||decide (20<s.2.2.length)
theorem many_b {a:List Rul}{z:List Zon}{l:List Lnk}{h:AH}:Ac 41 [.agg [.sl a.length 11 false (rows rulC a),.sl z.length 2 false (rows zonC z),.sl l.length 2 false (rows lnkC l)]] h (bv (Ze1 (a,z,l))):=by
 refine tI' k41 fun N hn hlt hlA hbd=>?_
 simp only [tb'] at hbd ⊢
 refine wr'<|E' (Zcm (cvl lk rfl) rfl (hl0 hn) ha0) pt<|mv' lkb pt<|sn'<|Zam<|wr'<|V' (Zaa lk) pt<|V' (Zac lk (hga hn rfl) gt1) pt<|V' (ZaK lk) pt<|mv' lki pt<|Zas<|?_
 refine Zai<|Zao<|?_
 refine w_lp (ι:=Nat) (fun (k:Nat)=>[(8,iv (k:Int)),(2,.any),(4,.any)]++rn' 9 8) (fun (k:Nat)=>[]) (fun (k:Nat)=>k≤z.length∧(z.take k).any (fun z=>decide (8<z.2.length))=false) (fun (k:Nat)=>z.length-k) (0) (by exact ⟨Nat.zero_le _,rfl⟩) ?_
 rintro k hi1
 try simp only [sm',Nat.reduceAdd]
 obtain ⟨hk1,hk2⟩:=hi1
 refine wr'<|V' (Zbu lk lk) pt<|sn'<|Zam<|?_
 refine cd' lk (fun hc1=>?_) (fun hc1=>?_)
 ·have hk:k<z.length:=by omega
  refine Zaf<|Zai<|Zam<|Zao<|wr'<|?_
  refine V' (Zbg lk lk ZdT (nb' rfl) ro (by omega) ro rfl) pt ?_
  refine V' (Zbk lk Zjo rfl) pt<|E' (Zbq (hl1 hn) ha1) pt<|E' (Zal lk (cvl lk rfl) (hga hn rfl) rfl (nb' rfl) rfl Zhz (hs1 hn)) ptn<|sn'<|wr'<|V' (Zaa lk) pt<|V' (Zac lk (hga hn rfl) gt1) pt<|?_
  refine V' ((by first | exact ZaK lk | exact Zdr lk)) pt ?_
  refine V' (ZbN lk lki) pt<|sn'<|?_
  refine cd' lk (fun hc2=>?_) (fun hc2=>?_)
  ·have hA:z.any (fun z=>decide (8<z.2.length))=true:=List.any_eq_true.2 ⟨z[k],List.getElem_mem hk,decide_eq_true (by omega)⟩
   refine wr'<|mv' lkb pt<|sn'<|Zab<|Zaq<|Zak<|Zak<|Zaq<|Zak<|Zag rz<|rT'<|?_
   refine bvx ?_;unfold Ze1;rw [hA];simp
  refine Zaf<|ZaF<|Zai<|Zar<|?_
  refine V' (ZaE lk lki (by omega) (by omega)) pt ?_
  refine mv' lk pt<|Zas<|ZaI<|?_
  refine lU' (k+1) (by (try dsimp only);exact ⟨by omega,by rw [List.take_succ_eq_append_getElem hk,List.any_append,hk2];simp;omega⟩) (by (try dsimp only);(try simp only [sm',Nat.reduceAdd]);exact bk' 1 hn hlt)
 rw [List.take_of_length_le (by omega)] at hk2
 refine Za0<|ZaO<|ZaO<|Zbp<|Zai<|wr'<|V' (Zaa lk) pt<|V' (Zac lk (hga hn rfl) gt0) pt<|V' (ZaK lk) pt<|V' (ZbN lk lki) pt<|mv' lk pt<|?_
 refine sp' (t:=21) gt pt pt (fun hg21=>?_) (fun hg21=>?_)
 ·refine s_no gt pt<|s_no gt pt<|s_no gt pt<|s_no gt pt<|V' (Zaj lk lkb) pt<|mv' lk pt<|s_no gt pt<|s_no gt pt<|s_no gt pt<|s_no gt pt<|V' (Zaj lk lkb) pt<|mv' lk pt<|sn'<|?_
  refine Zab<|Zag rz<|rT'<|?_
  refine bvx ?_;unfold Ze1;rw [hk2];rw [Bool.eq_iff_iff];simp;omega
 refine s_do gt<|V' (Zaa lk) pt<|s_do gt<|V' (Zac lk (hga hn rfl) gt1) pt<|s_do gt<|V' (ZaK lk) pt<|s_do gt<|V' (ZbN lk lki) pt<|V' (Zah lk lk) pt<|mv' lk pt<|?_
 refine sp' (t:=27) gt pt pt (fun hg27=>?_) (fun hg27=>?_)
 ·refine s_no gt pt<|s_no gt pt<|s_no gt pt<|s_no gt pt<|V' (Zaj lk lkb) pt<|mv' lk pt<|sn'<|Zab<|Zag rz<|rT'<|?_
  refine bvx ?_;unfold Ze1;rw [hk2];rw [Bool.eq_iff_iff];simp;omega
 refine s_do gt<|V' (Zaa lk) pt<|s_do gt<|V' (Zac lk (hga hn rfl) gt2) pt<|s_do gt<|V' (ZaK lk) pt<|s_do gt<|V' (ZbN lk lki) pt<|V' (Zah lk lk) pt<|mv' lk pt<|sn'<|Zab<|Zag rz<|?_
 refine rT' ?_
 refine bvx ?_;unfold Ze1;rw [hk2];rw [Bool.eq_iff_iff];simp;omega
def ZeJ (s:Src):Prop:=(∀ r∈s.1,r.1.size≤maxLen∧r.2.2.2.2.2.2.2.2.size≤maxLen)∧(∀ z∈s.2.1,z.1.size≤maxLen ∧ ∀ x∈z.2,ZsO x) ∧ ∀ l∈s.2.2,l.1.size≤maxLen∧l.2.size≤maxLen
def ZbT (s:Src):Int:=if Ze1 s=true then 2 else if ZbK Zde s.1≠0 then ZbK Zde s.1 else if ZbK Zei s.2.1≠0 then ZbK Zei s.2.1 else ZbK ZdW s.2.2
theorem ZkW {a:List Rul}{z:List Zon}{l:List Lnk}{h:AH}(hok:ZeJ (a,z,l)):Ac 17 [.agg [.sl a.length 11 false (rows rulC a),.sl z.length 2 false (rows zonC z),.sl l.length 2 false (rows lnkC l)]] h (iv (ZbT (a,z,l))):=by
 have p1 : ∀ x∈a,∀ h:AH,ACalls Tryz.prog 43 [.agg (rulC x)] h fun y h'=>h'=h∧y=.ret (iv (Zde x)):=fun x hx h=>rule_b (hok.1 x hx).1 (hok.1 x hx).2
 have p2 : ∀ x∈z,∀ h:AH,ACalls Tryz.prog 45 [.agg (zonC x)] h fun y h'=>h'=h∧y=.ret (iv (Zei x)):=fun x hx h=>zone_b (hok.2.1 x hx).1 (hok.2.1 x hx).2
 have p3 : ∀ x∈l,∀ h:AH,ACalls Tryz.prog 47 [.agg (lnkC x)] h fun y h'=>h'=h∧y=.ret (iv (ZdW x)):=fun x hx h=>link_b (hok.2.2 x hx).1 (hok.2.2 x hx).2
 refine tI' k17 fun N hn hlt hlA hbd=>?_
 simp only [tb'] at hbd ⊢
 refine wr'<|E' (Zcm (cvl lk rfl) rfl (hl0 hn) ha0) pt<|mv' lki pt<|sn'<|Zam<|wr'<|V' (Zau lk (hga hn rfl) Zrv rfl) pt<|Zae mp (many_b) pt<|sn'<|?_
 refine Zaw lk (fun hc1=>?_) (fun hc1=>?_)
 ·refine wr'<|mv' lki pt<|sn'<|Zab<|Zak<|Zag rz<|rT'<|?_
  refine ivx ?_;unfold ZbT;simp_all
 refine Zaf<|Zai<|wr'<|V' (Zaa lk) pt<|V' (Zac lk (hga hn rfl) gt0) pt<|Zae mp (ZqR p1) pt<|mv' lk pt<|sn'<|Zam<|wr'<|mv' lk pt<|?_
 refine V' (ZaX lk lki) pt<|sn'<|?_
 refine cd' lk (fun hc2=>?_) (fun hc2=>?_)
 ·refine Zar<|V' (Zaa lk) pt<|V' (Zac lk (hga hn rfl) gt1) pt<|Zae mp (ZqQ p2) pt<|mv' lk pt<|sn'<|Zam<|wr'<|mv' lk pt<|V' (ZaX lk lki) pt<|sn'<|?_
  refine cd' lk (fun hc3=>?_) (fun hc3=>?_)
  ·refine Zar<|V' (Zaa lk) pt<|V' (Zac lk (hga hn rfl) gt2) pt<|Zae mp (Zkc p3) pt<|mv' lk pt<|sn'<|wr'<|mv' lk pt<|mv' lk pt<|sn'<|Zab<|?_
   refine Zag rz<|rT'<|?_
   refine ivx ?_;unfold ZbT;simp_all
  refine Zaf<|Zai<|wr'<|mv' lk pt<|mv' lk pt<|sn'<|Zab<|Zag rz<|rT'<|?_
  refine ivx ?_;unfold ZbT;simp_all
 refine Zaf<|Zai<|Zam<|wr'<|mv' lk pt<|V' (ZaX lk lki) pt<|sn'<|?_
 refine cd' lk (fun hc3=>?_) (fun hc3=>?_)
 ·refine Zar<|V' (Zaa lk) pt<|V' (Zac lk (hga hn rfl) gt2) pt<|Zae mp (Zkc p3) pt<|mv' lk pt<|sn'<|wr'<|mv' lk pt<|mv' lk pt<|sn'<|Zab<|?_
  refine Zag rz<|rT'<|?_
  refine ivx ?_;unfold ZbT;simp_all
 refine Zaf<|Zai<|wr'<|mv' lk pt<|mv' lk pt<|sn'<|Zab<|Zag rz<|rT'<|?_
 refine ivx ?_;unfold ZbT;simp_all
end Go.Proofs.YtgjchdhdopgkkaaGreatDoor
end
section
namespace Go.Proofs.YtgjchdhdopgkkaaGreatDoor
open Go.Ab
abbrev TS:=List ByteArray×Bool
abbrev bad (t:TS):TS:=(t.1,true)
def Za1 (t:TS):ByteArray×TS:=if t.2=true∨t.1=[] then (⟨#[]⟩,bad t) else (t.1.headD ⟨#[]⟩,t.1.tail,false)
def decL:Int→Bs→Int
 | n,[]=>n
 | n,c::l=>decL (10*n+c.toNat-48) l
def numV (s:ByteArray) (a b:Int):Option Int:=if wi s.size a b=true∧allB digB s=true then some (decL 0 (aB s)) else none
def tNum (s:ByteArray) (a b:Int) (t:TS):Int×TS:=match numV s a b with
 | some n=>(n,t)
 | none=>(0,bad t)
def Zft (t:TS):ByteArray×TS:=((Za1 t).1,if ZbL (Za1 t).1=true then (Za1 t).2 else bad (Za1 t).2)
def idxL:List ByteArray→ByteArray→Int→Option Int
 | [],_,_=>none
 | x::l,s,d=>if s=x then some d else idxL l s (d+1)
def monL:List ByteArray:=[bA [74,97,110],bA [70,101,98],bA [77,97,114],bA [65,112,114],bA [77,97,121],bA [74,117,110],bA [74,117,108],bA [65,117,103],bA [83,101,112],bA [79,99,116],bA [78,111,118],bA [68,101,99]]
def dayL:List ByteArray:=[bA [83,117,110],bA [77,111,110],bA [84,117,101],bA [87,101,100],bA [84,104,117],bA [70,114,105],bA [83,97,116]]
def Zea (t:TS):Int×TS:=match idxL monL (Za1 t).1 1 with
 | some n=>(n,(Za1 t).2)
 | none=>(0,bad (Za1 t).2)
def ZeD (s:ByteArray) (t:TS):Int×TS:=match idxL dayL s 0 with
 | some n=>(n,t)
 | none=>(0,bad t)
def ZbF (s:ByteArray) (k:Nat):Int:=(Zaz s k).toNat
def ZbR (s:ByteArray):Nat:=if 4≤s.size∧s.extract 0 4=bA [108,97,115,116] then 2 else if 5<s.size∧ZbF s 4=61∧ZbF s 3=62 then 3 else if 5<s.size∧ZbF s 4=61∧ZbF s 3=60 then 4 else 1
def Zcg (s:ByteArray) (t:TS):Frm×TS :=
 if ZbR s=2 then ((2,(ZeD (s.extract 4 s.size) t).1,0),(ZeD (s.extract 4 s.size) t).2)
 else if ZbR s=1 then ((1,0,(tNum s 1 2 t).1),(tNum s 1 2 t).2)
 else ((ZbR s,(ZeD (s.extract 0 3) t).1,(tNum (s.extract 5 s.size) 1 2 (ZeD (s.extract 0 3) t).2).1),(tNum (s.extract 5 s.size) 1 2 (ZeD (s.extract 0 3) t).2).2)
def Zhj (t:TS):Frm×TS:=Zcg (Za1 t).1 (Za1 t).2
def tSix (s:ByteArray) (t:TS):Int×TS:=((tNum s 2 2 t).1,if (tNum s 2 2 t).1>59 then bad (tNum s 2 2 t).2 else (tNum s 2 2 t).2)
def Zfs (l:List Bs) (t:TS):Int×TS:=match l with
 | [a,b]=>(3600*(tNum (bA a) 1 2 t).1+60*(tSix (bA b) (tNum (bA a) 1 2 t).2).1,(tSix (bA b) (tNum (bA a) 1 2 t).2).2)
 | [a,b,c]=>(3600*(tNum (bA a) 1 2 t).1+60*(tSix (bA b) (tNum (bA a) 1 2 t).2).1+(tSix (bA c) (tSix (bA b) (tNum (bA a) 1 2 t).2).2).1,(tSix (bA c) (tSix (bA b) (tNum (bA a) 1 2 t).2).2).2)
 | _=>(0,bad t)
def Zb3 (s:ByteArray) (t:TS):Int×TS:=if s=bA [48] then (0,t) else Zfs (cutC 58 (aB s)) t
def wsuA:ByteArray:=bA [63,119,115,117]
def ZdY (c d:Int):Nat→Int
 | 0=>d
 | k+1=>if c=ZbF wsuA (k+1) then ((k+1:Nat):Int) else ZdY c d k
def ZbA (s:ByteArray):Int:=ZbF s (s.size-1)
def ZeA (d:Int) (s:ByteArray) (t:TS):(Int×Int)×TS :=
 if s.size=0 then (((Zb3 s t).1,d),(Zb3 s t).2)
 else if digB (ZbA s)=true then (((Zb3 s t).1,ZdY (ZbA s) d 3),(Zb3 s t).2)
 else let u:TS:=if ZbA s=ZbF wsuA (ZdY (ZbA s) d 3).toNat then t else bad t
  (((Zb3 (s.extract 0 (s.size-1)) u).1,ZdY (ZbA s) d 3),(Zb3 (s.extract 0 (s.size-1)) u).2)
def Zdt (d:Int) (t:TS):(Int×Int)×TS:=ZeA d (Za1 t).1 (Za1 t).2
def Zk8:ByteArray:=bA [111,110,108,121]
def maxA:ByteArray:=bA [109,97,120]
def tTo (f:Int) (s:ByteArray) (t:TS):Int×TS:=if s=Zk8 then (f,t) else if s=maxA then (2100,t) else tNum s 4 4 t
def ZdM (s:ByteArray):Bool:=decide (s≠⟨#[]⟩)&&(decide (s=bA [45])||ZbZ s)
def Zcn {α β:Type}(f:TS→α×TS) (k:α→TS→β×TS) (t:TS):β×TS:=k (f t).1 (f t).2
def ret2 {α:Type}(a:α) (t:TS):α×TS:=(a,t)
def Zr8 (t:TS):Int×TS:=tNum (Za1 t).1 4 4 (Za1 t).2
def tToN (f:Int) (t:TS):Int×TS:=tTo f (Za1 t).1 (Za1 t).2
def Zsa (t:TS):Int×TS:=Zb3 (Za1 t).1 (Za1 t).2
def ZdJ (t:TS):ByteArray×TS:=(if (Za1 t).1=bA [45] then ⟨#[]⟩ else (Za1 t).1,if ZdM (Za1 t).1=true then (Za1 t).2 else bad (Za1 t).2)
def ZkN:TS→Rul×TS :=
 Zcn Zft fun nm=>Zcn Zr8 fun f=>Zcn (tToN f) fun t2=>Zcn Zea fun m=>Zcn Zhj fun k=>Zcn (Zdt 1) fun c=>Zcn Zsa fun sv=>Zcn ZdJ fun l=>ret2 (nm,f,t2,m,k,c.1,c.2,sv,l)
def Zee (s:ByteArray):Int:=ZbF s 0
def Zgz (t:TS):Int×TS:=if (Za1 t).1.size≠0∧Zee (Za1 t).1=45 then (-(Zb3 ((Za1 t).1.extract 1 (Za1 t).1.size) (Za1 t).2).1,(Zb3 ((Za1 t).1.extract 1 (Za1 t).1.size) (Za1 t).2).2) else Zb3 (Za1 t).1 (Za1 t).2
def Zez (s:ByteArray) (t:TS):(Int×ByteArray)×TS :=
 if s=bA [45] then ((0,⟨#[]⟩),t)
 else if s.size≠0∧digB (Zee s)=true then (((Zb3 s (if s=bA [48] then bad t else t)).1,⟨#[]⟩),(Zb3 s (if s=bA [48] then bad t else t)).2)
 else ((0,s),if ZbL s=true then t else bad t)
def Zsb (t:TS):(Int×ByteArray)×TS:=Zez (Za1 t).1 (Za1 t).2
def Zim (t:TS):ByteArray×TS:=((Za1 t).1,if Zb0 (Za1 t).1=true then (Za1 t).2 else bad (Za1 t).2)
def tDay (t:TS):Int×TS:=tNum (Za1 t).1 1 2 (Za1 t).2
def Zr9 (c:Int×Int) (t:TS):Unit×TS:=((),if c.2=1 then bad t else t)
def ZhE:TS→Unt×TS :=
 Zcn Zr8 fun y=>Zcn Zea fun m=>Zcn tDay fun d=>Zcn (Zdt 2) fun c=>Zcn (Zr9 c) fun _=>ret2 ((y,m,d),c.1,c.2)
def untZ:Unt:=((0,0,0),0,0)
def tEnd (t:TS):(Bool×Unt)×TS:=if t.1=[] then ((true,untZ),t) else ((false,(ZhE t).1),(ZhE t).2)
def tEra:TS→Era×TS :=
 Zcn Zgz fun sh=>Zcn Zsb fun r=>Zcn Zim fun f=>Zcn tEnd fun u=>ret2 (sh,r.2,r.1,f,u.1,u.2)
def Zbf:List ByteArray→Option (ByteArray×List ByteArray)
 | []=>none
 | x::l=>some (x,l)
abbrev RM (α:Type):=List ByteArray→Option (α×List ByteArray)
def ZaN {α β:Type}(f:RM α) (k:α→RM β):RM β:=fun l=>match f l with
 | none=>none
 | some p=>k p.1 p.2
def retR {α:Type}(a:α):RM α:=fun l=>some (a,l)
def Zbs {α:Type}(o:Option α):RM α:=fun l=>match o with
 | none=>none
 | some a=>some (a,l)
def ZcI:RM ByteArray:=ZaN Zbf fun s=>Zbs (if ZbL s=true then some s else none)
def Zdg:RM Int:=ZaN Zbf fun s=>Zbs (idxL monL s 1)
def sixV (s:ByteArray):Option Int:=match numV s 2 2 with
 | some n=>if n>59 then none else some n
 | none=>none
def ZbV (s:ByteArray):Option Int:=if s=bA [48] then some 0 else match cutC 58 (aB s) with
 | [a,b]=>match numV (bA a) 1 2,sixV (bA b) with
  | some x,some y=>some (3600*x+60*y)
  | _,_=>none
 | [a,b,c]=>match numV (bA a) 1 2,sixV (bA b),sixV (bA c) with
  | some x,some y,some z=>some (3600*x+60*y+z)
  | _,_,_=>none
 | _=>none
def Zdf (s:ByteArray):Option Frm :=
 if ZbR s=2 then (match idxL dayL (s.extract 4 s.size) 0 with
  | some w=>some (2,w,0)
  | none=>none)
 else if ZbR s=1 then (match numV s 1 2 with
  | some n=>some (1,0,n)
  | none=>none)
 else match idxL dayL (s.extract 0 3) 0,numV (s.extract 5 s.size) 1 2 with
  | some w,some n=>some ((ZbR s:Int),w,n)
  | _,_=>none
def wsuK (c:Int):Option Int:=if c=119 then some 1 else if c=115 then some 2 else if c=117 then some 3 else none
def Zcy (d:Int) (s:ByteArray):Option (Int×Int):=match (if s.size=0 then none else wsuK (ZbA s)) with
 | some k=>(match ZbV (s.extract 0 (s.size-1)) with
  | some n=>some (n,k)
  | none=>none)
 | none=>(match ZbV s with
  | some n=>some (n,d)
  | none=>none)
def toV (f:Int) (s:ByteArray):Option Int:=if s=Zk8 then some f else if s=maxA then some 2100 else numV s 4 4
def Zda (s:ByteArray):Option ByteArray:=if ZdM s=true then some (if s=bA [45] then ⟨#[]⟩ else s) else none
def ZgK:RM Rul :=
 ZaN ZcI fun nm=>ZaN (ZaN Zbf fun s=>Zbs (numV s 4 4)) fun f=>ZaN (ZaN Zbf fun s=>Zbs (toV f s)) fun t2=>ZaN Zdg fun m=>ZaN (ZaN Zbf fun s=>Zbs (Zdf s)) fun k =>
  ZaN (ZaN Zbf fun s=>Zbs (Zcy 1 s)) fun c=>ZaN (ZaN Zbf fun s=>Zbs (ZbV s)) fun sv=>ZaN (ZaN Zbf fun s=>Zbs (Zda s)) fun l=>retR (nm,f,t2,m,k,c.1,c.2,sv,l)
def ZeF (s:ByteArray):Option Int:=if s.size≠0∧Zee s=45 then (match ZbV (s.extract 1 s.size) with
  | some n=>some (-n)
  | none=>none) else ZbV s
def Zdw (s:ByteArray):Option (Int×ByteArray) :=
 if s=bA [45] then some (0,⟨#[]⟩)
 else if s.size≠0∧digB (Zee s)=true∧s≠bA [48] then (match ZbV s with
  | some n=>some (n,⟨#[]⟩)
  | none=>none)
 else if ZbL s=true then some (0,s) else none
def Zfk:RM Unt :=
 ZaN (ZaN Zbf fun s=>Zbs (numV s 4 4)) fun y=>ZaN Zdg fun m=>ZaN (ZaN Zbf fun s=>Zbs (numV s 1 2)) fun d=>ZaN (ZaN Zbf fun s=>Zbs (Zcy 2 s)) fun c=>ZaN (Zbs (if c.2=1 then none else some ())) fun _=>retR ((y,m,d),c.1,c.2)
def rEnd:RM (Bool×Unt):=fun l=>if l=[] then some ((true,untZ),l) else match Zfk l with
 | some p=>some ((false,p.1),p.2)
 | none=>none
def rEra:RM Era :=
 ZaN (ZaN Zbf fun s=>Zbs (ZeF s)) fun sh=>ZaN (ZaN Zbf fun s=>Zbs (Zdw s)) fun r=>ZaN (ZaN Zbf fun s=>Zbs (if Zb0 s=true then some s else none)) fun f=>ZaN rEnd fun u=>retR (sh,r.2,r.1,f,u.1,u.2)
def Agr {α:Type}(f:TS→α×TS) (g:RM α):Prop := ∀ l,(f (l,true)).2.2=true∧match g l with
 | none=>(f (l,false)).2.2=true
 | some p=>f (l,false)=(p.1,p.2,false)
theorem Agr.bind {α β:Type}{f:TS→α×TS}{g:RM α}{k:α→TS→β×TS}{m:α→RM β}(h:Agr f g) (hk : ∀ a,Agr (k a) (m a)):Agr (Zcn f k) (ZaN g m):=by
 have stay : ∀ (a:α) (t:TS),t.2=true→(k a t).2.2=true:=by
  rintro a ⟨l,b⟩ rfl;exact (hk a l).1
 intro l
 refine ⟨stay _ _ (h l).1,?_⟩
 have h2:=(h l).2
 unfold ZaN Zcn
 revert h2
 cases hg:g l with
 | none=>exact fun h2=>stay _ _ h2
 | some p=>intro h2;simp only at h2;rw [h2];exact (hk p.1 p.2).2
theorem Agr.ret {α:Type}(a:α):Agr (ret2 a) (retR a):=fun l=>⟨rfl,rfl⟩
theorem agr_next:Agr Za1 Zbf:=by
 intro l
 cases l with
 | nil=>exact ⟨rfl,rfl⟩
 | cons x l=>exact ⟨rfl,rfl⟩
def AgO {α:Type}(o:Option α) (x:α×TS) (l:List ByteArray):Prop:=match o with
 | none=>x.2.2=true
 | some a=>x=(a,l,false)
theorem Agr.lift {α:Type}{f:TS→α×TS}{o:Option α}(hb : ∀ t:TS,t.2=true→(f t).2.2=true) (hf : ∀ l,AgO o (f (l,false)) l):Agr f (Zbs o):=by
 intro l
 refine ⟨hb _ rfl,?_⟩
 have:=hf l
 unfold Zbs
 cases o <;> exact this
theorem ZlG (s:ByteArray) (a b:Int):Agr (tNum s a b) (Zbs (numV s a b)):=by
 refine Agr.lift (fun t h=>?_) (fun l=>?_)
 ·unfold tNum;split <;> simp_all
 ·unfold tNum;cases numV s a b <;> rfl
theorem ZeE {s:ByteArray}{a b:Int}{t:TS}(h:t.2=true):(tNum s a b t).2.2=true:=by unfold tNum;split <;> simp_all
theorem ZjL {s:ByteArray}{t:TS}(h:t.2=true):(ZeD s t).2.2=true:=by unfold ZeD;split <;> simp_all
theorem Zd7 {s:ByteArray}{t:TS}(h:t.2=true):(tSix s t).2.2=true:=by unfold tSix;have:=ZeE (s:=s) (a:=2) (b:=2) h;split <;> simp_all
theorem ZcO {s:ByteArray}{t:TS}(h:t.2=true):(Zb3 s t).2.2=true:=by
 unfold Zb3
 split
 ·exact h
 ·unfold Zfs
  split
  ·exact Zd7 (ZeE h)
  ·exact Zd7 (Zd7 (ZeE h))
  ·rfl
theorem Zd8 {s:ByteArray}{a b n:Int}{t:TS}(h:numV s a b=some n):tNum s a b t=(n,t):=by unfold tNum;rw [h]
theorem Zd9 {s:ByteArray}{a b:Int}{t:TS}(h:numV s a b=none):tNum s a b t=(0,bad t):=by unfold tNum;rw [h]
theorem Zij {s:ByteArray}{n:Int}{t:TS}(h:sixV s=some n):tSix s t=(n,t):=by
 unfold sixV at h
 split at h
 ·rename_i m hm
  unfold tSix
  rw [Zd8 hm]
  split at h
  ·cases h
  ·rename_i hle;cases h;simp [hle]
 ·cases h
theorem Zik {s:ByteArray}{t:TS}(h:sixV s=none):(tSix s t).2.2=true:=by
 unfold sixV at h
 split at h
 ·rename_i m hm
  unfold tSix
  rw [Zd8 hm]
  split at h
  ·rename_i hle;simp [hle]
  ·cases h
 ·rename_i hm;unfold tSix;rw [Zd9 hm];simp
theorem Zfd (s:ByteArray):Agr (Zb3 s) (Zbs (ZbV s)):=by
 refine Agr.lift (fun t h=>ZcO h) (fun l=>?_)
 unfold Zb3 ZbV
 by_cases h0:s=bA [48]
 ·simp only [if_pos h0];rfl
 ·simp only [if_neg h0]
  obtain ⟨y,hy⟩ : ∃ y,y=cutC 58 (aB s):=⟨_,rfl⟩
  simp only [←hy]
  clear hy
  match y with
  | []=>rfl
  | [_]=>rfl
  | _::_::_::_::_=>rfl
  | [a,b] =>
   simp only [Zfs]
   cases h1:numV (bA a) 1 2 with
   | none=>rw [Zd9 h1];exact Zd7 rfl
   | some x =>
    rw [Zd8 h1]
    cases h2:sixV (bA b) with
    | none=>exact Zik h2
    | some y=>simp only;rw [Zij h2];rfl
  | [a,b,c] =>
   simp only [Zfs]
   cases h1:numV (bA a) 1 2 with
   | none=>rw [Zd9 h1];exact Zd7 (Zd7 rfl)
   | some x =>
    rw [Zd8 h1]
    cases h2:sixV (bA b) with
    | none=>exact Zd7 (Zik h2)
    | some y =>
     simp only;rw [Zij h2]
     cases h3:sixV (bA c) with
     | none=>exact Zik h3
     | some z=>simp only;rw [Zij h3];rfl
theorem agr_form (s:ByteArray):Agr (Zcg s) (Zbs (Zdf s)):=by
 refine Agr.lift (fun t h=>?_) (fun l=>?_)
 ·unfold Zcg
  split
  ·exact ZjL h
  ·split
   ·exact ZeE h
   ·exact ZeE (ZjL h)
 ·unfold Zcg Zdf
  by_cases hk2:ZbR s=2
  ·simp only [if_pos hk2]
   unfold ZeD
   cases h1:idxL dayL (s.extract 4 s.size) 0 <;> rfl
  ·simp only [if_neg hk2]
   by_cases hk1:ZbR s=1
   ·simp only [if_pos hk1]
    cases h1:numV s 1 2 with
    | none=>rw [Zd9 h1];rfl
    | some n=>rw [Zd8 h1];rfl
   ·simp only [if_neg hk1]
    cases h1:idxL dayL (s.extract 0 3) 0 with
    | none=>refine ZeE ?_;unfold ZeD;rw [h1]
    | some w =>
     unfold ZeD;rw [h1]
     cases h2:numV (s.extract 5 s.size) 1 2 with
     | none=>rw [Zd9 h2];rfl
     | some n=>rw [Zd8 h2];rfl
theorem kindU3 (c d:Int):ZdY c d 3=(wsuK c).getD d:=by
 unfold ZdY ZdY ZdY ZdY wsuK
 rw [show ZbF wsuA (2+1)=117 by decide,show ZbF wsuA (1+1)=115 by decide,show ZbF wsuA (0+1)=119 by decide]
 split
 ·subst c;rfl
 ·split
  ·subst c;rfl
  ·split
   ·subst c;rfl
   ·rfl
theorem wsuK_dig {c k:Int}(h:wsuK c=some k):digB c=false∧1≤k∧k≤3∧c=ZbF wsuA k.toNat:=by
 unfold wsuK at h
 split at h
 ·subst c;cases h;decide
 ·split at h
  ·subst c;cases h;decide
  ·split at h
   ·subst c;cases h;decide
   ·cases h
theorem wsu_lit (k:Int) (h:1≤k∧k≤3):wsuK (ZbF wsuA k.toNat)=some k:=by
 obtain ⟨h1,h2⟩:=h
 have:k=1∨k=2∨k=3:=by omega
 rcases this with rfl | rfl | rfl <;> decide
theorem Zkf {x:UInt8} : ∀ {l z:Bs},cutC x l=[z]→l=z
 | [],z,h=>by simp [cutC] at h;exact h.symm
 | c::l,z,h=>by
  unfold cutC at h
  split at h
  ·simp only [List.cons.injEq] at h;exact absurd h.2 (ZiX x l)
  ·split at h
   ·rename_i he;exact absurd he (ZiX x l)
   ·rename_i y ys he
    simp only [List.cons.injEq] at h
    obtain ⟨rfl,rfl⟩:=h
    rw [Zkf he]
theorem Zid (x:UInt8) : ∀ {l:Bs}{ys:List Bs}{y:Bs},cutC x l=ys++[y] → ∃ p,l=p++y
 | [],ys,y,h=>by
  cases ys with
  | nil=>simp [cutC] at h;exact ⟨[],by simp [h]⟩
  | cons a ys=>simp [cutC] at h
 | c::l,ys,y,h=>by
  unfold cutC at h
  split at h
  ·cases ys with
   | nil=>simp at h;exact absurd h.2 (ZiX x l)
   | cons a ys =>
    simp only [List.cons_append,List.cons.injEq] at h
    obtain ⟨p,hp⟩:=Zid x h.2
    exact ⟨c::p,by rw [hp];rfl⟩
  ·split at h
   ·rename_i he;exact absurd he (ZiX x l)
   ·rename_i z zs he
    cases ys with
    | nil =>
     simp only [List.nil_append,List.cons.injEq] at h
     obtain ⟨rfl,rfl⟩:=h
     obtain ⟨p,hp⟩:=Zid x (ys:=[]) (y:=z) (by rw [he];rfl)
     have h0:=Zkf he
     exact ⟨[],by rw [←h0];rfl⟩
    | cons a ys =>
     simp only [List.cons_append,List.cons.injEq] at h
     obtain ⟨p,hp⟩:=Zid x (l:=l) (ys:=z::ys) (y:=y) (by rw [he,h.2];rfl)
     exact ⟨c::p,by rw [hp];rfl⟩
theorem Zm8 : ∀ {y:Bs}(hy:y≠[]),y.drop (y.length-1)=[y.getLast hy]
 | [c],_=>rfl
 | c::d::l,_=>by have:=Zm8 (y:=d::l) (by simp);simpa using this
theorem Ztg {s:ByteArray}{p y:Bs}(h:aB s=p++y) (hy:y≠[]) : ∃ c∈y,ZbA s=(c.toNat:Int):=by
 refine ⟨y.getLast hy,List.getLast_mem hy,?_⟩
 have hl:s.size=p.length+y.length:=by rw [←Zbr,h,List.length_append]
 have hp:0<y.length:=List.length_pos_iff.2 hy
 have h0:s.size-1<s.size:=by omega
 have e1:(aB s).drop (s.size-1)=Zaz s (s.size-1)::(aB s).drop (s.size-1+1):=ZdO h0
 have e2:(aB s).drop (s.size-1)=[y.getLast hy]:=by
  rw [h,show s.size-1=p.length+(y.length-1) by omega,List.drop_append,List.drop_of_length_le (by omega),List.nil_append,Nat.add_sub_cancel_left]
  exact Zm8 hy
 rw [e2] at e1
 simp only [List.cons.injEq] at e1
 unfold ZbA ZbF
 rw [e1.1]
theorem ZiH {s:ByteArray}{a b n:Int}(h:numV s a b=some n):wi s.size a b=true∧allB digB s=true∧n=decL 0 (aB s):=by
 unfold numV at h
 split at h
 ·rename_i hc;cases h;exact ⟨hc.1,hc.2,rfl⟩
 ·cases h
theorem Zso {s:ByteArray}{n:Int}(h:sixV s=some n):s.size=2∧allB digB s=true∧n=decL 0 (aB s)∧n≤59:=by
 unfold sixV at h
 split at h
 ·rename_i m hm
  obtain ⟨h1,h2,h3⟩:=ZiH hm
  split at h
  ·cases h
  ·cases h
   unfold wi at h1
   simp at h1
   exact ⟨by omega,h2,h3,by omega⟩
 ·cases h
theorem ZfZ {p:Int→Bool}{l:Bs}(h:allB p (bA l)=true) {c:UInt8}(hc:c∈l):p c.toNat=true:=by
 unfold allB at h
 rw [List.all_eq_true] at h
 exact h c (by simpa [bA] using hc)
theorem Zip {s:ByteArray}{n:Int}(h:ZbV s=some n):s.size≠0∧digB (ZbA s)=true:=by
 have key : ∀ {ys:List Bs} {y:Bs} {m:Int},cutC 58 (aB s)=ys++[y]→sixV (bA y)=some m→s.size≠0∧digB (ZbA s)=true:=by
  intro ys y m h1 h2
  obtain ⟨p,hp⟩:=Zid 58 h1
  obtain ⟨z1,z2,_⟩:=Zso h2
  rw [ZaQ] at z1
  obtain ⟨c,hc,e⟩:=Ztg hp (by rintro rfl;simp at z1)
  refine ⟨fun e0=>?_,by rw [e];exact ZfZ z2 hc⟩
  have:=congrArg List.length hp
  rw [Zbr,List.length_append] at this;omega
 unfold ZbV at h
 split at h
 ·rename_i e;subst e;decide
 ·split at h
  ·rename_i a b hc
   split at h
   ·rename_i x y h1 h2;exact key (ys:=[a]) hc h2
   ·cases h
  ·rename_i a b c hc
   split at h
   ·rename_i x y z h1 h2 h3;exact key (ys:=[a,b]) hc h3
   ·cases h
  ·cases h
theorem ZtX {α:Type}{f:TS→α×TS}{o:Option α}(h:Agr f (Zbs o)) (l:List ByteArray):AgO o (f (l,false)) l:=by
 have:=(h l).2
 unfold Zbs at this
 unfold AgO
 cases o <;> exact this
theorem Zng {d:Int}(hd:d=1∨d=2) (s:ByteArray):Agr (ZeA d s) (Zbs (Zcy d s)):=by
 refine Agr.lift (fun t h=>?_) (fun l=>?_)
 ·unfold ZeA
  split
  ·exact ZcO h
  ·split
   ·exact ZcO h
   ·refine ZcO ?_
    split
    ·exact h
    ·rfl
 ·have hS:=ZtX (Zfd s) l
  have hX:=ZtX (Zfd (s.extract 0 (s.size-1))) l
  unfold ZeA Zcy
  by_cases h0:s.size=0
  ·rw [if_pos h0,if_pos h0]
   cases h1:ZbV s with
   | none=>rw [h1] at hS;exact hS
   | some n=>exact absurd h0 (Zip h1).1
  ·rw [if_neg h0,if_neg h0,kindU3]
   cases hk:wsuK (ZbA s) with
   | none =>
    simp only [Option.getD_none]
    cases h1:ZbV s with
    | none =>
     rw [h1] at hS
     by_cases hdg:digB (ZbA s)=true
     ·rw [if_pos hdg];exact hS
     ·rw [if_neg hdg]
      by_cases e:ZbA s=ZbF wsuA d.toNat
      ·exfalso
       have:=wsu_lit d (by omega)
       rw [←e,hk] at this;cases this
      ·rw [if_neg e]
       exact ZcO (t:=bad (l,false)) rfl
    | some n =>
     rw [h1] at hS
     rw [if_pos (Zip h1).2]
     have hS':Zb3 s (l,false)=(n,l,false):=hS
     rw [hS'];rfl
   | some k =>
    obtain ⟨w1,w2,w3,w4⟩:=wsuK_dig hk
    simp only [Option.getD_some]
    rw [if_neg (by rw [w1];exact Bool.false_ne_true),if_pos w4]
    cases h1:ZbV (s.extract 0 (s.size-1)) with
    | none=>rw [h1] at hX;exact hX
    | some n =>
     rw [h1] at hX
     have hX':Zb3 (s.extract 0 (s.size-1)) (l,false)=(n,l,false):=hX
     rw [hX'];rfl
theorem agr_to (f:Int) (s:ByteArray):Agr (tTo f s) (Zbs (toV f s)):=by
 unfold tTo toV
 split
 ·exact Agr.lift (fun t h=>h) (fun l=>rfl)
 ·split
  ·exact Agr.lift (fun t h=>h) (fun l=>rfl)
  ·exact ZlG s 4 4
theorem agr_name:Agr Zft ZcI:=by
 refine (Agr.bind agr_next (k:=fun s t=>(s,if ZbL s=true then t else bad t)) fun s=>?_:Agr (Zcn Za1 _) _)
 refine Agr.lift (fun t h=>by dsimp only;split;exact h;rfl) (fun l=>?_)
 cases ZbL s <;> rfl
theorem agr_month:Agr Zea Zdg:=by
 refine (Agr.bind agr_next (k:=fun s t=>match idxL monL s 1 with
  | some n=>(n,t)
  | none=>(0,bad t)) fun s=>?_:Agr (Zcn Za1 _) _)
 refine Agr.lift (fun t h=>by split;exact h;rfl) (fun l=>?_)
 cases idxL monL s 1 <;> rfl
theorem agr_letter:Agr ZdJ (ZaN Zbf fun s=>Zbs (Zda s)):=by
 refine (Agr.bind agr_next (k:=fun s t=>(if s=bA [45] then ⟨#[]⟩ else s,if ZdM s=true then t else bad t)) fun s=>?_:Agr (Zcn Za1 _) _)
 refine Agr.lift (fun t h=>by dsimp only;generalize ZdM s=b;cases b;rfl;exact h) (fun l=>?_)
 unfold Zda
 cases ZdM s <;> rfl
theorem agr_rule:Agr ZkN ZgK:=by
 refine agr_name.bind fun nm=>?_
 refine (agr_next.bind fun s=>ZlG s 4 4).bind fun f=>?_
 refine (agr_next.bind fun s=>agr_to f s).bind fun t2=>?_
 refine agr_month.bind fun m=>?_
 refine (agr_next.bind fun s=>agr_form s).bind fun k=>?_
 refine (agr_next.bind fun s=>Zng (.inl rfl) s).bind fun c=>?_
 refine (agr_next.bind fun s=>Zfd s).bind fun sv=>?_
 exact agr_letter.bind fun l=>Agr.ret _
theorem agr_shift:Agr Zgz (ZaN Zbf fun s=>Zbs (ZeF s)):=by
 refine (Agr.bind agr_next (k:=fun s t=>if s.size≠0∧Zee s=45 then (-(Zb3 (s.extract 1 s.size) t).1,(Zb3 (s.extract 1 s.size) t).2) else Zb3 s t) fun s=>?_:Agr (Zcn Za1 _) _)
 unfold ZeF
 split
 ·refine Agr.lift (fun t h=>ZcO h) (fun l=>?_)
  have hS:=(Zfd (s.extract 1 s.size) l).2
  unfold Zbs at hS
  cases h1:ZbV (s.extract 1 s.size) with
  | none=>simp only [h1] at hS ⊢;exact hS
  | some n=>simp only [h1] at hS ⊢;rw [hS];rfl
 ·exact Zfd s
theorem ZsQ:ZbL (bA [48])=false:=by decide
theorem ZtW (s:ByteArray):Agr (Zez s) (Zbs (Zdw s)):=by
 unfold Zez Zdw
 split
 ·exact Agr.lift (fun t h=>h) (fun l=>rfl)
 ·split
  ·rename_i hm hd
   by_cases h0:s=bA [48]
   ·rw [if_neg (by rintro ⟨_,_,h⟩;exact h h0),if_neg (by rw [h0,ZsQ];simp)]
    refine Agr.lift (fun t h=>ZcO (by rw [if_pos h0])) (fun l=>?_)
    exact ZcO (by rw [if_pos h0])
   ·rw [if_pos ⟨hd.1,hd.2,h0⟩]
    simp only [if_neg h0]
    refine Agr.lift (fun t h=>ZcO h) (fun l=>?_)
    have hS:=(Zfd s l).2
    unfold Zbs at hS
    cases h1:ZbV s with
    | none=>simp only [h1] at hS ⊢;exact hS
    | some n=>simp only [h1] at hS ⊢;rw [hS];rfl
  ·rename_i hm hd
   rw [if_neg (by rintro ⟨h1,h2,_⟩;exact hd ⟨h1,h2⟩)]
   refine Agr.lift (fun t h=>by dsimp only;split;exact h;rfl) (fun l=>?_)
   cases ZbL s <;> rfl
theorem agr_format:Agr Zim (ZaN Zbf fun s=>Zbs (if Zb0 s=true then some s else none)):=by
 refine (Agr.bind agr_next (k:=fun s t=>(s,if Zb0 s=true then t else bad t)) fun s=>?_:Agr (Zcn Za1 _) _)
 refine Agr.lift (fun t h=>by dsimp only;split;exact h;rfl) (fun l=>?_)
 cases Zb0 s <;> rfl
theorem ZtV:Agr ZhE Zfk:=by
 refine (agr_next.bind fun s=>ZlG s 4 4).bind fun y=>?_
 refine agr_month.bind fun m=>?_
 refine (agr_next.bind fun s=>ZlG s 1 2).bind fun d=>?_
 refine (agr_next.bind fun s=>Zng (.inr rfl) s).bind fun c=>?_
 refine Agr.bind (Agr.lift (fun t h=>?_) (fun l=>?_)) fun _=>Agr.ret _
 ·unfold Zr9;dsimp only;split <;> simp_all
 ·unfold Zr9;by_cases h:c.2=1 <;> simp [h] <;> rfl
theorem agr_end:Agr tEnd rEnd:=by
 intro l
 have hU:=ZtV l
 unfold tEnd rEnd
 by_cases h0:l=[]
 ·subst h0;exact ⟨rfl,rfl⟩
 ·simp only [if_neg h0]
  refine ⟨hU.1,?_⟩
  revert hU
  cases Zfk l with
  | none=>exact fun hU=>hU.2
  | some p=>intro hU;have h2:=hU.2;simp only at h2 ⊢;rw [h2]
theorem agr_era:Agr tEra rEra:=by
 refine agr_shift.bind fun sh=>?_
 refine (agr_next.bind fun s=>ZtW s).bind fun r=>?_
 refine agr_format.bind fun f=>?_
 exact agr_end.bind fun u=>Agr.ret _
end Go.Proofs.YtgjchdhdopgkkaaGreatDoor
end
section
namespace Go.Proofs.YtgjchdhdopgkkaaGreatDoor
open Go.Ab
def refN (n:Int):Bool:=letB n||digB n||decide (n=95)||decide (n=45)||decide (n=47)||decide (n=43)
theorem ZmO (c:UInt8):ZmP c.toNat=refN c.toNat:=by
 have hc:((c.toNat:Int).toNat.toUInt8)=c:=by simp
 unfold ZmP refN
 rw [hc,←Lib.contains_iff_indexByte]
 have e : ∀ x:UInt8,decide ((c.toNat:Int)=(x.toNat:Int))=(c==x):=by
  intro x
  rw [Bool.eq_iff_iff,decide_eq_true_iff,beq_iff_eq]
  exact ⟨fun h=>UInt8.toNat_inj.1 (by omega),fun h=>by rw [h]⟩
 rw [show (95:Int)=((95:UInt8).toNat:Int) from rfl,show (45:Int)=((45:UInt8).toNat:Int) from rfl,show (47:Int)=((47:UInt8).toNat:Int) from rfl,show (43:Int)=((43:UInt8).toNat:Int) from rfl,e,e,e,e]
 simp [List.contains_cons,Bool.or_assoc] <;> rfl
def fmtL:Nat→Bool→Bs→Bool
 | m,_,[]=>decide (m≤1)
 | m,b,c::l=>if c=47 then !b&&!l.isEmpty&&fmtL (m+1) false l else if c=37 then decide (l.head?=some 115)&&fmtL (m+1) false l else ZbS c.toNat&&fmtL m false l
abbrev plL (l:Bs):Bool:=allB ZbS (bA l)
theorem Zn4:plL []=true:=rfl
theorem ZgL (c:UInt8) (l:Bs):plL (c::l)=(ZbS c.toNat&&plL l):=by simp [plL,allB,bA]
theorem pl47:ZbS (47:UInt8).toNat=false:=by decide
theorem pl37:ZbS (37:UInt8).toNat=false:=by decide
theorem pl115:ZbS (115:UInt8).toNat=true:=by decide
theorem pl115':ZbS 115=true:=by decide
theorem Zom : ∀ (l:Bs) (m:Nat) (b:Bool),2≤m→fmtL m b l=false
 | [],m,b,h=>by unfold fmtL;simp;omega
 | c::l,m,b,h=>by
  unfold fmtL
  rw [Zom l (m+1) false (by omega),Zom l m false h]
  simp
theorem Zlr : ∀ (l:Bs),fmtL 1 false l=plL l
 | []=>rfl
 | c::l=>by
  unfold fmtL
  rw [Zom l (1+1) false (by omega),Zlr l,ZgL]
  split
  ·rename_i h;subst h;rw [pl47];simp
  ·split
   ·rename_i h;subst h;rw [pl37];simp
   ·rfl
theorem plL_no {c:UInt8}{l:Bs}(h:ZbS c.toNat=false) (hc:c∈l):plL l=false:=by
 cases hp:plL l
 ·rfl
 ·rw [ZfZ hp hc] at h;cases h
def cutP (l:Bs):Bool:=plL (Lib.cut l [37,115]).1&&plL (Lib.cut l [37,115]).2.1
theorem Zos (l:Bs):cutP l=if 0≤Lib.index l [37,115] then plL (l.take (Lib.index l [37,115]).toNat)&&plL (l.drop ((Lib.index l [37,115]).toNat+2)) else plL l:=by
 unfold cutP Lib.cut
 split <;> simp [Zn4]
theorem ZqO {c:UInt8}{l sub:Bs}(h:sub.isPrefixOf (c::l)=false):Lib.index (c::l) sub=if Lib.index l sub = -1 then -1 else Lib.index l sub+1:=by
 rw [Lib.index,h];simp
theorem Zna {c:UInt8}{l:Bs}(h:[37,115].isPrefixOf (c::l)=false):cutP (c::l)=(ZbS c.toNat&&cutP l):=by
 have hge:=Lib.index_ge l [37,115]
 rw [Zos,Zos,ZqO h]
 by_cases e:Lib.index l [37,115] = -1
 ·rw [e];simp [ZgL]
 ·obtain ⟨k,hk⟩ : ∃ k:Nat,Lib.index l [37,115]=k:=⟨(Lib.index l [37,115]).toNat,by omega⟩
  rw [hk]
  rw [if_neg (show ¬(k:Int) = -1 by omega),if_pos (by omega),if_pos (by omega)]
  rw [show ((k:Int)+1).toNat=k+1 by omega,show ((k:Int)).toNat=k by omega]
  rw [List.take_succ_cons,ZgL,show k+1+2=(k+2)+1 by omega,List.drop_succ_cons,Bool.and_assoc]
theorem Ztt : ∀ (l:Bs) (b:Bool),47 ∉ l→fmtL 0 b l=cutP l
 | [],b,h=>rfl
 | c::l,b,h=>by
  have hc:c≠47:=fun e=>h (by simp [e])
  have hl:47 ∉ l:=fun e=>h (by simp [e])
  unfold fmtL
  rw [if_neg hc]
  by_cases hp:c=37
  ·subst hp
   rw [if_pos rfl]
   cases l with
   | nil=>decide
   | cons d l =>
    by_cases hd:d=115
    ·subst hd
     rw [Zlr,Zos]
     have e:Lib.index (37::115::l) [37,115]=0:=by unfold Lib.index;simp [List.isPrefixOf]
     rw [e]
     simp [Zn4,ZgL,pl115,pl115']
    ·rw [Zna (by simp [List.isPrefixOf];exact fun e=>hd e.symm),pl37]
     simp [hd]
  ·rw [if_neg hp,Zna (by simp [List.isPrefixOf];intro e;exact absurd e.symm hp),Ztt l false hl]
theorem Zm4 : ∀ (l:Bs) (b:Bool),47∈l → ∃ k:Nat,Lib.index l [47]=k∧fmtL 0 b l=(!(b&&decide (k=0))&&!(l.drop (k+1)).isEmpty&&plL (l.take k)&&plL (l.drop (k+1)))
 | [],b,h=>by cases h
 | c::l,b,h=>by
  by_cases hc:c=47
  ·subst hc
   refine ⟨0,by unfold Lib.index;simp [List.isPrefixOf],?_⟩
   unfold fmtL
   rw [if_pos rfl,Zlr]
   simp [Zn4]
  ·have hl:47∈l:=by
    rcases List.mem_cons.1 h with e | e
    ·exact absurd e.symm hc
    ·exact e
   obtain ⟨k,hk,hf⟩:=Zm4 l false hl
   refine ⟨k+1,?_,?_⟩
   ·unfold Lib.index
    rw [hk]
    rw [if_neg (by simp [List.isPrefixOf];exact fun e=>hc e.symm),if_neg (by simp)]
    push_cast;rfl
   ·unfold fmtL
    rw [if_neg hc,List.take_succ_cons,List.drop_succ_cons,ZgL]
    by_cases hp:c=37
    ·subst hp
     rw [if_pos rfl,Zlr,plL_no pl47 hl,pl37]
     simp
    ·rw [if_neg hp,hf]
     simp only [Bool.false_and,Bool.not_false,Bool.true_and]
     cases ZbS c.toNat <;> simp
theorem Zj8 (l:Bs):(!l.isEmpty)=decide (bA l≠⟨#[]⟩):=by
 cases l with
 | nil=>rfl
 | cons c l =>
  have:bA (c::l)≠⟨#[]⟩:=fun e=>by
   have:=congrArg ByteArray.size e
   rw [ZaQ] at this;cases this
  simp [this]
theorem ZiO (s:ByteArray):Zb0 s=(decide (s.size≠0)&&decide (s.size≤24)&&fmtL 0 true (aB s)):=by
 unfold Zb0
 by_cases hs:s.size=0∨24<s.size
 ·rw [if_pos hs]
  rcases hs with h | h
  ·simp [h]
  ·simp [show ¬s.size≤24 by omega]
 ·rw [if_neg hs]
  have h1:s.size≠0:=fun e=>hs (.inl e)
  have h2:s.size≤24:=by omega
  simp only [h1,h2,ne_eq,not_false_eq_true,decide_true,Bool.true_and]
  by_cases hm:(47:UInt8)∈aB s
  ·obtain ⟨k,hk,hf⟩:=Zm4 (aB s) true hm
   have hcut:cutL s [47]=((aB s).take k,(aB s).drop (k+1),true):=by
    unfold cutL Lib.cut
    rw [hk,if_pos (by omega)]
    simp
   rw [hcut,hf,if_pos rfl]
   simp only
   rw [Zj8]
   have e:decide (bA ((aB s).take k)≠⟨#[]⟩)=!(true&&decide (k=0)):=by
    rw [←Zj8]
    cases k with
    | zero=>rfl
    | succ k =>
     have:0<(aB s).length:=by rw [Zbr];omega
     cases hq:aB s with
     | nil=>rw [hq] at this;cases this
     | cons c l=>simp
   rw [e]
  ·have hi:Lib.index (aB s) [47] = -1:=by
    have hge:=Lib.index_ge (aB s) [47]
    by_cases e:Lib.index (aB s) [47] = -1
    ·exact e
    ·obtain ⟨k,hk⟩ : ∃ k:Nat,Lib.index (aB s) [47]=k:=⟨(Lib.index (aB s) [47]).toNat,by omega⟩
     obtain ⟨_,hk1,hk2⟩:=Ze4 hk
     exact absurd (List.mem_of_getElem? hk2) hm
   have hcut:(cutL s [47]).2.2=false:=by
    unfold cutL Lib.cut
    rw [hi];rfl
   rw [if_neg (by rw [hcut];simp),Ztt _ _ hm]
   rfl
end Go.Proofs.YtgjchdhdopgkkaaGreatDoor
end
section
namespace Go.Proofs.YtgjchdhdopgkkaaGreatDoor
open Go.Ab Go.RowKit Civ
def c70:AC:=(Sr [Mb 2 false] (Sr [Mv 3 0,Oo 4 (.cvi .i64 (.tmp 3)),Cl 5 68 [(.tmp 4),(Ci 97),(Ci 122)],Mv 6 5,Of 7 6 (mt 0),Of 8 6 (.cvi .i64 (.tmp 7)),Of 9 6 (.call (.func 68) [(.tmp 8),(Ci 65),(Ci 90)]),Oo 10 (.pick (.tmp 6) (.const (.bool true)) (.tmp 9)),Mv 2 10] .ret))
theorem k70:ZaH Tryz.prog 70=some ⟨c70,[(.tmp 2)],11⟩:=by kernel_rfl
def c71:AC:=(Sr [Mb 2 false] (Sr [Mv 3 0,Oo 4 (.cvi .i64 (.tmp 3)),Cl 5 68 [(.tmp 4),(Ci 48),(Ci 57)],Mv 2 5] .ret))
theorem k71:ZaH Tryz.prog 71=some ⟨c71,[(.tmp 2)],6⟩:=by kernel_rfl
def c25:AC:=(Sr [Mb 2 false] (.seq (Sr [Mv 5 0,Oo 6 (.bin .eql (.tmp 5) (.const (.string ⟨#[]⟩))),Mv 7 6,Of 8 7 (mt 0),Of 9 7 (.len true (.tmp 8)),Of 10 7 (.bin .gtr (.tmp 9) (Ci 24)),Oo 11 (.pick (.tmp 7) (.const (.bool true)) (.tmp 10)),Mv 12 11,Of 13 12 (mt 0),Of 14 12 (.ix (.tmp 13) (Ci 0)),Of 15 12 (.call (.func 70) [(.tmp 14)]),Of 16 12 (.un .not (.tmp 15)),Oo 17 (.pick (.tmp 12) (.const (.bool true)) (.tmp 16))] (Cd 17 (Sr [Mb 2 false] .ret) .skip)) (.seq (Sr [Mc 3 0] (.block 0 (.loop (.seq (Sr [Mv 18 3,Mv 19 0,Oo 20 (.len true (.tmp 19)),Bn 21 .lss 18 20] (Cd 21 .skip (.exit 0))) (.seq (.block 1 (Sr [Mv 24 0,Mv 25 3,Oo 26 (.ix (.tmp 24) (.tmp 25)),Mv 4 26] (Sr [Mv 27 4,Cl 28 70 [(.tmp 27)],Oo 29 (.un .not (.tmp 28)),Mv 30 29,Ot 31 30 (mt 4),Ot 32 30 (.call (.func 71) [(.tmp 31)]),Ot 33 30 (.un .not (.tmp 32)),Oo 34 (.pick (.tmp 30) (.tmp 33) (.const (.bool false))),Mv 35 34,Ot 36 35 (mt 4),Ot 37 35 (.bin .neq (.tmp 36) (.const (.int .u8 95))),Oo 38 (.pick (.tmp 35) (.tmp 37) (.const (.bool false))),Mv 39 38,Ot 40 39 (mt 4),Ot 41 39 (.bin .neq (.tmp 40) (.const (.int .u8 45))),Oo 42 (.pick (.tmp 39) (.tmp 41) (.const (.bool false))),Mv 43 42,Ot 44 43 (mt 4),Ot 45 43 (.bin .neq (.tmp 44) (.const (.int .u8 47))),Oo 46 (.pick (.tmp 43) (.tmp 45) (.const (.bool false))),Mv 47 46,Ot 48 47 (mt 4),Ot 49 47 (.bin .neq (.tmp 48) (.const (.int .u8 43))),Oo 50 (.pick (.tmp 47) (.tmp 49) (.const (.bool false)))] (Cd 50 (Sr [Mb 2 false] .ret) .skip)))) (.reg [Mv 22 3,Bc 23 .add 22 1,Mv 3 23])))))) (Sr [Mb 2 true] .ret))))
theorem k25:ZaH Tryz.prog 25=some ⟨c25,[(.tmp 2)],51⟩:=by kernel_rfl
def c67:AC:=(Sr [Mb 2 false] (.seq (Sr [Mc 3 0] (.block 0 (.loop (.seq (Sr [Mv 4 3,Mv 5 0,Oo 6 (.len true (.tmp 5)),Bn 7 .lss 4 6] (Cd 7 .skip (.exit 0))) (.seq (.block 1 (Sr [Mv 10 0,Mv 11 3,Oo 12 (.ix (.tmp 10) (.tmp 11)),Cl 13 70 [(.tmp 12)],Oo 14 (.un .not (.tmp 13))] (Cd 14 (Sr [Mb 2 false] .ret) .skip))) (.reg [Mv 8 3,Bc 9 .add 8 1,Mv 3 9])))))) (Sr [Mv 15 0,Oo 16 (.len true (.tmp 15)),Bc 17 .leq 16 24,Mv 2 17] .ret)))
theorem k67:ZaH Tryz.prog 67=some ⟨c67,[(.tmp 2)],18⟩:=by kernel_rfl
def c104:AC:=(Sr [Mb 2 false] (.seq (Sr [Mc 3 0] (.block 0 (.loop (.seq (Sr [Mv 4 3,Mv 5 0,Oo 6 (.len true (.tmp 5)),Bn 7 .lss 4 6] (Cd 7 .skip (.exit 0))) (.seq (.block 1 (Sr [Mv 10 0,Mv 11 3,Oo 12 (.ix (.tmp 10) (.tmp 11)),Cl 13 70 [(.tmp 12)],Oo 14 (.un .not (.tmp 13)),Mv 15 14,Ot 16 15 (mt 0),Ot 17 15 (mt 3),Ot 18 15 (.ix (.tmp 16) (.tmp 17)),Ot 19 15 (.call (.func 71) [(.tmp 18)]),Ot 20 15 (.un .not (.tmp 19)),Oo 21 (.pick (.tmp 15) (.tmp 20) (.const (.bool false))),Mv 22 21,Ot 23 22 (mt 0),Ot 24 22 (mt 3),Ot 25 22 (.ix (.tmp 23) (.tmp 24)),Ot 26 22 (.bin .neq (.tmp 25) (.const (.int .u8 43))),Oo 27 (.pick (.tmp 22) (.tmp 26) (.const (.bool false))),Mv 28 27,Ot 29 28 (mt 0),Ot 30 28 (mt 3),Ot 31 28 (.ix (.tmp 29) (.tmp 30)),Ot 32 28 (.bin .neq (.tmp 31) (.const (.int .u8 45))),Oo 33 (.pick (.tmp 28) (.tmp 32) (.const (.bool false)))] (Cd 33 (Sr [Mb 2 false] .ret) .skip))) (.reg [Mv 8 3,Bc 9 .add 8 1,Mv 3 9])))))) (Sr [Mb 2 true] .ret)))
theorem k104:ZaH Tryz.prog 104=some ⟨c104,[(.tmp 2)],34⟩:=by kernel_rfl
def c72:AC:=(Sr [Mb 2 false] (Sr [Mc 3 0] (.seq (Sr [Mc 4 0] (.block 0 (.loop (.seq (Sr [Mv 5 4,Mv 6 0,Oo 7 (.len true (.tmp 6)),Bn 8 .lss 5 7] (Cd 8 .skip (.exit 0))) (.seq (.block 1 (.block 2 (Sr [Mv 12 0,Mv 13 4,Oo 14 (.ix (.tmp 12) (.tmp 13)),Oo 15 (.bin .eql (.tmp 14) (.const (.int .u8 47))),Mv 11 15] (Cd 11 (Sr [Mv 16 3,Bc 17 .add 16 1,Mv 3 17] (Sr [Mv 18 4,Bc 19 .eql 18 0,Mv 20 19,Of 21 20 (mt 4),Of 22 20 (mt 0),Of 23 20 (.len true (.tmp 22)),Of 24 20 (.bin .sub (.tmp 23) (Ci 1)),Of 25 20 (.bin .eql (.tmp 21) (.tmp 24)),Oo 26 (.pick (.tmp 20) (.const (.bool true)) (.tmp 25))] (Cd 26 (Sr [Mb 2 false] .ret) .skip))) (Sr [Mv 28 0,Mv 29 4,Oo 30 (.ix (.tmp 28) (.tmp 29)),Oo 31 (.bin .eql (.tmp 30) (.const (.int .u8 37))),Mv 27 31] (Cd 27 (Sr [Mv 32 3,Bc 33 .add 32 1,Mv 3 33] (Sr [Mv 34 4,Mv 35 0,Oo 36 (.len true (.tmp 35)),Bc 37 .sub 36 1,Bn 38 .eql 34 37,Mv 39 38,Of 40 39 (mt 0),Of 41 39 (mt 4),Of 42 39 (.bin .add (.tmp 41) (Ci 1)),Of 43 39 (.ix (.tmp 40) (.tmp 42)),Of 44 39 (.bin .neq (.tmp 43) (.const (.int .u8 115))),Oo 45 (.pick (.tmp 39) (.const (.bool true)) (.tmp 44))] (Cd 45 (Sr [Mb 2 false] .ret) .skip))) (Sr [Mv 47 0,Mv 48 4,Mv 49 4,Bc 50 .add 49 1,Oo 51 (.sls (.tmp 47) (some (.tmp 48)) (some (.tmp 50))),Cl 52 104 [(.tmp 51)],Oo 53 (.un .not (.tmp 52)),Mv 46 53] (Cd 46 (Sr [Mb 2 false] .ret) .skip)))))))) (.reg [Mv 9 4,Bc 10 .add 9 1,Mv 4 10])))))) (Sr [Mv 54 0,Oo 55 (.bin .neq (.tmp 54) (.const (.string ⟨#[]⟩))),Mv 56 55,Ot 57 56 (mt 0),Ot 58 56 (.len true (.tmp 57)),Ot 59 56 (.bin .leq (.tmp 58) (Ci 24)),Oo 60 (.pick (.tmp 56) (.tmp 59) (.const (.bool false))),Mv 61 60,Ot 62 61 (mt 3),Ot 63 61 (.bin .leq (.tmp 62) (Ci 1)),Oo 64 (.pick (.tmp 61) (.tmp 63) (.const (.bool false))),Mv 2 64] .ret))))
theorem k72:ZaH Tryz.prog 72=some ⟨c72,[(.tmp 2)],65⟩:=by kernel_rfl
theorem ZeX {n:Int}{h:AH}(h0:0≤n) (h1:n≤255):Ac 70 [uv n] h (bv (letB n)):=by
 refine tI' k70 fun N hn hlt hlA hbd=>?_
 simp only [tb'] at hbd ⊢
 refine wr'<|mv' lkb pt<|sn'<|wr'<|mv' lk pt<|?_
 refine V' (Zif lk (by omega) (by omega)) pt ?_
 refine Zae mp (Zbe) pt<|mv' lk pt<|?_
 refine ZaL (t:=6) gt pt pt (fun hg6=>?_) (fun hg6=>?_)
 ·refine s_no gt pt<|s_no gt pt<|s_no gt pt<|V' (Zaj lk lkb) pt<|mv' lk pt<|sn'<|Zab<|Zag rz<|rT'<|?_
  refine bvx ?_;unfold wi at *;unfold letB;rw [Bool.eq_iff_iff];simp at *;omega
 refine s_do gt<|mv' lk pt<|s_do gt<|?_
 refine V' (Zif lk (by omega) (by omega)) pt ?_
 refine s_do gt<|Zae mp (Zbe) pt<|V' (Zah lk lk) pt<|mv' lk pt<|sn'<|Zab<|Zag rz<|rT'<|?_
 refine bvx ?_;unfold wi at *;unfold letB;rw [Bool.eq_iff_iff];simp at *;omega
theorem ZeH {n:Int}{h:AH}(h0:0≤n) (h1:n≤255):Ac 71 [uv n] h (bv (digB n)):=by
 refine tI' k71 fun N hn hlt hlA hbd=>?_
 simp only [tb'] at hbd ⊢
 refine wr'<|mv' lkb pt<|sn'<|wr'<|mv' lk pt<|?_
 refine V' (Zif lk (by omega) (by omega)) pt ?_
 refine Zae mp (Zbe) pt<|mv' lk pt<|sn'<|Zab<|Zag rz<|rT'<|?_
 refine bvx ?_;unfold wi digB;rw [Bool.eq_iff_iff];simp
theorem ZdN (s:ByteArray) (k:Nat):(0:Int)≤((Zaz s k).toNat:Int)∧((Zaz s k).toNat:Int)≤255:=by
 have:=(Zaz s k).toNat_lt
 omega
theorem ZnX {s:ByteArray}{h:AH}(hs:s.size≤maxLen):Ac 104 [sv s] h (bv (allB ZbS s)):=by
 have hm:s.size≤9223372036854775807:=by simpa [maxLen] using hs
 refine tI' k104 fun N hn hlt hlA hbd=>?_
 simp only [tb'] at hbd ⊢
 refine wr'<|mv' lkb pt<|sn'<|Zam<|wr'<|mv' lki pt<|sn'<|Zao<|?_
 refine w_lp (ι:=Nat) (fun (k:Nat)=>[(3,iv (k:Int)),(2,.any)]++rn' 4 30) (fun (k:Nat)=>[]) (fun (k:Nat)=>k≤s.size ∧ ∀ j (hj:j<s.size),j<k→ZbS s[j].toNat=true) (fun (k:Nat)=>s.size-k) (0) (by exact ⟨by omega,fun j hj h0=>absurd h0 (by omega)⟩) ?_
 rintro k hi1
 try simp only [sm',Nat.reduceAdd]
 obtain ⟨hk1,hk2⟩:=hi1
 refine Zam<|wr'<|mv' lk pt<|mv' lk pt<|V' (Zbi lk) pt<|V' (Zbu lk lk) pt<|sn'<|?_
 refine cd' lk (fun hc1=>?_) (fun hc1=>?_)
 ·have hk:k<s.size:=by omega
  have hb:=ZdN s k
  have hbk:Zaz s k=s[k]:=Zcl hk
  refine Zaf<|Zai<|Zam<|Zao<|wr'<|mv' lk pt<|mv' lk pt<|?_
  refine V' (v_ix lk lk (by omega) (by omega)) pt ?_
  refine Zae mp (ZeX hb.1 hb.2) pt<|V' (Zav lk) pt<|mv' lk pt<|?_
  refine ZaL (t:=15) gt pt pt (fun hg15=>?_) (fun hg15=>?_)
  ·refine s_do gt<|mv' lk pt<|s_do gt<|mv' lk pt<|s_do gt<|?_
   refine V' (v_ix lk lk (by omega) (by omega)) pt ?_
   refine s_do gt<|Zae mp (ZeH hb.1 hb.2) pt<|s_do gt<|V' (Zav lk) pt<|V' (Zaj lk lk) pt<|mv' lk pt<|?_
   refine ZaL (t:=22) gt pt pt (fun hg22=>?_) (fun hg22=>?_)
   ·refine s_do gt<|mv' lk pt<|s_do gt<|mv' lk pt<|s_do gt<|?_
    refine V' (v_ix lk lk (by omega) (by omega)) pt ?_
    refine s_do gt<|V' (Za6 lk lki) pt<|V' (Zaj lk lk) pt<|mv' lk pt<|?_
    refine sp' (t:=28) gt pt pt (fun hg28=>?_) (fun hg28=>?_)
    ·refine s_do gt<|mv' lk pt<|s_do gt<|mv' lk pt<|s_do gt<|?_
     refine V' (v_ix lk lk (by omega) (by omega)) pt ?_
     refine s_do gt<|V' (Za6 lk lki) pt<|V' (Zaj lk lk) pt<|sn'<|?_
     refine cd' lk (fun hc2=>?_) (fun hc2=>?_)
     ·refine wr'<|mv' lkb pt<|sn'<|Zab<|Zaq<|Zak<|Zak<|Zaq<|Zak<|Zag rz<|rT'<|?_
      refine bvx ?_;rw [Zi7 (k:=k) hk (by rw [←hbk];unfold ZbS;simp at *;simp_all)]
     refine Zaf<|ZaF<|Zai<|Zar<|mv' lk pt<|?_
     refine V' (ZaE lk lki (by omega) (by omega)) pt ?_
     refine mv' lk pt<|Zas<|ZaI<|?_
     refine lT' (k+1) (by (try dsimp only);refine ⟨by omega,fun j hj h0=>?_⟩;rcases Nat.lt_or_ge j k with e | e;exact hk2 j hj e;obtain rfl:j=k:=(by omega);rw [←hbk];unfold ZbS;simp_all)
    refine s_no gt pt<|s_no gt pt<|s_no gt pt<|s_no gt pt<|V' (Zah lk lkb) pt<|sn'<|ZaY lk<|Zaf<|ZaF<|Zai<|Zar<|mv' lk pt<|?_
    refine V' (ZaE lk lki (by omega) (by omega)) pt ?_
    refine mv' lk pt<|Zas<|ZaI<|?_
    refine lT' (k+1) (by (try dsimp only);refine ⟨by omega,fun j hj h0=>?_⟩;rcases Nat.lt_or_ge j k with e | e;exact hk2 j hj e;obtain rfl:j=k:=(by omega);rw [←hbk];unfold ZbS;simp_all)
   refine s_no gt pt<|s_no gt pt<|s_no gt pt<|s_no gt pt<|V' (Zah lk lkb) pt<|mv' lk pt<|s_no gt pt<|s_no gt pt<|s_no gt pt<|s_no gt pt<|V' (Zah lk lkb) pt<|sn'<|ZaY lk<|?_
   refine Zaf<|ZaF<|Zai<|Zar<|mv' lk pt<|?_
   refine V' (ZaE lk lki (by omega) (by omega)) pt ?_
   refine mv' lk pt<|Zas<|ZaI<|?_
   refine lT' (k+1) (by (try dsimp only);refine ⟨by omega,fun j hj h0=>?_⟩;rcases Nat.lt_or_ge j k with e | e;exact hk2 j hj e;obtain rfl:j=k:=(by omega);rw [←hbk];unfold ZbS;simp_all)
  refine s_no gt pt<|s_no gt pt<|s_no gt pt<|s_no gt pt<|s_no gt pt<|V' (Zah lk lkb) pt<|mv' lk pt<|s_no gt pt<|s_no gt pt<|s_no gt pt<|s_no gt pt<|V' (Zah lk lkb) pt<|mv' lk pt<|s_no gt pt<|?_
  refine s_no gt pt<|s_no gt pt<|s_no gt pt<|V' (Zah lk lkb) pt<|sn'<|ZaY lk<|Zaf<|ZaF<|Zai<|Zar<|mv' lk pt<|?_
  refine V' (ZaE lk lki (by omega) (by omega)) pt ?_
  refine mv' lk pt<|Zas<|ZaI<|?_
  refine lT' (k+1) (by (try dsimp only);refine ⟨by omega,fun j hj h0=>?_⟩;rcases Nat.lt_or_ge j k with e | e;exact hk2 j hj e;obtain rfl:j=k:=(by omega);rw [←hbk];unfold ZbS;simp_all)
 refine Za0<|ZaO<|ZaO<|Zbp<|Zai<|wr'<|mv' lkb pt<|sn'<|Zab<|Zag rz<|rT'<|?_
 refine bvx ?_;rw [Zg2 fun j hj=>hk2 j hj (by omega)]
theorem ZhH {s:ByteArray}{h:AH}(hs:s.size≤maxLen):Ac 67 [sv s] h (bv (ZbZ s)):=by
 have hm:s.size≤9223372036854775807:=by simpa [maxLen] using hs
 refine tI' k67 fun N hn hlt hlA hbd=>?_
 simp only [tb'] at hbd ⊢
 refine wr'<|mv' lkb pt<|sn'<|Zam<|wr'<|mv' lki pt<|sn'<|Zao<|?_
 refine w_lp (ι:=Nat) (fun (k:Nat)=>[(3,iv (k:Int)),(2,.any)]++rn' 4 11) (fun (k:Nat)=>[]) (fun (k:Nat)=>k≤s.size ∧ ∀ j (hj:j<s.size),j<k→letB s[j].toNat=true) (fun (k:Nat)=>s.size-k) (0) (by exact ⟨by omega,fun j hj h0=>absurd h0 (by omega)⟩) ?_
 rintro k hi1
 try simp only [sm',Nat.reduceAdd]
 obtain ⟨hk1,hk2⟩:=hi1
 refine Zam<|wr'<|mv' lk pt<|mv' lk pt<|V' (Zbi lk) pt<|V' (Zbu lk lk) pt<|sn'<|?_
 refine cd' lk (fun hc1=>?_) (fun hc1=>?_)
 ·have hk:k<s.size:=by omega
  have hb:=ZdN s k
  have hbk:Zaz s k=s[k]:=Zcl hk
  refine Zaf<|Zai<|Zam<|Zao<|wr'<|mv' lk pt<|mv' lk pt<|?_
  refine V' (v_ix lk lk (by omega) (by omega)) pt ?_
  refine Zae mp (ZeX hb.1 hb.2) pt<|V' (Zav lk) pt<|sn'<|?_
  refine Zaw lk (fun hc2=>?_) (fun hc2=>?_)
  ·refine wr'<|mv' lkb pt<|sn'<|Zab<|Zaq<|Zak<|Zak<|Zaq<|Zak<|Zag rz<|rT'<|?_
   refine bvx ?_;unfold ZbZ;rw [Zi7 (k:=k) hk (by rw [←hbk];simp_all)];simp
  refine Zaf<|ZaF<|Zai<|Zar<|mv' lk pt<|?_
  refine V' (ZaE lk lki (by omega) (by omega)) pt ?_
  refine mv' lk pt<|Zas<|ZaI<|?_
  refine lT' (k+1) (by (try dsimp only);refine ⟨by omega,fun j hj h0=>?_⟩;rcases Nat.lt_or_ge j k with e | e;exact hk2 j hj e;obtain rfl:j=k:=(by omega);rw [←hbk];simp_all)
 refine Za0<|ZaO<|ZaO<|Zbp<|Zai<|wr'<|mv' lk pt<|V' (Zbi lk) pt<|V' (ZeT lk lki) pt<|mv' lk pt<|sn'<|Zab<|?_
 refine Zag rz<|rT'<|?_
 refine bvx ?_;unfold ZbZ;rw [Zg2 fun j hj=>hk2 j hj (by omega)];rw [Bool.eq_iff_iff];simp;omega
theorem Zdz {s:ByteArray}{h:AH}(hs:s.size≤maxLen):Ac 25 [sv s] h (bv (ZbL s)):=by
 have hm:s.size≤9223372036854775807:=by simpa [maxLen] using hs
 have hem:=Zes (f:=s)
 have hb0:=ZdN s 0
 refine tI' k25 fun N hn hlt hlA hbd=>?_
 simp only [tb'] at hbd ⊢
 refine wr'<|mv' lkb pt<|sn'<|Zam<|wr'<|mv' lk pt<|V' (Zcj lk lks) pt<|mv' lk pt<|?_
 refine sp' (t:=7) gt pt pt (fun hg7=>?_) (fun hg7=>?_)
 ·refine s_no gt pt<|s_no gt pt<|s_no gt pt<|V' (Zaj lk lkb) pt<|mv' lk pt<|s_no gt pt<|s_no gt pt<|s_no gt pt<|s_no gt pt<|V' (Zaj lk lkb) pt<|sn'<|ZaG lk<|Zam<|?_
  refine Zar<|mv' lkb pt<|sn'<|Zab<|Zak<|Zag rz<|rT'<|?_
  refine bvx ?_;unfold ZbL;simp [hem.1 hg7]
 have hne:s.size≠0:=fun e=>hg7 (hem.2 e)
 refine s_do gt<|mv' lk pt<|s_do gt<|V' (Zbi lk) pt<|s_do gt<|V' (ZbN lk lki) pt<|V' (Zah lk lk) pt<|mv' lk pt<|?_
 refine sp' (t:=12) gt pt pt (fun hg12=>?_) (fun hg12=>?_)
 ·refine s_no gt pt<|s_no gt pt<|s_no gt pt<|s_no gt pt<|V' (Zaj lk lkb) pt<|sn'<|ZaG lk<|wr'<|mv' lkb pt<|sn'<|Zab<|?_
  refine Zak<|Zag rz<|rT'<|?_
  refine bvx ?_;unfold ZbL;simp;omega
 refine s_do gt<|mv' lk pt<|s_do gt<|?_
 refine V' (v_ix lk lki (by omega) (by omega)) pt ?_
 refine s_do gt<|Zae mp (ZeX hb0.1 hb0.2) pt<|s_do gt<|V' (Zav lk) pt<|V' (Zah lk lk) pt<|sn'<|?_
 refine Zaw lk (fun hc1=>?_) (fun hc1=>?_)
 ·refine wr'<|mv' lkb pt<|sn'<|Zab<|Zak<|Zag rz<|rT'<|?_
  refine bvx ?_;unfold ZbL;simp_all
 have hz:s.size≤24:=by omega
 have hL:letB (Zaz s 0).toNat=true:=by simpa using hc1
 refine Zaf<|Zai<|Zam<|wr'<|mv' lki pt<|sn'<|Zao<|?_
 refine w_lp (ι:=Nat) (fun (k:Nat)=>[(3,iv (k:Int)),(2,.any),(4,.any)]++rn' 18 33) (fun (k:Nat)=>[]) (fun (k:Nat)=>k≤s.size ∧ ∀ j (hj:j<s.size),j<k→ZmP s[j].toNat=true) (fun (k:Nat)=>s.size-k) (0) (by exact ⟨by omega,fun j hj h0=>absurd h0 (by omega)⟩) ?_
 rintro k hi1
 try simp only [sm',Nat.reduceAdd]
 obtain ⟨hk1,hk2⟩:=hi1
 refine Zam<|wr'<|mv' lk pt<|mv' lk pt<|V' (Zbi lk) pt<|V' (Zbu lk lk) pt<|sn'<|?_
 refine cd' lk (fun hc2=>?_) (fun hc2=>?_)
 ·have hk:k<s.size:=by omega
  have hb:=ZdN s k
  have hbk:Zaz s k=s[k]:=Zcl hk
  have hR:=ZmO (Zaz s k)
  refine Zaf<|Zai<|Zam<|Zao<|wr'<|mv' lk pt<|mv' lk pt<|?_
  refine V' (v_ix lk lk (by omega) (by omega)) pt ?_
  refine mv' lk pt<|sn'<|wr'<|mv' lk pt<|Zae mp (ZeX hb.1 hb.2) pt<|V' (Zav lk) pt<|mv' lk pt<|?_
  refine ZaL (t:=30) gt pt pt (fun hg30=>?_) (fun hg30=>?_)
  ·refine s_do gt<|mv' lk pt<|s_do gt<|Zae mp (ZeH hb.1 hb.2) pt<|s_do gt<|V' (Zav lk) pt<|V' (Zaj lk lk) pt<|mv' lk pt<|?_
   refine ZaL (t:=35) gt pt pt (fun hg35=>?_) (fun hg35=>?_)
   ·refine s_do gt<|mv' lk pt<|s_do gt<|V' (Za6 lk lki) pt<|V' (Zaj lk lk) pt<|mv' lk pt<|?_
    refine sp' (t:=39) gt pt pt (fun hg39=>?_) (fun hg39=>?_)
    ·refine s_do gt<|mv' lk pt<|s_do gt<|V' (Za6 lk lki) pt<|V' (Zaj lk lk) pt<|mv' lk pt<|?_
     refine sp' (t:=43) gt pt pt (fun hg43=>?_) (fun hg43=>?_)
     ·refine s_do gt<|mv' lk pt<|s_do gt<|V' (Za6 lk lki) pt<|V' (Zaj lk lk) pt<|mv' lk pt<|?_
      refine sp' (t:=47) gt pt pt (fun hg47=>?_) (fun hg47=>?_)
      ·refine s_do gt<|mv' lk pt<|s_do gt<|V' (Za6 lk lki) pt<|V' (Zaj lk lk) pt<|sn'<|?_
       refine cd' lk (fun hc3=>?_) (fun hc3=>?_)
       ·refine wr'<|mv' lkb pt<|sn'<|Zab<|Zaq<|Zak<|Zak<|Zaq<|Zak<|Zag rz<|rT'<|?_
        refine bvx ?_;unfold ZbL;rw [Zi7 (k:=k) hk (by rw [←hbk,hR];unfold refN;simp_all)];simp
       refine Zaf<|ZaF<|Zai<|Zar<|mv' lk pt<|?_
       refine V' (ZaE lk lki (by omega) (by omega)) pt ?_
       refine mv' lk pt<|Zas<|ZaI<|?_
       refine lT' (k+1) (by (try dsimp only);refine ⟨by omega,fun j hj h0=>?_⟩;rcases Nat.lt_or_ge j k with e | e;exact hk2 j hj e;obtain rfl:j=k:=(by omega);rw [←hbk,hR];unfold refN;simp_all)
      refine s_no gt pt<|s_no gt pt<|V' (Zah lk lkb) pt<|sn'<|ZaY lk<|Zaf<|ZaF<|Zai<|Zar<|mv' lk pt<|?_
      refine V' (ZaE lk lki (by omega) (by omega)) pt ?_
      refine mv' lk pt<|Zas<|ZaI<|?_
      refine lT' (k+1) (by (try dsimp only);refine ⟨by omega,fun j hj h0=>?_⟩;rcases Nat.lt_or_ge j k with e | e;exact hk2 j hj e;obtain rfl:j=k:=(by omega);rw [←hbk,hR];unfold refN;simp_all)
     refine s_no gt pt<|s_no gt pt<|V' (Zah lk lkb) pt<|mv' lk pt<|s_no gt pt<|s_no gt pt<|V' (Zah lk lkb) pt<|sn'<|ZaY lk<|Zaf<|ZaF<|Zai<|Zar<|?_
     refine mv' lk pt ?_
     refine V' (ZaE lk lki (by omega) (by omega)) pt ?_
     refine mv' lk pt<|Zas<|ZaI<|?_
     refine lT' (k+1) (by (try dsimp only);refine ⟨by omega,fun j hj h0=>?_⟩;rcases Nat.lt_or_ge j k with e | e;exact hk2 j hj e;obtain rfl:j=k:=(by omega);rw [←hbk,hR];unfold refN;simp_all)
    refine s_no gt pt<|s_no gt pt<|V' (Zah lk lkb) pt<|mv' lk pt<|s_no gt pt<|s_no gt pt<|V' (Zah lk lkb) pt<|mv' lk pt<|s_no gt pt<|s_no gt pt<|V' (Zah lk lkb) pt<|sn'<|ZaY lk<|?_
    refine Zaf<|ZaF<|Zai<|Zar<|mv' lk pt<|?_
    refine V' (ZaE lk lki (by omega) (by omega)) pt ?_
    refine mv' lk pt<|Zas<|ZaI<|?_
    refine lT' (k+1) (by (try dsimp only);refine ⟨by omega,fun j hj h0=>?_⟩;rcases Nat.lt_or_ge j k with e | e;exact hk2 j hj e;obtain rfl:j=k:=(by omega);rw [←hbk,hR];unfold refN;simp_all)
   refine s_no gt pt<|s_no gt pt<|V' (Zah lk lkb) pt<|mv' lk pt<|s_no gt pt<|s_no gt pt<|V' (Zah lk lkb) pt<|mv' lk pt<|s_no gt pt<|s_no gt pt<|V' (Zah lk lkb) pt<|mv' lk pt<|s_no gt pt<|s_no gt pt<|?_
   refine V' (Zah lk lkb) pt<|sn'<|ZaY lk<|Zaf<|ZaF<|Zai<|Zar<|mv' lk pt<|?_
   refine V' (ZaE lk lki (by omega) (by omega)) pt ?_
   refine mv' lk pt<|Zas<|ZaI<|?_
   refine lT' (k+1) (by (try dsimp only);refine ⟨by omega,fun j hj h0=>?_⟩;rcases Nat.lt_or_ge j k with e | e;exact hk2 j hj e;obtain rfl:j=k:=(by omega);rw [←hbk,hR];unfold refN;simp_all)
  refine s_no gt pt<|s_no gt pt<|s_no gt pt<|V' (Zah lk lkb) pt<|mv' lk pt<|s_no gt pt<|s_no gt pt<|V' (Zah lk lkb) pt<|mv' lk pt<|s_no gt pt<|s_no gt pt<|V' (Zah lk lkb) pt<|mv' lk pt<|s_no gt pt<|?_
  refine s_no gt pt<|V' (Zah lk lkb) pt<|mv' lk pt<|s_no gt pt<|s_no gt pt<|V' (Zah lk lkb) pt<|sn'<|ZaY lk<|Zaf<|ZaF<|Zai<|Zar<|mv' lk pt<|?_
  refine V' (ZaE lk lki (by omega) (by omega)) pt ?_
  refine mv' lk pt<|Zas<|ZaI<|?_
  refine lT' (k+1) (by (try dsimp only);refine ⟨by omega,fun j hj h0=>?_⟩;rcases Nat.lt_or_ge j k with e | e;exact hk2 j hj e;obtain rfl:j=k:=(by omega);rw [←hbk,hR];unfold refN;simp_all)
 refine Za0<|ZaO<|ZaO<|Zbp<|Zai<|wr'<|mv' lkb pt<|sn'<|Zab<|Zag rz<|rT'<|?_
 refine bvx ?_;unfold ZbL;rw [Zg2 fun j hj=>hk2 j hj (by omega),hL];simp [hne,hz]
theorem Zgi {s:ByteArray}{h:AH}(hs:s.size≤maxLen):Ac 72 [sv s] h (bv (Zb0 s)):=by
 have hm:s.size≤9223372036854775807:=by simpa [maxLen] using hs
 have hem:=Zes (f:=s)
 have hF:=ZiO s
 refine tI' k72 fun N hn hlt hlA hbd=>?_
 simp only [tb'] at hbd ⊢
 refine wr'<|mv' lkb pt<|sn'<|wr'<|mv' lki pt<|sn'<|Zam<|wr'<|mv' lki pt<|?_
 refine sn'<|Zao<|?_
 refine w_lp (ι:=Nat×Nat) (fun (x_:Nat×Nat)=>match x_ with | ⟨k,m⟩=>[(3,iv (m:Int)),(4,iv (k:Int)),(2,.any)]++rn' 5 49) (fun (x_:Nat×Nat)=>match x_ with | ⟨k,m⟩=>[]) (fun (x_:Nat×Nat)=>match x_ with | ⟨k,m⟩=>k≤s.size∧m≤k∧fmtL 0 true (aB s)=fmtL m (decide (k=0)) ((aB s).drop k)) (fun (x_:Nat×Nat)=>match x_ with | ⟨k,m⟩=>s.size-k) (⟨0,0⟩) (by exact ⟨by omega,by omega,rfl⟩) ?_
 rintro ⟨k,m⟩ hi1
 try simp only [sm',Nat.reduceAdd]
 obtain ⟨hk1,hk2,hk3⟩:=hi1
 refine Zam<|wr'<|mv' lk pt<|mv' lk pt<|V' (Zbi lk) pt<|V' (Zbu lk lk) pt<|sn'<|?_
 refine cd' lk (fun hc1=>?_) (fun hc1=>?_)
 ·have hk:k<s.size:=by omega
  have hb:=ZdN s k
  have hA:=ZdO hk
  rw [hA,fmtL] at hk3
  have hE:((aB s).drop (k+1)).isEmpty=decide ((k:Int)=(s.size:Int)-1):=by
   rw [Bool.eq_iff_iff,List.isEmpty_iff,List.drop_eq_nil_iff,decide_eq_true_iff,Zbr];omega
  refine Zaf<|Zai<|Zam<|Zao<|Zao<|wr'<|mv' lk pt<|mv' lk pt<|?_
  refine V' (v_ix lk lk (by omega) (by omega)) pt ?_
  refine V' (ZaX lk lki) pt<|mv' lk pt<|sn'<|?_
  refine cd' lk (fun hc2=>?_) (fun hc2=>?_)
  ·have hx:Zaz s k=47:=Zi2 (n:=47) (by omega) hc2
   rw [if_pos hx,hE] at hk3
   refine wr'<|mv' lk pt<|?_
   refine V' (ZaE lk lki (by omega) (by omega)) pt ?_
   refine mv' lk pt<|sn'<|wr'<|mv' lk pt<|V' (ZaX lk lki) pt<|mv' lk pt<|?_
   refine sp' (t:=20) gt pt pt (fun hg20=>?_) (fun hg20=>?_)
   ·refine s_no gt pt<|s_no gt pt<|s_no gt pt<|s_no gt pt<|s_no gt pt<|V' (Zaj lk lkb) pt<|sn'<|ZaG lk<|wr'<|mv' lkb pt<|sn'<|?_
    refine Zab<|Zaq<|Zaq<|Zak<|Zak<|Zaq<|Zak<|Zag rz<|rT'<|?_
    refine bvx ?_;rw [hF,hk3];simp_all
   refine s_do gt<|mv' lk pt<|s_do gt<|mv' lk pt<|s_do gt<|V' (Zbi lk) pt<|s_do gt<|?_
   refine V' (ZcC lk lki (by omega) (by omega)) pt ?_
   refine s_do gt<|V' (ZaX lk lk) pt<|V' (Zah lk lk) pt<|sn'<|?_
   refine cd' lk (fun hc3=>?_) (fun hc3=>?_)
   ·refine wr'<|mv' lkb pt<|sn'<|Zab<|Zaq<|Zaq<|Zak<|Zak<|Zaq<|Zak<|Zag rz<|rT'<|?_
    refine bvx ?_;rw [hF,hk3];simp_all
   have hk3':fmtL 0 true (aB s)=fmtL (m+1) false ((aB s).drop (k+1)):=by rw [hk3];simp_all
   refine Zaf<|ZaF<|ZaF<|Zai<|Zar<|mv' lk pt<|?_
   refine V' (ZaE lk lki (by omega) (by omega)) pt ?_
   refine mv' lk pt<|Zas<|ZaI<|?_
   refine lT' (⟨k+1,m+1⟩) (by (try dsimp only);exact ⟨by omega,by omega,by rw [hk3'];simp⟩)
  have hx:¬Zaz s k=47:=ZlC (n:=47) (by omega) hc2
  rw [if_neg hx] at hk3
  refine wr'<|mv' lk pt<|mv' lk pt<|?_
  refine V' (v_ix lk lk (by omega) (by omega)) pt ?_
  refine V' (ZaX lk lki) pt<|mv' lk pt<|sn'<|?_
  refine cd' lk (fun hc4=>?_) (fun hc4=>?_)
  ·have hy:Zaz s k=37:=Zi2 (n:=37) (by omega) hc4
   rw [if_pos hy] at hk3
   refine wr'<|mv' lk pt<|?_
   refine V' (ZaE lk lki (by omega) (by omega)) pt ?_
   refine mv' lk pt<|sn'<|wr'<|mv' lk pt<|mv' lk pt<|V' (Zbi lk) pt<|?_
   refine V' (ZcC lk lki (by omega) (by omega)) pt ?_
   refine V' (ZaX lk lk) pt<|mv' lk pt<|?_
   refine sp' (t:=39) gt pt pt (fun hg39=>?_) (fun hg39=>?_)
   ·have hD:(aB s).drop (k+1)=[]:=by rw [List.drop_eq_nil_iff,Zbr];omega
    refine s_no gt pt<|s_no gt pt<|s_no gt pt<|s_no gt pt<|s_no gt pt<|V' (Zaj lk lkb) pt<|sn'<|ZaG lk<|wr'<|mv' lkb pt<|sn'<|?_
    refine Zab<|Zaq<|Zaq<|Zak<|Zak<|Zaq<|Zak<|Zag rz<|rT'<|?_
    refine bvx ?_;rw [hF,hk3,hD];simp
   have hk':k+1<s.size:=by omega
   have hA':=ZdO hk'
   refine s_do gt<|mv' lk pt<|s_do gt<|mv' lk pt<|s_do gt<|?_
   refine V' (ZaE lk lki (by omega) (by omega)) pt ?_
   refine s_do gt ?_
   refine V' (v_ix lk lk (by omega) (by omega)) pt ?_
   refine s_do gt<|V' (Za6 lk lki) pt<|V' (Zah lk lk) pt<|sn'<|?_
   refine cd' lk (fun hc5=>?_) (fun hc5=>?_)
   ·refine wr'<|mv' lkb pt<|sn'<|Zab<|Zaq<|Zaq<|Zak<|Zak<|Zaq<|Zak<|Zag rz<|rT'<|?_
    refine bvx ?_;rw [hF,hk3,hA'];have h9:¬Zaz s (k+1)=115:=ZlC (c:=Zaz s (k+1)) (n:=115) (by omega) (by simpa using hc5);simp [h9]
   have hk3':fmtL 0 true (aB s)=fmtL (m+1) false ((aB s).drop (k+1)):=by rw [hk3];have:=Zi2 (c:=Zaz s (k+1)) (n:=115) (by omega) (by simpa using hc5);rw [hA'];simp [this]
   refine Zaf<|ZaF<|ZaF<|Zai<|Zar<|mv' lk pt<|?_
   refine V' (ZaE lk lki (by omega) (by omega)) pt ?_
   refine mv' lk pt<|Zas<|ZaI<|?_
   refine lT' (⟨k+1,m+1⟩) (by (try dsimp only);exact ⟨by omega,by omega,by rw [hk3'];simp⟩)
  have hy:¬Zaz s k=37:=ZlC (n:=37) (by omega) hc4
  rw [if_neg hy] at hk3
  have hone:allB ZbS (s.extract k (k+1))=ZbS (Zaz s k).toNat:=by rw [Zet,hA,Nat.add_sub_cancel_left];simp [allB,bA]
  refine wr'<|mv' lk pt<|mv' lk pt<|mv' lk pt<|?_
  refine V' (ZaE lk lki (by omega) (by omega)) pt ?_
  refine V' (Zd6 lk (oi lk) (oi lk) (by omega) (by omega) (by omega)) pt ?_
  refine Zae mp (ZnX (by rw [ByteArray.size_extract];unfold maxLen at *;omega)) pt ?_
  refine V' (Zav lk) pt<|mv' lk pt<|sn'<|?_
  refine Zaw lk (fun hc6=>?_) (fun hc6=>?_)
  ·refine wr'<|mv' lkb pt<|sn'<|Zab<|Zaq<|Zaq<|Zak<|Zak<|Zaq<|Zak<|Zag rz<|rT'<|?_
   refine bvx ?_;rw [hF,hk3,←hone];simp_all
  have hk3':fmtL 0 true (aB s)=fmtL m false ((aB s).drop (k+1)):=by rw [hk3,←hone];simp_all
  refine Zaf<|ZaF<|ZaF<|Zai<|Zar<|mv' lk pt<|?_
  refine V' (ZaE lk lki (by omega) (by omega)) pt ?_
  refine mv' lk pt<|Zas<|ZaI<|?_
  refine lT' (⟨k+1,m⟩) (by (try dsimp only);exact ⟨by omega,by omega,by rw [hk3'];simp⟩)
 have hk4:fmtL 0 true (aB s)=decide (m≤1):=by rw [hk3,Zkk (by omega),fmtL]
 clear hk3
 refine Za0<|ZaO<|ZaO<|Zbp<|Zai<|wr'<|mv' lk pt<|V' (Zcp lk lks) pt<|mv' lk pt<|?_
 refine sp' (t:=56) gt pt pt (fun hg56=>?_) (fun hg56=>?_)
 ·refine s_do gt<|mv' lk pt<|s_do gt<|V' (Zbi lk) pt<|s_do gt<|V' (ZeT lk lki) pt<|V' (Zaj lk lk) pt<|mv' lk pt<|?_
  refine sp' (t:=61) gt pt pt (fun hg61=>?_) (fun hg61=>?_)
  ·refine s_do gt<|mv' lk pt<|s_do gt<|V' (ZeT lk lki) pt<|V' (Zaj lk lk) pt<|mv' lk pt<|sn'<|Zab<|Zag rz<|rT'<|?_
   refine bvx ?_;rw [hF,hk4];clear hF hk4;by_cases h0:s.size=0 <;> simp_all <;> (try intros) <;> first | omega | (rw [Bool.eq_iff_iff];simp;omega)
  refine s_no gt pt<|s_no gt pt<|V' (Zah lk lkb) pt<|mv' lk pt<|sn'<|Zab<|Zag rz<|rT'<|?_
  refine bvx ?_;rw [hF,hk4];clear hF hk4;by_cases h0:s.size=0 <;> simp_all <;> (try intros) <;> first | omega | (rw [Bool.eq_iff_iff];simp;omega)
 refine s_no gt pt<|s_no gt pt<|s_no gt pt<|V' (Zah lk lkb) pt<|mv' lk pt<|s_no gt pt<|s_no gt pt<|V' (Zah lk lkb) pt<|mv' lk pt<|sn'<|Zab<|Zag rz<|rT'<|?_
 refine bvx ?_;rw [hF,hk4];clear hF hk4;by_cases h0:s.size=0 <;> simp_all <;> (try intros) <;> first | omega | (rw [Bool.eq_iff_iff];simp;omega)
end Go.Proofs.YtgjchdhdopgkkaaGreatDoor
end
section
namespace Go.Proofs.YtgjchdhdopgkkaaGreatDoor
open Go.Ab
attribute [local simp] Za4 Zbj Zca Za5
section
theorem Zkx {a0 a1 a2:AV}{l:List AV}:((a0::a1::a2::l).drop 0).take 3=[a0,a1,a2]:=rfl
theorem ZoE {a0 b0:Int}{a1 b1:Int}{a2 b2:Int}:ZbD [.int,.int,.int] [iv a0,iv a1,iv a2] [iv b0,iv b1,iv b2]=some (decide (a0=b0∧a1=b1∧a2=b2)):=by
 simp only [ZbD,Zer,if_true,Zdc,Option.some.injEq]
 simp only [Bool.decide_and,Bool.and_true]
 try (congr 1 <;> simp)
 try rfl
theorem Zkv {a0 a1 a2 a3 a4 a5 a6 a7 a8 a9:AV}{l:List AV}:(a0::a1::a2::a3::a4::a5::a6::a7::a8::a9::l).take 10=[a0,a1,a2,a3,a4,a5,a6,a7,a8,a9]:=rfl
theorem Zjg {a0 a1 a2 a3 a4 a5 a6 a7 a8 a9 c0 c1 c2 c3 c4 c5 c6 c7 c8 c9:AV}{l:List AV}:setCells (a0::a1::a2::a3::a4::a5::a6::a7::a8::a9::l) 0 [c0,c1,c2,c3,c4,c5,c6,c7,c8,c9]=c0::c1::c2::c3::c4::c5::c6::c7::c8::c9::l:=rfl
theorem Zkw {a0 a1 a2 a3 a4 a5 a6 a7 a8 a9:AV}{l:List AV}:((a0::a1::a2::a3::a4::a5::a6::a7::a8::a9::l).drop 5).take 5=[a5,a6,a7,a8,a9]:=rfl
theorem Zku {a0 a1 a2 a3 a4 a5 a6 a7 a8 a9 a10:AV}{l:List AV}:(a0::a1::a2::a3::a4::a5::a6::a7::a8::a9::a10::l).take 11=[a0,a1,a2,a3,a4,a5,a6,a7,a8,a9,a10]:=rfl
theorem Zgr {a0 b0:ByteArray}{a1 b1:Int}{a2 b2:Int}{a3 b3:Int}{a4 b4:Int}{a5 b5:Int}{a6 b6:Int}{a7 b7:Int}{a8 b8:Int}{a9 b9:Int}{a10 b10:ByteArray}:ZbD [.str,.int,.int,.int,.int,.int,.int,.int,.int,.int,.str] [sv a0,iv a1,iv a2,iv a3,iv a4,iv a5,iv a6,iv a7,iv a8,iv a9,sv a10] [sv b0,iv b1,iv b2,iv b3,iv b4,iv b5,iv b6,iv b7,iv b8,iv b9,sv b10]=some (decide (a0=b0∧a1=b1∧a2=b2∧a3=b3∧a4=b4∧a5=b5∧a6=b6∧a7=b7∧a8=b8∧a9=b9∧a10=b10)):=by
 simp only [ZbD,Zer,if_true,Zdc,Option.some.injEq]
 simp only [Bool.decide_and,Bool.and_true]
 try (congr 1 <;> simp)
 try rfl
theorem Zg7 {a0 a1:AV}{l:List AV}:(a0::a1::l).take 2=[a0,a1]:=rfl
theorem Zrd {a0 b0:ByteArray}{a1 b1:ByteArray}:ZbD [.str,.str] [sv a0,sv a1] [sv b0,sv b1]=some (decide (a0=b0∧a1=b1)):=by
 simp only [ZbD,Zer,if_true,Zdc,Option.some.injEq]
 simp only [Bool.decide_and,Bool.and_true]
 try (congr 1 <;> simp)
 try rfl
end
def c73:AC:=(Sr [Oo 2 (.box 62 5 (.tmp 0)),Oo 3 (.box 62 5 (.tmp 1)),Mb 4 false] (Sr [Fa 5 0 2,Oo 6 (.load true 3 (.tmp 5)),Fa 7 0 3,Oo 8 (.load true 3 (.tmp 7)),Oo 9 (.eqs false [.int,.int,.int] (.tmp 6) (.tmp 8)),Mv 10 9,Ot 11 10 (.fa 3 (.tmp 2)),Ot 12 10 (.load false 1 (.tmp 11)),Ot 13 10 (.fa 3 (.tmp 3)),Ot 14 10 (.load false 1 (.tmp 13)),Ot 15 10 (.bin .eql (.tmp 12) (.tmp 14)),Oo 16 (.pick (.tmp 10) (.tmp 15) (.const (.bool false))),Mv 17 16,Ot 18 17 (.fa 4 (.tmp 2)),Ot 19 17 (.load false 1 (.tmp 18)),Ot 20 17 (.fa 4 (.tmp 3)),Ot 21 17 (.load false 1 (.tmp 20)),Ot 22 17 (.bin .eql (.tmp 19) (.tmp 21)),Oo 23 (.pick (.tmp 17) (.tmp 22) (.const (.bool false))),Mv 4 23] .ret))
theorem k73:ZaH Tryz.prog 73=some ⟨c73,[(.tmp 4)],24⟩:=by kernel_rfl
def c38:AC:=(Sr [Oo 2 (.box 52 2 (.tmp 0)),Oo 3 (.box 52 2 (.tmp 1)),Mb 4 false] (.seq (Sr [Fa 8 0 2,Ld 9 8,Fa 10 0 3,Ld 11 10,Bn 12 .neq 9 11,Mv 13 12,Of 14 13 (.fa 1 (.tmp 2)),Of 15 13 (.load false 1 (.tmp 14)),Of 16 13 (.len false (.tmp 15)),Of 17 13 (.fa 1 (.tmp 3)),Of 18 13 (.load false 1 (.tmp 17)),Of 19 13 (.len false (.tmp 18)),Of 20 13 (.bin .neq (.tmp 16) (.tmp 19)),Oo 21 (.pick (.tmp 13) (.const (.bool true)) (.tmp 20))] (Cd 21 (Sr [Mb 4 false] .ret) .skip)) (.seq (Sr [Mc 5 0] (.block 0 (.loop (.seq (Sr [Mv 22 5,Fa 23 1 2,Ld 24 23,Oo 25 (.len false (.tmp 24)),Bn 26 .lss 22 25] (Cd 26 .skip (.exit 0))) (.seq (.block 1 (.seq (.drwU [[],[],[0,1],[],[],[0,1,2,3,4],[0,1,2,3,4],[0,1,2,3,4,5,6],[0,1,2,3,4],[0,1,2,3,4],[0,1,2,3,4,5,6,7,8,9],[0,1,2,3,4,5,6,7,8,9,10],[5,6,7,8,9],[]] [Fa 29 1 2,Ld 30 29,Mv 31 5,Oo 32 (.ia 10 (.tmp 30) (.tmp 31)),Oo 33 (.load true 10 (.tmp 32)),Fa 34 1 3,Ld 35 34,Mv 36 5,Oo 37 (.ia 10 (.tmp 35) (.tmp 36)),Oo 38 (.load true 10 (.tmp 37)),Oo 6 (.new 64 10 [(iv 0),Ss,(iv 0),Ss,(.v (.bool false)),(iv 0),(iv 0),(iv 0),(iv 0),(iv 0)]),Oo 7 (.new 64 10 [(iv 0),Ss,(iv 0),Ss,(.v (.bool false)),(iv 0),(iv 0),(iv 0),(iv 0),(iv 0)]),⟨none,none,(.store 10 (.tmp 6) (.tmp 33))⟩,⟨none,none,(.store 10 (.tmp 7) (.tmp 38))⟩]) (Sr [Fa 39 0 6,Ld 40 39,Fa 41 0 7,Ld 42 41,Bn 43 .neq 40 42,Mv 44 43,Of 45 44 (.fa 1 (.tmp 6)),Of 46 44 (.load false 1 (.tmp 45)),Of 47 44 (.fa 1 (.tmp 7)),Of 48 44 (.load false 1 (.tmp 47)),Of 49 44 (.bin .neq (.tmp 46) (.tmp 48)),Oo 50 (.pick (.tmp 44) (.const (.bool true)) (.tmp 49)),Mv 51 50,Of 52 51 (.fa 2 (.tmp 6)),Of 53 51 (.load false 1 (.tmp 52)),Of 54 51 (.fa 2 (.tmp 7)),Of 55 51 (.load false 1 (.tmp 54)),Of 56 51 (.bin .neq (.tmp 53) (.tmp 55)),Oo 57 (.pick (.tmp 51) (.const (.bool true)) (.tmp 56)),Mv 58 57,Of 59 58 (.fa 3 (.tmp 6)),Of 60 58 (.load false 1 (.tmp 59)),Of 61 58 (.fa 3 (.tmp 7)),Of 62 58 (.load false 1 (.tmp 61)),Of 63 58 (.bin .neq (.tmp 60) (.tmp 62)),Oo 64 (.pick (.tmp 58) (.const (.bool true)) (.tmp 63)),Mv 65 64,Of 66 65 (.fa 4 (.tmp 6)),Of 67 65 (.load false 1 (.tmp 66)),Of 68 65 (.fa 4 (.tmp 7)),Of 69 65 (.load false 1 (.tmp 68)),Of 70 65 (.eqb true (.tmp 67) (.tmp 69)),Oo 71 (.pick (.tmp 65) (.const (.bool true)) (.tmp 70)),Mv 72 71,Of 73 72 (.fa 5 (.tmp 6)),Of 74 72 (.load true 5 (.tmp 73)),Of 75 72 (.fa 5 (.tmp 7)),Of 76 72 (.load true 5 (.tmp 75)),Of 77 72 (.call (.func 73) [(.tmp 74),(.tmp 76)]),Of 78 72 (.un .not (.tmp 77)),Oo 79 (.pick (.tmp 72) (.const (.bool true)) (.tmp 78))] (Cd 79 (Sr [Mb 4 false] .ret) .skip)))) (.reg [Mv 27 5,Bc 28 .add 27 1,Mv 5 28])))))) (Sr [Mb 4 true] .ret))))
theorem k38:ZaH Tryz.prog 38=some ⟨c38,[(.tmp 4)],80⟩:=by kernel_rfl
def c14:AC:=(Sr [Oo 2 (.box 26 3 (.tmp 0)),Oo 3 (.box 26 3 (.tmp 1)),Mb 4 false] (.seq (Sr [Fa 8 0 2,Ld 9 8,Oo 10 (.len false (.tmp 9)),Fa 11 0 3,Ld 12 11,Oo 13 (.len false (.tmp 12)),Bn 14 .neq 10 13,Mv 15 14,Of 16 15 (.fa 1 (.tmp 2)),Of 17 15 (.load false 1 (.tmp 16)),Of 18 15 (.len false (.tmp 17)),Of 19 15 (.fa 1 (.tmp 3)),Of 20 15 (.load false 1 (.tmp 19)),Of 21 15 (.len false (.tmp 20)),Of 22 15 (.bin .neq (.tmp 18) (.tmp 21)),Oo 23 (.pick (.tmp 15) (.const (.bool true)) (.tmp 22)),Mv 24 23,Of 25 24 (.fa 2 (.tmp 2)),Of 26 24 (.load false 1 (.tmp 25)),Of 27 24 (.len false (.tmp 26)),Of 28 24 (.fa 2 (.tmp 3)),Of 29 24 (.load false 1 (.tmp 28)),Of 30 24 (.len false (.tmp 29)),Of 31 24 (.bin .neq (.tmp 27) (.tmp 30)),Oo 32 (.pick (.tmp 24) (.const (.bool true)) (.tmp 31))] (Cd 32 (Sr [Mb 4 false] .ret) .skip)) (.seq (Sr [Mc 5 0] (.block 0 (.loop (.seq (Sr [Mv 33 5,Fa 34 0 2,Ld 35 34,Oo 36 (.len false (.tmp 35)),Bn 37 .lss 33 36] (Cd 37 .skip (.exit 0))) (.seq (.block 1 (Sd [Fa 40 0 2,Ld 41 40,Mv 42 5,Oo 43 (.ia 11 (.tmp 41) (.tmp 42)),Oo 44 (.load true 11 (.tmp 43)),Fa 45 0 3,Ld 46 45,Mv 47 5,Oo 48 (.ia 11 (.tmp 46) (.tmp 47)),Oo 49 (.load true 11 (.tmp 48)),Oo 50 (.eqs true [.str,.int,.int,.int,.int,.int,.int,.int,.int,.int,.str] (.tmp 44) (.tmp 49))] (Cd 50 (Sr [Mb 4 false] .ret) .skip))) (.reg [Mv 38 5,Bc 39 .add 38 1,Mv 5 39])))))) (.seq (Sr [Mc 6 0] (.block 2 (.loop (.seq (Sr [Mv 51 6,Fa 52 2 2,Ld 53 52,Oo 54 (.len false (.tmp 53)),Bn 55 .lss 51 54] (Cd 55 .skip (.exit 2))) (.seq (.block 3 (Sd [Fa 58 2 2,Ld 59 58,Mv 60 6,Oo 61 (.ia 2 (.tmp 59) (.tmp 60)),Oo 62 (.load true 2 (.tmp 61)),Fa 63 2 3,Ld 64 63,Mv 65 6,Oo 66 (.ia 2 (.tmp 64) (.tmp 65)),Oo 67 (.load true 2 (.tmp 66)),Oo 68 (.eqs true [.str,.str] (.tmp 62) (.tmp 67))] (Cd 68 (Sr [Mb 4 false] .ret) .skip))) (.reg [Mv 56 6,Bc 57 .add 56 1,Mv 6 57])))))) (.seq (Sr [Mc 7 0] (.block 4 (.loop (.seq (Sr [Mv 69 7,Fa 70 1 2,Ld 71 70,Oo 72 (.len false (.tmp 71)),Bn 73 .lss 69 72] (Cd 73 .skip (.exit 4))) (.seq (.block 5 (Sd [Fa 76 1 2,Ld 77 76,Mv 78 7,Oo 79 (.ia 2 (.tmp 77) (.tmp 78)),Oo 80 (.load true 2 (.tmp 79)),Fa 81 1 3,Ld 82 81,Mv 83 7,Oo 84 (.ia 2 (.tmp 82) (.tmp 83)),Oo 85 (.load true 2 (.tmp 84)),Cl 86 38 [(.tmp 80),(.tmp 85)],Oo 87 (.un .not (.tmp 86))] (Cd 87 (Sr [Mb 4 false] .ret) .skip))) (.reg [Mv 74 7,Bc 75 .add 74 1,Mv 7 75])))))) (Sr [Mb 4 true] .ret))))))
theorem k14:ZaH Tryz.prog 14=some ⟨c14,[(.tmp 4)],88⟩:=by kernel_rfl
theorem Zdy {u v:Unt}{h:AH}:Ac 73 [.agg (untC u),.agg (untC v)] h (bv (decide (u=v))):=by
 obtain ⟨⟨y,m,d⟩,a,c⟩:=u
 obtain ⟨⟨y2,m2,d2⟩,a2,c2⟩:=v
 refine tI' k73 fun N hn hlt hlA hbd=>?_
 simp only [tb'] at hbd ⊢
 refine wr'<|E' (Zcm (cvl lk rfl) rfl (hl0 hn) ha0) pt<|E' (Zcm (cvl lk rfl) rfl (hl1 hn) ha1) pt<|mv' lkb pt<|sn'<|wr'<|V' (Zaa lk) pt<|V' (Zau lk (hga hn rfl) Zkx rfl) pt<|V' (Zaa lk) pt<|V' (Zau lk (hga hn rfl) Zkx rfl) pt<|V' (v_eqsT lk lk ZoE) pt<|?_
 refine mv' lk pt ?_
 refine sp' (t:=10) gt pt pt (fun hg10=>?_) (fun hg10=>?_)
 ·refine s_do gt<|V' (Zaa lk) pt<|s_do gt<|V' (Zac lk (hga hn rfl) gt3) pt<|s_do gt<|V' (Zaa lk) pt<|s_do gt<|V' (Zac lk (hga hn rfl) gt3) pt<|s_do gt<|V' (ZaX lk lk) pt<|V' (Zaj lk lk) pt<|mv' lk pt<|?_
  refine sp' (t:=17) gt pt pt (fun hg17=>?_) (fun hg17=>?_)
  ·refine s_do gt<|V' (Zaa lk) pt<|s_do gt<|V' (Zac lk (hga hn rfl) gt4) pt<|s_do gt<|V' (Zaa lk) pt<|s_do gt<|V' (Zac lk (hga hn rfl) gt4) pt<|s_do gt<|V' (ZaX lk lk) pt<|V' (Zaj lk lk) pt<|mv' lk pt<|sn'<|?_
   refine Zab<|Zag rz<|rT'<|?_
   refine bvx ?_;simp_all
  refine s_no gt pt<|s_no gt pt<|s_no gt pt<|s_no gt pt<|s_no gt pt<|V' (Zah lk lkb) pt<|mv' lk pt<|sn'<|Zab<|Zag rz<|rT'<|?_
  refine bvx ?_;simp_all
 refine s_no gt pt<|s_no gt pt<|s_no gt pt<|s_no gt pt<|s_no gt pt<|V' (Zah lk lkb) pt<|mv' lk pt<|s_no gt pt<|s_no gt pt<|s_no gt pt<|s_no gt pt<|s_no gt pt<|V' (Zah lk lkb) pt<|mv' lk pt<|?_
 refine sn'<|Zab<|Zag rz<|rT'<|?_
 refine bvx ?_;simp_all
theorem Zhs {α:Type}{a b:List α}{k:Nat}(ha:k<a.length) (hb:k<b.length) (h:a[k]≠b[k]):a≠b:=fun e=>h (by subst e;rfl)
theorem ZnV {na nb:ByteArray}{a b:List Era}{h:AH}:Ac 38 [.agg [sv na,.sl a.length 10 false (rows eraC a)],.agg [sv nb,.sl b.length 10 false (rows eraC b)]] h (bv (decide ((na,a)=(nb,b)))):=by
 refine tI' k38 fun N hn hlt hlA hbd=>?_
 simp only [tb'] at hbd ⊢
 refine wr'<|E' (Zcm (cvl lk rfl) rfl (hl0 hn) ha0) pt<|E' (Zcm (cvl lk rfl) rfl (hl1 hn) ha1) pt<|mv' lkb pt<|sn'<|Zam<|wr'<|V' (Zaa lk) pt<|V' (Zac lk (hga hn rfl) gt0) pt<|V' (Zaa lk) pt<|V' (Zac lk (hga hn rfl) gt0) pt<|?_
 refine V' (Zcp lk lk) pt<|mv' lk pt<|?_
 refine sp' (t:=13) gt pt pt (fun hg13=>?_) (fun hg13=>?_)
 ·have hD:decide ((na,a)=(nb,b))=false:=decide_eq_false (fun e=>hg13 (congrArg Prod.fst e))
  refine s_no gt pt<|s_no gt pt<|s_no gt pt<|s_no gt pt<|s_no gt pt<|s_no gt pt<|s_no gt pt<|V' (Zaj lk lkb) pt<|sn'<|ZaG lk<|wr'<|mv' lkb pt<|?_
  refine sn'<|Zab<|Zak<|Zag rz<|rT'<|?_
  rw [hD]
 refine s_do gt<|V' (Zaa lk) pt<|s_do gt<|V' (Zac lk (hga hn rfl) gt1) pt<|s_do gt<|V' (ZaK lk) pt<|s_do gt<|V' (Zaa lk) pt<|s_do gt<|V' (Zac lk (hga hn rfl) gt1) pt<|s_do gt<|V' (ZaK lk) pt<|s_do gt<|V' (Za6 lk lk) pt<|?_
 refine V' (Zah lk lk) pt<|sn'<|?_
 refine cd' lk (fun hc1=>?_) (fun hc1=>?_)
 ·have hD:decide ((na,a)=(nb,b))=false:=decide_eq_false (fun e=>hc1 (by have:=(Prod.ext_iff.1 e).2;simp only at this;rw [this]))
  refine wr'<|mv' lkb pt<|sn'<|Zab<|Zak<|Zag rz<|rT'<|?_
  rw [hD]
 have hl:a.length=b.length:=by omega
 have hnm:na=nb:=Decidable.of_not_not hg13
 refine Zaf<|Zai<|Zam<|wr'<|mv' lki pt<|sn'<|Zao<|?_
 refine w_lp (ι:=Nat) (fun (k:Nat)=>[(5,iv (k:Int)),(4,.any),(6,.any),(7,.any)]++rn' 22 58) (fun (k:Nat)=>[]) (fun (k:Nat)=>k≤a.length∧a.take k=b.take k) (fun (k:Nat)=>a.length-k) (0) (by exact ⟨Nat.zero_le _,by simp⟩) ?_
 rintro k hi1
 try simp only [sm',Nat.reduceAdd]
 obtain ⟨hk1,hk2⟩:=hi1
 refine Zam<|wr'<|mv' lk pt<|V' (Zaa lk) pt<|V' (Zac lk (hga hn rfl) gt1) pt<|V' (ZaK lk) pt<|V' (Zbu lk lk) pt<|sn'<|?_
 refine cd' lk (fun hc2=>?_) (fun hc2=>?_)
 ·have hka:k<a.length:=by omega
  have hkb:k<b.length:=by omega
  refine Zaf<|Zai<|Zam<|Zao<|Zam<|Zco<|u_fr rfl (Zaa lk) pt<|?_
  refine u_rdn rfl (Zac lk (hga hn rfl) gt1) (hx_l rfl) (hl2 hn) nh pt ?_
  refine u_fr rfl (v_mv lk) pt ?_
  refine u_fr rfl (Zbg lk lk Zeq (nb' rfl) ro (by omega) ro rfl) pt ?_
  refine u_fr rfl (Zbk lk Zkv rfl) pt<|u_fr rfl (Zaa lk) pt<|?_
  refine u_rdn rfl (Zac lk (hga hn rfl) gt1) (hx_l rfl) (hl2 hn) nh pt ?_
  refine u_fr rfl (v_mv lk) pt ?_
  refine u_fr rfl (Zbg lk lk Zeq (nb' rfl) ro (by omega) ro rfl) pt ?_
  refine u_fr rfl (Zbk lk Zkv rfl) pt ?_
  refine u_al rfl (Zbq (hl2 hn) ha2) (hl2 hn) nh pt ?_
  refine u_al rfl (Zbq (hl3 hn) ha3) (hl3 hn) nh pt ?_
  refine u_st (Zal lk (cvl lk rfl) (hga hn rfl) rfl (nb' rfl) rfl Zjg (hs2 hn)) lk nh ptn ?_
  refine u_st (Zal lk (cvl lk rfl) (hga hn rfl) rfl (nb' rfl) rfl Zjg (hs3 hn)) lk nh ptn ?_
  refine Zds<|Zai<|wr'<|V' (Zaa lk) pt<|V' (Zac lk (hga hn rfl) gt0) pt<|V' (Zaa lk) pt<|V' (Zac lk (hga hn rfl) gt0) pt<|?_
  refine V' ((by first | exact Za6 lk lk | exact Zcp lk lk)) pt ?_
  refine mv' lk pt ?_
  refine sp' (t:=44) gt pt pt (fun hg44=>?_) (fun hg44=>?_)
  ·refine s_no gt pt<|s_no gt pt<|s_no gt pt<|s_no gt pt<|s_no gt pt<|V' (Zaj lk lkb) pt<|mv' lk pt<|s_no gt pt<|s_no gt pt<|s_no gt pt<|s_no gt pt<|s_no gt pt<|V' (Zaj lk lkb) pt<|mv' lk pt<|?_
   refine s_no gt pt<|s_no gt pt<|s_no gt pt<|s_no gt pt<|s_no gt pt<|V' (Zaj lk lkb) pt<|mv' lk pt<|s_no gt pt<|s_no gt pt<|s_no gt pt<|s_no gt pt<|s_no gt pt<|V' (Zaj lk lkb) pt<|mv' lk pt<|?_
   refine s_no gt pt<|s_no gt pt<|s_no gt pt<|s_no gt pt<|s_no gt pt<|s_no gt pt<|V' (Zaj lk lkb) pt<|sn'<|ZaG lk<|wr'<|mv' lkb pt<|Zas<|?_
   refine Zai<|Zab<|Zaq<|Zak<|Zak<|Zaq<|Zak<|Zag rz<|rT'<|?_
   exact bvx (decide_eq_false (fun e=>absurd (Prod.ext_iff.1 e).2 (Zhs hka hkb (by intro e2;simp_all)))).symm
  refine s_do gt<|V' (Zaa lk) pt<|s_do gt<|V' (Zac lk (hga hn rfl) gt1) pt<|s_do gt<|V' (Zaa lk) pt<|s_do gt<|V' (Zac lk (hga hn rfl) gt1) pt<|s_do gt<|?_
  refine V' ((by first | exact Za6 lk lk | exact Zcp lk lk)) pt ?_
  refine V' (Zah lk lk) pt<|mv' lk pt<|?_
  refine sp' (t:=51) gt pt pt (fun hg51=>?_) (fun hg51=>?_)
  ·refine s_no gt pt<|s_no gt pt<|s_no gt pt<|s_no gt pt<|s_no gt pt<|V' (Zaj lk lkb) pt<|mv' lk pt<|s_no gt pt<|s_no gt pt<|s_no gt pt<|s_no gt pt<|s_no gt pt<|V' (Zaj lk lkb) pt<|mv' lk pt<|?_
   refine s_no gt pt<|s_no gt pt<|s_no gt pt<|s_no gt pt<|s_no gt pt<|V' (Zaj lk lkb) pt<|mv' lk pt<|s_no gt pt<|s_no gt pt<|s_no gt pt<|s_no gt pt<|s_no gt pt<|s_no gt pt<|V' (Zaj lk lkb) pt<|?_
   refine sn'<|ZaG lk<|wr'<|mv' lkb pt<|sn'<|Zab<|Zaq<|Zak<|Zak<|Zaq<|Zak<|?_
   refine Zag rz<|rT'<|?_
   exact bvx (decide_eq_false (fun e=>absurd (Prod.ext_iff.1 e).2 (Zhs hka hkb (by intro e2;simp_all)))).symm
  refine s_do gt<|V' (Zaa lk) pt<|s_do gt<|V' (Zac lk (hga hn rfl) gt2) pt<|s_do gt<|V' (Zaa lk) pt<|s_do gt<|V' (Zac lk (hga hn rfl) gt2) pt<|s_do gt<|?_
  refine V' ((by first | exact Za6 lk lk | exact Zcp lk lk)) pt ?_
  refine V' (Zah lk lk) pt<|mv' lk pt<|?_
  refine sp' (t:=58) gt pt pt (fun hg58=>?_) (fun hg58=>?_)
  ·refine s_no gt pt<|s_no gt pt<|s_no gt pt<|s_no gt pt<|s_no gt pt<|V' (Zaj lk lkb) pt<|mv' lk pt<|s_no gt pt<|s_no gt pt<|s_no gt pt<|s_no gt pt<|s_no gt pt<|V' (Zaj lk lkb) pt<|mv' lk pt<|?_
   refine s_no gt pt<|s_no gt pt<|s_no gt pt<|s_no gt pt<|s_no gt pt<|s_no gt pt<|V' (Zaj lk lkb) pt<|sn'<|ZaG lk<|wr'<|mv' lkb pt<|Zas<|?_
   refine Zai<|Zab<|Zaq<|Zak<|Zak<|Zaq<|Zak<|Zag rz<|rT'<|?_
   exact bvx (decide_eq_false (fun e=>absurd (Prod.ext_iff.1 e).2 (Zhs hka hkb (by intro e2;simp_all)))).symm
  refine s_do gt<|V' (Zaa lk) pt<|s_do gt<|V' (Zac lk (hga hn rfl) gt3) pt<|s_do gt<|V' (Zaa lk) pt<|s_do gt<|V' (Zac lk (hga hn rfl) gt3) pt<|s_do gt<|?_
  refine V' ((by first | exact Za6 lk lk | exact Zcp lk lk)) pt ?_
  refine V' (Zah lk lk) pt<|mv' lk pt<|?_
  refine sp' (t:=65) gt pt pt (fun hg65=>?_) (fun hg65=>?_)
  ·refine s_no gt pt<|s_no gt pt<|s_no gt pt<|s_no gt pt<|s_no gt pt<|V' (Zaj lk lkb) pt<|mv' lk pt<|s_no gt pt<|s_no gt pt<|s_no gt pt<|s_no gt pt<|s_no gt pt<|s_no gt pt<|V' (Zaj lk lkb) pt<|?_
   refine sn'<|ZaG lk<|wr'<|mv' lkb pt<|sn'<|Zab<|Zaq<|Zak<|Zak<|Zaq<|Zak<|?_
   refine Zag rz<|rT'<|?_
   exact bvx (decide_eq_false (fun e=>absurd (Prod.ext_iff.1 e).2 (Zhs hka hkb (by intro e2;simp_all)))).symm
  refine s_do gt<|V' (Zaa lk) pt<|s_do gt<|V' (Zac lk (hga hn rfl) gt4) pt<|s_do gt<|V' (Zaa lk) pt<|s_do gt<|V' (Zac lk (hga hn rfl) gt4) pt<|s_do gt<|V' (ZdP lk lk) pt<|V' (Zah lk lk) pt<|mv' lk pt<|?_
  refine sp' (t:=72) gt pt pt (fun hg72=>?_) (fun hg72=>?_)
  ·refine s_no gt pt<|s_no gt pt<|s_no gt pt<|s_no gt pt<|s_no gt pt<|s_no gt pt<|V' (Zaj lk lkb) pt<|sn'<|ZaG lk<|wr'<|mv' lkb pt<|Zas<|?_
   refine Zai<|Zab<|Zaq<|Zak<|Zak<|Zaq<|Zak<|Zag rz<|rT'<|?_
   exact bvx (decide_eq_false (fun e=>absurd (Prod.ext_iff.1 e).2 (Zhs hka hkb (by intro e2;simp_all)))).symm
  refine s_do gt<|V' (Zaa lk) pt<|s_do gt<|V' (Zau lk (hga hn rfl) Zkw rfl) pt<|s_do gt<|V' (Zaa lk) pt<|s_do gt<|V' (Zau lk (hga hn rfl) Zkw rfl) pt<|s_do gt<|Zae mp (Zdy (u:=(a[k]).2.2.2.2.2) (v:=(b[k]).2.2.2.2.2)) pt<|s_do gt<|V' (Zav lk) pt<|V' (Zah lk lk) pt<|Zas<|?_
  refine Zai ?_
  refine Zaw lk (fun hc3=>?_) (fun hc3=>?_)
  ·refine wr'<|mv' lkb pt<|sn'<|Zab<|Zaq<|Zak<|Zak<|Zaq<|Zak<|Zag rz<|rT'<|?_
   exact bvx (decide_eq_false (fun e=>absurd (Prod.ext_iff.1 e).2 (Zhs hka hkb (by intro e2;simp_all)))).symm
  have hE:a[k]=b[k]:=by simp only [Prod.ext_iff];simp_all
  refine Zaf<|ZaF<|Zai<|Zar<|mv' lk pt<|?_
  refine V' (ZaE lk lki (by omega) (by omega)) pt ?_
  refine mv' lk pt<|Zas<|ZaI<|?_
  refine lU' (k+1) (by (try dsimp only);exact ⟨by omega,by rw [List.take_succ_eq_append_getElem hka,List.take_succ_eq_append_getElem hkb,hk2,hE]⟩) (by (try dsimp only);(try simp only [sm',Nat.reduceAdd]);exact bk' 2 hn hlt)
 refine Za0<|ZaO<|ZaO<|Zbp<|Zai<|wr'<|mv' lkb pt<|sn'<|Zab<|Zag rz<|rT'<|?_
 exact bvx (decide_eq_true (by rw [List.take_of_length_le (by omega),List.take_of_length_le (by omega)] at hk2;rw [hnm,hk2])).symm
theorem ZnW {a b:Zon}{h:AH}:Ac 38 [.agg (zonC a),.agg (zonC b)] h (bv (decide (a=b))):=ZnV
theorem Zgl {α:Type}{a b:List α}{k:Nat}(ha:k<a.length) (hb:k<b.length) (h:a.take k=b.take k) (e:a[k]=b[k]):a.take (k+1)=b.take (k+1):=by
 rw [List.take_succ_eq_append_getElem ha,List.take_succ_eq_append_getElem hb,h,e]
theorem ZiS {α:Type}{a b:List α}{k:Nat}(ha:a.length≤k) (hb:b.length≤k) (h:a.take k=b.take k):a=b:=by
 rwa [List.take_of_length_le ha,List.take_of_length_le hb] at h
theorem Zk4 {a a2:List Rul}{z z2:List Zon}{l l2:List Lnk}{h:AH}:Ac 14 [.agg [.sl a.length 11 false (rows rulC a),.sl z.length 2 false (rows zonC z),.sl l.length 2 false (rows lnkC l)],.agg [.sl a2.length 11 false (rows rulC a2),.sl z2.length 2 false (rows zonC z2),.sl l2.length 2 false (rows lnkC l2)]] h (bv (decide ((a,z,l)=(a2,z2,l2)))):=by
 refine tI' k14 fun N hn hlt hlA hbd=>?_
 simp only [tb'] at hbd ⊢
 refine wr'<|E' (Zcm (cvl lk rfl) rfl (hl0 hn) ha0) pt<|E' (Zcm (cvl lk rfl) rfl (hl1 hn) ha1) pt<|mv' lkb pt<|sn'<|Zam<|wr'<|V' (Zaa lk) pt<|V' (Zac lk (hga hn rfl) gt0) pt<|V' (ZaK lk) pt<|V' (Zaa lk) pt<|?_
 refine V' (Zac lk (hga hn rfl) gt0) pt<|V' (ZaK lk) pt<|V' (Za6 lk lk) pt<|mv' lk pt<|?_
 refine sp' (t:=15) gt pt pt (fun hg15=>?_) (fun hg15=>?_)
 ·have hD:decide ((a,z,l)=(a2,z2,l2))=false:=decide_eq_false (fun e=>hg15 (by cases e;rfl))
  refine s_no gt pt<|s_no gt pt<|s_no gt pt<|s_no gt pt<|s_no gt pt<|s_no gt pt<|s_no gt pt<|V' (Zaj lk lkb) pt<|mv' lk pt<|s_no gt pt<|s_no gt pt<|s_no gt pt<|s_no gt pt<|s_no gt pt<|?_
  refine s_no gt pt<|s_no gt pt<|V' (Zaj lk lkb) pt<|sn'<|ZaG lk<|wr'<|mv' lkb pt<|sn'<|Zab<|Zak<|Zag rz<|?_
  refine rT' ?_
  rw [hD]
 refine s_do gt<|V' (Zaa lk) pt<|s_do gt<|V' (Zac lk (hga hn rfl) gt1) pt<|s_do gt<|V' (ZaK lk) pt<|s_do gt<|V' (Zaa lk) pt<|s_do gt<|V' (Zac lk (hga hn rfl) gt1) pt<|s_do gt<|V' (ZaK lk) pt<|s_do gt<|V' (Za6 lk lk) pt<|?_
 refine V' (Zah lk lk) pt<|mv' lk pt<|?_
 refine sp' (t:=24) gt pt pt (fun hg24=>?_) (fun hg24=>?_)
 ·have hD:decide ((a,z,l)=(a2,z2,l2))=false:=decide_eq_false (fun e=>hg24 (by cases e;rfl))
  refine s_no gt pt<|s_no gt pt<|s_no gt pt<|s_no gt pt<|s_no gt pt<|s_no gt pt<|s_no gt pt<|V' (Zaj lk lkb) pt<|sn'<|ZaG lk<|wr'<|mv' lkb pt<|?_
  refine sn'<|Zab<|Zak<|Zag rz<|rT'<|?_
  rw [hD]
 refine s_do gt<|V' (Zaa lk) pt<|s_do gt<|V' (Zac lk (hga hn rfl) gt2) pt<|s_do gt<|V' (ZaK lk) pt<|s_do gt<|V' (Zaa lk) pt<|s_do gt<|V' (Zac lk (hga hn rfl) gt2) pt<|s_do gt<|V' (ZaK lk) pt<|s_do gt<|V' (Za6 lk lk) pt<|?_
 refine V' (Zah lk lk) pt<|sn'<|?_
 refine cd' lk (fun hc1=>?_) (fun hc1=>?_)
 ·have hD:decide ((a,z,l)=(a2,z2,l2))=false:=decide_eq_false (fun e=>hc1 (by cases e;rfl))
  refine wr'<|mv' lkb pt<|sn'<|Zab<|Zak<|Zag rz<|rT'<|?_
  rw [hD]
 have l1:a.length=a2.length:=by have:=Decidable.of_not_not hg15;omega
 have l2':z.length=z2.length:=by have:=Decidable.of_not_not hg24;omega
 have l3:l.length=l2.length:=by have:=Decidable.of_not_not hc1;omega
 refine Zaf<|Zai<|Zam<|wr'<|mv' lki pt<|sn'<|Zao<|?_
 refine w_lp (ι:=Nat) (fun (k:Nat)=>[(5,iv (k:Int)),(4,.any)]++rn' 33 18) (fun (k:Nat)=>[]) (fun (k:Nat)=>k≤a.length∧a.take k=a2.take k) (fun (k:Nat)=>a.length-k) (0) (by exact ⟨Nat.zero_le _,by simp⟩) ?_
 rintro k hi1
 try simp only [sm',Nat.reduceAdd]
 obtain ⟨hk1,hk2⟩:=hi1
 refine Zam<|wr'<|mv' lk pt<|V' (Zaa lk) pt<|V' (Zac lk (hga hn rfl) gt0) pt<|V' (ZaK lk) pt<|V' (Zbu lk lk) pt<|sn'<|?_
 refine cd' lk (fun hc2=>?_) (fun hc2=>?_)
 ·have hka:k<a.length:=by omega
  have hkb:k<a2.length:=by omega
  refine Zaf<|Zai<|Zam<|Zao<|Zam<|ZbJ<|D' (Zaa lk) pt<|D' (Zac lk (hga hn rfl) gt0) pt<|D' (v_mv lk) pt<|?_
  refine D' (Zbg lk lk Zem (nb' rfl) ro (by omega) ro rfl) pt ?_
  refine D' (Zbk lk Zku rfl) pt<|D' (Zaa lk) pt<|D' (Zac lk (hga hn rfl) gt0) pt<|D' (v_mv lk) pt<|?_
  refine D' (Zbg lk lk Zem (nb' rfl) ro (by omega) ro rfl) pt ?_
  refine D' (Zbk lk Zku rfl) pt<|D' (Zgx lk lk Zgr) pt<|Zbt<|?_
  refine Zb4 ?_
  refine sn' ?_
  refine cd' lk (fun hc3=>?_) (fun hc3=>?_)
  ·refine wr'<|mv' lkb pt<|sn'<|Zab<|Zaq<|Zak<|Zak<|Zaq<|Zak<|Zag rz<|rT'<|?_
   exact bvx (decide_eq_false (fun e=>absurd (congrArg Prod.fst e) (Zhs hka hkb (by intro e2;apply hc3;rw [e2];simp)))).symm
  have hE:a[k]=a2[k]:=by simp only [Prod.ext_iff];simp_all
  refine Zaf<|ZaF<|Zai<|Zar<|mv' lk pt<|?_
  refine V' (ZaE lk lki (by omega) (by omega)) pt ?_
  refine mv' lk pt<|Zas<|ZaI<|?_
  refine lT' (k+1) (by (try dsimp only);exact ⟨by omega,Zgl hka hkb hk2 hE⟩)
 have hA:a=a2:=ZiS (by omega) (by omega) hk2
 refine Za0<|ZaO<|ZaO<|Zbp<|Zai<|Zam<|wr'<|mv' lki pt<|sn'<|Zao<|?_
 refine w_lp (ι:=Nat) (fun (k2:Nat)=>[(6,iv (k2:Int)),(4,.any)]++rn' 51 18) (fun (k2:Nat)=>[]) (fun (k2:Nat)=>k2≤l.length∧l.take k2=l2.take k2) (fun (k2:Nat)=>l.length-k2) (0) (by exact ⟨Nat.zero_le _,by simp⟩) ?_
 rintro k2 hi2
 try simp only [sm',Nat.reduceAdd]
 obtain ⟨hm1,hm2⟩:=hi2
 refine Zam<|wr'<|mv' lk pt<|V' (Zaa lk) pt<|V' (Zac lk (hga hn rfl) gt2) pt<|V' (ZaK lk) pt<|V' (Zbu lk lk) pt<|sn'<|?_
 refine cd' lk (fun hc4=>?_) (fun hc4=>?_)
 ·have hma:k2<l.length:=by omega
  have hmb:k2<l2.length:=by omega
  refine Zaf<|Zai<|Zam<|Zao<|Zam<|ZbJ<|D' (Zaa lk) pt<|D' (Zac lk (hga hn rfl) gt2) pt<|D' (v_mv lk) pt<|?_
  refine D' (Zbg lk lk ZdV (nb' rfl) ro (by omega) ro rfl) pt ?_
  refine D' (Zbk lk Zg7 rfl) pt<|D' (Zaa lk) pt<|D' (Zac lk (hga hn rfl) gt2) pt<|D' (v_mv lk) pt<|?_
  refine D' (Zbg lk lk ZdV (nb' rfl) ro (by omega) ro rfl) pt ?_
  refine D' (Zbk lk Zg7 rfl) pt<|D' (Zgx lk lk Zrd) pt<|Zbt<|?_
  refine Zb4 ?_
  refine sn' ?_
  refine cd' lk (fun hc5=>?_) (fun hc5=>?_)
  ·refine wr'<|mv' lkb pt<|sn'<|Zab<|Zaq<|Zak<|Zak<|Zaq<|Zak<|Zag rz<|rT'<|?_
   exact bvx (decide_eq_false (fun e=>absurd (congrArg (fun x=>x.2.2) e) (Zhs hma hmb (by intro e2;apply hc5;rw [e2];simp)))).symm
  have hE2:l[k2]=l2[k2]:=by simp only [Prod.ext_iff];simp_all
  refine Zaf<|ZaF<|Zai<|Zar<|mv' lk pt<|?_
  refine V' (ZaE lk lki (by omega) (by omega)) pt ?_
  refine mv' lk pt<|Zas<|ZaI<|?_
  refine lT' (k2+1) (by (try dsimp only);exact ⟨by omega,Zgl hma hmb hm2 hE2⟩)
 have hL:l=l2:=ZiS (by omega) (by omega) hm2
 refine Za0<|ZaO<|ZaO<|Zbp<|Zai<|Zam<|wr'<|mv' lki pt<|sn'<|Zao<|?_
 refine w_lp (ι:=Nat) (fun (k3:Nat)=>[(7,iv (k3:Int)),(4,.any)]++rn' 69 19) (fun (k3:Nat)=>[]) (fun (k3:Nat)=>k3≤z.length∧z.take k3=z2.take k3) (fun (k3:Nat)=>z.length-k3) (0) (by exact ⟨Nat.zero_le _,by simp⟩) ?_
 rintro k3 hi3
 try simp only [sm',Nat.reduceAdd]
 obtain ⟨hn1,hn2⟩:=hi3
 refine Zam<|wr'<|mv' lk pt<|V' (Zaa lk) pt<|V' (Zac lk (hga hn rfl) gt1) pt<|V' (ZaK lk) pt<|V' (Zbu lk lk) pt<|sn'<|?_
 refine cd' lk (fun hc6=>?_) (fun hc6=>?_)
 ·have hna:k3<z.length:=by omega
  have hnb:k3<z2.length:=by omega
  refine Zaf<|Zai<|Zam<|Zao<|Zam<|ZbJ<|D' (Zaa lk) pt<|D' (Zac lk (hga hn rfl) gt1) pt<|D' (v_mv lk) pt<|?_
  refine D' (Zbg lk lk (fun _=>rfl) (nb' rfl) ro (by omega) ro rfl) pt ?_
  refine D' (Zbk lk Zg7 rfl) pt<|D' (Zaa lk) pt<|D' (Zac lk (hga hn rfl) gt1) pt<|D' (v_mv lk) pt<|?_
  refine D' (Zbg lk lk (fun _=>rfl) (nb' rfl) ro (by omega) ro rfl) pt ?_
  refine D' (Zbk lk Zg7 rfl) pt ?_
  refine Za9 mp (fun hE hX=>ZnW (a:=z[k3]) (b:=z2[k3])) pt ?_
  refine D' (Zav lk) pt<|Zbt<|?_
  refine Zb4 ?_
  refine sn' ?_
  refine Zaw lk (fun hc7=>?_) (fun hc7=>?_)
  ·have hne:z[k3]≠z2[k3]:=by simpa using hc7
   refine wr'<|mv' lkb pt<|sn'<|Zab<|Zaq<|Zak<|Zak<|Zaq<|Zak<|Zag rz<|rT'<|?_
   exact bvx (decide_eq_false (fun e=>absurd (congrArg (fun x=>x.2.1) e) (Zhs hna hnb hne))).symm
  have hE3:z[k3]=z2[k3]:=by simpa using hc7
  refine Zaf<|ZaF<|Zai<|Zar<|mv' lk pt<|?_
  refine V' (ZaE lk lki (by omega) (by omega)) pt ?_
  refine mv' lk pt<|Zas<|ZaI<|?_
  refine lT' (k3+1) (by (try dsimp only);exact ⟨by omega,Zgl hna hnb hn2 hE3⟩)
 refine Za0<|ZaO<|ZaO<|Zbp<|Zai<|wr'<|mv' lkb pt<|sn'<|Zab<|Zag rz<|rT'<|?_
 exact bvx (decide_eq_true (by rw [hA,hL,ZiS (by omega) (by omega) hn2])).symm
theorem Zk5 {s t:Src}{h:AH}:Ac 14 [.agg (srcC s),.agg (srcC t)] h (bv (decide (s=t))):=Zk4
end Go.Proofs.YtgjchdhdopgkkaaGreatDoor
end
section
namespace Go.Proofs.YtgjchdhdopgkkaaGreatDoor
open Go.Ab Go.RowKit Civ
attribute [local simp] Za4 Zbj Zca Za5
section
theorem Zrq {a0 a1 a2 a3 a4 a5 a6:AV}{l:List AV}:((a0::a1::a2::a3::a4::a5::a6::l).drop 4).take 3=[a4,a5,a6]:=rfl
theorem Zrr {a0 a1 a2 c0 c1 c2:AV}{l:List AV}:setCells (a0::a1::a2::l) 0 [c0,c1,c2]=c0::c1::c2::l:=rfl
theorem Zf2 {a0 a1 a2 a3 a4 a5 a6 a7 a8 a9:AV}{l:List AV}:((a0::a1::a2::a3::a4::a5::a6::a7::a8::a9::l).drop 5).take 5=[a5,a6,a7,a8,a9]:=rfl
theorem ZcV {τ:Operand→AV}:Zat τ [] [(.v (.int .i64 0)),(.v (.int .i64 0)),(.v (.int .i64 0)),(.v (.int .i64 0)),(.v (.int .i64 0))]=some [(.v (.int .i64 0)),(.v (.int .i64 0)),(.v (.int .i64 0)),(.v (.int .i64 0)),(.v (.int .i64 0))]:=rfl
theorem Zf3 {a0 a1 a2 a3 a4 a5 a6 a7:AV}{l:List AV}:((a0::a1::a2::a3::a4::a5::a6::a7::l).drop 5).take 3=[a5,a6,a7]:=rfl
theorem Zro {a0 a1 a2 a3 a4 a5 a6 a7 a8 a9 a10:AV}{l:List AV}:(a0::a1::a2::a3::a4::a5::a6::a7::a8::a9::a10::l).take 11=[a0,a1,a2,a3,a4,a5,a6,a7,a8,a9,a10]:=rfl
theorem Zrp {a0 a1 a2 a3 a4 a5 a6 a7 a8 a9:AV}{l:List AV}:(a0::a1::a2::a3::a4::a5::a6::a7::a8::a9::l).take 10=[a0,a1,a2,a3,a4,a5,a6,a7,a8,a9]:=rfl
end
def c24:AC:=(Sr [Oo 1 (.box 48 11 (.tmp 0)),Mc 2 0] (.seq (Sr [Fa 5 0 1,Ld 6 5,Cl 7 25 [(.tmp 6)],Oo 8 (.un .not (.tmp 7)),Mv 9 8,Of 10 9 (.fa 10 (.tmp 1)),Of 11 9 (.load false 1 (.tmp 10)),Of 12 9 (.call (.func 67) [(.tmp 11)]),Of 13 9 (.un .not (.tmp 12)),Oo 14 (.pick (.tmp 9) (.const (.bool true)) (.tmp 13))] (Cd 14 (Sr [Mc 2 1] .ret) .skip)) (.seq (Sr [Fa 15 1 1,Ld 16 15,Fa 17 2 1,Ld 18 17,Cl 19 68 [(.tmp 16),(Ci 1900),(.tmp 18)],Oo 20 (.un .not (.tmp 19)),Mv 21 20,Of 22 21 (.fa 2 (.tmp 1)),Of 23 21 (.load false 1 (.tmp 22)),Of 24 21 (.bin .gtr (.tmp 23) (Ci 2100)),Oo 25 (.pick (.tmp 21) (.const (.bool true)) (.tmp 24)),Mv 26 25,Of 27 26 (.fa 3 (.tmp 1)),Of 28 26 (.load false 1 (.tmp 27)),Of 29 26 (.call (.func 68) [(.tmp 28),(Ci 1),(Ci 12)]),Of 30 26 (.un .not (.tmp 29)),Oo 31 (.pick (.tmp 26) (.const (.bool true)) (.tmp 30))] (Cd 31 (Sr [Mc 2 3] .ret) .skip)) (Sr [Fa 33 3 1,Ld 34 33,Fa 35 4 1,Oo 36 (.load true 3 (.tmp 35)),Cl 37 69 [(Ci 2001),(.tmp 34),(.tmp 36)],Mv 32 37,Ex 38 32 0,Ex 39 32 1,Oo 3 (.new 60 3 [(iv 0),(iv 0),(iv 0)]),⟨none,none,(.store 3 (.tmp 3) (.tmp 38))⟩,Mv 4 39] (.seq (Sr [Mv 40 4,Bc 41 .neq 40 0] (Cd 41 (Sr [Mv 42 4,Mv 2 42] .ret) .skip)) (.seq (Sr [Fa 43 7 1,Ld 44 43,Cl 45 68 [(.tmp 44),(Ci 0),(Ci 172800)],Oo 46 (.un .not (.tmp 45))] (Cd 46 (Sr [Mc 2 3] .ret) .skip)) (.seq (Sr [Fa 47 8 1,Ld 48 47,Cl 49 68 [(.tmp 48),(Ci 1),(Ci 3)],Oo 50 (.un .not (.tmp 49))] (Cd 50 (Sr [Mc 2 7] .ret) .skip)) (.seq (Sr [Fa 51 9 1,Ld 52 51,Cl 53 68 [(.tmp 52),(Ci 0),(Ci 10800)],Oo 54 (.un .not (.tmp 53))] (Cd 54 (Sr [Mc 2 3] .ret) .skip)) (Sr [Mc 2 0] .ret)))))))))
theorem k24:ZaH Tryz.prog 24=some ⟨c24,[(.tmp 2)],55⟩:=by kernel_rfl
def c26:AC:=(Sr [Oo 2 (.box 64 10 (.tmp 0)),Mc 4 0] (.seq (Sr [Fa 5 1 2,Ld 6 5,Oo 7 (.bin .neq (.tmp 6) (.const (.string ⟨#[]⟩))),Mv 8 7,Ot 9 8 (.fa 1 (.tmp 2)),Ot 10 8 (.load false 1 (.tmp 9)),Ot 11 8 (.call (.func 25) [(.tmp 10)]),Ot 12 8 (.un .not (.tmp 11)),Oo 13 (.pick (.tmp 8) (.tmp 12) (.const (.bool false))),Mv 14 13,Of 15 14 (.fa 3 (.tmp 2)),Of 16 14 (.load false 1 (.tmp 15)),Of 17 14 (.call (.func 72) [(.tmp 16)]),Of 18 14 (.un .not (.tmp 17)),Oo 19 (.pick (.tmp 14) (.const (.bool true)) (.tmp 18))] (Cd 19 (Sr [Mc 4 1] .ret) .skip)) (.seq (Sr [Fa 20 0 2,Ld 21 20,Cl 22 68 [(.tmp 21),(.const (.int .i64 (-64800))),(Ci 64800)],Oo 23 (.un .not (.tmp 22)),Mv 24 23,Of 25 24 (.fa 2 (.tmp 2)),Of 26 24 (.load false 1 (.tmp 25)),Of 27 24 (.call (.func 68) [(.tmp 26),(Ci 0),(Ci 10800)]),Of 28 24 (.un .not (.tmp 27)),Oo 29 (.pick (.tmp 24) (.const (.bool true)) (.tmp 28))] (Cd 29 (Sr [Mc 4 3] .ret) .skip)) (.seq (Sr [Fa 30 1 2,Ld 31 30,Oo 32 (.bin .neq (.tmp 31) (.const (.string ⟨#[]⟩))),Mv 33 32,Ot 34 33 (.fa 2 (.tmp 2)),Ot 35 33 (.load false 1 (.tmp 34)),Ot 36 33 (.bin .neq (.tmp 35) (Ci 0)),Oo 37 (.pick (.tmp 33) (.tmp 36) (.const (.bool false)))] (Cd 37 (Sr [Mc 4 1] .ret) .skip)) (.seq (Sr [Fa 38 4 2,Ld 39 38,Mv 40 1,Oo 41 (.eqb true (.tmp 39) (.tmp 40))] (Cd 41 (Sr [Mc 4 4] .ret) .skip)) (.seq (Sr [Fa 42 4 2,Ld 43 42] (Cd 43 (.seq (Sr [Fa 44 5 2,Oo 45 (.load true 5 (.tmp 44)),Oo 46 (.build [(iv 0),(iv 0),(iv 0),(iv 0),(iv 0)] []),Cl 47 73 [(.tmp 45),(.tmp 46)],Oo 48 (.un .not (.tmp 47))] (Cd 48 (Sr [Mc 4 1] .ret) .skip)) (Sr [Mc 4 0] .ret)) .skip)) (.seq (Sr [Fa 49 5 2,Fa 50 0 49,Oo 51 (.load true 3 (.tmp 50)),Cl 52 74 [(.tmp 51)],Oo 53 (.un .not (.tmp 52)),Mv 54 53,Of 55 54 (.fa 5 (.tmp 2)),Of 56 54 (.fa 3 (.tmp 55)),Of 57 54 (.load false 1 (.tmp 56)),Of 58 54 (.call (.func 68) [(.tmp 57),(Ci 0),(Ci 172800)]),Of 59 54 (.un .not (.tmp 58)),Oo 60 (.pick (.tmp 54) (.const (.bool true)) (.tmp 59))] (Cd 60 (Sr [Mc 4 3] .ret) .skip)) (.seq (Sr [Fa 61 5 2,Fa 62 4 61,Ld 63 62,Bc 64 .neq 63 2,Mv 65 64,Ot 66 65 (.fa 5 (.tmp 2)),Ot 67 65 (.fa 4 (.tmp 66)),Ot 68 65 (.load false 1 (.tmp 67)),Ot 69 65 (.bin .neq (.tmp 68) (Ci 3)),Oo 70 (.pick (.tmp 65) (.tmp 69) (.const (.bool false)))] (Cd 70 (Sr [Mc 4 7] .ret) .skip)) (Sr [Mc 4 0] .ret)))))))))
theorem k26:ZaH Tryz.prog 26=some ⟨c26,[(.tmp 4)],71⟩:=by kernel_rfl
def c9:AC:=(Sr [Oo 1 (.box 26 3 (.tmp 0)),Mc 2 0] (.seq (Sr [Fa 11 0 1,Ld 12 11,Oo 13 (.len false (.tmp 12)),Bc 14 .gtr 13 40,Mv 15 14,Of 16 15 (.fa 1 (.tmp 1)),Of 17 15 (.load false 1 (.tmp 16)),Of 18 15 (.len false (.tmp 17)),Of 19 15 (.bin .gtr (.tmp 18) (Ci 20)),Oo 20 (.pick (.tmp 15) (.const (.bool true)) (.tmp 19)),Mv 21 20,Of 22 21 (.fa 2 (.tmp 1)),Of 23 21 (.load false 1 (.tmp 22)),Of 24 21 (.len false (.tmp 23)),Of 25 21 (.bin .gtr (.tmp 24) (Ci 20)),Oo 26 (.pick (.tmp 21) (.const (.bool true)) (.tmp 25))] (Cd 26 (Sr [Mc 2 2] .ret) .skip)) (.seq (Sr [Mc 3 0] (.block 0 (.loop (.seq (Sr [Mv 27 3,Fa 28 1 1,Ld 29 28,Oo 30 (.len false (.tmp 29)),Bn 31 .lss 27 30] (Cd 31 .skip (.exit 0))) (.seq (.block 1 (Sr [Fa 34 1 1,Ld 35 34,Mv 36 3,Oo 37 (.ia 2 (.tmp 35) (.tmp 36)),Fa 38 1 37,Ld 39 38,Oo 40 (.len false (.tmp 39)),Bc 41 .gtr 40 8] (Cd 41 (Sr [Mc 2 2] .ret) .skip))) (.reg [Mv 32 3,Bc 33 .add 32 1,Mv 3 33])))))) (.seq (Sr [Mc 4 0] (.block 2 (.loop (.seq (Sr [Mv 42 4,Fa 43 0 1,Ld 44 43,Oo 45 (.len false (.tmp 44)),Bn 46 .lss 42 45] (Cd 46 .skip (.exit 2))) (.seq (.block 3 (Sr [Fa 49 0 1,Ld 50 49,Mv 51 4,Oo 52 (.ia 11 (.tmp 50) (.tmp 51)),Oo 53 (.load true 11 (.tmp 52)),Cl 54 24 [(.tmp 53)],Mv 5 54] (Sr [Mv 55 5,Bc 56 .neq 55 0] (Cd 56 (Sr [Mv 57 5,Mv 2 57] .ret) .skip)))) (.reg [Mv 47 4,Bc 48 .add 47 1,Mv 4 48])))))) (.seq (Sr [Mc 6 0] (.block 4 (.loop (.seq (Sr [Mv 58 6,Fa 59 1 1,Ld 60 59,Oo 61 (.len false (.tmp 60)),Bn 62 .lss 58 61] (Cd 62 .skip (.exit 4))) (.seq (.block 5 (Sr [Fa 65 1 1,Ld 66 65,Mv 67 6,Oo 68 (.ia 2 (.tmp 66) (.tmp 67)),Fa 69 1 68,Ld 70 69,Mv 7 70] (.seq (Sr [Fa 71 1 1,Ld 72 71,Mv 73 6,Oo 74 (.ia 2 (.tmp 72) (.tmp 73)),Fa 75 0 74,Ld 76 75,Cl 77 25 [(.tmp 76)],Oo 78 (.un .not (.tmp 77)),Mv 79 78,Of 80 79 (mt 7),Of 81 79 (.len false (.tmp 80)),Of 82 79 (.bin .eql (.tmp 81) (Ci 0)),Oo 83 (.pick (.tmp 79) (.const (.bool true)) (.tmp 82))] (Cd 83 (Sr [Mc 2 1] .ret) .skip)) (Sr [Mc 8 0] (.block 6 (.loop (.seq (Sr [Mv 84 8,Mv 85 7,Oo 86 (.len false (.tmp 85)),Bn 87 .lss 84 86] (Cd 87 .skip (.exit 6))) (.seq (.block 7 (Sr [Mv 90 7,Mv 91 8,Oo 92 (.ia 10 (.tmp 90) (.tmp 91)),Oo 93 (.load true 10 (.tmp 92)),Mv 94 8,Mv 95 7,Oo 96 (.len false (.tmp 95)),Bc 97 .sub 96 1,Bn 98 .eql 94 97,Cl 99 26 [(.tmp 93),(.tmp 98)],Mv 9 99] (Sr [Mv 100 9,Bc 101 .neq 100 0] (Cd 101 (Sr [Mv 102 9,Mv 2 102] .ret) .skip)))) (.reg [Mv 88 8,Bc 89 .add 88 1,Mv 8 89]))))))))) (.reg [Mv 63 6,Bc 64 .add 63 1,Mv 6 64])))))) (.seq (Sr [Mc 10 0] (.block 8 (.loop (.seq (Sr [Mv 103 10,Fa 104 2 1,Ld 105 104,Oo 106 (.len false (.tmp 105)),Bn 107 .lss 103 106] (Cd 107 .skip (.exit 8))) (.seq (.block 9 (Sr [Fa 110 2 1,Ld 111 110,Mv 112 10,Oo 113 (.ia 2 (.tmp 111) (.tmp 112)),Fa 114 0 113,Ld 115 114,Cl 116 25 [(.tmp 115)],Oo 117 (.un .not (.tmp 116)),Mv 118 117,Of 119 118 (.fa 2 (.tmp 1)),Of 120 118 (.load false 1 (.tmp 119)),Of 121 118 (mt 10),Of 122 118 (.ia 2 (.tmp 120) (.tmp 121)),Of 123 118 (.fa 1 (.tmp 122)),Of 124 118 (.load false 1 (.tmp 123)),Of 125 118 (.call (.func 25) [(.tmp 124)]),Of 126 118 (.un .not (.tmp 125)),Oo 127 (.pick (.tmp 118) (.const (.bool true)) (.tmp 126))] (Cd 127 (Sr [Mc 2 1] .ret) .skip))) (.reg [Mv 108 10,Bc 109 .add 108 1,Mv 10 109])))))) (Sr [Mc 2 0] .ret)))))))
theorem k9:ZaH Tryz.prog 9=some ⟨c9,[(.tmp 2)],128⟩:=by kernel_rfl
theorem ZmC {nm lt:ByteArray}{f t m k w n a c s:Int}{h:AH}(hnm:nm.size≤maxLen) (hlt':lt.size≤maxLen):Ac 24 [.agg [sv nm,iv f,iv t,iv m,iv k,iv w,iv n,iv a,iv c,iv s,sv lt]] h (iv (Zde (nm,f,t,m,(k,w,n),a,c,s,lt))):=by
 refine tI' k24 fun N hn hlt hlA hbd=>?_
 simp only [tb'] at hbd ⊢
 refine wr'<|E' (Zcm (cvl lk rfl) rfl (hl0 hn) ha0) pt<|mv' lki pt<|sn'<|Zam<|wr'<|V' (Zaa lk) pt<|V' (Zac lk (hga hn rfl) gt0) pt<|Zae mp (Zdz hnm) pt<|V' (Zav lk) pt<|mv' lk pt<|?_
 refine ZaL (t:=9) gt pt pt (fun hg9=>?_) (fun hg9=>?_)
 ·refine s_no gt pt<|s_no gt pt<|s_no gt pt<|s_no gt pt<|V' (Zaj lk lkb) pt<|sn'<|ZaG lk<|wr'<|mv' lki pt<|sn'<|Zab<|?_
  refine Zak<|Zag rz<|rT'<|?_
  rw [show Zde (nm,f,t,m,(k,w,n),a,c,s,lt)=1 by unfold Zde;simp_all]
 refine s_do gt<|V' (Zaa lk) pt<|s_do gt<|V' (Zac lk (hga hn rfl) gt10) pt<|s_do gt<|Zae mp (ZhH hlt') pt<|s_do gt<|V' (Zav lk) pt<|V' (Zah lk lk) pt<|sn'<|?_
 refine Zaw lk (fun hc1=>?_) (fun hc1=>?_)
 ·refine wr'<|mv' lki pt<|sn'<|Zab<|Zak<|Zag rz<|rT'<|?_
  rw [show Zde (nm,f,t,m,(k,w,n),a,c,s,lt)=1 by unfold Zde;simp_all]
 have h1:ZbL nm=true∧ZbZ lt=true:=by simp_all
 have hR:Zde (nm,f,t,m,(k,w,n),a,c,s,lt)=if f<1900∨f>t∨t>2100∨¬wi m 1 12=true then 3 else if (onV 2001 m k w n).2≠0 then (onV 2001 m k w n).2 else if ¬wi a 0 172800=true then 3 else if ¬clkB c true=true then 7 else if ¬wi s 0 10800=true then 3 else 0:=if_neg (by simp [h1])
 have hC:clkB c true=wi c 1 3:=by unfold clkB;simp
 rw [hC] at hR
 refine Zaf<|Zai<|Zam<|wr'<|V' (Zaa lk) pt<|V' (Zac lk (hga hn rfl) gt1) pt<|V' (Zaa lk) pt<|V' (Zac lk (hga hn rfl) gt2) pt<|Zae mp (Zbe) pt<|V' (Zav lk) pt<|mv' lk pt<|?_
 refine ZaL (t:=21) gt pt pt (fun hg21=>?_) (fun hg21=>?_)
 ·have hw:¬wi f 1900 t=true:=by simpa using hg21
  have hw':¬(1900≤f∧f≤t):=by unfold wi at hw;simpa using hw
  rw [if_pos (by omega)] at hR
  refine s_no gt pt<|s_no gt pt<|s_no gt pt<|V' (Zaj lk lkb) pt<|mv' lk pt<|s_no gt pt<|s_no gt pt<|s_no gt pt<|s_no gt pt<|V' (Zaj lk lkb) pt<|sn'<|ZaG lk<|Zam<|?_
  refine Zar<|mv' lki pt<|sn'<|Zab<|Zak<|Zag rz<|rT'<|?_
  rw [hR]
 have hw:wi f 1900 t=true:=by simpa using hg21
 have hw':1900≤f∧f≤t:=by unfold wi at hw;simpa using hw
 refine s_do gt<|V' (Zaa lk) pt<|s_do gt<|V' (Zac lk (hga hn rfl) gt2) pt<|s_do gt<|V' (ZbN lk lki) pt<|V' (Zah lk lk) pt<|mv' lk pt<|?_
 refine sp' (t:=26) gt pt pt (fun hg26=>?_) (fun hg26=>?_)
 ·rw [if_pos (.inr (.inr (.inl (by omega))))] at hR
  refine s_no gt pt<|s_no gt pt<|s_no gt pt<|s_no gt pt<|V' (Zaj lk lkb) pt<|sn'<|ZaG lk<|wr'<|mv' lki pt<|sn'<|Zab<|?_
  refine Zak<|Zag rz<|rT'<|?_
  rw [hR]
 refine s_do gt<|V' (Zaa lk) pt<|s_do gt<|V' (Zac lk (hga hn rfl) gt3) pt<|s_do gt<|Zae mp (Zbe) pt<|s_do gt<|V' (Zav lk) pt<|V' (Zah lk lk) pt<|sn'<|?_
 refine Zaw lk (fun hc2=>?_) (fun hc2=>?_)
 ·rw [if_pos (.inr (.inr (.inr (by simpa using hc2))))] at hR
  refine wr'<|mv' lki pt<|sn'<|Zab<|Zak<|Zag rz<|rT'<|?_
  rw [hR]
 have hw2:wi m 1 12=true:=by simpa using hc2
 have h2:¬(f<1900∨f>t∨t>2100∨¬wi m 1 12=true):=by rw [hw2];simp;omega
 rw [if_neg h2] at hR
 refine Zaf<|Zai<|wr'<|V' (Zaa lk) pt<|V' (Zac lk (hga hn rfl) gt3) pt<|V' (Zaa lk) pt<|V' (Zau lk (hga hn rfl) Zrq rfl) pt<|Zae mp (ron_a) pt<|mv' lk pt<|V' (Zbb lk gt) pt<|V' (Zbb lk gt) pt<|E' (Zbq (hl1 hn) ha1) pt<|E' (Zal lk (cvl lk rfl) (hga hn rfl) rfl (nb' rfl) rfl Zrr (hs1 hn)) ptn<|?_
 refine mv' lk pt<|sn'<|Zam<|wr'<|mv' lk pt<|V' (Za6 lk lki) pt<|sn'<|?_
 refine cd' lk (fun hc3=>?_) (fun hc3=>?_)
 ·rw [if_pos hc3] at hR
  refine wr'<|mv' lk pt<|mv' lk pt<|sn'<|Zab<|Zak<|Zag rz<|rT'<|?_
  rw [hR]
 rw [if_neg hc3] at hR
 refine Zaf<|Zai<|Zam<|wr'<|V' (Zaa lk) pt<|V' (Zac lk (hga hn rfl) gt7) pt<|Zae mp (Zbe) pt<|V' (Zav lk) pt<|sn'<|?_
 refine Zaw lk (fun hc4=>?_) (fun hc4=>?_)
 ·rw [if_pos (by simpa using hc4)] at hR
  refine wr'<|mv' lki pt<|sn'<|Zab<|Zak<|Zag rz<|rT'<|?_
  rw [hR]
 rw [if_neg (by simpa using hc4)] at hR
 refine Zaf<|Zai<|Zam<|wr'<|V' (Zaa lk) pt<|V' (Zac lk (hga hn rfl) gt8) pt<|Zae mp (Zbe) pt<|V' (Zav lk) pt<|sn'<|?_
 refine Zaw lk (fun hc5=>?_) (fun hc5=>?_)
 ·rw [if_pos (by simpa using hc5)] at hR
  refine wr'<|mv' lki pt<|sn'<|Zab<|Zak<|Zag rz<|rT'<|?_
  rw [hR]
 rw [if_neg (by simpa using hc5)] at hR
 refine Zaf<|Zai<|Zam<|wr'<|V' (Zaa lk) pt<|V' (Zac lk (hga hn rfl) gt9) pt<|Zae mp (Zbe) pt<|V' (Zav lk) pt<|sn'<|?_
 refine Zaw lk (fun hc6=>?_) (fun hc6=>?_)
 ·rw [if_pos (by simpa using hc6)] at hR
  refine wr'<|mv' lki pt<|sn'<|Zab<|Zak<|Zag rz<|rT'<|?_
  rw [hR]
 rw [if_neg (by simpa using hc6)] at hR
 refine Zaf<|Zai<|wr'<|mv' lki pt<|sn'<|Zab<|Zag rz<|rT'<|?_
 rw [hR]
theorem ZhV (c:Int):clkB c false=decide (c=2∨c=3):=by unfold clkB wi;rw [Bool.eq_iff_iff];simp;omega
theorem Zn1 {rl fm:ByteArray}{sh sa y m d a c:Int}{op last:Bool}{h:AH}(hrl:rl.size≤maxLen) (hfm:fm.size≤maxLen):Ac 26 [.agg [iv sh,sv rl,iv sa,sv fm,bv op,iv y,iv m,iv d,iv a,iv c],bv last] h (iv (eraE sh rl sa fm op y m d a c last)):=by
 refine tI' k26 fun N hn hlt hlA hbd=>?_
 simp only [tb'] at hbd ⊢
 refine wr'<|E' (Zcm (cvl lk rfl) rfl (hl0 hn) ha0) pt<|mv' lki pt<|sn'<|Zam<|wr'<|V' (Zaa lk) pt<|V' (Zac lk (hga hn rfl) gt1) pt<|V' (Zcp lk lks) pt<|mv' lk pt<|?_
 refine sp' (t:=8) gt pt pt (fun hg8=>?_) (fun hg8=>?_)
 ·refine s_do gt<|V' (Zaa lk) pt<|s_do gt<|V' (Zac lk (hga hn rfl) gt1) pt<|s_do gt<|Zae mp (Zdz hrl) pt<|s_do gt<|V' (Zav lk) pt<|V' (Zaj lk lk) pt<|mv' lk pt<|?_
  refine ZaL (t:=14) gt pt pt (fun hg14=>?_) (fun hg14=>?_)
  ·refine s_no gt pt<|s_no gt pt<|s_no gt pt<|s_no gt pt<|V' (Zaj lk lkb) pt<|sn'<|ZaG lk<|wr'<|mv' lki pt<|sn'<|Zab<|?_
   refine Zak<|Zag rz<|rT'<|?_
   refine ivx ?_;unfold eraE;simp_all
  refine s_do gt<|V' (Zaa lk) pt<|s_do gt<|V' (Zac lk (hga hn rfl) gt3) pt<|s_do gt<|Zae mp (Zgi hfm) pt<|s_do gt<|V' (Zav lk) pt<|V' (Zah lk lk) pt<|sn'<|?_
  refine Zaw lk (fun hc1=>?_) (fun hc1=>?_)
  ·refine wr'<|mv' lki pt<|sn'<|Zab<|Zak<|Zag rz<|rT'<|?_
   refine ivx ?_;unfold eraE;simp_all
  refine Zaf<|Zai<|Zam<|wr'<|V' (Zaa lk) pt<|V' (Zac lk (hga hn rfl) gt0) pt<|Zae mp (Zbe) pt<|V' (Zav lk) pt<|mv' lk pt<|?_
  refine ZaL (t:=24) gt pt pt (fun hg24=>?_) (fun hg24=>?_)
  ·refine s_no gt pt<|s_no gt pt<|s_no gt pt<|s_no gt pt<|V' (Zaj lk lkb) pt<|sn'<|ZaG lk<|wr'<|mv' lki pt<|sn'<|Zab<|?_
   refine Zak<|Zag rz<|rT'<|?_
   refine ivx ?_;unfold eraE;simp_all
  refine s_do gt<|V' (Zaa lk) pt<|s_do gt<|V' (Zac lk (hga hn rfl) gt2) pt<|s_do gt<|Zae mp (Zbe) pt<|s_do gt<|V' (Zav lk) pt<|V' (Zah lk lk) pt<|sn'<|?_
  refine Zaw lk (fun hc2=>?_) (fun hc2=>?_)
  ·refine wr'<|mv' lki pt<|sn'<|Zab<|Zak<|Zag rz<|rT'<|?_
   refine ivx ?_;unfold eraE;simp_all
  refine Zaf<|Zai<|Zam<|wr'<|V' (Zaa lk) pt<|V' (Zac lk (hga hn rfl) gt1) pt<|V' (Zcp lk lks) pt<|mv' lk pt<|?_
  refine sp' (t:=33) gt pt pt (fun hg33=>?_) (fun hg33=>?_)
  ·refine s_do gt<|V' (Zaa lk) pt<|s_do gt<|V' (Zac lk (hga hn rfl) gt2) pt<|s_do gt<|V' (Za6 lk lki) pt<|V' (Zaj lk lk) pt<|sn'<|?_
   refine cd' lk (fun hc3=>?_) (fun hc3=>?_)
   ·refine wr'<|mv' lki pt<|sn'<|Zab<|Zak<|Zag rz<|rT'<|?_
    refine ivx ?_;unfold eraE;simp_all
   refine Zaf<|Zai<|Zam<|wr'<|V' (Zaa lk) pt<|V' (Zac lk (hga hn rfl) gt4) pt<|mv' lk pt<|V' (ZdP lk lk) pt<|sn'<|?_
   refine cd' lk (fun hc4=>?_) (fun hc4=>?_)
   ·refine wr'<|mv' lki pt<|sn'<|Zab<|Zak<|Zag rz<|rT'<|?_
    refine ivx ?_;unfold eraE;simp_all
   refine Zaf<|Zai<|Zam<|wr'<|V' (Zaa lk) pt<|V' (Zac lk (hga hn rfl) gt4) pt<|sn'<|?_
   refine Zaw lk (fun hc5=>?_) (fun hc5=>?_)
   ·refine Zam<|wr'<|V' (Zaa lk) pt<|V' (Zau lk (hga hn rfl) Zf2 rfl) pt<|V' (ZaB ZcV) pt<|Zae mp (Zdy (u:=((y,m,d),a,c)) (v:=((0,0,0),0,0))) pt<|V' (Zav lk) pt<|sn'<|?_
    refine Zaw lk (fun hc6=>?_) (fun hc6=>?_)
    ·refine wr'<|mv' lki pt<|sn'<|Zab<|Zak<|Zak<|Zag rz<|rT'<|?_
     refine ivx ?_;unfold eraE;simp_all <;> (try intros) <;> omega
    refine Zaf<|Zai<|wr'<|mv' lki pt<|sn'<|Zab<|Zak<|Zag rz<|rT'<|?_
    refine ivx ?_;unfold eraE;simp_all
   refine Zaf<|Zai<|Zam<|wr'<|V' (Zaa lk) pt<|V' (Zcv lk) pt<|V' (Zau lk (hga hn rfl) Zf3 rfl) pt<|Zae mp (ZfN) pt<|V' (Zav lk) pt<|mv' lk pt<|?_
   refine ZaL (t:=54) gt pt pt (fun hg54=>?_) (fun hg54=>?_)
   ·refine s_no gt pt<|s_no gt pt<|s_no gt pt<|s_no gt pt<|s_no gt pt<|V' (Zaj lk lkb) pt<|sn'<|ZaG lk<|wr'<|mv' lki pt<|sn'<|?_
    refine Zab<|Zak<|Zag rz<|rT'<|?_
    refine ivx ?_;unfold eraE;simp_all
   refine s_do gt<|V' (Zaa lk) pt<|s_do gt<|V' (Zcv lk) pt<|s_do gt<|V' (Zac lk (hga hn rfl) gt8) pt<|s_do gt<|Zae mp (Zbe) pt<|s_do gt<|V' (Zav lk) pt<|V' (Zah lk lk) pt<|sn'<|?_
   refine Zaw lk (fun hc7=>?_) (fun hc7=>?_)
   ·refine wr'<|mv' lki pt<|sn'<|Zab<|Zak<|Zag rz<|rT'<|?_
    refine ivx ?_;unfold eraE;simp_all
   refine Zaf<|Zai<|Zam<|wr'<|V' (Zaa lk) pt<|V' (Zcv lk) pt<|V' (Zac lk (hga hn rfl) gt9) pt<|V' (Za6 lk lki) pt<|mv' lk pt<|?_
   refine sp' (t:=65) gt pt pt (fun hg65=>?_) (fun hg65=>?_)
   ·refine s_do gt<|V' (Zaa lk) pt<|s_do gt<|V' (Zcv lk) pt<|s_do gt<|V' (Zac lk (hga hn rfl) gt9) pt<|s_do gt<|V' (Za6 lk lki) pt<|V' (Zaj lk lk) pt<|sn'<|?_
    refine cd' lk (fun hc8=>?_) (fun hc8=>?_)
    ·refine wr'<|mv' lki pt<|sn'<|Zab<|Zak<|Zag rz<|rT'<|?_
     refine ivx ?_;unfold eraE;rw [ZhV];simp_all
    refine Zaf<|Zai<|wr'<|mv' lki pt<|sn'<|Zab<|Zag rz<|rT'<|?_
    refine ivx ?_;unfold eraE;rw [ZhV];simp_all
   refine s_no gt pt<|s_no gt pt<|s_no gt pt<|s_no gt pt<|V' (Zah lk lkb) pt<|sn'<|ZaY lk<|Zaf<|Zai<|wr'<|mv' lki pt<|Zas<|?_
   refine Zai<|Zab<|Zag rz<|rT'<|?_
   refine ivx ?_;unfold eraE;rw [ZhV];simp_all
  refine s_no gt pt<|s_no gt pt<|s_no gt pt<|V' (Zah lk lkb) pt<|sn'<|ZaY lk<|Zaf<|Zai<|Zam<|wr'<|V' (Zaa lk) pt<|V' (Zac lk (hga hn rfl) gt4) pt<|?_
  refine mv' lk pt<|V' (ZdP lk lk) pt<|sn'<|?_
  refine cd' lk (fun hc4=>?_) (fun hc4=>?_)
  ·refine wr'<|mv' lki pt<|sn'<|Zab<|Zak<|Zag rz<|rT'<|?_
   refine ivx ?_;unfold eraE;simp_all
  refine Zaf<|Zai<|Zam<|wr'<|V' (Zaa lk) pt<|V' (Zac lk (hga hn rfl) gt4) pt<|sn'<|?_
  refine Zaw lk (fun hc5=>?_) (fun hc5=>?_)
  ·refine Zam<|wr'<|V' (Zaa lk) pt<|V' (Zau lk (hga hn rfl) Zf2 rfl) pt<|V' (ZaB ZcV) pt<|Zae mp (Zdy (u:=((y,m,d),a,c)) (v:=((0,0,0),0,0))) pt<|V' (Zav lk) pt<|sn'<|?_
   refine Zaw lk (fun hc6=>?_) (fun hc6=>?_)
   ·refine wr'<|mv' lki pt<|sn'<|Zab<|Zak<|Zak<|Zag rz<|rT'<|?_
    refine ivx ?_;unfold eraE;simp_all <;> (try intros) <;> omega
   refine Zaf<|Zai<|wr'<|mv' lki pt<|sn'<|Zab<|Zak<|Zag rz<|rT'<|?_
   refine ivx ?_;unfold eraE;simp_all
  refine Zaf<|Zai<|Zam<|wr'<|V' (Zaa lk) pt<|V' (Zcv lk) pt<|V' (Zau lk (hga hn rfl) Zf3 rfl) pt<|Zae mp (ZfN) pt<|V' (Zav lk) pt<|mv' lk pt<|?_
  refine ZaL (t:=54) gt pt pt (fun hg54=>?_) (fun hg54=>?_)
  ·refine s_no gt pt<|s_no gt pt<|s_no gt pt<|s_no gt pt<|s_no gt pt<|V' (Zaj lk lkb) pt<|sn'<|ZaG lk<|wr'<|mv' lki pt<|sn'<|?_
   refine Zab<|Zak<|Zag rz<|rT'<|?_
   refine ivx ?_;unfold eraE;simp_all
  refine s_do gt<|V' (Zaa lk) pt<|s_do gt<|V' (Zcv lk) pt<|s_do gt<|V' (Zac lk (hga hn rfl) gt8) pt<|s_do gt<|Zae mp (Zbe) pt<|s_do gt<|V' (Zav lk) pt<|V' (Zah lk lk) pt<|sn'<|?_
  refine Zaw lk (fun hc7=>?_) (fun hc7=>?_)
  ·refine wr'<|mv' lki pt<|sn'<|Zab<|Zak<|Zag rz<|rT'<|?_
   refine ivx ?_;unfold eraE;simp_all
  refine Zaf<|Zai<|Zam<|wr'<|V' (Zaa lk) pt<|V' (Zcv lk) pt<|V' (Zac lk (hga hn rfl) gt9) pt<|V' (Za6 lk lki) pt<|mv' lk pt<|?_
  refine sp' (t:=65) gt pt pt (fun hg65=>?_) (fun hg65=>?_)
  ·refine s_do gt<|V' (Zaa lk) pt<|s_do gt<|V' (Zcv lk) pt<|s_do gt<|V' (Zac lk (hga hn rfl) gt9) pt<|s_do gt<|V' (Za6 lk lki) pt<|V' (Zaj lk lk) pt<|sn'<|?_
   refine cd' lk (fun hc8=>?_) (fun hc8=>?_)
   ·refine wr'<|mv' lki pt<|sn'<|Zab<|Zak<|Zag rz<|rT'<|?_
    refine ivx ?_;unfold eraE;rw [ZhV];simp_all
   refine Zaf<|Zai<|wr'<|mv' lki pt<|sn'<|Zab<|Zag rz<|rT'<|?_
   refine ivx ?_;unfold eraE;rw [ZhV];simp_all
  refine s_no gt pt<|s_no gt pt<|s_no gt pt<|s_no gt pt<|V' (Zah lk lkb) pt<|sn'<|ZaY lk<|Zaf<|Zai<|wr'<|mv' lki pt<|Zas<|?_
  refine Zai<|Zab<|Zag rz<|rT'<|?_
  refine ivx ?_;unfold eraE;rw [ZhV];simp_all
 refine s_no gt pt<|s_no gt pt<|s_no gt pt<|s_no gt pt<|V' (Zah lk lkb) pt<|mv' lk pt<|s_do gt<|V' (Zaa lk) pt<|s_do gt<|V' (Zac lk (hga hn rfl) gt3) pt<|s_do gt<|Zae mp (Zgi hfm) pt<|s_do gt<|V' (Zav lk) pt<|?_
 refine V' (Zah lk lk) pt<|sn'<|?_
 refine Zaw lk (fun hc1=>?_) (fun hc1=>?_)
 ·refine wr'<|mv' lki pt<|sn'<|Zab<|Zak<|Zag rz<|rT'<|?_
  refine ivx ?_;unfold eraE;simp_all
 refine Zaf<|Zai<|Zam<|wr'<|V' (Zaa lk) pt<|V' (Zac lk (hga hn rfl) gt0) pt<|Zae mp (Zbe) pt<|V' (Zav lk) pt<|mv' lk pt<|?_
 refine ZaL (t:=24) gt pt pt (fun hg24=>?_) (fun hg24=>?_)
 ·refine s_no gt pt<|s_no gt pt<|s_no gt pt<|s_no gt pt<|V' (Zaj lk lkb) pt<|sn'<|ZaG lk<|wr'<|mv' lki pt<|sn'<|Zab<|?_
  refine Zak<|Zag rz<|rT'<|?_
  refine ivx ?_;unfold eraE;simp_all
 refine s_do gt<|V' (Zaa lk) pt<|s_do gt<|V' (Zac lk (hga hn rfl) gt2) pt<|s_do gt<|Zae mp (Zbe) pt<|s_do gt<|V' (Zav lk) pt<|V' (Zah lk lk) pt<|sn'<|?_
 refine Zaw lk (fun hc2=>?_) (fun hc2=>?_)
 ·refine wr'<|mv' lki pt<|sn'<|Zab<|Zak<|Zag rz<|rT'<|?_
  refine ivx ?_;unfold eraE;simp_all
 refine Zaf<|Zai<|Zam<|wr'<|V' (Zaa lk) pt<|V' (Zac lk (hga hn rfl) gt1) pt<|V' (Zcp lk lks) pt<|mv' lk pt<|?_
 refine sp' (t:=33) gt pt pt (fun hg33=>?_) (fun hg33=>?_)
 ·refine s_do gt<|V' (Zaa lk) pt<|s_do gt<|V' (Zac lk (hga hn rfl) gt2) pt<|s_do gt<|V' (Za6 lk lki) pt<|V' (Zaj lk lk) pt<|sn'<|?_
  refine cd' lk (fun hc3=>?_) (fun hc3=>?_)
  ·refine wr'<|mv' lki pt<|sn'<|Zab<|Zak<|Zag rz<|rT'<|?_
   refine ivx ?_;unfold eraE;simp_all
  refine Zaf<|Zai<|Zam<|wr'<|V' (Zaa lk) pt<|V' (Zac lk (hga hn rfl) gt4) pt<|mv' lk pt<|V' (ZdP lk lk) pt<|sn'<|?_
  refine cd' lk (fun hc4=>?_) (fun hc4=>?_)
  ·refine wr'<|mv' lki pt<|sn'<|Zab<|Zak<|Zag rz<|rT'<|?_
   refine ivx ?_;unfold eraE;simp_all
  refine Zaf<|Zai<|Zam<|wr'<|V' (Zaa lk) pt<|V' (Zac lk (hga hn rfl) gt4) pt<|sn'<|?_
  refine Zaw lk (fun hc5=>?_) (fun hc5=>?_)
  ·refine Zam<|wr'<|V' (Zaa lk) pt<|V' (Zau lk (hga hn rfl) Zf2 rfl) pt<|V' (ZaB ZcV) pt<|Zae mp (Zdy (u:=((y,m,d),a,c)) (v:=((0,0,0),0,0))) pt<|V' (Zav lk) pt<|sn'<|?_
   refine Zaw lk (fun hc6=>?_) (fun hc6=>?_)
   ·refine wr'<|mv' lki pt<|sn'<|Zab<|Zak<|Zak<|Zag rz<|rT'<|?_
    refine ivx ?_;unfold eraE;simp_all <;> (try intros) <;> omega
   refine Zaf<|Zai<|wr'<|mv' lki pt<|sn'<|Zab<|Zak<|Zag rz<|rT'<|?_
   refine ivx ?_;unfold eraE;simp_all
  refine Zaf<|Zai<|Zam<|wr'<|V' (Zaa lk) pt<|V' (Zcv lk) pt<|V' (Zau lk (hga hn rfl) Zf3 rfl) pt<|Zae mp (ZfN) pt<|V' (Zav lk) pt<|mv' lk pt<|?_
  refine ZaL (t:=54) gt pt pt (fun hg54=>?_) (fun hg54=>?_)
  ·refine s_no gt pt<|s_no gt pt<|s_no gt pt<|s_no gt pt<|s_no gt pt<|V' (Zaj lk lkb) pt<|sn'<|ZaG lk<|wr'<|mv' lki pt<|sn'<|?_
   refine Zab<|Zak<|Zag rz<|rT'<|?_
   refine ivx ?_;unfold eraE;simp_all
  refine s_do gt<|V' (Zaa lk) pt<|s_do gt<|V' (Zcv lk) pt<|s_do gt<|V' (Zac lk (hga hn rfl) gt8) pt<|s_do gt<|Zae mp (Zbe) pt<|s_do gt<|V' (Zav lk) pt<|V' (Zah lk lk) pt<|sn'<|?_
  refine Zaw lk (fun hc7=>?_) (fun hc7=>?_)
  ·refine wr'<|mv' lki pt<|sn'<|Zab<|Zak<|Zag rz<|rT'<|?_
   refine ivx ?_;unfold eraE;simp_all
  refine Zaf<|Zai<|Zam<|wr'<|V' (Zaa lk) pt<|V' (Zcv lk) pt<|V' (Zac lk (hga hn rfl) gt9) pt<|V' (Za6 lk lki) pt<|mv' lk pt<|?_
  refine sp' (t:=65) gt pt pt (fun hg65=>?_) (fun hg65=>?_)
  ·refine s_do gt<|V' (Zaa lk) pt<|s_do gt<|V' (Zcv lk) pt<|s_do gt<|V' (Zac lk (hga hn rfl) gt9) pt<|s_do gt<|V' (Za6 lk lki) pt<|V' (Zaj lk lk) pt<|sn'<|?_
   refine cd' lk (fun hc8=>?_) (fun hc8=>?_)
   ·refine wr'<|mv' lki pt<|sn'<|Zab<|Zak<|Zag rz<|rT'<|?_
    refine ivx ?_;unfold eraE;rw [ZhV];simp_all
   refine Zaf<|Zai<|wr'<|mv' lki pt<|sn'<|Zab<|Zag rz<|rT'<|?_
   refine ivx ?_;unfold eraE;rw [ZhV];simp_all
  refine s_no gt pt<|s_no gt pt<|s_no gt pt<|s_no gt pt<|V' (Zah lk lkb) pt<|sn'<|ZaY lk<|Zaf<|Zai<|wr'<|mv' lki pt<|Zas<|?_
  refine Zai<|Zab<|Zag rz<|rT'<|?_
  refine ivx ?_;unfold eraE;rw [ZhV];simp_all
 refine s_no gt pt<|s_no gt pt<|s_no gt pt<|V' (Zah lk lkb) pt<|sn'<|ZaY lk<|Zaf<|Zai<|Zam<|wr'<|V' (Zaa lk) pt<|V' (Zac lk (hga hn rfl) gt4) pt<|?_
 refine mv' lk pt<|V' (ZdP lk lk) pt<|sn'<|?_
 refine cd' lk (fun hc4=>?_) (fun hc4=>?_)
 ·refine wr'<|mv' lki pt<|sn'<|Zab<|Zak<|Zag rz<|rT'<|?_
  refine ivx ?_;unfold eraE;simp_all
 refine Zaf<|Zai<|Zam<|wr'<|V' (Zaa lk) pt<|V' (Zac lk (hga hn rfl) gt4) pt<|sn'<|?_
 refine Zaw lk (fun hc5=>?_) (fun hc5=>?_)
 ·refine Zam<|wr'<|V' (Zaa lk) pt<|V' (Zau lk (hga hn rfl) Zf2 rfl) pt<|V' (ZaB ZcV) pt<|Zae mp (Zdy (u:=((y,m,d),a,c)) (v:=((0,0,0),0,0))) pt<|V' (Zav lk) pt<|sn'<|?_
  refine Zaw lk (fun hc6=>?_) (fun hc6=>?_)
  ·refine wr'<|mv' lki pt<|sn'<|Zab<|Zak<|Zak<|Zag rz<|rT'<|?_
   refine ivx ?_;unfold eraE;simp_all <;> (try intros) <;> omega
  refine Zaf<|Zai<|wr'<|mv' lki pt<|sn'<|Zab<|Zak<|Zag rz<|rT'<|?_
  refine ivx ?_;unfold eraE;simp_all
 refine Zaf<|Zai<|Zam<|wr'<|V' (Zaa lk) pt<|V' (Zcv lk) pt<|V' (Zau lk (hga hn rfl) Zf3 rfl) pt<|Zae mp (ZfN) pt<|V' (Zav lk) pt<|mv' lk pt<|?_
 refine ZaL (t:=54) gt pt pt (fun hg54=>?_) (fun hg54=>?_)
 ·refine s_no gt pt<|s_no gt pt<|s_no gt pt<|s_no gt pt<|s_no gt pt<|V' (Zaj lk lkb) pt<|sn'<|ZaG lk<|wr'<|mv' lki pt<|sn'<|?_
  refine Zab<|Zak<|Zag rz<|rT'<|?_
  refine ivx ?_;unfold eraE;simp_all
 refine s_do gt<|V' (Zaa lk) pt<|s_do gt<|V' (Zcv lk) pt<|s_do gt<|V' (Zac lk (hga hn rfl) gt8) pt<|s_do gt<|Zae mp (Zbe) pt<|s_do gt<|V' (Zav lk) pt<|V' (Zah lk lk) pt<|sn'<|?_
 refine Zaw lk (fun hc7=>?_) (fun hc7=>?_)
 ·refine wr'<|mv' lki pt<|sn'<|Zab<|Zak<|Zag rz<|rT'<|?_
  refine ivx ?_;unfold eraE;simp_all
 refine Zaf<|Zai<|Zam<|wr'<|V' (Zaa lk) pt<|V' (Zcv lk) pt<|V' (Zac lk (hga hn rfl) gt9) pt<|V' (Za6 lk lki) pt<|mv' lk pt<|?_
 refine sp' (t:=65) gt pt pt (fun hg65=>?_) (fun hg65=>?_)
 ·refine s_do gt<|V' (Zaa lk) pt<|s_do gt<|V' (Zcv lk) pt<|s_do gt<|V' (Zac lk (hga hn rfl) gt9) pt<|s_do gt<|V' (Za6 lk lki) pt<|V' (Zaj lk lk) pt<|sn'<|?_
  refine cd' lk (fun hc8=>?_) (fun hc8=>?_)
  ·refine wr'<|mv' lki pt<|sn'<|Zab<|Zak<|Zag rz<|rT'<|?_
   refine ivx ?_;unfold eraE;rw [ZhV];simp_all
  refine Zaf<|Zai<|wr'<|mv' lki pt<|sn'<|Zab<|Zag rz<|rT'<|?_
  refine ivx ?_;unfold eraE;rw [ZhV];simp_all
 refine s_no gt pt<|s_no gt pt<|s_no gt pt<|s_no gt pt<|V' (Zah lk lkb) pt<|sn'<|ZaY lk<|Zaf<|Zai<|wr'<|mv' lki pt<|Zas<|?_
 refine Zai<|Zab<|Zag rz<|rT'<|?_
 refine ivx ?_;unfold eraE;rw [ZhV];simp_all
theorem ZmD {r:Rul}{h:AH}(h1:r.1.size≤maxLen) (h2:r.2.2.2.2.2.2.2.2.size≤maxLen):Ac 24 [.agg (rulC r)] h (iv (Zde r)):=ZmC h1 h2
theorem Zn2 {x:Era}{last:Bool}{h:AH}(ho:ZsO x):ACalls Tryz.prog 26 [.agg (eraC x),bv last] h fun y h'=>h'=h∧y=.ret (iv (eraX x last)):=Zn1 ho.1 ho.2
theorem ZsG {a:List Rul}{z:List Zon}{l:List Lnk}{h:AH}(hok:ZeJ (a,z,l)):Ac 9 [.agg [.sl a.length 11 false (rows rulC a),.sl z.length 2 false (rows zonC z),.sl l.length 2 false (rows lnkC l)]] h (iv (ZbT (a,z,l))):=by
 refine tI' k9 fun N hn hlt hlA hbd=>?_
 simp only [tb'] at hbd ⊢
 refine wr'<|E' (Zcm (cvl lk rfl) rfl (hl0 hn) ha0) pt<|mv' lki pt<|sn'<|Zam<|wr'<|V' (Zaa lk) pt<|V' (Zac lk (hga hn rfl) gt0) pt<|V' (ZaK lk) pt<|V' (ZbN lk lki) pt<|mv' lk pt<|?_
 refine sp' (t:=15) gt pt pt (fun hg15=>?_) (fun hg15=>?_)
 ·have hM:Ze1 (a,z,l)=true:=by unfold Ze1;simp;omega
  refine s_no gt pt<|s_no gt pt<|s_no gt pt<|s_no gt pt<|V' (Zaj lk lkb) pt<|mv' lk pt<|s_no gt pt<|s_no gt pt<|s_no gt pt<|s_no gt pt<|V' (Zaj lk lkb) pt<|sn'<|ZaG lk<|?_
  refine wr'<|mv' lki pt<|sn'<|Zab<|Zak<|Zag rz<|rT'<|?_
  refine ivx ?_;unfold ZbT;rw [if_pos hM]
 refine s_do gt<|V' (Zaa lk) pt<|s_do gt<|V' (Zac lk (hga hn rfl) gt1) pt<|s_do gt<|V' (ZaK lk) pt<|s_do gt<|V' (ZbN lk lki) pt<|V' (Zah lk lk) pt<|mv' lk pt<|?_
 refine sp' (t:=21) gt pt pt (fun hg21=>?_) (fun hg21=>?_)
 ·have hM:Ze1 (a,z,l)=true:=by unfold Ze1;simp;omega
  refine s_no gt pt<|s_no gt pt<|s_no gt pt<|s_no gt pt<|V' (Zaj lk lkb) pt<|sn'<|ZaG lk<|wr'<|mv' lki pt<|sn'<|Zab<|?_
  refine Zak<|Zag rz<|rT'<|?_
  refine ivx ?_;unfold ZbT;rw [if_pos hM]
 refine s_do gt<|V' (Zaa lk) pt<|s_do gt<|V' (Zac lk (hga hn rfl) gt2) pt<|s_do gt<|V' (ZaK lk) pt<|s_do gt<|V' (ZbN lk lki) pt<|V' (Zah lk lk) pt<|sn'<|?_
 refine cd' lk (fun hc1=>?_) (fun hc1=>?_)
 ·have hM:Ze1 (a,z,l)=true:=by unfold Ze1;simp;omega
  refine wr'<|mv' lki pt<|sn'<|Zab<|Zak<|Zag rz<|rT'<|?_
  refine ivx ?_;unfold ZbT;rw [if_pos hM]
 refine Zaf<|Zai<|Zam<|wr'<|mv' lki pt<|sn'<|Zao<|?_
 refine w_lp (ι:=Nat) (fun (k:Nat)=>[(3,iv (k:Int)),(2,.any)]++rn' 27 15) (fun (k:Nat)=>[]) (fun (k:Nat)=>k≤z.length∧(z.take k).any (fun z=>decide (8<z.2.length))=false) (fun (k:Nat)=>z.length-k) (0) (by exact ⟨Nat.zero_le _,rfl⟩) ?_
 rintro k hi1
 try simp only [sm',Nat.reduceAdd]
 obtain ⟨hk1,hk2⟩:=hi1
 refine Zam<|wr'<|mv' lk pt<|V' (Zaa lk) pt<|V' (Zac lk (hga hn rfl) gt1) pt<|V' (ZaK lk) pt<|V' (Zbu lk lk) pt<|sn'<|?_
 refine cd' lk (fun hc2=>?_) (fun hc2=>?_)
 ·have hk:k<z.length:=by omega
  refine Zaf<|Zai<|Zam<|Zao<|wr'<|V' (Zaa lk) pt<|V' (Zac lk (hga hn rfl) gt1) pt<|mv' lk pt<|?_
  refine V' (Zbg lk lk ZdT (nb' rfl) ro (by omega) ro rfl) pt ?_
  refine V' (ZcX lk dp1) pt<|V' (ZaZ lk gt) pt<|?_
  refine V' ((by first | exact ZaK lk | exact Zdr lk)) pt ?_
  refine V' (ZbN lk lki) pt<|sn'<|?_
  refine cd' lk (fun hc3=>?_) (fun hc3=>?_)
  ·have hM:Ze1 (a,z,l)=true:=by unfold Ze1;rw [show z.any (fun z=>decide (8<z.2.length))=true from List.any_eq_true.2 ⟨z[k],List.getElem_mem hk,decide_eq_true (by omega)⟩];simp
   refine wr'<|mv' lki pt<|sn'<|Zab<|Zaq<|Zak<|Zak<|Zaq<|Zak<|Zag rz<|rT'<|?_
   refine ivx ?_;unfold ZbT;rw [if_pos hM]
  refine Zaf<|ZaF<|Zai<|Zar<|mv' lk pt<|?_
  refine V' (ZaE lk lki (by omega) (by omega)) pt ?_
  refine mv' lk pt<|Zas<|ZaI<|?_
  refine lT' (k+1) (by (try dsimp only);exact ⟨by omega,by rw [List.take_succ_eq_append_getElem hk,List.any_append,hk2];simp;omega⟩)
 rw [List.take_of_length_le (by omega)] at hk2
 have hM:Ze1 (a,z,l)=false:=by unfold Ze1;rw [hk2];simp;omega
 have hE:ZbT (a,z,l)=if ZbK Zde a≠0 then ZbK Zde a else if ZbK Zei z≠0 then ZbK Zei z else ZbK ZdW l:=by unfold ZbT;rw [if_neg (by rw [hM];simp)]
 refine Za0<|ZaO<|ZaO<|Zbp<|Zai<|Zam<|wr'<|mv' lki pt<|sn'<|Zao<|?_
 refine w_lp (ι:=Nat) (fun (i2:Nat)=>[(4,iv (i2:Int)),(2,.any),(5,.any)]++rn' 42 16) (fun (i2:Nat)=>[]) (fun (i2:Nat)=>i2≤a.length∧ZbK Zde a=ZbK Zde (a.drop i2)) (fun (i2:Nat)=>a.length-i2) (0) (by exact ⟨Nat.zero_le _,rfl⟩) ?_
 rintro i2 hi2
 try simp only [sm',Nat.reduceAdd]
 obtain ⟨hu1,hu2⟩:=hi2
 refine Zam<|wr'<|mv' lk pt<|V' (Zaa lk) pt<|V' (Zac lk (hga hn rfl) gt0) pt<|V' (ZaK lk) pt<|V' (Zbu lk lk) pt<|sn'<|?_
 refine cd' lk (fun hc4=>?_) (fun hc4=>?_)
 ·have hk4:i2<a.length:=by omega
  rw [ZeO hk4] at hu2
  have ho4:=hok.1 _ (List.getElem_mem hk4)
  refine Zaf<|Zai<|Zam<|Zao<|wr'<|V' (Zaa lk) pt<|V' (Zac lk (hga hn rfl) gt0) pt<|mv' lk pt<|?_
  refine V' (Zbg lk lk Zem (nb' rfl) ro (by omega) ro rfl) pt ?_
  refine V' (Zbk lk Zro rfl) pt<|Zae mp (ZmD (r:=a[i2]) ho4.1 ho4.2) pt<|mv' lk pt<|sn'<|wr'<|mv' lk pt<|V' (Za6 lk lki) pt<|sn'<|?_
  refine cd' lk (fun hc5=>?_) (fun hc5=>?_)
  ·rw [if_pos hc5] at hu2
   refine wr'<|mv' lk pt<|mv' lk pt<|sn'<|Zab<|Zaq<|Zak<|Zak<|Zaq<|Zak<|Zag rz<|rT'<|?_
   refine ivx ?_;rw [hE,hu2,if_pos hc5]
  rw [if_neg hc5] at hu2
  refine Zaf<|ZaF<|Zai<|Zar<|mv' lk pt<|?_
  refine V' (ZaE lk lki (by omega) (by omega)) pt ?_
  refine mv' lk pt<|Zas<|ZaI<|?_
  refine lT' (i2+1) (by (try dsimp only);exact ⟨by omega,hu2⟩)
 rw [List.drop_of_length_le (by omega)] at hu2
 rw [hu2,if_neg (by simp [ZbK])] at hE
 refine Za0<|ZaO<|ZaO<|Zbp<|Zai<|Zam<|wr'<|mv' lki pt<|sn'<|Zao<|?_
 refine w_lp (ι:=Nat) (fun (i3:Nat)=>[(6,iv (i3:Int)),(2,.any)]++rn' 7 3++rn' 58 45) (fun (i3:Nat)=>[]) (fun (i3:Nat)=>i3≤z.length∧ZbK Zei z=ZbK Zei (z.drop i3)) (fun (i3:Nat)=>z.length-i3) (0) (by exact ⟨Nat.zero_le _,rfl⟩) ?_
 rintro i3 hi3
 try simp only [sm',Nat.reduceAdd]
 obtain ⟨hv1,hv2⟩:=hi3
 refine Zam<|wr'<|mv' lk pt<|V' (Zaa lk) pt<|V' (Zac lk (hga hn rfl) gt1) pt<|V' (ZaK lk) pt<|V' (Zbu lk lk) pt<|sn'<|?_
 refine cd' lk (fun hc6=>?_) (fun hc6=>?_)
 ·have hk6:i3<z.length:=by omega
  rw [ZeO hk6] at hv2
  have ho6:=hok.2.1 _ (List.getElem_mem hk6)
  have h8:(z[i3]).2.length≤8:=by have:=List.any_eq_false.1 hk2 _ (List.getElem_mem hk6);simpa using this
  refine Zaf<|Zai<|Zam<|Zao<|wr'<|V' (Zaa lk) pt<|V' (Zac lk (hga hn rfl) gt1) pt<|mv' lk pt<|?_
  refine V' (Zbg lk lk ZdT (nb' rfl) ro (by omega) ro rfl) pt ?_
  refine V' (ZcX lk dp1) pt<|V' (ZaZ lk gt) pt<|mv' lk pt<|sn'<|Zam<|wr'<|V' (Zaa lk) pt<|V' (Zac lk (hga hn rfl) gt1) pt<|mv' lk pt<|?_
  refine V' (Zbg lk lk ZdT (nb' rfl) ro (by omega) ro rfl) pt ?_
  refine V' (ZcX lk dp0) pt<|V' (ZaZ lk gt) pt<|Zae mp (Zdz ho6.1) pt<|V' (Zav lk) pt<|mv' lk pt<|?_
  refine ZaL (t:=79) gt pt pt (fun hg79=>?_) (fun hg79=>?_)
  ·have hZ:Zei z[i3]=1:=if_pos (.inl (by simpa using hg79))
   refine s_no gt pt<|s_no gt pt<|s_no gt pt<|V' (Zaj lk lkb) pt<|sn'<|ZaG lk<|wr'<|mv' lki pt<|sn'<|Zab<|Zak<|?_
   refine Zaq<|Zak<|Zak<|Zaq<|Zak<|Zag rz<|rT'<|?_
   refine ivx ?_;rw [hE,hv2,if_pos (by rw [hZ];simp),if_pos (by rw [hZ];simp),hZ]
  refine s_do gt<|mv' lk pt<|s_do gt<|?_
  refine V' ((by first | exact ZaK lk | exact Zdr lk)) pt ?_
  refine s_do gt<|V' (ZaX lk lki) pt<|V' (Zah lk lk) pt<|sn'<|?_
  refine cd' lk (fun hc7=>?_) (fun hc7=>?_)
  ·have hZ:Zei z[i3]=1:=if_pos (.inr (by omega))
   refine wr'<|mv' lki pt<|sn'<|Zab<|Zak<|Zaq<|Zak<|Zak<|Zaq<|Zak<|Zag rz<|rT'<|?_
   refine ivx ?_;rw [hE,hv2,if_pos (by rw [hZ];simp),if_pos (by rw [hZ];simp),hZ]
  have hZ:Zei z[i3]=Zeg z[i3].2:=if_neg (by rintro (h1 | h1);exact h1 (by simpa using hg79);omega)
  refine Zaf<|Zai<|wr'<|mv' lki pt<|sn'<|Zao<|?_
  refine w_lp (ι:=Nat) (fun (i4:Nat)=>[(8,iv (i4:Int)),(2,.any),(9,.any)]++rn' 84 19) (fun (i4:Nat)=>[]) (fun (i4:Nat)=>i4≤(z[i3]).2.length∧Zeg (z[i3]).2=Zeg ((z[i3]).2.drop i4)) (fun (i4:Nat)=>(z[i3]).2.length-i4) (0) (by exact ⟨Nat.zero_le _,rfl⟩) ?_
  rintro i4 hi4
  try simp only [sm',Nat.reduceAdd]
  obtain ⟨hx1,hx2⟩:=hi4
  refine Zam<|wr'<|mv' lk pt<|mv' lk pt<|?_
  refine V' ((by first | exact ZaK lk | exact Zdr lk)) pt ?_
  refine V' (Zbu lk lk) pt<|sn'<|?_
  refine cd' lk (fun hc8=>?_) (fun hc8=>?_)
  ·have hk8:i4<(z[i3]).2.length:=by omega
   rw [Zp8 hk8] at hx2
   have ho8:=ho6.2 _ (List.getElem_mem hk8)
   refine Zaf<|Zai<|Zam<|Zao<|wr'<|mv' lk pt<|mv' lk pt<|?_
   refine V' (Zbg lk lk Zeq (nb' rfl) ro (by omega) ro rfl) pt ?_
   refine V' (Zbk lk Zrp rfl) pt<|mv' lk pt<|mv' lk pt<|?_
   refine V' ((by first | exact ZaK lk | exact Zdr lk)) pt ?_
   refine V' (ZcC lk lki (by omega) (by omega)) pt ?_
   refine V' (ZaX lk lk) pt<|Zae mp (Zn2 (x:=(z[i3]).2[i4]) (last:=decide ((i4:Int)=((z[i3]).2.length:Int)-1)) ho8) pt<|mv' lk pt<|sn'<|wr'<|mv' lk pt<|V' (Za6 lk lki) pt<|sn'<|?_
   refine cd' lk (fun hc9=>?_) (fun hc9=>?_)
   ·rw [if_pos hc9] at hx2
    refine wr'<|mv' lk pt<|mv' lk pt<|sn'<|Zab<|Zaq<|Zak<|Zak<|Zaq<|Zaq<|Zak<|Zak<|?_
    refine Zaq<|Zak<|Zag rz<|rT'<|?_
    refine ivx ?_;rw [hE,hv2,hZ,hx2,if_pos hc9,if_pos hc9]
   rw [if_neg hc9] at hx2
   refine Zaf<|ZaF<|Zai<|Zar<|mv' lk pt<|?_
   refine V' (ZaE lk lki (by omega) (by omega)) pt ?_
   refine mv' lk pt<|Zas<|ZaI<|?_
   refine lT' (i4+1) (by (try dsimp only);exact ⟨by omega,hx2⟩)
  rw [List.drop_of_length_le (by omega)] at hx2
  rw [hZ,hx2,if_neg (by simp [Zeg])] at hv2
  refine Za0<|ZaO<|ZaO<|Zbp<|ZaF<|Zai<|Zar<|mv' lk pt<|?_
  refine V' (ZaE lk lki (by omega) (by omega)) pt ?_
  refine mv' lk pt<|Zas<|ZaI<|?_
  refine lT' (i3+1) (by (try dsimp only);exact ⟨by omega,hv2⟩)
 rw [List.drop_of_length_le (by omega)] at hv2
 rw [hv2,if_neg (by simp [ZbK])] at hE
 refine Za0<|ZaO<|ZaO<|Zbp<|Zai<|Zam<|wr'<|mv' lki pt<|sn'<|Zao<|?_
 refine w_lp (ι:=Nat) (fun (i5:Nat)=>[(10,iv (i5:Int)),(2,.any)]++rn' 103 25) (fun (i5:Nat)=>[]) (fun (i5:Nat)=>i5≤l.length∧ZbK ZdW l=ZbK ZdW (l.drop i5)) (fun (i5:Nat)=>l.length-i5) (0) (by exact ⟨Nat.zero_le _,rfl⟩) ?_
 rintro i5 hi5
 try simp only [sm',Nat.reduceAdd]
 obtain ⟨hy1,hy2⟩:=hi5
 refine Zam<|wr'<|mv' lk pt<|V' (Zaa lk) pt<|V' (Zac lk (hga hn rfl) gt2) pt<|V' (ZaK lk) pt<|V' (Zbu lk lk) pt<|sn'<|?_
 refine cd' lk (fun hc10=>?_) (fun hc10=>?_)
 ·have hk10:i5<l.length:=by omega
  rw [ZeO hk10] at hy2
  have ho10:=hok.2.2 _ (List.getElem_mem hk10)
  refine Zaf<|Zai<|Zam<|Zao<|wr'<|V' (Zaa lk) pt<|V' (Zac lk (hga hn rfl) gt2) pt<|mv' lk pt<|?_
  refine V' (Zbg lk lk ZdV (nb' rfl) ro (by omega) ro rfl) pt ?_
  refine V' (ZcX lk dp0) pt<|V' (ZaZ lk gt) pt<|Zae mp (Zdz ho10.1) pt<|V' (Zav lk) pt<|mv' lk pt<|?_
  refine ZaL (t:=118) gt pt pt (fun hg118=>?_) (fun hg118=>?_)
  ·have hK:ZdW l[i5]=1:=by unfold ZdW;simp_all
   refine s_no gt pt<|s_no gt pt<|s_no gt pt<|s_no gt pt<|s_no gt pt<|s_no gt pt<|s_no gt pt<|s_no gt pt<|V' (Zaj lk lkb) pt<|sn'<|ZaG lk<|wr'<|?_
   refine mv' lki pt<|sn'<|Zab<|Zaq<|Zak<|Zak<|Zaq<|Zak<|Zag rz<|rT'<|?_
   refine ivx ?_;rw [hE,hy2,if_pos (by rw [hK];simp),hK]
  refine s_do gt<|V' (Zaa lk) pt<|s_do gt<|V' (Zac lk (hga hn rfl) gt2) pt<|s_do gt<|mv' lk pt<|s_do gt<|?_
  refine V' (Zbg lk lk ZdV (nb' rfl) ro (by omega) ro rfl) pt ?_
  refine s_do gt<|V' (ZcX lk dp1) pt<|s_do gt<|V' (ZaZ lk gt) pt<|s_do gt<|Zae mp (Zdz ho10.2) pt<|s_do gt<|V' (Zav lk) pt<|V' (Zah lk lk) pt<|sn'<|?_
  refine Zaw lk (fun hc11=>?_) (fun hc11=>?_)
  ·have hK:ZdW l[i5]=1:=by unfold ZdW;simp_all
   refine wr'<|mv' lki pt<|sn'<|Zab<|Zaq<|Zak<|Zak<|Zaq<|Zak<|Zag rz<|rT'<|?_
   refine ivx ?_;rw [hE,hy2,if_pos (by rw [hK];simp),hK]
  have hK:ZdW l[i5]=0:=by unfold ZdW;simp_all
  rw [hK,if_neg (by simp)] at hy2
  refine Zaf<|ZaF<|Zai<|Zar<|mv' lk pt<|?_
  refine V' (ZaE lk lki (by omega) (by omega)) pt ?_
  refine mv' lk pt<|Zas<|ZaI<|?_
  refine lT' (i5+1) (by (try dsimp only);exact ⟨by omega,hy2⟩)
 rw [List.drop_of_length_le (by omega)] at hy2
 refine Za0<|ZaO<|ZaO<|Zbp<|Zai<|wr'<|mv' lki pt<|sn'<|Zab<|Zag rz<|rT'<|?_
 refine ivx ?_;rw [hE,hy2];rfl
end Go.Proofs.YtgjchdhdopgkkaaGreatDoor
end
section
namespace Go.Proofs.YtgjchdhdopgkkaaGreatDoor
open Go.Ab
abbrev PS:=Src×Bool
def ZbP (x:Era):Bool:=x.2.2.2.2.1
def Zql:List Zon→Era→List Zon
 | [],_=>[]
 | [z],x=>[(z.1,z.2++[x])]
 | z::y::l,x=>z::Zql (y::l) x
theorem Zc3 (l:List Zon) (z:Zon) (x:Era):Zql (l++[z]) x=l++[(z.1,z.2++[x])]:=by
 induction l with
 | nil=>rfl
 | cons a l ih =>
  cases l with
  | nil=>rfl
  | cons b l=>exact congrArg (a :: ·) ih
def ZeW:ByteArray:=bA [82,117,108,101]
def Zfp:ByteArray:=bA [90,111,110,101]
def ZgP:ByteArray:=bA [76,105,110,107]
def ZbY (p:Src) (x:Era):PS:=((p.1,Zql p.2.1 x,p.2.2),!ZbP x)
def ZcU (p:PS):RM PS :=
 if p.2=true then ZaN rEra fun x=>retR (ZbY p.1 x)
 else ZaN Zbf fun w =>
  if w=ZeW then ZaN ZgK fun r=>retR ((p.1.1++[r],p.1.2.1,p.1.2.2),false)
  else if w=Zfp then ZaN ZcI fun n=>ZaN rEra fun x=>retR (ZbY (p.1.1,p.1.2.1++[(n,[])],p.1.2.2) x)
  else if w=ZgP then ZaN ZcI fun a=>ZaN ZcI fun b=>retR ((p.1.1,p.1.2.1,p.1.2.2++[(a,b)]),false)
  else Zbs none
def Zfc (p:PS):TS→PS×TS :=
 if p.2=true then Zcn tEra fun x=>ret2 (ZbY p.1 x)
 else Zcn Za1 fun w =>
  if w=ZeW then Zcn ZkN fun r=>ret2 ((p.1.1++[r],p.1.2.1,p.1.2.2),false)
  else if w=Zfp then Zcn Zft fun n=>Zcn tEra fun x=>ret2 (ZbY (p.1.1,p.1.2.1++[(n,[])],p.1.2.2) x)
  else if w=ZgP then Zcn Zft fun a=>Zcn Zft fun b=>ret2 ((p.1.1,p.1.2.1,p.1.2.2++[(a,b)]),false)
  else fun t=>(p,bad t)
theorem Zqk (p:PS):Agr (Zfc p) (ZcU p):=by
 unfold Zfc ZcU
 split
 ·exact agr_era.bind fun x=>Agr.ret _
 ·refine agr_next.bind fun w=>?_
  split
  ·exact agr_rule.bind fun r=>Agr.ret _
  ·split
   ·exact agr_name.bind fun n=>agr_era.bind fun x=>Agr.ret _
   ·split
    ·exact agr_name.bind fun a=>agr_name.bind fun b=>Agr.ret _
    ·exact Agr.lift (fun t h=>rfl) (fun l=>rfl)
def Zch (p:PS) (x:Ln):Option PS:=if x.2.1≠p.2 then none else match ZcU p x.2.2 with
 | some (q,[])=>some q
 | _=>none
def badT (p:PS) (x:Ln):Prop:=(Zfc p (x.2.2,false)).2.2=true∨(Zfc p (x.2.2,false)).2.1≠[]∨x.2.1≠p.2
theorem ZmV {p:PS}{x:Ln}(h:badT p x):Zch p x=none:=by
 unfold Zch
 by_cases hi:x.2.1=p.2
 ·rw [if_neg (by simp [hi])]
  have hA:=(Zqk p x.2.2).2
  unfold badT at h
  revert hA
  cases hb:ZcU p x.2.2 with
  | none=>intro;rfl
  | some q =>
   obtain ⟨q,l⟩:=q
   intro hA
   simp only at hA
   rw [hA] at h
   cases l with
   | nil=>simp [hi] at h
   | cons c l=>rfl
 ·rw [if_pos hi]
theorem ZpS {p:PS}{x:Ln}(h:¬badT p x):Zch p x=some (Zfc p (x.2.2,false)).1:=by
 unfold Zch
 unfold badT at h
 simp only [not_or,Decidable.not_not] at h
 obtain ⟨h1,h2,h3⟩:=h
 rw [if_neg (by simp [h3])]
 have hA:=(Zqk p x.2.2).2
 revert hA
 cases hb:ZcU p x.2.2 with
 | none=>intro hA;exact absurd hA h1
 | some q =>
  obtain ⟨q,l⟩:=q
  intro hA
  simp only at hA
  rw [hA] at h2 ⊢
  simp only at h2
  subst h2
  rfl
def runR:PS→List Ln→PS ⊕ Int
 | p,[]=>.inl p
 | p,x::l=>match Zch p x with
  | none=>.inr x.1
  | some q=>runR q l
def srcZ:Src:=([],[],[])
def endP (p:PS):Src×Int×Int:=if p.2=true then (srcZ,0,1) else if ZbT p.1≠0 then (srcZ,0,ZbT p.1) else (p.1,0,0)
def outP (l:List Ln):Src×Int×Int:=match runR (srcZ,false) l with
 | .inr n=>(srcZ,n,1)
 | .inl p=>endP p
def ZaV (s:ByteArray):Src×Int×Int:=if (ZbB s).2.2≠0 then (srcZ,(ZbB s).2.1,(ZbB s).2.2) else outP (ZbB s).1
theorem Zsy {l:List Ln}{k:Nat}(h:k<l.length) (p:PS):runR p (l.drop k)=match Zch p l[k] with
  | none=>.inr l[k].1
  | some q=>runR q (l.drop (k+1)):=by
 rw [List.drop_eq_getElem_cons h,runR]
end Go.Proofs.YtgjchdhdopgkkaaGreatDoor
end
section
namespace Go.Proofs.YtgjchdhdopgkkaaGreatDoor
open Go.Ab Go.RowKit Civ
attribute [local simp] Zbd
section
theorem Zc6 {a0 a1 c0:AV}{l:List AV}:setCells (a0::a1::l) 1 [c0]=a0::c0::l:=rfl
theorem Zrc {a0 c0:AV}{l:List AV}:setCells (a0::l) 0 [c0]=c0::l:=rfl
end
def c49:AC:=(Sr [Ms 2] (.seq (Sr [Mv 4 0,Nk 5 4,Fa 6 1 5,Ld 7 6,Mv 8 7,Of 9 8 (mt 0),Of 10 8 (.nck (.tmp 9)),Of 11 8 (.fa 0 (.tmp 10)),Of 12 8 (.load false 1 (.tmp 11)),Of 13 8 (.len false (.tmp 12)),Of 14 8 (.bin .eql (.tmp 13) (Ci 0)),Oo 15 (.pick (.tmp 8) (.const (.bool true)) (.tmp 14))] (Cd 15 (Sr [Mv 16 0,Nk 17 16,Fa 18 1 17,⟨none,none,(.store 1 (.tmp 18) (.const (.bool true)))⟩] (Sr [Ms 2] .ret)) .skip)) (Sr [Mv 19 0,Nk 20 19,Fa 21 0 20,Ld 22 21,Oo 23 (.ia 1 (.tmp 22) (Ci 0)),Ld 24 23,Mv 3 24] (Sr [Mv 25 0,Mv 26 0,Nk 27 26,Fa 28 0 27,Ld 29 28,Oo 30 (.slc 1 (.tmp 29) (some (Ci 1)) none none),Nk 31 25,Fa 32 0 31,Sc 32 30] (Sr [Mv 33 3,Mv 2 33] .ret)))))
theorem k49:ZaH Tryz.prog 49=some ⟨c49,[(.tmp 2)],34⟩:=by kernel_rfl
def c88:AC:=(Sr [Mc 8 0] (.seq (Sr [Mv 11 1,Oo 12 (.len true (.tmp 11)),Mv 13 2,Mv 14 3,Cl 15 68 [(.tmp 12),(.tmp 13),(.tmp 14)],Oo 16 (.un .not (.tmp 15))] (Cd 16 (Sr [Mv 17 0,Nk 18 17,Fa 19 1 18,⟨none,none,(.store 1 (.tmp 19) (.const (.bool true)))⟩] (Sr [Mc 8 0] .ret)) .skip)) (Sr [Mc 9 0] (.seq (Sr [Mc 10 0] (.block 0 (.loop (.seq (Sr [Mv 20 10,Mv 21 1,Oo 22 (.len true (.tmp 21)),Bn 23 .lss 20 22] (Cd 23 .skip (.exit 0))) (.seq (.block 1 (.seq (Sr [Mv 26 1,Mv 27 10,Oo 28 (.ix (.tmp 26) (.tmp 27)),Cl 29 71 [(.tmp 28)],Oo 30 (.un .not (.tmp 29))] (Cd 30 (Sr [Mv 31 0,Nk 32 31,Fa 33 1 32,⟨none,none,(.store 1 (.tmp 33) (.const (.bool true)))⟩] (Sr [Mc 8 0] .ret)) .skip)) (.reg [Mv 34 9,Oo 35 (.bin .mul (Ci 10) (.tmp 34)),Mv 36 1,Mv 37 10,Oo 38 (.ix (.tmp 36) (.tmp 37)),Oo 39 (.cvi .i64 (.tmp 38)),Bn 40 .add 35 39,Bc 41 .sub 40 48,Mv 9 41]))) (.reg [Mv 24 10,Bc 25 .add 24 1,Mv 10 25])))))) (Sr [Mv 42 9,Mv 8 42] .ret)))))
theorem k88:ZaH Tryz.prog 88=some ⟨c88,[(.tmp 8)],43⟩:=by kernel_rfl
def c52:AC:=(Sr [Ms 2] (Sr [Mv 4 0,Cl 5 49 [(.tmp 4)],Mv 3 5] (.seq (Sr [Mv 6 3,Cl 7 25 [(.tmp 6)],Oo 8 (.un .not (.tmp 7))] (Cd 8 (.reg [Mv 9 0,Nk 10 9,Fa 11 1 10,⟨none,none,(.store 1 (.tmp 11) (.const (.bool true)))⟩]) .skip)) (Sr [Mv 12 3,Mv 2 12] .ret))))
theorem k52:ZaH Tryz.prog 52=some ⟨c52,[(.tmp 2)],13⟩:=by kernel_rfl
def c129:AC:=(Sr [Mc 4 0] (.seq (Sr [Mc 5 0] (.block 0 (.loop (.seq (Sr [Mv 6 5,Bc 7 .add 6 3,Mv 8 0,Oo 9 (.len true (.tmp 8)),Bn 10 .leq 7 9,Mv 11 10,Ot 12 11 (mt 1),Ot 13 11 (.len true (.tmp 12)),Ot 14 11 (.bin .eql (.tmp 13) (Ci 3)),Oo 15 (.pick (.tmp 11) (.tmp 14) (.const (.bool false)))] (Cd 15 .skip (.exit 0))) (.seq (.block 1 (Sr [Mv 18 0,Mv 19 5,Mv 20 5,Bc 21 .add 20 3,Oo 22 (.sls (.tmp 18) (some (.tmp 19)) (some (.tmp 21))),Mv 23 1,Bn 24 .eql 22 23] (Cd 24 (Sr [Mv 25 5,Bc 26 .quo 25 3,Mv 4 26] .ret) .skip))) (.reg [Mv 16 5,Bc 17 .add 16 3,Mv 5 17])))))) (Sr [Oo 4 (.mv (.const (.int .i64 (-1))))] .ret)))
theorem k129:ZaH Tryz.prog 129=some ⟨c129,[(.tmp 4)],27⟩:=by kernel_rfl
def c89:AC:=(Sr [Mc 2 0] (Sr [Mv 4 0,Cl 5 49 [(.tmp 4)],Oo 6 (.call (.func 129) [(.const (.string ⟨#[74,97,110,70,101,98,77,97,114,65,112,114,77,97,121,74,117,110,74,117,108,65,117,103,83,101,112,79,99,116,78,111,118,68,101,99]⟩)),(.tmp 5)]),Mv 3 6] (.seq (Sr [Mv 7 3,Bc 8 .lss 7 0] (Cd 8 (.reg [Mv 9 0,Nk 10 9,Fa 11 1 10,⟨none,none,(.store 1 (.tmp 11) (.const (.bool true)))⟩]) .skip)) (Sr [Mv 12 3,Bc 13 .add 12 1,Mv 2 13] .ret))))
theorem k89:ZaH Tryz.prog 89=some ⟨c89,[(.tmp 2)],14⟩:=by kernel_rfl
def c130:AC:=(Sr [Mc 4 0] (Sr [Mv 6 1,Oo 7 (.call (.func 129) [(.const (.string ⟨#[83,117,110,77,111,110,84,117,101,87,101,100,84,104,117,70,114,105,83,97,116]⟩)),(.tmp 6)]),Mv 5 7] (.seq (Sr [Mv 8 5,Bc 9 .lss 8 0] (Cd 9 (Sr [Mv 10 0,Nk 11 10,Fa 12 1 11,⟨none,none,(.store 1 (.tmp 12) (.const (.bool true)))⟩] (Sr [Mc 4 0] .ret)) .skip)) (Sr [Mv 13 5,Mv 4 13] .ret))))
theorem k130:ZaH Tryz.prog 130=some ⟨c130,[(.tmp 4)],14⟩:=by kernel_rfl
def c128:AC:=(Sr [Mc 4 0] (Sr [Mv 6 0,Mv 7 1,Cl 8 88 [(.tmp 6),(.tmp 7),(Ci 2),(Ci 2)],Mv 5 8] (.seq (Sr [Mv 9 5,Bc 10 .gtr 9 59] (Cd 10 (.reg [Mv 11 0,Nk 12 11,Fa 13 1 12,⟨none,none,(.store 1 (.tmp 13) (.const (.bool true)))⟩]) .skip)) (Sr [Mv 14 5,Mv 4 14] .ret))))
theorem k128:ZaH Tryz.prog 128=some ⟨c128,[(.tmp 4)],15⟩:=by kernel_rfl
abbrev takE (t:TS):Ent:=.mk 0 90 2 [.sl t.1.length 1 false (rows strC t.1),bv t.2]
theorem ZaU {l:List ByteArray}{b:Bool}{n:Nat}:(Ent.mk 0 90 2 [.sl l.length 1 false (rows strC l),.v (.bool b)]).lt n=true:=by simp [Ent.lt,AV.lt,AV.ltL,Zbd]
theorem tnext_b {l:List ByteArray}{b:Bool}{id:Nat}{h:AH}(h1:h[id]?=some (takE (l,b))):ACalls Tryz.prog 49 [.ptr id 0 0] h fun x h'=>x=.ret (sv (Za1 (l,b)).1)∧h'=h.set id (takE (Za1 (l,b)).2):=by
 have hid:id<h.length:=(List.getElem?_eq_some_iff.1 h1).1
 refine tJ' k49 fun N hn hlt hlA hbd=>?_
 simp only [tb'] at hbd ⊢
 refine ZbG (h1:=h.set id (.mk 0 90 2 [.sl l.length 1 false (rows strC l),bv b])++[]) (by rw [ZbU h1]) ?_
 refine wr'<|mv' lks pt<|sn'<|Zam<|wr'<|mv' lk pt<|V' (ZaD lk) pt<|V' (Zaa lk) pt<|V' (Zac lk (ZaC hid) gt1) pt<|mv' lk pt<|?_
 refine ZaL (t:=8) gt pt pt (fun hg8=>?_) (fun hg8=>?_)
 ·have hb:b=true:=hg8
  have hT:Za1 (l,b)=(⟨#[]⟩,l,true):=if_pos (.inl hb)
  refine s_no gt pt<|s_no gt pt<|s_no gt pt<|s_no gt pt<|s_no gt pt<|s_no gt pt<|V' (Zaj lk lkb) pt<|sn'<|ZaG lk<|wr'<|mv' lk pt<|V' (ZaD lk) pt<|?_
  refine V' (Zaa lk) pt<|E' (Zal lk (cvl lkb rfl) (ZaC hid) rfl (nb' rfl) rfl Zc6 (Zax hid)) ptn<|sn'<|wr'<|mv' lks pt<|sn'<|Zab<|Zak<|Zag rz<|?_
  exact ⟨_,_,rfl,Zad hn,ZaR hlt ZaU,rfl,by rw [hT],by rw [hT]⟩
 have hb:b=false:=by simpa using hg8
 refine s_do gt<|mv' lk pt<|s_do gt<|V' (ZaD lk) pt<|s_do gt<|V' (Zaa lk) pt<|s_do gt<|V' (Zac lk (ZaC hid) gt0) pt<|s_do gt<|V' (ZaK lk) pt<|s_do gt<|V' (ZaX lk lki) pt<|V' (Zah lk lk) pt<|Zas<|?_
 refine Zai ?_
 refine cd' lk (fun hc1=>?_) (fun hc1=>?_)
 ·have hT:Za1 (l,b)=(⟨#[]⟩,l,true):=if_pos (.inr (List.eq_nil_of_length_eq_zero (show l.length=0 by have hc1':(l.length:Int)=0:=hc1;omega)))
  refine wr'<|mv' lk pt<|V' (ZaD lk) pt<|V' (Zaa lk) pt<|E' (Zal lk (cvl lkb rfl) (ZaC hid) rfl (nb' rfl) rfl Zc6 (Zax hid)) ptn<|sn'<|wr'<|mv' lks pt<|sn'<|Zab<|?_
  refine Zak<|Zag rz<|?_
  exact ⟨_,_,rfl,Zad hn,ZaR hlt ZaU,rfl,by rw [hT],by rw [hT]⟩
 have hlen:0<l.length:=by have hc1':¬(l.length:Int)=0:=hc1;omega
 have hne:l≠[]:=by intro e;rw [e] at hlen;cases hlen
 have hT:Za1 (l,b)=(l[0],l.drop 1,b):=by
  cases l with
  | nil=>exact absurd rfl hne
  | cons a l=>subst hb;rfl
 refine Zaf<|Zai<|wr'<|mv' lk pt<|V' (ZaD lk) pt<|V' (Zaa lk) pt<|V' (Zac lk (ZaC hid) gt0) pt<|?_
 refine V' (Zbg (k:=0) lk lki Za2 (nb' rfl) ro (by omega) ro rfl) pt ?_
 refine V' (ZaZ lk gt) pt<|mv' lk pt<|sn'<|wr'<|mv' lk pt<|mv' lk pt<|V' (ZaD lk) pt<|V' (Zaa lk) pt<|V' (Zac lk (ZaC hid) gt0) pt<|?_
 refine V' (v_lo (k:=1) lk lki Za2 ro (by omega) ro) pt ?_
 refine V' (ZaD lk) pt<|V' (Zaa lk) pt<|E' (Zal lk (cvl lk rfl) (ZaC hid) rfl (nb' rfl) rfl Zrc (Zax hid)) ptn<|sn'<|wr'<|mv' lk pt<|mv' lk pt<|sn'<|Zab<|Zag rz<|?_
 exact ⟨_,_,rfl,Zad hn,ZaR hlt ZaU,rfl,by rw [hT],by rw [hT]⟩
theorem ZnK {t:TS}{id:Nat}{h:AH}(h1:h[id]?=some (takE t)):ACalls Tryz.prog 49 [.ptr id 0 0] h fun x h'=>x=.ret (sv (Za1 t).1)∧h'=h.set id (takE (Za1 t).2):=tnext_b h1
theorem ZiT {n:Int}(h:digB n=true):48≤n∧n≤57:=by unfold digB at h;simpa using h
theorem Zek {s:ByteArray}{a b:Int}{t:TS}{id:Nat}{h:AH}(hb4:b≤4) (h1:h[id]?=some (takE t)):ACalls Tryz.prog 88 [.ptr id 0 0,sv s,iv a,iv b] h fun x h'=>x=.ret (iv (tNum s a b t).1)∧h'=h.set id (takE (tNum s a b t).2):=by
 obtain ⟨l,bd⟩:=t
 have hid:id<h.length:=(List.getElem?_eq_some_iff.1 h1).1
 refine tJ' k88 fun N hn hlt hlA hbd=>?_
 simp only [tb'] at hbd ⊢
 refine ZbG (h1:=h.set id (takE (l,bd))++[]) (by rw [ZbU h1]) ?_
 refine wr'<|mv' lki pt<|sn'<|Zam<|wr'<|mv' lk pt<|V' (Zbi lk) pt<|mv' lk pt<|mv' lk pt<|Zae mp (Zbe) pt<|V' (Zav lk) pt<|?_
 refine sn' ?_
 refine Zaw lk (fun hc1=>?_) (fun hc1=>?_)
 ·have hw:¬wi s.size a b=true:=by simpa using hc1
  have hT:tNum s a b (l,bd)=(0,l,true):=Zd9 (if_neg (fun e=>hw e.1))
  refine wr'<|mv' lk pt<|V' (ZaD lk) pt<|V' (Zaa lk) pt<|E' (Zal lk (cvl lkb rfl) (ZaC hid) rfl (nb' rfl) rfl Zc6 (Zax hid)) ptn<|sn'<|wr'<|mv' lki pt<|sn'<|Zab<|?_
  refine Zak<|Zag rz<|?_
  exact ⟨_,_,rfl,Zad hn,ZaR hlt ZaU,rfl,by rw [hT],by rw [hT]⟩
 have hw:wi s.size a b=true:=by simpa using hc1
 have hz:s.size≤4:=by unfold wi at hw;simp at hw;omega
 refine Zaf<|Zai<|wr'<|mv' lki pt<|sn'<|Zam<|wr'<|mv' lki pt<|sn'<|Zao<|?_
 refine w_lp (ι:=Nat×Int) (fun (x_:Nat×Int)=>match x_ with | ⟨k,n⟩=>[(9,iv n),(10,iv (k:Int)),(8,.any)]++rn' 20 22) (fun (x_:Nat×Int)=>match x_ with | ⟨k,n⟩=>[]) (fun (x_:Nat×Int)=>match x_ with | ⟨k,n⟩=>k≤s.size∧0≤n∧n<10 ^ k∧decL 0 (aB s)=decL n ((aB s).drop k) ∧ ∀ j (hj:j<s.size),j<k→digB s[j].toNat=true) (fun (x_:Nat×Int)=>match x_ with | ⟨k,n⟩=>s.size-k) (⟨0,0⟩) (by exact ⟨by omega,by omega,by decide,rfl,fun j hj h0=>absurd h0 (by omega)⟩) ?_
 rintro ⟨k,n⟩ hi1
 try simp only [sm',Nat.reduceAdd]
 obtain ⟨hk1,hk2,hk3,hk4,hk5⟩:=hi1
 refine Zam<|wr'<|mv' lk pt<|mv' lk pt<|V' (Zbi lk) pt<|V' (Zbu lk lk) pt<|sn'<|?_
 refine cd' lk (fun hc2=>?_) (fun hc2=>?_)
 ·have hk:k<s.size:=by omega
  have hbb:=ZdN s k
  have hbk:Zaz s k=s[k]:=Zcl hk
  have hp:(10:Int) ^ k≤1000:=by
   have:k=0∨k=1∨k=2∨k=3:=by omega
   rcases this with rfl | rfl | rfl | rfl <;> decide
  refine Zaf<|Zai<|Zam<|Zao<|Zam<|wr'<|mv' lk pt<|mv' lk pt<|?_
  refine V' (v_ix lk lk (by omega) (by omega)) pt ?_
  refine Zae mp (ZeH hbb.1 hbb.2) pt<|V' (Zav lk) pt<|sn'<|?_
  refine Zaw lk (fun hc3=>?_) (fun hc3=>?_)
  ·have hd:digB s[k].toNat=false:=by rw [←hbk];simpa using hc3
   have hT:tNum s a b (l,bd)=(0,l,true):=Zd9 (if_neg (fun e=>by have:=Zi7 hk hd;rw [e.2] at this;cases this))
   refine wr'<|mv' lk pt<|V' (ZaD lk) pt<|V' (Zaa lk) pt<|E' (Zal lk (cvl lkb rfl) (ZaC hid) rfl (nb' rfl) rfl Zc6 (Zax hid)) ptn<|sn'<|wr'<|mv' lki pt<|sn'<|Zab<|?_
   refine Zak<|Zaq<|Zak<|Zak<|Zaq<|Zak<|Zag rz<|?_
   exact ⟨_,_,rfl,Zad hn,ZaR hlt ZaU,rfl,by rw [hT],by rw [hT]⟩
  have hd:digB (Zaz s k).toNat=true:=by simpa using hc3
  have hdb:48≤((Zaz s (k:Int).toNat).toNat:Int)∧((Zaz s (k:Int).toNat).toNat:Int)≤57:=ZiT hd
  have hdb2:=ZiT hd
  refine Zaf<|Zai<|Zar<|mv' lk pt<|?_
  refine V' (Zge lki lk (by omega) (by omega)) pt ?_
  refine mv' lk pt<|mv' lk pt<|?_
  refine V' (v_ix lk lk (by omega) (by omega)) pt ?_
  refine V' (Zif lk (by omega) (by omega)) pt ?_
  refine V' (ZaE lk lk (by omega) (by omega)) pt ?_
  refine V' (ZcC lk lki (by omega) (by omega)) pt ?_
  refine mv' lk pt<|Zas<|ZaF<|Zai<|Zar<|mv' lk pt<|?_
  refine V' (ZaE lk lki (by omega) (by omega)) pt ?_
  refine mv' lk pt<|Zas<|ZaI<|?_
  refine lT' (⟨k+1,10*n+(Zaz s k).toNat-48⟩) (by (try dsimp only);refine ⟨by omega,by omega,by rw [Int.pow_succ];omega,by rw [hk4,ZdO hk,decL],fun j hj h0=>?_⟩;rcases Nat.lt_or_ge j k with e | e;exact hk5 j hj e;obtain rfl:j=k:=(by omega);rw [←hbk];exact hd)
 have hT:tNum s a b (l,bd)=(n,l,bd):=Zd8 (by
  unfold numV
  rw [if_pos ⟨hw,Zg2 fun j hj=>hk5 j hj (by omega)⟩,hk4,Zkk (by omega)];rfl)
 refine Za0<|ZaO<|ZaO<|Zbp<|Zai<|wr'<|mv' lk pt<|mv' lk pt<|sn'<|Zab<|Zag rz<|?_
 exact ⟨_,_,rfl,Zad hn,ZaR hlt ZaU,rfl,by rw [hT],by rw [hT]⟩
end Go.Proofs.YtgjchdhdopgkkaaGreatDoor
end
