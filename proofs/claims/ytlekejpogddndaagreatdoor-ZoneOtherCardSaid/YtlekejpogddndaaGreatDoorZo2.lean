/-
  Part 2 of the proof: own lemmas and contracts on plain data. No condition beyond those that each lemma states.
-/
import Derived.Test.YtlekejpogddndaaGreatDoorZo1
import Derived.RangeFuncLeaves
import Derived.Shelf.SlSortCmp.WholeK
import Derived.WalkKit
import Derived.Lib.ReplaceLaws
import Derived.Sort.OwnSorted
import Derived.Lib.RowBridge
set_option linter.all false
set_option maxRecDepth 1000000
set_option maxHeartbeats 4000000
section
namespace Go.Proofs.YtlekejpogddndaaGreatDoor
open Go.Ab Civ
theorem ZdT {y m d:Int}{h:AH}(y0:1≤y) (y1:y≤20000) (m0:1≤m) (m1:m≤12) (d0 : -1000≤d) (d1:d≤1000):Ac 149 [.agg [iv y,iv m,iv d]] h (iv (num y m d)):=by
 refine tI' k149 fun N hn hlt hlA hbd=>?_
 simp only [tb'] at hbd ⊢
 refine wr'<|E' (Zbj (cvl lk rfl) rfl (hl0 hn) ha0) pt<|mv' lki pt<|sn'<|Zam<|ZcE<|D' (Zac lk) pt<|D' (Zab lk (hga hn rfl) gt0) pt<|D' (Zac lk) pt<|D' (Zab lk (hga hn rfl) gt1) pt<|?_
 refine D' (ZbD lk lki (by omega) (by omega)) pt ?_
 refine D' (v_mv lk) pt<|D' (v_mv lk) pt<|Zb6<|?_
 refine Zcy ?_
 refine sn'<|Zam<|wr'<|mv' lk pt<|V' (Zba lk lki) pt<|sn'<|?_
 refine cd' lk (fun hc1=>?_) (fun hc1=>?_)
 ·refine wr'<|mv' lk pt<|?_
  refine V' (ZbD lk lki (by omega) (by omega)) pt ?_
  refine mv' lk pt<|sn'<|Zas<|mv' lk pt<|?_
  refine V' (Zay lk lki (by omega) (by omega)) pt ?_
  refine mv' lk pt<|sn'<|wr'<|mv' lk pt<|?_
  refine V' (Zfx lk lki (by omega) (by omega) (by omega)) pt ?_
  refine V' (Ze9 lk lki (by omega) (by omega)) pt ?_
  refine mv' lk pt ?_
  refine V' (Zfw lk lki (by omega) (by omega)) pt ?_
  refine V' (Ze9 lk lki (by omega) (by omega)) pt ?_
  refine V' (Zay lk lk (by omega) (by omega)) pt ?_
  refine mv' lk pt ?_
  refine V' (Zfw lk lki (by omega) (by omega)) pt ?_
  refine V' (Zfx lk lki (by omega) (by omega) (by omega)) pt ?_
  refine V' (Zay lk lk (by omega) (by omega)) pt ?_
  refine mv' lk pt ?_
  refine V' (Zfw lk lki (by omega) (by omega)) pt ?_
  refine V' (Zfx lk lki (by omega) (by omega) (by omega)) pt ?_
  refine V' (ZbD lk lk (by omega) (by omega)) pt ?_
  refine mv' lk pt<|sn'<|wr'<|mv' lk pt<|mv' lk pt<|?_
  refine V' (Ze9 lki lk (by omega) (by omega)) pt ?_
  refine V' (Zay lk lki (by omega) (by omega)) pt ?_
  refine V' (Zfx lk lki (by omega) (by omega) (by omega)) pt ?_
  refine V' (Zay lk lk (by omega) (by omega)) pt ?_
  refine V' (Zac lk) pt<|V' (Zab lk (hga hn rfl) gt2) pt<|?_
  refine V' (Zay lk lk (by omega) (by omega)) pt ?_
  refine V' (ZbD lk lki (by omega) (by omega)) pt ?_
  refine V' (ZbD lk lki (by omega) (by omega)) pt ?_
  refine mv' lk pt<|sn'<|Zaa<|Zaf rz<|rT'<|?_
  refine ivx ?_;rw [←num_ref2 m0 (by omega)]
 refine Zae<|Zah<|wr'<|mv' lk pt<|?_
 refine V' (Zfx lk lki (by omega) (by omega) (by omega)) pt ?_
 refine V' (Ze9 lk lki (by omega) (by omega)) pt ?_
 refine mv' lk pt ?_
 refine V' (Zfw lk lki (by omega) (by omega)) pt ?_
 refine V' (Ze9 lk lki (by omega) (by omega)) pt ?_
 refine V' (Zay lk lk (by omega) (by omega)) pt ?_
 refine mv' lk pt ?_
 refine V' (Zfw lk lki (by omega) (by omega)) pt ?_
 refine V' (Zfx lk lki (by omega) (by omega) (by omega)) pt ?_
 refine V' (Zay lk lk (by omega) (by omega)) pt ?_
 refine mv' lk pt ?_
 refine V' (Zfw lk lki (by omega) (by omega)) pt ?_
 refine V' (Zfx lk lki (by omega) (by omega) (by omega)) pt ?_
 refine V' (ZbD lk lk (by omega) (by omega)) pt ?_
 refine mv' lk pt<|sn'<|wr'<|mv' lk pt<|mv' lk pt<|?_
 refine V' (Ze9 lki lk (by omega) (by omega)) pt ?_
 refine V' (Zay lk lki (by omega) (by omega)) pt ?_
 refine V' (Zfx lk lki (by omega) (by omega) (by omega)) pt ?_
 refine V' (Zay lk lk (by omega) (by omega)) pt ?_
 refine V' (Zac lk) pt<|V' (Zab lk (hga hn rfl) gt2) pt<|?_
 refine V' (Zay lk lk (by omega) (by omega)) pt ?_
 refine V' (ZbD lk lki (by omega) (by omega)) pt ?_
 refine V' (ZbD lk lki (by omega) (by omega)) pt ?_
 refine mv' lk pt<|sn'<|Zaa<|Zaf rz<|rT'<|?_
 refine ivx ?_;rw [←num_ref1 (by omega) m1]
theorem rfirst_a {h:AH}:Ac 74 [] h (iv (-719162)):=by
 refine tI' k74 fun N hn hlt hlA hbd=>?_
 simp only [tb'] at hbd ⊢
 refine wr'<|mv' lki pt<|sn'<|wr'<|V' (Zax (Zig (cvl lki rfl) rfl (cvl lki rfl) rfl (cvl lki rfl) rfl)) pt<|?_
 refine Zad mp (ZdT (by omega) (by omega) (by omega) (by omega) (by omega) (by omega)) pt ?_
 refine mv' lk pt<|sn'<|Zaa<|Zaf rz<|rT'<|?_
 exact ivx (by decide)
theorem rlast_a {h:AH}:Ac 75 [] h (iv 2932896):=by
 refine tI' k75 fun N hn hlt hlA hbd=>?_
 simp only [tb'] at hbd ⊢
 refine wr'<|mv' lki pt<|sn'<|wr'<|V' (Zax (Zio (cvl lki rfl) rfl (cvl lki rfl) rfl (cvl lki rfl) rfl)) pt<|?_
 refine Zad mp (ZdT (by omega) (by omega) (by omega) (by omega) (by omega) (by omega)) pt ?_
 refine mv' lk pt<|sn'<|Zaa<|Zaf rz<|rT'<|?_
 exact ivx (by decide)
theorem ZnV {n:Int}{h:AH}:Ac 229 [iv n] h (iv (wd n)):=by
 have hb1 : -6≤n.tmod 7∧n.tmod 7≤6:=by rw [ZnM];split <;> omega
 refine tI' k229 fun N hn hlt hlA hbd=>?_
 simp only [tb'] at hbd ⊢
 refine wr'<|mv' lki pt<|sn'<|wr'<|mv' lk pt<|?_
 refine V' (ZmK lk lki (by omega)) pt ?_
 refine mv' lk pt<|sn'<|Zam<|wr'<|mv' lk pt<|V' (Zba lk lki) pt<|sn'<|?_
 refine cd' lk (fun hc1=>?_) (fun hc1=>?_)
 ·refine Zas<|mv' lk pt<|?_
  refine V' (Zay lk lki (by omega) (by omega)) pt ?_
  refine mv' lk pt<|sn'<|wr'<|mv' lk pt<|?_
  refine V' (Zay lk lki (by omega) (by omega)) pt ?_
  refine V' (Zfw lk lki (by omega) (by omega)) pt ?_
  refine mv' lk pt<|sn'<|Zaa<|Zaf rz<|rT'<|?_
  refine ivx ?_;unfold wd;rw [ZnM] at *;split at * <;> omega
 refine Zae<|Zah<|wr'<|mv' lk pt<|?_
 refine V' (Zay lk lki (by omega) (by omega)) pt ?_
 refine V' (Zfw lk lki (by omega) (by omega)) pt ?_
 refine mv' lk pt<|sn'<|Zaa<|Zaf rz<|rT'<|?_
 refine ivx ?_;unfold wd;rw [ZnM] at *;split at * <;> omega
theorem ZpR {n:Int}{h:AH}(h0 : -719162≤n) (h1:n≤2932896):Ac 230 [iv n] h (dateA (ZbL n)):=by
 refine tI' k230 fun N hn hlt hlA hbd=>?_
 simp only [tb'] at hbd ⊢
 refine wr'<|E' (Za6 (hl0 hn) ha0) pt<|sn'<|wr'<|mv' lki pt<|mv' lki pt<|sn'<|Zam<|Zao<|?_
 refine w_lp (ι:=Int×Int) (fun (x_:Int×Int)=>match x_ with | ⟨y,z⟩=>[(3,iv y),(4,iv z),(5,.any)]++rn' 7 15) (fun (x_:Int×Int)=>match x_ with | ⟨y,z⟩=>[]) (fun (x_:Int×Int)=>match x_ with | ⟨y,z⟩=>1≤y∧y<z∧z≤10000∧num y 1 1≤n∧n<num z 1 1) (fun (x_:Int×Int)=>match x_ with | ⟨y,z⟩=>(z-y).toNat) (⟨1,10000⟩) (by exact ⟨by omega,by omega,by omega,by rw [Zp7,bef_1];omega,by rw [Zp7,ZcY];omega⟩) ?_
 rintro ⟨y,z⟩ hi1
 try simp only [sm',Nat.reduceAdd]
 obtain ⟨hy,hyz,hz,hn1,hn2⟩:=hi1
 refine Zam<|wr'<|mv' lk pt<|mv' lk pt<|?_
 refine V' (ZbD lk lk (by omega) (by omega)) pt ?_
 refine V' (ZbV lk lki) pt<|sn'<|?_
 refine cd' lk (fun hc1=>?_) (fun hc1=>?_)
 ·refine Zae<|Zah<|Zao<|wr'<|mv' lk pt<|mv' lk pt<|?_
  refine V' (Zay lk lk (by omega) (by omega)) pt ?_
  refine V' (Zfx lk lki (by omega) (by omega) (by omega)) pt ?_
  refine mv' lk pt<|sn'<|wr'<|mv' lk pt<|V' (Zax (Ziq (cvl lk rfl) rfl (cvl lki rfl) rfl (cvl lki rfl) rfl)) pt<|?_
  refine Zad mp (ZdT (by omega) (by omega) (by omega) (by omega) (by omega) (by omega)) pt ?_
  refine mv' lk pt<|V' (Zdq lk lk) pt<|sn'<|?_
  refine cd' lk (fun hc2=>?_) (fun hc2=>?_)
  ·refine Zas<|mv' lk pt<|mv' lk pt<|Zar<|Zaz<|ZaA<|?_
   refine lU' (⟨(y+z)/2,z⟩) (by (try dsimp only);exact ⟨by omega,by omega,by omega,by omega,by omega⟩) (by (try dsimp only);(try simp only [sm',Nat.reduceAdd]);exact ALe.same (by repeat (first | exact wk0 | refine wka ?_ | refine wk1 rfl ?_ | refine wk1 (by first | rfl | exact ivx (by omega) | (simp;done)) ?_)) rfl)
  refine Zas<|mv' lk pt<|mv' lk pt<|Zar<|Zaz<|ZaA<|?_
  refine lU' (⟨y,(y+z)/2⟩) (by (try dsimp only);exact ⟨by omega,by omega,by omega,by omega,by omega⟩) (by (try dsimp only);(try simp only [sm',Nat.reduceAdd]);exact ALe.same (by repeat (first | exact wk0 | refine wka ?_ | refine wk1 rfl ?_ | refine wk1 (by first | rfl | exact ivx (by omega) | (simp;done)) ?_)) rfl)
 obtain rfl:z=y+1:=by omega
 have hup:num y 12 1+mlen y 12=num (y+1) 1 1:=by rw [Zp7,ZeY];unfold num cum mlen;simp;omega
 refine ZaO<|ZaF<|ZaF<|Za7<|Zah<|wr'<|mv' lk pt<|V' (Zax (Zip (cvl lk rfl) rfl (cvl lki rfl) rfl (cvl lki rfl) rfl)) pt<|E' (Za6 (hl1 hn) ha1) pt<|E' (Zal lk (cvl lk rfl) (hga hn rfl) rfl (nb' rfl) rfl Zbr (hs1 hn)) ptn<|sn'<|Zam<|?_
 refine Zao ?_
 refine w_lp (ι:=Int) (fun (m:Int)=>[]++rn' 24 8) (fun (m:Int)=>[(1,.mk 0 59 3 [iv y,iv m,iv 1])]) (fun (m:Int)=>1≤m∧m≤12∧n<num y m 1+mlen y m) (fun (m:Int)=>m.toNat) (12) (by exact ⟨by omega,by omega,by rw [hup];exact hn2⟩) ?_
 rintro m hi2
 try simp only [sm',Nat.reduceAdd]
 obtain ⟨hm0,hm1,hn3⟩:=hi2
 refine Zam<|wr'<|V' (Zaq lk (hga hn rfl) Zbc rfl) pt<|?_
 refine Zad mp (ZdT (by omega) (by omega) (by omega) (by omega) (by omega) (by omega)) pt ?_
 refine mv' lk pt<|V' (ZbV lk lk) pt<|sn'<|?_
 refine cd' lk (fun hc3=>?_) (fun hc3=>?_)
 ·have hm2:2≤m:=by
   rcases Int.lt_or_le m 2 with c | c
   ·obtain rfl:m=1:=by omega
    omega
   exact c
  have hst:num y (m-1) 1+mlen y (m-1)=num y m 1:=by have:=ZfS (y:=y) (m:=m-1) (by omega) (by omega);rw [show m-1+1=m by omega] at this;unfold num;omega
  refine Zae<|Zah<|Zao<|Zas<|V' (Zac lk) pt<|V' (Zab lk (hga hn rfl) gt1) pt<|?_
  refine V' (ZbD lk lki (by omega) (by omega)) pt ?_
  refine V' (Zac lk) pt<|E' (Zal lk (cvl lk rfl) (hga hn rfl) rfl (nb' rfl) rfl Zo4 (hs1 hn)) ptn<|Zar<|Zaz<|ZaA<|?_
  refine lT' (m-1) (by (try dsimp only);exact ⟨by omega,by omega,by rw [hst];exact hc3⟩)
 have hd:Za9 y m (n-num y m 1+1)=true:=by
  have h1:=Zna (Zcg.2 ⟨hy,by omega,hm0,hm1,by omega,by have:=ZdJ y m;omega⟩:Za9 y m 1=true)
  rw [Zcg];omega
 have hdn:num y m (n-num y m 1+1)=n:=by unfold num;omega
 have hde:=ZqN hd hdn
 have hnb:=ZjN (y:=y) (m:=m) ⟨hy,by omega⟩ ⟨hm0,hm1⟩
 refine ZaO<|ZaF<|ZaF<|Za7<|Zah<|wr'<|mv' lk pt<|V' (Zaq lk (hga hn rfl) Zbc rfl) pt<|?_
 refine Zad mp (ZdT (by omega) (by omega) (by omega) (by omega) (by omega) (by omega)) pt ?_
 refine V' (ZbD lk lk (by omega) (by omega)) pt ?_
 refine V' (Zay lk lki (by omega) (by omega)) pt ?_
 refine V' (Zac lk) pt<|E' (Zal lk (cvl lk rfl) (hga hn rfl) rfl (nb' rfl) rfl Zo3 (hs1 hn)) ptn<|sn'<|wr'<|V' (Zaq lk (hga hn rfl) Zbc rfl) pt<|E' (Zal lk (cvl lk rfl) (hga hn rfl) rfl (nb' rfl) rfl Zbr (hs0 hn)) ptn<|sn'<|Zaa<|Zaf (rs1 (rr_c gt (hga hn rfl) (ld1 Zbc rfl)))<|rT'<|?_
 rw [hde]
def onSt (y m k n:Int):Int:=num y m 1-1+if k=2 then mlen y m else n
def onGo (k wk s:Int) (j:Nat):Int:=if k=3 then s+j else s-j
def Zgm (k wk s:Int):Int:=if k≤1 then 0 else if k=3 then (wk-wd s)%7 else (wd s-wk)%7
theorem Zhc (k wk s:Int):0≤Zgm k wk s∧Zgm k wk s≤6:=by
 unfold Zgm
 repeat' split
 all_goals omega
theorem onGo_go {k wk s:Int}{j:Nat}(hw:0≤wk∧wk≤6) (hj:(j:Int)≤Zgm k wk s) (h:j<7∧1<k∧wd (onGo k wk s j)≠wk):(j:Int)+1≤Zgm k wk s:=by
 have h1:=Zpb (n:=s) (k:=wk) (j:=j) (by omega)
 have h2:=Zpc (n:=s) (k:=wk) (j:=j) (by omega)
 unfold Zgm onGo at *
 rw [if_neg (by omega)] at hj ⊢
 split at hj <;> rename_i h3
 ·simp only [h3,if_true] at h ⊢
  have:=h1 hj hw
  omega
 simp only [h3,if_false] at h ⊢
 have:=h2 hj hw
 omega
theorem onGo_end {y m k wk n:Int}{j:Nat}(hk:1≤k∧k≤4) (hw:0≤wk∧wk≤6) (hj:(j:Int)≤Zgm k wk (onSt y m k n)) (h:¬(j<7∧1<k∧wd (onGo k wk (onSt y m k n) j)≠wk)):Zc1 y m k wk n=onGo k wk (onSt y m k n) j:=by
 have hb:=Zhc k wk (onSt y m k n)
 have h1:=Zpb (n:=onSt y m k n) (k:=wk) (j:=j) (by omega)
 have h2:=Zpc (n:=onSt y m k n) (k:=wk) (j:=j) (by omega)
 have e1:=Zn4 y m n
 have e2:=Zn4 y m (mlen y m)
 have h5:k=1∨k=2∨k=3∨k=4:=by omega
 rcases h5 with rfl | rfl | rfl | rfl
 ·simp only [Zgm,onGo,onSt,Zc1,fwd,bwd] at *
  simp at hj ⊢
  omega
 ·simp only [Zgm,onGo,onSt,Zc1,fwd,bwd] at *
  simp at hj h h1 h2 ⊢
  rw [show num y m (mlen y m)=num y m 1-1+mlen y m by omega]
  omega
 ·simp only [Zgm,onGo,onSt,Zc1,fwd,bwd] at *
  simp at hj h h1 h2 ⊢
  rw [show num y m n=num y m 1-1+n by omega]
  omega
 simp only [Zgm,onGo,onSt,Zc1,fwd,bwd] at *
 simp at hj h h1 h2 ⊢
 rw [show num y m n=num y m 1-1+n by omega]
 omega
theorem onSt_bd {y m k n:Int}(hy:1≤y∧y≤20000) (hm:1≤m∧m≤12) (hn:k≠2→1≤n∧n≤mlen y m) : -8000010≤onSt y m k n∧onSt y m k n≤8000040:=by
 have h1:=ZjN hy hm
 have h2:=ZdJ y m
 unfold onSt;split
 ·omega
 have:=hn (by assumption);omega
theorem onGo_bd {k wk s:Int}{j:Nat}(h:(j:Int)≤Zgm k wk s):s-6≤onGo k wk s j∧onGo k wk s j≤s+6:=by
 have:=Zhc k wk s
 unfold onGo;split <;> omega
theorem wiB {n a b:Int}:wi n a b=decide (a≤n∧n≤b):=by unfold wi;rw [Bool.decide_and]
theorem ron_a {y m k wk n:Int}{h:AH}:Ac 153 [iv y,iv m,.agg [iv k,iv wk,iv n]] h (.tup [.agg [iv (onV y m k wk n).1.1,iv (onV y m k wk n).1.2.1,iv (onV y m k wk n).1.2.2],iv (onV y m k wk n).2]):=by
 refine tI' k153 fun N hn hlt hlA hbd=>?_
 simp only [tb'] at hbd ⊢
 refine wr'<|E' (Zbj (cvl lk rfl) rfl (hl0 hn) ha0) pt<|E' (Za6 (hl1 hn) ha1) pt<|mv' lki pt<|sn'<|Zam<|?_
 refine Zfv (ι:=Unit) (fun (u_:Unit)=>[(18,bv (decide (¬(1≤y∧y≤9999)∨¬(1≤m∧m≤12))))]++rn' 11 7) (fun (u_:Unit)=>[]) (fun (u_:Unit)=>True) ?_ ?_
 ·try simp only [sm',Nat.reduceAdd]
  refine Zas<|mv' lk pt<|Zad mp (Zb2) pt<|V' (Zaw lk) pt<|mv' lk pt<|?_
  refine ZaE (t:=14) gt pt pt (fun hg14=>?_) (fun hg14=>?_)
  ·refine s_no gt pt<|s_no gt pt<|s_no gt pt<|V' (Zak lk lkb) pt<|Zar<|ZaA<|?_
   exact cT' (()) (by trivial) (by (try dsimp only);(try simp only [sm',Nat.reduceAdd]);exact ALe.same (by repeat (first | exact wk0 | refine wka ?_ | refine wk1 rfl ?_ | refine wk1 (by first | rfl | exact bvx (by first | (simp_all [wiB];done) | (rw [Bool.eq_iff_iff];simp_all [wiB];omega) | (rw [Bool.eq_iff_iff];simp_all [wiB];done))) ?_)) rfl)
  refine s_do gt<|mv' lk pt<|s_do gt<|Zad mp (Zb2) pt<|s_do gt<|V' (Zaw lk) pt<|V' (Zag lk lk) pt<|Zar<|ZaA<|?_
  exact cT' (()) (by trivial) (by (try dsimp only);(try simp only [sm',Nat.reduceAdd]);exact ALe.same (by repeat (first | exact wk0 | refine wka ?_ | refine wk1 rfl ?_ | refine wk1 (by first | rfl | exact bvx (by first | (simp_all [wiB];done) | (rw [Bool.eq_iff_iff];simp_all [wiB];omega) | (rw [Bool.eq_iff_iff];simp_all [wiB];done))) ?_)) rfl)
 rintro u_ hq2
 try simp only [sm',Nat.reduceAdd]
 refine cd' lk (fun hc1=>?_) (fun hc1=>?_)
 ·have hv:=ZiG (y:=y) (m:=m) (kind:=k) (wk:=wk) (n:=n) (k:=3) (by unfold ZbN;rw [if_pos hc1]) (by omega)
  refine wr'<|V' (Zax Zlv) pt<|E' (Zal lk (cvl lk rfl) (hga hn rfl) rfl (nb' rfl) rfl Zbr (hs1 hn)) ptn<|mv' lki pt<|sn'<|Zaa<|Zai<|Zaf (rsn (rm1 (rr_c gt (hga hn rfl) (ld1 Zbc rfl)) (rm1 (rr_t gt) rm0)))<|rT'<|?_
  rw [hv]
 have hym:(1≤y∧y≤9999)∧(1≤m∧m≤12):=by omega
 refine Zae<|Zah<|Zam<|wr'<|V' (Zac lk) pt<|V' (Zab lk (hga hn rfl) gt0) pt<|Zad mp (Zb2) pt<|V' (Zaw lk) pt<|sn'<|?_
 refine Zau lk (fun hc2=>?_) (fun hc2=>?_)
 ·have hk:¬(1≤k∧k≤4):=by have h9:=hc2;simp [wiB] at h9;omega
  have hv:=ZiG (y:=y) (m:=m) (kind:=k) (wk:=wk) (n:=n) (k:=7) (by unfold ZbN;rw [if_neg hc1,if_pos hk]) (by omega)
  refine wr'<|V' (Zax Zlu) pt<|E' (Zal lk (cvl lk rfl) (hga hn rfl) rfl (nb' rfl) rfl Zbr (hs1 hn)) ptn<|mv' lki pt<|sn'<|Zaa<|Zai<|Zaf (rsn (rm1 (rr_c gt (hga hn rfl) (ld1 Zbc rfl)) (rm1 (rr_t gt) rm0)))<|rT'<|?_
  rw [hv]
 have hk:1≤k∧k≤4:=by have h9:=hc2;simp [wiB] at h9;omega
 refine Zae<|Zah<|Zam<|?_
 refine Zfv (ι:=Unit) (fun (u_:Unit)=>[(38,bv (decide (¬(0≤wk∧wk≤6)∨k=1∧wk≠0)))]++rn' 25 13) (fun (u_:Unit)=>[]) (fun (u_:Unit)=>True) ?_ ?_
 ·try simp only [sm',Nat.reduceAdd]
  refine Zas<|V' (Zac lk) pt<|V' (Zab lk (hga hn rfl) gt1) pt<|Zad mp (Zb2) pt<|V' (Zaw lk) pt<|mv' lk pt<|?_
  refine ZaE (t:=29) gt pt pt (fun hg29=>?_) (fun hg29=>?_)
  ·refine s_no gt pt<|s_no gt pt<|s_no gt pt<|s_no gt pt<|s_nu gt pt<|s_nu gt pt<|s_nu gt pt<|s_no gt pt<|V' (Zak lk lkb) pt<|Zar<|ZaA<|?_
   exact cT' (()) (by trivial) (by (try dsimp only);(try simp only [sm',Nat.reduceAdd]);exact ALe.same (by repeat (first | exact wk0 | refine wka ?_ | refine wk1 rfl ?_ | refine wk1 (by first | rfl | exact bvx (by first | (simp_all [wiB];done) | (rw [Bool.eq_iff_iff];simp_all [wiB];omega) | (rw [Bool.eq_iff_iff];simp_all [wiB];done))) ?_)) rfl)
  refine s_do gt<|V' (Zac lk) pt<|s_do gt<|V' (Zab lk (hga hn rfl) gt0) pt<|s_do gt<|V' (ZaT lk lki) pt<|s_do gt<|mv' lk pt<|?_
  refine sp' (t:=33) gt pt pt (fun hg33=>?_) (fun hg33=>?_)
  ·refine s_do gt<|V' (Zac lk) pt<|s_do gt<|V' (Zab lk (hga hn rfl) gt1) pt<|s_do gt<|V' (Za1 lk lki) pt<|s_do gt<|V' (Zak lk lk) pt<|V' (Zag lk lk) pt<|Zar<|ZaA<|?_
   exact cT' (()) (by trivial) (by (try dsimp only);(try simp only [sm',Nat.reduceAdd]);exact ALe.same (by repeat (first | exact wk0 | refine wka ?_ | refine wk1 rfl ?_ | refine wk1 (by first | rfl | exact bvx (by first | (simp_all [wiB];done) | (rw [Bool.eq_iff_iff];simp_all [wiB];omega) | (rw [Bool.eq_iff_iff];simp_all [wiB];done))) ?_)) rfl)
  refine s_no gt pt<|s_no gt pt<|s_no gt pt<|s_do gt<|V' (Zag lk lkb) pt<|V' (Zag lk lk) pt<|Zar<|ZaA<|?_
  exact cT' (()) (by trivial) (by (try dsimp only);(try simp only [sm',Nat.reduceAdd]);exact ALe.same (by repeat (first | exact wk0 | refine wka ?_ | refine wk1 rfl ?_ | refine wk1 (by first | rfl | exact bvx (by first | (simp_all [wiB];done) | (rw [Bool.eq_iff_iff];simp_all [wiB];omega) | (rw [Bool.eq_iff_iff];simp_all [wiB];done))) ?_)) rfl)
 rintro u_ hq8
 try simp only [sm',Nat.reduceAdd]
 refine cd' lk (fun hc3=>?_) (fun hc3=>?_)
 ·have hv:=ZiG (y:=y) (m:=m) (kind:=k) (wk:=wk) (n:=n) (k:=3) (by unfold ZbN;rw [if_neg hc1,if_neg (by omega),if_pos hc3]) (by omega)
  refine wr'<|V' (Zax Zlt) pt<|E' (Zal lk (cvl lk rfl) (hga hn rfl) rfl (nb' rfl) rfl Zbr (hs1 hn)) ptn<|mv' lki pt<|sn'<|Zaa<|Zai<|Zaf (rsn (rm1 (rr_c gt (hga hn rfl) (ld1 Zbc rfl)) (rm1 (rr_t gt) rm0)))<|rT'<|?_
  rw [hv]
 refine Zae<|Zah<|wr'<|mv' lk pt<|mv' lk pt<|?_
 refine Zad mp (Zhz (by omega)) pt ?_
 refine mv' lk pt<|sn'<|Zam<|?_
 refine Zfv (ι:=Unit) (fun (u_:Unit)=>[(62,bv (decide (k=2∧n≠0∨k≠2∧¬(1≤n∧n≤mlen y m))))]++rn' 43 19) (fun (u_:Unit)=>[]) (fun (u_:Unit)=>True) ?_ ?_
 ·try simp only [sm',Nat.reduceAdd]
  refine Zas<|V' (Zac lk) pt<|V' (Zab lk (hga hn rfl) gt0) pt<|V' (ZaT lk lki) pt<|mv' lk pt<|?_
  refine sp' (t:=46) gt pt pt (fun hg46=>?_) (fun hg46=>?_)
  ·refine s_do gt<|V' (Zac lk) pt<|s_do gt<|V' (Zab lk (hga hn rfl) gt2) pt<|s_do gt<|V' (Za1 lk lki) pt<|V' (Zak lk lk) pt<|mv' lk pt<|?_
   refine sp' (t:=51) gt pt pt (fun hg51=>?_) (fun hg51=>?_)
   ·refine s_no gt pt<|s_no gt pt<|s_no gt pt<|s_no gt pt<|s_nu gt pt<|s_nu gt pt<|s_nu gt pt<|s_nu gt pt<|s_nu gt pt<|s_no gt pt<|V' (Zak lk lkb) pt<|Zar<|ZaA<|?_
    exact cT' (()) (by trivial) (by (try dsimp only);(try simp only [sm',Nat.reduceAdd]);exact ALe.same (by repeat (first | exact wk0 | refine wka ?_ | refine wk1 rfl ?_ | refine wk1 (by first | rfl | exact bvx (by first | (simp_all [wiB];done) | (rw [Bool.eq_iff_iff];simp_all [wiB];omega) | (rw [Bool.eq_iff_iff];simp_all [wiB];done))) ?_)) rfl)
   refine s_do gt<|V' (Zac lk) pt<|s_do gt<|V' (Zab lk (hga hn rfl) gt0) pt<|s_do gt<|V' (Za1 lk lki) pt<|s_do gt<|mv' lk pt<|?_
   refine sp' (t:=55) gt pt pt (fun hg55=>?_) (fun hg55=>?_)
   ·refine s_do gt<|V' (Zac lk) pt<|s_do gt<|V' (Zab lk (hga hn rfl) gt2) pt<|s_do gt<|mv' lk pt<|s_do gt<|Zad mp (Zb2) pt<|s_do gt<|V' (Zaw lk) pt<|s_do gt<|V' (Zak lk lk) pt<|V' (Zag lk lk) pt<|Zar<|?_
    refine ZaA ?_
    exact cT' (()) (by trivial) (by (try dsimp only);(try simp only [sm',Nat.reduceAdd]);exact ALe.same (by repeat (first | exact wk0 | refine wka ?_ | refine wk1 rfl ?_ | refine wk1 (by first | rfl | exact bvx (by first | (simp_all [wiB];done) | (rw [Bool.eq_iff_iff];simp_all [wiB];omega) | (rw [Bool.eq_iff_iff];simp_all [wiB];done))) ?_)) rfl)
   refine s_no gt pt<|s_no gt pt<|s_no gt pt<|s_no gt pt<|s_no gt pt<|s_do gt<|V' (Zag lk lkb) pt<|V' (Zag lk lk) pt<|Zar<|ZaA<|?_
   exact cT' (()) (by trivial) (by (try dsimp only);(try simp only [sm',Nat.reduceAdd]);exact ALe.same (by repeat (first | exact wk0 | refine wka ?_ | refine wk1 rfl ?_ | refine wk1 (by first | rfl | exact bvx (by first | (simp_all [wiB];done) | (rw [Bool.eq_iff_iff];simp_all [wiB];omega) | (rw [Bool.eq_iff_iff];simp_all [wiB];done))) ?_)) rfl)
  refine s_no gt pt<|s_no gt pt<|s_no gt pt<|V' (Zag lk lkb) pt<|mv' lk pt<|s_do gt<|V' (Zac lk) pt<|s_do gt<|V' (Zab lk (hga hn rfl) gt0) pt<|s_do gt<|V' (Za1 lk lki) pt<|s_do gt<|mv' lk pt<|?_
  refine sp' (t:=55) gt pt pt (fun hg55=>?_) (fun hg55=>?_)
  ·refine s_do gt<|V' (Zac lk) pt<|s_do gt<|V' (Zab lk (hga hn rfl) gt2) pt<|s_do gt<|mv' lk pt<|s_do gt<|Zad mp (Zb2) pt<|s_do gt<|V' (Zaw lk) pt<|s_do gt<|V' (Zak lk lk) pt<|V' (Zag lk lk) pt<|Zar<|?_
   refine ZaA ?_
   exact cT' (()) (by trivial) (by (try dsimp only);(try simp only [sm',Nat.reduceAdd]);exact ALe.same (by repeat (first | exact wk0 | refine wka ?_ | refine wk1 rfl ?_ | refine wk1 (by first | rfl | exact bvx (by first | (simp_all [wiB];done) | (rw [Bool.eq_iff_iff];simp_all [wiB];omega) | (rw [Bool.eq_iff_iff];simp_all [wiB];done))) ?_)) rfl)
  refine s_no gt pt<|s_no gt pt<|s_no gt pt<|s_no gt pt<|s_no gt pt<|s_do gt<|V' (Zag lk lkb) pt<|V' (Zag lk lk) pt<|Zar<|ZaA<|?_
  exact cT' (()) (by trivial) (by (try dsimp only);(try simp only [sm',Nat.reduceAdd]);exact ALe.same (by repeat (first | exact wk0 | refine wka ?_ | refine wk1 rfl ?_ | refine wk1 (by first | rfl | exact bvx (by first | (simp_all [wiB];done) | (rw [Bool.eq_iff_iff];simp_all [wiB];omega) | (rw [Bool.eq_iff_iff];simp_all [wiB];done))) ?_)) rfl)
 rintro u_ hq12
 try simp only [sm',Nat.reduceAdd]
 refine cd' lk (fun hc4=>?_) (fun hc4=>?_)
 ·have hv:=ZiG (y:=y) (m:=m) (kind:=k) (wk:=wk) (n:=n) (k:=3) (by unfold ZbN;rw [if_neg hc1,if_neg (by omega),if_neg hc3,if_pos hc4]) (by omega)
  refine wr'<|V' (Zax Zls) pt<|E' (Zal lk (cvl lk rfl) (hga hn rfl) rfl (nb' rfl) rfl Zbr (hs1 hn)) ptn<|mv' lki pt<|sn'<|Zaa<|Zai<|Zaf (rsn (rm1 (rr_c gt (hga hn rfl) (ld1 Zbc rfl)) (rm1 (rr_t gt) rm0)))<|rT'<|?_
  rw [hv]
 have he:ZbN y m k wk n=0:=by unfold ZbN;rw [if_neg hc1,if_neg (by omega),if_neg hc3,if_neg hc4]
 have hw:0≤wk∧wk≤6:=by omega
 have hsb:=onSt_bd (y:=y) (m:=m) (k:=k) (n:=n) ⟨hym.1.1,by omega⟩ hym.2 (by omega)
 have hnb:=ZjN (y:=y) (m:=m) ⟨hym.1.1,by omega⟩ hym.2
 have hml:=ZdJ y m
 have hn':0≤n∧n≤31:=by omega
 refine Zae<|Zah<|wr'<|mv' lk pt<|mv' lk pt<|V' (Zax (Zlr (cvl lk rfl) rfl (cvl lk rfl) rfl (cvl lki rfl) rfl)) pt<|?_
 refine Zad mp (ZdT (by omega) (by omega) (by omega) (by omega) (by omega) (by omega)) pt ?_
 refine V' (ZbD lk lki (by omega) (by omega)) pt ?_
 refine mv' lk pt<|sn'<|?_
 refine Zfv (ι:=Unit) (fun (u_:Unit)=>[(9,iv (onSt y m k n))]++rn' 69 17) (fun (u_:Unit)=>[]) (fun (u_:Unit)=>True) ?_ ?_
 ·try simp only [sm',Nat.reduceAdd]
  refine wr'<|V' (Zac lk) pt<|V' (Zab lk (hga hn rfl) gt0) pt<|sn'<|Zao<|wr'<|V' (ZaT lk lki) pt<|mv' lk pt<|sn'<|?_
  refine cd' lk (fun hc5=>?_) (fun hc5=>?_)
  ·refine Zas<|mv' lk pt<|V' (Zac lk) pt<|V' (Zab lk (hga hn rfl) gt2) pt<|?_
   refine V' (Zay lk lk (by omega) (by omega)) pt ?_
   refine mv' lk pt<|Zar<|Zaz<|ZaA<|?_
   exact cT' (()) (by trivial) (by (try dsimp only);(try simp only [sm',Nat.reduceAdd]);exact ALe.same (by repeat (first | exact wk0 | refine wka ?_ | refine wk1 rfl ?_ | refine wk1 (by first | rfl | exact ivx (by unfold onSt;simp_all) | exact ivx (by unfold onSt;rw [if_neg (by omega)])) ?_)) rfl)
  refine wr'<|V' (ZaT lk lki) pt<|mv' lk pt<|sn'<|?_
  refine cd' lk (fun hc6=>?_) (fun hc6=>?_)
  ·refine Zas<|mv' lk pt<|mv' lk pt<|?_
   refine V' (Zay lk lk (by omega) (by omega)) pt ?_
   refine mv' lk pt<|Zar<|Zaz<|ZaA<|?_
   exact cT' (()) (by trivial) (by (try dsimp only);(try simp only [sm',Nat.reduceAdd]);exact ALe.same (by repeat (first | exact wk0 | refine wka ?_ | refine wk1 rfl ?_ | refine wk1 (by first | rfl | exact ivx (by unfold onSt;simp_all) | exact ivx (by unfold onSt;rw [if_neg (by omega)])) ?_)) rfl)
  refine Zas<|mv' lk pt<|V' (Zac lk) pt<|V' (Zab lk (hga hn rfl) gt2) pt<|?_
  refine V' (Zay lk lk (by omega) (by omega)) pt ?_
  refine mv' lk pt<|Zar<|Zaz<|ZaA<|?_
  exact cT' (()) (by trivial) (by (try dsimp only);(try simp only [sm',Nat.reduceAdd]);exact ALe.same (by repeat (first | exact wk0 | refine wka ?_ | refine wk1 rfl ?_ | refine wk1 (by first | rfl | exact ivx (by unfold onSt;simp_all) | exact ivx (by unfold onSt;rw [if_neg (by omega)])) ?_)) rfl)
 rintro u_ hq19
 try simp only [sm',Nat.reduceAdd]
 refine Zam<|wr'<|mv' lki pt<|sn'<|Zao<|?_
 refine ZgO (ι:=Nat) (fun (j:Nat)=>[(9,iv (onGo k wk (onSt y m k n) j)),(10,iv (j:Int))]++rn' 86 23) (fun (j:Nat)=>[]) (fun (j:Nat)=>(j:Int)≤Zgm k wk (onSt y m k n)) (fun (j:Nat)=>7-j) (0) (by exact (Zhc _ _ _).1) (by try simp only [sm',Nat.reduceAdd];exact ALe.same (by repeat (first | exact wk0 | refine wka ?_ | refine wk1 rfl ?_ | refine wk1 (by first | rfl | exact ivx (by unfold onGo;simp)) ?_)) rfl) ?_
 rintro j hi1
 try simp only [sm',Nat.reduceAdd]
 have hgb:=onGo_bd hi1
 have hfb:=Zhc k wk (onSt y m k n)
 refine Zam ?_
 refine Zfv (ι:=Unit) (fun (u_:Unit)=>[(99,bv (decide (j<7∧1<k∧wd (onGo k wk (onSt y m k n) j)≠wk)))]++rn' 86 13) (fun (u_:Unit)=>[]) (fun (u_:Unit)=>True) ?_ ?_
 ·try simp only [sm',Nat.reduceAdd]
  refine ZcE<|D' (v_mv lk) pt<|D' (Zba lk lki) pt<|D' (v_mv lk) pt<|?_
  refine dq' (t:=88) gt pt pt (fun hg88=>?_) (fun hg88=>?_)
  ·refine d_do gt<|D' (Zac lk) pt<|d_do gt<|D' (Zab lk (hga hn rfl) gt0) pt<|d_do gt<|D' (ZbV lk lki) pt<|D' (Zak lk lk) pt<|D' (v_mv lk) pt<|?_
   refine dq' (t:=93) gt pt pt (fun hg93=>?_) (fun hg93=>?_)
   ·refine d_do gt<|D' (v_mv lk) pt<|d_do gt<|?_
    refine Zbf mp (fun hE hX=>ZnV) pt ?_
    refine d_do gt<|D' (Zac lk) pt<|d_do gt<|D' (Zab lk (hga hn rfl) gt1) pt<|d_do gt<|D' (Za1 lk lk) pt<|D' (Zak lk lk) pt<|Zb6<|?_
    refine Zcy ?_
    refine Zar<|ZaA<|?_
    exact cT' (()) (by trivial) (by (try dsimp only);(try simp only [sm',Nat.reduceAdd]);exact ALe.same (by repeat (first | exact wk0 | refine wka ?_ | refine wk1 rfl ?_ | refine wk1 (by first | rfl | exact bvx (by first | (simp_all [wiB];done) | (rw [Bool.eq_iff_iff];simp_all [wiB];omega) | (rw [Bool.eq_iff_iff];simp_all [wiB];done))) ?_)) rfl)
   refine d_no gt pt<|d_no gt pt<|d_no gt pt<|d_no gt pt<|d_no gt pt<|D' (Zag lk lkb) pt<|Zb6<|?_
   refine Zcy ?_
   refine Zar<|ZaA<|?_
   exact cT' (()) (by trivial) (by (try dsimp only);(try simp only [sm',Nat.reduceAdd]);exact ALe.same (by repeat (first | exact wk0 | refine wka ?_ | refine wk1 rfl ?_ | refine wk1 (by first | rfl | exact bvx (by first | (simp_all [wiB];done) | (rw [Bool.eq_iff_iff];simp_all [wiB];omega) | (rw [Bool.eq_iff_iff];simp_all [wiB];done))) ?_)) rfl)
  refine d_no gt pt<|d_no gt pt<|d_no gt pt<|D' (Zag lk lkb) pt<|D' (v_mv lk) pt<|d_no gt pt<|d_no gt pt<|d_no gt pt<|d_no gt pt<|d_no gt pt<|D' (Zag lk lkb) pt<|Zb6<|?_
  refine Zcy ?_
  refine Zar<|ZaA<|?_
  exact cT' (()) (by trivial) (by (try dsimp only);(try simp only [sm',Nat.reduceAdd]);exact ALe.same (by repeat (first | exact wk0 | refine wka ?_ | refine wk1 rfl ?_ | refine wk1 (by first | rfl | exact bvx (by first | (simp_all [wiB];done) | (rw [Bool.eq_iff_iff];simp_all [wiB];omega) | (rw [Bool.eq_iff_iff];simp_all [wiB];done))) ?_)) rfl)
 rintro u_ hq21
 try simp only [sm',Nat.reduceAdd]
 refine cd' lk (fun hc7=>?_) (fun hc7=>?_)
 ·have hgo:=onGo_go hw hi1 hc7
  refine Zae<|Zah<|Zam<|Zao<|wr'<|V' (Zac lk) pt<|V' (Zab lk (hga hn rfl) gt0) pt<|V' (ZaT lk lki) pt<|sn'<|?_
  refine cd' lk (fun hc8=>?_) (fun hc8=>?_)
  ·refine Zas<|mv' lk pt<|?_
   refine V' (Zay lk lki (by omega) (by omega)) pt ?_
   refine mv' lk pt<|Zar<|Zaz<|Zah<|Zas<|mv' lk pt<|?_
   refine V' (Zay lk lki (by omega) (by omega)) pt ?_
   refine mv' lk pt<|Zar<|ZaA<|?_
   refine lU' (j+1) (by (try dsimp only);omega) (by (try dsimp only);(try simp only [sm',Nat.reduceAdd]);exact ALe.same (by repeat (first | exact wk0 | refine wka ?_ | refine wk1 rfl ?_ | refine wk1 (by first | rfl | exact ivx (by unfold onGo;simp_all;omega) | exact ivx (by omega)) ?_)) rfl)
  refine Zas<|mv' lk pt<|?_
  refine V' (ZbD lk lki (by omega) (by omega)) pt ?_
  refine mv' lk pt<|Zar<|Zaz<|Zah<|Zas<|mv' lk pt<|?_
  refine V' (Zay lk lki (by omega) (by omega)) pt ?_
  refine mv' lk pt<|Zar<|ZaA<|?_
  refine lU' (j+1) (by (try dsimp only);omega) (by (try dsimp only);(try simp only [sm',Nat.reduceAdd]);exact ALe.same (by repeat (first | exact wk0 | refine wka ?_ | refine wk1 rfl ?_ | refine wk1 (by first | rfl | exact ivx (by unfold onGo;simp_all;omega) | exact ivx (by omega)) ?_)) rfl)
 have hd:=onGo_end hk hw hi1 hc7
 rw [←hd]
 refine ZaO<|ZaF<|ZaF<|Za7<|Zah<|Zam<|wr'<|mv' lk pt<|Zad mp0 (rfirst_a) pt<|Zad mp0 (rlast_a) pt<|Zad mp (Zb2) pt<|V' (Zaw lk) pt<|Zar<|?_
 refine Zah ?_
 refine Zau lk (fun hc9=>?_) (fun hc9=>?_)
 ·have hr:¬(-719162≤Zc1 y m k wk n∧Zc1 y m k wk n≤2932896):=by have h9:=hc9;simp [wiB] at h9;omega
  refine wr'<|V' (Zax Zkh) pt<|E' (Zal lk (cvl lk rfl) (hga hn rfl) rfl (nb' rfl) rfl Zbr (hs1 hn)) ptn<|mv' lki pt<|sn'<|Zaa<|Zai<|Zaf (rsn (rm1 (rr_c gt (hga hn rfl) (ld1 Zbc rfl)) (rm1 (rr_t gt) rm0)))<|rT'<|?_
  rw [ZhF he rfl,if_neg hr]
 have hr : -719162≤Zc1 y m k wk n∧Zc1 y m k wk n≤2932896:=by have h9:=hc9;simp [wiB] at h9;omega
 refine Zae<|Zah<|wr'<|mv' lk pt<|Zad mp (ZpR hr.1 hr.2) pt<|E' (Zal lk (cvl lk rfl) (hga hn rfl) rfl (nb' rfl) rfl Zbr (hs1 hn)) ptn<|mv' lki pt<|sn'<|Zaa<|Zaf (rsn (rm1 (rr_c gt (hga hn rfl) (ld1 Zbc rfl)) (rm1 (rr_t gt) rm0)))<|rT'<|?_
 rw [ZhF he rfl,if_pos hr]
end Go.Proofs.YtlekejpogddndaaGreatDoor
end
section
namespace Go.Proofs.YtlekejpogddndaaGreatDoor
open Go.Ab Go.RowKit
def c232:AC:=(Sr [Mb 6 false] (Sr [Mv 7 0,Mv 8 1,Bn 9 .geq 7 8,Mv 10 9,Ot 11 10 (mt 0),Ot 12 10 (mt 2),Ot 13 10 (.bin .leq (.tmp 11) (.tmp 12)),Oo 14 (.pick (.tmp 10) (.tmp 13) (.const (.bool false))),Mv 6 14] .ret))
theorem k232:ZaD Tryz.prog 232=some ⟨c232,[(.tmp 6)],15⟩:=by kernel_rfl
def c233:AC:=(Sr [Mb 4 false] (Sr [Mv 5 0,Cl 6 232 [(.tmp 5),(Ci 1),(Ci 3)],Mv 7 6,Ot 8 7 (mt 1),Ot 9 7 (mt 8),Of 10 9 (mt 0),Of 11 9 (.bin .neq (.tmp 10) (Ci 1)),Ot 12 7 (.pick (.tmp 9) (.const (.bool true)) (.tmp 11)),Oo 13 (.pick (.tmp 7) (.tmp 12) (.const (.bool false))),Mv 4 13] .ret))
theorem k233:ZaD Tryz.prog 233=some ⟨c233,[(.tmp 4)],14⟩:=by kernel_rfl
def c179:AC:=(Sr [Mb 2 false] (Sr [Mv 3 0,Cl 4 177 [(.tmp 3)],Mv 5 4,Of 6 5 (mt 0),Of 7 5 (.call (.func 180) [(.tmp 6)]),Oo 8 (.pick (.tmp 5) (.const (.bool true)) (.tmp 7)),Mv 9 8,Of 10 9 (mt 0),Of 11 9 (.call (.func 181) [(.const (.string ⟨#[95,45,47,43]⟩)),(.tmp 10)]),Of 12 9 (.bin .geq (.tmp 11) (Ci 0)),Oo 13 (.pick (.tmp 9) (.const (.bool true)) (.tmp 12)),Mv 2 13] .ret))
theorem k179:ZaD Tryz.prog 179=some ⟨c179,[(.tmp 2)],14⟩:=by kernel_rfl
def c112:AC:=(Sr [Mb 2 false] (Sr [Mv 3 0,Oo 4 (.bin .neq (.tmp 3) (.const (.string ⟨#[]⟩))),Mv 5 4,Ot 6 5 (mt 0),Ot 7 5 (.len true (.tmp 6)),Ot 8 5 (.bin .leq (.tmp 7) (Ci 24)),Oo 9 (.pick (.tmp 5) (.tmp 8) (.const (.bool false))),Mv 10 9,Ot 11 10 (mt 0),Ot 12 10 (.ix (.tmp 11) (Ci 0)),Ot 13 10 (.call (.func 177) [(.tmp 12)]),Oo 14 (.pick (.tmp 10) (.tmp 13) (.const (.bool false))),Mv 15 14,Ot 16 15 (mt 0),Ot 17 15 (.call (.func 178) [(.tmp 16),(.func 179)]),Oo 18 (.pick (.tmp 15) (.tmp 17) (.const (.bool false))),Mv 2 18] .ret))
theorem k112:ZaD Tryz.prog 112=some ⟨c112,[(.tmp 2)],19⟩:=by kernel_rfl
def c231:AC:=(Sr [Mb 2 false] (Sr [Mv 3 0,Oo 4 (.len true (.tmp 3)),Bc 5 .leq 4 24,Mv 6 5,Ot 7 6 (mt 0),Ot 8 6 (.call (.func 178) [(.tmp 7),(.func 177)]),Oo 9 (.pick (.tmp 6) (.tmp 8) (.const (.bool false))),Mv 2 9] .ret))
theorem k231:ZaD Tryz.prog 231=some ⟨c231,[(.tmp 2)],10⟩:=by kernel_rfl
def c310:AC:=(Sr [Mb 2 false] (.seq (Sr [Mv 6 0,Oo 7 (.bin .eql (.tmp 6) (.const (.string ⟨#[]⟩))),Mv 8 7,Of 9 8 (mt 0),Of 10 8 (.len true (.tmp 9)),Of 11 8 (.bin .gtr (.tmp 10) (Ci 24)),Oo 12 (.pick (.tmp 8) (.const (.bool true)) (.tmp 11))] (Cd 12 (Sr [Mb 2 false] .ret) .skip)) (Sr [Mv 14 0,Oo 15 (.call (.func 320) [(.tmp 14),(.const (.string ⟨#[47]⟩))]),Mv 13 15,Ex 16 13 0,Ex 17 13 1,Ex 18 13 2,Mv 3 16,Mv 4 17,Mv 5 18] (.seq (Sr [Mv 19 5] (Cd 19 (Sr [Mv 20 3,Oo 21 (.bin .neq (.tmp 20) (.const (.string ⟨#[]⟩))),Mv 22 21,Ot 23 22 (mt 4),Ot 24 22 (.bin .neq (.tmp 23) (.const (.string ⟨#[]⟩))),Oo 25 (.pick (.tmp 22) (.tmp 24) (.const (.bool false))),Mv 26 25,Ot 27 26 (mt 3),Ot 28 26 (.call (.func 150) [(.tmp 27)]),Oo 29 (.pick (.tmp 26) (.tmp 28) (.const (.bool false))),Mv 30 29,Ot 31 30 (mt 4),Ot 32 30 (.call (.func 150) [(.tmp 31)]),Oo 33 (.pick (.tmp 30) (.tmp 32) (.const (.bool false))),Mv 2 33] .ret) .skip)) (Sr [Mv 35 0,Oo 36 (.call (.func 320) [(.tmp 35),(.const (.string ⟨#[37,115]⟩))]),Mv 34 36,Ex 37 34 0,Ex 38 34 1,Ex 39 34 2,Mv 3 37,Mv 4 38] (Sr [Mv 40 3,Cl 41 150 [(.tmp 40)],Mv 42 41,Ot 43 42 (mt 4),Ot 44 42 (.call (.func 150) [(.tmp 43)]),Oo 45 (.pick (.tmp 42) (.tmp 44) (.const (.bool false))),Mv 2 45] .ret))))))
theorem k310:ZaD Tryz.prog 310=some ⟨c310,[(.tmp 2)],46⟩:=by kernel_rfl
theorem ZbX {n a b:Int}{h:AH}:Ac 232 [iv n,iv a,iv b] h (bv (wi n a b)):=by
 refine tI' k232 fun N hn hlt hlA hbd=>?_
 simp only [tb'] at hbd ⊢
 refine wr'<|mv' lkb pt<|sn'<|wr'<|mv' lk pt<|mv' lk pt<|V' (Zfg lk lk) pt<|mv' lk pt<|?_
 refine sp' (t:=10) gt pt pt (fun hg10=>?_) (fun hg10=>?_)
 ·refine s_do gt<|mv' lk pt<|s_do gt<|mv' lk pt<|s_do gt<|V' (Zdq lk lk) pt<|V' (Zak lk lk) pt<|mv' lk pt<|sn'<|Zaa<|Zaf rz<|rT'<|?_
  refine bvx ?_;unfold wi;rw [Bool.eq_iff_iff];simp;omega
 refine s_no gt pt<|s_no gt pt<|s_no gt pt<|V' (Zag lk lkb) pt<|mv' lk pt<|sn'<|Zaa<|Zaf rz<|rT'<|?_
 refine bvx ?_;unfold wi;rw [Bool.eq_iff_iff];simp;omega
def clkB (n:Int) (wall:Bool):Bool:=wi n 1 3&&(wall||decide (n≠1))
theorem ZhR {n:Int}{b:Bool}{h:AH}:Ac 233 [iv n,bv b] h (bv (clkB n b)):=by
 refine tI' k233 fun N hn hlt hlA hbd=>?_
 simp only [tb'] at hbd ⊢
 refine wr'<|mv' lkb pt<|sn'<|wr'<|mv' lk pt<|Zad mp (ZbX) pt<|mv' lk pt<|?_
 refine ZaE (t:=7) gt pt pt (fun hg7=>?_) (fun hg7=>?_)
 ·refine s_do gt<|mv' lk pt<|s_do gt<|mv' lk pt<|?_
  refine ZaE (t:=9) gt pt pt (fun hg9=>?_) (fun hg9=>?_)
  ·refine s_no gt pt<|s_no gt pt<|s_do gt<|V' (Zak lk lkb) pt<|V' (Zak lk lk) pt<|mv' lk pt<|sn'<|Zaa<|Zaf rz<|rT'<|?_
   refine bvx ?_;unfold clkB;simp_all
  refine s_do gt<|mv' lk pt<|s_do gt<|V' (Za1 lk lki) pt<|s_do gt<|V' (Zag lk lk) pt<|V' (Zak lk lk) pt<|mv' lk pt<|sn'<|Zaa<|Zaf rz<|rT'<|?_
  refine bvx ?_;unfold clkB;simp_all
 refine s_no gt pt<|s_no gt pt<|s_nu gt pt<|s_nu gt pt<|s_no gt pt<|V' (Zag lk lkb) pt<|mv' lk pt<|sn'<|Zaa<|Zaf rz<|rT'<|?_
 refine bvx ?_;unfold clkB;simp_all
def ZkR (n:Int):Bool:=letB n||digB n||decide (0≤Lib.indexByte [95,45,47,43] n.toNat.toUInt8)
theorem indexN_a {n:Int}{h:AH}:Ac 181 [sv (bA [95,45,47,43]),uv n] h (iv (Lib.indexByte [95,45,47,43] n.toNat.toUInt8)):=ZlZ
theorem name1_a {n:Int}{h:AH}:Ac 179 [uv n] h (bv (ZkR n)):=by
 refine tI' k179 fun N hn hlt hlA hbd=>?_
 simp only [tb'] at hbd ⊢
 refine wr'<|mv' lkb pt<|sn'<|wr'<|mv' lk pt<|Zad mp (Zhf) pt<|mv' lk pt<|?_
 refine ZaE (t:=5) gt pt pt (fun hg5=>?_) (fun hg5=>?_)
 ·refine s_no gt pt<|s_no gt pt<|V' (Zak lk lkb) pt<|mv' lk pt<|s_no gt pt<|s_no gt pt<|s_no gt pt<|V' (Zak lk lkb) pt<|mv' lk pt<|sn'<|Zaa<|Zaf rz<|rT'<|?_
  refine bvx ?_;unfold ZkR;rw [Bool.eq_iff_iff];simp_all
 refine s_do gt<|mv' lk pt<|s_do gt<|Zad mp (ZqL) pt<|V' (Zag lk lk) pt<|mv' lk pt<|?_
 refine ZaE (t:=9) gt pt pt (fun hg9=>?_) (fun hg9=>?_)
 ·refine s_no gt pt<|s_no gt pt<|s_no gt pt<|V' (Zak lk lkb) pt<|mv' lk pt<|sn'<|Zaa<|Zaf rz<|rT'<|?_
  refine bvx ?_;unfold ZkR;rw [Bool.eq_iff_iff];simp_all
 refine s_do gt<|mv' lk pt<|s_do gt<|Zad mp (indexN_a) pt<|s_do gt<|V' (Zfg lk lki) pt<|V' (Zag lk lk) pt<|mv' lk pt<|sn'<|Zaa<|Zaf rz<|rT'<|?_
 refine bvx ?_;unfold ZkR;rw [Bool.eq_iff_iff];simp_all
def Zck (s:ByteArray):Bool:=decide (s.size≠0)&&decide (s.size≤24)&&letB (ZaG s 0).toNat&&allB ZkR s
theorem ZkQ {s:ByteArray}{h:AH}(hs:s.size≤maxLen):Ac 112 [sv s] h (bv (Zck s)):=by
 have hm:s.size≤9223372036854775807:=by simpa [maxLen] using hs
 have hem:=Zeg (f:=s)
 refine tI' k112 fun N hn hlt hlA hbd=>?_
 simp only [tb'] at hbd ⊢
 refine wr'<|mv' lkb pt<|sn'<|wr'<|mv' lk pt<|V' (Zcs lk lks) pt<|mv' lk pt<|?_
 refine sp' (t:=5) gt pt pt (fun hg5=>?_) (fun hg5=>?_)
 ·have hne:s.size≠0:=fun e=>hg5 (hem.2 e)
  refine s_do gt<|mv' lk pt<|s_do gt<|V' (Zbb lk) pt<|s_do gt<|V' (Zdq lk lki) pt<|V' (Zak lk lk) pt<|mv' lk pt<|?_
  refine sp' (t:=10) gt pt pt (fun hg10=>?_) (fun hg10=>?_)
  ·refine s_do gt<|mv' lk pt<|s_do gt<|?_
   refine V' (v_ix lk lki (by omega) (by omega)) pt ?_
   refine s_do gt<|Zad mp (Zhf) pt<|V' (Zak lk lk) pt<|mv' lk pt<|?_
   refine ZaE (t:=15) gt pt pt (fun hg15=>?_) (fun hg15=>?_)
   ·refine s_do gt<|mv' lk pt<|s_do gt<|?_
    refine Zad mp (all_a (fun _ _=>name1_a) hs) pt ?_
    refine V' (Zak lk lk) pt<|mv' lk pt<|sn'<|Zaa<|Zaf rz<|rT'<|?_
    refine bvx ?_;unfold Zck;simp_all <;> (try intros) <;> omega
   refine s_no gt pt<|s_no gt pt<|V' (Zag lk lkb) pt<|mv' lk pt<|sn'<|Zaa<|Zaf rz<|rT'<|?_
   refine bvx ?_;unfold Zck;simp_all <;> (try intros) <;> omega
  refine s_no gt pt<|s_no gt pt<|s_no gt pt<|V' (Zag lk lkb) pt<|mv' lk pt<|s_no gt pt<|s_no gt pt<|V' (Zag lk lkb) pt<|mv' lk pt<|sn'<|Zaa<|Zaf rz<|rT'<|?_
  refine bvx ?_;unfold Zck;simp_all <;> (try intros) <;> omega
 refine s_no gt pt<|s_no gt pt<|s_no gt pt<|V' (Zag lk lkb) pt<|mv' lk pt<|s_no gt pt<|s_no gt pt<|s_no gt pt<|V' (Zag lk lkb) pt<|mv' lk pt<|s_no gt pt<|s_no gt pt<|V' (Zag lk lkb) pt<|mv' lk pt<|?_
 refine sn'<|Zaa<|Zaf rz<|rT'<|?_
 refine bvx ?_;unfold Zck;simp_all <;> (try intros) <;> omega
def Zcf (s:ByteArray):Bool:=decide (s.size≤24)&&allB letB s
theorem Zqm {s:ByteArray}{h:AH}(hs:s.size≤maxLen):Ac 231 [sv s] h (bv (Zcf s)):=by
 have hm:s.size≤9223372036854775807:=by simpa [maxLen] using hs
 refine tI' k231 fun N hn hlt hlA hbd=>?_
 simp only [tb'] at hbd ⊢
 refine wr'<|mv' lkb pt<|sn'<|wr'<|mv' lk pt<|V' (Zbb lk) pt<|V' (Zdq lk lki) pt<|mv' lk pt<|?_
 refine sp' (t:=6) gt pt pt (fun hg6=>?_) (fun hg6=>?_)
 ·refine s_do gt<|mv' lk pt<|s_do gt<|?_
  refine Zad mp (all_a (fun _ _=>Zhf) hs) pt ?_
  refine V' (Zak lk lk) pt<|mv' lk pt<|sn'<|Zaa<|Zaf rz<|rT'<|?_
  refine bvx ?_;unfold Zcf;simp_all <;> (try intros) <;> omega
 refine s_no gt pt<|s_no gt pt<|V' (Zag lk lkb) pt<|mv' lk pt<|sn'<|Zaa<|Zaf rz<|rT'<|?_
 refine bvx ?_;unfold Zcf;simp_all <;> (try intros) <;> omega
abbrev cutL (s:ByteArray) (p:Bs):Bs×Bs×Bool:=Lib.cut (aB s) p
def ZbS (s:ByteArray):Bool:=if s.size=0∨24<s.size then false else
 if (cutL s [47]).2.2=true then decide (bA (cutL s [47]).1≠⟨#[]⟩)&&decide (bA (cutL s [47]).2.1≠⟨#[]⟩)&&allB Zbl (bA (cutL s [47]).1)&&allB Zbl (bA (cutL s [47]).2.1)
 else allB Zbl (bA (cutL s [37,115]).1)&&allB Zbl (bA (cutL s [37,115]).2.1)
theorem Znx {s:ByteArray}{p:Bs}:(cutL s p).1.length≤s.size∧(cutL s p).2.1.length≤s.size:=by
 unfold cutL Lib.cut
 split
 ·simp only [List.length_take,List.length_drop,ZdY];omega
 simp [ZdY]
theorem cut1_a {s:ByteArray}{h:AH}(hz:s.size≤24):Ac 320 [sv s,sv (bA [47])] h (.tup [sv (bA (cutL s [47]).1),sv (bA (cutL s [47]).2.1),bv (cutL s [47]).2.2]):=cut_a (by omega)
theorem cut2_a {s:ByteArray}{h:AH}(hz:s.size≤24):Ac 320 [sv s,sv (bA [37,115])] h (.tup [sv (bA (cutL s [37,115]).1),sv (bA (cutL s [37,115]).2.1),bv (cutL s [37,115]).2.2]):=cut_a (by omega)
theorem Znp {s:ByteArray}{h:AH}(hs:s.size≤maxLen):Ac 310 [sv s] h (bv (ZbS s)):=by
 have hm:s.size≤9223372036854775807:=by simpa [maxLen] using hs
 have hem:=Zeg (f:=s)
 have k1:=Znx (s:=s) (p:=[47])
 have k2:=Znx (s:=s) (p:=[37,115])
 refine tI' k310 fun N hn hlt hlA hbd=>?_
 simp only [tb'] at hbd ⊢
 refine wr'<|mv' lkb pt<|sn'<|Zam<|wr'<|mv' lk pt<|V' (Zcj lk lks) pt<|mv' lk pt<|?_
 refine sp' (t:=8) gt pt pt (fun hg8=>?_) (fun hg8=>?_)
 ·have hB:ZbS s=false:=if_pos (.inl (hem.1 hg8))
  refine s_no gt pt<|s_no gt pt<|s_no gt pt<|V' (Zak lk lkb) pt<|sn'<|ZaH lk<|wr'<|mv' lkb pt<|sn'<|Zaa<|Zai<|?_
  refine Zaf rz<|rT'<|?_
  rw [hB]
 refine s_do gt<|mv' lk pt<|s_do gt<|V' (Zbb lk) pt<|s_do gt<|V' (ZbV lk lki) pt<|V' (Zag lk lk) pt<|sn'<|?_
 refine cd' lk (fun hc1=>?_) (fun hc1=>?_)
 ·have hB:ZbS s=false:=if_pos (.inr (by omega))
  refine wr'<|mv' lkb pt<|sn'<|Zaa<|Zai<|Zaf rz<|rT'<|?_
  rw [hB]
 have hB:ZbS s=if (cutL s [47]).2.2=true then decide (bA (cutL s [47]).1≠⟨#[]⟩)&&decide (bA (cutL s [47]).2.1≠⟨#[]⟩)&&allB Zbl (bA (cutL s [47]).1)&&allB Zbl (bA (cutL s [47]).2.1) else allB Zbl (bA (cutL s [37,115]).1)&&allB Zbl (bA (cutL s [37,115]).2.1):=if_neg (by have:s.size≠0:=fun e=>hg8 (hem.2 e);omega)
 have hz:s.size≤24:=by omega
 refine Zae<|Zah<|wr'<|mv' lk pt<|Zad mp (cut1_a hz) pt<|mv' lk pt<|V' (Za3 lk gt) pt<|V' (Za3 lk gt) pt<|V' (Za3 lk gt) pt<|mv' lk pt<|mv' lk pt<|mv' lk pt<|Zar<|?_
 refine Zah<|Zam<|wr'<|mv' lk pt<|sn'<|?_
 refine cd' lk (fun hc2=>?_) (fun hc2=>?_)
 ·rw [if_pos hc2] at hB
  refine wr'<|mv' lk pt<|V' (Zcs lk lks) pt<|mv' lk pt<|?_
  refine sp' (t:=22) gt pt pt (fun hg22=>?_) (fun hg22=>?_)
  ·refine s_do gt<|mv' lk pt<|s_do gt<|V' (Zcs lk lks) pt<|V' (Zak lk lk) pt<|mv' lk pt<|?_
   refine sp' (t:=26) gt pt pt (fun hg26=>?_) (fun hg26=>?_)
   ·refine s_do gt<|mv' lk pt<|s_do gt<|?_
    refine Zad mp (ZjK (by rw [ZdL];unfold maxLen;omega)) pt ?_
    refine V' (Zak lk lk) pt<|mv' lk pt<|?_
    refine ZaE (t:=30) gt pt pt (fun hg30=>?_) (fun hg30=>?_)
    ·refine s_do gt<|mv' lk pt<|s_do gt<|?_
     refine Zad mp (ZjK (by rw [ZdL];unfold maxLen;omega)) pt ?_
     refine V' (Zak lk lk) pt<|mv' lk pt<|sn'<|Zaa<|Zai<|Zaf rz<|rT'<|?_
     rw [hB];refine bvx ?_;simp_all
    refine s_no gt pt<|s_no gt pt<|V' (Zag lk lkb) pt<|mv' lk pt<|sn'<|Zaa<|Zai<|Zaf rz<|rT'<|?_
    rw [hB];refine bvx ?_;simp_all
   refine s_no gt pt<|s_no gt pt<|V' (Zag lk lkb) pt<|mv' lk pt<|s_no gt pt<|s_no gt pt<|V' (Zag lk lkb) pt<|mv' lk pt<|sn'<|Zaa<|Zai<|Zaf rz<|rT'<|?_
   rw [hB];refine bvx ?_;simp_all
  refine s_no gt pt<|s_no gt pt<|V' (Zag lk lkb) pt<|mv' lk pt<|s_no gt pt<|s_no gt pt<|V' (Zag lk lkb) pt<|mv' lk pt<|s_no gt pt<|s_no gt pt<|V' (Zag lk lkb) pt<|mv' lk pt<|sn'<|?_
  refine Zaa<|Zai<|Zaf rz<|rT'<|?_
  rw [hB];refine bvx ?_;simp_all
 rw [if_neg (by rw [hc2];simp)] at hB
 refine Zae<|Zah<|wr'<|mv' lk pt<|Zad mp (cut2_a hz) pt<|mv' lk pt<|V' (Za3 lk gt) pt<|V' (Za3 lk gt) pt<|V' (Za3 lk gt) pt<|mv' lk pt<|mv' lk pt<|sn'<|?_
 refine wr'<|mv' lk pt<|?_
 refine Zad mp (ZjK (by rw [ZdL];unfold maxLen;omega)) pt ?_
 refine mv' lk pt ?_
 refine ZaE (t:=42) gt pt pt (fun hg42=>?_) (fun hg42=>?_)
 ·refine s_do gt<|mv' lk pt<|s_do gt<|?_
  refine Zad mp (ZjK (by rw [ZdL];unfold maxLen;omega)) pt ?_
  refine V' (Zak lk lk) pt<|mv' lk pt<|sn'<|Zaa<|Zaf rz<|rT'<|?_
  rw [hB];refine bvx ?_;simp_all
 refine s_no gt pt<|s_no gt pt<|V' (Zag lk lkb) pt<|mv' lk pt<|sn'<|Zaa<|Zaf rz<|rT'<|?_
 rw [hB];refine bvx ?_;simp_all
end Go.Proofs.YtlekejpogddndaaGreatDoor
end
section
namespace Go.Proofs.YtlekejpogddndaaGreatDoor
open Go.Ab Go.RowKit Civ
attribute [local simp] Zbi Zbu Zbk Zbp
section
theorem ZoU {a0 a1 a2 a3 a4 a5 a6:AV}{l:List AV}:((a0::a1::a2::a3::a4::a5::a6::l).drop 4).take 3=[a4,a5,a6]:=rfl
theorem ZoW {a0 a1 a2 c0 c1 c2:AV}{l:List AV}:setCells (a0::a1::a2::l) 0 [c0,c1,c2]=c0::c1::c2::l:=rfl
theorem Ze7 {a0 a1 a2 a3 a4 a5 a6 a7 a8 a9:AV}{l:List AV}:((a0::a1::a2::a3::a4::a5::a6::a7::a8::a9::l).drop 5).take 5=[a5,a6,a7,a8,a9]:=rfl
theorem Zen {τ:Operand→AV}:Zat τ [] [(.v (.int .i64 0)),(.v (.int .i64 0)),(.v (.int .i64 0)),(.v (.int .i64 0)),(.v (.int .i64 0))]=some [(.v (.int .i64 0)),(.v (.int .i64 0)),(.v (.int .i64 0)),(.v (.int .i64 0)),(.v (.int .i64 0))]:=rfl
theorem Zc6 {a0 b0:Int}{a1 b1:Int}{a2 b2:Int}{a3 b3:Int}{a4 b4:Int}:ZbH [.int,.int,.int,.int,.int] [iv a0,iv a1,iv a2,iv a3,iv a4] [iv b0,iv b1,iv b2,iv b3,iv b4]=some (decide (a0=b0∧a1=b1∧a2=b2∧a3=b3∧a4=b4)):=by
 simp only [ZbH,ZeC,if_true,ZdV,Option.some.injEq]
 simp only [Bool.decide_and,Bool.and_true]
 try (congr 1 <;> simp)
 try rfl
theorem Ze8 {a0 a1 a2 a3 a4 a5 a6 a7:AV}{l:List AV}:((a0::a1::a2::a3::a4::a5::a6::a7::l).drop 5).take 3=[a5,a6,a7]:=rfl
theorem ZoT {a0 a1 a2 a3 a4 a5 a6 a7 a8 a9:AV}{l:List AV}:(a0::a1::a2::a3::a4::a5::a6::a7::a8::a9::l).take 10=[a0,a1,a2,a3,a4,a5,a6,a7,a8,a9]:=rfl
theorem ZmF {a0 a1 a2 a3 a4 a5 a6 a7 a8 a9 c0 c1 c2 c3 c4 c5 c6 c7 c8 c9:AV}{l:List AV}:setCells (a0::a1::a2::a3::a4::a5::a6::a7::a8::a9::l) 0 [c0,c1,c2,c3,c4,c5,c6,c7,c8,c9]=c0::c1::c2::c3::c4::c5::c6::c7::c8::c9::l:=rfl
theorem ZmD {a0 a1 a2 a3 a4 a5 a6 a7 a8 a9:AV}{l:List AV}:((a0::a1::a2::a3::a4::a5::a6::a7::a8::a9::l).drop 0).take 10=[a0,a1,a2,a3,a4,a5,a6,a7,a8,a9]:=rfl
theorem ZoS {a0 a1 a2 a3 a4 a5 a6 a7 a8 a9 a10:AV}{l:List AV}:(a0::a1::a2::a3::a4::a5::a6::a7::a8::a9::a10::l).take 11=[a0,a1,a2,a3,a4,a5,a6,a7,a8,a9,a10]:=rfl
theorem ZmE {a0 a1 a2 a3 a4 a5 a6 a7 a8 a9 a10 c0 c1 c2 c3 c4 c5 c6 c7 c8 c9 c10:AV}{l:List AV}:setCells (a0::a1::a2::a3::a4::a5::a6::a7::a8::a9::a10::l) 0 [c0,c1,c2,c3,c4,c5,c6,c7,c8,c9,c10]=c0::c1::c2::c3::c4::c5::c6::c7::c8::c9::c10::l:=rfl
theorem ZmC {a0 a1 a2 a3 a4 a5 a6 a7 a8 a9 a10:AV}{l:List AV}:((a0::a1::a2::a3::a4::a5::a6::a7::a8::a9::a10::l).drop 0).take 11=[a0,a1,a2,a3,a4,a5,a6,a7,a8,a9,a10]:=rfl
theorem Zib {a0 a1:AV}{l:List AV}:(a0::a1::l).take 2=[a0,a1]:=rfl
theorem ZgK {a0 a1 c0 c1:AV}{l:List AV}:setCells (a0::a1::l) 0 [c0,c1]=c0::c1::l:=rfl
theorem Zjj {a0 a1:AV}{l:List AV}:((a0::a1::l).drop 0).take 2=[a0,a1]:=rfl
theorem ZoV {a0 a1 a2:AV}{l:List AV}:((a0::a1::a2::l).drop 0).take 3=[a0,a1,a2]:=rfl
end
def c156:AC:=(Sr [Oo 1 (.box 36 11 (.tmp 0)),Mc 2 0] (.seq (.block 0 (Sr [Fa 6 0 1,Ld 7 6,Cl 8 112 [(.tmp 7)],Oo 9 (.un .not (.tmp 8)),Mv 10 9,Of 11 10 (.fa 10 (.tmp 1)),Of 12 10 (.load false 1 (.tmp 11)),Of 13 10 (.call (.func 231) [(.tmp 12)]),Of 14 10 (.un .not (.tmp 13)),Oo 15 (.pick (.tmp 10) (.const (.bool true)) (.tmp 14)),Mv 5 15] (Cd 5 (Sr [Mc 2 1] .ret) (Sr [Fa 17 1 1,Ld 18 17,Bc 19 .lss 18 1900,Mv 20 19,Of 21 20 (.fa 1 (.tmp 1)),Of 22 20 (.load false 1 (.tmp 21)),Of 23 20 (.fa 2 (.tmp 1)),Of 24 20 (.load false 1 (.tmp 23)),Of 25 20 (.bin .gtr (.tmp 22) (.tmp 24)),Oo 26 (.pick (.tmp 20) (.const (.bool true)) (.tmp 25)),Mv 27 26,Of 28 27 (.fa 2 (.tmp 1)),Of 29 27 (.load false 1 (.tmp 28)),Of 30 27 (.bin .gtr (.tmp 29) (Ci 2100)),Oo 31 (.pick (.tmp 27) (.const (.bool true)) (.tmp 30)),Mv 32 31,Of 33 32 (.fa 3 (.tmp 1)),Of 34 32 (.load false 1 (.tmp 33)),Of 35 32 (.call (.func 232) [(.tmp 34),(Ci 1),(Ci 12)]),Of 36 32 (.un .not (.tmp 35)),Oo 37 (.pick (.tmp 32) (.const (.bool true)) (.tmp 36)),Mv 16 37] (Cd 16 (Sr [Mc 2 3] .ret) .skip))))) (.seq (Sr [Fa 39 3 1,Ld 40 39,Fa 41 4 1,Oo 42 (.load true 3 (.tmp 41)),Cl 43 94 [(Ci 2001),(.tmp 40),(.tmp 42)],Mv 38 43,Ex 44 38 0,Ex 45 38 1,Oo 3 (.new 59 3 [(iv 0),(iv 0),(iv 0)]),⟨none,none,(.store 3 (.tmp 3) (.tmp 44))⟩,Mv 4 45] (Sr [Mv 46 4,Bc 47 .neq 46 0] (Cd 47 (Sr [Mv 48 4,Mv 2 48] .ret) .skip))) (.seq (.block 1 (Sr [Fa 50 7 1,Ld 51 50,Cl 52 232 [(.tmp 51),(Ci 0),(Ci 172800)],Oo 53 (.un .not (.tmp 52)),Mv 49 53] (Cd 49 (Sr [Mc 2 3] .ret) (Sr [Fa 55 8 1,Ld 56 55,Cl 57 233 [(.tmp 56),(.const (.bool true))],Oo 58 (.un .not (.tmp 57)),Mv 54 58] (Cd 54 (Sr [Mc 2 7] .ret) (Sr [Fa 60 9 1,Ld 61 60,Cl 62 232 [(.tmp 61),(Ci 0),(Ci 10800)],Oo 63 (.un .not (.tmp 62)),Mv 59 63] (Cd 59 (Sr [Mc 2 3] .ret) .skip))))))) (Sr [Mc 2 0] .ret)))))
theorem k156:ZaD Tryz.prog 156=some ⟨c156,[(.tmp 2)],64⟩:=by kernel_rfl
def c209:AC:=(Sr [Oo 1 (.box 129 2 (.tmp 0)),Mc 2 0] (.seq (Sr [Fa 3 0 1,Ld 4 3,Cl 5 112 [(.tmp 4)],Oo 6 (.un .not (.tmp 5)),Mv 7 6,Of 8 7 (.fa 1 (.tmp 1)),Of 9 7 (.load false 1 (.tmp 8)),Of 10 7 (.call (.func 112) [(.tmp 9)]),Of 11 7 (.un .not (.tmp 10)),Oo 12 (.pick (.tmp 7) (.const (.bool true)) (.tmp 11))] (Cd 12 (Sr [Mc 2 1] .ret) .skip)) (Sr [Mc 2 0] .ret)))
theorem k209:ZaD Tryz.prog 209=some ⟨c209,[(.tmp 2)],13⟩:=by kernel_rfl
def c278:AC:=(Sr [Oo 2 (.box 63 10 (.tmp 0)),Mc 4 0] (.seq (.block 0 (Sr [Fa 8 1 2,Ld 9 8,Oo 10 (.bin .neq (.tmp 9) (.const (.string ⟨#[]⟩))),Mv 11 10,Ot 12 11 (.fa 1 (.tmp 2)),Ot 13 11 (.load false 1 (.tmp 12)),Ot 14 11 (.call (.func 112) [(.tmp 13)]),Ot 15 11 (.un .not (.tmp 14)),Oo 16 (.pick (.tmp 11) (.tmp 15) (.const (.bool false))),Mv 17 16,Of 18 17 (.fa 3 (.tmp 2)),Of 19 17 (.load false 1 (.tmp 18)),Of 20 17 (.call (.func 310) [(.tmp 19)]),Of 21 17 (.un .not (.tmp 20)),Oo 22 (.pick (.tmp 17) (.const (.bool true)) (.tmp 21)),Mv 7 22] (Cd 7 (Sr [Mc 4 1] .ret) (Sr [Fa 24 0 2,Ld 25 24,Cl 26 232 [(.tmp 25),(.const (.int .i64 (-64800))),(Ci 64800)],Oo 27 (.un .not (.tmp 26)),Mv 28 27,Of 29 28 (.fa 2 (.tmp 2)),Of 30 28 (.load false 1 (.tmp 29)),Of 31 28 (.call (.func 232) [(.tmp 30),(Ci 0),(Ci 10800)]),Of 32 28 (.un .not (.tmp 31)),Oo 33 (.pick (.tmp 28) (.const (.bool true)) (.tmp 32)),Mv 23 33] (Cd 23 (Sr [Mc 4 3] .ret) (Sr [Fa 35 1 2,Ld 36 35,Oo 37 (.bin .neq (.tmp 36) (.const (.string ⟨#[]⟩))),Mv 38 37,Ot 39 38 (.fa 2 (.tmp 2)),Ot 40 38 (.load false 1 (.tmp 39)),Ot 41 38 (.bin .neq (.tmp 40) (Ci 0)),Oo 42 (.pick (.tmp 38) (.tmp 41) (.const (.bool false))),Mv 34 42] (Cd 34 (Sr [Mc 4 1] .ret) (Sr [Fa 44 4 2,Ld 45 44,Mv 46 1,Oo 47 (.eqb true (.tmp 45) (.tmp 46)),Mv 43 47] (Cd 43 (Sr [Mc 4 4] .ret) (Sr [Fa 49 4 2,Ld 50 49,Mv 48 50] (Cd 48 (.seq (Sr [Fa 51 5 2,Oo 52 (.load true 5 (.tmp 51)),Oo 53 (.build [(iv 0),(iv 0),(iv 0),(iv 0),(iv 0)] []),Oo 54 (.eqs true [.int,.int,.int,.int,.int] (.tmp 52) (.tmp 53))] (Cd 54 (Sr [Mc 4 1] .ret) .skip)) (Sr [Mc 4 0] .ret)) .skip))))))))))) (.seq (Sr [Fa 56 5 2,Fa 57 0 56,Oo 58 (.load true 3 (.tmp 57)),Cl 59 35 [(.tmp 58)],Mv 55 59,Ex 60 55 0,Ex 61 55 1,Mv 5 60,Mv 6 61] (Sr [Mv 62 6,Bc 63 .neq 62 0] (Cd 63 (Sr [Mv 64 6,Mv 4 64] .ret) .skip))) (.seq (.block 1 (Sr [Fa 66 5 2,Fa 67 3 66,Ld 68 67,Cl 69 232 [(.tmp 68),(Ci 0),(Ci 172800)],Oo 70 (.un .not (.tmp 69)),Mv 65 70] (Cd 65 (Sr [Mc 4 3] .ret) (Sr [Fa 72 5 2,Fa 73 4 72,Ld 74 73,Cl 75 233 [(.tmp 74),(.const (.bool false))],Oo 76 (.un .not (.tmp 75)),Mv 71 76] (Cd 71 (Sr [Mc 4 7] .ret) .skip))))) (Sr [Mc 4 0] .ret)))))
theorem k278:ZaD Tryz.prog 278=some ⟨c278,[(.tmp 4)],77⟩:=by kernel_rfl
def c207:AC:=(Sr [Oo 1 (.box 53 2 (.tmp 0)),Mc 2 0] (.seq (Sr [Fa 6 0 1,Ld 7 6,Cl 8 112 [(.tmp 7)],Oo 9 (.un .not (.tmp 8)),Mv 10 9,Of 11 10 (.fa 1 (.tmp 1)),Of 12 10 (.load false 1 (.tmp 11)),Of 13 10 (.len false (.tmp 12)),Of 14 10 (.bin .eql (.tmp 13) (Ci 0)),Oo 15 (.pick (.tmp 10) (.const (.bool true)) (.tmp 14))] (Cd 15 (Sr [Mc 2 1] .ret) .skip)) (.seq (Sr [Fa 16 1 1,Ld 17 16,Oo 18 (.len false (.tmp 17)),Mc 19 0] (.block 0 (.loop (Sr [Bn 20 .lss 19 18] (.seq (Cd 20 .skip (.exit 0)) (.seq (.block 1 (Sr [Mv 21 19,Oo 22 (.ia 10 (.tmp 17) (.tmp 19)),Oo 23 (.load true 10 (.tmp 22)),Oo 4 (.new 63 10 [(iv 0),Ss,(iv 0),Ss,(.v (.bool false)),(iv 0),(iv 0),(iv 0),(iv 0),(iv 0)]),Mv 3 21,⟨none,none,(.store 10 (.tmp 4) (.tmp 23))⟩] (Sr [Oo 24 (.load true 10 (.tmp 4)),Mv 25 3,Fa 26 1 1,Ld 27 26,Oo 28 (.len false (.tmp 27)),Bc 29 .sub 28 1,Bn 30 .eql 25 29,Cl 31 278 [(.tmp 24),(.tmp 30)],Mv 5 31] (Sr [Mv 32 5,Bc 33 .neq 32 0] (Cd 33 (Sr [Mv 34 5,Mv 2 34] .ret) .skip))))) (.reg [Bc 35 .add 19 1,Mv 19 35]))))))) (Sr [Mc 2 0] .ret))))
theorem k207:ZaD Tryz.prog 207=some ⟨c207,[(.tmp 2)],36⟩:=by kernel_rfl
def c205:AC:=(Sr [Mc 4 0] (.seq (Sr [Mv 8 0,Oo 9 (.len false (.tmp 8)),Mc 10 0] (.block 0 (.loop (Sr [Bn 11 .lss 10 9] (.seq (Cd 11 .skip (.exit 0)) (.seq (.block 1 (Sr [Oo 12 (.ia 11 (.tmp 8) (.tmp 10)),Oo 13 (.load true 11 (.tmp 12)),Oo 6 (.new 36 11 [Ss,(iv 0),(iv 0),(iv 0),(iv 0),(iv 0),(iv 0),(iv 0),(iv 0),(iv 0),Ss]),⟨none,none,(.store 11 (.tmp 6) (.tmp 13))⟩] (Sr [Mv 14 1,Oo 15 (.load true 11 (.tmp 6)),Oo 16 (.call (.tmp 14) [(.tmp 15)]),Mv 7 16] (Sr [Mv 17 7,Bc 18 .neq 17 0] (Cd 18 (Sr [Mv 19 7,Mv 4 19] .ret) .skip))))) (.reg [Bc 20 .add 10 1,Mv 10 20]))))))) (Sr [Mc 4 0] .ret)))
theorem k205:ZaD Tryz.prog 205=some ⟨c205,[(.tmp 4)],21⟩:=by kernel_rfl
def c206:AC:=(Sr [Mc 4 0] (.seq (Sr [Mv 8 0,Oo 9 (.len false (.tmp 8)),Mc 10 0] (.block 0 (.loop (Sr [Bn 11 .lss 10 9] (.seq (Cd 11 .skip (.exit 0)) (.seq (.block 1 (Sr [Oo 12 (.ia 2 (.tmp 8) (.tmp 10)),Oo 13 (.load true 2 (.tmp 12)),Oo 6 (.new 53 2 [Ss,(.sl 0 0 true [])]),⟨none,none,(.store 2 (.tmp 6) (.tmp 13))⟩] (Sr [Mv 14 1,Oo 15 (.load true 2 (.tmp 6)),Oo 16 (.call (.tmp 14) [(.tmp 15)]),Mv 7 16] (Sr [Mv 17 7,Bc 18 .neq 17 0] (Cd 18 (Sr [Mv 19 7,Mv 4 19] .ret) .skip))))) (.reg [Bc 20 .add 10 1,Mv 10 20]))))))) (Sr [Mc 4 0] .ret)))
theorem k206:ZaD Tryz.prog 206=some ⟨c206,[(.tmp 4)],21⟩:=by kernel_rfl
def c208:AC:=(Sr [Mc 4 0] (.seq (Sr [Mv 8 0,Oo 9 (.len false (.tmp 8)),Mc 10 0] (.block 0 (.loop (Sr [Bn 11 .lss 10 9] (.seq (Cd 11 .skip (.exit 0)) (.seq (.block 1 (Sr [Oo 12 (.ia 2 (.tmp 8) (.tmp 10)),Oo 13 (.load true 2 (.tmp 12)),Oo 6 (.new 129 2 [Ss,Ss]),⟨none,none,(.store 2 (.tmp 6) (.tmp 13))⟩] (Sr [Mv 14 1,Oo 15 (.load true 2 (.tmp 6)),Oo 16 (.call (.tmp 14) [(.tmp 15)]),Mv 7 16] (Sr [Mv 17 7,Bc 18 .neq 17 0] (Cd 18 (Sr [Mv 19 7,Mv 4 19] .ret) .skip))))) (.reg [Bc 20 .add 10 1,Mv 10 20]))))))) (Sr [Mc 4 0] .ret)))
theorem k208:ZaD Tryz.prog 208=some ⟨c208,[(.tmp 4)],21⟩:=by kernel_rfl
def c204:AC:=(Sr [Oo 1 (.box 26 3 (.tmp 0)),Mb 2 false] (.seq (Sr [Fa 5 1 1,Ld 6 5,Oo 7 (.len false (.tmp 6)),Mc 8 0] (.block 0 (.loop (Sr [Bn 9 .lss 8 7] (.seq (Cd 9 .skip (.exit 0)) (.seq (.block 1 (Sr [Oo 10 (.ia 2 (.tmp 6) (.tmp 8)),Oo 11 (.load true 2 (.tmp 10)),Oo 4 (.new 53 2 [Ss,(.sl 0 0 true [])]),⟨none,none,(.store 2 (.tmp 4) (.tmp 11))⟩] (Sr [Fa 12 1 4,Ld 13 12,Oo 14 (.len false (.tmp 13)),Bc 15 .gtr 14 8] (Cd 15 (Sr [Mb 2 true] .ret) .skip)))) (.reg [Bc 16 .add 8 1,Mv 8 16]))))))) (Sr [Fa 17 0 1,Ld 18 17,Oo 19 (.len false (.tmp 18)),Bc 20 .gtr 19 40,Mv 21 20,Of 22 21 (.fa 1 (.tmp 1)),Of 23 21 (.load false 1 (.tmp 22)),Of 24 21 (.len false (.tmp 23)),Of 25 21 (.bin .gtr (.tmp 24) (Ci 20)),Oo 26 (.pick (.tmp 21) (.const (.bool true)) (.tmp 25)),Mv 27 26,Of 28 27 (.fa 2 (.tmp 1)),Of 29 27 (.load false 1 (.tmp 28)),Of 30 27 (.len false (.tmp 29)),Of 31 27 (.bin .gtr (.tmp 30) (Ci 20)),Oo 32 (.pick (.tmp 27) (.const (.bool true)) (.tmp 31)),Mv 2 32] .ret)))
theorem k204:ZaD Tryz.prog 204=some ⟨c204,[(.tmp 2)],33⟩:=by kernel_rfl
def c132:AC:=(Sr [Oo 1 (.box 26 3 (.tmp 0)),Mc 2 0] (.seq (Sr [Oo 4 (.load true 3 (.tmp 1)),Cl 5 204 [(.tmp 4)]] (Cd 5 (Sr [Mc 2 2] .ret) .skip)) (Sr [Fa 6 0 1,Ld 7 6,Cl 8 205 [(.tmp 7),(.func 156)],Mv 3 8] (.seq (Sr [Mv 9 3,Bc 10 .eql 9 0] (Cd 10 (.reg [Fa 11 1 1,Ld 12 11,Cl 13 206 [(.tmp 12),(.func 207)],Mv 3 13]) .skip)) (.seq (Sr [Mv 14 3,Bc 15 .eql 14 0] (Cd 15 (.reg [Fa 16 2 1,Ld 17 16,Cl 18 208 [(.tmp 17),(.func 209)],Mv 3 18]) .skip)) (Sr [Mv 19 3,Mv 2 19] .ret))))))
theorem k132:ZaD Tryz.prog 132=some ⟨c132,[(.tmp 2)],20⟩:=by kernel_rfl
def Zbm (r:Rul):Int :=
 if ¬(Zck r.1=true∧Zcf r.2.2.2.2.2.2.2.2=true) then 1
 else if r.2.1<1900∨r.2.1>r.2.2.1∨r.2.2.1>2100∨¬wi r.2.2.2.1 1 12=true then 3
 else if (onV 2001 r.2.2.2.1 r.2.2.2.2.1.1 r.2.2.2.2.1.2.1 r.2.2.2.2.1.2.2).2≠0 then (onV 2001 r.2.2.2.1 r.2.2.2.2.1.1 r.2.2.2.2.1.2.1 r.2.2.2.2.1.2.2).2
 else if ¬wi r.2.2.2.2.2.1 0 172800=true then 3
 else if ¬clkB r.2.2.2.2.2.2.1 true=true then 7
 else if ¬wi r.2.2.2.2.2.2.2.1 0 10800=true then 3 else 0
def Zec (l:Lnk):Int:=if ¬(Zck l.1=true∧Zck l.2=true) then 1 else 0
theorem link_b {a b:ByteArray}{h:AH}(ha:a.size≤maxLen) (hb:b.size≤maxLen):Ac 209 [.agg [sv a,sv b]] h (iv (Zec (a,b))):=by
 refine tI' k209 fun N hn hlt hlA hbd=>?_
 simp only [tb'] at hbd ⊢
 refine wr'<|E' (Zbj (cvl lk rfl) rfl (hl0 hn) ha0) pt<|mv' lki pt<|sn'<|Zam<|wr'<|V' (Zac lk) pt<|V' (Zab lk (hga hn rfl) gt0) pt<|Zad mp (ZkQ ha) pt<|V' (Zaw lk) pt<|mv' lk pt<|?_
 refine ZaE (t:=7) gt pt pt (fun hg7=>?_) (fun hg7=>?_)
 ·refine s_no gt pt<|s_no gt pt<|s_no gt pt<|s_no gt pt<|V' (Zak lk lkb) pt<|sn'<|ZaH lk<|wr'<|mv' lki pt<|sn'<|Zaa<|?_
  refine Zai<|Zaf rz<|rT'<|?_
  rw [show Zec (a,b)=1 by unfold Zec;simp_all]
 refine s_do gt<|V' (Zac lk) pt<|s_do gt<|V' (Zab lk (hga hn rfl) gt1) pt<|s_do gt<|Zad mp (ZkQ hb) pt<|s_do gt<|V' (Zaw lk) pt<|V' (Zag lk lk) pt<|sn'<|?_
 refine Zau lk (fun hc1=>?_) (fun hc1=>?_)
 ·refine wr'<|mv' lki pt<|sn'<|Zaa<|Zai<|Zaf rz<|rT'<|?_
  rw [show Zec (a,b)=1 by unfold Zec;simp_all]
 refine Zae<|Zah<|wr'<|mv' lki pt<|sn'<|Zaa<|Zaf rz<|rT'<|?_
 rw [show Zec (a,b)=0 by unfold Zec;simp_all]
theorem rule_b {nm lt:ByteArray}{f t m k w n a c s:Int}{h:AH}(hn:nm.size≤maxLen) (hl:lt.size≤maxLen):Ac 156 [.agg [sv nm,iv f,iv t,iv m,iv k,iv w,iv n,iv a,iv c,iv s,sv lt]] h (iv (Zbm (nm,f,t,m,(k,w,n),a,c,s,lt))):=by
 have hnm:=hn
 clear hn
 refine tI' k156 fun N hn hlt hlA hbd=>?_
 simp only [tb'] at hbd ⊢
 refine wr'<|E' (Zbj (cvl lk rfl) rfl (hl0 hn) ha0) pt<|mv' lki pt<|sn'<|Zam<|Zao<|wr'<|V' (Zac lk) pt<|V' (Zab lk (hga hn rfl) gt0) pt<|Zad mp (ZkQ hnm) pt<|V' (Zaw lk) pt<|?_
 refine mv' lk pt ?_
 refine ZaE (t:=10) gt pt pt (fun hg10=>?_) (fun hg10=>?_)
 ·refine s_no gt pt<|s_no gt pt<|s_no gt pt<|s_no gt pt<|V' (Zak lk lkb) pt<|mv' lk pt<|sn'<|ZaH lk<|wr'<|mv' lki pt<|sn'<|?_
  refine Zaa<|Zap<|Zai<|Zaf rz<|rT'<|?_
  rw [show Zbm (nm,f,t,m,(k,w,n),a,c,s,lt)=1 by unfold Zbm;simp_all]
 refine s_do gt<|V' (Zac lk) pt<|s_do gt<|V' (Zab lk (hga hn rfl) gt10) pt<|s_do gt<|Zad mp (Zqm hl) pt<|s_do gt<|V' (Zaw lk) pt<|V' (Zag lk lk) pt<|mv' lk pt<|sn'<|?_
 refine Zau lk (fun hc1=>?_) (fun hc1=>?_)
 ·refine wr'<|mv' lki pt<|sn'<|Zaa<|Zap<|Zai<|Zaf rz<|rT'<|?_
  rw [show Zbm (nm,f,t,m,(k,w,n),a,c,s,lt)=1 by unfold Zbm;simp_all]
 have h1:Zck nm=true∧Zcf lt=true:=by simp_all
 have hR:Zbm (nm,f,t,m,(k,w,n),a,c,s,lt)=if f<1900∨f>t∨t>2100∨¬wi m 1 12=true then 3 else if (onV 2001 m k w n).2≠0 then (onV 2001 m k w n).2 else if ¬wi a 0 172800=true then 3 else if ¬clkB c true=true then 7 else if ¬wi s 0 10800=true then 3 else 0:=if_neg (by simp [h1])
 refine wr'<|V' (Zac lk) pt<|V' (Zab lk (hga hn rfl) gt1) pt<|V' (Zba lk lki) pt<|mv' lk pt<|?_
 refine sp' (t:=20) gt pt pt (fun hg20=>?_) (fun hg20=>?_)
 ·rw [if_pos (.inl (by omega))] at hR
  refine s_no gt pt<|s_no gt pt<|s_no gt pt<|s_no gt pt<|s_no gt pt<|V' (Zak lk lkb) pt<|mv' lk pt<|s_no gt pt<|s_no gt pt<|s_no gt pt<|V' (Zak lk lkb) pt<|mv' lk pt<|s_no gt pt<|s_no gt pt<|?_
  refine s_no gt pt<|s_no gt pt<|V' (Zak lk lkb) pt<|mv' lk pt<|sn'<|ZaH lk<|wr'<|mv' lki pt<|sn'<|Zaa<|Zap<|?_
  refine Zai<|Zaf rz<|rT'<|?_
  rw [hR]
 refine s_do gt<|V' (Zac lk) pt<|s_do gt<|V' (Zab lk (hga hn rfl) gt1) pt<|s_do gt<|V' (Zac lk) pt<|s_do gt<|V' (Zab lk (hga hn rfl) gt2) pt<|s_do gt<|V' (ZbV lk lk) pt<|V' (Zag lk lk) pt<|mv' lk pt<|?_
 refine sp' (t:=27) gt pt pt (fun hg27=>?_) (fun hg27=>?_)
 ·rw [if_pos (.inr (.inl (by omega)))] at hR
  refine s_no gt pt<|s_no gt pt<|s_no gt pt<|V' (Zak lk lkb) pt<|mv' lk pt<|s_no gt pt<|s_no gt pt<|s_no gt pt<|s_no gt pt<|V' (Zak lk lkb) pt<|mv' lk pt<|sn'<|ZaH lk<|?_
  refine wr'<|mv' lki pt<|sn'<|Zaa<|Zap<|Zai<|Zaf rz<|rT'<|?_
  rw [hR]
 refine s_do gt<|V' (Zac lk) pt<|s_do gt<|V' (Zab lk (hga hn rfl) gt2) pt<|s_do gt<|V' (ZbV lk lki) pt<|V' (Zag lk lk) pt<|mv' lk pt<|?_
 refine sp' (t:=32) gt pt pt (fun hg32=>?_) (fun hg32=>?_)
 ·rw [if_pos (.inr (.inr (.inl (by omega))))] at hR
  refine s_no gt pt<|s_no gt pt<|s_no gt pt<|s_no gt pt<|V' (Zak lk lkb) pt<|mv' lk pt<|sn'<|ZaH lk<|wr'<|mv' lki pt<|sn'<|?_
  refine Zaa<|Zap<|Zai<|Zaf rz<|rT'<|?_
  rw [hR]
 refine s_do gt<|V' (Zac lk) pt<|s_do gt<|V' (Zab lk (hga hn rfl) gt3) pt<|s_do gt<|Zad mp (ZbX) pt<|s_do gt<|V' (Zaw lk) pt<|V' (Zag lk lk) pt<|mv' lk pt<|sn'<|?_
 refine Zau lk (fun hc2=>?_) (fun hc2=>?_)
 ·rw [if_pos (.inr (.inr (.inr (by simpa using hc2))))] at hR
  refine wr'<|mv' lki pt<|sn'<|Zaa<|Zap<|Zai<|Zaf rz<|rT'<|?_
  rw [hR]
 have hw2:wi m 1 12=true:=by simpa using hc2
 have h2:¬(f<1900∨f>t∨t>2100∨¬wi m 1 12=true):=by rw [hw2];simp;omega
 rw [if_neg h2] at hR
 refine Zae<|Zaz<|Zah<|Zam<|wr'<|V' (Zac lk) pt<|V' (Zab lk (hga hn rfl) gt3) pt<|V' (Zac lk) pt<|V' (Zaq lk (hga hn rfl) ZoU rfl) pt<|Zad mp (on_a) pt<|mv' lk pt<|V' (Za3 lk gt) pt<|V' (Za3 lk gt) pt<|?_
 refine E' (Za6 (hl1 hn) ha1) pt<|E' (Zal lk (cvl lk rfl) (hga hn rfl) rfl (nb' rfl) rfl ZoW (hs1 hn)) ptn<|mv' lk pt<|sn'<|wr'<|mv' lk pt<|V' (Za1 lk lki) pt<|sn'<|?_
 refine cd' lk (fun hc3=>?_) (fun hc3=>?_)
 ·rw [if_pos hc3] at hR
  refine wr'<|mv' lk pt<|mv' lk pt<|sn'<|Zaa<|Zai<|Zaf rz<|rT'<|?_
  rw [hR]
 rw [if_neg hc3] at hR
 refine Zae<|Zah<|Zam<|Zao<|wr'<|V' (Zac lk) pt<|V' (Zab lk (hga hn rfl) gt7) pt<|Zad mp (ZbX) pt<|V' (Zaw lk) pt<|mv' lk pt<|sn'<|?_
 refine Zau lk (fun hc4=>?_) (fun hc4=>?_)
 ·rw [if_pos (by simpa using hc4)] at hR
  refine wr'<|mv' lki pt<|sn'<|Zaa<|Zap<|Zai<|Zaf rz<|rT'<|?_
  rw [hR]
 rw [if_neg (by simpa using hc4)] at hR
 refine wr'<|V' (Zac lk) pt<|V' (Zab lk (hga hn rfl) gt8) pt<|Zad mp (ZhR) pt<|V' (Zaw lk) pt<|mv' lk pt<|sn'<|?_
 refine Zau lk (fun hc5=>?_) (fun hc5=>?_)
 ·rw [if_pos (by simpa using hc5)] at hR
  refine wr'<|mv' lki pt<|sn'<|Zaa<|Zap<|Zai<|Zaf rz<|rT'<|?_
  rw [hR]
 rw [if_neg (by simpa using hc5)] at hR
 refine wr'<|V' (Zac lk) pt<|V' (Zab lk (hga hn rfl) gt9) pt<|Zad mp (ZbX) pt<|V' (Zaw lk) pt<|mv' lk pt<|sn'<|?_
 refine Zau lk (fun hc6=>?_) (fun hc6=>?_)
 ·rw [if_pos (by simpa using hc6)] at hR
  refine wr'<|mv' lki pt<|sn'<|Zaa<|Zap<|Zai<|Zaf rz<|rT'<|?_
  rw [hR]
 rw [if_neg (by simpa using hc6)] at hR
 refine Zae<|Zaz<|Zah<|wr'<|mv' lki pt<|sn'<|Zaa<|Zaf rz<|rT'<|?_
 rw [hR]
theorem Zj4 {y m d:Int}{h:AH}:Ac 35 [.agg [iv y,iv m,iv d]] h (.tup [iv (if Za9 y m d=true then num y m d else 0),iv (if Za9 y m d=true then 0 else 3)]):=days_a
def eraE (sh:Int) (rl:ByteArray) (sa:Int) (fm:ByteArray) (op:Bool) (y m d a c:Int) (last:Bool):Int :=
 if (rl≠⟨#[]⟩∧¬Zck rl=true)∨¬ZbS fm=true then 1
 else if ¬wi sh (-64800) 64800=true∨¬wi sa 0 10800=true then 3
 else if rl≠⟨#[]⟩∧sa≠0 then 1
 else if op≠last then 4
 else if op=true then (if ¬(y=0∧m=0∧d=0∧a=0∧c=0) then 1 else 0)
 else if ¬Za9 y m d=true then 3
 else if ¬wi a 0 172800=true then 3
 else if ¬clkB c false=true then 7 else 0
theorem era_b {rl fm:ByteArray}{sh sa y m d a c:Int}{op last:Bool}{h:AH}(hrl:rl.size≤maxLen) (hfm:fm.size≤maxLen):Ac 278 [.agg [iv sh,sv rl,iv sa,sv fm,bv op,iv y,iv m,iv d,iv a,iv c],bv last] h (iv (eraE sh rl sa fm op y m d a c last)):=by
 refine tI' k278 fun N hn hlt hlA hbd=>?_
 simp only [tb'] at hbd ⊢
 refine wr'<|E' (Zbj (cvl lk rfl) rfl (hl0 hn) ha0) pt<|mv' lki pt<|sn'<|Zam<|Zao<|wr'<|V' (Zac lk) pt<|V' (Zab lk (hga hn rfl) gt1) pt<|V' (Zcs lk lks) pt<|mv' lk pt<|?_
 refine sp' (t:=11) gt pt pt (fun hg11=>?_) (fun hg11=>?_)
 ·refine s_do gt<|V' (Zac lk) pt<|s_do gt<|V' (Zab lk (hga hn rfl) gt1) pt<|s_do gt<|Zad mp (ZkQ hrl) pt<|s_do gt<|V' (Zaw lk) pt<|V' (Zak lk lk) pt<|mv' lk pt<|?_
  refine ZaE (t:=17) gt pt pt (fun hg17=>?_) (fun hg17=>?_)
  ·refine s_no gt pt<|s_no gt pt<|s_no gt pt<|s_no gt pt<|V' (Zak lk lkb) pt<|mv' lk pt<|sn'<|ZaH lk<|wr'<|mv' lki pt<|sn'<|?_
   refine Zaa<|Zap<|Zai<|Zaf rz<|rT'<|?_
   refine ivx ?_;unfold eraE;simp_all
  refine s_do gt<|V' (Zac lk) pt<|s_do gt<|V' (Zab lk (hga hn rfl) gt3) pt<|s_do gt<|Zad mp (Znp hfm) pt<|s_do gt<|V' (Zaw lk) pt<|V' (Zag lk lk) pt<|mv' lk pt<|sn'<|?_
  refine Zau lk (fun hc1=>?_) (fun hc1=>?_)
  ·refine wr'<|mv' lki pt<|sn'<|Zaa<|Zap<|Zai<|Zaf rz<|rT'<|?_
   refine ivx ?_;unfold eraE;simp_all
  refine wr'<|V' (Zac lk) pt<|V' (Zab lk (hga hn rfl) gt0) pt<|Zad mp (ZbX) pt<|V' (Zaw lk) pt<|mv' lk pt<|?_
  refine ZaE (t:=28) gt pt pt (fun hg28=>?_) (fun hg28=>?_)
  ·refine s_no gt pt<|s_no gt pt<|s_no gt pt<|s_no gt pt<|V' (Zak lk lkb) pt<|mv' lk pt<|sn'<|ZaH lk<|wr'<|mv' lki pt<|sn'<|?_
   refine Zaa<|Zap<|Zai<|Zaf rz<|rT'<|?_
   refine ivx ?_;unfold eraE;simp_all
  refine s_do gt<|V' (Zac lk) pt<|s_do gt<|V' (Zab lk (hga hn rfl) gt2) pt<|s_do gt<|Zad mp (ZbX) pt<|s_do gt<|V' (Zaw lk) pt<|V' (Zag lk lk) pt<|mv' lk pt<|sn'<|?_
  refine Zau lk (fun hc2=>?_) (fun hc2=>?_)
  ·refine wr'<|mv' lki pt<|sn'<|Zaa<|Zap<|Zai<|Zaf rz<|rT'<|?_
   refine ivx ?_;unfold eraE;simp_all
  refine wr'<|V' (Zac lk) pt<|V' (Zab lk (hga hn rfl) gt1) pt<|V' (Zcs lk lks) pt<|mv' lk pt<|?_
  refine sp' (t:=38) gt pt pt (fun hg38=>?_) (fun hg38=>?_)
  ·refine s_do gt<|V' (Zac lk) pt<|s_do gt<|V' (Zab lk (hga hn rfl) gt2) pt<|s_do gt<|V' (Za1 lk lki) pt<|V' (Zak lk lk) pt<|mv' lk pt<|sn'<|?_
   refine cd' lk (fun hc3=>?_) (fun hc3=>?_)
   ·refine wr'<|mv' lki pt<|sn'<|Zaa<|Zap<|Zai<|Zaf rz<|rT'<|?_
    refine ivx ?_;unfold eraE;simp_all
   refine wr'<|V' (Zac lk) pt<|V' (Zab lk (hga hn rfl) gt4) pt<|mv' lk pt<|V' (Zdt lk lk) pt<|mv' lk pt<|sn'<|?_
   refine cd' lk (fun hc4=>?_) (fun hc4=>?_)
   ·refine wr'<|mv' lki pt<|sn'<|Zaa<|Zap<|Zai<|Zaf rz<|rT'<|?_
    refine ivx ?_;unfold eraE;simp_all
   refine wr'<|V' (Zac lk) pt<|V' (Zab lk (hga hn rfl) gt4) pt<|mv' lk pt<|sn'<|?_
   refine Zau lk (fun hc5=>?_) (fun hc5=>?_)
   ·refine Zam<|wr'<|V' (Zac lk) pt<|V' (Zaq lk (hga hn rfl) Ze7 rfl) pt<|V' (Zax Zen) pt<|V' (ZmL lk lk Zc6) pt<|sn'<|?_
    refine cd' lk (fun hc6=>?_) (fun hc6=>?_)
    ·refine wr'<|mv' lki pt<|sn'<|Zaa<|Zai<|Zap<|Zai<|Zaf rz<|rT'<|?_
     refine ivx ?_;unfold eraE;simp_all
    refine Zae<|Zah<|wr'<|mv' lki pt<|sn'<|Zaa<|Zap<|Zai<|Zaf rz<|rT'<|?_
    refine ivx ?_;unfold eraE;simp_all
   refine Zae<|Zaz<|Zah<|Zam<|wr'<|V' (Zac lk) pt<|V' (ZbE lk) pt<|V' (Zaq lk (hga hn rfl) Ze8 rfl) pt<|Zad mp (Zj4) pt<|mv' lk pt<|V' (Za3 lk gt) pt<|V' (Za3 lk gt) pt<|mv' lk pt<|?_
   refine mv' lk pt<|sn'<|wr'<|mv' lk pt<|V' (Za1 lk lki) pt<|sn'<|?_
   refine cd' lk (fun hc7=>?_) (fun hc7=>?_)
   ·refine wr'<|mv' lk pt<|mv' lk pt<|sn'<|Zaa<|Zai<|Zaf rz<|rT'<|?_
    refine ivx ?_;unfold eraE;simp_all
   refine Zae<|Zah<|Zam<|Zao<|wr'<|V' (Zac lk) pt<|V' (ZbE lk) pt<|V' (Zab lk (hga hn rfl) gt8) pt<|Zad mp (ZbX) pt<|V' (Zaw lk) pt<|mv' lk pt<|sn'<|?_
   refine Zau lk (fun hc8=>?_) (fun hc8=>?_)
   ·refine wr'<|mv' lki pt<|sn'<|Zaa<|Zap<|Zai<|Zaf rz<|rT'<|?_
    refine ivx ?_;unfold eraE;simp_all
   refine wr'<|V' (Zac lk) pt<|V' (ZbE lk) pt<|V' (Zab lk (hga hn rfl) gt9) pt<|Zad mp (ZhR) pt<|V' (Zaw lk) pt<|mv' lk pt<|sn'<|?_
   refine Zau lk (fun hc9=>?_) (fun hc9=>?_)
   ·refine wr'<|mv' lki pt<|sn'<|Zaa<|Zap<|Zai<|Zaf rz<|rT'<|?_
    refine ivx ?_;unfold eraE;simp_all
   refine Zae<|Zaz<|Zah<|wr'<|mv' lki pt<|sn'<|Zaa<|Zaf rz<|rT'<|?_
   refine ivx ?_;unfold eraE;simp_all
  refine s_no gt pt<|s_no gt pt<|s_no gt pt<|V' (Zag lk lkb) pt<|mv' lk pt<|sn'<|ZaM lk<|wr'<|V' (Zac lk) pt<|V' (Zab lk (hga hn rfl) gt4) pt<|mv' lk pt<|V' (Zdt lk lk) pt<|?_
  refine mv' lk pt<|sn'<|?_
  refine cd' lk (fun hc4=>?_) (fun hc4=>?_)
  ·refine wr'<|mv' lki pt<|sn'<|Zaa<|Zap<|Zai<|Zaf rz<|rT'<|?_
   refine ivx ?_;unfold eraE;simp_all
  refine wr'<|V' (Zac lk) pt<|V' (Zab lk (hga hn rfl) gt4) pt<|mv' lk pt<|sn'<|?_
  refine Zau lk (fun hc5=>?_) (fun hc5=>?_)
  ·refine Zam<|wr'<|V' (Zac lk) pt<|V' (Zaq lk (hga hn rfl) Ze7 rfl) pt<|V' (Zax Zen) pt<|V' (ZmL lk lk Zc6) pt<|sn'<|?_
   refine cd' lk (fun hc6=>?_) (fun hc6=>?_)
   ·refine wr'<|mv' lki pt<|sn'<|Zaa<|Zai<|Zap<|Zai<|Zaf rz<|rT'<|?_
    refine ivx ?_;unfold eraE;simp_all
   refine Zae<|Zah<|wr'<|mv' lki pt<|sn'<|Zaa<|Zap<|Zai<|Zaf rz<|rT'<|?_
   refine ivx ?_;unfold eraE;simp_all
  refine Zae<|Zaz<|Zah<|Zam<|wr'<|V' (Zac lk) pt<|V' (ZbE lk) pt<|V' (Zaq lk (hga hn rfl) Ze8 rfl) pt<|Zad mp (Zj4) pt<|mv' lk pt<|V' (Za3 lk gt) pt<|V' (Za3 lk gt) pt<|mv' lk pt<|?_
  refine mv' lk pt<|sn'<|wr'<|mv' lk pt<|V' (Za1 lk lki) pt<|sn'<|?_
  refine cd' lk (fun hc7=>?_) (fun hc7=>?_)
  ·refine wr'<|mv' lk pt<|mv' lk pt<|sn'<|Zaa<|Zai<|Zaf rz<|rT'<|?_
   refine ivx ?_;unfold eraE;simp_all
  refine Zae<|Zah<|Zam<|Zao<|wr'<|V' (Zac lk) pt<|V' (ZbE lk) pt<|V' (Zab lk (hga hn rfl) gt8) pt<|Zad mp (ZbX) pt<|V' (Zaw lk) pt<|mv' lk pt<|sn'<|?_
  refine Zau lk (fun hc8=>?_) (fun hc8=>?_)
  ·refine wr'<|mv' lki pt<|sn'<|Zaa<|Zap<|Zai<|Zaf rz<|rT'<|?_
   refine ivx ?_;unfold eraE;simp_all
  refine wr'<|V' (Zac lk) pt<|V' (ZbE lk) pt<|V' (Zab lk (hga hn rfl) gt9) pt<|Zad mp (ZhR) pt<|V' (Zaw lk) pt<|mv' lk pt<|sn'<|?_
  refine Zau lk (fun hc9=>?_) (fun hc9=>?_)
  ·refine wr'<|mv' lki pt<|sn'<|Zaa<|Zap<|Zai<|Zaf rz<|rT'<|?_
   refine ivx ?_;unfold eraE;simp_all
  refine Zae<|Zaz<|Zah<|wr'<|mv' lki pt<|sn'<|Zaa<|Zaf rz<|rT'<|?_
  refine ivx ?_;unfold eraE;simp_all
 refine s_no gt pt<|s_no gt pt<|s_no gt pt<|s_no gt pt<|V' (Zag lk lkb) pt<|mv' lk pt<|s_do gt<|V' (Zac lk) pt<|s_do gt<|V' (Zab lk (hga hn rfl) gt3) pt<|s_do gt<|Zad mp (Znp hfm) pt<|s_do gt<|V' (Zaw lk) pt<|?_
 refine V' (Zag lk lk) pt<|mv' lk pt<|sn'<|?_
 refine Zau lk (fun hc1=>?_) (fun hc1=>?_)
 ·refine wr'<|mv' lki pt<|sn'<|Zaa<|Zap<|Zai<|Zaf rz<|rT'<|?_
  refine ivx ?_;unfold eraE;simp_all
 refine wr'<|V' (Zac lk) pt<|V' (Zab lk (hga hn rfl) gt0) pt<|Zad mp (ZbX) pt<|V' (Zaw lk) pt<|mv' lk pt<|?_
 refine ZaE (t:=28) gt pt pt (fun hg28=>?_) (fun hg28=>?_)
 ·refine s_no gt pt<|s_no gt pt<|s_no gt pt<|s_no gt pt<|V' (Zak lk lkb) pt<|mv' lk pt<|sn'<|ZaH lk<|wr'<|mv' lki pt<|sn'<|?_
  refine Zaa<|Zap<|Zai<|Zaf rz<|rT'<|?_
  refine ivx ?_;unfold eraE;simp_all
 refine s_do gt<|V' (Zac lk) pt<|s_do gt<|V' (Zab lk (hga hn rfl) gt2) pt<|s_do gt<|Zad mp (ZbX) pt<|s_do gt<|V' (Zaw lk) pt<|V' (Zag lk lk) pt<|mv' lk pt<|sn'<|?_
 refine Zau lk (fun hc2=>?_) (fun hc2=>?_)
 ·refine wr'<|mv' lki pt<|sn'<|Zaa<|Zap<|Zai<|Zaf rz<|rT'<|?_
  refine ivx ?_;unfold eraE;simp_all
 refine wr'<|V' (Zac lk) pt<|V' (Zab lk (hga hn rfl) gt1) pt<|V' (Zcs lk lks) pt<|mv' lk pt<|?_
 refine sp' (t:=38) gt pt pt (fun hg38=>?_) (fun hg38=>?_)
 ·refine s_do gt<|V' (Zac lk) pt<|s_do gt<|V' (Zab lk (hga hn rfl) gt2) pt<|s_do gt<|V' (Za1 lk lki) pt<|V' (Zak lk lk) pt<|mv' lk pt<|sn'<|?_
  refine cd' lk (fun hc3=>?_) (fun hc3=>?_)
  ·refine wr'<|mv' lki pt<|sn'<|Zaa<|Zap<|Zai<|Zaf rz<|rT'<|?_
   refine ivx ?_;unfold eraE;simp_all
  refine wr'<|V' (Zac lk) pt<|V' (Zab lk (hga hn rfl) gt4) pt<|mv' lk pt<|V' (Zdt lk lk) pt<|mv' lk pt<|sn'<|?_
  refine cd' lk (fun hc4=>?_) (fun hc4=>?_)
  ·refine wr'<|mv' lki pt<|sn'<|Zaa<|Zap<|Zai<|Zaf rz<|rT'<|?_
   refine ivx ?_;unfold eraE;simp_all
  refine wr'<|V' (Zac lk) pt<|V' (Zab lk (hga hn rfl) gt4) pt<|mv' lk pt<|sn'<|?_
  refine Zau lk (fun hc5=>?_) (fun hc5=>?_)
  ·refine Zam<|wr'<|V' (Zac lk) pt<|V' (Zaq lk (hga hn rfl) Ze7 rfl) pt<|V' (Zax Zen) pt<|V' (ZmL lk lk Zc6) pt<|sn'<|?_
   refine cd' lk (fun hc6=>?_) (fun hc6=>?_)
   ·refine wr'<|mv' lki pt<|sn'<|Zaa<|Zai<|Zap<|Zai<|Zaf rz<|rT'<|?_
    refine ivx ?_;unfold eraE;simp_all
   refine Zae<|Zah<|wr'<|mv' lki pt<|sn'<|Zaa<|Zap<|Zai<|Zaf rz<|rT'<|?_
   refine ivx ?_;unfold eraE;simp_all
  refine Zae<|Zaz<|Zah<|Zam<|wr'<|V' (Zac lk) pt<|V' (ZbE lk) pt<|V' (Zaq lk (hga hn rfl) Ze8 rfl) pt<|Zad mp (Zj4) pt<|mv' lk pt<|V' (Za3 lk gt) pt<|V' (Za3 lk gt) pt<|mv' lk pt<|?_
  refine mv' lk pt<|sn'<|wr'<|mv' lk pt<|V' (Za1 lk lki) pt<|sn'<|?_
  refine cd' lk (fun hc7=>?_) (fun hc7=>?_)
  ·refine wr'<|mv' lk pt<|mv' lk pt<|sn'<|Zaa<|Zai<|Zaf rz<|rT'<|?_
   refine ivx ?_;unfold eraE;simp_all
  refine Zae<|Zah<|Zam<|Zao<|wr'<|V' (Zac lk) pt<|V' (ZbE lk) pt<|V' (Zab lk (hga hn rfl) gt8) pt<|Zad mp (ZbX) pt<|V' (Zaw lk) pt<|mv' lk pt<|sn'<|?_
  refine Zau lk (fun hc8=>?_) (fun hc8=>?_)
  ·refine wr'<|mv' lki pt<|sn'<|Zaa<|Zap<|Zai<|Zaf rz<|rT'<|?_
   refine ivx ?_;unfold eraE;simp_all
  refine wr'<|V' (Zac lk) pt<|V' (ZbE lk) pt<|V' (Zab lk (hga hn rfl) gt9) pt<|Zad mp (ZhR) pt<|V' (Zaw lk) pt<|mv' lk pt<|sn'<|?_
  refine Zau lk (fun hc9=>?_) (fun hc9=>?_)
  ·refine wr'<|mv' lki pt<|sn'<|Zaa<|Zap<|Zai<|Zaf rz<|rT'<|?_
   refine ivx ?_;unfold eraE;simp_all
  refine Zae<|Zaz<|Zah<|wr'<|mv' lki pt<|sn'<|Zaa<|Zaf rz<|rT'<|?_
  refine ivx ?_;unfold eraE;simp_all
 refine s_no gt pt<|s_no gt pt<|s_no gt pt<|V' (Zag lk lkb) pt<|mv' lk pt<|sn'<|ZaM lk<|wr'<|V' (Zac lk) pt<|V' (Zab lk (hga hn rfl) gt4) pt<|mv' lk pt<|V' (Zdt lk lk) pt<|?_
 refine mv' lk pt<|sn'<|?_
 refine cd' lk (fun hc4=>?_) (fun hc4=>?_)
 ·refine wr'<|mv' lki pt<|sn'<|Zaa<|Zap<|Zai<|Zaf rz<|rT'<|?_
  refine ivx ?_;unfold eraE;simp_all
 refine wr'<|V' (Zac lk) pt<|V' (Zab lk (hga hn rfl) gt4) pt<|mv' lk pt<|sn'<|?_
 refine Zau lk (fun hc5=>?_) (fun hc5=>?_)
 ·refine Zam<|wr'<|V' (Zac lk) pt<|V' (Zaq lk (hga hn rfl) Ze7 rfl) pt<|V' (Zax Zen) pt<|V' (ZmL lk lk Zc6) pt<|sn'<|?_
  refine cd' lk (fun hc6=>?_) (fun hc6=>?_)
  ·refine wr'<|mv' lki pt<|sn'<|Zaa<|Zai<|Zap<|Zai<|Zaf rz<|rT'<|?_
   refine ivx ?_;unfold eraE;simp_all
  refine Zae<|Zah<|wr'<|mv' lki pt<|sn'<|Zaa<|Zap<|Zai<|Zaf rz<|rT'<|?_
  refine ivx ?_;unfold eraE;simp_all
 refine Zae<|Zaz<|Zah<|Zam<|wr'<|V' (Zac lk) pt<|V' (ZbE lk) pt<|V' (Zaq lk (hga hn rfl) Ze8 rfl) pt<|Zad mp (Zj4) pt<|mv' lk pt<|V' (Za3 lk gt) pt<|V' (Za3 lk gt) pt<|mv' lk pt<|?_
 refine mv' lk pt<|sn'<|wr'<|mv' lk pt<|V' (Za1 lk lki) pt<|sn'<|?_
 refine cd' lk (fun hc7=>?_) (fun hc7=>?_)
 ·refine wr'<|mv' lk pt<|mv' lk pt<|sn'<|Zaa<|Zai<|Zaf rz<|rT'<|?_
  refine ivx ?_;unfold eraE;simp_all
 refine Zae<|Zah<|Zam<|Zao<|wr'<|V' (Zac lk) pt<|V' (ZbE lk) pt<|V' (Zab lk (hga hn rfl) gt8) pt<|Zad mp (ZbX) pt<|V' (Zaw lk) pt<|mv' lk pt<|sn'<|?_
 refine Zau lk (fun hc8=>?_) (fun hc8=>?_)
 ·refine wr'<|mv' lki pt<|sn'<|Zaa<|Zap<|Zai<|Zaf rz<|rT'<|?_
  refine ivx ?_;unfold eraE;simp_all
 refine wr'<|V' (Zac lk) pt<|V' (ZbE lk) pt<|V' (Zab lk (hga hn rfl) gt9) pt<|Zad mp (ZhR) pt<|V' (Zaw lk) pt<|mv' lk pt<|sn'<|?_
 refine Zau lk (fun hc9=>?_) (fun hc9=>?_)
 ·refine wr'<|mv' lki pt<|sn'<|Zaa<|Zap<|Zai<|Zaf rz<|rT'<|?_
  refine ivx ?_;unfold eraE;simp_all
 refine Zae<|Zaz<|Zah<|wr'<|mv' lki pt<|sn'<|Zaa<|Zaf rz<|rT'<|?_
 refine ivx ?_;unfold eraE;simp_all
abbrev eraX (x:Era) (last:Bool):Int:=eraE x.1 x.2.1 x.2.2.1 x.2.2.2.1 x.2.2.2.2.1 x.2.2.2.2.2.1.1 x.2.2.2.2.2.1.2.1 x.2.2.2.2.2.1.2.2 x.2.2.2.2.2.2.1 x.2.2.2.2.2.2.2 last
def ZfP:List Era→Int
 | []=>0
 | x::xs=>if eraX x xs.isEmpty≠0 then eraX x xs.isEmpty else ZfP xs
def Zeu (z:Zon):Int:=if ¬Zck z.1=true∨z.2.length=0 then 1 else ZfP z.2
def Zp5 (x:Era):Prop:=x.2.1.size≤maxLen∧x.2.2.2.1.size≤maxLen
theorem Znt {l:List Era}{k:Nat}(h:k<l.length):ZfP (l.drop k)=if eraX l[k] (decide ((k:Int)=(l.length:Int)-1))≠0 then eraX l[k] (decide ((k:Int)=(l.length:Int)-1)) else ZfP (l.drop (k+1)):=by
 have e:(l.drop (k+1)).isEmpty=decide ((k:Int)=(l.length:Int)-1):=by
  rw [Bool.eq_iff_iff,List.isEmpty_iff,List.drop_eq_nil_iff,decide_eq_true_iff];omega
 rw [List.drop_eq_getElem_cons h,ZfP,e]
theorem zone_b {nm:ByteArray}{l:List Era}{h:AH}(hnm:nm.size≤maxLen) (hl : ∀ x∈l,Zp5 x):Ac 207 [.agg [sv nm,.sl l.length 10 false (rows eraC l)]] h (iv (Zeu (nm,l))):=by
 refine tI' k207 fun N hn hlt hlA hbd=>?_
 simp only [tb'] at hbd ⊢
 refine wr'<|E' (Zbj (cvl lk rfl) rfl (hl0 hn) ha0) pt<|mv' lki pt<|sn'<|Zam<|wr'<|V' (Zac lk) pt<|V' (Zab lk (hga hn rfl) gt0) pt<|Zad mp (ZkQ hnm) pt<|V' (Zaw lk) pt<|mv' lk pt<|?_
 refine ZaE (t:=10) gt pt pt (fun hg10=>?_) (fun hg10=>?_)
 ·have hZ:Zeu (nm,l)=1:=if_pos (.inl (by simpa using hg10))
  refine s_no gt pt<|s_no gt pt<|s_no gt pt<|s_no gt pt<|V' (Zak lk lkb) pt<|sn'<|ZaH lk<|wr'<|mv' lki pt<|sn'<|Zaa<|?_
  refine Zai<|Zaf rz<|rT'<|?_
  rw [hZ]
 refine s_do gt<|V' (Zac lk) pt<|s_do gt<|V' (Zab lk (hga hn rfl) gt1) pt<|s_do gt<|V' (ZaP lk) pt<|s_do gt<|V' (ZaT lk lki) pt<|V' (Zag lk lk) pt<|sn'<|?_
 refine cd' lk (fun hc1=>?_) (fun hc1=>?_)
 ·have hZ:Zeu (nm,l)=1:=if_pos (.inr (by show l.length=0;omega))
  refine wr'<|mv' lki pt<|sn'<|Zaa<|Zai<|Zaf rz<|rT'<|?_
  rw [hZ]
 have hZ:Zeu (nm,l)=ZfP l:=if_neg (by rintro (h1 | h1);exact h1 (by simpa using hg10);exact hc1 (by show (l.length:Int)=0;have:l.length=0:=h1;omega))
 refine Zae<|Zah<|Zam<|wr'<|V' (Zac lk) pt<|V' (Zab lk (hga hn rfl) gt1) pt<|V' (ZaP lk) pt<|mv' lki pt<|sn'<|Zao<|?_
 refine w_lp (ι:=Nat) (fun (k:Nat)=>[(19,iv (k:Int))]++rn' 2 4++rn' 20 16) (fun (k:Nat)=>[]) (fun (k:Nat)=>k≤l.length∧ZfP l=ZfP (l.drop k)) (fun (k:Nat)=>l.length-k) (0) (by exact ⟨Nat.zero_le _,rfl⟩) ?_
 rintro k hi1
 try simp only [sm',Nat.reduceAdd]
 obtain ⟨hk1,hk2⟩:=hi1
 refine wr'<|V' (Zba lk lk) pt<|sn'<|Zam<|?_
 refine cd' lk (fun hc2=>?_) (fun hc2=>?_)
 ·have hk:k<l.length:=by omega
  have ho:=hl _ (List.getElem_mem hk)
  rw [Znt hk] at hk2
  refine Zae<|Zah<|Zam<|Zao<|wr'<|mv' lk pt<|?_
  refine V' (ZaY lk lk ZdB (nb' rfl) ro (by omega) ro rfl) pt ?_
  refine V' (ZaK lk ZoT rfl) pt<|E' (Za6 (hl1 hn) ha1) pt<|mv' lk pt<|E' (Zal lk (cvl lk rfl) (hga hn rfl) rfl (nb' rfl) rfl ZmF (hs1 hn)) ptn<|sn'<|wr'<|V' (Zaq lk (hga hn rfl) ZmD rfl) pt<|mv' lk pt<|V' (Zac lk) pt<|V' (Zab lk (hga hn rfl) gt1) pt<|V' (ZaP lk) pt<|?_
  refine V' (ZbD lk lki (by omega) (by omega)) pt ?_
  refine V' (ZaT lk lk) pt<|Zad mp (era_b (last:=decide ((k:Int)=(l.length:Int)-1)) ho.1 ho.2) pt<|mv' lk pt<|sn'<|wr'<|mv' lk pt<|V' (Za1 lk lki) pt<|sn'<|?_
  refine cd' lk (fun hc3=>?_) (fun hc3=>?_)
  ·have hc3':eraX l[k] (decide ((k:Int)=(l.length:Int)-1))≠0:=hc3
   rw [if_pos hc3'] at hk2
   refine wr'<|mv' lk pt<|mv' lk pt<|sn'<|Zaa<|Zap<|Zai<|Zai<|Zap<|Zai<|Zaf rz<|rT'<|?_
   rw [hZ,hk2]
  have hc3':¬eraX l[k] (decide ((k:Int)=(l.length:Int)-1))≠0:=hc3
  rw [if_neg hc3'] at hk2
  refine Zae<|Zaz<|Zah<|Zas<|?_
  refine V' (Zay lk lki (by omega) (by omega)) pt ?_
  refine mv' lk pt<|Zar<|ZaA<|?_
  refine lU' (k+1) (by (try dsimp only);exact ⟨by omega,hk2⟩) (by (try dsimp only);(try simp only [sm',Nat.reduceAdd]);exact bk' 1 hn hlt)
 rw [List.drop_of_length_le (by omega)] at hk2
 refine ZaO<|ZaF<|ZaF<|Za7<|Zah<|wr'<|mv' lki pt<|sn'<|Zaa<|Zaf rz<|rT'<|?_
 rw [hZ,hk2];rfl
def Za0 {α:Type}(p:α→Int):List α→Int
 | []=>0
 | x::xs=>if p x≠0 then p x else Za0 p xs
theorem Zdn {α:Type}{p:α→Int}{l:List α}{k:Nat}(h:k<l.length):Za0 p (l.drop k)=if p l[k]≠0 then p l[k] else Za0 p (l.drop (k+1)):=by
 rw [List.drop_eq_getElem_cons h,Za0]
theorem Zod {p:Rul→Int}{f:FuncId}{l:List Rul}(hp : ∀ x∈l,∀ h:AH,ACalls Tryz.prog f [.agg (rulC x)] h fun y h'=>h'=h∧y=.ret (iv (p x))) {h:AH}:Ac 205 [.sl l.length 11 false (rows rulC l),.v (.func (.func f) #[] #[])] h (iv (Za0 p l)):=by
 refine tI' k205 fun N hn hlt hlA hbd=>?_
 simp only [tb'] at hbd ⊢
 refine wr'<|mv' lki pt<|sn'<|Zam<|wr'<|mv' lk pt<|V' (ZaP lk) pt<|mv' lki pt<|sn'<|Zao<|?_
 refine w_lp (ι:=Nat) (fun (k:Nat)=>[(10,iv (k:Int)),(4,.any),(6,.any),(7,.any)]++rn' 11 10) (fun (k:Nat)=>[]) (fun (k:Nat)=>k≤l.length∧Za0 p l=Za0 p (l.drop k)) (fun (k:Nat)=>l.length-k) (0) (by exact ⟨Nat.zero_le _,rfl⟩) ?_
 rintro k hi1
 try simp only [sm',Nat.reduceAdd]
 obtain ⟨hk1,hk2⟩:=hi1
 refine wr'<|V' (Zba lk lk) pt<|sn'<|Zam<|?_
 refine cd' lk (fun hc1=>?_) (fun hc1=>?_)
 ·have hk:k<l.length:=by omega
  rw [Zdn hk] at hk2
  refine Zae<|Zah<|Zam<|Zao<|wr'<|?_
  refine V' (ZaY lk lk ZcS (nb' rfl) ro (by omega) ro rfl) pt ?_
  refine V' (ZaK lk ZoS rfl) pt<|E' (Za6 (hl0 hn) ha0) pt<|E' (Zal lk (cvl lk rfl) (hga hn rfl) rfl (nb' rfl) rfl ZmE (hs0 hn)) ptn<|sn'<|wr'<|mv' lk pt<|V' (Zaq lk (hga hn rfl) ZmC rfl) pt<|Zhx lk mp (hp _ (List.getElem_mem hk) _) pt<|mv' lk pt<|sn'<|Zam<|?_
  refine Zas<|mv' lk pt<|V' (Za1 lk lki) pt<|sn'<|?_
  refine cd' lk (fun hc2=>?_) (fun hc2=>?_)
  ·rw [if_pos hc2] at hk2
   refine wr'<|mv' lk pt<|mv' lk pt<|sn'<|Zaa<|Zap<|Zai<|Zai<|Zap<|Zai<|Zaf rz<|rT'<|?_
   rw [hk2]
  rw [if_neg hc2] at hk2
  refine Zae<|Zaz<|Zah<|Zas<|?_
  refine V' (Zay lk lki (by omega) (by omega)) pt ?_
  refine mv' lk pt<|Zar<|ZaA<|?_
  refine lU' (k+1) (by (try dsimp only);exact ⟨by omega,hk2⟩) (by (try dsimp only);(try simp only [sm',Nat.reduceAdd]);exact bk' 0 hn hlt)
 rw [List.drop_of_length_le (by omega)] at hk2
 refine ZaO<|ZaF<|ZaF<|Za7<|Zah<|wr'<|mv' lki pt<|sn'<|Zaa<|Zaf rz<|rT'<|?_
 rw [hk2];rfl
theorem Zoc {p:Zon→Int}{f:FuncId}{l:List Zon}(hp : ∀ x∈l,∀ h:AH,ACalls Tryz.prog f [.agg (zonC x)] h fun y h'=>h'=h∧y=.ret (iv (p x))) {h:AH}:Ac 206 [.sl l.length 2 false (rows zonC l),.v (.func (.func f) #[] #[])] h (iv (Za0 p l)):=by
 refine tI' k206 fun N hn hlt hlA hbd=>?_
 simp only [tb'] at hbd ⊢
 refine wr'<|mv' lki pt<|sn'<|Zam<|wr'<|mv' lk pt<|V' (ZaP lk) pt<|mv' lki pt<|sn'<|Zao<|?_
 refine w_lp (ι:=Nat) (fun (k:Nat)=>[(10,iv (k:Int)),(4,.any),(6,.any),(7,.any)]++rn' 11 10) (fun (k:Nat)=>[]) (fun (k:Nat)=>k≤l.length∧Za0 p l=Za0 p (l.drop k)) (fun (k:Nat)=>l.length-k) (0) (by exact ⟨Nat.zero_le _,rfl⟩) ?_
 rintro k hi1
 try simp only [sm',Nat.reduceAdd]
 obtain ⟨hk1,hk2⟩:=hi1
 refine wr'<|V' (Zba lk lk) pt<|sn'<|Zam<|?_
 refine cd' lk (fun hc1=>?_) (fun hc1=>?_)
 ·have hk:k<l.length:=by omega
  rw [Zdn hk] at hk2
  refine Zae<|Zah<|Zam<|Zao<|wr'<|?_
  refine V' (ZaY lk lk Zcc (nb' rfl) ro (by omega) ro rfl) pt ?_
  refine V' (ZaK lk Zib rfl) pt<|E' (Za6 (hl0 hn) ha0) pt<|E' (Zal lk (cvl lk rfl) (hga hn rfl) rfl (nb' rfl) rfl ZgK (hs0 hn)) ptn<|sn'<|wr'<|mv' lk pt<|V' (Zaq lk (hga hn rfl) Zjj rfl) pt<|Zhx lk mp (hp _ (List.getElem_mem hk) _) pt<|mv' lk pt<|sn'<|Zam<|?_
  refine Zas<|mv' lk pt<|V' (Za1 lk lki) pt<|sn'<|?_
  refine cd' lk (fun hc2=>?_) (fun hc2=>?_)
  ·rw [if_pos hc2] at hk2
   refine wr'<|mv' lk pt<|mv' lk pt<|sn'<|Zaa<|Zap<|Zai<|Zai<|Zap<|Zai<|Zaf rz<|rT'<|?_
   rw [hk2]
  rw [if_neg hc2] at hk2
  refine Zae<|Zaz<|Zah<|Zas<|?_
  refine V' (Zay lk lki (by omega) (by omega)) pt ?_
  refine mv' lk pt<|Zar<|ZaA<|?_
  refine lU' (k+1) (by (try dsimp only);exact ⟨by omega,hk2⟩) (by (try dsimp only);(try simp only [sm',Nat.reduceAdd]);exact bk' 0 hn hlt)
 rw [List.drop_of_length_le (by omega)] at hk2
 refine ZaO<|ZaF<|ZaF<|Za7<|Zah<|wr'<|mv' lki pt<|sn'<|Zaa<|Zaf rz<|rT'<|?_
 rw [hk2];rfl
theorem ZiU {p:Lnk→Int}{f:FuncId}{l:List Lnk}(hp : ∀ x∈l,∀ h:AH,ACalls Tryz.prog f [.agg (lnkC x)] h fun y h'=>h'=h∧y=.ret (iv (p x))) {h:AH}:Ac 208 [.sl l.length 2 false (rows lnkC l),.v (.func (.func f) #[] #[])] h (iv (Za0 p l)):=by
 refine tI' k208 fun N hn hlt hlA hbd=>?_
 simp only [tb'] at hbd ⊢
 refine wr'<|mv' lki pt<|sn'<|Zam<|wr'<|mv' lk pt<|V' (ZaP lk) pt<|mv' lki pt<|sn'<|Zao<|?_
 refine w_lp (ι:=Nat) (fun (k:Nat)=>[(10,iv (k:Int)),(4,.any),(6,.any),(7,.any)]++rn' 11 10) (fun (k:Nat)=>[]) (fun (k:Nat)=>k≤l.length∧Za0 p l=Za0 p (l.drop k)) (fun (k:Nat)=>l.length-k) (0) (by exact ⟨Nat.zero_le _,rfl⟩) ?_
 rintro k hi1
 try simp only [sm',Nat.reduceAdd]
 obtain ⟨hk1,hk2⟩:=hi1
 refine wr'<|V' (Zba lk lk) pt<|sn'<|Zam<|?_
 refine cd' lk (fun hc1=>?_) (fun hc1=>?_)
 ·have hk:k<l.length:=by omega
  rw [Zdn hk] at hk2
  refine Zae<|Zah<|Zam<|Zao<|wr'<|?_
  refine V' (ZaY lk lk ZcT (nb' rfl) ro (by omega) ro rfl) pt ?_
  refine V' (ZaK lk Zib rfl) pt<|E' (Za6 (hl0 hn) ha0) pt<|E' (Zal lk (cvl lk rfl) (hga hn rfl) rfl (nb' rfl) rfl ZgK (hs0 hn)) ptn<|sn'<|wr'<|mv' lk pt<|V' (Zaq lk (hga hn rfl) Zjj rfl) pt<|Zhx lk mp (hp _ (List.getElem_mem hk) _) pt<|mv' lk pt<|sn'<|Zam<|?_
  refine Zas<|mv' lk pt<|V' (Za1 lk lki) pt<|sn'<|?_
  refine cd' lk (fun hc2=>?_) (fun hc2=>?_)
  ·rw [if_pos hc2] at hk2
   refine wr'<|mv' lk pt<|mv' lk pt<|sn'<|Zaa<|Zap<|Zai<|Zai<|Zap<|Zai<|Zaf rz<|rT'<|?_
   rw [hk2]
  rw [if_neg hc2] at hk2
  refine Zae<|Zaz<|Zah<|Zas<|?_
  refine V' (Zay lk lki (by omega) (by omega)) pt ?_
  refine mv' lk pt<|Zar<|ZaA<|?_
  refine lU' (k+1) (by (try dsimp only);exact ⟨by omega,hk2⟩) (by (try dsimp only);(try simp only [sm',Nat.reduceAdd]);exact bk' 0 hn hlt)
 rw [List.drop_of_length_le (by omega)] at hk2
 refine ZaO<|ZaF<|ZaF<|Za7<|Zah<|wr'<|mv' lki pt<|sn'<|Zaa<|Zaf rz<|rT'<|?_
 rw [hk2];rfl
def Zes (s:Src):Bool:=s.2.1.any (fun z=>decide (8<z.2.length))||decide (40<s.1.length)||decide (20<s.2.1.length)||decide (20<s.2.2.length)
theorem many_b {a:List Rul}{z:List Zon}{l:List Lnk}{h:AH}:Ac 204 [.agg [.sl a.length 11 false (rows rulC a),.sl z.length 2 false (rows zonC z),.sl l.length 2 false (rows lnkC l)]] h (bv (Zes (a,z,l))):=by
 refine tI' k204 fun N hn hlt hlA hbd=>?_
 simp only [tb'] at hbd ⊢
 refine wr'<|E' (Zbj (cvl lk rfl) rfl (hl0 hn) ha0) pt<|mv' lkb pt<|sn'<|Zam<|wr'<|V' (Zac lk) pt<|V' (Zab lk (hga hn rfl) gt1) pt<|V' (ZaP lk) pt<|mv' lki pt<|Zar<|?_
 refine Zah<|Zao<|?_
 refine w_lp (ι:=Nat) (fun (k:Nat)=>[(8,iv (k:Int)),(2,.any),(4,.any)]++rn' 9 8) (fun (k:Nat)=>[]) (fun (k:Nat)=>k≤z.length∧(z.take k).any (fun z=>decide (8<z.2.length))=false) (fun (k:Nat)=>z.length-k) (0) (by exact ⟨Nat.zero_le _,rfl⟩) ?_
 rintro k hi1
 try simp only [sm',Nat.reduceAdd]
 obtain ⟨hk1,hk2⟩:=hi1
 refine wr'<|V' (Zba lk lk) pt<|sn'<|Zam<|?_
 refine cd' lk (fun hc1=>?_) (fun hc1=>?_)
 ·have hk:k<z.length:=by omega
  refine Zae<|Zah<|Zam<|Zao<|wr'<|?_
  refine V' (ZaY lk lk Zcc (nb' rfl) ro (by omega) ro rfl) pt ?_
  refine V' (ZaK lk Zib rfl) pt<|E' (Za6 (hl1 hn) ha1) pt<|E' (Zal lk (cvl lk rfl) (hga hn rfl) rfl (nb' rfl) rfl ZgK (hs1 hn)) ptn<|sn'<|wr'<|V' (Zac lk) pt<|V' (Zab lk (hga hn rfl) gt1) pt<|?_
  refine V' ((by first | exact ZaP lk | exact Zds lk)) pt ?_
  refine V' (ZbV lk lki) pt<|sn'<|?_
  refine cd' lk (fun hc2=>?_) (fun hc2=>?_)
  ·have hA:z.any (fun z=>decide (8<z.2.length))=true:=List.any_eq_true.2 ⟨z[k],List.getElem_mem hk,decide_eq_true (by omega)⟩
   refine wr'<|mv' lkb pt<|sn'<|Zaa<|Zap<|Zai<|Zai<|Zap<|Zai<|Zaf rz<|rT'<|?_
   refine bvx ?_;unfold Zes;rw [hA];simp
  refine Zae<|Zaz<|Zah<|Zas<|?_
  refine V' (Zay lk lki (by omega) (by omega)) pt ?_
  refine mv' lk pt<|Zar<|ZaA<|?_
  refine lU' (k+1) (by (try dsimp only);exact ⟨by omega,by rw [List.take_succ_eq_append_getElem hk,List.any_append,hk2];simp;omega⟩) (by (try dsimp only);(try simp only [sm',Nat.reduceAdd]);exact bk' 1 hn hlt)
 rw [List.take_of_length_le (by omega)] at hk2
 refine ZaO<|ZaF<|ZaF<|Za7<|Zah<|wr'<|V' (Zac lk) pt<|V' (Zab lk (hga hn rfl) gt0) pt<|V' (ZaP lk) pt<|V' (ZbV lk lki) pt<|mv' lk pt<|?_
 refine sp' (t:=21) gt pt pt (fun hg21=>?_) (fun hg21=>?_)
 ·refine s_no gt pt<|s_no gt pt<|s_no gt pt<|s_no gt pt<|V' (Zak lk lkb) pt<|mv' lk pt<|s_no gt pt<|s_no gt pt<|s_no gt pt<|s_no gt pt<|V' (Zak lk lkb) pt<|mv' lk pt<|sn'<|?_
  refine Zaa<|Zaf rz<|rT'<|?_
  refine bvx ?_;unfold Zes;rw [hk2];rw [Bool.eq_iff_iff];simp;omega
 refine s_do gt<|V' (Zac lk) pt<|s_do gt<|V' (Zab lk (hga hn rfl) gt1) pt<|s_do gt<|V' (ZaP lk) pt<|s_do gt<|V' (ZbV lk lki) pt<|V' (Zag lk lk) pt<|mv' lk pt<|?_
 refine sp' (t:=27) gt pt pt (fun hg27=>?_) (fun hg27=>?_)
 ·refine s_no gt pt<|s_no gt pt<|s_no gt pt<|s_no gt pt<|V' (Zak lk lkb) pt<|mv' lk pt<|sn'<|Zaa<|Zaf rz<|rT'<|?_
  refine bvx ?_;unfold Zes;rw [hk2];rw [Bool.eq_iff_iff];simp;omega
 refine s_do gt<|V' (Zac lk) pt<|s_do gt<|V' (Zab lk (hga hn rfl) gt2) pt<|s_do gt<|V' (ZaP lk) pt<|s_do gt<|V' (ZbV lk lki) pt<|V' (Zag lk lk) pt<|mv' lk pt<|sn'<|Zaa<|Zaf rz<|?_
 refine rT' ?_
 refine bvx ?_;unfold Zes;rw [hk2];rw [Bool.eq_iff_iff];simp;omega
def Zdk (s:Src):Prop:=(∀ r∈s.1,r.1.size≤maxLen∧r.2.2.2.2.2.2.2.2.size≤maxLen)∧(∀ z∈s.2.1,z.1.size≤maxLen ∧ ∀ x∈z.2,Zp5 x) ∧ ∀ l∈s.2.2,l.1.size≤maxLen∧l.2.size≤maxLen
def ZbG (s:Src):Int:=if Zes s=true then 2 else if Za0 Zbm s.1≠0 then Za0 Zbm s.1 else if Za0 Zeu s.2.1≠0 then Za0 Zeu s.2.1 else Za0 Zec s.2.2
theorem scheck_b {a:List Rul}{z:List Zon}{l:List Lnk}{h:AH}(hok:Zdk (a,z,l)):Ac 132 [.agg [.sl a.length 11 false (rows rulC a),.sl z.length 2 false (rows zonC z),.sl l.length 2 false (rows lnkC l)]] h (iv (ZbG (a,z,l))):=by
 have p1 : ∀ x∈a,∀ h:AH,ACalls Tryz.prog 156 [.agg (rulC x)] h fun y h'=>h'=h∧y=.ret (iv (Zbm x)):=fun x hx h=>rule_b (hok.1 x hx).1 (hok.1 x hx).2
 have p2 : ∀ x∈z,∀ h:AH,ACalls Tryz.prog 207 [.agg (zonC x)] h fun y h'=>h'=h∧y=.ret (iv (Zeu x)):=fun x hx h=>zone_b (hok.2.1 x hx).1 (hok.2.1 x hx).2
 have p3 : ∀ x∈l,∀ h:AH,ACalls Tryz.prog 209 [.agg (lnkC x)] h fun y h'=>h'=h∧y=.ret (iv (Zec x)):=fun x hx h=>link_b (hok.2.2 x hx).1 (hok.2.2 x hx).2
 refine tI' k132 fun N hn hlt hlA hbd=>?_
 simp only [tb'] at hbd ⊢
 refine wr'<|E' (Zbj (cvl lk rfl) rfl (hl0 hn) ha0) pt<|mv' lki pt<|sn'<|Zam<|wr'<|V' (Zaq lk (hga hn rfl) ZoV rfl) pt<|Zad mp (many_b) pt<|sn'<|?_
 refine Zau lk (fun hc1=>?_) (fun hc1=>?_)
 ·refine wr'<|mv' lki pt<|sn'<|Zaa<|Zai<|Zaf rz<|rT'<|?_
  refine ivx ?_;unfold ZbG;simp_all
 refine Zae<|Zah<|wr'<|V' (Zac lk) pt<|V' (Zab lk (hga hn rfl) gt0) pt<|Zad mp (Zod p1) pt<|mv' lk pt<|sn'<|Zam<|wr'<|mv' lk pt<|?_
 refine V' (ZaT lk lki) pt<|sn'<|?_
 refine cd' lk (fun hc2=>?_) (fun hc2=>?_)
 ·refine Zas<|V' (Zac lk) pt<|V' (Zab lk (hga hn rfl) gt1) pt<|Zad mp (Zoc p2) pt<|mv' lk pt<|sn'<|Zam<|wr'<|mv' lk pt<|V' (ZaT lk lki) pt<|sn'<|?_
  refine cd' lk (fun hc3=>?_) (fun hc3=>?_)
  ·refine Zas<|V' (Zac lk) pt<|V' (Zab lk (hga hn rfl) gt2) pt<|Zad mp (ZiU p3) pt<|mv' lk pt<|sn'<|wr'<|mv' lk pt<|mv' lk pt<|sn'<|Zaa<|?_
   refine Zaf rz<|rT'<|?_
   refine ivx ?_;unfold ZbG;simp_all
  refine Zae<|Zah<|wr'<|mv' lk pt<|mv' lk pt<|sn'<|Zaa<|Zaf rz<|rT'<|?_
  refine ivx ?_;unfold ZbG;simp_all
 refine Zae<|Zah<|Zam<|wr'<|mv' lk pt<|V' (ZaT lk lki) pt<|sn'<|?_
 refine cd' lk (fun hc3=>?_) (fun hc3=>?_)
 ·refine Zas<|V' (Zac lk) pt<|V' (Zab lk (hga hn rfl) gt2) pt<|Zad mp (ZiU p3) pt<|mv' lk pt<|sn'<|wr'<|mv' lk pt<|mv' lk pt<|sn'<|Zaa<|?_
  refine Zaf rz<|rT'<|?_
  refine ivx ?_;unfold ZbG;simp_all
 refine Zae<|Zah<|wr'<|mv' lk pt<|mv' lk pt<|sn'<|Zaa<|Zaf rz<|rT'<|?_
 refine ivx ?_;unfold ZbG;simp_all
end Go.Proofs.YtlekejpogddndaaGreatDoor
end
section
namespace Go.Proofs.YtlekejpogddndaaGreatDoor
open Go.Ab Civ
abbrev Trn:=Int×Rul
abbrev Tim:=Int×Int×ByteArray
abbrev trnC (t:Trn):List AV:=iv t.1::rulC t.2
abbrev timC (t:Tim):List AV:=[iv t.1,iv t.2.1,sv t.2.2]
theorem Zkp {n:Nat}(l:List Trn):AV.ltL n (rows trnC l)=true:=Zdj (fun n x=>by simp [AV.ltL,AV.lt]) l
theorem ZdM {n:Nat}(l:List Tim):AV.ltL n (rows timC l)=true:=Zdj (fun n x=>by simp [AV.ltL,AV.lt]) l
theorem Zfz : ∀ x,(trnC x).length=12:=fun _=>rfl
theorem ZmV : ∀ x,(timC x).length=3:=fun _=>rfl
theorem trn_len (l:List Trn):(rows trnC l).length=l.length*12:=ZaX Zfz l
theorem Zjs (l:List Tim):(rows timC l).length=l.length*3:=ZaX ZmV l
instance decTim:DecidableEq Tim:=inferInstance
abbrev rFr (r:Rul):Int:=r.2.1
abbrev rTo (r:Rul):Int:=r.2.2.1
abbrev rDy (r:Rul) (y:Int):Int:=Zc1 y r.2.2.2.1 r.2.2.2.2.1.1 r.2.2.2.2.1.2.1 r.2.2.2.2.1.2.2
abbrev rAt (r:Rul):Int:=r.2.2.2.2.2.1
abbrev rCk (r:Rul):Int:=r.2.2.2.2.2.2.1
abbrev rSv (r:Rul):Int:=r.2.2.2.2.2.2.2.1
abbrev rLt (r:Rul):ByteArray:=r.2.2.2.2.2.2.2.2
def Zhm (r:Rul) (y:Int):Int:=rDy r y*86400+rAt r
def Zis (a b:Int):List Int:=(List.range (b+1-a).toNat).map fun (k:Nat)=>a+(k:Int)
def ZcF (r:Rul):List Trn:=(Zis (rFr r) (rTo r)).map fun y=>(Zhm r y,r)
def Za2 (l:List Rul) (nm:ByteArray):List Trn:=l.flatMap fun r=>if r.1=nm then ZcF r else []
def offV (r:Rul) (sh sa:Int):Int:=if rCk r=1 then sh+sa else if rCk r=2 then sh else 0
def timV (sh sa:Int) (t:Trn):Tim:=(t.1-offV t.2 sh sa,rSv t.2,rLt t.2)
def outV (sh:Int):Int→List Trn→List Tim
 | _,[]=>[]
 | sa,t::l=>timV sh sa t::outV sh (rSv t.2) l
def gapB:List Trn→Bool
 | a::b::l=>decide (b.1-a.1<172800)||gapB (b::l)
 | _=>false
def srtT (l:List Trn):List Trn:=l.mergeSort fun a b=>decide (a.1≤b.1)
def ZcG (l:List Rul) (nm:ByteArray) (sh:Int):Int :=
 if 40<l.length then 2 else if Za0 Zbm l≠0 then Za0 Zbm l else if sh < -64800∨sh>64800 then 3
 else if l.any (fun r=>decide (r.1=nm))=false then 5 else 0
def ZaW (l:List Rul) (nm:ByteArray) (sh:Int):List Tim×Int :=
 if ZcG l nm sh≠0 then ([],ZcG l nm sh)
 else if gapB (srtT (Za2 l nm))=true then ([],4)
 else if 1000<(Za2 l nm).length then ([],2) else (outV sh 0 (srtT (Za2 l nm)),0)
theorem Zjx (l:List Trn):(srtT l).Perm l:=List.mergeSort_perm l _
theorem ZnT (l:List Trn):(srtT l).Pairwise fun a b=>a.1≤b.1:=by
 have h:=List.pairwise_mergeSort (le:=fun a b:Trn=>decide (a.1≤b.1)) (fun a b c h1 h2=>by simp at *;omega) (fun a b=>by simp;omega) l
 exact h.imp fun h=>by simpa using h
theorem srt_len (l:List Trn):(srtT l).length=l.length:=List.length_mergeSort l
theorem ZfN {a b:Trn}{l:List Trn}:gapB (a::b::l)=(decide (b.1-a.1<172800)||gapB (b::l)):=rfl
theorem Zn5 {l m:List Trn}(hp:l.Perm m) (h1:l.Pairwise fun a b=>a.1≤b.1) (h2:m.Pairwise fun a b=>a.1≤b.1):l.map (·.1)=m.map (·.1):=by
 refine List.Perm.eq_of_pairwise (le:=fun a b:Int=>a≤b) (fun a b _ _ h1 h2=>by omega) ?_ ?_ (hp.map _)
 ·exact List.pairwise_map.2 h1
 ·exact List.pairwise_map.2 h2
def gapI:List Int→Bool
 | a::b::l=>decide (b-a<172800)||gapI (b::l)
 | _=>false
theorem ZjQ : ∀ l:List Trn,gapB l=gapI (l.map (·.1))
 | []=>rfl
 | [_]=>rfl
 | a::b::l=>by rw [ZfN,ZjQ (b::l)];rfl
theorem Zgr : ∀ {l:List Trn},gapB l=false→l.Pairwise (fun a b=>a.1≤b.1)→l.Pairwise fun a b=>a.1<b.1
 | [],_,_=>.nil
 | [a],_,_=>by simp
 | a::b::l,h,hp=>by
  rw [ZfN,Bool.or_eq_false_iff] at h
  have h1:¬b.1-a.1<172800:=by simpa using h.1
  rw [List.pairwise_cons] at hp
  have ih:=Zgr h.2 hp.2
  refine List.pairwise_cons.2 ⟨fun x hx=>?_,ih⟩
  rcases List.mem_cons.1 hx with rfl | hx
  ·omega
  ·have:=(List.pairwise_cons.1 hp.2).1 x hx;omega
theorem gap_uniq {l m:List Trn}(hp:l.Perm m) (h1:l.Pairwise fun a b=>a.1≤b.1) (h2:m.Pairwise fun a b=>a.1≤b.1):gapB l=gapB m∧(gapB l=false→l=m):=by
 have e:gapB l=gapB m:=by rw [ZjQ,ZjQ,Zn5 hp h1 h2]
 refine ⟨e,fun h=>?_⟩
 exact List.Perm.eq_of_pairwise (le:=fun a b:Trn=>a.1<b.1) (fun a b _ _ h1 h2=>by omega) (Zgr h h1) (Zgr (e ▸ h) h2) hp
theorem ZjR : ∀ l:List Trn,gapB l=false ↔ ∀ i (h:i+1<l.length),172800≤l[i+1].1-l[i].1
 | []=>by simp [gapB]
 | [_]=>by simp [gapB]
 | a::b::l=>by
  rw [ZfN,Bool.or_eq_false_iff,ZjR (b::l)]
  constructor
  ·rintro ⟨h1,h2⟩ i hi
   cases i with
   | zero=>simp at h1 ⊢;omega
   | succ i=>exact h2 i (by simpa using hi)
  ·intro h
   refine ⟨?_,fun i hi=>h (i+1) (by simpa using hi)⟩
   have:=h 0 (by simp)
   simp at this ⊢;omega
theorem Zqw {l:List Trn}{i:Nat}(h:i+1<l.length) (hg:l[i+1].1-l[i].1<172800):gapB l=true:=by
 by_cases e:gapB l=true
 ·exact e
 ·have:=(ZjR l).1 (by simpa using e) i h;omega
def svAt (l:List Trn) (i:Nat):Int:=match i with
 | 0=>0
 | i+1=>match l[i]? with
  | some t=>rSv t.2
  | none=>0
theorem Zhv {l:List Trn}{i:Nat}(h:i<l.length):svAt l (i+1)=rSv l[i].2:=by
 show (match l[i]? with | some t=>rSv t.2 | none=>0)=_
 rw [List.getElem?_eq_getElem h]
def lastS:Int→List Trn→Int
 | sa,[]=>sa
 | _,t::l=>lastS (rSv t.2) l
theorem ZiN : ∀ (l:List Trn) (t:Trn) (sa:Int),lastS sa (l++[t])=rSv t.2
 | [],t,sa=>rfl
 | u::l,t,sa=>ZiN l t (rSv u.2)
theorem Zm7 : ∀ (l m:List Trn) (sh sa:Int),outV sh sa (l++m)=outV sh sa l++outV sh (lastS sa l) m
 | [],m,sh,sa=>rfl
 | t::l,m,sh,sa=>by rw [List.cons_append,outV,Zm7 l m,outV,List.cons_append];rfl
theorem ZkL {l:List Trn}{i:Nat}(h:i<l.length) (sh:Int):outV sh 0 (l.take (i+1))=outV sh 0 (l.take i)++[timV sh (svAt l i) l[i]]:=by
 rw [List.take_succ_eq_append_getElem h,Zm7]
 congr 1
 rw [outV,outV]
 cases i with
 | zero=>rfl
 | succ i=>rw [Zhv (by omega),List.take_succ_eq_append_getElem (i:=i) (by omega),ZiN]
theorem ZfK : ∀ (l:List Trn) (sh sa:Int),(outV sh sa l).length=l.length
 | [],_,_=>rfl
 | t::l,sh,sa=>by rw [outV,List.length_cons,ZfK l,List.length_cons]
theorem Zce {r:Rul}(h:Zbm r=0):1900≤rFr r∧rFr r≤rTo r∧rTo r≤2100∧(1≤r.2.2.2.1∧r.2.2.2.1≤12)∧ZbN 2001 r.2.2.2.1 r.2.2.2.2.1.1 r.2.2.2.2.1.2.1 r.2.2.2.2.1.2.2=0∧(0≤rAt r∧rAt r≤172800)∧clkB (rCk r) true=true∧(0≤rSv r∧rSv r≤10800):=by
 unfold Zbm at h
 split at h
 ·omega
 split at h
 ·omega
 rename_i h2
 split at h
 ·rename_i h3;exact absurd h h3
 rename_i h3
 split at h
 ·omega
 rename_i h4
 split at h
 ·omega
 rename_i h5
 split at h
 ·omega
 rename_i h6
 have w1:wi r.2.2.2.1 1 12=true:=Decidable.of_not_not fun e=>h2 (.inr (.inr (.inr e)))
 refine ⟨show 1900≤r.2.1 by omega,show r.2.1≤r.2.2.1 by omega,show r.2.2.1≤2100 by omega,Zbs.1 w1,?_,Zbs.1 (Decidable.of_not_not h4),Decidable.of_not_not h5,Zbs.1 (Decidable.of_not_not h6)⟩
 by_cases e:ZbN 2001 r.2.2.2.1 r.2.2.2.2.1.1 r.2.2.2.2.1.2.1 r.2.2.2.2.1.2.2=0
 ·exact e
 ·exact absurd (Decidable.of_not_not h3) (by rw [ZiG rfl e];exact e)
theorem Zqc (m y:Int):mlen 2001 m≤mlen y m:=by
 have:=ZlV y
 have e:lp 2001=0:=by decide
 unfold mlen;rw [e];split <;> (try split) <;> (try split) <;> (try split) <;> (try split) <;> omega
theorem Zqx {m k w n y:Int}(h:ZbN 2001 m k w n=0) (hy:1≤y∧y≤9999):ZbN y m k w n=0:=by
 obtain ⟨_,h2,h3,h4,h5,h6,h7⟩:=ZjS h
 have:=Zqc m y
 unfold ZbN
 repeat' split
 all_goals omega
theorem onDay_bd {m k w n y:Int}(h:ZbN y m k w n=0) (hy:1900≤y∧y≤2100) : -30000≤Zc1 y m k w n∧Zc1 y m k w n≤50000:=by
 obtain ⟨h1,h2,h3,h4,h5,h6,h7⟩:=ZjS h
 have hm:=ZdJ y m
 have a:=Zel (a:=1900) (b:=y) hy.1
 have b:=Zel (a:=y) (b:=2100) hy.2
 have c:=Zlb (y:=y) (m:=m) h2.1 (by omega)
 have e1:bef 1900=693595:=by decide
 have e2:bef 2100=766644:=by decide
 unfold Zc1 fwd bwd num
 repeat' split
 all_goals omega
theorem ZlT {r:Rul}(h:Zbm r=0) {y:Int}(hy:1900≤y∧y≤2100):onV y r.2.2.2.1 r.2.2.2.2.1.1 r.2.2.2.2.1.2.1 r.2.2.2.2.1.2.2=(ZbL (rDy r y),0) ∧ -30000≤rDy r y∧rDy r y≤50000:=by
 obtain ⟨_,_,_,_,h5,_⟩:=Zce h
 have hf:=Zqx (y:=y) h5 (by omega)
 have hb:=onDay_bd hf hy
 exact ⟨by rw [ZhF hf rfl,if_pos (by omega)],hb⟩
theorem Zpi {r:Rul}(h:Zbm r=0) {y:Int}(hy:1900≤y∧y≤2100) : -2592000000≤Zhm r y∧Zhm r y≤4320172800:=by
 have:=(ZlT h hy).2
 obtain ⟨_,_,_,_,_,h6,_⟩:=Zce h
 unfold Zhm;omega
theorem Zc9 {α:Type}{p:α→Int} : ∀ {l:List α},Za0 p l=0 → ∀ x∈l,p x=0
 | [],_,x,hx=>by cases hx
 | a::l,h,x,hx=>by
  rw [Za0] at h
  split at h
  ·rename_i h1;exact absurd h h1
  ·rename_i h1
   rcases List.mem_cons.1 hx with rfl | hx
   ·exact Decidable.of_not_not h1
   ·exact Zc9 h x hx
theorem ZfH {l:List Rul}{nm:ByteArray}{sh:Int}(h:ZcG l nm sh=0):l.length≤40∧(∀ r∈l,Zbm r=0)∧(-64800≤sh∧sh≤64800) ∧ ∃ r∈l,r.1=nm:=by
 unfold ZcG at h
 split at h
 ·omega
 split at h
 ·rename_i h1;exact absurd h h1
 rename_i h1
 split at h
 ·omega
 split at h
 ·omega
 rename_i h2
 refine ⟨by omega,Zc9 (Decidable.of_not_not h1),by omega,?_⟩
 have h3:l.any (fun r=>decide (r.1=nm))=true:=by simpa using h2
 simpa using h3
theorem ZkT {a b y:Int}:y∈Zis a b↔a≤y∧y≤b:=by
 unfold Zis
 simp only [List.mem_map,List.mem_range]
 constructor
 ·rintro ⟨k,hk,rfl⟩;omega
 ·intro h;exact ⟨(y-a).toNat,by omega,by omega⟩
theorem Zkl (a b:Int):(Zis a b).length=(b+1-a).toNat:=by simp [Zis]
theorem Zqg {l:List Rul}{nm:ByteArray}{t:Trn}:t∈Za2 l nm↔t.2∈l∧t.2.1=nm ∧ ∃ y,(rFr t.2≤y∧y≤rTo t.2)∧t.1=Zhm t.2 y:=by
 unfold Za2
 rw [List.mem_flatMap]
 constructor
 ·rintro ⟨r,hr,h⟩
  split at h
  ·rename_i hn
   obtain ⟨y,hy,rfl⟩:=List.mem_map.1 h
   exact ⟨hr,hn,y,ZkT.1 hy,rfl⟩
  ·cases h
 ·rintro ⟨hr,hn,y,hy,e⟩
  refine ⟨t.2,hr,?_⟩
  rw [if_pos hn]
  exact List.mem_map.2 ⟨y,ZkT.2 hy,by rw [←e]⟩
theorem Zjp {l:List Rul}{nm:ByteArray}(h : ∀ r∈l,Zbm r=0) {t:Trn}(ht:t∈Za2 l nm):Zbm t.2=0 ∧ -2592000000≤t.1∧t.1≤4320172800:=by
 obtain ⟨h1,h2,y,hy,e⟩:=Zqg.1 ht
 have h3:=h _ h1
 obtain ⟨q1,q2,q3,_⟩:=Zce h3
 rw [e]
 exact ⟨h3,Zpi h3 (by omega)⟩
theorem Zgd {r:Rul}(h:Zbm r=0):(ZcF r).length≤201∧((ZcF r).length:Int)=rTo r-rFr r+1:=by
 obtain ⟨h1,h2,h3,_⟩:=Zce h
 unfold ZcF
 rw [List.length_map,Zkl];omega
theorem Zhl : ∀ {l:List Rul}{nm:ByteArray},(∀ r∈l,Zbm r=0)→(Za2 l nm).length≤201*l.length
 | [],nm,_=>by simp [Za2]
 | r::l,nm,h=>by
  have ih:=Zhl (l:=l) (nm:=nm) fun x hx=>h x (by simp [hx])
  have h1:=Zgd (h r (by simp))
  unfold Za2 at ih ⊢
  rw [List.flatMap_cons,List.length_append,List.length_cons]
  split
  ·omega
  ·rw [List.length_nil];omega
theorem Zit {l:List Rul}{k:Nat}(hk:k<l.length) (nm:ByteArray):Za2 (l.take (k+1)) nm=Za2 (l.take k) nm++(if l[k].1=nm then ZcF l[k] else []):=by
 unfold Za2
 rw [List.take_succ_eq_append_getElem hk,List.flatMap_append,List.flatMap_cons,List.flatMap_nil,List.append_nil]
theorem svAt_bd {l:List Trn}{i:Nat}(h : ∀ t∈l,Zbm t.2=0):0≤svAt l i∧svAt l i≤10800:=by
 cases i with
 | zero=>simp [svAt]
 | succ i =>
  show 0≤(match l[i]? with | some t=>rSv t.2 | none=>0)∧(match l[i]? with | some t=>rSv t.2 | none=>0)≤10800
  cases e:l[i]? with
  | none=>exact ⟨by simp,by simp⟩
  | some t =>
   obtain ⟨_,_,_,_,_,_,_,h8⟩:=Zce (h t (List.mem_of_getElem? e))
   exact h8
theorem Zp6 {r:Rul}{sh sa:Int}(h : -64800≤sh∧sh≤64800) (h2:0≤sa∧sa≤10800) : -64800≤offV r sh sa∧offV r sh sa≤75600:=by
 unfold offV;split
 ·omega
 split <;> omega
theorem ZmU {l:List Rul}{nm:ByteArray}{sh:Int}(hr:ZcG l nm sh=0) {S:List Trn}(hp:S.Perm (Za2 l nm)) (hs:S.Pairwise fun a b=>a.1≤b.1) :
  ZaW l nm sh=if gapB S=true then ([],4) else if 1000<S.length then ([],2) else (outV sh 0 S,0):=by
 obtain ⟨g1,g2⟩:=gap_uniq (hp.trans (Zjx _).symm) hs (ZnT _)
 unfold ZaW
 rw [if_neg (by simp [hr]),←g1,←hp.length_eq]
 by_cases e:gapB S=true
 ·rw [if_pos e,if_pos e]
 ·rw [if_neg e,if_neg e,g2 (by simpa using e)]
theorem Zkr {l:List Rul}{nm:ByteArray}{sh:Int}(hr:ZcG l nm sh≠0):ZaW l nm sh=([],ZcG l nm sh):=if_pos hr
end Go.Proofs.YtlekejpogddndaaGreatDoor
end
section
namespace Go.Proofs.YtlekejpogddndaaGreatDoor
abbrev tMin:Int := -62135596800
abbrev tMax:Int:=253402300799
end Go.Proofs.YtlekejpogddndaaGreatDoor
end
section
namespace Go.Proofs.YtlekejpogddndaaGreatDoor
open Go.Ab Civ
abbrev xSh (x:Era):Int:=x.1
abbrev xRl (x:Era):ByteArray:=x.2.1
abbrev xSv (x:Era):Int:=x.2.2.1
abbrev xFm (x:Era):ByteArray:=x.2.2.2.1
abbrev xOp (x:Era):Bool:=x.2.2.2.2.1
def endV (x:Era):Int:=num x.2.2.2.2.2.1.1 x.2.2.2.2.2.1.2.1 x.2.2.2.2.2.1.2.2*86400+x.2.2.2.2.2.2.1-(if x.2.2.2.2.2.2.2=2 then xSh x else 0)
def ZbY (es:List Era):List Int:=es.dropLast.map endV
def Zp9 (fm lt:ByteArray) (sa:Int):ByteArray :=
 if (cutL fm [47]).2.2=true then (if 0<sa then bA (cutL fm [47]).2.1 else bA (cutL fm [47]).1)
 else if (cutL fm [37,115]).2.2=true then bA ((cutL fm [37,115]).1++aB lt++(cutL fm [37,115]).2.1) else fm
def locV (x:Era) (sa:Int) (lt:ByteArray):Loc:=(xSh x+sa,sa,Zp9 (xFm x) lt sa)
def Zbn (rl:List Rul) (x:Era):List Tim:=if xRl x=⟨#[]⟩ then [] else (ZaW rl (xRl x) (xSh x)).1
def ZdU (sa:Int) (lt:ByteArray):List Tim→Int→Int×ByteArray
 | [],_=>(sa,lt)
 | t::ts,a=>if t.1≤a then ZdU t.2.1 t.2.2 ts a else ZdU sa lt ts a
def Zet (rl:List Rul) (x:Era) (a:Int):Loc:=locV x (ZdU (xSv x) ⟨#[]⟩ (Zbn rl x) a).1 (ZdU (xSv x) ⟨#[]⟩ (Zbn rl x) a).2
def locZ:Loc:=(0,0,⟨#[]⟩)
def ZcA (rl:List Rul):List Era→Int→Loc
 | [],_=>locZ
 | [x],a=>Zet rl x a
 | x::y::es,a=>if endV x≤a then ZcA rl (y::es) a else Zet rl x a
theorem ZjX (es:List Era):(ZbY es).length=es.length-1:=by simp [ZbY]
theorem Zk5 {x y:Era}{es:List Era}:ZbY (x::y::es)=endV x::ZbY (y::es):=by simp [ZbY]
theorem ZjY {es:List Era}{k:Nat}(h:k<(ZbY es).length) (h2:k<es.length):(ZbY es)[k]=endV es[k]:=by simp [ZbY]
theorem ZfJ : ∀ (l:List Tim) (t:Tim) (sa:Int) (lt:ByteArray) (a:Int),ZdU sa lt (l++[t]) a=if t.1≤a then (t.2.1,t.2.2) else ZdU sa lt l a
 | [],t,sa,lt,a=>rfl
 | u::l,t,sa,lt,a=>by
  rw [List.cons_append,ZdU,ZdU]
  split
  ·exact ZfJ l t _ _ a
  ·exact ZfJ l t _ _ a
theorem ZhE : ∀ (l:List Tim) (sa:Int) (lt:ByteArray) (u v:Int),u≤v→(∀ t∈l,¬(u<t.1∧t.1≤v))→ZdU sa lt l u=ZdU sa lt l v
 | [],_,_,_,_,_,_=>rfl
 | t::l,sa,lt,u,v,h,hl=>by
  have ih:=fun sa lt=>ZhE l sa lt u v h fun x hx=>hl x (by simp [hx])
  have:=hl t (by simp)
  rw [ZdU,ZdU]
  split
  ·rw [if_pos (by omega)];exact ih _ _
  ·rw [if_neg (by omega)];exact ih _ _
theorem ZiF : ∀ (l:List Tim) (sa:Int) (lt:ByteArray) (a:Int),(∀ t∈l,a<t.1)→ZdU sa lt l a=(sa,lt)
 | [],_,_,_,_=>rfl
 | t::l,sa,lt,a,h=>by
  rw [ZdU,if_neg (by have:=h t (by simp);omega)]
  exact ZiF l sa lt a fun x hx=>h x (by simp [hx])
theorem Zm6 : ∀ {l:List Tim}{t:Tim}(sa:Int) (lt:ByteArray),l.Pairwise (fun a b=>a.1<b.1)→t∈l→ZdU sa lt l t.1=(t.2.1,t.2.2)
 | u::l,t,sa,lt,hp,ht=>by
  rw [List.pairwise_cons] at hp
  rw [ZdU]
  rcases List.mem_cons.1 ht with rfl | ht
  ·rw [if_pos (Int.le_refl _)];exact ZiF l _ _ _ hp.1
  ·rw [if_pos (by have:=hp.1 t ht;omega)];exact Zm6 _ _ hp.2 ht
def eraG (x:Era) (b:Int) (ts:List Tim):List Chg :=
 (b,locV x (ZdU (xSv x) ⟨#[]⟩ ts b).1 (ZdU (xSv x) ⟨#[]⟩ ts b).2)::(ts.filter fun t=>decide (b<t.1)).map fun t=>(t.1,locV x t.2.1 t.2.2)
theorem eraG_low {x:Era}{b:Int}{ts:List Tim}{t:Tim}(h:t.1≤b):eraG x b (ts++[t])=(b,locV x t.2.1 t.2.2)::(eraG x b ts).tail:=by
 unfold eraG
 rw [ZfJ,if_pos h,List.filter_append]
 simp [show ¬b<t.1 by omega]
theorem ZqJ {x:Era}{b:Int}{ts:List Tim}{t:Tim}(h:¬t.1≤b):eraG x b (ts++[t])=eraG x b ts++[(t.1,locV x t.2.1 t.2.2)]:=by
 unfold eraG
 rw [ZfJ,if_neg h,List.filter_append]
 simp [show b<t.1 by omega]
def cutV (l:List Chg) (e:Int):List Chg:=l.takeWhile fun c=>decide (c.1<e)
def Zb0 (prev:Option Int) (f:Int):Int:=match prev with
 | none=>f
 | some e=>max f e
def ZbR (rl:List Rul) (f:Int):Option Int→List Era→List Chg
 | _,[]=>[]
 | prev,[x]=>eraG x (Zb0 prev f) (Zbn rl x)
 | prev,x::y::es=>(if endV x≤f then [] else cutV (eraG x (Zb0 prev f) (Zbn rl x)) (endV x))++ZbR rl f (some (endV x)) (y::es)
def risL:List Int→Bool
 | a::b::l=>decide (a<b)&&risL (b::l)
 | _=>true
theorem ZjH : ∀ l:List Int,risL l=true↔l.Pairwise (· < ·)
 | []=>by simp [risL]
 | [a]=>by simp [risL]
 | a::b::l=>by
  rw [risL,Bool.and_eq_true,ZjH (b::l),List.pairwise_cons (a:=a)]
  constructor
  ·rintro ⟨h1,h2⟩
   have h1:a<b:=by simpa using h1
   refine ⟨fun x hx=>?_,h2⟩
   rcases List.mem_cons.1 hx with rfl | hx
   ·exact h1
   ·have:=(List.pairwise_cons.1 h2).1 x hx;omega
  ·rintro ⟨h1,h2⟩
   exact ⟨by simpa using h1 b (by simp),h2⟩
theorem ZkD : ∀ {l:List Int},(∀ i (h:i+1<l.length),l[i]<l[i+1])→risL l=true
 | [],_=>rfl
 | [_],_=>rfl
 | a::b::l,h=>by
  rw [risL,Bool.and_eq_true]
  exact ⟨by simpa using h 0 (by simp),ZkD fun i hi=>h (i+1) (by simpa using hi)⟩
theorem ZnY {l:List Int}{i:Nat}(h:i+1<l.length) (hb:¬l[i]<l[i+1]):risL l=false:=by
 cases e:risL l with
 | false=>rfl
 | true=>exact absurd (List.pairwise_iff_getElem.1 ((ZjH l).1 e) i (i+1) (by omega) h (by omega)) hb
def risT (rl:List Rul) (x:Era):Prop:=(Zbn rl x).Pairwise fun a b=>a.1<b.1
theorem Zme {l:List Chg}{e:Int}{c:Chg}(hs:l.Pairwise fun a b=>a.1<b.1):c∈cutV l e↔c∈l∧c.1<e:=by
 unfold cutV
 induction l with
 | nil=>simp
 | cons d l ih =>
  rw [List.pairwise_cons] at hs
  rw [List.takeWhile_cons]
  split
  ·rename_i h
   rw [List.mem_cons,ih hs.2,List.mem_cons]
   simp only [decide_eq_true_eq] at h
   constructor
   ·rintro (rfl | ⟨h1,h2⟩)
    ·exact ⟨.inl rfl,h⟩
    ·exact ⟨.inr h1,h2⟩
   ·rintro ⟨rfl | h1,h2⟩
    ·exact .inl rfl
    ·exact .inr ⟨h1,h2⟩
  ·rename_i h
   simp only [decide_eq_true_eq] at h
   constructor
   ·intro h;cases h
   ·rintro ⟨h1,h2⟩
    rcases List.mem_cons.1 h1 with rfl | h1
    ·exact absurd h2 h
    ·have:=hs.1 c h1;omega
theorem Znu {x:Era}{b:Int}{ts:List Tim}(h:ts.Pairwise fun a b=>a.1<b.1):(eraG x b ts).Pairwise fun a b=>a.1<b.1:=by
 unfold eraG
 rw [List.pairwise_cons]
 refine ⟨fun c hc=>?_,?_⟩
 ·obtain ⟨t,ht,rfl⟩:=List.mem_map.1 hc
  simpa using (List.mem_filter.1 ht).2
 ·rw [List.pairwise_map]
  exact h.filter _
theorem Znw {rl:List Rul}{x:Era}{b:Int}(h:risT rl x) {c:Chg}(hc:c∈eraG x b (Zbn rl x)):b≤c.1∧c.2=Zet rl x c.1:=by
 rcases List.mem_cons.1 hc with rfl | hc
 ·exact ⟨Int.le_refl _,rfl⟩
 ·obtain ⟨t,ht,rfl⟩:=List.mem_map.1 hc
  obtain ⟨h1,h2⟩:=List.mem_filter.1 ht
  simp only [decide_eq_true_eq] at h2
  refine ⟨by show b≤t.1;omega,?_⟩
  show locV x t.2.1 t.2.2=Zet rl x t.1
  unfold Zet
  rw [Zm6 _ _ h h1]
theorem ZhN {rl:List Rul}{x:Era}{u v:Int}(h:u≤v) (ht : ∀ t∈Zbn rl x,¬(u<t.1∧t.1≤v)):Zet rl x u=Zet rl x v:=by
 unfold Zet;rw [ZhE _ _ _ u v h ht]
theorem Zoi {rl:List Rul}{x:Era}{b u v:Int}(h0:b≤u) (h:u≤v) (hc : ∀ c∈eraG x b (Zbn rl x),¬(u<c.1∧c.1≤v)):Zet rl x u=Zet rl x v:=by
 refine ZhN h fun t ht hh=>?_
 refine hc (t.1,locV x t.2.1 t.2.2) (List.mem_cons_of_mem _ (List.mem_map.2 ⟨t,List.mem_filter.2 ⟨ht,?_⟩,rfl⟩)) hh
 simp;omega
def prevOk (prev:Option Int) (es:List Era):Prop:=match prev with
 | none=>True
 | some e => ∀ x∈ZbY es,e<x
theorem ZkK {rl:List Rul}{f:Int} : ∀ {es:List Era}{prev:Option Int},es≠[]→(∀ x∈es,risT rl x)→(ZbY es).Pairwise (· < ·)→prevOk prev es →
  (∃ l,ZbR rl f prev es=(Zb0 prev f,ZcA rl es (Zb0 prev f))::l)∧(ZbR rl f prev es).Pairwise (fun a b=>a.1<b.1)∧(∀ c∈ZbR rl f prev es,Zb0 prev f≤c.1∧c.2=ZcA rl es c.1) ∧
  ∀ u v,Zb0 prev f≤u→u≤v→(∀ c∈ZbR rl f prev es,¬(u<c.1∧c.1≤v))→ZcA rl es u=ZcA rl es v
 | [x],prev,_,ht,_,_=>by
  have hx:=ht x (by simp)
  refine ⟨⟨_,rfl⟩,Znu hx,fun c hc=>Znw hx hc,fun u v h1 h2 h3=>Zoi h1 h2 h3⟩
 | x::y::es,prev,_,ht,hr,hp=>by
  have hx:=ht x (by simp)
  rw [Zk5,List.pairwise_cons] at hr
  have hp2:prevOk (some (endV x)) (y::es):=hr.1
  obtain ⟨i1,i2,i3,i4⟩:=ZkK (f:=f) (es:=y::es) (prev:=some (endV x)) (by simp) (fun z hz=>ht z (by simp [hz])) hr.2 hp2
  have hbe:prev=none ∨ ∃ e,prev=some e∧e<endV x:=by
   cases prev with
   | none=>exact .inl rfl
   | some e=>exact .inr ⟨e,rfl,hp _ (by rw [Zk5];simp)⟩
  by_cases hf:endV x≤f
  ·have hb:Zb0 prev f=f:=by
    rcases hbe with rfl | ⟨e,rfl,he⟩
    ·rfl
    ·show max f e=f;omega
   have hb2:Zb0 (some (endV x)) f=f:=by show max f (endV x)=f;omega
   have hP:ZbR rl f prev (x::y::es)=ZbR rl f (some (endV x)) (y::es):=by rw [ZbR,if_pos hf,List.nil_append]
   have hT : ∀ a,f≤a→ZcA rl (x::y::es) a=ZcA rl (y::es) a:=fun a ha=>by rw [ZcA,if_pos (by omega)]
   rw [hP,hb]
   rw [hb2] at i1 i3 i4
   refine ⟨by rw [hT f (Int.le_refl _)];exact i1,i2,fun c hc=>?_,fun u v h1 h2 h3=>?_⟩
   ·obtain ⟨j1,j2⟩:=i3 c hc
    exact ⟨j1,by rw [hT _ j1];exact j2⟩
   ·rw [hT u h1,hT v (by omega)];exact i4 u v h1 h2 h3
  ·have hb:Zb0 prev f<endV x:=by
    rcases hbe with rfl | ⟨e,rfl,he⟩
    ·show f<endV x;omega
    ·show max f e<endV x;omega
   have hb2:Zb0 (some (endV x)) f=endV x:=by show max f (endV x)=endV x;omega
   have hP:ZbR rl f prev (x::y::es)=cutV (eraG x (Zb0 prev f) (Zbn rl x)) (endV x)++ZbR rl f (some (endV x)) (y::es):=by rw [ZbR,if_neg hf]
   have hT1 : ∀ a,a<endV x→ZcA rl (x::y::es) a=Zet rl x a:=fun a ha=>by rw [ZcA,if_neg (by omega)]
   have hT2 : ∀ a,endV x≤a→ZcA rl (x::y::es) a=ZcA rl (y::es) a:=fun a ha=>by rw [ZcA,if_pos ha]
   rw [hb2] at i1 i3 i4
   have hg:=Znu (x:=x) (b:=Zb0 prev f) hx
   generalize hB:Zb0 prev f=b at *
   rw [hP]
   refine ⟨?_,?_,?_,?_⟩
   ·have:cutV (eraG x b (Zbn rl x)) (endV x)=(b,Zet rl x b)::cutV (eraG x b (Zbn rl x)).tail (endV x):=by
     unfold cutV eraG Zet
     rw [List.takeWhile_cons,if_pos (by simpa using hb)]
     rfl
    rw [this,hT1 b hb]
    exact ⟨_,rfl⟩
   ·rw [List.pairwise_append]
    refine ⟨hg.sublist (List.takeWhile_sublist _),i2,fun c hc d hd=>?_⟩
    have h1:=((Zme hg).1 hc).2
    have h2:=(i3 d hd).1
    omega
   ·intro c hc
    rcases List.mem_append.1 hc with hc | hc
    ·obtain ⟨h1,h2⟩:=(Zme hg).1 hc
     obtain ⟨h3,h4⟩:=Znw hx h1
     exact ⟨h3,by rw [hT1 _ h2];exact h4⟩
    ·obtain ⟨h1,h2⟩:=i3 c hc
     exact ⟨by omega,by rw [hT2 _ h1];exact h2⟩
   ·intro u v h1 h2 h3
    by_cases hv:v<endV x
    ·rw [hT1 u (by omega),hT1 v hv]
     refine ZhN h2 fun t ht hh=>?_
     refine h3 (t.1,locV x t.2.1 t.2.2) (List.mem_append_left _ ((Zme hg).2 ⟨List.mem_cons_of_mem _ (List.mem_map.2 ⟨t,List.mem_filter.2 ⟨ht,?_⟩,rfl⟩),?_⟩)) hh
     ·simp;omega
     ·show t.1<endV x;omega
    ·by_cases hu:endV x≤u
     ·rw [hT2 u hu,hT2 v (by omega)]
      exact i4 u v hu h2 fun c hc=>h3 c (List.mem_append_right _ hc)
     ·obtain ⟨l,hl⟩:=i1
      exact absurd ⟨by show u<endV x;omega,by show endV x≤v;omega⟩ (h3 (endV x,_) (List.mem_append_right _ (by rw [hl];exact List.mem_cons_self)))
end Go.Proofs.YtlekejpogddndaaGreatDoor
end
section
namespace Go.Proofs.YtlekejpogddndaaGreatDoor
open Go.Ab
attribute [local simp] Zbi Zbu Zbk Zbp ZdC
section
theorem Zrk {a0 a1 a2 a3 a4 a5 a6 a7 a8 a9 a10:AV}{l:List AV}:(a0::a1::a2::a3::a4::a5::a6::a7::a8::a9::a10::l).take 11=[a0,a1,a2,a3,a4,a5,a6,a7,a8,a9,a10]:=rfl
theorem Zkg {a0 a1:AV}{l:List AV}:(a0::a1::l).take 2=[a0,a1]:=rfl
theorem IxA_tk_4 {a0 a1 a2 a3:AV}{l:List AV}:(a0::a1::a2::a3::l).take 4=[a0,a1,a2,a3]:=rfl
end
def c234:AC:=(Sr [Mc 4 0] (.seq (Sr [Mv 6 0,Oo 7 (.len false (.tmp 6)),Mc 8 0] (.block 0 (.loop (Sr [Bn 9 .lss 8 7] (.seq (Cd 9 .skip (.exit 0)) (.seq (.block 1 (Sr [Mv 10 8,Mv 5 10] (Sr [Mv 11 1,Mv 12 0,Mv 13 5,Oo 14 (.ia 11 (.tmp 12) (.tmp 13)),Oo 15 (.load true 11 (.tmp 14)),Oo 16 (.call (.tmp 11) [(.tmp 15)])] (Cd 16 (Sr [Mv 17 5,Mv 4 17] .ret) .skip)))) (.reg [Bc 18 .add 8 1,Mv 8 18]))))))) (Sr [Oo 4 (.mv (.const (.int .i64 (-1))))] .ret)))
theorem k234:ZaD Tryz.prog 234=some ⟨c234,[(.tmp 4)],19⟩:=by kernel_rfl
def c157:AC:=(Sr [Mb 4 false] (Sr [Mv 5 0,Mv 6 1,Cl 7 234 [(.tmp 5),(.tmp 6)],Bc 8 .geq 7 0,Mv 4 8] .ret))
theorem k157:ZaD Tryz.prog 157=some ⟨c157,[(.tmp 4)],9⟩:=by kernel_rfl
def c218:AC:=(Sr [Mc 4 0] (.seq (Sr [Mv 6 0,Oo 7 (.len false (.tmp 6)),Mc 8 0] (.block 0 (.loop (Sr [Bn 9 .lss 8 7] (.seq (Cd 9 .skip (.exit 0)) (.seq (.block 1 (Sr [Mv 10 8,Mv 5 10] (Sr [Mv 11 1,Mv 12 0,Mv 13 5,Oo 14 (.ia 2 (.tmp 12) (.tmp 13)),Oo 15 (.load true 2 (.tmp 14)),Oo 16 (.call (.tmp 11) [(.tmp 15)])] (Cd 16 (Sr [Mv 17 5,Mv 4 17] .ret) .skip)))) (.reg [Bc 18 .add 8 1,Mv 8 18]))))))) (Sr [Oo 4 (.mv (.const (.int .i64 (-1))))] .ret)))
theorem k218:ZaD Tryz.prog 218=some ⟨c218,[(.tmp 4)],19⟩:=by kernel_rfl
def c136:AC:=(Sr [Mb 4 false] (Sr [Mv 5 0,Mv 6 1,Cl 7 218 [(.tmp 5),(.tmp 6)],Bc 8 .geq 7 0,Mv 4 8] .ret))
theorem k136:ZaD Tryz.prog 136=some ⟨c136,[(.tmp 4)],9⟩:=by kernel_rfl
def c171:AC:=(Sr [Mc 4 0] (.seq (Sr [Mv 6 0,Oo 7 (.len false (.tmp 6)),Mc 8 0] (.block 0 (.loop (Sr [Bn 9 .lss 8 7] (.seq (Cd 9 .skip (.exit 0)) (.seq (.block 1 (Sr [Mv 10 8,Mv 5 10] (Sr [Mv 11 1,Mv 12 0,Mv 13 5,Oo 14 (.ia 2 (.tmp 12) (.tmp 13)),Oo 15 (.load true 2 (.tmp 14)),Oo 16 (.call (.tmp 11) [(.tmp 15)])] (Cd 16 (Sr [Mv 17 5,Mv 4 17] .ret) .skip)))) (.reg [Bc 18 .add 8 1,Mv 8 18]))))))) (Sr [Oo 4 (.mv (.const (.int .i64 (-1))))] .ret)))
theorem k171:ZaD Tryz.prog 171=some ⟨c171,[(.tmp 4)],19⟩:=by kernel_rfl
def c213:AC:=(Sr [Mb 4 false] (Sr [Mv 5 0,Mv 6 1,Cl 7 171 [(.tmp 5),(.tmp 6)],Bc 8 .geq 7 0,Mv 4 8] .ret))
theorem k213:ZaD Tryz.prog 213=some ⟨c213,[(.tmp 4)],9⟩:=by kernel_rfl
def c221:AC:=(Sr [Mc 4 0] (.seq (Sr [Mv 6 0,Oo 7 (.len false (.tmp 6)),Mc 8 0] (.block 0 (.loop (Sr [Bn 9 .lss 8 7] (.seq (Cd 9 .skip (.exit 0)) (.seq (.block 1 (Sr [Mv 10 8,Mv 5 10] (Sr [Mv 11 1,Mv 12 0,Mv 13 5,Oo 14 (.ia 4 (.tmp 12) (.tmp 13)),Oo 15 (.load true 4 (.tmp 14)),Oo 16 (.call (.tmp 11) [(.tmp 15)])] (Cd 16 (Sr [Mv 17 5,Mv 4 17] .ret) .skip)))) (.reg [Bc 18 .add 8 1,Mv 8 18]))))))) (Sr [Oo 4 (.mv (.const (.int .i64 (-1))))] .ret)))
theorem k221:ZaD Tryz.prog 221=some ⟨c221,[(.tmp 4)],19⟩:=by kernel_rfl
theorem ZfO {α:Type}{p:α→Bool}{l:List α}{k:Nat}(hk:k<l.length) (h1:p l[k]=true) (h2 : ∀ j (hj:j<k),p (l[j]'(by omega))=false):l.findIdx p=k:=by
 have hlt:l.findIdx p<l.length:=List.findIdx_lt_length.2 ⟨_,List.getElem_mem hk,h1⟩
 rcases Nat.lt_trichotomy (l.findIdx p) k with e | e | e
 ·have a:=h2 _ e
  have b:=List.findIdx_getElem (w:=hlt)
  rw [a] at b;cases b
 ·exact e
 have:=List.not_of_lt_findIdx e
 rw [h1] at this;cases this
def idxV {α:Type}(p:α→Bool) (l:List α):Int:=if l.findIdx p<l.length then (l.findIdx p:Int) else -1
theorem ZeS {α:Type}(p:α→Bool) (l:List α):decide (0≤idxV p l)=l.any p:=by
 unfold idxV
 rw [Bool.eq_iff_iff,decide_eq_true_iff,List.any_eq_true]
 split
 ·rename_i h
  exact ⟨fun _=>⟨_,List.getElem_mem h,List.findIdx_getElem (w:=h)⟩,fun _=>by omega⟩
 rename_i h
 constructor
 ·intro h2;omega
 rintro ⟨x,hx,hp⟩;exact absurd (List.findIdx_lt_length.2 ⟨x,hx,hp⟩) h
theorem ixRulC_a {p:Rul→Bool}{f:FuncId}{caps:List AV}{l:List Rul}{full:Bool}{h:AH}(hp : ∀ c∈l,∀ E:AH,ACalls Tryz.prog f ([.agg (rulC c)]++caps) (h++E) fun x h'=>h'=h++E∧x=.ret (bv (p c))) (hl:l.length≤9223372036854775807) :
  Ac 234 [.sl l.length 11 full (rows rulC l),.clo (.func f) caps] h (iv (idxV p l)):=by
 refine tI' k234 fun N hn hlt hlA hbd=>?_
 simp only [tb'] at hbd ⊢
 refine wr'<|mv' lki pt<|sn'<|Zam<|wr'<|mv' lk pt<|V' (ZaP lk) pt<|mv' lki pt<|sn'<|Zao<|?_
 refine w_lp (ι:=Nat) (fun (k:Nat)=>[(8,iv (k:Int)),(4,.any),(5,.any)]++rn' 9 10) (fun (k:Nat)=>[]) (fun (k:Nat)=>k≤l.length ∧ ∀ j (hj:j<l.length),j<k→p l[j]=false) (fun (k:Nat)=>l.length-k) (0) (by exact ⟨by omega,fun j hj h0=>absurd h0 (by omega)⟩) ?_
 rintro k hi1
 try simp only [sm',Nat.reduceAdd]
 obtain ⟨hk1,hk2⟩:=hi1
 refine wr'<|V' (Zba lk lk) pt<|sn'<|Zam<|?_
 refine cd' lk (fun hc1=>?_) (fun hc1=>?_)
 ·have hk:k<l.length:=by omega
  refine Zae<|Zah<|Zam<|Zao<|wr'<|mv' lk pt<|mv' lk pt<|sn'<|wr'<|mv' lk pt<|mv' lk pt<|?_
  refine mv' lk pt ?_
  refine V' (ZaY lk lk ZcS (nb' rfl) ro (by omega) ro rfl) pt ?_
  refine V' (ZaK lk Zrk rfl) pt<|ZjB lk mp (hp l[k] (List.getElem_mem hk) _) pt<|sn'<|?_
  refine Zau lk (fun hc2=>?_) (fun hc2=>?_)
  ·refine wr'<|mv' lk pt<|mv' lk pt<|sn'<|Zaa<|Zap<|Zai<|Zai<|Zap<|Zai<|Zaf rz<|rT'<|?_
   refine ivx ?_
   have hf:l.findIdx p=k:=ZfO hk (by simpa using hc2) (fun j hj=>hk2 j (by omega) hj)
   rw [idxV,hf,if_pos hk]
  refine Zae<|Zaz<|Zah<|Zas<|?_
  refine V' (Zay lk lki (by omega) (by omega)) pt ?_
  refine mv' lk pt<|Zar<|ZaA<|?_
  refine lT' (k+1) (by (try dsimp only);refine ⟨by omega,fun j hj h0=>?_⟩;by_cases e:j=k;subst e;simpa using hc2;exact hk2 j hj (by omega))
 refine ZaO<|ZaF<|ZaF<|Za7<|Zah<|wr'<|mv' lki pt<|sn'<|Zaa<|Zaf rz<|rT'<|?_
 refine ivx ?_
 have hf:l.findIdx p=l.length:=List.findIdx_eq_length.2 (fun x hx=>by obtain ⟨i,hi,rfl⟩:=List.getElem_of_mem hx;exact hk2 i hi (by omega))
 rw [idxV,hf,if_neg (by omega)]
theorem Zk0 {p:Rul→Bool}{f:FuncId}{caps:List AV}{l:List Rul}{full:Bool}{h:AH}(hp : ∀ c∈l,∀ E:AH,ACalls Tryz.prog f ([.agg (rulC c)]++caps) (h++E) fun x h'=>h'=h++E∧x=.ret (bv (p c))) (hl:l.length≤9223372036854775807) :
  Ac 157 [.sl l.length 11 full (rows rulC l),.clo (.func f) caps] h (bv (l.any p)):=by
 refine tI' k157 fun N hn hlt hlA hbd=>?_
 simp only [tb'] at hbd ⊢
 refine wr'<|mv' lkb pt<|sn'<|wr'<|mv' lk pt<|mv' lk pt<|?_
 refine Zad mp (ixRulC_a (fun c hc E=>by have:=hp c hc E;rwa [List.append_nil]) hl) pt ?_
 refine V' (Zfg lk lki) pt<|mv' lk pt<|sn'<|Zaa<|Zaf rz<|rT'<|?_
 exact bvx (by first | exact ZeS p l | (rw [←ZeS];simp))
theorem ixZonC_a {p:Zon→Bool}{f:FuncId}{caps:List AV}{l:List Zon}{full:Bool}{h:AH}(hp : ∀ c∈l,∀ E:AH,ACalls Tryz.prog f ([.agg (zonC c)]++caps) (h++E) fun x h'=>h'=h++E∧x=.ret (bv (p c))) (hl:l.length≤9223372036854775807) :
  Ac 218 [.sl l.length 2 full (rows zonC l),.clo (.func f) caps] h (iv (idxV p l)):=by
 refine tI' k218 fun N hn hlt hlA hbd=>?_
 simp only [tb'] at hbd ⊢
 refine wr'<|mv' lki pt<|sn'<|Zam<|wr'<|mv' lk pt<|V' (ZaP lk) pt<|mv' lki pt<|sn'<|Zao<|?_
 refine w_lp (ι:=Nat) (fun (k:Nat)=>[(8,iv (k:Int)),(4,.any),(5,.any)]++rn' 9 10) (fun (k:Nat)=>[]) (fun (k:Nat)=>k≤l.length ∧ ∀ j (hj:j<l.length),j<k→p l[j]=false) (fun (k:Nat)=>l.length-k) (0) (by exact ⟨by omega,fun j hj h0=>absurd h0 (by omega)⟩) ?_
 rintro k hi1
 try simp only [sm',Nat.reduceAdd]
 obtain ⟨hk1,hk2⟩:=hi1
 refine wr'<|V' (Zba lk lk) pt<|sn'<|Zam<|?_
 refine cd' lk (fun hc1=>?_) (fun hc1=>?_)
 ·have hk:k<l.length:=by omega
  refine Zae<|Zah<|Zam<|Zao<|wr'<|mv' lk pt<|mv' lk pt<|sn'<|wr'<|mv' lk pt<|mv' lk pt<|?_
  refine mv' lk pt ?_
  refine V' (ZaY lk lk Zcc (nb' rfl) ro (by omega) ro rfl) pt ?_
  refine V' (ZaK lk Zkg rfl) pt<|ZjB lk mp (hp l[k] (List.getElem_mem hk) _) pt<|sn'<|?_
  refine Zau lk (fun hc2=>?_) (fun hc2=>?_)
  ·refine wr'<|mv' lk pt<|mv' lk pt<|sn'<|Zaa<|Zap<|Zai<|Zai<|Zap<|Zai<|Zaf rz<|rT'<|?_
   refine ivx ?_
   have hf:l.findIdx p=k:=ZfO hk (by simpa using hc2) (fun j hj=>hk2 j (by omega) hj)
   rw [idxV,hf,if_pos hk]
  refine Zae<|Zaz<|Zah<|Zas<|?_
  refine V' (Zay lk lki (by omega) (by omega)) pt ?_
  refine mv' lk pt<|Zar<|ZaA<|?_
  refine lT' (k+1) (by (try dsimp only);refine ⟨by omega,fun j hj h0=>?_⟩;by_cases e:j=k;subst e;simpa using hc2;exact hk2 j hj (by omega))
 refine ZaO<|ZaF<|ZaF<|Za7<|Zah<|wr'<|mv' lki pt<|sn'<|Zaa<|Zaf rz<|rT'<|?_
 refine ivx ?_
 have hf:l.findIdx p=l.length:=List.findIdx_eq_length.2 (fun x hx=>by obtain ⟨i,hi,rfl⟩:=List.getElem_of_mem hx;exact hk2 i hi (by omega))
 rw [idxV,hf,if_neg (by omega)]
theorem ixZonT_a {p:Zon→Bool}{f:FuncId}{l:List Zon}{full:Bool}{h:AH}(hp : ∀ c∈l,∀ E:AH,ACalls Tryz.prog f [.agg (zonC c)] (h++E) fun x h'=>h'=h++E∧x=.ret (bv (p c))) (hl:l.length≤9223372036854775807) :
  Ac 218 [.sl l.length 2 full (rows zonC l),.v (.func (.func f) #[] #[])] h (iv (idxV p l)):=by
 refine tI' k218 fun N hn hlt hlA hbd=>?_
 simp only [tb'] at hbd ⊢
 refine wr'<|mv' lki pt<|sn'<|Zam<|wr'<|mv' lk pt<|V' (ZaP lk) pt<|mv' lki pt<|sn'<|Zao<|?_
 refine w_lp (ι:=Nat) (fun (k:Nat)=>[(8,iv (k:Int)),(4,.any),(5,.any)]++rn' 9 10) (fun (k:Nat)=>[]) (fun (k:Nat)=>k≤l.length ∧ ∀ j (hj:j<l.length),j<k→p l[j]=false) (fun (k:Nat)=>l.length-k) (0) (by exact ⟨by omega,fun j hj h0=>absurd h0 (by omega)⟩) ?_
 rintro k hi1
 try simp only [sm',Nat.reduceAdd]
 obtain ⟨hk1,hk2⟩:=hi1
 refine wr'<|V' (Zba lk lk) pt<|sn'<|Zam<|?_
 refine cd' lk (fun hc1=>?_) (fun hc1=>?_)
 ·have hk:k<l.length:=by omega
  refine Zae<|Zah<|Zam<|Zao<|wr'<|mv' lk pt<|mv' lk pt<|sn'<|wr'<|mv' lk pt<|mv' lk pt<|?_
  refine mv' lk pt ?_
  refine V' (ZaY lk lk Zcc (nb' rfl) ro (by omega) ro rfl) pt ?_
  refine V' (ZaK lk Zkg rfl) pt<|Zhx lk mp (hp l[k] (List.getElem_mem hk) _) pt<|sn'<|?_
  refine Zau lk (fun hc2=>?_) (fun hc2=>?_)
  ·refine wr'<|mv' lk pt<|mv' lk pt<|sn'<|Zaa<|Zap<|Zai<|Zai<|Zap<|Zai<|Zaf rz<|rT'<|?_
   refine ivx ?_
   have hf:l.findIdx p=k:=ZfO hk (by simpa using hc2) (fun j hj=>hk2 j (by omega) hj)
   rw [idxV,hf,if_pos hk]
  refine Zae<|Zaz<|Zah<|Zas<|?_
  refine V' (Zay lk lki (by omega) (by omega)) pt ?_
  refine mv' lk pt<|Zar<|ZaA<|?_
  refine lT' (k+1) (by (try dsimp only);refine ⟨by omega,fun j hj h0=>?_⟩;by_cases e:j=k;subst e;simpa using hc2;exact hk2 j hj (by omega))
 refine ZaO<|ZaF<|ZaF<|Za7<|Zah<|wr'<|mv' lki pt<|sn'<|Zaa<|Zaf rz<|rT'<|?_
 refine ivx ?_
 have hf:l.findIdx p=l.length:=List.findIdx_eq_length.2 (fun x hx=>by obtain ⟨i,hi,rfl⟩:=List.getElem_of_mem hx;exact hk2 i hi (by omega))
 rw [idxV,hf,if_neg (by omega)]
theorem Zqu {p:Zon→Bool}{f:FuncId}{l:List Zon}{full:Bool}{h:AH}(hp : ∀ c∈l,∀ E:AH,ACalls Tryz.prog f [.agg (zonC c)] (h++E) fun x h'=>h'=h++E∧x=.ret (bv (p c))) (hl:l.length≤9223372036854775807) :
  Ac 136 [.sl l.length 2 full (rows zonC l),.v (.func (.func f) #[] #[])] h (bv (l.any p)):=by
 refine tI' k136 fun N hn hlt hlA hbd=>?_
 simp only [tb'] at hbd ⊢
 refine wr'<|mv' lkb pt<|sn'<|wr'<|mv' lk pt<|mv' lk pt<|?_
 refine Zad mp (ixZonT_a (fun c hc E=>by have:=hp c hc E;rwa [List.append_nil]) hl) pt ?_
 refine V' (Zfg lk lki) pt<|mv' lk pt<|sn'<|Zaa<|Zaf rz<|rT'<|?_
 exact bvx (by first | exact ZeS p l | (rw [←ZeS];simp))
theorem Znk {p:Lnk→Bool}{f:FuncId}{caps:List AV}{l:List Lnk}{full:Bool}{h:AH}(hp : ∀ c∈l,∀ E:AH,ACalls Tryz.prog f ([.agg (lnkC c)]++caps) (h++E) fun x h'=>h'=h++E∧x=.ret (bv (p c))) (hl:l.length≤9223372036854775807) :
  Ac 171 [.sl l.length 2 full (rows lnkC l),.clo (.func f) caps] h (iv (idxV p l)):=by
 refine tI' k171 fun N hn hlt hlA hbd=>?_
 simp only [tb'] at hbd ⊢
 refine wr'<|mv' lki pt<|sn'<|Zam<|wr'<|mv' lk pt<|V' (ZaP lk) pt<|mv' lki pt<|sn'<|Zao<|?_
 refine w_lp (ι:=Nat) (fun (k:Nat)=>[(8,iv (k:Int)),(4,.any),(5,.any)]++rn' 9 10) (fun (k:Nat)=>[]) (fun (k:Nat)=>k≤l.length ∧ ∀ j (hj:j<l.length),j<k→p l[j]=false) (fun (k:Nat)=>l.length-k) (0) (by exact ⟨by omega,fun j hj h0=>absurd h0 (by omega)⟩) ?_
 rintro k hi1
 try simp only [sm',Nat.reduceAdd]
 obtain ⟨hk1,hk2⟩:=hi1
 refine wr'<|V' (Zba lk lk) pt<|sn'<|Zam<|?_
 refine cd' lk (fun hc1=>?_) (fun hc1=>?_)
 ·have hk:k<l.length:=by omega
  refine Zae<|Zah<|Zam<|Zao<|wr'<|mv' lk pt<|mv' lk pt<|sn'<|wr'<|mv' lk pt<|mv' lk pt<|?_
  refine mv' lk pt ?_
  refine V' (ZaY lk lk ZcT (nb' rfl) ro (by omega) ro rfl) pt ?_
  refine V' (ZaK lk Zkg rfl) pt<|ZjB lk mp (hp l[k] (List.getElem_mem hk) _) pt<|sn'<|?_
  refine Zau lk (fun hc2=>?_) (fun hc2=>?_)
  ·refine wr'<|mv' lk pt<|mv' lk pt<|sn'<|Zaa<|Zap<|Zai<|Zai<|Zap<|Zai<|Zaf rz<|rT'<|?_
   refine ivx ?_
   have hf:l.findIdx p=k:=ZfO hk (by simpa using hc2) (fun j hj=>hk2 j (by omega) hj)
   rw [idxV,hf,if_pos hk]
  refine Zae<|Zaz<|Zah<|Zas<|?_
  refine V' (Zay lk lki (by omega) (by omega)) pt ?_
  refine mv' lk pt<|Zar<|ZaA<|?_
  refine lT' (k+1) (by (try dsimp only);refine ⟨by omega,fun j hj h0=>?_⟩;by_cases e:j=k;subst e;simpa using hc2;exact hk2 j hj (by omega))
 refine ZaO<|ZaF<|ZaF<|Za7<|Zah<|wr'<|mv' lki pt<|sn'<|Zaa<|Zaf rz<|rT'<|?_
 refine ivx ?_
 have hf:l.findIdx p=l.length:=List.findIdx_eq_length.2 (fun x hx=>by obtain ⟨i,hi,rfl⟩:=List.getElem_of_mem hx;exact hk2 i hi (by omega))
 rw [idxV,hf,if_neg (by omega)]
theorem Zqv {p:Lnk→Bool}{f:FuncId}{caps:List AV}{l:List Lnk}{full:Bool}{h:AH}(hp : ∀ c∈l,∀ E:AH,ACalls Tryz.prog f ([.agg (lnkC c)]++caps) (h++E) fun x h'=>h'=h++E∧x=.ret (bv (p c))) (hl:l.length≤9223372036854775807) :
  Ac 213 [.sl l.length 2 full (rows lnkC l),.clo (.func f) caps] h (bv (l.any p)):=by
 refine tI' k213 fun N hn hlt hlA hbd=>?_
 simp only [tb'] at hbd ⊢
 refine wr'<|mv' lkb pt<|sn'<|wr'<|mv' lk pt<|mv' lk pt<|?_
 refine Zad mp (Znk (fun c hc E=>by have:=hp c hc E;rwa [List.append_nil]) hl) pt ?_
 refine V' (Zfg lk lki) pt<|mv' lk pt<|sn'<|Zaa<|Zaf rz<|rT'<|?_
 exact bvx (by first | exact ZeS p l | (rw [←ZeS];simp))
theorem ixPrtC_a {p:Chg→Bool}{f:FuncId}{caps:List AV}{l:List Chg}{full:Bool}{h:AH}(hp : ∀ c∈l,∀ E:AH,ACalls Tryz.prog f ([.agg (chgC c)]++caps) (h++E) fun x h'=>h'=h++E∧x=.ret (bv (p c))) (hl:l.length≤9223372036854775807) :
  Ac 221 [.sl l.length 4 full (rows chgC l),.clo (.func f) caps] h (iv (idxV p l)):=by
 refine tI' k221 fun N hn hlt hlA hbd=>?_
 simp only [tb'] at hbd ⊢
 refine wr'<|mv' lki pt<|sn'<|Zam<|wr'<|mv' lk pt<|V' (ZaP lk) pt<|mv' lki pt<|sn'<|Zao<|?_
 refine w_lp (ι:=Nat) (fun (k:Nat)=>[(8,iv (k:Int)),(4,.any),(5,.any)]++rn' 9 10) (fun (k:Nat)=>[]) (fun (k:Nat)=>k≤l.length ∧ ∀ j (hj:j<l.length),j<k→p l[j]=false) (fun (k:Nat)=>l.length-k) (0) (by exact ⟨by omega,fun j hj h0=>absurd h0 (by omega)⟩) ?_
 rintro k hi1
 try simp only [sm',Nat.reduceAdd]
 obtain ⟨hk1,hk2⟩:=hi1
 refine wr'<|V' (Zba lk lk) pt<|sn'<|Zam<|?_
 refine cd' lk (fun hc1=>?_) (fun hc1=>?_)
 ·have hk:k<l.length:=by omega
  refine Zae<|Zah<|Zam<|Zao<|wr'<|mv' lk pt<|mv' lk pt<|sn'<|wr'<|mv' lk pt<|mv' lk pt<|?_
  refine mv' lk pt ?_
  refine V' (ZaY lk lk ZeU (nb' rfl) ro (by omega) ro rfl) pt ?_
  refine V' (ZaK lk IxA_tk_4 rfl) pt<|ZjB lk mp (hp l[k] (List.getElem_mem hk) _) pt<|sn'<|?_
  refine Zau lk (fun hc2=>?_) (fun hc2=>?_)
  ·refine wr'<|mv' lk pt<|mv' lk pt<|sn'<|Zaa<|Zap<|Zai<|Zai<|Zap<|Zai<|Zaf rz<|rT'<|?_
   refine ivx ?_
   have hf:l.findIdx p=k:=ZfO hk (by simpa using hc2) (fun j hj=>hk2 j (by omega) hj)
   rw [idxV,hf,if_pos hk]
  refine Zae<|Zaz<|Zah<|Zas<|?_
  refine V' (Zay lk lki (by omega) (by omega)) pt ?_
  refine mv' lk pt<|Zar<|ZaA<|?_
  refine lT' (k+1) (by (try dsimp only);refine ⟨by omega,fun j hj h0=>?_⟩;by_cases e:j=k;subst e;simpa using hc2;exact hk2 j hj (by omega))
 refine ZaO<|ZaF<|ZaF<|Za7<|Zah<|wr'<|mv' lki pt<|sn'<|Zaa<|Zaf rz<|rT'<|?_
 refine ivx ?_
 have hf:l.findIdx p=l.length:=List.findIdx_eq_length.2 (fun x hx=>by obtain ⟨i,hi,rfl⟩:=List.getElem_of_mem hx;exact hk2 i hi (by omega))
 rw [idxV,hf,if_neg (by omega)]
end Go.Proofs.YtlekejpogddndaaGreatDoor
end
section
namespace Go.Ab
section
variable {P : Program} {n0 : Nat} {Q : AX → List AV → AH → Prop} {T : List AV} {h : AH} {a : AC}
theorem ZmJ {b:AC}{ι:Type}(f:ι→List (Nat×AV)) (H:ι→AH) (J:ι→Prop) (ha:aw P n0 a (AX.thn (fun T' h' => ∃ i,J i∧ALe n0 T' h' (Zc2 T (f i)) (H i)) Q) T h) (hb : ∀ i,J i→aw P n0 b Q (Zc2 T (f i)) (H i)):aw P n0 (.seq a b) Q T h :=
 w_seqc (fun i=>(Zc2 T (f i),H i)) J ha hb
theorem SimH.renew {w:World}{g:Gh}{h:AH}(hs:SimH w g h) {id v':Nat}(hid:id<h.length) (hb : ∀ ver l,g.loc id ver=some l→ver<v') (A:Option Addr) (ty st:Nat) :
  SimH w (g.add id v' (A,0)) (h.set id (.mk v' ty st []))∧g.le (g.add id v' (A,0)) ∧ ∀ k,Ow (g.add id v' (A,0)) (h.set id (.mk v' ty st [])) k→Ow g h k:=by
 have hloc : ∀ i v l,g.loc i v=some l→(g.add id v' (A,0)).loc i v=some l:=by
  intro i v l hi
  simp only [Gh.add]
  rw [if_neg]
  ·exact hi
  ·rintro ⟨rfl,rfl⟩;exact Nat.lt_irrefl _ (hb _ _ hi)
 have:=hs.put (w':=w) (g':=g.add id v' (A,0)) (h':=h.set id (.mk v' ty st [])) id v' ty st [] A 0 ?_ ?_ ?_ rfl hloc ?_ ?_ (fun v l hl=>Nat.le_of_lt (hb v l hl)) (fun k hk=>rfl) (Nat.le_refl _) (by simp [maxLen]) (.inl ⟨rfl,rfl⟩) (fun _ _ h=>absurd rfl h)
 ·exact ⟨this.1,this.2.1,fun k hk=>(this.2.2 k hk).resolve_right (fun h=>h.2 rfl)⟩
 ·intro i hi
  rw [List.getElem?_set_ne (Ne.symm hi)]
 ·rw [List.getElem?_set_self hid]
 ·simp
 ·intro i v l hi
  simp only [Gh.add] at hi
  split at hi
  ·right;assumption
  ·left;exact hi
 ·simp [Gh.add]
theorem Zkz {h:AH}{i j:Nat}{x y z:Ent}(hne:j≠i):((h.set i x).set j y).set i z=(h.set i z).set j y:=by
 rw [List.set_comm _ _ hne,List.set_set]
theorem ALe.iceCellNew {T:List AV}{h h1 h2:AH}{id j ver ty s n k v' t' s' ty2 st2:Nat}{cells cs cs' ds:List AV}(hi:h[id]?=some (.mk ver ty s cells)) (hj:h[j]?=some (.mk v' t' s' cs)) (hne:j≠id) (hk:cs[k]?=some (.own id ver n)) (hc:cells.take (n*s)=ds) (hl:n*s≤cells.length) (hp:aPut cs (some k) (.sl n s false ds)=cs')
  (e1:h.set id (.mk (ver+1) ty2 st2 [])=h1) (e2:h1.set j (.mk v' t' s' cs')=h2):ALe n0 T h T h2:=fun w0 S0 g0 a w g st=>by
 subst hp hc e1 e2
 have hid:id<h.length:=(List.getElem?_eq_some_iff.1 hi).1
 obtain ⟨h1,h2,h3⟩:=st.sim.ice hi
 have htm:=RepL.mono (g.le_ice h id) (fun _ _=>rfl) _ _ st.tmps
 obtain ⟨k1,k2⟩:=h1.tell (id:=j) (by rw [List.getElem?_set_ne (Ne.symm hne)];exact hj) hk (fun u hu=>h3 n u hl (by
  simp only [Rep] at hu ⊢
  exact hu))
 obtain ⟨r1,r2,r3⟩:=k1.renew (id:=id) (v':=ver+1) (by simpa using hid) (fun v l hv=>by
  have:=(st.sim.fresh id v l hv).2 _ _ _ _ hi
  omega) none ty2 st2
 have htm2:=RepL.mono r2 (fun _ _=>rfl) _ _ htm
 rw [Zkz hne] at r1 r3
 exact ⟨_,htm2,st.defers,r1,st.fr,(st.le.trans (g.le_ice h id)).trans r2,st.bd,fun i hi=>st.ow i (h2 i (k2 i (r3 i hi)))⟩
theorem ALe.own0CellRe {T:List AV}{h h1:AH}{id j ver ty s v' t' s' k st st2 ty2:Nat}{cells cs ds cs':List AV}(hi:h[id]?=some (.mk ver ty s cells)) (hj:h[j]?=some (.mk v' t' s' cs)) (hne:j≠id) (hk:cs[k]?=some (.sl 0 st true ds)) (hp:aPut cs (some k) (.own id (ver+1) 0)=cs') (he:(h.set id (Ent.mk (ver+1) ty2 st2 [])).set j (Ent.mk v' t' s' cs')=h1):ALe n0 T h T h1:=fun w0 S0 g0 a w g s=>by
 subst he hp
 obtain ⟨A1,cap1,l1,l2,l3⟩:=s.sim.ent _ _ _ _ _ hj
 have hid:id<h.length:=(List.getElem?_eq_some_iff.1 hi).1
 have hjl:j<h.length:=(List.getElem?_eq_some_iff.1 hj).1
 rcases l3 with ⟨h0,_⟩ | ⟨b,arr,rfl,x1,x2,x3,x4,x5,x6⟩
 ·rw [h0] at hk;simp at hk
 obtain ⟨u,hu,hr⟩:=x6.get hk
 have hcell:w.cell? ⟨b,k,none⟩=some u:=by
  rw [cell_of_row w b k arr t' (0,0) x3]
  rw [List.getElem?_take] at hu
  split at hu
  ·simpa using hu
  ·cases hu
 simp only [Rep] at hr
 obtain ⟨_,A,cap,rfl,_,_,hc,_,_⟩:=hr
 obtain rfl:cap=0:=(hc trivial).symm
 obtain ⟨q1,q2,q3⟩:=s.sim.renew (id:=id) (v':=ver+1) hid (fun v l hv=>by
  have:=(s.sim.fresh id v l hv).2 _ _ _ _ hi
  omega) A ty2 st2
 have htm:=RepL.mono q2 (fun _ _=>rfl) _ _ s.tmps
 obtain ⟨r1,r2⟩:=q1.tell1 (id:=j) (c':=.own id (ver+1) 0) (by rw [List.getElem?_set_ne (Ne.symm hne)];exact hj) hk (by
  intro b' cap' u' e1 e2 _
  have:=q2.loc _ _ _ l1
  rw [this] at e1
  simp only [Option.some.injEq,Prod.mk.injEq,Addr.mk.injEq] at e1
  obtain ⟨⟨rfl,_⟩,_⟩:=e1
  rw [hcell] at e2
  cases e2
  exact ZbW (Nat.le_refl _) (by simp [maxLen]))
 exact ⟨_,htm,s.defers,r1,s.fr,s.le.trans q2,s.bd,fun i hi=>s.ow i (q3 i (r2 i hi))⟩
theorem ALe.newEnt {T:List AV}{h h1:AH}{ty st:Nat}(he:h++[.mk 0 ty st []]=h1):ALe n0 T h T h1:=fun w0 S0 g0 a w g s=>by
 subst he
 obtain ⟨q1,q2,q3⟩:=s.sim.add0 (w':=w) none ty st (fun _ _=>rfl) (Nat.le_refl _)
 exact ⟨_,RepL.mono q2 (fun _ _=>rfl) _ _ s.tmps,s.defers,q1,s.fr,s.le.trans q2,s.bd,fun i hi=>(q3 i hi).elim (s.ow i) (fun h=>.inr (Nat.le_trans s.fr.size h))⟩
end
end Go.Ab
end
section
namespace Go.Ab
section
variable {P : Program}
abbrev dfo:Obj:=.deferred (some [])
abbrev mkD (D:Nat):Ent:=.raw D dfo [] []
theorem putA (w:World) (k j:Nat) (o:Obj) (h:j≠k):(w.putObj k o).heap[j]?=w.heap[j]?:=World.putObj_heap_other h
theorem raw_or {h:AH}{i:Nat}{e:Ent}{j k:Nat}{o:Obj}{T:List AV}{vs:List Value}(h1:(h.set i e)[j]?=some (.raw k o T vs)):(j=i∧e=.raw k o T vs)∨(j≠i∧h[j]?=some (.raw k o T vs)):=by
 by_cases hi:j=i
 ·subst hi
  by_cases hl:j<h.length
  ·rw [List.getElem?_set_self hl] at h1;cases h1;exact .inl ⟨rfl,rfl⟩
  ·rw [List.getElem?_eq_none (by simpa using hl)] at h1;cases h1
 ·rw [List.getElem?_set_ne (Ne.symm hi)] at h1;exact .inr ⟨hi,h1⟩
theorem SimH.setRaw {w:World}{g:Gh}{h:AH}(hs:SimH w g h) {i k:Nat}{o o':Obj}{T:List AV}{vs:List Value}(hi:h[i]?=some (.raw k o T vs)) (ho:o'.isCells=false) (e:Ent) (he:e=.raw k o' T vs∨e=.gone) :
  SimH (w.putObj k o') g (h.set i e)∧Fr w (Ow g h) (w.putObj k o') ∧ ∀ j,Ow g (h.set i e) j→Ow g h j:=by
 have hil:i<h.length:=(List.getElem?_eq_some_iff.1 hi).1
 obtain ⟨r1,r2,r3,r4⟩:=hs.raw _ _ _ _ _ hi
 have hkl:k<w.heap.size:=(Array.getElem?_eq_some_iff.1 r1).1
 have hget : ∀ {j v ty s:Nat} {c:List AV},(h.set i e)[j]?=some (.mk v ty s c)→j≠i∧h[j]?=some (.mk v ty s c):=by
  intro j v ty s c h1
  by_cases hj:j=i
  ·subst hj
   rw [List.getElem?_set_self hil] at h1
   rcases he with rfl | rfl <;> cases h1
  ·rw [List.getElem?_set_ne (Ne.symm hj)] at h1;exact ⟨hj,h1⟩
 have how : ∀ j b,OwAt g (h.set i e) j b→OwAt g h j b:=by
  rintro j b ⟨v,ty,s,c,a,cap,e1,e2⟩
  exact ⟨v,ty,s,c,a,cap,(hget e1).2,e2⟩
 have hrw : ∀ {j b:Nat} {x:Obj} {T':List AV} {vs':List Value},(h.set i e)[j]?=some (.raw b x T' vs')→(j=i∧b=k∧x=o'∧T'=T∧vs'=vs)∨(j≠i∧h[j]?=some (.raw b x T' vs')):=by
  intro j b x T' vs' h1
  rcases raw_or h1 with ⟨h2,h3⟩ | h2
  ·rcases he with rfl | rfl <;> cases h3
   exact .inl ⟨h2,rfl,rfl,rfl,rfl⟩
  ·exact .inr h2
 have hrw' : ∀ j b,RwAt (h.set i e) j b→RwAt h j b:=by
  rintro j b ⟨x,T',vs',h1⟩
  rcases hrw h1 with ⟨rfl,rfl,_⟩ | ⟨_,h2⟩
  ·exact ⟨_,_,_,hi⟩
  ·exact ⟨_,_,_,h2⟩
 have hD : ∀ b,g.D b→(w.putObj k o').heap[b]?=w.heap[b]?:=fun b hb=>putA _ _ _ _ (fun e=>r3 (e ▸ hb))
 have hne : ∀ {j b:Nat},OwAt g h j b→b≠k:=fun hb e=>hs.own_ne_raw hb (by subst e;exact ⟨o,T,vs,hi⟩)
 refine ⟨⟨?_,fun a b c h1 h2=>hs.inj a b c (how _ _ h1) (how _ _ h2),fun b hb=>by simpa using hs.lt b hb,fun j v l hl=>?_,fun j v l hl hf=>?_,hs.glob.mono (fun _ h=>h) hD,?_,fun a b c h1 h2=>hs.rinj a b c (hrw' _ _ h1) (hrw' _ _ h2)⟩,⟨rfl,rfl,rfl,by simp,fun b _ hn=>putA _ _ _ _ (fun e=>hn (.inr ⟨i,o,T,vs,by subst e;exact hi⟩))⟩,fun j hj=>hj.imp (fun ⟨a,h1⟩=>⟨a,how _ _ h1⟩) (fun ⟨a,h1⟩=>⟨a,hrw' _ _ h1⟩)⟩
 ·intro j v ty s c h1
  obtain ⟨hj,h2⟩:=hget h1
  obtain ⟨A,cap,e1,e2,e3⟩:=hs.ent _ _ _ _ _ h2
  refine ⟨A,cap,e1,e2,e3.mono (Gh.le.refl g) (fun _ _ _ h=>h) hD (fun b hb h0=>?_)⟩
  cases A with
  | none=>simp at hb
  | some a=>exact putA _ _ _ _ (hne (j:=j) ⟨v,ty,s,c,a,cap,h2,e1,h0,by simpa using hb⟩)
 ·have:=hs.fresh j v l hl
  exact ⟨by simpa using this.1,fun v' ty s c h1=>this.2 _ _ _ _ (hget h1).2⟩
 ·by_cases hj:j=i
  ·subst hj;rw [List.getElem?_set_self hil] at hf;rcases he with rfl | rfl <;> cases hf
  ·rw [List.getElem?_set_ne (Ne.symm hj)] at hf;exact hs.free _ _ _ hl hf
 ·intro j b x T' vs' h1
  rcases hrw h1 with ⟨rfl,rfl,rfl,rfl,rfl⟩ | ⟨hj,h2⟩
  ·exact ⟨World.putObj_heap_same hkl,ho,r3,RepL.mono (Gh.le.refl g) hD _ _ r4⟩
  ·obtain ⟨q1,q2,q3,q4⟩:=hs.raw _ _ _ _ _ h2
   exact ⟨(putA _ _ _ _ (fun e=>hj (hs.rinj j i b ⟨_,_,_,h2⟩ ⟨o,T,vs,by subst e;exact hi⟩))).trans q1,q2,q3,RepL.mono (Gh.le.refl g) hD _ _ q4⟩
theorem SimH.newRaw {w:World}{g:Gh}{h:AH}(hs:SimH w g h) {o:Obj}{T:List AV}{vs:List Value}(ho:o.isCells=false) (hr:RepL w g T vs) :
  SimH (w.alloc o) g (h++[.raw w.heap.size o T vs])∧Fr w (Ow g h) (w.alloc o) ∧ ∀ j,Ow g (h++[.raw w.heap.size o T vs]) j→Ow g h j∨w.heap.size≤j:=by
 have hget : ∀ {j v ty s:Nat} {c:List AV},(h++[.raw w.heap.size o T vs])[j]?=some (.mk v ty s c)→h[j]?=some (.mk v ty s c):=by
  intro j v ty s c h1
  by_cases hj:j<h.length
  ·rwa [List.getElem?_append_left hj] at h1
  ·rw [List.getElem?_append_right (by omega)] at h1
   cases hk:j-h.length with
   | zero=>rw [hk] at h1;simp at h1
   | succ m=>rw [hk] at h1;simp at h1
 have hrw : ∀ {j b:Nat} {x:Obj} {T':List AV} {vs':List Value},(h++[.raw w.heap.size o T vs])[j]?=some (.raw b x T' vs')→(j=h.length∧b=w.heap.size∧x=o∧T'=T∧vs'=vs)∨h[j]?=some (.raw b x T' vs'):=by
  intro j b x T' vs' h1
  by_cases hj:j<h.length
  ·rw [List.getElem?_append_left hj] at h1;exact .inr h1
  ·rw [List.getElem?_append_right (by omega)] at h1
   cases hk:j-h.length with
   | zero=>rw [hk] at h1;simp at h1;obtain ⟨rfl,rfl,rfl,rfl⟩:=h1;exact .inl ⟨by omega,rfl,rfl,rfl,rfl⟩
   | succ m=>rw [hk] at h1;simp at h1
 have how : ∀ j b,OwAt g (h++[.raw w.heap.size o T vs]) j b→OwAt g h j b:=by
  rintro j b ⟨v,ty,s,c,a,cap,e1,e2⟩
  exact ⟨v,ty,s,c,a,cap,hget e1,e2⟩
 have hold : ∀ b,b<w.heap.size→(w.alloc o).heap[b]?=w.heap[b]?:=fun b hb=>Zqt _ _ _ hb
 have hD : ∀ b,g.D b→(w.alloc o).heap[b]?=w.heap[b]?:=fun b hb=>hold b (hs.lt b hb)
 have hlt : ∀ {j b:Nat},RwAt h j b→b<w.heap.size:=fun hb=>(hs.own_not_D (.inr ⟨_,hb⟩)).2
 refine ⟨⟨?_,fun a b c h1 h2=>hs.inj a b c (how _ _ h1) (how _ _ h2),fun b hb=>by have:=hs.lt b hb;simp;omega,fun j v l hl=>?_,fun j v l hl hf=>?_,hs.glob.mono (fun _ h=>h) hD,?_,?_⟩,⟨rfl,rfl,rfl,by simp,fun b hb _=>hold b hb⟩,?_⟩
 ·intro j v ty s c h1
  have h2:=hget h1
  obtain ⟨A,cap,e1,e2,e3⟩:=hs.ent _ _ _ _ _ h2
  refine ⟨A,cap,e1,e2,e3.mono (Gh.le.refl g) (fun _ _ _ h=>h) hD (fun b hb h0=>?_)⟩
  cases A with
  | none=>simp at hb
  | some a=>exact hold b (hs.own_not_D (.inl ⟨j,v,ty,s,c,a,cap,h2,e1,h0,by simpa using hb⟩)).2
 ·have:=hs.fresh j v l hl
  exact ⟨by simp;omega,fun v' ty s c h1=>this.2 _ _ _ _ (hget h1)⟩
 ·have:=(hs.fresh j v l hl).1
  rw [List.getElem?_append_left this] at hf
  exact hs.free _ _ _ hl hf
 ·intro j b x T' vs' h1
  rcases hrw h1 with ⟨rfl,rfl,rfl,rfl,rfl⟩ | h2
  ·exact ⟨World.alloc_heap_new w _,ho,fun hd=>Nat.lt_irrefl _ (hs.lt _ hd),RepL.mono (Gh.le.refl g) hD _ _ hr⟩
  ·obtain ⟨q1,q2,q3,q4⟩:=hs.raw _ _ _ _ _ h2
   exact ⟨(hold b (hlt ⟨_,_,_,h2⟩)).trans q1,q2,q3,RepL.mono (Gh.le.refl g) hD _ _ q4⟩
 ·rintro a b c ⟨x1,x2,x3,h1⟩ ⟨y1,y2,y3,h2⟩
  rcases hrw h1 with ⟨rfl,rfl,_⟩ | h1'
  ·rcases hrw h2 with ⟨rfl,_⟩ | h2'
   ·rfl
   ·exact absurd (hlt ⟨_,_,_,h2'⟩) (Nat.lt_irrefl _)
  ·rcases hrw h2 with ⟨rfl,rfl,_⟩ | h2'
   ·exact absurd (hlt ⟨_,_,_,h1'⟩) (Nat.lt_irrefl _)
   ·exact hs.rinj a b c ⟨_,_,_,h1'⟩ ⟨_,_,_,h2'⟩
 ·rintro b (⟨a,h1⟩ | ⟨a,x1,x2,x3,h1⟩)
  ·exact .inl (.inl ⟨a,how _ _ h1⟩)
  ·rcases hrw h1 with ⟨_,rfl,_⟩ | h2
   ·exact .inr (Nat.le_refl _)
   ·exact .inl (.inr ⟨a,_,_,_,h2⟩)
theorem St.start {w:World}{g:Gh}{h:AH}{T:List AV}{a:Act}(hs:SimH w g h) (ht:RepL w g T a.tmps.toList):St h.length w (Ow g h) ⟨g.D,g.loc,a.defers⟩ T h a w g :=
 ⟨ht,rfl,hs,Fr.refl _ _,⟨fun _ h=>h,fun _ _ _ h=>h⟩,fun i v l hl=>(hs.fresh i v l hl).1,fun k hk=>.inl hk⟩
structure LkY (w:World) (g:Gh) (h:AH) (w':World) (g':Gh) (h':AH):Prop where
 sim:SimH w' g' h'
 le:g.le g'
 fr:Fr w (Ow g h) w'
 ow : ∀ k,Ow g' h' k→Ow g h k∨w.heap.size≤k
theorem LkY.trans {a b c:World}{ga gb gc:Gh}{ha hb hc:AH}(h:LkY a ga ha b gb hb) (k:LkY b gb hb c gc hc):LkY a ga ha c gc hc:=by
 refine ⟨k.sim,h.le.trans k.le,h.fr.trans k.fr ?_,?_⟩
 ·intro i hi hlt
  exact (h.ow i hi).resolve_right (by omega)
 ·intro i hi
  rcases k.ow i hi with ho | ho
  ·exact h.ow i ho
  ·exact .inr (Nat.le_trans h.fr.size ho)
theorem LkY.of_st {w w':World}{g g':Gh}{h h':AH}{n0:Nat}{df:List Deferred}{T:List AV}{a:Act}(st:St n0 w (Ow g h) ⟨g.D,g.loc,df⟩ T h' a w' g'):LkY w g h w' g' h':=⟨st.sim,⟨st.le.D,st.le.loc⟩,st.fr,st.ow⟩
theorem LkY.rep {w w':World}{g g':Gh}{h h':AH}(hs:SimH w g h) (k:LkY w g h w' g' h') {T:List AV}{vs:List Value}(ht:RepL w g T vs):RepL w' g' T vs :=
 RepL.mono k.le (fun b hb=>k.fr.block b (hs.lt b hb) (fun ho=>(hs.own_not_D ho).1 hb)) _ _ ht
theorem LkY.setRaw {w:World}{g:Gh}{h:AH}(hs:SimH w g h) {i k:Nat}{o o':Obj}{T:List AV}{vs:List Value}(hi:h[i]?=some (.raw k o T vs)) (ho:o'.isCells=false) (e:Ent) (he:e=.raw k o' T vs∨e=.gone):LkY w g h (w.putObj k o') g (h.set i e):=by
 obtain ⟨h1,h2,h3⟩:=hs.setRaw hi ho e he
 exact ⟨h1,Gh.le.refl g,h2,fun k hk=>.inl (h3 k hk)⟩
theorem LkY.newRaw {w:World}{g:Gh}{h:AH}(hs:SimH w g h) {o:Obj}{T:List AV}{vs:List Value}(ho:o.isCells=false) (hr:RepL w g T vs):LkY w g h (w.alloc o) g (h++[.raw w.heap.size o T vs]):=by
 obtain ⟨h1,h2,h3⟩:=hs.newRaw ho hr
 exact ⟨h1,Gh.le.refl g,h2,h3⟩
structure RgC where
 pre:List Code
 id:Nat
 g:Operand
 ps:Array Tmp
 asg:Code
 body:Code
 post:List Code
def ZqC:Code→List Code
 | .seq a b=>ZqC a++ZqC b
 | c=>[c]
def ZbQ:List Code→Option RgC
 | []=>none
 | .block id (.rangeFunc g ps a b)::y=>some ⟨[],id,g,ps,a,b,y⟩
 | x::y=>(ZbQ y).map fun r=>{ r with pre:=x::r.pre }
def splitR (c:Code):Option RgC:=ZbQ (ZqC c)
def wpL (F:Fence) (n:Nat) (P:Program):List Code→(Exit→Act→World→Prop)→Act→World→Prop
 | [],Q,a,w=>Q .normal a w
 | x::l,Q,a,w=>x.wpIn F n P (Exit.then (wpL F n P l Q) Q) a w
theorem Zjn {F:Fence}{n:Nat} : ∀ {l:List Code}{Q Q':Exit→Act→World→Prop}{a:Act}{w:World},wpL F n P l Q a w→(∀ e a w,Q e a w→Q' e a w)→wpL F n P l Q' a w
 | [],Q,Q',a,w,hq,h=>h _ _ _ hq
 | x::l,Q,Q',a,w,hq,h=>by
  refine wpIn_mono hq ?_
  intro e a w hq
  cases e with
  | normal=>exact Zjn hq h
  | _=>exact h _ _ _ hq
theorem Zjo {F:Fence}{n:Nat} : ∀ (l m:List Code) {Q:Exit→Act→World→Prop}{a:Act}{w:World},wpL F n P (l++m) Q a w↔wpL F n P l (Exit.then (wpL F n P m Q) Q) a w
 | [],m,Q,a,w=>Iff.rfl
 | x::l,m,Q,a,w=>by
  constructor
  ·intro hq
   refine wpIn_mono hq ?_
   intro e a w hq
   cases e with
   | normal=>exact (Zjo l m).1 hq
   | _=>exact hq
  ·intro hq
   refine wpIn_mono hq ?_
   intro e a w hq
   cases e with
   | normal=>exact (Zjo l m).2 hq
   | _=>exact hq
theorem Zob {F:Fence}{n:Nat}(c:Code) : ∀ {Q:Exit→Act→World→Prop}{a:Act}{w:World},wpL F n P (ZqC c) Q a w→c.wpIn F n P Q a w:=by
 fun_induction ZqC c with
 | case1 x y ihx ihy =>
  intro Q a w hq
  refine wpIn_seq (wpIn_mono (ihx ((Zjo _ _).1 hq)) ?_)
  intro e a w hq
  cases e with
  | normal=>exact ihy hq
  | _=>exact hq
 | case2 c hc =>
  intro Q a w hq
  refine wpIn_mono (show c.wpIn F n P (Exit.then (wpL F n P [] Q) Q) a w from hq) ?_
  intro e a w hq
  cases e <;> exact hq
theorem Zpy : ∀ {l:List Code}{r:RgC},ZbQ l=some r→l=r.pre++Code.block r.id (.rangeFunc r.g r.ps r.asg r.body)::r.post:=by
 intro l
 fun_induction ZbQ l with
 | case1=>intro r h;cases h
 | case2 id g ps x b y=>intro r h;cases h;rfl
 | case3 x y hx ih =>
  intro r h
  obtain ⟨r',h1,rfl⟩:=Option.map_eq_some_iff.1 h
  rw [ih h1];rfl
theorem Zkx {F:Fence}{n:Nat}{Q:Exit→Act→World→Prop}(c:Code) {r:RgC}(hc:splitR c=some r) {a:Act}{w:World}
  (hw:wpL F n P r.pre (Exit.then ((Code.block r.id (.rangeFunc r.g r.ps r.asg r.body)).wpIn F n P (Exit.then (wpL F n P r.post Q) Q)) Q) a w):c.wpIn F n P Q a w:=by
 refine Zob c ?_
 rw [Zpy hc]
 exact (Zjo _ _).2 hw
structure AFR where
 pre:List AC
 g:Operand
 ps:Array Tmp
 asg:AC
 body:AC
 post:AC
 res:List AR
 ntmps:Nat
def ZgY (P:Program) (f:FuncId):Option AFR :=
 match P.funcs[f]? with
 | some fn=>if fn.name == "runtime.NumGoroutine" then none else match fn.body with
  | some c=>match splitR c with
   | some r=>match r.pre.mapM (comp P),comp P r.asg,comp P r.body,r.post.mapM (comp P),fn.results.toList.mapM (Zfp P) with
    | some p,some a,some b,some q,some rs=>some ⟨p,r.g,r.ps,a,b,q.foldr .seq .skip,rs,fn.ntmps⟩
    | _,_,_,_,_=>none
   | none=>none
  | none=>none
 | none=>none
theorem Zhi {n0:Nat} : ∀ (l:List Code) (al:List AC),l.mapM (comp P)=some al → ∀ {Q:AX→List AV→AH→Prop}{T:List AV}{h:AH},aw P n0 (al.foldr .seq .skip) Q T h →
  ∀ w0 S0 g0 a w g,St n0 w0 S0 g0 T h a w g→wpL Fence.wide 0 P l (Zlx n0 w0 S0 g0 Q) a w
 | [],al,hm,Q,T,h,hw,w0,S0,g0,a,w,g,st=>by
  simp at hm;subst hm
  exact ⟨.normal,T,h,g,st,trivial,hw⟩
 | x::l,al,hm,Q,T,h,hw,w0,S0,g0,a,w,g,st=>by
  simp only [List.mapM_cons,Option.bind_eq_bind,Option.bind_eq_some_iff,Option.pure_def,Option.some.injEq] at hm
  obtain ⟨ac,h1,al',h2,rfl⟩:=hm
  refine wpIn_mono (@ZeT P n0 rdN x ac h1 _ _ _ hw w0 S0 g0 a w g st) ?_
  rintro e a' w' ⟨z,T',h',g',k1,k2,k3⟩
  cases z <;> cases e <;> simp only [ExR] at k2 <;> simp only [Exit.then,AX.thn] at k3 ⊢
  case normal.normal =>
   obtain ⟨T1,h1,hle,hq⟩:=k3
   obtain ⟨g1,st1⟩:=hle w0 S0 g0 a' w' g' k1
   exact Zhi l al' h2 hq w0 S0 g0 a' w' g1 st1
  case exit.exit=>exact ⟨_,T',h',g',k1,by simp only [ExR];exact k2,k3⟩
  case ret.ret=>exact ⟨_,T',h',g',k1,by simp only [ExR],k3⟩
  case pan.panic=>exact ⟨_,T',h',g',k1,by simp only [ExR];exact k2,k3⟩
def setPs (T:List AV) (ps:Array Tmp) (as1:List AV):List AV:=(ps.toList.zip as1).foldl (fun T p=>T.set p.1 p.2) T
theorem ZkF {w:World}{g:Gh} : ∀ (ps:List Tmp) (as1:List AV) (args:List Value) (T:List AV) (tm:List Value),RepL w g T tm→RepL w g as1 args →
  RepL w g ((ps.zip as1).foldl (fun T p=>T.set p.1 p.2) T) ((ps.zip args).foldl (fun T p=>T.set p.1 p.2) tm)
 | [],_,_,_,_,ht,_=>by simpa using ht
 | p::ps,[],args,T,tm,ht,ha=>by simp only [RepL] at ha;subst ha;simpa using ht
 | p::ps,c::as1,args,T,tm,ht,ha=>by
  simp only [RepL] at ha
  obtain ⟨u,us,rfl,h1,h2⟩:=ha
  simp only [List.zip_cons_cons,List.foldl_cons]
  exact ZkF ps as1 us _ _ (ht.set h1) h2
theorem ZiQ : ∀ (l:List (Tmp×Value)) (tm:Array Value),(l.foldl (fun t p=>t.setIfInBounds p.1 p.2) tm).toList=l.foldl (fun T p=>T.set p.1 p.2) tm.toList
 | [],tm=>rfl
 | p::l,tm=>by simp only [List.foldl_cons];rw [ZiQ l];simp
def ZqX (i l:Nat) (rdy bsy fin:Obj) (T:List AV) (vs:List Value) (R2:AE→AH→Prop):AX→List AV→AH→Prop
 | .normal,_,h=>h[i]?=some (.raw l bsy T vs)∧R2 (.ret (.v (.bool true))) (h.set i (.raw l rdy T vs))
 | .ret,_,h=>h[i]?=some (.raw l bsy T vs)∧R2 (.ret (.v (.bool false))) (h.set i (.raw l fin T vs))
 | _,_,_=>False
def asgQ (P:Program) (fr:AFR) (i l:Nat) (rdy bsy fin:Obj) (T:List AV) (vs:List Value) (R2:AE→AH→Prop) (x:AX) (T1:List AV) (h2:AH):Prop :=
 x=.normal∧h2[i]?=some (.raw l rdy T vs) ∧ ∀ n1,(h2.set i (.raw l bsy T vs)).length=n1→(∀ e∈h2.set i (.raw l bsy T vs),e.lt n1=true)→aw P n1 fr.body (ZqX i l rdy bsy fin T vs R2) T1 (h2.set i (.raw l bsy T vs))
def Zke (P:Program) (fr:AFR) (i l:Nat) (rdy bsy fin:Obj) (T:List AV) (vs:List Value):Prop :=
 ∀ (as1:List AV) (h:AH) (R2:AE→AH→Prop),as1.length=fr.ps.size→h[i]?=some (.raw l rdy T vs) →
  (∀ n0,h.length=n0→(∀ e∈h,e.lt n0=true)→AV.ltL n0 as1=true→AV.bdL as1→AV.bdL T→aw P n0 fr.asg (asgQ P fr i l rdy bsy fin T vs R2) (setPs T fr.ps as1) h)→AYield P l as1 h R2
def ZeA (rs:List AR) (N D:Nat) (R:AE→AH→Prop):AX→List AV→AH→Prop
 | .normal,T,h=>h[N]?=some (mkD D)∧match aRes rs T (h.set N .gone) with
  | some c=>R (.ret c) (h.set N .gone)
  | none=>False
 | .ret,T,h=>h[N]?=some (mkD D)∧match aRes rs T (h.set N .gone) with
  | some c=>R (.ret c) (h.set N .gone)
  | none=>False
 | _,_,_=>False
def rangeA (P:Program) (fr:AFR) (R:AE→AH→Prop) (T:List AV) (h:AH):Prop :=
  ∃ gf caps,Zaj T fr.g=.clo (.func gf) caps ∧ ∀ (l D:Nat) (rdy bsy fin:Obj) (vs:List Value),(∀ e∈h,e.lt h.length=true)→AV.ltL h.length T=true→Zke P fr (h.length+1) l rdy bsy fin T vs →
    ACalls P gf (.v (.func (.yield l) #[] #[])::caps) (h++[mkD D,.raw l rdy T vs]) fun r h3=>(∃ c,r=.ret c) ∧
      ((h3[h.length+1]?=some (.raw l rdy T vs) ∧ ∀ n0,(h3.set (h.length+1) .gone).length=n0→(∀ e∈h3.set (h.length+1) .gone,e.lt n0=true)→aw P n0 fr.post (ZeA fr.res h.length D R) T (h3.set (h.length+1) .gone)) ∨
       (h3[h.length+1]?=some (.raw l fin T vs)∧ZeA fr.res h.length D R .ret T (h3.set (h.length+1) .gone)))
def preQ (P:Program) (fr:AFR) (n0:Nat) (R:AE→AH→Prop):AX→List AV→AH→Prop
 | .normal,T,h => ∃ T1 h1,ALe n0 T h T1 h1∧rangeA P fr R T1 h1
 | .ret,T,h=>match aRes fr.res T h with
  | some c=>R (.ret c) h
  | none=>False
 | _,_,_=>False
theorem yrule {fr:AFR}{asg body:Code}(ha:comp P asg=some fr.asg) (hb:comp P body=some fr.body) {i D l:Nat}{T:List AV}{tm:Array Value}{rec:LoopState→Option Code→Loop}{fn:FuncId}
    (hrec:rec=fun st pe=>{ state:=st,pending:=pe,fn:=fn,tmps:=tm,params:=fr.ps,assign:=asg,body:=body,defers:=D }) :
    Zke P fr i l (.loop (rec .ready none)) (.loop (rec .busy none)) (.loop (rec .done (some .ret))) T tm.toList:=by
  intro as1 h R2 hsz hi hw w g vs hs hr
  obtain ⟨q1,q2,q3,q4⟩:=hs.raw _ _ _ _ _ hi
  have hvs:vs.size=fr.ps.size:=by have:=hr.length;simp only [Array.length_toList] at this;omega
  have hy:=run_yield (P:=P) (args:=vs) q1 (by rw [hrec];exact hvs)
  rw [hrec] at hy
  refine ⟨fn,_,asg,body,hy,roundIn_of_wpIn trivial ?_⟩
  have ht:RepL w g (setPs T fr.ps as1) ((fr.ps.zip vs).foldl (fun t p=>t.setIfInBounds p.1 p.2) tm).toList:=by
    have:=ZkF fr.ps.toList as1 vs.toList T tm.toList q4 hr
    rw [←Array.foldl_toList,ZiQ,Array.toList_zip]
    exact this
  letI:Rd:=rdS l
  refine wpIn_mono (ZeT asg fr.asg ha (hw _ rfl hs.ltE (RepL.lt (fun i v l hl=>(hs.fresh i v l hl).1) _ _ hr) (RepL.bd _ _ hr) (RepL.bd _ _ q4)) w _ _ _ w g (St.start (a:={ tmps:=(fr.ps.zip vs).foldl (fun t p=>t.setIfInBounds p.1 p.2) tm,defers:=[] }) hs ht)) ?_
  rintro e a1 w1 ⟨x1,T1,h2,g1,st1,hx1,rfl,hi2,hw1⟩
  cases e <;> simp only [ExR] at hx1
  simp only [Exit.then]
  have k1:=LkY.of_st st1
  obtain ⟨r1,_,_,_⟩:=k1.sim.raw _ _ _ _ _ hi2
  refine ⟨_,run_beginRound r1 (by rw [hrec]),?_⟩
  have e0:({ rec .ready none with state:=.busy }:Loop)=rec .busy none:=by rw [hrec]
  rw [e0]
  have k2:=LkY.setRaw k1.sim hi2 (o':=.loop (rec .busy none)) rfl (.raw l (.loop (rec .busy none)) T tm.toList) (.inl rfl)
  have st2:=St.start (a:=a1) k2.sim (k2.rep k1.sim st1.tmps)
  refine wpIn_mono (ZeT body fr.body hb (hw1 _ rfl k2.sim.ltE) _ _ _ _ _ g1 st2) ?_
  rintro e a2 w2 ⟨x2,T2,h3,g2,st3,hx2,hq⟩
  have k3:=(k1.trans k2).trans (LkY.of_st st3)
  have fin : ∀ (jump : Option Code) (b : Bool), h3[i]? = some (.raw l (.loop (rec .busy none)) T tm.toList) → b = jump.isNone →
      R2 (.ret (.v (.bool b))) (h3.set i (.raw l (.loop (rec (if jump.isNone then .ready else .done) jump)) T tm.toList)) →
      ∃ v w',(Instr.endRound l jump).run P w2=.ok v w' ∧ ∃ x h' g',EndR w' g' (.returned v) x∧SimH w' g' h'∧g.le g'∧Fr w (Ow g h) w'∧(∀ k,Ow g' h' k→Ow g h k∨w.heap.size≤k)∧R2 x h':=by
    rintro jump b hi3 rfl hR
    obtain ⟨p1,_,_,_⟩:=k3.sim.raw _ _ _ _ _ hi3
    refine ⟨_,_,run_endRound jump p1,?_⟩
    have e1:({ rec .busy none with state:=if jump.isNone then .ready else .done,pending:=jump }:Loop)=rec (if jump.isNone then .ready else .done) jump:=by rw [hrec]
    rw [e1]
    have k4:=LkY.setRaw k3.sim hi3 (o':=.loop (rec (if jump.isNone then .ready else .done) jump)) rfl (.raw l (.loop (rec (if jump.isNone then .ready else .done) jump)) T tm.toList) (.inl rfl)
    have k5:=k3.trans k4
    exact ⟨.ret (.v (.bool jump.isNone)),_,g2,by simp only [EndR,Rep],k5.sim,k5.le,k5.fr,k5.ow,hR⟩
  cases x2 <;> cases e <;> simp only [ExR] at hx2 <;> simp only [ZqX] at hq <;> try (exact hq.elim)
  · exact fin none true hq.1 rfl hq.2
  · exact fin (some .ret) false hq.1 rfl hq.2
theorem ZhO {f:FuncId}(he:enters P f=true) (args:Array Value) (w:World):(callFunc f args).run P w=.ok (.enter f args) w:=by
 unfold enters at he
 split at he <;> try (cases he;done)
 rename_i fd hfd
 simp only [Bool.and_eq_true,bne_iff_ne,ne_eq] at he
 have hb:fd.body≠none:=by intro e;simp [e] at he
 simp [callFunc,hfd,he.1,hb]
theorem ACalls.of_range {f:FuncId}{fr:AFR}(hc:ZgY P f=some fr) {args:List AV}{h:AH}{R:AE→AH→Prop}(hw:aw P h.length (fr.pre.foldr .seq .skip) (preQ P fr h.length R) (args++List.replicate (fr.ntmps-args.length) .any) h):ACalls P f args h R:=by
  unfold ZgY at hc
  split at hc <;> try (cases hc;done)
  rename_i fn hfn
  split at hc <;> try (cases hc;done)
  rename_i hname
  split at hc <;> try (cases hc;done)
  rename_i c hb
  split at hc <;> try (cases hc;done)
  rename_i rg hrg
  split at hc <;> try (cases hc;done)
  rename_i ap aa ab aq rs hap haa hab haq hrs
  cases hc
  simp only at hw
  refine ⟨?_,fun w g vs hs ha=>(callsIn_wide (n:=0)).1 (callsIn_of_wp_marks hfn hb trivial (Zkx c hrg ?_) rfl)⟩
  · simp only [enters,hfn,hb]
    simp only [Bool.not_eq_true] at hname
    simp [bne,hname]
  have hlen:vs.size=args.length:=by simpa using ha.length
  have ht:RepL w g (args++List.replicate (fn.ntmps-args.length) .any) (vs++Array.replicate (fn.ntmps-vs.size) undef).toList:=by
    simp only [Array.toList_append,Array.toList_replicate,hlen]
    refine ha.append ?_
    have:=ZjJ w g (List.replicate (fn.ntmps-args.length) undef)
    simpa using this
  have fin : ∀ {w1 : World} {g1 : Gh} {h1 : AH} {T1 : List AV} {a1 : Act} {c : AV}, LkY w g h w1 g1 h1 → RepL w1 g1 T1 a1.tmps.toList → aRes rs T1 h1 = some c → R (.ret c) h1 →
      LeavesInM Fence.wide 0 P fn a1.tmps (fun e w' => ∃ x h' g',EndR w' g' e x∧SimH w' g' h'∧g.le g'∧Fr w (Ow g h) w'∧(∀ k,Ow g' h' k→Ow g h k∨w.heap.size≤k)∧R x h') [] .returning w1:=by
    intro w1 g1 h1 T1 a1 c k1 ht1 hres hR
    obtain ⟨v,r1,r2⟩:=Zdi hrs hres k1.sim ht1
    exact ⟨v,by simpa using r1,.ret c,h1,g1,r2,k1.sim,k1.le,k1.fr,k1.ow,hR⟩
  have hpre:=Zhi rg.pre ap hap hw w _ _ _ w g (St.start (a:={ tmps:=vs++Array.replicate (fn.ntmps-vs.size) undef,defers:=[] }) hs ht)
  refine Zjn hpre ?_
  rintro e1 a1 w1 ⟨x1,T1,h1,g1,st1,hx1,hq1⟩
  have hdf:a1.defers=[]:=st1.defers
  cases x1 <;> cases e1 <;> simp only [ExR] at hx1 <;> simp only [preQ] at hq1 <;> try (exact hq1.elim)
  rotate_left 1
  · split at hq1 <;> try (exact hq1.elim)
    rename_i c0 hc0
    show LeavesInM Fence.wide 0 P fn a1.tmps _ a1.defers .returning w1
    rw [hdf]
    exact fin (LkY.of_st st1) st1.tmps hc0 hq1
  obtain ⟨T1',h1',hle1,gf,caps,hgf,hit⟩:=hq1
  obtain ⟨g1',st1⟩:=hle1 _ _ _ _ _ _ st1
  have k1:=LkY.of_st st1
  simp only [Exit.then]
  refine wpIn_block (wpIn_rangeFunc ?_)
  intro fn1 _
  show ∃ (l:Nat) (mark:List Deferred) (w₁:World) (d:Deferred) (w₁':World) (f:FuncId) (args:Array Value) (w₂:World),(Instr.enterLoop fn1 a1.tmps rg.ps rg.asg rg.body none).run P w1=_∧_
  obtain ⟨rec,hrec⟩ : ∃ rec:LoopState→Option Code→Loop,rec=fun st pe=>{ state:=st,pending:=pe,fn:=fn1,tmps:=a1.tmps,params:=rg.ps,assign:=rg.asg,body:=rg.body,defers:=w1.heap.size }:=⟨_,rfl⟩
  have k2:=LkY.newRaw k1.sim (o:=dfo) (T:=[]) (vs:=[]) rfl (by simp only [RepL])
  have k3:=LkY.newRaw k2.sim (o:=.loop (rec .ready none)) (T:=T1') (vs:=a1.tmps.toList) rfl (k2.rep k1.sim st1.tmps)
  rw [World.size_alloc,List.append_assoc,List.cons_append,List.nil_append] at k3
  have k123:=(k1.trans k2).trans k3
  have hcallee:=Zb1 st1.tmps rg.g
  rw [hgf] at hcallee
  simp only [Rep] at hcallee
  obtain ⟨cv,hcv,hcr⟩:=hcallee
  have hy:=yrule (P:=P) (fr:=⟨ap,rg.g,rg.ps,aa,ab,aq.foldr .seq .skip,rs,fn.ntmps⟩) haa hab (i:=h1'.length+1) (D:=w1.heap.size) (l:=w1.heap.size+1) (T:=T1') hrec
  obtain ⟨heng,hcall⟩:=hit (w1.heap.size+1) w1.heap.size _ _ _ a1.tmps.toList st1.sim.ltE (RepL.lt (fun i v l hl=>(st1.sim.fresh i v l hl).1) _ _ st1.tmps) hy
  refine ⟨w1.heap.size+1,[{ target:=.collected w1.heap.size,args := #[] }],(w1.alloc dfo).alloc (.loop (rec .ready none)),{ target:=.fn (.func gf) cv,args := #[.func (.yield (w1.heap.size+1)) #[] #[]] },(w1.alloc dfo).alloc (.loop (rec .ready none)),gf,
    #[.func (.yield (w1.heap.size+1)) #[] #[]]++cv,(w1.alloc dfo).alloc (.loop (rec .ready none)),(by rw [hrec];exact run_enterLoop_outer _ _ _ _ _),?_,fun _ _=>trivial,?_,fun h=>by simp [Fence.wide] at h,?_⟩
  · simp only [resolve,hcv]
    simp [go_sem]
  · simp [invoke,go_sem,ZhO heng]
  refine callsIn_wide.2 ((hcall _ g1' _ k123.sim (by
    rw [Array.toList_append]
    have hcr':=(k2.trans k3).rep k1.sim hcr
    simp only [List.cons_append,List.nil_append,RepL]
    exact ⟨_,_,rfl,by simp only [Rep],hcr'⟩)).mono ?_)
  rintro e3 w3 ⟨x3,h3,g3,hx3,hs3,hle3,hfr3,how3,⟨c3,rfl⟩,hcase⟩
  cases e3 <;> simp only [EndR] at hx3
  have k4:LkY w g h w3 g3 h3:=k123.trans ⟨hs3,hle3,hfr3,how3⟩
  have ht3:RepL w3 g3 T1' a1.tmps.toList:=(LkY.mk hs3 hle3 hfr3 how3).rep k123.sim ((k2.trans k3).rep k1.sim st1.tmps)
  -- the end, with the mark taken up
  have fin2 : ∀ {w5 : World} {g5 : Gh} {h5 : AH} {T5 : List AV} {a5 : Act}, LkY w g h w5 g5 h5 → RepL w5 g5 T5 a5.tmps.toList → a5.defers = [{ target := .collected w1.heap.size, args := #[] }] → ZeA rs h1'.length w1.heap.size R .ret T5 h5 →
      LeavesInM Fence.wide 0 P fn a5.tmps (fun e w' => ∃ x h' g',EndR w' g' e x∧SimH w' g' h'∧g.le g'∧Fr w (Ow g h) w'∧(∀ k,Ow g' h' k→Ow g h k∨w.heap.size≤k)∧R x h') a5.defers .returning w5:=by
    rintro w5 g5 h5 T5 a5 k5 ht5 hd5 ⟨hi5,hR5⟩
    split at hR5 <;> try (exact hR5.elim)
    rename_i c5 hres
    rw [hd5]
    obtain ⟨p1,_,_,_⟩:=k5.sim.raw _ _ _ _ _ hi5
    have k6:=LkY.setRaw k5.sim hi5 (o':=.deferred none) rfl .gone (.inr rfl)
    have ht6:=k6.rep k5.sim ht5
    refine ⟨by simp,.inl ⟨_,_,rfl,run_takeDeferred p1,?_⟩⟩
    exact fin (k5.trans k6) ht6 hres hR5
  have drop : ∀ (o : Obj) (st : LoopState) (jump : Option Code), o = .loop (rec st jump) → h3[h1'.length + 1]? = some (.raw (w1.heap.size + 1) o T1' a1.tmps.toList) → st ≠ .busy →
      ∃ w4,(Instr.endLoop (w1.heap.size+1)).run P w3=.ok jump w4∧LkY w g h w4 g3 (h3.set (h1'.length+1) .gone)∧RepL w4 g3 T1' a1.tmps.toList:=by
    rintro o st jump rfl hi3 hst
    obtain ⟨p1,_,_,_⟩:=hs3.raw _ _ _ _ _ hi3
    have k5:=LkY.setRaw hs3 hi3 (o':=.loop { rec st jump with state:=.exhausted }) rfl .gone (.inr rfl)
    have ht5:=k5.rep hs3 ht3
    refine ⟨_,?_,k4.trans k5,ht5⟩
    have:=run_endLoop (P:=P) p1 (by rw [hrec];exact hst)
    rw [this]
    rw [hrec]
  rcases hcase with ⟨hi3,hpost⟩ | ⟨hi3,hpost⟩
  · obtain ⟨w4,r4,k5,ht5⟩:=drop _ .ready none rfl hi3 (by simp)
    refine ⟨none,w4,r4,?_⟩
    show wpL Fence.wide 0 P rg.post _ _ w4
    have st5:=St.start (a:={ a1 with defers:=[{ target:=.collected w1.heap.size,args := #[] }]++a1.defers }) k5.sim ht5
    refine Zjn (Zhi rg.post aq haq (hpost _ rfl k5.sim.ltE) _ _ _ _ _ g3 st5) ?_
    rintro e6 a6 w6 ⟨x6,T6,h6,g6,st6,hx6,hq6⟩
    have k6:=k5.trans (LkY.of_st st6)
    have hd6:a6.defers=[{ target:=.collected w1.heap.size,args := #[] }]:=by rw [st6.defers];simp [hdf]
    cases x6 <;> cases e6 <;> simp only [ExR] at hx6 <;> simp only [ZeA] at hq6 <;> try (exact hq6.elim)
    · exact fin2 k6 st6.tmps hd6 hq6
    · exact fin2 k6 st6.tmps hd6 hq6
  · obtain ⟨w4,r4,k5,ht5⟩:=drop _ .done (some .ret) rfl hi3 (by simp)
    refine ⟨some .ret,w4,r4,wpIn_ret ?_⟩
    exact fin2 (a5:={ a1 with defers:=[{ target:=.collected w1.heap.size,args := #[] }]++a1.defers }) k5 ht5 (by simp [hdf]) hpost
end
section
variable {P : Program} {Kp : AV → List AV → AH → Prop} {K : List AV → AH → Prop} {T T' : List AV} {h h' : AH} {d : Option Nat} {c : AV} {rest : List AOper}
theorem Zg4 {f:FuncId}{fr:AFR}(hc:ZgY P f=some fr):enters P f=true:=by
 unfold ZgY at hc
 split at hc <;> try (cases hc;done)
 rename_i fn hfn
 split at hc <;> try (cases hc;done)
 rename_i hname
 split at hc <;> try (cases hc;done)
 rename_i c hb
 simp only [enters,hfn,hb]
 simp only [Bool.not_eq_true] at hname
 simp [bne,hname]
theorem tR' {f:FuncId}{fr:AFR}{args:List AV}{R:AE→Prop}(hc:ZgY P f=some fr) (hw : ∀ n,h.length=n→(∀ e∈h,e.lt n=true)→AV.ltL n args=true→AV.bdL args→aw P n (fr.pre.foldr .seq .skip) (preQ P fr n fun x h' => ∃ z,h'=h++z∧x.lt n=true∧R x) (tA' args fr.ntmps) (h++[]))
  (hl:Nat.ble args.length fr.ntmps=true:=by rfl):ACalls P f args h fun x h'=>h'=h∧R x:=by
 refine ACalls.gc_same ⟨Zg4 hc,fun w g vs hs ha=>(ACalls.of_range hc ?_).2 w g vs hs ha⟩
 have:=hw h.length rfl hs.ltE (RepL.lt (fun i v l hl=>(hs.fresh i v l hl).1) _ _ ha) (RepL.bd _ _ ha)
 rw [List.append_nil] at this
 rw [Zhu _ _ (Nat.le_of_ble_eq_true hl)]
 exact this
theorem ZpX {fr:AFR}{n0 gf l0:Nat}{R:AE→AH→Prop}{T1 caps:List AV}{h1:AH}(hl:ALe n0 T h T1 h1) (hg:Zaj T1 fr.g=.clo (.func gf) caps) (hn:h1.length=l0)
    (hi : ∀ (l D:Nat) (rdy bsy fin:Obj) (vs:List Value),(∀ e∈h1,e.lt l0=true)→AV.ltL l0 T1=true→Zke P fr (l0+1) l rdy bsy fin T1 vs →
      ACalls P gf (.v (.func (.yield l) #[] #[])::caps) (h1++[mkD D,.raw l rdy T1 vs]) fun r h3=>(∃ c,r=.ret c) ∧
      ((h3[l0+1]?=some (.raw l rdy T1 vs) ∧ ∀ n0,(h3.set (l0+1) .gone).length=n0→(∀ e∈h3.set (l0+1) .gone,e.lt n0=true)→aw P n0 fr.post (ZeA fr.res l0 D R) T1 (h3.set (l0+1) .gone)) ∨
       (h3[l0+1]?=some (.raw l fin T1 vs)∧ZeA fr.res l0 D R .ret T1 (h3.set (l0+1) .gone)))):preQ P fr n0 R .normal T h:=by
  subst hn;exact ⟨T1,h1,hl,gf,caps,hg,hi⟩
theorem ZpK {l:Nat}{x:Operand}{xs:List Operand}{as1:List AV}(hf:Zaj T x=.v (.func (.yield l) #[] #[])) (hx:xs.map (Zaj T)=as1) (hc:AYield P l as1 h fun r h''=>r=.ret c∧h''=h') (hp:aPut T d c=T') (hk:arun P Kp rest T' h' K):arun P Kp (⟨d,none,.call x xs⟩::rest) T h K:=by
 subst hp hx
 refine ⟨fun _=>?_,fun h=>by cases h⟩
 simp only [astep,hf,Zfc]
 refine ⟨trivial,trivial,fun w g vs hs ha=>?_⟩
 obtain ⟨f,t,a,b,h1,h2⟩:=hc w g vs hs ha
 refine ⟨f,t,a,b,h1,h2.mono ?_⟩
 rintro e w' ⟨x,h',g',k1,k2,k3,k4,k5,rfl,rfl⟩
 exact ⟨_,_,g',k1,k2,k3,k4,k5,hk⟩
theorem AYield.mono {l:Nat}{as1:List AV}{R R':AE→AH→Prop}(hc:AYield P l as1 h R) (hr : ∀ r h,R r h→R' r h):AYield P l as1 h R':=fun w g vs hs ha=>by
 obtain ⟨f,t,a,b,h1,h2⟩:=hc w g vs hs ha
 exact ⟨f,t,a,b,h1,h2.mono fun _ _ ⟨x,h',g',h1,h2,h3,h4,h5,h6⟩=>⟨x,h',g',h1,h2,h3,h4,h5,hr _ _ h6⟩⟩
theorem ZhC {fr:AFR}{n0:Nat}{R:AE→AH→Prop}(hr:aRes fr.res T h=some c) (hR:R (.ret c) h):preQ P fr n0 R .ret T h:=by simp only [preQ,hr];exact hR
theorem Zdy {rs:List AR}{k D:Nat}{R:AE→AH→Prop}(h1:h[k]?=some (mkD D)) (h2:h.set k .gone=h') (hr:aRes rs T h'=some c) (hR:R (.ret c) h'):ZeA rs k D R .ret T h:=by subst h2;simp only [ZeA,hr];exact ⟨h1,hR⟩
theorem YieldAt.gc {l:Nat}{as1:List AV}{R:AE→AH→Prop}(hc:AYield P l as1 h fun x h' => ∃ y z,h'=y++z∧y.length=h.length∧(∀ e∈y,e.lt h.length=true)∧x.lt h.length=true∧R x y):AYield P l as1 h R:=fun w g vs hs ha=>by
 obtain ⟨f,t,a,b,q1,q2⟩:=hc w g vs hs ha
 refine ⟨f,t,a,b,q1,q2.mono ?_⟩
 rintro e w' ⟨x,h',g',h1,h2,h3,h4,h5,y,z,rfl,hl,hlt,hx,hR⟩
 have hcut:=h2.cut (by rw [hl];exact hlt)
 refine ⟨x,y,g'.cut y.length,?_,hcut,h3.cut (fun i v l hi=>by rw [hl];exact (hs.fresh _ _ _ hi).1),h4,fun k hk=>h5 k hk.of_cut,hR⟩
 rw [hl]
 cases x <;> cases e <;> simp only [EndR] at h1 ⊢
 ·exact Rep.cut _ _ hx h1
 ·obtain ⟨v,e1,e2⟩:=h1;exact ⟨v,e1,Rep.cut _ _ hx e2⟩
theorem y_go {fr:AFR}{i l:Nat}{rdy bsy fin:Obj}{T:List AV}{vs:List Value}(hY:Zke P fr i l rdy bsy fin T vs) {as1:List AV}(hi:h[i]?=some (.raw l rdy T vs)) (hsz:as1.length=fr.ps.size)
  (hw : ∀ n0,h.length=n0→(∀ e∈h,e.lt n0=true)→AV.ltL n0 as1=true→AV.bdL as1→AV.bdL T→aw P n0 fr.asg (asgQ P fr i l rdy bsy fin T vs fun x h2 => ∃ y z,h2=y++z∧y.length=n0∧(∀ e∈y,e.lt n0=true)∧x.lt n0=true∧x=.ret c∧y=h') (setPs T fr.ps as1) h) :
  AYield P l as1 h fun r h''=>r=.ret c∧h''=h' :=
 YieldAt.gc (hY as1 h _ hsz hi fun n0 hn hlt q1 q2 q3=>by subst hn;exact hw _ rfl hlt q1 q2 q3)
theorem Zq3 {fr:AFR}{i l:Nat}{rdy bsy fin:Obj}{vs:List Value}{R2:AE→AH→Prop}{T0:List AV}(hi:h[i]?=some (.raw l rdy T0 vs)) (hs:h.set i (.raw l bsy T0 vs)=h') (hw : ∀ n1,h'.length=n1→(∀ e∈h',e.lt n1=true)→aw P n1 fr.body (ZqX i l rdy bsy fin T0 vs R2) T h'):asgQ P fr i l rdy bsy fin T0 vs R2 .normal T h:=by
 subst hs;exact ⟨rfl,hi,hw⟩
theorem ZhW {i l:Nat}{rdy bsy fin:Obj}{vs:List Value}{R2:AE→AH→Prop}{T0:List AV}(hi:h[i]?=some (.raw l bsy T0 vs)) (hs:h.set i (.raw l rdy T0 vs)=h') (hR:R2 (.ret (.v (.bool true))) h'):ZqX i l rdy bsy fin T0 vs R2 .normal T h:=by
 subst hs;exact ⟨hi,hR⟩
theorem ZnD {i l:Nat}{rdy bsy fin:Obj}{vs:List Value}{R2:AE→AH→Prop}{T0:List AV}(hi:h[i]?=some (.raw l bsy T0 vs)) (hs:h.set i (.raw l fin T0 vs)=h') (hR:R2 (.ret (.v (.bool false))) h'):ZqX i l rdy bsy fin T0 vs R2 .ret T h:=by
 subst hs;exact ⟨hi,hR⟩
theorem AYield.args {l:Nat}{as1 as2:List AV}{R:AE→AH→Prop}(hc:AYield P l as1 h R) (e:as2=as1):AYield P l as2 h R:=e ▸ hc
theorem k_callY {m:Bool}{q:List Bool}{rs:List Nat}{l:Nat}{x:Operand}{xs:List Operand}{as1:List AV}(hf:Zaj T x=.v (.func (.yield l) #[] #[])) (hx:xs.map (Zaj T)=as1) (hc:AYield P l as1 h fun r h''=>r=.ret c∧h''=h') (hr : ∀ id∈(bif m then rs else []),h'[id]?=h[id]?) (hp:aPut T d c=T') (hk:Zci P rs q rest T' h' K):Zci P rs (m::q) (⟨d,none,.call x xs⟩::rest) T h K:=by
 subst hp hx
 refine ⟨fun _=>?_,fun h=>by cases h⟩
 refine ⟨c,h',?_,hr,hk⟩
 simp only [hf,Zfc]
 exact ⟨trivial,trivial,hc.mono fun r h2 hr=>⟨hr.2,hr.1⟩⟩
theorem s_callE {ι:Type}{H:ι→AH}{J:ι→Prop}{f:FuncId}{xs:List Operand}{as1:List AV}(hx:xs.map (Zaj T)=as1) (hc:ACalls P f as1 h fun r h''=>r=.ret c ∧ ∃ i,J i∧h''=H i) (hp:aPut T d c=T') (hk : ∀ i,J i→arun P Kp rest T' (H i) K):arun P Kp (⟨d,none,.call (.func f) xs⟩::rest) T h K:=by
 subst hp
 refine ZkA hx hc ?_
 rintro r h'' ⟨rfl,i,h1,rfl⟩
 exact hk i h1
theorem v_ldOF {α:Type}{f:α→List AV}{sz k off id v ty s:Nat}{l:List α}{x:Operand}(hx:Zaj T x=.ptr id v (k*sz+off)) (he:h[id]?=some (.mk v ty s (rows f l))) (hf : ∀ x,(f x).length=sz) (hk:k<l.length) (ho:off<sz) (hc:(f l[k])[off]?=some c):aval h (Zaj T) (.load false 1 x)=some c:=by
 refine Zab hx he ?_
 rw [←ZlK hf hk,List.getElem?_take_of_lt ho,List.getElem?_drop] at hc
 exact hc
end
end Go.Ab
end
section
namespace Go.Proofs.YtlekejpogddndaaGreatDoor
open Go.Ab Civ
attribute [local simp] Zbi Zkp ZdM
section
theorem Zjl {a0 a1 a2 a3 a4 a5 a6 a7 a8 a9 a10:AV}{l:List AV}:(a0::a1::a2::a3::a4::a5::a6::a7::a8::a9::a10::l).take 11=[a0,a1,a2,a3,a4,a5,a6,a7,a8,a9,a10]:=rfl
theorem Zif {a0 a1 a2 a3 a4 a5 a6 a7 a8 a9 a10 c0 c1 c2 c3 c4 c5 c6 c7 c8 c9 c10:AV}{l:List AV}:setCells (a0::a1::a2::a3::a4::a5::a6::a7::a8::a9::a10::l) 0 [c0,c1,c2,c3,c4,c5,c6,c7,c8,c9,c10]=c0::c1::c2::c3::c4::c5::c6::c7::c8::c9::c10::l:=rfl
theorem Zie {a0 a1 a2 a3 a4 a5 a6 a7 a8 a9 a10:AV}{l:List AV}:((a0::a1::a2::a3::a4::a5::a6::a7::a8::a9::a10::l).drop 0).take 11=[a0,a1,a2,a3,a4,a5,a6,a7,a8,a9,a10]:=rfl
theorem ZoZ {a0 a1 a2 a3 a4 a5 a6:AV}{l:List AV}:((a0::a1::a2::a3::a4::a5::a6::l).drop 4).take 3=[a4,a5,a6]:=rfl
theorem Zo1 {a0 a1 a2 c0 c1 c2:AV}{l:List AV}:setCells (a0::a1::a2::l) 0 [c0,c1,c2]=c0::c1::c2::l:=rfl
theorem Zo0 {a0 a1 a2:AV}{l:List AV}:((a0::a1::a2::l).drop 0).take 3=[a0,a1,a2]:=rfl
theorem Zin {τ:Operand→AV}{y0 y1:Operand}{x0_0 x1_0 x1_1 x1_2 x1_3 x1_4 x1_5 x1_6 x1_7 x1_8 x1_9 x1_10:AV}(h0:Zav (τ y0)=some [x0_0]) (l0:[x0_0].all leaf=true) (h1:Zav (τ y1)=some [x1_0,x1_1,x1_2,x1_3,x1_4,x1_5,x1_6,x1_7,x1_8,x1_9,x1_10]) (l1:[x1_0,x1_1,x1_2,x1_3,x1_4,x1_5,x1_6,x1_7,x1_8,x1_9,x1_10].all leaf=true):Zat τ [(0,1,y0),(1,11,y1)] [(.v (.int .i64 0)),(.v (.string ⟨#[]⟩)),(.v (.int .i64 0)),(.v (.int .i64 0)),(.v (.int .i64 0)),(.v (.int .i64 0)),(.v (.int .i64 0)),(.v (.int .i64 0)),(.v (.int .i64 0)),(.v (.int .i64 0)),(.v (.int .i64 0)),(.v (.string ⟨#[]⟩))]=some [x0_0,x1_0,x1_1,x1_2,x1_3,x1_4,x1_5,x1_6,x1_7,x1_8,x1_9,x1_10]:=by
 simp only [Zat,h0,l0,h1,l1]
 rfl
end
def c158:AC:=(Sr [Oo 2 (.box 36 11 (.tmp 0)),Mb 3 false] (Sr [Fa 4 0 2,Ld 5 4,Ld 6 1,Bn 7 .eql 5 6,Mv 3 7] .ret))
theorem k158:ZaD Tryz.prog 158=some ⟨c158,[(.tmp 3)],8⟩:=by kernel_rfl
def c86:AC:=(Sr [Oo 4 (.box 9 1 (.tmp 1)),Mc 6 0] (.seq (Sr [Mv 10 0,Oo 11 (.len false (.tmp 10)),Bc 12 .gtr 11 40] (Cd 12 (Sr [Mc 6 2] .ret) .skip)) (.seq (Sr [Mv 13 0,Oo 14 (.len false (.tmp 13)),Mc 15 0] (.block 0 (.loop (Sr [Bn 16 .lss 15 14] (.seq (Cd 16 .skip (.exit 0)) (.seq (.block 1 (Sr [Oo 17 (.ia 11 (.tmp 13) (.tmp 15)),Oo 18 (.load true 11 (.tmp 17)),Oo 8 (.new 36 11 [Ss,(iv 0),(iv 0),(iv 0),(iv 0),(iv 0),(iv 0),(iv 0),(iv 0),(iv 0),Ss]),⟨none,none,(.store 11 (.tmp 8) (.tmp 18))⟩] (Sr [Oo 19 (.load true 11 (.tmp 8)),Cl 20 156 [(.tmp 19)],Mv 9 20] (Sr [Mv 21 9,Bc 22 .neq 21 0] (Cd 22 (Sr [Mv 23 9,Mv 6 23] .ret) .skip))))) (.reg [Bc 24 .add 15 1,Mv 15 24]))))))) (.seq (.block 2 (Sr [Mv 26 2,Oo 27 (.bin .lss (.tmp 26) (.const (.int .i64 (-64800)))),Mv 28 27,Of 29 28 (mt 2),Of 30 28 (.bin .gtr (.tmp 29) (Ci 64800)),Oo 31 (.pick (.tmp 28) (.const (.bool true)) (.tmp 30)),Mv 25 31] (Cd 25 (Sr [Mc 6 3] .ret) (Sr [Mv 33 0,Oo 34 (.mkfn 158 [(.tmp 4)]),Cl 35 157 [(.tmp 33),(.tmp 34)],Oo 36 (.un .not (.tmp 35)),Mv 32 36] (Cd 32 (Sr [Mc 6 5] .ret) .skip))))) (Sr [Mc 6 0] .ret)))))
theorem k86:ZaD Tryz.prog 86=some ⟨c86,[(.tmp 6)],37⟩:=by kernel_rfl
def c91:AC:=(Sr [Oo 3 (.box 36 11 (.tmp 0)),Mc 6 0] (.seq (Sr [Fa 7 8 3,Ld 8 7] (.block 0 (Sr [Bc 10 .eql 8 1,Mv 9 10] (Cd 9 (Sr [Mv 11 1,Mv 12 2,Bn 13 .add 11 12,Mv 6 13] .ret) (Sr [Bc 15 .eql 8 2,Mv 14 15] (Cd 14 (Sr [Mv 16 1,Mv 6 16] .ret) .skip)))))) (Sr [Mc 6 0] .ret)))
theorem k91:ZaD Tryz.prog 91=some ⟨c91,[(.tmp 6)],17⟩:=by kernel_rfl
def c87:AC:=(Sr [Oo 2 (.box 22 1 (.tmp 0)),Oo 3 (.box 9 1 (.tmp 1)),Oo 4 (.mv (.const .nilFunc))] (Sr [Oo 5 (.mkfn 159 [(.tmp 2),(.tmp 3)]),Mv 4 5] .ret))
theorem k87:ZaD Tryz.prog 87=some ⟨c87,[(.tmp 4)],6⟩:=by kernel_rfl
def c159:AC:=(Sr [Ld 9 1,Oo 10 (.len false (.tmp 9)),Mc 11 0] (.block 0 (.loop (Sr [Bn 12 .lss 11 10] (.seq (Cd 12 .skip (.exit 0)) (.seq (.block 1 (Sr [Oo 13 (.ia 11 (.tmp 9) (.tmp 11)),Oo 14 (.load true 11 (.tmp 13)),Oo 5 (.new 36 11 [Ss,(iv 0),(iv 0),(iv 0),(iv 0),(iv 0),(iv 0),(iv 0),(iv 0),(iv 0),Ss]),⟨none,none,(.store 11 (.tmp 5) (.tmp 14))⟩] (.seq (Sr [Fa 15 0 5,Ld 16 15,Ld 17 2,Bn 18 .neq 16 17] (Cd 18 (.exit 1) .skip)) (Sr [Fa 19 1 5,Ld 20 19,Mv 6 20] (.block 2 (.loop (.seq (Sr [Mv 21 6,Fa 22 2 5,Ld 23 22,Bn 24 .leq 21 23] (Cd 24 .skip (.exit 2))) (.seq (.block 3 (Sr [Mv 28 6,Fa 29 3 5,Ld 30 29,Fa 31 4 5,Oo 32 (.load true 3 (.tmp 31)),Cl 33 94 [(.tmp 28),(.tmp 30),(.tmp 32)],Mv 27 33,Ex 34 27 0,Ex 35 27 1,Oo 7 (.new 59 3 [(iv 0),(iv 0),(iv 0)]),⟨none,none,(.store 3 (.tmp 7) (.tmp 34))⟩,Mv 8 35] (.seq (.drw [Mv 36 0,Oo 37 (.load true 3 (.tmp 7)),Cl 38 98 [(.tmp 37)],Bc 39 .mul 38 86400,Fa 40 7 5,Ld 41 40,Bn 42 .add 39 41,Oo 43 (.load true 11 (.tmp 5)),Oo 44 (.build [(iv 0),Ss,(iv 0),(iv 0),(iv 0),(iv 0),(iv 0),(iv 0),(iv 0),(iv 0),(iv 0),Ss] [(0,(1,(.tmp 42))),(1,(11,(.tmp 43)))])] [false,false] [Oo 45 (.call (.tmp 36) [(.tmp 44)]),Oo 46 (.un .not (.tmp 45))]) (Cd 46 .ret .skip)))) (.reg [Mv 25 6,Bc 26 .add 25 1,Mv 6 26]))))))))) (.reg [Bc 47 .add 11 1,Mv 11 47])))))))
theorem k159:ZaD Tryz.prog 159=some ⟨c159,[],48⟩:=by kernel_rfl
def okRs (l:List Rul):Prop := ∀ r∈l,r.1.size≤maxLen∧r.2.2.2.2.2.2.2.2.size≤maxLen
theorem ready1_a {nm:ByteArray}{r:Rul}{h:AH}:Ac 158 [.agg (rulC r),.rp [sv nm]] h (bv (decide (r.1=nm))):=by
 obtain ⟨n,f,t,m,⟨k,w,d⟩,a,c,s,lt⟩:=r
 refine tI' k158 fun N hn hlt hlA hbd=>?_
 simp only [tb'] at hbd ⊢
 refine wr'<|E' (Zbj (cvl lk rfl) rfl (hl0 hn) ha0) pt<|mv' lkb pt<|sn'<|wr'<|V' (Zac lk) pt<|V' (Zab lk (hga hn rfl) gt0) pt<|V' (ZaB lk gt) pt<|V' (Zcj lk lk) pt<|mv' lk pt<|Zar<|?_
 exact Zah<|Zaa<|Zaf rz<|rT' rfl
theorem ready_a {l:List Rul}{nm:ByteArray}{sh:Int}{h:AH}(hok:okRs l) (hl:l.length≤9223372036854775807):Ac 86 [.sl l.length 11 false (rows rulC l),sv nm,iv sh] h (iv (ZcG l nm sh)):=by
 have hll:=hl
 refine tI' k86 fun N hn hlt hlA hbd=>?_
 simp only [tb'] at hbd ⊢
 refine wr'<|E' (Zbj (cvl lk rfl) rfl (hl0 hn) ha0) pt<|mv' lki pt<|Zar<|?_
 refine Za8 (ALe.icePtr (hga hn rfl) gt4 (by simp) pt4 (hs0 hn)) ?_
 refine Zam<|wr'<|mv' lk pt<|V' (ZaP lk) pt<|V' (ZbV lk lki) pt<|sn'<|?_
 refine cd' lk (fun hc1=>?_) (fun hc1=>?_)
 ·have hR:ZcG l nm sh=2:=if_pos (by omega)
  refine wr'<|mv' lki pt<|sn'<|Zaa<|Zai<|Zaf rz<|rT'<|?_
  rw [hR]
 have hR:ZcG l nm sh=if Za0 Zbm l≠0 then Za0 Zbm l else if sh < -64800∨sh>64800 then 3 else if l.any (fun r=>decide (r.1=nm))=false then 5 else 0:=if_neg (by omega)
 refine Zae<|Zah<|Zam<|wr'<|mv' lk pt<|V' (ZaP lk) pt<|mv' lki pt<|sn'<|Zao<|?_
 refine w_lp (ι:=Nat) (fun (k:Nat)=>[(15,iv (k:Int)),(6,.any),(8,.any),(9,.any)]++rn' 16 9) (fun (k:Nat)=>[]) (fun (k:Nat)=>k≤l.length∧Za0 Zbm l=Za0 Zbm (l.drop k)) (fun (k:Nat)=>l.length-k) (0) (by exact ⟨Nat.zero_le _,rfl⟩) ?_
 rintro k hi1
 try simp only [sm',Nat.reduceAdd]
 obtain ⟨hk1,hk2⟩:=hi1
 refine wr'<|V' (Zba lk lk) pt<|sn'<|Zam<|?_
 refine cd' lk (fun hc2=>?_) (fun hc2=>?_)
 ·have hk:k<l.length:=by omega
  have ho:=hok _ (List.getElem_mem hk)
  rw [Zdn hk] at hk2
  refine Zae<|Zah<|Zam<|Zao<|wr'<|?_
  refine V' (ZaY lk lk ZcS (nb' rfl) ro (by omega) ro rfl) pt ?_
  refine V' (ZaK lk Zjl rfl) pt<|E' (Za6 (hl1 hn) ha1) pt<|E' (Zal lk (cvl lk rfl) (hga hn rfl) rfl (nb' rfl) rfl Zif (hs1 hn)) ptn<|sn'<|wr'<|V' (Zaq lk (hga hn rfl) Zie rfl) pt<|Zad mp (rule_b ho.1 ho.2) pt<|mv' lk pt<|sn'<|wr'<|?_
  refine mv' lk pt<|V' (Za1 lk lki) pt<|sn'<|?_
  refine cd' lk (fun hc3=>?_) (fun hc3=>?_)
  ·have hc3':Zbm l[k]≠0:=hc3
   rw [if_pos hc3'] at hk2
   rw [if_pos (by rw [hk2];exact hc3'),hk2] at hR
   refine wr'<|mv' lk pt<|mv' lk pt<|sn'<|Zaa<|Zap<|Zai<|Zai<|Zap<|Zai<|Zaf rz<|rT'<|?_
   rw [hR]
  have hc3':¬Zbm l[k]≠0:=hc3
  rw [if_neg hc3'] at hk2
  refine Zae<|Zaz<|Zah<|Zas<|?_
  refine V' (Zay lk lki (by omega) (by omega)) pt ?_
  refine mv' lk pt<|Zar<|ZaA<|?_
  refine lU' (k+1) (by (try dsimp only);exact ⟨by omega,hk2⟩) (by (try dsimp only);(try simp only [sm',Nat.reduceAdd]);exact bk' 1 hn hlt)
 rw [List.drop_of_length_le (by omega)] at hk2
 rw [if_neg (by rw [hk2];simp [Za0])] at hR
 refine ZaO<|ZaF<|ZaF<|Za7<|Zah<|Zam<|Zao<|wr'<|mv' lk pt<|V' (Zba lk lki) pt<|mv' lk pt<|?_
 refine sp' (t:=28) gt pt pt (fun hg28=>?_) (fun hg28=>?_)
 ·rw [if_pos (.inl (by omega))] at hR
  refine s_no gt pt<|s_no gt pt<|V' (Zak lk lkb) pt<|mv' lk pt<|sn'<|ZaH lk<|wr'<|mv' lki pt<|sn'<|Zaa<|Zap<|?_
  refine Zai<|Zaf rz<|rT'<|?_
  rw [hR]
 refine s_do gt<|mv' lk pt<|s_do gt<|V' (ZbV lk lki) pt<|V' (Zag lk lk) pt<|mv' lk pt<|sn'<|?_
 refine cd' lk (fun hc4=>?_) (fun hc4=>?_)
 ·rw [if_pos (.inr (by omega))] at hR
  refine wr'<|mv' lki pt<|sn'<|Zaa<|Zap<|Zai<|Zaf rz<|rT'<|?_
  rw [hR]
 rw [if_neg (by omega)] at hR
 refine wr'<|mv' lk pt<|V' (ZgP mp) pt<|?_
 refine Zad mp (Zk0 (p:=fun r=>decide (r.1=nm)) (fun c _ _=>ready1_a) hll) pt ?_
 refine V' (Zaw lk) pt<|mv' lk pt<|sn'<|?_
 refine Zau lk (fun hc5=>?_) (fun hc5=>?_)
 ·rw [if_pos (by simpa using hc5)] at hR
  refine wr'<|mv' lki pt<|sn'<|Zaa<|Zap<|Zai<|Zaf rz<|rT'<|?_
  rw [hR]
 rw [if_neg (by simpa using hc5)] at hR
 refine Zae<|Zaz<|Zah<|wr'<|mv' lki pt<|sn'<|Zaa<|Zaf rz<|rT'<|?_
 rw [hR]
theorem off_a {r:Rul}{sh sa:Int}{h:AH}(h1 : -64800≤sh∧sh≤64800) (h2:0≤sa∧sa≤10800):Ac 91 [.agg (rulC r),iv sh,iv sa] h (iv (offV r sh sa)):=by
 obtain ⟨n,f,t,m,⟨k,w,d⟩,a,c,s,lt⟩:=r
 refine tI' k91 fun N hn hlt hlA hbd=>?_
 simp only [tb'] at hbd ⊢
 refine wr'<|E' (Zbj (cvl lk rfl) rfl (hl0 hn) ha0) pt<|mv' lki pt<|sn'<|Zam<|wr'<|V' (Zac lk) pt<|V' (Zab lk (hga hn rfl) gt8) pt<|sn'<|Zao<|?_
 refine wr'<|V' (ZaT lk lki) pt<|mv' lk pt<|sn'<|?_
 refine cd' lk (fun hc1=>?_) (fun hc1=>?_)
 ·refine wr'<|mv' lk pt<|mv' lk pt<|?_
  refine V' (Zay lk lk (by omega) (by omega)) pt ?_
  refine mv' lk pt<|sn'<|Zaa<|Zap<|Zai<|Zaf rz<|rT'<|?_
  refine ivx ?_;unfold offV;rw [if_pos (by assumption)]
 refine wr'<|V' (ZaT lk lki) pt<|mv' lk pt<|sn'<|?_
 refine cd' lk (fun hc2=>?_) (fun hc2=>?_)
 ·refine wr'<|mv' lk pt<|mv' lk pt<|sn'<|Zaa<|Zap<|Zai<|Zaf rz<|rT'<|?_
  refine ivx ?_;unfold offV;rw [if_neg (by assumption),if_pos (by assumption)]
 refine Zae<|Zaz<|Zah<|wr'<|mv' lki pt<|sn'<|Zaa<|Zaf rz<|rT'<|?_
 refine ivx ?_;unfold offV;rw [if_neg (by assumption),if_neg (by assumption)]
theorem turns_a {l:List Rul}{nm:ByteArray}{h:AH}:Ac 87 [.sl l.length 11 false (rows rulC l),sv nm] h (.clo (.func 159) [.rp [.sl l.length 11 false (rows rulC l)],.rp [sv nm]]):=by
 refine tI' k87 fun N hn hlt hlA hbd=>?_
 simp only [tb'] at hbd ⊢
 refine wr'<|E' (Zbj (cvl lk rfl) rfl (hl0 hn) ha0) pt<|E' (Zbj (cvl lk rfl) rfl (hl1 hn) ha1) pt<|mv' rfl pt<|Zar<|?_
 refine Za8 (ALe.trans (ALe.icePtr (hga hn rfl) gt2 (by simp) pt2 (hs0 hn)) (ALe.icePtr (hga hn rfl) gt3 (by simp) pt3 (hs1 hn))) ?_
 exact wr'<|V' (ZgP mp) pt<|mv' lk pt<|sn'<|Zaa<|Zaf rz<|rT' rfl
theorem on_r {r:Rul}{y:Int}{h:AH}(hr:Zbm r=0) (hy:1900≤y∧y≤2100):Ac 94 [iv y,iv r.2.2.2.1,.agg [iv r.2.2.2.2.1.1,iv r.2.2.2.2.1.2.1,iv r.2.2.2.2.1.2.2]] h (.tup [.agg [iv (ZbL (rDy r y)).1,iv (ZbL (rDy r y)).2.1,iv (ZbL (rDy r y)).2.2],iv 0]):=by
 have:=on_a (y:=y) (m:=r.2.2.2.1) (k:=r.2.2.2.2.1.1) (wk:=r.2.2.2.2.1.2.1) (n:=r.2.2.2.2.1.2.2) (h:=h)
 rw [(ZlT hr hy).1] at this
 exact this
theorem num_r {k:Int}{h:AH}(hk : -30000≤k∧k≤50000):Ac 98 [.agg [iv (ZbL k).1,iv (ZbL k).2.1,iv (ZbL k).2.2]] h (iv k):=by
 obtain ⟨h1,h2⟩:=ZhP (days:=k) (by omega) (by omega)
 have hd:=Zcg.1 h1
 have hm:=ZdJ (ZbL k).1 (ZbL k).2.1
 have:=Zhe (y:=(ZbL k).1) (m:=(ZbL k).2.1) (d:=(ZbL k).2.2) (h:=h) (by omega) (by omega) (by omega) (by omega) (by omega) (by omega)
 rwa [h2] at this
theorem ZlA {r:Rul}{j:Nat}(hj:(j:Int)<r.2.2.1+1-r.2.1):(ZcF r).take (j+1)=(ZcF r).take j++[(Zhm r (r.2.1+(j:Int)),r)]:=by
 have hl:j<(ZcF r).length:=by unfold ZcF;rw [List.length_map,Zkl];show j<(r.2.2.1+1-r.2.1).toNat;omega
 rw [List.take_succ_eq_append_getElem hl]
 congr 2
 simp [ZcF,Zis]
theorem Zlz {l:List Rul}{nm:ByteArray}{k:Nat}(hk:k<l.length) (hn:l[k].1=nm) : ∃ m,Za2 l nm=Za2 (l.take k) nm++(ZcF l[k]++m):=by
 refine ⟨Za2 (l.drop (k+1)) nm,?_⟩
 have e:l=l.take k++l[k]::l.drop (k+1):=by rw [←List.drop_eq_getElem_cons hk,List.take_append_drop]
 have:Za2 l nm=Za2 (l.take k++l[k]::l.drop (k+1)) nm:=by rw [←e]
 rw [this]
 unfold Za2
 rw [List.flatMap_append,List.flatMap_cons,if_pos hn]
theorem turns1_a {l:List Rul}{nm:ByteArray}{lp M0:Nat}{H:List Trn→AH}(hok : ∀ r∈l,Zbm r=0) (hz:l.length≤40) (hH : ∀ d,(H d).length=M0) (hHlt : ∀ d,∀ e∈H d,e.lt M0=true)
  (hY : ∀ (d:List Trn) (t:Trn) (e f:Ent),d.length<(Za2 l nm).length→AYield Tryz.prog lp [.agg (trnC t)] (H d++[e,f]) fun r h''=>r=.ret (.v (.bool true))∧h''=H (d++[t])++[e,f]) :
  ACalls Tryz.prog 159 [.v (.func (.yield lp) #[] #[]),.rp [.sl l.length 11 false (rows rulC l)],.rp [sv nm]] (H []) fun x h'=>x=.ret (.tup [])∧h'=H (Za2 l nm):=by
 refine tJ' k159 fun N hn hlt hlA hbd=>?_
 simp only [tb'] at hbd ⊢
 have hMN:M0=N:=(hH []).symm.trans hn
 simp only [hMN] at hH hHlt
 refine wr'<|V' (ZaB lk gt) pt<|V' (ZaP lk) pt<|mv' lki pt<|sn'<|Zao<|?_
 refine Zpd (ι:=Nat) (fun (k:Nat)=>[(11,iv (k:Int))]++rn' 5 4++rn' 12 36) (fun (k:Nat)=>H (Za2 (l.take k) nm)++[]) (fun (k:Nat)=>k≤l.length) (fun (k:Nat)=>l.length-k) (0) (by exact Nat.zero_le _) (by try simp only [sm',Nat.reduceAdd];exact ALe.same wA' rfl) ?_
 rintro k hi1
 try simp only [sm',Nat.reduceAdd]
 replace hi1:k≤l.length:=hi1
 refine wr'<|V' (Zba lk lk) pt<|sn'<|Zam<|?_
 refine cd' lk (fun hc1=>?_) (fun hc1=>?_)
 ·have hk:k<l.length:=by omega
  have hr:=hok _ (List.getElem_mem hk)
  obtain ⟨hr1,hr2,hr3⟩:1900≤l[k].2.1∧l[k].2.1≤l[k].2.2.1∧l[k].2.2.1≤2100:=⟨(Zce hr).1,(Zce hr).2.1,(Zce hr).2.2.1⟩
  obtain ⟨hr4,hr5⟩:(ZcF l[k]).length≤201∧((ZcF l[k]).length:Int)=l[k].2.2.1-l[k].2.1+1:=Zgd hr
  refine Zae<|Zah<|Zam<|Zao<|wr'<|?_
  refine V' (ZaY lk lk ZcS (nb' rfl) ro (by omega) ro rfl) pt ?_
  refine V' (ZaK lk Zjl rfl) pt<|E' (Za6 (hl0 (hH _)) ha0) pt<|E' (Zal lk (cvl lk rfl) (hga (hH _) rfl) rfl (nb' rfl) rfl Zif (hs0 (hH _))) ptn<|sn'<|Zam<|wr'<|V' (Zac lk) pt<|V' (Zab lk (hga (hH _) rfl) gt0) pt<|V' (ZaB lk gt) pt<|V' (Zcs lk lk) pt<|sn'<|?_
  refine cd' lk (fun hc2=>?_) (fun hc2=>?_)
  ·refine ZaO<|ZaF<|Za7<|Zah<|Zas<|?_
   refine V' (Zay lk lki (by omega) (by omega)) pt ?_
   refine mv' lk pt<|Zar<|ZaA<|?_
   refine lU' (k+1) (by (try dsimp only);omega) (by (try dsimp only);(try simp only [sm',Nat.reduceAdd]);exact ALe.trans (ALe.back wA' rfl (E1:=[]) (k:=N+0) (by simp only [List.length_cons,List.length_nil,(hH _)]) (by omega) (by exact lt') (ltw (by omega) (hHlt _)) (by rfl)) (ALe.same (WkL.refl _) (by rw [Zit hk,if_neg hc2,List.append_nil (Za2 _ _)])))
  have hnm:l[k].1=nm:=Decidable.of_not_not hc2
  obtain ⟨mm,hmm⟩:=Zlz hk hnm
  refine Zae<|Zah<|wr'<|V' (Zac lk) pt<|V' (Zab lk (hga (hH _) rfl) gt1) pt<|mv' lk pt<|sn'<|Zao<|?_
  refine Zpd (ι:=Nat) (fun (j:Nat)=>[(6,iv (l[k].2.1+(j:Int))),(7,.any),(8,.any)]++rn' 21 26) (fun (j:Nat)=>H (Za2 (l.take k) nm++(ZcF l[k]).take j)++[Ent.mk 0 36 11 (rulC l[k])]) (fun (j:Nat)=>(j:Int)≤l[k].2.2.1-l[k].2.1+1) (fun (j:Nat)=>(ZcF l[k]).length-j) (0) (by show (0:Int)≤_;omega) (by try simp only [sm',Nat.reduceAdd];exact ALe.same wA' (by rw [List.take_zero,List.append_nil])) ?_
  rintro j hi2
  try simp only [sm',Nat.reduceAdd]
  replace hi2:(j:Int)≤l[k].2.2.1-l[k].2.1+1:=hi2
  refine Zam<|wr'<|mv' lk pt<|V' (Zac lk) pt<|V' (Zab lk (hga (hH _) rfl) gt2) pt<|V' (Zdq lk lk) pt<|sn'<|?_
  refine cd' lk (fun hc3=>?_) (fun hc3=>?_)
  ·have hy:1900≤l[k].2.1+(j:Int)∧l[k].2.1+(j:Int)≤2100:=by omega
   obtain ⟨hd1,hd2⟩:=ZlT hr hy
   have ha6:0≤l[k].2.2.2.2.2.1∧l[k].2.2.2.2.2.1≤172800:=(Zce hr).2.2.2.2.2.1
   have hd3 : -30000≤rDy l[k] (l[k].2.1+(j:Int))∧rDy l[k] (l[k].2.1+(j:Int))≤50000:=hd2
   refine Zae<|Zah<|Zam<|Zao<|wr'<|mv' lk pt<|V' (Zac lk) pt<|V' (Zab lk (hga (hH _) rfl) gt3) pt<|V' (Zac lk) pt<|V' (Zaq lk (hga (hH _) rfl) ZoZ rfl) pt<|Zad mp (on_r hr hy) pt<|mv' lk pt<|V' (Za3 lk gt) pt<|?_
   refine V' (Za3 lk gt) pt<|E' (Za6 (hl1 (hH _)) ha1) pt<|E' (Zal lk (cvl lk rfl) (hga (hH _) rfl) rfl (nb' rfl) rfl Zo1 (hs1 (hH _))) ptn<|mv' lk pt<|sn'<|Zam<|Zpe []<|D' (v_mv lk) pt<|D' (Zaq lk (hga (hH _) rfl) Zo0 rfl) pt<|?_
   refine Zbf mp (fun hE hX=>num_r hd2) pt ?_
   refine D' (Ze9 lk lki (by omega) (by omega)) pt ?_
   refine D' (Zac lk) pt<|D' (Zab lk (hga (hH _) rfl) gt7) pt<|?_
   refine D' (Zay lk lk (by omega) (by omega)) pt ?_
   refine D' (Zaq lk (hga (hH _) rfl) Zie rfl) pt<|D' (Zax (Zin (cvl lk rfl) rfl (cvl lk rfl) rfl)) pt<|Zb6<|Zqr<|?_
   refine k_callY lk mp (hY _ (Zhm l[k] (l[k].2.1+(j:Int)),l[k]) _ _ (by rw [hmm,List.length_append,List.length_append,List.length_append,List.length_take];omega)) (by intro i hi;simp at hi) pt ?_
   refine k_val rfl (Zaw lk) pt<|k_nil<|Zah<|ZaM lk<|Zae<|Zaz<|Zah<|Zas<|mv' lk pt<|?_
   refine V' (Zay lk lki (by omega) (by omega)) pt ?_
   refine mv' lk pt<|Zar<|ZaA<|?_
   refine lU' (j+1) (by (try dsimp only);omega) (by (try dsimp only);(try simp only [sm',Nat.reduceAdd]);exact ALe.trans (ALe.back wA' rfl (E1:=[Ent.mk 0 36 11 (rulC l[k])]) (k:=N+1) (by simp only [List.length_cons,List.length_nil,(hH _)]) (by omega) (by exact lt') (ltw (by omega) (hHlt _)) (by exact lt')) (ALe.same (WkL.refl _) (by rw [ZlA (by omega),List.append_assoc])))
  refine ZaO<|ZaF<|ZaF<|Za7<|Zaz<|Zah<|Zas<|?_
  refine V' (Zay lk lki (by omega) (by omega)) pt ?_
  refine mv' lk pt<|Zar<|ZaA<|?_
  refine lU' (k+1) (by (try dsimp only);omega) (by (try dsimp only);(try simp only [sm',Nat.reduceAdd]);exact ALe.trans (ALe.back wA' rfl (E1:=[]) (k:=N+0) (by simp only [List.length_cons,List.length_nil,(hH _)]) (by omega) (by exact lt') (ltw (by omega) (hHlt _)) (by rfl)) (ALe.same (WkL.refl _) (by rw [Zit hk,if_pos hnm,List.take_of_length_le (l:=ZcF l[k]) (by omega)])))
 refine ZaO<|ZaF<|ZaF<|Za7<|w_end (rs0)<|?_
 exact ⟨_,_,rfl,hH _,hHlt _,rfl,rfl,by rw [List.take_of_length_le (by omega)]⟩
end Go.Proofs.YtlekejpogddndaaGreatDoor
end
section
namespace Go.Ab
open Go.RowKit Go.Sort
section
variable {P : Program}
theorem ZlN (w:World) (g:Gh) : ∀ {vs us:List Value},RepL w g (vs.map .v) us↔us=vs
 | [],us=>by simp only [List.map_nil,RepL]
 | v::vs,us=>by
  simp only [List.map_cons,RepL,Rep,ZlN w g (vs:=vs)]
  constructor
  ·rintro ⟨u,us',rfl,rfl,rfl⟩;rfl
  ·rintro rfl;exact ⟨_,_,rfl,rfl,rfl⟩
theorem ACalls.of_turn {f:FuncId}{args:List AV}{h:AH}{id ver ty st:Nat}{cells:List AV}{R':List AV→Prop}(he:enters P f=true) (hi:h[id]?=some (.mk ver ty st cells)) (hne:cells≠[])
  (hc : ∀ w g (vs:Array Value) b cap arr,SimH w g h→RepL w g args vs.toList→g.loc id ver=some (some ⟨b,0,none⟩,cap)→w.heap[b]?=some (.cells arr ty (0,0))→arr.size=cap*st→cells.length≤arr.size→RepL w g cells (arr.toList.take cells.length) →
   Calls P f vs w fun e w'=>e=.returned (.tuple #[]) ∧ ∃ (vs':List Value) (arr':Array Value),R' (vs'.map .v)∧w'.heap[b]?=some (.cells arr' ty (0,0))∧arr'.size=arr.size∧vs'.length=cells.length∧arr'.toList.take cells.length=vs' ∧
    w'.os=w.os∧w'.tape=w.tape∧w'.output=w.output∧w.heap.size≤w'.heap.size ∧ ∀ k,k<w.heap.size→k≠b→w'.heap[k]?=w.heap[k]?) :
  ACalls P f args h fun x h'=>x=.ret (.tup []) ∧ ∃ cells',R' cells'∧h'=h.set id (.mk ver ty st cells'):=by
 refine ⟨he,fun w g vs hs ha=>?_⟩
 obtain ⟨A,cap,f1,fm,f3⟩:=hs.ent _ _ _ _ _ hi
 rcases f3 with ⟨e,_⟩ | ⟨b,arr,rfl,hc0,hd,hb,hsz,hle,hrl⟩
 ·exact absurd e hne
 have hid:id<h.length:=(List.getElem?_eq_some_iff.1 hi).1
 have how:OwAt g h id b:=⟨ver,ty,st,cells,_,cap,hi,f1,hc0,rfl⟩
 refine (hc w g vs b cap arr hs ha f1 hb hsz hle hrl).mono ?_
 rintro e w' ⟨rfl,vs',arr',hR,h1,h2,h3,h4,h5,h6,h7,h8,h9⟩
 have hother : ∀ j,g.D j∨(∃ i,i≠id∧OwAt g h i j)∨(∃ i,RwAt h i j)→w'.heap[j]?=w.heap[j]?:=by
  rintro j (hj | ⟨i,hne',hj⟩ | ⟨i,hj⟩)
  rotate_left 2
  ·exact h9 j (hs.own_not_D (.inr ⟨i,hj⟩)).2 (fun e=>by subst e;exact hs.own_ne_raw how hj)
  ·exact h9 j (hs.lt j hj) (fun e=>hd (e ▸ hj))
  ·exact h9 j (hs.own_not_D (.inl ⟨i,hj⟩)).2 (fun e=>hne' (hs.inj i id j hj (e ▸ how)))
 obtain ⟨k1,k2,k3⟩:=hs.put (w':=w') (g':=g) (h':=h.set id (.mk ver ty st (vs'.map .v))) id ver ty st (vs'.map .v) (some ⟨b,0,none⟩) cap
  (fun i hne'=>by rw [List.getElem?_set_ne (Ne.symm hne')]) (by rw [List.getElem?_set_self hid]) (by simp) rfl (fun _ _ _ h=>h) (fun _ _ _ h=>.inl h) f1 (fun v l hv=>(hs.fresh _ _ _ hv).2 _ _ _ _ hi) hother h8 fm
  (.inr ⟨b,arr',rfl,hc0,hd,h1,by rw [h2,hsz],by rw [List.length_map,h3,h2];exact hle,by rw [List.length_map,h3,h4];exact (ZlN w' g).2 rfl⟩)
  (fun j hj _ i hne' ho=>by
   simp at hj
   subst hj
   exact hne' (hs.inj i id _ ho how))
 refine ⟨.ret (.tup []),_,g,?_,k1,k2,⟨h5,h6,h7,h8,fun k hk hn=>h9 k hk (fun e=>hn (.inl ⟨id,e ▸ how⟩))⟩,fun k hk=>?_,rfl,_,hR,rfl⟩
 ·simp only [EndR,Rep];exact ⟨#[],rfl,by simp only [RepL]⟩
 ·rcases k3 k hk with ho | ⟨ho,_⟩
  ·exact .inl ho
  ·simp at ho;subst ho;exact .inl (.inl ⟨id,how⟩)
end
section
variable {P : Program} {α : Type}
theorem ZqB {enc:α→List Value}{k:Nat}(hk : ∀ x,(enc x).length=k) : ∀ (l:List α) (i j:Nat) (h:i<l.length),j<k→(l.flatMap enc)[i*k+j]?=(enc l[i])[j]?
 | [],i,j,h,_=>by simp at h
 | x::l,0,j,h,hj=>by
  rw [List.flatMap_cons,Nat.zero_mul,Nat.zero_add,List.getElem?_append_left (by rw [hk];exact hj)];rfl
 | x::l,i+1,j,h,hj=>by
  have ih:=ZqB hk l i j (by simpa using h) hj
  rw [List.flatMap_cons,List.getElem?_append_right (by rw [hk,Nat.succ_mul];omega),hk,show (i+1)*k+j-k=i*k+j by rw [Nat.succ_mul];omega,ih];rfl
theorem Zef {enc:α→List Value}{k:Nat}(hk : ∀ x,(enc x).length=k) : ∀ (l:List α),(l.flatMap enc).length=l.length*k
 | []=>by simp
 | x::l=>by rw [List.flatMap_cons,List.length_append,hk,Zef hk l,List.length_cons,Nat.succ_mul];omega
theorem ZiT [Inhabited α] {enc:α→List Value}{k:Nat}(hk0:0<k) (hk : ∀ x,(enc x).length=k) (d:Array α):(Go.Sort.flatK enc k d).toList=d.toList.flatMap enc:=by
 apply List.ext_getElem?
 intro t
 by_cases ht:t<d.size*k
 ·have h1:t/k<d.size:=Nat.div_lt_of_lt_mul (by rw [Nat.mul_comm];exact ht)
  have h2:t%k<k:=Nat.mod_lt _ hk0
  have h3:=ZqB hk d.toList (t/k) (t%k) (by simpa using h1) h2
  rw [Nat.mul_comm (t/k) k,Nat.div_add_mod] at h3
  rw [h3]
  have hs:t<(Go.Sort.flatK enc k d).size:=by simpa using ht
  have h4:=Go.Sort.get_flatK enc k d t ht
  rw [getElem!_pos _ t hs,getElem!_pos _ (t/k) h1,getElem!_pos _ (t%k) (by rw [hk];exact h2)] at h4
  rw [Array.getElem?_toList,Array.getElem?_eq_getElem hs,h4,Array.getElem_toList,List.getElem?_eq_getElem (by rw [hk];exact h2)]
  rfl
 ·rw [List.getElem?_eq_none (by simpa using ht),List.getElem?_eq_none (by rw [Zef hk];simpa using ht)]
theorem rows_v {enc:α→List Value}(l:List α):rows (fun x=>(enc x).map .v) l=(l.flatMap enc).map .v:=by
 unfold rows
 rw [List.map_flatMap]
theorem sort_a [Inhabited α] {ρ:Go.Shelf.Ren}(L:Go.Proofs.SlLaysF0.n6 P ρ) {k:Nat}(hk0:0<k) (aE : ∀ w,(isAgg (ρ.t 24)).run P w=.ok true w) (zE : ∀ w,(Go.sizeOf (ρ.t 24)).run P w=.ok k w) {enc:α→List Value}(hk : ∀ x,(enc x).length=k) (h1 : ∀ x,∀ v∈enc x,v.oneCell'=true) {cf:α→α→Int}(hO:SWO (Go.Proofs.ltOf cf)) {g0:Nat}
  (eg : ∀ args w,(callFunc g0 args).run P w=.ok (.enter g0 args) w) (hcmp : ∀ blk off size w,Go.Proofs.CmpLays P g0 #[] enc k cf blk off size w) {h:AH} {id ver ty:Nat} {l:List α} (hi:h[id]?=some (.mk ver ty k (rows (fun x=>(enc x).map .v) l))) (hl:l≠[]) (hz:l.length<4611686018427387904) (he:enters P (ρ.f 6)=true) :
  ACalls P (ρ.f 6) [.own id ver l.length,.v (.func (.func g0) #[] #[])] h fun x h'=>x=.ret (.tup []) ∧ ∃ l':List α,l'.Perm l∧(∀ i j (hi:i<l'.length) (hj:j<l'.length),i<j→Go.Proofs.ltOf cf l'[j] l'[i]=false)∧h'=h.set id (.mk ver ty k (rows (fun x=>(enc x).map .v) l')):=by
 have hlen:=ZaX (f:=fun x=>(enc x).map .v) (st:=k) (fun x=>by rw [List.length_map,hk]) l
 have hpos:0<l.length:=List.length_pos_iff.2 hl
 refine (ACalls.of_turn (R':=fun cs => ∃ l':List α,l'.Perm l∧(∀ i j (hi:i<l'.length) (hj:j<l'.length),i<j→Go.Proofs.ltOf cf l'[j] l'[i]=false)∧cs=rows (fun x=>(enc x).map .v) l') he hi ?_ ?_).mono ?_
 ·intro e
  have:=congrArg List.length e
  rw [hlen] at this
  have h0:0<l.length*k:=Nat.mul_pos hpos hk0
  simp at this;omega
 ·intro w g vs b cap arr hs ha hloc hb hsz hle hr
  simp only [RepL,Rep,hloc] at ha
  obtain ⟨u1,us1,e1,⟨A,c,e2,hn1,hn2,rfl⟩,u2,us2,rfl,rfl,rfl⟩:=ha
  simp only [Option.some.injEq,Prod.mk.injEq] at e2
  obtain ⟨rfl,rfl⟩:=e2
  obtain rfl:vs = #[.slice (some ⟨b,0,none⟩) l.length cap,.func (.func g0) #[] #[]]:=by cases vs;simp_all
  have hr':arr.toList.take (l.length*k)=l.flatMap enc:=by
   rw [hlen,rows_v] at hr
   exact (ZlN w g).1 hr
  have hblk:b<w.heap.size:=(Array.getElem?_eq_some_iff.1 hb).1
  have hflat:=ZiT hk0 hk l.toArray
  have hgetF : ∀ (d:Array α) (t:Nat),t<d.size*k→(Go.Sort.flatK enc k d).toList[t]?=some (Go.Sort.flatK enc k d)[t]!:=by
   intro d t ht
   have hs:t<(Go.Sort.flatK enc k d).size:=by simpa using ht
   rw [getElem!_pos _ t hs,Array.getElem?_toList,Array.getElem?_eq_getElem hs]
  have hH:Go.Sort.HoldsK enc k w b 0 l.toArray:=by
   intro j hj
   have hj':j<l.length*k:=by simpa using hj
   rw [Nat.zero_add]
   refine ⟨?_,frozen_of_row w b j arr ty hb⟩
   rw [cell_of_row w b j arr ty (0,0) hb,←Array.getElem?_toList]
   have h5:arr.toList[j]?=(l.flatMap enc)[j]?:=by rw [←hr',List.getElem?_take_of_lt hj']
   rw [h5,show l.flatMap enc=(Go.Sort.flatK enc k l.toArray).toList from hflat.symm,hgetF _ _ (by simpa using hj')];rfl
  refine (Go.Proofs.AnyQ.slices_SortFunc L k aE zE enc hk h1 cf hO g0 #[] b 0 cap l.toArray w eg (hcmp b 0 l.toArray.size w) hH hblk (by simpa using hz)).mono ?_
  rintro e w' ⟨rfl,d',n,os,⟨p1,_,p3⟩,hso,rfl⟩
  have hds:d'.size=l.length:=by simpa using p1
  have hw' : ∀ j,j<w.heap.size→(Go.Proofs.sortWorldK enc k w b 0 n d' os).heap[j]?=(w.heap.modify b (onCells (putCells _root_.id 0 (Go.Sort.flatK enc k d'))))[j]?:=by
   intro j hj
   show ((w.heap.modify b (onCells (putCells _root_.id 0 (Go.Sort.flatK enc k d'))))++os)[j]?=_
   rw [Array.getElem?_append_left (by simpa using hj)]
  have hsz2:arr.size=(putCells _root_.id 0 (Go.Sort.flatK enc k d') arr).size:=by simp [putCells]
  refine ⟨rfl,d'.toList.flatMap enc,putCells _root_.id 0 (Go.Sort.flatK enc k d') arr,⟨d'.toList,?_,?_,(rows_v _).symm⟩,?_,hsz2.symm,?_,?_,rfl,rfl,rfl,?_,?_⟩
  ·have e1:d'.extract 0 l.toArray.size=d':=by rw [←p1];simp
   have e2:l.toArray.extract 0 l.toArray.size=l.toArray:=by simp
   rw [e1,e2] at p3
   simpa using p3
  ·intro i j hi hj hij
   have:=hso i j (Nat.zero_le _) hij (by simpa [hds] using hj)
   rw [getElem!_pos d' j (by simpa using hj),getElem!_pos d' i (by simpa using hi)] at this
   simpa using this
  ·rw [hw' b hblk,Array.getElem?_modify,if_pos rfl,hb];rfl
  ·rw [Zef hk,hlen,Array.length_toList,hds]
  ·rw [hlen]
   apply List.ext_getElem?
   intro t
   by_cases ht:t<l.length*k
   ·have ht2:t<d'.size*k:=by rw [hds];exact ht
    have hta:t<arr.size:=by rw [hlen] at hle;omega
    rw [List.getElem?_take_of_lt ht,←ZiT hk0 hk d',hgetF d' t ht2]
    unfold putCells
    rw [Array.getElem?_toList,Array.getElem?_mapIdx,Array.getElem?_eq_getElem hta,Option.map_some,if_pos ⟨Nat.zero_le _,by simpa using ht2⟩]
    rfl
   ·rw [List.getElem?_eq_none (by simp;omega),List.getElem?_eq_none (by rw [Zef hk,Array.length_toList,hds];omega)]
  ·show w.heap.size≤((w.heap.modify b (onCells (putCells _root_.id 0 (Go.Sort.flatK enc k d'))))++os).size
   simp
  ·intro j hj hjb
   rw [hw' j hj,Array.getElem?_modify,if_neg (Ne.symm hjb)]
 ·rintro x h' ⟨rfl,cs,⟨l',hp,hs,rfl⟩,rfl⟩
  exact ⟨rfl,l',hp,hs,rfl⟩
end
end Go.Ab
end
section
namespace Go.Proofs
open Go.Shelf
def Tryz.sl9_ren:Go.Shelf.Ren:=⟨fun | 6=>88 | 15=>161 | 14=>160 | 28=>243 | 29=>244 | 20=>235 | 21=>236 | 22=>237 | 23=>238 | 24=>239 | 25=>240 | 26=>241 | 27=>242 | 46=>283 | 47=>284 | 48=>285 | 49=>286 | 50=>287 | 57=>322 | n=>n,fun | 22=>140 | 24=>144 | 25=>147 | 3=>3 | 39=>211 | 0=>0 | 53=>279 | 55=>281 | 4=>4 | 46=>273 | 45=>272 | 50=>170 | 5=>5 | 9=>9 | 66=>311 | 70=>315 | 76=>337 | 77=>307 | n=>n,fun | n=>n⟩
theorem Tryz.sl9:Go.Proofs.SlLaysF0.n6 Tryz.prog Tryz.sl9_ren:={
 mixed:=by kernel_rfl
 f6:=⟨Tryz.f88.name,by decide,Tryz.func88.trans (congrArg some (by kernel_rfl))⟩
 f14:=⟨Tryz.f160.name,by decide,Tryz.func160.trans (congrArg some (by kernel_rfl))⟩
 f15:=Tryz.func161.trans (congrArg some (by kernel_rfl))
 f20:=⟨Tryz.f235.name,by decide,Tryz.func235.trans (congrArg some (by kernel_rfl))⟩
 f21:=⟨Tryz.f236.name,by decide,Tryz.func236.trans (congrArg some (by kernel_rfl))⟩
 f22:=⟨Tryz.f237.name,by decide,Tryz.func237.trans (congrArg some (by kernel_rfl))⟩
 f23:=⟨Tryz.f238.name,by decide,Tryz.func238.trans (congrArg some (by kernel_rfl))⟩
 f24:=⟨Tryz.f239.name,by decide,Tryz.func239.trans (congrArg some (by kernel_rfl))⟩
 f25:=⟨Tryz.f240.name,by decide,Tryz.func240.trans (congrArg some (by kernel_rfl))⟩
 f26:=⟨Tryz.f241.name,by decide,Tryz.func241.trans (congrArg some (by kernel_rfl))⟩
 f27:=⟨Tryz.f242.name,by decide,Tryz.func242.trans (congrArg some (by kernel_rfl))⟩
 f28:=Tryz.func243.trans (congrArg some (by kernel_rfl))
 f29:=Tryz.func244.trans (congrArg some (by kernel_rfl))
 f46:=⟨Tryz.f283.name,by decide,Tryz.func283.trans (congrArg some (by kernel_rfl))⟩
 f47:=Tryz.func284.trans (congrArg some (by kernel_rfl))
 f48:=Tryz.func285.trans (congrArg some (by kernel_rfl))
 f49:=⟨Tryz.f286.name,by decide,Tryz.func286.trans (congrArg some (by kernel_rfl))⟩
 f50:=⟨Tryz.f287.name,by decide,Tryz.func287.trans (congrArg some (by kernel_rfl))⟩
 f57:=⟨Tryz.f322.name,by decide,Tryz.func322.trans (congrArg some (by kernel_rfl))⟩
 t0:=Tryz.underlying0
 a0:=Tryz.isAgg0
 z0:=Tryz.sizeOf0
 v0:=Tryz.zeroValue0
 t3:=Tryz.underlying3
 a3:=Tryz.isAgg3
 z3:=Tryz.sizeOf3
 v3:=Tryz.zeroValue3
 t4:=Tryz.underlying4
 a4:=Tryz.isAgg4
 z4:=Tryz.sizeOf4
 v4:=Tryz.zeroValue4
 t5:=Tryz.underlying5
 a5:=Tryz.isAgg5
 z5:=Tryz.sizeOf5
 v5:=Tryz.zeroValue5
 t9:=Tryz.underlying9
 a9:=Tryz.isAgg9
 z9:=Tryz.sizeOf9
 v9:=Tryz.zeroValue9
 t22:=Tryz.underlying140
 a22:=Tryz.isAgg140
 z22:=Tryz.sizeOf140
 v22:=Tryz.zeroValue140
 t25:=Tryz.underlying147
 a25:=Tryz.isAgg147
 z25:=Tryz.sizeOf147
 v25:=Tryz.zeroValue147
 t39:=Tryz.underlying211
 a39:=Tryz.isAgg211
 z39:=Tryz.sizeOf211
 v39:=Tryz.zeroValue211
 t45:=Tryz.underlying272
 a45:=Tryz.isAgg272
 z45:=Tryz.sizeOf272
 v45:=Tryz.zeroValue272
 t46:=Tryz.underlying273
 a46:=Tryz.isAgg273
 z46:=Tryz.sizeOf273
 v46:=Tryz.zeroValue273
 t50:=Tryz.underlying170
 a50:=Tryz.isAgg170
 z50:=Tryz.sizeOf170
 v50:=Tryz.zeroValue170
 t53:=Tryz.underlying279
 a53:=Tryz.isAgg279
 z53:=Tryz.sizeOf279
 v53:=Tryz.zeroValue279
 t55:=Tryz.underlying281
 a55:=Tryz.isAgg281
 z55:=Tryz.sizeOf281
 v55:=Tryz.zeroValue281
 t66:=Tryz.underlying311
 a66:=Tryz.isAgg311
 z66:=Tryz.sizeOf311
 v66:=Tryz.zeroValue311
 t70:=Tryz.underlying315
 a70:=Tryz.isAgg315
 z70:=Tryz.sizeOf315
 v70:=Tryz.zeroValue315
 t76:=Tryz.underlying337
 a76:=Tryz.isAgg337
 z76:=Tryz.sizeOf337
 v76:=Tryz.zeroValue337
 t77:=Tryz.underlying307
 a77:=Tryz.isAgg307
 z77:=Tryz.sizeOf307
 v77:=Tryz.zeroValue307 }
end Go.Proofs
end
section
namespace Go.Proofs
open Go.Shelf
def Tryz.lays122_ren:Go.Shelf.Ren:=⟨fun | 122=>90 | 215=>162 | n=>n,fun | 3=>3 | 4=>4 | n=>n,fun | n=>n⟩
theorem Tryz.lays122:Go.Proofs.Lays.n122 Tryz.prog Tryz.lays122_ren:={
 mixed:=by kernel_rfl
 f122:=Tryz.func90.trans (congrArg some (by kernel_rfl))
 f215:=Tryz.func162.trans (congrArg some (by kernel_rfl))
 t3:=Tryz.underlying3
 a3:=Tryz.isAgg3
 z3:=Tryz.sizeOf3
 v3:=Tryz.zeroValue3
 t4:=Tryz.underlying4
 a4:=Tryz.isAgg4
 z4:=Tryz.sizeOf4
 v4:=Tryz.zeroValue4 }
open Go.RowKit in
theorem Tryz.cmp_Compare_int (x y:Int) (w:World) :
  Calls Tryz.prog 90 #[.int .i64 x,.int .i64 y] w fun e w'=>e=.returned (.int .i64 (Lib.compareInt x y))∧w'=w:=Any.cmp_Compare_int Tryz.lays122 x y w
end Go.Proofs
end
section
namespace Go.Proofs.YtlekejpogddndaaGreatDoor
open Go.Ab Go.RowKit Civ Go.Sort
def trnV (t:Trn):List Value:=[.int .i64 t.1,.string t.2.1,.int .i64 t.2.2.1,.int .i64 t.2.2.2.1,.int .i64 t.2.2.2.2.1,.int .i64 t.2.2.2.2.2.1.1,.int .i64 t.2.2.2.2.2.1.2.1,.int .i64 t.2.2.2.2.2.1.2.2,.int .i64 t.2.2.2.2.2.2.1,.int .i64 t.2.2.2.2.2.2.2.1,.int .i64 t.2.2.2.2.2.2.2.2.1,.string t.2.2.2.2.2.2.2.2.2]
def cmpT (a b:Trn):Int:=Lib.compareInt a.1 b.1
theorem ZqT (a b:Trn):Go.Proofs.ltOf cmpT a b=decide (a.1<b.1):=by
 unfold Go.Proofs.ltOf cmpT Lib.compareInt
 rw [Bool.eq_iff_iff]
 simp only [decide_eq_true_eq]
 repeat' split
 all_goals omega
theorem cmpT_swo:SWO (Go.Proofs.ltOf cmpT):=by
 refine ⟨fun x=>?_,fun x y z=>?_,fun x y z=>?_⟩ <;> simp only [ZqT,decide_eq_true_eq,decide_eq_false_iff_not] <;> omega
theorem cmp_walk (x y:Trn) (w:World):Calls Tryz.prog 89 #[.agg (trnV x).toArray,.agg (trnV y).toArray] w fun e w'=>e=.returned (.int .i64 (cmpT x y)) ∧ ∃ q os,w'=grow (w.drewN q) os:=by
 obtain ⟨a,n,f,t,m,⟨k,v,d⟩,c,e,s,l⟩:=x
 obtain ⟨a2,n2,f2,t2,m2,⟨k2,v2,d2⟩,c2,e2,s2,l2⟩:=y
 simp only [trnV]
 go_enter Tryz.func89,Tryz.ntmps89
 go_wp2_with (go_at_call 90;refine (Tryz.cmp_Compare_int _ _ _).mono ?_;rintro e w' ⟨rfl,rfl⟩)
 go_ret
 refine ⟨rfl,?_⟩
 rw [alloc_eq_grow,alloc_eq_grow,grow_grow]
 exact ⟨0,_,rfl⟩
def ordT (l l':List Trn):Prop:=l'.Perm l∧l'.Pairwise fun a b=>a.1≤b.1
theorem sortT_a {h:AH}{id ver ty:Nat}{l:List Trn}(hi:h[id]?=some (.mk ver ty 12 (rows trnC l))) (hl:l≠[]) (hz:l.length<4611686018427387904) :
  ACalls Tryz.prog 88 [.own id ver l.length,.v (.func (.func 89) #[] #[])] h fun x h'=>x=.ret (.tup []) ∧ ∃ l',ordT l l'∧h'=h.set id (.mk ver ty 12 (rows trnC l')):=by
 refine (sort_a (P:=Tryz.prog) Tryz.sl9 (k:=12) (by omega) (fun w=>by kernel_rfl) (fun w=>by kernel_rfl) (enc:=trnV) (fun _=>rfl) (fun t v hv=>?_) cmpT_swo (g0:=89) (fun args w=>?_) (fun blk off size w m os dk hd x y=>cmp_walk x y _) hi hl hz (by kernel_rfl)).mono ?_
 ·unfold trnV at hv
  simp only [List.mem_cons,List.not_mem_nil,or_false] at hv
  rcases hv with rfl | rfl | rfl | rfl | rfl | rfl | rfl | rfl | rfl | rfl | rfl | rfl <;> rfl
 ·exact ZhO (by kernel_rfl) args w
 ·rintro x h' ⟨rfl,l',hp,hs,rfl⟩
  refine ⟨rfl,l',⟨hp,List.pairwise_iff_getElem.2 fun i j hi hj hij=>?_⟩,rfl⟩
  have:=hs i j hi hj hij
  rw [ZqT] at this
  simp only [decide_eq_false_iff_not] at this
  omega
end Go.Proofs.YtlekejpogddndaaGreatDoor
end
section
namespace Go.Proofs.YtlekejpogddndaaGreatDoor
open Go.Ab Go.RowKit Civ
attribute [local simp] Zbi Zkp ZdM
section
theorem Zid {a0 a1 a2 a3 a4 a5 a6 a7 a8 a9 a10 a11 c0 c1 c2 c3 c4 c5 c6 c7 c8 c9 c10 c11:AV}{l:List AV}:setCells (a0::a1::a2::a3::a4::a5::a6::a7::a8::a9::a10::a11::l) 0 [c0,c1,c2,c3,c4,c5,c6,c7,c8,c9,c10,c11]=c0::c1::c2::c3::c4::c5::c6::c7::c8::c9::c10::c11::l:=rfl
theorem ZmG {a0 a1 a2 a3 a4 a5 a6 a7 a8 a9 a10 a11:AV}{l:List AV}:((a0::a1::a2::a3::a4::a5::a6::a7::a8::a9::a10::a11::l).drop 0).take 12=[a0,a1,a2,a3,a4,a5,a6,a7,a8,a9,a10,a11]:=rfl
theorem Zlq {τ:Operand→AV}{y0:Operand}{x0_0 x0_1 x0_2 x0_3 x0_4 x0_5 x0_6 x0_7 x0_8 x0_9 x0_10 x0_11:AV}(h0:Zav (τ y0)=some [x0_0,x0_1,x0_2,x0_3,x0_4,x0_5,x0_6,x0_7,x0_8,x0_9,x0_10,x0_11]) (l0:[x0_0,x0_1,x0_2,x0_3,x0_4,x0_5,x0_6,x0_7,x0_8,x0_9,x0_10,x0_11].all leaf=true):Zat τ [(0,12,y0)] [(.v (.int .i64 0)),(.v (.string ⟨#[]⟩)),(.v (.int .i64 0)),(.v (.int .i64 0)),(.v (.int .i64 0)),(.v (.int .i64 0)),(.v (.int .i64 0)),(.v (.int .i64 0)),(.v (.int .i64 0)),(.v (.int .i64 0)),(.v (.int .i64 0)),(.v (.string ⟨#[]⟩))]=some [x0_0,x0_1,x0_2,x0_3,x0_4,x0_5,x0_6,x0_7,x0_8,x0_9,x0_10,x0_11]:=by
 simp only [Zat,h0,l0]
 rfl
theorem ZoX {a0 a1 a2 a3 a4 a5 a6 a7 a8 a9 a10 a11:AV}{l:List AV}:(a0::a1::a2::a3::a4::a5::a6::a7::a8::a9::a10::a11::l).take 12=[a0,a1,a2,a3,a4,a5,a6,a7,a8,a9,a10,a11]:=rfl
theorem ZoY {a0 c0:AV}{l:List AV}:setCells (a0::l) 0 [c0]=c0::l:=rfl
theorem Zic {a0 a1 a2 a3 a4 a5 a6 a7 a8 a9 a10 a11:AV}{l:List AV}:((a0::a1::a2::a3::a4::a5::a6::a7::a8::a9::a10::a11::l).drop 1).take 11=[a1,a2,a3,a4,a5,a6,a7,a8,a9,a10,a11]:=rfl
theorem Zf8 {τ:Operand→AV}{y0 y1 y2:Operand}{x0_0 x1_0 x2_0:AV}(h0:Zav (τ y0)=some [x0_0]) (l0:[x0_0].all leaf=true) (h1:Zav (τ y1)=some [x1_0]) (l1:[x1_0].all leaf=true) (h2:Zav (τ y2)=some [x2_0]) (l2:[x2_0].all leaf=true):Zat τ [(0,1,y0),(1,1,y1),(2,1,y2)] [(.v (.int .i64 0)),(.v (.int .i64 0)),(.v (.string ⟨#[]⟩))]=some [x0_0,x1_0,x2_0]:=by
 simp only [Zat,h0,l0,h1,l1,h2,l2]
 rfl
theorem Zf7 {τ:Operand→AV}{y0:Operand}{x0_0 x0_1 x0_2:AV}(h0:Zav (τ y0)=some [x0_0,x0_1,x0_2]) (l0:[x0_0,x0_1,x0_2].all leaf=true):Zat τ [(0,3,y0)] [(.v (.int .i64 0)),(.v (.int .i64 0)),(.v (.string ⟨#[]⟩))]=some [x0_0,x0_1,x0_2]:=by
 simp only [Zat,h0,l0]
 rfl
theorem Zlp { e:Ent}:([]:AH)++[e]=[e]:=rfl
theorem Zjk {e0 e1 e2 e3 e4 e5 d0:Ent}:([e0,e1,e2,e3,e4,e5]:AH)++[d0]=[e0,e1,e2,e3,e4,e5,d0]:=rfl
theorem Zlo {a0 a1 a2:AV}{l:List AV}:(a0::a1::a2::l).take 3=[a0,a1,a2]:=rfl
end
def c31p:AC:=(.seq (.reg [⟨(some 6),none,(.mv (.const (.slice none 0 0)))⟩,⟨(some 7),none,(.mv (.const (.int .i64 0)))⟩]) (.seq (.reg [⟨(some 15),none,(.mv (.tmp 0))⟩,⟨(some 16),none,(.mv (.tmp 1))⟩,⟨(some 17),none,(.mv (.tmp 2))⟩,⟨(some 18),none,(.call (.func 86) [(.tmp 15),(.tmp 16),(.tmp 17)])⟩,⟨(some 8),none,(.mv (.tmp 18))⟩]) (.seq (.reg [⟨(some 19),none,(.mv (.tmp 8))⟩,⟨(some 20),none,(.bin .neq (.tmp 19) (.const (.int .i64 0)))⟩]) (.seq (.cond (.tmp 20) (.seq (.reg [⟨(some 21),none,(.mv (.tmp 8))⟩,⟨(some 6),none,(.mv (.const (.slice none 0 0)))⟩,⟨(some 7),none,(.mv (.tmp 21))⟩]) .ret) .skip) (.seq (.reg [⟨(some 9),none,(.new 140 1 [(.sl 0 0 true [])])⟩]) (.seq (.reg [⟨(some 22),none,(.mv (.tmp 0))⟩,⟨(some 23),none,(.mv (.tmp 1))⟩,⟨(some 24),none,(.call (.func 87) [(.tmp 22),(.tmp 23)])⟩]) .skip))))))
def c31a:AC:=(.reg [⟨(some 10),none,(.new 144 12 [(.v (.int .i64 0)),(.v (.string ⟨#[]⟩)),(.v (.int .i64 0)),(.v (.int .i64 0)),(.v (.int .i64 0)),(.v (.int .i64 0)),(.v (.int .i64 0)),(.v (.int .i64 0)),(.v (.int .i64 0)),(.v (.int .i64 0)),(.v (.int .i64 0)),(.v (.string ⟨#[]⟩))])⟩,⟨none,none,(.store 12 (.tmp 10) (.tmp 25))⟩])
def c31b:AC:=(.block 1 (.reg [⟨(some 26),none,(.load false 1 (.tmp 9))⟩,⟨(some 27),none,(.load true 12 (.tmp 10))⟩,⟨(some 28),none,(.lit 144 12 1 [(.v (.int .i64 0)),(.v (.string ⟨#[]⟩)),(.v (.int .i64 0)),(.v (.int .i64 0)),(.v (.int .i64 0)),(.v (.int .i64 0)),(.v (.int .i64 0)),(.v (.int .i64 0)),(.v (.int .i64 0)),(.v (.int .i64 0)),(.v (.int .i64 0)),(.v (.string ⟨#[]⟩))] [(0,(12,(.tmp 27)))])⟩,⟨(some 29),none,(.app 144 12 112 (.tmp 26) (.tmp 28))⟩,⟨none,none,(.store 1 (.tmp 9) (.tmp 29))⟩]))
def c31q:AC:=(.seq (.reg [⟨(some 30),none,(.load false 1 (.tmp 9))⟩,⟨(some 31),none,(.call (.func 88) [(.tmp 30),(.func 89)])⟩]) (.seq (.reg [⟨(some 11),none,(.mv (.const (.slice none 0 0)))⟩]) (.seq (.reg [⟨(some 12),none,(.mv (.const (.int .i64 0)))⟩]) (.seq (.reg [⟨(some 32),none,(.load false 1 (.tmp 9))⟩,⟨(some 33),none,(.len false (.tmp 32))⟩,⟨(some 34),none,(.mv (.const (.int .i64 0)))⟩]) (.seq (.block 2 (.loop (.seq (.reg [⟨(some 35),none,(.bin .lss (.tmp 34) (.tmp 33))⟩]) (.seq (.cond (.tmp 35) .skip (.exit 2)) (.seq (.block 3 (.seq (.reg [⟨(some 36),none,(.mv (.tmp 34))⟩,⟨(some 37),none,(.ia 12 (.tmp 32) (.tmp 34))⟩,⟨(some 38),none,(.load true 12 (.tmp 37))⟩,⟨(some 14),none,(.new 144 12 [(.v (.int .i64 0)),(.v (.string ⟨#[]⟩)),(.v (.int .i64 0)),(.v (.int .i64 0)),(.v (.int .i64 0)),(.v (.int .i64 0)),(.v (.int .i64 0)),(.v (.int .i64 0)),(.v (.int .i64 0)),(.v (.int .i64 0)),(.v (.int .i64 0)),(.v (.string ⟨#[]⟩))])⟩,⟨(some 13),none,(.mv (.tmp 36))⟩,⟨none,none,(.store 12 (.tmp 14) (.tmp 38))⟩]) (.seq (.seq (.drw [⟨(some 39),none,(.mv (.tmp 13))⟩,⟨(some 40),none,(.bin .gtr (.tmp 39) (.const (.int .i64 0)))⟩,⟨(some 41),none,(.mv (.tmp 40))⟩,⟨(some 42),(some (41,true)),(.fa 0 (.tmp 14))⟩,⟨(some 43),(some (41,true)),(.load false 1 (.tmp 42))⟩,⟨(some 44),(some (41,true)),(.load false 1 (.tmp 9))⟩,⟨(some 45),(some (41,true)),(.mv (.tmp 13))⟩,⟨(some 46),(some (41,true)),(.bin .sub (.tmp 45) (.const (.int .i64 1)))⟩,⟨(some 47),(some (41,true)),(.ia 12 (.tmp 44) (.tmp 46))⟩,⟨(some 48),(some (41,true)),(.fa 0 (.tmp 47))⟩,⟨(some 49),(some (41,true)),(.load false 1 (.tmp 48))⟩,⟨(some 50),(some (41,true)),(.bin .sub (.tmp 43) (.tmp 49))⟩,⟨(some 51),(some (41,true)),(.bin .lss (.tmp 50) (.const (.int .i64 172800)))⟩,⟨(some 52),none,(.pick (.tmp 41) (.tmp 51) (.const (.bool false)))⟩] [] []) (.cond (.tmp 52) (.seq (.reg [⟨(some 6),none,(.mv (.const (.slice none 0 0)))⟩,⟨(some 7),none,(.mv (.const (.int .i64 4)))⟩]) .ret) .skip)) (.seq (.drw [⟨(some 53),none,(.mv (.tmp 11))⟩,⟨(some 54),none,(.fa 0 (.tmp 14))⟩,⟨(some 55),none,(.load false 1 (.tmp 54))⟩,⟨(some 56),none,(.fa 1 (.tmp 14))⟩,⟨(some 57),none,(.load true 11 (.tmp 56))⟩,⟨(some 58),none,(.mv (.tmp 2))⟩,⟨(some 59),none,(.mv (.tmp 12))⟩,⟨(some 60),none,(.call (.func 91) [(.tmp 57),(.tmp 58),(.tmp 59)])⟩,⟨(some 61),none,(.bin .sub (.tmp 55) (.tmp 60))⟩,⟨(some 62),none,(.fa 1 (.tmp 14))⟩,⟨(some 63),none,(.fa 9 (.tmp 62))⟩,⟨(some 64),none,(.load false 1 (.tmp 63))⟩,⟨(some 65),none,(.fa 1 (.tmp 14))⟩,⟨(some 66),none,(.fa 10 (.tmp 65))⟩,⟨(some 67),none,(.load false 1 (.tmp 66))⟩,⟨(some 68),none,(.build [(.v (.int .i64 0)),(.v (.int .i64 0)),(.v (.string ⟨#[]⟩))] [(0,(1,(.tmp 61))),(1,(1,(.tmp 64))),(2,(1,(.tmp 67)))])⟩,⟨(some 69),none,(.lit 136 3 1 [(.v (.int .i64 0)),(.v (.int .i64 0)),(.v (.string ⟨#[]⟩))] [(0,(3,(.tmp 68)))])⟩] [false,false] [⟨(some 70),none,(.app 136 3 32 (.tmp 53) (.tmp 69))⟩,⟨(some 11),none,(.mv (.tmp 70))⟩]) (.reg [⟨(some 71),none,(.fa 1 (.tmp 14))⟩,⟨(some 72),none,(.fa 9 (.tmp 71))⟩,⟨(some 73),none,(.load false 1 (.tmp 72))⟩,⟨(some 12),none,(.mv (.tmp 73))⟩]))))) (.reg [⟨(some 74),none,(.bin .add (.tmp 34) (.const (.int .i64 1)))⟩,⟨(some 34),none,(.mv (.tmp 74))⟩])))))) (.seq (.reg [⟨(some 75),none,(.mv (.tmp 11))⟩,⟨(some 76),none,(.len false (.tmp 75))⟩,⟨(some 77),none,(.bin .gtr (.tmp 76) (.const (.int .i64 1000)))⟩]) (.seq (.cond (.tmp 77) (.seq (.reg [⟨(some 6),none,(.mv (.const (.slice none 0 0)))⟩,⟨(some 7),none,(.mv (.const (.int .i64 2)))⟩]) .ret) .skip) (.seq (.reg [⟨(some 78),none,(.mv (.tmp 11))⟩,⟨(some 6),none,(.mv (.tmp 78))⟩,⟨(some 7),none,(.mv (.const (.int .i64 0)))⟩]) (.seq .ret .skip)))))))))
abbrev fr31:AFR:=⟨[(.reg [⟨(some 6),none,(.mv (.const (.slice none 0 0)))⟩,⟨(some 7),none,(.mv (.const (.int .i64 0)))⟩]),(.reg [⟨(some 15),none,(.mv (.tmp 0))⟩,⟨(some 16),none,(.mv (.tmp 1))⟩,⟨(some 17),none,(.mv (.tmp 2))⟩,⟨(some 18),none,(.call (.func 86) [(.tmp 15),(.tmp 16),(.tmp 17)])⟩,⟨(some 8),none,(.mv (.tmp 18))⟩]),(.reg [⟨(some 19),none,(.mv (.tmp 8))⟩,⟨(some 20),none,(.bin .neq (.tmp 19) (.const (.int .i64 0)))⟩]),(.cond (.tmp 20) (.seq (.reg [⟨(some 21),none,(.mv (.tmp 8))⟩,⟨(some 6),none,(.mv (.const (.slice none 0 0)))⟩,⟨(some 7),none,(.mv (.tmp 21))⟩]) .ret) .skip),(.reg [⟨(some 9),none,(.new 140 1 [(.sl 0 0 true [])])⟩]),(.reg [⟨(some 22),none,(.mv (.tmp 0))⟩,⟨(some 23),none,(.mv (.tmp 1))⟩,⟨(some 24),none,(.call (.func 87) [(.tmp 22),(.tmp 23)])⟩])],(.tmp 24),#[25],c31a,c31b,c31q,[(.tmp 6),(.tmp 7)],79⟩
theorem k31:ZgY Tryz.prog 31=some fr31:=by kernel_rfl
theorem turns_ne {l:List Rul}{nm:ByteArray}(h : ∀ r∈l,Zbm r=0) (hn : ∃ r∈l,r.1=nm):Za2 l nm≠[]:=by
 obtain ⟨r,hr,e⟩:=hn
 have h1:=Zgd (h r hr)
 obtain ⟨_,q2,_⟩:=Zce (h r hr)
 intro hE
 have:ZcF r=[]:=by
  unfold Za2 at hE
  rw [List.flatMap_eq_nil_iff] at hE
  have:=hE r hr
  rwa [if_pos e] at this
 rw [this] at h1
 simp at h1
 have q2:r.2.1≤r.2.2.1:=q2
 have h2:(0:Int)=r.2.2.1-r.2.1+1:=h1
 omega
abbrev timT (N:Nat) (l:List Rul) (nm:ByteArray) (sh:Int) (x:AV):List AV:=[.sl l.length 11 false (rows rulC l),sv nm,iv sh,.any,.any,.any,.any,.any,.any,.ptr (N+0) 0 0,.any,.any,.any,.any,.any,.any,.any,.any,.any,.any,.any,.any,.any,.any,.clo (.func 159) [.rp [.sl l.length 11 false (rows rulC l)],.rp [sv nm]],x,.any,.any,.any,.any,.any,.any,.any,.any,.any,.any,.any,.any,.any,.any,.any,.any,.any,.any,.any,.any,.any,.any,.any,.any,.any,.any,.any,.any,.any,.any,.any,.any,.any,.any,.any,.any,.any,.any,.any,.any,.any,.any,.any,.any,.any,.any,.any,.any,.any,.any,.any,.any,.any]
abbrev timH (h:AH) (D l N:Nat) (o:Obj) (T:List AV) (vs:List Value) (d:List Trn):AH:=h++[.mk 0 140 1 [.own (N+1) d.length d.length],.mk d.length 144 12 (rows trnC d),mkD D,.raw l o T vs]
abbrev timJ (h:AH) (D l N:Nat) (o:Obj) (T:List AV) (vs:List Value) (d:List Trn) (e f:Ent):AH:=h++[.mk 0 140 1 [.own (N+1) d.length d.length],.mk d.length 144 12 (rows trnC d),mkD D,.raw l o T vs,e,f]
theorem Znd {n:Nat} : ∀ {a b:List AV},AV.ltL n (a++b)=(AV.ltL n a&&AV.ltL n b)
 | [],b=>by simp [AV.ltL]
 | c::a,b=>by simp [AV.ltL,Znd (a:=a) (b:=b),Bool.and_assoc]
theorem Zpr {h:AH}{D l N:Nat}{o:Obj}{T:List AV}{vs:List Value}{d:List Trn}{e f:Ent}:timH h D l N o T vs d++[e,f]=timJ h D l N o T vs d e f:=by simp
abbrev timK (P:Program) (lp N D:Nat) (rdy bsy fin:Obj) (l:List Rul) (nm:ByteArray) (sh:Int) (vs:List Value):Prop:=Zke P fr31 (N+2+1) lp rdy bsy fin (timT N l nm sh .any) vs
theorem timT_lt {N:Nat}{l:List Rul}{nm:ByteArray}{sh:Int}:AV.ltL (N+4) (timT N l nm sh .any)=true:=by simp [AV.ltL,AV.lt,Zbi]
theorem timH_lt {h:AH}{D lp N:Nat}{o:Obj}{l:List Rul}{nm:ByteArray}{sh:Int}{vs:List Value}(hlt : ∀ e∈h,e.lt N=true) (d:List Trn) : ∀ e∈timH h D lp N o (timT N l nm sh .any) vs d,e.lt (N+4)=true:=by
 intro e he
 rcases List.mem_append.1 he with he | he
 ·exact ltw (by omega) hlt e he
 simp only [List.mem_cons,List.not_mem_nil,or_false] at he
 rcases he with rfl | rfl | rfl | rfl
 ·simp [Ent.lt,AV.ltL,AV.lt]
 ·simp [Ent.lt,Zkp]
 ·simp [Ent.lt,AV.ltL]
 simpa [Ent.lt] using timT_lt
theorem app62 {h:AH}{a b c d e f p q:Ent}:h++[a,b,c,d,e,f,p,q]=(h++[a,b,c,d,e,f])++[p,q]:=by simp
theorem ZlE {h:AH}{lp N D:Nat}{rdy bsy fin:Obj}{l:List Rul}{nm:ByteArray}{sh:Int}{vs:List Value}(hn:h.length=N) (hlt : ∀ e∈h,e.lt N=true) (hY:timK Tryz.prog lp N D rdy bsy fin l nm sh vs) {d:List Trn}{t:Trn}{e f:Ent}(hd:d.length<10000) :
  AYield Tryz.prog lp [.agg (trnC t)] (timJ h D lp N rdy (timT N l nm sh .any) vs d e f) fun r h''=>r=.ret (.v (.bool true))∧h''=timJ h D lp N rdy (timT N l nm sh .any) vs (d++[t]) e f:=by
 refine y_go hY (hga (k:=3) hn rfl) rfl fun n0 hn0 hlt0 q1 q2 q3=>?_
 obtain ⟨a,n,fr,tt,m,⟨kd,wk,dn⟩,at_,ck,sv_,lt⟩:=t
 show aw _ _ c31a _ _ _
 show aw _ _ _ _ (timT N l nm sh (.agg (trnC (a,n,fr,tt,m,(kd,wk,dn),at_,ck,sv_,lt)))) (h++[.mk 0 140 1 [.own (N+1) d.length d.length],.mk d.length 144 12 (rows trnC d),mkD D,.raw lp rdy (timT N l nm sh .any) vs,e,f])
 refine Zas<|E' (Za6 (hl6 hn) ha6) pt<|E' (Zal lk (cvl lk rfl) (hga hn rfl) rfl (nb' rfl) rfl Zid (hs6 hn)) ptn<|Zar<|?_
 refine Zq3 (i:=N+3) (hga hn rfl) (hs3 hn) fun n1 hn1 hlt1=>?_
 show aw _ _ c31b _ _ _
 refine Zao<|Zas<|V' (Zab lk (hga hn rfl) gt0) pt<|V' (Zaq lk (hga hn rfl) ZmG rfl) pt<|E' (Zc5 (Zlq (cvl lk rfl) rfl) (hl7 hn) ha7) pt<|?_
 refine E' (ZcD (Zct lk (hga hn rfl) rfl ZoX (nb' rfl)) lk (hga hn rfl) (trn_len _) (by omega) rfl (hs1 hn)) pt ?_
 refine E' (Zal lk (cvl lk rfl) (hga hn rfl) rfl (nb' rfl) rfl ZoY (hs0 hn)) ptn<|Zar<|Zaz<|?_
 refine ZhW (i:=N+3) (hga hn rfl) (hs3 hn) ?_
 refine ⟨_,_,app62,?_,fun x hx=>?_,rfl,rfl,?_⟩
 ·rw [←hn0];simp
 ·have hm:n0=N+6:=by rw [←hn0];simp [hn]
  subst hm
  rcases List.mem_append.1 hx with hx | hx
  ·exact ltw (by omega) hlt x hx
  simp only [List.mem_cons,List.not_mem_nil,or_false] at hx
  rcases hx with rfl | rfl | rfl | rfl | rfl | rfl
  ·simp [Ent.lt,AV.ltL,AV.lt]
  ·simp [Ent.lt,Zkp,Znd,AV.ltL,AV.lt]
  ·simp [Ent.lt,AV.ltL]
  ·exact hlt0 _ (by simp)
  ·exact hlt0 _ (by simp)
  exact hlt0 _ (by simp)
 unfold timJ;rw [ZaS,Zbx,List.length_append];rfl
theorem sortT_b {h:AH}{N:Nat}{a:Ent}{l:AH}{v ty:Nat}{S:List Trn}(hn:h.length=N) (hl:S≠[]) (hz:S.length<4611686018427387904) :
  ACalls Tryz.prog 88 [.own (N+1) v S.length,.v (.func (.func 89) #[] #[])] (h++(a::.mk v ty 12 (rows trnC S)::l)) fun x h'=>x=.ret (.tup []) ∧ ∃ S',ordT S S'∧h'=h++(a::.mk v ty 12 (rows trnC S')::l):=by
 refine (sortT_a (hga (k:=1) hn rfl) hl hz).mono ?_
 rintro x h' ⟨rfl,S',h1,rfl⟩
 exact ⟨rfl,S',h1,hs1 hn⟩
theorem gapB_pre {l:List Trn}{i:Nat}(h:i<l.length) (h0:0<i) (hg:l[i].1-(l[i-1]'(by omega)).1<172800):gapB l=true:=by
 obtain ⟨i,rfl⟩ : ∃ i0,i=i0+1:=⟨i-1,by omega⟩
 exact Zqw h hg
theorem gap_ok {S:List Trn}{i:Nat}(hi : ∀ j (h:j+1<S.length),j+1<i→172800≤S[j+1].1-S[j].1) (hl:S.length≤i):gapB S=false:=(ZjR S).2 fun j h=>hi j h (by omega)
theorem ZnN {h:AH}{lp N D n0:Nat}{o:Obj}{l:List Rul}{nm:ByteArray}{sh:Int}{vs:List Value}(hn:h.length=N) (hlt : ∀ e∈h,e.lt N=true) (hr0:ZcG l nm sh=0) (hn0:N+4=n0) :
  aw Tryz.prog n0 c31q (ZeA fr31.res (N+2) D fun x h' => ∃ z,h'=h++z∧x.lt N=true ∧ ∃ c,x=.ret c∧Wk c (.tup [.sl (ZaW l nm sh).1.length 3 false (rows timC (ZaW l nm sh).1),iv (ZaW l nm sh).2])) (timT N l nm sh .any)
   (h++[.mk 0 140 1 [.own (N+1) (Za2 l nm).length (Za2 l nm).length],.mk (Za2 l nm).length 144 12 (rows trnC (Za2 l nm)),mkD D,.gone]):=by
 obtain ⟨g1,g2,g3,g4⟩:=ZfH hr0
 have hne:=turns_ne g2 g4
 have htl:=Zhl (nm:=nm) g2
 have htO : ∀ t∈Za2 l nm,Zbm t.2=0 ∧ -2592000000≤t.1∧t.1≤4320172800:=fun t ht=>Zjp g2 ht
 subst hn0
 show aw _ _ c31q _ _ _
 refine wr'<|V' (Zab lk (hga hn rfl) gt0) pt<|?_
 refine s_callE mp (sortT_b hn hne (by omega)) pt ?_
 rintro S hS
 have hSl:=hS.1.length_eq
 have hSO : ∀ t∈S,Zbm t.2=0 ∧ -2592000000≤t.1∧t.1≤4320172800:=fun t ht=>htO t (hS.1.mem_iff.1 ht)
 have hTV:=ZmU (sh:=sh) hr0 hS.1 hS.2
 rw [←hSl]
 refine sn'<|wr'<|mv' lkn pt11<|Zar<|Za8 (ALe.own0' (st':=3) (ty:=136) gt11 (hl4 hn) pt11 ha4)<|wr'<|mv' lki pt12<|sn'<|wr'<|?_
 refine V' (Zab lk (hga hn rfl) gt0) pt<|V' (Zds lk) pt<|mv' lki pt<|sn'<|Zam<|Zao<|?_
 refine w_lp (ι:=Nat) (fun (i:Nat)=>[(11,.own (N+4) i (outV sh 0 (S.take i)).length),(12,iv (svAt S i)),(34,iv (i:Int)),(6,.any),(7,.any),(13,.any),(14,.any)]++rn' 35 40) (fun (i:Nat)=>[(4,.mk i 136 3 (rows timC (outV sh 0 (S.take i))))]) (fun (i:Nat)=>i≤S.length ∧ ∀ j (h:j+1<S.length),j+1<i→172800≤S[j+1].1-S[j].1) (fun (i:Nat)=>S.length-i) (0) (by exact ⟨Nat.zero_le _,fun j _ h=>by omega⟩) ?_
 rintro i hi1
 try simp only [sm',Nat.reduceAdd]
 obtain ⟨hi1,hi2⟩:=hi1
 refine wr'<|V' (Zba lk lk) pt<|sn'<|Zam<|?_
 refine cd' lk (fun hc1=>?_) (fun hc1=>?_)
 ·have hi:i<S.length:=by omega
  obtain ⟨hb0,hb1⟩:=hSO _ (List.getElem_mem hi)
  have hsv:=svAt_bd (i:=i) fun t ht=>(hSO t ht).1
  have hoff:=Zp6 (r:=S[i].2) g3 hsv
  have hol2:(outV sh 0 (S.take (i+1))).length=i+1:=by rw [ZfK,List.length_take];omega
  have hol:(outV sh 0 (S.take i)).length=i:=by rw [ZfK,List.length_take];omega
  refine Zae<|Zah<|Zam<|Zao<|wr'<|mv' lk pt<|?_
  refine V' (Zpf lk lk (hga hn rfl) Zfz (nb' rfl) ro (by omega) (by first | rfl | (simp;done) | omega)) pt ?_
  refine V' (v_ldOR lk (hga hn rfl) Zfz (by omega) rfl) pt ?_
  refine E' (Za6 (hl5 hn) ha5) pt<|mv' lk pt<|E' (Zal lk (cvl lk rfl) (hga hn rfl) rfl (nb' rfl) rfl Zid (hs5 hn)) ptn<|sn'<|Zam<|Zam<|ZcE<|D' (v_mv lk) pt<|D' (ZbV lk lki) pt<|D' (v_mv lk) pt<|?_
  refine dq' (t:=41) gt pt pt (fun hg41=>?_) (fun hg41=>?_)
  ·obtain ⟨hb3,hb4⟩:=hSO _ (List.getElem_mem (show i-1<S.length by omega))
   refine d_do gt<|D' (Zac lk) pt<|d_do gt<|D' (Zab lk (hga hn rfl) gt0) pt<|d_do gt<|D' (Zab lk (hga hn rfl) gt0) pt<|d_do gt<|D' (v_mv lk) pt<|d_do gt<|?_
   refine D' (ZbD lk lki (by omega) (by omega)) pt ?_
   refine d_do gt ?_
   refine D' (Zpf (k:=i-1) lk lk (hga hn rfl) Zfz (nb' rfl) ro (by omega) (by first | rfl | (simp;done) | omega)) pt ?_
   refine d_do gt<|D' (ZbE lk) pt<|d_do gt<|?_
   refine D' (v_ldOF lk (hga hn rfl) Zfz (by omega) (nb' rfl) gt0) pt ?_
   refine d_do gt ?_
   refine D' (ZbD lk lk (by omega) (by omega)) pt ?_
   refine d_do gt<|D' (Zba lk lki) pt<|D' (Zak lk lk) pt<|Zb6<|?_
   refine Zcy ?_
   refine sn' ?_
   refine cd' lk (fun hc2=>?_) (fun hc2=>?_)
   ·have hG:gapB S=true:=gapB_pre hi (by omega) hc2
    refine wr'<|mv' lkn pt<|mv' lki pt<|sn'<|Zaa<|Zai<|Zap<|Zai<|Zai<|Zap<|Zai<|?_
    refine Zdy (hga hn rfl) (hs2 hn) ry ?_
    refine rtW' ?_
    rw [hTV,if_pos hG];exact Wk.tup (wkw Wk.nilF (wk1 rfl wk0))
   refine Zae<|Zah<|Zam<|ZcE<|D' (v_mv lk) pt<|D' (Zac lk) pt<|D' (Zab lk (hga hn rfl) gt0) pt<|D' (Zac lk) pt<|D' (Zaq lk (hga hn rfl) Zic rfl) pt<|D' (v_mv lk) pt<|D' (v_mv lk) pt<|?_
   refine Zbf mp (fun hE hX=>off_a g3 hsv) pt ?_
   refine D' (ZbD lk lk (by omega) (by omega)) pt ?_
   refine D' (Zac lk) pt<|D' (ZbE lk) pt<|D' (Zab lk (hga hn rfl) gt10) pt<|D' (Zac lk) pt<|D' (ZbE lk) pt<|D' (Zab lk (hga hn rfl) gt11) pt<|D' (Zax (Zf8 (cvl lk rfl) rfl (cvl lk rfl) rfl (cvl lk rfl) rfl)) pt<|d_eff rfl rfl (hlk hn rfl) (l_lit (Zf7 (cvl lk rfl) rfl)) pt Zlp<|Zb6<|?_
   refine e_ent Zjk ?_
   refine E' (ZcD (Zct lk (hga hn rfl) rfl Zlo (nb' rfl)) lk (hga hn rfl) (Zjs _) (by omega) rfl (hs4 hn)) pt ?_
   refine mv' lk pt<|sn'<|Zas<|V' (Zac lk) pt<|V' (ZbE lk) pt<|V' (Zab lk (hga hn rfl) gt10) pt<|mv' lk pt<|Zar<|Zaz<|Zah<|Zas<|?_
   refine V' (Zay lk lki (by omega) (by omega)) pt ?_
   refine mv' lk pt<|Zar<|ZaA<|?_
   refine lU' (i+1) (by (try dsimp only);exact ⟨by omega,fun j hj h=>by by_cases e:j+1=i;(subst e;(try simp only [Nat.add_sub_cancel] at hc2);omega);exact hi2 j hj (by omega)⟩) (by (try dsimp only);(try simp only [sm',Nat.reduceAdd]);exact bkE' 5 hn hlt (by repeat (first | exact wk0 | refine wka ?_ | refine wk1 rfl ?_ | refine wk1 (by first | rfl | exact ivx (by omega) | (rw [hol2,hol];done) | (rw [hol2,hol]) | (rw [Zhv hi])) ?_)) (by rw [ZkL hi,ZaS,Zbx];rfl))
  refine d_no gt pt<|d_no gt pt<|d_no gt pt<|d_no gt pt<|d_no gt pt<|d_no gt pt<|d_no gt pt<|d_no gt pt<|d_no gt pt<|d_no gt pt<|D' (Zag lk lkb) pt<|Zb6<|?_
  refine Zcy ?_
  refine sn'<|ZaM lk<|Zae<|Zah<|Zam<|ZcE<|D' (v_mv lk) pt<|D' (Zac lk) pt<|D' (Zab lk (hga hn rfl) gt0) pt<|D' (Zac lk) pt<|D' (Zaq lk (hga hn rfl) Zic rfl) pt<|D' (v_mv lk) pt<|D' (v_mv lk) pt<|?_
  refine Zbf mp (fun hE hX=>off_a g3 hsv) pt ?_
  refine D' (ZbD lk lk (by omega) (by omega)) pt ?_
  refine D' (Zac lk) pt<|D' (ZbE lk) pt<|D' (Zab lk (hga hn rfl) gt10) pt<|D' (Zac lk) pt<|D' (ZbE lk) pt<|D' (Zab lk (hga hn rfl) gt11) pt<|D' (Zax (Zf8 (cvl lk rfl) rfl (cvl lk rfl) rfl (cvl lk rfl) rfl)) pt<|d_eff rfl rfl (hlk hn rfl) (l_lit (Zf7 (cvl lk rfl) rfl)) pt Zlp<|Zb6<|?_
  refine e_ent Zjk ?_
  refine E' (ZcD (Zct lk (hga hn rfl) rfl Zlo (nb' rfl)) lk (hga hn rfl) (Zjs _) (by omega) rfl (hs4 hn)) pt ?_
  refine mv' lk pt<|sn'<|Zas<|V' (Zac lk) pt<|V' (ZbE lk) pt<|V' (Zab lk (hga hn rfl) gt10) pt<|mv' lk pt<|Zar<|Zaz<|Zah<|Zas<|?_
  refine V' (Zay lk lki (by omega) (by omega)) pt ?_
  refine mv' lk pt<|Zar<|ZaA<|?_
  refine lU' (i+1) (by (try dsimp only);exact ⟨by omega,fun j hj h=>by by_cases e:j+1=i;(subst e;(try simp only [Nat.add_sub_cancel] at hc2);omega);exact hi2 j hj (by omega)⟩) (by (try dsimp only);(try simp only [sm',Nat.reduceAdd]);exact bkE' 5 hn hlt (by repeat (first | exact wk0 | refine wka ?_ | refine wk1 rfl ?_ | refine wk1 (by first | rfl | exact ivx (by omega) | (rw [hol2,hol];done) | (rw [hol2,hol]) | (rw [Zhv hi])) ?_)) (by rw [ZkL hi,ZaS,Zbx];rfl))
 have hie:i=S.length:=by omega
 subst hie
 rw [List.take_length]
 have hG:gapB S=false:=gap_ok hi2 (Nat.le_refl _)
 rw [if_neg (by rw [hG];simp)] at hTV
 have hol:=ZfK S sh 0
 refine ZaO<|ZaF<|ZaF<|Za7<|Zah<|wr'<|mv' lk pt<|V' (Zds lk) pt<|V' (ZbV lk lki) pt<|sn'<|Zam<|?_
 refine cd' lk (fun hc3=>?_) (fun hc3=>?_)
 ·refine wr'<|mv' lkn pt<|mv' lki pt<|sn'<|Zaa<|Zai<|?_
  refine Zdy (hga hn rfl) (hs2 hn) ry ?_
  refine rtW' ?_
  rw [hTV,if_pos (by omega)];exact Wk.tup (wkw Wk.nilF (wk1 rfl wk0))
 refine Zae ?_
 refine Za8 (ALe.iceR (hga hn rfl) gt11 (List.take_of_length_le (by rw [Zjs];exact Nat.le_refl _)) (by rw [Zjs];exact Nat.le_refl _) pt11 (hs4 hn)) ?_
 refine wr'<|mv' lk pt<|mv' lk pt<|mv' lki pt<|sn'<|Zam<|Zaa<|Zai<|?_
 refine Zdy (hga hn rfl) (hs2 hn) ry ?_
 refine rtW' ?_
 rw [hTV,if_neg (by omega)];exact Wk.tup (wkw Wk.full (wk1 rfl wk0))
theorem ZnO {h:AH}{lp N D:Nat}{rdy bsy fin:Obj}{l:List Rul}{nm:ByteArray}{sh:Int}{vs:List Value}(hn:h.length=N) (hlt : ∀ e∈h,e.lt N=true) (hr0:ZcG l nm sh=0) (hY:timK Tryz.prog lp N D rdy bsy fin l nm sh vs) {R:AE→AH→Prop}
    (hR:R=fun x h' => ∃ z,h'=h++z∧x.lt N=true ∧ ∃ c,x=.ret c∧Wk c (.tup [.sl (ZaW l nm sh).1.length 3 false (rows timC (ZaW l nm sh).1),iv (ZaW l nm sh).2])) :
    ACalls Tryz.prog 159 (.v (.func (.yield lp) #[] #[])::[.rp [.sl l.length 11 false (rows rulC l)],.rp [sv nm]]) (timH h D lp N rdy (timT N l nm sh .any) vs []) fun r h3=>(∃ c,r=.ret c) ∧
      ((h3[N+2+1]?=some (.raw lp rdy (timT N l nm sh .any) vs) ∧ ∀ n0,(h3.set (N+2+1) .gone).length=n0→(∀ e∈h3.set (N+2+1) .gone,e.lt n0=true)→aw Tryz.prog n0 fr31.post (ZeA fr31.res (N+2) D R) (timT N l nm sh .any) (h3.set (N+2+1) .gone)) ∨
       (h3[N+2+1]?=some (.raw lp fin (timT N l nm sh .any) vs)∧ZeA fr31.res (N+2) D R .ret (timT N l nm sh .any) (h3.set (N+2+1) .gone))):=by
  obtain ⟨g1,g2,g3,g4⟩:=ZfH hr0
  have htl:=Zhl (nm:=nm) g2
  refine (turns1_a (H:=timH h D lp N rdy (timT N l nm sh .any) vs) g2 g1 (fun d=>hl4 hn) (timH_lt hlt) (fun d t e f hd=>?_)).mono ?_
  · rw [Zpr,Zpr]
    exact ZlE hn hlt hY (by omega)
  rintro x h3 ⟨rfl,rfl⟩
  refine ⟨⟨_,rfl⟩,.inl ⟨hga (k:=3) hn rfl,fun n0 hn0 _=>?_⟩⟩
  have hs:(timH h D lp N rdy (timT N l nm sh .any) vs (Za2 l nm)).set (N+2+1) .gone=h++[.mk 0 140 1 [.own (N+1) (Za2 l nm).length (Za2 l nm).length],.mk (Za2 l nm).length 144 12 (rows trnC (Za2 l nm)),mkD D,.gone]:=hs3 hn
  rw [hs] at hn0 ⊢
  subst hR
  exact ZnN (o:=rdy) (lp:=lp) (vs:=vs) hn hlt hr0 ((hl4 hn).symm.trans hn0)
theorem Zpp {l:List Rul}{nm:ByteArray}{sh:Int}{h:AH}(hok:okRs l) (hl:l.length≤9223372036854775807) :
  Ac 31 [.sl l.length 11 false (rows rulC l),sv nm,iv sh] h (.tup [.sl (ZaW l nm sh).1.length 3 false (rows timC (ZaW l nm sh).1),iv (ZaW l nm sh).2]):=by
 refine ACalls.weak (tR' k31 fun N hn hlt hlA hbd=>?_)
 show aw _ _ c31p _ _ _
 show aw _ _ _ _ [.sl l.length 11 false (rows rulC l),sv nm,iv sh,.any,.any,.any,.any,.any,.any,.any,.any,.any,.any,.any,.any,.any,.any,.any,.any,.any,.any,.any,.any,.any,.any,.any,.any,.any,.any,.any,.any,.any,.any,.any,.any,.any,.any,.any,.any,.any,.any,.any,.any,.any,.any,.any,.any,.any,.any,.any,.any,.any,.any,.any,.any,.any,.any,.any,.any,.any,.any,.any,.any,.any,.any,.any,.any,.any,.any,.any,.any,.any,.any,.any,.any,.any,.any,.any,.any] _
 refine wr'<|mv' lkn pt<|mv' lki pt<|sn'<|wr'<|mv' lk pt<|mv' lk pt<|mv' lk pt<|Zad mp (ready_a hok hl) pt<|mv' lk pt<|Zar<|?_
 refine Zah<|wr'<|mv' lk pt<|V' (Za1 lk lki) pt<|sn'<|Zam<|?_
 refine cd' lk (fun hc1=>?_) (fun hc1=>?_)
 ·refine wr'<|mv' lk pt<|mv' lkn pt<|mv' lk pt<|sn'<|Zaa<|Zai<|?_
  refine ZhC ry ?_
  refine rtW' ?_
  rw [Zkr hc1];exact Wk.tup (wkw Wk.nilF (wk1 rfl wk0))
 refine Zae<|Zah<|wr'<|E' (Za6 (hl0 hn) ha0) pt<|Zar<|?_
 refine Za8 (ALe.own0Cell (st':=12) (ty:=144) (hga hn rfl) gt0 (hl1 hn) pt0 (Eq.trans (congrArg (fun z=>List.set z _ _) ha1) (hs0 hn))) ?_
 refine wr'<|mv' lk pt<|mv' lk pt<|Zad mp (turns_a) pt<|sn'<|Zae<|?_
 refine ZpX (T1:=timT N l nm sh .any) (ALe.same wA' rfl) rfl (hl2 hn) fun lp D rdy bsy fin vs hle hlT hY=>?_
 have hgo:=ZnO (D:=D) hn hlt (Decidable.of_not_not hc1) hY rfl
 rw [show (h++[Ent.mk 0 140 1 [.own (N+1) 0 0],Ent.mk 0 144 12 []]++[mkD D,Ent.raw lp rdy (timT N l nm sh .any) vs]:AH)=timH h D lp N rdy (timT N l nm sh .any) vs [] by simp [rows]]
 exact hgo
end Go.Proofs.YtlekejpogddndaaGreatDoor
end
section
namespace Go.Proofs.YtlekejpogddndaaGreatDoor
open Go.Ab
abbrev intC (n:Int):List AV:=[iv n]
theorem Zdz {n:Nat}(l:List Int):AV.ltL n (rows intC l)=true:=Zdj (fun _ _=>rfl) l
theorem ZdA : ∀ x,(intC x).length=1:=fun _=>rfl
theorem ZjO (l:List Int):(rows intC l).length=l.length*1:=ZaX ZdA l
end Go.Proofs.YtlekejpogddndaaGreatDoor
end
section
namespace Go.Proofs.YtlekejpogddndaaGreatDoor
open Go.Ab Go.RowKit Civ
attribute [local simp] Zbi Zbu Zbk Zbp ZdC Zdz
section
theorem Zrg {a0 a1 a2:AV}{l:List AV}:(a0::a1::a2::l).take 3=[a0,a1,a2]:=rfl
theorem ZoB {a0 a1 a2 a3 a4 a5 a6 a7 a8 a9:AV}{l:List AV}:(a0::a1::a2::a3::a4::a5::a6::a7::a8::a9::l).take 10=[a0,a1,a2,a3,a4,a5,a6,a7,a8,a9]:=rfl
theorem ZmA {a0 a1 a2 a3 a4 a5 a6 a7 a8 a9 c0 c1 c2 c3 c4 c5 c6 c7 c8 c9:AV}{l:List AV}:setCells (a0::a1::a2::a3::a4::a5::a6::a7::a8::a9::l) 0 [c0,c1,c2,c3,c4,c5,c6,c7,c8,c9]=c0::c1::c2::c3::c4::c5::c6::c7::c8::c9::l:=rfl
theorem ZoC {a0 a1 a2 a3 a4 a5 a6 a7:AV}{l:List AV}:((a0::a1::a2::a3::a4::a5::a6::a7::l).drop 5).take 3=[a5,a6,a7]:=rfl
theorem Zg0 {τ:Operand→AV}{y0:Operand}{x0_0:AV}(h0:Zav (τ y0)=some [x0_0]) (l0:[x0_0].all leaf=true):Zat τ [(0,1,y0)] [(.v (.int .i64 0))]=some [x0_0]:=by
 simp only [Zat,h0,l0]
 rfl
theorem Zlk {a0:AV}{l:List AV}:(a0::l).take 1=[a0]:=rfl
theorem ZoD {a0 a1:AV}{l:List AV}:((a0::a1::l).drop 0).take 2=[a0,a1]:=rfl
theorem ZoF {a0 c0:AV}{l:List AV}:setCells (a0::l) 0 [c0]=c0::l:=rfl
theorem ZgJ {a0 a1 a2:AV}{l:List AV}:((a0::a1::a2::l).drop 0).take 3=[a0,a1,a2]:=rfl
theorem Zkd {τ:Operand→AV}{y0 y1 y2:Operand}{x0_0 x1_0 x2_0:AV}(h0:Zav (τ y0)=some [x0_0]) (l0:[x0_0].all leaf=true) (h1:Zav (τ y1)=some [x1_0]) (l1:[x1_0].all leaf=true) (h2:Zav (τ y2)=some [x2_0]) (l2:[x2_0].all leaf=true):Zat τ [(0,1,y0),(1,1,y1),(2,1,y2)] [(.v (.int .i64 0)),(.v (.int .i64 0)),(.v (.string ⟨#[]⟩))]=some [x0_0,x1_0,x2_0]:=by
 simp only [Zat,h0,l0,h1,l1,h2,l2]
 rfl
theorem ZoE {a0 a1 a2 c0 c1 c2:AV}{l:List AV}:setCells (a0::a1::a2::l) 0 [c0,c1,c2]=c0::c1::c2::l:=rfl
end
def c280:AC:=(Sr [Oo 2 (.box 53 2 (.tmp 0)),Mb 3 false] (Sr [Fa 4 0 2,Ld 5 4,Ld 6 1,Bn 7 .eql 5 6,Mv 3 7] .ret))
theorem k280:ZaD Tryz.prog 280=some ⟨c280,[(.tmp 3)],8⟩:=by kernel_rfl
def c215:AC:=(Sr [Oo 2 (.box 26 3 (.tmp 0)),Oo 3 (.box 9 1 (.tmp 1)),Mc 4 0] (Sr [Fa 5 1 2,Ld 6 5,Oo 7 (.mkfn 280 [(.tmp 3)]),Cl 8 218 [(.tmp 6),(.tmp 7)],Mv 4 8] .ret))
theorem k215:ZaD Tryz.prog 215=some ⟨c215,[(.tmp 4)],9⟩:=by kernel_rfl
def c219:AC:=(Sr [Oo 2 (.box 129 2 (.tmp 0)),Mb 3 false] (Sr [Fa 4 1 2,Ld 5 4,Ld 6 1,Bn 7 .eql 5 6,Mv 3 7] .ret))
theorem k219:ZaD Tryz.prog 219=some ⟨c219,[(.tmp 3)],8⟩:=by kernel_rfl
def c139:AC:=(Sr [Oo 2 (.box 26 3 (.tmp 0)),Oo 3 (.box 9 1 (.tmp 1)),Mc 4 0] (Sr [Fa 6 2 2,Ld 7 6,Oo 8 (.mkfn 219 [(.tmp 3)]),Cl 9 171 [(.tmp 7),(.tmp 8)],Mv 5 9] (.seq (Sr [Mv 10 5,Bc 11 .geq 10 0] (Cd 11 (.reg [Fa 12 2 2,Ld 13 12,Mv 14 5,Oo 15 (.ia 2 (.tmp 13) (.tmp 14)),Fa 16 0 15,Ld 17 16,Sc 3 17]) .skip)) (Sr [Oo 18 (.load true 3 (.tmp 2)),Ld 19 3,Cl 20 215 [(.tmp 18),(.tmp 19)],Mv 4 20] .ret))))
theorem k139:ZaD Tryz.prog 139=some ⟨c139,[(.tmp 4)],21⟩:=by kernel_rfl
def c214:AC:=(Sr [Oo 2 (.box 129 2 (.tmp 0)),Mb 3 false] (Sr [Oo 4 (.load true 3 (.tmp 1)),Fa 5 0 2,Ld 6 5,Cl 7 215 [(.tmp 4),(.tmp 6)],Bc 8 .lss 7 0,Mv 3 8] .ret))
theorem k214:ZaD Tryz.prog 214=some ⟨c214,[(.tmp 3)],9⟩:=by kernel_rfl
def c216:AC:=(Sr [Oo 2 (.box 36 11 (.tmp 0)),Mb 3 false] (Sr [Fa 4 0 2,Ld 5 4,Fa 6 1 1,Ld 7 6,Bn 8 .eql 5 7,Mv 3 8] .ret))
theorem k216:ZaD Tryz.prog 216=some ⟨c216,[(.tmp 3)],9⟩:=by kernel_rfl
def c131:AC:=(Sr [Oo 1 (.box 53 2 (.tmp 0)),Oo 2 (.mv (.const (.slice none 0 0)))] (Sr [Oo 3 (.mv (.const (.slice none 0 0)))] (.seq (Sr [Fa 7 1 1,Ld 8 7,Oo 9 (.len false (.tmp 8)),Mc 10 0] (.block 0 (.loop (Sr [Bn 11 .lss 10 9] (.seq (Cd 11 .skip (.exit 0)) (.seq (.block 1 (Sr [Oo 12 (.ia 10 (.tmp 8) (.tmp 10)),Oo 13 (.load true 10 (.tmp 12)),Oo 5 (.new 63 10 [(iv 0),Ss,(iv 0),Ss,(.v (.bool false)),(iv 0),(iv 0),(iv 0),(iv 0),(iv 0)]),⟨none,none,(.store 10 (.tmp 5) (.tmp 13))⟩] (.seq (Sr [Fa 14 4 5,Ld 15 14] (Cd 15 (.exit 0) .skip)) (Sd [Fa 16 5 5,Fa 17 0 16,Oo 18 (.load true 3 (.tmp 17)),Cl 19 98 [(.tmp 18)],Bc 20 .mul 19 86400,Fa 21 5 5,Fa 22 3 21,Ld 23 22,Bn 24 .add 20 23,Mv 6 24] (.seq (Sr [Fa 25 5 5,Fa 26 4 25,Ld 27 26,Bc 28 .eql 27 2] (Cd 28 (.reg [Mv 29 6,Fa 30 0 5,Ld 31 30,Bn 32 .sub 29 31,Mv 6 32]) .skip)) (.reg [Mv 33 3,Mv 34 6,Oo 35 (.lit 3 1 1 [(iv 0)] [(0,(1,(.tmp 34)))]),Oo 36 (.app 3 1 8 (.tmp 33) (.tmp 35)),Mv 3 36])))))) (.reg [Bc 37 .add 10 1,Mv 10 37]))))))) (Sr [Mv 38 3,Mv 2 38] .ret))))
theorem k131:ZaD Tryz.prog 131=some ⟨c131,[(.tmp 2)],39⟩:=by kernel_rfl
def c138:AC:=(Sr [Mb 2 false] (.seq (Sr [Mc 3 1] (.block 0 (.loop (.seq (Sr [Mv 4 3,Mv 5 0,Oo 6 (.len false (.tmp 5)),Bn 7 .lss 4 6] (Cd 7 .skip (.exit 0))) (.seq (.block 1 (Sd [Mv 10 0,Mv 11 3,Oo 12 (.ia 1 (.tmp 10) (.tmp 11)),Ld 13 12,Mv 14 0,Mv 15 3,Bc 16 .sub 15 1,Oo 17 (.ia 1 (.tmp 14) (.tmp 16)),Ld 18 17,Bn 19 .leq 13 18] (Cd 19 (Sr [Mb 2 false] .ret) .skip))) (.reg [Mv 8 3,Bc 9 .add 8 1,Mv 3 9])))))) (Sr [Mb 2 true] .ret)))
theorem k138:ZaD Tryz.prog 138=some ⟨c138,[(.tmp 2)],20⟩:=by kernel_rfl
def c137:AC:=(Sr [Oo 1 (.box 53 2 (.tmp 0)),Mb 2 false] (Sr [Oo 3 (.load true 2 (.tmp 1)),Cl 4 131 [(.tmp 3)],Cl 5 138 [(.tmp 4)],Oo 6 (.un .not (.tmp 5)),Mv 2 6] .ret))
theorem k137:ZaD Tryz.prog 137=some ⟨c137,[(.tmp 2)],7⟩:=by kernel_rfl
def c135:AC:=(Sr [Oo 1 (.box 26 3 (.tmp 0)),Oo 2 (.mv (.const .nilFunc))] (Sr [Oo 3 (.mkfn 217 [(.tmp 1)]),Mv 2 3] .ret))
theorem k135:ZaD Tryz.prog 135=some ⟨c135,[(.tmp 2)],4⟩:=by kernel_rfl
def c281:AC:=(Sr [Ms 6] (Sr [Mv 11 0,Oo 12 (.call (.func 320) [(.tmp 11),(.const (.string ⟨#[47]⟩))]),Mv 10 12,Ex 13 10 0,Ex 14 10 1,Ex 15 10 2,Mv 7 13,Mv 8 14,Mv 9 15] (.seq (.block 0 (Sr [Mv 17 9,Oo 18 (.un .not (.tmp 17)),Mv 16 18] (Cd 16 (Sr [Mv 19 0,Mv 20 1,Oo 21 (.call (.func 321) [(.tmp 19),(.const (.string ⟨#[37,115]⟩)),(.tmp 20),(Ci 1)]),Mv 6 21] .ret) (Sr [Mv 23 2,Bc 24 .gtr 23 0,Mv 22 24] (Cd 22 (Sr [Mv 25 8,Mv 6 25] .ret) .skip))))) (Sr [Mv 26 7,Mv 6 26] .ret))))
theorem k281:ZaD Tryz.prog 281=some ⟨c281,[(.tmp 6)],27⟩:=by kernel_rfl
def c220:AC:=(Sr [Oo 2 (.box 63 10 (.tmp 0)),Oo 3 (.box 136 3 (.tmp 1)),Oo 4 (.new 29 3 [(iv 0),(iv 0),Ss])] (.seq (.drw [Fa 5 0 2,Ld 6 5,Fa 7 1 3,Ld 8 7,Bn 9 .add 6 8,Fa 10 1 3,Ld 11 10,Fa 12 3 2,Ld 13 12,Fa 14 2 3,Ld 15 14,Fa 16 1 3,Ld 17 16,Cl 18 281 [(.tmp 13),(.tmp 15),(.tmp 17)],Oo 19 (.build [(iv 0),(iv 0),Ss] [(0,(1,(.tmp 9))),(1,(1,(.tmp 11))),(2,(1,(.tmp 18)))])] [false] [⟨none,none,(.store 3 (.tmp 4) (.tmp 19))⟩]) .ret))
theorem k220:ZaD Tryz.prog 220=some ⟨c220,[(.cell 4 true 3)],20⟩:=by kernel_rfl
def c222:AC:=(Sr [Oo 2 (.box 121 4 (.tmp 0)),Mb 3 false] (Sr [Fa 4 0 2,Ld 5 4,Ld 6 1,Bn 7 .geq 5 6,Mv 3 7] .ret))
theorem k222:ZaD Tryz.prog 222=some ⟨c222,[(.tmp 3)],8⟩:=by kernel_rfl
def c143:AC:=(Sr [Oo 3 (.box 3 1 (.tmp 1)),Oo 4 (.mv (.const (.slice none 0 0)))] (Sr [Mv 6 0,Oo 7 (.mkfn 222 [(.tmp 3)]),Cl 8 221 [(.tmp 6),(.tmp 7)],Mv 5 8] (.seq (Sr [Mv 9 5,Bc 10 .lss 9 0] (Cd 10 (Sr [Mv 11 0,Mv 4 11] .ret) .skip)) (Sr [Mv 12 0,Mv 13 5,Oo 14 (.slc 4 (.tmp 12) none (some (.tmp 13)) none),Mv 4 14] .ret))))
theorem k143:ZaD Tryz.prog 143=some ⟨c143,[(.tmp 4)],15⟩:=by kernel_rfl
theorem place1_a {nm:ByteArray}{z:Zon}{h:AH}:Ac 280 [.agg (zonC z),.rp [sv nm]] h (bv (decide (z.1=nm))):=by
 refine tI' k280 fun N hn hlt hlA hbd=>?_
 simp only [tb'] at hbd ⊢
 refine wr'<|E' (Zbj (cvl lk rfl) rfl (hl0 hn) ha0) pt<|mv' lkb pt<|sn'<|wr'<|V' (Zac lk) pt<|V' (Zab lk (hga hn rfl) gt0) pt<|V' (ZaB lk gt) pt<|V' (Zcj lk lk) pt<|mv' lk pt<|Zar<|?_
 exact Zah<|Zaa<|Zaf rz<|rT' rfl
def ZhD (zs:List Zon) (nm:ByteArray):Int:=idxV (fun z:Zon=>decide (z.1=nm)) zs
theorem ZlR {a:List Rul}{z:List Zon}{k:List Lnk}{nm:ByteArray}{h:AH}(hz:z.length≤9223372036854775807):Ac 215 [.agg [.sl a.length 11 false (rows rulC a),.sl z.length 2 false (rows zonC z),.sl k.length 2 false (rows lnkC k)],sv nm] h (iv (ZhD z nm)):=by
 refine tI' k215 fun N hn hlt hlA hbd=>?_
 simp only [tb'] at hbd ⊢
 refine wr'<|E' (Zbj (cvl lk rfl) rfl (hl0 hn) ha0) pt<|E' (Zbj (cvl lk rfl) rfl (hl1 hn) ha1) pt<|mv' lki pt<|Zar<|?_
 refine Za8 (ALe.icePtr (hga hn rfl) gt3 (by simp) pt3 (hs1 hn)) ?_
 refine wr'<|V' (Zac lk) pt<|V' (Zab lk (hga hn rfl) gt1) pt<|V' (ZgP mp) pt<|?_
 refine Zad mp (ixZonC_a (p:=fun z=>decide (z.1=nm)) (fun c _ _=>place1_a) hz) pt ?_
 exact mv' lk pt<|sn'<|Zaa<|Zaf rz<|rT' rfl
theorem miss1_a {a:List Rul}{z:List Zon}{k:List Lnk}{l:Lnk}{h:AH}(hz:z.length≤9223372036854775807):Ac 214 [.agg (lnkC l),.rp [.sl a.length 11 false (rows rulC a),.sl z.length 2 false (rows zonC z),.sl k.length 2 false (rows lnkC k)]] h (bv (decide (ZhD z l.1<0))):=by
 refine tI' k214 fun N hn hlt hlA hbd=>?_
 simp only [tb'] at hbd ⊢
 refine wr'<|E' (Zbj (cvl lk rfl) rfl (hl0 hn) ha0) pt<|mv' lkb pt<|sn'<|wr'<|V' (ZaK lk Zrg rfl) pt<|V' (Zac lk) pt<|V' (Zab lk (hga hn rfl) gt0) pt<|Zad mp (ZlR hz) pt<|V' (Zba lk lki) pt<|mv' lk pt<|?_
 exact sn'<|Zaa<|Zaf rz<|rT' rfl
theorem Zmb {x:Era}{last:Bool}(h:eraX x last=0):(xRl x≠⟨#[]⟩→Zck (xRl x)=true)∧ZbS (xFm x)=true∧(-64800≤xSh x∧xSh x≤64800)∧(0≤xSv x∧xSv x≤10800)∧(xRl x≠⟨#[]⟩→xSv x=0)∧xOp x=last ∧
  (xOp x=false→Za9 x.2.2.2.2.2.1.1 x.2.2.2.2.2.1.2.1 x.2.2.2.2.2.1.2.2=true∧0≤x.2.2.2.2.2.2.1∧x.2.2.2.2.2.2.1≤172800):=by
 unfold eraX eraE at h
 split at h
 ·cases h
 rename_i h1
 split at h
 ·cases h
 rename_i h2
 split at h
 ·cases h
 rename_i h3
 split at h
 ·cases h
 rename_i h4
 have p1:xRl x≠⟨#[]⟩→Zck (xRl x)=true:=fun hn=>Decidable.of_not_not fun e=>h1 (.inl ⟨hn,e⟩)
 have p2:ZbS (xFm x)=true:=Decidable.of_not_not fun e=>h1 (.inr e)
 have p3:=Zbs.1 (Decidable.of_not_not fun e=>h2 (.inl e))
 have p4:=Zbs.1 (Decidable.of_not_not fun e=>h2 (.inr e))
 have p5:xRl x≠⟨#[]⟩→xSv x=0:=fun hn=>Decidable.of_not_not fun e=>h3 ⟨hn,e⟩
 refine ⟨p1,p2,p3,p4,p5,Decidable.of_not_not h4,fun ho=>?_⟩
 rw [if_neg (by rw [show x.2.2.2.2.1=false from ho];simp)] at h
 split at h
 ·cases h
 rename_i h5
 split at h
 ·cases h
 rename_i h6
 exact ⟨Decidable.of_not_not h5,Zbs.1 (Decidable.of_not_not h6)⟩
theorem Zk3 : ∀ {l:List Era},ZfP l=0 → ∀ k (h:k<l.length),eraX l[k] (decide (k+1=l.length))=0
 | [],_,k,h=>by simp at h
 | x::l,he,k,h=>by
  rw [ZfP] at he
  split at he
  ·rename_i h1;exact absurd he h1
  rename_i h1
  cases k with
  | zero =>
   have h2:=Decidable.of_not_not h1
   have e:l.isEmpty=decide (0+1=(x::l).length):=by rw [Bool.eq_iff_iff,List.isEmpty_iff,decide_eq_true_iff,List.length_cons];cases l <;> simp
   rw [←e];exact h2
  | succ k =>
   have:=Zk3 he k (by simpa using h)
   simpa using this
structure okZ (es:List Era):Prop where
 ne:es≠[]
 fm : ∀ x∈es,ZbS (xFm x)=true∧(-64800≤xSh x∧xSh x≤64800)∧(0≤xSv x∧xSv x≤10800)∧(xRl x≠⟨#[]⟩→xSv x=0)
 op : ∀ k (h:k<es.length),xOp es[k]=decide (k+1=es.length)
 un : ∀ k (h:k<es.length),k+1<es.length→Za9 es[k].2.2.2.2.2.1.1 es[k].2.2.2.2.2.1.2.1 es[k].2.2.2.2.2.1.2.2=true∧0≤es[k].2.2.2.2.2.2.1∧es[k].2.2.2.2.2.2.1≤172800
 len:es.length≤8
theorem okZ_of {z:Zon}(h:Zeu z=0) (hl:z.2.length≤8):okZ z.2:=by
 unfold Zeu at h
 split at h
 ·cases h
 rename_i h1
 have hne:z.2≠[]:=fun e=>h1 (.inr (by rw [e];rfl))
 have hg:=Zk3 h
 refine ⟨hne,fun x hx=>?_,fun k hk=>(Zmb (hg k hk)).2.2.2.2.2.1,fun k hk hk2=>?_,hl⟩
 ·obtain ⟨k,hk,rfl⟩:=List.getElem_of_mem hx
  obtain ⟨_,q2,q3,q4,q5,_⟩:=Zmb (hg k hk)
  exact ⟨q2,q3,q4,q5⟩
 obtain ⟨_,_,_,_,_,q6,q7⟩:=Zmb (hg k hk)
 exact q7 (by rw [q6];simp;omega)
theorem endV_bd {x:Era}(h1:Za9 x.2.2.2.2.2.1.1 x.2.2.2.2.2.1.2.1 x.2.2.2.2.2.1.2.2=true) (h2:0≤x.2.2.2.2.2.2.1∧x.2.2.2.2.2.2.1≤172800) (h3 : -64800≤xSh x∧xSh x≤64800) : -100000000000≤endV x∧endV x≤300000000000:=by
 have:=Zna h1
 unfold endV
 split <;> omega
theorem ZjZ {α:Type}{l:List α}{k:Nat}(h:k+1<l.length):l.dropLast.take (k+1)=l.dropLast.take k++[l[k]]:=by
 have hk:k<l.dropLast.length:=by simp;omega
 rw [List.take_succ_eq_append_getElem hk]
 congr 2
 simp
theorem Zk4 {es:List Era}{k:Nat}(h:k+1<es.length):(ZbY es).take (k+1)=(ZbY es).take k++[endV es[k]]:=by
 unfold ZbY
 rw [←List.map_take,←List.map_take,ZjZ h,List.map_append,List.map_cons,List.map_nil]
theorem ZqK {nm:ByteArray}{es:List Era}{h:AH}(hz:okZ es):Ac 131 [.agg [sv nm,.sl es.length 10 false (rows eraC es)]] h (.sl (ZbY es).length 1 false (rows intC (ZbY es))):=by
 have hlen:=hz.len
 have hne:=List.length_pos_iff.2 hz.ne
 have hel:=ZjX es
 refine tW' k131 fun N hn hlt hlA hbd=>?_
 simp only [tb'] at hbd ⊢
 refine wr'<|E' (Zbj (cvl lk0 rfl) rfl (hl0 hn) ha0) pt1<|mv' lkn pt2<|sn'<|wr'<|mv' lkn pt3<|Zar<|Za8 (ALe.own0' (st':=1) (ty:=3) gt3 (hl1 hn) pt3 ha1)<|Zam<|wr'<|?_
 refine V' (Zac lk) pt<|V' (Zab lk (hga hn rfl) gt1) pt<|V' (ZaP lk) pt<|mv' lki pt<|sn'<|Zao<|?_
 refine w_lp (ι:=Nat) (fun (k:Nat)=>[(3,.own (N+1) k k),(10,iv (k:Int)),(5,.any),(6,.any)]++rn' 11 27) (fun (k:Nat)=>[(1,.mk k 3 1 (rows intC ((ZbY es).take k)))]) (fun (k:Nat)=>k<es.length) (fun (k:Nat)=>es.length-k) (0) (by exact hne) ?_
 rintro k hi1
 try simp only [sm',Nat.reduceAdd]
 replace hi1:k<es.length:=hi1
 refine wr'<|V' (Zba lk lk) pt<|sn'<|Zam<|?_
 refine ZdE lk (by exact decide_eq_true (by omega)) ?_
 refine Zae<|Zah<|Zam<|Zao<|wr'<|?_
 refine V' (ZaY lk lk ZdB (nb' rfl) ro (by omega) ro rfl) pt ?_
 refine V' (ZaK lk ZoB rfl) pt<|E' (Za6 (hl2 hn) ha2) pt<|E' (Zal lk (cvl lk rfl) (hga hn rfl) rfl (nb' rfl) rfl ZmA (hs2 hn)) ptn<|sn'<|Zam<|wr'<|V' (Zac lk) pt<|V' (Zab lk (hga hn rfl) gt4) pt<|sn'<|?_
 have hop:=hz.op k hi1
 have htl:((ZbY es).take k).length=k:=by rw [List.length_take,hel];omega
 refine cd' lk (fun hc2=>?_) (fun hc2=>?_)
 ·rw [show es[k].2.2.2.2.1=decide (k+1=es.length) from hop] at hc2
  have hke:k+1=es.length:=of_decide_eq_true hc2
  refine ZaO<|ZaF<|x_pas (Nat.ne_of_beq_eq_false rfl)<|ZaF<|ZaF<|Za7<|?_
  refine Za8 (ALe.iceR (hga hn rfl) gt3 (List.take_of_length_le (by rw [ZjO,htl];omega)) (by rw [ZjO,htl];omega) pt3 (hs1 hn)) ?_
  refine wr'<|mv' lk pt<|mv' lk pt<|sn'<|Zaa<|Zaf rz<|rtW'<|?_
  rw [show k=(ZbY es).length by omega,List.take_length];exact Wk.full
 rw [show es[k].2.2.2.2.1=decide (k+1=es.length) from hop] at hc2
 have hke:k+1<es.length:=by have:=of_decide_eq_false hc2;omega
 obtain ⟨hd,ha1,ha2⟩:=hz.un k hi1 hke
 have hsh : -64800≤es[k].1∧es[k].1≤64800:=(hz.fm _ (List.getElem_mem hi1)).2.1
 have hnb:=Zna hd
 have hdi:=Zcg.1 hd
 have hml:=ZdJ es[k].2.2.2.2.2.1.1 es[k].2.2.2.2.2.1.2.1
 refine Zae<|Zah<|Zam<|ZcE<|D' (Zac lk) pt<|D' (ZbE lk) pt<|D' (Zaq lk (hga hn rfl) ZoC rfl) pt<|?_
 refine Zbf mp (fun hE hX=>Zhe (by omega) (by omega) (by omega) (by omega) (by omega) (by omega)) pt ?_
 refine D' (Ze9 lk lki (by omega) (by omega)) pt ?_
 refine D' (Zac lk) pt<|D' (ZbE lk) pt<|D' (Zab lk (hga hn rfl) gt8) pt<|?_
 refine D' (Zay lk lk (by omega) (by omega)) pt ?_
 refine D' (v_mv lk) pt<|Zb6<|?_
 refine Zcy ?_
 refine sn'<|Zam<|wr'<|V' (Zac lk) pt<|V' (ZbE lk) pt<|V' (Zab lk (hga hn rfl) gt9) pt<|V' (ZaT lk lki) pt<|sn'<|?_
 refine cd' lk (fun hc3=>?_) (fun hc3=>?_)
 ·have hev:endV es[k]=num es[k].2.2.2.2.2.1.1 es[k].2.2.2.2.2.1.2.1 es[k].2.2.2.2.2.1.2.2*86400+es[k].2.2.2.2.2.2.1-es[k].1:=by unfold endV;rw [if_pos hc3]
  refine Zas<|mv' lk pt<|V' (Zac lk) pt<|V' (Zab lk (hga hn rfl) gt0) pt<|?_
  refine V' (ZbD lk lk (by omega) (by omega)) pt ?_
  refine mv' lk pt<|sn'<|Zas<|mv' lk pt<|mv' lk pt<|E' (Zc5 (Zg0 (cvl lk rfl) rfl) (hl3 hn) ha3) pt<|?_
  refine E' (ZcD (Zct lk (hga hn rfl) rfl Zlk (nb' rfl)) lk (hga hn rfl) ((ZjO _).trans (by rw [htl])) (by omega) rfl (hs1 hn)) pt ?_
  refine mv' lk pt<|Zar<|Zaz<|Zah<|Zas<|?_
  refine V' (Zay lk lki (by omega) (by omega)) pt ?_
  refine mv' lk pt<|Zar<|ZaA<|?_
  refine lU' (k+1) (by (try dsimp only);omega) (by (try dsimp only);(try simp only [sm',Nat.reduceAdd]);exact bk' 2 hn hlt (by rw [Zk4 hke,hev,ZaS,Zbx];rfl))
 have hev:endV es[k]=num es[k].2.2.2.2.2.1.1 es[k].2.2.2.2.2.1.2.1 es[k].2.2.2.2.2.1.2.2*86400+es[k].2.2.2.2.2.2.1:=by unfold endV;rw [if_neg hc3,Int.sub_zero]
 refine Zae<|Zah<|Zas<|mv' lk pt<|mv' lk pt<|E' (Zc5 (Zg0 (cvl lk rfl) rfl) (hl3 hn) ha3) pt<|?_
 refine E' (ZcD (Zct lk (hga hn rfl) rfl Zlk (nb' rfl)) lk (hga hn rfl) ((ZjO _).trans (by rw [htl])) (by omega) rfl (hs1 hn)) pt ?_
 refine mv' lk pt<|Zar<|Zaz<|Zah<|Zas<|?_
 refine V' (Zay lk lki (by omega) (by omega)) pt ?_
 refine mv' lk pt<|Zar<|ZaA<|?_
 refine lU' (k+1) (by (try dsimp only);omega) (by (try dsimp only);(try simp only [sm',Nat.reduceAdd]);exact bk' 2 hn hlt (by rw [Zk4 hke,hev,ZaS,Zbx];rfl))
theorem rising_a {l:List Int}{full:Bool}{h:AH}(hl:l.length≤9223372036854775807):Ac 138 [.sl l.length 1 full (rows intC l)] h (bv (risL l)):=by
 refine tI' k138 fun N hn hlt hlA hbd=>?_
 simp only [tb'] at hbd ⊢
 refine wr'<|mv' lkb pt<|sn'<|Zam<|wr'<|mv' lki pt<|sn'<|Zao<|?_
 refine w_lp (ι:=Nat) (fun (k:Nat)=>[(3,iv ((k:Int)+1)),(2,.any)]++rn' 4 16) (fun (k:Nat)=>[]) (fun (k:Nat)=>(k+1≤l.length∨k=0) ∧ ∀ i (h:i+1<l.length),i<k→l[i]<l[i+1]) (fun (k:Nat)=>l.length-k) (0) (by exact ⟨.inr rfl,fun i _ h=>by omega⟩) ?_
 rintro k hi1
 try simp only [sm',Nat.reduceAdd]
 obtain ⟨hk1,hk2⟩:=hi1
 refine Zam<|wr'<|mv' lk pt<|mv' lk pt<|V' (ZaP lk) pt<|V' (Zba lk lk) pt<|sn'<|?_
 refine cd' lk (fun hc1=>?_) (fun hc1=>?_)
 ·have hk:k+1<l.length:=by omega
  refine Zae<|Zah<|Zam<|Zao<|Zam<|ZcE<|D' (v_mv lk) pt<|D' (v_mv lk) pt<|?_
  refine D' (ZaY (k:=k+1) lk lk ZdA (nb' rfl) ro (by omega) ro rfl) pt ?_
  refine D' (ZaB lk gt) pt<|D' (v_mv lk) pt<|D' (v_mv lk) pt<|?_
  refine D' (ZbD lk lki (by omega) (by omega)) pt ?_
  refine D' (ZaY (k:=k) lk lk ZdA (nb' rfl) ro (by omega) ro rfl) pt ?_
  refine D' (ZaB lk gt) pt<|D' (Zdq lk lk) pt<|Zb6<|?_
  refine Zcy ?_
  refine sn' ?_
  refine cd' lk (fun hc2=>?_) (fun hc2=>?_)
  ·have hR:risL l=false:=ZnY hk (by omega)
   refine wr'<|mv' lkb pt<|sn'<|Zaa<|Zap<|Zai<|Zai<|Zap<|Zai<|Zaf rz<|rT'<|?_
   rw [hR]
  refine Zae<|Zaz<|Zah<|Zas<|mv' lk pt<|?_
  refine V' (Zay lk lki (by omega) (by omega)) pt ?_
  refine mv' lk pt<|Zar<|ZaA<|?_
  refine lU' (k+1) (by (try dsimp only);exact ⟨by omega,fun i hi h=>by by_cases e:i=k;(subst e;omega);exact hk2 i hi (by omega)⟩) (by (try dsimp only);(try simp only [sm',Nat.reduceAdd]);exact ALe.same (by repeat (first | exact wk0 | refine wka ?_ | refine wk1 rfl ?_ | refine wk1 (by first | rfl | exact ivx (by omega)) ?_)) rfl)
 refine ZaO<|ZaF<|ZaF<|Za7<|Zah<|wr'<|mv' lkb pt<|sn'<|Zaa<|Zaf rz<|rT'<|?_
 exact bvx (ZkD fun i hi=>hk2 i hi (by omega)).symm
theorem check1_a {z:Zon}{h:AH}(hz:okZ z.2):Ac 137 [.agg (zonC z)] h (bv (!risL (ZbY z.2))):=by
 obtain ⟨nm,es⟩:=z
 have hel:(ZbY es).length=es.length-1:=ZjX es
 have hlen:es.length≤8:=hz.len
 refine tI' k137 fun N hn hlt hlA hbd=>?_
 simp only [tb'] at hbd ⊢
 refine wr'<|E' (Zbj (cvl lk rfl) rfl (hl0 hn) ha0) pt<|mv' lkb pt<|sn'<|wr'<|V' (Zaq lk (hga hn rfl) ZoD rfl) pt<|Zad mp (ZqK hz) pt<|?_
 refine Zad mp (rising_a (show (ZbY es).length≤9223372036854775807 by omega)) pt ?_
 exact V' (Zaw lk) pt<|mv' lk pt<|sn'<|Zaa<|Zaf rz<|rT' rfl
theorem eras_a {a:List Rul}{z:List Zon}{k:List Lnk}{h:AH}:Ac 135 [.agg [.sl a.length 11 false (rows rulC a),.sl z.length 2 false (rows zonC z),.sl k.length 2 false (rows lnkC k)]] h (.clo (.func 217) [.rp [.sl a.length 11 false (rows rulC a),.sl z.length 2 false (rows zonC z),.sl k.length 2 false (rows lnkC k)]]):=by
 refine tI' k135 fun N hn hlt hlA hbd=>?_
 simp only [tb'] at hbd ⊢
 refine wr'<|E' (Zbj (cvl lk rfl) rfl (hl0 hn) ha0) pt<|mv' rfl pt<|Zar<|?_
 refine Za8 (ALe.icePtr (hga hn rfl) gt1 (by simp) pt1 (hs0 hn)) ?_
 exact wr'<|V' (ZgP mp) pt<|mv' lk pt<|sn'<|Zaa<|Zaf rz<|rT' rfl
theorem look1p_a {nm:ByteArray}{l:Lnk}{id:Nat}{h:AH}(he:h[id]?=some (.mk 0 9 1 [sv nm])):Ac 219 [.agg (lnkC l),.ptr id 0 0] h (bv (decide (l.2=nm))):=by
 refine tI' k219 fun N hn hlt hlA hbd=>?_
 simp only [tb'] at hbd ⊢
 refine wr'<|E' (Zbj (cvl lk rfl) rfl (hl0 hn) ha0) pt<|mv' lkb pt<|sn'<|wr'<|V' (Zac lk) pt<|V' (Zab lk (hga hn rfl) gt1) pt<|V' (Zab lk (Znn he) gt0) pt<|V' (Zcj lk lk) pt<|mv' lk pt<|Zar<|?_
 exact Zah<|Zaa<|Zaf rz<|rT' rfl
def Zn6 (s:Src) (nm:ByteArray):Int:=ZhD s.2.1 (match s.2.2[s.2.2.findIdx fun l=>decide (l.2=nm)]? with
 | some l=>l.1
 | none=>nm)
theorem look_a {a:List Rul}{z:List Zon}{k:List Lnk}{nm:ByteArray}{h:AH}(hz:z.length≤9223372036854775807) (hk:k.length≤9223372036854775807):Ac 139 [.agg [.sl a.length 11 false (rows rulC a),.sl z.length 2 false (rows zonC z),.sl k.length 2 false (rows lnkC k)],sv nm] h (iv (Zn6 (a,z,k) nm)):=by
 have hkk:=hk
 refine tI' k139 fun N hn hlt hlA hbd=>?_
 simp only [tb'] at hbd ⊢
 refine wr'<|E' (Zbj (cvl lk rfl) rfl (hl0 hn) ha0) pt<|E' (Zbj (cvl lk rfl) rfl (hl1 hn) ha1) pt<|mv' lki pt<|sn'<|wr'<|V' (Zac lk) pt<|V' (Zab lk (hga hn rfl) gt2) pt<|V' (ZgP mp) pt<|?_
 refine Zad mp (Znk (p:=fun l:Lnk=>decide (l.2=nm)) (fun c _ E=>look1p_a (Znn (hga hn rfl))) hkk) pt ?_
 refine mv' lk pt<|sn'<|Zam<|wr'<|mv' lk pt<|V' (Zfg lk lki) pt<|sn'<|?_
 refine cd' lk (fun hc1=>?_) (fun hc1=>?_)
 ·have hlt':k.findIdx (fun l:Lnk=>decide (l.2=nm))<k.length:=by unfold idxV at hc1;split at hc1;assumption;omega
  have hix:idxV (fun l:Lnk=>decide (l.2=nm)) k=((k.findIdx fun l:Lnk=>decide (l.2=nm):Nat):Int):=if_pos hlt'
  refine Zas<|V' (Zac lk) pt<|V' (Zab lk (hga hn rfl) gt2) pt<|mv' lk pt<|?_
  refine V' (ZaY (k:=k.findIdx fun l:Lnk=>decide (l.2=nm)) lk lk ZcT (nb' rfl) ro (by omega) ro rfl) pt ?_
  refine V' (Zbz lk dp0) pt<|V' (ZaB lk gt) pt<|E' (Zal lk (cvl lk rfl) (hga hn rfl) rfl (nb' rfl) rfl ZoF (hs1 hn)) ptn<|sn'<|wr'<|V' (Zaq lk (hga hn rfl) ZgJ rfl) pt<|V' (Zab lk (hga hn rfl) gt0) pt<|Zad mp (ZlR hz) pt<|mv' lk pt<|sn'<|Zaa<|?_
  refine Zaf rz<|rT'<|?_
  refine ivx ?_;unfold Zn6;rw [show (a,z,k).2.2[(a,z,k).2.2.findIdx fun l=>decide (l.2=nm)]?=some k[k.findIdx fun l:Lnk=>decide (l.2=nm)] from List.getElem?_eq_getElem hlt']
 have hlt':¬k.findIdx (fun l:Lnk=>decide (l.2=nm))<k.length:=fun h=>hc1 (by unfold idxV;rw [if_pos h];omega)
 refine Zae<|Zah<|wr'<|V' (Zaq lk (hga hn rfl) ZgJ rfl) pt<|V' (Zab lk (hga hn rfl) gt0) pt<|Zad mp (ZlR hz) pt<|mv' lk pt<|sn'<|Zaa<|Zaf rz<|rT'<|?_
 refine ivx ?_;unfold Zn6;rw [show (a,z,k).2.2[(a,z,k).2.2.findIdx fun l=>decide (l.2=nm)]?=none from List.getElem?_eq_none (Nat.le_of_not_lt hlt')]
theorem repl_one {s lt:Bs}:Lib.replace s [37,115] lt 1=if (Lib.cut s [37,115]).2.2=true then (Lib.cut s [37,115]).1++lt++(Lib.cut s [37,115]).2.1 else s:=by
 have hge:=Lib.index_ge s [37,115]
 unfold Lib.cut
 by_cases h0:0≤Lib.index s [37,115]
 ·rw [if_pos h0]
  obtain ⟨i,hi⟩ : ∃ i:Nat,Lib.index s [37,115]=i:=⟨(Lib.index s [37,115]).toNat,by omega⟩
  simp only [if_true,hi,Int.toNat_natCast,List.length_cons,List.length_nil]
  unfold Lib.replace
  split
  ·rename_i e
   have e:[37,115]=lt:=by simpa using e
   subst e
   rcases Lib.index_spec s [37,115] with ⟨h1,_⟩ | ⟨j,h1,h2,h3,_⟩
   ·omega
   obtain rfl:i=j:=by omega
   have h4:[37,115] <+: s.drop i:=by simpa [Lib.occAt] using h3
   obtain ⟨t,ht⟩:=h4
   have e2:s.drop (i+2)=t:=by rw [←List.drop_drop,←ht];rfl
   rw [e2,List.append_assoc,ht,List.take_append_drop]
  have hc:0<Lib.count s [37,115]:=by rw [Lib.count_hit (by simp) hi];omega
  unfold Lib.replaceNum
  rw [if_neg (by omega)]
  rw [show (1:Int).toNat=0+1 from rfl,Lib.replaceK_hit _ _ _ _ _ hi]
  rfl
 rw [if_neg h0]
 simp only [Bool.false_eq_true,if_false]
 unfold Lib.replace
 split
 ·rfl
 have hm:Lib.index s [37,115] = -1:=by omega
 unfold Lib.replaceNum
 rw [if_pos (.inr (by rw [Lib.count_miss hm];simp)),Lib.count_miss hm];rfl
theorem ZpN {s lt:ByteArray}{h:AH}(h1:s.size≤24) (h2:lt.size≤24):Ac 321 [sv s,sv (bA [37,115]),sv lt,iv 1] h (sv (if (cutL s [37,115]).2.2=true then bA ((cutL s [37,115]).1++aB lt++(cutL s [37,115]).2.1) else s)):=by
 refine ACalls.of_below (by kernel_rfl) fun w g vs hs ha=>?_
 simp only [RepL,Rep] at ha
 obtain ⟨u1,us1,e1,rfl,u2,us2,rfl,rfl,u3,us3,rfl,rfl,u4,us4,rfl,rfl,rfl⟩:=ha
 obtain rfl:vs = #[.string s,.string (bA [37,115]),.string lt,.int .i64 1]:=by cases vs;simp_all
 obtain ⟨m,hm⟩:=hs.glob.w.maxLen
 have hc:=Lib.countB_le (bA [37,115]) (by decide) s.size s (Nat.le_refl _)
 have hc2:Lib.countB s (bA [37,115])*lt.size≤24*24:=Nat.mul_le_mul (by omega) h2
 refine (Tryz.strings_Replace s (bA [37,115]) lt 1 m w (by omega) hm (by decide) (by omega)).mono ?_
 rintro e w' ⟨rfl,hb⟩
 refine ⟨_,rfl,hb,?_⟩
 simp only [Rep]
 have:=repl_one (s:=aB s) (lt:=aB lt)
 show Value.string (bA (Lib.replace (aB s) [37,115] (aB lt) 1))=_
 rw [this]
 unfold cutL
 split <;> rfl
theorem named_a {fm lt:ByteArray}{sa:Int}{h:AH}(h1:fm.size≤24) (h2:lt.size≤24):Ac 281 [sv fm,sv lt,iv sa] h (sv (Zp9 fm lt sa)):=by
 refine tI' k281 fun N hn hlt hlA hbd=>?_
 simp only [tb'] at hbd ⊢
 refine wr'<|mv' lks pt<|sn'<|wr'<|mv' lk pt<|Zad mp (cut1_a h1) pt<|mv' lk pt<|V' (Za3 lk gt) pt<|V' (Za3 lk gt) pt<|V' (Za3 lk gt) pt<|mv' lk pt<|?_
 refine mv' lk pt<|mv' lk pt<|sn'<|Zam<|Zao<|wr'<|mv' lk pt<|V' (Zaw lk) pt<|mv' lk pt<|sn'<|?_
 refine Zau lk (fun hc1=>?_) (fun hc1=>?_)
 ·refine wr'<|mv' lk pt<|mv' lk pt<|Zad mp (ZpN h1 h2) pt<|mv' lk pt<|sn'<|Zaa<|Zap<|Zai<|Zaf rz<|rT'<|?_
  unfold Zp9;exact congrArg (fun z=>sv z) (if_neg (by have:=hc1;rw [Bool.not_eq_true'] at this;rw [this];simp)).symm
 refine wr'<|mv' lk pt<|V' (ZbV lk lki) pt<|mv' lk pt<|sn'<|?_
 refine cd' lk (fun hc2=>?_) (fun hc2=>?_)
 ·refine wr'<|mv' lk pt<|mv' lk pt<|sn'<|Zaa<|Zap<|Zai<|Zaf rz<|rT'<|?_
  unfold Zp9;rw [if_pos (by have:=hc1;rwa [Bool.not_eq_false'] at this),if_pos hc2]
 refine Zae<|Zaz<|Zah<|wr'<|mv' lk pt<|mv' lk pt<|sn'<|Zaa<|Zaf rz<|rT'<|?_
 unfold Zp9;rw [if_pos (by have:=hc1;rwa [Bool.not_eq_false'] at this),if_neg hc2]
theorem ZlW {x:Era}{t:Tim}{h:AH}(h1:(xFm x).size≤24) (h2:t.2.2.size≤24) (h3 : -64800≤xSh x∧xSh x≤64800) (h4:0≤t.2.1∧t.2.1≤10800):ACalls Tryz.prog 220 [.agg (eraC x),.agg (timC t)] h fun y h'=>h'=h∧y=.ret (.agg [iv (locV x t.2.1 t.2.2).1,iv (locV x t.2.1 t.2.2).2.1,sv (locV x t.2.1 t.2.2).2.2]):=by
 obtain ⟨sh,rl,sa,fm,op,⟨⟨y,m,d⟩,a,c⟩⟩:=x
 obtain ⟨at_,sv_,lt⟩:=t
 simp only [xFm,xSh] at h1 h3
 simp only at h2 h4
 show ACalls _ _ [.agg [iv sh,sv rl,iv sa,sv fm,bv op,iv y,iv m,iv d,iv a,iv c],.agg [iv at_,iv sv_,sv lt]] h _
 refine tI' k220 fun N hn hlt hlA hbd=>?_
 simp only [tb'] at hbd ⊢
 refine wr'<|E' (Zbj (cvl lk rfl) rfl (hl0 hn) ha0) pt<|E' (Zbj (cvl lk rfl) rfl (hl1 hn) ha1) pt<|E' (Za6 (hl2 hn) ha2) pt<|sn'<|Zam<|ZcE<|D' (Zac lk) pt<|D' (Zab lk (hga hn rfl) gt0) pt<|D' (Zac lk) pt<|D' (Zab lk (hga hn rfl) gt1) pt<|?_
 refine D' (Zay lk lk (by omega) (by omega)) pt ?_
 refine D' (Zac lk) pt<|D' (Zab lk (hga hn rfl) gt1) pt<|D' (Zac lk) pt<|D' (Zab lk (hga hn rfl) gt3) pt<|D' (Zac lk) pt<|D' (Zab lk (hga hn rfl) gt2) pt<|D' (Zac lk) pt<|D' (Zab lk (hga hn rfl) gt1) pt<|?_
 refine Zbf mp (fun hE hX=>named_a h1 h2) pt ?_
 refine D' (Zax (Zkd (cvl lk rfl) rfl (cvl lk rfl) rfl (cvl lk rfl) rfl)) pt<|Zb6<|?_
 refine Zcy ?_
 exact E' (Zal lk (cvl lk rfl) (hga hn rfl) rfl (nb' rfl) rfl ZoE (hs2 hn)) ptn<|sn'<|Zaa<|Zaf (rs1 (rr_c gt (hga hn rfl) (ld1 ZgJ rfl)))<|rT' rfl
theorem cut1p_a {c:Chg}{e:Int}{h:AH}:ACalls Tryz.prog 222 [.agg (chgC c),.rp [iv e]] h fun y h'=>h'=h∧y=.ret (bv (decide (e≤c.1))):=by
 obtain ⟨c1,c2,c3,c4⟩:=c
 refine tI' k222 fun N hn hlt hlA hbd=>?_
 simp only [tb'] at hbd ⊢
 refine wr'<|E' (Zbj (cvl lk rfl) rfl (hl0 hn) ha0) pt<|mv' lkb pt<|sn'<|wr'<|V' (Zac lk) pt<|V' (Zab lk (hga hn rfl) gt0) pt<|V' (ZaB lk gt) pt<|V' (Zfg lk lk) pt<|mv' lk pt<|Zar<|?_
 refine Zah<|Zaa<|Zaf rz<|rT'<|?_
 exact bvx (by first | rfl | (rw [Bool.eq_iff_iff];simp))
theorem ZqO {l:List Chg}{e:Int}:cutV l e=l.take (l.findIdx fun c=>decide (e≤c.1)):=by
 unfold cutV
 induction l with
 | nil=>rfl
 | cons c l ih =>
  rw [List.takeWhile_cons,List.findIdx_cons]
  by_cases h:c.1<e
  ·rw [if_pos (by simpa using h),ih,show decide (e≤c.1)=false by simp;omega];rfl
  rw [if_neg (by simpa using h),show decide (e≤c.1)=true by simp;omega];rfl
theorem zcut_a {l:List Chg}{e:Int}{full:Bool}{h:AH}(hl:l.length≤9223372036854775807):ACalls Tryz.prog 143 [.sl l.length 4 full (rows chgC l),iv e] h fun y h'=>h'=h∧y=.ret (.sl (cutV l e).length 4 false (rows chgC (cutV l e))):=by
 have hll:=hl
 refine tW' k143 fun N hn hlt hlA hbd=>?_
 simp only [tb'] at hbd ⊢
 refine wr'<|E' (Zbj (cvl lk rfl) rfl (hl0 hn) ha0) pt<|mv' lkn pt<|Zar<|?_
 refine Za8 (ALe.icePtr (hga hn rfl) gt3 (by simp) pt3 (hs0 hn)) ?_
 refine wr'<|mv' lk pt<|V' (ZgP mp) pt<|?_
 refine Zad mp (ixPrtC_a (p:=fun c:Chg=>decide (e≤c.1)) (fun c _ _=>cut1p_a) hll) pt ?_
 refine mv' lk pt<|sn'<|Zam<|wr'<|mv' lk pt<|V' (Zba lk lki) pt<|sn'<|?_
 refine cd' lk (fun hc1=>?_) (fun hc1=>?_)
 ·have hi:¬l.findIdx (fun c:Chg=>decide (e≤c.1))<l.length:=by unfold idxV at hc1;split at hc1;omega;assumption
  refine wr'<|mv' lk pt<|mv' lk pt<|sn'<|Zaa<|Zai<|Zaf rz<|rtW'<|?_
  rw [ZqO,List.take_of_length_le (by omega)];exact Wk.full
 have hi:l.findIdx (fun c:Chg=>decide (e≤c.1))<l.length:=by unfold idxV at hc1;split at hc1;assumption;omega
 have hix:idxV (fun c:Chg=>decide (e≤c.1)) l=((l.findIdx fun c:Chg=>decide (e≤c.1):Nat):Int):=if_pos hi
 refine Zae<|Zah<|wr'<|mv' lk pt<|mv' lk pt<|?_
 refine V' (v_hi (k:=l.findIdx fun c:Chg=>decide (e≤c.1)) lk lk ZeU ro (by omega) ro) pt ?_
 refine mv' lk pt<|sn'<|Zaa<|Zaf rz<|rtW'<|?_
 rw [ZqO,List.length_take,Nat.min_eq_left (Nat.le_of_lt hi)];exact Wk.full
end Go.Proofs.YtlekejpogddndaaGreatDoor
end
section
namespace Go.Proofs.YtlekejpogddndaaGreatDoor
open Go.Ab Go.RowKit Civ
attribute [local simp] Zbi Zbu Zbk Zbp ZdC Zdz
section
theorem Zrf {a0 a1:AV}{l:List AV}:(a0::a1::l).take 2=[a0,a1]:=rfl
theorem ZoA {a0 a1 c0 c1:AV}{l:List AV}:setCells (a0::a1::l) 0 [c0,c1]=c0::c1::l:=rfl
theorem Zoz {a0 a1 a2 a3 a4 a5 a6 a7 a8 a9:AV}{l:List AV}:(a0::a1::a2::a3::a4::a5::a6::a7::a8::a9::l).take 10=[a0,a1,a2,a3,a4,a5,a6,a7,a8,a9]:=rfl
theorem Zh2 {a0 a1 a2 a3 a4 a5 a6 a7 a8 a9 c0 c1 c2 c3 c4 c5 c6 c7 c8 c9:AV}{l:List AV}:setCells (a0::a1::a2::a3::a4::a5::a6::a7::a8::a9::l) 0 [c0,c1,c2,c3,c4,c5,c6,c7,c8,c9]=c0::c1::c2::c3::c4::c5::c6::c7::c8::c9::l:=rfl
theorem Zmz {a0 a1 a2 a3 a4 a5 a6 a7 a8 a9:AV}{l:List AV}:((a0::a1::a2::a3::a4::a5::a6::a7::a8::a9::l).drop 0).take 10=[a0,a1,a2,a3,a4,a5,a6,a7,a8,a9]:=rfl
theorem ZgI {a0 c0:AV}{l:List AV}:setCells (a0::l) 0 [c0]=c0::l:=rfl
theorem Zre {a0 a1 a2:AV}{l:List AV}:(a0::a1::a2::l).take 3=[a0,a1,a2]:=rfl
end
def c217:AC:=(Sr [Fa 7 1 1,Ld 8 7,Oo 9 (.len false (.tmp 8)),Mc 10 0] (.block 0 (.loop (Sr [Bn 11 .lss 10 9] (.seq (Cd 11 .skip (.exit 0)) (.seq (.block 1 (Sr [Oo 12 (.ia 2 (.tmp 8) (.tmp 10)),Oo 13 (.load true 2 (.tmp 12)),Oo 4 (.new 53 2 [Ss,(.sl 0 0 true [])]),⟨none,none,(.store 2 (.tmp 4) (.tmp 13))⟩] (Sr [Fa 14 1 4,Ld 15 14,Oo 16 (.len false (.tmp 15)),Mc 17 0] (.block 2 (.loop (Sr [Bn 18 .lss 17 16] (.seq (Cd 18 .skip (.exit 2)) (.seq (.block 3 (Sr [Oo 19 (.ia 10 (.tmp 15) (.tmp 17)),Oo 20 (.load true 10 (.tmp 19)),Oo 6 (.new 63 10 [(iv 0),Ss,(iv 0),Ss,(.v (.bool false)),(iv 0),(iv 0),(iv 0),(iv 0),(iv 0)]),⟨none,none,(.store 10 (.tmp 6) (.tmp 20))⟩] (Sr [Mv 21 0,Oo 22 (.load true 10 (.tmp 6)),Oo 23 (.call (.tmp 21) [(.tmp 22)]),Oo 24 (.un .not (.tmp 23))] (Cd 24 .ret .skip)))) (.reg [Bc 25 .add 17 1,Mv 17 25]))))))))) (.reg [Bc 26 .add 10 1,Mv 10 26])))))))
theorem k217:ZaD Tryz.prog 217=some ⟨c217,[],27⟩:=by kernel_rfl
def c134p:AC:=(.seq (.reg [⟨(some 1),none,(.box 26 3 (.tmp 0))⟩,⟨(some 2),none,(.new 4 1 [(.v (.bool false))])⟩]) (.seq (.reg [⟨(some 4),none,(.fa 2 (.tmp 1))⟩,⟨(some 5),none,(.load false 1 (.tmp 4))⟩,⟨(some 6),none,(.mkfn 214 [(.tmp 1)])⟩,⟨(some 7),none,(.call (.func 213) [(.tmp 5),(.tmp 6)])⟩]) (.seq (.cond (.tmp 7) (.seq (.reg [⟨none,none,(.store 1 (.tmp 2) (.const (.bool true)))⟩]) .ret) .skip) (.seq (.reg [⟨(some 8),none,(.load true 3 (.tmp 1))⟩,⟨(some 9),none,(.call (.func 135) [(.tmp 8)])⟩]) .skip))))
def c134a:AC:=(.reg [⟨(some 3),none,(.new 63 10 [(.v (.int .i64 0)),(.v (.string ⟨#[]⟩)),(.v (.int .i64 0)),(.v (.string ⟨#[]⟩)),(.v (.bool false)),(.v (.int .i64 0)),(.v (.int .i64 0)),(.v (.int .i64 0)),(.v (.int .i64 0)),(.v (.int .i64 0))])⟩,⟨none,none,(.store 10 (.tmp 3) (.tmp 10))⟩])
def c134b:AC:=(.block 1 (.seq (.reg [⟨(some 11),none,(.fa 1 (.tmp 3))⟩,⟨(some 12),none,(.load false 1 (.tmp 11))⟩,⟨(some 13),none,(.bin .neq (.tmp 12) (.const (.string ⟨#[]⟩)))⟩,⟨(some 14),none,(.mv (.tmp 13))⟩,⟨(some 15),(some (14,true)),(.fa 0 (.tmp 1))⟩,⟨(some 16),(some (14,true)),(.load false 1 (.tmp 15))⟩,⟨(some 17),(some (14,true)),(.mkfn 216 [(.tmp 3)])⟩,⟨(some 18),(some (14,true)),(.call (.func 157) [(.tmp 16),(.tmp 17)])⟩,⟨(some 19),(some (14,true)),(.un .not (.tmp 18))⟩,⟨(some 20),none,(.pick (.tmp 14) (.tmp 19) (.const (.bool false)))⟩]) (.cond (.tmp 20) (.seq (.reg [⟨none,none,(.store 1 (.tmp 2) (.const (.bool true)))⟩]) .ret) .skip)))
def c134q:AC:=(.seq (.reg [⟨none,none,(.store 1 (.tmp 2) (.const (.bool false)))⟩]) (.seq .ret .skip))
abbrev fr134:AFR:=⟨[(.reg [⟨(some 1),none,(.box 26 3 (.tmp 0))⟩,⟨(some 2),none,(.new 4 1 [(.v (.bool false))])⟩]),(.reg [⟨(some 4),none,(.fa 2 (.tmp 1))⟩,⟨(some 5),none,(.load false 1 (.tmp 4))⟩,⟨(some 6),none,(.mkfn 214 [(.tmp 1)])⟩,⟨(some 7),none,(.call (.func 213) [(.tmp 5),(.tmp 6)])⟩]),(.cond (.tmp 7) (.seq (.reg [⟨none,none,(.store 1 (.tmp 2) (.const (.bool true)))⟩]) .ret) .skip),(.reg [⟨(some 8),none,(.load true 3 (.tmp 1))⟩,⟨(some 9),none,(.call (.func 135) [(.tmp 8)])⟩])],(.tmp 9),#[10],c134a,c134b,c134q,[(.cell 2 false 1)],21⟩
theorem k134:ZgY Tryz.prog 134=some fr134:=by kernel_rfl
def ZcL (z:List Zon):List Era:=z.flatMap (·.2)
theorem Zma {z:List Zon}{i j:Nat}(hi:i<z.length) (hj:j<z[i].2.length) : ∃ r,ZcL z=ZcL (z.take i)++(z[i].2.take j++z[i].2[j]::r):=by
 refine ⟨z[i].2.drop (j+1)++ZcL (z.drop (i+1)),?_⟩
 have e:z=z.take i++z[i]::z.drop (i+1):=by rw [←List.drop_eq_getElem_cons hi,List.take_append_drop]
 have e2:z[i].2=z[i].2.take j++z[i].2[j]::z[i].2.drop (j+1):=by rw [←List.drop_eq_getElem_cons hj,List.take_append_drop]
 have h1:ZcL z=ZcL (z.take i++z[i]::z.drop (i+1)):=by rw [←e]
 rw [h1]
 unfold ZcL
 rw [List.flatMap_append,List.flatMap_cons]
 have h2:z[i].2++(z.drop (i+1)).flatMap (·.2)=z[i].2.take j++z[i].2[j]::(z[i].2.drop (j+1)++(z.drop (i+1)).flatMap (·.2)):=by
  conv=>lhs;rw [e2]
  rw [List.append_assoc];rfl
 rw [h2]
theorem Zoh {z:List Zon}{i:Nat}(hi:i<z.length):ZcL (z.take (i+1))=ZcL (z.take i)++z[i].2:=by
 unfold ZcL
 rw [List.take_succ_eq_append_getElem hi,List.flatMap_append,List.flatMap_cons,List.flatMap_nil,List.append_nil]
theorem ZqE {p:Era→Bool}{l m r:List Era}{x:Era}(hl : ∀ y∈l,p y=false) (hm : ∀ y∈m,p y=false) (hx:p x=true):(l++(m++x::r)).find? p=some x:=by
 rw [List.find?_append,List.find?_eq_none.2 (fun y hy=>by rw [hl y hy];simp),Option.none_or,List.find?_append,List.find?_eq_none.2 (fun y hy=>by rw [hm y hy];simp),Option.none_or,List.find?_cons,hx]
def stopH (h:AH) (hS:Era→AH):Option Era→AH
 | none=>h
 | some x=>hS x
theorem ZqI {a:List Rul}{z:List Zon}{k:List Lnk}{lp:Nat}{h:AH}{p:Era→Bool}{hS:Era→AH}(hz:z.length≤20) (hz2 : ∀ y∈z,y.2.length≤8) (hSl : ∀ x,(hS x).length=h.length) (hSlt : ∀ x,∀ e∈hS x,e.lt h.length=true)
  (hY : ∀ x∈ZcL z,∀ e f:Ent,p x=false→AYield Tryz.prog lp [.agg (eraC x)] (h++[e,f]) fun r h''=>r=.ret (.v (.bool true))∧h''=h++[e,f])
  (hN : ∀ x∈ZcL z,∀ e f:Ent,p x=true→AYield Tryz.prog lp [.agg (eraC x)] (h++[e,f]) fun r h''=>r=.ret (.v (.bool false))∧h''=hS x++[e,f]) :
  ACalls Tryz.prog 217 [.v (.func (.yield lp) #[] #[]),.rp [.sl a.length 11 false (rows rulC a),.sl z.length 2 false (rows zonC z),.sl k.length 2 false (rows lnkC k)]] h fun y h'=>y=.ret (.tup [])∧h'=stopH h hS ((ZcL z).find? p):=by
 refine tJ' k217 fun N hn hlt hlA hbd=>?_
 simp only [tb'] at hbd ⊢
 refine wr'<|V' (Zbz lk dp1) pt<|V' (ZaB lk gt) pt<|V' (ZaP lk) pt<|mv' lki pt<|sn'<|Zao<|?_
 refine w_lp (ι:=Nat) (fun (i:Nat)=>[(10,iv (i:Int)),(4,.any),(6,.any)]++rn' 11 16) (fun (i:Nat)=>[]) (fun (i:Nat)=>i≤z.length ∧ ∀ x∈ZcL (z.take i),p x=false) (fun (i:Nat)=>z.length-i) (0) (by exact ⟨Nat.zero_le _,fun x hx=>by cases hx⟩) ?_
 rintro i hi1
 try simp only [sm',Nat.reduceAdd]
 obtain ⟨hk1,hk2⟩:=hi1
 refine wr'<|V' (Zba lk lk) pt<|sn'<|Zam<|?_
 refine cd' lk (fun hc1=>?_) (fun hc1=>?_)
 ·have hi:i<z.length:=by omega
  have hz3:=hz2 _ (List.getElem_mem hi)
  refine Zae<|Zah<|Zam<|Zao<|wr'<|?_
  refine V' (ZaY lk lk Zcc (nb' rfl) ro (by omega) ro rfl) pt ?_
  refine V' (ZaK lk Zrf rfl) pt<|E' (Za6 (hl0 hn) ha0) pt<|E' (Zal lk (cvl lk rfl) (hga hn rfl) rfl (nb' rfl) rfl ZoA (hs0 hn)) ptn<|sn'<|wr'<|V' (Zac lk) pt<|V' (Zab lk (hga hn rfl) gt1) pt<|?_
  refine V' ((by first | exact ZaP lk | exact Zds lk)) pt ?_
  refine mv' lki pt<|sn'<|Zao<|?_
  refine w_lp (ι:=Nat) (fun (j:Nat)=>[(17,iv (j:Int)),(6,.any)]++rn' 18 8) (fun (j:Nat)=>[]) (fun (j:Nat)=>j≤z[i].2.length ∧ ∀ x∈z[i].2.take j,p x=false) (fun (j:Nat)=>z[i].2.length-j) (0) (by exact ⟨Nat.zero_le _,fun x hx=>by cases hx⟩) ?_
  rintro j hi2
  try simp only [sm',Nat.reduceAdd]
  obtain ⟨hj1,hj2⟩:=hi2
  refine wr'<|V' (Zba lk lk) pt<|sn'<|Zam<|?_
  refine cd' lk (fun hc2=>?_) (fun hc2=>?_)
  ·have hj:j<z[i].2.length:=by omega
   obtain ⟨rr,hrr⟩:=Zma hi hj
   have hmem:z[i].2[j]∈ZcL z:=by rw [hrr];simp
   refine Zae<|Zah<|Zam<|Zao<|wr'<|?_
   refine V' (ZaY lk lk ZdB (nb' rfl) ro (by omega) ro rfl) pt ?_
   refine V' (ZaK lk Zoz rfl) pt<|E' (Za6 (hl1 hn) ha1) pt<|E' (Zal lk (cvl lk rfl) (hga hn rfl) rfl (nb' rfl) rfl Zh2 (hs1 hn)) ptn<|sn'<|wr'<|mv' lk pt<|V' (Zaq lk (hga hn rfl) Zmz rfl) pt<|?_
   by_cases hs21:p z[i].2[j]=true
   ·refine ZpK lk mp (hN _ hmem _ _ hs21) pt<|V' (Zaw lk) pt<|sn'<|ZaH lk<|Zaa<|Zap<|Zai<|Zai<|Zap<|Zap<|Zai<|Zai<|Zap<|?_
    refine Zaf (rs0) ?_
    exact ⟨_,_,rfl,(hSl _).trans hn,by rw [←hn];exact hSlt _,rfl,rfl,by rw [hrr,ZqE hk2 hj2 hs21];rfl⟩
   refine ZpK lk mp (hY _ hmem _ _ (by simpa using hs21)) pt ?_
   refine V' (Zaw lk) pt<|sn'<|ZaM lk<|Zae<|Zaz<|Zah<|Zas<|?_
   refine V' (Zay lk lki (by omega) (by omega)) pt ?_
   refine mv' lk pt<|Zar<|ZaA<|?_
   refine lU' (j+1) (by (try dsimp only);refine ⟨by omega,fun x hx=>?_⟩;rw [List.take_succ_eq_append_getElem hj] at hx;rcases List.mem_append.1 hx with hx | hx;exact hj2 x hx;simp only [List.mem_singleton] at hx;subst hx;simpa using hs21) (by (try dsimp only);(try simp only [sm',Nat.reduceAdd]);exact bk' 1 hn hlt)
  have hje:z[i].2.length≤j:=by omega
  rw [List.take_of_length_le hje] at hj2
  refine ZaO<|ZaF<|ZaF<|Za7<|Zaz<|Zah<|Zas<|?_
  refine V' (Zay lk lki (by omega) (by omega)) pt ?_
  refine mv' lk pt<|Zar<|ZaA<|?_
  refine lU' (i+1) (by (try dsimp only);refine ⟨by omega,fun x hx=>?_⟩;rw [Zoh hi] at hx;rcases List.mem_append.1 hx with hx | hx;exact hk2 x hx;exact hj2 x hx) (by (try dsimp only);(try simp only [sm',Nat.reduceAdd]);exact bk' 0 hn hlt)
 rw [List.take_of_length_le (by omega)] at hk2
 refine ZaO<|ZaF<|ZaF<|Za7<|w_end (rs0)<|?_
 exact ⟨_,_,rfl,hn,hlt,rfl,rfl,by rw [List.find?_eq_none.2 (fun y hy=>by rw [hk2 y hy];simp)];rfl⟩
theorem miss2p_a {r:Rul}{x:Era}{id:Nat}{h:AH}(he:h[id]?=some (.mk 0 63 10 (eraC x))):ACalls Tryz.prog 216 [.agg (rulC r),.ptr id 0 0] h fun x' h'=>h'=h∧x'=.ret (bv (decide (r.1=xRl x))):=by
 obtain ⟨n,f,t,m,⟨k,w,d⟩,a,c,s,lt⟩:=r
 refine tI' k216 fun N hn hlt hlA hbd=>?_
 simp only [tb'] at hbd ⊢
 refine wr'<|E' (Zbj (cvl lk rfl) rfl (hl0 hn) ha0) pt<|mv' lkb pt<|sn'<|wr'<|V' (Zac lk) pt<|V' (Zab lk (hga hn rfl) gt0) pt<|V' (Zac lk) pt<|V' (Zab lk (Znn he) gt1) pt<|V' (Zcj lk lk) pt<|mv' lk pt<|?_
 exact sn'<|Zaa<|Zaf rz<|rT' rfl
abbrev srcB (a:List Rul) (z:List Zon) (k:List Lnk):List AV:=[.sl a.length 11 false (rows rulC a),.sl z.length 2 false (rows zonC z),.sl k.length 2 false (rows lnkC k)]
abbrev ergH (h:AH) (D l ty:Nat) (o:Obj) (T:List AV) (vs:List Value) (c:AV):AH:=h++[.gone,.mk 0 ty 1 [c],mkD D,.raw l o T vs]
abbrev ergJ (h:AH) (D l ty:Nat) (o:Obj) (T:List AV) (vs:List Value) (c:AV) (e f:Ent):AH:=h++[.gone,.mk 0 ty 1 [c],mkD D,.raw l o T vs,e,f]
theorem Zgv {h:AH}{D l ty:Nat}{o:Obj}{T:List AV}{vs:List Value}{c:AV}{e f:Ent}:ergH h D l ty o T vs c++[e,f]=ergJ h D l ty o T vs c e f:=by simp
theorem ZqH {h:AH}{D l ty N:Nat}{o:Obj}{T:List AV}{vs:List Value}{c:AV}(hlt : ∀ e∈h,e.lt N=true) (hT:AV.ltL (N+4) T=true) (hc:c.lt (N+4)=true) : ∀ e∈ergH h D l ty o T vs c,e.lt (N+4)=true:=by
 intro e he
 rcases List.mem_append.1 he with he | he
 ·exact ltw (by omega) hlt e he
 simp only [List.mem_cons,List.not_mem_nil,or_false] at he
 rcases he with rfl | rfl | rfl | rfl
 ·simp [Ent.lt]
 ·simp [Ent.lt,AV.ltL,hc]
 ·simp [Ent.lt,AV.ltL]
 simpa [Ent.lt] using hT
def misP (a:List Rul) (x:Era):Bool:=decide (xRl x≠⟨#[]⟩)&&!a.any fun r=>decide (r.1=xRl x)
def Zij (s:Src):Bool:=(s.2.2.any fun l=>decide (ZhD s.2.1 l.1<0))||(ZcL s.2.1).any (misP s.1)
abbrev misT (N:Nat) (a:List Rul) (z:List Zon) (k:List Lnk) (x:AV):List AV:=[.any,.rp (srcB a z k),.ptr (N+1) 0 0,.any,.any,.any,.any,.any,.any,.clo (.func 217) [.rp (srcB a z k)],x,.any,.any,.any,.any,.any,.any,.any,.any,.any,.any]
theorem Zqf {N:Nat}{a:List Rul}{z:List Zon}{k:List Lnk}:AV.ltL (N+4) (misT N a z k .any)=true:=by simp [AV.ltL,AV.lt,Zbi,Zbk,Zbp]
theorem app61 {h:AH}{a b c d e f p:Ent}:h++[a,b,c,d,e,f,p]=(h++[a,b,c,d,e,f])++[p]:=by simp
theorem ZiK {h:AH}{lp N D:Nat}{rdy bsy fin:Obj}{a:List Rul}{z:List Zon}{k:List Lnk}{vs:List Value}(hn:h.length=N) (hlt : ∀ e∈h,e.lt N=true) (ha:a.length≤9223372036854775807)
  (hY:Zke Tryz.prog fr134 (N+2+1) lp rdy bsy fin (misT N a z k .any) vs) {x:Era} {e f:Ent} :
  AYield Tryz.prog lp [.agg (eraC x)] (ergJ h D lp 4 rdy (misT N a z k .any) vs (bv false) e f) fun r h''=>r=.ret (.v (.bool (!misP a x)))∧h''=ergJ h D lp 4 (if misP a x=true then fin else rdy) (misT N a z k .any) vs (bv (misP a x)) e f:=by
 refine y_go hY (hga (k:=3) hn rfl) rfl fun n0 hn0 hlt0 q1 q2 q3=>?_
 have hm:n0=N+6:=by rw [←hn0];simp [hn]
 have hT0:=Zqf (N:=N) (a:=a) (z:=z) (k:=k)
 have hE:=hlt0 e (by simp)
 have hF:=hlt0 f (by simp)
 have hR:=hlt0 (.raw lp rdy (misT N a z k .any) vs) (by simp)
 show aw _ _ c134a _ _ _
 show aw _ _ _ _ (misT N a z k (.agg (eraC x))) (h++[.gone,.mk 0 4 1 [bv false],mkD D,.raw lp rdy (misT N a z k .any) vs,e,f])
 refine Zas<|E' (Za6 (hl6 hn) ha6) pt<|E' (Zal lk (cvl lk rfl) (hga hn rfl) rfl (nb' rfl) rfl Zh2 (hs6 hn)) ptn<|Zar<|?_
 refine Zq3 (i:=N+3) (hga hn rfl) (hs3 hn) fun n1 hn1 hlt1=>?_
 have fin2 : ∀ (b:Bool) (o:Obj) (E:Ent),b=misP a x→o=(if misP a x=true then fin else rdy)→o.isCells=o.isCells→Ent.lt n0 (.raw lp o (misT N a z k .any) vs)=true → ∃ y z',h++[.gone,.mk 0 4 1 [bv b],mkD D,.raw lp o (misT N a z k .any) vs,e,f,E]=y++z'∧y.length=n0∧(∀ e∈y,e.lt n0=true)∧(AE.ret (.v (.bool (!b)))).lt n0=true∧AE.ret (.v (.bool (!b)))=.ret (.v (.bool (!misP a x)))∧y=ergJ h D lp 4 (if misP a x=true then fin else rdy) (misT N a z k .any) vs (bv (misP a x)) e f:=by
  rintro b o E rfl rfl _ hro
  refine ⟨_,_,app61,by rw [←hn0];simp,fun y hy=>?_,rfl,rfl,rfl⟩
  rcases List.mem_append.1 hy with hy | hy
  ·exact ltw (by omega) hlt y hy
  simp only [List.mem_cons,List.not_mem_nil,or_false] at hy
  rcases hy with rfl | rfl | rfl | rfl | rfl | rfl
  ·simp [Ent.lt]
  ·simp [Ent.lt,AV.ltL,AV.lt]
  ·simp [Ent.lt,AV.ltL]
  ·exact hro
  ·exact hE
  exact hF
 have hro : ∀ o:Obj,Ent.lt n0 (.raw lp o (misT N a z k .any) vs)=true:=fun o=>by simpa [Ent.lt] using hR
 show aw _ _ c134b _ _ _
 refine Zao<|wr'<|V' (Zac lk) pt<|V' (Zab lk (hga hn rfl) gt1) pt<|V' (Zcs lk lks) pt<|mv' lk pt<|?_
 refine sp' (t:=14) gt pt pt (fun hg14=>?_) (fun hg14=>?_)
 ·refine s_do gt<|V' (Zbz lk dp0) pt<|s_do gt<|V' (ZaB lk gt) pt<|s_do gt<|V' (ZgP mp) pt<|s_do gt<|?_
  refine Zad mp (Zk0 (p:=fun r:Rul=>decide (r.1=xRl x)) (fun c _ E=>miss2p_a (Znn (hga hn rfl))) ha) pt ?_
  refine s_do gt<|V' (Zaw lk) pt<|V' (Zak lk lk) pt<|sn'<|?_
  refine Zau lk (fun hc1=>?_) (fun hc1=>?_)
  ·have hP:misP a x=true:=by unfold misP;rw [Bool.and_eq_true];exact ⟨decide_eq_true hg14,hc1⟩
   refine wr'<|E' (Zal lk (cvl lkb rfl) (hga hn rfl) rfl (nb' rfl) rfl ZgI (hs1 hn)) ptn<|sn'<|Zaa<|Zap<|?_
   refine ZnD (i:=N+3) (hga hn rfl) (hs3 hn) (fin2 true fin _ hP.symm (by rw [if_pos hP]) rfl (hro _))
  have hP:misP a x=false:=by unfold misP;rw [Bool.and_eq_false_iff];exact .inr hc1
  refine Zae<|Zaz<|?_
  exact ZhW (i:=N+3) (hga hn rfl) (hs3 hn) (fin2 false rdy _ hP.symm (by rw [hP];rfl) rfl (hro _))
 have hP:misP a x=false:=by unfold misP;rw [Bool.and_eq_false_iff];exact .inl (decide_eq_false hg14)
 refine s_no gt pt<|s_no gt pt<|s_no gt pt<|s_no gt pt<|s_no gt pt<|V' (Zag lk lkb) pt<|sn'<|ZaM lk<|Zae<|Zaz<|?_
 exact ZhW (i:=N+3) (hga hn rfl) (hs3 hn) (fin2 false rdy _ hP.symm (by rw [hP];rfl) rfl (hro _))
theorem any_find {p:Era→Bool} {l:List Era}:(match l.find? p with | none=>false | some _=>true)=l.any p:=by
 induction l with
 | nil=>rfl
 | cons x l ih=>rw [List.find?_cons,List.any_cons];cases p x <;> simp [ih]
theorem Zqe {h:AH}{lp N D:Nat}{rdy bsy fin:Obj}{a:List Rul}{z:List Zon}{k:List Lnk}{vs:List Value}(hn:h.length=N) (hlt : ∀ e∈h,e.lt N=true) (ha:a.length≤9223372036854775807) (hz:z.length≤20) (hz2 : ∀ y∈z,y.2.length≤8)
    (hY:Zke Tryz.prog fr134 (N+2+1) lp rdy bsy fin (misT N a z k .any) vs) (hl0:(k.any fun l=>decide (ZhD z l.1<0))=false) {R:AE→AH→Prop} (hR:R=fun x h' => ∃ z',h'=h++z'∧x.lt N=true∧x=.ret (bv (Zij (a,z,k)))) :
    ACalls Tryz.prog 217 (.v (.func (.yield lp) #[] #[])::[.rp (srcB a z k)]) (ergH h D lp 4 rdy (misT N a z k .any) vs (bv false)) fun r h3=>(∃ c,r=.ret c) ∧
      ((h3[N+2+1]?=some (.raw lp rdy (misT N a z k .any) vs) ∧ ∀ n0,(h3.set (N+2+1) .gone).length=n0→(∀ e∈h3.set (N+2+1) .gone,e.lt n0=true)→aw Tryz.prog n0 fr134.post (ZeA fr134.res (N+2) D R) (misT N a z k .any) (h3.set (N+2+1) .gone)) ∨
       (h3[N+2+1]?=some (.raw lp fin (misT N a z k .any) vs)∧ZeA fr134.res (N+2) D R .ret (misT N a z k .any) (h3.set (N+2+1) .gone))):=by
  have hmis:Zij (a,z,k)=(ZcL z).any (misP a):=by unfold Zij;rw [hl0,Bool.false_or]
  refine (ZqI (h:=ergH h D lp 4 rdy (misT N a z k .any) vs (bv false)) (p:=misP a) (hS:=fun _=>ergH h D lp 4 fin (misT N a z k .any) vs (bv true)) hz hz2 (fun _=>(hl4 hn).trans (hl4 hn).symm) (fun _=>by rw [hl4 hn];exact ZqH hlt Zqf rfl) (fun x _ e f hp=>?_) (fun x _ e f hp=>?_)).mono ?_
  · have:=ZiK (e:=e) (f:=f) (D:=D) (x:=x) hn hlt ha hY
    rw [hp] at this
    rw [Zgv]
    exact this
  · have:=ZiK (e:=e) (f:=f) (D:=D) (x:=x) hn hlt ha hY
    rw [hp] at this
    rw [Zgv,Zgv]
    exact this
  rintro x h3 ⟨rfl,rfl⟩
  refine ⟨⟨_,rfl⟩,?_⟩
  rw [←any_find] at hmis
  subst hR
  cases hf:(ZcL z).find? (misP a) with
  | none =>
    rw [hf] at hmis
    refine .inl ⟨hga (k:=3) hn rfl,fun n0 hn0 _=>?_⟩
    have hs:(ergH h D lp 4 rdy (misT N a z k .any) vs (bv false)).set (N+2+1) .gone=h++[.gone,.mk 0 4 1 [bv false],mkD D,.gone]:=hs3 hn
    show aw _ _ _ _ _ ((ergH h D lp 4 rdy (misT N a z k .any) vs (bv false)).set (N+2+1) .gone)
    rw [hs]
    show aw _ _ c134q _ _ _
    refine wr'<|E' (Zal lk (cvl lkb rfl) (hga hn rfl) rfl (nb' rfl) rfl ZgI (hs1 hn)) ptn<|sn'<|Zam<|Zaa<|Zai<|?_
    refine Zdy (hga hn rfl) (hs2 hn) (rs1 (rr_c gt (hga hn rfl) (ld0 gt))) ?_
    refine rT' ?_
    rw [hmis]
  | some x =>
    rw [hf] at hmis
    refine .inr ⟨hga (k:=3) hn rfl,?_⟩
    have hs:(ergH h D lp 4 fin (misT N a z k .any) vs (bv true)).set (N+2+1) .gone=h++[.gone,.mk 0 4 1 [bv true],mkD D,.gone]:=hs3 hn
    show ZeA _ _ _ _ _ _ ((ergH h D lp 4 fin (misT N a z k .any) vs (bv true)).set (N+2+1) .gone)
    rw [hs]
    exact Zdy (hga (k:=2) hn rfl) (hs2 hn) (rs1 (rr_c gt (hga (k:=1) hn rfl) (ld0 gt))) (rT' (by rw [hmis]))
theorem Zqd {a:List Rul}{z:List Zon}{k:List Lnk}{h:AH}(ha:a.length≤9223372036854775807) (hz:z.length≤20) (hz2 : ∀ y∈z,y.2.length≤8) (hk:k.length≤9223372036854775807):Ac 134 [.agg (srcB a z k)] h (bv (Zij (a,z,k))):=by
 have hkk:=hk
 refine tR' k134 fun N hn hlt hlA hbd=>?_
 show aw _ _ c134p _ _ _
 show aw _ _ _ _ [.agg (srcB a z k),.any,.any,.any,.any,.any,.any,.any,.any,.any,.any,.any,.any,.any,.any,.any,.any,.any,.any,.any,.any] _
 refine wr'<|E' (Zbj (cvl lk rfl) rfl (hl0 hn) ha0) pt<|E' (Za6 (hl1 hn) ha1) pt<|Zar<|?_
 refine Za8 (ALe.icePtr (hga hn rfl) gt1 (by simp) pt1 (hs0 hn)) ?_
 refine wr'<|V' (Zbz lk dp2) pt<|V' (ZaB lk gt) pt<|V' (ZgP mp) pt<|?_
 refine Zad mp (Zqv (p:=fun l:Lnk=>decide (ZhD z l.1<0)) (fun c _ _=>miss1_a (by omega)) hkk) pt ?_
 refine sn'<|Zam<|?_
 refine Zau lk (fun hc1=>?_) (fun hc1=>?_)
 ·have hm:Zij (a,z,k)=true:=by unfold Zij;rw [show (k.any fun l=>decide (ZhD z l.1<0))=true from hc1];rfl
  refine wr'<|E' (Zal lk (cvl lkb rfl) (hga hn rfl) rfl (nb' rfl) rfl ZgI (hs1 hn)) ptn<|sn'<|Zaa<|Zai<|?_
  refine ZhC (rs1 (rr_c gt (hga hn rfl) (ld0 gt))) ?_
  refine rT' ?_
  rw [hm]
 refine Zae<|Zah<|wr'<|V' (ZaK lk Zre rfl) pt<|Zad mp (eras_a) pt<|sn'<|Zae<|?_
 refine ZpX (T1:=misT N a z k .any) (ALe.same wA' rfl) rfl (hl2 hn) fun lp D rdy bsy fin vs hle hlT hY=>?_
 have hgo:=Zqe (D:=D) hn hlt ha hz hz2 hY hc1 rfl
 rw [show (h++[Ent.gone,Ent.mk 0 4 1 [bv false]]++[mkD D,Ent.raw lp rdy (misT N a z k .any) vs]:AH)=ergH h D lp 4 rdy (misT N a z k .any) vs (bv false) by simp]
 exact hgo
end Go.Proofs.YtlekejpogddndaaGreatDoor
end
section
namespace Go.Ab
section
variable {P : Program} {n0 : Nat}
def Zlc (P:Program):Code→Option AC
 | .skip=>some .skip
 | .region _ ops draw=>match ops.toList.mapM (Zby P [] ops) with
  | some al=>if draw=false then some (.reg al) else ZiX P ops
  | none=>none
 | .seq a b=>match Zlc P a,Zlc P b with
  | some x,some y=>some (.seq x y)
  | _,_=>none
 | .block id a=>(Zlc P a).map (.block id)
 | .exit id=>some (.exit id)
 | .ret=>some .ret
 | _=>none
theorem Zmg [Rd] : ∀ (c:Code) (ac:AC),Zlc P c=some ac → ∀ {Q:AX→List AV→AH→Prop}{T:List AV}{h:AH},aw P n0 ac Q T h→AW P n0 c Q T h:=by
 intro c
 induction c with
 | skip=>intro ac hc Q T h hw;cases hc;exact Zrl hw
 | region id ops draw =>
  intro ac hc Q T h hw
  simp only [Zlc] at hc
  split at hc <;> try (cases hc;done)
  rename_i al hm
  split at hc
  ·rename_i hd;subst hd;cases hc;exact Zlw hm hw
  ·rename_i hd
   obtain rfl:draw=true:=by simpa using hd
   unfold ZiX at hc
   split at hc <;> try (cases hc;done)
   rename_i al2 hm2
   split at hc <;> try (cases hc;done)
   rename_i hcond
   cases hc
   exact Zii hcond.1 hcond.2 hm2 hw
 | seq a b iha ihb =>
  intro ac hc Q T h hw
  simp only [Zlc] at hc
  split at hc <;> try (cases hc;done)
  rename_i x y hx hy
  cases hc
  refine AW_seq ((iha x hx hw).mono ?_)
  intro z T' h' hq
  cases z <;> simp only [AX.thn] at hq ⊢ <;> first | exact hq | (obtain ⟨T1,h1,hle,hq⟩:=hq;exact AW_le hle (ihb y hy hq))
 | cond c a b iha ihb=>intro ac hc;cases hc
 | block id a iha =>
  intro ac hc Q T h hw
  simp only [Zlc,Option.map_eq_some_iff] at hc
  obtain ⟨x,hx,rfl⟩:=hc
  exact ZnJ (iha x hx hw)
 | loop a iha=>intro ac hc;cases hc
 | rangeFunc f ps x y iha ihb=>intro ac hc;cases hc
 | exit id=>intro ac hc Q T h hw;cases hc;exact Zrm hw
 | scope a iha=>intro ac hc;cases hc
 | label l=>intro ac hc;cases hc
 | goto l=>intro ac hc;cases hc
 | ret=>intro ac hc Q T h hw;cases hc;exact AW_ret hw
 | refuse w=>intro ac hc;cases hc
def Zi0 (P:Program) (f:FuncId):Option AF :=
 match P.funcs[f]? with
 | some fn=>if fn.name == "runtime.NumGoroutine" then none else match fn.body with
  | some c=>match Zlc P c,fn.results.toList.mapM (Zfp P) with
   | some ac,some rs=>some ⟨ac,rs,fn.ntmps⟩
   | _,_=>none
  | none=>none
 | none=>none
theorem ACalls.of_awU {f:FuncId}{af:AF}(hc:Zi0 P f=some af) {args:List AV}{h:AH}{R:AE→AH→Prop}(hw:aw P h.length af.code (retA af.res R) (args++List.replicate (af.ntmps-args.length) .any) h):ACalls P f args h R:=by
 unfold Zi0 at hc
 split at hc <;> try (cases hc;done)
 rename_i fn hfn
 split at hc <;> try (cases hc;done)
 rename_i hname
 split at hc <;> try (cases hc;done)
 rename_i c hb
 split at hc <;> try (cases hc;done)
 rename_i ac rs hac hrs
 cases hc
 letI:Rd:=rdN
 refine ACalls.of_AW hfn hb ?_ ((Zmg c ac hac hw).mono ?_)
 ·simp only [enters,hfn,hb]
  simp only [Bool.not_eq_true] at hname
  simp [bne,hname]
 ·intro x T' h' hq
  cases x <;> simp only [retA,RetQ] at hq ⊢
  ·split at hq <;> try (exact hq.elim)
   rename_i r hr
   exact ⟨r,fun w g a hs ht=>Zdi hrs hr hs ht,hq⟩
  ·split at hq <;> try (exact hq.elim)
   rename_i r hr
   exact ⟨r,fun w g a hs ht=>Zdi hrs hr hs ht,hq⟩
  ·exact hq
theorem Zg3 {f:FuncId}{af:AF}(hc:Zi0 P f=some af):enters P f=true:=by
 unfold Zi0 at hc
 split at hc <;> try (cases hc;done)
 rename_i fn hfn
 split at hc <;> try (cases hc;done)
 rename_i hname
 split at hc <;> try (cases hc;done)
 rename_i c hb
 simp only [enters,hfn,hb]
 simp only [Bool.not_eq_true] at hname
 simp [bne,hname]
theorem tU' {f:FuncId}{c:AC}{rs:List AR}{m:Nat}{args:List AV}{h:AH}{R:AE→Prop}(hc:Zi0 P f=some ⟨c,rs,m⟩) (hw : ∀ n,h.length=n→(∀ e∈h,e.lt n=true)→AV.ltL n args=true→AV.bdL args→aw P n c (retA rs fun x h' => ∃ z,h'=h++z∧x.lt n=true∧R x) (tA' args m) (h++[])) (hl:Nat.ble args.length m=true:=by rfl):ACalls P f args h fun x h'=>h'=h∧R x:=by
 refine ACalls.gc_same ⟨Zg3 hc,fun w g vs hs ha=>(ACalls.of_awU hc ?_).2 w g vs hs ha⟩
 have:=hw h.length rfl hs.ltE (RepL.lt (fun i v l hl=>(hs.fresh i v l hl).1) _ _ ha) (RepL.bd _ _ ha)
 rw [List.append_nil] at this
 show aw P h.length c _ (args++List.replicate (m-args.length) .any) h
 rw [Zhu _ _ (Nat.le_of_ble_eq_true hl)]
 exact this
theorem ZjI {w:World}{g:Gh} : ∀ {vs us:List Value},RepL w g (vs.map .v) us↔us=vs
 | [],us=>by simp only [List.map_nil,RepL]
 | v::vs,us=>by
  simp only [List.map_cons,RepL,Rep,ZjI (vs:=vs)]
  constructor
  ·rintro ⟨u,us',rfl,rfl,rfl⟩;rfl
  ·rintro rfl;exact ⟨_,_,rfl,rfl,rfl⟩
theorem ACalls.of_turnR {f:FuncId}{args:List AV}{h:AH}{id ver ty st:Nat}{cells cells':List AV}{c:AV}(he:enters P f=true) (hi:h[id]?=some (.mk ver ty st cells)) (hne:cells≠[])
  (hc : ∀ w g (vs:Array Value) b cap arr,SimH w g h→RepL w g args vs.toList→g.loc id ver=some (some ⟨b,0,none⟩,cap)→w.heap[b]?=some (.cells arr ty (0,0))→arr.size=cap*st→cells.length≤arr.size→RepL w g cells (arr.toList.take cells.length) →
   Calls P f vs w fun e w' => ∃ (v:Value) (vs':List Value) (arr':Array Value),e=.returned v∧cells'=vs'.map .v∧w'.heap[b]?=some (.cells arr' ty (0,0))∧arr'.size=arr.size∧vs'.length=cells.length∧arr'.toList.take cells.length=vs' ∧
    w'.os=w.os∧w'.tape=w.tape∧w'.output=w.output∧w.heap.size≤w'.heap.size∧(∀ k,k<w.heap.size→k≠b→w'.heap[k]?=w.heap[k]?)∧Rep w' g c v) :
  ACalls P f args h fun x h'=>x=.ret c∧h'=h.set id (.mk ver ty st cells'):=by
 refine ⟨he,fun w g vs hs ha=>?_⟩
 obtain ⟨A,cap,f1,fm,f3⟩:=hs.ent _ _ _ _ _ hi
 rcases f3 with ⟨e,_⟩ | ⟨b,arr,rfl,hc0,hd,hb,hsz,hle,hrl⟩
 ·exact absurd e hne
 have hid:id<h.length:=(List.getElem?_eq_some_iff.1 hi).1
 have how:OwAt g h id b:=⟨ver,ty,st,cells,_,cap,hi,f1,hc0,rfl⟩
 refine (hc w g vs b cap arr hs ha f1 hb hsz hle hrl).mono ?_
 rintro e w' ⟨v,vs',arr',rfl,rfl,h1,h2,h3,h4,h5,h6,h7,h8,h9,hv⟩
 have hother : ∀ j,g.D j∨(∃ i,i≠id∧OwAt g h i j)∨(∃ i,RwAt h i j)→w'.heap[j]?=w.heap[j]?:=by
  rintro j (hj | ⟨i,hne',hj⟩ | ⟨i,hj⟩)
  rotate_left 2
  ·exact h9 j (hs.own_not_D (.inr ⟨i,hj⟩)).2 (fun e=>by subst e;exact hs.own_ne_raw how hj)
  ·exact h9 j (hs.lt j hj) (fun e=>hd (e ▸ hj))
  ·exact h9 j (hs.own_not_D (.inl ⟨i,hj⟩)).2 (fun e=>hne' (hs.inj i id j hj (e ▸ how)))
 obtain ⟨k1,k2,k3⟩:=hs.put (w':=w') (g':=g) (h':=h.set id (.mk ver ty st (vs'.map .v))) id ver ty st (vs'.map .v) (some ⟨b,0,none⟩) cap
  (fun i hne'=>by rw [List.getElem?_set_ne (Ne.symm hne')]) (by rw [List.getElem?_set_self hid]) (by simp) rfl (fun _ _ _ h=>h) (fun _ _ _ h=>.inl h) f1 (fun v l hv=>(hs.fresh _ _ _ hv).2 _ _ _ _ hi) hother h8 fm
  (.inr ⟨b,arr',rfl,hc0,hd,h1,by rw [h2,hsz],by rw [List.length_map,h3,h2];exact hle,by rw [List.length_map,h3,h4];exact ZjI.2 rfl⟩)
  (fun j hj _ i hne' ho=>by
   simp at hj
   subst hj
   exact hne' (hs.inj i id _ ho how))
 refine ⟨.ret c,_,g,hv,k1,k2,⟨h5,h6,h7,h8,fun k hk hn=>h9 k hk (fun e=>hn (.inl ⟨id,e ▸ how⟩))⟩,fun k hk=>?_,rfl,rfl⟩
 ·rcases k3 k hk with ho | ⟨ho,_⟩
  ·exact .inl ho
  ·simp at ho;subst ho;exact .inl (.inl ⟨id,how⟩)
end
end Go.Ab
end
section
namespace Go.Proofs.YtlekejpogddndaaGreatDoor
open Go.Ab Go.Sort
def bsL (l:List ByteArray):List Bs:=l.map aB
def sbL (l:List Bs):List ByteArray:=l.map bA
theorem sb_bs (l:List ByteArray):sbL (bsL l)=l:=by
 unfold sbL bsL;rw [List.map_map]
 have:(bA ∘ aB)=id:=by funext z;rfl
 rw [this,List.map_id]
theorem ZjG (l:List Bs):rows strC (sbL l)=(l.map encStr).map .v:=by
 unfold sbL
 induction l with
 | nil=>rfl
 | cons x l ih=>rw [List.map_cons,List.map_cons,List.map_cons,←ih];rfl
theorem ZdQ (l:List ByteArray):rows strC l=((bsL l).map encStr).map .v:=by rw [←ZjG,sb_bs]
def Zd6 (l:List ByteArray):List ByteArray:=sbL ((bsL l).mergeSort fun x y=>decide (x≤y))
def Zfa (l:List ByteArray):List Bs:=Lib.compact (bsL l)
theorem ZpA (l:List ByteArray):(Zd6 l).length=l.length:=by simp [Zd6,sbL,bsL]
end Go.Proofs.YtlekejpogddndaaGreatDoor
end
