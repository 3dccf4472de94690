/-
  Part 2 of the proof: own lemmas and contracts on plain data. No condition beyond those that each lemma states.
-/
import Derived.Test.YtlekejpogddndaaGreatDoorTf1
import Derived.WalkKit
import Derived.ProofKit
import Derived.Carry
import Derived.Lib.SmallJoins
import Derived.Deep.Slices
import Derived.Lib.IndexBytes
import Derived.RangeFuncLeaves
import Derived.Shelf.SlSortCmp.WholeK
set_option linter.all false
set_option maxRecDepth 1000000
set_option maxHeartbeats 4000000
section
namespace Go.Proofs.YtlekejpogddndaaGreatDoor
open Go.Ab Civ
theorem Ze9 {y m d:Int}{h:AH}:Ac 227 [.agg [iv y,iv m,iv d]] h (bv (Zbe y m d)):=by
 refine tI' k227 fun N hn hlt hlA hbd=>?_
 simp only[tb'] at hbd ⊢
 refine wr'<|E' (Zbd cv rfl (hl0 hn) ha0) pt<|mw<|sn'<|Zam<|Zb2<|Dw (Zab lk)<|Dw (Zac lk gx gt0)<|?_
 refine Za2 mp (fun hE hX=>Zb8) pt ?_
 refine D' (v_mv lk) pt ?_
 refine Zgo (t:=6) gt pt pt (fun hg6=>?_) (fun hg6=>?_)
 ·refine d_do gt<|Dw (Zab lk)<|d_do gt<|Dw (Zac lk gx gt1)<|d_do gt<|?_
  refine Za2 mp (fun hE hX=>Zb8) pt ?_
  refine Dw (Zak lk lk)<|Dw (v_mv lk)<|?_
  refine Zgo (t:=11) gt pt pt (fun hg11=>?_) (fun hg11=>?_)
  ·refine d_do gt<|Dw (Zab lk)<|d_do gt<|Dw (Zac lk gx gt2)<|d_do gt<|Dw (Zab lk)<|d_do gt<|Dw (Zac lk gx gt0)<|d_do gt<|Dw (Zab lk)<|d_do gt<|Dw (Zac lk gx gt1)<|d_do gt<|?_
   have hy:1≤y∧y≤9999:=by simp only[ZbA] at *;omega
   refine Za2 mp (fun hE hX=>Zib om) pt ?_
   refine d_do gt ?_
   refine Za2 mp (fun hE hX=>Zb8) pt ?_
   refine Dw (Zak lk lk)<|Dw (v_mv lk)<|ZbO<|?_
   refine Zcr ?_
   refine sn'<|Zaa<|Zae rz<|rT'<|?_
   refine bvx ?_;rw[show Zbe y m d=(wi y 1 9999&&(wi m 1 12&&wi d 1 (mlen y m))) from by unfold Zbe wi;simp[Bool.and_assoc]];simp_all
  refine d_no gt pt<|d_no gt pt<|d_no gt pt<|d_no gt pt<|d_no gt pt<|d_no gt pt<|d_no gt pt<|d_no gt pt<|Dw (Zaj lk lkb)<|Dw (v_mv lk)<|ZbO<|?_
  refine Zcr ?_
  refine sn'<|Zaa<|Zae rz<|rT'<|?_
  refine bvx ?_;rw[show Zbe y m d=(wi y 1 9999&&(wi m 1 12&&wi d 1 (mlen y m))) from by unfold Zbe wi;simp[Bool.and_assoc]];simp_all
 refine d_no gt pt<|d_no gt pt<|d_no gt pt<|Dw (Zaj lk lkb)<|Dw (v_mv lk)<|d_no gt pt<|d_no gt pt<|d_no gt pt<|d_no gt pt<|d_no gt pt<|d_no gt pt<|d_no gt pt<|d_no gt pt<|Dw (Zaj lk lkb)<|?_
 refine Dw (v_mv lk)<|ZbO<|?_
 refine Zcr ?_
 refine sn'<|Zaa<|Zae rz<|rT'<|?_
 refine bvx ?_;rw[show Zbe y m d=(wi y 1 9999&&(wi m 1 12&&wi d 1 (mlen y m))) from by unfold Zbe wi;simp[Bool.and_assoc]];simp_all
theorem Zd8 {y m d:Int}{h:AH}(y0:1≤y) (y1:y≤20000) (m0:1≤m) (m1:m≤12) (d0 : -1000≤d) (d1:d≤1000):Ac 149 [.agg [iv y,iv m,iv d]] h (iv (num y m d)):=by
 refine tI' k149 fun N hn hlt hlA hbd=>?_
 simp only[tb'] at hbd ⊢
 refine wr'<|E' (Zbd cv rfl (hl0 hn) ha0) pt<|mw<|sn'<|Zam<|Zb2<|Dw (Zab lk)<|Dw (Zac lk gx gt0)<|Dw (Zab lk)<|Dw (Zac lk gx gt1)<|?_
 refine D' (ZbB lk lki om om) pt ?_
 refine Dw (v_mv lk)<|Dw (v_mv lk)<|ZbO<|?_
 refine Zcr ?_
 refine sn'<|Zam<|wr'<|mw<|Vw (Zbc lk lki)<|sn'<|?_
 refine cd' lk (fun hc1=>?_) (fun hc1=>?_)
 ·refine wr'<|mw<|?_
  refine V' (ZbB lk lki om om) pt ?_
  refine mw<|sn'<|Zav<|mw<|?_
  refine V' (Zay lk lki om om) pt ?_
  refine mw<|sn'<|wr'<|mw<|?_
  refine V' (ZfY lk lki om om om) pt ?_
  refine V' (Zfs lk lki om om) pt ?_
  refine mv' lk pt ?_
  refine V' (ZfX lk lki om om) pt ?_
  refine V' (Zfs lk lki om om) pt ?_
  refine V' (Zay lk lk om om) pt ?_
  refine mv' lk pt ?_
  refine V' (ZfX lk lki om om) pt ?_
  refine V' (ZfY lk lki om om om) pt ?_
  refine V' (Zay lk lk om om) pt ?_
  refine mv' lk pt ?_
  refine V' (ZfX lk lki om om) pt ?_
  refine V' (ZfY lk lki om om om) pt ?_
  refine V' (ZbB lk lk om om) pt ?_
  refine mw<|sn'<|wr'<|mw<|mw<|?_
  refine V' (Zfs lki lk om om) pt ?_
  refine V' (Zay lk lki om om) pt ?_
  refine V' (ZfY lk lki om om om) pt ?_
  refine V' (Zay lk lk om om) pt ?_
  refine Vw (Zab lk)<|Vw (Zac lk gx gt2)<|?_
  refine V' (Zay lk lk om om) pt ?_
  refine V' (ZbB lk lki om om) pt ?_
  refine V' (ZbB lk lki om om) pt ?_
  refine mw<|sn'<|Zaa<|Zae rz<|rT'<|?_
  refine ivx ?_;rw[←num_ref2 m0 om]
 refine Zaf<|Zag<|wr'<|mw<|?_
 refine V' (ZfY lk lki om om om) pt ?_
 refine V' (Zfs lk lki om om) pt ?_
 refine mv' lk pt ?_
 refine V' (ZfX lk lki om om) pt ?_
 refine V' (Zfs lk lki om om) pt ?_
 refine V' (Zay lk lk om om) pt ?_
 refine mv' lk pt ?_
 refine V' (ZfX lk lki om om) pt ?_
 refine V' (ZfY lk lki om om om) pt ?_
 refine V' (Zay lk lk om om) pt ?_
 refine mv' lk pt ?_
 refine V' (ZfX lk lki om om) pt ?_
 refine V' (ZfY lk lki om om om) pt ?_
 refine V' (ZbB lk lk om om) pt ?_
 refine mw<|sn'<|wr'<|mw<|mw<|?_
 refine V' (Zfs lki lk om om) pt ?_
 refine V' (Zay lk lki om om) pt ?_
 refine V' (ZfY lk lki om om om) pt ?_
 refine V' (Zay lk lk om om) pt ?_
 refine Vw (Zab lk)<|Vw (Zac lk gx gt2)<|?_
 refine V' (Zay lk lk om om) pt ?_
 refine V' (ZbB lk lki om om) pt ?_
 refine V' (ZbB lk lki om om) pt ?_
 refine mw<|sn'<|Zaa<|Zae rz<|rT'<|?_
 refine ivx ?_;rw[←num_ref1 om m1]
theorem rfirst_a {h:AH}:Ac 74 [] h (iv (-719162)):=by
 refine tI' k74 fun N hn hlt hlA hbd=>?_
 simp only[tb'] at hbd ⊢
 refine wr'<|mw<|sn'<|wr'<|Vw (Zau (ZiZ (cvl lki rfl) rfl (cvl lki rfl) rfl (cvl lki rfl) rfl))<|?_
 refine Zad mp (Zd8 om om om om om om) pt ?_
 refine mw<|sn'<|Zaa<|Zae rz<|rT'<|?_
 exact ivx (by decide)
theorem rlast_a {h:AH}:Ac 75 [] h (iv 2932896):=by
 refine tI' k75 fun N hn hlt hlA hbd=>?_
 simp only[tb'] at hbd ⊢
 refine wr'<|mw<|sn'<|wr'<|Vw (Zau (Zi9 (cvl lki rfl) rfl (cvl lki rfl) rfl (cvl lki rfl) rfl))<|?_
 refine Zad mp (Zd8 om om om om om om) pt ?_
 refine mw<|sn'<|Zaa<|Zae rz<|rT'<|?_
 exact ivx (by decide)
theorem Zpx {n:Int}{h:AH}:Ac 229 [iv n] h (iv (wd n)):=by
 have hb1 : -6≤n.tmod 7∧n.tmod 7≤6:=by rw[Zpl];split <;> omega
 refine tI' k229 fun N hn hlt hlA hbd=>?_
 simp only[tb'] at hbd ⊢
 refine wr'<|mw<|sn'<|wr'<|mw<|?_
 refine V' (Zoi lk lki om) pt ?_
 refine mw<|sn'<|Zam<|wr'<|mw<|Vw (Zbc lk lki)<|sn'<|?_
 refine cd' lk (fun hc1=>?_) (fun hc1=>?_)
 ·refine Zav<|mw<|?_
  refine V' (Zay lk lki om om) pt ?_
  refine mw<|sn'<|wr'<|mw<|?_
  refine V' (Zay lk lki om om) pt ?_
  refine V' (ZfX lk lki om om) pt ?_
  refine mw<|sn'<|Zaa<|Zae rz<|rT'<|?_
  refine ivx ?_;unfold wd;rw[Zpl] at *;split at * <;> omega
 refine Zaf<|Zag<|wr'<|mw<|?_
 refine V' (Zay lk lki om om) pt ?_
 refine V' (ZfX lk lki om om) pt ?_
 refine mw<|sn'<|Zaa<|Zae rz<|rT'<|?_
 refine ivx ?_;unfold wd;rw[Zpl] at *;split at * <;> omega
theorem ZrI {n:Int}{h:AH}(h0 : -719162≤n) (h1:n≤2932896):Ac 230 [iv n] h (dateA (ZbT n)):=by
 refine tI' k230 fun N hn hlt hlA hbd=>?_
 simp only[tb'] at hbd ⊢
 refine wr'<|E' (ZaW (hl0 hn) ha0) pt<|sn'<|wr'<|mw<|mw<|sn'<|Zam<|Zap<|?_
 refine w_lp (ι:=Int×Int) (fun (x_:Int×Int)=>match x_ with | ⟨y,z⟩=>[(3,iv y),(4,iv z),(5,.any)]++rn' 7 15) (fun (x_:Int×Int)=>match x_ with | ⟨y,z⟩=>[]) (fun (x_:Int×Int)=>match x_ with | ⟨y,z⟩=>1≤y∧y<z∧z≤10000∧num y 1 1≤n∧n<num z 1 1) (fun (x_:Int×Int)=>match x_ with | ⟨y,z⟩=>(z-y).toNat) (⟨1,10000⟩) (by exact⟨by omega,by omega,by omega,by rw[Zr0,bef_1];omega,by rw[Zr0,Zc7];omega⟩) ?_
 rintro⟨y,z⟩ hi1
 try simp only[sm',Nat.reduceAdd]
 obtain⟨hy,hyz,hz,hn1,hn2⟩:=hi1
 refine Zam<|wr'<|mw<|mw<|?_
 refine V' (ZbB lk lk om om) pt ?_
 refine Vw (ZbC lk lki)<|sn'<|?_
 refine cd' lk (fun hc1=>?_) (fun hc1=>?_)
 ·refine Zaf<|Zag<|Zap<|wr'<|mw<|mw<|?_
  refine V' (Zay lk lk om om) pt ?_
  refine V' (ZfY lk lki om om om) pt ?_
  refine mw<|sn'<|wr'<|mw<|Vw (Zau (Zjb cv rfl (cvl lki rfl) rfl (cvl lki rfl) rfl))<|?_
  refine Zad mp (Zd8 om om om om om om) pt ?_
  refine mw<|Vw (Zdg lk lk)<|sn'<|?_
  refine cd' lk (fun hc2=>?_) (fun hc2=>?_)
  ·refine Zav<|mw<|mw<|Zar<|Zaz<|ZaB<|?_
   refine lU' (⟨(y+z)/2,z⟩) (by (try dsimp only);exact⟨by omega,by omega,by omega,by omega,by omega⟩) (by (try dsimp only);(try simp only[sm',Nat.reduceAdd]);exact ALe.same (by repeat (first | exact wk0 | refine wka ?_ | refine wk1 rfl ?_ | refine wk1 (by first | rfl | exact ivx om | (simp;done)) ?_)) rfl)
  refine Zav<|mw<|mw<|Zar<|Zaz<|ZaB<|?_
  refine lU' (⟨y,(y+z)/2⟩) (by (try dsimp only);exact⟨by omega,by omega,by omega,by omega,by omega⟩) (by (try dsimp only);(try simp only[sm',Nat.reduceAdd]);exact ALe.same (by repeat (first | exact wk0 | refine wka ?_ | refine wk1 rfl ?_ | refine wk1 (by first | rfl | exact ivx om | (simp;done)) ?_)) rfl)
 obtain rfl:z=y+1:=by omega
 have hup:num y 12 1+mlen y 12=num (y+1) 1 1:=by rw[Zr0,Zfh];unfold num cum mlen;simp;omega
 refine ZaM<|ZaD<|ZaD<|Zbb<|Zag<|wr'<|mw<|Vw (Zau (Zja cv rfl (cvl lki rfl) rfl (cvl lki rfl) rfl))<|E' (ZaW (hl1 hn) ha1) pt<|E' (Zai lk cv gx rfl (nb' rfl) rfl Zbz (hs1 hn)) ptn<|sn'<|Zam<|?_
 refine Zap ?_
 refine w_lp (ι:=Int) (fun (m:Int)=>[]++rn' 24 8) (fun (m:Int)=>[(1,.mk 0 59 3 [iv y,iv m,iv 1])]) (fun (m:Int)=>1≤m∧m≤12∧n<num y m 1+mlen y m) (fun (m:Int)=>m.toNat) (12) (by exact⟨by omega,by omega,by rw[hup];exact hn2⟩) ?_
 rintro m hi2
 try simp only[sm',Nat.reduceAdd]
 obtain⟨hm0,hm1,hn3⟩:=hi2
 refine Zam<|wr'<|Vw (Zao lk gx Zbi rfl)<|?_
 refine Zad mp (Zd8 om om om om om om) pt ?_
 refine mw<|Vw (ZbC lk lk)<|sn'<|?_
 refine cd' lk (fun hc3=>?_) (fun hc3=>?_)
 ·have hm2:2≤m:=by
   rcases Int.lt_or_le m 2 with c | c
   ·obtain rfl:m=1:=by omega
    omega
   exact c
  have hst:num y (m-1) 1+mlen y (m-1)=num y m 1:=by have:=Zgp (y:=y) (m:=m-1) om om;rw[show m-1+1=m by omega] at this;unfold num;omega
  refine Zaf<|Zag<|Zap<|Zav<|Vw (Zab lk)<|Vw (Zac lk gx gt1)<|?_
  refine V' (ZbB lk lki om om) pt ?_
  refine Vw (Zab lk)<|E' (Zai lk cv gx rfl (nb' rfl) rfl ZqW (hs1 hn)) ptn<|Zar<|Zaz<|ZaB<|?_
  refine lT' (m-1) (by (try dsimp only);exact⟨by omega,by omega,by rw[hst];exact hc3⟩)
 have hd:Zbe y m (n-num y m 1+1)=true:=by
  have h1:=ZoI (Zcn.2 ⟨hy,by omega,hm0,hm1,by omega,by have:=Zd1 y m;omega⟩:Zbe y m 1=true)
  rw[Zcn];omega
 have hdn:num y m (n-num y m 1+1)=n:=by unfold num;omega
 have hde:=ZsM hd hdn
 have hnb:=ZkE (y:=y) (m:=m) ⟨hy,by omega⟩ ⟨hm0,hm1⟩
 refine ZaM<|ZaD<|ZaD<|Zbb<|Zag<|wr'<|mw<|Vw (Zao lk gx Zbi rfl)<|?_
 refine Zad mp (Zd8 om om om om om om) pt ?_
 refine V' (ZbB lk lk om om) pt ?_
 refine V' (Zay lk lki om om) pt ?_
 refine Vw (Zab lk)<|E' (Zai lk cv gx rfl (nb' rfl) rfl ZqV (hs1 hn)) ptn<|sn'<|wr'<|Vw (Zao lk gx Zbi rfl)<|E' (Zai lk cv gx rfl (nb' rfl) rfl Zbz (hs0 hn)) ptn<|sn'<|Zaa<|Zae (rs1 (rr_c gt gx (ld1 Zbi rfl)))<|rT'<|?_
 rw[hde]
def onSt (y m k n:Int):Int:=num y m 1-1+if k=2 then mlen y m else n
def onGo (k wk s:Int) (j:Nat):Int:=if k=3 then s+j else s-j
def ZgQ (k wk s:Int):Int:=if k≤1 then 0 else if k=3 then (wk-wd s)%7 else (wd s-wk)%7
theorem ZhF (k wk s:Int):0≤ZgQ k wk s∧ZgQ k wk s≤6:=by
 unfold ZgQ
 repeat' split
 all_goals omega
theorem onGo_go {k wk s:Int}{j:Nat}(hw:0≤wk∧wk≤6) (hj:(j:Int)≤ZgQ k wk s) (h:j<7∧1<k∧wd (onGo k wk s j)≠wk):(j:Int)+1≤ZgQ k wk s:=by
 have h1:=Zq4 (n:=s) (k:=wk) (j:=j) om
 have h2:=Zq5 (n:=s) (k:=wk) (j:=j) om
 unfold ZgQ onGo at *
 rw[if_neg om] at hj ⊢
 split at hj <;> rename_i h3
 ·simp only[h3,if_true] at h ⊢
  have:=h1 hj hw
  omega
 simp only[h3,if_false] at h ⊢
 have:=h2 hj hw
 omega
theorem onGo_end {y m k wk n:Int}{j:Nat}(hk:1≤k∧k≤4) (hw:0≤wk∧wk≤6) (hj:(j:Int)≤ZgQ k wk (onSt y m k n)) (h:¬(j<7∧1<k∧wd (onGo k wk (onSt y m k n) j)≠wk)):Zda y m k wk n=onGo k wk (onSt y m k n) j:=by
 have hb:=ZhF k wk (onSt y m k n)
 have h1:=Zq4 (n:=onSt y m k n) (k:=wk) (j:=j) om
 have h2:=Zq5 (n:=onSt y m k n) (k:=wk) (j:=j) om
 have e1:=ZpF y m n
 have e2:=ZpF y m (mlen y m)
 have h5:k=1∨k=2∨k=3∨k=4:=by omega
 rcases h5 with rfl | rfl | rfl | rfl
 ·simp only[ZgQ,onGo,onSt,Zda,fwd,bwd] at *
  simp at hj ⊢
  omega
 ·simp only[ZgQ,onGo,onSt,Zda,fwd,bwd] at *
  simp at hj h h1 h2 ⊢
  rw[show num y m (mlen y m)=num y m 1-1+mlen y m by omega]
  omega
 ·simp only[ZgQ,onGo,onSt,Zda,fwd,bwd] at *
  simp at hj h h1 h2 ⊢
  rw[show num y m n=num y m 1-1+n by omega]
  omega
 simp only[ZgQ,onGo,onSt,Zda,fwd,bwd] at *
 simp at hj h h1 h2 ⊢
 rw[show num y m n=num y m 1-1+n by omega]
 omega
theorem onSt_bd {y m k n:Int}(hy:1≤y∧y≤20000) (hm:1≤m∧m≤12) (hn:k≠2→1≤n∧n≤mlen y m) : -8000010≤onSt y m k n∧onSt y m k n≤8000040:=by
 have h1:=ZkE hy hm
 have h2:=Zd1 y m
 unfold onSt;split
 ·omega
 have:=hn (by assumption);omega
theorem onGo_bd {k wk s:Int}{j:Nat}(h:(j:Int)≤ZgQ k wk s):s-6≤onGo k wk s j∧onGo k wk s j≤s+6:=by
 have:=ZhF k wk s
 unfold onGo;split <;> omega
theorem wiB {n a b:Int}:wi n a b=decide (a≤n∧n≤b):=by unfold wi;rw[Bool.decide_and]
theorem ron_a {y m k wk n:Int}{h:AH}:Ac 153 [iv y,iv m,.agg [iv k,iv wk,iv n]] h (.tup [.agg [iv (onV y m k wk n).1.1,iv (onV y m k wk n).1.2.1,iv (onV y m k wk n).1.2.2],iv (onV y m k wk n).2]):=by
 refine tI' k153 fun N hn hlt hlA hbd=>?_
 simp only[tb'] at hbd ⊢
 refine wr'<|E' (Zbd cv rfl (hl0 hn) ha0) pt<|E' (ZaW (hl1 hn) ha1) pt<|mw<|sn'<|Zam<|?_
 refine ZfV (ι:=Unit) (fun (u_:Unit)=>[(18,bv (decide (¬(1≤y∧y≤9999)∨¬(1≤m∧m≤12))))]++rn' 11 7) (fun (u_:Unit)=>[]) (fun (u_:Unit)=>True) ?_ ?_
 ·try simp only[sm',Nat.reduceAdd]
  refine Zav<|mw<|Zad mp (Zb8) pt<|Vw (Zax lk)<|mw<|?_
  refine ZaF (t:=14) gt pt pt (fun hg14=>?_) (fun hg14=>?_)
  ·refine s_no gt pt<|s_no gt pt<|s_no gt pt<|Vw (Zak lk lkb)<|Zar<|ZaB<|?_
   exact cT' (()) (by trivial) (by (try dsimp only);(try simp only[sm',Nat.reduceAdd]);exact ALe.same (by repeat (first | exact wk0 | refine wka ?_ | refine wk1 rfl ?_ | refine wk1 (by first | rfl | exact bvx (by first | (simp_all [wiB];done) | (rw[Bool.eq_iff_iff];simp_all [wiB];omega) | (rw[Bool.eq_iff_iff];simp_all [wiB];done))) ?_)) rfl)
  refine s_do gt<|mw<|s_do gt<|Zad mp (Zb8) pt<|s_do gt<|Vw (Zax lk)<|Vw (Zaj lk lk)<|Zar<|ZaB<|?_
  exact cT' (()) (by trivial) (by (try dsimp only);(try simp only[sm',Nat.reduceAdd]);exact ALe.same (by repeat (first | exact wk0 | refine wka ?_ | refine wk1 rfl ?_ | refine wk1 (by first | rfl | exact bvx (by first | (simp_all [wiB];done) | (rw[Bool.eq_iff_iff];simp_all [wiB];omega) | (rw[Bool.eq_iff_iff];simp_all [wiB];done))) ?_)) rfl)
 rintro u_ hq2
 try simp only[sm',Nat.reduceAdd]
 refine cd' lk (fun hc1=>?_) (fun hc1=>?_)
 ·have hv:=Zjr (y:=y) (m:=m) (kind:=k) (wk:=wk) (n:=n) (k:=3) (by unfold ZbV;rw[if_pos hc1]) om
  refine wr'<|Vw (Zau ZmK)<|E' (Zai lk cv gx rfl (nb' rfl) rfl Zbz (hs1 hn)) ptn<|mw<|sn'<|Zaa<|Zah<|Zae (rsn (rm1 (rr_c gt gx (ld1 Zbi rfl)) (rm1 (rr_t gt) rm0)))<|rT'<|?_
  rw[hv]
 have hym:(1≤y∧y≤9999)∧(1≤m∧m≤12):=by omega
 refine Zaf<|Zag<|Zam<|wr'<|Vw (Zab lk)<|Vw (Zac lk gx gt0)<|Zad mp (Zb8) pt<|Vw (Zax lk)<|sn'<|?_
 refine Zaw lk (fun hc2=>?_) (fun hc2=>?_)
 ·have hk:¬(1≤k∧k≤4):=by have h9:=hc2;simp[wiB] at h9;omega
  have hv:=Zjr (y:=y) (m:=m) (kind:=k) (wk:=wk) (n:=n) (k:=7) (by unfold ZbV;rw[if_neg hc1,if_pos hk]) om
  refine wr'<|Vw (Zau ZmJ)<|E' (Zai lk cv gx rfl (nb' rfl) rfl Zbz (hs1 hn)) ptn<|mw<|sn'<|Zaa<|Zah<|Zae (rsn (rm1 (rr_c gt gx (ld1 Zbi rfl)) (rm1 (rr_t gt) rm0)))<|rT'<|?_
  rw[hv]
 have hk:1≤k∧k≤4:=by have h9:=hc2;simp[wiB] at h9;omega
 refine Zaf<|Zag<|Zam<|?_
 refine ZfV (ι:=Unit) (fun (u_:Unit)=>[(38,bv (decide (¬(0≤wk∧wk≤6)∨k=1∧wk≠0)))]++rn' 25 13) (fun (u_:Unit)=>[]) (fun (u_:Unit)=>True) ?_ ?_
 ·try simp only[sm',Nat.reduceAdd]
  refine Zav<|Vw (Zab lk)<|Vw (Zac lk gx gt1)<|Zad mp (Zb8) pt<|Vw (Zax lk)<|mw<|?_
  refine ZaF (t:=29) gt pt pt (fun hg29=>?_) (fun hg29=>?_)
  ·refine s_no gt pt<|s_no gt pt<|s_no gt pt<|s_no gt pt<|s_nu gt pt<|s_nu gt pt<|s_nu gt pt<|s_no gt pt<|Vw (Zak lk lkb)<|Zar<|ZaB<|?_
   exact cT' (()) (by trivial) (by (try dsimp only);(try simp only[sm',Nat.reduceAdd]);exact ALe.same (by repeat (first | exact wk0 | refine wka ?_ | refine wk1 rfl ?_ | refine wk1 (by first | rfl | exact bvx (by first | (simp_all [wiB];done) | (rw[Bool.eq_iff_iff];simp_all [wiB];omega) | (rw[Bool.eq_iff_iff];simp_all [wiB];done))) ?_)) rfl)
  refine s_do gt<|Vw (Zab lk)<|s_do gt<|Vw (Zac lk gx gt0)<|s_do gt<|Vw (ZaQ lk lki)<|s_do gt<|mw<|?_
  refine sp' (t:=33) gt pt pt (fun hg33=>?_) (fun hg33=>?_)
  ·refine s_do gt<|Vw (Zab lk)<|s_do gt<|Vw (Zac lk gx gt1)<|s_do gt<|Vw (ZaX lk lki)<|s_do gt<|Vw (Zak lk lk)<|Vw (Zaj lk lk)<|Zar<|ZaB<|?_
   exact cT' (()) (by trivial) (by (try dsimp only);(try simp only[sm',Nat.reduceAdd]);exact ALe.same (by repeat (first | exact wk0 | refine wka ?_ | refine wk1 rfl ?_ | refine wk1 (by first | rfl | exact bvx (by first | (simp_all [wiB];done) | (rw[Bool.eq_iff_iff];simp_all [wiB];omega) | (rw[Bool.eq_iff_iff];simp_all [wiB];done))) ?_)) rfl)
  refine s_no gt pt<|s_no gt pt<|s_no gt pt<|s_do gt<|Vw (Zaj lk lkb)<|Vw (Zaj lk lk)<|Zar<|ZaB<|?_
  exact cT' (()) (by trivial) (by (try dsimp only);(try simp only[sm',Nat.reduceAdd]);exact ALe.same (by repeat (first | exact wk0 | refine wka ?_ | refine wk1 rfl ?_ | refine wk1 (by first | rfl | exact bvx (by first | (simp_all [wiB];done) | (rw[Bool.eq_iff_iff];simp_all [wiB];omega) | (rw[Bool.eq_iff_iff];simp_all [wiB];done))) ?_)) rfl)
 rintro u_ hq8
 try simp only[sm',Nat.reduceAdd]
 refine cd' lk (fun hc3=>?_) (fun hc3=>?_)
 ·have hv:=Zjr (y:=y) (m:=m) (kind:=k) (wk:=wk) (n:=n) (k:=3) (by unfold ZbV;rw[if_neg hc1,if_neg om,if_pos hc3]) om
  refine wr'<|Vw (Zau ZmI)<|E' (Zai lk cv gx rfl (nb' rfl) rfl Zbz (hs1 hn)) ptn<|mw<|sn'<|Zaa<|Zah<|Zae (rsn (rm1 (rr_c gt gx (ld1 Zbi rfl)) (rm1 (rr_t gt) rm0)))<|rT'<|?_
  rw[hv]
 refine Zaf<|Zag<|wr'<|mw<|mw<|?_
 refine Zad mp (Zib om) pt ?_
 refine mw<|sn'<|Zam<|?_
 refine ZfV (ι:=Unit) (fun (u_:Unit)=>[(62,bv (decide (k=2∧n≠0∨k≠2∧¬(1≤n∧n≤mlen y m))))]++rn' 43 19) (fun (u_:Unit)=>[]) (fun (u_:Unit)=>True) ?_ ?_
 ·try simp only[sm',Nat.reduceAdd]
  refine Zav<|Vw (Zab lk)<|Vw (Zac lk gx gt0)<|Vw (ZaQ lk lki)<|mw<|?_
  refine sp' (t:=46) gt pt pt (fun hg46=>?_) (fun hg46=>?_)
  ·refine s_do gt<|Vw (Zab lk)<|s_do gt<|Vw (Zac lk gx gt2)<|s_do gt<|Vw (ZaX lk lki)<|Vw (Zak lk lk)<|mw<|?_
   refine sp' (t:=51) gt pt pt (fun hg51=>?_) (fun hg51=>?_)
   ·refine s_no gt pt<|s_no gt pt<|s_no gt pt<|s_no gt pt<|s_nu gt pt<|s_nu gt pt<|s_nu gt pt<|s_nu gt pt<|s_nu gt pt<|s_no gt pt<|Vw (Zak lk lkb)<|Zar<|ZaB<|?_
    exact cT' (()) (by trivial) (by (try dsimp only);(try simp only[sm',Nat.reduceAdd]);exact ALe.same (by repeat (first | exact wk0 | refine wka ?_ | refine wk1 rfl ?_ | refine wk1 (by first | rfl | exact bvx (by first | (simp_all [wiB];done) | (rw[Bool.eq_iff_iff];simp_all [wiB];omega) | (rw[Bool.eq_iff_iff];simp_all [wiB];done))) ?_)) rfl)
   refine s_do gt<|Vw (Zab lk)<|s_do gt<|Vw (Zac lk gx gt0)<|s_do gt<|Vw (ZaX lk lki)<|s_do gt<|mw<|?_
   refine sp' (t:=55) gt pt pt (fun hg55=>?_) (fun hg55=>?_)
   ·refine s_do gt<|Vw (Zab lk)<|s_do gt<|Vw (Zac lk gx gt2)<|s_do gt<|mw<|s_do gt<|Zad mp (Zb8) pt<|s_do gt<|Vw (Zax lk)<|s_do gt<|Vw (Zak lk lk)<|Vw (Zaj lk lk)<|Zar<|?_
    refine ZaB ?_
    exact cT' (()) (by trivial) (by (try dsimp only);(try simp only[sm',Nat.reduceAdd]);exact ALe.same (by repeat (first | exact wk0 | refine wka ?_ | refine wk1 rfl ?_ | refine wk1 (by first | rfl | exact bvx (by first | (simp_all [wiB];done) | (rw[Bool.eq_iff_iff];simp_all [wiB];omega) | (rw[Bool.eq_iff_iff];simp_all [wiB];done))) ?_)) rfl)
   refine s_no gt pt<|s_no gt pt<|s_no gt pt<|s_no gt pt<|s_no gt pt<|s_do gt<|Vw (Zaj lk lkb)<|Vw (Zaj lk lk)<|Zar<|ZaB<|?_
   exact cT' (()) (by trivial) (by (try dsimp only);(try simp only[sm',Nat.reduceAdd]);exact ALe.same (by repeat (first | exact wk0 | refine wka ?_ | refine wk1 rfl ?_ | refine wk1 (by first | rfl | exact bvx (by first | (simp_all [wiB];done) | (rw[Bool.eq_iff_iff];simp_all [wiB];omega) | (rw[Bool.eq_iff_iff];simp_all [wiB];done))) ?_)) rfl)
  refine s_no gt pt<|s_no gt pt<|s_no gt pt<|Vw (Zaj lk lkb)<|mw<|s_do gt<|Vw (Zab lk)<|s_do gt<|Vw (Zac lk gx gt0)<|s_do gt<|Vw (ZaX lk lki)<|s_do gt<|mw<|?_
  refine sp' (t:=55) gt pt pt (fun hg55=>?_) (fun hg55=>?_)
  ·refine s_do gt<|Vw (Zab lk)<|s_do gt<|Vw (Zac lk gx gt2)<|s_do gt<|mw<|s_do gt<|Zad mp (Zb8) pt<|s_do gt<|Vw (Zax lk)<|s_do gt<|Vw (Zak lk lk)<|Vw (Zaj lk lk)<|Zar<|?_
   refine ZaB ?_
   exact cT' (()) (by trivial) (by (try dsimp only);(try simp only[sm',Nat.reduceAdd]);exact ALe.same (by repeat (first | exact wk0 | refine wka ?_ | refine wk1 rfl ?_ | refine wk1 (by first | rfl | exact bvx (by first | (simp_all [wiB];done) | (rw[Bool.eq_iff_iff];simp_all [wiB];omega) | (rw[Bool.eq_iff_iff];simp_all [wiB];done))) ?_)) rfl)
  refine s_no gt pt<|s_no gt pt<|s_no gt pt<|s_no gt pt<|s_no gt pt<|s_do gt<|Vw (Zaj lk lkb)<|Vw (Zaj lk lk)<|Zar<|ZaB<|?_
  exact cT' (()) (by trivial) (by (try dsimp only);(try simp only[sm',Nat.reduceAdd]);exact ALe.same (by repeat (first | exact wk0 | refine wka ?_ | refine wk1 rfl ?_ | refine wk1 (by first | rfl | exact bvx (by first | (simp_all [wiB];done) | (rw[Bool.eq_iff_iff];simp_all [wiB];omega) | (rw[Bool.eq_iff_iff];simp_all [wiB];done))) ?_)) rfl)
 rintro u_ hq12
 try simp only[sm',Nat.reduceAdd]
 refine cd' lk (fun hc4=>?_) (fun hc4=>?_)
 ·have hv:=Zjr (y:=y) (m:=m) (kind:=k) (wk:=wk) (n:=n) (k:=3) (by unfold ZbV;rw[if_neg hc1,if_neg om,if_neg hc3,if_pos hc4]) om
  refine wr'<|Vw (Zau ZmH)<|E' (Zai lk cv gx rfl (nb' rfl) rfl Zbz (hs1 hn)) ptn<|mw<|sn'<|Zaa<|Zah<|Zae (rsn (rm1 (rr_c gt gx (ld1 Zbi rfl)) (rm1 (rr_t gt) rm0)))<|rT'<|?_
  rw[hv]
 have he:ZbV y m k wk n=0:=by unfold ZbV;rw[if_neg hc1,if_neg om,if_neg hc3,if_neg hc4]
 have hw:0≤wk∧wk≤6:=by omega
 have hsb:=onSt_bd (y:=y) (m:=m) (k:=k) (n:=n) ⟨hym.1.1,by omega⟩ hym.2 om
 have hnb:=ZkE (y:=y) (m:=m) ⟨hym.1.1,by omega⟩ hym.2
 have hml:=Zd1 y m
 have hn':0≤n∧n≤31:=by omega
 refine Zaf<|Zag<|wr'<|mw<|mw<|Vw (Zau (ZmG cv rfl cv rfl (cvl lki rfl) rfl))<|?_
 refine Zad mp (Zd8 om om om om om om) pt ?_
 refine V' (ZbB lk lki om om) pt ?_
 refine mw<|sn'<|?_
 refine ZfV (ι:=Unit) (fun (u_:Unit)=>[(9,iv (onSt y m k n))]++rn' 69 17) (fun (u_:Unit)=>[]) (fun (u_:Unit)=>True) ?_ ?_
 ·try simp only[sm',Nat.reduceAdd]
  refine wr'<|Vw (Zab lk)<|Vw (Zac lk gx gt0)<|sn'<|Zap<|wr'<|Vw (ZaQ lk lki)<|mw<|sn'<|?_
  refine cd' lk (fun hc5=>?_) (fun hc5=>?_)
  ·refine Zav<|mw<|Vw (Zab lk)<|Vw (Zac lk gx gt2)<|?_
   refine V' (Zay lk lk om om) pt ?_
   refine mw<|Zar<|Zaz<|ZaB<|?_
   exact cT' (()) (by trivial) (by (try dsimp only);(try simp only[sm',Nat.reduceAdd]);exact ALe.same (by repeat (first | exact wk0 | refine wka ?_ | refine wk1 rfl ?_ | refine wk1 (by first | rfl | exact ivx (by unfold onSt;simp_all) | exact ivx (by unfold onSt;rw[if_neg om])) ?_)) rfl)
  refine wr'<|Vw (ZaQ lk lki)<|mw<|sn'<|?_
  refine cd' lk (fun hc6=>?_) (fun hc6=>?_)
  ·refine Zav<|mw<|mw<|?_
   refine V' (Zay lk lk om om) pt ?_
   refine mw<|Zar<|Zaz<|ZaB<|?_
   exact cT' (()) (by trivial) (by (try dsimp only);(try simp only[sm',Nat.reduceAdd]);exact ALe.same (by repeat (first | exact wk0 | refine wka ?_ | refine wk1 rfl ?_ | refine wk1 (by first | rfl | exact ivx (by unfold onSt;simp_all) | exact ivx (by unfold onSt;rw[if_neg om])) ?_)) rfl)
  refine Zav<|mw<|Vw (Zab lk)<|Vw (Zac lk gx gt2)<|?_
  refine V' (Zay lk lk om om) pt ?_
  refine mw<|Zar<|Zaz<|ZaB<|?_
  exact cT' (()) (by trivial) (by (try dsimp only);(try simp only[sm',Nat.reduceAdd]);exact ALe.same (by repeat (first | exact wk0 | refine wka ?_ | refine wk1 rfl ?_ | refine wk1 (by first | rfl | exact ivx (by unfold onSt;simp_all) | exact ivx (by unfold onSt;rw[if_neg om])) ?_)) rfl)
 rintro u_ hq19
 try simp only[sm',Nat.reduceAdd]
 refine Zam<|wr'<|mw<|sn'<|Zap<|?_
 refine ZfW (ι:=Nat) (fun (j:Nat)=>[(9,iv (onGo k wk (onSt y m k n) j)),(10,iv (j:Int))]++rn' 86 23) (fun (j:Nat)=>[]) (fun (j:Nat)=>(j:Int)≤ZgQ k wk (onSt y m k n)) (fun (j:Nat)=>7-j) (0) (by exact (ZhF _ _ _).1) (by try simp only[sm',Nat.reduceAdd];exact ALe.same (by repeat (first | exact wk0 | refine wka ?_ | refine wk1 rfl ?_ | refine wk1 (by first | rfl | exact ivx (by unfold onGo;simp)) ?_)) rfl) ?_
 rintro j hi1
 try simp only[sm',Nat.reduceAdd]
 have hgb:=onGo_bd hi1
 have hfb:=ZhF k wk (onSt y m k n)
 refine Zam ?_
 refine ZfV (ι:=Unit) (fun (u_:Unit)=>[(99,bv (decide (j<7∧1<k∧wd (onGo k wk (onSt y m k n) j)≠wk)))]++rn' 86 13) (fun (u_:Unit)=>[]) (fun (u_:Unit)=>True) ?_ ?_
 ·try simp only[sm',Nat.reduceAdd]
  refine Zb2<|Dw (v_mv lk)<|Dw (Zbc lk lki)<|Dw (v_mv lk)<|?_
  refine dq' (t:=88) gt pt pt (fun hg88=>?_) (fun hg88=>?_)
  ·refine d_do gt<|Dw (Zab lk)<|d_do gt<|Dw (Zac lk gx gt0)<|d_do gt<|Dw (ZbC lk lki)<|Dw (Zak lk lk)<|Dw (v_mv lk)<|?_
   refine dq' (t:=93) gt pt pt (fun hg93=>?_) (fun hg93=>?_)
   ·refine d_do gt<|Dw (v_mv lk)<|d_do gt<|?_
    refine Za2 mp (fun hE hX=>Zpx) pt ?_
    refine d_do gt<|Dw (Zab lk)<|d_do gt<|Dw (Zac lk gx gt1)<|d_do gt<|Dw (ZaX lk lk)<|Dw (Zak lk lk)<|ZbO<|?_
    refine Zcr ?_
    refine Zar<|ZaB<|?_
    exact cT' (()) (by trivial) (by (try dsimp only);(try simp only[sm',Nat.reduceAdd]);exact ALe.same (by repeat (first | exact wk0 | refine wka ?_ | refine wk1 rfl ?_ | refine wk1 (by first | rfl | exact bvx (by first | (simp_all [wiB];done) | (rw[Bool.eq_iff_iff];simp_all [wiB];omega) | (rw[Bool.eq_iff_iff];simp_all [wiB];done))) ?_)) rfl)
   refine d_no gt pt<|d_no gt pt<|d_no gt pt<|d_no gt pt<|d_no gt pt<|Dw (Zaj lk lkb)<|ZbO<|?_
   refine Zcr ?_
   refine Zar<|ZaB<|?_
   exact cT' (()) (by trivial) (by (try dsimp only);(try simp only[sm',Nat.reduceAdd]);exact ALe.same (by repeat (first | exact wk0 | refine wka ?_ | refine wk1 rfl ?_ | refine wk1 (by first | rfl | exact bvx (by first | (simp_all [wiB];done) | (rw[Bool.eq_iff_iff];simp_all [wiB];omega) | (rw[Bool.eq_iff_iff];simp_all [wiB];done))) ?_)) rfl)
  refine d_no gt pt<|d_no gt pt<|d_no gt pt<|Dw (Zaj lk lkb)<|Dw (v_mv lk)<|d_no gt pt<|d_no gt pt<|d_no gt pt<|d_no gt pt<|d_no gt pt<|Dw (Zaj lk lkb)<|ZbO<|?_
  refine Zcr ?_
  refine Zar<|ZaB<|?_
  exact cT' (()) (by trivial) (by (try dsimp only);(try simp only[sm',Nat.reduceAdd]);exact ALe.same (by repeat (first | exact wk0 | refine wka ?_ | refine wk1 rfl ?_ | refine wk1 (by first | rfl | exact bvx (by first | (simp_all [wiB];done) | (rw[Bool.eq_iff_iff];simp_all [wiB];omega) | (rw[Bool.eq_iff_iff];simp_all [wiB];done))) ?_)) rfl)
 rintro u_ hq21
 try simp only[sm',Nat.reduceAdd]
 refine cd' lk (fun hc7=>?_) (fun hc7=>?_)
 ·have hgo:=onGo_go hw hi1 hc7
  refine Zaf<|Zag<|Zam<|Zap<|wr'<|Vw (Zab lk)<|Vw (Zac lk gx gt0)<|Vw (ZaQ lk lki)<|sn'<|?_
  refine cd' lk (fun hc8=>?_) (fun hc8=>?_)
  ·refine Zav<|mw<|?_
   refine V' (Zay lk lki om om) pt ?_
   refine mw<|Zar<|Zaz<|Zag<|Zav<|mw<|?_
   refine V' (Zay lk lki om om) pt ?_
   refine mw<|Zar<|ZaB<|?_
   refine lU' (j+1) (by (try dsimp only);omega) (by (try dsimp only);(try simp only[sm',Nat.reduceAdd]);exact ALe.same (by repeat (first | exact wk0 | refine wka ?_ | refine wk1 rfl ?_ | refine wk1 (by first | rfl | exact ivx (by unfold onGo;simp_all;omega) | exact ivx om) ?_)) rfl)
  refine Zav<|mw<|?_
  refine V' (ZbB lk lki om om) pt ?_
  refine mw<|Zar<|Zaz<|Zag<|Zav<|mw<|?_
  refine V' (Zay lk lki om om) pt ?_
  refine mw<|Zar<|ZaB<|?_
  refine lU' (j+1) (by (try dsimp only);omega) (by (try dsimp only);(try simp only[sm',Nat.reduceAdd]);exact ALe.same (by repeat (first | exact wk0 | refine wka ?_ | refine wk1 rfl ?_ | refine wk1 (by first | rfl | exact ivx (by unfold onGo;simp_all;omega) | exact ivx om) ?_)) rfl)
 have hd:=onGo_end hk hw hi1 hc7
 rw[←hd]
 refine ZaM<|ZaD<|ZaD<|Zbb<|Zag<|Zam<|wr'<|mw<|Zad mp0 (rfirst_a) pt<|Zad mp0 (rlast_a) pt<|Zad mp (Zb8) pt<|Vw (Zax lk)<|Zar<|?_
 refine Zag ?_
 refine Zaw lk (fun hc9=>?_) (fun hc9=>?_)
 ·have hr:¬(-719162≤Zda y m k wk n∧Zda y m k wk n≤2932896):=by have h9:=hc9;simp[wiB] at h9;omega
  refine wr'<|Vw (Zau Zlb)<|E' (Zai lk cv gx rfl (nb' rfl) rfl Zbz (hs1 hn)) ptn<|mw<|sn'<|Zaa<|Zah<|Zae (rsn (rm1 (rr_c gt gx (ld1 Zbi rfl)) (rm1 (rr_t gt) rm0)))<|rT'<|?_
  rw[Zii he rfl,if_neg hr]
 have hr : -719162≤Zda y m k wk n∧Zda y m k wk n≤2932896:=by have h9:=hc9;simp[wiB] at h9;omega
 refine Zaf<|Zag<|wr'<|mw<|Zad mp (ZrI hr.1 hr.2) pt<|E' (Zai lk cv gx rfl (nb' rfl) rfl Zbz (hs1 hn)) ptn<|mw<|sn'<|Zaa<|Zae (rsn (rm1 (rr_c gt gx (ld1 Zbi rfl)) (rm1 (rr_t gt) rm0)))<|rT'<|?_
 rw[Zii he rfl,if_pos hr]
end Go.Proofs.YtlekejpogddndaaGreatDoor
end
section
namespace Go.Proofs.YtlekejpogddndaaGreatDoor
open Go.Ab Go.RowKit
def c232:AC:=(Sr [Mb 6 false] (Sr [Mv 7 0,Mv 8 1,Bn 9 .geq 7 8,Mv 10 9,Ot 11 10 (mt 0),Ot 12 10 (mt 2),Ot 13 10 (.bin .leq (.tmp 11) (.tmp 12)),Oo 14 (.pick (.tmp 10) (.tmp 13) (.const (.bool false))),Mv 6 14] .ret))
theorem k232:ZaA Tryz.prog 232=some ⟨c232,[(.tmp 6)],15⟩:=by kernel_rfl
def c233:AC:=(Sr [Mb 4 false] (Sr [Mv 5 0,Cl 6 232 [(.tmp 5),(Ci 1),(Ci 3)],Mv 7 6,Ot 8 7 (mt 1),Ot 9 7 (mt 8),Of 10 9 (mt 0),Of 11 9 (.bin .neq (.tmp 10) (Ci 1)),Ot 12 7 (.pick (.tmp 9) (.const (.bool true)) (.tmp 11)),Oo 13 (.pick (.tmp 7) (.tmp 12) (.const (.bool false))),Mv 4 13] .ret))
theorem k233:ZaA Tryz.prog 233=some ⟨c233,[(.tmp 4)],14⟩:=by kernel_rfl
def c179:AC:=(Sr [Mb 2 false] (Sr [Mv 3 0,Cl 4 177 [(.tmp 3)],Mv 5 4,Of 6 5 (mt 0),Of 7 5 (.call (.func 180) [(.tmp 6)]),Oo 8 (.pick (.tmp 5) (.const (.bool true)) (.tmp 7)),Mv 9 8,Of 10 9 (mt 0),Of 11 9 (.call (.func 181) [(.const (.string ⟨#[95,45,47,43]⟩)),(.tmp 10)]),Of 12 9 (.bin .geq (.tmp 11) (Ci 0)),Oo 13 (.pick (.tmp 9) (.const (.bool true)) (.tmp 12)),Mv 2 13] .ret))
theorem k179:ZaA Tryz.prog 179=some ⟨c179,[(.tmp 2)],14⟩:=by kernel_rfl
def c112:AC:=(Sr [Mb 2 false] (Sr [Mv 3 0,Oo 4 (.bin .neq (.tmp 3) (.const (.string ⟨#[]⟩))),Mv 5 4,Ot 6 5 (mt 0),Ot 7 5 (.len true (.tmp 6)),Ot 8 5 (.bin .leq (.tmp 7) (Ci 24)),Oo 9 (.pick (.tmp 5) (.tmp 8) (.const (.bool false))),Mv 10 9,Ot 11 10 (mt 0),Ot 12 10 (.ix (.tmp 11) (Ci 0)),Ot 13 10 (.call (.func 177) [(.tmp 12)]),Oo 14 (.pick (.tmp 10) (.tmp 13) (.const (.bool false))),Mv 15 14,Ot 16 15 (mt 0),Ot 17 15 (.call (.func 178) [(.tmp 16),(.func 179)]),Oo 18 (.pick (.tmp 15) (.tmp 17) (.const (.bool false))),Mv 2 18] .ret))
theorem k112:ZaA Tryz.prog 112=some ⟨c112,[(.tmp 2)],19⟩:=by kernel_rfl
def c231:AC:=(Sr [Mb 2 false] (Sr [Mv 3 0,Oo 4 (.len true (.tmp 3)),Bc 5 .leq 4 24,Mv 6 5,Ot 7 6 (mt 0),Ot 8 6 (.call (.func 178) [(.tmp 7),(.func 177)]),Oo 9 (.pick (.tmp 6) (.tmp 8) (.const (.bool false))),Mv 2 9] .ret))
theorem k231:ZaA Tryz.prog 231=some ⟨c231,[(.tmp 2)],10⟩:=by kernel_rfl
def c310:AC:=(Sr [Mb 2 false] (.seq (Sr [Mv 6 0,Oo 7 (.bin .eql (.tmp 6) (.const (.string ⟨#[]⟩))),Mv 8 7,Of 9 8 (mt 0),Of 10 8 (.len true (.tmp 9)),Of 11 8 (.bin .gtr (.tmp 10) (Ci 24)),Oo 12 (.pick (.tmp 8) (.const (.bool true)) (.tmp 11))] (Cd 12 (Sr [Mb 2 false] .ret) .skip)) (Sr [Mv 14 0,Oo 15 (.call (.func 320) [(.tmp 14),(.const (.string ⟨#[47]⟩))]),Mv 13 15,Ex 16 13 0,Ex 17 13 1,Ex 18 13 2,Mv 3 16,Mv 4 17,Mv 5 18] (.seq (Sr [Mv 19 5] (Cd 19 (Sr [Mv 20 3,Oo 21 (.bin .neq (.tmp 20) (.const (.string ⟨#[]⟩))),Mv 22 21,Ot 23 22 (mt 4),Ot 24 22 (.bin .neq (.tmp 23) (.const (.string ⟨#[]⟩))),Oo 25 (.pick (.tmp 22) (.tmp 24) (.const (.bool false))),Mv 26 25,Ot 27 26 (mt 3),Ot 28 26 (.call (.func 150) [(.tmp 27)]),Oo 29 (.pick (.tmp 26) (.tmp 28) (.const (.bool false))),Mv 30 29,Ot 31 30 (mt 4),Ot 32 30 (.call (.func 150) [(.tmp 31)]),Oo 33 (.pick (.tmp 30) (.tmp 32) (.const (.bool false))),Mv 2 33] .ret) .skip)) (Sr [Mv 35 0,Oo 36 (.call (.func 320) [(.tmp 35),(.const (.string ⟨#[37,115]⟩))]),Mv 34 36,Ex 37 34 0,Ex 38 34 1,Ex 39 34 2,Mv 3 37,Mv 4 38] (Sr [Mv 40 3,Cl 41 150 [(.tmp 40)],Mv 42 41,Ot 43 42 (mt 4),Ot 44 42 (.call (.func 150) [(.tmp 43)]),Oo 45 (.pick (.tmp 42) (.tmp 44) (.const (.bool false))),Mv 2 45] .ret))))))
theorem k310:ZaA Tryz.prog 310=some ⟨c310,[(.tmp 2)],46⟩:=by kernel_rfl
theorem Zb3 {n a b:Int}{h:AH}:Ac 232 [iv n,iv a,iv b] h (bv (wi n a b)):=by
 refine tI' k232 fun N hn hlt hlA hbd=>?_
 simp only[tb'] at hbd ⊢
 refine wr'<|mw<|sn'<|wr'<|mw<|mw<|Vw (Zft lk lk)<|mw<|?_
 refine sp' (t:=10) gt pt pt (fun hg10=>?_) (fun hg10=>?_)
 ·refine s_do gt<|mw<|s_do gt<|mw<|s_do gt<|Vw (Zdg lk lk)<|Vw (Zak lk lk)<|mw<|sn'<|Zaa<|Zae rz<|rT'<|?_
  refine bvx ?_;unfold wi;rw[Bool.eq_iff_iff];simp;omega
 refine s_no gt pt<|s_no gt pt<|s_no gt pt<|Vw (Zaj lk lkb)<|mw<|sn'<|Zaa<|Zae rz<|rT'<|?_
 refine bvx ?_;unfold wi;rw[Bool.eq_iff_iff];simp;omega
def clkB (n:Int) (wall:Bool):Bool:=wi n 1 3&&(wall||decide (n≠1))
theorem Zix {n:Int}{b:Bool}{h:AH}:Ac 233 [iv n,bv b] h (bv (clkB n b)):=by
 refine tI' k233 fun N hn hlt hlA hbd=>?_
 simp only[tb'] at hbd ⊢
 refine wr'<|mw<|sn'<|wr'<|mw<|Zad mp (Zb3) pt<|mw<|?_
 refine ZaF (t:=7) gt pt pt (fun hg7=>?_) (fun hg7=>?_)
 ·refine s_do gt<|mw<|s_do gt<|mw<|?_
  refine ZaF (t:=9) gt pt pt (fun hg9=>?_) (fun hg9=>?_)
  ·refine s_no gt pt<|s_no gt pt<|s_do gt<|Vw (Zak lk lkb)<|Vw (Zak lk lk)<|mw<|sn'<|Zaa<|Zae rz<|rT'<|?_
   refine bvx ?_;unfold clkB;simp_all
  refine s_do gt<|mw<|s_do gt<|Vw (ZaX lk lki)<|s_do gt<|Vw (Zaj lk lk)<|Vw (Zak lk lk)<|mw<|sn'<|Zaa<|Zae rz<|rT'<|?_
  refine bvx ?_;unfold clkB;simp_all
 refine s_no gt pt<|s_no gt pt<|s_nu gt pt<|s_nu gt pt<|s_no gt pt<|Vw (Zaj lk lkb)<|mw<|sn'<|Zaa<|Zae rz<|rT'<|?_
 refine bvx ?_;unfold clkB;simp_all
def ZlV (n:Int):Bool:=letB n||digB n||decide (0≤Lib.indexByte [95,45,47,43] n.toNat.toUInt8)
theorem indexN_a {n:Int}{h:AH}:Ac 181 [sv (bA [95,45,47,43]),uv n] h (iv (Lib.indexByte [95,45,47,43] n.toNat.toUInt8)):=Znl
theorem name1_a {n:Int}{h:AH}:Ac 179 [uv n] h (bv (ZlV n)):=by
 refine tI' k179 fun N hn hlt hlA hbd=>?_
 simp only[tb'] at hbd ⊢
 refine wr'<|mw<|sn'<|wr'<|mw<|Zad mp (ZhJ) pt<|mw<|?_
 refine ZaF (t:=5) gt pt pt (fun hg5=>?_) (fun hg5=>?_)
 ·refine s_no gt pt<|s_no gt pt<|Vw (Zak lk lkb)<|mw<|s_no gt pt<|s_no gt pt<|s_no gt pt<|Vw (Zak lk lkb)<|mw<|sn'<|Zaa<|Zae rz<|rT'<|?_
  refine bvx ?_;unfold ZlV;rw[Bool.eq_iff_iff];simp_all
 refine s_do gt<|mw<|s_do gt<|Zad mp (ZsI) pt<|Vw (Zaj lk lk)<|mw<|?_
 refine ZaF (t:=9) gt pt pt (fun hg9=>?_) (fun hg9=>?_)
 ·refine s_no gt pt<|s_no gt pt<|s_no gt pt<|Vw (Zak lk lkb)<|mw<|sn'<|Zaa<|Zae rz<|rT'<|?_
  refine bvx ?_;unfold ZlV;rw[Bool.eq_iff_iff];simp_all
 refine s_do gt<|mw<|s_do gt<|Zad mp (indexN_a) pt<|s_do gt<|Vw (Zft lk lki)<|Vw (Zaj lk lk)<|mw<|sn'<|Zaa<|Zae rz<|rT'<|?_
 refine bvx ?_;unfold ZlV;rw[Bool.eq_iff_iff];simp_all
def Zcu (s:ByteArray):Bool:=decide (s.size≠0)&&decide (s.size≤24)&&letB (ZaH s 0).toNat&&allB ZlV s
theorem ZlT {s:ByteArray}{h:AH}(hs:s.size≤maxLen):Ac 112 [sv s] h (bv (Zcu s)):=by
 have hm:s.size≤9223372036854775807:=by simpa [maxLen] using hs
 have hem:=Zeu (f:=s)
 refine tI' k112 fun N hn hlt hlA hbd=>?_
 simp only[tb'] at hbd ⊢
 refine wr'<|mw<|sn'<|wr'<|mw<|Vw (ZcD lk lks)<|mw<|?_
 refine sp' (t:=5) gt pt pt (fun hg5=>?_) (fun hg5=>?_)
 ·have hne:s.size≠0:=fun e=>hg5 (hem.2 e)
  refine s_do gt<|mw<|s_do gt<|Vw (Zbf lk)<|s_do gt<|Vw (Zdg lk lki)<|Vw (Zak lk lk)<|mw<|?_
  refine sp' (t:=10) gt pt pt (fun hg10=>?_) (fun hg10=>?_)
  ·refine s_do gt<|mw<|s_do gt<|?_
   refine V' (v_ix lk lki om om) pt ?_
   refine s_do gt<|Zad mp (ZhJ) pt<|Vw (Zak lk lk)<|mw<|?_
   refine ZaF (t:=15) gt pt pt (fun hg15=>?_) (fun hg15=>?_)
   ·refine s_do gt<|mw<|s_do gt<|?_
    refine Zad mp (all_a (fun _ _=>name1_a) hs) pt ?_
    refine Vw (Zak lk lk)<|mw<|sn'<|Zaa<|Zae rz<|rT'<|?_
    refine bvx ?_;unfold Zcu;simp_all <;> (try intros) <;> omega
   refine s_no gt pt<|s_no gt pt<|Vw (Zaj lk lkb)<|mw<|sn'<|Zaa<|Zae rz<|rT'<|?_
   refine bvx ?_;unfold Zcu;simp_all <;> (try intros) <;> omega
  refine s_no gt pt<|s_no gt pt<|s_no gt pt<|Vw (Zaj lk lkb)<|mw<|s_no gt pt<|s_no gt pt<|Vw (Zaj lk lkb)<|mw<|sn'<|Zaa<|Zae rz<|rT'<|?_
  refine bvx ?_;unfold Zcu;simp_all <;> (try intros) <;> omega
 refine s_no gt pt<|s_no gt pt<|s_no gt pt<|Vw (Zaj lk lkb)<|mw<|s_no gt pt<|s_no gt pt<|s_no gt pt<|Vw (Zaj lk lkb)<|mw<|s_no gt pt<|s_no gt pt<|Vw (Zaj lk lkb)<|mw<|?_
 refine sn'<|Zaa<|Zae rz<|rT'<|?_
 refine bvx ?_;unfold Zcu;simp_all <;> (try intros) <;> omega
def Zcm (s:ByteArray):Bool:=decide (s.size≤24)&&allB letB s
theorem Zsj {s:ByteArray}{h:AH}(hs:s.size≤maxLen):Ac 231 [sv s] h (bv (Zcm s)):=by
 have hm:s.size≤9223372036854775807:=by simpa [maxLen] using hs
 refine tI' k231 fun N hn hlt hlA hbd=>?_
 simp only[tb'] at hbd ⊢
 refine wr'<|mw<|sn'<|wr'<|mw<|Vw (Zbf lk)<|Vw (Zdg lk lki)<|mw<|?_
 refine sp' (t:=6) gt pt pt (fun hg6=>?_) (fun hg6=>?_)
 ·refine s_do gt<|mw<|s_do gt<|?_
  refine Zad mp (all_a (fun _ _=>ZhJ) hs) pt ?_
  refine Vw (Zak lk lk)<|mw<|sn'<|Zaa<|Zae rz<|rT'<|?_
  refine bvx ?_;unfold Zcm;simp_all <;> (try intros) <;> omega
 refine s_no gt pt<|s_no gt pt<|Vw (Zaj lk lkb)<|mw<|sn'<|Zaa<|Zae rz<|rT'<|?_
 refine bvx ?_;unfold Zcm;simp_all <;> (try intros) <;> omega
abbrev cutL (s:ByteArray) (p:Bs):Bs×Bs×Bool:=Lib.cut (aB s) p
def ZbL (s:ByteArray):Bool:=if s.size=0∨24<s.size then false else
 if (cutL s [47]).2.2=true then decide (bA (cutL s [47]).1≠⟨#[]⟩)&&decide (bA (cutL s [47]).2.1≠⟨#[]⟩)&&allB Zbj (bA (cutL s [47]).1)&&allB Zbj (bA (cutL s [47]).2.1)
 else allB Zbj (bA (cutL s [37,115]).1)&&allB Zbj (bA (cutL s [37,115]).2.1)
theorem ZhM {s:ByteArray}{p:Bs}:(cutL s p).1.length≤s.size∧(cutL s p).2.1.length≤s.size:=by
 unfold cutL Lib.cut
 split
 ·simp only[List.length_take,List.length_drop,Zec];omega
 simp[Zec]
theorem cut1_a {s:ByteArray}{h:AH}(hz:s.size≤24):Ac 320 [sv s,sv (bA [47])] h (.tup [sv (bA (cutL s [47]).1),sv (bA (cutL s [47]).2.1),bv (cutL s [47]).2.2]):=cut_a om
theorem cut2_a {s:ByteArray}{h:AH}(hz:s.size≤24):Ac 320 [sv s,sv (bA [37,115])] h (.tup [sv (bA (cutL s [37,115]).1),sv (bA (cutL s [37,115]).2.1),bv (cutL s [37,115]).2.2]):=cut_a om
theorem ZoZ {s:ByteArray}{h:AH}(hs:s.size≤maxLen):Ac 310 [sv s] h (bv (ZbL s)):=by
 have hm:s.size≤9223372036854775807:=by simpa [maxLen] using hs
 have hem:=Zeu (f:=s)
 have k1:=ZhM (s:=s) (p:=[47])
 have k2:=ZhM (s:=s) (p:=[37,115])
 refine tI' k310 fun N hn hlt hlA hbd=>?_
 simp only[tb'] at hbd ⊢
 refine wr'<|mw<|sn'<|Zam<|wr'<|mw<|Vw (Zcp lk lks)<|mw<|?_
 refine sp' (t:=8) gt pt pt (fun hg8=>?_) (fun hg8=>?_)
 ·have hB:ZbL s=false:=if_pos (.inl (hem.1 hg8))
  refine s_no gt pt<|s_no gt pt<|s_no gt pt<|Vw (Zak lk lkb)<|sn'<|ZaG lk<|wr'<|mw<|sn'<|Zaa<|Zah<|?_
  refine Zae rz<|rT'<|?_
  rw[hB]
 refine s_do gt<|mw<|s_do gt<|Vw (Zbf lk)<|s_do gt<|Vw (ZbC lk lki)<|Vw (Zaj lk lk)<|sn'<|?_
 refine cd' lk (fun hc1=>?_) (fun hc1=>?_)
 ·have hB:ZbL s=false:=if_pos (.inr om)
  refine wr'<|mw<|sn'<|Zaa<|Zah<|Zae rz<|rT'<|?_
  rw[hB]
 have hB:ZbL s=if (cutL s [47]).2.2=true then decide (bA (cutL s [47]).1≠⟨#[]⟩)&&decide (bA (cutL s [47]).2.1≠⟨#[]⟩)&&allB Zbj (bA (cutL s [47]).1)&&allB Zbj (bA (cutL s [47]).2.1) else allB Zbj (bA (cutL s [37,115]).1)&&allB Zbj (bA (cutL s [37,115]).2.1):=if_neg (by have:s.size≠0:=fun e=>hg8 (hem.2 e);omega)
 have hz:s.size≤24:=by omega
 refine Zaf<|Zag<|wr'<|mw<|Zad mp (cut1_a hz) pt<|mw<|Vw (ZaS lk gt)<|Vw (ZaS lk gt)<|Vw (ZaS lk gt)<|mw<|mw<|mw<|Zar<|?_
 refine Zag<|Zam<|wr'<|mw<|sn'<|?_
 refine cd' lk (fun hc2=>?_) (fun hc2=>?_)
 ·rw[if_pos hc2] at hB
  refine wr'<|mw<|Vw (ZcD lk lks)<|mw<|?_
  refine sp' (t:=22) gt pt pt (fun hg22=>?_) (fun hg22=>?_)
  ·refine s_do gt<|mw<|s_do gt<|Vw (ZcD lk lks)<|Vw (Zak lk lk)<|mw<|?_
   refine sp' (t:=26) gt pt pt (fun hg26=>?_) (fun hg26=>?_)
   ·refine s_do gt<|mw<|s_do gt<|?_
    refine Zad mp (Zif (by rw[Zdd];unfold maxLen;omega)) pt ?_
    refine Vw (Zak lk lk)<|mw<|?_
    refine ZaF (t:=30) gt pt pt (fun hg30=>?_) (fun hg30=>?_)
    ·refine s_do gt<|mw<|s_do gt<|?_
     refine Zad mp (Zif (by rw[Zdd];unfold maxLen;omega)) pt ?_
     refine Vw (Zak lk lk)<|mw<|sn'<|Zaa<|Zah<|Zae rz<|rT'<|?_
     rw[hB];refine bvx ?_;simp_all
    refine s_no gt pt<|s_no gt pt<|Vw (Zaj lk lkb)<|mw<|sn'<|Zaa<|Zah<|Zae rz<|rT'<|?_
    rw[hB];refine bvx ?_;simp_all
   refine s_no gt pt<|s_no gt pt<|Vw (Zaj lk lkb)<|mw<|s_no gt pt<|s_no gt pt<|Vw (Zaj lk lkb)<|mw<|sn'<|Zaa<|Zah<|Zae rz<|rT'<|?_
   rw[hB];refine bvx ?_;simp_all
  refine s_no gt pt<|s_no gt pt<|Vw (Zaj lk lkb)<|mw<|s_no gt pt<|s_no gt pt<|Vw (Zaj lk lkb)<|mw<|s_no gt pt<|s_no gt pt<|Vw (Zaj lk lkb)<|mw<|sn'<|?_
  refine Zaa<|Zah<|Zae rz<|rT'<|?_
  rw[hB];refine bvx ?_;simp_all
 rw[if_neg (by rw[hc2];simp)] at hB
 refine Zaf<|Zag<|wr'<|mw<|Zad mp (cut2_a hz) pt<|mw<|Vw (ZaS lk gt)<|Vw (ZaS lk gt)<|Vw (ZaS lk gt)<|mw<|mw<|sn'<|?_
 refine wr'<|mw<|?_
 refine Zad mp (Zif (by rw[Zdd];unfold maxLen;omega)) pt ?_
 refine mv' lk pt ?_
 refine ZaF (t:=42) gt pt pt (fun hg42=>?_) (fun hg42=>?_)
 ·refine s_do gt<|mw<|s_do gt<|?_
  refine Zad mp (Zif (by rw[Zdd];unfold maxLen;omega)) pt ?_
  refine Vw (Zak lk lk)<|mw<|sn'<|Zaa<|Zae rz<|rT'<|?_
  rw[hB];refine bvx ?_;simp_all
 refine s_no gt pt<|s_no gt pt<|Vw (Zaj lk lkb)<|mw<|sn'<|Zaa<|Zae rz<|rT'<|?_
 rw[hB];refine bvx ?_;simp_all
end Go.Proofs.YtlekejpogddndaaGreatDoor
end
section
namespace Go.Proofs.YtlekejpogddndaaGreatDoor
open Go.Ab Go.RowKit Civ
attribute [local simp] Zbh Zbr Zbo Zbq
section
theorem ZqM {a0 a1 a2 a3 a4 a5 a6:AV}{l:List AV}:((a0::a1::a2::a3::a4::a5::a6::l).drop 4).take 3=[a4,a5,a6]:=rfl
theorem ZqO {a0 a1 a2 c0 c1 c2:AV}{l:List AV}:setCells (a0::a1::a2::l) 0 [c0,c1,c2]=c0::c1::c2::l:=rfl
theorem Zfq {a0 a1 a2 a3 a4 a5 a6 a7 a8 a9:AV}{l:List AV}:((a0::a1::a2::a3::a4::a5::a6::a7::a8::a9::l).drop 5).take 5=[a5,a6,a7,a8,a9]:=rfl
theorem ZeD {τ:Operand→AV}:Zas τ [] [(.v (.int .i64 0)),(.v (.int .i64 0)),(.v (.int .i64 0)),(.v (.int .i64 0)),(.v (.int .i64 0))]=some [(.v (.int .i64 0)),(.v (.int .i64 0)),(.v (.int .i64 0)),(.v (.int .i64 0)),(.v (.int .i64 0))]:=rfl
theorem Zdn {a0 b0:Int}{a1 b1:Int}{a2 b2:Int}{a3 b3:Int}{a4 b4:Int}:Zbs [.int,.int,.int,.int,.int] [iv a0,iv a1,iv a2,iv a3,iv a4] [iv b0,iv b1,iv b2,iv b3,iv b4]=some (decide (a0=b0∧a1=b1∧a2=b2∧a3=b3∧a4=b4)):=by
 simp only[Zbs,Zd9,if_true,Zc6,Option.some.injEq]
 simp only[Bool.decide_and,Bool.and_true]
 try (congr 1 <;> simp)
 try rfl
theorem Zfr {a0 a1 a2 a3 a4 a5 a6 a7:AV}{l:List AV}:((a0::a1::a2::a3::a4::a5::a6::a7::l).drop 5).take 3=[a5,a6,a7]:=rfl
theorem ZqL {a0 a1 a2 a3 a4 a5 a6 a7 a8 a9:AV}{l:List AV}:(a0::a1::a2::a3::a4::a5::a6::a7::a8::a9::l).take 10=[a0,a1,a2,a3,a4,a5,a6,a7,a8,a9]:=rfl
theorem Zoa {a0 a1 a2 a3 a4 a5 a6 a7 a8 a9 c0 c1 c2 c3 c4 c5 c6 c7 c8 c9:AV}{l:List AV}:setCells (a0::a1::a2::a3::a4::a5::a6::a7::a8::a9::l) 0 [c0,c1,c2,c3,c4,c5,c6,c7,c8,c9]=c0::c1::c2::c3::c4::c5::c6::c7::c8::c9::l:=rfl
theorem Zn8 {a0 a1 a2 a3 a4 a5 a6 a7 a8 a9:AV}{l:List AV}:((a0::a1::a2::a3::a4::a5::a6::a7::a8::a9::l).drop 0).take 10=[a0,a1,a2,a3,a4,a5,a6,a7,a8,a9]:=rfl
theorem ZqK {a0 a1 a2 a3 a4 a5 a6 a7 a8 a9 a10:AV}{l:List AV}:(a0::a1::a2::a3::a4::a5::a6::a7::a8::a9::a10::l).take 11=[a0,a1,a2,a3,a4,a5,a6,a7,a8,a9,a10]:=rfl
theorem Zn9 {a0 a1 a2 a3 a4 a5 a6 a7 a8 a9 a10 c0 c1 c2 c3 c4 c5 c6 c7 c8 c9 c10:AV}{l:List AV}:setCells (a0::a1::a2::a3::a4::a5::a6::a7::a8::a9::a10::l) 0 [c0,c1,c2,c3,c4,c5,c6,c7,c8,c9,c10]=c0::c1::c2::c3::c4::c5::c6::c7::c8::c9::c10::l:=rfl
theorem Zn7 {a0 a1 a2 a3 a4 a5 a6 a7 a8 a9 a10:AV}{l:List AV}:((a0::a1::a2::a3::a4::a5::a6::a7::a8::a9::a10::l).drop 0).take 11=[a0,a1,a2,a3,a4,a5,a6,a7,a8,a9,a10]:=rfl
theorem ZiU {a0 a1:AV}{l:List AV}:(a0::a1::l).take 2=[a0,a1]:=rfl
theorem Zg9 {a0 a1 c0 c1:AV}{l:List AV}:setCells (a0::a1::l) 0 [c0,c1]=c0::c1::l:=rfl
theorem Zj9 {a0 a1:AV}{l:List AV}:((a0::a1::l).drop 0).take 2=[a0,a1]:=rfl
theorem ZqN {a0 a1 a2:AV}{l:List AV}:((a0::a1::a2::l).drop 0).take 3=[a0,a1,a2]:=rfl
end
def c156:AC:=(Sr [Oo 1 (.box 36 11 (.tmp 0)),Mc 2 0] (.seq (.block 0 (Sr [Fa 6 0 1,Ld 7 6,Cl 8 112 [(.tmp 7)],Oo 9 (.un .not (.tmp 8)),Mv 10 9,Of 11 10 (.fa 10 (.tmp 1)),Of 12 10 (.load false 1 (.tmp 11)),Of 13 10 (.call (.func 231) [(.tmp 12)]),Of 14 10 (.un .not (.tmp 13)),Oo 15 (.pick (.tmp 10) (.const (.bool true)) (.tmp 14)),Mv 5 15] (Cd 5 (Sr [Mc 2 1] .ret) (Sr [Fa 17 1 1,Ld 18 17,Bc 19 .lss 18 1900,Mv 20 19,Of 21 20 (.fa 1 (.tmp 1)),Of 22 20 (.load false 1 (.tmp 21)),Of 23 20 (.fa 2 (.tmp 1)),Of 24 20 (.load false 1 (.tmp 23)),Of 25 20 (.bin .gtr (.tmp 22) (.tmp 24)),Oo 26 (.pick (.tmp 20) (.const (.bool true)) (.tmp 25)),Mv 27 26,Of 28 27 (.fa 2 (.tmp 1)),Of 29 27 (.load false 1 (.tmp 28)),Of 30 27 (.bin .gtr (.tmp 29) (Ci 2100)),Oo 31 (.pick (.tmp 27) (.const (.bool true)) (.tmp 30)),Mv 32 31,Of 33 32 (.fa 3 (.tmp 1)),Of 34 32 (.load false 1 (.tmp 33)),Of 35 32 (.call (.func 232) [(.tmp 34),(Ci 1),(Ci 12)]),Of 36 32 (.un .not (.tmp 35)),Oo 37 (.pick (.tmp 32) (.const (.bool true)) (.tmp 36)),Mv 16 37] (Cd 16 (Sr [Mc 2 3] .ret) .skip))))) (.seq (Sr [Fa 39 3 1,Ld 40 39,Fa 41 4 1,Oo 42 (.load true 3 (.tmp 41)),Cl 43 94 [(Ci 2001),(.tmp 40),(.tmp 42)],Mv 38 43,Ex 44 38 0,Ex 45 38 1,Oo 3 (.new 59 3 [(iv 0),(iv 0),(iv 0)]),⟨none,none,(.store 3 (.tmp 3) (.tmp 44))⟩,Mv 4 45] (Sr [Mv 46 4,Bc 47 .neq 46 0] (Cd 47 (Sr [Mv 48 4,Mv 2 48] .ret) .skip))) (.seq (.block 1 (Sr [Fa 50 7 1,Ld 51 50,Cl 52 232 [(.tmp 51),(Ci 0),(Ci 172800)],Oo 53 (.un .not (.tmp 52)),Mv 49 53] (Cd 49 (Sr [Mc 2 3] .ret) (Sr [Fa 55 8 1,Ld 56 55,Cl 57 233 [(.tmp 56),(.const (.bool true))],Oo 58 (.un .not (.tmp 57)),Mv 54 58] (Cd 54 (Sr [Mc 2 7] .ret) (Sr [Fa 60 9 1,Ld 61 60,Cl 62 232 [(.tmp 61),(Ci 0),(Ci 10800)],Oo 63 (.un .not (.tmp 62)),Mv 59 63] (Cd 59 (Sr [Mc 2 3] .ret) .skip))))))) (Sr [Mc 2 0] .ret)))))
theorem k156:ZaA Tryz.prog 156=some ⟨c156,[(.tmp 2)],64⟩:=by kernel_rfl
def c209:AC:=(Sr [Oo 1 (.box 129 2 (.tmp 0)),Mc 2 0] (.seq (Sr [Fa 3 0 1,Ld 4 3,Cl 5 112 [(.tmp 4)],Oo 6 (.un .not (.tmp 5)),Mv 7 6,Of 8 7 (.fa 1 (.tmp 1)),Of 9 7 (.load false 1 (.tmp 8)),Of 10 7 (.call (.func 112) [(.tmp 9)]),Of 11 7 (.un .not (.tmp 10)),Oo 12 (.pick (.tmp 7) (.const (.bool true)) (.tmp 11))] (Cd 12 (Sr [Mc 2 1] .ret) .skip)) (Sr [Mc 2 0] .ret)))
theorem k209:ZaA Tryz.prog 209=some ⟨c209,[(.tmp 2)],13⟩:=by kernel_rfl
def c278:AC:=(Sr [Oo 2 (.box 63 10 (.tmp 0)),Mc 4 0] (.seq (.block 0 (Sr [Fa 8 1 2,Ld 9 8,Oo 10 (.bin .neq (.tmp 9) (.const (.string ⟨#[]⟩))),Mv 11 10,Ot 12 11 (.fa 1 (.tmp 2)),Ot 13 11 (.load false 1 (.tmp 12)),Ot 14 11 (.call (.func 112) [(.tmp 13)]),Ot 15 11 (.un .not (.tmp 14)),Oo 16 (.pick (.tmp 11) (.tmp 15) (.const (.bool false))),Mv 17 16,Of 18 17 (.fa 3 (.tmp 2)),Of 19 17 (.load false 1 (.tmp 18)),Of 20 17 (.call (.func 310) [(.tmp 19)]),Of 21 17 (.un .not (.tmp 20)),Oo 22 (.pick (.tmp 17) (.const (.bool true)) (.tmp 21)),Mv 7 22] (Cd 7 (Sr [Mc 4 1] .ret) (Sr [Fa 24 0 2,Ld 25 24,Cl 26 232 [(.tmp 25),(.const (.int .i64 (-64800))),(Ci 64800)],Oo 27 (.un .not (.tmp 26)),Mv 28 27,Of 29 28 (.fa 2 (.tmp 2)),Of 30 28 (.load false 1 (.tmp 29)),Of 31 28 (.call (.func 232) [(.tmp 30),(Ci 0),(Ci 10800)]),Of 32 28 (.un .not (.tmp 31)),Oo 33 (.pick (.tmp 28) (.const (.bool true)) (.tmp 32)),Mv 23 33] (Cd 23 (Sr [Mc 4 3] .ret) (Sr [Fa 35 1 2,Ld 36 35,Oo 37 (.bin .neq (.tmp 36) (.const (.string ⟨#[]⟩))),Mv 38 37,Ot 39 38 (.fa 2 (.tmp 2)),Ot 40 38 (.load false 1 (.tmp 39)),Ot 41 38 (.bin .neq (.tmp 40) (Ci 0)),Oo 42 (.pick (.tmp 38) (.tmp 41) (.const (.bool false))),Mv 34 42] (Cd 34 (Sr [Mc 4 1] .ret) (Sr [Fa 44 4 2,Ld 45 44,Mv 46 1,Oo 47 (.eqb true (.tmp 45) (.tmp 46)),Mv 43 47] (Cd 43 (Sr [Mc 4 4] .ret) (Sr [Fa 49 4 2,Ld 50 49,Mv 48 50] (Cd 48 (.seq (Sr [Fa 51 5 2,Oo 52 (.load true 5 (.tmp 51)),Oo 53 (.build [(iv 0),(iv 0),(iv 0),(iv 0),(iv 0)] []),Oo 54 (.eqs true [.int,.int,.int,.int,.int] (.tmp 52) (.tmp 53))] (Cd 54 (Sr [Mc 4 1] .ret) .skip)) (Sr [Mc 4 0] .ret)) .skip))))))))))) (.seq (Sr [Fa 56 5 2,Fa 57 0 56,Oo 58 (.load true 3 (.tmp 57)),Cl 59 35 [(.tmp 58)],Mv 55 59,Ex 60 55 0,Ex 61 55 1,Mv 5 60,Mv 6 61] (Sr [Mv 62 6,Bc 63 .neq 62 0] (Cd 63 (Sr [Mv 64 6,Mv 4 64] .ret) .skip))) (.seq (.block 1 (Sr [Fa 66 5 2,Fa 67 3 66,Ld 68 67,Cl 69 232 [(.tmp 68),(Ci 0),(Ci 172800)],Oo 70 (.un .not (.tmp 69)),Mv 65 70] (Cd 65 (Sr [Mc 4 3] .ret) (Sr [Fa 72 5 2,Fa 73 4 72,Ld 74 73,Cl 75 233 [(.tmp 74),(.const (.bool false))],Oo 76 (.un .not (.tmp 75)),Mv 71 76] (Cd 71 (Sr [Mc 4 7] .ret) .skip))))) (Sr [Mc 4 0] .ret)))))
theorem k278:ZaA Tryz.prog 278=some ⟨c278,[(.tmp 4)],77⟩:=by kernel_rfl
def c207:AC:=(Sr [Oo 1 (.box 53 2 (.tmp 0)),Mc 2 0] (.seq (Sr [Fa 6 0 1,Ld 7 6,Cl 8 112 [(.tmp 7)],Oo 9 (.un .not (.tmp 8)),Mv 10 9,Of 11 10 (.fa 1 (.tmp 1)),Of 12 10 (.load false 1 (.tmp 11)),Of 13 10 (.len false (.tmp 12)),Of 14 10 (.bin .eql (.tmp 13) (Ci 0)),Oo 15 (.pick (.tmp 10) (.const (.bool true)) (.tmp 14))] (Cd 15 (Sr [Mc 2 1] .ret) .skip)) (.seq (Sr [Fa 16 1 1,Ld 17 16,Oo 18 (.len false (.tmp 17)),Mc 19 0] (.block 0 (.loop (Sr [Bn 20 .lss 19 18] (.seq (Cd 20 .skip (.exit 0)) (.seq (.block 1 (Sr [Mv 21 19,Oo 22 (.ia 10 (.tmp 17) (.tmp 19)),Oo 23 (.load true 10 (.tmp 22)),Oo 4 (.new 63 10 [(iv 0),Ss,(iv 0),Ss,(.v (.bool false)),(iv 0),(iv 0),(iv 0),(iv 0),(iv 0)]),Mv 3 21,⟨none,none,(.store 10 (.tmp 4) (.tmp 23))⟩] (Sr [Oo 24 (.load true 10 (.tmp 4)),Mv 25 3,Fa 26 1 1,Ld 27 26,Oo 28 (.len false (.tmp 27)),Bc 29 .sub 28 1,Bn 30 .eql 25 29,Cl 31 278 [(.tmp 24),(.tmp 30)],Mv 5 31] (Sr [Mv 32 5,Bc 33 .neq 32 0] (Cd 33 (Sr [Mv 34 5,Mv 2 34] .ret) .skip))))) (.reg [Bc 35 .add 19 1,Mv 19 35]))))))) (Sr [Mc 2 0] .ret))))
theorem k207:ZaA Tryz.prog 207=some ⟨c207,[(.tmp 2)],36⟩:=by kernel_rfl
def c205:AC:=(Sr [Mc 4 0] (.seq (Sr [Mv 8 0,Oo 9 (.len false (.tmp 8)),Mc 10 0] (.block 0 (.loop (Sr [Bn 11 .lss 10 9] (.seq (Cd 11 .skip (.exit 0)) (.seq (.block 1 (Sr [Oo 12 (.ia 11 (.tmp 8) (.tmp 10)),Oo 13 (.load true 11 (.tmp 12)),Oo 6 (.new 36 11 [Ss,(iv 0),(iv 0),(iv 0),(iv 0),(iv 0),(iv 0),(iv 0),(iv 0),(iv 0),Ss]),⟨none,none,(.store 11 (.tmp 6) (.tmp 13))⟩] (Sr [Mv 14 1,Oo 15 (.load true 11 (.tmp 6)),Oo 16 (.call (.tmp 14) [(.tmp 15)]),Mv 7 16] (Sr [Mv 17 7,Bc 18 .neq 17 0] (Cd 18 (Sr [Mv 19 7,Mv 4 19] .ret) .skip))))) (.reg [Bc 20 .add 10 1,Mv 10 20]))))))) (Sr [Mc 4 0] .ret)))
theorem k205:ZaA Tryz.prog 205=some ⟨c205,[(.tmp 4)],21⟩:=by kernel_rfl
def c206:AC:=(Sr [Mc 4 0] (.seq (Sr [Mv 8 0,Oo 9 (.len false (.tmp 8)),Mc 10 0] (.block 0 (.loop (Sr [Bn 11 .lss 10 9] (.seq (Cd 11 .skip (.exit 0)) (.seq (.block 1 (Sr [Oo 12 (.ia 2 (.tmp 8) (.tmp 10)),Oo 13 (.load true 2 (.tmp 12)),Oo 6 (.new 53 2 [Ss,(.sl 0 0 true [])]),⟨none,none,(.store 2 (.tmp 6) (.tmp 13))⟩] (Sr [Mv 14 1,Oo 15 (.load true 2 (.tmp 6)),Oo 16 (.call (.tmp 14) [(.tmp 15)]),Mv 7 16] (Sr [Mv 17 7,Bc 18 .neq 17 0] (Cd 18 (Sr [Mv 19 7,Mv 4 19] .ret) .skip))))) (.reg [Bc 20 .add 10 1,Mv 10 20]))))))) (Sr [Mc 4 0] .ret)))
theorem k206:ZaA Tryz.prog 206=some ⟨c206,[(.tmp 4)],21⟩:=by kernel_rfl
def c208:AC:=(Sr [Mc 4 0] (.seq (Sr [Mv 8 0,Oo 9 (.len false (.tmp 8)),Mc 10 0] (.block 0 (.loop (Sr [Bn 11 .lss 10 9] (.seq (Cd 11 .skip (.exit 0)) (.seq (.block 1 (Sr [Oo 12 (.ia 2 (.tmp 8) (.tmp 10)),Oo 13 (.load true 2 (.tmp 12)),Oo 6 (.new 129 2 [Ss,Ss]),⟨none,none,(.store 2 (.tmp 6) (.tmp 13))⟩] (Sr [Mv 14 1,Oo 15 (.load true 2 (.tmp 6)),Oo 16 (.call (.tmp 14) [(.tmp 15)]),Mv 7 16] (Sr [Mv 17 7,Bc 18 .neq 17 0] (Cd 18 (Sr [Mv 19 7,Mv 4 19] .ret) .skip))))) (.reg [Bc 20 .add 10 1,Mv 10 20]))))))) (Sr [Mc 4 0] .ret)))
theorem k208:ZaA Tryz.prog 208=some ⟨c208,[(.tmp 4)],21⟩:=by kernel_rfl
def c204:AC:=(Sr [Oo 1 (.box 26 3 (.tmp 0)),Mb 2 false] (.seq (Sr [Fa 5 1 1,Ld 6 5,Oo 7 (.len false (.tmp 6)),Mc 8 0] (.block 0 (.loop (Sr [Bn 9 .lss 8 7] (.seq (Cd 9 .skip (.exit 0)) (.seq (.block 1 (Sr [Oo 10 (.ia 2 (.tmp 6) (.tmp 8)),Oo 11 (.load true 2 (.tmp 10)),Oo 4 (.new 53 2 [Ss,(.sl 0 0 true [])]),⟨none,none,(.store 2 (.tmp 4) (.tmp 11))⟩] (Sr [Fa 12 1 4,Ld 13 12,Oo 14 (.len false (.tmp 13)),Bc 15 .gtr 14 8] (Cd 15 (Sr [Mb 2 true] .ret) .skip)))) (.reg [Bc 16 .add 8 1,Mv 8 16]))))))) (Sr [Fa 17 0 1,Ld 18 17,Oo 19 (.len false (.tmp 18)),Bc 20 .gtr 19 40,Mv 21 20,Of 22 21 (.fa 1 (.tmp 1)),Of 23 21 (.load false 1 (.tmp 22)),Of 24 21 (.len false (.tmp 23)),Of 25 21 (.bin .gtr (.tmp 24) (Ci 20)),Oo 26 (.pick (.tmp 21) (.const (.bool true)) (.tmp 25)),Mv 27 26,Of 28 27 (.fa 2 (.tmp 1)),Of 29 27 (.load false 1 (.tmp 28)),Of 30 27 (.len false (.tmp 29)),Of 31 27 (.bin .gtr (.tmp 30) (Ci 20)),Oo 32 (.pick (.tmp 27) (.const (.bool true)) (.tmp 31)),Mv 2 32] .ret)))
theorem k204:ZaA Tryz.prog 204=some ⟨c204,[(.tmp 2)],33⟩:=by kernel_rfl
def c132:AC:=(Sr [Oo 1 (.box 26 3 (.tmp 0)),Mc 2 0] (.seq (Sr [Oo 4 (.load true 3 (.tmp 1)),Cl 5 204 [(.tmp 4)]] (Cd 5 (Sr [Mc 2 2] .ret) .skip)) (Sr [Fa 6 0 1,Ld 7 6,Cl 8 205 [(.tmp 7),(.func 156)],Mv 3 8] (.seq (Sr [Mv 9 3,Bc 10 .eql 9 0] (Cd 10 (.reg [Fa 11 1 1,Ld 12 11,Cl 13 206 [(.tmp 12),(.func 207)],Mv 3 13]) .skip)) (.seq (Sr [Mv 14 3,Bc 15 .eql 14 0] (Cd 15 (.reg [Fa 16 2 1,Ld 17 16,Cl 18 208 [(.tmp 17),(.func 209)],Mv 3 18]) .skip)) (Sr [Mv 19 3,Mv 2 19] .ret))))))
theorem k132:ZaA Tryz.prog 132=some ⟨c132,[(.tmp 2)],20⟩:=by kernel_rfl
def Zbu (r:Rul):Int :=
 if ¬(Zcu r.1=true∧Zcm r.2.2.2.2.2.2.2.2=true) then 1
 else if r.2.1<1900∨r.2.1>r.2.2.1∨r.2.2.1>2100∨¬wi r.2.2.2.1 1 12=true then 3
 else if (onV 2001 r.2.2.2.1 r.2.2.2.2.1.1 r.2.2.2.2.1.2.1 r.2.2.2.2.1.2.2).2≠0 then (onV 2001 r.2.2.2.1 r.2.2.2.2.1.1 r.2.2.2.2.1.2.1 r.2.2.2.2.1.2.2).2
 else if ¬wi r.2.2.2.2.2.1 0 172800=true then 3
 else if ¬clkB r.2.2.2.2.2.2.1 true=true then 7
 else if ¬wi r.2.2.2.2.2.2.2.1 0 10800=true then 3 else 0
def Zep (l:Lnk):Int:=if ¬(Zcu l.1=true∧Zcu l.2=true) then 1 else 0
theorem link_b {a b:ByteArray}{h:AH}(ha:a.size≤maxLen) (hb:b.size≤maxLen):Ac 209 [.agg [sv a,sv b]] h (iv (Zep (a,b))):=by
 refine tI' k209 fun N hn hlt hlA hbd=>?_
 simp only[tb'] at hbd ⊢
 refine wr'<|E' (Zbd cv rfl (hl0 hn) ha0) pt<|mw<|sn'<|Zam<|wr'<|Vw (Zab lk)<|Vw (Zac lk gx gt0)<|Zad mp (ZlT ha) pt<|Vw (Zax lk)<|mw<|?_
 refine ZaF (t:=7) gt pt pt (fun hg7=>?_) (fun hg7=>?_)
 ·refine s_no gt pt<|s_no gt pt<|s_no gt pt<|s_no gt pt<|Vw (Zak lk lkb)<|sn'<|ZaG lk<|wr'<|mw<|sn'<|Zaa<|?_
  refine Zah<|Zae rz<|rT'<|?_
  rw[show Zep (a,b)=1 by unfold Zep;simp_all]
 refine s_do gt<|Vw (Zab lk)<|s_do gt<|Vw (Zac lk gx gt1)<|s_do gt<|Zad mp (ZlT hb) pt<|s_do gt<|Vw (Zax lk)<|Vw (Zaj lk lk)<|sn'<|?_
 refine Zaw lk (fun hc1=>?_) (fun hc1=>?_)
 ·refine wr'<|mw<|sn'<|Zaa<|Zah<|Zae rz<|rT'<|?_
  rw[show Zep (a,b)=1 by unfold Zep;simp_all]
 refine Zaf<|Zag<|wr'<|mw<|sn'<|Zaa<|Zae rz<|rT'<|?_
 rw[show Zep (a,b)=0 by unfold Zep;simp_all]
theorem rule_b {nm lt:ByteArray}{f t m k w n a c s:Int}{h:AH}(hn:nm.size≤maxLen) (hl:lt.size≤maxLen):Ac 156 [.agg [sv nm,iv f,iv t,iv m,iv k,iv w,iv n,iv a,iv c,iv s,sv lt]] h (iv (Zbu (nm,f,t,m,(k,w,n),a,c,s,lt))):=by
 have hnm:=hn
 clear hn
 refine tI' k156 fun N hn hlt hlA hbd=>?_
 simp only[tb'] at hbd ⊢
 refine wr'<|E' (Zbd cv rfl (hl0 hn) ha0) pt<|mw<|sn'<|Zam<|Zap<|wr'<|Vw (Zab lk)<|Vw (Zac lk gx gt0)<|Zad mp (ZlT hnm) pt<|Vw (Zax lk)<|?_
 refine mv' lk pt ?_
 refine ZaF (t:=10) gt pt pt (fun hg10=>?_) (fun hg10=>?_)
 ·refine s_no gt pt<|s_no gt pt<|s_no gt pt<|s_no gt pt<|Vw (Zak lk lkb)<|mw<|sn'<|ZaG lk<|wr'<|mw<|sn'<|?_
  refine Zaa<|Zaq<|Zah<|Zae rz<|rT'<|?_
  rw[show Zbu (nm,f,t,m,(k,w,n),a,c,s,lt)=1 by unfold Zbu;simp_all]
 refine s_do gt<|Vw (Zab lk)<|s_do gt<|Vw (Zac lk gx gt10)<|s_do gt<|Zad mp (Zsj hl) pt<|s_do gt<|Vw (Zax lk)<|Vw (Zaj lk lk)<|mw<|sn'<|?_
 refine Zaw lk (fun hc1=>?_) (fun hc1=>?_)
 ·refine wr'<|mw<|sn'<|Zaa<|Zaq<|Zah<|Zae rz<|rT'<|?_
  rw[show Zbu (nm,f,t,m,(k,w,n),a,c,s,lt)=1 by unfold Zbu;simp_all]
 have h1:Zcu nm=true∧Zcm lt=true:=by simp_all
 have hR:Zbu (nm,f,t,m,(k,w,n),a,c,s,lt)=if f<1900∨f>t∨t>2100∨¬wi m 1 12=true then 3 else if (onV 2001 m k w n).2≠0 then (onV 2001 m k w n).2 else if ¬wi a 0 172800=true then 3 else if ¬clkB c true=true then 7 else if ¬wi s 0 10800=true then 3 else 0:=if_neg (by simp[h1])
 refine wr'<|Vw (Zab lk)<|Vw (Zac lk gx gt1)<|Vw (Zbc lk lki)<|mw<|?_
 refine sp' (t:=20) gt pt pt (fun hg20=>?_) (fun hg20=>?_)
 ·rw[if_pos (.inl om)] at hR
  refine s_no gt pt<|s_no gt pt<|s_no gt pt<|s_no gt pt<|s_no gt pt<|Vw (Zak lk lkb)<|mw<|s_no gt pt<|s_no gt pt<|s_no gt pt<|Vw (Zak lk lkb)<|mw<|s_no gt pt<|s_no gt pt<|?_
  refine s_no gt pt<|s_no gt pt<|Vw (Zak lk lkb)<|mw<|sn'<|ZaG lk<|wr'<|mw<|sn'<|Zaa<|Zaq<|?_
  refine Zah<|Zae rz<|rT'<|?_
  rw[hR]
 refine s_do gt<|Vw (Zab lk)<|s_do gt<|Vw (Zac lk gx gt1)<|s_do gt<|Vw (Zab lk)<|s_do gt<|Vw (Zac lk gx gt2)<|s_do gt<|Vw (ZbC lk lk)<|Vw (Zaj lk lk)<|mw<|?_
 refine sp' (t:=27) gt pt pt (fun hg27=>?_) (fun hg27=>?_)
 ·rw[if_pos (.inr (.inl om))] at hR
  refine s_no gt pt<|s_no gt pt<|s_no gt pt<|Vw (Zak lk lkb)<|mw<|s_no gt pt<|s_no gt pt<|s_no gt pt<|s_no gt pt<|Vw (Zak lk lkb)<|mw<|sn'<|ZaG lk<|?_
  refine wr'<|mw<|sn'<|Zaa<|Zaq<|Zah<|Zae rz<|rT'<|?_
  rw[hR]
 refine s_do gt<|Vw (Zab lk)<|s_do gt<|Vw (Zac lk gx gt2)<|s_do gt<|Vw (ZbC lk lki)<|Vw (Zaj lk lk)<|mw<|?_
 refine sp' (t:=32) gt pt pt (fun hg32=>?_) (fun hg32=>?_)
 ·rw[if_pos (.inr (.inr (.inl om)))] at hR
  refine s_no gt pt<|s_no gt pt<|s_no gt pt<|s_no gt pt<|Vw (Zak lk lkb)<|mw<|sn'<|ZaG lk<|wr'<|mw<|sn'<|?_
  refine Zaa<|Zaq<|Zah<|Zae rz<|rT'<|?_
  rw[hR]
 refine s_do gt<|Vw (Zab lk)<|s_do gt<|Vw (Zac lk gx gt3)<|s_do gt<|Zad mp (Zb3) pt<|s_do gt<|Vw (Zax lk)<|Vw (Zaj lk lk)<|mw<|sn'<|?_
 refine Zaw lk (fun hc2=>?_) (fun hc2=>?_)
 ·rw[if_pos (.inr (.inr (.inr (by simpa using hc2))))] at hR
  refine wr'<|mw<|sn'<|Zaa<|Zaq<|Zah<|Zae rz<|rT'<|?_
  rw[hR]
 have hw2:wi m 1 12=true:=by simpa using hc2
 have h2:¬(f<1900∨f>t∨t>2100∨¬wi m 1 12=true):=by rw[hw2];simp;omega
 rw[if_neg h2] at hR
 refine Zaf<|Zaz<|Zag<|Zam<|wr'<|Vw (Zab lk)<|Vw (Zac lk gx gt3)<|Vw (Zab lk)<|Vw (Zao lk gx ZqM rfl)<|Zad mp (on_a) pt<|mw<|Vw (ZaS lk gt)<|Vw (ZaS lk gt)<|?_
 refine E' (ZaW (hl1 hn) ha1) pt<|E' (Zai lk cv gx rfl (nb' rfl) rfl ZqO (hs1 hn)) ptn<|mw<|sn'<|wr'<|mw<|Vw (ZaX lk lki)<|sn'<|?_
 refine cd' lk (fun hc3=>?_) (fun hc3=>?_)
 ·rw[if_pos hc3] at hR
  refine wr'<|mw<|mw<|sn'<|Zaa<|Zah<|Zae rz<|rT'<|?_
  rw[hR]
 rw[if_neg hc3] at hR
 refine Zaf<|Zag<|Zam<|Zap<|wr'<|Vw (Zab lk)<|Vw (Zac lk gx gt7)<|Zad mp (Zb3) pt<|Vw (Zax lk)<|mw<|sn'<|?_
 refine Zaw lk (fun hc4=>?_) (fun hc4=>?_)
 ·rw[if_pos (by simpa using hc4)] at hR
  refine wr'<|mw<|sn'<|Zaa<|Zaq<|Zah<|Zae rz<|rT'<|?_
  rw[hR]
 rw[if_neg (by simpa using hc4)] at hR
 refine wr'<|Vw (Zab lk)<|Vw (Zac lk gx gt8)<|Zad mp (Zix) pt<|Vw (Zax lk)<|mw<|sn'<|?_
 refine Zaw lk (fun hc5=>?_) (fun hc5=>?_)
 ·rw[if_pos (by simpa using hc5)] at hR
  refine wr'<|mw<|sn'<|Zaa<|Zaq<|Zah<|Zae rz<|rT'<|?_
  rw[hR]
 rw[if_neg (by simpa using hc5)] at hR
 refine wr'<|Vw (Zab lk)<|Vw (Zac lk gx gt9)<|Zad mp (Zb3) pt<|Vw (Zax lk)<|mw<|sn'<|?_
 refine Zaw lk (fun hc6=>?_) (fun hc6=>?_)
 ·rw[if_pos (by simpa using hc6)] at hR
  refine wr'<|mw<|sn'<|Zaa<|Zaq<|Zah<|Zae rz<|rT'<|?_
  rw[hR]
 rw[if_neg (by simpa using hc6)] at hR
 refine Zaf<|Zaz<|Zag<|wr'<|mw<|sn'<|Zaa<|Zae rz<|rT'<|?_
 rw[hR]
theorem ZkV {y m d:Int}{h:AH}:Ac 35 [.agg [iv y,iv m,iv d]] h (.tup [iv (if Zbe y m d=true then num y m d else 0),iv (if Zbe y m d=true then 0 else 3)]):=days_a
def eraE (sh:Int) (rl:ByteArray) (sa:Int) (fm:ByteArray) (op:Bool) (y m d a c:Int) (last:Bool):Int :=
 if (rl≠⟨#[]⟩∧¬Zcu rl=true)∨¬ZbL fm=true then 1
 else if ¬wi sh (-64800) 64800=true∨¬wi sa 0 10800=true then 3
 else if rl≠⟨#[]⟩∧sa≠0 then 1
 else if op≠last then 4
 else if op=true then (if ¬(y=0∧m=0∧d=0∧a=0∧c=0) then 1 else 0)
 else if ¬Zbe y m d=true then 3
 else if ¬wi a 0 172800=true then 3
 else if ¬clkB c false=true then 7 else 0
theorem era_b {rl fm:ByteArray}{sh sa y m d a c:Int}{op last:Bool}{h:AH}(hrl:rl.size≤maxLen) (hfm:fm.size≤maxLen):Ac 278 [.agg [iv sh,sv rl,iv sa,sv fm,bv op,iv y,iv m,iv d,iv a,iv c],bv last] h (iv (eraE sh rl sa fm op y m d a c last)):=by
 refine tI' k278 fun N hn hlt hlA hbd=>?_
 simp only[tb'] at hbd ⊢
 refine wr'<|E' (Zbd cv rfl (hl0 hn) ha0) pt<|mw<|sn'<|Zam<|Zap<|wr'<|Vw (Zab lk)<|Vw (Zac lk gx gt1)<|Vw (ZcD lk lks)<|mw<|?_
 refine sp' (t:=11) gt pt pt (fun hg11=>?_) (fun hg11=>?_)
 ·refine s_do gt<|Vw (Zab lk)<|s_do gt<|Vw (Zac lk gx gt1)<|s_do gt<|Zad mp (ZlT hrl) pt<|s_do gt<|Vw (Zax lk)<|Vw (Zak lk lk)<|mw<|?_
  refine ZaF (t:=17) gt pt pt (fun hg17=>?_) (fun hg17=>?_)
  ·refine s_no gt pt<|s_no gt pt<|s_no gt pt<|s_no gt pt<|Vw (Zak lk lkb)<|mw<|sn'<|ZaG lk<|wr'<|mw<|sn'<|?_
   refine Zaa<|Zaq<|Zah<|Zae rz<|rT'<|?_
   refine ivx ?_;unfold eraE;simp_all
  refine s_do gt<|Vw (Zab lk)<|s_do gt<|Vw (Zac lk gx gt3)<|s_do gt<|Zad mp (ZoZ hfm) pt<|s_do gt<|Vw (Zax lk)<|Vw (Zaj lk lk)<|mw<|sn'<|?_
  refine Zaw lk (fun hc1=>?_) (fun hc1=>?_)
  ·refine wr'<|mw<|sn'<|Zaa<|Zaq<|Zah<|Zae rz<|rT'<|?_
   refine ivx ?_;unfold eraE;simp_all
  refine wr'<|Vw (Zab lk)<|Vw (Zac lk gx gt0)<|Zad mp (Zb3) pt<|Vw (Zax lk)<|mw<|?_
  refine ZaF (t:=28) gt pt pt (fun hg28=>?_) (fun hg28=>?_)
  ·refine s_no gt pt<|s_no gt pt<|s_no gt pt<|s_no gt pt<|Vw (Zak lk lkb)<|mw<|sn'<|ZaG lk<|wr'<|mw<|sn'<|?_
   refine Zaa<|Zaq<|Zah<|Zae rz<|rT'<|?_
   refine ivx ?_;unfold eraE;simp_all
  refine s_do gt<|Vw (Zab lk)<|s_do gt<|Vw (Zac lk gx gt2)<|s_do gt<|Zad mp (Zb3) pt<|s_do gt<|Vw (Zax lk)<|Vw (Zaj lk lk)<|mw<|sn'<|?_
  refine Zaw lk (fun hc2=>?_) (fun hc2=>?_)
  ·refine wr'<|mw<|sn'<|Zaa<|Zaq<|Zah<|Zae rz<|rT'<|?_
   refine ivx ?_;unfold eraE;simp_all
  refine wr'<|Vw (Zab lk)<|Vw (Zac lk gx gt1)<|Vw (ZcD lk lks)<|mw<|?_
  refine sp' (t:=38) gt pt pt (fun hg38=>?_) (fun hg38=>?_)
  ·refine s_do gt<|Vw (Zab lk)<|s_do gt<|Vw (Zac lk gx gt2)<|s_do gt<|Vw (ZaX lk lki)<|Vw (Zak lk lk)<|mw<|sn'<|?_
   refine cd' lk (fun hc3=>?_) (fun hc3=>?_)
   ·refine wr'<|mw<|sn'<|Zaa<|Zaq<|Zah<|Zae rz<|rT'<|?_
    refine ivx ?_;unfold eraE;simp_all
   refine wr'<|Vw (Zab lk)<|Vw (Zac lk gx gt4)<|mw<|Vw (ZdM lk lk)<|mw<|sn'<|?_
   refine cd' lk (fun hc4=>?_) (fun hc4=>?_)
   ·refine wr'<|mw<|sn'<|Zaa<|Zaq<|Zah<|Zae rz<|rT'<|?_
    refine ivx ?_;unfold eraE;simp_all
   refine wr'<|Vw (Zab lk)<|Vw (Zac lk gx gt4)<|mw<|sn'<|?_
   refine Zaw lk (fun hc5=>?_) (fun hc5=>?_)
   ·refine Zam<|wr'<|Vw (Zab lk)<|Vw (Zao lk gx Zfq rfl)<|Vw (Zau ZeD)<|Vw (Zlj lk lk Zdn)<|sn'<|?_
    refine cd' lk (fun hc6=>?_) (fun hc6=>?_)
    ·refine wr'<|mw<|sn'<|Zaa<|Zah<|Zaq<|Zah<|Zae rz<|rT'<|?_
     refine ivx ?_;unfold eraE;simp_all
    refine Zaf<|Zag<|wr'<|mw<|sn'<|Zaa<|Zaq<|Zah<|Zae rz<|rT'<|?_
    refine ivx ?_;unfold eraE;simp_all
   refine Zaf<|Zaz<|Zag<|Zam<|wr'<|Vw (Zab lk)<|Vw (ZbK lk)<|Vw (Zao lk gx Zfr rfl)<|Zad mp (ZkV) pt<|mw<|Vw (ZaS lk gt)<|Vw (ZaS lk gt)<|mw<|?_
   refine mw<|sn'<|wr'<|mw<|Vw (ZaX lk lki)<|sn'<|?_
   refine cd' lk (fun hc7=>?_) (fun hc7=>?_)
   ·refine wr'<|mw<|mw<|sn'<|Zaa<|Zah<|Zae rz<|rT'<|?_
    refine ivx ?_;unfold eraE;simp_all
   refine Zaf<|Zag<|Zam<|Zap<|wr'<|Vw (Zab lk)<|Vw (ZbK lk)<|Vw (Zac lk gx gt8)<|Zad mp (Zb3) pt<|Vw (Zax lk)<|mw<|sn'<|?_
   refine Zaw lk (fun hc8=>?_) (fun hc8=>?_)
   ·refine wr'<|mw<|sn'<|Zaa<|Zaq<|Zah<|Zae rz<|rT'<|?_
    refine ivx ?_;unfold eraE;simp_all
   refine wr'<|Vw (Zab lk)<|Vw (ZbK lk)<|Vw (Zac lk gx gt9)<|Zad mp (Zix) pt<|Vw (Zax lk)<|mw<|sn'<|?_
   refine Zaw lk (fun hc9=>?_) (fun hc9=>?_)
   ·refine wr'<|mw<|sn'<|Zaa<|Zaq<|Zah<|Zae rz<|rT'<|?_
    refine ivx ?_;unfold eraE;simp_all
   refine Zaf<|Zaz<|Zag<|wr'<|mw<|sn'<|Zaa<|Zae rz<|rT'<|?_
   refine ivx ?_;unfold eraE;simp_all
  refine s_no gt pt<|s_no gt pt<|s_no gt pt<|Vw (Zaj lk lkb)<|mw<|sn'<|ZaO lk<|wr'<|Vw (Zab lk)<|Vw (Zac lk gx gt4)<|mw<|Vw (ZdM lk lk)<|?_
  refine mw<|sn'<|?_
  refine cd' lk (fun hc4=>?_) (fun hc4=>?_)
  ·refine wr'<|mw<|sn'<|Zaa<|Zaq<|Zah<|Zae rz<|rT'<|?_
   refine ivx ?_;unfold eraE;simp_all
  refine wr'<|Vw (Zab lk)<|Vw (Zac lk gx gt4)<|mw<|sn'<|?_
  refine Zaw lk (fun hc5=>?_) (fun hc5=>?_)
  ·refine Zam<|wr'<|Vw (Zab lk)<|Vw (Zao lk gx Zfq rfl)<|Vw (Zau ZeD)<|Vw (Zlj lk lk Zdn)<|sn'<|?_
   refine cd' lk (fun hc6=>?_) (fun hc6=>?_)
   ·refine wr'<|mw<|sn'<|Zaa<|Zah<|Zaq<|Zah<|Zae rz<|rT'<|?_
    refine ivx ?_;unfold eraE;simp_all
   refine Zaf<|Zag<|wr'<|mw<|sn'<|Zaa<|Zaq<|Zah<|Zae rz<|rT'<|?_
   refine ivx ?_;unfold eraE;simp_all
  refine Zaf<|Zaz<|Zag<|Zam<|wr'<|Vw (Zab lk)<|Vw (ZbK lk)<|Vw (Zao lk gx Zfr rfl)<|Zad mp (ZkV) pt<|mw<|Vw (ZaS lk gt)<|Vw (ZaS lk gt)<|mw<|?_
  refine mw<|sn'<|wr'<|mw<|Vw (ZaX lk lki)<|sn'<|?_
  refine cd' lk (fun hc7=>?_) (fun hc7=>?_)
  ·refine wr'<|mw<|mw<|sn'<|Zaa<|Zah<|Zae rz<|rT'<|?_
   refine ivx ?_;unfold eraE;simp_all
  refine Zaf<|Zag<|Zam<|Zap<|wr'<|Vw (Zab lk)<|Vw (ZbK lk)<|Vw (Zac lk gx gt8)<|Zad mp (Zb3) pt<|Vw (Zax lk)<|mw<|sn'<|?_
  refine Zaw lk (fun hc8=>?_) (fun hc8=>?_)
  ·refine wr'<|mw<|sn'<|Zaa<|Zaq<|Zah<|Zae rz<|rT'<|?_
   refine ivx ?_;unfold eraE;simp_all
  refine wr'<|Vw (Zab lk)<|Vw (ZbK lk)<|Vw (Zac lk gx gt9)<|Zad mp (Zix) pt<|Vw (Zax lk)<|mw<|sn'<|?_
  refine Zaw lk (fun hc9=>?_) (fun hc9=>?_)
  ·refine wr'<|mw<|sn'<|Zaa<|Zaq<|Zah<|Zae rz<|rT'<|?_
   refine ivx ?_;unfold eraE;simp_all
  refine Zaf<|Zaz<|Zag<|wr'<|mw<|sn'<|Zaa<|Zae rz<|rT'<|?_
  refine ivx ?_;unfold eraE;simp_all
 refine s_no gt pt<|s_no gt pt<|s_no gt pt<|s_no gt pt<|Vw (Zaj lk lkb)<|mw<|s_do gt<|Vw (Zab lk)<|s_do gt<|Vw (Zac lk gx gt3)<|s_do gt<|Zad mp (ZoZ hfm) pt<|s_do gt<|Vw (Zax lk)<|?_
 refine Vw (Zaj lk lk)<|mw<|sn'<|?_
 refine Zaw lk (fun hc1=>?_) (fun hc1=>?_)
 ·refine wr'<|mw<|sn'<|Zaa<|Zaq<|Zah<|Zae rz<|rT'<|?_
  refine ivx ?_;unfold eraE;simp_all
 refine wr'<|Vw (Zab lk)<|Vw (Zac lk gx gt0)<|Zad mp (Zb3) pt<|Vw (Zax lk)<|mw<|?_
 refine ZaF (t:=28) gt pt pt (fun hg28=>?_) (fun hg28=>?_)
 ·refine s_no gt pt<|s_no gt pt<|s_no gt pt<|s_no gt pt<|Vw (Zak lk lkb)<|mw<|sn'<|ZaG lk<|wr'<|mw<|sn'<|?_
  refine Zaa<|Zaq<|Zah<|Zae rz<|rT'<|?_
  refine ivx ?_;unfold eraE;simp_all
 refine s_do gt<|Vw (Zab lk)<|s_do gt<|Vw (Zac lk gx gt2)<|s_do gt<|Zad mp (Zb3) pt<|s_do gt<|Vw (Zax lk)<|Vw (Zaj lk lk)<|mw<|sn'<|?_
 refine Zaw lk (fun hc2=>?_) (fun hc2=>?_)
 ·refine wr'<|mw<|sn'<|Zaa<|Zaq<|Zah<|Zae rz<|rT'<|?_
  refine ivx ?_;unfold eraE;simp_all
 refine wr'<|Vw (Zab lk)<|Vw (Zac lk gx gt1)<|Vw (ZcD lk lks)<|mw<|?_
 refine sp' (t:=38) gt pt pt (fun hg38=>?_) (fun hg38=>?_)
 ·refine s_do gt<|Vw (Zab lk)<|s_do gt<|Vw (Zac lk gx gt2)<|s_do gt<|Vw (ZaX lk lki)<|Vw (Zak lk lk)<|mw<|sn'<|?_
  refine cd' lk (fun hc3=>?_) (fun hc3=>?_)
  ·refine wr'<|mw<|sn'<|Zaa<|Zaq<|Zah<|Zae rz<|rT'<|?_
   refine ivx ?_;unfold eraE;simp_all
  refine wr'<|Vw (Zab lk)<|Vw (Zac lk gx gt4)<|mw<|Vw (ZdM lk lk)<|mw<|sn'<|?_
  refine cd' lk (fun hc4=>?_) (fun hc4=>?_)
  ·refine wr'<|mw<|sn'<|Zaa<|Zaq<|Zah<|Zae rz<|rT'<|?_
   refine ivx ?_;unfold eraE;simp_all
  refine wr'<|Vw (Zab lk)<|Vw (Zac lk gx gt4)<|mw<|sn'<|?_
  refine Zaw lk (fun hc5=>?_) (fun hc5=>?_)
  ·refine Zam<|wr'<|Vw (Zab lk)<|Vw (Zao lk gx Zfq rfl)<|Vw (Zau ZeD)<|Vw (Zlj lk lk Zdn)<|sn'<|?_
   refine cd' lk (fun hc6=>?_) (fun hc6=>?_)
   ·refine wr'<|mw<|sn'<|Zaa<|Zah<|Zaq<|Zah<|Zae rz<|rT'<|?_
    refine ivx ?_;unfold eraE;simp_all
   refine Zaf<|Zag<|wr'<|mw<|sn'<|Zaa<|Zaq<|Zah<|Zae rz<|rT'<|?_
   refine ivx ?_;unfold eraE;simp_all
  refine Zaf<|Zaz<|Zag<|Zam<|wr'<|Vw (Zab lk)<|Vw (ZbK lk)<|Vw (Zao lk gx Zfr rfl)<|Zad mp (ZkV) pt<|mw<|Vw (ZaS lk gt)<|Vw (ZaS lk gt)<|mw<|?_
  refine mw<|sn'<|wr'<|mw<|Vw (ZaX lk lki)<|sn'<|?_
  refine cd' lk (fun hc7=>?_) (fun hc7=>?_)
  ·refine wr'<|mw<|mw<|sn'<|Zaa<|Zah<|Zae rz<|rT'<|?_
   refine ivx ?_;unfold eraE;simp_all
  refine Zaf<|Zag<|Zam<|Zap<|wr'<|Vw (Zab lk)<|Vw (ZbK lk)<|Vw (Zac lk gx gt8)<|Zad mp (Zb3) pt<|Vw (Zax lk)<|mw<|sn'<|?_
  refine Zaw lk (fun hc8=>?_) (fun hc8=>?_)
  ·refine wr'<|mw<|sn'<|Zaa<|Zaq<|Zah<|Zae rz<|rT'<|?_
   refine ivx ?_;unfold eraE;simp_all
  refine wr'<|Vw (Zab lk)<|Vw (ZbK lk)<|Vw (Zac lk gx gt9)<|Zad mp (Zix) pt<|Vw (Zax lk)<|mw<|sn'<|?_
  refine Zaw lk (fun hc9=>?_) (fun hc9=>?_)
  ·refine wr'<|mw<|sn'<|Zaa<|Zaq<|Zah<|Zae rz<|rT'<|?_
   refine ivx ?_;unfold eraE;simp_all
  refine Zaf<|Zaz<|Zag<|wr'<|mw<|sn'<|Zaa<|Zae rz<|rT'<|?_
  refine ivx ?_;unfold eraE;simp_all
 refine s_no gt pt<|s_no gt pt<|s_no gt pt<|Vw (Zaj lk lkb)<|mw<|sn'<|ZaO lk<|wr'<|Vw (Zab lk)<|Vw (Zac lk gx gt4)<|mw<|Vw (ZdM lk lk)<|?_
 refine mw<|sn'<|?_
 refine cd' lk (fun hc4=>?_) (fun hc4=>?_)
 ·refine wr'<|mw<|sn'<|Zaa<|Zaq<|Zah<|Zae rz<|rT'<|?_
  refine ivx ?_;unfold eraE;simp_all
 refine wr'<|Vw (Zab lk)<|Vw (Zac lk gx gt4)<|mw<|sn'<|?_
 refine Zaw lk (fun hc5=>?_) (fun hc5=>?_)
 ·refine Zam<|wr'<|Vw (Zab lk)<|Vw (Zao lk gx Zfq rfl)<|Vw (Zau ZeD)<|Vw (Zlj lk lk Zdn)<|sn'<|?_
  refine cd' lk (fun hc6=>?_) (fun hc6=>?_)
  ·refine wr'<|mw<|sn'<|Zaa<|Zah<|Zaq<|Zah<|Zae rz<|rT'<|?_
   refine ivx ?_;unfold eraE;simp_all
  refine Zaf<|Zag<|wr'<|mw<|sn'<|Zaa<|Zaq<|Zah<|Zae rz<|rT'<|?_
  refine ivx ?_;unfold eraE;simp_all
 refine Zaf<|Zaz<|Zag<|Zam<|wr'<|Vw (Zab lk)<|Vw (ZbK lk)<|Vw (Zao lk gx Zfr rfl)<|Zad mp (ZkV) pt<|mw<|Vw (ZaS lk gt)<|Vw (ZaS lk gt)<|mw<|?_
 refine mw<|sn'<|wr'<|mw<|Vw (ZaX lk lki)<|sn'<|?_
 refine cd' lk (fun hc7=>?_) (fun hc7=>?_)
 ·refine wr'<|mw<|mw<|sn'<|Zaa<|Zah<|Zae rz<|rT'<|?_
  refine ivx ?_;unfold eraE;simp_all
 refine Zaf<|Zag<|Zam<|Zap<|wr'<|Vw (Zab lk)<|Vw (ZbK lk)<|Vw (Zac lk gx gt8)<|Zad mp (Zb3) pt<|Vw (Zax lk)<|mw<|sn'<|?_
 refine Zaw lk (fun hc8=>?_) (fun hc8=>?_)
 ·refine wr'<|mw<|sn'<|Zaa<|Zaq<|Zah<|Zae rz<|rT'<|?_
  refine ivx ?_;unfold eraE;simp_all
 refine wr'<|Vw (Zab lk)<|Vw (ZbK lk)<|Vw (Zac lk gx gt9)<|Zad mp (Zix) pt<|Vw (Zax lk)<|mw<|sn'<|?_
 refine Zaw lk (fun hc9=>?_) (fun hc9=>?_)
 ·refine wr'<|mw<|sn'<|Zaa<|Zaq<|Zah<|Zae rz<|rT'<|?_
  refine ivx ?_;unfold eraE;simp_all
 refine Zaf<|Zaz<|Zag<|wr'<|mw<|sn'<|Zaa<|Zae rz<|rT'<|?_
 refine ivx ?_;unfold eraE;simp_all
abbrev eraX (x:Era) (last:Bool):Int:=eraE x.1 x.2.1 x.2.2.1 x.2.2.2.1 x.2.2.2.2.1 x.2.2.2.2.2.1.1 x.2.2.2.2.2.1.2.1 x.2.2.2.2.2.1.2.2 x.2.2.2.2.2.2.1 x.2.2.2.2.2.2.2 last
def Zgj:List Era→Int
 | []=>0
 | x::xs=>if eraX x xs.isEmpty≠0 then eraX x xs.isEmpty else Zgj xs
def ZeN (z:Zon):Int:=if ¬Zcu z.1=true∨z.2.length=0 then 1 else Zgj z.2
def ZrY (x:Era):Prop:=x.2.1.size≤maxLen∧x.2.2.2.1.size≤maxLen
theorem Zo3 {l:List Era}{k:Nat}(h:k<l.length):Zgj (l.drop k)=if eraX l[k] (decide ((k:Int)=(l.length:Int)-1))≠0 then eraX l[k] (decide ((k:Int)=(l.length:Int)-1)) else Zgj (l.drop (k+1)):=by
 have e:(l.drop (k+1)).isEmpty=decide ((k:Int)=(l.length:Int)-1):=by
  rw[Bool.eq_iff_iff,List.isEmpty_iff,List.drop_eq_nil_iff,decide_eq_true_iff];omega
 rw[List.drop_eq_getElem_cons h,Zgj,e]
theorem zone_b {nm:ByteArray}{l:List Era}{h:AH}(hnm:nm.size≤maxLen) (hl : ∀ x∈l,ZrY x):Ac 207 [.agg [sv nm,.sl l.length 10 false (rows eraC l)]] h (iv (ZeN (nm,l))):=by
 refine tI' k207 fun N hn hlt hlA hbd=>?_
 simp only[tb'] at hbd ⊢
 refine wr'<|E' (Zbd cv rfl (hl0 hn) ha0) pt<|mw<|sn'<|Zam<|wr'<|Vw (Zab lk)<|Vw (Zac lk gx gt0)<|Zad mp (ZlT hnm) pt<|Vw (Zax lk)<|mw<|?_
 refine ZaF (t:=10) gt pt pt (fun hg10=>?_) (fun hg10=>?_)
 ·have hZ:ZeN (nm,l)=1:=if_pos (.inl (by simpa using hg10))
  refine s_no gt pt<|s_no gt pt<|s_no gt pt<|s_no gt pt<|Vw (Zak lk lkb)<|sn'<|ZaG lk<|wr'<|mw<|sn'<|Zaa<|?_
  refine Zah<|Zae rz<|rT'<|?_
  rw[hZ]
 refine s_do gt<|Vw (Zab lk)<|s_do gt<|Vw (Zac lk gx gt1)<|s_do gt<|Vw (ZaL lk)<|s_do gt<|Vw (ZaQ lk lki)<|Vw (Zaj lk lk)<|sn'<|?_
 refine cd' lk (fun hc1=>?_) (fun hc1=>?_)
 ·have hZ:ZeN (nm,l)=1:=if_pos (.inr (by show l.length=0;omega))
  refine wr'<|mw<|sn'<|Zaa<|Zah<|Zae rz<|rT'<|?_
  rw[hZ]
 have hZ:ZeN (nm,l)=Zgj l:=if_neg (by rintro (h1 | h1);exact h1 (by simpa using hg10);exact hc1 (by show (l.length:Int)=0;have:l.length=0:=h1;omega))
 refine Zaf<|Zag<|Zam<|wr'<|Vw (Zab lk)<|Vw (Zac lk gx gt1)<|Vw (ZaL lk)<|mw<|sn'<|Zap<|?_
 refine w_lp (ι:=Nat) (fun (k:Nat)=>[(19,iv (k:Int))]++rn' 2 4++rn' 20 16) (fun (k:Nat)=>[]) (fun (k:Nat)=>k≤l.length∧Zgj l=Zgj (l.drop k)) (fun (k:Nat)=>l.length-k) (0) (by exact⟨Nat.zero_le _,rfl⟩) ?_
 rintro k hi1
 try simp only[sm',Nat.reduceAdd]
 obtain⟨hk1,hk2⟩:=hi1
 refine wr'<|Vw (Zbc lk lk)<|sn'<|Zam<|?_
 refine cd' lk (fun hc2=>?_) (fun hc2=>?_)
 ·have hk:k<l.length:=by omega
  have ho:=hl _ (List.getElem_mem hk)
  rw[Zo3 hk] at hk2
  refine Zaf<|Zag<|Zam<|Zap<|wr'<|mw<|?_
  refine V' (ZaU lk lk ZcM (nb' rfl) ro om ro rfl) pt ?_
  refine Vw (ZaI lk ZqL rfl)<|E' (ZaW (hl1 hn) ha1) pt<|mw<|E' (Zai lk cv gx rfl (nb' rfl) rfl Zoa (hs1 hn)) ptn<|sn'<|wr'<|Vw (Zao lk gx Zn8 rfl)<|mw<|Vw (Zab lk)<|Vw (Zac lk gx gt1)<|Vw (ZaL lk)<|?_
  refine V' (ZbB lk lki om om) pt ?_
  refine Vw (ZaQ lk lk)<|Zad mp (era_b (last:=decide ((k:Int)=(l.length:Int)-1)) ho.1 ho.2) pt<|mw<|sn'<|wr'<|mw<|Vw (ZaX lk lki)<|sn'<|?_
  refine cd' lk (fun hc3=>?_) (fun hc3=>?_)
  ·have hc3':eraX l[k] (decide ((k:Int)=(l.length:Int)-1))≠0:=hc3
   rw[if_pos hc3'] at hk2
   refine wr'<|mw<|mw<|sn'<|Zaa<|Zaq<|Zah<|Zah<|Zaq<|Zah<|Zae rz<|rT'<|?_
   rw[hZ,hk2]
  have hc3':¬eraX l[k] (decide ((k:Int)=(l.length:Int)-1))≠0:=hc3
  rw[if_neg hc3'] at hk2
  refine Zaf<|Zaz<|Zag<|Zav<|?_
  refine V' (Zay lk lki om om) pt ?_
  refine mw<|Zar<|ZaB<|?_
  refine lU' (k+1) (by (try dsimp only);exact⟨by omega,hk2⟩) (by (try dsimp only);(try simp only[sm',Nat.reduceAdd]);exact bk' 1 hn hlt)
 rw[List.drop_of_length_le om] at hk2
 refine ZaM<|ZaD<|ZaD<|Zbb<|Zag<|wr'<|mw<|sn'<|Zaa<|Zae rz<|rT'<|?_
 rw[hZ,hk2];rfl
def Za1 {α:Type}(p:α→Int):List α→Int
 | []=>0
 | x::xs=>if p x≠0 then p x else Za1 p xs
theorem ZdI {α:Type}{p:α→Int}{l:List α}{k:Nat}(h:k<l.length):Za1 p (l.drop k)=if p l[k]≠0 then p l[k] else Za1 p (l.drop (k+1)):=by
 rw[List.drop_eq_getElem_cons h,Za1]
theorem ZpQ {p:Rul→Int}{f:FuncId}{l:List Rul}(hp : ∀ x∈l,∀ h:AH,ACalls Tryz.prog f [.agg (rulC x)] h fun y h'=>h'=h∧y=.ret (iv (p x))) {h:AH}:Ac 205 [.sl l.length 11 false (rows rulC l),.v (.func (.func f) #[] #[])] h (iv (Za1 p l)):=by
 refine tI' k205 fun N hn hlt hlA hbd=>?_
 simp only[tb'] at hbd ⊢
 refine wr'<|mw<|sn'<|Zam<|wr'<|mw<|Vw (ZaL lk)<|mw<|sn'<|Zap<|?_
 refine w_lp (ι:=Nat) (fun (k:Nat)=>[(10,iv (k:Int)),(4,.any),(6,.any),(7,.any)]++rn' 11 10) (fun (k:Nat)=>[]) (fun (k:Nat)=>k≤l.length∧Za1 p l=Za1 p (l.drop k)) (fun (k:Nat)=>l.length-k) (0) (by exact⟨Nat.zero_le _,rfl⟩) ?_
 rintro k hi1
 try simp only[sm',Nat.reduceAdd]
 obtain⟨hk1,hk2⟩:=hi1
 refine wr'<|Vw (Zbc lk lk)<|sn'<|Zam<|?_
 refine cd' lk (fun hc1=>?_) (fun hc1=>?_)
 ·have hk:k<l.length:=by omega
  rw[ZdI hk] at hk2
  refine Zaf<|Zag<|Zam<|Zap<|wr'<|?_
  refine V' (ZaU lk lk Ze8 (nb' rfl) ro om ro rfl) pt ?_
  refine Vw (ZaI lk ZqK rfl)<|E' (ZaW (hl0 hn) ha0) pt<|E' (Zai lk cv gx rfl (nb' rfl) rfl Zn9 (hs0 hn)) ptn<|sn'<|wr'<|mw<|Vw (Zao lk gx Zn7 rfl)<|Zh7 lk mp (hp _ (List.getElem_mem hk) _) pt<|mw<|sn'<|Zam<|?_
  refine Zav<|mw<|Vw (ZaX lk lki)<|sn'<|?_
  refine cd' lk (fun hc2=>?_) (fun hc2=>?_)
  ·rw[if_pos hc2] at hk2
   refine wr'<|mw<|mw<|sn'<|Zaa<|Zaq<|Zah<|Zah<|Zaq<|Zah<|Zae rz<|rT'<|?_
   rw[hk2]
  rw[if_neg hc2] at hk2
  refine Zaf<|Zaz<|Zag<|Zav<|?_
  refine V' (Zay lk lki om om) pt ?_
  refine mw<|Zar<|ZaB<|?_
  refine lU' (k+1) (by (try dsimp only);exact⟨by omega,hk2⟩) (by (try dsimp only);(try simp only[sm',Nat.reduceAdd]);exact bk' 0 hn hlt)
 rw[List.drop_of_length_le om] at hk2
 refine ZaM<|ZaD<|ZaD<|Zbb<|Zag<|wr'<|mw<|sn'<|Zaa<|Zae rz<|rT'<|?_
 rw[hk2];rfl
theorem ZpP {p:Zon→Int}{f:FuncId}{l:List Zon}(hp : ∀ x∈l,∀ h:AH,ACalls Tryz.prog f [.agg (zonC x)] h fun y h'=>h'=h∧y=.ret (iv (p x))) {h:AH}:Ac 206 [.sl l.length 2 false (rows zonC l),.v (.func (.func f) #[] #[])] h (iv (Za1 p l)):=by
 refine tI' k206 fun N hn hlt hlA hbd=>?_
 simp only[tb'] at hbd ⊢
 refine wr'<|mw<|sn'<|Zam<|wr'<|mw<|Vw (ZaL lk)<|mw<|sn'<|Zap<|?_
 refine w_lp (ι:=Nat) (fun (k:Nat)=>[(10,iv (k:Int)),(4,.any),(6,.any),(7,.any)]++rn' 11 10) (fun (k:Nat)=>[]) (fun (k:Nat)=>k≤l.length∧Za1 p l=Za1 p (l.drop k)) (fun (k:Nat)=>l.length-k) (0) (by exact⟨Nat.zero_le _,rfl⟩) ?_
 rintro k hi1
 try simp only[sm',Nat.reduceAdd]
 obtain⟨hk1,hk2⟩:=hi1
 refine wr'<|Vw (Zbc lk lk)<|sn'<|Zam<|?_
 refine cd' lk (fun hc1=>?_) (fun hc1=>?_)
 ·have hk:k<l.length:=by omega
  rw[ZdI hk] at hk2
  refine Zaf<|Zag<|Zam<|Zap<|wr'<|?_
  refine V' (ZaU lk lk ZcJ (nb' rfl) ro om ro rfl) pt ?_
  refine Vw (ZaI lk ZiU rfl)<|E' (ZaW (hl0 hn) ha0) pt<|E' (Zai lk cv gx rfl (nb' rfl) rfl Zg9 (hs0 hn)) ptn<|sn'<|wr'<|mw<|Vw (Zao lk gx Zj9 rfl)<|Zh7 lk mp (hp _ (List.getElem_mem hk) _) pt<|mw<|sn'<|Zam<|?_
  refine Zav<|mw<|Vw (ZaX lk lki)<|sn'<|?_
  refine cd' lk (fun hc2=>?_) (fun hc2=>?_)
  ·rw[if_pos hc2] at hk2
   refine wr'<|mw<|mw<|sn'<|Zaa<|Zaq<|Zah<|Zah<|Zaq<|Zah<|Zae rz<|rT'<|?_
   rw[hk2]
  rw[if_neg hc2] at hk2
  refine Zaf<|Zaz<|Zag<|Zav<|?_
  refine V' (Zay lk lki om om) pt ?_
  refine mw<|Zar<|ZaB<|?_
  refine lU' (k+1) (by (try dsimp only);exact⟨by omega,hk2⟩) (by (try dsimp only);(try simp only[sm',Nat.reduceAdd]);exact bk' 0 hn hlt)
 rw[List.drop_of_length_le om] at hk2
 refine ZaM<|ZaD<|ZaD<|Zbb<|Zag<|wr'<|mw<|sn'<|Zaa<|Zae rz<|rT'<|?_
 rw[hk2];rfl
theorem ZjF {p:Lnk→Int}{f:FuncId}{l:List Lnk}(hp : ∀ x∈l,∀ h:AH,ACalls Tryz.prog f [.agg (lnkC x)] h fun y h'=>h'=h∧y=.ret (iv (p x))) {h:AH}:Ac 208 [.sl l.length 2 false (rows lnkC l),.v (.func (.func f) #[] #[])] h (iv (Za1 p l)):=by
 refine tI' k208 fun N hn hlt hlA hbd=>?_
 simp only[tb'] at hbd ⊢
 refine wr'<|mw<|sn'<|Zam<|wr'<|mw<|Vw (ZaL lk)<|mw<|sn'<|Zap<|?_
 refine w_lp (ι:=Nat) (fun (k:Nat)=>[(10,iv (k:Int)),(4,.any),(6,.any),(7,.any)]++rn' 11 10) (fun (k:Nat)=>[]) (fun (k:Nat)=>k≤l.length∧Za1 p l=Za1 p (l.drop k)) (fun (k:Nat)=>l.length-k) (0) (by exact⟨Nat.zero_le _,rfl⟩) ?_
 rintro k hi1
 try simp only[sm',Nat.reduceAdd]
 obtain⟨hk1,hk2⟩:=hi1
 refine wr'<|Vw (Zbc lk lk)<|sn'<|Zam<|?_
 refine cd' lk (fun hc1=>?_) (fun hc1=>?_)
 ·have hk:k<l.length:=by omega
  rw[ZdI hk] at hk2
  refine Zaf<|Zag<|Zam<|Zap<|wr'<|?_
  refine V' (ZaU lk lk ZdT (nb' rfl) ro om ro rfl) pt ?_
  refine Vw (ZaI lk ZiU rfl)<|E' (ZaW (hl0 hn) ha0) pt<|E' (Zai lk cv gx rfl (nb' rfl) rfl Zg9 (hs0 hn)) ptn<|sn'<|wr'<|mw<|Vw (Zao lk gx Zj9 rfl)<|Zh7 lk mp (hp _ (List.getElem_mem hk) _) pt<|mw<|sn'<|Zam<|?_
  refine Zav<|mw<|Vw (ZaX lk lki)<|sn'<|?_
  refine cd' lk (fun hc2=>?_) (fun hc2=>?_)
  ·rw[if_pos hc2] at hk2
   refine wr'<|mw<|mw<|sn'<|Zaa<|Zaq<|Zah<|Zah<|Zaq<|Zah<|Zae rz<|rT'<|?_
   rw[hk2]
  rw[if_neg hc2] at hk2
  refine Zaf<|Zaz<|Zag<|Zav<|?_
  refine V' (Zay lk lki om om) pt ?_
  refine mw<|Zar<|ZaB<|?_
  refine lU' (k+1) (by (try dsimp only);exact⟨by omega,hk2⟩) (by (try dsimp only);(try simp only[sm',Nat.reduceAdd]);exact bk' 0 hn hlt)
 rw[List.drop_of_length_le om] at hk2
 refine ZaM<|ZaD<|ZaD<|Zbb<|Zag<|wr'<|mw<|sn'<|Zaa<|Zae rz<|rT'<|?_
 rw[hk2];rfl
def ZeM (s:Src):Bool:=s.2.1.any (fun z=>decide (8<z.2.length))||decide (40<s.1.length)||decide (20<s.2.1.length)||decide (20<s.2.2.length)
theorem many_b {a:List Rul}{z:List Zon}{l:List Lnk}{h:AH}:Ac 204 [.agg [.sl a.length 11 false (rows rulC a),.sl z.length 2 false (rows zonC z),.sl l.length 2 false (rows lnkC l)]] h (bv (ZeM (a,z,l))):=by
 refine tI' k204 fun N hn hlt hlA hbd=>?_
 simp only[tb'] at hbd ⊢
 refine wr'<|E' (Zbd cv rfl (hl0 hn) ha0) pt<|mw<|sn'<|Zam<|wr'<|Vw (Zab lk)<|Vw (Zac lk gx gt1)<|Vw (ZaL lk)<|mw<|Zar<|?_
 refine Zag<|Zap<|?_
 refine w_lp (ι:=Nat) (fun (k:Nat)=>[(8,iv (k:Int)),(2,.any),(4,.any)]++rn' 9 8) (fun (k:Nat)=>[]) (fun (k:Nat)=>k≤z.length∧(z.take k).any (fun z=>decide (8<z.2.length))=false) (fun (k:Nat)=>z.length-k) (0) (by exact⟨Nat.zero_le _,rfl⟩) ?_
 rintro k hi1
 try simp only[sm',Nat.reduceAdd]
 obtain⟨hk1,hk2⟩:=hi1
 refine wr'<|Vw (Zbc lk lk)<|sn'<|Zam<|?_
 refine cd' lk (fun hc1=>?_) (fun hc1=>?_)
 ·have hk:k<z.length:=by omega
  refine Zaf<|Zag<|Zam<|Zap<|wr'<|?_
  refine V' (ZaU lk lk ZcJ (nb' rfl) ro om ro rfl) pt ?_
  refine Vw (ZaI lk ZiU rfl)<|E' (ZaW (hl1 hn) ha1) pt<|E' (Zai lk cv gx rfl (nb' rfl) rfl Zg9 (hs1 hn)) ptn<|sn'<|wr'<|Vw (Zab lk)<|Vw (Zac lk gx gt1)<|?_
  refine V' ((by first | exact ZaL lk | exact ZcZ lk)) pt ?_
  refine Vw (ZbC lk lki)<|sn'<|?_
  refine cd' lk (fun hc2=>?_) (fun hc2=>?_)
  ·have hA:z.any (fun z=>decide (8<z.2.length))=true:=List.any_eq_true.2 ⟨z[k],List.getElem_mem hk,decide_eq_true om⟩
   refine wr'<|mw<|sn'<|Zaa<|Zaq<|Zah<|Zah<|Zaq<|Zah<|Zae rz<|rT'<|?_
   refine bvx ?_;unfold ZeM;rw[hA];simp
  refine Zaf<|Zaz<|Zag<|Zav<|?_
  refine V' (Zay lk lki om om) pt ?_
  refine mw<|Zar<|ZaB<|?_
  refine lU' (k+1) (by (try dsimp only);exact⟨by omega,by rw[List.take_succ_eq_append_getElem hk,List.any_append,hk2];simp;omega⟩) (by (try dsimp only);(try simp only[sm',Nat.reduceAdd]);exact bk' 1 hn hlt)
 rw[List.take_of_length_le om] at hk2
 refine ZaM<|ZaD<|ZaD<|Zbb<|Zag<|wr'<|Vw (Zab lk)<|Vw (Zac lk gx gt0)<|Vw (ZaL lk)<|Vw (ZbC lk lki)<|mw<|?_
 refine sp' (t:=21) gt pt pt (fun hg21=>?_) (fun hg21=>?_)
 ·refine s_no gt pt<|s_no gt pt<|s_no gt pt<|s_no gt pt<|Vw (Zak lk lkb)<|mw<|s_no gt pt<|s_no gt pt<|s_no gt pt<|s_no gt pt<|Vw (Zak lk lkb)<|mw<|sn'<|?_
  refine Zaa<|Zae rz<|rT'<|?_
  refine bvx ?_;unfold ZeM;rw[hk2];rw[Bool.eq_iff_iff];simp;omega
 refine s_do gt<|Vw (Zab lk)<|s_do gt<|Vw (Zac lk gx gt1)<|s_do gt<|Vw (ZaL lk)<|s_do gt<|Vw (ZbC lk lki)<|Vw (Zaj lk lk)<|mw<|?_
 refine sp' (t:=27) gt pt pt (fun hg27=>?_) (fun hg27=>?_)
 ·refine s_no gt pt<|s_no gt pt<|s_no gt pt<|s_no gt pt<|Vw (Zak lk lkb)<|mw<|sn'<|Zaa<|Zae rz<|rT'<|?_
  refine bvx ?_;unfold ZeM;rw[hk2];rw[Bool.eq_iff_iff];simp;omega
 refine s_do gt<|Vw (Zab lk)<|s_do gt<|Vw (Zac lk gx gt2)<|s_do gt<|Vw (ZaL lk)<|s_do gt<|Vw (ZbC lk lki)<|Vw (Zaj lk lk)<|mw<|sn'<|Zaa<|Zae rz<|?_
 refine rT' ?_
 refine bvx ?_;unfold ZeM;rw[hk2];rw[Bool.eq_iff_iff];simp;omega
def ZeL (s:Src):Prop:=(∀ r∈s.1,r.1.size≤maxLen∧r.2.2.2.2.2.2.2.2.size≤maxLen)∧(∀ z∈s.2.1,z.1.size≤maxLen ∧ ∀ x∈z.2,ZrY x) ∧ ∀ l∈s.2.2,l.1.size≤maxLen∧l.2.size≤maxLen
def ZbP (s:Src):Int:=if ZeM s=true then 2 else if Za1 Zbu s.1≠0 then Za1 Zbu s.1 else if Za1 ZeN s.2.1≠0 then Za1 ZeN s.2.1 else Za1 Zep s.2.2
theorem scheck_b {a:List Rul}{z:List Zon}{l:List Lnk}{h:AH}(hok:ZeL (a,z,l)):Ac 132 [.agg [.sl a.length 11 false (rows rulC a),.sl z.length 2 false (rows zonC z),.sl l.length 2 false (rows lnkC l)]] h (iv (ZbP (a,z,l))):=by
 have p1 : ∀ x∈a,∀ h:AH,ACalls Tryz.prog 156 [.agg (rulC x)] h fun y h'=>h'=h∧y=.ret (iv (Zbu x)):=fun x hx h=>rule_b (hok.1 x hx).1 (hok.1 x hx).2
 have p2 : ∀ x∈z,∀ h:AH,ACalls Tryz.prog 207 [.agg (zonC x)] h fun y h'=>h'=h∧y=.ret (iv (ZeN x)):=fun x hx h=>zone_b (hok.2.1 x hx).1 (hok.2.1 x hx).2
 have p3 : ∀ x∈l,∀ h:AH,ACalls Tryz.prog 209 [.agg (lnkC x)] h fun y h'=>h'=h∧y=.ret (iv (Zep x)):=fun x hx h=>link_b (hok.2.2 x hx).1 (hok.2.2 x hx).2
 refine tI' k132 fun N hn hlt hlA hbd=>?_
 simp only[tb'] at hbd ⊢
 refine wr'<|E' (Zbd cv rfl (hl0 hn) ha0) pt<|mw<|sn'<|Zam<|wr'<|Vw (Zao lk gx ZqN rfl)<|Zad mp (many_b) pt<|sn'<|?_
 refine Zaw lk (fun hc1=>?_) (fun hc1=>?_)
 ·refine wr'<|mw<|sn'<|Zaa<|Zah<|Zae rz<|rT'<|?_
  refine ivx ?_;unfold ZbP;simp_all
 refine Zaf<|Zag<|wr'<|Vw (Zab lk)<|Vw (Zac lk gx gt0)<|Zad mp (ZpQ p1) pt<|mw<|sn'<|Zam<|wr'<|mw<|?_
 refine Vw (ZaQ lk lki)<|sn'<|?_
 refine cd' lk (fun hc2=>?_) (fun hc2=>?_)
 ·refine Zav<|Vw (Zab lk)<|Vw (Zac lk gx gt1)<|Zad mp (ZpP p2) pt<|mw<|sn'<|Zam<|wr'<|mw<|Vw (ZaQ lk lki)<|sn'<|?_
  refine cd' lk (fun hc3=>?_) (fun hc3=>?_)
  ·refine Zav<|Vw (Zab lk)<|Vw (Zac lk gx gt2)<|Zad mp (ZjF p3) pt<|mw<|sn'<|wr'<|mw<|mw<|sn'<|Zaa<|?_
   refine Zae rz<|rT'<|?_
   refine ivx ?_;unfold ZbP;simp_all
  refine Zaf<|Zag<|wr'<|mw<|mw<|sn'<|Zaa<|Zae rz<|rT'<|?_
  refine ivx ?_;unfold ZbP;simp_all
 refine Zaf<|Zag<|Zam<|wr'<|mw<|Vw (ZaQ lk lki)<|sn'<|?_
 refine cd' lk (fun hc3=>?_) (fun hc3=>?_)
 ·refine Zav<|Vw (Zab lk)<|Vw (Zac lk gx gt2)<|Zad mp (ZjF p3) pt<|mw<|sn'<|wr'<|mw<|mw<|sn'<|Zaa<|?_
  refine Zae rz<|rT'<|?_
  refine ivx ?_;unfold ZbP;simp_all
 refine Zaf<|Zag<|wr'<|mw<|mw<|sn'<|Zaa<|Zae rz<|rT'<|?_
 refine ivx ?_;unfold ZbP;simp_all
end Go.Proofs.YtlekejpogddndaaGreatDoor
end
section
namespace Go.Proofs.YtlekejpogddndaaGreatDoor
open Go.Ab Civ
abbrev Trn:=Int×Rul
abbrev Tim:=Int×Int×ByteArray
abbrev trnC (t:Trn):List AV:=iv t.1::rulC t.2
abbrev timC (t:Tim):List AV:=[iv t.1,iv t.2.1,sv t.2.2]
theorem Zlk {n:Nat}(l:List Trn):AV.ltL n (rows trnC l)=true:=ZdD (fun n x=>by simp[AV.ltL,AV.lt]) l
theorem ZdO {n:Nat}(l:List Tim):AV.ltL n (rows timC l)=true:=ZdD (fun n x=>by simp[AV.ltL,AV.lt]) l
theorem Zf1 : ∀ x,(trnC x).length=12:=fun _=>rfl
theorem Zkj : ∀ x,(timC x).length=3:=fun _=>rfl
theorem trn_len (l:List Trn):(rows trnC l).length=l.length*12:=Za4 Zf1 l
theorem Zkk (l:List Tim):(rows timC l).length=l.length*3:=Za4 Zkj l
instance decTim:DecidableEq Tim:=inferInstance
abbrev rFr (r:Rul):Int:=r.2.1
abbrev rTo (r:Rul):Int:=r.2.2.1
abbrev rDy (r:Rul) (y:Int):Int:=Zda y r.2.2.2.1 r.2.2.2.2.1.1 r.2.2.2.2.1.2.1 r.2.2.2.2.1.2.2
abbrev rAt (r:Rul):Int:=r.2.2.2.2.2.1
abbrev rCk (r:Rul):Int:=r.2.2.2.2.2.2.1
abbrev rSv (r:Rul):Int:=r.2.2.2.2.2.2.2.1
abbrev rLt (r:Rul):ByteArray:=r.2.2.2.2.2.2.2.2
def ZhS (r:Rul) (y:Int):Int:=rDy r y*86400+rAt r
def Zjf (a b:Int):List Int:=(List.range (b+1-a).toNat).map fun (k:Nat)=>a+(k:Int)
def Zc1 (r:Rul):List Trn:=(Zjf (rFr r) (rTo r)).map fun y=>(ZhS r y,r)
def Zbg (l:List Rul) (nm:ByteArray):List Trn:=l.flatMap fun r=>if r.1=nm then Zc1 r else []
def offV (r:Rul) (sh sa:Int):Int:=if rCk r=1 then sh+sa else if rCk r=2 then sh else 0
def timV (sh sa:Int) (t:Trn):Tim:=(t.1-offV t.2 sh sa,rSv t.2,rLt t.2)
def outV (sh:Int):Int→List Trn→List Tim
 | _,[]=>[]
 | sa,t::l=>timV sh sa t::outV sh (rSv t.2) l
def gapB:List Trn→Bool
 | a::b::l=>decide (b.1-a.1<172800)||gapB (b::l)
 | _=>false
def srtT (l:List Trn):List Trn:=l.mergeSort fun a b=>decide (a.1≤b.1)
def ZdE (l:List Rul) (nm:ByteArray) (sh:Int):Int :=
 if 40<l.length then 2 else if Za1 Zbu l≠0 then Za1 Zbu l else if sh < -64800∨sh>64800 then 3
 else if l.any (fun r=>decide (r.1=nm))=false then 5 else 0
def Za8 (l:List Rul) (nm:ByteArray) (sh:Int):List Tim×Int :=
 if ZdE l nm sh≠0 then ([],ZdE l nm sh)
 else if gapB (srtT (Zbg l nm))=true then ([],4)
 else if 1000<(Zbg l nm).length then ([],2) else (outV sh 0 (srtT (Zbg l nm)),0)
theorem Zkp (l:List Trn):(srtT l).Perm l:=List.mergeSort_perm l _
theorem Zpv (l:List Trn):(srtT l).Pairwise fun a b=>a.1≤b.1:=by
 have h:=List.pairwise_mergeSort (le:=fun a b:Trn=>decide (a.1≤b.1)) (fun a b c h1 h2=>by simp at *;omega) (fun a b=>by simp;omega) l
 exact h.imp fun h=>by simpa using h
theorem srt_len (l:List Trn):(srtT l).length=l.length:=List.length_mergeSort l
theorem Zgi {a b:Trn}{l:List Trn}:gapB (a::b::l)=(decide (b.1-a.1<172800)||gapB (b::l)):=rfl
theorem ZpG {l m:List Trn}(hp:l.Perm m) (h1:l.Pairwise fun a b=>a.1≤b.1) (h2:m.Pairwise fun a b=>a.1≤b.1):l.map (·.1)=m.map (·.1):=by
 refine List.Perm.eq_of_pairwise (le:=fun a b:Int=>a≤b) (fun a b _ _ h1 h2=>by omega) ?_ ?_ (hp.map _)
 ·exact List.pairwise_map.2 h1
 ·exact List.pairwise_map.2 h2
def gapI:List Int→Bool
 | a::b::l=>decide (b-a<172800)||gapI (b::l)
 | _=>false
theorem ZkJ : ∀ l:List Trn,gapB l=gapI (l.map (·.1))
 | []=>rfl
 | [_]=>rfl
 | a::b::l=>by rw[Zgi,ZkJ (b::l)];rfl
theorem ZgV : ∀ {l:List Trn},gapB l=false→l.Pairwise (fun a b=>a.1≤b.1)→l.Pairwise fun a b=>a.1<b.1
 | [],_,_=>.nil
 | [a],_,_=>by simp
 | a::b::l,h,hp=>by
  rw[Zgi,Bool.or_eq_false_iff] at h
  have h1:¬b.1-a.1<172800:=by simpa using h.1
  rw[List.pairwise_cons] at hp
  have ih:=ZgV h.2 hp.2
  refine List.pairwise_cons.2 ⟨fun x hx=>?_,ih⟩
  rcases List.mem_cons.1 hx with rfl | hx
  ·omega
  ·have:=(List.pairwise_cons.1 hp.2).1 x hx;omega
theorem gap_uniq {l m:List Trn}(hp:l.Perm m) (h1:l.Pairwise fun a b=>a.1≤b.1) (h2:m.Pairwise fun a b=>a.1≤b.1):gapB l=gapB m∧(gapB l=false→l=m):=by
 have e:gapB l=gapB m:=by rw[ZkJ,ZkJ,ZpG hp h1 h2]
 refine⟨e,fun h=>?_⟩
 exact List.Perm.eq_of_pairwise (le:=fun a b:Trn=>a.1<b.1) (fun a b _ _ h1 h2=>by omega) (ZgV h h1) (ZgV (e ▸ h) h2) hp
theorem ZkK : ∀ l:List Trn,gapB l=false ↔ ∀ i (h:i+1<l.length),172800≤l[i+1].1-l[i].1
 | []=>by simp[gapB]
 | [_]=>by simp[gapB]
 | a::b::l=>by
  rw[Zgi,Bool.or_eq_false_iff,ZkK (b::l)]
  constructor
  ·rintro⟨h1,h2⟩ i hi
   cases i with
   | zero=>simp at h1 ⊢;omega
   | succ i=>exact h2 i (by simpa using hi)
  ·intro h
   refine⟨?_,fun i hi=>h (i+1) (by simpa using hi)⟩
   have:=h 0 (by simp)
   simp at this ⊢;omega
theorem Zst {l:List Trn}{i:Nat}(h:i+1<l.length) (hg:l[i+1].1-l[i].1<172800):gapB l=true:=by
 by_cases e:gapB l=true
 ·exact e
 ·have:=(ZkK l).1 (by simpa using e) i h;omega
def svAt (l:List Trn) (i:Nat):Int:=match i with
 | 0=>0
 | i+1=>match l[i]? with
  | some t=>rSv t.2
  | none=>0
theorem Zh4 {l:List Trn}{i:Nat}(h:i<l.length):svAt l (i+1)=rSv l[i].2:=by
 show (match l[i]? with | some t=>rSv t.2 | none=>0)=_
 rw[List.getElem?_eq_getElem h]
def lastS:Int→List Trn→Int
 | sa,[]=>sa
 | _,t::l=>lastS (rSv t.2) l
theorem Zjy : ∀ (l:List Trn) (t:Trn) (sa:Int),lastS sa (l++[t])=rSv t.2
 | [],t,sa=>rfl
 | u::l,t,sa=>Zjy l t (rSv u.2)
theorem ZoF : ∀ (l m:List Trn) (sh sa:Int),outV sh sa (l++m)=outV sh sa l++outV sh (lastS sa l) m
 | [],m,sh,sa=>rfl
 | t::l,m,sh,sa=>by rw[List.cons_append,outV,ZoF l m,outV,List.cons_append];rfl
theorem ZlO {l:List Trn}{i:Nat}(h:i<l.length) (sh:Int):outV sh 0 (l.take (i+1))=outV sh 0 (l.take i)++[timV sh (svAt l i) l[i]]:=by
 rw[List.take_succ_eq_append_getElem h,ZoF]
 congr 1
 rw[outV,outV]
 cases i with
 | zero=>rfl
 | succ i=>rw[Zh4 om,List.take_succ_eq_append_getElem (i:=i) om,Zjy]
theorem Zge : ∀ (l:List Trn) (sh sa:Int),(outV sh sa l).length=l.length
 | [],_,_=>rfl
 | t::l,sh,sa=>by rw[outV,List.length_cons,Zge l,List.length_cons]
theorem Zcl {r:Rul}(h:Zbu r=0):1900≤rFr r∧rFr r≤rTo r∧rTo r≤2100∧(1≤r.2.2.2.1∧r.2.2.2.1≤12)∧ZbV 2001 r.2.2.2.1 r.2.2.2.2.1.1 r.2.2.2.2.1.2.1 r.2.2.2.2.1.2.2=0∧(0≤rAt r∧rAt r≤172800)∧clkB (rCk r) true=true∧(0≤rSv r∧rSv r≤10800):=by
 unfold Zbu at h
 split at h
 ·omega
 split at h
 ·omega
 rename_i h2
 split at h
 ·rename_i h3;exact absurd h h3
 rename_i h3
 split at h
 ·omega
 rename_i h4
 split at h
 ·omega
 rename_i h5
 split at h
 ·omega
 rename_i h6
 have w1:wi r.2.2.2.1 1 12=true:=Decidable.of_not_not fun e=>h2 (.inr (.inr (.inr e)))
 refine⟨show 1900≤r.2.1 by omega,show r.2.1≤r.2.2.1 by omega,show r.2.2.1≤2100 by omega,ZbA.1 w1,?_,ZbA.1 (Decidable.of_not_not h4),Decidable.of_not_not h5,ZbA.1 (Decidable.of_not_not h6)⟩
 by_cases e:ZbV 2001 r.2.2.2.1 r.2.2.2.2.1.1 r.2.2.2.2.1.2.1 r.2.2.2.2.1.2.2=0
 ·exact e
 ·exact absurd (Decidable.of_not_not h3) (by rw[Zjr rfl e];exact e)
theorem Zr5 (m y:Int):mlen 2001 m≤mlen y m:=by
 have:=Zne y
 have e:lp 2001=0:=by decide
 unfold mlen;rw[e];split <;> (try split) <;> (try split) <;> (try split) <;> (try split) <;> omega
theorem Zsu {m k w n y:Int}(h:ZbV 2001 m k w n=0) (hy:1≤y∧y≤9999):ZbV y m k w n=0:=by
 obtain⟨_,h2,h3,h4,h5,h6,h7⟩:=ZkL h
 have:=Zr5 m y
 unfold ZbV
 repeat' split
 all_goals omega
theorem onDay_bd {m k w n y:Int}(h:ZbV y m k w n=0) (hy:1900≤y∧y≤2100) : -30000≤Zda y m k w n∧Zda y m k w n≤50000:=by
 obtain⟨h1,h2,h3,h4,h5,h6,h7⟩:=ZkL h
 have hm:=Zd1 y m
 have a:=ZeA (a:=1900) (b:=y) hy.1
 have b:=ZeA (a:=y) (b:=2100) hy.2
 have c:=Zml (y:=y) (m:=m) h2.1 om
 have e1:bef 1900=693595:=by decide
 have e2:bef 2100=766644:=by decide
 unfold Zda fwd bwd num
 repeat' split
 all_goals omega
theorem Znb {r:Rul}(h:Zbu r=0) {y:Int}(hy:1900≤y∧y≤2100):onV y r.2.2.2.1 r.2.2.2.2.1.1 r.2.2.2.2.1.2.1 r.2.2.2.2.1.2.2=(ZbT (rDy r y),0) ∧ -30000≤rDy r y∧rDy r y≤50000:=by
 obtain⟨_,_,_,_,h5,_⟩:=Zcl h
 have hf:=Zsu (y:=y) h5 om
 have hb:=onDay_bd hf hy
 exact⟨by rw[Zii hf rfl,if_pos om],hb⟩
theorem Zq8 {r:Rul}(h:Zbu r=0) {y:Int}(hy:1900≤y∧y≤2100) : -2592000000≤ZhS r y∧ZhS r y≤4320172800:=by
 have:=(Znb h hy).2
 obtain⟨_,_,_,_,_,h6,_⟩:=Zcl h
 unfold ZhS;omega
theorem Zdr {α:Type}{p:α→Int} : ∀ {l:List α},Za1 p l=0 → ∀ x∈l,p x=0
 | [],_,x,hx=>by cases hx
 | a::l,h,x,hx=>by
  rw[Za1] at h
  split at h
  ·rename_i h1;exact absurd h h1
  ·rename_i h1
   rcases List.mem_cons.1 hx with rfl | hx
   ·exact Decidable.of_not_not h1
   ·exact Zdr h x hx
theorem Zgb {l:List Rul}{nm:ByteArray}{sh:Int}(h:ZdE l nm sh=0):l.length≤40∧(∀ r∈l,Zbu r=0)∧(-64800≤sh∧sh≤64800) ∧ ∃ r∈l,r.1=nm:=by
 unfold ZdE at h
 split at h
 ·omega
 split at h
 ·rename_i h1;exact absurd h h1
 rename_i h1
 split at h
 ·omega
 split at h
 ·omega
 rename_i h2
 refine⟨by omega,Zdr (Decidable.of_not_not h1),by omega,?_⟩
 have h3:l.any (fun r=>decide (r.1=nm))=true:=by simpa using h2
 simpa using h3
theorem ZlX {a b y:Int}:y∈Zjf a b↔a≤y∧y≤b:=by
 unfold Zjf
 simp only[List.mem_map,List.mem_range]
 constructor
 ·rintro⟨k,hk,rfl⟩;omega
 ·intro h;exact⟨(y-a).toNat,by omega,by omega⟩
theorem Zlg (a b:Int):(Zjf a b).length=(b+1-a).toNat:=by simp[Zjf]
theorem Zsa {l:List Rul}{nm:ByteArray}{t:Trn}:t∈Zbg l nm↔t.2∈l∧t.2.1=nm ∧ ∃ y,(rFr t.2≤y∧y≤rTo t.2)∧t.1=ZhS t.2 y:=by
 unfold Zbg
 rw[List.mem_flatMap]
 constructor
 ·rintro⟨r,hr,h⟩
  split at h
  ·rename_i hn
   obtain⟨y,hy,rfl⟩:=List.mem_map.1 h
   exact⟨hr,hn,y,ZlX.1 hy,rfl⟩
  ·cases h
 ·rintro⟨hr,hn,y,hy,e⟩
  refine⟨t.2,hr,?_⟩
  rw[if_pos hn]
  exact List.mem_map.2 ⟨y,ZlX.2 hy,by rw[←e]⟩
theorem Zkg {l:List Rul}{nm:ByteArray}(h : ∀ r∈l,Zbu r=0) {t:Trn}(ht:t∈Zbg l nm):Zbu t.2=0 ∧ -2592000000≤t.1∧t.1≤4320172800:=by
 obtain⟨h1,h2,y,hy,e⟩:=Zsa.1 ht
 have h3:=h _ h1
 obtain⟨q1,q2,q3,_⟩:=Zcl h3
 rw[e]
 exact⟨h3,Zq8 h3 om⟩
theorem ZgK {r:Rul}(h:Zbu r=0):(Zc1 r).length≤201∧((Zc1 r).length:Int)=rTo r-rFr r+1:=by
 obtain⟨h1,h2,h3,_⟩:=Zcl h
 unfold Zc1
 rw[List.length_map,Zlg];omega
theorem ZhR : ∀ {l:List Rul}{nm:ByteArray},(∀ r∈l,Zbu r=0)→(Zbg l nm).length≤201*l.length
 | [],nm,_=>by simp[Zbg]
 | r::l,nm,h=>by
  have ih:=ZhR (l:=l) (nm:=nm) fun x hx=>h x (by simp[hx])
  have h1:=ZgK (h r (by simp))
  unfold Zbg at ih ⊢
  rw[List.flatMap_cons,List.length_append,List.length_cons]
  split
  ·omega
  ·rw[List.length_nil];omega
theorem Zjg {l:List Rul}{k:Nat}(hk:k<l.length) (nm:ByteArray):Zbg (l.take (k+1)) nm=Zbg (l.take k) nm++(if l[k].1=nm then Zc1 l[k] else []):=by
 unfold Zbg
 rw[List.take_succ_eq_append_getElem hk,List.flatMap_append,List.flatMap_cons,List.flatMap_nil,List.append_nil]
theorem svAt_bd {l:List Trn}{i:Nat}(h : ∀ t∈l,Zbu t.2=0):0≤svAt l i∧svAt l i≤10800:=by
 cases i with
 | zero=>simp[svAt]
 | succ i =>
  show 0≤(match l[i]? with | some t=>rSv t.2 | none=>0)∧(match l[i]? with | some t=>rSv t.2 | none=>0)≤10800
  cases e:l[i]? with
  | none=>exact⟨by simp,by simp⟩
  | some t =>
   obtain⟨_,_,_,_,_,_,_,h8⟩:=Zcl (h t (List.mem_of_getElem? e))
   exact h8
theorem ZrZ {r:Rul}{sh sa:Int}(h : -64800≤sh∧sh≤64800) (h2:0≤sa∧sa≤10800) : -64800≤offV r sh sa∧offV r sh sa≤75600:=by
 unfold offV;split
 ·omega
 split <;> omega
theorem Zos {l:List Rul}{nm:ByteArray}{sh:Int}(hr:ZdE l nm sh=0) {S:List Trn}(hp:S.Perm (Zbg l nm)) (hs:S.Pairwise fun a b=>a.1≤b.1) :
  Za8 l nm sh=if gapB S=true then ([],4) else if 1000<S.length then ([],2) else (outV sh 0 S,0):=by
 obtain⟨g1,g2⟩:=gap_uniq (hp.trans (Zkp _).symm) hs (Zpv _)
 unfold Za8
 rw[if_neg (by simp[hr]),←g1,←hp.length_eq]
 by_cases e:gapB S=true
 ·rw[if_pos e,if_pos e]
 ·rw[if_neg e,if_neg e,g2 (by simpa using e)]
theorem Zln {l:List Rul}{nm:ByteArray}{sh:Int}(hr:ZdE l nm sh≠0):Za8 l nm sh=([],ZdE l nm sh):=if_pos hr
end Go.Proofs.YtlekejpogddndaaGreatDoor
end
section
namespace Go.Proofs.YtlekejpogddndaaGreatDoor
def Zdb (F:Loc):List Chg→Int→Loc
 | [],_=>F
 | c::cs,a=>if c.1≤a then Zdb c.2 cs a else F
def nrm (a:Int) (F:Loc):List Chg→Prop
 | []=>True
 | c::cs=>a<c.1∧c.2≠F∧nrm c.1 c.2 cs
theorem ZoJ {M:Int} : ∀ (C C':List Chg) (a:Int) (F:Loc),nrm a F C→nrm a F C'→(∀ c∈C,c.1≤M)→(∀ c∈C',c.1≤M)→(∀ x,a≤x→x≤M→Zdb F C x=Zdb F C' x)→C=C'
 | [],[],_,_,_,_,_,_,_=>rfl
 | [],c::cs,a,F,_,h2,_,m2,h=>by
  have:=h c.1 (by have:=h2.1;omega) (m2 c (by simp))
  rw[Zdb,Zdb,if_pos (Int.le_refl _)] at this
  have e:Zdb c.2 cs c.1=c.2:=by
   cases cs with
   | nil=>rfl
   | cons d ds=>rw[Zdb,if_neg (by have:=h2.2.2.1;omega)]
  rw[e] at this
  exact absurd this.symm h2.2.1
 | c::cs,[],a,F,h1,_,m1,_,h=>by
  have:=h c.1 (by have:=h1.1;omega) (m1 c (by simp))
  rw[Zdb,Zdb,if_pos (Int.le_refl _)] at this
  have e:Zdb c.2 cs c.1=c.2:=by
   cases cs with
   | nil=>rfl
   | cons d ds=>rw[Zdb,if_neg (by have:=h1.2.2.1;omega)]
  rw[e] at this
  exact absurd this h1.2.1
 | c::cs,d::ds,a,F,h1,h2,m1,m2,h=>by
  have self : ∀ (c:Chg) (cs:List Chg),nrm c.1 c.2 cs→Zdb c.2 cs c.1=c.2:=by
   intro c cs hn
   cases cs with
   | nil=>rfl
   | cons d ds=>rw[Zdb,if_neg (by have:=hn.1;omega)]
  have hc:=h c.1 (by have:=h1.1;omega) (m1 c (by simp))
  have hd:=h d.1 (by have:=h2.1;omega) (m2 d (by simp))
  rw[Zdb,Zdb,if_pos (Int.le_refl _),self c cs h1.2.2] at hc
  rw[Zdb,Zdb,if_pos (Int.le_refl _),self d ds h2.2.2] at hd
  have e1:c.1=d.1:=by
   rcases Int.lt_trichotomy c.1 d.1 with e | e | e
   ·rw[if_neg om] at hc;exact absurd hc h1.2.1
   ·exact e
   ·rw[if_neg om] at hd;exact absurd hd.symm h2.2.1
  rw[if_pos om,e1,self d ds h2.2.2] at hc
  have e2:c=d:=Prod.ext e1 hc
  subst e2
  refine congrArg _ (ZoJ cs ds c.1 c.2 h1.2.2 h2.2.2 (fun x hx=>m1 x (by simp[hx])) (fun x hx=>m2 x (by simp[hx])) fun x hx hM=>?_)
  have:=h x (by have:=h1.1;omega) hM
  rwa [Zdb,Zdb,if_pos hx,if_pos hx] at this
def dd (F:Loc):List Chg→List Chg
 | []=>[]
 | c::cs=>if c.2=F then dd F cs else c::dd c.2 cs
def pts (g:Int→Loc) (L:List Int):List Chg:=L.map fun a=>(a,g a)
theorem Zmg : ∀ {l:List Chg}{F:Loc}{c:Chg},c∈dd F l→c∈l
 | [],_,_,h=>by cases h
 | d::l,F,c,h=>by
  rw[dd] at h
  split at h
  ·exact List.mem_cons_of_mem _ (Zmg h)
  ·rcases List.mem_cons.1 h with rfl | h
   ·exact List.mem_cons_self
   ·exact List.mem_cons_of_mem _ (Zmg h)
theorem Zo7 : ∀ (l:List Chg) (F:Loc),(dd F l).length≤l.length
 | [],_=>Nat.le_refl _
 | d::l,F=>by
  rw[dd]
  split
  ·have:=Zo7 l F;simp only[List.length_cons];omega
  ·have:=Zo7 l d.2;simp only[List.length_cons];omega
theorem ZsL : ∀ (l m:List Chg) (F:Loc),dd F (l++m)=dd F l++dd ((dd F l).getLast?.elim F (·.2)) m
 | [],m,F=>rfl
 | c::l,m,F=>by
  rw[List.cons_append,dd,dd]
  split
  ·exact ZsL l m F
  ·rw[ZsL l m c.2,List.cons_append,List.getLast?_cons]
   cases (dd c.2 l).getLast? <;> rfl
theorem ZsK {g:Int→Loc} : ∀ {L:List Int}{a:Int},L.Pairwise (· ≤ ·)→(∀ x∈L,a≤x)→nrm a (g a) (dd (g a) (pts g L))
 | [],_,_,_=>trivial
 | p::L,a,hs,ha=>by
  have h1:=ha p (by simp)
  show nrm a (g a) (if g p=g a then dd (g a) (pts g L) else (p,g p)::dd (g p) (pts g L))
  rw[List.pairwise_cons] at hs
  split
  ·exact ZsK hs.2 fun x hx=>ha x (by simp[hx])
  ·rename_i hne
   exact⟨by have:a≠p:=fun e=>hne (by rw[e]);show a<p;omega,hne,ZsK hs.2 hs.1⟩
theorem Zse {F:Loc}{l:List Chg}{x:Int}(h : ∀ c∈l,x<c.1):Zdb F l x=F:=by
 cases l with
 | nil=>rfl
 | cons c l=>rw[Zdb,if_neg (by have:=h c (by simp);omega)]
theorem Znc {g:Int→Loc}{L:List Int}{c:Chg}:c∈pts g L↔c.1∈L∧c.2=g c.1:=by
 unfold pts
 rw[List.mem_map]
 constructor
 ·rintro⟨a,ha,rfl⟩;exact⟨ha,rfl⟩
 ·rintro⟨h1,h2⟩;exact⟨c.1,h1,by rw[←h2]⟩
def still (g:Int→Loc) (L:List Int) (a M:Int):Prop := ∀ u v,a≤u→u≤v→v≤M→(∀ p∈L,¬(u<p∧p≤v))→g u=g v
theorem ZnA {g:Int→Loc}{M:Int} : ∀ {L:List Int}{a:Int},L.Pairwise (· ≤ ·)→(∀ x∈L,a≤x)→still g L a M → ∀ x,a≤x→x≤M→Zdb (g a) (dd (g a) (pts g L)) x=g x
 | [],a,_,_,hc,x,h1,h2=>hc a x (Int.le_refl _) h1 h2 (by simp)
 | p::L,a,hs,ha,hc,x,h1,h2=>by
  have hp:=ha p (by simp)
  rw[List.pairwise_cons] at hs
  have hc':still g L p M:=fun u v q1 q2 q3 q4=>hc u v om q2 q3 (fun z hz=>by
   rcases List.mem_cons.1 hz with rfl | hz
   ·omega
   ·exact q4 z hz)
  show Zdb (g a) (if g p=g a then dd (g a) (pts g L) else (p,g p)::dd (g p) (pts g L)) x=g x
  have low:x<p→g a=g x:=fun hx=>hc a x (Int.le_refl _) h1 h2 fun z hz=>by
   rcases List.mem_cons.1 hz with rfl | hz
   ·omega
   ·have:=hs.1 z hz;omega
  split
  ·rename_i e
   by_cases hx:p≤x
   ·have:=ZnA hs.2 hs.1 hc' x hx h2
    rwa [e] at this
   ·rw[Zse fun c hc=>?_]
    ·exact low om
    ·have:=hs.1 _ (Znc.1 (Zmg hc)).1;omega
  ·rw[Zdb]
   split
   ·rename_i hx;exact ZnA hs.2 hs.1 hc' x hx h2
   ·rename_i hx;exact low (by have:¬p≤x:=hx;omega)
abbrev tMin:Int := -62135596800
abbrev tMax:Int:=253402300799
def inT (x:Int):Bool:=decide (tMin<x∧x≤tMax)
def Zfu (g:Int→Loc) (L:List Int):Tab:=(g tMin,dd (g tMin) (pts g (L.filter inT)))
theorem Zlu {g:Int→Loc}{L:List Int}(h:still g L tMin tMax):still g (L.filter inT) tMin tMax:=fun u v h1 h2 h3 h4=>h u v h1 h2 h3 fun p hp hpp=>h4 p (List.mem_filter.2 ⟨hp,by unfold inT;simp only[tMin,tMax] at *;simp;omega⟩) hpp
theorem Zma {L:List Int} : ∀ x∈L.filter inT,tMin≤x:=fun x hx=>by
 have:=(List.mem_filter.1 hx).2;unfold inT at this;simp only[tMin,decide_eq_true_eq] at *;omega
theorem Zji {g:Int→Loc}{L:List Int}(hs:L.Pairwise (· ≤ ·)) (h:still g L tMin tMax) {x:Int}(h1:tMin≤x) (h2:x≤tMax):Zdb (Zfu g L).1 (Zfu g L).2 x=g x :=
 ZnA (hs.filter _) Zma (Zlu h) x h1 h2
theorem ZhY {g:Int→Loc}{L:List Int}(hs:L.Pairwise (· ≤ ·)):nrm tMin (g tMin) (Zfu g L).2:=ZsK (hs.filter _) Zma
theorem Zlr {g:Int→Loc}{L:List Int} : ∀ c∈(Zfu g L).2,c.1≤tMax:=fun c hc=>by
 have:=(List.mem_filter.1 (Znc.1 (Zmg hc)).1).2
 unfold inT at this;simp only[decide_eq_true_eq] at this;exact this.2
theorem Zpq {g:Int→Loc}{L L':List Int}(hs:L.Pairwise (· ≤ ·)) (h:still g L tMin tMax) (hs':L'.Pairwise (· ≤ ·)) (h':still g L' tMin tMax):Zfu g L=Zfu g L':=by
 refine Prod.ext rfl (ZoJ (M:=tMax) _ _ tMin (g tMin) (ZhY hs) (ZhY hs') Zlr Zlr fun x h1 h2=>?_)
 have a:=Zji hs h h1 h2
 have b:=Zji hs' h' h1 h2
 exact a.trans b.symm
def Zcc:List Chg→Int
 | []=>0
 | c::cs=>if locE c.2≠0 then locE c.2 else Zcc cs
theorem ZhI : ∀ {l:List Chg}{F:Loc},locE F=0→Zcc (dd F l)=Zcc l
 | [],_,_=>rfl
 | c::l,F,h=>by
  rw[dd]
  split
  ·rename_i e
   rw[ZhI h,Zcc,e,h];simp
  ·rw[Zcc,Zcc]
   split
   ·rfl
   ·rename_i h2;exact ZhI (Decidable.of_not_not h2)
def tabR (t:Tab):Tab×Int :=
 if locE t.1≠0 then ((((0,0,⟨#[]⟩):Loc),[]),locE t.1) else if Zcc t.2≠0 then (((0,0,⟨#[]⟩),[]),Zcc t.2) else if 1000<t.2.length then (((0,0,⟨#[]⟩),[]),2) else (t,0)
theorem ZoN : ∀ {l:List Chg},Zcc l=0 → ∀ c∈l,locE c.2=0
 | [],_,_,h=>by cases h
 | c::l,h,d,hd=>by
  rw[Zcc] at h
  split at h
  ·rename_i h2;exact absurd h h2
  ·rename_i h2
   rcases List.mem_cons.1 hd with rfl | hd
   ·exact Decidable.of_not_not h2
   ·exact ZoN h d hd
theorem ZsU : ∀ {C:List Chg}{a:Int}{F:Loc},nrm a F C→(∀ c∈C,locE c.2=0∧ZdY c.1=true)→chk a F C=0
 | [],_,_,_,_=>rfl
 | c::cs,a,F,h,hc=>by
  have h1:=hc c (by simp)
  rw[Ziy h1.2 h.1 h1.1 (ZoO h.2.1)]
  exact ZsU h.2.2 fun d hd=>hc d (by simp[hd])
theorem ZmY {t:Tab}(h:(tabR t).2=0):(tabR t).1=t∧locE t.1=0∧Zcc t.2=0∧t.2.length≤1000:=by
 unfold tabR at h ⊢
 split at h
 ·rename_i h1;exact absurd h h1
 split at h
 ·rename_i h1;exact absurd h h1
 split at h
 ·cases h
 rename_i h1 h2 h3
 rw[if_neg h1,if_neg h2,if_neg h3]
 exact⟨rfl,Decidable.of_not_not h1,Decidable.of_not_not h2,by omega⟩
theorem Zpp {g:Int→Loc}{L:List Int}(hs:L.Pairwise (· ≤ ·)) (h:(tabR (Zfu g L)).2=0):ZbH (Zfu g L)=0:=by
 obtain⟨_,h2,h3,h4⟩:=ZmY h
 unfold ZbH
 rw[if_neg om,if_neg (by simp[h2])]
 have hn:nrm (-62135596801) (Zfu g L).1 (Zfu g L).2:=by
  have:=ZhY (g:=g) hs
  show nrm (-62135596801) (g tMin) (Zfu g L).2
  cases hC:(Zfu g L).2 with
  | nil=>trivial
  | cons c cs=>rw[hC] at this;exact⟨by have:=this.1;simp only[tMin] at this;omega,this.2⟩
 refine ZsU hn fun c hc=>⟨ZoN h3 c hc,Zrf.2 ?_⟩
 have:=(List.mem_filter.1 (Znc.1 (Zmg hc)).1).2
 unfold inT at this;simp only[tMin,tMax,decide_eq_true_eq] at this;omega
end Go.Proofs.YtlekejpogddndaaGreatDoor
end
section
namespace Go.Proofs.YtlekejpogddndaaGreatDoor
open Go.Ab Civ
abbrev xSh (x:Era):Int:=x.1
abbrev xRl (x:Era):ByteArray:=x.2.1
abbrev xSv (x:Era):Int:=x.2.2.1
abbrev xFm (x:Era):ByteArray:=x.2.2.2.1
abbrev xOp (x:Era):Bool:=x.2.2.2.2.1
def endV (x:Era):Int:=num x.2.2.2.2.2.1.1 x.2.2.2.2.2.1.2.1 x.2.2.2.2.2.1.2.2*86400+x.2.2.2.2.2.2.1-(if x.2.2.2.2.2.2.2=2 then xSh x else 0)
def Zb1 (es:List Era):List Int:=es.dropLast.map endV
def ZkF (fm lt:ByteArray) (sa:Int):ByteArray :=
 if (cutL fm [47]).2.2=true then (if 0<sa then bA (cutL fm [47]).2.1 else bA (cutL fm [47]).1)
 else if (cutL fm [37,115]).2.2=true then bA ((cutL fm [37,115]).1++aB lt++(cutL fm [37,115]).2.1) else fm
def locV (x:Era) (sa:Int) (lt:ByteArray):Loc:=(xSh x+sa,sa,ZkF (xFm x) lt sa)
def Za3 (rl:List Rul) (x:Era):List Tim:=if xRl x=⟨#[]⟩ then [] else (Za8 rl (xRl x) (xSh x)).1
def Zdi (sa:Int) (lt:ByteArray):List Tim→Int→Int×ByteArray
 | [],_=>(sa,lt)
 | t::ts,a=>if t.1≤a then Zdi t.2.1 t.2.2 ts a else Zdi sa lt ts a
def Zgl (rl:List Rul) (x:Era) (a:Int):Loc:=locV x (Zdi (xSv x) ⟨#[]⟩ (Za3 rl x) a).1 (Zdi (xSv x) ⟨#[]⟩ (Za3 rl x) a).2
def locZ:Loc:=(0,0,⟨#[]⟩)
def Zcb (rl:List Rul):List Era→Int→Loc
 | [],_=>locZ
 | [x],a=>Zgl rl x a
 | x::y::es,a=>if endV x≤a then Zcb rl (y::es) a else Zgl rl x a
theorem ZhL (es:List Era):(Zb1 es).length=es.length-1:=by simp[Zb1]
theorem Zgn {x y:Era}{es:List Era}:Zb1 (x::y::es)=endV x::Zb1 (y::es):=by simp[Zb1]
theorem ZkP {es:List Era}{k:Nat}(h:k<(Zb1 es).length) (h2:k<es.length):(Zb1 es)[k]=endV es[k]:=by simp[Zb1]
theorem Zgd : ∀ (l:List Tim) (t:Tim) (sa:Int) (lt:ByteArray) (a:Int),Zdi sa lt (l++[t]) a=if t.1≤a then (t.2.1,t.2.2) else Zdi sa lt l a
 | [],t,sa,lt,a=>rfl
 | u::l,t,sa,lt,a=>by
  rw[List.cons_append,Zdi,Zdi]
  split
  ·exact Zgd l t _ _ a
  ·exact Zgd l t _ _ a
theorem Zih : ∀ (l:List Tim) (sa:Int) (lt:ByteArray) (u v:Int),u≤v→(∀ t∈l,¬(u<t.1∧t.1≤v))→Zdi sa lt l u=Zdi sa lt l v
 | [],_,_,_,_,_,_=>rfl
 | t::l,sa,lt,u,v,h,hl=>by
  have ih:=fun sa lt=>Zih l sa lt u v h fun x hx=>hl x (by simp[hx])
  have:=hl t (by simp)
  rw[Zdi,Zdi]
  split
  ·rw[if_pos om];exact ih _ _
  ·rw[if_neg om];exact ih _ _
theorem Zjq : ∀ (l:List Tim) (sa:Int) (lt:ByteArray) (a:Int),(∀ t∈l,a<t.1)→Zdi sa lt l a=(sa,lt)
 | [],_,_,_,_=>rfl
 | t::l,sa,lt,a,h=>by
  rw[Zdi,if_neg (by have:=h t (by simp);omega)]
  exact Zjq l sa lt a fun x hx=>h x (by simp[hx])
theorem ZoD : ∀ {l:List Tim}{t:Tim}(sa:Int) (lt:ByteArray),l.Pairwise (fun a b=>a.1<b.1)→t∈l→Zdi sa lt l t.1=(t.2.1,t.2.2)
 | u::l,t,sa,lt,hp,ht=>by
  rw[List.pairwise_cons] at hp
  rw[Zdi]
  rcases List.mem_cons.1 ht with rfl | ht
  ·rw[if_pos (Int.le_refl _)];exact Zjq l _ _ _ hp.1
  ·rw[if_pos (by have:=hp.1 t ht;omega)];exact ZoD _ _ hp.2 ht
def eraG (x:Era) (b:Int) (ts:List Tim):List Chg :=
 (b,locV x (Zdi (xSv x) ⟨#[]⟩ ts b).1 (Zdi (xSv x) ⟨#[]⟩ ts b).2)::(ts.filter fun t=>decide (b<t.1)).map fun t=>(t.1,locV x t.2.1 t.2.2)
theorem eraG_low {x:Era}{b:Int}{ts:List Tim}{t:Tim}(h:t.1≤b):eraG x b (ts++[t])=(b,locV x t.2.1 t.2.2)::(eraG x b ts).tail:=by
 unfold eraG
 rw[Zgd,if_pos h,List.filter_append]
 simp[show ¬b<t.1 by omega]
theorem ZsG {x:Era}{b:Int}{ts:List Tim}{t:Tim}(h:¬t.1≤b):eraG x b (ts++[t])=eraG x b ts++[(t.1,locV x t.2.1 t.2.2)]:=by
 unfold eraG
 rw[Zgd,if_neg h,List.filter_append]
 simp[show b<t.1 by omega]
def cutV (l:List Chg) (e:Int):List Chg:=l.takeWhile fun c=>decide (c.1<e)
def ZbI (prev:Option Int) (f:Int):Int:=match prev with
 | none=>f
 | some e=>max f e
def ZaZ (rl:List Rul) (f:Int):Option Int→List Era→List Chg
 | _,[]=>[]
 | prev,[x]=>eraG x (ZbI prev f) (Za3 rl x)
 | prev,x::y::es=>(if endV x≤f then [] else cutV (eraG x (ZbI prev f) (Za3 rl x)) (endV x))++ZaZ rl f (some (endV x)) (y::es)
def risL:List Int→Bool
 | a::b::l=>decide (a<b)&&risL (b::l)
 | _=>true
theorem Zkz : ∀ l:List Int,risL l=true↔l.Pairwise (· < ·)
 | []=>by simp[risL]
 | [a]=>by simp[risL]
 | a::b::l=>by
  rw[risL,Bool.and_eq_true,Zkz (b::l),List.pairwise_cons (a:=a)]
  constructor
  ·rintro⟨h1,h2⟩
   have h1:a<b:=by simpa using h1
   refine⟨fun x hx=>?_,h2⟩
   rcases List.mem_cons.1 hx with rfl | hx
   ·exact h1
   ·have:=(List.pairwise_cons.1 h2).1 x hx;omega
  ·rintro⟨h1,h2⟩
   exact⟨by simpa using h1 b (by simp),h2⟩
theorem ZlE : ∀ {l:List Int},(∀ i (h:i+1<l.length),l[i]<l[i+1])→risL l=true
 | [],_=>rfl
 | [_],_=>rfl
 | a::b::l,h=>by
  rw[risL,Bool.and_eq_true]
  exact⟨by simpa using h 0 (by simp),ZlE fun i hi=>h (i+1) (by simpa using hi)⟩
theorem ZpA {l:List Int}{i:Nat}(h:i+1<l.length) (hb:¬l[i]<l[i+1]):risL l=false:=by
 cases e:risL l with
 | false=>rfl
 | true=>exact absurd (List.pairwise_iff_getElem.1 ((Zkz l).1 e) i (i+1) om h om) hb
def risT (rl:List Rul) (x:Era):Prop:=(Za3 rl x).Pairwise fun a b=>a.1<b.1
theorem ZnB {l:List Chg}{e:Int}{c:Chg}(hs:l.Pairwise fun a b=>a.1<b.1):c∈cutV l e↔c∈l∧c.1<e:=by
 unfold cutV
 induction l with
 | nil=>simp
 | cons d l ih =>
  rw[List.pairwise_cons] at hs
  rw[List.takeWhile_cons]
  split
  ·rename_i h
   rw[List.mem_cons,ih hs.2,List.mem_cons]
   simp only[decide_eq_true_eq] at h
   constructor
   ·rintro (rfl | ⟨h1,h2⟩)
    ·exact⟨.inl rfl,h⟩
    ·exact⟨.inr h1,h2⟩
   ·rintro⟨rfl | h1,h2⟩
    ·exact .inl rfl
    ·exact .inr ⟨h1,h2⟩
  ·rename_i h
   simp only[decide_eq_true_eq] at h
   constructor
   ·intro h;cases h
   ·rintro⟨h1,h2⟩
    rcases List.mem_cons.1 h1 with rfl | h1
    ·exact absurd h2 h
    ·have:=hs.1 c h1;omega
theorem Zo4 {x:Era}{b:Int}{ts:List Tim}(h:ts.Pairwise fun a b=>a.1<b.1):(eraG x b ts).Pairwise fun a b=>a.1<b.1:=by
 unfold eraG
 rw[List.pairwise_cons]
 refine⟨fun c hc=>?_,?_⟩
 ·obtain⟨t,ht,rfl⟩:=List.mem_map.1 hc
  simpa using (List.mem_filter.1 ht).2
 ·rw[List.pairwise_map]
  exact h.filter _
theorem Zo6 {rl:List Rul}{x:Era}{b:Int}(h:risT rl x) {c:Chg}(hc:c∈eraG x b (Za3 rl x)):b≤c.1∧c.2=Zgl rl x c.1:=by
 rcases List.mem_cons.1 hc with rfl | hc
 ·exact⟨Int.le_refl _,rfl⟩
 ·obtain⟨t,ht,rfl⟩:=List.mem_map.1 hc
  obtain⟨h1,h2⟩:=List.mem_filter.1 ht
  simp only[decide_eq_true_eq] at h2
  refine⟨by show b≤t.1;omega,?_⟩
  show locV x t.2.1 t.2.2=Zgl rl x t.1
  unfold Zgl
  rw[ZoD _ _ h h1]
theorem Zet {rl:List Rul}{x:Era}{u v:Int}(h:u≤v) (ht : ∀ t∈Za3 rl x,¬(u<t.1∧t.1≤v)):Zgl rl x u=Zgl rl x v:=by
 unfold Zgl;rw[Zih _ _ _ u v h ht]
theorem ZpV {rl:List Rul}{x:Era}{b u v:Int}(h0:b≤u) (h:u≤v) (hc : ∀ c∈eraG x b (Za3 rl x),¬(u<c.1∧c.1≤v)):Zgl rl x u=Zgl rl x v:=by
 refine Zet h fun t ht hh=>?_
 refine hc (t.1,locV x t.2.1 t.2.2) (List.mem_cons_of_mem _ (List.mem_map.2 ⟨t,List.mem_filter.2 ⟨ht,?_⟩,rfl⟩)) hh
 simp;omega
def prevOk (prev:Option Int) (es:List Era):Prop:=match prev with
 | none=>True
 | some e => ∀ x∈Zb1 es,e<x
theorem ZlM {rl:List Rul}{f:Int} : ∀ {es:List Era}{prev:Option Int},es≠[]→(∀ x∈es,risT rl x)→(Zb1 es).Pairwise (· < ·)→prevOk prev es →
  (∃ l,ZaZ rl f prev es=(ZbI prev f,Zcb rl es (ZbI prev f))::l)∧(ZaZ rl f prev es).Pairwise (fun a b=>a.1<b.1)∧(∀ c∈ZaZ rl f prev es,ZbI prev f≤c.1∧c.2=Zcb rl es c.1) ∧
  ∀ u v,ZbI prev f≤u→u≤v→(∀ c∈ZaZ rl f prev es,¬(u<c.1∧c.1≤v))→Zcb rl es u=Zcb rl es v
 | [x],prev,_,ht,_,_=>by
  have hx:=ht x (by simp)
  refine⟨⟨_,rfl⟩,Zo4 hx,fun c hc=>Zo6 hx hc,fun u v h1 h2 h3=>ZpV h1 h2 h3⟩
 | x::y::es,prev,_,ht,hr,hp=>by
  have hx:=ht x (by simp)
  rw[Zgn,List.pairwise_cons] at hr
  have hp2:prevOk (some (endV x)) (y::es):=hr.1
  obtain⟨i1,i2,i3,i4⟩:=ZlM (f:=f) (es:=y::es) (prev:=some (endV x)) (by simp) (fun z hz=>ht z (by simp[hz])) hr.2 hp2
  have hbe:prev=none ∨ ∃ e,prev=some e∧e<endV x:=by
   cases prev with
   | none=>exact .inl rfl
   | some e=>exact .inr ⟨e,rfl,hp _ (by rw[Zgn];simp)⟩
  by_cases hf:endV x≤f
  ·have hb:ZbI prev f=f:=by
    rcases hbe with rfl | ⟨e,rfl,he⟩
    ·rfl
    ·show max f e=f;omega
   have hb2:ZbI (some (endV x)) f=f:=by show max f (endV x)=f;omega
   have hP:ZaZ rl f prev (x::y::es)=ZaZ rl f (some (endV x)) (y::es):=by rw[ZaZ,if_pos hf,List.nil_append]
   have hT : ∀ a,f≤a→Zcb rl (x::y::es) a=Zcb rl (y::es) a:=fun a ha=>by rw[Zcb,if_pos om]
   rw[hP,hb]
   rw[hb2] at i1 i3 i4
   refine⟨by rw[hT f (Int.le_refl _)];exact i1,i2,fun c hc=>?_,fun u v h1 h2 h3=>?_⟩
   ·obtain⟨j1,j2⟩:=i3 c hc
    exact⟨j1,by rw[hT _ j1];exact j2⟩
   ·rw[hT u h1,hT v om];exact i4 u v h1 h2 h3
  ·have hb:ZbI prev f<endV x:=by
    rcases hbe with rfl | ⟨e,rfl,he⟩
    ·show f<endV x;omega
    ·show max f e<endV x;omega
   have hb2:ZbI (some (endV x)) f=endV x:=by show max f (endV x)=endV x;omega
   have hP:ZaZ rl f prev (x::y::es)=cutV (eraG x (ZbI prev f) (Za3 rl x)) (endV x)++ZaZ rl f (some (endV x)) (y::es):=by rw[ZaZ,if_neg hf]
   have hT1 : ∀ a,a<endV x→Zcb rl (x::y::es) a=Zgl rl x a:=fun a ha=>by rw[Zcb,if_neg om]
   have hT2 : ∀ a,endV x≤a→Zcb rl (x::y::es) a=Zcb rl (y::es) a:=fun a ha=>by rw[Zcb,if_pos ha]
   rw[hb2] at i1 i3 i4
   have hg:=Zo4 (x:=x) (b:=ZbI prev f) hx
   generalize hB:ZbI prev f=b at *
   rw[hP]
   refine⟨?_,?_,?_,?_⟩
   ·have:cutV (eraG x b (Za3 rl x)) (endV x)=(b,Zgl rl x b)::cutV (eraG x b (Za3 rl x)).tail (endV x):=by
     unfold cutV eraG Zgl
     rw[List.takeWhile_cons,if_pos (by simpa using hb)]
     rfl
    rw[this,hT1 b hb]
    exact⟨_,rfl⟩
   ·rw[List.pairwise_append]
    refine⟨hg.sublist (List.takeWhile_sublist _),i2,fun c hc d hd=>?_⟩
    have h1:=((ZnB hg).1 hc).2
    have h2:=(i3 d hd).1
    omega
   ·intro c hc
    rcases List.mem_append.1 hc with hc | hc
    ·obtain⟨h1,h2⟩:=(ZnB hg).1 hc
     obtain⟨h3,h4⟩:=Zo6 hx h1
     exact⟨h3,by rw[hT1 _ h2];exact h4⟩
    ·obtain⟨h1,h2⟩:=i3 c hc
     exact⟨by omega,by rw[hT2 _ h1];exact h2⟩
   ·intro u v h1 h2 h3
    by_cases hv:v<endV x
    ·rw[hT1 u om,hT1 v hv]
     refine Zet h2 fun t ht hh=>?_
     refine h3 (t.1,locV x t.2.1 t.2.2) (List.mem_append_left _ ((ZnB hg).2 ⟨List.mem_cons_of_mem _ (List.mem_map.2 ⟨t,List.mem_filter.2 ⟨ht,?_⟩,rfl⟩),?_⟩)) hh
     ·simp;omega
     ·show t.1<endV x;omega
    ·by_cases hu:endV x≤u
     ·rw[hT2 u hu,hT2 v om]
      exact i4 u v hu h2 fun c hc=>h3 c (List.mem_append_right _ hc)
     ·obtain⟨l,hl⟩:=i1
      exact absurd ⟨by show u<endV x;omega,by show endV x≤v;omega⟩ (h3 (endV x,_) (List.mem_append_right _ (by rw[hl];exact List.mem_cons_self)))
def ZeG (rl:List Rul) (es:List Era):List Int:=(es.flatMap fun x=>(Za3 rl x).map (·.1))++Zb1 es
theorem Zh5 {rl:List Rul} : ∀ {es:List Era}{u v:Int},u≤v→(∀ p∈ZeG rl es,¬(u<p∧p≤v))→Zcb rl es u=Zcb rl es v
 | [],u,v,_,_=>rfl
 | [x],u,v,h,hp=>Zet h fun t ht=>hp t.1 (by unfold ZeG;simp;exact .inl ⟨_,_,ht⟩)
 | x::y::es,u,v,h,hp=>by
  have hx:¬(u<endV x∧endV x≤v):=hp _ (by unfold ZeG;rw[Zgn];simp)
  have ht : ∀ t∈Za3 rl x,¬(u<t.1∧t.1≤v):=fun t ht=>hp t.1 (by unfold ZeG;rw[List.flatMap_cons];simp only[List.append_assoc,List.mem_append,List.mem_map];exact .inl ⟨t,ht,rfl⟩)
  have ih:Zcb rl (y::es) u=Zcb rl (y::es) v:=Zh5 h fun p hp'=>hp p (by
   unfold ZeG at hp' ⊢
   rw[Zgn,List.flatMap_cons]
   rcases List.mem_append.1 hp' with h1 | h1
   ·exact List.mem_append_left _ (List.mem_append_right _ h1)
   ·exact List.mem_append_right _ (List.mem_cons_of_mem _ h1))
  rw[Zcb,Zcb]
  split
  ·rw[if_pos om];exact ih
  ·rw[if_neg om];exact Zet h ht
def ZeF (rl:List Rul) (es:List Era):Tab:=Zfu (Zcb rl es) ((ZeG rl es).mergeSort fun a b=>decide (a≤b))
theorem table_of {rl:List Rul}{es:List Era}{L:List Int}(hs:L.Pairwise (· ≤ ·)) (hc : ∀ u v,tMin≤u→u≤v→(∀ p∈L,¬(u<p∧p≤v))→Zcb rl es u=Zcb rl es v):Zfu (Zcb rl es) L=ZeF rl es:=by
 refine Zpq hs (fun u v h1 h2 _ h4=>hc u v h1 h2 h4) ?_ fun u v h1 h2 _ h4=>Zh5 h2 fun p hp=>h4 p ?_
 ·have h:=List.pairwise_mergeSort (le:=fun a b:Int=>decide (a≤b)) (fun a b c h1 h2=>by simp at *;omega) (fun a b=>by simp;omega) (ZeG rl es)
  exact h.imp fun h=>by simpa using h
 ·exact (List.mergeSort_perm _ _).mem_iff.2 hp
theorem ZrP {rl:List Rul}{f:Int}{es:List Era}(hc : ∀ c∈ZaZ rl f none es,c.2=Zcb rl es c.1):ZaZ rl f none es=pts (Zcb rl es) ((ZaZ rl f none es).map (·.1)):=by
 unfold pts
 rw[List.map_map]
 exact (List.map_id' _).symm.trans (List.map_congr_left fun c h=>by show c=(c.1,_);rw[←hc c h])
end Go.Proofs.YtlekejpogddndaaGreatDoor
end
section
namespace Go.Proofs.YtlekejpogddndaaGreatDoor
open Go.Ab Civ
def stV:List Chg→Tab
 | []=>(locZ,[])
 | c::cs=>(c.2,dd c.2 cs)
def Ziq (F:Loc) (l:List Chg):Loc:=l.getLast?.elim F (·.2)
theorem stV_snoc {l:List Chg}{c:Chg}(h:l≠[]):stV (l++[c])=((stV l).1,(stV l).2++if c.2=Ziq (stV l).1 (stV l).2 then [] else [c]):=by
 cases l with
 | nil=>exact absurd rfl h
 | cons d l =>
  show ((d.2,dd d.2 (l++[c])):Tab)=(d.2,dd d.2 l++_)
  rw[ZsL]
  rfl
theorem Zrn : ∀ l:List Chg,(stV l).2.length≤l.length
 | []=>Nat.le_refl _
 | c::l=>by have:=Zo7 l c.2;show (dd c.2 l).length≤_;simp only[List.length_cons];omega
def inP (ps:List Chg):List Chg:=ps.takeWhile fun c=>decide (c.1≤tMax)
theorem ZoX {ps:List Chg}{i:Nat}(h1 : ∀ c∈ps.take i,c.1≤tMax) (h2 : ∀ h:i<ps.length,¬ps[i].1≤tMax):inP ps=ps.take i:=by
 unfold inP
 induction ps generalizing i with
 | nil=>simp
 | cons c ps ih =>
  cases i with
  | zero=>rw[List.takeWhile_cons,if_neg (by have:=h2 (by simp);simpa using this)];rfl
  | succ i =>
   rw[List.takeWhile_cons,if_pos (by have:=h1 c (by simp);simpa using this),List.take_succ_cons]
   exact congrArg _ (ih (fun d hd=>h1 d (by simp[hd])) fun h=>by have:=h2 (by simpa using h);simpa using this)
theorem inP_pts {g:Int→Loc}{L:List Int}(hs:L.Pairwise (· < ·)):inP (pts g L)=pts g (L.filter fun x=>decide (x≤tMax)):=by
 unfold inP
 induction L with
 | nil=>rfl
 | cons a L ih =>
  rw[List.pairwise_cons] at hs
  show List.takeWhile _ ((a,g a)::pts g L)=_
  rw[List.takeWhile_cons]
  by_cases h:a≤tMax
  ·rw[if_pos (by simpa using h),List.filter_cons,if_pos (by simpa using h),ih hs.2];rfl
  ·rw[if_neg (by simpa using h),List.filter_cons,if_neg (by simpa using h)]
   have:L.filter (fun x=>decide (x≤tMax))=[]:=List.filter_eq_nil_iff.2 fun x hx=>by have:=hs.1 x hx;simp only[decide_eq_true_eq];omega
   rw[this];rfl
theorem stV_tab {g:Int→Loc}{L:List Int}(hs:(tMin::L).Pairwise (· < ·)):stV (inP (pts g (tMin::L)))=Zfu g (tMin::L):=by
 rw[inP_pts hs]
 rw[List.pairwise_cons] at hs
 unfold Zfu
 rw[List.filter_cons,if_pos (by decide)]
 have e:(tMin::L).filter inT=L.filter fun x=>decide (x≤tMax):=by
  rw[List.filter_cons,if_neg (by decide)]
  refine List.filter_congr fun x hx=>?_
  have:=hs.1 x hx
  unfold inT
  rw[Bool.eq_iff_iff]
  simp only[decide_eq_true_eq]
  exact⟨fun h=>h.2,fun h=>⟨this,h⟩⟩
 rw[e]
 rfl
theorem tabR_st : ∀ {l:List Chg},locE locZ=0∨l≠[]→tabR (stV l)=if Zcc l≠0 then ((((0,0,⟨#[]⟩):Loc),[]),Zcc l) else if 1000<(stV l).2.length then (((0,0,⟨#[]⟩),[]),2) else (stV l,0)
 | [],h=>by
  have h:=h.resolve_right (fun h=>h rfl)
  unfold tabR stV
  simp[Zcc,h]
 | c::l,_=>by
  unfold tabR
  show (if locE c.2≠0 then _ else if Zcc (dd c.2 l)≠0 then _ else _)=_
  rw[Zcc]
  by_cases h:locE c.2=0
  ·have e:(if locE c.2≠0 then locE c.2 else Zcc l)=Zcc l:=if_neg (by simp[h])
   rw[e,if_neg (show ¬locE c.2≠0 from fun hh=>hh h),ZhI h,show Zcc (stV (c::l)).2=Zcc l from ZhI h]
  ·have e:(if locE c.2≠0 then locE c.2 else Zcc l)=locE c.2:=if_pos h
   rw[e,if_pos h,if_pos h];rfl
theorem Zin : ∀ {l:List Chg}{c:Chg},Zcc l=0→Zcc (l++[c])=locE c.2
 | [],c,_=>by show (if locE c.2≠0 then locE c.2 else 0)=_;split <;> simp_all
 | d::l,c,h=>by
  rw[Zcc] at h
  split at h
  ·rename_i h2;exact absurd h h2
  ·rename_i h2
   rw[List.cons_append,Zcc,if_neg h2]
   exact Zin h
theorem ZlZ : ∀ {l m:List Chg},Zcc l≠0→Zcc (l++m)=Zcc l
 | [],_,h=>absurd rfl h
 | d::l,m,h=>by
  rw[List.cons_append,Zcc,Zcc]
  rw[Zcc] at h
  split
  ·rfl
  ·rename_i h2;rw[if_neg h2] at h;exact ZlZ h
end Go.Proofs.YtlekejpogddndaaGreatDoor
end
section
namespace Go.Proofs.YtlekejpogddndaaGreatDoor
theorem ZsV : ∀ {a:Int}{l:Loc}{cs:List Chg},chk a l cs=0 → ∀ c∈cs,ZdY c.1=true∧locE c.2=0
 | a,l,[],_,c,hc=>by simp at hc
 | a,l,d::cs,h,c,hc=>by
  rw[chk] at h
  split at h
  ·cases h
  ·split at h
   ·cases h
   ·split at h
    ·rename_i h1 _ h3;exact absurd h h3
    ·split at h
     ·cases h
     ·rename_i h1 _ h3 _
      rcases List.mem_cons.1 hc with rfl | hc
      ·exact⟨by simpa using h1,Decidable.of_not_not h3⟩
      ·exact ZsV h c hc
theorem Zp5 {t:Tab}(h:ZbH t=0):t.2.length≤1000∧locE t.1=0 ∧ ∀ c∈t.2,ZdY c.1=true∧locE c.2=0:=by
 unfold ZbH at h
 split at h
 ·cases h
 ·split at h
  ·rename_i h1 h2;exact absurd h h2
  ·rename_i h1 h2;exact⟨by omega,Decidable.of_not_not h2,ZsV h⟩
end Go.Proofs.YtlekejpogddndaaGreatDoor
end
section
namespace Go.Proofs.YtlekejpogddndaaGreatDoor
open Go.Ab Civ
attribute [local simp] Zb5
abbrev Pat:=Loc×Int×Int×List Chg
def noTab:Tab:=((0,0,⟨#[]⟩),[])
def okT (t:Tab):Prop:=t.1.2.2.size≤maxLen ∧ ∀ x∈t.2,x.2.2.2.size≤maxLen
theorem Zp4 {t:Tab}(h:ZbH t=0):t.2.length≤1000:=by
 unfold ZbH at h
 split at h
 ·omega
 omega
end Go.Proofs.YtlekejpogddndaaGreatDoor
end
section
namespace Go.Proofs.YtlekejpogddndaaGreatDoor
open Go.Ab Civ
attribute [local simp] Zb5
def offP (t:Tab) (p:Pat):Prop:=p.2.1<0∨p.2.2.1<0∨(t.2.length:Int)<p.2.1∨(t.2.length:Int)-p.2.1<p.2.2.1
instance (t:Tab) (p:Pat):Decidable (offP t p):=by unfold offP;infer_instance
end Go.Proofs.YtlekejpogddndaaGreatDoor
end
section
namespace Go.Proofs.YtlekejpogddndaaGreatDoor
open Go.ChangeShapes Go.WideShapes Go.ChangeAt Go.RowKit
theorem own:ownKnob Tryz.prog.godebug=none:=by kernel_rfl
theorem laidOut:laidOutB Tryz.prog=true:=by kernel_rfl
theorem Zf0 {H:Type}{enc:TypeId×Value→H}{P:Program}(hl:laidOutB P=true) {W W':World}(hb:Below W.heap.size W W') :
  ∀ (ts:List TypeId) (vs:List Value) (ds:List (DataW H)) (ps:List MemPlace),(ts.all fun t=>P.readableRec t&&decide (t<P.types.size))=true→(∀ x∈ps,x.block<W.heap.size) →
   DataW.TrodAll enc P W 0 (fun _=>true) true ts vs ds ps→DataW.TrodAll enc P W' 0 (fun b=>decide (b<W.heap.size)) true ts vs ds ps
 | [],[],[],ps,_,_,h=>h
 | t::ts,v::vs,d::ds,ps,hr,hlt,h=>by
  obtain⟨p,q,h1,h2,rfl⟩:=h
  simp only[List.all_cons,Bool.and_eq_true,decide_eq_true_eq] at hr
  exact⟨p,q,Below.trod hl hr.1.1 hr.1.2 h1 hb (fun x hx=>hlt x (List.mem_append.2 (.inl hx))),
   Zf0 hl hb ts vs ds q hr.2 (fun x hx=>hlt x (List.mem_append.2 (.inr hx))) h2,rfl⟩
 | [],_::_,_,_,_,_,h=>by simp[DataW.TrodAll] at h
 | [],[],_::_,_,_,_,h=>by simp[DataW.TrodAll] at h
 | _::_,[],_,_,_,_,h=>by simp[DataW.TrodAll] at h
 | _::_,_::_,[],_,_,_,h=>by simp[DataW.TrodAll] at h
theorem law_post {H:Type}{enc:TypeId×Value→H}{P:Program}{f:Func}{s:ChangeSpec}{handsOn fresh:Bool}{W W':World}{args:Array Value}{ds gs:List (DataW H)}{before:List MemPlace}{tb:TypeId}
  (hl:laidOutB P=true) (hts:(f.params.toList.all fun t=>P.readableRec t&&decide (t<P.types.size))=true)
  (hrt:f.resultTypes = #[tb]) (htb:P.underlying tb=some .bool) (hvars:s.vars=[])
  (hs:s.fn H ds={ results:=[.lit (.bool true)],args:=ds })
  (hW:DataW.Whole enc P f.params.toList s.vars false W args.toList ds gs before) (hb:Below W.heap.size W W') :
  s.post enc P f false fresh handsOn false W args (.bool true) W':=by
 have hW':=hW
 obtain⟨p,q,hA,hV,rfl,_,_⟩:=hW
 rw[hvars] at hV
 obtain⟨rfl,rfl⟩:=trodVars_none hV
 have hlt : ∀ x∈p,x.block<W.heap.size:=fun x hx=>by simpa using hW'.lt x (List.mem_append.2 (.inl hx))
 have e1:s.fn H (ds++[])={ results:=[.lit (.bool true)],args:=ds }:=by simpa using hs
 refine⟨ds,[],p++[],[],p,[],hW',?_,?_,?_,hb.frame _,fun h=>by cases h⟩
 ·rw[e1,hrt];exact trodAll_mk1 (shut_bool htb _)
 ·rw[e1];exact Zf0 hl hb _ _ _ _ hts hlt hA
 ·rw[e1,hvars];exact rfl
end Go.Proofs.YtlekejpogddndaaGreatDoor
end
section
namespace Go.Proofs.YtlekejpogddndaaGreatDoor
open Go.ChangeShapes Go.WideShapes Go.ChangeAt Go.RowKit Go.Deep Go.Ab
inductive Ds where
 | int | str | bool
 | pair (a b:Ds)
 | slice (a:Ds)
@[reducible] def El:Ds→Type
 | .int=>Int
 | .str=>ByteArray
 | .bool=>Bool
 | .pair a b=>El a×El b
 | .slice a=>List (El a)
def Ds.size:Ds→Nat
 | .pair a b=>a.size+b.size
 | _=>1
theorem Ds.size_pos (d:Ds):0<d.size:=by
 induction d with
 | pair a b iha ihb=>simp only[Ds.size];omega
 | _=>simp[Ds.size]
def Rd (w:World) (B:Nat):(d:Ds)→List Value→El d→Prop
  | .int,cs,n=>cs=[.int .i64 n] ∧ -9223372036854775808≤n∧n≤9223372036854775807
  | .str,cs,s=>cs=[.string s]∧s.size≤maxLen
  | .bool,cs,b=>cs=[.bool b]
  | .pair a b,cs,p => ∃ c1 c2,cs=c1++c2∧Rd w B a c1 p.1∧Rd w B b c2 p.2
  | .slice a, cs, l => ∃ A c, cs = [.slice A l.length c] ∧ l.length ≤ c ∧ c ≤ maxLen ∧ (A = none → c = 0) ∧
      (0<l.length → ∃ b off,A=some ⟨b,off,none⟩∧b<B ∧ ∀ k (h:k<l.length),∃ r,(∀ j v,r[j]?=some v→w.cell? ⟨b,off+k*a.size+j,none⟩=some v)∧Rd w B a r l[k])
theorem Rd.length {w:World}{B:Nat} : ∀ {d:Ds}{cs:List Value}{x:El d},Rd w B d cs x→cs.length=d.size
 | .int,cs,x,h=>by rw[h.1];rfl
 | .str,cs,x,h=>by rw[h.1];rfl
 | .bool,cs,x,h=>by rw[show cs=_ from h];rfl
 | .pair a b,cs,x,⟨c1,c2,e,h1,h2⟩=>by rw[e,List.length_append,Rd.length h1,Rd.length h2];rfl
 | .slice a,cs,x,⟨A,c,e,_⟩=>by rw[e];rfl
theorem Rd.keep {w w':World}{B B':Nat}(hk : ∀ p:Addr,p.block<B→w'.cell? p=w.cell? p) (hB:B≤B') : ∀ {d:Ds}{cs:List Value}{x:El d},Rd w B d cs x→Rd w' B' d cs x
  | .int,cs,x,h=>h
  | .str,cs,x,h=>h
  | .bool,cs,x,h=>h
  | .pair a b,cs,x,⟨c1,c2,e,h1,h2⟩=>⟨c1,c2,e,Rd.keep hk hB h1,Rd.keep hk hB h2⟩
  | .slice a, cs, x, ⟨A, c, e, hl, hm, hA0, h⟩ => ⟨A, c, e, hl, hm, hA0, fun h0 => by
      obtain⟨b,off,hA,hb,hi⟩:=h h0
      refine⟨b,off,hA,by omega,fun k hk'=>?_⟩
      obtain⟨r,hc,hr⟩:=hi k hk'
      exact⟨r,fun j v hv=>(hk _ hb).trans (hc j v hv),Rd.keep hk hB hr⟩⟩
theorem Rd.below {w w':World}{B:Nat}{d:Ds}{cs:List Value}{x:El d}(h:Rd w B d cs x) (hb:Below B w w'):Rd w' B d cs x:=h.keep (fun p hp=>hb.cell hp) (Nat.le_refl _)
theorem Rd.more {w:World}{B B':Nat}{d:Ds}{cs:List Value}{x:El d}(h:Rd w B d cs x) (hB:B≤B'):Rd w B' d cs x:=h.keep (fun p hp=>rfl) hB
def Znr (P:Program) (f:TypeId→Ds→Bool):List Field→Nat→Ds→Bool
 | [],_,_=>false
 | fd::fs,off,d=>match fs with
  | []=>fd.offset==off&&P.cellsOf fd.type==d.size&&f fd.type d
  | _::_=>match d with
   | .pair a b=>fd.offset==off&&P.cellsOf fd.type==a.size&&f fd.type a&&Znr P f fs (off+a.size) b
   | _=>false
def fits (P:Program):Nat→TypeId→Ds→Bool
 | 0,_,_=>false
 | n+1,t,d =>
  match P.underlying t with
  | some (.int .i64)=>match d with
   | .int=>true
   | _=>false
  | some .string=>match d with
   | .str=>true
   | _=>false
  | some .bool=>match d with
   | .bool=>true
   | _=>false
  | some (.slice e)=>match d with
   | .slice a=>P.cellsOf e==a.size&&fits P n e a
   | _=>false
  | some (.struct fs)=>P.cellsOf t==d.size&&Znr P (fits P n) fs.toList 0 d
  | _=>false
section
variable {H : Type} {enc : TypeId × Value → H} {P : Program} {w : World} {base : Nat} {spare : Nat → Bool} {held : Bool}
theorem Zlw {w:World}{a:Addr}{v:Value}(h:w.cell? a=some v):a.spot=none:=by
 unfold World.cell? at h
 split at h
 ·split at h
  ·cases h
  ·rename_i hs;simpa using hs
 ·cases h
theorem Zsh {α β:Type}{Q:Nat→β→α→Prop} : ∀ (n:Nat),(∀ i,i<n → ∃ r y,Q i r y) → ∃ l:List α,l.length=n ∧ ∀ i (h:i<l.length),∃ r,Q i r l[i]
 | 0,_=>⟨[],rfl,fun i h=>absurd h (by simp)⟩
 | n+1,h=>by
  obtain⟨l,hl,hq⟩:=Zsh n (fun i hi=>h i om)
  obtain⟨r,y,hy⟩:=h n om
  refine⟨l++[y],by simp[hl],fun i hi=>?_⟩
  by_cases hin:i<l.length
  ·obtain⟨r',h'⟩:=hq i hin
   exact⟨r',by rw[List.getElem_append_left hin];exact h'⟩
  ·obtain rfl:i=n:=by simp at hi;omega
   exact⟨r,by rw[List.getElem_append_right om];simpa [hl] using hy⟩
theorem Zfa : ∀ (n:Nat) (t:TypeId) (d:Ds) (fuel:Nat) (cs:List Value) (x:DataW H×List MemPlace),fits P n t d=true→DataW.trod enc P w base spare held fuel t cs=some x → ∃ e:El d,Rd w w.heap.size d cs e
  | 0,t,d,fuel,cs,x,hf,h=>by simp[fits] at hf
  | n+1,t,d,fuel,cs,x,hf,h=>by
    unfold fits at hf
    split at hf
    · rename_i hu
      split at hf <;> try (cases hf;done)
      obtain⟨m,rfl,_,hw⟩:=DataW.trod_int hu h
      exact⟨m,rfl,by simpa [Lit.wf,IntKind.min,IntKind.max,IntKind.signed,IntKind.bits] using hw⟩
    · rename_i hu
      split at hf <;> try (cases hf;done)
      obtain⟨s,rfl,_,hw⟩:=DataW.trod_string hu h
      exact⟨s,rfl,hw⟩
    · rename_i hu
      split at hf <;> try (cases hf;done)
      obtain⟨b,rfl,_⟩:=DataW.trod_bool hu h
      exact⟨b,rfl⟩
    · rename_i e hu
      split at hf <;> try (cases hf;done)
      rename_i a
      simp only[Bool.and_eq_true,beq_iff_eq] at hf
      rcases open_slice hu h with ⟨rfl,_⟩ | ⟨ad,len,cap,m,k,D,Pl,rfl,hb,hl,hm,hmm,_,hi⟩
      · exact⟨([]:List (El a)),none,0,rfl,Nat.le_refl _,by unfold maxLen;omega,fun _=>rfl,fun h0=>absurd h0 (by simp)⟩
      · have hlm:len≤m:=by rw[hmm];split <;> omega
        have hex : ∀ i,i<len → ∃ (r:List Value) (y:El a),(∀ j v,r[j]?=some v→w.cell? ((ad.add (i*a.size)).add j)=some v)∧r.length=a.size∧Rd w w.heap.size a r y:=by
          intro i hil
          obtain⟨cs',hc,ht⟩:=hi i om
          rw[hf.1] at hc
          obtain⟨_,hcl,hat⟩:=World.cells?_some hc
          obtain⟨y,hy⟩:=Zfa n e a k cs' _ hf.2 ht
          exact⟨cs',y,fun j v hv=>by rw[hat j (by have:=(List.getElem?_eq_some_iff.1 hv).1;omega)];exact hv,hcl,hy⟩
        obtain⟨l,hll,hl2⟩:=Zsh len hex
        refine⟨l,some ad,cap,by rw[hll],by omega,hm,fun h=>(by cases h),fun h0=>?_⟩
        obtain⟨r0,hr0,hl0,_⟩:=hl2 0 h0
        have hp:=a.size_pos
        have hc0:=hr0 0 r0[0] (List.getElem?_eq_getElem om)
        have hsp:ad.spot=none:=by
          have:=Zlw hc0
          simpa [Addr.add] using this
        obtain⟨b,off,sp⟩:=ad
        simp only at hsp
        subst hsp
        refine⟨b,off,rfl,?_,fun k' hk'=>?_⟩
        · have:=block_lt_of_cell hc0
          simpa [Addr.add] using this
        · obtain⟨r,hr1,_,hr2⟩:=hl2 k' hk'
          exact⟨r,fun j v hv=>by have:=hr1 j v hv;simpa [Addr.add_lit] using this,hr2⟩
    · rename_i fs hu
      simp only[Bool.and_eq_true,beq_iff_eq] at hf
      obtain⟨xs,m,_,_,hcl,hxl,hat⟩:=DataW.trod_struct hu h
      have key : ∀ (l : List Field) (off i : Nat) (d : Ds) (cs' : List Value), Znr P (fits P n) l off d = true → cs'.length = d.size → cs.drop off = cs' → (∀ (j : Nat) (f : Field), l[j]? = some f → fs.toList[i + j]? = some f) →
          ∃ e:El d,Rd w w.heap.size d cs' e:=by
        intro l
        induction l with
        | nil=>intro off i d cs' hg;simp[Znr] at hg
        | cons f l ih =>
          intro off i d cs' hg hcl' hd hj
          have hfi:fs[i]?=some f:=by have:=hj 0 f rfl;simpa using this
          have hlt:i<xs.length:=by rw[hxl];exact (Array.getElem?_eq_some_iff.1 hfi).1
          have ht:=hat i f hfi
          rw[List.getElem?_eq_getElem hlt] at ht
          cases l with
          | nil =>
            simp only[Znr,Bool.and_eq_true,beq_iff_eq] at hg
            rw[hg.1.1,hg.1.2,hd,List.take_of_length_le om] at ht
            exact Zfa n f.type d m cs' _ hg.2 ht
          | cons g l =>
            cases d with
            | pair a b =>
              simp only[Znr,Bool.and_eq_true,beq_iff_eq] at hg
              obtain⟨⟨⟨g1,g2⟩,g3⟩,g4⟩:=hg
              rw[g1,g2,hd] at ht
              obtain⟨e1,he1⟩:=Zfa n f.type a m _ _ g3 ht
              obtain⟨e2,he2⟩:=ih (off+a.size) (i+1) b (cs'.drop a.size) g4 (by rw[List.length_drop,hcl'];simp[Ds.size]) (by rw[←hd,List.drop_drop]) (fun j f' hf'=>by have:=hj (j+1) f' (by simpa using hf');rw[←this];congr 1;omega)
              exact⟨(e1,e2),cs'.take a.size,cs'.drop a.size,(List.take_append_drop _ _).symm,he1,he2⟩
            | _=>simp[Znr] at hg
      exact key fs.toList 0 0 _ cs hf.2 (by rw[hcl,hf.1]) (by simp) (fun j f' hf'=>by simpa using hf')
    · cases hf
theorem rd_arg {d:Ds}{t:TypeId}{v:Value}{x:DataW H}{p:List MemPlace}(hf:fits P 20 t d=true) (h:DataW.Trod enc P w base spare held t v x p) : ∃ e:El d,Rd w w.heap.size d v.cells.toList e:=by
 obtain⟨fuel,hf'⟩:=h
 exact Zfa 20 t d fuel _ _ hf hf'
end
def avs:(d:Ds)→El d→List AV
 | .int,n=>[iv n]
 | .str,s=>[sv s]
 | .bool,b=>[bv b]
 | .pair a b,p=>avs a p.1++avs b p.2
 | .slice a,l=>[.sl (List.length l) a.size false (rows (avs a) l)]
theorem ZkY : ∀ (d:Ds) (x:El d),(avs d x).length=d.size
 | .int,_=>rfl
 | .str,_=>rfl
 | .bool,_=>rfl
 | .pair a b,p=>by simp only[avs,List.length_append,ZkY a,ZkY b,Ds.size]
 | .slice a,l=>rfl
def okD:(d:Ds)→El d→Prop
 | .int,n => -9223372036854775808≤n∧n≤9223372036854775807
 | .str,s=>ByteArray.size s≤maxLen
 | .bool,_=>True
 | .pair a b,p=>okD a p.1∧okD b p.2
 | .slice a,l => ∀ (k:Nat) (h:k<List.length l),okD a (l[k])
theorem Rd.ok {w:World}{B:Nat} : ∀ {d:Ds}{cs:List Value}{x:El d},Rd w B d cs x→okD d x
 | .int,cs,x,h=>h.2
 | .str,cs,x,h=>h.2
 | .bool,cs,x,h=>trivial
 | .pair a b,cs,x,⟨c1,c2,e,h1,h2⟩=>⟨Rd.ok h1,Rd.ok h2⟩
 | .slice a,cs,x,⟨A,c,e,hl,hm,h0,h⟩=>fun k hk=>by
  obtain⟨b,off,_,_,hi⟩:=h om
  obtain⟨r,_,hr⟩:=hi k hk
  exact Rd.ok hr
theorem RepC.append {w:World}{g:Gh} : ∀ {cs ds:List AV}{b off:Nat},RepC w g cs b off→RepC w g ds b (off+cs.length)→RepC w g (cs++ds) b off
 | [],ds,b,off,_,h=>by simpa using h
 | c::cs,ds,b,off,h,k=>by
  simp only[RepC,List.cons_append] at h ⊢
  refine⟨h.1,RepC.append h.2 ?_⟩
  rw[show off+1+cs.length=off+(c::cs).length by simp;omega]
  exact k
theorem RepC.of_list {w:World}{g:Gh}{b:Nat} : ∀ {cs:List AV}{us:List Value}{off:Nat},RepL w g cs us→(∀ j v,us[j]?=some v→w.cell? ⟨b,off+j,none⟩=some v)→RepC w g cs b off
 | [],us,off,_,_=>by simp only[RepC]
 | c::cs,us,off,h,k=>by
  simp only[RepL] at h
  obtain⟨u,us',rfl,h1,h2⟩:=h
  simp only[RepC]
  refine⟨⟨u,k 0 u rfl,h1⟩,RepC.of_list h2 fun j v hv=>?_⟩
  have:=k (j+1) v (by simpa using hv)
  rw[show off+1+j=off+(j+1) by omega]
  exact this
theorem ZlH {w:World}{B:Nat}{g:Gh}(hg : ∀ k,k<B→g.D k) : ∀ (d:Ds) (cs:List Value) (x:El d),Rd w B d cs x→RepL w g (avs d x) cs
 | .int,cs,x,h=>by rw[h.1];simp only[avs,RepL];exact⟨_,[],rfl,by simp only[Rep],rfl⟩
 | .str,cs,x,h=>by rw[h.1];simp only[avs,RepL];exact⟨_,[],rfl,by simp only[Rep],rfl⟩
 | .bool,cs,x,h=>by rw[show cs=_ from h];simp only[avs,RepL];exact⟨_,[],rfl,by simp only[Rep],rfl⟩
 | .pair a b,cs,x,⟨c1,c2,e,h1,h2⟩=>by rw[e];simp only[avs];exact (ZlH hg a c1 x.1 h1).append (ZlH hg b c2 x.2 h2)
 | .slice a,cs,l,⟨A,c,e,hl,hm,h0,h⟩=>by
  rw[e]
  simp only[avs,RepL]
  refine⟨_,[],rfl,?_,rfl⟩
  simp only[Rep]
  refine⟨Za4 (ZkY a) l,A,c,rfl,hl,hm,fun h=>(by cases h),h0,fun hne=>?_⟩
  have hpos:0<List.length l:=by
   rcases Nat.eq_zero_or_pos (List.length l) with h' | h'
   ·have:l=[]:=List.eq_nil_of_length_eq_zero h'
    subst this;exact absurd rfl hne
   ·exact h'
  obtain⟨b,off,eA,hb,hi⟩:=h hpos
  refine⟨b,off,eA,hg b hb,?_⟩
  have key : ∀ (m:List (El a)) (o:Nat),(∀ k (hk:k<m.length),∃ r,(∀ j v,r[j]?=some v→w.cell? ⟨b,o+k*a.size+j,none⟩=some v)∧RepL w g (avs a m[k]) r)→RepC w g (rows (avs a) m) b o:=by
   intro m
   induction m with
   | nil=>intro o _;simp only[rows,List.flatMap_nil,RepC]
   | cons x m ih =>
    intro o hm'
    simp only[rows,List.flatMap_cons]
    obtain⟨r,hr1,hr2⟩:=hm' 0 (by simp)
    refine RepC.append (RepC.of_list hr2 fun j v hv=>by have:=hr1 j v hv;simpa using this) ?_
    rw[ZkY]
    refine ih (o+a.size) fun k hk=>?_
    obtain⟨r,hr1,hr2⟩:=hm' (k+1) (by simpa using hk)
    refine⟨r,fun j v hv=>?_,by simpa using hr2⟩
    have:=hr1 j v hv
    rw[show o+a.size+k*a.size+j=o+(k+1)*a.size+j by rw[Nat.add_mul];omega]
    exact this
  exact key l off fun k hk=>by
   obtain⟨r,hr1,hr2⟩:=hi k hk
   exact⟨r,hr1,ZlH hg a r _ hr2⟩
def g0 (w:World):Gh:=⟨fun k=>k<w.heap.size,fun _ _=>none,[]⟩
theorem sim0 (w:World) (hG:GlobW w):SimH w (g0 w) [] :=
 ⟨fun id ver ty s c h=>(by simp at h),fun i j k hi _=>by obtain⟨_,_,_,_,_,_,h,_⟩:=hi;simp at h,fun k hk=>hk,fun id ver l h=>(by simp[g0] at h),fun id ver l h=>(by simp[g0] at h),⟨hG,hG.lt⟩,fun i k o T vs h=>(by simp at h),fun i j k hi _=>by obtain⟨_,_,_,h⟩:=hi;simp at h⟩
theorem Zsl {P:Program}{f:FuncId}{args:List AV}(hc:ACalls P f args [] fun x h'=>h'=[]∧x=.ret (bv true)) {w:World}(hG:GlobW w) {vs:Array Value}(hr:RepL w (g0 w) args vs.toList) :
  Calls P f vs w fun e w'=>e=.returned (.bool true)∧Below w.heap.size w w':=by
 refine (hc.2 w (g0 w) vs (sim0 w hG) hr).mono ?_
 rintro e w' ⟨x,h',g',h1,h2,h3,h4,h5,rfl,rfl⟩
 cases e <;> simp only[EndR] at h1
 simp only[Rep] at h1
 refine⟨by rw[h1],h4.os,h4.tape,h4.output,h4.size,fun k hk=>h4.block k hk ?_⟩
 rintro (⟨i,_,_,_,_,_,_,h,_⟩ | ⟨i,_,_,_,h⟩) <;> simp at h
section
variable {H : Type} {enc : TypeId × Value → H} {P : Program} {w : World} {base : Nat} {spare : Nat → Bool} {held : Bool}
theorem Zp7 (d:Ds) {t:TypeId}{v:Value}{x:DataW H}{p:List MemPlace}{fs:Array Field}{r:Reach}{b:Nat}(ht:P.underlying t=some (.struct fs)) (hf:fits P 20 t d=true) (hv:Value.okWide P w r b t v) (h:DataW.Trod enc P w base spare held t v x p) :
  ∃ e:El d,okD d e∧Rep w (g0 w) (.agg (avs d e)) v:=by
 obtain⟨e,he⟩:=rd_arg hf h
 obtain⟨cs,rfl,_⟩:=okWide_struct ht hv
 refine⟨e,he.ok,?_⟩
 simp only[Rep]
 exact⟨cs,rfl,ZlH (fun k hk=>hk) d _ e he⟩
theorem arg_cell (d:Ds) {t:TypeId}{v:Value}{x:DataW H}{p:List MemPlace}(hf:fits P 20 t d=true) (hv:v.cells = #[v]) (h:DataW.Trod enc P w base spare held t v x p) :
  ∃ e:El d,okD d e∧RepL w (g0 w) (avs d e) [v]:=by
 obtain⟨e,he⟩:=rd_arg hf h
 refine⟨e,he.ok,?_⟩
 have:=ZlH (g:=g0 w) (fun k hk=>hk) d _ e he
 rwa [hv] at this
theorem arg_str {t:TypeId}{v:Value}{x:DataW H}{p:List MemPlace}{r:Reach}{b:Nat}(ht:P.underlying t=some .string) (hv:Value.okWide P w r b t v) (h:DataW.Trod enc P w base spare held t v x p) :
  ∃ e:ByteArray,e.size≤maxLen∧Rep w (g0 w) (sv e) v:=by
 obtain⟨n,rfl⟩:=okWide_string ht hv
 obtain⟨e,he,hr⟩:=arg_cell .str (by simp[fits,ht]) rfl h
 simp only[avs,RepL] at hr
 obtain⟨u,us,h1,h2,rfl⟩:=hr
 cases h1
 exact⟨e,he,h2⟩
end
theorem repL1 {w:World}{g:Gh}{c:AV}{v:Value}{cs:List AV}{vs:List Value}(h:Rep w g c v) (hs:RepL w g cs vs):RepL w g (c::cs) (v::vs):=by simp only[RepL];exact⟨v,vs,rfl,h,hs⟩
theorem repL0 {w:World}{g:Gh}:RepL w g [] []:=by simp only[RepL]
end Go.Proofs.YtlekejpogddndaaGreatDoor
end
section
namespace Go.Proofs.YtlekejpogddndaaGreatDoor
open Go.Ab
abbrev TS:=List ByteArray×Bool
abbrev bad (t:TS):TS:=(t.1,true)
def ZaP (t:TS):ByteArray×TS:=if t.2=true∨t.1=[] then (⟨#[]⟩,bad t) else (t.1.headD ⟨#[]⟩,t.1.tail,false)
def decL:Int→Bs→Int
 | n,[]=>n
 | n,c::l=>decL (10*n+c.toNat-48) l
def numV (s:ByteArray) (a b:Int):Option Int:=if wi s.size a b=true∧allB digB s=true then some (decL 0 (aB s)) else none
def tNum (s:ByteArray) (a b:Int) (t:TS):Int×TS:=match numV s a b with
 | some n=>(n,t)
 | none=>(0,bad t)
def ZeP (t:TS):ByteArray×TS:=((ZaP t).1,if Zcu (ZaP t).1=true then (ZaP t).2 else bad (ZaP t).2)
def idxL:List ByteArray→ByteArray→Int→Option Int
 | [],_,_=>none
 | x::l,s,d=>if s=x then some d else idxL l s (d+1)
def monL:List ByteArray:=[bA [74,97,110],bA [70,101,98],bA [77,97,114],bA [65,112,114],bA [77,97,121],bA [74,117,110],bA [74,117,108],bA [65,117,103],bA [83,101,112],bA [79,99,116],bA [78,111,118],bA [68,101,99]]
def dayL:List ByteArray:=[bA [83,117,110],bA [77,111,110],bA [84,117,101],bA [87,101,100],bA [84,104,117],bA [70,114,105],bA [83,97,116]]
def ZdB (t:TS):Int×TS:=match idxL monL (ZaP t).1 1 with
 | some n=>(n,(ZaP t).2)
 | none=>(0,bad (ZaP t).2)
def Zd3 (s:ByteArray) (t:TS):Int×TS:=match idxL dayL s 0 with
 | some n=>(n,t)
 | none=>(0,bad t)
def ZcI (s:ByteArray) (k:Nat):Int:=(ZaH s k).toNat
def Zd2 (s:ByteArray):Nat:=if 4≤s.size∧s.extract 0 4=bA [108,97,115,116] then 2 else if 5<s.size∧ZcI s 4=61∧ZcI s 3=62 then 3 else if 5<s.size∧ZcI s 4=61∧ZcI s 3=60 then 4 else 1
def ZbR (s:ByteArray) (t:TS):Frm×TS :=
 if Zd2 s=2 then ((2,(Zd3 (s.extract 4 s.size) t).1,0),(Zd3 (s.extract 4 s.size) t).2)
 else if Zd2 s=1 then ((1,0,(tNum s 1 2 t).1),(tNum s 1 2 t).2)
 else ((Zd2 s,(Zd3 (s.extract 0 3) t).1,(tNum (s.extract 5 s.size) 1 2 (Zd3 (s.extract 0 3) t).2).1),(tNum (s.extract 5 s.size) 1 2 (Zd3 (s.extract 0 3) t).2).2)
def ZgO (t:TS):Frm×TS:=ZbR (ZaP t).1 (ZaP t).2
def tSix (s:ByteArray) (t:TS):Int×TS:=((tNum s 2 2 t).1,if (tNum s 2 2 t).1>59 then bad (tNum s 2 2 t).2 else (tNum s 2 2 t).2)
def ZeO (l:List Bs) (t:TS):Int×TS:=match l with
 | [a,b]=>(3600*(tNum (bA a) 1 2 t).1+60*(tSix (bA b) (tNum (bA a) 1 2 t).2).1,(tSix (bA b) (tNum (bA a) 1 2 t).2).2)
 | [a,b,c]=>(3600*(tNum (bA a) 1 2 t).1+60*(tSix (bA b) (tNum (bA a) 1 2 t).2).1+(tSix (bA c) (tSix (bA b) (tNum (bA a) 1 2 t).2).2).1,(tSix (bA c) (tSix (bA b) (tNum (bA a) 1 2 t).2).2).2)
 | _=>(0,bad t)
def ZbD (s:ByteArray) (t:TS):Int×TS:=if s=bA [48] then (0,t) else ZeO (cutC 58 (aB s)) t
def wsuA:ByteArray:=bA [63,119,115,117]
def Zdl (c d:Int):Nat→Int
 | 0=>d
 | k+1=>if c=ZcI wsuA (k+1) then ((k+1:Nat):Int) else Zdl c d k
def ZcH (s:ByteArray):Int:=ZcI s (s.size-1)
def Zd0 (d:Int) (s:ByteArray) (t:TS):(Int×Int)×TS :=
 if s.size=0 then (((ZbD s t).1,d),(ZbD s t).2)
 else if digB (ZcH s)=true then (((ZbD s t).1,Zdl (ZcH s) d 3),(ZbD s t).2)
 else let u:TS:=if ZcH s=ZcI wsuA (Zdl (ZcH s) d 3).toNat then t else bad t
  (((ZbD (s.extract 0 (s.size-1)) u).1,Zdl (ZcH s) d 3),(ZbD (s.extract 0 (s.size-1)) u).2)
def Zc3 (d:Int) (t:TS):(Int×Int)×TS:=Zd0 d (ZaP t).1 (ZaP t).2
def ZrW:ByteArray:=bA [111,110,108,121]
def maxA:ByteArray:=bA [109,97,120]
def tTo (f:Int) (s:ByteArray) (t:TS):Int×TS:=if s=ZrW then (f,t) else if s=maxA then (2100,t) else tNum s 4 4 t
def ZeU (s:ByteArray):Bool:=decide (s≠⟨#[]⟩)&&(decide (s=bA [45])||Zcm s)
def ZbY {α β:Type}(f:TS→α×TS) (k:α→TS→β×TS) (t:TS):β×TS:=k (f t).1 (f t).2
def ret2 {α:Type}(a:α) (t:TS):α×TS:=(a,t)
def Zrj (t:TS):Int×TS:=tNum (ZaP t).1 4 4 (ZaP t).2
def tToN (f:Int) (t:TS):Int×TS:=tTo f (ZaP t).1 (ZaP t).2
def Zrl (t:TS):Int×TS:=ZbD (ZaP t).1 (ZaP t).2
def Zc9 (t:TS):ByteArray×TS:=(if (ZaP t).1=bA [45] then ⟨#[]⟩ else (ZaP t).1,if ZeU (ZaP t).1=true then (ZaP t).2 else bad (ZaP t).2)
def Zkm:TS→Rul×TS :=
 ZbY ZeP fun nm=>ZbY Zrj fun f=>ZbY (tToN f) fun t2=>ZbY ZdB fun m=>ZbY ZgO fun k=>ZbY (Zc3 1) fun c=>ZbY Zrl fun sv=>ZbY Zc9 fun l=>ret2 (nm,f,t2,m,k,c.1,c.2,sv,l)
def Zht (s:ByteArray):Int:=ZcI s 0
def Zf3 (t:TS):Int×TS:=if (ZaP t).1.size≠0∧Zht (ZaP t).1=45 then (-(ZbD ((ZaP t).1.extract 1 (ZaP t).1.size) (ZaP t).2).1,(ZbD ((ZaP t).1.extract 1 (ZaP t).1.size) (ZaP t).2).2) else ZbD (ZaP t).1 (ZaP t).2
def ZdZ (s:ByteArray) (t:TS):(Int×ByteArray)×TS :=
 if s=bA [45] then ((0,⟨#[]⟩),t)
 else if s.size≠0∧digB (Zht s)=true then (((ZbD s (if s=bA [48] then bad t else t)).1,⟨#[]⟩),(ZbD s (if s=bA [48] then bad t else t)).2)
 else ((0,s),if Zcu s=true then t else bad t)
def Zrm (t:TS):(Int×ByteArray)×TS:=ZdZ (ZaP t).1 (ZaP t).2
def Zh2 (t:TS):ByteArray×TS:=((ZaP t).1,if ZbL (ZaP t).1=true then (ZaP t).2 else bad (ZaP t).2)
def tDay (t:TS):Int×TS:=tNum (ZaP t).1 1 2 (ZaP t).2
def Zrk (c:Int×Int) (t:TS):Unit×TS:=((),if c.2=1 then bad t else t)
def Zhf:TS→Unt×TS :=
 ZbY Zrj fun y=>ZbY ZdB fun m=>ZbY tDay fun d=>ZbY (Zc3 2) fun c=>ZbY (Zrk c) fun _=>ret2 ((y,m,d),c.1,c.2)
def untZ:Unt:=((0,0,0),0,0)
def tEnd (t:TS):(Bool×Unt)×TS:=if t.1=[] then ((true,untZ),t) else ((false,(Zhf t).1),(Zhf t).2)
def tEra:TS→Era×TS :=
 ZbY Zf3 fun sh=>ZbY Zrm fun r=>ZbY Zh2 fun f=>ZbY tEnd fun u=>ret2 (sh,r.2,r.1,f,u.1,u.2)
def Zem:List ByteArray→Option (ByteArray×List ByteArray)
 | []=>none
 | x::l=>some (x,l)
abbrev RM (α:Type):=List ByteArray→Option (α×List ByteArray)
def ZbQ {α β:Type}(f:RM α) (k:α→RM β):RM β:=fun l=>match f l with
 | none=>none
 | some p=>k p.1 p.2
def retR {α:Type}(a:α):RM α:=fun l=>some (a,l)
def ZcB {α:Type}(o:Option α):RM α:=fun l=>match o with
 | none=>none
 | some a=>some (a,l)
def ZrL:RM ByteArray:=ZbQ Zem fun s=>ZcB (if Zcu s=true then some s else none)
def ZrM:RM Int:=ZbQ Zem fun s=>ZcB (idxL monL s 1)
def sixV (s:ByteArray):Option Int:=match numV s 2 2 with
 | some n=>if n>59 then none else some n
 | none=>none
def ZfD (s:ByteArray):Option Int:=if s=bA [48] then some 0 else match cutC 58 (aB s) with
 | [a,b]=>match numV (bA a) 1 2,sixV (bA b) with
  | some x,some y=>some (3600*x+60*y)
  | _,_=>none
 | [a,b,c]=>match numV (bA a) 1 2,sixV (bA b),sixV (bA c) with
  | some x,some y,some z=>some (3600*x+60*y+z)
  | _,_,_=>none
 | _=>none
def formV (s:ByteArray):Option Frm :=
 if Zd2 s=2 then (match idxL dayL (s.extract 4 s.size) 0 with
  | some w=>some (2,w,0)
  | none=>none)
 else if Zd2 s=1 then (match numV s 1 2 with
  | some n=>some (1,0,n)
  | none=>none)
 else match idxL dayL (s.extract 0 3) 0,numV (s.extract 5 s.size) 1 2 with
  | some w,some n=>some ((Zd2 s:Int),w,n)
  | _,_=>none
def wsuK (c:Int):Option Int:=if c=119 then some 1 else if c=115 then some 2 else if c=117 then some 3 else none
def Zpb (d:Int) (s:ByteArray):Option (Int×Int):=match (if s.size=0 then none else wsuK (ZcH s)) with
 | some k=>(match ZfD (s.extract 0 (s.size-1)) with
  | some n=>some (n,k)
  | none=>none)
 | none=>(match ZfD s with
  | some n=>some (n,d)
  | none=>none)
def toV (f:Int) (s:ByteArray):Option Int:=if s=ZrW then some f else if s=maxA then some 2100 else numV s 4 4
def Znj (s:ByteArray):Option ByteArray:=if ZeU s=true then some (if s=bA [45] then ⟨#[]⟩ else s) else none
def rRule:RM Rul :=
 ZbQ ZrL fun nm=>ZbQ (ZbQ Zem fun s=>ZcB (numV s 4 4)) fun f=>ZbQ (ZbQ Zem fun s=>ZcB (toV f s)) fun t2=>ZbQ ZrM fun m=>ZbQ (ZbQ Zem fun s=>ZcB (formV s)) fun k =>
  ZbQ (ZbQ Zem fun s=>ZcB (Zpb 1 s)) fun c=>ZbQ (ZbQ Zem fun s=>ZcB (ZfD s)) fun sv=>ZbQ (ZbQ Zem fun s=>ZcB (Znj s)) fun l=>retR (nm,f,t2,m,k,c.1,c.2,sv,l)
def ZrB (s:ByteArray):Option Int:=if s.size≠0∧Zht s=45 then (match ZfD (s.extract 1 s.size) with
  | some n=>some (-n)
  | none=>none) else ZfD s
def ZrE (s:ByteArray):Option (Int×ByteArray) :=
 if s=bA [45] then some (0,⟨#[]⟩)
 else if s.size≠0∧digB (Zht s)=true∧s≠bA [48] then (match ZfD s with
  | some n=>some (n,⟨#[]⟩)
  | none=>none)
 else if Zcu s=true then some (0,s) else none
def ZrK:RM Unt :=
 ZbQ (ZbQ Zem fun s=>ZcB (numV s 4 4)) fun y=>ZbQ ZrM fun m=>ZbQ (ZbQ Zem fun s=>ZcB (numV s 1 2)) fun d=>ZbQ (ZbQ Zem fun s=>ZcB (Zpb 2 s)) fun c=>ZbQ (ZcB (if c.2=1 then none else some ())) fun _=>retR ((y,m,d),c.1,c.2)
def rEnd:RM (Bool×Unt):=fun l=>if l=[] then some ((true,untZ),l) else match ZrK l with
 | some p=>some ((false,p.1),p.2)
 | none=>none
def rEra:RM Era :=
 ZbQ (ZbQ Zem fun s=>ZcB (ZrB s)) fun sh=>ZbQ (ZbQ Zem fun s=>ZcB (ZrE s)) fun r=>ZbQ (ZbQ Zem fun s=>ZcB (if ZbL s=true then some s else none)) fun f=>ZbQ rEnd fun u=>retR (sh,r.2,r.1,f,u.1,u.2)
def Agr {α:Type}(f:TS→α×TS) (g:RM α):Prop := ∀ l,(f (l,true)).2.2=true∧match g l with
 | none=>(f (l,false)).2.2=true
 | some p=>f (l,false)=(p.1,p.2,false)
theorem Agr.bind {α β:Type}{f:TS→α×TS}{g:RM α}{k:α→TS→β×TS}{m:α→RM β}(h:Agr f g) (hk : ∀ a,Agr (k a) (m a)):Agr (ZbY f k) (ZbQ g m):=by
 have stay : ∀ (a:α) (t:TS),t.2=true→(k a t).2.2=true:=by
  rintro a ⟨l,b⟩ rfl;exact (hk a l).1
 intro l
 refine⟨stay _ _ (h l).1,?_⟩
 have h2:=(h l).2
 unfold ZbQ ZbY
 revert h2
 cases hg:g l with
 | none=>exact fun h2=>stay _ _ h2
 | some p=>intro h2;simp only at h2;rw[h2];exact (hk p.1 p.2).2
theorem Agr.ret {α:Type}(a:α):Agr (ret2 a) (retR a):=fun l=>⟨rfl,rfl⟩
theorem agr_next:Agr ZaP Zem:=by
 intro l
 cases l with
 | nil=>exact⟨rfl,rfl⟩
 | cons x l=>exact⟨rfl,rfl⟩
def AgO {α:Type}(o:Option α) (x:α×TS) (l:List ByteArray):Prop:=match o with
 | none=>x.2.2=true
 | some a=>x=(a,l,false)
theorem Agr.lift {α:Type}{f:TS→α×TS}{o:Option α}(hb : ∀ t:TS,t.2=true→(f t).2.2=true) (hf : ∀ l,AgO o (f (l,false)) l):Agr f (ZcB o):=by
 intro l
 refine⟨hb _ rfl,?_⟩
 have:=hf l
 unfold ZcB
 cases o <;> exact this
theorem Zk1 (s:ByteArray) (a b:Int):Agr (tNum s a b) (ZcB (numV s a b)):=by
 refine Agr.lift (fun t h=>?_) (fun l=>?_)
 ·unfold tNum;split <;> simp_all
 ·unfold tNum;cases numV s a b <;> rfl
theorem Zd4 {s:ByteArray}{a b:Int}{t:TS}(h:t.2=true):(tNum s a b t).2.2=true:=by unfold tNum;split <;> simp_all
theorem Zjj {s:ByteArray}{t:TS}(h:t.2=true):(Zd3 s t).2.2=true:=by unfold Zd3;split <;> simp_all
theorem Zdy {s:ByteArray}{t:TS}(h:t.2=true):(tSix s t).2.2=true:=by unfold tSix;have:=Zd4 (s:=s) (a:=2) (b:=2) h;split <;> simp_all
theorem Zcj {s:ByteArray}{t:TS}(h:t.2=true):(ZbD s t).2.2=true:=by
 unfold ZbD
 split
 ·exact h
 ·unfold ZeO
  split
  ·exact Zdy (Zd4 h)
  ·exact Zdy (Zdy (Zd4 h))
  ·rfl
theorem Zdz {s:ByteArray}{a b n:Int}{t:TS}(h:numV s a b=some n):tNum s a b t=(n,t):=by unfold tNum;rw[h]
theorem ZdA {s:ByteArray}{a b:Int}{t:TS}(h:numV s a b=none):tNum s a b t=(0,bad t):=by unfold tNum;rw[h]
theorem ZhZ {s:ByteArray}{n:Int}{t:TS}(h:sixV s=some n):tSix s t=(n,t):=by
 unfold sixV at h
 split at h
 ·rename_i m hm
  unfold tSix
  rw[Zdz hm]
  split at h
  ·cases h
  ·rename_i hle;cases h;simp[hle]
 ·cases h
theorem Zh0 {s:ByteArray}{t:TS}(h:sixV s=none):(tSix s t).2.2=true:=by
 unfold sixV at h
 split at h
 ·rename_i m hm
  unfold tSix
  rw[Zdz hm]
  split at h
  ·rename_i hle;simp[hle]
  ·cases h
 ·rename_i hm;unfold tSix;rw[ZdA hm];simp
theorem Zfi (s:ByteArray):Agr (ZbD s) (ZcB (ZfD s)):=by
 refine Agr.lift (fun t h=>Zcj h) (fun l=>?_)
 unfold ZbD ZfD
 by_cases h0:s=bA [48]
 ·simp only[if_pos h0];rfl
 ·simp only[if_neg h0]
  obtain⟨y,hy⟩ : ∃ y,y=cutC 58 (aB s):=⟨_,rfl⟩
  simp only[←hy]
  clear hy
  match y with
  | []=>rfl
  | [_]=>rfl
  | _::_::_::_::_=>rfl
  | [a,b] =>
   simp only[ZeO]
   cases h1:numV (bA a) 1 2 with
   | none=>rw[ZdA h1];exact Zdy rfl
   | some x =>
    rw[Zdz h1]
    cases h2:sixV (bA b) with
    | none=>exact Zh0 h2
    | some y=>simp only;rw[ZhZ h2];rfl
  | [a,b,c] =>
   simp only[ZeO]
   cases h1:numV (bA a) 1 2 with
   | none=>rw[ZdA h1];exact Zdy (Zdy rfl)
   | some x =>
    rw[Zdz h1]
    cases h2:sixV (bA b) with
    | none=>exact Zdy (Zh0 h2)
    | some y =>
     simp only;rw[ZhZ h2]
     cases h3:sixV (bA c) with
     | none=>exact Zh0 h3
     | some z=>simp only;rw[ZhZ h3];rfl
theorem agr_form (s:ByteArray):Agr (ZbR s) (ZcB (formV s)):=by
 refine Agr.lift (fun t h=>?_) (fun l=>?_)
 ·unfold ZbR
  split
  ·exact Zjj h
  ·split
   ·exact Zd4 h
   ·exact Zd4 (Zjj h)
 ·unfold ZbR formV
  by_cases hk2:Zd2 s=2
  ·simp only[if_pos hk2]
   unfold Zd3
   cases h1:idxL dayL (s.extract 4 s.size) 0 <;> rfl
  ·simp only[if_neg hk2]
   by_cases hk1:Zd2 s=1
   ·simp only[if_pos hk1]
    cases h1:numV s 1 2 with
    | none=>rw[ZdA h1];rfl
    | some n=>rw[Zdz h1];rfl
   ·simp only[if_neg hk1]
    cases h1:idxL dayL (s.extract 0 3) 0 with
    | none=>refine Zd4 ?_;unfold Zd3;rw[h1]
    | some w =>
     unfold Zd3;rw[h1]
     cases h2:numV (s.extract 5 s.size) 1 2 with
     | none=>rw[ZdA h2];rfl
     | some n=>rw[Zdz h2];rfl
theorem kindU3 (c d:Int):Zdl c d 3=(wsuK c).getD d:=by
 unfold Zdl Zdl Zdl Zdl wsuK
 rw[show ZcI wsuA (2+1)=117 by decide,show ZcI wsuA (1+1)=115 by decide,show ZcI wsuA (0+1)=119 by decide]
 split
 ·subst c;rfl
 ·split
  ·subst c;rfl
  ·split
   ·subst c;rfl
   ·rfl
theorem wsuK_dig {c k:Int}(h:wsuK c=some k):digB c=false∧1≤k∧k≤3∧c=ZcI wsuA k.toNat:=by
 unfold wsuK at h
 split at h
 ·subst c;cases h;decide
 ·split at h
  ·subst c;cases h;decide
  ·split at h
   ·subst c;cases h;decide
   ·cases h
theorem wsu_lit (k:Int) (h:1≤k∧k≤3):wsuK (ZcI wsuA k.toNat)=some k:=by
 obtain⟨h1,h2⟩:=h
 have:k=1∨k=2∨k=3:=by omega
 rcases this with rfl | rfl | rfl <;> decide
theorem ZjJ {x:UInt8} : ∀ {l z:Bs},cutC x l=[z]→l=z
 | [],z,h=>by simp[cutC] at h;exact h.symm
 | c::l,z,h=>by
  unfold cutC at h
  split at h
  ·simp only[List.cons.injEq] at h;exact absurd h.2 (ZkS x l)
  ·split at h
   ·rename_i he;exact absurd he (ZkS x l)
   ·rename_i y ys he
    simp only[List.cons.injEq] at h
    obtain⟨rfl,rfl⟩:=h
    rw[ZjJ he]
theorem ZhN (x:UInt8) : ∀ {l:Bs}{ys:List Bs}{y:Bs},cutC x l=ys++[y] → ∃ p,l=p++y
 | [],ys,y,h=>by
  cases ys with
  | nil=>simp[cutC] at h;exact⟨[],by simp[h]⟩
  | cons a ys=>simp[cutC] at h
 | c::l,ys,y,h=>by
  unfold cutC at h
  split at h
  ·cases ys with
   | nil=>simp at h;exact absurd h.2 (ZkS x l)
   | cons a ys =>
    simp only[List.cons_append,List.cons.injEq] at h
    obtain⟨p,hp⟩:=ZhN x h.2
    exact⟨c::p,by rw[hp];rfl⟩
  ·split at h
   ·rename_i he;exact absurd he (ZkS x l)
   ·rename_i z zs he
    cases ys with
    | nil =>
     simp only[List.nil_append,List.cons.injEq] at h
     obtain⟨rfl,rfl⟩:=h
     obtain⟨p,hp⟩:=ZhN x (ys:=[]) (y:=z) (by rw[he];rfl)
     have h0:=ZjJ he
     exact⟨[],by rw[←h0];rfl⟩
    | cons a ys =>
     simp only[List.cons_append,List.cons.injEq] at h
     obtain⟨p,hp⟩:=ZhN x (l:=l) (ys:=z::ys) (y:=y) (by rw[he,h.2];rfl)
     exact⟨c::p,by rw[hp];rfl⟩
theorem Zme : ∀ {y:Bs}(hy:y≠[]),y.drop (y.length-1)=[y.getLast hy]
 | [c],_=>rfl
 | c::d::l,_=>by have:=Zme (y:=d::l) (by simp);simpa using this
theorem Zsm {s:ByteArray}{p y:Bs}(h:aB s=p++y) (hy:y≠[]) : ∃ c∈y,ZcH s=(c.toNat:Int):=by
 refine⟨y.getLast hy,List.getLast_mem hy,?_⟩
 have hl:s.size=p.length+y.length:=by rw[←Zec,h,List.length_append]
 have hp:0<y.length:=List.length_pos_iff.2 hy
 have h0:s.size-1<s.size:=by omega
 have e1:(aB s).drop (s.size-1)=ZaH s (s.size-1)::(aB s).drop (s.size-1+1):=Ze3 h0
 have e2:(aB s).drop (s.size-1)=[y.getLast hy]:=by
  rw[h,show s.size-1=p.length+(y.length-1) by omega,List.drop_append,List.drop_of_length_le om,List.nil_append,Nat.add_sub_cancel_left]
  exact Zme hy
 rw[e2] at e1
 simp only[List.cons.injEq] at e1
 unfold ZcH ZcI
 rw[e1.1]
theorem ZlS {s:ByteArray}{a b n:Int}(h:numV s a b=some n):wi s.size a b=true∧allB digB s=true∧n=decL 0 (aB s):=by
 unfold numV at h
 split at h
 ·rename_i hc;cases h;exact⟨hc.1,hc.2,rfl⟩
 ·cases h
theorem ZrA {s:ByteArray}{n:Int}(h:sixV s=some n):s.size=2∧allB digB s=true∧n=decL 0 (aB s)∧n≤59:=by
 unfold sixV at h
 split at h
 ·rename_i m hm
  obtain⟨h1,h2,h3⟩:=ZlS hm
  split at h
  ·cases h
  ·cases h
   unfold wi at h1
   simp at h1
   exact⟨by omega,h2,h3,by omega⟩
 ·cases h
theorem Zk0 {p:Int→Bool}{l:Bs}(h:allB p (bA l)=true) {c:UInt8}(hc:c∈l):p c.toNat=true:=by
 unfold allB at h
 rw[List.all_eq_true] at h
 exact h c (by simpa [bA] using hc)
theorem Zlz {s:ByteArray}{n:Int}(h:ZfD s=some n):s.size≠0∧digB (ZcH s)=true:=by
 have key : ∀ {ys:List Bs} {y:Bs} {m:Int},cutC 58 (aB s)=ys++[y]→sixV (bA y)=some m→s.size≠0∧digB (ZcH s)=true:=by
  intro ys y m h1 h2
  obtain⟨p,hp⟩:=ZhN 58 h1
  obtain⟨z1,z2,_⟩:=ZrA h2
  rw[Zdd] at z1
  obtain⟨c,hc,e⟩:=Zsm hp (by rintro rfl;simp at z1)
  refine⟨fun e0=>?_,by rw[e];exact Zk0 z2 hc⟩
  have:=congrArg List.length hp
  rw[Zec,List.length_append] at this;omega
 unfold ZfD at h
 split at h
 ·rename_i e;subst e;decide
 ·split at h
  ·rename_i a b hc
   split at h
   ·rename_i x y h1 h2;exact key (ys:=[a]) hc h2
   ·cases h
  ·rename_i a b c hc
   split at h
   ·rename_i x y z h1 h2 h3;exact key (ys:=[a,b]) hc h3
   ·cases h
  ·cases h
theorem agr_at {α:Type}{f:TS→α×TS}{o:Option α}(h:Agr f (ZcB o)) (l:List ByteArray):AgO o (f (l,false)) l:=by
 have:=(h l).2
 unfold ZcB at this
 unfold AgO
 cases o <;> exact this
theorem Zmq {d:Int}(hd:d=1∨d=2) (s:ByteArray):Agr (Zd0 d s) (ZcB (Zpb d s)):=by
 refine Agr.lift (fun t h=>?_) (fun l=>?_)
 ·unfold Zd0
  split
  ·exact Zcj h
  ·split
   ·exact Zcj h
   ·refine Zcj ?_
    split
    ·exact h
    ·rfl
 ·have hS:=agr_at (Zfi s) l
  have hX:=agr_at (Zfi (s.extract 0 (s.size-1))) l
  unfold Zd0 Zpb
  by_cases h0:s.size=0
  ·rw[if_pos h0,if_pos h0]
   cases h1:ZfD s with
   | none=>rw[h1] at hS;exact hS
   | some n=>exact absurd h0 (Zlz h1).1
  ·rw[if_neg h0,if_neg h0,kindU3]
   cases hk:wsuK (ZcH s) with
   | none =>
    simp only[Option.getD_none]
    cases h1:ZfD s with
    | none =>
     rw[h1] at hS
     by_cases hdg:digB (ZcH s)=true
     ·rw[if_pos hdg];exact hS
     ·rw[if_neg hdg]
      by_cases e:ZcH s=ZcI wsuA d.toNat
      ·exfalso
       have:=wsu_lit d om
       rw[←e,hk] at this;cases this
      ·rw[if_neg e]
       exact Zcj (t:=bad (l,false)) rfl
    | some n =>
     rw[h1] at hS
     rw[if_pos (Zlz h1).2]
     have hS':ZbD s (l,false)=(n,l,false):=hS
     rw[hS'];rfl
   | some k =>
    obtain⟨w1,w2,w3,w4⟩:=wsuK_dig hk
    simp only[Option.getD_some]
    rw[if_neg (by rw[w1];exact Bool.false_ne_true),if_pos w4]
    cases h1:ZfD (s.extract 0 (s.size-1)) with
    | none=>rw[h1] at hX;exact hX
    | some n =>
     rw[h1] at hX
     have hX':ZbD (s.extract 0 (s.size-1)) (l,false)=(n,l,false):=hX
     rw[hX'];rfl
theorem agr_to (f:Int) (s:ByteArray):Agr (tTo f s) (ZcB (toV f s)):=by
 unfold tTo toV
 split
 ·exact Agr.lift (fun t h=>h) (fun l=>rfl)
 ·split
  ·exact Agr.lift (fun t h=>h) (fun l=>rfl)
  ·exact Zk1 s 4 4
theorem agr_name:Agr ZeP ZrL:=by
 refine (Agr.bind agr_next (k:=fun s t=>(s,if Zcu s=true then t else bad t)) fun s=>?_:Agr (ZbY ZaP _) _)
 refine Agr.lift (fun t h=>by dsimp only;split;exact h;rfl) (fun l=>?_)
 cases Zcu s <;> rfl
theorem agr_month:Agr ZdB ZrM:=by
 refine (Agr.bind agr_next (k:=fun s t=>match idxL monL s 1 with
  | some n=>(n,t)
  | none=>(0,bad t)) fun s=>?_:Agr (ZbY ZaP _) _)
 refine Agr.lift (fun t h=>by split;exact h;rfl) (fun l=>?_)
 cases idxL monL s 1 <;> rfl
theorem agr_letter:Agr Zc9 (ZbQ Zem fun s=>ZcB (Znj s)):=by
 refine (Agr.bind agr_next (k:=fun s t=>(if s=bA [45] then ⟨#[]⟩ else s,if ZeU s=true then t else bad t)) fun s=>?_:Agr (ZbY ZaP _) _)
 refine Agr.lift (fun t h=>by dsimp only;generalize ZeU s=b;cases b;rfl;exact h) (fun l=>?_)
 unfold Znj
 cases ZeU s <;> rfl
theorem agr_rule:Agr Zkm rRule:=by
 refine agr_name.bind fun nm=>?_
 refine (agr_next.bind fun s=>Zk1 s 4 4).bind fun f=>?_
 refine (agr_next.bind fun s=>agr_to f s).bind fun t2=>?_
 refine agr_month.bind fun m=>?_
 refine (agr_next.bind fun s=>agr_form s).bind fun k=>?_
 refine (agr_next.bind fun s=>Zmq (.inl rfl) s).bind fun c=>?_
 refine (agr_next.bind fun s=>Zfi s).bind fun sv=>?_
 exact agr_letter.bind fun l=>Agr.ret _
theorem agr_shift:Agr Zf3 (ZbQ Zem fun s=>ZcB (ZrB s)):=by
 refine (Agr.bind agr_next (k:=fun s t=>if s.size≠0∧Zht s=45 then (-(ZbD (s.extract 1 s.size) t).1,(ZbD (s.extract 1 s.size) t).2) else ZbD s t) fun s=>?_:Agr (ZbY ZaP _) _)
 unfold ZrB
 split
 ·refine Agr.lift (fun t h=>Zcj h) (fun l=>?_)
  have hS:=(Zfi (s.extract 1 s.size) l).2
  unfold ZcB at hS
  cases h1:ZfD (s.extract 1 s.size) with
  | none=>simp only[h1] at hS ⊢;exact hS
  | some n=>simp only[h1] at hS ⊢;rw[hS];rfl
 ·exact Zfi s
theorem Zr1:Zcu (bA [48])=false:=by decide
theorem Zs7 (s:ByteArray):Agr (ZdZ s) (ZcB (ZrE s)):=by
 unfold ZdZ ZrE
 split
 ·exact Agr.lift (fun t h=>h) (fun l=>rfl)
 ·split
  ·rename_i hm hd
   by_cases h0:s=bA [48]
   ·rw[if_neg (by rintro⟨_,_,h⟩;exact h h0),if_neg (by rw[h0,Zr1];simp)]
    refine Agr.lift (fun t h=>Zcj (by rw[if_pos h0])) (fun l=>?_)
    exact Zcj (by rw[if_pos h0])
   ·rw[if_pos ⟨hd.1,hd.2,h0⟩]
    simp only[if_neg h0]
    refine Agr.lift (fun t h=>Zcj h) (fun l=>?_)
    have hS:=(Zfi s l).2
    unfold ZcB at hS
    cases h1:ZfD s with
    | none=>simp only[h1] at hS ⊢;exact hS
    | some n=>simp only[h1] at hS ⊢;rw[hS];rfl
  ·rename_i hm hd
   rw[if_neg (by rintro⟨h1,h2,_⟩;exact hd ⟨h1,h2⟩)]
   refine Agr.lift (fun t h=>by dsimp only;split;exact h;rfl) (fun l=>?_)
   cases Zcu s <;> rfl
theorem agr_format:Agr Zh2 (ZbQ Zem fun s=>ZcB (if ZbL s=true then some s else none)):=by
 refine (Agr.bind agr_next (k:=fun s t=>(s,if ZbL s=true then t else bad t)) fun s=>?_:Agr (ZbY ZaP _) _)
 refine Agr.lift (fun t h=>by dsimp only;split;exact h;rfl) (fun l=>?_)
 cases ZbL s <;> rfl
theorem Zs6:Agr Zhf ZrK:=by
 refine (agr_next.bind fun s=>Zk1 s 4 4).bind fun y=>?_
 refine agr_month.bind fun m=>?_
 refine (agr_next.bind fun s=>Zk1 s 1 2).bind fun d=>?_
 refine (agr_next.bind fun s=>Zmq (.inr rfl) s).bind fun c=>?_
 refine Agr.bind (Agr.lift (fun t h=>?_) (fun l=>?_)) fun _=>Agr.ret _
 ·unfold Zrk;dsimp only;split <;> simp_all
 ·unfold Zrk;by_cases h:c.2=1 <;> simp[h] <;> rfl
theorem agr_end:Agr tEnd rEnd:=by
 intro l
 have hU:=Zs6 l
 unfold tEnd rEnd
 by_cases h0:l=[]
 ·subst h0;exact⟨rfl,rfl⟩
 ·simp only[if_neg h0]
  refine⟨hU.1,?_⟩
  revert hU
  cases ZrK l with
  | none=>exact fun hU=>hU.2
  | some p=>intro hU;have h2:=hU.2;simp only at h2 ⊢;rw[h2]
theorem agr_era:Agr tEra rEra:=by
 refine agr_shift.bind fun sh=>?_
 refine (agr_next.bind fun s=>Zs7 s).bind fun r=>?_
 refine agr_format.bind fun f=>?_
 exact agr_end.bind fun u=>Agr.ret _
end Go.Proofs.YtlekejpogddndaaGreatDoor
end
section
namespace Go.Proofs.YtlekejpogddndaaGreatDoor
open Go.Ab
def refN (n:Int):Bool:=letB n||digB n||decide (n=95)||decide (n=45)||decide (n=47)||decide (n=43)
theorem Zr2 (c:UInt8):ZlV c.toNat=refN c.toNat:=by
 have hc:((c.toNat:Int).toNat.toUInt8)=c:=by simp
 unfold ZlV refN
 rw[hc,←Lib.contains_iff_indexByte]
 have e : ∀ x:UInt8,decide ((c.toNat:Int)=(x.toNat:Int))=(c==x):=by
  intro x
  rw[Bool.eq_iff_iff,decide_eq_true_iff,beq_iff_eq]
  exact⟨fun h=>UInt8.toNat_inj.1 om,fun h=>by rw[h]⟩
 rw[show (95:Int)=((95:UInt8).toNat:Int) from rfl,show (45:Int)=((45:UInt8).toNat:Int) from rfl,show (47:Int)=((47:UInt8).toNat:Int) from rfl,show (43:Int)=((43:UInt8).toNat:Int) from rfl,e,e,e,e]
 simp[List.contains_cons,Bool.or_assoc] <;> rfl
def fmtL:Nat→Bool→Bs→Bool
 | m,_,[]=>decide (m≤1)
 | m,b,c::l=>if c=47 then !b&&!l.isEmpty&&fmtL (m+1) false l else if c=37 then decide (l.head?=some 115)&&fmtL (m+1) false l else Zbj c.toNat&&fmtL m false l
abbrev plL (l:Bs):Bool:=allB Zbj (bA l)
theorem Zna:plL []=true:=rfl
theorem Zgc (c:UInt8) (l:Bs):plL (c::l)=(Zbj c.toNat&&plL l):=by simp[plL,allB,bA]
theorem pl47:Zbj (47:UInt8).toNat=false:=by decide
theorem pl37:Zbj (37:UInt8).toNat=false:=by decide
theorem pl115:Zbj (115:UInt8).toNat=true:=by decide
theorem pl115':Zbj 115=true:=by decide
theorem Znq : ∀ (l:Bs) (m:Nat) (b:Bool),2≤m→fmtL m b l=false
 | [],m,b,h=>by unfold fmtL;simp;omega
 | c::l,m,b,h=>by
  unfold fmtL
  rw[Znq l (m+1) false om,Znq l m false h]
  simp
theorem ZkM : ∀ (l:Bs),fmtL 1 false l=plL l
 | []=>rfl
 | c::l=>by
  unfold fmtL
  rw[Znq l (1+1) false om,ZkM l,Zgc]
  split
  ·rename_i h;subst h;rw[pl47];simp
  ·split
   ·rename_i h;subst h;rw[pl37];simp
   ·rfl
theorem plL_no {c:UInt8}{l:Bs}(h:Zbj c.toNat=false) (hc:c∈l):plL l=false:=by
 cases hp:plL l
 ·rfl
 ·rw[Zk0 hp hc] at h;cases h
def cutP (l:Bs):Bool:=plL (Lib.cut l [37,115]).1&&plL (Lib.cut l [37,115]).2.1
theorem ZnC (l:Bs):cutP l=if 0≤Lib.index l [37,115] then plL (l.take (Lib.index l [37,115]).toNat)&&plL (l.drop ((Lib.index l [37,115]).toNat+2)) else plL l:=by
 unfold cutP Lib.cut
 split <;> simp[Zna]
theorem ZpM {c:UInt8}{l sub:Bs}(h:sub.isPrefixOf (c::l)=false):Lib.index (c::l) sub=if Lib.index l sub = -1 then -1 else Lib.index l sub+1:=by
 rw[Lib.index,h];simp
theorem Zmi {c:UInt8}{l:Bs}(h:[37,115].isPrefixOf (c::l)=false):cutP (c::l)=(Zbj c.toNat&&cutP l):=by
 have hge:=Lib.index_ge l [37,115]
 rw[ZnC,ZnC,ZpM h]
 by_cases e:Lib.index l [37,115] = -1
 ·rw[e];simp[Zgc]
 ·obtain⟨k,hk⟩ : ∃ k:Nat,Lib.index l [37,115]=k:=⟨(Lib.index l [37,115]).toNat,by omega⟩
  rw[hk]
  rw[if_neg (show ¬(k:Int) = -1 by omega),if_pos om,if_pos om]
  rw[show ((k:Int)+1).toNat=k+1 by omega,show ((k:Int)).toNat=k by omega]
  rw[List.take_succ_cons,Zgc,show k+1+2=(k+2)+1 by omega,List.drop_succ_cons,Bool.and_assoc]
theorem Zsv : ∀ (l:Bs) (b:Bool),47 ∉ l→fmtL 0 b l=cutP l
 | [],b,h=>rfl
 | c::l,b,h=>by
  have hc:c≠47:=fun e=>h (by simp[e])
  have hl:47 ∉ l:=fun e=>h (by simp[e])
  unfold fmtL
  rw[if_neg hc]
  by_cases hp:c=37
  ·subst hp
   rw[if_pos rfl]
   cases l with
   | nil=>decide
   | cons d l =>
    by_cases hd:d=115
    ·subst hd
     rw[ZkM,ZnC]
     have e:Lib.index (37::115::l) [37,115]=0:=by unfold Lib.index;simp[List.isPrefixOf]
     rw[e]
     simp[Zna,Zgc,pl115,pl115']
    ·rw[Zmi (by simp[List.isPrefixOf];exact fun e=>hd e.symm),pl37]
     simp[hd]
  ·rw[if_neg hp,Zmi (by simp[List.isPrefixOf];intro e;exact absurd e.symm hp),Zsv l false hl]
theorem Zl8 : ∀ (l:Bs) (b:Bool),47∈l → ∃ k:Nat,Lib.index l [47]=k∧fmtL 0 b l=(!(b&&decide (k=0))&&!(l.drop (k+1)).isEmpty&&plL (l.take k)&&plL (l.drop (k+1)))
 | [],b,h=>by cases h
 | c::l,b,h=>by
  by_cases hc:c=47
  ·subst hc
   refine⟨0,by unfold Lib.index;simp[List.isPrefixOf],?_⟩
   unfold fmtL
   rw[if_pos rfl,ZkM]
   simp[Zna]
  ·have hl:47∈l:=by
    rcases List.mem_cons.1 h with e | e
    ·exact absurd e.symm hc
    ·exact e
   obtain⟨k,hk,hf⟩:=Zl8 l false hl
   refine⟨k+1,?_,?_⟩
   ·unfold Lib.index
    rw[hk]
    rw[if_neg (by simp[List.isPrefixOf];exact fun e=>hc e.symm),if_neg (by simp)]
    push_cast;rfl
   ·unfold fmtL
    rw[if_neg hc,List.take_succ_cons,List.drop_succ_cons,Zgc]
    by_cases hp:c=37
    ·subst hp
     rw[if_pos rfl,ZkM,plL_no pl47 hl,pl37]
     simp
    ·rw[if_neg hp,hf]
     simp only[Bool.false_and,Bool.not_false,Bool.true_and]
     cases Zbj c.toNat <;> simp
theorem Zjz (l:Bs):(!l.isEmpty)=decide (bA l≠⟨#[]⟩):=by
 cases l with
 | nil=>rfl
 | cons c l =>
  have:bA (c::l)≠⟨#[]⟩:=fun e=>by
   have:=congrArg ByteArray.size e
   rw[Zdd] at this;cases this
  simp[this]
theorem Znp (s:ByteArray):ZbL s=(decide (s.size≠0)&&decide (s.size≤24)&&fmtL 0 true (aB s)):=by
 unfold ZbL
 by_cases hs:s.size=0∨24<s.size
 ·rw[if_pos hs]
  rcases hs with h | h
  ·simp[h]
  ·simp[show ¬s.size≤24 by omega]
 ·rw[if_neg hs]
  have h1:s.size≠0:=fun e=>hs (.inl e)
  have h2:s.size≤24:=by omega
  simp only[h1,h2,ne_eq,not_false_eq_true,decide_true,Bool.true_and]
  by_cases hm:(47:UInt8)∈aB s
  ·obtain⟨k,hk,hf⟩:=Zl8 (aB s) true hm
   have hcut:cutL s [47]=((aB s).take k,(aB s).drop (k+1),true):=by
    unfold cutL Lib.cut
    rw[hk,if_pos om]
    simp
   rw[hcut,hf,if_pos rfl]
   simp only
   rw[Zjz]
   have e:decide (bA ((aB s).take k)≠⟨#[]⟩)=!(true&&decide (k=0)):=by
    rw[←Zjz]
    cases k with
    | zero=>rfl
    | succ k =>
     have:0<(aB s).length:=by rw[Zec];omega
     cases hq:aB s with
     | nil=>rw[hq] at this;cases this
     | cons c l=>simp
   rw[e]
  ·have hi:Lib.index (aB s) [47] = -1:=by
    have hge:=Lib.index_ge (aB s) [47]
    by_cases e:Lib.index (aB s) [47] = -1
    ·exact e
    ·obtain⟨k,hk⟩ : ∃ k:Nat,Lib.index (aB s) [47]=k:=⟨(Lib.index (aB s) [47]).toNat,by omega⟩
     obtain⟨_,hk1,hk2⟩:=Zgh hk
     exact absurd (List.mem_of_getElem? hk2) hm
   have hcut:(cutL s [47]).2.2=false:=by
    unfold cutL Lib.cut
    rw[hi];rfl
   rw[if_neg (by rw[hcut];simp),Zsv _ _ hm]
   rfl
end Go.Proofs.YtlekejpogddndaaGreatDoor
end
section
namespace Go.Proofs.YtlekejpogddndaaGreatDoor
open Go.Ab Go.RowKit Civ
def c190:AC:=(Sr [Mb 2 false] (Sr [Mv 3 0,Oo 4 (.cvi .i64 (.tmp 3)),Cl 5 73 [(.tmp 4),(Ci 97),(Ci 122)],Mv 6 5,Of 7 6 (mt 0),Of 8 6 (.cvi .i64 (.tmp 7)),Of 9 6 (.call (.func 73) [(.tmp 8),(Ci 65),(Ci 90)]),Oo 10 (.pick (.tmp 6) (.const (.bool true)) (.tmp 9)),Mv 2 10] .ret))
theorem k190:ZaA Tryz.prog 190=some ⟨c190,[(.tmp 2)],11⟩:=by kernel_rfl
def c191:AC:=(Sr [Mb 2 false] (Sr [Mv 3 0,Oo 4 (.cvi .i64 (.tmp 3)),Cl 5 73 [(.tmp 4),(Ci 48),(Ci 57)],Mv 2 5] .ret))
theorem k191:ZaA Tryz.prog 191=some ⟨c191,[(.tmp 2)],6⟩:=by kernel_rfl
def c115:AC:=(Sr [Mb 2 false] (.seq (Sr [Mv 5 0,Oo 6 (.bin .eql (.tmp 5) (.const (.string ⟨#[]⟩))),Mv 7 6,Of 8 7 (mt 0),Of 9 7 (.len true (.tmp 8)),Of 10 7 (.bin .gtr (.tmp 9) (Ci 24)),Oo 11 (.pick (.tmp 7) (.const (.bool true)) (.tmp 10)),Mv 12 11,Of 13 12 (mt 0),Of 14 12 (.ix (.tmp 13) (Ci 0)),Of 15 12 (.call (.func 190) [(.tmp 14)]),Of 16 12 (.un .not (.tmp 15)),Oo 17 (.pick (.tmp 12) (.const (.bool true)) (.tmp 16))] (Cd 17 (Sr [Mb 2 false] .ret) .skip)) (.seq (Sr [Mc 3 0] (.block 0 (.loop (.seq (Sr [Mv 18 3,Mv 19 0,Oo 20 (.len true (.tmp 19)),Bn 21 .lss 18 20] (Cd 21 .skip (.exit 0))) (.seq (.block 1 (Sr [Mv 24 0,Mv 25 3,Oo 26 (.ix (.tmp 24) (.tmp 25)),Mv 4 26] (Sr [Mv 27 4,Cl 28 190 [(.tmp 27)],Oo 29 (.un .not (.tmp 28)),Mv 30 29,Ot 31 30 (mt 4),Ot 32 30 (.call (.func 191) [(.tmp 31)]),Ot 33 30 (.un .not (.tmp 32)),Oo 34 (.pick (.tmp 30) (.tmp 33) (.const (.bool false))),Mv 35 34,Ot 36 35 (mt 4),Ot 37 35 (.bin .neq (.tmp 36) (.const (.int .u8 95))),Oo 38 (.pick (.tmp 35) (.tmp 37) (.const (.bool false))),Mv 39 38,Ot 40 39 (mt 4),Ot 41 39 (.bin .neq (.tmp 40) (.const (.int .u8 45))),Oo 42 (.pick (.tmp 39) (.tmp 41) (.const (.bool false))),Mv 43 42,Ot 44 43 (mt 4),Ot 45 43 (.bin .neq (.tmp 44) (.const (.int .u8 47))),Oo 46 (.pick (.tmp 43) (.tmp 45) (.const (.bool false))),Mv 47 46,Ot 48 47 (mt 4),Ot 49 47 (.bin .neq (.tmp 48) (.const (.int .u8 43))),Oo 50 (.pick (.tmp 47) (.tmp 49) (.const (.bool false)))] (Cd 50 (Sr [Mb 2 false] .ret) .skip)))) (.reg [Mv 22 3,Bc 23 .add 22 1,Mv 3 23])))))) (Sr [Mb 2 true] .ret))))
theorem k115:ZaA Tryz.prog 115=some ⟨c115,[(.tmp 2)],51⟩:=by kernel_rfl
def c224:AC:=(Sr [Mb 2 false] (.seq (Sr [Mc 3 0] (.block 0 (.loop (.seq (Sr [Mv 4 3,Mv 5 0,Oo 6 (.len true (.tmp 5)),Bn 7 .lss 4 6] (Cd 7 .skip (.exit 0))) (.seq (.block 1 (Sr [Mv 10 0,Mv 11 3,Oo 12 (.ix (.tmp 10) (.tmp 11)),Cl 13 190 [(.tmp 12)],Oo 14 (.un .not (.tmp 13))] (Cd 14 (Sr [Mb 2 false] .ret) .skip))) (.reg [Mv 8 3,Bc 9 .add 8 1,Mv 3 9])))))) (Sr [Mv 15 0,Oo 16 (.len true (.tmp 15)),Bc 17 .leq 16 24,Mv 2 17] .ret)))
theorem k224:ZaA Tryz.prog 224=some ⟨c224,[(.tmp 2)],18⟩:=by kernel_rfl
def c148:AC:=(Sr [Mb 2 false] (.seq (Sr [Mc 3 0] (.block 0 (.loop (.seq (Sr [Mv 4 3,Mv 5 0,Oo 6 (.len true (.tmp 5)),Bn 7 .lss 4 6] (Cd 7 .skip (.exit 0))) (.seq (.block 1 (Sr [Mv 10 0,Mv 11 3,Oo 12 (.ix (.tmp 10) (.tmp 11)),Cl 13 190 [(.tmp 12)],Oo 14 (.un .not (.tmp 13)),Mv 15 14,Ot 16 15 (mt 0),Ot 17 15 (mt 3),Ot 18 15 (.ix (.tmp 16) (.tmp 17)),Ot 19 15 (.call (.func 191) [(.tmp 18)]),Ot 20 15 (.un .not (.tmp 19)),Oo 21 (.pick (.tmp 15) (.tmp 20) (.const (.bool false))),Mv 22 21,Ot 23 22 (mt 0),Ot 24 22 (mt 3),Ot 25 22 (.ix (.tmp 23) (.tmp 24)),Ot 26 22 (.bin .neq (.tmp 25) (.const (.int .u8 43))),Oo 27 (.pick (.tmp 22) (.tmp 26) (.const (.bool false))),Mv 28 27,Ot 29 28 (mt 0),Ot 30 28 (mt 3),Ot 31 28 (.ix (.tmp 29) (.tmp 30)),Ot 32 28 (.bin .neq (.tmp 31) (.const (.int .u8 45))),Oo 33 (.pick (.tmp 28) (.tmp 32) (.const (.bool false)))] (Cd 33 (Sr [Mb 2 false] .ret) .skip))) (.reg [Mv 8 3,Bc 9 .add 8 1,Mv 3 9])))))) (Sr [Mb 2 true] .ret)))
theorem k148:ZaA Tryz.prog 148=some ⟨c148,[(.tmp 2)],34⟩:=by kernel_rfl
def c225:AC:=(Sr [Mb 2 false] (Sr [Mc 3 0] (.seq (Sr [Mc 4 0] (.block 0 (.loop (.seq (Sr [Mv 5 4,Mv 6 0,Oo 7 (.len true (.tmp 6)),Bn 8 .lss 5 7] (Cd 8 .skip (.exit 0))) (.seq (.block 1 (.block 2 (Sr [Mv 12 0,Mv 13 4,Oo 14 (.ix (.tmp 12) (.tmp 13)),Oo 15 (.bin .eql (.tmp 14) (.const (.int .u8 47))),Mv 11 15] (Cd 11 (Sr [Mv 16 3,Bc 17 .add 16 1,Mv 3 17] (Sr [Mv 18 4,Bc 19 .eql 18 0,Mv 20 19,Of 21 20 (mt 4),Of 22 20 (mt 0),Of 23 20 (.len true (.tmp 22)),Of 24 20 (.bin .sub (.tmp 23) (Ci 1)),Of 25 20 (.bin .eql (.tmp 21) (.tmp 24)),Oo 26 (.pick (.tmp 20) (.const (.bool true)) (.tmp 25))] (Cd 26 (Sr [Mb 2 false] .ret) .skip))) (Sr [Mv 28 0,Mv 29 4,Oo 30 (.ix (.tmp 28) (.tmp 29)),Oo 31 (.bin .eql (.tmp 30) (.const (.int .u8 37))),Mv 27 31] (Cd 27 (Sr [Mv 32 3,Bc 33 .add 32 1,Mv 3 33] (Sr [Mv 34 4,Mv 35 0,Oo 36 (.len true (.tmp 35)),Bc 37 .sub 36 1,Bn 38 .eql 34 37,Mv 39 38,Of 40 39 (mt 0),Of 41 39 (mt 4),Of 42 39 (.bin .add (.tmp 41) (Ci 1)),Of 43 39 (.ix (.tmp 40) (.tmp 42)),Of 44 39 (.bin .neq (.tmp 43) (.const (.int .u8 115))),Oo 45 (.pick (.tmp 39) (.const (.bool true)) (.tmp 44))] (Cd 45 (Sr [Mb 2 false] .ret) .skip))) (Sr [Mv 47 0,Mv 48 4,Mv 49 4,Bc 50 .add 49 1,Oo 51 (.sls (.tmp 47) (some (.tmp 48)) (some (.tmp 50))),Cl 52 148 [(.tmp 51)],Oo 53 (.un .not (.tmp 52)),Mv 46 53] (Cd 46 (Sr [Mb 2 false] .ret) .skip)))))))) (.reg [Mv 9 4,Bc 10 .add 9 1,Mv 4 10])))))) (Sr [Mv 54 0,Oo 55 (.bin .neq (.tmp 54) (.const (.string ⟨#[]⟩))),Mv 56 55,Ot 57 56 (mt 0),Ot 58 56 (.len true (.tmp 57)),Ot 59 56 (.bin .leq (.tmp 58) (Ci 24)),Oo 60 (.pick (.tmp 56) (.tmp 59) (.const (.bool false))),Mv 61 60,Ot 62 61 (mt 3),Ot 63 61 (.bin .leq (.tmp 62) (Ci 1)),Oo 64 (.pick (.tmp 61) (.tmp 63) (.const (.bool false))),Mv 2 64] .ret))))
theorem k225:ZaA Tryz.prog 225=some ⟨c225,[(.tmp 2)],65⟩:=by kernel_rfl
theorem Zek {n:Int}{h:AH}(h0:0≤n) (h1:n≤255):Ac 190 [uv n] h (bv (letB n)):=by
 refine tI' k190 fun N hn hlt hlA hbd=>?_
 simp only[tb'] at hbd ⊢
 refine wr'<|mw<|sn'<|wr'<|mw<|?_
 refine V' (ZhP lk om om) pt ?_
 refine Zad mp (ZaV) pt<|mw<|?_
 refine ZaF (t:=6) gt pt pt (fun hg6=>?_) (fun hg6=>?_)
 ·refine s_no gt pt<|s_no gt pt<|s_no gt pt<|Vw (Zak lk lkb)<|mw<|sn'<|Zaa<|Zae rz<|rT'<|?_
  refine bvx ?_;unfold wi at *;unfold letB;rw[Bool.eq_iff_iff];simp at *;omega
 refine s_do gt<|mw<|s_do gt<|?_
 refine V' (ZhP lk om om) pt ?_
 refine s_do gt<|Zad mp (ZaV) pt<|Vw (Zaj lk lk)<|mw<|sn'<|Zaa<|Zae rz<|rT'<|?_
 refine bvx ?_;unfold wi at *;unfold letB;rw[Bool.eq_iff_iff];simp at *;omega
theorem Zd7 {n:Int}{h:AH}(h0:0≤n) (h1:n≤255):Ac 191 [uv n] h (bv (digB n)):=by
 refine tI' k191 fun N hn hlt hlA hbd=>?_
 simp only[tb'] at hbd ⊢
 refine wr'<|mw<|sn'<|wr'<|mw<|?_
 refine V' (ZhP lk om om) pt ?_
 refine Zad mp (ZaV) pt<|mw<|sn'<|Zaa<|Zae rz<|rT'<|?_
 refine bvx ?_;unfold wi digB;rw[Bool.eq_iff_iff];simp
theorem Ze1 (s:ByteArray) (k:Nat):(0:Int)≤((ZaH s k).toNat:Int)∧((ZaH s k).toNat:Int)≤255:=by
 have:=(ZaH s k).toNat_lt
 omega
theorem Zm3 {s:ByteArray}{h:AH}(hs:s.size≤maxLen):Ac 148 [sv s] h (bv (allB Zbj s)):=by
 have hm:s.size≤9223372036854775807:=by simpa [maxLen] using hs
 refine tI' k148 fun N hn hlt hlA hbd=>?_
 simp only[tb'] at hbd ⊢
 refine wr'<|mw<|sn'<|Zam<|wr'<|mw<|sn'<|Zap<|?_
 refine w_lp (ι:=Nat) (fun (k:Nat)=>[(3,iv (k:Int)),(2,.any)]++rn' 4 30) (fun (k:Nat)=>[]) (fun (k:Nat)=>k≤s.size ∧ ∀ j (hj:j<s.size),j<k→Zbj s[j].toNat=true) (fun (k:Nat)=>s.size-k) (0) (by exact⟨by omega,fun j hj h0=>absurd h0 om⟩) ?_
 rintro k hi1
 try simp only[sm',Nat.reduceAdd]
 obtain⟨hk1,hk2⟩:=hi1
 refine Zam<|wr'<|mw<|mw<|Vw (Zbf lk)<|Vw (Zbc lk lk)<|sn'<|?_
 refine cd' lk (fun hc1=>?_) (fun hc1=>?_)
 ·have hk:k<s.size:=by omega
  have hb:=Ze1 s k
  have hbk:ZaH s k=s[k]:=ZcV hk
  refine Zaf<|Zag<|Zam<|Zap<|wr'<|mw<|mw<|?_
  refine V' (v_ix lk lk om om) pt ?_
  refine Zad mp (Zek hb.1 hb.2) pt<|Vw (Zax lk)<|mw<|?_
  refine ZaF (t:=15) gt pt pt (fun hg15=>?_) (fun hg15=>?_)
  ·refine s_do gt<|mw<|s_do gt<|mw<|s_do gt<|?_
   refine V' (v_ix lk lk om om) pt ?_
   refine s_do gt<|Zad mp (Zd7 hb.1 hb.2) pt<|s_do gt<|Vw (Zax lk)<|Vw (Zak lk lk)<|mw<|?_
   refine ZaF (t:=22) gt pt pt (fun hg22=>?_) (fun hg22=>?_)
   ·refine s_do gt<|mw<|s_do gt<|mw<|s_do gt<|?_
    refine V' (v_ix lk lk om om) pt ?_
    refine s_do gt<|Vw (ZaX lk lki)<|Vw (Zak lk lk)<|mw<|?_
    refine sp' (t:=28) gt pt pt (fun hg28=>?_) (fun hg28=>?_)
    ·refine s_do gt<|mw<|s_do gt<|mw<|s_do gt<|?_
     refine V' (v_ix lk lk om om) pt ?_
     refine s_do gt<|Vw (ZaX lk lki)<|Vw (Zak lk lk)<|sn'<|?_
     refine cd' lk (fun hc2=>?_) (fun hc2=>?_)
     ·refine wr'<|mw<|sn'<|Zaa<|Zaq<|Zah<|Zah<|Zaq<|Zah<|Zae rz<|rT'<|?_
      refine bvx ?_;rw[ZiG (k:=k) hk (by rw[←hbk];unfold Zbj;simp at *;simp_all)]
     refine Zaf<|Zaz<|Zag<|Zav<|mw<|?_
     refine V' (Zay lk lki om om) pt ?_
     refine mw<|Zar<|ZaB<|?_
     refine lT' (k+1) (by (try dsimp only);refine⟨by omega,fun j hj h0=>?_⟩;rcases Nat.lt_or_ge j k with e | e;exact hk2 j hj e;obtain rfl:j=k:=om;rw[←hbk];unfold Zbj;simp_all)
    refine s_no gt pt<|s_no gt pt<|s_no gt pt<|s_no gt pt<|Vw (Zaj lk lkb)<|sn'<|ZaO lk<|Zaf<|Zaz<|Zag<|Zav<|mw<|?_
    refine V' (Zay lk lki om om) pt ?_
    refine mw<|Zar<|ZaB<|?_
    refine lT' (k+1) (by (try dsimp only);refine⟨by omega,fun j hj h0=>?_⟩;rcases Nat.lt_or_ge j k with e | e;exact hk2 j hj e;obtain rfl:j=k:=om;rw[←hbk];unfold Zbj;simp_all)
   refine s_no gt pt<|s_no gt pt<|s_no gt pt<|s_no gt pt<|Vw (Zaj lk lkb)<|mw<|s_no gt pt<|s_no gt pt<|s_no gt pt<|s_no gt pt<|Vw (Zaj lk lkb)<|sn'<|ZaO lk<|?_
   refine Zaf<|Zaz<|Zag<|Zav<|mw<|?_
   refine V' (Zay lk lki om om) pt ?_
   refine mw<|Zar<|ZaB<|?_
   refine lT' (k+1) (by (try dsimp only);refine⟨by omega,fun j hj h0=>?_⟩;rcases Nat.lt_or_ge j k with e | e;exact hk2 j hj e;obtain rfl:j=k:=om;rw[←hbk];unfold Zbj;simp_all)
  refine s_no gt pt<|s_no gt pt<|s_no gt pt<|s_no gt pt<|s_no gt pt<|Vw (Zaj lk lkb)<|mw<|s_no gt pt<|s_no gt pt<|s_no gt pt<|s_no gt pt<|Vw (Zaj lk lkb)<|mw<|s_no gt pt<|?_
  refine s_no gt pt<|s_no gt pt<|s_no gt pt<|Vw (Zaj lk lkb)<|sn'<|ZaO lk<|Zaf<|Zaz<|Zag<|Zav<|mw<|?_
  refine V' (Zay lk lki om om) pt ?_
  refine mw<|Zar<|ZaB<|?_
  refine lT' (k+1) (by (try dsimp only);refine⟨by omega,fun j hj h0=>?_⟩;rcases Nat.lt_or_ge j k with e | e;exact hk2 j hj e;obtain rfl:j=k:=om;rw[←hbk];unfold Zbj;simp_all)
 refine ZaM<|ZaD<|ZaD<|Zbb<|Zag<|wr'<|mw<|sn'<|Zaa<|Zae rz<|rT'<|?_
 refine bvx ?_;rw[Zgt fun j hj=>hk2 j hj om]
theorem Zhi {s:ByteArray}{h:AH}(hs:s.size≤maxLen):Ac 224 [sv s] h (bv (Zcm s)):=by
 have hm:s.size≤9223372036854775807:=by simpa [maxLen] using hs
 refine tI' k224 fun N hn hlt hlA hbd=>?_
 simp only[tb'] at hbd ⊢
 refine wr'<|mw<|sn'<|Zam<|wr'<|mw<|sn'<|Zap<|?_
 refine w_lp (ι:=Nat) (fun (k:Nat)=>[(3,iv (k:Int)),(2,.any)]++rn' 4 11) (fun (k:Nat)=>[]) (fun (k:Nat)=>k≤s.size ∧ ∀ j (hj:j<s.size),j<k→letB s[j].toNat=true) (fun (k:Nat)=>s.size-k) (0) (by exact⟨by omega,fun j hj h0=>absurd h0 om⟩) ?_
 rintro k hi1
 try simp only[sm',Nat.reduceAdd]
 obtain⟨hk1,hk2⟩:=hi1
 refine Zam<|wr'<|mw<|mw<|Vw (Zbf lk)<|Vw (Zbc lk lk)<|sn'<|?_
 refine cd' lk (fun hc1=>?_) (fun hc1=>?_)
 ·have hk:k<s.size:=by omega
  have hb:=Ze1 s k
  have hbk:ZaH s k=s[k]:=ZcV hk
  refine Zaf<|Zag<|Zam<|Zap<|wr'<|mw<|mw<|?_
  refine V' (v_ix lk lk om om) pt ?_
  refine Zad mp (Zek hb.1 hb.2) pt<|Vw (Zax lk)<|sn'<|?_
  refine Zaw lk (fun hc2=>?_) (fun hc2=>?_)
  ·refine wr'<|mw<|sn'<|Zaa<|Zaq<|Zah<|Zah<|Zaq<|Zah<|Zae rz<|rT'<|?_
   refine bvx ?_;unfold Zcm;rw[ZiG (k:=k) hk (by rw[←hbk];simp_all)];simp
  refine Zaf<|Zaz<|Zag<|Zav<|mw<|?_
  refine V' (Zay lk lki om om) pt ?_
  refine mw<|Zar<|ZaB<|?_
  refine lT' (k+1) (by (try dsimp only);refine⟨by omega,fun j hj h0=>?_⟩;rcases Nat.lt_or_ge j k with e | e;exact hk2 j hj e;obtain rfl:j=k:=om;rw[←hbk];simp_all)
 refine ZaM<|ZaD<|ZaD<|Zbb<|Zag<|wr'<|mw<|Vw (Zbf lk)<|Vw (Zdg lk lki)<|mw<|sn'<|Zaa<|?_
 refine Zae rz<|rT'<|?_
 refine bvx ?_;unfold Zcm;rw[Zgt fun j hj=>hk2 j hj om];rw[Bool.eq_iff_iff];simp;omega
theorem Zc4 {s:ByteArray}{h:AH}(hs:s.size≤maxLen):Ac 115 [sv s] h (bv (Zcu s)):=by
 have hm:s.size≤9223372036854775807:=by simpa [maxLen] using hs
 have hem:=Zeu (f:=s)
 have hb0:=Ze1 s 0
 refine tI' k115 fun N hn hlt hlA hbd=>?_
 simp only[tb'] at hbd ⊢
 refine wr'<|mw<|sn'<|Zam<|wr'<|mw<|Vw (Zcp lk lks)<|mw<|?_
 refine sp' (t:=7) gt pt pt (fun hg7=>?_) (fun hg7=>?_)
 ·refine s_no gt pt<|s_no gt pt<|s_no gt pt<|Vw (Zak lk lkb)<|mw<|s_no gt pt<|s_no gt pt<|s_no gt pt<|s_no gt pt<|Vw (Zak lk lkb)<|sn'<|ZaG lk<|Zam<|?_
  refine Zav<|mw<|sn'<|Zaa<|Zah<|Zae rz<|rT'<|?_
  refine bvx ?_;unfold Zcu;simp[hem.1 hg7]
 have hne:s.size≠0:=fun e=>hg7 (hem.2 e)
 refine s_do gt<|mw<|s_do gt<|Vw (Zbf lk)<|s_do gt<|Vw (ZbC lk lki)<|Vw (Zaj lk lk)<|mw<|?_
 refine sp' (t:=12) gt pt pt (fun hg12=>?_) (fun hg12=>?_)
 ·refine s_no gt pt<|s_no gt pt<|s_no gt pt<|s_no gt pt<|Vw (Zak lk lkb)<|sn'<|ZaG lk<|wr'<|mw<|sn'<|Zaa<|?_
  refine Zah<|Zae rz<|rT'<|?_
  refine bvx ?_;unfold Zcu;simp;omega
 refine s_do gt<|mw<|s_do gt<|?_
 refine V' (v_ix lk lki om om) pt ?_
 refine s_do gt<|Zad mp (Zek hb0.1 hb0.2) pt<|s_do gt<|Vw (Zax lk)<|Vw (Zaj lk lk)<|sn'<|?_
 refine Zaw lk (fun hc1=>?_) (fun hc1=>?_)
 ·refine wr'<|mw<|sn'<|Zaa<|Zah<|Zae rz<|rT'<|?_
  refine bvx ?_;unfold Zcu;simp_all
 have hz:s.size≤24:=by omega
 have hL:letB (ZaH s 0).toNat=true:=by simpa using hc1
 refine Zaf<|Zag<|Zam<|wr'<|mw<|sn'<|Zap<|?_
 refine w_lp (ι:=Nat) (fun (k:Nat)=>[(3,iv (k:Int)),(2,.any),(4,.any)]++rn' 18 33) (fun (k:Nat)=>[]) (fun (k:Nat)=>k≤s.size ∧ ∀ j (hj:j<s.size),j<k→ZlV s[j].toNat=true) (fun (k:Nat)=>s.size-k) (0) (by exact⟨by omega,fun j hj h0=>absurd h0 om⟩) ?_
 rintro k hi1
 try simp only[sm',Nat.reduceAdd]
 obtain⟨hk1,hk2⟩:=hi1
 refine Zam<|wr'<|mw<|mw<|Vw (Zbf lk)<|Vw (Zbc lk lk)<|sn'<|?_
 refine cd' lk (fun hc2=>?_) (fun hc2=>?_)
 ·have hk:k<s.size:=by omega
  have hb:=Ze1 s k
  have hbk:ZaH s k=s[k]:=ZcV hk
  have hR:=Zr2 (ZaH s k)
  refine Zaf<|Zag<|Zam<|Zap<|wr'<|mw<|mw<|?_
  refine V' (v_ix lk lk om om) pt ?_
  refine mw<|sn'<|wr'<|mw<|Zad mp (Zek hb.1 hb.2) pt<|Vw (Zax lk)<|mw<|?_
  refine ZaF (t:=30) gt pt pt (fun hg30=>?_) (fun hg30=>?_)
  ·refine s_do gt<|mw<|s_do gt<|Zad mp (Zd7 hb.1 hb.2) pt<|s_do gt<|Vw (Zax lk)<|Vw (Zak lk lk)<|mw<|?_
   refine ZaF (t:=35) gt pt pt (fun hg35=>?_) (fun hg35=>?_)
   ·refine s_do gt<|mw<|s_do gt<|Vw (ZaX lk lki)<|Vw (Zak lk lk)<|mw<|?_
    refine sp' (t:=39) gt pt pt (fun hg39=>?_) (fun hg39=>?_)
    ·refine s_do gt<|mw<|s_do gt<|Vw (ZaX lk lki)<|Vw (Zak lk lk)<|mw<|?_
     refine sp' (t:=43) gt pt pt (fun hg43=>?_) (fun hg43=>?_)
     ·refine s_do gt<|mw<|s_do gt<|Vw (ZaX lk lki)<|Vw (Zak lk lk)<|mw<|?_
      refine sp' (t:=47) gt pt pt (fun hg47=>?_) (fun hg47=>?_)
      ·refine s_do gt<|mw<|s_do gt<|Vw (ZaX lk lki)<|Vw (Zak lk lk)<|sn'<|?_
       refine cd' lk (fun hc3=>?_) (fun hc3=>?_)
       ·refine wr'<|mw<|sn'<|Zaa<|Zaq<|Zah<|Zah<|Zaq<|Zah<|Zae rz<|rT'<|?_
        refine bvx ?_;unfold Zcu;rw[ZiG (k:=k) hk (by rw[←hbk,hR];unfold refN;simp_all)];simp
       refine Zaf<|Zaz<|Zag<|Zav<|mw<|?_
       refine V' (Zay lk lki om om) pt ?_
       refine mw<|Zar<|ZaB<|?_
       refine lT' (k+1) (by (try dsimp only);refine⟨by omega,fun j hj h0=>?_⟩;rcases Nat.lt_or_ge j k with e | e;exact hk2 j hj e;obtain rfl:j=k:=om;rw[←hbk,hR];unfold refN;simp_all)
      refine s_no gt pt<|s_no gt pt<|Vw (Zaj lk lkb)<|sn'<|ZaO lk<|Zaf<|Zaz<|Zag<|Zav<|mw<|?_
      refine V' (Zay lk lki om om) pt ?_
      refine mw<|Zar<|ZaB<|?_
      refine lT' (k+1) (by (try dsimp only);refine⟨by omega,fun j hj h0=>?_⟩;rcases Nat.lt_or_ge j k with e | e;exact hk2 j hj e;obtain rfl:j=k:=om;rw[←hbk,hR];unfold refN;simp_all)
     refine s_no gt pt<|s_no gt pt<|Vw (Zaj lk lkb)<|mw<|s_no gt pt<|s_no gt pt<|Vw (Zaj lk lkb)<|sn'<|ZaO lk<|Zaf<|Zaz<|Zag<|Zav<|?_
     refine mv' lk pt ?_
     refine V' (Zay lk lki om om) pt ?_
     refine mw<|Zar<|ZaB<|?_
     refine lT' (k+1) (by (try dsimp only);refine⟨by omega,fun j hj h0=>?_⟩;rcases Nat.lt_or_ge j k with e | e;exact hk2 j hj e;obtain rfl:j=k:=om;rw[←hbk,hR];unfold refN;simp_all)
    refine s_no gt pt<|s_no gt pt<|Vw (Zaj lk lkb)<|mw<|s_no gt pt<|s_no gt pt<|Vw (Zaj lk lkb)<|mw<|s_no gt pt<|s_no gt pt<|Vw (Zaj lk lkb)<|sn'<|ZaO lk<|?_
    refine Zaf<|Zaz<|Zag<|Zav<|mw<|?_
    refine V' (Zay lk lki om om) pt ?_
    refine mw<|Zar<|ZaB<|?_
    refine lT' (k+1) (by (try dsimp only);refine⟨by omega,fun j hj h0=>?_⟩;rcases Nat.lt_or_ge j k with e | e;exact hk2 j hj e;obtain rfl:j=k:=om;rw[←hbk,hR];unfold refN;simp_all)
   refine s_no gt pt<|s_no gt pt<|Vw (Zaj lk lkb)<|mw<|s_no gt pt<|s_no gt pt<|Vw (Zaj lk lkb)<|mw<|s_no gt pt<|s_no gt pt<|Vw (Zaj lk lkb)<|mw<|s_no gt pt<|s_no gt pt<|?_
   refine Vw (Zaj lk lkb)<|sn'<|ZaO lk<|Zaf<|Zaz<|Zag<|Zav<|mw<|?_
   refine V' (Zay lk lki om om) pt ?_
   refine mw<|Zar<|ZaB<|?_
   refine lT' (k+1) (by (try dsimp only);refine⟨by omega,fun j hj h0=>?_⟩;rcases Nat.lt_or_ge j k with e | e;exact hk2 j hj e;obtain rfl:j=k:=om;rw[←hbk,hR];unfold refN;simp_all)
  refine s_no gt pt<|s_no gt pt<|s_no gt pt<|Vw (Zaj lk lkb)<|mw<|s_no gt pt<|s_no gt pt<|Vw (Zaj lk lkb)<|mw<|s_no gt pt<|s_no gt pt<|Vw (Zaj lk lkb)<|mw<|s_no gt pt<|?_
  refine s_no gt pt<|Vw (Zaj lk lkb)<|mw<|s_no gt pt<|s_no gt pt<|Vw (Zaj lk lkb)<|sn'<|ZaO lk<|Zaf<|Zaz<|Zag<|Zav<|mw<|?_
  refine V' (Zay lk lki om om) pt ?_
  refine mw<|Zar<|ZaB<|?_
  refine lT' (k+1) (by (try dsimp only);refine⟨by omega,fun j hj h0=>?_⟩;rcases Nat.lt_or_ge j k with e | e;exact hk2 j hj e;obtain rfl:j=k:=om;rw[←hbk,hR];unfold refN;simp_all)
 refine ZaM<|ZaD<|ZaD<|Zbb<|Zag<|wr'<|mw<|sn'<|Zaa<|Zae rz<|rT'<|?_
 refine bvx ?_;unfold Zcu;rw[Zgt fun j hj=>hk2 j hj om,hL];simp[hne,hz]
theorem ZfF {s:ByteArray}{h:AH}(hs:s.size≤maxLen):Ac 225 [sv s] h (bv (ZbL s)):=by
 have hm:s.size≤9223372036854775807:=by simpa [maxLen] using hs
 have hem:=Zeu (f:=s)
 have hF:=Znp s
 refine tI' k225 fun N hn hlt hlA hbd=>?_
 simp only[tb'] at hbd ⊢
 refine wr'<|mw<|sn'<|wr'<|mw<|sn'<|Zam<|wr'<|mw<|?_
 refine sn'<|Zap<|?_
 refine w_lp (ι:=Nat×Nat) (fun (x_:Nat×Nat)=>match x_ with | ⟨k,m⟩=>[(3,iv (m:Int)),(4,iv (k:Int)),(2,.any)]++rn' 5 49) (fun (x_:Nat×Nat)=>match x_ with | ⟨k,m⟩=>[]) (fun (x_:Nat×Nat)=>match x_ with | ⟨k,m⟩=>k≤s.size∧m≤k∧fmtL 0 true (aB s)=fmtL m (decide (k=0)) ((aB s).drop k)) (fun (x_:Nat×Nat)=>match x_ with | ⟨k,m⟩=>s.size-k) (⟨0,0⟩) (by exact⟨by omega,by omega,rfl⟩) ?_
 rintro⟨k,m⟩ hi1
 try simp only[sm',Nat.reduceAdd]
 obtain⟨hk1,hk2,hk3⟩:=hi1
 refine Zam<|wr'<|mw<|mw<|Vw (Zbf lk)<|Vw (Zbc lk lk)<|sn'<|?_
 refine cd' lk (fun hc1=>?_) (fun hc1=>?_)
 ·have hk:k<s.size:=by omega
  have hb:=Ze1 s k
  have hA:=Ze3 hk
  rw[hA,fmtL] at hk3
  have hE:((aB s).drop (k+1)).isEmpty=decide ((k:Int)=(s.size:Int)-1):=by
   rw[Bool.eq_iff_iff,List.isEmpty_iff,List.drop_eq_nil_iff,decide_eq_true_iff,Zec];omega
  refine Zaf<|Zag<|Zam<|Zap<|Zap<|wr'<|mw<|mw<|?_
  refine V' (v_ix lk lk om om) pt ?_
  refine Vw (ZaQ lk lki)<|mw<|sn'<|?_
  refine cd' lk (fun hc2=>?_) (fun hc2=>?_)
  ·have hx:ZaH s k=47:=ZiC (n:=47) om hc2
   rw[if_pos hx,hE] at hk3
   refine wr'<|mw<|?_
   refine V' (Zay lk lki om om) pt ?_
   refine mw<|sn'<|wr'<|mw<|Vw (ZaQ lk lki)<|mw<|?_
   refine sp' (t:=20) gt pt pt (fun hg20=>?_) (fun hg20=>?_)
   ·refine s_no gt pt<|s_no gt pt<|s_no gt pt<|s_no gt pt<|s_no gt pt<|Vw (Zak lk lkb)<|sn'<|ZaG lk<|wr'<|mw<|sn'<|?_
    refine Zaa<|Zaq<|Zaq<|Zah<|Zah<|Zaq<|Zah<|Zae rz<|rT'<|?_
    refine bvx ?_;rw[hF,hk3];simp_all
   refine s_do gt<|mw<|s_do gt<|mw<|s_do gt<|Vw (Zbf lk)<|s_do gt<|?_
   refine V' (ZbB lk lki om om) pt ?_
   refine s_do gt<|Vw (ZaQ lk lk)<|Vw (Zaj lk lk)<|sn'<|?_
   refine cd' lk (fun hc3=>?_) (fun hc3=>?_)
   ·refine wr'<|mw<|sn'<|Zaa<|Zaq<|Zaq<|Zah<|Zah<|Zaq<|Zah<|Zae rz<|rT'<|?_
    refine bvx ?_;rw[hF,hk3];simp_all
   have hk3':fmtL 0 true (aB s)=fmtL (m+1) false ((aB s).drop (k+1)):=by rw[hk3];simp_all
   refine Zaf<|Zaz<|Zaz<|Zag<|Zav<|mw<|?_
   refine V' (Zay lk lki om om) pt ?_
   refine mw<|Zar<|ZaB<|?_
   refine lT' (⟨k+1,m+1⟩) (by (try dsimp only);exact⟨by omega,by omega,by rw[hk3'];simp⟩)
  have hx:¬ZaH s k=47:=ZkW (n:=47) om hc2
  rw[if_neg hx] at hk3
  refine wr'<|mw<|mw<|?_
  refine V' (v_ix lk lk om om) pt ?_
  refine Vw (ZaQ lk lki)<|mw<|sn'<|?_
  refine cd' lk (fun hc4=>?_) (fun hc4=>?_)
  ·have hy:ZaH s k=37:=ZiC (n:=37) om hc4
   rw[if_pos hy] at hk3
   refine wr'<|mw<|?_
   refine V' (Zay lk lki om om) pt ?_
   refine mw<|sn'<|wr'<|mw<|mw<|Vw (Zbf lk)<|?_
   refine V' (ZbB lk lki om om) pt ?_
   refine Vw (ZaQ lk lk)<|mw<|?_
   refine sp' (t:=39) gt pt pt (fun hg39=>?_) (fun hg39=>?_)
   ·have hD:(aB s).drop (k+1)=[]:=by rw[List.drop_eq_nil_iff,Zec];omega
    refine s_no gt pt<|s_no gt pt<|s_no gt pt<|s_no gt pt<|s_no gt pt<|Vw (Zak lk lkb)<|sn'<|ZaG lk<|wr'<|mw<|sn'<|?_
    refine Zaa<|Zaq<|Zaq<|Zah<|Zah<|Zaq<|Zah<|Zae rz<|rT'<|?_
    refine bvx ?_;rw[hF,hk3,hD];simp
   have hk':k+1<s.size:=by omega
   have hA':=Ze3 hk'
   refine s_do gt<|mw<|s_do gt<|mw<|s_do gt<|?_
   refine V' (Zay lk lki om om) pt ?_
   refine s_do gt ?_
   refine V' (v_ix lk lk om om) pt ?_
   refine s_do gt<|Vw (ZaX lk lki)<|Vw (Zaj lk lk)<|sn'<|?_
   refine cd' lk (fun hc5=>?_) (fun hc5=>?_)
   ·refine wr'<|mw<|sn'<|Zaa<|Zaq<|Zaq<|Zah<|Zah<|Zaq<|Zah<|Zae rz<|rT'<|?_
    refine bvx ?_;rw[hF,hk3,hA'];have h9:¬ZaH s (k+1)=115:=ZkW (c:=ZaH s (k+1)) (n:=115) om (by simpa using hc5);simp[h9]
   have hk3':fmtL 0 true (aB s)=fmtL (m+1) false ((aB s).drop (k+1)):=by rw[hk3];have:=ZiC (c:=ZaH s (k+1)) (n:=115) om (by simpa using hc5);rw[hA'];simp[this]
   refine Zaf<|Zaz<|Zaz<|Zag<|Zav<|mw<|?_
   refine V' (Zay lk lki om om) pt ?_
   refine mw<|Zar<|ZaB<|?_
   refine lT' (⟨k+1,m+1⟩) (by (try dsimp only);exact⟨by omega,by omega,by rw[hk3'];simp⟩)
  have hy:¬ZaH s k=37:=ZkW (n:=37) om hc4
  rw[if_neg hy] at hk3
  have hone:allB Zbj (s.extract k (k+1))=Zbj (ZaH s k).toNat:=by rw[Zmp,hA,Nat.add_sub_cancel_left];simp[allB,bA]
  refine wr'<|mw<|mw<|mw<|?_
  refine V' (Zay lk lki om om) pt ?_
  refine V' (ZdX lk (oi lk) (oi lk) om om om) pt ?_
  refine Zad mp (Zm3 (by rw[ByteArray.size_extract];unfold maxLen at *;omega)) pt ?_
  refine Vw (Zax lk)<|mw<|sn'<|?_
  refine Zaw lk (fun hc6=>?_) (fun hc6=>?_)
  ·refine wr'<|mw<|sn'<|Zaa<|Zaq<|Zaq<|Zah<|Zah<|Zaq<|Zah<|Zae rz<|rT'<|?_
   refine bvx ?_;rw[hF,hk3,←hone];simp_all
  have hk3':fmtL 0 true (aB s)=fmtL m false ((aB s).drop (k+1)):=by rw[hk3,←hone];simp_all
  refine Zaf<|Zaz<|Zaz<|Zag<|Zav<|mw<|?_
  refine V' (Zay lk lki om om) pt ?_
  refine mw<|Zar<|ZaB<|?_
  refine lT' (⟨k+1,m⟩) (by (try dsimp only);exact⟨by omega,by omega,by rw[hk3'];simp⟩)
 have hk4:fmtL 0 true (aB s)=decide (m≤1):=by rw[hk3,Zmt om,fmtL]
 clear hk3
 refine ZaM<|ZaD<|ZaD<|Zbb<|Zag<|wr'<|mw<|Vw (ZcD lk lks)<|mw<|?_
 refine sp' (t:=56) gt pt pt (fun hg56=>?_) (fun hg56=>?_)
 ·refine s_do gt<|mw<|s_do gt<|Vw (Zbf lk)<|s_do gt<|Vw (Zdg lk lki)<|Vw (Zak lk lk)<|mw<|?_
  refine sp' (t:=61) gt pt pt (fun hg61=>?_) (fun hg61=>?_)
  ·refine s_do gt<|mw<|s_do gt<|Vw (Zdg lk lki)<|Vw (Zak lk lk)<|mw<|sn'<|Zaa<|Zae rz<|rT'<|?_
   refine bvx ?_;rw[hF,hk4];clear hF hk4;by_cases h0:s.size=0 <;> simp_all <;> (try intros) <;> first | omega | (rw[Bool.eq_iff_iff];simp;omega)
  refine s_no gt pt<|s_no gt pt<|Vw (Zaj lk lkb)<|mw<|sn'<|Zaa<|Zae rz<|rT'<|?_
  refine bvx ?_;rw[hF,hk4];clear hF hk4;by_cases h0:s.size=0 <;> simp_all <;> (try intros) <;> first | omega | (rw[Bool.eq_iff_iff];simp;omega)
 refine s_no gt pt<|s_no gt pt<|s_no gt pt<|Vw (Zaj lk lkb)<|mw<|s_no gt pt<|s_no gt pt<|Vw (Zaj lk lkb)<|mw<|sn'<|Zaa<|Zae rz<|rT'<|?_
 refine bvx ?_;rw[hF,hk4];clear hF hk4;by_cases h0:s.size=0 <;> simp_all <;> (try intros) <;> first | omega | (rw[Bool.eq_iff_iff];simp;omega)
end Go.Proofs.YtlekejpogddndaaGreatDoor
end
section
namespace Go.Proofs.YtlekejpogddndaaGreatDoor
open Go.Ab Civ
attribute [local simp] Zb5
section
theorem Zg7 {a0 a1 a2:AV}{l:List AV}:((a0::a1::a2::l).drop 0).take 3=[a0,a1,a2]:=rfl
theorem ZjW {a0 a1 a2 c0 c1 c2:AV}{l:List AV}:setCells (a0::a1::a2::l) 0 [c0,c1,c2]=c0::c1::c2::l:=rfl
theorem Zqq {a0 a1 a2 a3 c0 c1 c2 c3:AV}{l:List AV}:setCells (a0::a1::a2::a3::l) 0 [c0,c1,c2,c3]=c0::c1::c2::c3::l:=rfl
theorem Zmy {τ:Operand→AV}{y0 y1:Operand}{x0_0 x1_0:AV}(h0:Zat (τ y0)=some [x0_0]) (l0:[x0_0].all leaf=true) (h1:Zat (τ y1)=some [x1_0]) (l1:[x1_0].all leaf=true):Zas τ [(0,1,y0),(2,1,y1)] [(.v (.int .i64 0)),(.v (.int .i64 0)),(.v (.string ⟨#[]⟩))]=some [x0_0,(.v (.int .i64 0)),x1_0]:=by
 simp only[Zas,h0,l0,h1,l1]
 rfl
theorem Zmx {τ:Operand→AV}{y0 y1 y2:Operand}{x0_0 x1_0 x2_0:AV}(h0:Zat (τ y0)=some [x0_0]) (l0:[x0_0].all leaf=true) (h1:Zat (τ y1)=some [x1_0]) (l1:[x1_0].all leaf=true) (h2:Zat (τ y2)=some [x2_0]) (l2:[x2_0].all leaf=true):Zas τ [(0,1,y0),(1,1,y1),(2,1,y2)] [(.v (.int .i64 0)),(.v (.int .i64 0)),(.v (.string ⟨#[]⟩))]=some [x0_0,x1_0,x2_0]:=by
 simp only[Zas,h0,l0,h1,l1,h2,l2]
 rfl
theorem Zk8 {τ:Operand→AV}{y0 y1:Operand}{x0_0 x1_0 x1_1 x1_2:AV}(h0:Zat (τ y0)=some [x0_0]) (l0:[x0_0].all leaf=true) (h1:Zat (τ y1)=some [x1_0,x1_1,x1_2]) (l1:[x1_0,x1_1,x1_2].all leaf=true):Zas τ [(0,1,y0),(1,3,y1)] [(.v (.int .i64 0)),(.v (.int .i64 0)),(.v (.int .i64 0)),(.v (.string ⟨#[]⟩))]=some [x0_0,x1_0,x1_1,x1_2]:=by
 simp only[Zas,h0,l0,h1,l1]
 rfl
theorem Zk7 {τ:Operand→AV}{y0 y1:Operand}{x0_0 x1_0 x1_1 x1_2:AV}(h0:Zat (τ y0)=some [x0_0]) (l0:[x0_0].all leaf=true) (h1:Zat (τ y1)=some [x1_0,x1_1,x1_2]) (l1:[x1_0,x1_1,x1_2].all leaf=true):Zas τ [(0,1,y0),(1,3,y1)] [(.v (.int .i64 0)),(.v (.int .i64 0)),(.v (.int .i64 0)),(.v (.string ⟨#[]⟩))]=some [x0_0,x1_0,x1_1,x1_2]:=by
 simp only[Zas,h0,l0,h1,l1]
 rfl
theorem Zk6 {τ:Operand→AV}{y0 y1:Operand}{x0_0 x0_1 x0_2 x0_3 x1_0 x1_1 x1_2 x1_3:AV}(h0:Zat (τ y0)=some [x0_0,x0_1,x0_2,x0_3]) (l0:[x0_0,x0_1,x0_2,x0_3].all leaf=true) (h1:Zat (τ y1)=some [x1_0,x1_1,x1_2,x1_3]) (l1:[x1_0,x1_1,x1_2,x1_3].all leaf=true):Zas τ [(0,4,y0),(4,4,y1)] [(.v (.int .i64 0)),(.v (.int .i64 0)),(.v (.int .i64 0)),(.v (.string ⟨#[]⟩)),(.v (.int .i64 0)),(.v (.int .i64 0)),(.v (.int .i64 0)),(.v (.string ⟨#[]⟩))]=some [x0_0,x0_1,x0_2,x0_3,x1_0,x1_1,x1_2,x1_3]:=by
 simp only[Zas,h0,l0,h1,l1]
 rfl
theorem Zk5 {τ:Operand→AV}{y0 y1:Operand}{x0_0 x0_1 x0_2 x1_0:AV}(h0:Zat (τ y0)=some [x0_0,x0_1,x0_2]) (l0:[x0_0,x0_1,x0_2].all leaf=true) (h1:Zat (τ y1)=some [x1_0]) (l1:[x1_0].all leaf=true):Zas τ [(0,3,y0),(3,1,y1)] [(.v (.int .i64 0)),(.v (.int .i64 0)),(.v (.string ⟨#[]⟩)),(.sl 0 0 true [])]=some [x0_0,x0_1,x0_2,x1_0]:=by
 simp only[Zas,h0,l0,h1,l1]
 rfl
theorem Zqp {a0 a1 a2 a3:AV}{l:List AV}:((a0::a1::a2::a3::l).drop 0).take 4=[a0,a1,a2,a3]:=rfl
end
def c76:AC:=(Sr [Oo 0 (.new 40 4 [(iv 0),(iv 0),Ss,(.sl 0 0 true [])])] (Sr [Oo 3 (.build [(iv 0),(iv 0),Ss] [(0,(1,(Ci 3600))),(2,(1,(.const (.string ⟨#[65]⟩))))]),Oo 4 (.build [(iv 0),(iv 0),Ss] [(0,(1,(Ci 7200))),(1,(1,(Ci 3600))),(2,(1,(.const (.string ⟨#[66]⟩))))]),Oo 1 (.new 29 3 [(iv 0),(iv 0),Ss]),Oo 2 (.new 29 3 [(iv 0),(iv 0),Ss]),⟨none,none,(.store 3 (.tmp 1) (.tmp 3))⟩,⟨none,none,(.store 3 (.tmp 2) (.tmp 4))⟩] (Sr [Oo 5 (.load true 3 (.tmp 1)),Oo 6 (.load true 3 (.tmp 2)),Oo 7 (.build [(iv 0),(iv 0),(iv 0),Ss] [(0,(1,(Ci 100))),(1,(3,(.tmp 6)))]),Oo 8 (.load true 3 (.tmp 1)),Oo 9 (.build [(iv 0),(iv 0),(iv 0),Ss] [(0,(1,(Ci 90000))),(1,(3,(.tmp 8)))]),Oo 10 (.lit 68 4 2 [(iv 0),(iv 0),(iv 0),Ss,(iv 0),(iv 0),(iv 0),Ss] [(0,(4,(.tmp 7))),(4,(4,(.tmp 9)))]),Oo 11 (.build [(iv 0),(iv 0),Ss,(.sl 0 0 true [])] [(0,(3,(.tmp 5))),(3,(1,(.tmp 10)))]),⟨none,none,(.store 4 (.tmp 0) (.tmp 11))⟩] .ret)))
theorem k76:ZaA Tryz.prog 76=some ⟨c76,[(.cell 0 true 4)],12⟩:=by kernel_rfl
def Zf4:Tab:=((3600,0,⟨#[65]⟩),[(100,(7200,3600,⟨#[66]⟩)),(90000,(3600,0,⟨#[65]⟩))])
theorem Zks {h:AH}:Ac 76 [] h (tabA Zf4):=by
 refine tI' k76 fun N hn hlt hlA hbd=>?_
 simp only[tb'] at hbd ⊢
 refine wr'<|E' (ZaW (hl0 hn) ha0) pt<|sn'<|wr'<|Vw (Zau (Zmy (cvl lki rfl) rfl (cvl lks rfl) rfl))<|Vw (Zau (Zmx (cvl lki rfl) rfl (cvl lki rfl) rfl (cvl lks rfl) rfl))<|E' (ZaW (hl1 hn) ha1) pt<|E' (ZaW (hl2 hn) ha2) pt<|E' (Zai lk cv gx rfl (nb' rfl) rfl ZjW (hs1 hn)) ptn<|E' (Zai lk cv gx rfl (nb' rfl) rfl ZjW (hs2 hn)) ptn<|Zar<|?_
 refine Zag<|wr'<|Vw (Zao lk gx Zg7 rfl)<|Vw (Zao lk gx Zg7 rfl)<|Vw (Zau (Zk8 (cvl lki rfl) rfl cv rfl))<|Vw (Zao lk gx Zg7 rfl)<|Vw (Zau (Zk7 (cvl lki rfl) rfl cv rfl))<|E' (ZdL (Zk6 cv rfl cv rfl) (hl3 hn) ha3) pt<|Vw (Zau (Zk5 cv rfl cv rfl))<|E' (Zai lk cv gx rfl (nb' rfl) rfl Zqq (hs0 hn)) ptn<|Zar<|?_
 refine Zba (ALe.iceCellR gx gx om gt3 rfl (nb' rfl) pt3 (hs3 hn) (hs0 hn)) ?_
 exact Zaa<|Zae (rs1 (rr_c gt gx (ld1 Zqp rfl)))<|rT' rfl
theorem ZlP:okT Zf4:=⟨by decide,by decide⟩
end Go.Proofs.YtlekejpogddndaaGreatDoor
end
section
namespace Go.Proofs.YtlekejpogddndaaGreatDoor
open Go.Ab
attribute [local simp] Zbh Zbr Zbo Zbq Zb5
section
theorem Ztp {a0 a1 a2 a3 a4 a5 a6 a7 a8 a9 a10:AV}{l:List AV}:(a0::a1::a2::a3::a4::a5::a6::a7::a8::a9::a10::l).take 11=[a0,a1,a2,a3,a4,a5,a6,a7,a8,a9,a10]:=rfl
theorem Zla {a0 a1:AV}{l:List AV}:(a0::a1::l).take 2=[a0,a1]:=rfl
theorem Zpj {a0 a1 a2 a3:AV}{l:List AV}:(a0::a1::a2::a3::l).take 4=[a0,a1,a2,a3]:=rfl
end
def c234:AC:=(Sr [Mc 4 0] (.seq (Sr [Mv 6 0,Oo 7 (.len false (.tmp 6)),Mc 8 0] (.block 0 (.loop (Sr [Bn 9 .lss 8 7] (.seq (Cd 9 .skip (.exit 0)) (.seq (.block 1 (Sr [Mv 10 8,Mv 5 10] (Sr [Mv 11 1,Mv 12 0,Mv 13 5,Oo 14 (.ia 11 (.tmp 12) (.tmp 13)),Oo 15 (.load true 11 (.tmp 14)),Oo 16 (.call (.tmp 11) [(.tmp 15)])] (Cd 16 (Sr [Mv 17 5,Mv 4 17] .ret) .skip)))) (.reg [Bc 18 .add 8 1,Mv 8 18]))))))) (Sr [Oo 4 (.mv (.const (.int .i64 (-1))))] .ret)))
theorem k234:ZaA Tryz.prog 234=some ⟨c234,[(.tmp 4)],19⟩:=by kernel_rfl
def c157:AC:=(Sr [Mb 4 false] (Sr [Mv 5 0,Mv 6 1,Cl 7 234 [(.tmp 5),(.tmp 6)],Bc 8 .geq 7 0,Mv 4 8] .ret))
theorem k157:ZaA Tryz.prog 157=some ⟨c157,[(.tmp 4)],9⟩:=by kernel_rfl
def c218:AC:=(Sr [Mc 4 0] (.seq (Sr [Mv 6 0,Oo 7 (.len false (.tmp 6)),Mc 8 0] (.block 0 (.loop (Sr [Bn 9 .lss 8 7] (.seq (Cd 9 .skip (.exit 0)) (.seq (.block 1 (Sr [Mv 10 8,Mv 5 10] (Sr [Mv 11 1,Mv 12 0,Mv 13 5,Oo 14 (.ia 2 (.tmp 12) (.tmp 13)),Oo 15 (.load true 2 (.tmp 14)),Oo 16 (.call (.tmp 11) [(.tmp 15)])] (Cd 16 (Sr [Mv 17 5,Mv 4 17] .ret) .skip)))) (.reg [Bc 18 .add 8 1,Mv 8 18]))))))) (Sr [Oo 4 (.mv (.const (.int .i64 (-1))))] .ret)))
theorem k218:ZaA Tryz.prog 218=some ⟨c218,[(.tmp 4)],19⟩:=by kernel_rfl
def c136:AC:=(Sr [Mb 4 false] (Sr [Mv 5 0,Mv 6 1,Cl 7 218 [(.tmp 5),(.tmp 6)],Bc 8 .geq 7 0,Mv 4 8] .ret))
theorem k136:ZaA Tryz.prog 136=some ⟨c136,[(.tmp 4)],9⟩:=by kernel_rfl
def c171:AC:=(Sr [Mc 4 0] (.seq (Sr [Mv 6 0,Oo 7 (.len false (.tmp 6)),Mc 8 0] (.block 0 (.loop (Sr [Bn 9 .lss 8 7] (.seq (Cd 9 .skip (.exit 0)) (.seq (.block 1 (Sr [Mv 10 8,Mv 5 10] (Sr [Mv 11 1,Mv 12 0,Mv 13 5,Oo 14 (.ia 2 (.tmp 12) (.tmp 13)),Oo 15 (.load true 2 (.tmp 14)),Oo 16 (.call (.tmp 11) [(.tmp 15)])] (Cd 16 (Sr [Mv 17 5,Mv 4 17] .ret) .skip)))) (.reg [Bc 18 .add 8 1,Mv 8 18]))))))) (Sr [Oo 4 (.mv (.const (.int .i64 (-1))))] .ret)))
theorem k171:ZaA Tryz.prog 171=some ⟨c171,[(.tmp 4)],19⟩:=by kernel_rfl
def c213:AC:=(Sr [Mb 4 false] (Sr [Mv 5 0,Mv 6 1,Cl 7 171 [(.tmp 5),(.tmp 6)],Bc 8 .geq 7 0,Mv 4 8] .ret))
theorem k213:ZaA Tryz.prog 213=some ⟨c213,[(.tmp 4)],9⟩:=by kernel_rfl
def c221:AC:=(Sr [Mc 4 0] (.seq (Sr [Mv 6 0,Oo 7 (.len false (.tmp 6)),Mc 8 0] (.block 0 (.loop (Sr [Bn 9 .lss 8 7] (.seq (Cd 9 .skip (.exit 0)) (.seq (.block 1 (Sr [Mv 10 8,Mv 5 10] (Sr [Mv 11 1,Mv 12 0,Mv 13 5,Oo 14 (.ia 4 (.tmp 12) (.tmp 13)),Oo 15 (.load true 4 (.tmp 14)),Oo 16 (.call (.tmp 11) [(.tmp 15)])] (Cd 16 (Sr [Mv 17 5,Mv 4 17] .ret) .skip)))) (.reg [Bc 18 .add 8 1,Mv 8 18]))))))) (Sr [Oo 4 (.mv (.const (.int .i64 (-1))))] .ret)))
theorem k221:ZaA Tryz.prog 221=some ⟨c221,[(.tmp 4)],19⟩:=by kernel_rfl
def c145:AC:=(Sr [Mc 4 0] (.seq (Sr [Mv 6 0,Oo 7 (.len false (.tmp 6)),Mc 8 0] (.block 0 (.loop (Sr [Bn 9 .lss 8 7] (.seq (Cd 9 .skip (.exit 0)) (.seq (.block 1 (Sr [Mv 10 8,Mv 5 10] (Sr [Mv 11 1,Mv 12 0,Mv 13 5,Oo 14 (.ia 4 (.tmp 12) (.tmp 13)),Oo 15 (.load true 4 (.tmp 14)),Oo 16 (.call (.tmp 11) [(.tmp 15)])] (Cd 16 (Sr [Mv 17 5,Mv 4 17] .ret) .skip)))) (.reg [Bc 18 .add 8 1,Mv 8 18]))))))) (Sr [Oo 4 (.mv (.const (.int .i64 (-1))))] .ret)))
theorem k145:ZaA Tryz.prog 145=some ⟨c145,[(.tmp 4)],19⟩:=by kernel_rfl
theorem Zfd {α:Type}{p:α→Bool}{l:List α}{k:Nat}(hk:k<l.length) (h1:p l[k]=true) (h2 : ∀ j (hj:j<k),p (l[j]'(by omega))=false):l.findIdx p=k:=by
 have hlt:l.findIdx p<l.length:=List.findIdx_lt_length.2 ⟨_,List.getElem_mem hk,h1⟩
 rcases Nat.lt_trichotomy (l.findIdx p) k with e | e | e
 ·have a:=h2 _ e
  have b:=List.findIdx_getElem (w:=hlt)
  rw[a] at b;cases b
 ·exact e
 have:=List.not_of_lt_findIdx e
 rw[h1] at this;cases this
def idxV {α:Type}(p:α→Bool) (l:List α):Int:=if l.findIdx p<l.length then (l.findIdx p:Int) else -1
theorem Zfc {α:Type}(p:α→Bool) (l:List α):decide (0≤idxV p l)=l.any p:=by
 unfold idxV
 rw[Bool.eq_iff_iff,decide_eq_true_iff,List.any_eq_true]
 split
 ·rename_i h
  exact⟨fun _=>⟨_,List.getElem_mem h,List.findIdx_getElem (w:=h)⟩,fun _=>by omega⟩
 rename_i h
 constructor
 ·intro h2;omega
 rintro⟨x,hx,hp⟩;exact absurd (List.findIdx_lt_length.2 ⟨x,hx,hp⟩) h
theorem ixRulC_a {p:Rul→Bool}{f:FuncId}{caps:List AV}{l:List Rul}{full:Bool}{h:AH}(hp : ∀ c∈l,∀ E:AH,ACalls Tryz.prog f ([.agg (rulC c)]++caps) (h++E) fun x h'=>h'=h++E∧x=.ret (bv (p c))) (hl:l.length≤9223372036854775807) :
  Ac 234 [.sl l.length 11 full (rows rulC l),.clo (.func f) caps] h (iv (idxV p l)):=by
 refine tI' k234 fun N hn hlt hlA hbd=>?_
 simp only[tb'] at hbd ⊢
 refine wr'<|mw<|sn'<|Zam<|wr'<|mw<|Vw (ZaL lk)<|mw<|sn'<|Zap<|?_
 refine w_lp (ι:=Nat) (fun (k:Nat)=>[(8,iv (k:Int)),(4,.any),(5,.any)]++rn' 9 10) (fun (k:Nat)=>[]) (fun (k:Nat)=>k≤l.length ∧ ∀ j (hj:j<l.length),j<k→p l[j]=false) (fun (k:Nat)=>l.length-k) (0) (by exact⟨by omega,fun j hj h0=>absurd h0 om⟩) ?_
 rintro k hi1
 try simp only[sm',Nat.reduceAdd]
 obtain⟨hk1,hk2⟩:=hi1
 refine wr'<|Vw (Zbc lk lk)<|sn'<|Zam<|?_
 refine cd' lk (fun hc1=>?_) (fun hc1=>?_)
 ·have hk:k<l.length:=by omega
  refine Zaf<|Zag<|Zam<|Zap<|wr'<|mw<|mw<|sn'<|wr'<|mw<|mw<|?_
  refine mv' lk pt ?_
  refine V' (ZaU lk lk Ze8 (nb' rfl) ro om ro rfl) pt ?_
  refine Vw (ZaI lk Ztp rfl)<|Zh8 lk mp (hp l[k] (List.getElem_mem hk) _) pt<|sn'<|?_
  refine Zaw lk (fun hc2=>?_) (fun hc2=>?_)
  ·refine wr'<|mw<|mw<|sn'<|Zaa<|Zaq<|Zah<|Zah<|Zaq<|Zah<|Zae rz<|rT'<|?_
   refine ivx ?_
   have hf:l.findIdx p=k:=Zfd hk (by simpa using hc2) (fun j hj=>hk2 j om hj)
   rw[idxV,hf,if_pos hk]
  refine Zaf<|Zaz<|Zag<|Zav<|?_
  refine V' (Zay lk lki om om) pt ?_
  refine mw<|Zar<|ZaB<|?_
  refine lT' (k+1) (by (try dsimp only);refine⟨by omega,fun j hj h0=>?_⟩;by_cases e:j=k;subst e;simpa using hc2;exact hk2 j hj om)
 refine ZaM<|ZaD<|ZaD<|Zbb<|Zag<|wr'<|mw<|sn'<|Zaa<|Zae rz<|rT'<|?_
 refine ivx ?_
 have hf:l.findIdx p=l.length:=List.findIdx_eq_length.2 (fun x hx=>by obtain⟨i,hi,rfl⟩:=List.getElem_of_mem hx;exact hk2 i hi om)
 rw[idxV,hf,if_neg om]
theorem Zl7 {p:Rul→Bool}{f:FuncId}{caps:List AV}{l:List Rul}{full:Bool}{h:AH}(hp : ∀ c∈l,∀ E:AH,ACalls Tryz.prog f ([.agg (rulC c)]++caps) (h++E) fun x h'=>h'=h++E∧x=.ret (bv (p c))) (hl:l.length≤9223372036854775807) :
  Ac 157 [.sl l.length 11 full (rows rulC l),.clo (.func f) caps] h (bv (l.any p)):=by
 refine tI' k157 fun N hn hlt hlA hbd=>?_
 simp only[tb'] at hbd ⊢
 refine wr'<|mw<|sn'<|wr'<|mw<|mw<|?_
 refine Zad mp (ixRulC_a (fun c hc E=>by have:=hp c hc E;rwa [List.append_nil]) hl) pt ?_
 refine Vw (Zft lk lki)<|mw<|sn'<|Zaa<|Zae rz<|rT'<|?_
 exact bvx (by first | exact Zfc p l | (rw[←Zfc];simp))
theorem ixZonC_a {p:Zon→Bool}{f:FuncId}{caps:List AV}{l:List Zon}{full:Bool}{h:AH}(hp : ∀ c∈l,∀ E:AH,ACalls Tryz.prog f ([.agg (zonC c)]++caps) (h++E) fun x h'=>h'=h++E∧x=.ret (bv (p c))) (hl:l.length≤9223372036854775807) :
  Ac 218 [.sl l.length 2 full (rows zonC l),.clo (.func f) caps] h (iv (idxV p l)):=by
 refine tI' k218 fun N hn hlt hlA hbd=>?_
 simp only[tb'] at hbd ⊢
 refine wr'<|mw<|sn'<|Zam<|wr'<|mw<|Vw (ZaL lk)<|mw<|sn'<|Zap<|?_
 refine w_lp (ι:=Nat) (fun (k:Nat)=>[(8,iv (k:Int)),(4,.any),(5,.any)]++rn' 9 10) (fun (k:Nat)=>[]) (fun (k:Nat)=>k≤l.length ∧ ∀ j (hj:j<l.length),j<k→p l[j]=false) (fun (k:Nat)=>l.length-k) (0) (by exact⟨by omega,fun j hj h0=>absurd h0 om⟩) ?_
 rintro k hi1
 try simp only[sm',Nat.reduceAdd]
 obtain⟨hk1,hk2⟩:=hi1
 refine wr'<|Vw (Zbc lk lk)<|sn'<|Zam<|?_
 refine cd' lk (fun hc1=>?_) (fun hc1=>?_)
 ·have hk:k<l.length:=by omega
  refine Zaf<|Zag<|Zam<|Zap<|wr'<|mw<|mw<|sn'<|wr'<|mw<|mw<|?_
  refine mv' lk pt ?_
  refine V' (ZaU lk lk ZcJ (nb' rfl) ro om ro rfl) pt ?_
  refine Vw (ZaI lk Zla rfl)<|Zh8 lk mp (hp l[k] (List.getElem_mem hk) _) pt<|sn'<|?_
  refine Zaw lk (fun hc2=>?_) (fun hc2=>?_)
  ·refine wr'<|mw<|mw<|sn'<|Zaa<|Zaq<|Zah<|Zah<|Zaq<|Zah<|Zae rz<|rT'<|?_
   refine ivx ?_
   have hf:l.findIdx p=k:=Zfd hk (by simpa using hc2) (fun j hj=>hk2 j om hj)
   rw[idxV,hf,if_pos hk]
  refine Zaf<|Zaz<|Zag<|Zav<|?_
  refine V' (Zay lk lki om om) pt ?_
  refine mw<|Zar<|ZaB<|?_
  refine lT' (k+1) (by (try dsimp only);refine⟨by omega,fun j hj h0=>?_⟩;by_cases e:j=k;subst e;simpa using hc2;exact hk2 j hj om)
 refine ZaM<|ZaD<|ZaD<|Zbb<|Zag<|wr'<|mw<|sn'<|Zaa<|Zae rz<|rT'<|?_
 refine ivx ?_
 have hf:l.findIdx p=l.length:=List.findIdx_eq_length.2 (fun x hx=>by obtain⟨i,hi,rfl⟩:=List.getElem_of_mem hx;exact hk2 i hi om)
 rw[idxV,hf,if_neg om]
theorem ixZonT_a {p:Zon→Bool}{f:FuncId}{l:List Zon}{full:Bool}{h:AH}(hp : ∀ c∈l,∀ E:AH,ACalls Tryz.prog f [.agg (zonC c)] (h++E) fun x h'=>h'=h++E∧x=.ret (bv (p c))) (hl:l.length≤9223372036854775807) :
  Ac 218 [.sl l.length 2 full (rows zonC l),.v (.func (.func f) #[] #[])] h (iv (idxV p l)):=by
 refine tI' k218 fun N hn hlt hlA hbd=>?_
 simp only[tb'] at hbd ⊢
 refine wr'<|mw<|sn'<|Zam<|wr'<|mw<|Vw (ZaL lk)<|mw<|sn'<|Zap<|?_
 refine w_lp (ι:=Nat) (fun (k:Nat)=>[(8,iv (k:Int)),(4,.any),(5,.any)]++rn' 9 10) (fun (k:Nat)=>[]) (fun (k:Nat)=>k≤l.length ∧ ∀ j (hj:j<l.length),j<k→p l[j]=false) (fun (k:Nat)=>l.length-k) (0) (by exact⟨by omega,fun j hj h0=>absurd h0 om⟩) ?_
 rintro k hi1
 try simp only[sm',Nat.reduceAdd]
 obtain⟨hk1,hk2⟩:=hi1
 refine wr'<|Vw (Zbc lk lk)<|sn'<|Zam<|?_
 refine cd' lk (fun hc1=>?_) (fun hc1=>?_)
 ·have hk:k<l.length:=by omega
  refine Zaf<|Zag<|Zam<|Zap<|wr'<|mw<|mw<|sn'<|wr'<|mw<|mw<|?_
  refine mv' lk pt ?_
  refine V' (ZaU lk lk ZcJ (nb' rfl) ro om ro rfl) pt ?_
  refine Vw (ZaI lk Zla rfl)<|Zh7 lk mp (hp l[k] (List.getElem_mem hk) _) pt<|sn'<|?_
  refine Zaw lk (fun hc2=>?_) (fun hc2=>?_)
  ·refine wr'<|mw<|mw<|sn'<|Zaa<|Zaq<|Zah<|Zah<|Zaq<|Zah<|Zae rz<|rT'<|?_
   refine ivx ?_
   have hf:l.findIdx p=k:=Zfd hk (by simpa using hc2) (fun j hj=>hk2 j om hj)
   rw[idxV,hf,if_pos hk]
  refine Zaf<|Zaz<|Zag<|Zav<|?_
  refine V' (Zay lk lki om om) pt ?_
  refine mw<|Zar<|ZaB<|?_
  refine lT' (k+1) (by (try dsimp only);refine⟨by omega,fun j hj h0=>?_⟩;by_cases e:j=k;subst e;simpa using hc2;exact hk2 j hj om)
 refine ZaM<|ZaD<|ZaD<|Zbb<|Zag<|wr'<|mw<|sn'<|Zaa<|Zae rz<|rT'<|?_
 refine ivx ?_
 have hf:l.findIdx p=l.length:=List.findIdx_eq_length.2 (fun x hx=>by obtain⟨i,hi,rfl⟩:=List.getElem_of_mem hx;exact hk2 i hi om)
 rw[idxV,hf,if_neg om]
theorem Zsr {p:Zon→Bool}{f:FuncId}{l:List Zon}{full:Bool}{h:AH}(hp : ∀ c∈l,∀ E:AH,ACalls Tryz.prog f [.agg (zonC c)] (h++E) fun x h'=>h'=h++E∧x=.ret (bv (p c))) (hl:l.length≤9223372036854775807) :
  Ac 136 [.sl l.length 2 full (rows zonC l),.v (.func (.func f) #[] #[])] h (bv (l.any p)):=by
 refine tI' k136 fun N hn hlt hlA hbd=>?_
 simp only[tb'] at hbd ⊢
 refine wr'<|mw<|sn'<|wr'<|mw<|mw<|?_
 refine Zad mp (ixZonT_a (fun c hc E=>by have:=hp c hc E;rwa [List.append_nil]) hl) pt ?_
 refine Vw (Zft lk lki)<|mw<|sn'<|Zaa<|Zae rz<|rT'<|?_
 exact bvx (by first | exact Zfc p l | (rw[←Zfc];simp))
theorem ZoU {p:Lnk→Bool}{f:FuncId}{caps:List AV}{l:List Lnk}{full:Bool}{h:AH}(hp : ∀ c∈l,∀ E:AH,ACalls Tryz.prog f ([.agg (lnkC c)]++caps) (h++E) fun x h'=>h'=h++E∧x=.ret (bv (p c))) (hl:l.length≤9223372036854775807) :
  Ac 171 [.sl l.length 2 full (rows lnkC l),.clo (.func f) caps] h (iv (idxV p l)):=by
 refine tI' k171 fun N hn hlt hlA hbd=>?_
 simp only[tb'] at hbd ⊢
 refine wr'<|mw<|sn'<|Zam<|wr'<|mw<|Vw (ZaL lk)<|mw<|sn'<|Zap<|?_
 refine w_lp (ι:=Nat) (fun (k:Nat)=>[(8,iv (k:Int)),(4,.any),(5,.any)]++rn' 9 10) (fun (k:Nat)=>[]) (fun (k:Nat)=>k≤l.length ∧ ∀ j (hj:j<l.length),j<k→p l[j]=false) (fun (k:Nat)=>l.length-k) (0) (by exact⟨by omega,fun j hj h0=>absurd h0 om⟩) ?_
 rintro k hi1
 try simp only[sm',Nat.reduceAdd]
 obtain⟨hk1,hk2⟩:=hi1
 refine wr'<|Vw (Zbc lk lk)<|sn'<|Zam<|?_
 refine cd' lk (fun hc1=>?_) (fun hc1=>?_)
 ·have hk:k<l.length:=by omega
  refine Zaf<|Zag<|Zam<|Zap<|wr'<|mw<|mw<|sn'<|wr'<|mw<|mw<|?_
  refine mv' lk pt ?_
  refine V' (ZaU lk lk ZdT (nb' rfl) ro om ro rfl) pt ?_
  refine Vw (ZaI lk Zla rfl)<|Zh8 lk mp (hp l[k] (List.getElem_mem hk) _) pt<|sn'<|?_
  refine Zaw lk (fun hc2=>?_) (fun hc2=>?_)
  ·refine wr'<|mw<|mw<|sn'<|Zaa<|Zaq<|Zah<|Zah<|Zaq<|Zah<|Zae rz<|rT'<|?_
   refine ivx ?_
   have hf:l.findIdx p=k:=Zfd hk (by simpa using hc2) (fun j hj=>hk2 j om hj)
   rw[idxV,hf,if_pos hk]
  refine Zaf<|Zaz<|Zag<|Zav<|?_
  refine V' (Zay lk lki om om) pt ?_
  refine mw<|Zar<|ZaB<|?_
  refine lT' (k+1) (by (try dsimp only);refine⟨by omega,fun j hj h0=>?_⟩;by_cases e:j=k;subst e;simpa using hc2;exact hk2 j hj om)
 refine ZaM<|ZaD<|ZaD<|Zbb<|Zag<|wr'<|mw<|sn'<|Zaa<|Zae rz<|rT'<|?_
 refine ivx ?_
 have hf:l.findIdx p=l.length:=List.findIdx_eq_length.2 (fun x hx=>by obtain⟨i,hi,rfl⟩:=List.getElem_of_mem hx;exact hk2 i hi om)
 rw[idxV,hf,if_neg om]
theorem Zss {p:Lnk→Bool}{f:FuncId}{caps:List AV}{l:List Lnk}{full:Bool}{h:AH}(hp : ∀ c∈l,∀ E:AH,ACalls Tryz.prog f ([.agg (lnkC c)]++caps) (h++E) fun x h'=>h'=h++E∧x=.ret (bv (p c))) (hl:l.length≤9223372036854775807) :
  Ac 213 [.sl l.length 2 full (rows lnkC l),.clo (.func f) caps] h (bv (l.any p)):=by
 refine tI' k213 fun N hn hlt hlA hbd=>?_
 simp only[tb'] at hbd ⊢
 refine wr'<|mw<|sn'<|wr'<|mw<|mw<|?_
 refine Zad mp (ZoU (fun c hc E=>by have:=hp c hc E;rwa [List.append_nil]) hl) pt ?_
 refine Vw (Zft lk lki)<|mw<|sn'<|Zaa<|Zae rz<|rT'<|?_
 exact bvx (by first | exact Zfc p l | (rw[←Zfc];simp))
theorem ixPrtC_a {p:Chg→Bool}{f:FuncId}{caps:List AV}{l:List Chg}{full:Bool}{h:AH}(hp : ∀ c∈l,∀ E:AH,ACalls Tryz.prog f ([.agg (chgC c)]++caps) (h++E) fun x h'=>h'=h++E∧x=.ret (bv (p c))) (hl:l.length≤9223372036854775807) :
  Ac 221 [.sl l.length 4 full (rows chgC l),.clo (.func f) caps] h (iv (idxV p l)):=by
 refine tI' k221 fun N hn hlt hlA hbd=>?_
 simp only[tb'] at hbd ⊢
 refine wr'<|mw<|sn'<|Zam<|wr'<|mw<|Vw (ZaL lk)<|mw<|sn'<|Zap<|?_
 refine w_lp (ι:=Nat) (fun (k:Nat)=>[(8,iv (k:Int)),(4,.any),(5,.any)]++rn' 9 10) (fun (k:Nat)=>[]) (fun (k:Nat)=>k≤l.length ∧ ∀ j (hj:j<l.length),j<k→p l[j]=false) (fun (k:Nat)=>l.length-k) (0) (by exact⟨by omega,fun j hj h0=>absurd h0 om⟩) ?_
 rintro k hi1
 try simp only[sm',Nat.reduceAdd]
 obtain⟨hk1,hk2⟩:=hi1
 refine wr'<|Vw (Zbc lk lk)<|sn'<|Zam<|?_
 refine cd' lk (fun hc1=>?_) (fun hc1=>?_)
 ·have hk:k<l.length:=by omega
  refine Zaf<|Zag<|Zam<|Zap<|wr'<|mw<|mw<|sn'<|wr'<|mw<|mw<|?_
  refine mv' lk pt ?_
  refine V' (ZaU lk lk Zca (nb' rfl) ro om ro rfl) pt ?_
  refine Vw (ZaI lk Zpj rfl)<|Zh8 lk mp (hp l[k] (List.getElem_mem hk) _) pt<|sn'<|?_
  refine Zaw lk (fun hc2=>?_) (fun hc2=>?_)
  ·refine wr'<|mw<|mw<|sn'<|Zaa<|Zaq<|Zah<|Zah<|Zaq<|Zah<|Zae rz<|rT'<|?_
   refine ivx ?_
   have hf:l.findIdx p=k:=Zfd hk (by simpa using hc2) (fun j hj=>hk2 j om hj)
   rw[idxV,hf,if_pos hk]
  refine Zaf<|Zaz<|Zag<|Zav<|?_
  refine V' (Zay lk lki om om) pt ?_
  refine mw<|Zar<|ZaB<|?_
  refine lT' (k+1) (by (try dsimp only);refine⟨by omega,fun j hj h0=>?_⟩;by_cases e:j=k;subst e;simpa using hc2;exact hk2 j hj om)
 refine ZaM<|ZaD<|ZaD<|Zbb<|Zag<|wr'<|mw<|sn'<|Zaa<|Zae rz<|rT'<|?_
 refine ivx ?_
 have hf:l.findIdx p=l.length:=List.findIdx_eq_length.2 (fun x hx=>by obtain⟨i,hi,rfl⟩:=List.getElem_of_mem hx;exact hk2 i hi om)
 rw[idxV,hf,if_neg om]
theorem ixChgC_a {p:Chg→Bool}{f:FuncId}{caps:List AV}{l:List Chg}{full:Bool}{h:AH}(hp : ∀ c∈l,∀ E:AH,ACalls Tryz.prog f ([.agg (chgC c)]++caps) (h++E) fun x h'=>h'=h++E∧x=.ret (bv (p c))) (hl:l.length≤9223372036854775807) :
  Ac 145 [.sl l.length 4 full (rows chgC l),.clo (.func f) caps] h (iv (idxV p l)):=by
 refine tI' k145 fun N hn hlt hlA hbd=>?_
 simp only[tb'] at hbd ⊢
 refine wr'<|mw<|sn'<|Zam<|wr'<|mw<|Vw (ZaL lk)<|mw<|sn'<|Zap<|?_
 refine w_lp (ι:=Nat) (fun (k:Nat)=>[(8,iv (k:Int)),(4,.any),(5,.any)]++rn' 9 10) (fun (k:Nat)=>[]) (fun (k:Nat)=>k≤l.length ∧ ∀ j (hj:j<l.length),j<k→p l[j]=false) (fun (k:Nat)=>l.length-k) (0) (by exact⟨by omega,fun j hj h0=>absurd h0 om⟩) ?_
 rintro k hi1
 try simp only[sm',Nat.reduceAdd]
 obtain⟨hk1,hk2⟩:=hi1
 refine wr'<|Vw (Zbc lk lk)<|sn'<|Zam<|?_
 refine cd' lk (fun hc1=>?_) (fun hc1=>?_)
 ·have hk:k<l.length:=by omega
  refine Zaf<|Zag<|Zam<|Zap<|wr'<|mw<|mw<|sn'<|wr'<|mw<|mw<|?_
  refine mv' lk pt ?_
  refine V' (ZaU lk lk Zca (nb' rfl) ro om ro rfl) pt ?_
  refine Vw (ZaI lk Zpj rfl)<|Zh8 lk mp (hp l[k] (List.getElem_mem hk) _) pt<|sn'<|?_
  refine Zaw lk (fun hc2=>?_) (fun hc2=>?_)
  ·refine wr'<|mw<|mw<|sn'<|Zaa<|Zaq<|Zah<|Zah<|Zaq<|Zah<|Zae rz<|rT'<|?_
   refine ivx ?_
   have hf:l.findIdx p=k:=Zfd hk (by simpa using hc2) (fun j hj=>hk2 j om hj)
   rw[idxV,hf,if_pos hk]
  refine Zaf<|Zaz<|Zag<|Zav<|?_
  refine V' (Zay lk lki om om) pt ?_
  refine mw<|Zar<|ZaB<|?_
  refine lT' (k+1) (by (try dsimp only);refine⟨by omega,fun j hj h0=>?_⟩;by_cases e:j=k;subst e;simpa using hc2;exact hk2 j hj om)
 refine ZaM<|ZaD<|ZaD<|Zbb<|Zag<|wr'<|mw<|sn'<|Zaa<|Zae rz<|rT'<|?_
 refine ivx ?_
 have hf:l.findIdx p=l.length:=List.findIdx_eq_length.2 (fun x hx=>by obtain⟨i,hi,rfl⟩:=List.getElem_of_mem hx;exact hk2 i hi om)
 rw[idxV,hf,if_neg om]
end Go.Proofs.YtlekejpogddndaaGreatDoor
end
section
namespace Go.Proofs.YtlekejpogddndaaGreatDoor
open Go.Ab Civ
attribute [local simp] Zb5
section
theorem Zoc {a0 a1 a2:AV}{l:List AV}:(a0::a1::a2::l).take 3=[a0,a1,a2]:=rfl
theorem Zci {a0 a1 a2 c0 c1 c2:AV}{l:List AV}:setCells (a0::a1::a2::l) 0 [c0,c1,c2]=c0::c1::c2::l:=rfl
theorem Zbx {a0 a1 a2:AV}{l:List AV}:((a0::a1::a2::l).drop 0).take 3=[a0,a1,a2]:=rfl
theorem Ze6 {τ:Operand→AV}{y0 y1:Operand}{x0_0 x0_1 x0_2 x1_0:AV}(h0:Zat (τ y0)=some [x0_0,x0_1,x0_2]) (l0:[x0_0,x0_1,x0_2].all leaf=true) (h1:Zat (τ y1)=some [x1_0]) (l1:[x1_0].all leaf=true):Zas τ [(0,3,y0),(3,1,y1)] [(.v (.int .i64 0)),(.v (.int .i64 0)),(.v (.string ⟨#[]⟩)),(.sl 0 0 true [])]=some [x0_0,x0_1,x0_2,x1_0]:=by
 simp only[Zas,h0,l0,h1,l1]
 rfl
theorem Ze5 {τ:Operand→AV}{y0:Operand}{x0_0 x0_1 x0_2 x0_3:AV}(h0:Zat (τ y0)=some [x0_0,x0_1,x0_2,x0_3]) (l0:[x0_0,x0_1,x0_2,x0_3].all leaf=true):Zas τ [(0,4,y0)] [(.v (.int .i64 0)),(.v (.int .i64 0)),(.v (.string ⟨#[]⟩)),(.sl 0 0 true [])]=some [x0_0,x0_1,x0_2,x0_3]:=by
 simp only[Zas,h0,l0]
 rfl
theorem Zi2 { e:Ent}:([]:AH)++[e]=[e]:=rfl
theorem Zhs {e0 e1 e2 d0:Ent}:([e0,e1,e2]:AH)++[d0]=[e0,e1,e2,d0]:=rfl
theorem Zhr {a0 a1 a2 a3:AV}{l:List AV}:((a0::a1::a2::a3::l).drop 0).take 4=[a0,a1,a2,a3]:=rfl
theorem Zlc {τ:Operand→AV}:Zas τ [] [(.v (.int .i64 0)),(.v (.int .i64 0)),(.v (.string ⟨#[]⟩))]=some [(.v (.int .i64 0)),(.v (.int .i64 0)),(.v (.string ⟨#[]⟩))]:=rfl
theorem Zjc {τ:Operand→AV}:Zas τ [] [(.v (.int .i64 0)),(.v (.int .i64 0)),(.v (.string ⟨#[]⟩))]=some [(.v (.int .i64 0)),(.v (.int .i64 0)),(.v (.string ⟨#[]⟩))]:=rfl
end
def c147:AC:=(Sr [Oo 2 (.new 29 3 [(iv 0),(iv 0),Ss])] (.seq (Sr [Mv 4 0,Nk 5 4,Fa 6 0 5,Fa 7 3 6,Ld 8 7,Oo 9 (.len false (.tmp 8)),Mv 3 9] (Sr [Mv 10 3,Bc 11 .gtr 10 0] (Cd 11 (Sr [Mv 12 0,Nk 13 12,Fa 14 0 13,Fa 15 3 14,Ld 16 15,Mv 17 3,Bc 18 .sub 17 1,Oo 19 (.ia 4 (.tmp 16) (.tmp 18)),Fa 20 1 19,Oo 21 (.load true 3 (.tmp 20)),⟨none,none,(.store 3 (.tmp 2) (.tmp 21))⟩] .ret) .skip))) (Sr [Mv 22 0,Nk 23 22,Fa 24 0 23,Fa 25 0 24,Oo 26 (.load true 3 (.tmp 25)),⟨none,none,(.store 3 (.tmp 2) (.tmp 26))⟩] .ret)))
theorem k147:ZaA Tryz.prog 147=some ⟨c147,[(.cell 2 true 3)],27⟩:=by kernel_rfl
def c146:AC:=(Sr [Oo 2 (.box 68 4 (.tmp 0)),Mb 3 false] (Sr [Fa 4 0 2,Ld 5 4,Ld 6 1,Bn 7 .gtr 5 6,Mv 3 7] .ret))
theorem k146:ZaA Tryz.prog 146=some ⟨c146,[(.tmp 3)],8⟩:=by kernel_rfl
def c71:AC:=(Sr [Oo 2 (.box 40 4 (.tmp 0)),Oo 3 (.box 3 1 (.tmp 1)),Oo 4 (.new 29 3 [(iv 0),(iv 0),Ss])] (Sr [Fa 7 3 2,Ld 8 7,Oo 9 (.mkfn 146 [(.tmp 3)]),Cl 10 145 [(.tmp 8),(.tmp 9)],Mv 5 10] (.seq (Sr [Mv 11 5,Bc 12 .lss 11 0] (Cd 12 (.reg [Fa 13 3 2,Ld 14 13,Oo 15 (.len false (.tmp 14)),Mv 5 15]) .skip)) (Sd [Fa 16 0 2,Oo 17 (.load true 3 (.tmp 16)),Fa 18 3 2,Ld 19 18,Mv 20 5,Oo 21 (.slc 4 (.tmp 19) none (some (.tmp 20)) none),Oo 22 (.build [(iv 0),(iv 0),Ss,(.sl 0 0 true [])] [(0,(3,(.tmp 17))),(3,(1,(.tmp 21)))]),Oo 23 (.build [(iv 0),(iv 0),Ss,(.sl 0 0 true [])] [(0,(4,(.tmp 22)))]),Oo 24 (.box 198 4 (.tmp 23)),Mv 6 24] (Sr [Mv 25 6,Cl 26 147 [(.tmp 25)],⟨none,none,(.store 3 (.tmp 4) (.tmp 26))⟩] .ret)))))
theorem k71:ZaA Tryz.prog 71=some ⟨c71,[(.cell 4 true 3)],27⟩:=by kernel_rfl
def c17:AC:=(Sr [Oo 2 (.box 40 4 (.tmp 0)),Oo 4 (.new 29 3 [(iv 0),(iv 0),Ss]),Mc 5 0] (.seq (Sr [Oo 7 (.load true 4 (.tmp 2)),Cl 8 23 [(.tmp 7)],Mv 6 8] (Sr [Mv 9 6,Bc 10 .neq 9 0] (Cd 10 (Sr [Oo 11 (.build [(iv 0),(iv 0),Ss] []),Mv 12 6,⟨none,none,(.store 3 (.tmp 4) (.tmp 11))⟩,Mv 5 12] .ret) .skip))) (.seq (Sr [Mv 13 1,Cl 14 70 [(.tmp 13)],Oo 15 (.un .not (.tmp 14))] (Cd 15 (Sr [Oo 16 (.build [(iv 0),(iv 0),Ss] []),⟨none,none,(.store 3 (.tmp 4) (.tmp 16))⟩,Mc 5 3] .ret) .skip)) (Sr [Oo 17 (.load true 4 (.tmp 2)),Mv 18 1,Cl 19 71 [(.tmp 17),(.tmp 18)],⟨none,none,(.store 3 (.tmp 4) (.tmp 19))⟩,Mc 5 0] .ret))))
theorem k17:ZaA Tryz.prog 17=some ⟨c17,[(.cell 4 true 3),(.tmp 5)],20⟩:=by kernel_rfl
abbrev locC (l:Loc):List AV:=[iv l.1,iv l.2.1,sv l.2.2]
theorem there1_a {c:Chg}{n:Int}{h:AH}:Ac 146 [.agg [iv c.1,iv c.2.1,iv c.2.2.1,sv c.2.2.2],.rp [iv n]] h (bv (decide (n<c.1))):=by
 refine tI' k146 fun N hn hlt hlA hbd=>?_
 simp only[tb'] at hbd ⊢
 refine wr'<|E' (Zbd cv rfl (hl0 hn) ha0) pt<|mw<|sn'<|wr'<|Vw (Zab lk)<|Vw (Zac lk gx gt0)<|Vw (ZaC lk gt)<|Vw (ZbC lk lk)<|mw<|Zar<|?_
 refine Zag<|Zaa<|Zae rz<|rT'<|?_
 refine bvx ?_;first | rfl | (rw[Bool.eq_iff_iff];simp)
theorem indexF_a {p:Chg→Bool}{f:FuncId}{caps:List AV}(hp : ∀ (c:Chg) (h:AH),ACalls Tryz.prog f ([.agg [iv c.1,iv c.2.1,iv c.2.2.1,sv c.2.2.2]]++caps) h fun x h'=>h'=h∧x=.ret (bv (p c))) {l:List Chg}{full:Bool}{h:AH}(hl:l.length≤9223372036854775807) :
  Ac 145 [.sl l.length 4 full (rows chgC l),.clo (.func f) caps] h (iv (if l.findIdx p<l.length then (l.findIdx p:Int) else -1)):=ixChgC_a (fun c _ E=>hp c _) hl
def Zl4 (a:Loc):List Chg→Loc
 | []=>a
 | c::l=>Zl4 c.2 l
theorem Zgg : ∀ {a:Loc}{l:List Chg}(h:0<l.length),Zl4 a l=(l[l.length-1]'(by omega)).2
 | a,[c],_=>rfl
 | a,c::d::l,_=>by
  rw[Zl4,Zgg (l:=d::l) (by simp)]
  rfl
def ZjP (t:Tab) (n:Int):Nat:=t.2.findIdx (fun c=>decide (n<c.1))
theorem Zs8 (t:Tab) (n:Int):ZjP t n≤t.2.length:=List.findIdx_le_length
def Zf2 (t:Tab) (n:Int):Loc:=Zl4 t.1 (t.2.take (ZjP t n))
theorem Zr6 {a b:Int}{c:ByteArray}{l:List Chg}{full:Bool}{id v0 ty:Nat}{h:AH}(h1:h[id]?=some (.mk v0 ty 4 [iv a,iv b,sv c,.sl l.length 4 full (rows chgC l)])) (hl:l.length≤9223372036854775807) :
  Ac 147 [.ptr id v0 0] h (.agg [iv (Zl4 (a,b,c) l).1,iv (Zl4 (a,b,c) l).2.1,sv (Zl4 (a,b,c) l).2.2]):=by
 have hid:id<h.length:=(List.getElem?_eq_some_iff.1 h1).1
 refine tI' k147 fun N hn hlt hlA hbd=>?_
 simp only[tb'] at hbd ⊢
 refine wr'<|E' (ZaW (hl0 hn) ha0) pt<|sn'<|Zam<|wr'<|mw<|Vw (Zbp lk)<|Vw (Zab lk)<|Vw (Zab lk)<|Vw (Zac lk (ZeH h1) gt3)<|Vw (ZaL lk)<|?_
 refine mw<|sn'<|wr'<|mw<|Vw (ZbC lk lki)<|sn'<|?_
 refine cd' lk (fun hc1=>?_) (fun hc1=>?_)
 ·have hl0:0<l.length:=by omega
  refine wr'<|mw<|Vw (Zbp lk)<|Vw (Zab lk)<|Vw (Zab lk)<|Vw (Zac lk (ZeH h1) gt3)<|mw<|?_
  refine V' (ZbB lk lki om om) pt ?_
  refine V' (ZaU (k:=l.length-1) lk lk Zca (nb' rfl) ro om ro rfl) pt ?_
  refine Vw (Zbt lk dp1)<|Vw (ZaI lk Zoc rfl)<|E' (Zai lk cv gx rfl (nb' rfl) rfl Zci (hs0 hn)) ptn<|sn'<|Zaa<|Zah<|Zae (rs1 (rr_c gt gx (ld1 Zbx rfl)))<|rT'<|?_
  rw[Zgg hl0]
 have hl0:l=[]:=List.eq_nil_of_length_eq_zero om
 refine Zaf<|Zag<|wr'<|mw<|Vw (Zbp lk)<|Vw (Zab lk)<|Vw (Zab lk)<|Vw (Zao lk (ZeH h1) Zbx rfl)<|E' (Zai lk cv gx rfl (nb' rfl) rfl Zci (hs0 hn)) ptn<|sn'<|Zaa<|Zae (rs1 (rr_c gt gx (ld1 Zbx rfl)))<|?_
 refine rT' ?_
 subst hl0;rfl
theorem there_a {t:Tab}{n:Int}{full:Bool}{h:AH}(hl:t.2.length≤9223372036854775807) :
  Ac 71 [.agg [iv t.1.1,iv t.1.2.1,sv t.1.2.2,.sl t.2.length 4 full (rows chgC t.2)],iv n] h (.agg [iv (Zf2 t n).1,iv (Zf2 t n).2.1,sv (Zf2 t n).2.2]):=by
 have haf:=Zs8 t n
 refine tI' k71 fun N hn hlt hlA hbd=>?_
 simp only[tb'] at hbd ⊢
 refine wr'<|E' (Zbd cv rfl (hl0 hn) ha0) pt<|E' (Zbd cv rfl (hl1 hn) ha1) pt<|E' (ZaW (hl2 hn) ha2) pt<|Zar<|?_
 refine Zba (ALe.icePtr gx gt3 (by simp) pt3 (hs1 hn)) ?_
 refine wr'<|Vw (Zab lk)<|Vw (Zac lk gx gt3)<|Vw (ZfZ mp)<|?_
 refine Zad mp (indexF_a (p:=fun c=>decide (n<c.1)) (l:=t.2) (fun c h=>there1_a) hl) pt ?_
 refine mw<|sn'<|Zam<|wr'<|mw<|Vw (Zbc lk lki)<|sn'<|?_
 refine cd' lk (fun hc1=>?_) (fun hc1=>?_)
 ·have he:ZjP t n=t.2.length:=by have haf2:=haf;unfold ZjP at haf2 ⊢;rcases Nat.lt_or_ge (t.2.findIdx fun c=>decide (n<c.1)) t.2.length with e | e;rw[if_pos e] at hc1;omega;omega
  refine Zav<|Vw (Zab lk)<|Vw (Zac lk gx gt3)<|Vw (ZaL lk)<|mw<|sn'<|Zam<|Zb2<|Dw (Zab lk)<|Dw (Zao lk gx Zbx rfl)<|Dw (Zab lk)<|Dw (Zac lk gx gt3)<|Dw (v_mv lk)<|?_
  refine D' (v_hi (k:=t.2.length) lk lk Zca ro om ro) pt ?_
  refine Dw (Zau (Ze6 cv rfl cv rfl))<|Dw (Zau (Ze5 cv rfl))<|Zmh rfl rfl (hlk hn rfl) (l_box cv rfl) pt Zi2<|Dw (v_mv lk)<|ZbO<|?_
  refine Zny Zhs ?_
  refine sn'<|wr'<|mw<|?_
  refine Zad mp (Zr6 (l:=t.2.take t.2.length) gx (by rw[List.length_take];omega)) pt ?_
  refine E' (Zai lk cv gx rfl (nb' rfl) rfl Zci (hs2 hn)) ptn<|sn'<|Zaa<|Zae (rs1 (rr_c gt gx (ld1 Zbx rfl)))<|rT'<|?_
  rw[Zf2,he]
 have he:t.2.findIdx (fun c=>decide (n<c.1))<t.2.length:=by rcases Nat.lt_or_ge (t.2.findIdx fun c=>decide (n<c.1)) t.2.length with e | e;exact e;rw[if_neg om] at hc1;omega
 rw[if_pos he] at *
 refine Zaf<|Zag<|Zam<|Zb2<|Dw (Zab lk)<|Dw (Zao lk gx Zbx rfl)<|Dw (Zab lk)<|Dw (Zac lk gx gt3)<|Dw (v_mv lk)<|?_
 refine D' (v_hi (k:=ZjP t n) lk lk Zca ro om ro) pt ?_
 refine Dw (Zau (Ze6 cv rfl cv rfl))<|Dw (Zau (Ze5 cv rfl))<|Zmh rfl rfl (hlk hn rfl) (l_box cv rfl) pt Zi2<|Dw (v_mv lk)<|ZbO<|?_
 refine Zny Zhs ?_
 refine sn'<|wr'<|mw<|?_
 refine Zad mp (Zr6 (l:=t.2.take (ZjP t n)) gx (by rw[List.length_take];omega)) pt ?_
 exact E' (Zai lk cv gx rfl (nb' rfl) rfl Zci (hs2 hn)) ptn<|sn'<|Zaa<|Zae (rs1 (rr_c gt gx (ld1 Zbx rfl)))<|rT' rfl
theorem tlook_a {t:Tab}{n:Int}{full:Bool}{h:AH}(ht:okT t) :
  Ac 17 [.agg [iv t.1.1,iv t.1.2.1,sv t.1.2.2,.sl t.2.length 4 full (rows chgC t.2)],iv n] h (.tup [.agg (locC (if ZbH t=0∧ZdY n=true then Zf2 t n else (0,0,⟨#[]⟩))),iv (if ZbH t≠0 then ZbH t else if ZdY n=true then 0 else 3)]):=by
 refine tI' k17 fun N hn hlt hlA hbd=>?_
 simp only[tb'] at hbd ⊢
 refine wr'<|E' (Zbd cv rfl (hl0 hn) ha0) pt<|E' (ZaW (hl1 hn) ha1) pt<|mw<|sn'<|Zam<|wr'<|Vw (Zao lk gx Zhr rfl)<|Zad mp (ZnF (l:=t.2) ht.1 ht.2) pt<|mw<|Zar<|?_
 refine Zag<|wr'<|mw<|Vw (ZaX lk lki)<|sn'<|?_
 refine cd' lk (fun hc1=>?_) (fun hc1=>?_)
 ·have hv:ZbH t≠0:=hc1
  refine wr'<|Vw (Zau Zlc)<|mw<|E' (Zai lk cv gx rfl (nb' rfl) rfl Zci (hs1 hn)) ptn<|mw<|sn'<|Zaa<|Zah<|Zae (rsn (rm1 (rr_c gt gx (ld1 Zbx rfl)) (rm1 (rr_t gt) rm0)))<|rT'<|?_
  rw[if_neg (fun e=>hv e.1),if_pos hv]
 have hv:ZbH t=0:=Decidable.of_not_not hc1
 refine Zaf<|Zag<|Zam<|wr'<|mw<|Zad mp (time_a) pt<|Vw (Zax lk)<|sn'<|?_
 refine Zaw lk (fun hc2=>?_) (fun hc2=>?_)
 ·have hb:ZdY n=false:=by simpa using hc2
  refine wr'<|Vw (Zau Zjc)<|E' (Zai lk cv gx rfl (nb' rfl) rfl Zci (hs1 hn)) ptn<|mw<|sn'<|Zaa<|Zah<|Zae (rsn (rm1 (rr_c gt gx (ld1 Zbx rfl)) (rm1 (rr_t gt) rm0)))<|rT'<|?_
  rw[if_neg (by rw[hb];simp),if_neg (by simpa using hv),if_neg (by rw[hb];simp)]
 have hb:ZdY n=true:=by simpa using hc2
 refine Zaf<|Zag<|wr'<|Vw (Zao lk gx Zhr rfl)<|mw<|?_
 refine Zad mp (there_a (t:=t) (by have:=Zp4 hv;omega)) pt ?_
 refine E' (Zai lk cv gx rfl (nb' rfl) rfl Zci (hs1 hn)) ptn<|mw<|sn'<|Zaa<|Zae (rsn (rm1 (rr_c gt gx (ld1 Zbx rfl)) (rm1 (rr_t gt) rm0)))<|rT'<|?_
 rw[if_pos ⟨hv,hb⟩,if_neg (by simpa using hv),if_pos hb]
end Go.Proofs.YtlekejpogddndaaGreatDoor
end
section
namespace Go.Ab
section
variable {P : Program} {n0 : Nat} {Q : AX → List AV → AH → Prop} {T : List AV} {h : AH} {a : AC}
theorem Zog {b:AC}{ι:Type}(f:ι→List (Nat×AV)) (H:ι→AH) (J:ι→Prop) (ha:aw P n0 a (AX.thn (fun T' h' => ∃ i,J i∧ALe n0 T' h' (Zdh T (f i)) (H i)) Q) T h) (hb : ∀ i,J i→aw P n0 b Q (Zdh T (f i)) (H i)):aw P n0 (.seq a b) Q T h :=
 w_seqc (fun i=>(Zdh T (f i),H i)) J ha hb
theorem SimH.renew {w:World}{g:Gh}{h:AH}(hs:SimH w g h) {id v':Nat}(hid:id<h.length) (hb : ∀ ver l,g.loc id ver=some l→ver<v') (A:Option Addr) (ty st:Nat) :
  SimH w (g.add id v' (A,0)) (h.set id (.mk v' ty st []))∧g.le (g.add id v' (A,0)) ∧ ∀ k,Ow (g.add id v' (A,0)) (h.set id (.mk v' ty st [])) k→Ow g h k:=by
 have hloc : ∀ i v l,g.loc i v=some l→(g.add id v' (A,0)).loc i v=some l:=by
  intro i v l hi
  simp only[Gh.add]
  rw[if_neg]
  ·exact hi
  ·rintro⟨rfl,rfl⟩;exact Nat.lt_irrefl _ (hb _ _ hi)
 have:=hs.put (w':=w) (g':=g.add id v' (A,0)) (h':=h.set id (.mk v' ty st [])) id v' ty st [] A 0 ?_ ?_ ?_ rfl hloc ?_ ?_ (fun v l hl=>Nat.le_of_lt (hb v l hl)) (fun k hk=>rfl) (Nat.le_refl _) (by simp[maxLen]) (.inl ⟨rfl,rfl⟩) (fun _ _ h=>absurd rfl h)
 ·exact⟨this.1,this.2.1,fun k hk=>(this.2.2 k hk).resolve_right (fun h=>h.2 rfl)⟩
 ·intro i hi
  rw[List.getElem?_set_ne (Ne.symm hi)]
 ·rw[List.getElem?_set_self hid]
 ·simp
 ·intro i v l hi
  simp only[Gh.add] at hi
  split at hi
  ·right;assumption
  ·left;exact hi
 ·simp[Gh.add]
theorem ZlA {h:AH}{i j:Nat}{x y z:Ent}(hne:j≠i):((h.set i x).set j y).set i z=(h.set i z).set j y:=by
 rw[List.set_comm _ _ hne,List.set_set]
theorem ALe.iceCellNew {T:List AV}{h h1 h2:AH}{id j ver ty s n k v' t' s' ty2 st2:Nat}{cells cs cs' ds:List AV}(hi:h[id]?=some (.mk ver ty s cells)) (hj:h[j]?=some (.mk v' t' s' cs)) (hne:j≠id) (hk:cs[k]?=some (.own id ver n)) (hc:cells.take (n*s)=ds) (hl:n*s≤cells.length) (hp:aPut cs (some k) (.sl n s false ds)=cs')
  (e1:h.set id (.mk (ver+1) ty2 st2 [])=h1) (e2:h1.set j (.mk v' t' s' cs')=h2):ALe n0 T h T h2:=fun w0 S0 g0 a w g st=>by
 subst hp hc e1 e2
 have hid:id<h.length:=(List.getElem?_eq_some_iff.1 hi).1
 obtain⟨h1,h2,h3⟩:=st.sim.ice hi
 have htm:=RepL.mono (g.le_ice h id) (fun _ _=>rfl) _ _ st.tmps
 obtain⟨k1,k2⟩:=h1.tell (id:=j) (by rw[List.getElem?_set_ne (Ne.symm hne)];exact hj) hk (fun u hu=>h3 n u hl (by
  simp only[Rep] at hu ⊢
  exact hu))
 obtain⟨r1,r2,r3⟩:=k1.renew (id:=id) (v':=ver+1) (by simpa using hid) (fun v l hv=>by
  have:=(st.sim.fresh id v l hv).2 _ _ _ _ hi
  omega) none ty2 st2
 have htm2:=RepL.mono r2 (fun _ _=>rfl) _ _ htm
 rw[ZlA hne] at r1 r3
 exact⟨_,htm2,st.defers,r1,st.fr,(st.le.trans (g.le_ice h id)).trans r2,st.bd,fun i hi=>st.ow i (h2 i (k2 i (r3 i hi)))⟩
theorem ALe.own0CellRe {T:List AV}{h h1:AH}{id j ver ty s v' t' s' k st st2 ty2:Nat}{cells cs ds cs':List AV}(hi:h[id]?=some (.mk ver ty s cells)) (hj:h[j]?=some (.mk v' t' s' cs)) (hne:j≠id) (hk:cs[k]?=some (.sl 0 st true ds)) (hp:aPut cs (some k) (.own id (ver+1) 0)=cs') (he:(h.set id (Ent.mk (ver+1) ty2 st2 [])).set j (Ent.mk v' t' s' cs')=h1):ALe n0 T h T h1:=fun w0 S0 g0 a w g s=>by
 subst he hp
 obtain⟨A1,cap1,l1,l2,l3⟩:=s.sim.ent _ _ _ _ _ hj
 have hid:id<h.length:=(List.getElem?_eq_some_iff.1 hi).1
 have hjl:j<h.length:=(List.getElem?_eq_some_iff.1 hj).1
 rcases l3 with ⟨h0,_⟩ | ⟨b,arr,rfl,x1,x2,x3,x4,x5,x6⟩
 ·rw[h0] at hk;simp at hk
 obtain⟨u,hu,hr⟩:=x6.get hk
 have hcell:w.cell? ⟨b,k,none⟩=some u:=by
  rw[cell_of_row w b k arr t' (0,0) x3]
  rw[List.getElem?_take] at hu
  split at hu
  ·simpa using hu
  ·cases hu
 simp only[Rep] at hr
 obtain⟨_,A,cap,rfl,_,_,hc,_,_⟩:=hr
 obtain rfl:cap=0:=(hc trivial).symm
 obtain⟨q1,q2,q3⟩:=s.sim.renew (id:=id) (v':=ver+1) hid (fun v l hv=>by
  have:=(s.sim.fresh id v l hv).2 _ _ _ _ hi
  omega) A ty2 st2
 have htm:=RepL.mono q2 (fun _ _=>rfl) _ _ s.tmps
 obtain⟨r1,r2⟩:=q1.tell1 (id:=j) (c':=.own id (ver+1) 0) (by rw[List.getElem?_set_ne (Ne.symm hne)];exact hj) hk (by
  intro b' cap' u' e1 e2 _
  have:=q2.loc _ _ _ l1
  rw[this] at e1
  simp only[Option.some.injEq,Prod.mk.injEq,Addr.mk.injEq] at e1
  obtain⟨⟨rfl,_⟩,_⟩:=e1
  rw[hcell] at e2
  cases e2
  exact Zb0 (Nat.le_refl _) (by simp[maxLen]))
 exact⟨_,htm,s.defers,r1,s.fr,s.le.trans q2,s.bd,fun i hi=>s.ow i (q3 i (r2 i hi))⟩
theorem ALe.newEnt {T:List AV}{h h1:AH}{ty st:Nat}(he:h++[.mk 0 ty st []]=h1):ALe n0 T h T h1:=fun w0 S0 g0 a w g s=>by
 subst he
 obtain⟨q1,q2,q3⟩:=s.sim.add0 (w':=w) none ty st (fun _ _=>rfl) (Nat.le_refl _)
 exact⟨_,RepL.mono q2 (fun _ _=>rfl) _ _ s.tmps,s.defers,q1,s.fr,s.le.trans q2,s.bd,fun i hi=>(q3 i hi).elim (s.ow i) (fun h=>.inr (Nat.le_trans s.fr.size h))⟩
end
end Go.Ab
end
section
namespace Go.Ab
section
variable {P : Program}
abbrev dfo:Obj:=.deferred (some [])
abbrev mkD (D:Nat):Ent:=.raw D dfo [] []
theorem putA (w:World) (k j:Nat) (o:Obj) (h:j≠k):(w.putObj k o).heap[j]?=w.heap[j]?:=World.putObj_heap_other h
theorem raw_or {h:AH}{i:Nat}{e:Ent}{j k:Nat}{o:Obj}{T:List AV}{vs:List Value}(h1:(h.set i e)[j]?=some (.raw k o T vs)):(j=i∧e=.raw k o T vs)∨(j≠i∧h[j]?=some (.raw k o T vs)):=by
 by_cases hi:j=i
 ·subst hi
  by_cases hl:j<h.length
  ·rw[List.getElem?_set_self hl] at h1;cases h1;exact .inl ⟨rfl,rfl⟩
  ·rw[List.getElem?_eq_none (by simpa using hl)] at h1;cases h1
 ·rw[List.getElem?_set_ne (Ne.symm hi)] at h1;exact .inr ⟨hi,h1⟩
theorem SimH.setRaw {w:World}{g:Gh}{h:AH}(hs:SimH w g h) {i k:Nat}{o o':Obj}{T:List AV}{vs:List Value}(hi:h[i]?=some (.raw k o T vs)) (ho:o'.isCells=false) (e:Ent) (he:e=.raw k o' T vs∨e=.gone) :
  SimH (w.putObj k o') g (h.set i e)∧Fr w (Ow g h) (w.putObj k o') ∧ ∀ j,Ow g (h.set i e) j→Ow g h j:=by
 have hil:i<h.length:=(List.getElem?_eq_some_iff.1 hi).1
 obtain⟨r1,r2,r3,r4⟩:=hs.raw _ _ _ _ _ hi
 have hkl:k<w.heap.size:=(Array.getElem?_eq_some_iff.1 r1).1
 have hget : ∀ {j v ty s:Nat} {c:List AV},(h.set i e)[j]?=some (.mk v ty s c)→j≠i∧h[j]?=some (.mk v ty s c):=by
  intro j v ty s c h1
  by_cases hj:j=i
  ·subst hj
   rw[List.getElem?_set_self hil] at h1
   rcases he with rfl | rfl <;> cases h1
  ·rw[List.getElem?_set_ne (Ne.symm hj)] at h1;exact⟨hj,h1⟩
 have how : ∀ j b,OwAt g (h.set i e) j b→OwAt g h j b:=by
  rintro j b ⟨v,ty,s,c,a,cap,e1,e2⟩
  exact⟨v,ty,s,c,a,cap,(hget e1).2,e2⟩
 have hrw : ∀ {j b:Nat} {x:Obj} {T':List AV} {vs':List Value},(h.set i e)[j]?=some (.raw b x T' vs')→(j=i∧b=k∧x=o'∧T'=T∧vs'=vs)∨(j≠i∧h[j]?=some (.raw b x T' vs')):=by
  intro j b x T' vs' h1
  rcases raw_or h1 with ⟨h2,h3⟩ | h2
  ·rcases he with rfl | rfl <;> cases h3
   exact .inl ⟨h2,rfl,rfl,rfl,rfl⟩
  ·exact .inr h2
 have hrw' : ∀ j b,RwAt (h.set i e) j b→RwAt h j b:=by
  rintro j b ⟨x,T',vs',h1⟩
  rcases hrw h1 with ⟨rfl,rfl,_⟩ | ⟨_,h2⟩
  ·exact⟨_,_,_,hi⟩
  ·exact⟨_,_,_,h2⟩
 have hD : ∀ b,g.D b→(w.putObj k o').heap[b]?=w.heap[b]?:=fun b hb=>putA _ _ _ _ (fun e=>r3 (e ▸ hb))
 have hne : ∀ {j b:Nat},OwAt g h j b→b≠k:=fun hb e=>hs.own_ne_raw hb (by subst e;exact⟨o,T,vs,hi⟩)
 refine⟨⟨?_,fun a b c h1 h2=>hs.inj a b c (how _ _ h1) (how _ _ h2),fun b hb=>by simpa using hs.lt b hb,fun j v l hl=>?_,fun j v l hl hf=>?_,hs.glob.mono (fun _ h=>h) hD,?_,fun a b c h1 h2=>hs.rinj a b c (hrw' _ _ h1) (hrw' _ _ h2)⟩,⟨rfl,rfl,rfl,by simp,fun b _ hn=>putA _ _ _ _ (fun e=>hn (.inr ⟨i,o,T,vs,by subst e;exact hi⟩))⟩,fun j hj=>hj.imp (fun ⟨a,h1⟩=>⟨a,how _ _ h1⟩) (fun ⟨a,h1⟩=>⟨a,hrw' _ _ h1⟩)⟩
 ·intro j v ty s c h1
  obtain⟨hj,h2⟩:=hget h1
  obtain⟨A,cap,e1,e2,e3⟩:=hs.ent _ _ _ _ _ h2
  refine⟨A,cap,e1,e2,e3.mono (Gh.le.refl g) (fun _ _ _ h=>h) hD (fun b hb h0=>?_)⟩
  cases A with
  | none=>simp at hb
  | some a=>exact putA _ _ _ _ (hne (j:=j) ⟨v,ty,s,c,a,cap,h2,e1,h0,by simpa using hb⟩)
 ·have:=hs.fresh j v l hl
  exact⟨by simpa using this.1,fun v' ty s c h1=>this.2 _ _ _ _ (hget h1).2⟩
 ·by_cases hj:j=i
  ·subst hj;rw[List.getElem?_set_self hil] at hf;rcases he with rfl | rfl <;> cases hf
  ·rw[List.getElem?_set_ne (Ne.symm hj)] at hf;exact hs.free _ _ _ hl hf
 ·intro j b x T' vs' h1
  rcases hrw h1 with ⟨rfl,rfl,rfl,rfl,rfl⟩ | ⟨hj,h2⟩
  ·exact⟨World.putObj_heap_same hkl,ho,r3,RepL.mono (Gh.le.refl g) hD _ _ r4⟩
  ·obtain⟨q1,q2,q3,q4⟩:=hs.raw _ _ _ _ _ h2
   exact⟨(putA _ _ _ _ (fun e=>hj (hs.rinj j i b ⟨_,_,_,h2⟩ ⟨o,T,vs,by subst e;exact hi⟩))).trans q1,q2,q3,RepL.mono (Gh.le.refl g) hD _ _ q4⟩
theorem SimH.newRaw {w:World}{g:Gh}{h:AH}(hs:SimH w g h) {o:Obj}{T:List AV}{vs:List Value}(ho:o.isCells=false) (hr:RepL w g T vs) :
  SimH (w.alloc o) g (h++[.raw w.heap.size o T vs])∧Fr w (Ow g h) (w.alloc o) ∧ ∀ j,Ow g (h++[.raw w.heap.size o T vs]) j→Ow g h j∨w.heap.size≤j:=by
 have hget : ∀ {j v ty s:Nat} {c:List AV},(h++[.raw w.heap.size o T vs])[j]?=some (.mk v ty s c)→h[j]?=some (.mk v ty s c):=by
  intro j v ty s c h1
  by_cases hj:j<h.length
  ·rwa [List.getElem?_append_left hj] at h1
  ·rw[List.getElem?_append_right om] at h1
   cases hk:j-h.length with
   | zero=>rw[hk] at h1;simp at h1
   | succ m=>rw[hk] at h1;simp at h1
 have hrw : ∀ {j b:Nat} {x:Obj} {T':List AV} {vs':List Value},(h++[.raw w.heap.size o T vs])[j]?=some (.raw b x T' vs')→(j=h.length∧b=w.heap.size∧x=o∧T'=T∧vs'=vs)∨h[j]?=some (.raw b x T' vs'):=by
  intro j b x T' vs' h1
  by_cases hj:j<h.length
  ·rw[List.getElem?_append_left hj] at h1;exact .inr h1
  ·rw[List.getElem?_append_right om] at h1
   cases hk:j-h.length with
   | zero=>rw[hk] at h1;simp at h1;obtain⟨rfl,rfl,rfl,rfl⟩:=h1;exact .inl ⟨by omega,rfl,rfl,rfl,rfl⟩
   | succ m=>rw[hk] at h1;simp at h1
 have how : ∀ j b,OwAt g (h++[.raw w.heap.size o T vs]) j b→OwAt g h j b:=by
  rintro j b ⟨v,ty,s,c,a,cap,e1,e2⟩
  exact⟨v,ty,s,c,a,cap,hget e1,e2⟩
 have hold : ∀ b,b<w.heap.size→(w.alloc o).heap[b]?=w.heap[b]?:=fun b hb=>Zsq _ _ _ hb
 have hD : ∀ b,g.D b→(w.alloc o).heap[b]?=w.heap[b]?:=fun b hb=>hold b (hs.lt b hb)
 have hlt : ∀ {j b:Nat},RwAt h j b→b<w.heap.size:=fun hb=>(hs.own_not_D (.inr ⟨_,hb⟩)).2
 refine⟨⟨?_,fun a b c h1 h2=>hs.inj a b c (how _ _ h1) (how _ _ h2),fun b hb=>by have:=hs.lt b hb;simp;omega,fun j v l hl=>?_,fun j v l hl hf=>?_,hs.glob.mono (fun _ h=>h) hD,?_,?_⟩,⟨rfl,rfl,rfl,by simp,fun b hb _=>hold b hb⟩,?_⟩
 ·intro j v ty s c h1
  have h2:=hget h1
  obtain⟨A,cap,e1,e2,e3⟩:=hs.ent _ _ _ _ _ h2
  refine⟨A,cap,e1,e2,e3.mono (Gh.le.refl g) (fun _ _ _ h=>h) hD (fun b hb h0=>?_)⟩
  cases A with
  | none=>simp at hb
  | some a=>exact hold b (hs.own_not_D (.inl ⟨j,v,ty,s,c,a,cap,h2,e1,h0,by simpa using hb⟩)).2
 ·have:=hs.fresh j v l hl
  exact⟨by simp;omega,fun v' ty s c h1=>this.2 _ _ _ _ (hget h1)⟩
 ·have:=(hs.fresh j v l hl).1
  rw[List.getElem?_append_left this] at hf
  exact hs.free _ _ _ hl hf
 ·intro j b x T' vs' h1
  rcases hrw h1 with ⟨rfl,rfl,rfl,rfl,rfl⟩ | h2
  ·exact⟨World.alloc_heap_new w _,ho,fun hd=>Nat.lt_irrefl _ (hs.lt _ hd),RepL.mono (Gh.le.refl g) hD _ _ hr⟩
  ·obtain⟨q1,q2,q3,q4⟩:=hs.raw _ _ _ _ _ h2
   exact⟨(hold b (hlt ⟨_,_,_,h2⟩)).trans q1,q2,q3,RepL.mono (Gh.le.refl g) hD _ _ q4⟩
 ·rintro a b c ⟨x1,x2,x3,h1⟩ ⟨y1,y2,y3,h2⟩
  rcases hrw h1 with ⟨rfl,rfl,_⟩ | h1'
  ·rcases hrw h2 with ⟨rfl,_⟩ | h2'
   ·rfl
   ·exact absurd (hlt ⟨_,_,_,h2'⟩) (Nat.lt_irrefl _)
  ·rcases hrw h2 with ⟨rfl,rfl,_⟩ | h2'
   ·exact absurd (hlt ⟨_,_,_,h1'⟩) (Nat.lt_irrefl _)
   ·exact hs.rinj a b c ⟨_,_,_,h1'⟩ ⟨_,_,_,h2'⟩
 ·rintro b (⟨a,h1⟩ | ⟨a,x1,x2,x3,h1⟩)
  ·exact .inl (.inl ⟨a,how _ _ h1⟩)
  ·rcases hrw h1 with ⟨_,rfl,_⟩ | h2
   ·exact .inr (Nat.le_refl _)
   ·exact .inl (.inr ⟨a,_,_,_,h2⟩)
theorem St.start {w:World}{g:Gh}{h:AH}{T:List AV}{a:Act}(hs:SimH w g h) (ht:RepL w g T a.tmps.toList):St h.length w (Ow g h) ⟨g.D,g.loc,a.defers⟩ T h a w g :=
 ⟨ht,rfl,hs,Fr.refl _ _,⟨fun _ h=>h,fun _ _ _ h=>h⟩,fun i v l hl=>(hs.fresh i v l hl).1,fun k hk=>.inl hk⟩
structure LkY (w:World) (g:Gh) (h:AH) (w':World) (g':Gh) (h':AH):Prop where
 sim:SimH w' g' h'
 le:g.le g'
 fr:Fr w (Ow g h) w'
 ow : ∀ k,Ow g' h' k→Ow g h k∨w.heap.size≤k
theorem LkY.trans {a b c:World}{ga gb gc:Gh}{ha hb hc:AH}(h:LkY a ga ha b gb hb) (k:LkY b gb hb c gc hc):LkY a ga ha c gc hc:=by
 refine⟨k.sim,h.le.trans k.le,h.fr.trans k.fr ?_,?_⟩
 ·intro i hi hlt
  exact (h.ow i hi).resolve_right om
 ·intro i hi
  rcases k.ow i hi with ho | ho
  ·exact h.ow i ho
  ·exact .inr (Nat.le_trans h.fr.size ho)
theorem LkY.of_st {w w':World}{g g':Gh}{h h':AH}{n0:Nat}{df:List Deferred}{T:List AV}{a:Act}(st:St n0 w (Ow g h) ⟨g.D,g.loc,df⟩ T h' a w' g'):LkY w g h w' g' h':=⟨st.sim,⟨st.le.D,st.le.loc⟩,st.fr,st.ow⟩
theorem LkY.rep {w w':World}{g g':Gh}{h h':AH}(hs:SimH w g h) (k:LkY w g h w' g' h') {T:List AV}{vs:List Value}(ht:RepL w g T vs):RepL w' g' T vs :=
 RepL.mono k.le (fun b hb=>k.fr.block b (hs.lt b hb) (fun ho=>(hs.own_not_D ho).1 hb)) _ _ ht
theorem LkY.setRaw {w:World}{g:Gh}{h:AH}(hs:SimH w g h) {i k:Nat}{o o':Obj}{T:List AV}{vs:List Value}(hi:h[i]?=some (.raw k o T vs)) (ho:o'.isCells=false) (e:Ent) (he:e=.raw k o' T vs∨e=.gone):LkY w g h (w.putObj k o') g (h.set i e):=by
 obtain⟨h1,h2,h3⟩:=hs.setRaw hi ho e he
 exact⟨h1,Gh.le.refl g,h2,fun k hk=>.inl (h3 k hk)⟩
theorem LkY.newRaw {w:World}{g:Gh}{h:AH}(hs:SimH w g h) {o:Obj}{T:List AV}{vs:List Value}(ho:o.isCells=false) (hr:RepL w g T vs):LkY w g h (w.alloc o) g (h++[.raw w.heap.size o T vs]):=by
 obtain⟨h1,h2,h3⟩:=hs.newRaw ho hr
 exact⟨h1,Gh.le.refl g,h2,h3⟩
structure RgC where
 pre:List Code
 id:Nat
 g:Operand
 ps:Array Tmp
 asg:Code
 body:Code
 post:List Code
def Zsz:Code→List Code
 | .seq a b=>Zsz a++Zsz b
 | c=>[c]
def ZbX:List Code→Option RgC
 | []=>none
 | .block id (.rangeFunc g ps a b)::y=>some ⟨[],id,g,ps,a,b,y⟩
 | x::y=>(ZbX y).map fun r=>{ r with pre:=x::r.pre }
def splitR (c:Code):Option RgC:=ZbX (Zsz c)
def wpL (F:Fence) (n:Nat) (P:Program):List Code→(Exit→Act→World→Prop)→Act→World→Prop
 | [],Q,a,w=>Q .normal a w
 | x::l,Q,a,w=>x.wpIn F n P (Exit.then (wpL F n P l Q) Q) a w
theorem Zkd {F:Fence}{n:Nat} : ∀ {l:List Code}{Q Q':Exit→Act→World→Prop}{a:Act}{w:World},wpL F n P l Q a w→(∀ e a w,Q e a w→Q' e a w)→wpL F n P l Q' a w
 | [],Q,Q',a,w,hq,h=>h _ _ _ hq
 | x::l,Q,Q',a,w,hq,h=>by
  refine wpIn_mono hq ?_
  intro e a w hq
  cases e with
  | normal=>exact Zkd hq h
  | _=>exact h _ _ _ hq
theorem Zke {F:Fence}{n:Nat} : ∀ (l m:List Code) {Q:Exit→Act→World→Prop}{a:Act}{w:World},wpL F n P (l++m) Q a w↔wpL F n P l (Exit.then (wpL F n P m Q) Q) a w
 | [],m,Q,a,w=>Iff.rfl
 | x::l,m,Q,a,w=>by
  constructor
  ·intro hq
   refine wpIn_mono hq ?_
   intro e a w hq
   cases e with
   | normal=>exact (Zke l m).1 hq
   | _=>exact hq
  ·intro hq
   refine wpIn_mono hq ?_
   intro e a w hq
   cases e with
   | normal=>exact (Zke l m).2 hq
   | _=>exact hq
theorem ZpO {F:Fence}{n:Nat}(c:Code) : ∀ {Q:Exit→Act→World→Prop}{a:Act}{w:World},wpL F n P (Zsz c) Q a w→c.wpIn F n P Q a w:=by
 fun_induction Zsz c with
 | case1 x y ihx ihy =>
  intro Q a w hq
  refine wpIn_seq (wpIn_mono (ihx ((Zke _ _).1 hq)) ?_)
  intro e a w hq
  cases e with
  | normal=>exact ihy hq
  | _=>exact hq
 | case2 c hc =>
  intro Q a w hq
  refine wpIn_mono (show c.wpIn F n P (Exit.then (wpL F n P [] Q) Q) a w from hq) ?_
  intro e a w hq
  cases e <;> exact hq
theorem Zrq : ∀ {l:List Code}{r:RgC},ZbX l=some r→l=r.pre++Code.block r.id (.rangeFunc r.g r.ps r.asg r.body)::r.post:=by
 intro l
 fun_induction ZbX l with
 | case1=>intro r h;cases h
 | case2 id g ps x b y=>intro r h;cases h;rfl
 | case3 x y hx ih =>
  intro r h
  obtain⟨r',h1,rfl⟩:=Option.map_eq_some_iff.1 h
  rw[ih h1];rfl
theorem Zly {F:Fence}{n:Nat}{Q:Exit→Act→World→Prop}(c:Code) {r:RgC}(hc:splitR c=some r) {a:Act}{w:World}
  (hw:wpL F n P r.pre (Exit.then ((Code.block r.id (.rangeFunc r.g r.ps r.asg r.body)).wpIn F n P (Exit.then (wpL F n P r.post Q) Q)) Q) a w):c.wpIn F n P Q a w:=by
 refine ZpO c ?_
 rw[Zrq hc]
 exact (Zke _ _).2 hw
structure AFR where
 pre:List AC
 g:Operand
 ps:Array Tmp
 asg:AC
 body:AC
 post:AC
 res:List AR
 ntmps:Nat
def Zhn (P:Program) (f:FuncId):Option AFR :=
 match P.funcs[f]? with
 | some fn=>if fn.name == "runtime.NumGoroutine" then none else match fn.body with
  | some c=>match splitR c with
   | some r=>match r.pre.mapM (comp P),comp P r.asg,comp P r.body,r.post.mapM (comp P),fn.results.toList.mapM (ZfL P) with
    | some p,some a,some b,some q,some rs=>some ⟨p,r.g,r.ps,a,b,q.foldr .seq .skip,rs,fn.ntmps⟩
    | _,_,_,_,_=>none
   | none=>none
  | none=>none
 | none=>none
theorem ZhO {n0:Nat} : ∀ (l:List Code) (al:List AC),l.mapM (comp P)=some al → ∀ {Q:AX→List AV→AH→Prop}{T:List AV}{h:AH},aw P n0 (al.foldr .seq .skip) Q T h →
  ∀ w0 S0 g0 a w g,St n0 w0 S0 g0 T h a w g→wpL Fence.wide 0 P l (ZmN n0 w0 S0 g0 Q) a w
 | [],al,hm,Q,T,h,hw,w0,S0,g0,a,w,g,st=>by
  simp at hm;subst hm
  exact⟨.normal,T,h,g,st,trivial,hw⟩
 | x::l,al,hm,Q,T,h,hw,w0,S0,g0,a,w,g,st=>by
  simp only[List.mapM_cons,Option.bind_eq_bind,Option.bind_eq_some_iff,Option.pure_def,Option.some.injEq] at hm
  obtain⟨ac,h1,al',h2,rfl⟩:=hm
  refine wpIn_mono (@Zfe P n0 rdN x ac h1 _ _ _ hw w0 S0 g0 a w g st) ?_
  rintro e a' w' ⟨z,T',h',g',k1,k2,k3⟩
  cases z <;> cases e <;> simp only[ExR] at k2 <;> simp only[Exit.then,AX.thn] at k3 ⊢
  case normal.normal =>
   obtain⟨T1,h1,hle,hq⟩:=k3
   obtain⟨g1,st1⟩:=hle w0 S0 g0 a' w' g' k1
   exact ZhO l al' h2 hq w0 S0 g0 a' w' g1 st1
  case exit.exit=>exact⟨_,T',h',g',k1,by simp only[ExR];exact k2,k3⟩
  case ret.ret=>exact⟨_,T',h',g',k1,by simp only[ExR],k3⟩
  case pan.panic=>exact⟨_,T',h',g',k1,by simp only[ExR];exact k2,k3⟩
def setPs (T:List AV) (ps:Array Tmp) (as1:List AV):List AV:=(ps.toList.zip as1).foldl (fun T p=>T.set p.1 p.2) T
theorem ZlG {w:World}{g:Gh} : ∀ (ps:List Tmp) (as1:List AV) (args:List Value) (T:List AV) (tm:List Value),RepL w g T tm→RepL w g as1 args →
  RepL w g ((ps.zip as1).foldl (fun T p=>T.set p.1 p.2) T) ((ps.zip args).foldl (fun T p=>T.set p.1 p.2) tm)
 | [],_,_,_,_,ht,_=>by simpa using ht
 | p::ps,[],args,T,tm,ht,ha=>by simp only[RepL] at ha;subst ha;simpa using ht
 | p::ps,c::as1,args,T,tm,ht,ha=>by
  simp only[RepL] at ha
  obtain⟨u,us,rfl,h1,h2⟩:=ha
  simp only[List.zip_cons_cons,List.foldl_cons]
  exact ZlG ps as1 us _ _ (ht.set h1) h2
theorem ZjB : ∀ (l:List (Tmp×Value)) (tm:Array Value),(l.foldl (fun t p=>t.setIfInBounds p.1 p.2) tm).toList=l.foldl (fun T p=>T.set p.1 p.2) tm.toList
 | [],tm=>rfl
 | p::l,tm=>by simp only[List.foldl_cons];rw[ZjB l];simp
def ZsZ (i l:Nat) (rdy bsy fin:Obj) (T:List AV) (vs:List Value) (R2:AE→AH→Prop):AX→List AV→AH→Prop
 | .normal,_,h=>h[i]?=some (.raw l bsy T vs)∧R2 (.ret (.v (.bool true))) (h.set i (.raw l rdy T vs))
 | .ret,_,h=>h[i]?=some (.raw l bsy T vs)∧R2 (.ret (.v (.bool false))) (h.set i (.raw l fin T vs))
 | _,_,_=>False
def asgQ (P:Program) (fr:AFR) (i l:Nat) (rdy bsy fin:Obj) (T:List AV) (vs:List Value) (R2:AE→AH→Prop) (x:AX) (T1:List AV) (h2:AH):Prop :=
 x=.normal∧h2[i]?=some (.raw l rdy T vs) ∧ ∀ n1,(h2.set i (.raw l bsy T vs)).length=n1→(∀ e∈h2.set i (.raw l bsy T vs),e.lt n1=true)→aw P n1 fr.body (ZsZ i l rdy bsy fin T vs R2) T1 (h2.set i (.raw l bsy T vs))
def Zk4 (P:Program) (fr:AFR) (i l:Nat) (rdy bsy fin:Obj) (T:List AV) (vs:List Value):Prop :=
 ∀ (as1:List AV) (h:AH) (R2:AE→AH→Prop),as1.length=fr.ps.size→h[i]?=some (.raw l rdy T vs) →
  (∀ n0,h.length=n0→(∀ e∈h,e.lt n0=true)→AV.ltL n0 as1=true→AV.bdL as1→AV.bdL T→aw P n0 fr.asg (asgQ P fr i l rdy bsy fin T vs R2) (setPs T fr.ps as1) h)→AYield P l as1 h R2
def ZeT (rs:List AR) (N D:Nat) (R:AE→AH→Prop):AX→List AV→AH→Prop
 | .normal,T,h=>h[N]?=some (mkD D)∧match aRes rs T (h.set N .gone) with
  | some c=>R (.ret c) (h.set N .gone)
  | none=>False
 | .ret,T,h=>h[N]?=some (mkD D)∧match aRes rs T (h.set N .gone) with
  | some c=>R (.ret c) (h.set N .gone)
  | none=>False
 | _,_,_=>False
def rangeA (P:Program) (fr:AFR) (R:AE→AH→Prop) (T:List AV) (h:AH):Prop :=
  ∃ gf caps,Zal T fr.g=.clo (.func gf) caps ∧ ∀ (l D:Nat) (rdy bsy fin:Obj) (vs:List Value),(∀ e∈h,e.lt h.length=true)→AV.ltL h.length T=true→Zk4 P fr (h.length+1) l rdy bsy fin T vs →
    ACalls P gf (.v (.func (.yield l) #[] #[])::caps) (h++[mkD D,.raw l rdy T vs]) fun r h3=>(∃ c,r=.ret c) ∧
      ((h3[h.length+1]?=some (.raw l rdy T vs) ∧ ∀ n0,(h3.set (h.length+1) .gone).length=n0→(∀ e∈h3.set (h.length+1) .gone,e.lt n0=true)→aw P n0 fr.post (ZeT fr.res h.length D R) T (h3.set (h.length+1) .gone)) ∨
       (h3[h.length+1]?=some (.raw l fin T vs)∧ZeT fr.res h.length D R .ret T (h3.set (h.length+1) .gone)))
def preQ (P:Program) (fr:AFR) (n0:Nat) (R:AE→AH→Prop):AX→List AV→AH→Prop
 | .normal,T,h => ∃ T1 h1,ALe n0 T h T1 h1∧rangeA P fr R T1 h1
 | .ret,T,h=>match aRes fr.res T h with
  | some c=>R (.ret c) h
  | none=>False
 | _,_,_=>False
theorem yrule {fr:AFR}{asg body:Code}(ha:comp P asg=some fr.asg) (hb:comp P body=some fr.body) {i D l:Nat}{T:List AV}{tm:Array Value}{rec:LoopState→Option Code→Loop}{fn:FuncId}
    (hrec:rec=fun st pe=>{ state:=st,pending:=pe,fn:=fn,tmps:=tm,params:=fr.ps,assign:=asg,body:=body,defers:=D }) :
    Zk4 P fr i l (.loop (rec .ready none)) (.loop (rec .busy none)) (.loop (rec .done (some .ret))) T tm.toList:=by
  intro as1 h R2 hsz hi hw w g vs hs hr
  obtain⟨q1,q2,q3,q4⟩:=hs.raw _ _ _ _ _ hi
  have hvs:vs.size=fr.ps.size:=by have:=hr.length;simp only[Array.length_toList] at this;omega
  have hy:=run_yield (P:=P) (args:=vs) q1 (by rw[hrec];exact hvs)
  rw[hrec] at hy
  refine⟨fn,_,asg,body,hy,roundIn_of_wpIn trivial ?_⟩
  have ht:RepL w g (setPs T fr.ps as1) ((fr.ps.zip vs).foldl (fun t p=>t.setIfInBounds p.1 p.2) tm).toList:=by
    have:=ZlG fr.ps.toList as1 vs.toList T tm.toList q4 hr
    rw[←Array.foldl_toList,ZjB,Array.toList_zip]
    exact this
  letI:Rd:=rdS l
  refine wpIn_mono (Zfe asg fr.asg ha (hw _ rfl hs.ltE (RepL.lt (fun i v l hl=>(hs.fresh i v l hl).1) _ _ hr) (RepL.bd _ _ hr) (RepL.bd _ _ q4)) w _ _ _ w g (St.start (a:={ tmps:=(fr.ps.zip vs).foldl (fun t p=>t.setIfInBounds p.1 p.2) tm,defers:=[] }) hs ht)) ?_
  rintro e a1 w1 ⟨x1,T1,h2,g1,st1,hx1,rfl,hi2,hw1⟩
  cases e <;> simp only[ExR] at hx1
  simp only[Exit.then]
  have k1:=LkY.of_st st1
  obtain⟨r1,_,_,_⟩:=k1.sim.raw _ _ _ _ _ hi2
  refine⟨_,run_beginRound r1 (by rw[hrec]),?_⟩
  have e0:({ rec .ready none with state:=.busy }:Loop)=rec .busy none:=by rw[hrec]
  rw[e0]
  have k2:=LkY.setRaw k1.sim hi2 (o':=.loop (rec .busy none)) rfl (.raw l (.loop (rec .busy none)) T tm.toList) (.inl rfl)
  have st2:=St.start (a:=a1) k2.sim (k2.rep k1.sim st1.tmps)
  refine wpIn_mono (Zfe body fr.body hb (hw1 _ rfl k2.sim.ltE) _ _ _ _ _ g1 st2) ?_
  rintro e a2 w2 ⟨x2,T2,h3,g2,st3,hx2,hq⟩
  have k3:=(k1.trans k2).trans (LkY.of_st st3)
  have fin : ∀ (jump : Option Code) (b : Bool), h3[i]? = some (.raw l (.loop (rec .busy none)) T tm.toList) → b = jump.isNone →
      R2 (.ret (.v (.bool b))) (h3.set i (.raw l (.loop (rec (if jump.isNone then .ready else .done) jump)) T tm.toList)) →
      ∃ v w',(Instr.endRound l jump).run P w2=.ok v w' ∧ ∃ x h' g',EndR w' g' (.returned v) x∧SimH w' g' h'∧g.le g'∧Fr w (Ow g h) w'∧(∀ k,Ow g' h' k→Ow g h k∨w.heap.size≤k)∧R2 x h':=by
    rintro jump b hi3 rfl hR
    obtain⟨p1,_,_,_⟩:=k3.sim.raw _ _ _ _ _ hi3
    refine⟨_,_,run_endRound jump p1,?_⟩
    have e1:({ rec .busy none with state:=if jump.isNone then .ready else .done,pending:=jump }:Loop)=rec (if jump.isNone then .ready else .done) jump:=by rw[hrec]
    rw[e1]
    have k4:=LkY.setRaw k3.sim hi3 (o':=.loop (rec (if jump.isNone then .ready else .done) jump)) rfl (.raw l (.loop (rec (if jump.isNone then .ready else .done) jump)) T tm.toList) (.inl rfl)
    have k5:=k3.trans k4
    exact⟨.ret (.v (.bool jump.isNone)),_,g2,by simp only[EndR,Rep],k5.sim,k5.le,k5.fr,k5.ow,hR⟩
  cases x2 <;> cases e <;> simp only[ExR] at hx2 <;> simp only[ZsZ] at hq <;> try (exact hq.elim)
  · exact fin none true hq.1 rfl hq.2
  · exact fin (some .ret) false hq.1 rfl hq.2
theorem Ziu {f:FuncId}(he:enters P f=true) (args:Array Value) (w:World):(callFunc f args).run P w=.ok (.enter f args) w:=by
 unfold enters at he
 split at he <;> try (cases he;done)
 rename_i fd hfd
 simp only[Bool.and_eq_true,bne_iff_ne,ne_eq] at he
 have hb:fd.body≠none:=by intro e;simp[e] at he
 simp[callFunc,hfd,he.1,hb]
theorem ACalls.of_range {f:FuncId}{fr:AFR}(hc:Zhn P f=some fr) {args:List AV}{h:AH}{R:AE→AH→Prop}(hw:aw P h.length (fr.pre.foldr .seq .skip) (preQ P fr h.length R) (args++List.replicate (fr.ntmps-args.length) .any) h):ACalls P f args h R:=by
  unfold Zhn at hc
  split at hc <;> try (cases hc;done)
  rename_i fn hfn
  split at hc <;> try (cases hc;done)
  rename_i hname
  split at hc <;> try (cases hc;done)
  rename_i c hb
  split at hc <;> try (cases hc;done)
  rename_i rg hrg
  split at hc <;> try (cases hc;done)
  rename_i ap aa ab aq rs hap haa hab haq hrs
  cases hc
  simp only at hw
  refine⟨?_,fun w g vs hs ha=>(callsIn_wide (n:=0)).1 (callsIn_of_wp_marks hfn hb trivial (Zly c hrg ?_) rfl)⟩
  · simp only[enters,hfn,hb]
    simp only[Bool.not_eq_true] at hname
    simp[bne,hname]
  have hlen:vs.size=args.length:=by simpa using ha.length
  have ht:RepL w g (args++List.replicate (fn.ntmps-args.length) .any) (vs++Array.replicate (fn.ntmps-vs.size) undef).toList:=by
    simp only[Array.toList_append,Array.toList_replicate,hlen]
    refine ha.append ?_
    have:=ZkB w g (List.replicate (fn.ntmps-args.length) undef)
    simpa using this
  have fin : ∀ {w1 : World} {g1 : Gh} {h1 : AH} {T1 : List AV} {a1 : Act} {c : AV}, LkY w g h w1 g1 h1 → RepL w1 g1 T1 a1.tmps.toList → aRes rs T1 h1 = some c → R (.ret c) h1 →
      LeavesInM Fence.wide 0 P fn a1.tmps (fun e w' => ∃ x h' g',EndR w' g' e x∧SimH w' g' h'∧g.le g'∧Fr w (Ow g h) w'∧(∀ k,Ow g' h' k→Ow g h k∨w.heap.size≤k)∧R x h') [] .returning w1:=by
    intro w1 g1 h1 T1 a1 c k1 ht1 hres hR
    obtain⟨v,r1,r2⟩:=ZdC hrs hres k1.sim ht1
    exact⟨v,by simpa using r1,.ret c,h1,g1,r2,k1.sim,k1.le,k1.fr,k1.ow,hR⟩
  have hpre:=ZhO rg.pre ap hap hw w _ _ _ w g (St.start (a:={ tmps:=vs++Array.replicate (fn.ntmps-vs.size) undef,defers:=[] }) hs ht)
  refine Zkd hpre ?_
  rintro e1 a1 w1 ⟨x1,T1,h1,g1,st1,hx1,hq1⟩
  have hdf:a1.defers=[]:=st1.defers
  cases x1 <;> cases e1 <;> simp only[ExR] at hx1 <;> simp only[preQ] at hq1 <;> try (exact hq1.elim)
  rotate_left 1
  · split at hq1 <;> try (exact hq1.elim)
    rename_i c0 hc0
    show LeavesInM Fence.wide 0 P fn a1.tmps _ a1.defers .returning w1
    rw[hdf]
    exact fin (LkY.of_st st1) st1.tmps hc0 hq1
  obtain⟨T1',h1',hle1,gf,caps,hgf,hit⟩:=hq1
  obtain⟨g1',st1⟩:=hle1 _ _ _ _ _ _ st1
  have k1:=LkY.of_st st1
  simp only[Exit.then]
  refine wpIn_block (wpIn_rangeFunc ?_)
  intro fn1 _
  show ∃ (l:Nat) (mark:List Deferred) (w₁:World) (d:Deferred) (w₁':World) (f:FuncId) (args:Array Value) (w₂:World),(Instr.enterLoop fn1 a1.tmps rg.ps rg.asg rg.body none).run P w1=_∧_
  obtain⟨rec,hrec⟩ : ∃ rec:LoopState→Option Code→Loop,rec=fun st pe=>{ state:=st,pending:=pe,fn:=fn1,tmps:=a1.tmps,params:=rg.ps,assign:=rg.asg,body:=rg.body,defers:=w1.heap.size }:=⟨_,rfl⟩
  have k2:=LkY.newRaw k1.sim (o:=dfo) (T:=[]) (vs:=[]) rfl (by simp only[RepL])
  have k3:=LkY.newRaw k2.sim (o:=.loop (rec .ready none)) (T:=T1') (vs:=a1.tmps.toList) rfl (k2.rep k1.sim st1.tmps)
  rw[World.size_alloc,List.append_assoc,List.cons_append,List.nil_append] at k3
  have k123:=(k1.trans k2).trans k3
  have hcallee:=Zb7 st1.tmps rg.g
  rw[hgf] at hcallee
  simp only[Rep] at hcallee
  obtain⟨cv,hcv,hcr⟩:=hcallee
  have hy:=yrule (P:=P) (fr:=⟨ap,rg.g,rg.ps,aa,ab,aq.foldr .seq .skip,rs,fn.ntmps⟩) haa hab (i:=h1'.length+1) (D:=w1.heap.size) (l:=w1.heap.size+1) (T:=T1') hrec
  obtain⟨heng,hcall⟩:=hit (w1.heap.size+1) w1.heap.size _ _ _ a1.tmps.toList st1.sim.ltE (RepL.lt (fun i v l hl=>(st1.sim.fresh i v l hl).1) _ _ st1.tmps) hy
  refine⟨w1.heap.size+1,[{ target:=.collected w1.heap.size,args := #[] }],(w1.alloc dfo).alloc (.loop (rec .ready none)),{ target:=.fn (.func gf) cv,args := #[.func (.yield (w1.heap.size+1)) #[] #[]] },(w1.alloc dfo).alloc (.loop (rec .ready none)),gf,
    #[.func (.yield (w1.heap.size+1)) #[] #[]]++cv,(w1.alloc dfo).alloc (.loop (rec .ready none)),(by rw[hrec];exact run_enterLoop_outer _ _ _ _ _),?_,fun _ _=>trivial,?_,fun h=>by simp[Fence.wide] at h,?_⟩
  · simp only[resolve,hcv]
    simp[go_sem]
  · simp[invoke,go_sem,Ziu heng]
  refine callsIn_wide.2 ((hcall _ g1' _ k123.sim (by
    rw[Array.toList_append]
    have hcr':=(k2.trans k3).rep k1.sim hcr
    simp only[List.cons_append,List.nil_append,RepL]
    exact⟨_,_,rfl,by simp only[Rep],hcr'⟩)).mono ?_)
  rintro e3 w3 ⟨x3,h3,g3,hx3,hs3,hle3,hfr3,how3,⟨c3,rfl⟩,hcase⟩
  cases e3 <;> simp only[EndR] at hx3
  have k4:LkY w g h w3 g3 h3:=k123.trans ⟨hs3,hle3,hfr3,how3⟩
  have ht3:RepL w3 g3 T1' a1.tmps.toList:=(LkY.mk hs3 hle3 hfr3 how3).rep k123.sim ((k2.trans k3).rep k1.sim st1.tmps)
  -- the end, with the mark taken up
  have fin2 : ∀ {w5 : World} {g5 : Gh} {h5 : AH} {T5 : List AV} {a5 : Act}, LkY w g h w5 g5 h5 → RepL w5 g5 T5 a5.tmps.toList → a5.defers = [{ target := .collected w1.heap.size, args := #[] }] → ZeT rs h1'.length w1.heap.size R .ret T5 h5 →
      LeavesInM Fence.wide 0 P fn a5.tmps (fun e w' => ∃ x h' g',EndR w' g' e x∧SimH w' g' h'∧g.le g'∧Fr w (Ow g h) w'∧(∀ k,Ow g' h' k→Ow g h k∨w.heap.size≤k)∧R x h') a5.defers .returning w5:=by
    rintro w5 g5 h5 T5 a5 k5 ht5 hd5 ⟨hi5,hR5⟩
    split at hR5 <;> try (exact hR5.elim)
    rename_i c5 hres
    rw[hd5]
    obtain⟨p1,_,_,_⟩:=k5.sim.raw _ _ _ _ _ hi5
    have k6:=LkY.setRaw k5.sim hi5 (o':=.deferred none) rfl .gone (.inr rfl)
    have ht6:=k6.rep k5.sim ht5
    refine⟨by simp,.inl ⟨_,_,rfl,run_takeDeferred p1,?_⟩⟩
    exact fin (k5.trans k6) ht6 hres hR5
  have drop : ∀ (o : Obj) (st : LoopState) (jump : Option Code), o = .loop (rec st jump) → h3[h1'.length + 1]? = some (.raw (w1.heap.size + 1) o T1' a1.tmps.toList) → st ≠ .busy →
      ∃ w4,(Instr.endLoop (w1.heap.size+1)).run P w3=.ok jump w4∧LkY w g h w4 g3 (h3.set (h1'.length+1) .gone)∧RepL w4 g3 T1' a1.tmps.toList:=by
    rintro o st jump rfl hi3 hst
    obtain⟨p1,_,_,_⟩:=hs3.raw _ _ _ _ _ hi3
    have k5:=LkY.setRaw hs3 hi3 (o':=.loop { rec st jump with state:=.exhausted }) rfl .gone (.inr rfl)
    have ht5:=k5.rep hs3 ht3
    refine⟨_,?_,k4.trans k5,ht5⟩
    have:=run_endLoop (P:=P) p1 (by rw[hrec];exact hst)
    rw[this]
    rw[hrec]
  rcases hcase with ⟨hi3,hpost⟩ | ⟨hi3,hpost⟩
  · obtain⟨w4,r4,k5,ht5⟩:=drop _ .ready none rfl hi3 (by simp)
    refine⟨none,w4,r4,?_⟩
    show wpL Fence.wide 0 P rg.post _ _ w4
    have st5:=St.start (a:={ a1 with defers:=[{ target:=.collected w1.heap.size,args := #[] }]++a1.defers }) k5.sim ht5
    refine Zkd (ZhO rg.post aq haq (hpost _ rfl k5.sim.ltE) _ _ _ _ _ g3 st5) ?_
    rintro e6 a6 w6 ⟨x6,T6,h6,g6,st6,hx6,hq6⟩
    have k6:=k5.trans (LkY.of_st st6)
    have hd6:a6.defers=[{ target:=.collected w1.heap.size,args := #[] }]:=by rw[st6.defers];simp[hdf]
    cases x6 <;> cases e6 <;> simp only[ExR] at hx6 <;> simp only[ZeT] at hq6 <;> try (exact hq6.elim)
    · exact fin2 k6 st6.tmps hd6 hq6
    · exact fin2 k6 st6.tmps hd6 hq6
  · obtain⟨w4,r4,k5,ht5⟩:=drop _ .done (some .ret) rfl hi3 (by simp)
    refine⟨some .ret,w4,r4,wpIn_ret ?_⟩
    exact fin2 (a5:={ a1 with defers:=[{ target:=.collected w1.heap.size,args := #[] }]++a1.defers }) k5 ht5 (by simp[hdf]) hpost
end
section
variable {P : Program} {Kp : AV → List AV → AH → Prop} {K : List AV → AH → Prop} {T T' : List AV} {h h' : AH} {d : Option Nat} {c : AV} {rest : List AOper}
theorem Zhv {f:FuncId}{fr:AFR}(hc:Zhn P f=some fr):enters P f=true:=by
 unfold Zhn at hc
 split at hc <;> try (cases hc;done)
 rename_i fn hfn
 split at hc <;> try (cases hc;done)
 rename_i hname
 split at hc <;> try (cases hc;done)
 rename_i c hb
 simp only[enters,hfn,hb]
 simp only[Bool.not_eq_true] at hname
 simp[bne,hname]
theorem tR' {f:FuncId}{fr:AFR}{args:List AV}{R:AE→Prop}(hc:Zhn P f=some fr) (hw : ∀ n,h.length=n→(∀ e∈h,e.lt n=true)→AV.ltL n args=true→AV.bdL args→aw P n (fr.pre.foldr .seq .skip) (preQ P fr n fun x h' => ∃ z,h'=h++z∧x.lt n=true∧R x) (tA' args fr.ntmps) (h++[]))
  (hl:Nat.ble args.length fr.ntmps=true:=by rfl):ACalls P f args h fun x h'=>h'=h∧R x:=by
 refine ACalls.gc_same ⟨Zhv hc,fun w g vs hs ha=>(ACalls.of_range hc ?_).2 w g vs hs ha⟩
 have:=hw h.length rfl hs.ltE (RepL.lt (fun i v l hl=>(hs.fresh i v l hl).1) _ _ ha) (RepL.bd _ _ ha)
 rw[List.append_nil] at this
 rw[Zh3 _ _ (Nat.le_of_ble_eq_true hl)]
 exact this
theorem ZrO {fr:AFR}{n0 gf l0:Nat}{R:AE→AH→Prop}{T1 caps:List AV}{h1:AH}(hl:ALe n0 T h T1 h1) (hg:Zal T1 fr.g=.clo (.func gf) caps) (hn:h1.length=l0)
    (hi : ∀ (l D:Nat) (rdy bsy fin:Obj) (vs:List Value),(∀ e∈h1,e.lt l0=true)→AV.ltL l0 T1=true→Zk4 P fr (l0+1) l rdy bsy fin T1 vs →
      ACalls P gf (.v (.func (.yield l) #[] #[])::caps) (h1++[mkD D,.raw l rdy T1 vs]) fun r h3=>(∃ c,r=.ret c) ∧
      ((h3[l0+1]?=some (.raw l rdy T1 vs) ∧ ∀ n0,(h3.set (l0+1) .gone).length=n0→(∀ e∈h3.set (l0+1) .gone,e.lt n0=true)→aw P n0 fr.post (ZeT fr.res l0 D R) T1 (h3.set (l0+1) .gone)) ∨
       (h3[l0+1]?=some (.raw l fin T1 vs)∧ZeT fr.res l0 D R .ret T1 (h3.set (l0+1) .gone)))):preQ P fr n0 R .normal T h:=by
  subst hn;exact⟨T1,h1,hl,gf,caps,hg,hi⟩
theorem ZrC {l:Nat}{x:Operand}{xs:List Operand}{as1:List AV}(hf:Zal T x=.v (.func (.yield l) #[] #[])) (hx:xs.map (Zal T)=as1) (hc:AYield P l as1 h fun r h''=>r=.ret c∧h''=h') (hp:aPut T d c=T') (hk:arun P Kp rest T' h' K):arun P Kp (⟨d,none,.call x xs⟩::rest) T h K:=by
 subst hp hx
 refine⟨fun _=>?_,fun h=>by cases h⟩
 simp only[astep,hf,Zfy]
 refine⟨trivial,trivial,fun w g vs hs ha=>?_⟩
 obtain⟨f,t,a,b,h1,h2⟩:=hc w g vs hs ha
 refine⟨f,t,a,b,h1,h2.mono ?_⟩
 rintro e w' ⟨x,h',g',k1,k2,k3,k4,k5,rfl,rfl⟩
 exact⟨_,_,g',k1,k2,k3,k4,k5,hk⟩
theorem AYield.mono {l:Nat}{as1:List AV}{R R':AE→AH→Prop}(hc:AYield P l as1 h R) (hr : ∀ r h,R r h→R' r h):AYield P l as1 h R':=fun w g vs hs ha=>by
 obtain⟨f,t,a,b,h1,h2⟩:=hc w g vs hs ha
 exact⟨f,t,a,b,h1,h2.mono fun _ _ ⟨x,h',g',h1,h2,h3,h4,h5,h6⟩=>⟨x,h',g',h1,h2,h3,h4,h5,hr _ _ h6⟩⟩
theorem Zie {fr:AFR}{n0:Nat}{R:AE→AH→Prop}(hr:aRes fr.res T h=some c) (hR:R (.ret c) h):preQ P fr n0 R .ret T h:=by simp only[preQ,hr];exact hR
theorem ZdS {rs:List AR}{k D:Nat}{R:AE→AH→Prop}(h1:h[k]?=some (mkD D)) (h2:h.set k .gone=h') (hr:aRes rs T h'=some c) (hR:R (.ret c) h'):ZeT rs k D R .ret T h:=by subst h2;simp only[ZeT,hr];exact⟨h1,hR⟩
theorem YieldAt.gc {l:Nat}{as1:List AV}{R:AE→AH→Prop}(hc:AYield P l as1 h fun x h' => ∃ y z,h'=y++z∧y.length=h.length∧(∀ e∈y,e.lt h.length=true)∧x.lt h.length=true∧R x y):AYield P l as1 h R:=fun w g vs hs ha=>by
 obtain⟨f,t,a,b,q1,q2⟩:=hc w g vs hs ha
 refine⟨f,t,a,b,q1,q2.mono ?_⟩
 rintro e w' ⟨x,h',g',h1,h2,h3,h4,h5,y,z,rfl,hl,hlt,hx,hR⟩
 have hcut:=h2.cut (by rw[hl];exact hlt)
 refine⟨x,y,g'.cut y.length,?_,hcut,h3.cut (fun i v l hi=>by rw[hl];exact (hs.fresh _ _ _ hi).1),h4,fun k hk=>h5 k hk.of_cut,hR⟩
 rw[hl]
 cases x <;> cases e <;> simp only[EndR] at h1 ⊢
 ·exact Rep.cut _ _ hx h1
 ·obtain⟨v,e1,e2⟩:=h1;exact⟨v,e1,Rep.cut _ _ hx e2⟩
theorem y_go {fr:AFR}{i l:Nat}{rdy bsy fin:Obj}{T:List AV}{vs:List Value}(hY:Zk4 P fr i l rdy bsy fin T vs) {as1:List AV}(hi:h[i]?=some (.raw l rdy T vs)) (hsz:as1.length=fr.ps.size)
  (hw : ∀ n0,h.length=n0→(∀ e∈h,e.lt n0=true)→AV.ltL n0 as1=true→AV.bdL as1→AV.bdL T→aw P n0 fr.asg (asgQ P fr i l rdy bsy fin T vs fun x h2 => ∃ y z,h2=y++z∧y.length=n0∧(∀ e∈y,e.lt n0=true)∧x.lt n0=true∧x=.ret c∧y=h') (setPs T fr.ps as1) h) :
  AYield P l as1 h fun r h''=>r=.ret c∧h''=h' :=
 YieldAt.gc (hY as1 h _ hsz hi fun n0 hn hlt q1 q2 q3=>by subst hn;exact hw _ rfl hlt q1 q2 q3)
theorem Zs4 {fr:AFR}{i l:Nat}{rdy bsy fin:Obj}{vs:List Value}{R2:AE→AH→Prop}{T0:List AV}(hi:h[i]?=some (.raw l rdy T0 vs)) (hs:h.set i (.raw l bsy T0 vs)=h') (hw : ∀ n1,h'.length=n1→(∀ e∈h',e.lt n1=true)→aw P n1 fr.body (ZsZ i l rdy bsy fin T0 vs R2) T h'):asgQ P fr i l rdy bsy fin T0 vs R2 .normal T h:=by
 subst hs;exact⟨rfl,hi,hw⟩
theorem ZiD {i l:Nat}{rdy bsy fin:Obj}{vs:List Value}{R2:AE→AH→Prop}{T0:List AV}(hi:h[i]?=some (.raw l bsy T0 vs)) (hs:h.set i (.raw l rdy T0 vs)=h') (hR:R2 (.ret (.v (.bool true))) h'):ZsZ i l rdy bsy fin T0 vs R2 .normal T h:=by
 subst hs;exact⟨hi,hR⟩
theorem Zpe {i l:Nat}{rdy bsy fin:Obj}{vs:List Value}{R2:AE→AH→Prop}{T0:List AV}(hi:h[i]?=some (.raw l bsy T0 vs)) (hs:h.set i (.raw l fin T0 vs)=h') (hR:R2 (.ret (.v (.bool false))) h'):ZsZ i l rdy bsy fin T0 vs R2 .ret T h:=by
 subst hs;exact⟨hi,hR⟩
theorem AYield.args {l:Nat}{as1 as2:List AV}{R:AE→AH→Prop}(hc:AYield P l as1 h R) (e:as2=as1):AYield P l as2 h R:=e ▸ hc
theorem k_callY {m:Bool}{q:List Bool}{rs:List Nat}{l:Nat}{x:Operand}{xs:List Operand}{as1:List AV}(hf:Zal T x=.v (.func (.yield l) #[] #[])) (hx:xs.map (Zal T)=as1) (hc:AYield P l as1 h fun r h''=>r=.ret c∧h''=h') (hr : ∀ id∈(bif m then rs else []),h'[id]?=h[id]?) (hp:aPut T d c=T') (hk:Zcs P rs q rest T' h' K):Zcs P rs (m::q) (⟨d,none,.call x xs⟩::rest) T h K:=by
 subst hp hx
 refine⟨fun _=>?_,fun h=>by cases h⟩
 refine⟨c,h',?_,hr,hk⟩
 simp only[hf,Zfy]
 exact⟨trivial,trivial,hc.mono fun r h2 hr=>⟨hr.2,hr.1⟩⟩
theorem s_callE {ι:Type}{H:ι→AH}{J:ι→Prop}{f:FuncId}{xs:List Operand}{as1:List AV}(hx:xs.map (Zal T)=as1) (hc:ACalls P f as1 h fun r h''=>r=.ret c ∧ ∃ i,J i∧h''=H i) (hp:aPut T d c=T') (hk : ∀ i,J i→arun P Kp rest T' (H i) K):arun P Kp (⟨d,none,.call (.func f) xs⟩::rest) T h K:=by
 subst hp
 refine ZlB hx hc ?_
 rintro r h'' ⟨rfl,i,h1,rfl⟩
 exact hk i h1
theorem v_ldOF {α:Type}{f:α→List AV}{sz k off id v ty s:Nat}{l:List α}{x:Operand}(hx:Zal T x=.ptr id v (k*sz+off)) (he:h[id]?=some (.mk v ty s (rows f l))) (hf : ∀ x,(f x).length=sz) (hk:k<l.length) (ho:off<sz) (hc:(f l[k])[off]?=some c):aval h (Zal T) (.load false 1 x)=some c:=by
 refine Zac hx he ?_
 rw[←Zky hf hk,List.getElem?_take_of_lt ho,List.getElem?_drop] at hc
 exact hc
theorem v_ldOFA {α:Type}{f:α→List AV}{sz k off id v ty s m:Nat}{l:List α}{x:Operand}{cs:List AV}(hx:Zal T x=.ptr id v (k*sz+off)) (he:h[id]?=some (.mk v ty s (rows f l))) (hf : ∀ x,(f x).length=sz) (hk:k<l.length) (ho:off+m≤sz) (hc:((f l[k]).drop off).take m=cs) (hl:cs.length=m):aval h (Zal T) (.load true m x)=some (.agg cs):=by
 refine Zao hx he ?_ hl
 rw[←Zky hf hk,List.drop_take,List.take_take,List.drop_drop,Nat.min_eq_left om] at hc
 exact hc
end
end Go.Ab
end
section
namespace Go.Proofs.YtlekejpogddndaaGreatDoor
open Go.Ab Civ
attribute [local simp] Zbh Zlk ZdO
section
theorem Zkb {a0 a1 a2 a3 a4 a5 a6 a7 a8 a9 a10:AV}{l:List AV}:(a0::a1::a2::a3::a4::a5::a6::a7::a8::a9::a10::l).take 11=[a0,a1,a2,a3,a4,a5,a6,a7,a8,a9,a10]:=rfl
theorem ZiY {a0 a1 a2 a3 a4 a5 a6 a7 a8 a9 a10 c0 c1 c2 c3 c4 c5 c6 c7 c8 c9 c10:AV}{l:List AV}:setCells (a0::a1::a2::a3::a4::a5::a6::a7::a8::a9::a10::l) 0 [c0,c1,c2,c3,c4,c5,c6,c7,c8,c9,c10]=c0::c1::c2::c3::c4::c5::c6::c7::c8::c9::c10::l:=rfl
theorem ZiX {a0 a1 a2 a3 a4 a5 a6 a7 a8 a9 a10:AV}{l:List AV}:((a0::a1::a2::a3::a4::a5::a6::a7::a8::a9::a10::l).drop 0).take 11=[a0,a1,a2,a3,a4,a5,a6,a7,a8,a9,a10]:=rfl
theorem ZqR {a0 a1 a2 a3 a4 a5 a6:AV}{l:List AV}:((a0::a1::a2::a3::a4::a5::a6::l).drop 4).take 3=[a4,a5,a6]:=rfl
theorem ZqT {a0 a1 a2 c0 c1 c2:AV}{l:List AV}:setCells (a0::a1::a2::l) 0 [c0,c1,c2]=c0::c1::c2::l:=rfl
theorem ZqS {a0 a1 a2:AV}{l:List AV}:((a0::a1::a2::l).drop 0).take 3=[a0,a1,a2]:=rfl
theorem Zi8 {τ:Operand→AV}{y0 y1:Operand}{x0_0 x1_0 x1_1 x1_2 x1_3 x1_4 x1_5 x1_6 x1_7 x1_8 x1_9 x1_10:AV}(h0:Zat (τ y0)=some [x0_0]) (l0:[x0_0].all leaf=true) (h1:Zat (τ y1)=some [x1_0,x1_1,x1_2,x1_3,x1_4,x1_5,x1_6,x1_7,x1_8,x1_9,x1_10]) (l1:[x1_0,x1_1,x1_2,x1_3,x1_4,x1_5,x1_6,x1_7,x1_8,x1_9,x1_10].all leaf=true):Zas τ [(0,1,y0),(1,11,y1)] [(.v (.int .i64 0)),(.v (.string ⟨#[]⟩)),(.v (.int .i64 0)),(.v (.int .i64 0)),(.v (.int .i64 0)),(.v (.int .i64 0)),(.v (.int .i64 0)),(.v (.int .i64 0)),(.v (.int .i64 0)),(.v (.int .i64 0)),(.v (.int .i64 0)),(.v (.string ⟨#[]⟩))]=some [x0_0,x1_0,x1_1,x1_2,x1_3,x1_4,x1_5,x1_6,x1_7,x1_8,x1_9,x1_10]:=by
 simp only[Zas,h0,l0,h1,l1]
 rfl
end
def c158:AC:=(Sr [Oo 2 (.box 36 11 (.tmp 0)),Mb 3 false] (Sr [Fa 4 0 2,Ld 5 4,Ld 6 1,Bn 7 .eql 5 6,Mv 3 7] .ret))
theorem k158:ZaA Tryz.prog 158=some ⟨c158,[(.tmp 3)],8⟩:=by kernel_rfl
def c86:AC:=(Sr [Oo 4 (.box 9 1 (.tmp 1)),Mc 6 0] (.seq (Sr [Mv 10 0,Oo 11 (.len false (.tmp 10)),Bc 12 .gtr 11 40] (Cd 12 (Sr [Mc 6 2] .ret) .skip)) (.seq (Sr [Mv 13 0,Oo 14 (.len false (.tmp 13)),Mc 15 0] (.block 0 (.loop (Sr [Bn 16 .lss 15 14] (.seq (Cd 16 .skip (.exit 0)) (.seq (.block 1 (Sr [Oo 17 (.ia 11 (.tmp 13) (.tmp 15)),Oo 18 (.load true 11 (.tmp 17)),Oo 8 (.new 36 11 [Ss,(iv 0),(iv 0),(iv 0),(iv 0),(iv 0),(iv 0),(iv 0),(iv 0),(iv 0),Ss]),⟨none,none,(.store 11 (.tmp 8) (.tmp 18))⟩] (Sr [Oo 19 (.load true 11 (.tmp 8)),Cl 20 156 [(.tmp 19)],Mv 9 20] (Sr [Mv 21 9,Bc 22 .neq 21 0] (Cd 22 (Sr [Mv 23 9,Mv 6 23] .ret) .skip))))) (.reg [Bc 24 .add 15 1,Mv 15 24]))))))) (.seq (.block 2 (Sr [Mv 26 2,Oo 27 (.bin .lss (.tmp 26) (.const (.int .i64 (-64800)))),Mv 28 27,Of 29 28 (mt 2),Of 30 28 (.bin .gtr (.tmp 29) (Ci 64800)),Oo 31 (.pick (.tmp 28) (.const (.bool true)) (.tmp 30)),Mv 25 31] (Cd 25 (Sr [Mc 6 3] .ret) (Sr [Mv 33 0,Oo 34 (.mkfn 158 [(.tmp 4)]),Cl 35 157 [(.tmp 33),(.tmp 34)],Oo 36 (.un .not (.tmp 35)),Mv 32 36] (Cd 32 (Sr [Mc 6 5] .ret) .skip))))) (Sr [Mc 6 0] .ret)))))
theorem k86:ZaA Tryz.prog 86=some ⟨c86,[(.tmp 6)],37⟩:=by kernel_rfl
def c91:AC:=(Sr [Oo 3 (.box 36 11 (.tmp 0)),Mc 6 0] (.seq (Sr [Fa 7 8 3,Ld 8 7] (.block 0 (Sr [Bc 10 .eql 8 1,Mv 9 10] (Cd 9 (Sr [Mv 11 1,Mv 12 2,Bn 13 .add 11 12,Mv 6 13] .ret) (Sr [Bc 15 .eql 8 2,Mv 14 15] (Cd 14 (Sr [Mv 16 1,Mv 6 16] .ret) .skip)))))) (Sr [Mc 6 0] .ret)))
theorem k91:ZaA Tryz.prog 91=some ⟨c91,[(.tmp 6)],17⟩:=by kernel_rfl
def c87:AC:=(Sr [Oo 2 (.box 22 1 (.tmp 0)),Oo 3 (.box 9 1 (.tmp 1)),Oo 4 (.mv (.const .nilFunc))] (Sr [Oo 5 (.mkfn 159 [(.tmp 2),(.tmp 3)]),Mv 4 5] .ret))
theorem k87:ZaA Tryz.prog 87=some ⟨c87,[(.tmp 4)],6⟩:=by kernel_rfl
def c159:AC:=(Sr [Ld 9 1,Oo 10 (.len false (.tmp 9)),Mc 11 0] (.block 0 (.loop (Sr [Bn 12 .lss 11 10] (.seq (Cd 12 .skip (.exit 0)) (.seq (.block 1 (Sr [Oo 13 (.ia 11 (.tmp 9) (.tmp 11)),Oo 14 (.load true 11 (.tmp 13)),Oo 5 (.new 36 11 [Ss,(iv 0),(iv 0),(iv 0),(iv 0),(iv 0),(iv 0),(iv 0),(iv 0),(iv 0),Ss]),⟨none,none,(.store 11 (.tmp 5) (.tmp 14))⟩] (.seq (Sr [Fa 15 0 5,Ld 16 15,Ld 17 2,Bn 18 .neq 16 17] (Cd 18 (.exit 1) .skip)) (Sr [Fa 19 1 5,Ld 20 19,Mv 6 20] (.block 2 (.loop (.seq (Sr [Mv 21 6,Fa 22 2 5,Ld 23 22,Bn 24 .leq 21 23] (Cd 24 .skip (.exit 2))) (.seq (.block 3 (Sr [Mv 28 6,Fa 29 3 5,Ld 30 29,Fa 31 4 5,Oo 32 (.load true 3 (.tmp 31)),Cl 33 94 [(.tmp 28),(.tmp 30),(.tmp 32)],Mv 27 33,Ex 34 27 0,Ex 35 27 1,Oo 7 (.new 59 3 [(iv 0),(iv 0),(iv 0)]),⟨none,none,(.store 3 (.tmp 7) (.tmp 34))⟩,Mv 8 35] (.seq (.drw [Mv 36 0,Oo 37 (.load true 3 (.tmp 7)),Cl 38 98 [(.tmp 37)],Bc 39 .mul 38 86400,Fa 40 7 5,Ld 41 40,Bn 42 .add 39 41,Oo 43 (.load true 11 (.tmp 5)),Oo 44 (.build [(iv 0),Ss,(iv 0),(iv 0),(iv 0),(iv 0),(iv 0),(iv 0),(iv 0),(iv 0),(iv 0),Ss] [(0,(1,(.tmp 42))),(1,(11,(.tmp 43)))])] [false,false] [Oo 45 (.call (.tmp 36) [(.tmp 44)]),Oo 46 (.un .not (.tmp 45))]) (Cd 46 .ret .skip)))) (.reg [Mv 25 6,Bc 26 .add 25 1,Mv 6 26]))))))))) (.reg [Bc 47 .add 11 1,Mv 11 47])))))))
theorem k159:ZaA Tryz.prog 159=some ⟨c159,[],48⟩:=by kernel_rfl
def okRs (l:List Rul):Prop := ∀ r∈l,r.1.size≤maxLen∧r.2.2.2.2.2.2.2.2.size≤maxLen
theorem ready1_a {nm:ByteArray}{r:Rul}{h:AH}:Ac 158 [.agg (rulC r),.rp [sv nm]] h (bv (decide (r.1=nm))):=by
 obtain⟨n,f,t,m,⟨k,w,d⟩,a,c,s,lt⟩:=r
 refine tI' k158 fun N hn hlt hlA hbd=>?_
 simp only[tb'] at hbd ⊢
 refine wr'<|E' (Zbd cv rfl (hl0 hn) ha0) pt<|mw<|sn'<|wr'<|Vw (Zab lk)<|Vw (Zac lk gx gt0)<|Vw (ZaC lk gt)<|Vw (Zcp lk lk)<|mw<|Zar<|?_
 exact Zag<|Zaa<|Zae rz<|rT' rfl
theorem ready_a {l:List Rul}{nm:ByteArray}{sh:Int}{h:AH}(hok:okRs l) (hl:l.length≤9223372036854775807):Ac 86 [.sl l.length 11 false (rows rulC l),sv nm,iv sh] h (iv (ZdE l nm sh)):=by
 have hll:=hl
 refine tI' k86 fun N hn hlt hlA hbd=>?_
 simp only[tb'] at hbd ⊢
 refine wr'<|E' (Zbd cv rfl (hl0 hn) ha0) pt<|mw<|Zar<|?_
 refine Zba (ALe.icePtr gx gt4 (by simp) pt4 (hs0 hn)) ?_
 refine Zam<|wr'<|mw<|Vw (ZaL lk)<|Vw (ZbC lk lki)<|sn'<|?_
 refine cd' lk (fun hc1=>?_) (fun hc1=>?_)
 ·have hR:ZdE l nm sh=2:=if_pos om
  refine wr'<|mw<|sn'<|Zaa<|Zah<|Zae rz<|rT'<|?_
  rw[hR]
 have hR:ZdE l nm sh=if Za1 Zbu l≠0 then Za1 Zbu l else if sh < -64800∨sh>64800 then 3 else if l.any (fun r=>decide (r.1=nm))=false then 5 else 0:=if_neg om
 refine Zaf<|Zag<|Zam<|wr'<|mw<|Vw (ZaL lk)<|mw<|sn'<|Zap<|?_
 refine w_lp (ι:=Nat) (fun (k:Nat)=>[(15,iv (k:Int)),(6,.any),(8,.any),(9,.any)]++rn' 16 9) (fun (k:Nat)=>[]) (fun (k:Nat)=>k≤l.length∧Za1 Zbu l=Za1 Zbu (l.drop k)) (fun (k:Nat)=>l.length-k) (0) (by exact⟨Nat.zero_le _,rfl⟩) ?_
 rintro k hi1
 try simp only[sm',Nat.reduceAdd]
 obtain⟨hk1,hk2⟩:=hi1
 refine wr'<|Vw (Zbc lk lk)<|sn'<|Zam<|?_
 refine cd' lk (fun hc2=>?_) (fun hc2=>?_)
 ·have hk:k<l.length:=by omega
  have ho:=hok _ (List.getElem_mem hk)
  rw[ZdI hk] at hk2
  refine Zaf<|Zag<|Zam<|Zap<|wr'<|?_
  refine V' (ZaU lk lk Ze8 (nb' rfl) ro om ro rfl) pt ?_
  refine Vw (ZaI lk Zkb rfl)<|E' (ZaW (hl1 hn) ha1) pt<|E' (Zai lk cv gx rfl (nb' rfl) rfl ZiY (hs1 hn)) ptn<|sn'<|wr'<|Vw (Zao lk gx ZiX rfl)<|Zad mp (rule_b ho.1 ho.2) pt<|mw<|sn'<|wr'<|?_
  refine mw<|Vw (ZaX lk lki)<|sn'<|?_
  refine cd' lk (fun hc3=>?_) (fun hc3=>?_)
  ·have hc3':Zbu l[k]≠0:=hc3
   rw[if_pos hc3'] at hk2
   rw[if_pos (by rw[hk2];exact hc3'),hk2] at hR
   refine wr'<|mw<|mw<|sn'<|Zaa<|Zaq<|Zah<|Zah<|Zaq<|Zah<|Zae rz<|rT'<|?_
   rw[hR]
  have hc3':¬Zbu l[k]≠0:=hc3
  rw[if_neg hc3'] at hk2
  refine Zaf<|Zaz<|Zag<|Zav<|?_
  refine V' (Zay lk lki om om) pt ?_
  refine mw<|Zar<|ZaB<|?_
  refine lU' (k+1) (by (try dsimp only);exact⟨by omega,hk2⟩) (by (try dsimp only);(try simp only[sm',Nat.reduceAdd]);exact bk' 1 hn hlt)
 rw[List.drop_of_length_le om] at hk2
 rw[if_neg (by rw[hk2];simp[Za1])] at hR
 refine ZaM<|ZaD<|ZaD<|Zbb<|Zag<|Zam<|Zap<|wr'<|mw<|Vw (Zbc lk lki)<|mw<|?_
 refine sp' (t:=28) gt pt pt (fun hg28=>?_) (fun hg28=>?_)
 ·rw[if_pos (.inl om)] at hR
  refine s_no gt pt<|s_no gt pt<|Vw (Zak lk lkb)<|mw<|sn'<|ZaG lk<|wr'<|mw<|sn'<|Zaa<|Zaq<|?_
  refine Zah<|Zae rz<|rT'<|?_
  rw[hR]
 refine s_do gt<|mw<|s_do gt<|Vw (ZbC lk lki)<|Vw (Zaj lk lk)<|mw<|sn'<|?_
 refine cd' lk (fun hc4=>?_) (fun hc4=>?_)
 ·rw[if_pos (.inr om)] at hR
  refine wr'<|mw<|sn'<|Zaa<|Zaq<|Zah<|Zae rz<|rT'<|?_
  rw[hR]
 rw[if_neg om] at hR
 refine wr'<|mw<|Vw (ZfZ mp)<|?_
 refine Zad mp (Zl7 (p:=fun r=>decide (r.1=nm)) (fun c _ _=>ready1_a) hll) pt ?_
 refine Vw (Zax lk)<|mw<|sn'<|?_
 refine Zaw lk (fun hc5=>?_) (fun hc5=>?_)
 ·rw[if_pos (by simpa using hc5)] at hR
  refine wr'<|mw<|sn'<|Zaa<|Zaq<|Zah<|Zae rz<|rT'<|?_
  rw[hR]
 rw[if_neg (by simpa using hc5)] at hR
 refine Zaf<|Zaz<|Zag<|wr'<|mw<|sn'<|Zaa<|Zae rz<|rT'<|?_
 rw[hR]
theorem off_a {r:Rul}{sh sa:Int}{h:AH}(h1 : -64800≤sh∧sh≤64800) (h2:0≤sa∧sa≤10800):Ac 91 [.agg (rulC r),iv sh,iv sa] h (iv (offV r sh sa)):=by
 obtain⟨n,f,t,m,⟨k,w,d⟩,a,c,s,lt⟩:=r
 refine tI' k91 fun N hn hlt hlA hbd=>?_
 simp only[tb'] at hbd ⊢
 refine wr'<|E' (Zbd cv rfl (hl0 hn) ha0) pt<|mw<|sn'<|Zam<|wr'<|Vw (Zab lk)<|Vw (Zac lk gx gt8)<|sn'<|Zap<|?_
 refine wr'<|Vw (ZaQ lk lki)<|mw<|sn'<|?_
 refine cd' lk (fun hc1=>?_) (fun hc1=>?_)
 ·refine wr'<|mw<|mw<|?_
  refine V' (Zay lk lk om om) pt ?_
  refine mw<|sn'<|Zaa<|Zaq<|Zah<|Zae rz<|rT'<|?_
  refine ivx ?_;unfold offV;rw[if_pos (by assumption)]
 refine wr'<|Vw (ZaQ lk lki)<|mw<|sn'<|?_
 refine cd' lk (fun hc2=>?_) (fun hc2=>?_)
 ·refine wr'<|mw<|mw<|sn'<|Zaa<|Zaq<|Zah<|Zae rz<|rT'<|?_
  refine ivx ?_;unfold offV;rw[if_neg (by assumption),if_pos (by assumption)]
 refine Zaf<|Zaz<|Zag<|wr'<|mw<|sn'<|Zaa<|Zae rz<|rT'<|?_
 refine ivx ?_;unfold offV;rw[if_neg (by assumption),if_neg (by assumption)]
theorem turns_a {l:List Rul}{nm:ByteArray}{h:AH}:Ac 87 [.sl l.length 11 false (rows rulC l),sv nm] h (.clo (.func 159) [.rp [.sl l.length 11 false (rows rulC l)],.rp [sv nm]]):=by
 refine tI' k87 fun N hn hlt hlA hbd=>?_
 simp only[tb'] at hbd ⊢
 refine wr'<|E' (Zbd cv rfl (hl0 hn) ha0) pt<|E' (Zbd cv rfl (hl1 hn) ha1) pt<|mv' rfl pt<|Zar<|?_
 refine Zba (ALe.trans (ALe.icePtr gx gt2 (by simp) pt2 (hs0 hn)) (ALe.icePtr gx gt3 (by simp) pt3 (hs1 hn))) ?_
 exact wr'<|Vw (ZfZ mp)<|mw<|sn'<|Zaa<|Zae rz<|rT' rfl
theorem on_r {r:Rul}{y:Int}{h:AH}(hr:Zbu r=0) (hy:1900≤y∧y≤2100):Ac 94 [iv y,iv r.2.2.2.1,.agg [iv r.2.2.2.2.1.1,iv r.2.2.2.2.1.2.1,iv r.2.2.2.2.1.2.2]] h (.tup [.agg [iv (ZbT (rDy r y)).1,iv (ZbT (rDy r y)).2.1,iv (ZbT (rDy r y)).2.2],iv 0]):=by
 have:=on_a (y:=y) (m:=r.2.2.2.1) (k:=r.2.2.2.2.1.1) (wk:=r.2.2.2.2.1.2.1) (n:=r.2.2.2.2.1.2.2) (h:=h)
 rw[(Znb hr hy).1] at this
 exact this
theorem num_r {k:Int}{h:AH}(hk : -30000≤k∧k≤50000):Ac 98 [.agg [iv (ZbT k).1,iv (ZbT k).2.1,iv (ZbT k).2.2]] h (iv k):=by
 obtain⟨h1,h2⟩:=Ziv (days:=k) om om
 have hd:=Zcn.1 h1
 have hm:=Zd1 (ZbT k).1 (ZbT k).2.1
 have:=ZhH (y:=(ZbT k).1) (m:=(ZbT k).2.1) (d:=(ZbT k).2.2) (h:=h) om om om om om om
 rwa [h2] at this
theorem ZmR {r:Rul}{j:Nat}(hj:(j:Int)<r.2.2.1+1-r.2.1):(Zc1 r).take (j+1)=(Zc1 r).take j++[(ZhS r (r.2.1+(j:Int)),r)]:=by
 have hl:j<(Zc1 r).length:=by unfold Zc1;rw[List.length_map,Zlg];show j<(r.2.2.1+1-r.2.1).toNat;omega
 rw[List.take_succ_eq_append_getElem hl]
 congr 2
 simp[Zc1,Zjf]
theorem ZmQ {l:List Rul}{nm:ByteArray}{k:Nat}(hk:k<l.length) (hn:l[k].1=nm) : ∃ m,Zbg l nm=Zbg (l.take k) nm++(Zc1 l[k]++m):=by
 refine⟨Zbg (l.drop (k+1)) nm,?_⟩
 have e:l=l.take k++l[k]::l.drop (k+1):=by rw[←List.drop_eq_getElem_cons hk,List.take_append_drop]
 have:Zbg l nm=Zbg (l.take k++l[k]::l.drop (k+1)) nm:=by rw[←e]
 rw[this]
 unfold Zbg
 rw[List.flatMap_append,List.flatMap_cons,if_pos hn]
theorem turns1_a {l:List Rul}{nm:ByteArray}{lp M0:Nat}{H:List Trn→AH}(hok : ∀ r∈l,Zbu r=0) (hz:l.length≤40) (hH : ∀ d,(H d).length=M0) (hHlt : ∀ d,∀ e∈H d,e.lt M0=true)
  (hY : ∀ (d:List Trn) (t:Trn) (e f:Ent),d.length<(Zbg l nm).length→AYield Tryz.prog lp [.agg (trnC t)] (H d++[e,f]) fun r h''=>r=.ret (.v (.bool true))∧h''=H (d++[t])++[e,f]) :
  ACalls Tryz.prog 159 [.v (.func (.yield lp) #[] #[]),.rp [.sl l.length 11 false (rows rulC l)],.rp [sv nm]] (H []) fun x h'=>x=.ret (.tup [])∧h'=H (Zbg l nm):=by
 refine tJ' k159 fun N hn hlt hlA hbd=>?_
 simp only[tb'] at hbd ⊢
 have hMN:M0=N:=(hH []).symm.trans hn
 simp only[hMN] at hH hHlt
 refine wr'<|Vw (ZaC lk gt)<|Vw (ZaL lk)<|mw<|sn'<|Zap<|?_
 refine Zq6 (ι:=Nat) (fun (k:Nat)=>[(11,iv (k:Int))]++rn' 5 4++rn' 12 36) (fun (k:Nat)=>H (Zbg (l.take k) nm)++[]) (fun (k:Nat)=>k≤l.length) (fun (k:Nat)=>l.length-k) (0) (by exact Nat.zero_le _) (by try simp only[sm',Nat.reduceAdd];exact ALe.same wA' rfl) ?_
 rintro k hi1
 try simp only[sm',Nat.reduceAdd]
 replace hi1:k≤l.length:=hi1
 refine wr'<|Vw (Zbc lk lk)<|sn'<|Zam<|?_
 refine cd' lk (fun hc1=>?_) (fun hc1=>?_)
 ·have hk:k<l.length:=by omega
  have hr:=hok _ (List.getElem_mem hk)
  obtain⟨hr1,hr2,hr3⟩:1900≤l[k].2.1∧l[k].2.1≤l[k].2.2.1∧l[k].2.2.1≤2100:=⟨(Zcl hr).1,(Zcl hr).2.1,(Zcl hr).2.2.1⟩
  obtain⟨hr4,hr5⟩:(Zc1 l[k]).length≤201∧((Zc1 l[k]).length:Int)=l[k].2.2.1-l[k].2.1+1:=ZgK hr
  refine Zaf<|Zag<|Zam<|Zap<|wr'<|?_
  refine V' (ZaU lk lk Ze8 (nb' rfl) ro om ro rfl) pt ?_
  refine Vw (ZaI lk Zkb rfl)<|E' (ZaW (hl0 (hH _)) ha0) pt<|E' (Zai lk cv (hga (hH _) rfl) rfl (nb' rfl) rfl ZiY (hs0 (hH _))) ptn<|sn'<|Zam<|wr'<|Vw (Zab lk)<|Vw (Zac lk (hga (hH _) rfl) gt0)<|Vw (ZaC lk gt)<|Vw (ZcD lk lk)<|sn'<|?_
  refine cd' lk (fun hc2=>?_) (fun hc2=>?_)
  ·refine ZaM<|ZaD<|Zbb<|Zag<|Zav<|?_
   refine V' (Zay lk lki om om) pt ?_
   refine mw<|Zar<|ZaB<|?_
   refine lU' (k+1) (by (try dsimp only);omega) (by (try dsimp only);(try simp only[sm',Nat.reduceAdd]);exact ALe.trans (ALe.back wA' rfl (E1:=[]) (k:=N+0) (by simp only[List.length_cons,List.length_nil,(hH _)]) om (by exact lt') (ltw om (hHlt _)) (by rfl)) (ALe.same (WkL.refl _) (by rw[Zjg hk,if_neg hc2,List.append_nil (Zbg _ _)])))
  have hnm:l[k].1=nm:=Decidable.of_not_not hc2
  obtain⟨mm,hmm⟩:=ZmQ hk hnm
  refine Zaf<|Zag<|wr'<|Vw (Zab lk)<|Vw (Zac lk (hga (hH _) rfl) gt1)<|mw<|sn'<|Zap<|?_
  refine Zq6 (ι:=Nat) (fun (j:Nat)=>[(6,iv (l[k].2.1+(j:Int))),(7,.any),(8,.any)]++rn' 21 26) (fun (j:Nat)=>H (Zbg (l.take k) nm++(Zc1 l[k]).take j)++[Ent.mk 0 36 11 (rulC l[k])]) (fun (j:Nat)=>(j:Int)≤l[k].2.2.1-l[k].2.1+1) (fun (j:Nat)=>(Zc1 l[k]).length-j) (0) (by show (0:Int)≤_;omega) (by try simp only[sm',Nat.reduceAdd];exact ALe.same wA' (by rw[List.take_zero,List.append_nil])) ?_
  rintro j hi2
  try simp only[sm',Nat.reduceAdd]
  replace hi2:(j:Int)≤l[k].2.2.1-l[k].2.1+1:=hi2
  refine Zam<|wr'<|mw<|Vw (Zab lk)<|Vw (Zac lk (hga (hH _) rfl) gt2)<|Vw (Zdg lk lk)<|sn'<|?_
  refine cd' lk (fun hc3=>?_) (fun hc3=>?_)
  ·have hy:1900≤l[k].2.1+(j:Int)∧l[k].2.1+(j:Int)≤2100:=by omega
   obtain⟨hd1,hd2⟩:=Znb hr hy
   have ha6:0≤l[k].2.2.2.2.2.1∧l[k].2.2.2.2.2.1≤172800:=(Zcl hr).2.2.2.2.2.1
   have hd3 : -30000≤rDy l[k] (l[k].2.1+(j:Int))∧rDy l[k] (l[k].2.1+(j:Int))≤50000:=hd2
   refine Zaf<|Zag<|Zam<|Zap<|wr'<|mw<|Vw (Zab lk)<|Vw (Zac lk (hga (hH _) rfl) gt3)<|Vw (Zab lk)<|Vw (Zao lk (hga (hH _) rfl) ZqR rfl)<|Zad mp (on_r hr hy) pt<|mw<|Vw (ZaS lk gt)<|?_
   refine Vw (ZaS lk gt)<|E' (ZaW (hl1 (hH _)) ha1) pt<|E' (Zai lk cv (hga (hH _) rfl) rfl (nb' rfl) rfl ZqT (hs1 (hH _))) ptn<|mw<|sn'<|Zam<|Zoh []<|Dw (v_mv lk)<|Dw (Zao lk (hga (hH _) rfl) ZqS rfl)<|?_
   refine Za2 mp (fun hE hX=>num_r hd2) pt ?_
   refine D' (Zfs lk lki om om) pt ?_
   refine Dw (Zab lk)<|Dw (Zac lk (hga (hH _) rfl) gt7)<|?_
   refine D' (Zay lk lk om om) pt ?_
   refine Dw (Zao lk (hga (hH _) rfl) ZiX rfl)<|Dw (Zau (Zi8 cv rfl cv rfl))<|ZbO<|Znk<|?_
   refine k_callY lk mp (hY _ (ZhS l[k] (l[k].2.1+(j:Int)),l[k]) _ _ (by rw[hmm,List.length_append,List.length_append,List.length_append,List.length_take];omega)) (by intro i hi;simp at hi) pt ?_
   refine ZpL rfl (Zax lk) pt<|Zsn<|Zag<|ZaO lk<|Zaf<|Zaz<|Zag<|Zav<|mw<|?_
   refine V' (Zay lk lki om om) pt ?_
   refine mw<|Zar<|ZaB<|?_
   refine lU' (j+1) (by (try dsimp only);omega) (by (try dsimp only);(try simp only[sm',Nat.reduceAdd]);exact ALe.trans (ALe.back wA' rfl (E1:=[Ent.mk 0 36 11 (rulC l[k])]) (k:=N+1) (by simp only[List.length_cons,List.length_nil,(hH _)]) om (by exact lt') (ltw om (hHlt _)) (by exact lt')) (ALe.same (WkL.refl _) (by rw[ZmR om,List.append_assoc])))
  refine ZaM<|ZaD<|ZaD<|Zbb<|Zaz<|Zag<|Zav<|?_
  refine V' (Zay lk lki om om) pt ?_
  refine mw<|Zar<|ZaB<|?_
  refine lU' (k+1) (by (try dsimp only);omega) (by (try dsimp only);(try simp only[sm',Nat.reduceAdd]);exact ALe.trans (ALe.back wA' rfl (E1:=[]) (k:=N+0) (by simp only[List.length_cons,List.length_nil,(hH _)]) om (by exact lt') (ltw om (hHlt _)) (by rfl)) (ALe.same (WkL.refl _) (by rw[Zjg hk,if_pos hnm,List.take_of_length_le (l:=Zc1 l[k]) om])))
 refine ZaM<|ZaD<|ZaD<|Zbb<|w_end (rs0)<|?_
 exact⟨_,_,rfl,hH _,hHlt _,rfl,rfl,by rw[List.take_of_length_le om]⟩
end Go.Proofs.YtlekejpogddndaaGreatDoor
end
section
namespace Go.Ab
open Go.RowKit Go.Sort
section
variable {P : Program}
theorem Zm5 (w:World) (g:Gh) : ∀ {vs us:List Value},RepL w g (vs.map .v) us↔us=vs
 | [],us=>by simp only[List.map_nil,RepL]
 | v::vs,us=>by
  simp only[List.map_cons,RepL,Rep,Zm5 w g (vs:=vs)]
  constructor
  ·rintro⟨u,us',rfl,rfl,rfl⟩;rfl
  ·rintro rfl;exact⟨_,_,rfl,rfl,rfl⟩
theorem ACalls.of_turn {f:FuncId}{args:List AV}{h:AH}{id ver ty st:Nat}{cells:List AV}{R':List AV→Prop}(he:enters P f=true) (hi:h[id]?=some (.mk ver ty st cells)) (hne:cells≠[])
  (hc : ∀ w g (vs:Array Value) b cap arr,SimH w g h→RepL w g args vs.toList→g.loc id ver=some (some ⟨b,0,none⟩,cap)→w.heap[b]?=some (.cells arr ty (0,0))→arr.size=cap*st→cells.length≤arr.size→RepL w g cells (arr.toList.take cells.length) →
   Calls P f vs w fun e w'=>e=.returned (.tuple #[]) ∧ ∃ (vs':List Value) (arr':Array Value),R' (vs'.map .v)∧w'.heap[b]?=some (.cells arr' ty (0,0))∧arr'.size=arr.size∧vs'.length=cells.length∧arr'.toList.take cells.length=vs' ∧
    w'.os=w.os∧w'.tape=w.tape∧w'.output=w.output∧w.heap.size≤w'.heap.size ∧ ∀ k,k<w.heap.size→k≠b→w'.heap[k]?=w.heap[k]?) :
  ACalls P f args h fun x h'=>x=.ret (.tup []) ∧ ∃ cells',R' cells'∧h'=h.set id (.mk ver ty st cells'):=by
 refine⟨he,fun w g vs hs ha=>?_⟩
 obtain⟨A,cap,f1,fm,f3⟩:=hs.ent _ _ _ _ _ hi
 rcases f3 with ⟨e,_⟩ | ⟨b,arr,rfl,hc0,hd,hb,hsz,hle,hrl⟩
 ·exact absurd e hne
 have hid:id<h.length:=(List.getElem?_eq_some_iff.1 hi).1
 have how:OwAt g h id b:=⟨ver,ty,st,cells,_,cap,hi,f1,hc0,rfl⟩
 refine (hc w g vs b cap arr hs ha f1 hb hsz hle hrl).mono ?_
 rintro e w' ⟨rfl,vs',arr',hR,h1,h2,h3,h4,h5,h6,h7,h8,h9⟩
 have hother : ∀ j,g.D j∨(∃ i,i≠id∧OwAt g h i j)∨(∃ i,RwAt h i j)→w'.heap[j]?=w.heap[j]?:=by
  rintro j (hj | ⟨i,hne',hj⟩ | ⟨i,hj⟩)
  rotate_left 2
  ·exact h9 j (hs.own_not_D (.inr ⟨i,hj⟩)).2 (fun e=>by subst e;exact hs.own_ne_raw how hj)
  ·exact h9 j (hs.lt j hj) (fun e=>hd (e ▸ hj))
  ·exact h9 j (hs.own_not_D (.inl ⟨i,hj⟩)).2 (fun e=>hne' (hs.inj i id j hj (e ▸ how)))
 obtain⟨k1,k2,k3⟩:=hs.put (w':=w') (g':=g) (h':=h.set id (.mk ver ty st (vs'.map .v))) id ver ty st (vs'.map .v) (some ⟨b,0,none⟩) cap
  (fun i hne'=>by rw[List.getElem?_set_ne (Ne.symm hne')]) (by rw[List.getElem?_set_self hid]) (by simp) rfl (fun _ _ _ h=>h) (fun _ _ _ h=>.inl h) f1 (fun v l hv=>(hs.fresh _ _ _ hv).2 _ _ _ _ hi) hother h8 fm
  (.inr ⟨b,arr',rfl,hc0,hd,h1,by rw[h2,hsz],by rw[List.length_map,h3,h2];exact hle,by rw[List.length_map,h3,h4];exact (Zm5 w' g).2 rfl⟩)
  (fun j hj _ i hne' ho=>by
   simp at hj
   subst hj
   exact hne' (hs.inj i id _ ho how))
 refine⟨.ret (.tup []),_,g,?_,k1,k2,⟨h5,h6,h7,h8,fun k hk hn=>h9 k hk (fun e=>hn (.inl ⟨id,e ▸ how⟩))⟩,fun k hk=>?_,rfl,_,hR,rfl⟩
 ·simp only[EndR,Rep];exact⟨#[],rfl,by simp only[RepL]⟩
 ·rcases k3 k hk with ho | ⟨ho,_⟩
  ·exact .inl ho
  ·simp at ho;subst ho;exact .inl (.inl ⟨id,how⟩)
end
section
variable {P : Program} {α : Type}
theorem Zsy {enc:α→List Value}{k:Nat}(hk : ∀ x,(enc x).length=k) : ∀ (l:List α) (i j:Nat) (h:i<l.length),j<k→(l.flatMap enc)[i*k+j]?=(enc l[i])[j]?
 | [],i,j,h,_=>by simp at h
 | x::l,0,j,h,hj=>by
  rw[List.flatMap_cons,Nat.zero_mul,Nat.zero_add,List.getElem?_append_left (by rw[hk];exact hj)];rfl
 | x::l,i+1,j,h,hj=>by
  have ih:=Zsy hk l i j (by simpa using h) hj
  rw[List.flatMap_cons,List.getElem?_append_right (by rw[hk,Nat.succ_mul];omega),hk,show (i+1)*k+j-k=i*k+j by rw[Nat.succ_mul];omega,ih];rfl
theorem Zes {enc:α→List Value}{k:Nat}(hk : ∀ x,(enc x).length=k) : ∀ (l:List α),(l.flatMap enc).length=l.length*k
 | []=>by simp
 | x::l=>by rw[List.flatMap_cons,List.length_append,hk,Zes hk l,List.length_cons,Nat.succ_mul];omega
end
end Go.Ab
end
