/-
  Part 2 of the proof: own lemmas and contracts on plain data. No condition beyond those that each lemma states.
-/
import Derived.Test.YtlekejpogddndaaGreatDoorTc1
import Derived.WalkKit
import Derived.ProofKit
import Derived.Carry
import Derived.Lib.SmallJoins
import Derived.Deep.Slices
import Derived.Lib.IndexBytes
import Derived.RangeFuncLeaves
set_option linter.all false
set_option maxRecDepth 1000000
set_option maxHeartbeats 4000000
section
namespace Go.Proofs.YtlekejpogddndaaGreatDoor
open Go.Ab Civ
theorem ZiQ {y m:Int}{h:AH}(h0:0≤y):Ac 228 [iv y,iv m] h (iv (mlen y m)):=by
 refine tI' k228 fun N hn hlt hlA hbd=>?_
 simp only[tb'] at hbd ⊢
 refine wr'<|mw<|sn'<|Zag<|wr'<|mw<|sn'<|Zam<|Zag<|Zag<|?_
 refine Zat<|Vw (ZaX lk lki)<|mw<|sn'<|?_
 refine cd' lk (fun hc1=>?_) (fun hc1=>?_)
 ·refine Zad<|Zae<|?_
  refine cd' lk (fun hc4=>?_) (fun hc4=>?_)
  ·refine wr'<|mw<|sn'<|Zaa<|Zas<|Zai<|Zah rz<|rT'<|?_
   refine ivx ?_;unfold mlen lp;simp_all
  refine wr'<|Vw (ZaX lk lki)<|mw<|sn'<|?_
  refine cd' lk (fun hc5=>?_) (fun hc5=>?_)
  ·refine Zag<|wr'<|mw<|Zaf mp (ZgR h0) pt<|sn'<|?_
   refine Zaz lk (fun hc6=>?_) (fun hc6=>?_)
   ·refine wr'<|mw<|sn'<|Zaa<|Zai<|Zas<|Zai<|Zah rz<|rT'<|?_
    refine ivx ?_;unfold mlen lp;simp_all
   refine Zad<|Zae<|wr'<|mw<|sn'<|Zaa<|Zas<|Zai<|Zah rz<|rT'<|?_
   refine ivx ?_;unfold mlen lp;simp_all
  refine Zad<|ZaA<|Zae<|wr'<|mw<|sn'<|Zaa<|Zah rz<|rT'<|?_
  refine ivx ?_;unfold mlen lp;simp_all
 refine wr'<|Vw (ZaX lk lki)<|mw<|sn'<|?_
 refine cd' lk (fun hc2=>?_) (fun hc2=>?_)
 ·refine Zad<|Zae<|?_
  refine cd' lk (fun hc4=>?_) (fun hc4=>?_)
  ·refine wr'<|mw<|sn'<|Zaa<|Zas<|Zai<|Zah rz<|rT'<|?_
   refine ivx ?_;unfold mlen lp;simp_all
  refine wr'<|Vw (ZaX lk lki)<|mw<|sn'<|?_
  refine cd' lk (fun hc5=>?_) (fun hc5=>?_)
  ·refine Zag<|wr'<|mw<|Zaf mp (ZgR h0) pt<|sn'<|?_
   refine Zaz lk (fun hc6=>?_) (fun hc6=>?_)
   ·refine wr'<|mw<|sn'<|Zaa<|Zai<|Zas<|Zai<|Zah rz<|rT'<|?_
    refine ivx ?_;unfold mlen lp;simp_all
   refine Zad<|Zae<|wr'<|mw<|sn'<|Zaa<|Zas<|Zai<|Zah rz<|rT'<|?_
   refine ivx ?_;unfold mlen lp;simp_all
  refine Zad<|ZaA<|Zae<|wr'<|mw<|sn'<|Zaa<|Zah rz<|rT'<|?_
  refine ivx ?_;unfold mlen lp;simp_all
 refine wr'<|Vw (ZaX lk lki)<|mw<|sn'<|?_
 refine cd' lk (fun hc3=>?_) (fun hc3=>?_)
 ·refine Zad<|Zae<|?_
  refine cd' lk (fun hc4=>?_) (fun hc4=>?_)
  ·refine wr'<|mw<|sn'<|Zaa<|Zas<|Zai<|Zah rz<|rT'<|?_
   refine ivx ?_;unfold mlen lp;simp_all
  refine wr'<|Vw (ZaX lk lki)<|mw<|sn'<|?_
  refine cd' lk (fun hc5=>?_) (fun hc5=>?_)
  ·refine Zag<|wr'<|mw<|Zaf mp (ZgR h0) pt<|sn'<|?_
   refine Zaz lk (fun hc6=>?_) (fun hc6=>?_)
   ·refine wr'<|mw<|sn'<|Zaa<|Zai<|Zas<|Zai<|Zah rz<|rT'<|?_
    refine ivx ?_;unfold mlen lp;simp_all
   refine Zad<|Zae<|wr'<|mw<|sn'<|Zaa<|Zas<|Zai<|Zah rz<|rT'<|?_
   refine ivx ?_;unfold mlen lp;simp_all
  refine Zad<|ZaA<|Zae<|wr'<|mw<|sn'<|Zaa<|Zah rz<|rT'<|?_
  refine ivx ?_;unfold mlen lp;simp_all
 refine Zat<|Vw (ZaX lk lki)<|mw<|sn'<|?_
 refine cd' lk (fun hc4=>?_) (fun hc4=>?_)
 ·refine wr'<|mw<|sn'<|Zaa<|Zas<|Zai<|Zah rz<|rT'<|?_
  refine ivx ?_;unfold mlen lp;simp_all
 refine wr'<|Vw (ZaX lk lki)<|mw<|sn'<|?_
 refine cd' lk (fun hc5=>?_) (fun hc5=>?_)
 ·refine Zag<|wr'<|mw<|Zaf mp (ZgR h0) pt<|sn'<|?_
  refine Zaz lk (fun hc6=>?_) (fun hc6=>?_)
  ·refine wr'<|mw<|sn'<|Zaa<|Zai<|Zas<|Zai<|Zah rz<|rT'<|?_
   refine ivx ?_;unfold mlen lp;simp_all
  refine Zad<|Zae<|wr'<|mw<|sn'<|Zaa<|Zas<|Zai<|Zah rz<|rT'<|?_
  refine ivx ?_;unfold mlen lp;simp_all
 refine Zad<|ZaA<|Zae<|wr'<|mw<|sn'<|Zaa<|Zah rz<|rT'<|?_
 refine ivx ?_;unfold mlen lp;simp_all
theorem ZfN {y m d:Int}{h:AH}:Ac 227 [.agg [iv y,iv m,iv d]] h (bv (Zbp y m d)):=by
 refine tI' k227 fun N hn hlt hlA hbd=>?_
 simp only[tb'] at hbd ⊢
 refine wr'<|E' (Zbc cv rfl (hl0 hn) ha0) pt<|mw<|sn'<|Zag<|Za2<|Dw (Zac lk)<|Dw (Zab lk gx gt0)<|?_
 refine ZaV mp (fun hE hX=>ZbK) pt ?_
 refine D' (v_mv lk) pt ?_
 refine Zg5 (t:=6) gt pt pt (fun hg6=>?_) (fun hg6=>?_)
 ·refine d_do gt<|Dw (Zac lk)<|d_do gt<|Dw (Zab lk gx gt1)<|d_do gt<|?_
  refine ZaV mp (fun hE hX=>ZbK) pt ?_
  refine Dw (Zal lk lk)<|Dw (v_mv lk)<|?_
  refine Zg5 (t:=11) gt pt pt (fun hg11=>?_) (fun hg11=>?_)
  ·refine d_do gt<|Dw (Zac lk)<|d_do gt<|Dw (Zab lk gx gt2)<|d_do gt<|Dw (Zac lk)<|d_do gt<|Dw (Zab lk gx gt0)<|d_do gt<|Dw (Zac lk)<|d_do gt<|Dw (Zab lk gx gt1)<|d_do gt<|?_
   have hy:1≤y∧y≤9999:=by simp only[ZbH] at *;omega
   refine ZaV mp (fun hE hX=>ZiQ om) pt ?_
   refine d_do gt ?_
   refine ZaV mp (fun hE hX=>ZbK) pt ?_
   refine Dw (Zal lk lk)<|Dw (v_mv lk)<|Za8<|?_
   refine Zby ?_
   refine sn'<|Zaa<|Zah rz<|rT'<|?_
   refine bvx ?_;rw[show Zbp y m d=(wi y 1 9999&&(wi m 1 12&&wi d 1 (mlen y m))) from by unfold Zbp wi;simp[Bool.and_assoc]];simp_all
  refine d_no gt pt<|d_no gt pt<|d_no gt pt<|d_no gt pt<|d_no gt pt<|d_no gt pt<|d_no gt pt<|d_no gt pt<|Dw (Zak lk lkb)<|Dw (v_mv lk)<|Za8<|?_
  refine Zby ?_
  refine sn'<|Zaa<|Zah rz<|rT'<|?_
  refine bvx ?_;rw[show Zbp y m d=(wi y 1 9999&&(wi m 1 12&&wi d 1 (mlen y m))) from by unfold Zbp wi;simp[Bool.and_assoc]];simp_all
 refine d_no gt pt<|d_no gt pt<|d_no gt pt<|Dw (Zak lk lkb)<|Dw (v_mv lk)<|d_no gt pt<|d_no gt pt<|d_no gt pt<|d_no gt pt<|d_no gt pt<|d_no gt pt<|d_no gt pt<|d_no gt pt<|Dw (Zak lk lkb)<|?_
 refine Dw (v_mv lk)<|Za8<|?_
 refine Zby ?_
 refine sn'<|Zaa<|Zah rz<|rT'<|?_
 refine bvx ?_;rw[show Zbp y m d=(wi y 1 9999&&(wi m 1 12&&wi d 1 (mlen y m))) from by unfold Zbp wi;simp[Bool.and_assoc]];simp_all
theorem Zds {y m d:Int}{h:AH}(y0:1≤y) (y1:y≤20000) (m0:1≤m) (m1:m≤12) (d0 : -1000≤d) (d1:d≤1000):Ac 149 [.agg [iv y,iv m,iv d]] h (iv (num y m d)):=by
 refine tI' k149 fun N hn hlt hlA hbd=>?_
 simp only[tb'] at hbd ⊢
 refine wr'<|E' (Zbc cv rfl (hl0 hn) ha0) pt<|mw<|sn'<|Zag<|Za2<|Dw (Zac lk)<|Dw (Zab lk gx gt0)<|Dw (Zac lk)<|Dw (Zab lk gx gt1)<|?_
 refine D' (Zbm lk lki om om) pt ?_
 refine Dw (v_mv lk)<|Dw (v_mv lk)<|Za8<|?_
 refine Zby ?_
 refine sn'<|Zag<|wr'<|mw<|Vw (ZaZ lk lki)<|sn'<|?_
 refine cd' lk (fun hc1=>?_) (fun hc1=>?_)
 ·refine wr'<|mw<|?_
  refine V' (Zbm lk lki om om) pt ?_
  refine mw<|sn'<|Zat<|mw<|?_
  refine V' (Zax lk lki om om) pt ?_
  refine mw<|sn'<|wr'<|mw<|?_
  refine V' (ZgF lk lki om om om) pt ?_
  refine V' (Zer lk lki om om) pt ?_
  refine mv' lk pt ?_
  refine V' (ZgE lk lki om om) pt ?_
  refine V' (Zer lk lki om om) pt ?_
  refine V' (Zax lk lk om om) pt ?_
  refine mv' lk pt ?_
  refine V' (ZgE lk lki om om) pt ?_
  refine V' (ZgF lk lki om om om) pt ?_
  refine V' (Zax lk lk om om) pt ?_
  refine mv' lk pt ?_
  refine V' (ZgE lk lki om om) pt ?_
  refine V' (ZgF lk lki om om om) pt ?_
  refine V' (Zbm lk lk om om) pt ?_
  refine mw<|sn'<|wr'<|mw<|mw<|?_
  refine V' (Zer lki lk om om) pt ?_
  refine V' (Zax lk lki om om) pt ?_
  refine V' (ZgF lk lki om om om) pt ?_
  refine V' (Zax lk lk om om) pt ?_
  refine Vw (Zac lk)<|Vw (Zab lk gx gt2)<|?_
  refine V' (Zax lk lk om om) pt ?_
  refine V' (Zbm lk lki om om) pt ?_
  refine V' (Zbm lk lki om om) pt ?_
  refine mw<|sn'<|Zaa<|Zah rz<|rT'<|?_
  refine ivx ?_;rw[←num_ref2 m0 om]
 refine Zad<|Zae<|wr'<|mw<|?_
 refine V' (ZgF lk lki om om om) pt ?_
 refine V' (Zer lk lki om om) pt ?_
 refine mv' lk pt ?_
 refine V' (ZgE lk lki om om) pt ?_
 refine V' (Zer lk lki om om) pt ?_
 refine V' (Zax lk lk om om) pt ?_
 refine mv' lk pt ?_
 refine V' (ZgE lk lki om om) pt ?_
 refine V' (ZgF lk lki om om om) pt ?_
 refine V' (Zax lk lk om om) pt ?_
 refine mv' lk pt ?_
 refine V' (ZgE lk lki om om) pt ?_
 refine V' (ZgF lk lki om om om) pt ?_
 refine V' (Zbm lk lk om om) pt ?_
 refine mw<|sn'<|wr'<|mw<|mw<|?_
 refine V' (Zer lki lk om om) pt ?_
 refine V' (Zax lk lki om om) pt ?_
 refine V' (ZgF lk lki om om om) pt ?_
 refine V' (Zax lk lk om om) pt ?_
 refine Vw (Zac lk)<|Vw (Zab lk gx gt2)<|?_
 refine V' (Zax lk lk om om) pt ?_
 refine V' (Zbm lk lki om om) pt ?_
 refine V' (Zbm lk lki om om) pt ?_
 refine mw<|sn'<|Zaa<|Zah rz<|rT'<|?_
 refine ivx ?_;rw[←num_ref1 om m1]
theorem ZpK {h:AH}:Ac 74 [] h (iv (-719162)):=by
 refine tI' k74 fun N hn hlt hlA hbd=>?_
 simp only[tb'] at hbd ⊢
 refine wr'<|mw<|sn'<|wr'<|Vw (Zaw (ZjM (cvl lki rfl) rfl (cvl lki rfl) rfl (cvl lki rfl) rfl))<|?_
 refine Zaf mp (Zds om om om om om om) pt ?_
 refine mw<|sn'<|Zaa<|Zah rz<|rT'<|?_
 exact ivx (by decide)
theorem Zte {h:AH}:Ac 75 [] h (iv 2932896):=by
 refine tI' k75 fun N hn hlt hlA hbd=>?_
 simp only[tb'] at hbd ⊢
 refine wr'<|mw<|sn'<|wr'<|Vw (Zaw (ZjX (cvl lki rfl) rfl (cvl lki rfl) rfl (cvl lki rfl) rfl))<|?_
 refine Zaf mp (Zds om om om om om om) pt ?_
 refine mw<|sn'<|Zaa<|Zah rz<|rT'<|?_
 exact ivx (by decide)
theorem ZqN {n:Int}{h:AH}:Ac 229 [iv n] h (iv (wd n)):=by
 have hb1 : -6≤n.tmod 7∧n.tmod 7≤6:=by rw[ZqB];split <;> omega
 refine tI' k229 fun N hn hlt hlA hbd=>?_
 simp only[tb'] at hbd ⊢
 refine wr'<|mw<|sn'<|wr'<|mw<|?_
 refine V' (Zps lk lki om) pt ?_
 refine mw<|sn'<|Zag<|wr'<|mw<|Vw (ZaZ lk lki)<|sn'<|?_
 refine cd' lk (fun hc1=>?_) (fun hc1=>?_)
 ·refine Zat<|mw<|?_
  refine V' (Zax lk lki om om) pt ?_
  refine mw<|sn'<|wr'<|mw<|?_
  refine V' (Zax lk lki om om) pt ?_
  refine V' (ZgE lk lki om om) pt ?_
  refine mw<|sn'<|Zaa<|Zah rz<|rT'<|?_
  refine ivx ?_;unfold wd;rw[ZqB] at *;split at * <;> omega
 refine Zad<|Zae<|wr'<|mw<|?_
 refine V' (Zax lk lki om om) pt ?_
 refine V' (ZgE lk lki om om) pt ?_
 refine mw<|sn'<|Zaa<|Zah rz<|rT'<|?_
 refine ivx ?_;unfold wd;rw[ZqB] at *;split at * <;> omega
theorem Ztm {n:Int}{h:AH}(h0 : -719162≤n) (h1:n≤2932896):Ac 230 [iv n] h (dateA (Zbu n)):=by
 refine tI' k230 fun N hn hlt hlA hbd=>?_
 simp only[tb'] at hbd ⊢
 refine wr'<|E' (Za7 (hl0 hn) ha0) pt<|sn'<|wr'<|mw<|mw<|sn'<|Zag<|Zam<|?_
 refine w_lp (ι:=Int×Int) (fun (x_:Int×Int)=>match x_ with | ⟨y,z⟩=>[(3,iv y),(4,iv z),(5,.any)]++rn' 7 15) (fun (x_:Int×Int)=>match x_ with | ⟨y,z⟩=>[]) (fun (x_:Int×Int)=>match x_ with | ⟨y,z⟩=>1≤y∧y<z∧z≤10000∧num y 1 1≤n∧n<num z 1 1) (fun (x_:Int×Int)=>match x_ with | ⟨y,z⟩=>(z-y).toNat) (⟨1,10000⟩) (by exact⟨by omega,by omega,by omega,by rw[ZtF,bef_1];omega,by rw[ZtF,Zdw];omega⟩) ?_
 rintro⟨y,z⟩ hi1
 try simp only[sm',Nat.reduceAdd]
 obtain⟨hy,hyz,hz,hn1,hn2⟩:=hi1
 refine Zag<|wr'<|mw<|mw<|?_
 refine V' (Zbm lk lk om om) pt ?_
 refine Vw (Zbz lk lki)<|sn'<|?_
 refine cd' lk (fun hc1=>?_) (fun hc1=>?_)
 ·refine Zad<|Zae<|Zam<|wr'<|mw<|mw<|?_
  refine V' (Zax lk lk om om) pt ?_
  refine V' (ZgF lk lki om om om) pt ?_
  refine mw<|sn'<|wr'<|mw<|Vw (Zaw (ZjZ cv rfl (cvl lki rfl) rfl (cvl lki rfl) rfl))<|?_
  refine Zaf mp (Zds om om om om om om) pt ?_
  refine mw<|Vw (Zc0 lk lk)<|sn'<|?_
  refine cd' lk (fun hc2=>?_) (fun hc2=>?_)
  ·refine Zat<|mw<|mw<|Zaq<|ZaA<|ZaB<|?_
   refine lU' (⟨(y+z)/2,z⟩) (by (try dsimp only);exact⟨by omega,by omega,by omega,by omega,by omega⟩) (by (try dsimp only);(try simp only[sm',Nat.reduceAdd]);exact ALe.same (by repeat (first | exact wk0 | refine wka ?_ | refine wk1 rfl ?_ | refine wk1 (by first | rfl | exact ivx om | (simp;done)) ?_)) rfl)
  refine Zat<|mw<|mw<|Zaq<|ZaA<|ZaB<|?_
  refine lU' (⟨y,(y+z)/2⟩) (by (try dsimp only);exact⟨by omega,by omega,by omega,by omega,by omega⟩) (by (try dsimp only);(try simp only[sm',Nat.reduceAdd]);exact ALe.same (by repeat (first | exact wk0 | refine wka ?_ | refine wk1 rfl ?_ | refine wk1 (by first | rfl | exact ivx om | (simp;done)) ?_)) rfl)
 obtain rfl:z=y+1:=by omega
 have hup:num y 12 1+mlen y 12=num (y+1) 1 1:=by rw[ZtF,ZfV];unfold num cum mlen;simp;omega
 refine ZaD<|Zay<|Zay<|ZaU<|Zae<|wr'<|mw<|Vw (Zaw (ZjY cv rfl (cvl lki rfl) rfl (cvl lki rfl) rfl))<|E' (Za7 (hl1 hn) ha1) pt<|E' (Zaj lk cv gx rfl (nb' rfl) rfl ZbR (hs1 hn)) ptn<|sn'<|Zag<|?_
 refine Zam ?_
 refine w_lp (ι:=Int) (fun (m:Int)=>[]++rn' 24 8) (fun (m:Int)=>[(1,.mk 0 59 3 [iv y,iv m,iv 1])]) (fun (m:Int)=>1≤m∧m≤12∧n<num y m 1+mlen y m) (fun (m:Int)=>m.toNat) (12) (by exact⟨by omega,by omega,by rw[hup];exact hn2⟩) ?_
 rintro m hi2
 try simp only[sm',Nat.reduceAdd]
 obtain⟨hm0,hm1,hn3⟩:=hi2
 refine Zag<|wr'<|Vw (Zao lk gx Zbv rfl)<|?_
 refine Zaf mp (Zds om om om om om om) pt ?_
 refine mw<|Vw (Zbz lk lk)<|sn'<|?_
 refine cd' lk (fun hc3=>?_) (fun hc3=>?_)
 ·have hm2:2≤m:=by
   rcases Int.lt_or_le m 2 with c | c
   ·obtain rfl:m=1:=by omega
    omega
   exact c
  have hst:num y (m-1) 1+mlen y (m-1)=num y m 1:=by have:=Zg6 (y:=y) (m:=m-1) om om;rw[show m-1+1=m by omega] at this;unfold num;omega
  refine Zad<|Zae<|Zam<|Zat<|Vw (Zac lk)<|Vw (Zab lk gx gt1)<|?_
  refine V' (Zbm lk lki om om) pt ?_
  refine Vw (Zac lk)<|E' (Zaj lk cv gx rfl (nb' rfl) rfl Zsl (hs1 hn)) ptn<|Zaq<|ZaA<|ZaB<|?_
  refine lT' (m-1) (by (try dsimp only);exact⟨by omega,by omega,by rw[hst];exact hc3⟩)
 have hd:Zbp y m (n-num y m 1+1)=true:=by
  have h1:=ZmT (Zcd.2 ⟨hy,by omega,hm0,hm1,by omega,by have:=ZdE y m;omega⟩:Zbp y m 1=true)
  rw[Zcd];omega
 have hdn:num y m (n-num y m 1+1)=n:=by unfold num;omega
 have hde:=Zur hd hdn
 have hnb:=ZlI (y:=y) (m:=m) ⟨hy,by omega⟩ ⟨hm0,hm1⟩
 refine ZaD<|Zay<|Zay<|ZaU<|Zae<|wr'<|mw<|Vw (Zao lk gx Zbv rfl)<|?_
 refine Zaf mp (Zds om om om om om om) pt ?_
 refine V' (Zbm lk lk om om) pt ?_
 refine V' (Zax lk lki om om) pt ?_
 refine Vw (Zac lk)<|E' (Zaj lk cv gx rfl (nb' rfl) rfl Zsk (hs1 hn)) ptn<|sn'<|wr'<|Vw (Zao lk gx Zbv rfl)<|E' (Zaj lk cv gx rfl (nb' rfl) rfl ZbR (hs0 hn)) ptn<|sn'<|Zaa<|Zah (rs1 (rr_c gt gx (ld1 Zbv rfl)))<|rT'<|?_
 rw[hde]
def onSt (y m k n:Int):Int:=num y m 1-1+if k=2 then mlen y m else n
def onGo (k wk s:Int) (j:Nat):Int:=if k=3 then s+j else s-j
def ZhB (k wk s:Int):Int:=if k≤1 then 0 else if k=3 then (wk-wd s)%7 else (wd s-wk)%7
theorem Zim (k wk s:Int):0≤ZhB k wk s∧ZhB k wk s≤6:=by
 unfold ZhB
 repeat' split
 all_goals omega
theorem onGo_go {k wk s:Int}{j:Nat}(hw:0≤wk∧wk≤6) (hj:(j:Int)≤ZhB k wk s) (h:j<7∧1<k∧wd (onGo k wk s j)≠wk):(j:Int)+1≤ZhB k wk s:=by
 have h1:=Zst (n:=s) (k:=wk) (j:=j) om
 have h2:=Zsu (n:=s) (k:=wk) (j:=j) om
 unfold ZhB onGo at *
 rw[if_neg om] at hj ⊢
 split at hj <;> rename_i h3
 ·simp only[h3,if_true] at h ⊢
  have:=h1 hj hw
  omega
 simp only[h3,if_false] at h ⊢
 have:=h2 hj hw
 omega
theorem onGo_end {y m k wk n:Int}{j:Nat}(hk:1≤k∧k≤4) (hw:0≤wk∧wk≤6) (hj:(j:Int)≤ZhB k wk (onSt y m k n)) (h:¬(j<7∧1<k∧wd (onGo k wk (onSt y m k n) j)≠wk)):ZdD y m k wk n=onGo k wk (onSt y m k n) j:=by
 have hb:=Zim k wk (onSt y m k n)
 have h1:=Zst (n:=onSt y m k n) (k:=wk) (j:=j) om
 have h2:=Zsu (n:=onSt y m k n) (k:=wk) (j:=j) om
 have e1:=ZqW y m n
 have e2:=ZqW y m (mlen y m)
 have h5:k=1∨k=2∨k=3∨k=4:=by omega
 rcases h5 with rfl | rfl | rfl | rfl
 ·simp only[ZhB,onGo,onSt,ZdD,fwd,bwd] at *
  simp at hj ⊢
  omega
 ·simp only[ZhB,onGo,onSt,ZdD,fwd,bwd] at *
  simp at hj h h1 h2 ⊢
  rw[show num y m (mlen y m)=num y m 1-1+mlen y m by omega]
  omega
 ·simp only[ZhB,onGo,onSt,ZdD,fwd,bwd] at *
  simp at hj h h1 h2 ⊢
  rw[show num y m n=num y m 1-1+n by omega]
  omega
 simp only[ZhB,onGo,onSt,ZdD,fwd,bwd] at *
 simp at hj h h1 h2 ⊢
 rw[show num y m n=num y m 1-1+n by omega]
 omega
theorem onSt_bd {y m k n:Int}(hy:1≤y∧y≤20000) (hm:1≤m∧m≤12) (hn:k≠2→1≤n∧n≤mlen y m) : -8000010≤onSt y m k n∧onSt y m k n≤8000040:=by
 have h1:=ZlI hy hm
 have h2:=ZdE y m
 unfold onSt;split
 ·omega
 have:=hn (by assumption);omega
theorem onGo_bd {k wk s:Int}{j:Nat}(h:(j:Int)≤ZhB k wk s):s-6≤onGo k wk s j∧onGo k wk s j≤s+6:=by
 have:=Zim k wk s
 unfold onGo;split <;> omega
theorem wiB {n a b:Int}:wi n a b=decide (a≤n∧n≤b):=by unfold wi;rw[Bool.decide_and]
theorem ron_a {y m k wk n:Int}{h:AH}:Ac 153 [iv y,iv m,.agg [iv k,iv wk,iv n]] h (.tup [.agg [iv (onV y m k wk n).1.1,iv (onV y m k wk n).1.2.1,iv (onV y m k wk n).1.2.2],iv (onV y m k wk n).2]):=by
 refine tI' k153 fun N hn hlt hlA hbd=>?_
 simp only[tb'] at hbd ⊢
 refine wr'<|E' (Zbc cv rfl (hl0 hn) ha0) pt<|E' (Za7 (hl1 hn) ha1) pt<|mw<|sn'<|Zag<|?_
 refine ZgD (ι:=Unit) (fun (u_:Unit)=>[(18,bv (decide (¬(1≤y∧y≤9999)∨¬(1≤m∧m≤12))))]++rn' 11 7) (fun (u_:Unit)=>[]) (fun (u_:Unit)=>True) ?_ ?_
 ·try simp only[sm',Nat.reduceAdd]
  refine Zat<|mw<|Zaf mp (ZbK) pt<|Vw (ZaC lk)<|mw<|?_
  refine ZaK (t:=14) gt pt pt (fun hg14=>?_) (fun hg14=>?_)
  ·refine s_no gt pt<|s_no gt pt<|s_no gt pt<|Vw (Zal lk lkb)<|Zaq<|ZaB<|?_
   exact cT' (()) (by trivial) (by (try dsimp only);(try simp only[sm',Nat.reduceAdd]);exact ALe.same (by repeat (first | exact wk0 | refine wka ?_ | refine wk1 rfl ?_ | refine wk1 (by first | rfl | exact bvx (by first | (simp_all [wiB];done) | (rw[Bool.eq_iff_iff];simp_all [wiB];omega) | (rw[Bool.eq_iff_iff];simp_all [wiB];done))) ?_)) rfl)
  refine s_do gt<|mw<|s_do gt<|Zaf mp (ZbK) pt<|s_do gt<|Vw (ZaC lk)<|Vw (Zak lk lk)<|Zaq<|ZaB<|?_
  exact cT' (()) (by trivial) (by (try dsimp only);(try simp only[sm',Nat.reduceAdd]);exact ALe.same (by repeat (first | exact wk0 | refine wka ?_ | refine wk1 rfl ?_ | refine wk1 (by first | rfl | exact bvx (by first | (simp_all [wiB];done) | (rw[Bool.eq_iff_iff];simp_all [wiB];omega) | (rw[Bool.eq_iff_iff];simp_all [wiB];done))) ?_)) rfl)
 rintro u_ hq2
 try simp only[sm',Nat.reduceAdd]
 refine cd' lk (fun hc1=>?_) (fun hc1=>?_)
 ·have hv:=Zkg (y:=y) (m:=m) (kind:=k) (wk:=wk) (n:=n) (k:=3) (by unfold Zcb;rw[if_pos hc1]) om
  refine wr'<|Vw (Zaw ZnO)<|E' (Zaj lk cv gx rfl (nb' rfl) rfl ZbR (hs1 hn)) ptn<|mw<|sn'<|Zaa<|Zai<|Zah (rsn (rm1 (rr_c gt gx (ld1 Zbv rfl)) (rm1 (rr_t gt) rm0)))<|rT'<|?_
  rw[hv]
 have hym:(1≤y∧y≤9999)∧(1≤m∧m≤12):=by omega
 refine Zad<|Zae<|Zag<|wr'<|Vw (Zac lk)<|Vw (Zab lk gx gt0)<|Zaf mp (ZbK) pt<|Vw (ZaC lk)<|sn'<|?_
 refine Zaz lk (fun hc2=>?_) (fun hc2=>?_)
 ·have hk:¬(1≤k∧k≤4):=by have h9:=hc2;simp[wiB] at h9;omega
  have hv:=Zkg (y:=y) (m:=m) (kind:=k) (wk:=wk) (n:=n) (k:=7) (by unfold Zcb;rw[if_neg hc1,if_pos hk]) om
  refine wr'<|Vw (Zaw ZnN)<|E' (Zaj lk cv gx rfl (nb' rfl) rfl ZbR (hs1 hn)) ptn<|mw<|sn'<|Zaa<|Zai<|Zah (rsn (rm1 (rr_c gt gx (ld1 Zbv rfl)) (rm1 (rr_t gt) rm0)))<|rT'<|?_
  rw[hv]
 have hk:1≤k∧k≤4:=by have h9:=hc2;simp[wiB] at h9;omega
 refine Zad<|Zae<|Zag<|?_
 refine ZgD (ι:=Unit) (fun (u_:Unit)=>[(38,bv (decide (¬(0≤wk∧wk≤6)∨k=1∧wk≠0)))]++rn' 25 13) (fun (u_:Unit)=>[]) (fun (u_:Unit)=>True) ?_ ?_
 ·try simp only[sm',Nat.reduceAdd]
  refine Zat<|Vw (Zac lk)<|Vw (Zab lk gx gt1)<|Zaf mp (ZbK) pt<|Vw (ZaC lk)<|mw<|?_
  refine ZaK (t:=29) gt pt pt (fun hg29=>?_) (fun hg29=>?_)
  ·refine s_no gt pt<|s_no gt pt<|s_no gt pt<|s_no gt pt<|s_nu gt pt<|s_nu gt pt<|s_nu gt pt<|s_no gt pt<|Vw (Zal lk lkb)<|Zaq<|ZaB<|?_
   exact cT' (()) (by trivial) (by (try dsimp only);(try simp only[sm',Nat.reduceAdd]);exact ALe.same (by repeat (first | exact wk0 | refine wka ?_ | refine wk1 rfl ?_ | refine wk1 (by first | rfl | exact bvx (by first | (simp_all [wiB];done) | (rw[Bool.eq_iff_iff];simp_all [wiB];omega) | (rw[Bool.eq_iff_iff];simp_all [wiB];done))) ?_)) rfl)
  refine s_do gt<|Vw (Zac lk)<|s_do gt<|Vw (Zab lk gx gt0)<|s_do gt<|Vw (ZaX lk lki)<|s_do gt<|mw<|?_
  refine sp' (t:=33) gt pt pt (fun hg33=>?_) (fun hg33=>?_)
  ·refine s_do gt<|Vw (Zac lk)<|s_do gt<|Vw (Zab lk gx gt1)<|s_do gt<|Vw (Za9 lk lki)<|s_do gt<|Vw (Zal lk lk)<|Vw (Zak lk lk)<|Zaq<|ZaB<|?_
   exact cT' (()) (by trivial) (by (try dsimp only);(try simp only[sm',Nat.reduceAdd]);exact ALe.same (by repeat (first | exact wk0 | refine wka ?_ | refine wk1 rfl ?_ | refine wk1 (by first | rfl | exact bvx (by first | (simp_all [wiB];done) | (rw[Bool.eq_iff_iff];simp_all [wiB];omega) | (rw[Bool.eq_iff_iff];simp_all [wiB];done))) ?_)) rfl)
  refine s_no gt pt<|s_no gt pt<|s_no gt pt<|s_do gt<|Vw (Zak lk lkb)<|Vw (Zak lk lk)<|Zaq<|ZaB<|?_
  exact cT' (()) (by trivial) (by (try dsimp only);(try simp only[sm',Nat.reduceAdd]);exact ALe.same (by repeat (first | exact wk0 | refine wka ?_ | refine wk1 rfl ?_ | refine wk1 (by first | rfl | exact bvx (by first | (simp_all [wiB];done) | (rw[Bool.eq_iff_iff];simp_all [wiB];omega) | (rw[Bool.eq_iff_iff];simp_all [wiB];done))) ?_)) rfl)
 rintro u_ hq8
 try simp only[sm',Nat.reduceAdd]
 refine cd' lk (fun hc3=>?_) (fun hc3=>?_)
 ·have hv:=Zkg (y:=y) (m:=m) (kind:=k) (wk:=wk) (n:=n) (k:=3) (by unfold Zcb;rw[if_neg hc1,if_neg om,if_pos hc3]) om
  refine wr'<|Vw (Zaw ZnM)<|E' (Zaj lk cv gx rfl (nb' rfl) rfl ZbR (hs1 hn)) ptn<|mw<|sn'<|Zaa<|Zai<|Zah (rsn (rm1 (rr_c gt gx (ld1 Zbv rfl)) (rm1 (rr_t gt) rm0)))<|rT'<|?_
  rw[hv]
 refine Zad<|Zae<|wr'<|mw<|mw<|?_
 refine Zaf mp (ZiQ om) pt ?_
 refine mw<|sn'<|Zag<|?_
 refine ZgD (ι:=Unit) (fun (u_:Unit)=>[(62,bv (decide (k=2∧n≠0∨k≠2∧¬(1≤n∧n≤mlen y m))))]++rn' 43 19) (fun (u_:Unit)=>[]) (fun (u_:Unit)=>True) ?_ ?_
 ·try simp only[sm',Nat.reduceAdd]
  refine Zat<|Vw (Zac lk)<|Vw (Zab lk gx gt0)<|Vw (ZaX lk lki)<|mw<|?_
  refine sp' (t:=46) gt pt pt (fun hg46=>?_) (fun hg46=>?_)
  ·refine s_do gt<|Vw (Zac lk)<|s_do gt<|Vw (Zab lk gx gt2)<|s_do gt<|Vw (Za9 lk lki)<|Vw (Zal lk lk)<|mw<|?_
   refine sp' (t:=51) gt pt pt (fun hg51=>?_) (fun hg51=>?_)
   ·refine s_no gt pt<|s_no gt pt<|s_no gt pt<|s_no gt pt<|s_nu gt pt<|s_nu gt pt<|s_nu gt pt<|s_nu gt pt<|s_nu gt pt<|s_no gt pt<|Vw (Zal lk lkb)<|Zaq<|ZaB<|?_
    exact cT' (()) (by trivial) (by (try dsimp only);(try simp only[sm',Nat.reduceAdd]);exact ALe.same (by repeat (first | exact wk0 | refine wka ?_ | refine wk1 rfl ?_ | refine wk1 (by first | rfl | exact bvx (by first | (simp_all [wiB];done) | (rw[Bool.eq_iff_iff];simp_all [wiB];omega) | (rw[Bool.eq_iff_iff];simp_all [wiB];done))) ?_)) rfl)
   refine s_do gt<|Vw (Zac lk)<|s_do gt<|Vw (Zab lk gx gt0)<|s_do gt<|Vw (Za9 lk lki)<|s_do gt<|mw<|?_
   refine sp' (t:=55) gt pt pt (fun hg55=>?_) (fun hg55=>?_)
   ·refine s_do gt<|Vw (Zac lk)<|s_do gt<|Vw (Zab lk gx gt2)<|s_do gt<|mw<|s_do gt<|Zaf mp (ZbK) pt<|s_do gt<|Vw (ZaC lk)<|s_do gt<|Vw (Zal lk lk)<|Vw (Zak lk lk)<|Zaq<|?_
    refine ZaB ?_
    exact cT' (()) (by trivial) (by (try dsimp only);(try simp only[sm',Nat.reduceAdd]);exact ALe.same (by repeat (first | exact wk0 | refine wka ?_ | refine wk1 rfl ?_ | refine wk1 (by first | rfl | exact bvx (by first | (simp_all [wiB];done) | (rw[Bool.eq_iff_iff];simp_all [wiB];omega) | (rw[Bool.eq_iff_iff];simp_all [wiB];done))) ?_)) rfl)
   refine s_no gt pt<|s_no gt pt<|s_no gt pt<|s_no gt pt<|s_no gt pt<|s_do gt<|Vw (Zak lk lkb)<|Vw (Zak lk lk)<|Zaq<|ZaB<|?_
   exact cT' (()) (by trivial) (by (try dsimp only);(try simp only[sm',Nat.reduceAdd]);exact ALe.same (by repeat (first | exact wk0 | refine wka ?_ | refine wk1 rfl ?_ | refine wk1 (by first | rfl | exact bvx (by first | (simp_all [wiB];done) | (rw[Bool.eq_iff_iff];simp_all [wiB];omega) | (rw[Bool.eq_iff_iff];simp_all [wiB];done))) ?_)) rfl)
  refine s_no gt pt<|s_no gt pt<|s_no gt pt<|Vw (Zak lk lkb)<|mw<|s_do gt<|Vw (Zac lk)<|s_do gt<|Vw (Zab lk gx gt0)<|s_do gt<|Vw (Za9 lk lki)<|s_do gt<|mw<|?_
  refine sp' (t:=55) gt pt pt (fun hg55=>?_) (fun hg55=>?_)
  ·refine s_do gt<|Vw (Zac lk)<|s_do gt<|Vw (Zab lk gx gt2)<|s_do gt<|mw<|s_do gt<|Zaf mp (ZbK) pt<|s_do gt<|Vw (ZaC lk)<|s_do gt<|Vw (Zal lk lk)<|Vw (Zak lk lk)<|Zaq<|?_
   refine ZaB ?_
   exact cT' (()) (by trivial) (by (try dsimp only);(try simp only[sm',Nat.reduceAdd]);exact ALe.same (by repeat (first | exact wk0 | refine wka ?_ | refine wk1 rfl ?_ | refine wk1 (by first | rfl | exact bvx (by first | (simp_all [wiB];done) | (rw[Bool.eq_iff_iff];simp_all [wiB];omega) | (rw[Bool.eq_iff_iff];simp_all [wiB];done))) ?_)) rfl)
  refine s_no gt pt<|s_no gt pt<|s_no gt pt<|s_no gt pt<|s_no gt pt<|s_do gt<|Vw (Zak lk lkb)<|Vw (Zak lk lk)<|Zaq<|ZaB<|?_
  exact cT' (()) (by trivial) (by (try dsimp only);(try simp only[sm',Nat.reduceAdd]);exact ALe.same (by repeat (first | exact wk0 | refine wka ?_ | refine wk1 rfl ?_ | refine wk1 (by first | rfl | exact bvx (by first | (simp_all [wiB];done) | (rw[Bool.eq_iff_iff];simp_all [wiB];omega) | (rw[Bool.eq_iff_iff];simp_all [wiB];done))) ?_)) rfl)
 rintro u_ hq12
 try simp only[sm',Nat.reduceAdd]
 refine cd' lk (fun hc4=>?_) (fun hc4=>?_)
 ·have hv:=Zkg (y:=y) (m:=m) (kind:=k) (wk:=wk) (n:=n) (k:=3) (by unfold Zcb;rw[if_neg hc1,if_neg om,if_neg hc3,if_pos hc4]) om
  refine wr'<|Vw (Zaw ZnL)<|E' (Zaj lk cv gx rfl (nb' rfl) rfl ZbR (hs1 hn)) ptn<|mw<|sn'<|Zaa<|Zai<|Zah (rsn (rm1 (rr_c gt gx (ld1 Zbv rfl)) (rm1 (rr_t gt) rm0)))<|rT'<|?_
  rw[hv]
 have he:Zcb y m k wk n=0:=by unfold Zcb;rw[if_neg hc1,if_neg om,if_neg hc3,if_neg hc4]
 have hw:0≤wk∧wk≤6:=by omega
 have hsb:=onSt_bd (y:=y) (m:=m) (k:=k) (n:=n) ⟨hym.1.1,by omega⟩ hym.2 om
 have hnb:=ZlI (y:=y) (m:=m) ⟨hym.1.1,by omega⟩ hym.2
 have hml:=ZdE y m
 have hn':0≤n∧n≤31:=by omega
 refine Zad<|Zae<|wr'<|mw<|mw<|Vw (Zaw (ZnK cv rfl cv rfl (cvl lki rfl) rfl))<|?_
 refine Zaf mp (Zds om om om om om om) pt ?_
 refine V' (Zbm lk lki om om) pt ?_
 refine mw<|sn'<|?_
 refine ZgD (ι:=Unit) (fun (u_:Unit)=>[(9,iv (onSt y m k n))]++rn' 69 17) (fun (u_:Unit)=>[]) (fun (u_:Unit)=>True) ?_ ?_
 ·try simp only[sm',Nat.reduceAdd]
  refine wr'<|Vw (Zac lk)<|Vw (Zab lk gx gt0)<|sn'<|Zam<|wr'<|Vw (ZaX lk lki)<|mw<|sn'<|?_
  refine cd' lk (fun hc5=>?_) (fun hc5=>?_)
  ·refine Zat<|mw<|Vw (Zac lk)<|Vw (Zab lk gx gt2)<|?_
   refine V' (Zax lk lk om om) pt ?_
   refine mw<|Zaq<|ZaA<|ZaB<|?_
   exact cT' (()) (by trivial) (by (try dsimp only);(try simp only[sm',Nat.reduceAdd]);exact ALe.same (by repeat (first | exact wk0 | refine wka ?_ | refine wk1 rfl ?_ | refine wk1 (by first | rfl | exact ivx (by unfold onSt;simp_all) | exact ivx (by unfold onSt;rw[if_neg om])) ?_)) rfl)
  refine wr'<|Vw (ZaX lk lki)<|mw<|sn'<|?_
  refine cd' lk (fun hc6=>?_) (fun hc6=>?_)
  ·refine Zat<|mw<|mw<|?_
   refine V' (Zax lk lk om om) pt ?_
   refine mw<|Zaq<|ZaA<|ZaB<|?_
   exact cT' (()) (by trivial) (by (try dsimp only);(try simp only[sm',Nat.reduceAdd]);exact ALe.same (by repeat (first | exact wk0 | refine wka ?_ | refine wk1 rfl ?_ | refine wk1 (by first | rfl | exact ivx (by unfold onSt;simp_all) | exact ivx (by unfold onSt;rw[if_neg om])) ?_)) rfl)
  refine Zat<|mw<|Vw (Zac lk)<|Vw (Zab lk gx gt2)<|?_
  refine V' (Zax lk lk om om) pt ?_
  refine mw<|Zaq<|ZaA<|ZaB<|?_
  exact cT' (()) (by trivial) (by (try dsimp only);(try simp only[sm',Nat.reduceAdd]);exact ALe.same (by repeat (first | exact wk0 | refine wka ?_ | refine wk1 rfl ?_ | refine wk1 (by first | rfl | exact ivx (by unfold onSt;simp_all) | exact ivx (by unfold onSt;rw[if_neg om])) ?_)) rfl)
 rintro u_ hq19
 try simp only[sm',Nat.reduceAdd]
 refine Zag<|wr'<|mw<|sn'<|Zam<|?_
 refine Zeq (ι:=Nat) (fun (j:Nat)=>[(9,iv (onGo k wk (onSt y m k n) j)),(10,iv (j:Int))]++rn' 86 23) (fun (j:Nat)=>[]) (fun (j:Nat)=>(j:Int)≤ZhB k wk (onSt y m k n)) (fun (j:Nat)=>7-j) (0) (by exact (Zim _ _ _).1) (by try simp only[sm',Nat.reduceAdd];exact ALe.same (by repeat (first | exact wk0 | refine wka ?_ | refine wk1 rfl ?_ | refine wk1 (by first | rfl | exact ivx (by unfold onGo;simp)) ?_)) rfl) ?_
 rintro j hi1
 try simp only[sm',Nat.reduceAdd]
 have hgb:=onGo_bd hi1
 have hfb:=Zim k wk (onSt y m k n)
 refine Zag ?_
 refine ZgD (ι:=Unit) (fun (u_:Unit)=>[(99,bv (decide (j<7∧1<k∧wd (onGo k wk (onSt y m k n) j)≠wk)))]++rn' 86 13) (fun (u_:Unit)=>[]) (fun (u_:Unit)=>True) ?_ ?_
 ·try simp only[sm',Nat.reduceAdd]
  refine Za2<|Dw (v_mv lk)<|Dw (ZaZ lk lki)<|Dw (v_mv lk)<|?_
  refine dq' (t:=88) gt pt pt (fun hg88=>?_) (fun hg88=>?_)
  ·refine d_do gt<|Dw (Zac lk)<|d_do gt<|Dw (Zab lk gx gt0)<|d_do gt<|Dw (Zbz lk lki)<|Dw (Zal lk lk)<|Dw (v_mv lk)<|?_
   refine dq' (t:=93) gt pt pt (fun hg93=>?_) (fun hg93=>?_)
   ·refine d_do gt<|Dw (v_mv lk)<|d_do gt<|?_
    refine ZaV mp (fun hE hX=>ZqN) pt ?_
    refine d_do gt<|Dw (Zac lk)<|d_do gt<|Dw (Zab lk gx gt1)<|d_do gt<|Dw (Za9 lk lk)<|Dw (Zal lk lk)<|Za8<|?_
    refine Zby ?_
    refine Zaq<|ZaB<|?_
    exact cT' (()) (by trivial) (by (try dsimp only);(try simp only[sm',Nat.reduceAdd]);exact ALe.same (by repeat (first | exact wk0 | refine wka ?_ | refine wk1 rfl ?_ | refine wk1 (by first | rfl | exact bvx (by first | (simp_all [wiB];done) | (rw[Bool.eq_iff_iff];simp_all [wiB];omega) | (rw[Bool.eq_iff_iff];simp_all [wiB];done))) ?_)) rfl)
   refine d_no gt pt<|d_no gt pt<|d_no gt pt<|d_no gt pt<|d_no gt pt<|Dw (Zak lk lkb)<|Za8<|?_
   refine Zby ?_
   refine Zaq<|ZaB<|?_
   exact cT' (()) (by trivial) (by (try dsimp only);(try simp only[sm',Nat.reduceAdd]);exact ALe.same (by repeat (first | exact wk0 | refine wka ?_ | refine wk1 rfl ?_ | refine wk1 (by first | rfl | exact bvx (by first | (simp_all [wiB];done) | (rw[Bool.eq_iff_iff];simp_all [wiB];omega) | (rw[Bool.eq_iff_iff];simp_all [wiB];done))) ?_)) rfl)
  refine d_no gt pt<|d_no gt pt<|d_no gt pt<|Dw (Zak lk lkb)<|Dw (v_mv lk)<|d_no gt pt<|d_no gt pt<|d_no gt pt<|d_no gt pt<|d_no gt pt<|Dw (Zak lk lkb)<|Za8<|?_
  refine Zby ?_
  refine Zaq<|ZaB<|?_
  exact cT' (()) (by trivial) (by (try dsimp only);(try simp only[sm',Nat.reduceAdd]);exact ALe.same (by repeat (first | exact wk0 | refine wka ?_ | refine wk1 rfl ?_ | refine wk1 (by first | rfl | exact bvx (by first | (simp_all [wiB];done) | (rw[Bool.eq_iff_iff];simp_all [wiB];omega) | (rw[Bool.eq_iff_iff];simp_all [wiB];done))) ?_)) rfl)
 rintro u_ hq21
 try simp only[sm',Nat.reduceAdd]
 refine cd' lk (fun hc7=>?_) (fun hc7=>?_)
 ·have hgo:=onGo_go hw hi1 hc7
  refine Zad<|Zae<|Zag<|Zam<|wr'<|Vw (Zac lk)<|Vw (Zab lk gx gt0)<|Vw (ZaX lk lki)<|sn'<|?_
  refine cd' lk (fun hc8=>?_) (fun hc8=>?_)
  ·refine Zat<|mw<|?_
   refine V' (Zax lk lki om om) pt ?_
   refine mw<|Zaq<|ZaA<|Zae<|Zat<|mw<|?_
   refine V' (Zax lk lki om om) pt ?_
   refine mw<|Zaq<|ZaB<|?_
   refine lU' (j+1) (by (try dsimp only);omega) (by (try dsimp only);(try simp only[sm',Nat.reduceAdd]);exact ALe.same (by repeat (first | exact wk0 | refine wka ?_ | refine wk1 rfl ?_ | refine wk1 (by first | rfl | exact ivx (by unfold onGo;simp_all;omega) | exact ivx om) ?_)) rfl)
  refine Zat<|mw<|?_
  refine V' (Zbm lk lki om om) pt ?_
  refine mw<|Zaq<|ZaA<|Zae<|Zat<|mw<|?_
  refine V' (Zax lk lki om om) pt ?_
  refine mw<|Zaq<|ZaB<|?_
  refine lU' (j+1) (by (try dsimp only);omega) (by (try dsimp only);(try simp only[sm',Nat.reduceAdd]);exact ALe.same (by repeat (first | exact wk0 | refine wka ?_ | refine wk1 rfl ?_ | refine wk1 (by first | rfl | exact ivx (by unfold onGo;simp_all;omega) | exact ivx om) ?_)) rfl)
 have hd:=onGo_end hk hw hi1 hc7
 rw[←hd]
 refine ZaD<|Zay<|Zay<|ZaU<|Zae<|Zag<|wr'<|mw<|Zaf mp0 (ZpK) pt<|Zaf mp0 (Zte) pt<|Zaf mp (ZbK) pt<|Vw (ZaC lk)<|Zaq<|?_
 refine Zae ?_
 refine Zaz lk (fun hc9=>?_) (fun hc9=>?_)
 ·have hr:¬(-719162≤ZdD y m k wk n∧ZdD y m k wk n≤2932896):=by have h9:=hc9;simp[wiB] at h9;omega
  refine wr'<|Vw (Zaw Zmc)<|E' (Zaj lk cv gx rfl (nb' rfl) rfl ZbR (hs1 hn)) ptn<|mw<|sn'<|Zaa<|Zai<|Zah (rsn (rm1 (rr_c gt gx (ld1 Zbv rfl)) (rm1 (rr_t gt) rm0)))<|rT'<|?_
  rw[ZiZ he rfl,if_neg hr]
 have hr : -719162≤ZdD y m k wk n∧ZdD y m k wk n≤2932896:=by have h9:=hc9;simp[wiB] at h9;omega
 refine Zad<|Zae<|wr'<|mw<|Zaf mp (Ztm hr.1 hr.2) pt<|E' (Zaj lk cv gx rfl (nb' rfl) rfl ZbR (hs1 hn)) ptn<|mw<|sn'<|Zaa<|Zah (rsn (rm1 (rr_c gt gx (ld1 Zbv rfl)) (rm1 (rr_t gt) rm0)))<|rT'<|?_
 rw[ZiZ he rfl,if_pos hr]
end Go.Proofs.YtlekejpogddndaaGreatDoor
end
section
namespace Go.Proofs.YtlekejpogddndaaGreatDoor
open Go.Ab Go.RowKit
def c232:AC:=(Sr [Mb 6 false] (Sr [Mv 7 0,Mv 8 1,Bn 9 .geq 7 8,Mv 10 9,Ot 11 10 (mt 0),Ot 12 10 (mt 2),Ot 13 10 (.bin .leq (.tmp 11) (.tmp 12)),Oo 14 (.pick (.tmp 10) (.tmp 13) (.const (.bool false))),Mv 6 14] .ret))
theorem k232:ZaE Tryz.prog 232=some ⟨c232,[(.tmp 6)],15⟩:=by kernel_rfl
def c233:AC:=(Sr [Mb 4 false] (Sr [Mv 5 0,Cl 6 232 [(.tmp 5),(Ci 1),(Ci 3)],Mv 7 6,Ot 8 7 (mt 1),Ot 9 7 (mt 8),Of 10 9 (mt 0),Of 11 9 (.bin .neq (.tmp 10) (Ci 1)),Ot 12 7 (.pick (.tmp 9) (.const (.bool true)) (.tmp 11)),Oo 13 (.pick (.tmp 7) (.tmp 12) (.const (.bool false))),Mv 4 13] .ret))
theorem k233:ZaE Tryz.prog 233=some ⟨c233,[(.tmp 4)],14⟩:=by kernel_rfl
def c179:AC:=(Sr [Mb 2 false] (Sr [Mv 3 0,Cl 4 177 [(.tmp 3)],Mv 5 4,Of 6 5 (mt 0),Of 7 5 (.call (.func 180) [(.tmp 6)]),Oo 8 (.pick (.tmp 5) (.const (.bool true)) (.tmp 7)),Mv 9 8,Of 10 9 (mt 0),Of 11 9 (.call (.func 181) [(.const (.string ⟨#[95,45,47,43]⟩)),(.tmp 10)]),Of 12 9 (.bin .geq (.tmp 11) (Ci 0)),Oo 13 (.pick (.tmp 9) (.const (.bool true)) (.tmp 12)),Mv 2 13] .ret))
theorem k179:ZaE Tryz.prog 179=some ⟨c179,[(.tmp 2)],14⟩:=by kernel_rfl
def c112:AC:=(Sr [Mb 2 false] (Sr [Mv 3 0,Oo 4 (.bin .neq (.tmp 3) (.const (.string ⟨#[]⟩))),Mv 5 4,Ot 6 5 (mt 0),Ot 7 5 (.len true (.tmp 6)),Ot 8 5 (.bin .leq (.tmp 7) (Ci 24)),Oo 9 (.pick (.tmp 5) (.tmp 8) (.const (.bool false))),Mv 10 9,Ot 11 10 (mt 0),Ot 12 10 (.ix (.tmp 11) (Ci 0)),Ot 13 10 (.call (.func 177) [(.tmp 12)]),Oo 14 (.pick (.tmp 10) (.tmp 13) (.const (.bool false))),Mv 15 14,Ot 16 15 (mt 0),Ot 17 15 (.call (.func 178) [(.tmp 16),(.func 179)]),Oo 18 (.pick (.tmp 15) (.tmp 17) (.const (.bool false))),Mv 2 18] .ret))
theorem k112:ZaE Tryz.prog 112=some ⟨c112,[(.tmp 2)],19⟩:=by kernel_rfl
def c231:AC:=(Sr [Mb 2 false] (Sr [Mv 3 0,Oo 4 (.len true (.tmp 3)),Bc 5 .leq 4 24,Mv 6 5,Ot 7 6 (mt 0),Ot 8 6 (.call (.func 178) [(.tmp 7),(.func 177)]),Oo 9 (.pick (.tmp 6) (.tmp 8) (.const (.bool false))),Mv 2 9] .ret))
theorem k231:ZaE Tryz.prog 231=some ⟨c231,[(.tmp 2)],10⟩:=by kernel_rfl
def c310:AC:=(Sr [Mb 2 false] (.seq (Sr [Mv 6 0,Oo 7 (.bin .eql (.tmp 6) (.const (.string ⟨#[]⟩))),Mv 8 7,Of 9 8 (mt 0),Of 10 8 (.len true (.tmp 9)),Of 11 8 (.bin .gtr (.tmp 10) (Ci 24)),Oo 12 (.pick (.tmp 8) (.const (.bool true)) (.tmp 11))] (Cd 12 (Sr [Mb 2 false] .ret) .skip)) (Sr [Mv 14 0,Oo 15 (.call (.func 320) [(.tmp 14),(.const (.string ⟨#[47]⟩))]),Mv 13 15,Ex 16 13 0,Ex 17 13 1,Ex 18 13 2,Mv 3 16,Mv 4 17,Mv 5 18] (.seq (Sr [Mv 19 5] (Cd 19 (Sr [Mv 20 3,Oo 21 (.bin .neq (.tmp 20) (.const (.string ⟨#[]⟩))),Mv 22 21,Ot 23 22 (mt 4),Ot 24 22 (.bin .neq (.tmp 23) (.const (.string ⟨#[]⟩))),Oo 25 (.pick (.tmp 22) (.tmp 24) (.const (.bool false))),Mv 26 25,Ot 27 26 (mt 3),Ot 28 26 (.call (.func 150) [(.tmp 27)]),Oo 29 (.pick (.tmp 26) (.tmp 28) (.const (.bool false))),Mv 30 29,Ot 31 30 (mt 4),Ot 32 30 (.call (.func 150) [(.tmp 31)]),Oo 33 (.pick (.tmp 30) (.tmp 32) (.const (.bool false))),Mv 2 33] .ret) .skip)) (Sr [Mv 35 0,Oo 36 (.call (.func 320) [(.tmp 35),(.const (.string ⟨#[37,115]⟩))]),Mv 34 36,Ex 37 34 0,Ex 38 34 1,Ex 39 34 2,Mv 3 37,Mv 4 38] (Sr [Mv 40 3,Cl 41 150 [(.tmp 40)],Mv 42 41,Ot 43 42 (mt 4),Ot 44 42 (.call (.func 150) [(.tmp 43)]),Oo 45 (.pick (.tmp 42) (.tmp 44) (.const (.bool false))),Mv 2 45] .ret))))))
theorem k310:ZaE Tryz.prog 310=some ⟨c310,[(.tmp 2)],46⟩:=by kernel_rfl
theorem Zco {n a b:Int}{h:AH}:Ac 232 [iv n,iv a,iv b] h (bv (wi n a b)):=by
 refine tI' k232 fun N hn hlt hlA hbd=>?_
 simp only[tb'] at hbd ⊢
 refine wr'<|mw<|sn'<|wr'<|mw<|mw<|Vw (Zf6 lk lk)<|mw<|?_
 refine sp' (t:=10) gt pt pt (fun hg10=>?_) (fun hg10=>?_)
 ·refine s_do gt<|mw<|s_do gt<|mw<|s_do gt<|Vw (Zc0 lk lk)<|Vw (Zal lk lk)<|mw<|sn'<|Zaa<|Zah rz<|rT'<|?_
  refine bvx ?_;unfold wi;rw[Bool.eq_iff_iff];simp;omega
 refine s_no gt pt<|s_no gt pt<|s_no gt pt<|Vw (Zak lk lkb)<|mw<|sn'<|Zaa<|Zah rz<|rT'<|?_
 refine bvx ?_;unfold wi;rw[Bool.eq_iff_iff];simp;omega
def clkB (n:Int) (wall:Bool):Bool:=wi n 1 3&&(wall||decide (n≠1))
theorem Zje {n:Int}{b:Bool}{h:AH}:Ac 233 [iv n,bv b] h (bv (clkB n b)):=by
 refine tI' k233 fun N hn hlt hlA hbd=>?_
 simp only[tb'] at hbd ⊢
 refine wr'<|mw<|sn'<|wr'<|mw<|Zaf mp (Zco) pt<|mw<|?_
 refine ZaK (t:=7) gt pt pt (fun hg7=>?_) (fun hg7=>?_)
 ·refine s_do gt<|mw<|s_do gt<|mw<|?_
  refine ZaK (t:=9) gt pt pt (fun hg9=>?_) (fun hg9=>?_)
  ·refine s_no gt pt<|s_no gt pt<|s_do gt<|Vw (Zal lk lkb)<|Vw (Zal lk lk)<|mw<|sn'<|Zaa<|Zah rz<|rT'<|?_
   refine bvx ?_;unfold clkB;simp_all
  refine s_do gt<|mw<|s_do gt<|Vw (Za9 lk lki)<|s_do gt<|Vw (Zak lk lk)<|Vw (Zal lk lk)<|mw<|sn'<|Zaa<|Zah rz<|rT'<|?_
  refine bvx ?_;unfold clkB;simp_all
 refine s_no gt pt<|s_no gt pt<|s_nu gt pt<|s_nu gt pt<|s_no gt pt<|Vw (Zak lk lkb)<|mw<|sn'<|Zaa<|Zah rz<|rT'<|?_
 refine bvx ?_;unfold clkB;simp_all
def ZmX (n:Int):Bool:=letB n||digB n||decide (0≤Lib.indexByte [95,45,47,43] n.toNat.toUInt8)
theorem indexN_a {n:Int}{h:AH}:Ac 181 [sv (bA [95,45,47,43]),uv n] h (iv (Lib.indexByte [95,45,47,43] n.toNat.toUInt8)):=Zos
theorem name1_a {n:Int}{h:AH}:Ac 179 [uv n] h (bv (ZmX n)):=by
 refine tI' k179 fun N hn hlt hlA hbd=>?_
 simp only[tb'] at hbd ⊢
 refine wr'<|mw<|sn'<|wr'<|mw<|Zaf mp (Ziq) pt<|mw<|?_
 refine ZaK (t:=5) gt pt pt (fun hg5=>?_) (fun hg5=>?_)
 ·refine s_no gt pt<|s_no gt pt<|Vw (Zal lk lkb)<|mw<|s_no gt pt<|s_no gt pt<|s_no gt pt<|Vw (Zal lk lkb)<|mw<|sn'<|Zaa<|Zah rz<|rT'<|?_
  refine bvx ?_;unfold ZmX;rw[Bool.eq_iff_iff];simp_all
 refine s_do gt<|mw<|s_do gt<|Zaf mp (Zuo) pt<|Vw (Zak lk lk)<|mw<|?_
 refine ZaK (t:=9) gt pt pt (fun hg9=>?_) (fun hg9=>?_)
 ·refine s_no gt pt<|s_no gt pt<|s_no gt pt<|Vw (Zal lk lkb)<|mw<|sn'<|Zaa<|Zah rz<|rT'<|?_
  refine bvx ?_;unfold ZmX;rw[Bool.eq_iff_iff];simp_all
 refine s_do gt<|mw<|s_do gt<|Zaf mp (indexN_a) pt<|s_do gt<|Vw (Zf6 lk lki)<|Vw (Zak lk lk)<|mw<|sn'<|Zaa<|Zah rz<|rT'<|?_
 refine bvx ?_;unfold ZmX;rw[Bool.eq_iff_iff];simp_all
def ZcI (s:ByteArray):Bool:=decide (s.size≠0)&&decide (s.size≤24)&&letB (ZaM s 0).toNat&&allB ZmX s
theorem ZmV {s:ByteArray}{h:AH}(hs:s.size≤maxLen):Ac 112 [sv s] h (bv (ZcI s)):=by
 have hm:s.size≤9223372036854775807:=by simpa [maxLen] using hs
 have hem:=Ze0 (f:=s)
 refine tI' k112 fun N hn hlt hlA hbd=>?_
 simp only[tb'] at hbd ⊢
 refine wr'<|mw<|sn'<|wr'<|mw<|Vw (ZcF lk lks)<|mw<|?_
 refine sp' (t:=5) gt pt pt (fun hg5=>?_) (fun hg5=>?_)
 ·have hne:s.size≠0:=fun e=>hg5 (hem.2 e)
  refine s_do gt<|mw<|s_do gt<|Vw (Zbo lk)<|s_do gt<|Vw (Zc0 lk lki)<|Vw (Zal lk lk)<|mw<|?_
  refine sp' (t:=10) gt pt pt (fun hg10=>?_) (fun hg10=>?_)
  ·refine s_do gt<|mw<|s_do gt<|?_
   refine V' (v_ix lk lki om om) pt ?_
   refine s_do gt<|Zaf mp (Ziq) pt<|Vw (Zal lk lk)<|mw<|?_
   refine ZaK (t:=15) gt pt pt (fun hg15=>?_) (fun hg15=>?_)
   ·refine s_do gt<|mw<|s_do gt<|?_
    refine Zaf mp (all_a (fun _ _=>name1_a) hs) pt ?_
    refine Vw (Zal lk lk)<|mw<|sn'<|Zaa<|Zah rz<|rT'<|?_
    refine bvx ?_;unfold ZcI;simp_all <;> (try intros) <;> omega
   refine s_no gt pt<|s_no gt pt<|Vw (Zak lk lkb)<|mw<|sn'<|Zaa<|Zah rz<|rT'<|?_
   refine bvx ?_;unfold ZcI;simp_all <;> (try intros) <;> omega
  refine s_no gt pt<|s_no gt pt<|s_no gt pt<|Vw (Zak lk lkb)<|mw<|s_no gt pt<|s_no gt pt<|Vw (Zak lk lkb)<|mw<|sn'<|Zaa<|Zah rz<|rT'<|?_
  refine bvx ?_;unfold ZcI;simp_all <;> (try intros) <;> omega
 refine s_no gt pt<|s_no gt pt<|s_no gt pt<|Vw (Zak lk lkb)<|mw<|s_no gt pt<|s_no gt pt<|s_no gt pt<|Vw (Zak lk lkb)<|mw<|s_no gt pt<|s_no gt pt<|Vw (Zak lk lkb)<|mw<|?_
 refine sn'<|Zaa<|Zah rz<|rT'<|?_
 refine bvx ?_;unfold ZcI;simp_all <;> (try intros) <;> omega
def ZcD (s:ByteArray):Bool:=decide (s.size≤24)&&allB letB s
theorem Zt0 {s:ByteArray}{h:AH}(hs:s.size≤maxLen):Ac 231 [sv s] h (bv (ZcD s)):=by
 have hm:s.size≤9223372036854775807:=by simpa [maxLen] using hs
 refine tI' k231 fun N hn hlt hlA hbd=>?_
 simp only[tb'] at hbd ⊢
 refine wr'<|mw<|sn'<|wr'<|mw<|Vw (Zbo lk)<|Vw (Zc0 lk lki)<|mw<|?_
 refine sp' (t:=6) gt pt pt (fun hg6=>?_) (fun hg6=>?_)
 ·refine s_do gt<|mw<|s_do gt<|?_
  refine Zaf mp (all_a (fun _ _=>Ziq) hs) pt ?_
  refine Vw (Zal lk lk)<|mw<|sn'<|Zaa<|Zah rz<|rT'<|?_
  refine bvx ?_;unfold ZcD;simp_all <;> (try intros) <;> omega
 refine s_no gt pt<|s_no gt pt<|Vw (Zak lk lkb)<|mw<|sn'<|Zaa<|Zah rz<|rT'<|?_
 refine bvx ?_;unfold ZcD;simp_all <;> (try intros) <;> omega
abbrev cutL (s:ByteArray) (p:Bs):Bs×Bs×Bool:=Lib.cut (aB s) p
def Zbx (s:ByteArray):Bool:=if s.size=0∨24<s.size then false else
 if (cutL s [47]).2.2=true then decide (bA (cutL s [47]).1≠⟨#[]⟩)&&decide (bA (cutL s [47]).2.1≠⟨#[]⟩)&&allB Zbs (bA (cutL s [47]).1)&&allB Zbs (bA (cutL s [47]).2.1)
 else allB Zbs (bA (cutL s [37,115]).1)&&allB Zbs (bA (cutL s [37,115]).2.1)
theorem Zit {s:ByteArray}{p:Bs}:(cutL s p).1.length≤s.size∧(cutL s p).2.1.length≤s.size:=by
 unfold cutL Lib.cut
 split
 ·simp only[List.length_take,List.length_drop,ZeD];omega
 simp[ZeD]
theorem cut1_a {s:ByteArray}{h:AH}(hz:s.size≤24):Ac 320 [sv s,sv (bA [47])] h (.tup [sv (bA (cutL s [47]).1),sv (bA (cutL s [47]).2.1),bv (cutL s [47]).2.2]):=cut_a om
theorem cut2_a {s:ByteArray}{h:AH}(hz:s.size≤24):Ac 320 [sv s,sv (bA [37,115])] h (.tup [sv (bA (cutL s [37,115]).1),sv (bA (cutL s [37,115]).2.1),bv (cutL s [37,115]).2.2]):=cut_a om
theorem Zqb {s:ByteArray}{h:AH}(hs:s.size≤maxLen):Ac 310 [sv s] h (bv (Zbx s)):=by
 have hm:s.size≤9223372036854775807:=by simpa [maxLen] using hs
 have hem:=Ze0 (f:=s)
 have k1:=Zit (s:=s) (p:=[47])
 have k2:=Zit (s:=s) (p:=[37,115])
 refine tI' k310 fun N hn hlt hlA hbd=>?_
 simp only[tb'] at hbd ⊢
 refine wr'<|mw<|sn'<|Zag<|wr'<|mw<|Vw (Zch lk lks)<|mw<|?_
 refine sp' (t:=8) gt pt pt (fun hg8=>?_) (fun hg8=>?_)
 ·have hB:Zbx s=false:=if_pos (.inl (hem.1 hg8))
  refine s_no gt pt<|s_no gt pt<|s_no gt pt<|Vw (Zal lk lkb)<|sn'<|ZaH lk<|wr'<|mw<|sn'<|Zaa<|Zai<|?_
  refine Zah rz<|rT'<|?_
  rw[hB]
 refine s_do gt<|mw<|s_do gt<|Vw (Zbo lk)<|s_do gt<|Vw (Zbz lk lki)<|Vw (Zak lk lk)<|sn'<|?_
 refine cd' lk (fun hc1=>?_) (fun hc1=>?_)
 ·have hB:Zbx s=false:=if_pos (.inr om)
  refine wr'<|mw<|sn'<|Zaa<|Zai<|Zah rz<|rT'<|?_
  rw[hB]
 have hB:Zbx s=if (cutL s [47]).2.2=true then decide (bA (cutL s [47]).1≠⟨#[]⟩)&&decide (bA (cutL s [47]).2.1≠⟨#[]⟩)&&allB Zbs (bA (cutL s [47]).1)&&allB Zbs (bA (cutL s [47]).2.1) else allB Zbs (bA (cutL s [37,115]).1)&&allB Zbs (bA (cutL s [37,115]).2.1):=if_neg (by have:s.size≠0:=fun e=>hg8 (hem.2 e);omega)
 have hz:s.size≤24:=by omega
 refine Zad<|Zae<|wr'<|mw<|Zaf mp (cut1_a hz) pt<|mw<|Vw (Zbi lk gt)<|Vw (Zbi lk gt)<|Vw (Zbi lk gt)<|mw<|mw<|mw<|Zaq<|?_
 refine Zae<|Zag<|wr'<|mw<|sn'<|?_
 refine cd' lk (fun hc2=>?_) (fun hc2=>?_)
 ·rw[if_pos hc2] at hB
  refine wr'<|mw<|Vw (ZcF lk lks)<|mw<|?_
  refine sp' (t:=22) gt pt pt (fun hg22=>?_) (fun hg22=>?_)
  ·refine s_do gt<|mw<|s_do gt<|Vw (ZcF lk lks)<|Vw (Zal lk lk)<|mw<|?_
   refine sp' (t:=26) gt pt pt (fun hg26=>?_) (fun hg26=>?_)
   ·refine s_do gt<|mw<|s_do gt<|?_
    refine Zaf mp (ZiW (by rw[ZdG];unfold maxLen;omega)) pt ?_
    refine Vw (Zal lk lk)<|mw<|?_
    refine ZaK (t:=30) gt pt pt (fun hg30=>?_) (fun hg30=>?_)
    ·refine s_do gt<|mw<|s_do gt<|?_
     refine Zaf mp (ZiW (by rw[ZdG];unfold maxLen;omega)) pt ?_
     refine Vw (Zal lk lk)<|mw<|sn'<|Zaa<|Zai<|Zah rz<|rT'<|?_
     rw[hB];refine bvx ?_;simp_all
    refine s_no gt pt<|s_no gt pt<|Vw (Zak lk lkb)<|mw<|sn'<|Zaa<|Zai<|Zah rz<|rT'<|?_
    rw[hB];refine bvx ?_;simp_all
   refine s_no gt pt<|s_no gt pt<|Vw (Zak lk lkb)<|mw<|s_no gt pt<|s_no gt pt<|Vw (Zak lk lkb)<|mw<|sn'<|Zaa<|Zai<|Zah rz<|rT'<|?_
   rw[hB];refine bvx ?_;simp_all
  refine s_no gt pt<|s_no gt pt<|Vw (Zak lk lkb)<|mw<|s_no gt pt<|s_no gt pt<|Vw (Zak lk lkb)<|mw<|s_no gt pt<|s_no gt pt<|Vw (Zak lk lkb)<|mw<|sn'<|?_
  refine Zaa<|Zai<|Zah rz<|rT'<|?_
  rw[hB];refine bvx ?_;simp_all
 rw[if_neg (by rw[hc2];simp)] at hB
 refine Zad<|Zae<|wr'<|mw<|Zaf mp (cut2_a hz) pt<|mw<|Vw (Zbi lk gt)<|Vw (Zbi lk gt)<|Vw (Zbi lk gt)<|mw<|mw<|sn'<|?_
 refine wr'<|mw<|?_
 refine Zaf mp (ZiW (by rw[ZdG];unfold maxLen;omega)) pt ?_
 refine mv' lk pt ?_
 refine ZaK (t:=42) gt pt pt (fun hg42=>?_) (fun hg42=>?_)
 ·refine s_do gt<|mw<|s_do gt<|?_
  refine Zaf mp (ZiW (by rw[ZdG];unfold maxLen;omega)) pt ?_
  refine Vw (Zal lk lk)<|mw<|sn'<|Zaa<|Zah rz<|rT'<|?_
  rw[hB];refine bvx ?_;simp_all
 refine s_no gt pt<|s_no gt pt<|Vw (Zak lk lkb)<|mw<|sn'<|Zaa<|Zah rz<|rT'<|?_
 rw[hB];refine bvx ?_;simp_all
end Go.Proofs.YtlekejpogddndaaGreatDoor
end
section
namespace Go.Proofs.YtlekejpogddndaaGreatDoor
open Go.Ab Go.RowKit Civ
attribute [local simp] Zbw ZbM ZbG ZbL
section
theorem Zr7 {a0 a1 a2 a3 a4 a5 a6:AV}{l:List AV}:((a0::a1::a2::a3::a4::a5::a6::l).drop 4).take 3=[a4,a5,a6]:=rfl
theorem Zr9 {a0 a1 a2 c0 c1 c2:AV}{l:List AV}:setCells (a0::a1::a2::l) 0 [c0,c1,c2]=c0::c1::c2::l:=rfl
theorem Zf4 {a0 a1 a2 a3 a4 a5 a6 a7 a8 a9:AV}{l:List AV}:((a0::a1::a2::a3::a4::a5::a6::a7::a8::a9::l).drop 5).take 5=[a5,a6,a7,a8,a9]:=rfl
theorem Ze9 {τ:Operand→AV}:Zau τ [] [(.v (.int .i64 0)),(.v (.int .i64 0)),(.v (.int .i64 0)),(.v (.int .i64 0)),(.v (.int .i64 0))]=some [(.v (.int .i64 0)),(.v (.int .i64 0)),(.v (.int .i64 0)),(.v (.int .i64 0)),(.v (.int .i64 0))]:=rfl
theorem ZdN {a0 b0:Int}{a1 b1:Int}{a2 b2:Int}{a3 b3:Int}{a4 b4:Int}:Zbt [.int,.int,.int,.int,.int] [iv a0,iv a1,iv a2,iv a3,iv a4] [iv b0,iv b1,iv b2,iv b3,iv b4]=some (decide (a0=b0∧a1=b1∧a2=b2∧a3=b3∧a4=b4)):=by
 simp only[Zbt,Zd5,if_true,ZcL,Option.some.injEq]
 simp only[Bool.decide_and,Bool.and_true]
 try (congr 1 <;> simp)
 try rfl
theorem Zf5 {a0 a1 a2 a3 a4 a5 a6 a7:AV}{l:List AV}:((a0::a1::a2::a3::a4::a5::a6::a7::l).drop 5).take 3=[a5,a6,a7]:=rfl
theorem Zr6 {a0 a1 a2 a3 a4 a5 a6 a7 a8 a9:AV}{l:List AV}:(a0::a1::a2::a3::a4::a5::a6::a7::a8::a9::l).take 10=[a0,a1,a2,a3,a4,a5,a6,a7,a8,a9]:=rfl
theorem Zph {a0 a1 a2 a3 a4 a5 a6 a7 a8 a9 c0 c1 c2 c3 c4 c5 c6 c7 c8 c9:AV}{l:List AV}:setCells (a0::a1::a2::a3::a4::a5::a6::a7::a8::a9::l) 0 [c0,c1,c2,c3,c4,c5,c6,c7,c8,c9]=c0::c1::c2::c3::c4::c5::c6::c7::c8::c9::l:=rfl
theorem Zpf {a0 a1 a2 a3 a4 a5 a6 a7 a8 a9:AV}{l:List AV}:((a0::a1::a2::a3::a4::a5::a6::a7::a8::a9::l).drop 0).take 10=[a0,a1,a2,a3,a4,a5,a6,a7,a8,a9]:=rfl
theorem Zr5 {a0 a1 a2 a3 a4 a5 a6 a7 a8 a9 a10:AV}{l:List AV}:(a0::a1::a2::a3::a4::a5::a6::a7::a8::a9::a10::l).take 11=[a0,a1,a2,a3,a4,a5,a6,a7,a8,a9,a10]:=rfl
theorem Zpg {a0 a1 a2 a3 a4 a5 a6 a7 a8 a9 a10 c0 c1 c2 c3 c4 c5 c6 c7 c8 c9 c10:AV}{l:List AV}:setCells (a0::a1::a2::a3::a4::a5::a6::a7::a8::a9::a10::l) 0 [c0,c1,c2,c3,c4,c5,c6,c7,c8,c9,c10]=c0::c1::c2::c3::c4::c5::c6::c7::c8::c9::c10::l:=rfl
theorem Zpe {a0 a1 a2 a3 a4 a5 a6 a7 a8 a9 a10:AV}{l:List AV}:((a0::a1::a2::a3::a4::a5::a6::a7::a8::a9::a10::l).drop 0).take 11=[a0,a1,a2,a3,a4,a5,a6,a7,a8,a9,a10]:=rfl
theorem ZjF {a0 a1:AV}{l:List AV}:(a0::a1::l).take 2=[a0,a1]:=rfl
theorem ZhP {a0 a1 c0 c1:AV}{l:List AV}:setCells (a0::a1::l) 0 [c0,c1]=c0::c1::l:=rfl
theorem Zlc {a0 a1:AV}{l:List AV}:((a0::a1::l).drop 0).take 2=[a0,a1]:=rfl
theorem Zr8 {a0 a1 a2:AV}{l:List AV}:((a0::a1::a2::l).drop 0).take 3=[a0,a1,a2]:=rfl
end
def c156:AC:=(Sr [Oo 1 (.box 36 11 (.tmp 0)),Mc 2 0] (.seq (.block 0 (Sr [Fa 6 0 1,Ld 7 6,Cl 8 112 [(.tmp 7)],Oo 9 (.un .not (.tmp 8)),Mv 10 9,Of 11 10 (.fa 10 (.tmp 1)),Of 12 10 (.load false 1 (.tmp 11)),Of 13 10 (.call (.func 231) [(.tmp 12)]),Of 14 10 (.un .not (.tmp 13)),Oo 15 (.pick (.tmp 10) (.const (.bool true)) (.tmp 14)),Mv 5 15] (Cd 5 (Sr [Mc 2 1] .ret) (Sr [Fa 17 1 1,Ld 18 17,Bc 19 .lss 18 1900,Mv 20 19,Of 21 20 (.fa 1 (.tmp 1)),Of 22 20 (.load false 1 (.tmp 21)),Of 23 20 (.fa 2 (.tmp 1)),Of 24 20 (.load false 1 (.tmp 23)),Of 25 20 (.bin .gtr (.tmp 22) (.tmp 24)),Oo 26 (.pick (.tmp 20) (.const (.bool true)) (.tmp 25)),Mv 27 26,Of 28 27 (.fa 2 (.tmp 1)),Of 29 27 (.load false 1 (.tmp 28)),Of 30 27 (.bin .gtr (.tmp 29) (Ci 2100)),Oo 31 (.pick (.tmp 27) (.const (.bool true)) (.tmp 30)),Mv 32 31,Of 33 32 (.fa 3 (.tmp 1)),Of 34 32 (.load false 1 (.tmp 33)),Of 35 32 (.call (.func 232) [(.tmp 34),(Ci 1),(Ci 12)]),Of 36 32 (.un .not (.tmp 35)),Oo 37 (.pick (.tmp 32) (.const (.bool true)) (.tmp 36)),Mv 16 37] (Cd 16 (Sr [Mc 2 3] .ret) .skip))))) (.seq (Sr [Fa 39 3 1,Ld 40 39,Fa 41 4 1,Oo 42 (.load true 3 (.tmp 41)),Cl 43 94 [(Ci 2001),(.tmp 40),(.tmp 42)],Mv 38 43,Ex 44 38 0,Ex 45 38 1,Oo 3 (.new 59 3 [(iv 0),(iv 0),(iv 0)]),⟨none,none,(.store 3 (.tmp 3) (.tmp 44))⟩,Mv 4 45] (Sr [Mv 46 4,Bc 47 .neq 46 0] (Cd 47 (Sr [Mv 48 4,Mv 2 48] .ret) .skip))) (.seq (.block 1 (Sr [Fa 50 7 1,Ld 51 50,Cl 52 232 [(.tmp 51),(Ci 0),(Ci 172800)],Oo 53 (.un .not (.tmp 52)),Mv 49 53] (Cd 49 (Sr [Mc 2 3] .ret) (Sr [Fa 55 8 1,Ld 56 55,Cl 57 233 [(.tmp 56),(.const (.bool true))],Oo 58 (.un .not (.tmp 57)),Mv 54 58] (Cd 54 (Sr [Mc 2 7] .ret) (Sr [Fa 60 9 1,Ld 61 60,Cl 62 232 [(.tmp 61),(Ci 0),(Ci 10800)],Oo 63 (.un .not (.tmp 62)),Mv 59 63] (Cd 59 (Sr [Mc 2 3] .ret) .skip))))))) (Sr [Mc 2 0] .ret)))))
theorem k156:ZaE Tryz.prog 156=some ⟨c156,[(.tmp 2)],64⟩:=by kernel_rfl
def c209:AC:=(Sr [Oo 1 (.box 129 2 (.tmp 0)),Mc 2 0] (.seq (Sr [Fa 3 0 1,Ld 4 3,Cl 5 112 [(.tmp 4)],Oo 6 (.un .not (.tmp 5)),Mv 7 6,Of 8 7 (.fa 1 (.tmp 1)),Of 9 7 (.load false 1 (.tmp 8)),Of 10 7 (.call (.func 112) [(.tmp 9)]),Of 11 7 (.un .not (.tmp 10)),Oo 12 (.pick (.tmp 7) (.const (.bool true)) (.tmp 11))] (Cd 12 (Sr [Mc 2 1] .ret) .skip)) (Sr [Mc 2 0] .ret)))
theorem k209:ZaE Tryz.prog 209=some ⟨c209,[(.tmp 2)],13⟩:=by kernel_rfl
def c278:AC:=(Sr [Oo 2 (.box 63 10 (.tmp 0)),Mc 4 0] (.seq (.block 0 (Sr [Fa 8 1 2,Ld 9 8,Oo 10 (.bin .neq (.tmp 9) (.const (.string ⟨#[]⟩))),Mv 11 10,Ot 12 11 (.fa 1 (.tmp 2)),Ot 13 11 (.load false 1 (.tmp 12)),Ot 14 11 (.call (.func 112) [(.tmp 13)]),Ot 15 11 (.un .not (.tmp 14)),Oo 16 (.pick (.tmp 11) (.tmp 15) (.const (.bool false))),Mv 17 16,Of 18 17 (.fa 3 (.tmp 2)),Of 19 17 (.load false 1 (.tmp 18)),Of 20 17 (.call (.func 310) [(.tmp 19)]),Of 21 17 (.un .not (.tmp 20)),Oo 22 (.pick (.tmp 17) (.const (.bool true)) (.tmp 21)),Mv 7 22] (Cd 7 (Sr [Mc 4 1] .ret) (Sr [Fa 24 0 2,Ld 25 24,Cl 26 232 [(.tmp 25),(.const (.int .i64 (-64800))),(Ci 64800)],Oo 27 (.un .not (.tmp 26)),Mv 28 27,Of 29 28 (.fa 2 (.tmp 2)),Of 30 28 (.load false 1 (.tmp 29)),Of 31 28 (.call (.func 232) [(.tmp 30),(Ci 0),(Ci 10800)]),Of 32 28 (.un .not (.tmp 31)),Oo 33 (.pick (.tmp 28) (.const (.bool true)) (.tmp 32)),Mv 23 33] (Cd 23 (Sr [Mc 4 3] .ret) (Sr [Fa 35 1 2,Ld 36 35,Oo 37 (.bin .neq (.tmp 36) (.const (.string ⟨#[]⟩))),Mv 38 37,Ot 39 38 (.fa 2 (.tmp 2)),Ot 40 38 (.load false 1 (.tmp 39)),Ot 41 38 (.bin .neq (.tmp 40) (Ci 0)),Oo 42 (.pick (.tmp 38) (.tmp 41) (.const (.bool false))),Mv 34 42] (Cd 34 (Sr [Mc 4 1] .ret) (Sr [Fa 44 4 2,Ld 45 44,Mv 46 1,Oo 47 (.eqb true (.tmp 45) (.tmp 46)),Mv 43 47] (Cd 43 (Sr [Mc 4 4] .ret) (Sr [Fa 49 4 2,Ld 50 49,Mv 48 50] (Cd 48 (.seq (Sr [Fa 51 5 2,Oo 52 (.load true 5 (.tmp 51)),Oo 53 (.build [(iv 0),(iv 0),(iv 0),(iv 0),(iv 0)] []),Oo 54 (.eqs true [.int,.int,.int,.int,.int] (.tmp 52) (.tmp 53))] (Cd 54 (Sr [Mc 4 1] .ret) .skip)) (Sr [Mc 4 0] .ret)) .skip))))))))))) (.seq (Sr [Fa 56 5 2,Fa 57 0 56,Oo 58 (.load true 3 (.tmp 57)),Cl 59 35 [(.tmp 58)],Mv 55 59,Ex 60 55 0,Ex 61 55 1,Mv 5 60,Mv 6 61] (Sr [Mv 62 6,Bc 63 .neq 62 0] (Cd 63 (Sr [Mv 64 6,Mv 4 64] .ret) .skip))) (.seq (.block 1 (Sr [Fa 66 5 2,Fa 67 3 66,Ld 68 67,Cl 69 232 [(.tmp 68),(Ci 0),(Ci 172800)],Oo 70 (.un .not (.tmp 69)),Mv 65 70] (Cd 65 (Sr [Mc 4 3] .ret) (Sr [Fa 72 5 2,Fa 73 4 72,Ld 74 73,Cl 75 233 [(.tmp 74),(.const (.bool false))],Oo 76 (.un .not (.tmp 75)),Mv 71 76] (Cd 71 (Sr [Mc 4 7] .ret) .skip))))) (Sr [Mc 4 0] .ret)))))
theorem k278:ZaE Tryz.prog 278=some ⟨c278,[(.tmp 4)],77⟩:=by kernel_rfl
def c207:AC:=(Sr [Oo 1 (.box 53 2 (.tmp 0)),Mc 2 0] (.seq (Sr [Fa 6 0 1,Ld 7 6,Cl 8 112 [(.tmp 7)],Oo 9 (.un .not (.tmp 8)),Mv 10 9,Of 11 10 (.fa 1 (.tmp 1)),Of 12 10 (.load false 1 (.tmp 11)),Of 13 10 (.len false (.tmp 12)),Of 14 10 (.bin .eql (.tmp 13) (Ci 0)),Oo 15 (.pick (.tmp 10) (.const (.bool true)) (.tmp 14))] (Cd 15 (Sr [Mc 2 1] .ret) .skip)) (.seq (Sr [Fa 16 1 1,Ld 17 16,Oo 18 (.len false (.tmp 17)),Mc 19 0] (.block 0 (.loop (Sr [Bn 20 .lss 19 18] (.seq (Cd 20 .skip (.exit 0)) (.seq (.block 1 (Sr [Mv 21 19,Oo 22 (.ia 10 (.tmp 17) (.tmp 19)),Oo 23 (.load true 10 (.tmp 22)),Oo 4 (.new 63 10 [(iv 0),Ss,(iv 0),Ss,(.v (.bool false)),(iv 0),(iv 0),(iv 0),(iv 0),(iv 0)]),Mv 3 21,⟨none,none,(.store 10 (.tmp 4) (.tmp 23))⟩] (Sr [Oo 24 (.load true 10 (.tmp 4)),Mv 25 3,Fa 26 1 1,Ld 27 26,Oo 28 (.len false (.tmp 27)),Bc 29 .sub 28 1,Bn 30 .eql 25 29,Cl 31 278 [(.tmp 24),(.tmp 30)],Mv 5 31] (Sr [Mv 32 5,Bc 33 .neq 32 0] (Cd 33 (Sr [Mv 34 5,Mv 2 34] .ret) .skip))))) (.reg [Bc 35 .add 19 1,Mv 19 35]))))))) (Sr [Mc 2 0] .ret))))
theorem k207:ZaE Tryz.prog 207=some ⟨c207,[(.tmp 2)],36⟩:=by kernel_rfl
def c205:AC:=(Sr [Mc 4 0] (.seq (Sr [Mv 8 0,Oo 9 (.len false (.tmp 8)),Mc 10 0] (.block 0 (.loop (Sr [Bn 11 .lss 10 9] (.seq (Cd 11 .skip (.exit 0)) (.seq (.block 1 (Sr [Oo 12 (.ia 11 (.tmp 8) (.tmp 10)),Oo 13 (.load true 11 (.tmp 12)),Oo 6 (.new 36 11 [Ss,(iv 0),(iv 0),(iv 0),(iv 0),(iv 0),(iv 0),(iv 0),(iv 0),(iv 0),Ss]),⟨none,none,(.store 11 (.tmp 6) (.tmp 13))⟩] (Sr [Mv 14 1,Oo 15 (.load true 11 (.tmp 6)),Oo 16 (.call (.tmp 14) [(.tmp 15)]),Mv 7 16] (Sr [Mv 17 7,Bc 18 .neq 17 0] (Cd 18 (Sr [Mv 19 7,Mv 4 19] .ret) .skip))))) (.reg [Bc 20 .add 10 1,Mv 10 20]))))))) (Sr [Mc 4 0] .ret)))
theorem k205:ZaE Tryz.prog 205=some ⟨c205,[(.tmp 4)],21⟩:=by kernel_rfl
def c206:AC:=(Sr [Mc 4 0] (.seq (Sr [Mv 8 0,Oo 9 (.len false (.tmp 8)),Mc 10 0] (.block 0 (.loop (Sr [Bn 11 .lss 10 9] (.seq (Cd 11 .skip (.exit 0)) (.seq (.block 1 (Sr [Oo 12 (.ia 2 (.tmp 8) (.tmp 10)),Oo 13 (.load true 2 (.tmp 12)),Oo 6 (.new 53 2 [Ss,(.sl 0 0 true [])]),⟨none,none,(.store 2 (.tmp 6) (.tmp 13))⟩] (Sr [Mv 14 1,Oo 15 (.load true 2 (.tmp 6)),Oo 16 (.call (.tmp 14) [(.tmp 15)]),Mv 7 16] (Sr [Mv 17 7,Bc 18 .neq 17 0] (Cd 18 (Sr [Mv 19 7,Mv 4 19] .ret) .skip))))) (.reg [Bc 20 .add 10 1,Mv 10 20]))))))) (Sr [Mc 4 0] .ret)))
theorem k206:ZaE Tryz.prog 206=some ⟨c206,[(.tmp 4)],21⟩:=by kernel_rfl
def c208:AC:=(Sr [Mc 4 0] (.seq (Sr [Mv 8 0,Oo 9 (.len false (.tmp 8)),Mc 10 0] (.block 0 (.loop (Sr [Bn 11 .lss 10 9] (.seq (Cd 11 .skip (.exit 0)) (.seq (.block 1 (Sr [Oo 12 (.ia 2 (.tmp 8) (.tmp 10)),Oo 13 (.load true 2 (.tmp 12)),Oo 6 (.new 129 2 [Ss,Ss]),⟨none,none,(.store 2 (.tmp 6) (.tmp 13))⟩] (Sr [Mv 14 1,Oo 15 (.load true 2 (.tmp 6)),Oo 16 (.call (.tmp 14) [(.tmp 15)]),Mv 7 16] (Sr [Mv 17 7,Bc 18 .neq 17 0] (Cd 18 (Sr [Mv 19 7,Mv 4 19] .ret) .skip))))) (.reg [Bc 20 .add 10 1,Mv 10 20]))))))) (Sr [Mc 4 0] .ret)))
theorem k208:ZaE Tryz.prog 208=some ⟨c208,[(.tmp 4)],21⟩:=by kernel_rfl
def c204:AC:=(Sr [Oo 1 (.box 26 3 (.tmp 0)),Mb 2 false] (.seq (Sr [Fa 5 1 1,Ld 6 5,Oo 7 (.len false (.tmp 6)),Mc 8 0] (.block 0 (.loop (Sr [Bn 9 .lss 8 7] (.seq (Cd 9 .skip (.exit 0)) (.seq (.block 1 (Sr [Oo 10 (.ia 2 (.tmp 6) (.tmp 8)),Oo 11 (.load true 2 (.tmp 10)),Oo 4 (.new 53 2 [Ss,(.sl 0 0 true [])]),⟨none,none,(.store 2 (.tmp 4) (.tmp 11))⟩] (Sr [Fa 12 1 4,Ld 13 12,Oo 14 (.len false (.tmp 13)),Bc 15 .gtr 14 8] (Cd 15 (Sr [Mb 2 true] .ret) .skip)))) (.reg [Bc 16 .add 8 1,Mv 8 16]))))))) (Sr [Fa 17 0 1,Ld 18 17,Oo 19 (.len false (.tmp 18)),Bc 20 .gtr 19 40,Mv 21 20,Of 22 21 (.fa 1 (.tmp 1)),Of 23 21 (.load false 1 (.tmp 22)),Of 24 21 (.len false (.tmp 23)),Of 25 21 (.bin .gtr (.tmp 24) (Ci 20)),Oo 26 (.pick (.tmp 21) (.const (.bool true)) (.tmp 25)),Mv 27 26,Of 28 27 (.fa 2 (.tmp 1)),Of 29 27 (.load false 1 (.tmp 28)),Of 30 27 (.len false (.tmp 29)),Of 31 27 (.bin .gtr (.tmp 30) (Ci 20)),Oo 32 (.pick (.tmp 27) (.const (.bool true)) (.tmp 31)),Mv 2 32] .ret)))
theorem k204:ZaE Tryz.prog 204=some ⟨c204,[(.tmp 2)],33⟩:=by kernel_rfl
def c132:AC:=(Sr [Oo 1 (.box 26 3 (.tmp 0)),Mc 2 0] (.seq (Sr [Oo 4 (.load true 3 (.tmp 1)),Cl 5 204 [(.tmp 4)]] (Cd 5 (Sr [Mc 2 2] .ret) .skip)) (Sr [Fa 6 0 1,Ld 7 6,Cl 8 205 [(.tmp 7),(.func 156)],Mv 3 8] (.seq (Sr [Mv 9 3,Bc 10 .eql 9 0] (Cd 10 (.reg [Fa 11 1 1,Ld 12 11,Cl 13 206 [(.tmp 12),(.func 207)],Mv 3 13]) .skip)) (.seq (Sr [Mv 14 3,Bc 15 .eql 14 0] (Cd 15 (.reg [Fa 16 2 1,Ld 17 16,Cl 18 208 [(.tmp 17),(.func 209)],Mv 3 18]) .skip)) (Sr [Mv 19 3,Mv 2 19] .ret))))))
theorem k132:ZaE Tryz.prog 132=some ⟨c132,[(.tmp 2)],20⟩:=by kernel_rfl
def Zbr (r:Rul):Int :=
 if ¬(ZcI r.1=true∧ZcD r.2.2.2.2.2.2.2.2=true) then 1
 else if r.2.1<1900∨r.2.1>r.2.2.1∨r.2.2.1>2100∨¬wi r.2.2.2.1 1 12=true then 3
 else if (onV 2001 r.2.2.2.1 r.2.2.2.2.1.1 r.2.2.2.2.1.2.1 r.2.2.2.2.1.2.2).2≠0 then (onV 2001 r.2.2.2.1 r.2.2.2.2.1.1 r.2.2.2.2.1.2.1 r.2.2.2.2.1.2.2).2
 else if ¬wi r.2.2.2.2.2.1 0 172800=true then 3
 else if ¬clkB r.2.2.2.2.2.2.1 true=true then 7
 else if ¬wi r.2.2.2.2.2.2.2.1 0 10800=true then 3 else 0
def ZeT (l:Lnk):Int:=if ¬(ZcI l.1=true∧ZcI l.2=true) then 1 else 0
theorem link_b {a b:ByteArray}{h:AH}(ha:a.size≤maxLen) (hb:b.size≤maxLen):Ac 209 [.agg [sv a,sv b]] h (iv (ZeT (a,b))):=by
 refine tI' k209 fun N hn hlt hlA hbd=>?_
 simp only[tb'] at hbd ⊢
 refine wr'<|E' (Zbc cv rfl (hl0 hn) ha0) pt<|mw<|sn'<|Zag<|wr'<|Vw (Zac lk)<|Vw (Zab lk gx gt0)<|Zaf mp (ZmV ha) pt<|Vw (ZaC lk)<|mw<|?_
 refine ZaK (t:=7) gt pt pt (fun hg7=>?_) (fun hg7=>?_)
 ·refine s_no gt pt<|s_no gt pt<|s_no gt pt<|s_no gt pt<|Vw (Zal lk lkb)<|sn'<|ZaH lk<|wr'<|mw<|sn'<|Zaa<|?_
  refine Zai<|Zah rz<|rT'<|?_
  rw[show ZeT (a,b)=1 by unfold ZeT;simp_all]
 refine s_do gt<|Vw (Zac lk)<|s_do gt<|Vw (Zab lk gx gt1)<|s_do gt<|Zaf mp (ZmV hb) pt<|s_do gt<|Vw (ZaC lk)<|Vw (Zak lk lk)<|sn'<|?_
 refine Zaz lk (fun hc1=>?_) (fun hc1=>?_)
 ·refine wr'<|mw<|sn'<|Zaa<|Zai<|Zah rz<|rT'<|?_
  rw[show ZeT (a,b)=1 by unfold ZeT;simp_all]
 refine Zad<|Zae<|wr'<|mw<|sn'<|Zaa<|Zah rz<|rT'<|?_
 rw[show ZeT (a,b)=0 by unfold ZeT;simp_all]
theorem rule_b {nm lt:ByteArray}{f t m k w n a c s:Int}{h:AH}(hn:nm.size≤maxLen) (hl:lt.size≤maxLen):Ac 156 [.agg [sv nm,iv f,iv t,iv m,iv k,iv w,iv n,iv a,iv c,iv s,sv lt]] h (iv (Zbr (nm,f,t,m,(k,w,n),a,c,s,lt))):=by
 have hnm:=hn
 clear hn
 refine tI' k156 fun N hn hlt hlA hbd=>?_
 simp only[tb'] at hbd ⊢
 refine wr'<|E' (Zbc cv rfl (hl0 hn) ha0) pt<|mw<|sn'<|Zag<|Zam<|wr'<|Vw (Zac lk)<|Vw (Zab lk gx gt0)<|Zaf mp (ZmV hnm) pt<|Vw (ZaC lk)<|?_
 refine mv' lk pt ?_
 refine ZaK (t:=10) gt pt pt (fun hg10=>?_) (fun hg10=>?_)
 ·refine s_no gt pt<|s_no gt pt<|s_no gt pt<|s_no gt pt<|Vw (Zal lk lkb)<|mw<|sn'<|ZaH lk<|wr'<|mw<|sn'<|?_
  refine Zaa<|Zas<|Zai<|Zah rz<|rT'<|?_
  rw[show Zbr (nm,f,t,m,(k,w,n),a,c,s,lt)=1 by unfold Zbr;simp_all]
 refine s_do gt<|Vw (Zac lk)<|s_do gt<|Vw (Zab lk gx gt10)<|s_do gt<|Zaf mp (Zt0 hl) pt<|s_do gt<|Vw (ZaC lk)<|Vw (Zak lk lk)<|mw<|sn'<|?_
 refine Zaz lk (fun hc1=>?_) (fun hc1=>?_)
 ·refine wr'<|mw<|sn'<|Zaa<|Zas<|Zai<|Zah rz<|rT'<|?_
  rw[show Zbr (nm,f,t,m,(k,w,n),a,c,s,lt)=1 by unfold Zbr;simp_all]
 have h1:ZcI nm=true∧ZcD lt=true:=by simp_all
 have hR:Zbr (nm,f,t,m,(k,w,n),a,c,s,lt)=if f<1900∨f>t∨t>2100∨¬wi m 1 12=true then 3 else if (onV 2001 m k w n).2≠0 then (onV 2001 m k w n).2 else if ¬wi a 0 172800=true then 3 else if ¬clkB c true=true then 7 else if ¬wi s 0 10800=true then 3 else 0:=if_neg (by simp[h1])
 refine wr'<|Vw (Zac lk)<|Vw (Zab lk gx gt1)<|Vw (ZaZ lk lki)<|mw<|?_
 refine sp' (t:=20) gt pt pt (fun hg20=>?_) (fun hg20=>?_)
 ·rw[if_pos (.inl om)] at hR
  refine s_no gt pt<|s_no gt pt<|s_no gt pt<|s_no gt pt<|s_no gt pt<|Vw (Zal lk lkb)<|mw<|s_no gt pt<|s_no gt pt<|s_no gt pt<|Vw (Zal lk lkb)<|mw<|s_no gt pt<|s_no gt pt<|?_
  refine s_no gt pt<|s_no gt pt<|Vw (Zal lk lkb)<|mw<|sn'<|ZaH lk<|wr'<|mw<|sn'<|Zaa<|Zas<|?_
  refine Zai<|Zah rz<|rT'<|?_
  rw[hR]
 refine s_do gt<|Vw (Zac lk)<|s_do gt<|Vw (Zab lk gx gt1)<|s_do gt<|Vw (Zac lk)<|s_do gt<|Vw (Zab lk gx gt2)<|s_do gt<|Vw (Zbz lk lk)<|Vw (Zak lk lk)<|mw<|?_
 refine sp' (t:=27) gt pt pt (fun hg27=>?_) (fun hg27=>?_)
 ·rw[if_pos (.inr (.inl om))] at hR
  refine s_no gt pt<|s_no gt pt<|s_no gt pt<|Vw (Zal lk lkb)<|mw<|s_no gt pt<|s_no gt pt<|s_no gt pt<|s_no gt pt<|Vw (Zal lk lkb)<|mw<|sn'<|ZaH lk<|?_
  refine wr'<|mw<|sn'<|Zaa<|Zas<|Zai<|Zah rz<|rT'<|?_
  rw[hR]
 refine s_do gt<|Vw (Zac lk)<|s_do gt<|Vw (Zab lk gx gt2)<|s_do gt<|Vw (Zbz lk lki)<|Vw (Zak lk lk)<|mw<|?_
 refine sp' (t:=32) gt pt pt (fun hg32=>?_) (fun hg32=>?_)
 ·rw[if_pos (.inr (.inr (.inl om)))] at hR
  refine s_no gt pt<|s_no gt pt<|s_no gt pt<|s_no gt pt<|Vw (Zal lk lkb)<|mw<|sn'<|ZaH lk<|wr'<|mw<|sn'<|?_
  refine Zaa<|Zas<|Zai<|Zah rz<|rT'<|?_
  rw[hR]
 refine s_do gt<|Vw (Zac lk)<|s_do gt<|Vw (Zab lk gx gt3)<|s_do gt<|Zaf mp (Zco) pt<|s_do gt<|Vw (ZaC lk)<|Vw (Zak lk lk)<|mw<|sn'<|?_
 refine Zaz lk (fun hc2=>?_) (fun hc2=>?_)
 ·rw[if_pos (.inr (.inr (.inr (by simpa using hc2))))] at hR
  refine wr'<|mw<|sn'<|Zaa<|Zas<|Zai<|Zah rz<|rT'<|?_
  rw[hR]
 have hw2:wi m 1 12=true:=by simpa using hc2
 have h2:¬(f<1900∨f>t∨t>2100∨¬wi m 1 12=true):=by rw[hw2];simp;omega
 rw[if_neg h2] at hR
 refine Zad<|ZaA<|Zae<|Zag<|wr'<|Vw (Zac lk)<|Vw (Zab lk gx gt3)<|Vw (Zac lk)<|Vw (Zao lk gx Zr7 rfl)<|Zaf mp (on_a) pt<|mw<|Vw (Zbi lk gt)<|Vw (Zbi lk gt)<|?_
 refine E' (Za7 (hl1 hn) ha1) pt<|E' (Zaj lk cv gx rfl (nb' rfl) rfl Zr9 (hs1 hn)) ptn<|mw<|sn'<|wr'<|mw<|Vw (Za9 lk lki)<|sn'<|?_
 refine cd' lk (fun hc3=>?_) (fun hc3=>?_)
 ·rw[if_pos hc3] at hR
  refine wr'<|mw<|mw<|sn'<|Zaa<|Zai<|Zah rz<|rT'<|?_
  rw[hR]
 rw[if_neg hc3] at hR
 refine Zad<|Zae<|Zag<|Zam<|wr'<|Vw (Zac lk)<|Vw (Zab lk gx gt7)<|Zaf mp (Zco) pt<|Vw (ZaC lk)<|mw<|sn'<|?_
 refine Zaz lk (fun hc4=>?_) (fun hc4=>?_)
 ·rw[if_pos (by simpa using hc4)] at hR
  refine wr'<|mw<|sn'<|Zaa<|Zas<|Zai<|Zah rz<|rT'<|?_
  rw[hR]
 rw[if_neg (by simpa using hc4)] at hR
 refine wr'<|Vw (Zac lk)<|Vw (Zab lk gx gt8)<|Zaf mp (Zje) pt<|Vw (ZaC lk)<|mw<|sn'<|?_
 refine Zaz lk (fun hc5=>?_) (fun hc5=>?_)
 ·rw[if_pos (by simpa using hc5)] at hR
  refine wr'<|mw<|sn'<|Zaa<|Zas<|Zai<|Zah rz<|rT'<|?_
  rw[hR]
 rw[if_neg (by simpa using hc5)] at hR
 refine wr'<|Vw (Zac lk)<|Vw (Zab lk gx gt9)<|Zaf mp (Zco) pt<|Vw (ZaC lk)<|mw<|sn'<|?_
 refine Zaz lk (fun hc6=>?_) (fun hc6=>?_)
 ·rw[if_pos (by simpa using hc6)] at hR
  refine wr'<|mw<|sn'<|Zaa<|Zas<|Zai<|Zah rz<|rT'<|?_
  rw[hR]
 rw[if_neg (by simpa using hc6)] at hR
 refine Zad<|ZaA<|Zae<|wr'<|mw<|sn'<|Zaa<|Zah rz<|rT'<|?_
 rw[hR]
theorem ZlV {y m d:Int}{h:AH}:Ac 35 [.agg [iv y,iv m,iv d]] h (.tup [iv (if Zbp y m d=true then num y m d else 0),iv (if Zbp y m d=true then 0 else 3)]):=days_a
def eraE (sh:Int) (rl:ByteArray) (sa:Int) (fm:ByteArray) (op:Bool) (y m d a c:Int) (last:Bool):Int :=
 if (rl≠⟨#[]⟩∧¬ZcI rl=true)∨¬Zbx fm=true then 1
 else if ¬wi sh (-64800) 64800=true∨¬wi sa 0 10800=true then 3
 else if rl≠⟨#[]⟩∧sa≠0 then 1
 else if op≠last then 4
 else if op=true then (if ¬(y=0∧m=0∧d=0∧a=0∧c=0) then 1 else 0)
 else if ¬Zbp y m d=true then 3
 else if ¬wi a 0 172800=true then 3
 else if ¬clkB c false=true then 7 else 0
theorem era_b {rl fm:ByteArray}{sh sa y m d a c:Int}{op last:Bool}{h:AH}(hrl:rl.size≤maxLen) (hfm:fm.size≤maxLen):Ac 278 [.agg [iv sh,sv rl,iv sa,sv fm,bv op,iv y,iv m,iv d,iv a,iv c],bv last] h (iv (eraE sh rl sa fm op y m d a c last)):=by
 refine tI' k278 fun N hn hlt hlA hbd=>?_
 simp only[tb'] at hbd ⊢
 refine wr'<|E' (Zbc cv rfl (hl0 hn) ha0) pt<|mw<|sn'<|Zag<|Zam<|wr'<|Vw (Zac lk)<|Vw (Zab lk gx gt1)<|Vw (ZcF lk lks)<|mw<|?_
 refine sp' (t:=11) gt pt pt (fun hg11=>?_) (fun hg11=>?_)
 ·refine s_do gt<|Vw (Zac lk)<|s_do gt<|Vw (Zab lk gx gt1)<|s_do gt<|Zaf mp (ZmV hrl) pt<|s_do gt<|Vw (ZaC lk)<|Vw (Zal lk lk)<|mw<|?_
  refine ZaK (t:=17) gt pt pt (fun hg17=>?_) (fun hg17=>?_)
  ·refine s_no gt pt<|s_no gt pt<|s_no gt pt<|s_no gt pt<|Vw (Zal lk lkb)<|mw<|sn'<|ZaH lk<|wr'<|mw<|sn'<|?_
   refine Zaa<|Zas<|Zai<|Zah rz<|rT'<|?_
   refine ivx ?_;unfold eraE;simp_all
  refine s_do gt<|Vw (Zac lk)<|s_do gt<|Vw (Zab lk gx gt3)<|s_do gt<|Zaf mp (Zqb hfm) pt<|s_do gt<|Vw (ZaC lk)<|Vw (Zak lk lk)<|mw<|sn'<|?_
  refine Zaz lk (fun hc1=>?_) (fun hc1=>?_)
  ·refine wr'<|mw<|sn'<|Zaa<|Zas<|Zai<|Zah rz<|rT'<|?_
   refine ivx ?_;unfold eraE;simp_all
  refine wr'<|Vw (Zac lk)<|Vw (Zab lk gx gt0)<|Zaf mp (Zco) pt<|Vw (ZaC lk)<|mw<|?_
  refine ZaK (t:=28) gt pt pt (fun hg28=>?_) (fun hg28=>?_)
  ·refine s_no gt pt<|s_no gt pt<|s_no gt pt<|s_no gt pt<|Vw (Zal lk lkb)<|mw<|sn'<|ZaH lk<|wr'<|mw<|sn'<|?_
   refine Zaa<|Zas<|Zai<|Zah rz<|rT'<|?_
   refine ivx ?_;unfold eraE;simp_all
  refine s_do gt<|Vw (Zac lk)<|s_do gt<|Vw (Zab lk gx gt2)<|s_do gt<|Zaf mp (Zco) pt<|s_do gt<|Vw (ZaC lk)<|Vw (Zak lk lk)<|mw<|sn'<|?_
  refine Zaz lk (fun hc2=>?_) (fun hc2=>?_)
  ·refine wr'<|mw<|sn'<|Zaa<|Zas<|Zai<|Zah rz<|rT'<|?_
   refine ivx ?_;unfold eraE;simp_all
  refine wr'<|Vw (Zac lk)<|Vw (Zab lk gx gt1)<|Vw (ZcF lk lks)<|mw<|?_
  refine sp' (t:=38) gt pt pt (fun hg38=>?_) (fun hg38=>?_)
  ·refine s_do gt<|Vw (Zac lk)<|s_do gt<|Vw (Zab lk gx gt2)<|s_do gt<|Vw (Za9 lk lki)<|Vw (Zal lk lk)<|mw<|sn'<|?_
   refine cd' lk (fun hc3=>?_) (fun hc3=>?_)
   ·refine wr'<|mw<|sn'<|Zaa<|Zas<|Zai<|Zah rz<|rT'<|?_
    refine ivx ?_;unfold eraE;simp_all
   refine wr'<|Vw (Zac lk)<|Vw (Zab lk gx gt4)<|mw<|Vw (Zd9 lk lk)<|mw<|sn'<|?_
   refine cd' lk (fun hc4=>?_) (fun hc4=>?_)
   ·refine wr'<|mw<|sn'<|Zaa<|Zas<|Zai<|Zah rz<|rT'<|?_
    refine ivx ?_;unfold eraE;simp_all
   refine wr'<|Vw (Zac lk)<|Vw (Zab lk gx gt4)<|mw<|sn'<|?_
   refine Zaz lk (fun hc5=>?_) (fun hc5=>?_)
   ·refine Zag<|wr'<|Vw (Zac lk)<|Vw (Zao lk gx Zf4 rfl)<|Vw (Zaw Ze9)<|Vw (Zix lk lk ZdN)<|sn'<|?_
    refine cd' lk (fun hc6=>?_) (fun hc6=>?_)
    ·refine wr'<|mw<|sn'<|Zaa<|Zai<|Zas<|Zai<|Zah rz<|rT'<|?_
     refine ivx ?_;unfold eraE;simp_all
    refine Zad<|Zae<|wr'<|mw<|sn'<|Zaa<|Zas<|Zai<|Zah rz<|rT'<|?_
    refine ivx ?_;unfold eraE;simp_all
   refine Zad<|ZaA<|Zae<|Zag<|wr'<|Vw (Zac lk)<|Vw (Zbl lk)<|Vw (Zao lk gx Zf5 rfl)<|Zaf mp (ZlV) pt<|mw<|Vw (Zbi lk gt)<|Vw (Zbi lk gt)<|mw<|?_
   refine mw<|sn'<|wr'<|mw<|Vw (Za9 lk lki)<|sn'<|?_
   refine cd' lk (fun hc7=>?_) (fun hc7=>?_)
   ·refine wr'<|mw<|mw<|sn'<|Zaa<|Zai<|Zah rz<|rT'<|?_
    refine ivx ?_;unfold eraE;simp_all
   refine Zad<|Zae<|Zag<|Zam<|wr'<|Vw (Zac lk)<|Vw (Zbl lk)<|Vw (Zab lk gx gt8)<|Zaf mp (Zco) pt<|Vw (ZaC lk)<|mw<|sn'<|?_
   refine Zaz lk (fun hc8=>?_) (fun hc8=>?_)
   ·refine wr'<|mw<|sn'<|Zaa<|Zas<|Zai<|Zah rz<|rT'<|?_
    refine ivx ?_;unfold eraE;simp_all
   refine wr'<|Vw (Zac lk)<|Vw (Zbl lk)<|Vw (Zab lk gx gt9)<|Zaf mp (Zje) pt<|Vw (ZaC lk)<|mw<|sn'<|?_
   refine Zaz lk (fun hc9=>?_) (fun hc9=>?_)
   ·refine wr'<|mw<|sn'<|Zaa<|Zas<|Zai<|Zah rz<|rT'<|?_
    refine ivx ?_;unfold eraE;simp_all
   refine Zad<|ZaA<|Zae<|wr'<|mw<|sn'<|Zaa<|Zah rz<|rT'<|?_
   refine ivx ?_;unfold eraE;simp_all
  refine s_no gt pt<|s_no gt pt<|s_no gt pt<|Vw (Zak lk lkb)<|mw<|sn'<|ZaT lk<|wr'<|Vw (Zac lk)<|Vw (Zab lk gx gt4)<|mw<|Vw (Zd9 lk lk)<|?_
  refine mw<|sn'<|?_
  refine cd' lk (fun hc4=>?_) (fun hc4=>?_)
  ·refine wr'<|mw<|sn'<|Zaa<|Zas<|Zai<|Zah rz<|rT'<|?_
   refine ivx ?_;unfold eraE;simp_all
  refine wr'<|Vw (Zac lk)<|Vw (Zab lk gx gt4)<|mw<|sn'<|?_
  refine Zaz lk (fun hc5=>?_) (fun hc5=>?_)
  ·refine Zag<|wr'<|Vw (Zac lk)<|Vw (Zao lk gx Zf4 rfl)<|Vw (Zaw Ze9)<|Vw (Zix lk lk ZdN)<|sn'<|?_
   refine cd' lk (fun hc6=>?_) (fun hc6=>?_)
   ·refine wr'<|mw<|sn'<|Zaa<|Zai<|Zas<|Zai<|Zah rz<|rT'<|?_
    refine ivx ?_;unfold eraE;simp_all
   refine Zad<|Zae<|wr'<|mw<|sn'<|Zaa<|Zas<|Zai<|Zah rz<|rT'<|?_
   refine ivx ?_;unfold eraE;simp_all
  refine Zad<|ZaA<|Zae<|Zag<|wr'<|Vw (Zac lk)<|Vw (Zbl lk)<|Vw (Zao lk gx Zf5 rfl)<|Zaf mp (ZlV) pt<|mw<|Vw (Zbi lk gt)<|Vw (Zbi lk gt)<|mw<|?_
  refine mw<|sn'<|wr'<|mw<|Vw (Za9 lk lki)<|sn'<|?_
  refine cd' lk (fun hc7=>?_) (fun hc7=>?_)
  ·refine wr'<|mw<|mw<|sn'<|Zaa<|Zai<|Zah rz<|rT'<|?_
   refine ivx ?_;unfold eraE;simp_all
  refine Zad<|Zae<|Zag<|Zam<|wr'<|Vw (Zac lk)<|Vw (Zbl lk)<|Vw (Zab lk gx gt8)<|Zaf mp (Zco) pt<|Vw (ZaC lk)<|mw<|sn'<|?_
  refine Zaz lk (fun hc8=>?_) (fun hc8=>?_)
  ·refine wr'<|mw<|sn'<|Zaa<|Zas<|Zai<|Zah rz<|rT'<|?_
   refine ivx ?_;unfold eraE;simp_all
  refine wr'<|Vw (Zac lk)<|Vw (Zbl lk)<|Vw (Zab lk gx gt9)<|Zaf mp (Zje) pt<|Vw (ZaC lk)<|mw<|sn'<|?_
  refine Zaz lk (fun hc9=>?_) (fun hc9=>?_)
  ·refine wr'<|mw<|sn'<|Zaa<|Zas<|Zai<|Zah rz<|rT'<|?_
   refine ivx ?_;unfold eraE;simp_all
  refine Zad<|ZaA<|Zae<|wr'<|mw<|sn'<|Zaa<|Zah rz<|rT'<|?_
  refine ivx ?_;unfold eraE;simp_all
 refine s_no gt pt<|s_no gt pt<|s_no gt pt<|s_no gt pt<|Vw (Zak lk lkb)<|mw<|s_do gt<|Vw (Zac lk)<|s_do gt<|Vw (Zab lk gx gt3)<|s_do gt<|Zaf mp (Zqb hfm) pt<|s_do gt<|Vw (ZaC lk)<|?_
 refine Vw (Zak lk lk)<|mw<|sn'<|?_
 refine Zaz lk (fun hc1=>?_) (fun hc1=>?_)
 ·refine wr'<|mw<|sn'<|Zaa<|Zas<|Zai<|Zah rz<|rT'<|?_
  refine ivx ?_;unfold eraE;simp_all
 refine wr'<|Vw (Zac lk)<|Vw (Zab lk gx gt0)<|Zaf mp (Zco) pt<|Vw (ZaC lk)<|mw<|?_
 refine ZaK (t:=28) gt pt pt (fun hg28=>?_) (fun hg28=>?_)
 ·refine s_no gt pt<|s_no gt pt<|s_no gt pt<|s_no gt pt<|Vw (Zal lk lkb)<|mw<|sn'<|ZaH lk<|wr'<|mw<|sn'<|?_
  refine Zaa<|Zas<|Zai<|Zah rz<|rT'<|?_
  refine ivx ?_;unfold eraE;simp_all
 refine s_do gt<|Vw (Zac lk)<|s_do gt<|Vw (Zab lk gx gt2)<|s_do gt<|Zaf mp (Zco) pt<|s_do gt<|Vw (ZaC lk)<|Vw (Zak lk lk)<|mw<|sn'<|?_
 refine Zaz lk (fun hc2=>?_) (fun hc2=>?_)
 ·refine wr'<|mw<|sn'<|Zaa<|Zas<|Zai<|Zah rz<|rT'<|?_
  refine ivx ?_;unfold eraE;simp_all
 refine wr'<|Vw (Zac lk)<|Vw (Zab lk gx gt1)<|Vw (ZcF lk lks)<|mw<|?_
 refine sp' (t:=38) gt pt pt (fun hg38=>?_) (fun hg38=>?_)
 ·refine s_do gt<|Vw (Zac lk)<|s_do gt<|Vw (Zab lk gx gt2)<|s_do gt<|Vw (Za9 lk lki)<|Vw (Zal lk lk)<|mw<|sn'<|?_
  refine cd' lk (fun hc3=>?_) (fun hc3=>?_)
  ·refine wr'<|mw<|sn'<|Zaa<|Zas<|Zai<|Zah rz<|rT'<|?_
   refine ivx ?_;unfold eraE;simp_all
  refine wr'<|Vw (Zac lk)<|Vw (Zab lk gx gt4)<|mw<|Vw (Zd9 lk lk)<|mw<|sn'<|?_
  refine cd' lk (fun hc4=>?_) (fun hc4=>?_)
  ·refine wr'<|mw<|sn'<|Zaa<|Zas<|Zai<|Zah rz<|rT'<|?_
   refine ivx ?_;unfold eraE;simp_all
  refine wr'<|Vw (Zac lk)<|Vw (Zab lk gx gt4)<|mw<|sn'<|?_
  refine Zaz lk (fun hc5=>?_) (fun hc5=>?_)
  ·refine Zag<|wr'<|Vw (Zac lk)<|Vw (Zao lk gx Zf4 rfl)<|Vw (Zaw Ze9)<|Vw (Zix lk lk ZdN)<|sn'<|?_
   refine cd' lk (fun hc6=>?_) (fun hc6=>?_)
   ·refine wr'<|mw<|sn'<|Zaa<|Zai<|Zas<|Zai<|Zah rz<|rT'<|?_
    refine ivx ?_;unfold eraE;simp_all
   refine Zad<|Zae<|wr'<|mw<|sn'<|Zaa<|Zas<|Zai<|Zah rz<|rT'<|?_
   refine ivx ?_;unfold eraE;simp_all
  refine Zad<|ZaA<|Zae<|Zag<|wr'<|Vw (Zac lk)<|Vw (Zbl lk)<|Vw (Zao lk gx Zf5 rfl)<|Zaf mp (ZlV) pt<|mw<|Vw (Zbi lk gt)<|Vw (Zbi lk gt)<|mw<|?_
  refine mw<|sn'<|wr'<|mw<|Vw (Za9 lk lki)<|sn'<|?_
  refine cd' lk (fun hc7=>?_) (fun hc7=>?_)
  ·refine wr'<|mw<|mw<|sn'<|Zaa<|Zai<|Zah rz<|rT'<|?_
   refine ivx ?_;unfold eraE;simp_all
  refine Zad<|Zae<|Zag<|Zam<|wr'<|Vw (Zac lk)<|Vw (Zbl lk)<|Vw (Zab lk gx gt8)<|Zaf mp (Zco) pt<|Vw (ZaC lk)<|mw<|sn'<|?_
  refine Zaz lk (fun hc8=>?_) (fun hc8=>?_)
  ·refine wr'<|mw<|sn'<|Zaa<|Zas<|Zai<|Zah rz<|rT'<|?_
   refine ivx ?_;unfold eraE;simp_all
  refine wr'<|Vw (Zac lk)<|Vw (Zbl lk)<|Vw (Zab lk gx gt9)<|Zaf mp (Zje) pt<|Vw (ZaC lk)<|mw<|sn'<|?_
  refine Zaz lk (fun hc9=>?_) (fun hc9=>?_)
  ·refine wr'<|mw<|sn'<|Zaa<|Zas<|Zai<|Zah rz<|rT'<|?_
   refine ivx ?_;unfold eraE;simp_all
  refine Zad<|ZaA<|Zae<|wr'<|mw<|sn'<|Zaa<|Zah rz<|rT'<|?_
  refine ivx ?_;unfold eraE;simp_all
 refine s_no gt pt<|s_no gt pt<|s_no gt pt<|Vw (Zak lk lkb)<|mw<|sn'<|ZaT lk<|wr'<|Vw (Zac lk)<|Vw (Zab lk gx gt4)<|mw<|Vw (Zd9 lk lk)<|?_
 refine mw<|sn'<|?_
 refine cd' lk (fun hc4=>?_) (fun hc4=>?_)
 ·refine wr'<|mw<|sn'<|Zaa<|Zas<|Zai<|Zah rz<|rT'<|?_
  refine ivx ?_;unfold eraE;simp_all
 refine wr'<|Vw (Zac lk)<|Vw (Zab lk gx gt4)<|mw<|sn'<|?_
 refine Zaz lk (fun hc5=>?_) (fun hc5=>?_)
 ·refine Zag<|wr'<|Vw (Zac lk)<|Vw (Zao lk gx Zf4 rfl)<|Vw (Zaw Ze9)<|Vw (Zix lk lk ZdN)<|sn'<|?_
  refine cd' lk (fun hc6=>?_) (fun hc6=>?_)
  ·refine wr'<|mw<|sn'<|Zaa<|Zai<|Zas<|Zai<|Zah rz<|rT'<|?_
   refine ivx ?_;unfold eraE;simp_all
  refine Zad<|Zae<|wr'<|mw<|sn'<|Zaa<|Zas<|Zai<|Zah rz<|rT'<|?_
  refine ivx ?_;unfold eraE;simp_all
 refine Zad<|ZaA<|Zae<|Zag<|wr'<|Vw (Zac lk)<|Vw (Zbl lk)<|Vw (Zao lk gx Zf5 rfl)<|Zaf mp (ZlV) pt<|mw<|Vw (Zbi lk gt)<|Vw (Zbi lk gt)<|mw<|?_
 refine mw<|sn'<|wr'<|mw<|Vw (Za9 lk lki)<|sn'<|?_
 refine cd' lk (fun hc7=>?_) (fun hc7=>?_)
 ·refine wr'<|mw<|mw<|sn'<|Zaa<|Zai<|Zah rz<|rT'<|?_
  refine ivx ?_;unfold eraE;simp_all
 refine Zad<|Zae<|Zag<|Zam<|wr'<|Vw (Zac lk)<|Vw (Zbl lk)<|Vw (Zab lk gx gt8)<|Zaf mp (Zco) pt<|Vw (ZaC lk)<|mw<|sn'<|?_
 refine Zaz lk (fun hc8=>?_) (fun hc8=>?_)
 ·refine wr'<|mw<|sn'<|Zaa<|Zas<|Zai<|Zah rz<|rT'<|?_
  refine ivx ?_;unfold eraE;simp_all
 refine wr'<|Vw (Zac lk)<|Vw (Zbl lk)<|Vw (Zab lk gx gt9)<|Zaf mp (Zje) pt<|Vw (ZaC lk)<|mw<|sn'<|?_
 refine Zaz lk (fun hc9=>?_) (fun hc9=>?_)
 ·refine wr'<|mw<|sn'<|Zaa<|Zas<|Zai<|Zah rz<|rT'<|?_
  refine ivx ?_;unfold eraE;simp_all
 refine Zad<|ZaA<|Zae<|wr'<|mw<|sn'<|Zaa<|Zah rz<|rT'<|?_
 refine ivx ?_;unfold eraE;simp_all
abbrev eraX (x:Era) (last:Bool):Int:=eraE x.1 x.2.1 x.2.2.1 x.2.2.2.1 x.2.2.2.2.1 x.2.2.2.2.2.1.1 x.2.2.2.2.2.1.2.1 x.2.2.2.2.2.1.2.2 x.2.2.2.2.2.2.1 x.2.2.2.2.2.2.2 last
def Zg2:List Era→Int
 | []=>0
 | x::xs=>if eraX x xs.isEmpty≠0 then eraX x xs.isEmpty else Zg2 xs
def Zfm (z:Zon):Int:=if ¬ZcI z.1=true∨z.2.length=0 then 1 else Zg2 z.2
def ZtD (x:Era):Prop:=x.2.1.size≤maxLen∧x.2.2.2.1.size≤maxLen
theorem Zqe {l:List Era}{k:Nat}(h:k<l.length):Zg2 (l.drop k)=if eraX l[k] (decide ((k:Int)=(l.length:Int)-1))≠0 then eraX l[k] (decide ((k:Int)=(l.length:Int)-1)) else Zg2 (l.drop (k+1)):=by
 have e:(l.drop (k+1)).isEmpty=decide ((k:Int)=(l.length:Int)-1):=by
  rw[Bool.eq_iff_iff,List.isEmpty_iff,List.drop_eq_nil_iff,decide_eq_true_iff];omega
 rw[List.drop_eq_getElem_cons h,Zg2,e]
theorem zone_b {nm:ByteArray}{l:List Era}{h:AH}(hnm:nm.size≤maxLen) (hl : ∀ x∈l,ZtD x):Ac 207 [.agg [sv nm,.sl l.length 10 false (rows eraC l)]] h (iv (Zfm (nm,l))):=by
 refine tI' k207 fun N hn hlt hlA hbd=>?_
 simp only[tb'] at hbd ⊢
 refine wr'<|E' (Zbc cv rfl (hl0 hn) ha0) pt<|mw<|sn'<|Zag<|wr'<|Vw (Zac lk)<|Vw (Zab lk gx gt0)<|Zaf mp (ZmV hnm) pt<|Vw (ZaC lk)<|mw<|?_
 refine ZaK (t:=10) gt pt pt (fun hg10=>?_) (fun hg10=>?_)
 ·have hZ:Zfm (nm,l)=1:=if_pos (.inl (by simpa using hg10))
  refine s_no gt pt<|s_no gt pt<|s_no gt pt<|s_no gt pt<|Vw (Zal lk lkb)<|sn'<|ZaH lk<|wr'<|mw<|sn'<|Zaa<|?_
  refine Zai<|Zah rz<|rT'<|?_
  rw[hZ]
 refine s_do gt<|Vw (Zac lk)<|s_do gt<|Vw (Zab lk gx gt1)<|s_do gt<|Vw (ZaG lk)<|s_do gt<|Vw (ZaX lk lki)<|Vw (Zak lk lk)<|sn'<|?_
 refine cd' lk (fun hc1=>?_) (fun hc1=>?_)
 ·have hZ:Zfm (nm,l)=1:=if_pos (.inr (by show l.length=0;omega))
  refine wr'<|mw<|sn'<|Zaa<|Zai<|Zah rz<|rT'<|?_
  rw[hZ]
 have hZ:Zfm (nm,l)=Zg2 l:=if_neg (by rintro (h1 | h1);exact h1 (by simpa using hg10);exact hc1 (by show (l.length:Int)=0;have:l.length=0:=h1;omega))
 refine Zad<|Zae<|Zag<|wr'<|Vw (Zac lk)<|Vw (Zab lk gx gt1)<|Vw (ZaG lk)<|mw<|sn'<|Zam<|?_
 refine w_lp (ι:=Nat) (fun (k:Nat)=>[(19,iv (k:Int))]++rn' 2 4++rn' 20 16) (fun (k:Nat)=>[]) (fun (k:Nat)=>k≤l.length∧Zg2 l=Zg2 (l.drop k)) (fun (k:Nat)=>l.length-k) (0) (by exact⟨Nat.zero_le _,rfl⟩) ?_
 rintro k hi1
 try simp only[sm',Nat.reduceAdd]
 obtain⟨hk1,hk2⟩:=hi1
 refine wr'<|Vw (ZaZ lk lk)<|sn'<|Zag<|?_
 refine cd' lk (fun hc2=>?_) (fun hc2=>?_)
 ·have hk:k<l.length:=by omega
  have ho:=hl _ (List.getElem_mem hk)
  rw[Zqe hk] at hk2
  refine Zad<|Zae<|Zag<|Zam<|wr'<|mw<|?_
  refine V' (ZaJ lk lk Zb5 (nb' rfl) ro om ro rfl) pt ?_
  refine Vw (ZaF lk Zr6 rfl)<|E' (Za7 (hl1 hn) ha1) pt<|mw<|E' (Zaj lk cv gx rfl (nb' rfl) rfl Zph (hs1 hn)) ptn<|sn'<|wr'<|Vw (Zao lk gx Zpf rfl)<|mw<|Vw (Zac lk)<|Vw (Zab lk gx gt1)<|Vw (ZaG lk)<|?_
  refine V' (Zbm lk lki om om) pt ?_
  refine Vw (ZaX lk lk)<|Zaf mp (era_b (last:=decide ((k:Int)=(l.length:Int)-1)) ho.1 ho.2) pt<|mw<|sn'<|wr'<|mw<|Vw (Za9 lk lki)<|sn'<|?_
  refine cd' lk (fun hc3=>?_) (fun hc3=>?_)
  ·have hc3':eraX l[k] (decide ((k:Int)=(l.length:Int)-1))≠0:=hc3
   rw[if_pos hc3'] at hk2
   refine wr'<|mw<|mw<|sn'<|Zaa<|Zas<|Zai<|Zai<|Zas<|Zai<|Zah rz<|rT'<|?_
   rw[hZ,hk2]
  have hc3':¬eraX l[k] (decide ((k:Int)=(l.length:Int)-1))≠0:=hc3
  rw[if_neg hc3'] at hk2
  refine Zad<|ZaA<|Zae<|Zat<|?_
  refine V' (Zax lk lki om om) pt ?_
  refine mw<|Zaq<|ZaB<|?_
  refine lU' (k+1) (by (try dsimp only);exact⟨by omega,hk2⟩) (by (try dsimp only);(try simp only[sm',Nat.reduceAdd]);exact bk' 1 hn hlt)
 rw[List.drop_of_length_le om] at hk2
 refine ZaD<|Zay<|Zay<|ZaU<|Zae<|wr'<|mw<|sn'<|Zaa<|Zah rz<|rT'<|?_
 rw[hZ,hk2];rfl
def Za3 {α:Type}(p:α→Int):List α→Int
 | []=>0
 | x::xs=>if p x≠0 then p x else Za3 p xs
theorem Zdu {α:Type}{p:α→Int}{l:List α}{k:Nat}(h:k<l.length):Za3 p (l.drop k)=if p l[k]≠0 then p l[k] else Za3 p (l.drop (k+1)):=by
 rw[List.drop_eq_getElem_cons h,Za3]
theorem Zq9 {p:Rul→Int}{f:FuncId}{l:List Rul}(hp : ∀ x∈l,∀ h:AH,ACalls Tryz.prog f [.agg (rulC x)] h fun y h'=>h'=h∧y=.ret (iv (p x))) {h:AH}:Ac 205 [.sl l.length 11 false (rows rulC l),.v (.func (.func f) #[] #[])] h (iv (Za3 p l)):=by
 refine tI' k205 fun N hn hlt hlA hbd=>?_
 simp only[tb'] at hbd ⊢
 refine wr'<|mw<|sn'<|Zag<|wr'<|mw<|Vw (ZaG lk)<|mw<|sn'<|Zam<|?_
 refine w_lp (ι:=Nat) (fun (k:Nat)=>[(10,iv (k:Int)),(4,.any),(6,.any),(7,.any)]++rn' 11 10) (fun (k:Nat)=>[]) (fun (k:Nat)=>k≤l.length∧Za3 p l=Za3 p (l.drop k)) (fun (k:Nat)=>l.length-k) (0) (by exact⟨Nat.zero_le _,rfl⟩) ?_
 rintro k hi1
 try simp only[sm',Nat.reduceAdd]
 obtain⟨hk1,hk2⟩:=hi1
 refine wr'<|Vw (ZaZ lk lk)<|sn'<|Zag<|?_
 refine cd' lk (fun hc1=>?_) (fun hc1=>?_)
 ·have hk:k<l.length:=by omega
  rw[Zdu hk] at hk2
  refine Zad<|Zae<|Zag<|Zam<|wr'<|?_
  refine V' (ZaJ lk lk Zck (nb' rfl) ro om ro rfl) pt ?_
  refine Vw (ZaF lk Zr5 rfl)<|E' (Za7 (hl0 hn) ha0) pt<|E' (Zaj lk cv gx rfl (nb' rfl) rfl Zpg (hs0 hn)) ptn<|sn'<|wr'<|mw<|Vw (Zao lk gx Zpe rfl)<|ZiL lk mp (hp _ (List.getElem_mem hk) _) pt<|mw<|sn'<|Zag<|?_
  refine Zat<|mw<|Vw (Za9 lk lki)<|sn'<|?_
  refine cd' lk (fun hc2=>?_) (fun hc2=>?_)
  ·rw[if_pos hc2] at hk2
   refine wr'<|mw<|mw<|sn'<|Zaa<|Zas<|Zai<|Zai<|Zas<|Zai<|Zah rz<|rT'<|?_
   rw[hk2]
  rw[if_neg hc2] at hk2
  refine Zad<|ZaA<|Zae<|Zat<|?_
  refine V' (Zax lk lki om om) pt ?_
  refine mw<|Zaq<|ZaB<|?_
  refine lU' (k+1) (by (try dsimp only);exact⟨by omega,hk2⟩) (by (try dsimp only);(try simp only[sm',Nat.reduceAdd]);exact bk' 0 hn hlt)
 rw[List.drop_of_length_le om] at hk2
 refine ZaD<|Zay<|Zay<|ZaU<|Zae<|wr'<|mw<|sn'<|Zaa<|Zah rz<|rT'<|?_
 rw[hk2];rfl
theorem Zq8 {p:Zon→Int}{f:FuncId}{l:List Zon}(hp : ∀ x∈l,∀ h:AH,ACalls Tryz.prog f [.agg (zonC x)] h fun y h'=>h'=h∧y=.ret (iv (p x))) {h:AH}:Ac 206 [.sl l.length 2 false (rows zonC l),.v (.func (.func f) #[] #[])] h (iv (Za3 p l)):=by
 refine tI' k206 fun N hn hlt hlA hbd=>?_
 simp only[tb'] at hbd ⊢
 refine wr'<|mw<|sn'<|Zag<|wr'<|mw<|Vw (ZaG lk)<|mw<|sn'<|Zam<|?_
 refine w_lp (ι:=Nat) (fun (k:Nat)=>[(10,iv (k:Int)),(4,.any),(6,.any),(7,.any)]++rn' 11 10) (fun (k:Nat)=>[]) (fun (k:Nat)=>k≤l.length∧Za3 p l=Za3 p (l.drop k)) (fun (k:Nat)=>l.length-k) (0) (by exact⟨Nat.zero_le _,rfl⟩) ?_
 rintro k hi1
 try simp only[sm',Nat.reduceAdd]
 obtain⟨hk1,hk2⟩:=hi1
 refine wr'<|Vw (ZaZ lk lk)<|sn'<|Zag<|?_
 refine cd' lk (fun hc1=>?_) (fun hc1=>?_)
 ·have hk:k<l.length:=by omega
  rw[Zdu hk] at hk2
  refine Zad<|Zae<|Zag<|Zam<|wr'<|?_
  refine V' (ZaJ lk lk ZbI (nb' rfl) ro om ro rfl) pt ?_
  refine Vw (ZaF lk ZjF rfl)<|E' (Za7 (hl0 hn) ha0) pt<|E' (Zaj lk cv gx rfl (nb' rfl) rfl ZhP (hs0 hn)) ptn<|sn'<|wr'<|mw<|Vw (Zao lk gx Zlc rfl)<|ZiL lk mp (hp _ (List.getElem_mem hk) _) pt<|mw<|sn'<|Zag<|?_
  refine Zat<|mw<|Vw (Za9 lk lki)<|sn'<|?_
  refine cd' lk (fun hc2=>?_) (fun hc2=>?_)
  ·rw[if_pos hc2] at hk2
   refine wr'<|mw<|mw<|sn'<|Zaa<|Zas<|Zai<|Zai<|Zas<|Zai<|Zah rz<|rT'<|?_
   rw[hk2]
  rw[if_neg hc2] at hk2
  refine Zad<|ZaA<|Zae<|Zat<|?_
  refine V' (Zax lk lki om om) pt ?_
  refine mw<|Zaq<|ZaB<|?_
  refine lU' (k+1) (by (try dsimp only);exact⟨by omega,hk2⟩) (by (try dsimp only);(try simp only[sm',Nat.reduceAdd]);exact bk' 0 hn hlt)
 rw[List.drop_of_length_le om] at hk2
 refine ZaD<|Zay<|Zay<|ZaU<|Zae<|wr'<|mw<|sn'<|Zaa<|Zah rz<|rT'<|?_
 rw[hk2];rfl
theorem Zkx {p:Lnk→Int}{f:FuncId}{l:List Lnk}(hp : ∀ x∈l,∀ h:AH,ACalls Tryz.prog f [.agg (lnkC x)] h fun y h'=>h'=h∧y=.ret (iv (p x))) {h:AH}:Ac 208 [.sl l.length 2 false (rows lnkC l),.v (.func (.func f) #[] #[])] h (iv (Za3 p l)):=by
 refine tI' k208 fun N hn hlt hlA hbd=>?_
 simp only[tb'] at hbd ⊢
 refine wr'<|mw<|sn'<|Zag<|wr'<|mw<|Vw (ZaG lk)<|mw<|sn'<|Zam<|?_
 refine w_lp (ι:=Nat) (fun (k:Nat)=>[(10,iv (k:Int)),(4,.any),(6,.any),(7,.any)]++rn' 11 10) (fun (k:Nat)=>[]) (fun (k:Nat)=>k≤l.length∧Za3 p l=Za3 p (l.drop k)) (fun (k:Nat)=>l.length-k) (0) (by exact⟨Nat.zero_le _,rfl⟩) ?_
 rintro k hi1
 try simp only[sm',Nat.reduceAdd]
 obtain⟨hk1,hk2⟩:=hi1
 refine wr'<|Vw (ZaZ lk lk)<|sn'<|Zag<|?_
 refine cd' lk (fun hc1=>?_) (fun hc1=>?_)
 ·have hk:k<l.length:=by omega
  rw[Zdu hk] at hk2
  refine Zad<|Zae<|Zag<|Zam<|wr'<|?_
  refine V' (ZaJ lk lk ZcM (nb' rfl) ro om ro rfl) pt ?_
  refine Vw (ZaF lk ZjF rfl)<|E' (Za7 (hl0 hn) ha0) pt<|E' (Zaj lk cv gx rfl (nb' rfl) rfl ZhP (hs0 hn)) ptn<|sn'<|wr'<|mw<|Vw (Zao lk gx Zlc rfl)<|ZiL lk mp (hp _ (List.getElem_mem hk) _) pt<|mw<|sn'<|Zag<|?_
  refine Zat<|mw<|Vw (Za9 lk lki)<|sn'<|?_
  refine cd' lk (fun hc2=>?_) (fun hc2=>?_)
  ·rw[if_pos hc2] at hk2
   refine wr'<|mw<|mw<|sn'<|Zaa<|Zas<|Zai<|Zai<|Zas<|Zai<|Zah rz<|rT'<|?_
   rw[hk2]
  rw[if_neg hc2] at hk2
  refine Zad<|ZaA<|Zae<|Zat<|?_
  refine V' (Zax lk lki om om) pt ?_
  refine mw<|Zaq<|ZaB<|?_
  refine lU' (k+1) (by (try dsimp only);exact⟨by omega,hk2⟩) (by (try dsimp only);(try simp only[sm',Nat.reduceAdd]);exact bk' 0 hn hlt)
 rw[List.drop_of_length_le om] at hk2
 refine ZaD<|Zay<|Zay<|ZaU<|Zae<|wr'<|mw<|sn'<|Zaa<|Zah rz<|rT'<|?_
 rw[hk2];rfl
def Zfl (s:Src):Bool:=s.2.1.any (fun z=>decide (8<z.2.length))||decide (40<s.1.length)||decide (20<s.2.1.length)||decide (20<s.2.2.length)
theorem many_b {a:List Rul}{z:List Zon}{l:List Lnk}{h:AH}:Ac 204 [.agg [.sl a.length 11 false (rows rulC a),.sl z.length 2 false (rows zonC z),.sl l.length 2 false (rows lnkC l)]] h (bv (Zfl (a,z,l))):=by
 refine tI' k204 fun N hn hlt hlA hbd=>?_
 simp only[tb'] at hbd ⊢
 refine wr'<|E' (Zbc cv rfl (hl0 hn) ha0) pt<|mw<|sn'<|Zag<|wr'<|Vw (Zac lk)<|Vw (Zab lk gx gt1)<|Vw (ZaG lk)<|mw<|Zaq<|?_
 refine Zae<|Zam<|?_
 refine w_lp (ι:=Nat) (fun (k:Nat)=>[(8,iv (k:Int)),(2,.any),(4,.any)]++rn' 9 8) (fun (k:Nat)=>[]) (fun (k:Nat)=>k≤z.length∧(z.take k).any (fun z=>decide (8<z.2.length))=false) (fun (k:Nat)=>z.length-k) (0) (by exact⟨Nat.zero_le _,rfl⟩) ?_
 rintro k hi1
 try simp only[sm',Nat.reduceAdd]
 obtain⟨hk1,hk2⟩:=hi1
 refine wr'<|Vw (ZaZ lk lk)<|sn'<|Zag<|?_
 refine cd' lk (fun hc1=>?_) (fun hc1=>?_)
 ·have hk:k<z.length:=by omega
  refine Zad<|Zae<|Zag<|Zam<|wr'<|?_
  refine V' (ZaJ lk lk ZbI (nb' rfl) ro om ro rfl) pt ?_
  refine Vw (ZaF lk ZjF rfl)<|E' (Za7 (hl1 hn) ha1) pt<|E' (Zaj lk cv gx rfl (nb' rfl) rfl ZhP (hs1 hn)) ptn<|sn'<|wr'<|Vw (Zac lk)<|Vw (Zab lk gx gt1)<|?_
  refine V' ((by first | exact ZaG lk | exact Zb7 lk)) pt ?_
  refine Vw (Zbz lk lki)<|sn'<|?_
  refine cd' lk (fun hc2=>?_) (fun hc2=>?_)
  ·have hA:z.any (fun z=>decide (8<z.2.length))=true:=List.any_eq_true.2 ⟨z[k],List.getElem_mem hk,decide_eq_true om⟩
   refine wr'<|mw<|sn'<|Zaa<|Zas<|Zai<|Zai<|Zas<|Zai<|Zah rz<|rT'<|?_
   refine bvx ?_;unfold Zfl;rw[hA];simp
  refine Zad<|ZaA<|Zae<|Zat<|?_
  refine V' (Zax lk lki om om) pt ?_
  refine mw<|Zaq<|ZaB<|?_
  refine lU' (k+1) (by (try dsimp only);exact⟨by omega,by rw[List.take_succ_eq_append_getElem hk,List.any_append,hk2];simp;omega⟩) (by (try dsimp only);(try simp only[sm',Nat.reduceAdd]);exact bk' 1 hn hlt)
 rw[List.take_of_length_le om] at hk2
 refine ZaD<|Zay<|Zay<|ZaU<|Zae<|wr'<|Vw (Zac lk)<|Vw (Zab lk gx gt0)<|Vw (ZaG lk)<|Vw (Zbz lk lki)<|mw<|?_
 refine sp' (t:=21) gt pt pt (fun hg21=>?_) (fun hg21=>?_)
 ·refine s_no gt pt<|s_no gt pt<|s_no gt pt<|s_no gt pt<|Vw (Zal lk lkb)<|mw<|s_no gt pt<|s_no gt pt<|s_no gt pt<|s_no gt pt<|Vw (Zal lk lkb)<|mw<|sn'<|?_
  refine Zaa<|Zah rz<|rT'<|?_
  refine bvx ?_;unfold Zfl;rw[hk2];rw[Bool.eq_iff_iff];simp;omega
 refine s_do gt<|Vw (Zac lk)<|s_do gt<|Vw (Zab lk gx gt1)<|s_do gt<|Vw (ZaG lk)<|s_do gt<|Vw (Zbz lk lki)<|Vw (Zak lk lk)<|mw<|?_
 refine sp' (t:=27) gt pt pt (fun hg27=>?_) (fun hg27=>?_)
 ·refine s_no gt pt<|s_no gt pt<|s_no gt pt<|s_no gt pt<|Vw (Zal lk lkb)<|mw<|sn'<|Zaa<|Zah rz<|rT'<|?_
  refine bvx ?_;unfold Zfl;rw[hk2];rw[Bool.eq_iff_iff];simp;omega
 refine s_do gt<|Vw (Zac lk)<|s_do gt<|Vw (Zab lk gx gt2)<|s_do gt<|Vw (ZaG lk)<|s_do gt<|Vw (Zbz lk lki)<|Vw (Zak lk lk)<|mw<|sn'<|Zaa<|Zah rz<|?_
 refine rT' ?_
 refine bvx ?_;unfold Zfl;rw[hk2];rw[Bool.eq_iff_iff];simp;omega
def Zft (s:Src):Prop:=(∀ r∈s.1,r.1.size≤maxLen∧r.2.2.2.2.2.2.2.2.size≤maxLen)∧(∀ z∈s.2.1,z.1.size≤maxLen ∧ ∀ x∈z.2,ZtD x) ∧ ∀ l∈s.2.2,l.1.size≤maxLen∧l.2.size≤maxLen
def ZbU (s:Src):Int:=if Zfl s=true then 2 else if Za3 Zbr s.1≠0 then Za3 Zbr s.1 else if Za3 Zfm s.2.1≠0 then Za3 Zfm s.2.1 else Za3 ZeT s.2.2
theorem scheck_b {a:List Rul}{z:List Zon}{l:List Lnk}{h:AH}(hok:Zft (a,z,l)):Ac 132 [.agg [.sl a.length 11 false (rows rulC a),.sl z.length 2 false (rows zonC z),.sl l.length 2 false (rows lnkC l)]] h (iv (ZbU (a,z,l))):=by
 have p1 : ∀ x∈a,∀ h:AH,ACalls Tryz.prog 156 [.agg (rulC x)] h fun y h'=>h'=h∧y=.ret (iv (Zbr x)):=fun x hx h=>rule_b (hok.1 x hx).1 (hok.1 x hx).2
 have p2 : ∀ x∈z,∀ h:AH,ACalls Tryz.prog 207 [.agg (zonC x)] h fun y h'=>h'=h∧y=.ret (iv (Zfm x)):=fun x hx h=>zone_b (hok.2.1 x hx).1 (hok.2.1 x hx).2
 have p3 : ∀ x∈l,∀ h:AH,ACalls Tryz.prog 209 [.agg (lnkC x)] h fun y h'=>h'=h∧y=.ret (iv (ZeT x)):=fun x hx h=>link_b (hok.2.2 x hx).1 (hok.2.2 x hx).2
 refine tI' k132 fun N hn hlt hlA hbd=>?_
 simp only[tb'] at hbd ⊢
 refine wr'<|E' (Zbc cv rfl (hl0 hn) ha0) pt<|mw<|sn'<|Zag<|wr'<|Vw (Zao lk gx Zr8 rfl)<|Zaf mp (many_b) pt<|sn'<|?_
 refine Zaz lk (fun hc1=>?_) (fun hc1=>?_)
 ·refine wr'<|mw<|sn'<|Zaa<|Zai<|Zah rz<|rT'<|?_
  refine ivx ?_;unfold ZbU;simp_all
 refine Zad<|Zae<|wr'<|Vw (Zac lk)<|Vw (Zab lk gx gt0)<|Zaf mp (Zq9 p1) pt<|mw<|sn'<|Zag<|wr'<|mw<|?_
 refine Vw (ZaX lk lki)<|sn'<|?_
 refine cd' lk (fun hc2=>?_) (fun hc2=>?_)
 ·refine Zat<|Vw (Zac lk)<|Vw (Zab lk gx gt1)<|Zaf mp (Zq8 p2) pt<|mw<|sn'<|Zag<|wr'<|mw<|Vw (ZaX lk lki)<|sn'<|?_
  refine cd' lk (fun hc3=>?_) (fun hc3=>?_)
  ·refine Zat<|Vw (Zac lk)<|Vw (Zab lk gx gt2)<|Zaf mp (Zkx p3) pt<|mw<|sn'<|wr'<|mw<|mw<|sn'<|Zaa<|?_
   refine Zah rz<|rT'<|?_
   refine ivx ?_;unfold ZbU;simp_all
  refine Zad<|Zae<|wr'<|mw<|mw<|sn'<|Zaa<|Zah rz<|rT'<|?_
  refine ivx ?_;unfold ZbU;simp_all
 refine Zad<|Zae<|Zag<|wr'<|mw<|Vw (ZaX lk lki)<|sn'<|?_
 refine cd' lk (fun hc3=>?_) (fun hc3=>?_)
 ·refine Zat<|Vw (Zac lk)<|Vw (Zab lk gx gt2)<|Zaf mp (Zkx p3) pt<|mw<|sn'<|wr'<|mw<|mw<|sn'<|Zaa<|?_
  refine Zah rz<|rT'<|?_
  refine ivx ?_;unfold ZbU;simp_all
 refine Zad<|Zae<|wr'<|mw<|mw<|sn'<|Zaa<|Zah rz<|rT'<|?_
 refine ivx ?_;unfold ZbU;simp_all
end Go.Proofs.YtlekejpogddndaaGreatDoor
end
section
namespace Go.Proofs.YtlekejpogddndaaGreatDoor
open Go.Ab Civ
abbrev Trn:=Int×Rul
abbrev Tim:=Int×Int×ByteArray
abbrev trnC (t:Trn):List AV:=iv t.1::rulC t.2
abbrev timC (t:Tim):List AV:=[iv t.1,iv t.2.1,sv t.2.2]
theorem Zmk {n:Nat}(l:List Trn):AV.ltL n (rows trnC l)=true:=ZdC (fun n x=>by simp[AV.ltL,AV.lt]) l
theorem Zeb {n:Nat}(l:List Tim):AV.ltL n (rows timC l)=true:=ZdC (fun n x=>by simp[AV.ltL,AV.lt]) l
theorem ZaL : ∀ x,(trnC x).length=12:=fun _=>rfl
theorem ZdJ : ∀ x,(timC x).length=3:=fun _=>rfl
theorem ZsA (l:List Trn):(rows trnC l).length=l.length*12:=Zbh ZaL l
theorem ZdA (l:List Tim):(rows timC l).length=l.length*3:=Zbh ZdJ l
instance decTim:DecidableEq Tim:=inferInstance
abbrev rFr (r:Rul):Int:=r.2.1
abbrev rTo (r:Rul):Int:=r.2.2.1
abbrev rDy (r:Rul) (y:Int):Int:=ZdD y r.2.2.2.1 r.2.2.2.2.1.1 r.2.2.2.2.1.2.1 r.2.2.2.2.1.2.2
abbrev rAt (r:Rul):Int:=r.2.2.2.2.2.1
abbrev rCk (r:Rul):Int:=r.2.2.2.2.2.2.1
abbrev rSv (r:Rul):Int:=r.2.2.2.2.2.2.2.1
abbrev rLt (r:Rul):ByteArray:=r.2.2.2.2.2.2.2.2
def ZdH (r:Rul) (y:Int):Int:=rDy r y*86400+rAt r
def Zb3 (a b:Int):List Int:=(List.range (b+1-a).toNat).map fun (k:Nat)=>a+(k:Int)
def Zdc (r:Rul):List Trn:=(Zb3 (rFr r) (rTo r)).map fun y=>(ZdH r y,r)
def Zbn (l:List Rul) (nm:ByteArray):List Trn:=l.flatMap fun r=>if r.1=nm then Zdc r else []
def offV (r:Rul) (sh sa:Int):Int:=if rCk r=1 then sh+sa else if rCk r=2 then sh else 0
def timV (sh sa:Int) (t:Trn):Tim:=(t.1-offV t.2 sh sa,rSv t.2,rLt t.2)
def outV (sh:Int):Int→List Trn→List Tim
 | _,[]=>[]
 | sa,t::l=>timV sh sa t::outV sh (rSv t.2) l
def gapB:List Trn→Bool
 | a::b::l=>decide (b.1-a.1<172800)||gapB (b::l)
 | _=>false
def srtT (l:List Trn):List Trn:=l.mergeSort fun a b=>decide (a.1≤b.1)
def ZdI (l:List Rul) (nm:ByteArray) (sh:Int):Int :=
 if 40<l.length then 2 else if Za3 Zbr l≠0 then Za3 Zbr l else if sh < -64800∨sh>64800 then 3
 else if l.any (fun r=>decide (r.1=nm))=false then 5 else 0
def Zbe (l:List Rul) (nm:ByteArray) (sh:Int):List Tim×Int :=
 if ZdI l nm sh≠0 then ([],ZdI l nm sh)
 else if gapB (srtT (Zbn l nm))=true then ([],4)
 else if 1000<(Zbn l nm).length then ([],2) else (outV sh 0 (srtT (Zbn l nm)),0)
theorem Zls (l:List Trn):(srtT l).Perm l:=List.mergeSort_perm l _
theorem ZqK (l:List Trn):(srtT l).Pairwise fun a b=>a.1≤b.1:=by
 have h:=List.pairwise_mergeSort (le:=fun a b:Trn=>decide (a.1≤b.1)) (fun a b c h1 h2=>by simp at *;omega) (fun a b=>by simp;omega) l
 exact h.imp fun h=>by simpa using h
theorem srt_len (l:List Trn):(srtT l).length=l.length:=List.length_mergeSort l
theorem Zg1 {a b:Trn}{l:List Trn}:gapB (a::b::l)=(decide (b.1-a.1<172800)||gapB (b::l)):=rfl
theorem ZqZ {l m:List Trn}(hp:l.Perm m) (h1:l.Pairwise fun a b=>a.1≤b.1) (h2:m.Pairwise fun a b=>a.1≤b.1):l.map (·.1)=m.map (·.1):=by
 refine List.Perm.eq_of_pairwise (le:=fun a b:Int=>a≤b) (fun a b _ _ h1 h2=>by omega) ?_ ?_ (hp.map _)
 ·exact List.pairwise_map.2 h1
 ·exact List.pairwise_map.2 h2
def gapI:List Int→Bool
 | a::b::l=>decide (b-a<172800)||gapI (b::l)
 | _=>false
theorem ZlK : ∀ l:List Trn,gapB l=gapI (l.map (·.1))
 | []=>rfl
 | [_]=>rfl
 | a::b::l=>by rw[Zg1,ZlK (b::l)];rfl
theorem ZhE : ∀ {l:List Trn},gapB l=false→l.Pairwise (fun a b=>a.1≤b.1)→l.Pairwise fun a b=>a.1<b.1
 | [],_,_=>.nil
 | [a],_,_=>by simp
 | a::b::l,h,hp=>by
  rw[Zg1,Bool.or_eq_false_iff] at h
  have h1:¬b.1-a.1<172800:=by simpa using h.1
  rw[List.pairwise_cons] at hp
  have ih:=ZhE h.2 hp.2
  refine List.pairwise_cons.2 ⟨fun x hx=>?_,ih⟩
  rcases List.mem_cons.1 hx with rfl | hx
  ·omega
  ·have:=(List.pairwise_cons.1 hp.2).1 x hx;omega
theorem gap_uniq {l m:List Trn}(hp:l.Perm m) (h1:l.Pairwise fun a b=>a.1≤b.1) (h2:m.Pairwise fun a b=>a.1≤b.1):gapB l=gapB m∧(gapB l=false→l=m):=by
 have e:gapB l=gapB m:=by rw[ZlK,ZlK,ZqZ hp h1 h2]
 refine⟨e,fun h=>?_⟩
 exact List.Perm.eq_of_pairwise (le:=fun a b:Trn=>a.1<b.1) (fun a b _ _ h1 h2=>by omega) (ZhE h h1) (ZhE (e ▸ h) h2) hp
theorem Zir : ∀ l:List Trn,gapB l=false ↔ ∀ i (h:i+1<l.length),172800≤l[i+1].1-l[i].1
 | []=>by simp[gapB]
 | [_]=>by simp[gapB]
 | a::b::l=>by
  rw[Zg1,Bool.or_eq_false_iff,Zir (b::l)]
  constructor
  ·rintro⟨h1,h2⟩ i hi
   cases i with
   | zero=>simp at h1 ⊢;omega
   | succ i=>exact h2 i (by simpa using hi)
  ·intro h
   refine⟨?_,fun i hi=>h (i+1) (by simpa using hi)⟩
   have:=h 0 (by simp)
   simp at this ⊢;omega
theorem Zm9 {l:List Trn}{i:Nat}(h:i+1<l.length) (hg:l[i+1].1-l[i].1<172800):gapB l=true:=by
 by_cases e:gapB l=true
 ·exact e
 ·have:=(Zir l).1 (by simpa using e) i h;omega
def svAt (l:List Trn) (i:Nat):Int:=match i with
 | 0=>0
 | i+1=>match l[i]? with
  | some t=>rSv t.2
  | none=>0
theorem ZgL {l:List Trn}{i:Nat}(h:i<l.length):svAt l (i+1)=rSv l[i].2:=by
 show (match l[i]? with | some t=>rSv t.2 | none=>0)=_
 rw[List.getElem?_eq_getElem h]
def lastS:Int→List Trn→Int
 | sa,[]=>sa
 | _,t::l=>lastS (rSv t.2) l
theorem Zkn : ∀ (l:List Trn) (t:Trn) (sa:Int),lastS sa (l++[t])=rSv t.2
 | [],t,sa=>rfl
 | u::l,t,sa=>Zkn l t (rSv u.2)
theorem ZpR : ∀ (l m:List Trn) (sh sa:Int),outV sh sa (l++m)=outV sh sa l++outV sh (lastS sa l) m
 | [],m,sh,sa=>rfl
 | t::l,m,sh,sa=>by rw[List.cons_append,outV,ZpR l m,outV,List.cons_append];rfl
theorem Zdt {l:List Trn}{i:Nat}(h:i<l.length) (sh:Int):outV sh 0 (l.take (i+1))=outV sh 0 (l.take i)++[timV sh (svAt l i) l[i]]:=by
 rw[List.take_succ_eq_append_getElem h,ZpR]
 congr 1
 rw[outV,outV]
 cases i with
 | zero=>rfl
 | succ i=>rw[ZgL om,List.take_succ_eq_append_getElem (i:=i) om,Zkn]
theorem Zeh : ∀ (l:List Trn) (sh sa:Int),(outV sh sa l).length=l.length
 | [],_,_=>rfl
 | t::l,sh,sa=>by rw[outV,List.length_cons,Zeh l,List.length_cons]
theorem ZbV {r:Rul}(h:Zbr r=0):1900≤rFr r∧rFr r≤rTo r∧rTo r≤2100∧(1≤r.2.2.2.1∧r.2.2.2.1≤12)∧Zcb 2001 r.2.2.2.1 r.2.2.2.2.1.1 r.2.2.2.2.1.2.1 r.2.2.2.2.1.2.2=0∧(0≤rAt r∧rAt r≤172800)∧clkB (rCk r) true=true∧(0≤rSv r∧rSv r≤10800):=by
 unfold Zbr at h
 split at h
 ·omega
 split at h
 ·omega
 rename_i h2
 split at h
 ·rename_i h3;exact absurd h h3
 rename_i h3
 split at h
 ·omega
 rename_i h4
 split at h
 ·omega
 rename_i h5
 split at h
 ·omega
 rename_i h6
 have w1:wi r.2.2.2.1 1 12=true:=Decidable.of_not_not fun e=>h2 (.inr (.inr (.inr e)))
 refine⟨show 1900≤r.2.1 by omega,show r.2.1≤r.2.2.1 by omega,show r.2.2.1≤2100 by omega,ZbH.1 w1,?_,ZbH.1 (Decidable.of_not_not h4),Decidable.of_not_not h5,ZbH.1 (Decidable.of_not_not h6)⟩
 by_cases e:Zcb 2001 r.2.2.2.1 r.2.2.2.2.1.1 r.2.2.2.2.1.2.1 r.2.2.2.2.1.2.2=0
 ·exact e
 ·exact absurd (Decidable.of_not_not h3) (by rw[Zkg rfl e];exact e)
theorem ZtK (m y:Int):mlen 2001 m≤mlen y m:=by
 have:=Zoi y
 have e:lp 2001=0:=by decide
 unfold mlen;rw[e];split <;> (try split) <;> (try split) <;> (try split) <;> (try split) <;> omega
theorem Zuc {m k w n y:Int}(h:Zcb 2001 m k w n=0) (hy:1≤y∧y≤9999):Zcb y m k w n=0:=by
 obtain⟨_,h2,h3,h4,h5,h6,h7⟩:=ZlL h
 have:=ZtK m y
 unfold Zcb
 repeat' split
 all_goals omega
theorem onDay_bd {m k w n y:Int}(h:Zcb y m k w n=0) (hy:1900≤y∧y≤2100) : -30000≤ZdD y m k w n∧ZdD y m k w n≤50000:=by
 obtain⟨h1,h2,h3,h4,h5,h6,h7⟩:=ZlL h
 have hm:=ZdE y m
 have a:=Ze5 (a:=1900) (b:=y) hy.1
 have b:=Ze5 (a:=y) (b:=2100) hy.2
 have c:=Znm (y:=y) (m:=m) h2.1 om
 have e1:bef 1900=693595:=by decide
 have e2:bef 2100=766644:=by decide
 unfold ZdD fwd bwd num
 repeat' split
 all_goals omega
theorem ZiY {r:Rul}(h:Zbr r=0) {y:Int}(hy:1900≤y∧y≤2100):onV y r.2.2.2.1 r.2.2.2.2.1.1 r.2.2.2.2.1.2.1 r.2.2.2.2.1.2.2=(Zbu (rDy r y),0) ∧ -30000≤rDy r y∧rDy r y≤50000:=by
 obtain⟨_,_,_,_,h5,_⟩:=ZbV h
 have hf:=Zuc (y:=y) h5 om
 have hb:=onDay_bd hf hy
 exact⟨by rw[ZiZ hf rfl,if_pos om],hb⟩
theorem Zsy {r:Rul}(h:Zbr r=0) {y:Int}(hy:1900≤y∧y≤2100) : -2592000000≤ZdH r y∧ZdH r y≤4320172800:=by
 have:=(ZiY h hy).2
 obtain⟨_,_,_,_,_,h6,_⟩:=ZbV h
 unfold ZdH;omega
theorem Zdh {α:Type}{p:α→Int} : ∀ {l:List α},Za3 p l=0 → ∀ x∈l,p x=0
 | [],_,x,hx=>by cases hx
 | a::l,h,x,hx=>by
  rw[Za3] at h
  split at h
  ·rename_i h1;exact absurd h h1
  ·rename_i h1
   rcases List.mem_cons.1 hx with rfl | hx
   ·exact Decidable.of_not_not h1
   ·exact Zdh h x hx
theorem ZgU {l:List Rul}{nm:ByteArray}{sh:Int}(h:ZdI l nm sh=0):l.length≤40∧(∀ r∈l,Zbr r=0)∧(-64800≤sh∧sh≤64800) ∧ ∃ r∈l,r.1=nm:=by
 unfold ZdI at h
 split at h
 ·omega
 split at h
 ·rename_i h1;exact absurd h h1
 rename_i h1
 split at h
 ·omega
 split at h
 ·omega
 rename_i h2
 refine⟨by omega,Zdh (Decidable.of_not_not h1),by omega,?_⟩
 have h3:l.any (fun r=>decide (r.1=nm))=true:=by simpa using h2
 simpa using h3
theorem Zfv {a b y:Int}:y∈Zb3 a b↔a≤y∧y≤b:=by
 unfold Zb3
 simp only[List.mem_map,List.mem_range]
 constructor
 ·rintro⟨k,hk,rfl⟩;omega
 ·intro h;exact⟨(y-a).toNat,by omega,by omega⟩
theorem Zc4 (a b:Int):(Zb3 a b).length=(b+1-a).toNat:=by simp[Zb3]
theorem ZtP {l:List Rul}{nm:ByteArray}{t:Trn}:t∈Zbn l nm↔t.2∈l∧t.2.1=nm ∧ ∃ y,(rFr t.2≤y∧y≤rTo t.2)∧t.1=ZdH t.2 y:=by
 unfold Zbn
 rw[List.mem_flatMap]
 constructor
 ·rintro⟨r,hr,h⟩
  split at h
  ·rename_i hn
   obtain⟨y,hy,rfl⟩:=List.mem_map.1 h
   exact⟨hr,hn,y,Zfv.1 hy,rfl⟩
  ·cases h
 ·rintro⟨hr,hn,y,hy,e⟩
  refine⟨t.2,hr,?_⟩
  rw[if_pos hn]
  exact List.mem_map.2 ⟨y,Zfv.2 hy,by rw[←e]⟩
theorem Zii {l:List Rul}{nm:ByteArray}(h : ∀ r∈l,Zbr r=0) {t:Trn}(ht:t∈Zbn l nm):Zbr t.2=0 ∧ -2592000000≤t.1∧t.1≤4320172800:=by
 obtain⟨h1,h2,y,hy,e⟩:=ZtP.1 ht
 have h3:=h _ h1
 obtain⟨q1,q2,q3,_⟩:=ZbV h3
 rw[e]
 exact⟨h3,Zsy h3 om⟩
theorem Zhu {r:Rul}(h:Zbr r=0):(Zdc r).length≤201∧((Zdc r).length:Int)=rTo r-rFr r+1:=by
 obtain⟨h1,h2,h3,_⟩:=ZbV h
 unfold Zdc
 rw[List.length_map,Zc4];omega
theorem ZgH : ∀ {l:List Rul}{nm:ByteArray},(∀ r∈l,Zbr r=0)→(Zbn l nm).length≤201*l.length
 | [],nm,_=>by simp[Zbn]
 | r::l,nm,h=>by
  have ih:=ZgH (l:=l) (nm:=nm) fun x hx=>h x (by simp[hx])
  have h1:=Zhu (h r (by simp))
  unfold Zbn at ih ⊢
  rw[List.flatMap_cons,List.length_append,List.length_cons]
  split
  ·omega
  ·rw[List.length_nil];omega
theorem Zj4 {l:List Rul}{k:Nat}(hk:k<l.length) (nm:ByteArray):Zbn (l.take (k+1)) nm=Zbn (l.take k) nm++(if l[k].1=nm then Zdc l[k] else []):=by
 unfold Zbn
 rw[List.take_succ_eq_append_getElem hk,List.flatMap_append,List.flatMap_cons,List.flatMap_nil,List.append_nil]
theorem Zmh {a b c:Int}(h1:a≤b+1) (h2:b≤c):Zb3 a c=Zb3 a b++Zb3 (b+1) c:=by
 refine List.ext_getElem (by rw[List.length_append,Zc4,Zc4,Zc4];omega) fun i h3 h4=>?_
 rw[List.getElem_append]
 rw[Zc4] at h3
 split
 ·simp[Zb3]
 ·rename_i h5
  rw[Zc4] at h5
  simp only[Zb3,List.getElem_map,List.getElem_range]
  have:(List.map (fun (k:Nat)=>a+(k:Int)) (List.range (b+1-a).toNat)).length=(b+1-a).toNat:=by simp
  rw[this]
  omega
theorem ZsS {l:List Trn}{i:Nat}(h : ∀ t∈l,Zbr t.2=0):0≤svAt l i∧svAt l i≤10800:=by
 cases i with
 | zero=>simp[svAt]
 | succ i =>
  show 0≤(match l[i]? with | some t=>rSv t.2 | none=>0)∧(match l[i]? with | some t=>rSv t.2 | none=>0)≤10800
  cases e:l[i]? with
  | none=>exact⟨by simp,by simp⟩
  | some t =>
   obtain⟨_,_,_,_,_,_,_,h8⟩:=ZbV (h t (List.mem_of_getElem? e))
   exact h8
theorem ZtE {r:Rul}{sh sa:Int}(h : -64800≤sh∧sh≤64800) (h2:0≤sa∧sa≤10800) : -64800≤offV r sh sa∧offV r sh sa≤75600:=by
 unfold offV;split
 ·omega
 split <;> omega
def yrT (l:List Rul) (nm:ByteArray) (y:Int):List Trn:=l.flatMap fun r=>if r.1=nm∧wi y (rFr r) (rTo r)=true then [(ZdH r y,r)] else []
theorem Zfd {α β:Type}(f g:α→List β) : ∀ l:List α,(l.flatMap fun x=>f x++g x).Perm (l.flatMap f++l.flatMap g)
 | []=>.nil
 | x::l=>by
  rw[List.flatMap_cons,List.flatMap_cons,List.flatMap_cons]
  have ih:=Zfd f g l
  rw[List.append_assoc,List.append_assoc]
  refine List.Perm.append_left _ ?_
  refine (List.Perm.append_left _ ih).trans ?_
  rw[←List.append_assoc,←List.append_assoc]
  exact List.Perm.append_right _ List.perm_append_comm
theorem ZqA {a b:Int}(h1:1900≤a) (h2:a≤b) (h3:b≤2100) (f:Int→Trn):((Zb3 1900 2100).flatMap fun y=>if wi y a b=true then [f y] else [])=(Zb3 a b).map f:=by
 have none : ∀ l:List Int,(∀ y∈l,¬(a≤y∧y≤b))→(l.flatMap fun y=>if wi y a b=true then [f y] else [])=[]:=by
  intro l hl
  rw[List.flatMap_eq_nil_iff]
  intro y hy
  rw[if_neg (by rw[ZbH];exact hl y hy)]
 have some : ∀ l:List Int,(∀ y∈l,a≤y∧y≤b)→(l.flatMap fun y=>if wi y a b=true then [f y] else [])=l.map f:=by
  intro l
  induction l with
  | nil=>intro _;rfl
  | cons y l ih =>
   intro hl
   rw[List.flatMap_cons,ih fun z hz=>hl z (by simp[hz]),if_pos (ZbH.2 (hl y (by simp)))];rfl
 rw[Zmh (a:=1900) (b:=b) (c:=2100) om h3,List.flatMap_append,none (Zb3 (b+1) 2100) (fun y hy=>by have:=Zfv.1 hy;omega),List.append_nil]
 rw[show Zb3 1900 b=Zb3 1900 (a-1)++Zb3 a b by have:=Zmh (a:=1900) (b:=a-1) (c:=b) om om;rwa [show a-1+1=a by omega] at this]
 rw[List.flatMap_append,none (Zb3 1900 (a-1)) (fun y hy=>by have:=Zfv.1 hy;omega),List.nil_append,some (Zb3 a b) (fun y hy=>Zfv.1 hy)]
theorem Zpp : ∀ {l:List Rul}{nm:ByteArray},(∀ r∈l,Zbr r=0)→((Zb3 1900 2100).flatMap (yrT l nm)).Perm (Zbn l nm)
 | [],nm,_=>by
  have:(Zb3 1900 2100).flatMap (yrT [] nm)=[]:=by rw[List.flatMap_eq_nil_iff];intro y _;rfl
  rw[this];exact .nil
 | r::l,nm,h=>by
  obtain⟨q1,q2,q3,_⟩:=ZbV (h r (by simp))
  have ih:=Zpp (l:=l) (nm:=nm) fun x hx=>h x (by simp[hx])
  have e:(Zb3 1900 2100).flatMap (yrT (r::l) nm)=(Zb3 1900 2100).flatMap fun y=>(if r.1=nm∧wi y (rFr r) (rTo r)=true then [(ZdH r y,r)] else [])++yrT l nm y:=rfl
  rw[e]
  refine (Zfd _ _ _).trans ?_
  have e2:Zbn (r::l) nm=(if r.1=nm then Zdc r else [])++Zbn l nm:=rfl
  rw[e2]
  refine List.Perm.append ?_ ih
  by_cases hn:r.1=nm
  ·simp only[hn,true_and,if_true]
   rw[ZqA q1 q2 q3];exact List.Perm.refl _
  ·simp only[hn,false_and,if_false]
   rw[show ((Zb3 1900 2100).flatMap fun _=>([]:List Trn))=[] by rw[List.flatMap_eq_nil_iff];intros;rfl]
theorem Zln {l:List Rul}{nm:ByteArray}{sh:Int}(hr:ZdI l nm sh=0) {S:List Trn}(hp:S.Perm (Zbn l nm)) (hs:S.Pairwise fun a b=>a.1≤b.1) :
  Zbe l nm sh=if gapB S=true then ([],4) else if 1000<S.length then ([],2) else (outV sh 0 S,0):=by
 obtain⟨g1,g2⟩:=gap_uniq (hp.trans (Zls _).symm) hs (ZqK _)
 unfold Zbe
 rw[if_neg (by simp[hr]),←g1,←hp.length_eq]
 by_cases e:gapB S=true
 ·rw[if_pos e,if_pos e]
 ·rw[if_neg e,if_neg e,g2 (by simpa using e)]
theorem Zes {l:List Rul}{nm:ByteArray}{sh:Int}(hr:ZdI l nm sh≠0):Zbe l nm sh=([],ZdI l nm sh):=if_pos hr
end Go.Proofs.YtlekejpogddndaaGreatDoor
end
section
namespace Go.Proofs.YtlekejpogddndaaGreatDoor
def ZdF (F:Loc):List Chg→Int→Loc
 | [],_=>F
 | c::cs,a=>if c.1≤a then ZdF c.2 cs a else F
def nrm (a:Int) (F:Loc):List Chg→Prop
 | []=>True
 | c::cs=>a<c.1∧c.2≠F∧nrm c.1 c.2 cs
theorem ZpT {M:Int} : ∀ (C C':List Chg) (a:Int) (F:Loc),nrm a F C→nrm a F C'→(∀ c∈C,c.1≤M)→(∀ c∈C',c.1≤M)→(∀ x,a≤x→x≤M→ZdF F C x=ZdF F C' x)→C=C'
 | [],[],_,_,_,_,_,_,_=>rfl
 | [],c::cs,a,F,_,h2,_,m2,h=>by
  have:=h c.1 (by have:=h2.1;omega) (m2 c (by simp))
  rw[ZdF,ZdF,if_pos (Int.le_refl _)] at this
  have e:ZdF c.2 cs c.1=c.2:=by
   cases cs with
   | nil=>rfl
   | cons d ds=>rw[ZdF,if_neg (by have:=h2.2.2.1;omega)]
  rw[e] at this
  exact absurd this.symm h2.2.1
 | c::cs,[],a,F,h1,_,m1,_,h=>by
  have:=h c.1 (by have:=h1.1;omega) (m1 c (by simp))
  rw[ZdF,ZdF,if_pos (Int.le_refl _)] at this
  have e:ZdF c.2 cs c.1=c.2:=by
   cases cs with
   | nil=>rfl
   | cons d ds=>rw[ZdF,if_neg (by have:=h1.2.2.1;omega)]
  rw[e] at this
  exact absurd this h1.2.1
 | c::cs,d::ds,a,F,h1,h2,m1,m2,h=>by
  have self : ∀ (c:Chg) (cs:List Chg),nrm c.1 c.2 cs→ZdF c.2 cs c.1=c.2:=by
   intro c cs hn
   cases cs with
   | nil=>rfl
   | cons d ds=>rw[ZdF,if_neg (by have:=hn.1;omega)]
  have hc:=h c.1 (by have:=h1.1;omega) (m1 c (by simp))
  have hd:=h d.1 (by have:=h2.1;omega) (m2 d (by simp))
  rw[ZdF,ZdF,if_pos (Int.le_refl _),self c cs h1.2.2] at hc
  rw[ZdF,ZdF,if_pos (Int.le_refl _),self d ds h2.2.2] at hd
  have e1:c.1=d.1:=by
   rcases Int.lt_trichotomy c.1 d.1 with e | e | e
   ·rw[if_neg om] at hc;exact absurd hc h1.2.1
   ·exact e
   ·rw[if_neg om] at hd;exact absurd hd.symm h2.2.1
  rw[if_pos om,e1,self d ds h2.2.2] at hc
  have e2:c=d:=Prod.ext e1 hc
  subst e2
  refine congrArg _ (ZpT cs ds c.1 c.2 h1.2.2 h2.2.2 (fun x hx=>m1 x (by simp[hx])) (fun x hx=>m2 x (by simp[hx])) fun x hx hM=>?_)
  have:=h x (by have:=h1.1;omega) hM
  rwa [ZdF,ZdF,if_pos hx,if_pos hx] at this
def dd (F:Loc):List Chg→List Chg
 | []=>[]
 | c::cs=>if c.2=F then dd F cs else c::dd c.2 cs
def pts (g:Int→Loc) (L:List Int):List Chg:=L.map fun a=>(a,g a)
theorem Zni : ∀ {l:List Chg}{F:Loc}{c:Chg},c∈dd F l→c∈l
 | [],_,_,h=>by cases h
 | d::l,F,c,h=>by
  rw[dd] at h
  split at h
  ·exact List.mem_cons_of_mem _ (Zni h)
  ·rcases List.mem_cons.1 h with rfl | h
   ·exact List.mem_cons_self
   ·exact List.mem_cons_of_mem _ (Zni h)
theorem Zqj : ∀ (l:List Chg) (F:Loc),(dd F l).length≤l.length
 | [],_=>Nat.le_refl _
 | d::l,F=>by
  rw[dd]
  split
  ·have:=Zqj l F;simp only[List.length_cons];omega
  ·have:=Zqj l d.2;simp only[List.length_cons];omega
theorem Zqk : ∀ (l m:List Chg) (F:Loc),dd F (l++m)=dd F l++dd ((dd F l).getLast?.elim F (·.2)) m
 | [],m,F=>rfl
 | c::l,m,F=>by
  rw[List.cons_append,dd,dd]
  split
  ·exact Zqk l m F
  ·rw[Zqk l m c.2,List.cons_append,List.getLast?_cons]
   cases (dd c.2 l).getLast? <;> rfl
theorem Zuq {g:Int→Loc} : ∀ {L:List Int}{a:Int},L.Pairwise (· ≤ ·)→(∀ x∈L,a≤x)→nrm a (g a) (dd (g a) (pts g L))
 | [],_,_,_=>trivial
 | p::L,a,hs,ha=>by
  have h1:=ha p (by simp)
  show nrm a (g a) (if g p=g a then dd (g a) (pts g L) else (p,g p)::dd (g p) (pts g L))
  rw[List.pairwise_cons] at hs
  split
  ·exact Zuq hs.2 fun x hx=>ha x (by simp[hx])
  ·rename_i hne
   exact⟨by have:a≠p:=fun e=>hne (by rw[e]);show a<p;omega,hne,Zuq hs.2 hs.1⟩
theorem ZtT {F:Loc}{l:List Chg}{x:Int}(h : ∀ c∈l,x<c.1):ZdF F l x=F:=by
 cases l with
 | nil=>rfl
 | cons c l=>rw[ZdF,if_neg (by have:=h c (by simp);omega)]
theorem Zog {g:Int→Loc}{L:List Int}{c:Chg}:c∈pts g L↔c.1∈L∧c.2=g c.1:=by
 unfold pts
 rw[List.mem_map]
 constructor
 ·rintro⟨a,ha,rfl⟩;exact⟨ha,rfl⟩
 ·rintro⟨h1,h2⟩;exact⟨c.1,h1,by rw[←h2]⟩
def still (g:Int→Loc) (L:List Int) (a M:Int):Prop := ∀ u v,a≤u→u≤v→v≤M→(∀ p∈L,¬(u<p∧p≤v))→g u=g v
theorem ZoH {g:Int→Loc}{M:Int} : ∀ {L:List Int}{a:Int},L.Pairwise (· ≤ ·)→(∀ x∈L,a≤x)→still g L a M → ∀ x,a≤x→x≤M→ZdF (g a) (dd (g a) (pts g L)) x=g x
 | [],a,_,_,hc,x,h1,h2=>hc a x (Int.le_refl _) h1 h2 (by simp)
 | p::L,a,hs,ha,hc,x,h1,h2=>by
  have hp:=ha p (by simp)
  rw[List.pairwise_cons] at hs
  have hc':still g L p M:=fun u v q1 q2 q3 q4=>hc u v om q2 q3 (fun z hz=>by
   rcases List.mem_cons.1 hz with rfl | hz
   ·omega
   ·exact q4 z hz)
  show ZdF (g a) (if g p=g a then dd (g a) (pts g L) else (p,g p)::dd (g p) (pts g L)) x=g x
  have low:x<p→g a=g x:=fun hx=>hc a x (Int.le_refl _) h1 h2 fun z hz=>by
   rcases List.mem_cons.1 hz with rfl | hz
   ·omega
   ·have:=hs.1 z hz;omega
  split
  ·rename_i e
   by_cases hx:p≤x
   ·have:=ZoH hs.2 hs.1 hc' x hx h2
    rwa [e] at this
   ·rw[ZtT fun c hc=>?_]
    ·exact low om
    ·have:=hs.1 _ (Zog.1 (Zni hc)).1;omega
  ·rw[ZdF]
   split
   ·rename_i hx;exact ZoH hs.2 hs.1 hc' x hx h2
   ·rename_i hx;exact low (by have:¬p≤x:=hx;omega)
abbrev tMin:Int := -62135596800
abbrev tMax:Int:=253402300799
def inT (x:Int):Bool:=decide (tMin<x∧x≤tMax)
def Zfk (g:Int→Loc) (L:List Int):Tab:=(g tMin,dd (g tMin) (pts g (L.filter inT)))
theorem Zmv {g:Int→Loc}{L:List Int}(h:still g L tMin tMax):still g (L.filter inT) tMin tMax:=fun u v h1 h2 h3 h4=>h u v h1 h2 h3 fun p hp hpp=>h4 p (List.mem_filter.2 ⟨hp,by unfold inT;simp only[tMin,tMax] at *;simp;omega⟩) hpp
theorem Znc {L:List Int} : ∀ x∈L.filter inT,tMin≤x:=fun x hx=>by
 have:=(List.mem_filter.1 hx).2;unfold inT at this;simp only[tMin,decide_eq_true_eq] at *;omega
theorem Zj5 {g:Int→Loc}{L:List Int}(hs:L.Pairwise (· ≤ ·)) (h:still g L tMin tMax) {x:Int}(h1:tMin≤x) (h2:x≤tMax):ZdF (Zfk g L).1 (Zfk g L).2 x=g x :=
 ZoH (hs.filter _) Znc (Zmv h) x h1 h2
theorem ZiE {g:Int→Loc}{L:List Int}(hs:L.Pairwise (· ≤ ·)):nrm tMin (g tMin) (Zfk g L).2:=Zuq (hs.filter _) Znc
theorem Zms {g:Int→Loc}{L:List Int} : ∀ c∈(Zfk g L).2,c.1≤tMax:=fun c hc=>by
 have:=(List.mem_filter.1 (Zog.1 (Zni hc)).1).2
 unfold inT at this;simp only[decide_eq_true_eq] at this;exact this.2
theorem ZqF {g:Int→Loc}{L L':List Int}(hs:L.Pairwise (· ≤ ·)) (h:still g L tMin tMax) (hs':L'.Pairwise (· ≤ ·)) (h':still g L' tMin tMax):Zfk g L=Zfk g L':=by
 refine Prod.ext rfl (ZpT (M:=tMax) _ _ tMin (g tMin) (ZiE hs) (ZiE hs') Zms Zms fun x h1 h2=>?_)
 have a:=Zj5 hs h h1 h2
 have b:=Zj5 hs' h' h1 h2
 exact a.trans b.symm
def Zcm:List Chg→Int
 | []=>0
 | c::cs=>if locE c.2≠0 then locE c.2 else Zcm cs
theorem Zip : ∀ {l:List Chg}{F:Loc},locE F=0→Zcm (dd F l)=Zcm l
 | [],_,_=>rfl
 | c::l,F,h=>by
  rw[dd]
  split
  ·rename_i e
   rw[Zip h,Zcm,e,h];simp
  ·rw[Zcm,Zcm]
   split
   ·rfl
   ·rename_i h2;exact Zip (Decidable.of_not_not h2)
def tabR (t:Tab):Tab×Int :=
 if locE t.1≠0 then ((((0,0,⟨#[]⟩):Loc),[]),locE t.1) else if Zcm t.2≠0 then (((0,0,⟨#[]⟩),[]),Zcm t.2) else if 1000<t.2.length then (((0,0,⟨#[]⟩),[]),2) else (t,0)
theorem ZpX : ∀ {l:List Chg},Zcm l=0 → ∀ c∈l,locE c.2=0
 | [],_,_,h=>by cases h
 | c::l,h,d,hd=>by
  rw[Zcm] at h
  split at h
  ·rename_i h2;exact absurd h h2
  ·rename_i h2
   rcases List.mem_cons.1 hd with rfl | hd
   ·exact Decidable.of_not_not h2
   ·exact ZpX h d hd
theorem Zuy : ∀ {C:List Chg}{a:Int}{F:Loc},nrm a F C→(∀ c∈C,locE c.2=0∧Zek c.1=true)→chk a F C=0
 | [],_,_,_,_=>rfl
 | c::cs,a,F,h,hc=>by
  have h1:=hc c (by simp)
  rw[Zjf h1.2 h.1 h1.1 (ZpY h.2.1)]
  exact Zuy h.2.2 fun d hd=>hc d (by simp[hd])
theorem tabR_ok {t:Tab}(h:(tabR t).2=0):(tabR t).1=t∧locE t.1=0∧Zcm t.2=0∧t.2.length≤1000:=by
 unfold tabR at h ⊢
 split at h
 ·rename_i h1;exact absurd h h1
 split at h
 ·rename_i h1;exact absurd h h1
 split at h
 ·cases h
 rename_i h1 h2 h3
 rw[if_neg h1,if_neg h2,if_neg h3]
 exact⟨rfl,Decidable.of_not_not h1,Decidable.of_not_not h2,by omega⟩
theorem tabR_bad {t:Tab}(h:(tabR t).2≠0):(tabR t).1=((0,0,⟨#[]⟩),[]):=by
 unfold tabR at h ⊢
 repeat' split
 all_goals first | rfl | skip
 rename_i h1 h2 h3
 rw[if_neg h1,if_neg h2,if_neg h3] at h
 exact absurd rfl h
theorem ZqE {g:Int→Loc}{L:List Int}(hs:L.Pairwise (· ≤ ·)) (h:(tabR (Zfk g L)).2=0):Zcj (Zfk g L)=0:=by
 obtain⟨_,h2,h3,h4⟩:=tabR_ok h
 unfold Zcj
 rw[if_neg om,if_neg (by simp[h2])]
 have hn:nrm (-62135596801) (Zfk g L).1 (Zfk g L).2:=by
  have:=ZiE (g:=g) hs
  show nrm (-62135596801) (g tMin) (Zfk g L).2
  cases hC:(Zfk g L).2 with
  | nil=>trivial
  | cons c cs=>rw[hC] at this;exact⟨by have:=this.1;simp only[tMin] at this;omega,this.2⟩
 refine Zuy hn fun c hc=>⟨ZpX h3 c hc,ZsJ.2 ?_⟩
 have:=(List.mem_filter.1 (Zog.1 (Zni hc)).1).2
 unfold inT at this;simp only[tMin,tMax,decide_eq_true_eq] at this;omega
end Go.Proofs.YtlekejpogddndaaGreatDoor
end
section
namespace Go.Proofs.YtlekejpogddndaaGreatDoor
open Go.Ab Civ
abbrev xSh (x:Era):Int:=x.1
abbrev xRl (x:Era):ByteArray:=x.2.1
abbrev xSv (x:Era):Int:=x.2.2.1
abbrev xFm (x:Era):ByteArray:=x.2.2.2.1
abbrev xOp (x:Era):Bool:=x.2.2.2.2.1
def endV (x:Era):Int:=num x.2.2.2.2.2.1.1 x.2.2.2.2.2.1.2.1 x.2.2.2.2.2.1.2.2*86400+x.2.2.2.2.2.2.1-(if x.2.2.2.2.2.2.2=2 then xSh x else 0)
def ZaN (es:List Era):List Int:=es.dropLast.map endV
def Zf7 (fm lt:ByteArray) (sa:Int):ByteArray :=
 if (cutL fm [47]).2.2=true then (if 0<sa then bA (cutL fm [47]).2.1 else bA (cutL fm [47]).1)
 else if (cutL fm [37,115]).2.2=true then bA ((cutL fm [37,115]).1++aB lt++(cutL fm [37,115]).2.1) else fm
def locV (x:Era) (sa:Int) (lt:ByteArray):Loc:=(xSh x+sa,sa,Zf7 (xFm x) lt sa)
def ZaP (rl:List Rul) (x:Era):List Tim:=if xRl x=⟨#[]⟩ then [] else (Zbe rl (xRl x) (xSh x)).1
def Zc1 (sa:Int) (lt:ByteArray):List Tim→Int→Int×ByteArray
 | [],_=>(sa,lt)
 | t::ts,a=>if t.1≤a then Zc1 t.2.1 t.2.2 ts a else Zc1 sa lt ts a
def Zf8 (rl:List Rul) (x:Era) (a:Int):Loc:=locV x (Zc1 (xSv x) ⟨#[]⟩ (ZaP rl x) a).1 (Zc1 (xSv x) ⟨#[]⟩ (ZaP rl x) a).2
def locZ:Loc:=(0,0,⟨#[]⟩)
def Zbf (rl:List Rul):List Era→Int→Loc
 | [],_=>locZ
 | [x],a=>Zf8 rl x a
 | x::y::es,a=>if endV x≤a then Zbf rl (y::es) a else Zf8 rl x a
def kAt:List Int→Int→Nat
 | [],_=>0
 | e::es,a=>if e≤a then kAt es a+1 else 0
theorem Zp5 : ∀ (l:List Int) (a:Int),kAt l a≤l.length
 | [],_=>Nat.le_refl _
 | e::es,a=>by
  rw[kAt]
  split
  ·have:=Zp5 es a;simp only[List.length_cons];omega
  ·exact Nat.zero_le _
theorem Zp4 : ∀ {l:List Int}{a:Int}{k:Nat}(h:k<l.length),k≤kAt l a→(l[k]≤a↔k+1≤kAt l a)
 | e::es,a,0,_,_=>by
  rw[kAt]
  simp only[List.getElem_cons_zero]
  split
  ·rename_i h;exact⟨fun _=>by omega,fun _=>h⟩
  ·rename_i h;exact⟨fun h2=>absurd h2 h,fun h2=>by omega⟩
 | e::es,a,k+1,h,hk=>by
  rw[kAt] at hk ⊢
  simp only[List.getElem_cons_succ]
  split at hk
  ·rename_i h2
   rw[if_pos h2]
   have:=Zp4 (l:=es) (a:=a) (k:=k) (by simpa using h) om
   rw[this];omega
  ·omega
theorem Zc9 (es:List Era):(ZaN es).length=es.length-1:=by simp[ZaN]
theorem Zfx {x y:Era}{es:List Era}:ZaN (x::y::es)=endV x::ZaN (y::es):=by simp[ZaN]
theorem ZlP {es:List Era}{k:Nat}(h:k<(ZaN es).length) (h2:k<es.length):(ZaN es)[k]=endV es[k]:=by simp[ZaN]
theorem ZnX {rl:List Rul} : ∀ {es:List Era}{a:Int}(h:kAt (ZaN es) a<es.length),Zbf rl es a=Zf8 rl es[kAt (ZaN es) a] a
 | [],a,h=>by simp at h
 | [x],a,h=>by simp[Zbf,ZaN,kAt]
 | x::y::es,a,h=>by
  have e:kAt (ZaN (x::y::es)) a=if endV x≤a then kAt (ZaN (y::es)) a+1 else 0:=by rw[Zfx,kAt]
  rw[Zbf]
  split
  ·rename_i hx
   rw[if_pos hx] at e
   have h':kAt (ZaN (y::es)) a<(y::es).length:=by have:=Zp5 (ZaN (y::es)) a;rw[Zc9] at this;simp at this ⊢;omega
   rw[ZnX h']
   simp only[e,List.getElem_cons_succ]
  ·rename_i hx
   rw[if_neg hx] at e
   simp only[e,List.getElem_cons_zero]
theorem kAt_lt {es:List Era}(h:es≠[]) (a:Int):kAt (ZaN es) a<es.length:=by
 have:=Zp5 (ZaN es) a
 rw[Zc9] at this
 have:=List.length_pos_iff.2 h
 omega
theorem Zey : ∀ (l:List Tim) (t:Tim) (sa:Int) (lt:ByteArray) (a:Int),Zc1 sa lt (l++[t]) a=if t.1≤a then (t.2.1,t.2.2) else Zc1 sa lt l a
 | [],t,sa,lt,a=>rfl
 | u::l,t,sa,lt,a=>by
  rw[List.cons_append,Zc1,Zc1]
  split
  ·exact Zey l t _ _ a
  ·exact Zey l t _ _ a
theorem ZiX : ∀ (l:List Tim) (sa:Int) (lt:ByteArray) (u v:Int),u≤v→(∀ t∈l,¬(u<t.1∧t.1≤v))→Zc1 sa lt l u=Zc1 sa lt l v
 | [],_,_,_,_,_,_=>rfl
 | t::l,sa,lt,u,v,h,hl=>by
  have ih:=fun sa lt=>ZiX l sa lt u v h fun x hx=>hl x (by simp[hx])
  have:=hl t (by simp)
  rw[Zc1,Zc1]
  split
  ·rw[if_pos om];exact ih _ _
  ·rw[if_neg om];exact ih _ _
theorem Zkf : ∀ (l:List Tim) (sa:Int) (lt:ByteArray) (a:Int),(∀ t∈l,a<t.1)→Zc1 sa lt l a=(sa,lt)
 | [],_,_,_,_=>rfl
 | t::l,sa,lt,a,h=>by
  rw[Zc1,if_neg (by have:=h t (by simp);omega)]
  exact Zkf l sa lt a fun x hx=>h x (by simp[hx])
theorem ZpO : ∀ {l:List Tim}{t:Tim}(sa:Int) (lt:ByteArray),l.Pairwise (fun a b=>a.1<b.1)→t∈l→Zc1 sa lt l t.1=(t.2.1,t.2.2)
 | u::l,t,sa,lt,hp,ht=>by
  rw[List.pairwise_cons] at hp
  rw[Zc1]
  rcases List.mem_cons.1 ht with rfl | ht
  ·rw[if_pos (Int.le_refl _)];exact Zkf l _ _ _ hp.1
  ·rw[if_pos (by have:=hp.1 t ht;omega)];exact ZpO _ _ hp.2 ht
def eraG (x:Era) (b:Int) (ts:List Tim):List Chg :=
 (b,locV x (Zc1 (xSv x) ⟨#[]⟩ ts b).1 (Zc1 (xSv x) ⟨#[]⟩ ts b).2)::(ts.filter fun t=>decide (b<t.1)).map fun t=>(t.1,locV x t.2.1 t.2.2)
theorem eraG_low {x:Era}{b:Int}{ts:List Tim}{t:Tim}(h:t.1≤b):eraG x b (ts++[t])=(b,locV x t.2.1 t.2.2)::(eraG x b ts).tail:=by
 unfold eraG
 rw[Zey,if_pos h,List.filter_append]
 simp[show ¬b<t.1 by omega]
theorem Zun {x:Era}{b:Int}{ts:List Tim}{t:Tim}(h:¬t.1≤b):eraG x b (ts++[t])=eraG x b ts++[(t.1,locV x t.2.1 t.2.2)]:=by
 unfold eraG
 rw[Zey,if_neg h,List.filter_append]
 simp[show b<t.1 by omega]
def cutV (l:List Chg) (e:Int):List Chg:=l.takeWhile fun c=>decide (c.1<e)
def ZbY (prev:Option Int) (f:Int):Int:=match prev with
 | none=>f
 | some e=>max f e
def Zbd (rl:List Rul) (f:Int):Option Int→List Era→List Chg
 | _,[]=>[]
 | prev,[x]=>eraG x (ZbY prev f) (ZaP rl x)
 | prev,x::y::es=>(if endV x≤f then [] else cutV (eraG x (ZbY prev f) (ZaP rl x)) (endV x))++Zbd rl f (some (endV x)) (y::es)
def risL:List Int→Bool
 | a::b::l=>decide (a<b)&&risL (b::l)
 | _=>true
theorem ZlC : ∀ l:List Int,risL l=true↔l.Pairwise (· < ·)
 | []=>by simp[risL]
 | [a]=>by simp[risL]
 | a::b::l=>by
  rw[risL,Bool.and_eq_true,ZlC (b::l),List.pairwise_cons (a:=a)]
  constructor
  ·rintro⟨h1,h2⟩
   have h1:a<b:=by simpa using h1
   refine⟨fun x hx=>?_,h2⟩
   rcases List.mem_cons.1 hx with rfl | hx
   ·exact h1
   ·have:=(List.pairwise_cons.1 h2).1 x hx;omega
  ·rintro⟨h1,h2⟩
   exact⟨by simpa using h1 b (by simp),h2⟩
theorem ZiS : ∀ {l:List Int},(∀ i (h:i+1<l.length),l[i]<l[i+1])→risL l=true
 | [],_=>rfl
 | [_],_=>rfl
 | a::b::l,h=>by
  rw[risL,Bool.and_eq_true]
  exact⟨by simpa using h 0 (by simp),ZiS fun i hi=>h (i+1) (by simpa using hi)⟩
theorem Zkb {l:List Int}{i:Nat}(h:i+1<l.length) (hb:¬l[i]<l[i+1]):risL l=false:=by
 cases e:risL l with
 | false=>rfl
 | true=>exact absurd (List.pairwise_iff_getElem.1 ((ZlC l).1 e) i (i+1) om h om) hb
def risT (rl:List Rul) (x:Era):Prop:=(ZaP rl x).Pairwise fun a b=>a.1<b.1
theorem ZoI {l:List Chg}{e:Int}{c:Chg}(hs:l.Pairwise fun a b=>a.1<b.1):c∈cutV l e↔c∈l∧c.1<e:=by
 unfold cutV
 induction l with
 | nil=>simp
 | cons d l ih =>
  rw[List.pairwise_cons] at hs
  rw[List.takeWhile_cons]
  split
  ·rename_i h
   rw[List.mem_cons,ih hs.2,List.mem_cons]
   simp only[decide_eq_true_eq] at h
   constructor
   ·rintro (rfl | ⟨h1,h2⟩)
    ·exact⟨.inl rfl,h⟩
    ·exact⟨.inr h1,h2⟩
   ·rintro⟨rfl | h1,h2⟩
    ·exact .inl rfl
    ·exact .inr ⟨h1,h2⟩
  ·rename_i h
   simp only[decide_eq_true_eq] at h
   constructor
   ·intro h;cases h
   ·rintro⟨h1,h2⟩
    rcases List.mem_cons.1 h1 with rfl | h1
    ·exact absurd h2 h
    ·have:=hs.1 c h1;omega
theorem Zqf {x:Era}{b:Int}{ts:List Tim}(h:ts.Pairwise fun a b=>a.1<b.1):(eraG x b ts).Pairwise fun a b=>a.1<b.1:=by
 unfold eraG
 rw[List.pairwise_cons]
 refine⟨fun c hc=>?_,?_⟩
 ·obtain⟨t,ht,rfl⟩:=List.mem_map.1 hc
  simpa using (List.mem_filter.1 ht).2
 ·rw[List.pairwise_map]
  exact h.filter _
theorem Zqh {rl:List Rul}{x:Era}{b:Int}(h:risT rl x) {c:Chg}(hc:c∈eraG x b (ZaP rl x)):b≤c.1∧c.2=Zf8 rl x c.1:=by
 rcases List.mem_cons.1 hc with rfl | hc
 ·exact⟨Int.le_refl _,rfl⟩
 ·obtain⟨t,ht,rfl⟩:=List.mem_map.1 hc
  obtain⟨h1,h2⟩:=List.mem_filter.1 ht
  simp only[decide_eq_true_eq] at h2
  refine⟨by show b≤t.1;omega,?_⟩
  show locV x t.2.1 t.2.2=Zf8 rl x t.1
  unfold Zf8
  rw[ZpO _ _ h h1]
theorem ZeZ {rl:List Rul}{x:Era}{u v:Int}(h:u≤v) (ht : ∀ t∈ZaP rl x,¬(u<t.1∧t.1≤v)):Zf8 rl x u=Zf8 rl x v:=by
 unfold Zf8;rw[ZiX _ _ _ u v h ht]
theorem Zrb {rl:List Rul}{x:Era}{b u v:Int}(h0:b≤u) (h:u≤v) (hc : ∀ c∈eraG x b (ZaP rl x),¬(u<c.1∧c.1≤v)):Zf8 rl x u=Zf8 rl x v:=by
 refine ZeZ h fun t ht hh=>?_
 refine hc (t.1,locV x t.2.1 t.2.2) (List.mem_cons_of_mem _ (List.mem_map.2 ⟨t,List.mem_filter.2 ⟨ht,?_⟩,rfl⟩)) hh
 simp;omega
def prevOk (prev:Option Int) (es:List Era):Prop:=match prev with
 | none=>True
 | some e => ∀ x∈ZaN es,e<x
theorem ZmO {rl:List Rul}{f:Int} : ∀ {es:List Era}{prev:Option Int},es≠[]→(∀ x∈es,risT rl x)→(ZaN es).Pairwise (· < ·)→prevOk prev es →
  (∃ l,Zbd rl f prev es=(ZbY prev f,Zbf rl es (ZbY prev f))::l)∧(Zbd rl f prev es).Pairwise (fun a b=>a.1<b.1)∧(∀ c∈Zbd rl f prev es,ZbY prev f≤c.1∧c.2=Zbf rl es c.1) ∧
  ∀ u v,ZbY prev f≤u→u≤v→(∀ c∈Zbd rl f prev es,¬(u<c.1∧c.1≤v))→Zbf rl es u=Zbf rl es v
 | [x],prev,_,ht,_,_=>by
  have hx:=ht x (by simp)
  refine⟨⟨_,rfl⟩,Zqf hx,fun c hc=>Zqh hx hc,fun u v h1 h2 h3=>Zrb h1 h2 h3⟩
 | x::y::es,prev,_,ht,hr,hp=>by
  have hx:=ht x (by simp)
  rw[Zfx,List.pairwise_cons] at hr
  have hp2:prevOk (some (endV x)) (y::es):=hr.1
  obtain⟨i1,i2,i3,i4⟩:=ZmO (f:=f) (es:=y::es) (prev:=some (endV x)) (by simp) (fun z hz=>ht z (by simp[hz])) hr.2 hp2
  have hbe:prev=none ∨ ∃ e,prev=some e∧e<endV x:=by
   cases prev with
   | none=>exact .inl rfl
   | some e=>exact .inr ⟨e,rfl,hp _ (by rw[Zfx];simp)⟩
  by_cases hf:endV x≤f
  ·have hb:ZbY prev f=f:=by
    rcases hbe with rfl | ⟨e,rfl,he⟩
    ·rfl
    ·show max f e=f;omega
   have hb2:ZbY (some (endV x)) f=f:=by show max f (endV x)=f;omega
   have hP:Zbd rl f prev (x::y::es)=Zbd rl f (some (endV x)) (y::es):=by rw[Zbd,if_pos hf,List.nil_append]
   have hT : ∀ a,f≤a→Zbf rl (x::y::es) a=Zbf rl (y::es) a:=fun a ha=>by rw[Zbf,if_pos om]
   rw[hP,hb]
   rw[hb2] at i1 i3 i4
   refine⟨by rw[hT f (Int.le_refl _)];exact i1,i2,fun c hc=>?_,fun u v h1 h2 h3=>?_⟩
   ·obtain⟨j1,j2⟩:=i3 c hc
    exact⟨j1,by rw[hT _ j1];exact j2⟩
   ·rw[hT u h1,hT v om];exact i4 u v h1 h2 h3
  ·have hb:ZbY prev f<endV x:=by
    rcases hbe with rfl | ⟨e,rfl,he⟩
    ·show f<endV x;omega
    ·show max f e<endV x;omega
   have hb2:ZbY (some (endV x)) f=endV x:=by show max f (endV x)=endV x;omega
   have hP:Zbd rl f prev (x::y::es)=cutV (eraG x (ZbY prev f) (ZaP rl x)) (endV x)++Zbd rl f (some (endV x)) (y::es):=by rw[Zbd,if_neg hf]
   have hT1 : ∀ a,a<endV x→Zbf rl (x::y::es) a=Zf8 rl x a:=fun a ha=>by rw[Zbf,if_neg om]
   have hT2 : ∀ a,endV x≤a→Zbf rl (x::y::es) a=Zbf rl (y::es) a:=fun a ha=>by rw[Zbf,if_pos ha]
   rw[hb2] at i1 i3 i4
   have hg:=Zqf (x:=x) (b:=ZbY prev f) hx
   generalize hB:ZbY prev f=b at *
   rw[hP]
   refine⟨?_,?_,?_,?_⟩
   ·have:cutV (eraG x b (ZaP rl x)) (endV x)=(b,Zf8 rl x b)::cutV (eraG x b (ZaP rl x)).tail (endV x):=by
     unfold cutV eraG Zf8
     rw[List.takeWhile_cons,if_pos (by simpa using hb)]
     rfl
    rw[this,hT1 b hb]
    exact⟨_,rfl⟩
   ·rw[List.pairwise_append]
    refine⟨hg.sublist (List.takeWhile_sublist _),i2,fun c hc d hd=>?_⟩
    have h1:=((ZoI hg).1 hc).2
    have h2:=(i3 d hd).1
    omega
   ·intro c hc
    rcases List.mem_append.1 hc with hc | hc
    ·obtain⟨h1,h2⟩:=(ZoI hg).1 hc
     obtain⟨h3,h4⟩:=Zqh hx h1
     exact⟨h3,by rw[hT1 _ h2];exact h4⟩
    ·obtain⟨h1,h2⟩:=i3 c hc
     exact⟨by omega,by rw[hT2 _ h1];exact h2⟩
   ·intro u v h1 h2 h3
    by_cases hv:v<endV x
    ·rw[hT1 u om,hT1 v hv]
     refine ZeZ h2 fun t ht hh=>?_
     refine h3 (t.1,locV x t.2.1 t.2.2) (List.mem_append_left _ ((ZoI hg).2 ⟨List.mem_cons_of_mem _ (List.mem_map.2 ⟨t,List.mem_filter.2 ⟨ht,?_⟩,rfl⟩),?_⟩)) hh
     ·simp;omega
     ·show t.1<endV x;omega
    ·by_cases hu:endV x≤u
     ·rw[hT2 u hu,hT2 v om]
      exact i4 u v hu h2 fun c hc=>h3 c (List.mem_append_right _ hc)
     ·obtain⟨l,hl⟩:=i1
      exact absurd ⟨by show u<endV x;omega,by show endV x≤v;omega⟩ (h3 (endV x,_) (List.mem_append_right _ (by rw[hl];exact List.mem_cons_self)))
def Zec (rl:List Rul) (es:List Era):List Int:=(es.flatMap fun x=>(ZaP rl x).map (·.1))++ZaN es
theorem Zgi {rl:List Rul} : ∀ {es:List Era}{u v:Int},u≤v→(∀ p∈Zec rl es,¬(u<p∧p≤v))→Zbf rl es u=Zbf rl es v
 | [],u,v,_,_=>rfl
 | [x],u,v,h,hp=>ZeZ h fun t ht=>hp t.1 (by unfold Zec;simp;exact .inl ⟨_,_,ht⟩)
 | x::y::es,u,v,h,hp=>by
  have hx:¬(u<endV x∧endV x≤v):=hp _ (by unfold Zec;rw[Zfx];simp)
  have ht : ∀ t∈ZaP rl x,¬(u<t.1∧t.1≤v):=fun t ht=>hp t.1 (by unfold Zec;rw[List.flatMap_cons];simp only[List.append_assoc,List.mem_append,List.mem_map];exact .inl ⟨t,ht,rfl⟩)
  have ih:Zbf rl (y::es) u=Zbf rl (y::es) v:=Zgi h fun p hp'=>hp p (by
   unfold Zec at hp' ⊢
   rw[Zfx,List.flatMap_cons]
   rcases List.mem_append.1 hp' with h1 | h1
   ·exact List.mem_append_left _ (List.mem_append_right _ h1)
   ·exact List.mem_append_right _ (List.mem_cons_of_mem _ h1))
  rw[Zbf,Zbf]
  split
  ·rw[if_pos om];exact ih
  ·rw[if_neg om];exact ZeZ h ht
def Zdp (rl:List Rul) (es:List Era):Tab:=Zfk (Zbf rl es) ((Zec rl es).mergeSort fun a b=>decide (a≤b))
theorem ZpF {rl:List Rul}{es:List Era}{L:List Int}(hs:L.Pairwise (· ≤ ·)) (hc : ∀ u v,tMin≤u→u≤v→(∀ p∈L,¬(u<p∧p≤v))→Zbf rl es u=Zbf rl es v):Zfk (Zbf rl es) L=Zdp rl es:=by
 refine ZqF hs (fun u v h1 h2 _ h4=>hc u v h1 h2 h4) ?_ fun u v h1 h2 _ h4=>Zgi h2 fun p hp=>h4 p ?_
 ·have h:=List.pairwise_mergeSort (le:=fun a b:Int=>decide (a≤b)) (fun a b c h1 h2=>by simp at *;omega) (fun a b=>by simp;omega) (Zec rl es)
  exact h.imp fun h=>by simpa using h
 ·exact (List.mergeSort_perm _ _).mem_iff.2 hp
theorem Ztu {rl:List Rul}{f:Int}{es:List Era}(hc : ∀ c∈Zbd rl f none es,c.2=Zbf rl es c.1):Zbd rl f none es=pts (Zbf rl es) ((Zbd rl f none es).map (·.1)):=by
 unfold pts
 rw[List.map_map]
 exact (List.map_id' _).symm.trans (List.map_congr_left fun c h=>by show c=(c.1,_);rw[←hc c h])
end Go.Proofs.YtlekejpogddndaaGreatDoor
end
section
namespace Go.Proofs.YtlekejpogddndaaGreatDoor
open Go.Ab Civ
def stV:List Chg→Tab
 | []=>(locZ,[])
 | c::cs=>(c.2,dd c.2 cs)
def ZeV (F:Loc) (l:List Chg):Loc:=l.getLast?.elim F (·.2)
theorem stV_snoc {l:List Chg}{c:Chg}(h:l≠[]):stV (l++[c])=((stV l).1,(stV l).2++if c.2=ZeV (stV l).1 (stV l).2 then [] else [c]):=by
 cases l with
 | nil=>exact absurd rfl h
 | cons d l =>
  show ((d.2,dd d.2 (l++[c])):Tab)=(d.2,dd d.2 l++_)
  rw[Zqk]
  rfl
theorem ZsT : ∀ l:List Chg,(stV l).2.length≤l.length
 | []=>Nat.le_refl _
 | c::l=>by have:=Zqj l c.2;show (dd c.2 l).length≤_;simp only[List.length_cons];omega
def inP (ps:List Chg):List Chg:=ps.takeWhile fun c=>decide (c.1≤tMax)
theorem Zp9 {ps:List Chg}{i:Nat}(h1 : ∀ c∈ps.take i,c.1≤tMax) (h2 : ∀ h:i<ps.length,¬ps[i].1≤tMax):inP ps=ps.take i:=by
 unfold inP
 induction ps generalizing i with
 | nil=>simp
 | cons c ps ih =>
  cases i with
  | zero=>rw[List.takeWhile_cons,if_neg (by have:=h2 (by simp);simpa using this)];rfl
  | succ i =>
   rw[List.takeWhile_cons,if_pos (by have:=h1 c (by simp);simpa using this),List.take_succ_cons]
   exact congrArg _ (ih (fun d hd=>h1 d (by simp[hd])) fun h=>by have:=h2 (by simpa using h);simpa using this)
theorem inP_pts {g:Int→Loc}{L:List Int}(hs:L.Pairwise (· < ·)):inP (pts g L)=pts g (L.filter fun x=>decide (x≤tMax)):=by
 unfold inP
 induction L with
 | nil=>rfl
 | cons a L ih =>
  rw[List.pairwise_cons] at hs
  show List.takeWhile _ ((a,g a)::pts g L)=_
  rw[List.takeWhile_cons]
  by_cases h:a≤tMax
  ·rw[if_pos (by simpa using h),List.filter_cons,if_pos (by simpa using h),ih hs.2];rfl
  ·rw[if_neg (by simpa using h),List.filter_cons,if_neg (by simpa using h)]
   have:L.filter (fun x=>decide (x≤tMax))=[]:=List.filter_eq_nil_iff.2 fun x hx=>by have:=hs.1 x hx;simp only[decide_eq_true_eq];omega
   rw[this];rfl
theorem stV_tab {g:Int→Loc}{L:List Int}(hs:(tMin::L).Pairwise (· < ·)):stV (inP (pts g (tMin::L)))=Zfk g (tMin::L):=by
 rw[inP_pts hs]
 rw[List.pairwise_cons] at hs
 unfold Zfk
 rw[List.filter_cons,if_pos (by decide)]
 have e:(tMin::L).filter inT=L.filter fun x=>decide (x≤tMax):=by
  rw[List.filter_cons,if_neg (by decide)]
  refine List.filter_congr fun x hx=>?_
  have:=hs.1 x hx
  unfold inT
  rw[Bool.eq_iff_iff]
  simp only[decide_eq_true_eq]
  exact⟨fun h=>h.2,fun h=>⟨this,h⟩⟩
 rw[e]
 rfl
theorem tabR_st : ∀ {l:List Chg},locE locZ=0∨l≠[]→tabR (stV l)=if Zcm l≠0 then ((((0,0,⟨#[]⟩):Loc),[]),Zcm l) else if 1000<(stV l).2.length then (((0,0,⟨#[]⟩),[]),2) else (stV l,0)
 | [],h=>by
  have h:=h.resolve_right (fun h=>h rfl)
  unfold tabR stV
  simp[Zcm,h]
 | c::l,_=>by
  unfold tabR
  show (if locE c.2≠0 then _ else if Zcm (dd c.2 l)≠0 then _ else _)=_
  rw[Zcm]
  by_cases h:locE c.2=0
  ·have e:(if locE c.2≠0 then locE c.2 else Zcm l)=Zcm l:=if_neg (by simp[h])
   rw[e,if_neg (show ¬locE c.2≠0 from fun hh=>hh h),Zip h,show Zcm (stV (c::l)).2=Zcm l from Zip h]
  ·have e:(if locE c.2≠0 then locE c.2 else Zcm l)=locE c.2:=if_pos h
   rw[e,if_pos h,if_pos h];rfl
theorem ZgZ : ∀ {l:List Chg}{c:Chg},Zcm l=0→Zcm (l++[c])=locE c.2
 | [],c,_=>by show (if locE c.2≠0 then locE c.2 else 0)=_;split <;> simp_all
 | d::l,c,h=>by
  rw[Zcm] at h
  split at h
  ·rename_i h2;exact absurd h h2
  ·rename_i h2
   rw[List.cons_append,Zcm,if_neg h2]
   exact ZgZ h
theorem Zi5 : ∀ {l m:List Chg},Zcm l≠0→Zcm (l++m)=Zcm l
 | [],_,h=>absurd rfl h
 | d::l,m,h=>by
  rw[List.cons_append,Zcm,Zcm]
  rw[Zcm] at h
  split
  ·rfl
  ·rename_i h2;rw[if_neg h2] at h;exact Zi5 h
end Go.Proofs.YtlekejpogddndaaGreatDoor
end
section
namespace Go.Proofs.YtlekejpogddndaaGreatDoor
theorem Zuz : ∀ {a:Int}{l:Loc}{cs:List Chg},chk a l cs=0 → ∀ c∈cs,Zek c.1=true∧locE c.2=0
 | a,l,[],_,c,hc=>by simp at hc
 | a,l,d::cs,h,c,hc=>by
  rw[chk] at h
  split at h
  ·cases h
  ·split at h
   ·cases h
   ·split at h
    ·rename_i h1 _ h3;exact absurd h h3
    ·split at h
     ·cases h
     ·rename_i h1 _ h3 _
      rcases List.mem_cons.1 hc with rfl | hc
      ·exact⟨by simpa using h1,Decidable.of_not_not h3⟩
      ·exact Zuz h c hc
theorem Zrm {t:Tab}(h:Zcj t=0):t.2.length≤1000∧locE t.1=0 ∧ ∀ c∈t.2,Zek c.1=true∧locE c.2=0:=by
 unfold Zcj at h
 split at h
 ·cases h
 ·split at h
  ·rename_i h1 h2;exact absurd h h2
  ·rename_i h1 h2;exact⟨by omega,Decidable.of_not_not h2,Zuz h⟩
end Go.Proofs.YtlekejpogddndaaGreatDoor
end
section
namespace Go.Proofs.YtlekejpogddndaaGreatDoor
open Go.Ab Civ
attribute [local simp] Zcv
abbrev Pat:=Loc×Int×Int×List Chg
def Zi2:Tab:=((0,0,⟨#[]⟩),[])
def okT (t:Tab):Prop:=t.1.2.2.size≤maxLen ∧ ∀ x∈t.2,x.2.2.2.size≤maxLen
theorem Zrl {t:Tab}(h:Zcj t=0):t.2.length≤1000:=by
 unfold Zcj at h
 split at h
 ·omega
 omega
end Go.Proofs.YtlekejpogddndaaGreatDoor
end
section
namespace Go.Proofs.YtlekejpogddndaaGreatDoor
open Go.Ab Civ
attribute [local simp] Zcv
def offP (t:Tab) (p:Pat):Prop:=p.2.1<0∨p.2.2.1<0∨(t.2.length:Int)<p.2.1∨(t.2.length:Int)-p.2.1<p.2.2.1
instance (t:Tab) (p:Pat):Decidable (offP t p):=by unfold offP;infer_instance
end Go.Proofs.YtlekejpogddndaaGreatDoor
end
section
namespace Go.Proofs.YtlekejpogddndaaGreatDoor
open Go.ChangeShapes Go.WideShapes Go.ChangeAt Go.RowKit
theorem own:ownKnob Tryz.prog.godebug=none:=by kernel_rfl
theorem laidOut:laidOutB Tryz.prog=true:=by kernel_rfl
theorem ZgI {H:Type}{enc:TypeId×Value→H}{P:Program}(hl:laidOutB P=true) {W W':World}(hb:Below W.heap.size W W') :
  ∀ (ts:List TypeId) (vs:List Value) (ds:List (DataW H)) (ps:List MemPlace),(ts.all fun t=>P.readableRec t&&decide (t<P.types.size))=true→(∀ x∈ps,x.block<W.heap.size) →
   DataW.TrodAll enc P W 0 (fun _=>true) true ts vs ds ps→DataW.TrodAll enc P W' 0 (fun b=>decide (b<W.heap.size)) true ts vs ds ps
 | [],[],[],ps,_,_,h=>h
 | t::ts,v::vs,d::ds,ps,hr,hlt,h=>by
  obtain⟨p,q,h1,h2,rfl⟩:=h
  simp only[List.all_cons,Bool.and_eq_true,decide_eq_true_eq] at hr
  exact⟨p,q,Below.trod hl hr.1.1 hr.1.2 h1 hb (fun x hx=>hlt x (List.mem_append.2 (.inl hx))),
   ZgI hl hb ts vs ds q hr.2 (fun x hx=>hlt x (List.mem_append.2 (.inr hx))) h2,rfl⟩
 | [],_::_,_,_,_,_,h=>by simp[DataW.TrodAll] at h
 | [],[],_::_,_,_,_,h=>by simp[DataW.TrodAll] at h
 | _::_,[],_,_,_,_,h=>by simp[DataW.TrodAll] at h
 | _::_,_::_,[],_,_,_,h=>by simp[DataW.TrodAll] at h
theorem law_post {H:Type}{enc:TypeId×Value→H}{P:Program}{f:Func}{s:ChangeSpec}{handsOn fresh:Bool}{W W':World}{args:Array Value}{ds gs:List (DataW H)}{before:List MemPlace}{tb:TypeId}
  (hl:laidOutB P=true) (hts:(f.params.toList.all fun t=>P.readableRec t&&decide (t<P.types.size))=true)
  (hrt:f.resultTypes = #[tb]) (htb:P.underlying tb=some .bool) (hvars:s.vars=[])
  (hs:s.fn H ds={ results:=[.lit (.bool true)],args:=ds })
  (hW:DataW.Whole enc P f.params.toList s.vars false W args.toList ds gs before) (hb:Below W.heap.size W W') :
  s.post enc P f false fresh handsOn false W args (.bool true) W':=by
 have hW':=hW
 obtain⟨p,q,hA,hV,rfl,_,_⟩:=hW
 rw[hvars] at hV
 obtain⟨rfl,rfl⟩:=trodVars_none hV
 have hlt : ∀ x∈p,x.block<W.heap.size:=fun x hx=>by simpa using hW'.lt x (List.mem_append.2 (.inl hx))
 have e1:s.fn H (ds++[])={ results:=[.lit (.bool true)],args:=ds }:=by simpa using hs
 refine⟨ds,[],p++[],[],p,[],hW',?_,?_,?_,hb.frame _,fun h=>by cases h⟩
 ·rw[e1,hrt];exact trodAll_mk1 (shut_bool htb _)
 ·rw[e1];exact ZgI hl hb _ _ _ _ hts hlt hA
 ·rw[e1,hvars];exact rfl
end Go.Proofs.YtlekejpogddndaaGreatDoor
end
section
namespace Go.Proofs.YtlekejpogddndaaGreatDoor
open Go.ChangeShapes Go.WideShapes Go.ChangeAt Go.RowKit Go.Deep Go.Ab
inductive Ds where
 | int | str | bool
 | pair (a b:Ds)
 | slice (a:Ds)
@[reducible] def El:Ds→Type
 | .int=>Int
 | .str=>ByteArray
 | .bool=>Bool
 | .pair a b=>El a×El b
 | .slice a=>List (El a)
def Ds.size:Ds→Nat
 | .pair a b=>a.size+b.size
 | _=>1
theorem Ds.size_pos (d:Ds):0<d.size:=by
 induction d with
 | pair a b iha ihb=>simp only[Ds.size];omega
 | _=>simp[Ds.size]
def Rd (w:World) (B:Nat):(d:Ds)→List Value→El d→Prop
  | .int,cs,n=>cs=[.int .i64 n] ∧ -9223372036854775808≤n∧n≤9223372036854775807
  | .str,cs,s=>cs=[.string s]∧s.size≤maxLen
  | .bool,cs,b=>cs=[.bool b]
  | .pair a b,cs,p => ∃ c1 c2,cs=c1++c2∧Rd w B a c1 p.1∧Rd w B b c2 p.2
  | .slice a, cs, l => ∃ A c, cs = [.slice A l.length c] ∧ l.length ≤ c ∧ c ≤ maxLen ∧ (A = none → c = 0) ∧
      (0<l.length → ∃ b off,A=some ⟨b,off,none⟩∧b<B ∧ ∀ k (h:k<l.length),∃ r,(∀ j v,r[j]?=some v→w.cell? ⟨b,off+k*a.size+j,none⟩=some v)∧Rd w B a r l[k])
theorem Rd.length {w:World}{B:Nat} : ∀ {d:Ds}{cs:List Value}{x:El d},Rd w B d cs x→cs.length=d.size
 | .int,cs,x,h=>by rw[h.1];rfl
 | .str,cs,x,h=>by rw[h.1];rfl
 | .bool,cs,x,h=>by rw[show cs=_ from h];rfl
 | .pair a b,cs,x,⟨c1,c2,e,h1,h2⟩=>by rw[e,List.length_append,Rd.length h1,Rd.length h2];rfl
 | .slice a,cs,x,⟨A,c,e,_⟩=>by rw[e];rfl
theorem Rd.keep {w w':World}{B B':Nat}(hk : ∀ p:Addr,p.block<B→w'.cell? p=w.cell? p) (hB:B≤B') : ∀ {d:Ds}{cs:List Value}{x:El d},Rd w B d cs x→Rd w' B' d cs x
  | .int,cs,x,h=>h
  | .str,cs,x,h=>h
  | .bool,cs,x,h=>h
  | .pair a b,cs,x,⟨c1,c2,e,h1,h2⟩=>⟨c1,c2,e,Rd.keep hk hB h1,Rd.keep hk hB h2⟩
  | .slice a, cs, x, ⟨A, c, e, hl, hm, hA0, h⟩ => ⟨A, c, e, hl, hm, hA0, fun h0 => by
      obtain⟨b,off,hA,hb,hi⟩:=h h0
      refine⟨b,off,hA,by omega,fun k hk'=>?_⟩
      obtain⟨r,hc,hr⟩:=hi k hk'
      exact⟨r,fun j v hv=>(hk _ hb).trans (hc j v hv),Rd.keep hk hB hr⟩⟩
theorem Rd.below {w w':World}{B:Nat}{d:Ds}{cs:List Value}{x:El d}(h:Rd w B d cs x) (hb:Below B w w'):Rd w' B d cs x:=h.keep (fun p hp=>hb.cell hp) (Nat.le_refl _)
theorem Rd.more {w:World}{B B':Nat}{d:Ds}{cs:List Value}{x:El d}(h:Rd w B d cs x) (hB:B≤B'):Rd w B' d cs x:=h.keep (fun p hp=>rfl) hB
def Zoz (P:Program) (f:TypeId→Ds→Bool):List Field→Nat→Ds→Bool
 | [],_,_=>false
 | fd::fs,off,d=>match fs with
  | []=>fd.offset==off&&P.cellsOf fd.type==d.size&&f fd.type d
  | _::_=>match d with
   | .pair a b=>fd.offset==off&&P.cellsOf fd.type==a.size&&f fd.type a&&Zoz P f fs (off+a.size) b
   | _=>false
def fits (P:Program):Nat→TypeId→Ds→Bool
 | 0,_,_=>false
 | n+1,t,d =>
  match P.underlying t with
  | some (.int .i64)=>match d with
   | .int=>true
   | _=>false
  | some .string=>match d with
   | .str=>true
   | _=>false
  | some .bool=>match d with
   | .bool=>true
   | _=>false
  | some (.slice e)=>match d with
   | .slice a=>P.cellsOf e==a.size&&fits P n e a
   | _=>false
  | some (.struct fs)=>P.cellsOf t==d.size&&Zoz P (fits P n) fs.toList 0 d
  | _=>false
section
variable {H : Type} {enc : TypeId × Value → H} {P : Program} {w : World} {base : Nat} {spare : Nat → Bool} {held : Bool}
theorem Zmx {w:World}{a:Addr}{v:Value}(h:w.cell? a=some v):a.spot=none:=by
 unfold World.cell? at h
 split at h
 ·split at h
  ·cases h
  ·rename_i hs;simpa using hs
 ·cases h
theorem ZtY {α β:Type}{Q:Nat→β→α→Prop} : ∀ (n:Nat),(∀ i,i<n → ∃ r y,Q i r y) → ∃ l:List α,l.length=n ∧ ∀ i (h:i<l.length),∃ r,Q i r l[i]
 | 0,_=>⟨[],rfl,fun i h=>absurd h (by simp)⟩
 | n+1,h=>by
  obtain⟨l,hl,hq⟩:=ZtY n (fun i hi=>h i om)
  obtain⟨r,y,hy⟩:=h n om
  refine⟨l++[y],by simp[hl],fun i hi=>?_⟩
  by_cases hin:i<l.length
  ·obtain⟨r',h'⟩:=hq i hin
   exact⟨r',by rw[List.getElem_append_left hin];exact h'⟩
  ·obtain rfl:i=n:=by simp at hi;omega
   exact⟨r,by rw[List.getElem_append_right om];simpa [hl] using hy⟩
theorem ZfO : ∀ (n:Nat) (t:TypeId) (d:Ds) (fuel:Nat) (cs:List Value) (x:DataW H×List MemPlace),fits P n t d=true→DataW.trod enc P w base spare held fuel t cs=some x → ∃ e:El d,Rd w w.heap.size d cs e
  | 0,t,d,fuel,cs,x,hf,h=>by simp[fits] at hf
  | n+1,t,d,fuel,cs,x,hf,h=>by
    unfold fits at hf
    split at hf
    · rename_i hu
      split at hf <;> try (cases hf;done)
      obtain⟨m,rfl,_,hw⟩:=DataW.trod_int hu h
      exact⟨m,rfl,by simpa [Lit.wf,IntKind.min,IntKind.max,IntKind.signed,IntKind.bits] using hw⟩
    · rename_i hu
      split at hf <;> try (cases hf;done)
      obtain⟨s,rfl,_,hw⟩:=DataW.trod_string hu h
      exact⟨s,rfl,hw⟩
    · rename_i hu
      split at hf <;> try (cases hf;done)
      obtain⟨b,rfl,_⟩:=DataW.trod_bool hu h
      exact⟨b,rfl⟩
    · rename_i e hu
      split at hf <;> try (cases hf;done)
      rename_i a
      simp only[Bool.and_eq_true,beq_iff_eq] at hf
      rcases open_slice hu h with ⟨rfl,_⟩ | ⟨ad,len,cap,m,k,D,Pl,rfl,hb,hl,hm,hmm,_,hi⟩
      · exact⟨([]:List (El a)),none,0,rfl,Nat.le_refl _,by unfold maxLen;omega,fun _=>rfl,fun h0=>absurd h0 (by simp)⟩
      · have hlm:len≤m:=by rw[hmm];split <;> omega
        have hex : ∀ i,i<len → ∃ (r:List Value) (y:El a),(∀ j v,r[j]?=some v→w.cell? ((ad.add (i*a.size)).add j)=some v)∧r.length=a.size∧Rd w w.heap.size a r y:=by
          intro i hil
          obtain⟨cs',hc,ht⟩:=hi i om
          rw[hf.1] at hc
          obtain⟨_,hcl,hat⟩:=World.cells?_some hc
          obtain⟨y,hy⟩:=ZfO n e a k cs' _ hf.2 ht
          exact⟨cs',y,fun j v hv=>by rw[hat j (by have:=(List.getElem?_eq_some_iff.1 hv).1;omega)];exact hv,hcl,hy⟩
        obtain⟨l,hll,hl2⟩:=ZtY len hex
        refine⟨l,some ad,cap,by rw[hll],by omega,hm,fun h=>(by cases h),fun h0=>?_⟩
        obtain⟨r0,hr0,hl0,_⟩:=hl2 0 h0
        have hp:=a.size_pos
        have hc0:=hr0 0 r0[0] (List.getElem?_eq_getElem om)
        have hsp:ad.spot=none:=by
          have:=Zmx hc0
          simpa [Addr.add] using this
        obtain⟨b,off,sp⟩:=ad
        simp only at hsp
        subst hsp
        refine⟨b,off,rfl,?_,fun k' hk'=>?_⟩
        · have:=block_lt_of_cell hc0
          simpa [Addr.add] using this
        · obtain⟨r,hr1,_,hr2⟩:=hl2 k' hk'
          exact⟨r,fun j v hv=>by have:=hr1 j v hv;simpa [Addr.add_lit] using this,hr2⟩
    · rename_i fs hu
      simp only[Bool.and_eq_true,beq_iff_eq] at hf
      obtain⟨xs,m,_,_,hcl,hxl,hat⟩:=DataW.trod_struct hu h
      have key : ∀ (l : List Field) (off i : Nat) (d : Ds) (cs' : List Value), Zoz P (fits P n) l off d = true → cs'.length = d.size → cs.drop off = cs' → (∀ (j : Nat) (f : Field), l[j]? = some f → fs.toList[i + j]? = some f) →
          ∃ e:El d,Rd w w.heap.size d cs' e:=by
        intro l
        induction l with
        | nil=>intro off i d cs' hg;simp[Zoz] at hg
        | cons f l ih =>
          intro off i d cs' hg hcl' hd hj
          have hfi:fs[i]?=some f:=by have:=hj 0 f rfl;simpa using this
          have hlt:i<xs.length:=by rw[hxl];exact (Array.getElem?_eq_some_iff.1 hfi).1
          have ht:=hat i f hfi
          rw[List.getElem?_eq_getElem hlt] at ht
          cases l with
          | nil =>
            simp only[Zoz,Bool.and_eq_true,beq_iff_eq] at hg
            rw[hg.1.1,hg.1.2,hd,List.take_of_length_le om] at ht
            exact ZfO n f.type d m cs' _ hg.2 ht
          | cons g l =>
            cases d with
            | pair a b =>
              simp only[Zoz,Bool.and_eq_true,beq_iff_eq] at hg
              obtain⟨⟨⟨g1,g2⟩,g3⟩,g4⟩:=hg
              rw[g1,g2,hd] at ht
              obtain⟨e1,he1⟩:=ZfO n f.type a m _ _ g3 ht
              obtain⟨e2,he2⟩:=ih (off+a.size) (i+1) b (cs'.drop a.size) g4 (by rw[List.length_drop,hcl'];simp[Ds.size]) (by rw[←hd,List.drop_drop]) (fun j f' hf'=>by have:=hj (j+1) f' (by simpa using hf');rw[←this];congr 1;omega)
              exact⟨(e1,e2),cs'.take a.size,cs'.drop a.size,(List.take_append_drop _ _).symm,he1,he2⟩
            | _=>simp[Zoz] at hg
      exact key fs.toList 0 0 _ cs hf.2 (by rw[hcl,hf.1]) (by simp) (fun j f' hf'=>by simpa using hf')
    · cases hf
theorem rd_arg {d:Ds}{t:TypeId}{v:Value}{x:DataW H}{p:List MemPlace}(hf:fits P 20 t d=true) (h:DataW.Trod enc P w base spare held t v x p) : ∃ e:El d,Rd w w.heap.size d v.cells.toList e:=by
 obtain⟨fuel,hf'⟩:=h
 exact ZfO 20 t d fuel _ _ hf hf'
end
def avs:(d:Ds)→El d→List AV
 | .int,n=>[iv n]
 | .str,s=>[sv s]
 | .bool,b=>[bv b]
 | .pair a b,p=>avs a p.1++avs b p.2
 | .slice a,l=>[.sl (List.length l) a.size false (rows (avs a) l)]
theorem ZlY : ∀ (d:Ds) (x:El d),(avs d x).length=d.size
 | .int,_=>rfl
 | .str,_=>rfl
 | .bool,_=>rfl
 | .pair a b,p=>by simp only[avs,List.length_append,ZlY a,ZlY b,Ds.size]
 | .slice a,l=>rfl
def okD:(d:Ds)→El d→Prop
 | .int,n => -9223372036854775808≤n∧n≤9223372036854775807
 | .str,s=>ByteArray.size s≤maxLen
 | .bool,_=>True
 | .pair a b,p=>okD a p.1∧okD b p.2
 | .slice a,l => ∀ (k:Nat) (h:k<List.length l),okD a (l[k])
theorem Rd.ok {w:World}{B:Nat} : ∀ {d:Ds}{cs:List Value}{x:El d},Rd w B d cs x→okD d x
 | .int,cs,x,h=>h.2
 | .str,cs,x,h=>h.2
 | .bool,cs,x,h=>trivial
 | .pair a b,cs,x,⟨c1,c2,e,h1,h2⟩=>⟨Rd.ok h1,Rd.ok h2⟩
 | .slice a,cs,x,⟨A,c,e,hl,hm,h0,h⟩=>fun k hk=>by
  obtain⟨b,off,_,_,hi⟩:=h om
  obtain⟨r,_,hr⟩:=hi k hk
  exact Rd.ok hr
theorem RepC.append {w:World}{g:Gh} : ∀ {cs ds:List AV}{b off:Nat},RepC w g cs b off→RepC w g ds b (off+cs.length)→RepC w g (cs++ds) b off
 | [],ds,b,off,_,h=>by simpa using h
 | c::cs,ds,b,off,h,k=>by
  simp only[RepC,List.cons_append] at h ⊢
  refine⟨h.1,RepC.append h.2 ?_⟩
  rw[show off+1+cs.length=off+(c::cs).length by simp;omega]
  exact k
theorem RepC.of_list {w:World}{g:Gh}{b:Nat} : ∀ {cs:List AV}{us:List Value}{off:Nat},RepL w g cs us→(∀ j v,us[j]?=some v→w.cell? ⟨b,off+j,none⟩=some v)→RepC w g cs b off
 | [],us,off,_,_=>by simp only[RepC]
 | c::cs,us,off,h,k=>by
  simp only[RepL] at h
  obtain⟨u,us',rfl,h1,h2⟩:=h
  simp only[RepC]
  refine⟨⟨u,k 0 u rfl,h1⟩,RepC.of_list h2 fun j v hv=>?_⟩
  have:=k (j+1) v (by simpa using hv)
  rw[show off+1+j=off+(j+1) by omega]
  exact this
theorem ZmJ {w:World}{B:Nat}{g:Gh}(hg : ∀ k,k<B→g.D k) : ∀ (d:Ds) (cs:List Value) (x:El d),Rd w B d cs x→RepL w g (avs d x) cs
 | .int,cs,x,h=>by rw[h.1];simp only[avs,RepL];exact⟨_,[],rfl,by simp only[Rep],rfl⟩
 | .str,cs,x,h=>by rw[h.1];simp only[avs,RepL];exact⟨_,[],rfl,by simp only[Rep],rfl⟩
 | .bool,cs,x,h=>by rw[show cs=_ from h];simp only[avs,RepL];exact⟨_,[],rfl,by simp only[Rep],rfl⟩
 | .pair a b,cs,x,⟨c1,c2,e,h1,h2⟩=>by rw[e];simp only[avs];exact (ZmJ hg a c1 x.1 h1).append (ZmJ hg b c2 x.2 h2)
 | .slice a,cs,l,⟨A,c,e,hl,hm,h0,h⟩=>by
  rw[e]
  simp only[avs,RepL]
  refine⟨_,[],rfl,?_,rfl⟩
  simp only[Rep]
  refine⟨Zbh (ZlY a) l,A,c,rfl,hl,hm,fun h=>(by cases h),h0,fun hne=>?_⟩
  have hpos:0<List.length l:=by
   rcases Nat.eq_zero_or_pos (List.length l) with h' | h'
   ·have:l=[]:=List.eq_nil_of_length_eq_zero h'
    subst this;exact absurd rfl hne
   ·exact h'
  obtain⟨b,off,eA,hb,hi⟩:=h hpos
  refine⟨b,off,eA,hg b hb,?_⟩
  have key : ∀ (m:List (El a)) (o:Nat),(∀ k (hk:k<m.length),∃ r,(∀ j v,r[j]?=some v→w.cell? ⟨b,o+k*a.size+j,none⟩=some v)∧RepL w g (avs a m[k]) r)→RepC w g (rows (avs a) m) b o:=by
   intro m
   induction m with
   | nil=>intro o _;simp only[rows,List.flatMap_nil,RepC]
   | cons x m ih =>
    intro o hm'
    simp only[rows,List.flatMap_cons]
    obtain⟨r,hr1,hr2⟩:=hm' 0 (by simp)
    refine RepC.append (RepC.of_list hr2 fun j v hv=>by have:=hr1 j v hv;simpa using this) ?_
    rw[ZlY]
    refine ih (o+a.size) fun k hk=>?_
    obtain⟨r,hr1,hr2⟩:=hm' (k+1) (by simpa using hk)
    refine⟨r,fun j v hv=>?_,by simpa using hr2⟩
    have:=hr1 j v hv
    rw[show o+a.size+k*a.size+j=o+(k+1)*a.size+j by rw[Nat.add_mul];omega]
    exact this
  exact key l off fun k hk=>by
   obtain⟨r,hr1,hr2⟩:=hi k hk
   exact⟨r,hr1,ZmJ hg a r _ hr2⟩
def g0 (w:World):Gh:=⟨fun k=>k<w.heap.size,fun _ _=>none,[]⟩
theorem sim0 (w:World) (hG:GlobW w):SimH w (g0 w) [] :=
 ⟨fun id ver ty s c h=>(by simp at h),fun i j k hi _=>by obtain⟨_,_,_,_,_,_,h,_⟩:=hi;simp at h,fun k hk=>hk,fun id ver l h=>(by simp[g0] at h),fun id ver l h=>(by simp[g0] at h),⟨hG,hG.lt⟩,fun i k o T vs h=>(by simp at h),fun i j k hi _=>by obtain⟨_,_,_,h⟩:=hi;simp at h⟩
theorem Zt2 {P:Program}{f:FuncId}{args:List AV}(hc:ACalls P f args [] fun x h'=>h'=[]∧x=.ret (bv true)) {w:World}(hG:GlobW w) {vs:Array Value}(hr:RepL w (g0 w) args vs.toList) :
  Calls P f vs w fun e w'=>e=.returned (.bool true)∧Below w.heap.size w w':=by
 refine (hc.2 w (g0 w) vs (sim0 w hG) hr).mono ?_
 rintro e w' ⟨x,h',g',h1,h2,h3,h4,h5,rfl,rfl⟩
 cases e <;> simp only[EndR] at h1
 simp only[Rep] at h1
 refine⟨by rw[h1],h4.os,h4.tape,h4.output,h4.size,fun k hk=>h4.block k hk ?_⟩
 rintro (⟨i,_,_,_,_,_,_,h,_⟩ | ⟨i,_,_,_,h⟩) <;> simp at h
section
variable {H : Type} {enc : TypeId × Value → H} {P : Program} {w : World} {base : Nat} {spare : Nat → Bool} {held : Bool}
theorem Zro (d:Ds) {t:TypeId}{v:Value}{x:DataW H}{p:List MemPlace}{fs:Array Field}{r:Reach}{b:Nat}(ht:P.underlying t=some (.struct fs)) (hf:fits P 20 t d=true) (hv:Value.okWide P w r b t v) (h:DataW.Trod enc P w base spare held t v x p) :
  ∃ e:El d,okD d e∧Rep w (g0 w) (.agg (avs d e)) v:=by
 obtain⟨e,he⟩:=rd_arg hf h
 obtain⟨cs,rfl,_⟩:=okWide_struct ht hv
 refine⟨e,he.ok,?_⟩
 simp only[Rep]
 exact⟨cs,rfl,ZmJ (fun k hk=>hk) d _ e he⟩
theorem arg_cell (d:Ds) {t:TypeId}{v:Value}{x:DataW H}{p:List MemPlace}(hf:fits P 20 t d=true) (hv:v.cells = #[v]) (h:DataW.Trod enc P w base spare held t v x p) :
  ∃ e:El d,okD d e∧RepL w (g0 w) (avs d e) [v]:=by
 obtain⟨e,he⟩:=rd_arg hf h
 refine⟨e,he.ok,?_⟩
 have:=ZmJ (g:=g0 w) (fun k hk=>hk) d _ e he
 rwa [hv] at this
theorem arg_str {t:TypeId}{v:Value}{x:DataW H}{p:List MemPlace}{r:Reach}{b:Nat}(ht:P.underlying t=some .string) (hv:Value.okWide P w r b t v) (h:DataW.Trod enc P w base spare held t v x p) :
  ∃ e:ByteArray,e.size≤maxLen∧Rep w (g0 w) (sv e) v:=by
 obtain⟨n,rfl⟩:=okWide_string ht hv
 obtain⟨e,he,hr⟩:=arg_cell .str (by simp[fits,ht]) rfl h
 simp only[avs,RepL] at hr
 obtain⟨u,us,h1,h2,rfl⟩:=hr
 cases h1
 exact⟨e,he,h2⟩
end
theorem repL1 {w:World}{g:Gh}{c:AV}{v:Value}{cs:List AV}{vs:List Value}(h:Rep w g c v) (hs:RepL w g cs vs):RepL w g (c::cs) (v::vs):=by simp only[RepL];exact⟨v,vs,rfl,h,hs⟩
theorem repL0 {w:World}{g:Gh}:RepL w g [] []:=by simp only[RepL]
end Go.Proofs.YtlekejpogddndaaGreatDoor
end
section
namespace Go.Proofs.YtlekejpogddndaaGreatDoor
open Go.Ab
abbrev TS:=List ByteArray×Bool
abbrev bad (t:TS):TS:=(t.1,true)
def ZaY (t:TS):ByteArray×TS:=if t.2=true∨t.1=[] then (⟨#[]⟩,bad t) else (t.1.headD ⟨#[]⟩,t.1.tail,false)
def decL:Int→Bs→Int
 | n,[]=>n
 | n,c::l=>decL (10*n+c.toNat-48) l
def numV (s:ByteArray) (a b:Int):Option Int:=if wi s.size a b=true∧allB digB s=true then some (decL 0 (aB s)) else none
def tNum (s:ByteArray) (a b:Int) (t:TS):Int×TS:=match numV s a b with
 | some n=>(n,t)
 | none=>(0,bad t)
def Zfo (t:TS):ByteArray×TS:=((ZaY t).1,if ZcI (ZaY t).1=true then (ZaY t).2 else bad (ZaY t).2)
def idxL:List ByteArray→ByteArray→Int→Option Int
 | [],_,_=>none
 | x::l,s,d=>if s=x then some d else idxL l s (d+1)
def monL:List ByteArray:=[bA [74,97,110],bA [70,101,98],bA [77,97,114],bA [65,112,114],bA [77,97,121],bA [74,117,110],bA [74,117,108],bA [65,117,103],bA [83,101,112],bA [79,99,116],bA [78,111,118],bA [68,101,99]]
def dayL:List ByteArray:=[bA [83,117,110],bA [77,111,110],bA [84,117,101],bA [87,101,100],bA [84,104,117],bA [70,114,105],bA [83,97,116]]
def ZdZ (t:TS):Int×TS:=match idxL monL (ZaY t).1 1 with
 | some n=>(n,(ZaY t).2)
 | none=>(0,bad (ZaY t).2)
def Zet (s:ByteArray) (t:TS):Int×TS:=match idxL dayL s 0 with
 | some n=>(n,t)
 | none=>(0,bad t)
def Zc3 (s:ByteArray) (k:Nat):Int:=(ZaM s k).toNat
def Zeo (s:ByteArray):Nat:=if 4≤s.size∧s.extract 0 4=bA [108,97,115,116] then 2 else if 5<s.size∧Zc3 s 4=61∧Zc3 s 3=62 then 3 else if 5<s.size∧Zc3 s 4=61∧Zc3 s 3=60 then 4 else 1
def Zb8 (s:ByteArray) (t:TS):Frm×TS :=
 if Zeo s=2 then ((2,(Zet (s.extract 4 s.size) t).1,0),(Zet (s.extract 4 s.size) t).2)
 else if Zeo s=1 then ((1,0,(tNum s 1 2 t).1),(tNum s 1 2 t).2)
 else ((Zeo s,(Zet (s.extract 0 3) t).1,(tNum (s.extract 5 s.size) 1 2 (Zet (s.extract 0 3) t).2).1),(tNum (s.extract 5 s.size) 1 2 (Zet (s.extract 0 3) t).2).2)
def Zhy (t:TS):Frm×TS:=Zb8 (ZaY t).1 (ZaY t).2
def tSix (s:ByteArray) (t:TS):Int×TS:=((tNum s 2 2 t).1,if (tNum s 2 2 t).1>59 then bad (tNum s 2 2 t).2 else (tNum s 2 2 t).2)
def Zfn (l:List Bs) (t:TS):Int×TS:=match l with
 | [a,b]=>(3600*(tNum (bA a) 1 2 t).1+60*(tSix (bA b) (tNum (bA a) 1 2 t).2).1,(tSix (bA b) (tNum (bA a) 1 2 t).2).2)
 | [a,b,c]=>(3600*(tNum (bA a) 1 2 t).1+60*(tSix (bA b) (tNum (bA a) 1 2 t).2).1+(tSix (bA c) (tSix (bA b) (tNum (bA a) 1 2 t).2).2).1,(tSix (bA c) (tSix (bA b) (tNum (bA a) 1 2 t).2).2).2)
 | _=>(0,bad t)
def ZbS (s:ByteArray) (t:TS):Int×TS:=if s=bA [48] then (0,t) else Zfn (cutC 58 (aB s)) t
def wsuA:ByteArray:=bA [63,119,115,117]
def ZdM (c d:Int):Nat→Int
 | 0=>d
 | k+1=>if c=Zc3 wsuA (k+1) then ((k+1:Nat):Int) else ZdM c d k
def Zc2 (s:ByteArray):Int:=Zc3 s (s.size-1)
def Zem (d:Int) (s:ByteArray) (t:TS):(Int×Int)×TS :=
 if s.size=0 then (((ZbS s t).1,d),(ZbS s t).2)
 else if digB (Zc2 s)=true then (((ZbS s t).1,ZdM (Zc2 s) d 3),(ZbS s t).2)
 else let u:TS:=if Zc2 s=Zc3 wsuA (ZdM (Zc2 s) d 3).toNat then t else bad t
  (((ZbS (s.extract 0 (s.size-1)) u).1,ZdM (Zc2 s) d 3),(ZbS (s.extract 0 (s.size-1)) u).2)
def Zdq (d:Int) (t:TS):(Int×Int)×TS:=Zem d (ZaY t).1 (ZaY t).2
def ZtA:ByteArray:=bA [111,110,108,121]
def maxA:ByteArray:=bA [109,97,120]
def tTo (f:Int) (s:ByteArray) (t:TS):Int×TS:=if s=ZtA then (f,t) else if s=maxA then (2100,t) else tNum s 4 4 t
def Zfw (s:ByteArray):Bool:=decide (s≠⟨#[]⟩)&&(decide (s=bA [45])||ZcD s)
def Zcf {α β:Type}(f:TS→α×TS) (k:α→TS→β×TS) (t:TS):β×TS:=k (f t).1 (f t).2
def ret2 {α:Type}(a:α) (t:TS):α×TS:=(a,t)
def ZsO (t:TS):Int×TS:=tNum (ZaY t).1 4 4 (ZaY t).2
def tToN (f:Int) (t:TS):Int×TS:=tTo f (ZaY t).1 (ZaY t).2
def ZsQ (t:TS):Int×TS:=ZbS (ZaY t).1 (ZaY t).2
def ZdB (t:TS):ByteArray×TS:=(if (ZaY t).1=bA [45] then ⟨#[]⟩ else (ZaY t).1,if Zfw (ZaY t).1=true then (ZaY t).2 else bad (ZaY t).2)
def Zlq:TS→Rul×TS :=
 Zcf Zfo fun nm=>Zcf ZsO fun f=>Zcf (tToN f) fun t2=>Zcf ZdZ fun m=>Zcf Zhy fun k=>Zcf (Zdq 1) fun c=>Zcf ZsQ fun sv=>Zcf ZdB fun l=>ret2 (nm,f,t2,m,k,c.1,c.2,sv,l)
def Zia (s:ByteArray):Int:=Zc3 s 0
def ZgK (t:TS):Int×TS:=if (ZaY t).1.size≠0∧Zia (ZaY t).1=45 then (-(ZbS ((ZaY t).1.extract 1 (ZaY t).1.size) (ZaY t).2).1,(ZbS ((ZaY t).1.extract 1 (ZaY t).1.size) (ZaY t).2).2) else ZbS (ZaY t).1 (ZaY t).2
def Zel (s:ByteArray) (t:TS):(Int×ByteArray)×TS :=
 if s=bA [45] then ((0,⟨#[]⟩),t)
 else if s.size≠0∧digB (Zia s)=true then (((ZbS s (if s=bA [48] then bad t else t)).1,⟨#[]⟩),(ZbS s (if s=bA [48] then bad t else t)).2)
 else ((0,s),if ZcI s=true then t else bad t)
def ZsR (t:TS):(Int×ByteArray)×TS:=Zel (ZaY t).1 (ZaY t).2
def ZiI (t:TS):ByteArray×TS:=((ZaY t).1,if Zbx (ZaY t).1=true then (ZaY t).2 else bad (ZaY t).2)
def tDay (t:TS):Int×TS:=tNum (ZaY t).1 1 2 (ZaY t).2
def ZsP (c:Int×Int) (t:TS):Unit×TS:=((),if c.2=1 then bad t else t)
def ZhT:TS→Unt×TS :=
 Zcf ZsO fun y=>Zcf ZdZ fun m=>Zcf tDay fun d=>Zcf (Zdq 2) fun c=>Zcf (ZsP c) fun _=>ret2 ((y,m,d),c.1,c.2)
def untZ:Unt:=((0,0,0),0,0)
def tEnd (t:TS):(Bool×Unt)×TS:=if t.1=[] then ((true,untZ),t) else ((false,(ZhT t).1),(ZhT t).2)
def tEra:TS→Era×TS :=
 Zcf ZgK fun sh=>Zcf ZsR fun r=>Zcf ZiI fun f=>Zcf tEnd fun u=>ret2 (sh,r.2,r.1,f,u.1,u.2)
def ZeQ:List ByteArray→Option (ByteArray×List ByteArray)
 | []=>none
 | x::l=>some (x,l)
abbrev RM (α:Type):=List ByteArray→Option (α×List ByteArray)
def Zb6 {α β:Type}(f:RM α) (k:α→RM β):RM β:=fun l=>match f l with
 | none=>none
 | some p=>k p.1 p.2
def retR {α:Type}(a:α):RM α:=fun l=>some (a,l)
def ZcR {α:Type}(o:Option α):RM α:=fun l=>match o with
 | none=>none
 | some a=>some (a,l)
def Ztq:RM ByteArray:=Zb6 ZeQ fun s=>ZcR (if ZcI s=true then some s else none)
def Ztr:RM Int:=Zb6 ZeQ fun s=>ZcR (idxL monL s 1)
def sixV (s:ByteArray):Option Int:=match numV s 2 2 with
 | some n=>if n>59 then none else some n
 | none=>none
def Zgj (s:ByteArray):Option Int:=if s=bA [48] then some 0 else match cutC 58 (aB s) with
 | [a,b]=>match numV (bA a) 1 2,sixV (bA b) with
  | some x,some y=>some (3600*x+60*y)
  | _,_=>none
 | [a,b,c]=>match numV (bA a) 1 2,sixV (bA b),sixV (bA c) with
  | some x,some y,some z=>some (3600*x+60*y+z)
  | _,_,_=>none
 | _=>none
def formV (s:ByteArray):Option Frm :=
 if Zeo s=2 then (match idxL dayL (s.extract 4 s.size) 0 with
  | some w=>some (2,w,0)
  | none=>none)
 else if Zeo s=1 then (match numV s 1 2 with
  | some n=>some (1,0,n)
  | none=>none)
 else match idxL dayL (s.extract 0 3) 0,numV (s.extract 5 s.size) 1 2 with
  | some w,some n=>some ((Zeo s:Int),w,n)
  | _,_=>none
def wsuK (c:Int):Option Int:=if c=119 then some 1 else if c=115 then some 2 else if c=117 then some 3 else none
def Zqo (d:Int) (s:ByteArray):Option (Int×Int):=match (if s.size=0 then none else wsuK (Zc2 s)) with
 | some k=>(match Zgj (s.extract 0 (s.size-1)) with
  | some n=>some (n,k)
  | none=>none)
 | none=>(match Zgj s with
  | some n=>some (n,d)
  | none=>none)
def toV (f:Int) (s:ByteArray):Option Int:=if s=ZtA then some f else if s=maxA then some 2100 else numV s 4 4
def Zoo (s:ByteArray):Option ByteArray:=if Zfw s=true then some (if s=bA [45] then ⟨#[]⟩ else s) else none
def rRule:RM Rul :=
 Zb6 Ztq fun nm=>Zb6 (Zb6 ZeQ fun s=>ZcR (numV s 4 4)) fun f=>Zb6 (Zb6 ZeQ fun s=>ZcR (toV f s)) fun t2=>Zb6 Ztr fun m=>Zb6 (Zb6 ZeQ fun s=>ZcR (formV s)) fun k =>
  Zb6 (Zb6 ZeQ fun s=>ZcR (Zqo 1 s)) fun c=>Zb6 (Zb6 ZeQ fun s=>ZcR (Zgj s)) fun sv=>Zb6 (Zb6 ZeQ fun s=>ZcR (Zoo s)) fun l=>retR (nm,f,t2,m,k,c.1,c.2,sv,l)
def Zs7 (s:ByteArray):Option Int:=if s.size≠0∧Zia s=45 then (match Zgj (s.extract 1 s.size) with
  | some n=>some (-n)
  | none=>none) else Zgj s
def Ztb (s:ByteArray):Option (Int×ByteArray) :=
 if s=bA [45] then some (0,⟨#[]⟩)
 else if s.size≠0∧digB (Zia s)=true∧s≠bA [48] then (match Zgj s with
  | some n=>some (n,⟨#[]⟩)
  | none=>none)
 else if ZcI s=true then some (0,s) else none
def Ztp:RM Unt :=
 Zb6 (Zb6 ZeQ fun s=>ZcR (numV s 4 4)) fun y=>Zb6 Ztr fun m=>Zb6 (Zb6 ZeQ fun s=>ZcR (numV s 1 2)) fun d=>Zb6 (Zb6 ZeQ fun s=>ZcR (Zqo 2 s)) fun c=>Zb6 (ZcR (if c.2=1 then none else some ())) fun _=>retR ((y,m,d),c.1,c.2)
def rEnd:RM (Bool×Unt):=fun l=>if l=[] then some ((true,untZ),l) else match Ztp l with
 | some p=>some ((false,p.1),p.2)
 | none=>none
def rEra:RM Era :=
 Zb6 (Zb6 ZeQ fun s=>ZcR (Zs7 s)) fun sh=>Zb6 (Zb6 ZeQ fun s=>ZcR (Ztb s)) fun r=>Zb6 (Zb6 ZeQ fun s=>ZcR (if Zbx s=true then some s else none)) fun f=>Zb6 rEnd fun u=>retR (sh,r.2,r.1,f,u.1,u.2)
def Agr {α:Type}(f:TS→α×TS) (g:RM α):Prop := ∀ l,(f (l,true)).2.2=true∧match g l with
 | none=>(f (l,false)).2.2=true
 | some p=>f (l,false)=(p.1,p.2,false)
theorem Agr.bind {α β:Type}{f:TS→α×TS}{g:RM α}{k:α→TS→β×TS}{m:α→RM β}(h:Agr f g) (hk : ∀ a,Agr (k a) (m a)):Agr (Zcf f k) (Zb6 g m):=by
 have stay : ∀ (a:α) (t:TS),t.2=true→(k a t).2.2=true:=by
  rintro a ⟨l,b⟩ rfl;exact (hk a l).1
 intro l
 refine⟨stay _ _ (h l).1,?_⟩
 have h2:=(h l).2
 unfold Zb6 Zcf
 revert h2
 cases hg:g l with
 | none=>exact fun h2=>stay _ _ h2
 | some p=>intro h2;simp only at h2;rw[h2];exact (hk p.1 p.2).2
theorem Agr.ret {α:Type}(a:α):Agr (ret2 a) (retR a):=fun l=>⟨rfl,rfl⟩
theorem agr_next:Agr ZaY ZeQ:=by
 intro l
 cases l with
 | nil=>exact⟨rfl,rfl⟩
 | cons x l=>exact⟨rfl,rfl⟩
def AgO {α:Type}(o:Option α) (x:α×TS) (l:List ByteArray):Prop:=match o with
 | none=>x.2.2=true
 | some a=>x=(a,l,false)
theorem Agr.lift {α:Type}{f:TS→α×TS}{o:Option α}(hb : ∀ t:TS,t.2=true→(f t).2.2=true) (hf : ∀ l,AgO o (f (l,false)) l):Agr f (ZcR o):=by
 intro l
 refine⟨hb _ rfl,?_⟩
 have:=hf l
 unfold ZcR
 cases o <;> exact this
theorem Zl1 (s:ByteArray) (a b:Int):Agr (tNum s a b) (ZcR (numV s a b)):=by
 refine Agr.lift (fun t h=>?_) (fun l=>?_)
 ·unfold tNum;split <;> simp_all
 ·unfold tNum;cases numV s a b <;> rfl
theorem Zeu {s:ByteArray}{a b:Int}{t:TS}(h:t.2=true):(tNum s a b t).2.2=true:=by unfold tNum;split <;> simp_all
theorem Zj6 {s:ByteArray}{t:TS}(h:t.2=true):(Zet s t).2.2=true:=by unfold Zet;split <;> simp_all
theorem ZdW {s:ByteArray}{t:TS}(h:t.2=true):(tSix s t).2.2=true:=by unfold tSix;have:=Zeu (s:=s) (a:=2) (b:=2) h;split <;> simp_all
theorem ZcB {s:ByteArray}{t:TS}(h:t.2=true):(ZbS s t).2.2=true:=by
 unfold ZbS
 split
 ·exact h
 ·unfold Zfn
  split
  ·exact ZdW (Zeu h)
  ·exact ZdW (ZdW (Zeu h))
  ·rfl
theorem ZdX {s:ByteArray}{a b n:Int}{t:TS}(h:numV s a b=some n):tNum s a b t=(n,t):=by unfold tNum;rw[h]
theorem ZdY {s:ByteArray}{a b:Int}{t:TS}(h:numV s a b=none):tNum s a b t=(0,bad t):=by unfold tNum;rw[h]
theorem ZiF {s:ByteArray}{n:Int}{t:TS}(h:sixV s=some n):tSix s t=(n,t):=by
 unfold sixV at h
 split at h
 ·rename_i m hm
  unfold tSix
  rw[ZdX hm]
  split at h
  ·cases h
  ·rename_i hle;cases h;simp[hle]
 ·cases h
theorem ZiG {s:ByteArray}{t:TS}(h:sixV s=none):(tSix s t).2.2=true:=by
 unfold sixV at h
 split at h
 ·rename_i m hm
  unfold tSix
  rw[ZdX hm]
  split at h
  ·rename_i hle;simp[hle]
  ·cases h
 ·rename_i hm;unfold tSix;rw[ZdY hm];simp
theorem ZfW (s:ByteArray):Agr (ZbS s) (ZcR (Zgj s)):=by
 refine Agr.lift (fun t h=>ZcB h) (fun l=>?_)
 unfold ZbS Zgj
 by_cases h0:s=bA [48]
 ·simp only[if_pos h0];rfl
 ·simp only[if_neg h0]
  obtain⟨y,hy⟩ : ∃ y,y=cutC 58 (aB s):=⟨_,rfl⟩
  simp only[←hy]
  clear hy
  match y with
  | []=>rfl
  | [_]=>rfl
  | _::_::_::_::_=>rfl
  | [a,b] =>
   simp only[Zfn]
   cases h1:numV (bA a) 1 2 with
   | none=>rw[ZdY h1];exact ZdW rfl
   | some x =>
    rw[ZdX h1]
    cases h2:sixV (bA b) with
    | none=>exact ZiG h2
    | some y=>simp only;rw[ZiF h2];rfl
  | [a,b,c] =>
   simp only[Zfn]
   cases h1:numV (bA a) 1 2 with
   | none=>rw[ZdY h1];exact ZdW (ZdW rfl)
   | some x =>
    rw[ZdX h1]
    cases h2:sixV (bA b) with
    | none=>exact ZdW (ZiG h2)
    | some y =>
     simp only;rw[ZiF h2]
     cases h3:sixV (bA c) with
     | none=>exact ZiG h3
     | some z=>simp only;rw[ZiF h3];rfl
theorem agr_form (s:ByteArray):Agr (Zb8 s) (ZcR (formV s)):=by
 refine Agr.lift (fun t h=>?_) (fun l=>?_)
 ·unfold Zb8
  split
  ·exact Zj6 h
  ·split
   ·exact Zeu h
   ·exact Zeu (Zj6 h)
 ·unfold Zb8 formV
  by_cases hk2:Zeo s=2
  ·simp only[if_pos hk2]
   unfold Zet
   cases h1:idxL dayL (s.extract 4 s.size) 0 <;> rfl
  ·simp only[if_neg hk2]
   by_cases hk1:Zeo s=1
   ·simp only[if_pos hk1]
    cases h1:numV s 1 2 with
    | none=>rw[ZdY h1];rfl
    | some n=>rw[ZdX h1];rfl
   ·simp only[if_neg hk1]
    cases h1:idxL dayL (s.extract 0 3) 0 with
    | none=>refine Zeu ?_;unfold Zet;rw[h1]
    | some w =>
     unfold Zet;rw[h1]
     cases h2:numV (s.extract 5 s.size) 1 2 with
     | none=>rw[ZdY h2];rfl
     | some n=>rw[ZdX h2];rfl
theorem kindU3 (c d:Int):ZdM c d 3=(wsuK c).getD d:=by
 unfold ZdM ZdM ZdM ZdM wsuK
 rw[show Zc3 wsuA (2+1)=117 by decide,show Zc3 wsuA (1+1)=115 by decide,show Zc3 wsuA (0+1)=119 by decide]
 split
 ·subst c;rfl
 ·split
  ·subst c;rfl
  ·split
   ·subst c;rfl
   ·rfl
theorem wsuK_dig {c k:Int}(h:wsuK c=some k):digB c=false∧1≤k∧k≤3∧c=Zc3 wsuA k.toNat:=by
 unfold wsuK at h
 split at h
 ·subst c;cases h;decide
 ·split at h
  ·subst c;cases h;decide
  ·split at h
   ·subst c;cases h;decide
   ·cases h
theorem wsu_lit (k:Int) (h:1≤k∧k≤3):wsuK (Zc3 wsuA k.toNat)=some k:=by
 obtain⟨h1,h2⟩:=h
 have:k=1∨k=2∨k=3:=by omega
 rcases this with rfl | rfl | rfl <;> decide
theorem ZkD {x:UInt8} : ∀ {l z:Bs},cutC x l=[z]→l=z
 | [],z,h=>by simp[cutC] at h;exact h.symm
 | c::l,z,h=>by
  unfold cutC at h
  split at h
  ·simp only[List.cons.injEq] at h;exact absurd h.2 (ZlS x l)
  ·split at h
   ·rename_i he;exact absurd he (ZlS x l)
   ·rename_i y ys he
    simp only[List.cons.injEq] at h
    obtain⟨rfl,rfl⟩:=h
    rw[ZkD he]
theorem Ziu (x:UInt8) : ∀ {l:Bs}{ys:List Bs}{y:Bs},cutC x l=ys++[y] → ∃ p,l=p++y
 | [],ys,y,h=>by
  cases ys with
  | nil=>simp[cutC] at h;exact⟨[],by simp[h]⟩
  | cons a ys=>simp[cutC] at h
 | c::l,ys,y,h=>by
  unfold cutC at h
  split at h
  ·cases ys with
   | nil=>simp at h;exact absurd h.2 (ZlS x l)
   | cons a ys =>
    simp only[List.cons_append,List.cons.injEq] at h
    obtain⟨p,hp⟩:=Ziu x h.2
    exact⟨c::p,by rw[hp];rfl⟩
  ·split at h
   ·rename_i he;exact absurd he (ZlS x l)
   ·rename_i z zs he
    cases ys with
    | nil =>
     simp only[List.nil_append,List.cons.injEq] at h
     obtain⟨rfl,rfl⟩:=h
     obtain⟨p,hp⟩:=Ziu x (ys:=[]) (y:=z) (by rw[he];rfl)
     have h0:=ZkD he
     exact⟨[],by rw[←h0];rfl⟩
    | cons a ys =>
     simp only[List.cons_append,List.cons.injEq] at h
     obtain⟨p,hp⟩:=Ziu x (l:=l) (ys:=z::ys) (y:=y) (by rw[he,h.2];rfl)
     exact⟨c::p,by rw[hp];rfl⟩
theorem Zng : ∀ {y:Bs}(hy:y≠[]),y.drop (y.length-1)=[y.getLast hy]
 | [c],_=>rfl
 | c::d::l,_=>by have:=Zng (y:=d::l) (by simp);simpa using this
theorem Zt3 {s:ByteArray}{p y:Bs}(h:aB s=p++y) (hy:y≠[]) : ∃ c∈y,Zc2 s=(c.toNat:Int):=by
 refine⟨y.getLast hy,List.getLast_mem hy,?_⟩
 have hl:s.size=p.length+y.length:=by rw[←ZeD,h,List.length_append]
 have hp:0<y.length:=List.length_pos_iff.2 hy
 have h0:s.size-1<s.size:=by omega
 have e1:(aB s).drop (s.size-1)=ZaM s (s.size-1)::(aB s).drop (s.size-1+1):=ZfG h0
 have e2:(aB s).drop (s.size-1)=[y.getLast hy]:=by
  rw[h,show s.size-1=p.length+(y.length-1) by omega,List.drop_append,List.drop_of_length_le om,List.nil_append,Nat.add_sub_cancel_left]
  exact Zng hy
 rw[e2] at e1
 simp only[List.cons.injEq] at e1
 unfold Zc2 Zc3
 rw[e1.1]
theorem ZmU {s:ByteArray}{a b n:Int}(h:numV s a b=some n):wi s.size a b=true∧allB digB s=true∧n=decL 0 (aB s):=by
 unfold numV at h
 split at h
 ·rename_i hc;cases h;exact⟨hc.1,hc.2,rfl⟩
 ·cases h
theorem Zs6 {s:ByteArray}{n:Int}(h:sixV s=some n):s.size=2∧allB digB s=true∧n=decL 0 (aB s)∧n≤59:=by
 unfold sixV at h
 split at h
 ·rename_i m hm
  obtain⟨h1,h2,h3⟩:=ZmU hm
  split at h
  ·cases h
  ·cases h
   unfold wi at h1
   simp at h1
   exact⟨by omega,h2,h3,by omega⟩
 ·cases h
theorem Zl0 {p:Int→Bool}{l:Bs}(h:allB p (bA l)=true) {c:UInt8}(hc:c∈l):p c.toNat=true:=by
 unfold allB at h
 rw[List.all_eq_true] at h
 exact h c (by simpa [bA] using hc)
theorem ZmB {s:ByteArray}{n:Int}(h:Zgj s=some n):s.size≠0∧digB (Zc2 s)=true:=by
 have key : ∀ {ys:List Bs} {y:Bs} {m:Int},cutC 58 (aB s)=ys++[y]→sixV (bA y)=some m→s.size≠0∧digB (Zc2 s)=true:=by
  intro ys y m h1 h2
  obtain⟨p,hp⟩:=Ziu 58 h1
  obtain⟨z1,z2,_⟩:=Zs6 h2
  rw[ZdG] at z1
  obtain⟨c,hc,e⟩:=Zt3 hp (by rintro rfl;simp at z1)
  refine⟨fun e0=>?_,by rw[e];exact Zl0 z2 hc⟩
  have:=congrArg List.length hp
  rw[ZeD,List.length_append] at this;omega
 unfold Zgj at h
 split at h
 ·rename_i e;subst e;decide
 ·split at h
  ·rename_i a b hc
   split at h
   ·rename_i x y h1 h2;exact key (ys:=[a]) hc h2
   ·cases h
  ·rename_i a b c hc
   split at h
   ·rename_i x y z h1 h2 h3;exact key (ys:=[a,b]) hc h3
   ·cases h
  ·cases h
theorem agr_at {α:Type}{f:TS→α×TS}{o:Option α}(h:Agr f (ZcR o)) (l:List ByteArray):AgO o (f (l,false)) l:=by
 have:=(h l).2
 unfold ZcR at this
 unfold AgO
 cases o <;> exact this
theorem Zno {d:Int}(hd:d=1∨d=2) (s:ByteArray):Agr (Zem d s) (ZcR (Zqo d s)):=by
 refine Agr.lift (fun t h=>?_) (fun l=>?_)
 ·unfold Zem
  split
  ·exact ZcB h
  ·split
   ·exact ZcB h
   ·refine ZcB ?_
    split
    ·exact h
    ·rfl
 ·have hS:=agr_at (ZfW s) l
  have hX:=agr_at (ZfW (s.extract 0 (s.size-1))) l
  unfold Zem Zqo
  by_cases h0:s.size=0
  ·rw[if_pos h0,if_pos h0]
   cases h1:Zgj s with
   | none=>rw[h1] at hS;exact hS
   | some n=>exact absurd h0 (ZmB h1).1
  ·rw[if_neg h0,if_neg h0,kindU3]
   cases hk:wsuK (Zc2 s) with
   | none =>
    simp only[Option.getD_none]
    cases h1:Zgj s with
    | none =>
     rw[h1] at hS
     by_cases hdg:digB (Zc2 s)=true
     ·rw[if_pos hdg];exact hS
     ·rw[if_neg hdg]
      by_cases e:Zc2 s=Zc3 wsuA d.toNat
      ·exfalso
       have:=wsu_lit d om
       rw[←e,hk] at this;cases this
      ·rw[if_neg e]
       exact ZcB (t:=bad (l,false)) rfl
    | some n =>
     rw[h1] at hS
     rw[if_pos (ZmB h1).2]
     have hS':ZbS s (l,false)=(n,l,false):=hS
     rw[hS'];rfl
   | some k =>
    obtain⟨w1,w2,w3,w4⟩:=wsuK_dig hk
    simp only[Option.getD_some]
    rw[if_neg (by rw[w1];exact Bool.false_ne_true),if_pos w4]
    cases h1:Zgj (s.extract 0 (s.size-1)) with
    | none=>rw[h1] at hX;exact hX
    | some n =>
     rw[h1] at hX
     have hX':ZbS (s.extract 0 (s.size-1)) (l,false)=(n,l,false):=hX
     rw[hX'];rfl
theorem agr_to (f:Int) (s:ByteArray):Agr (tTo f s) (ZcR (toV f s)):=by
 unfold tTo toV
 split
 ·exact Agr.lift (fun t h=>h) (fun l=>rfl)
 ·split
  ·exact Agr.lift (fun t h=>h) (fun l=>rfl)
  ·exact Zl1 s 4 4
theorem agr_name:Agr Zfo Ztq:=by
 refine (Agr.bind agr_next (k:=fun s t=>(s,if ZcI s=true then t else bad t)) fun s=>?_:Agr (Zcf ZaY _) _)
 refine Agr.lift (fun t h=>by dsimp only;split;exact h;rfl) (fun l=>?_)
 cases ZcI s <;> rfl
theorem agr_month:Agr ZdZ Ztr:=by
 refine (Agr.bind agr_next (k:=fun s t=>match idxL monL s 1 with
  | some n=>(n,t)
  | none=>(0,bad t)) fun s=>?_:Agr (Zcf ZaY _) _)
 refine Agr.lift (fun t h=>by split;exact h;rfl) (fun l=>?_)
 cases idxL monL s 1 <;> rfl
theorem agr_letter:Agr ZdB (Zb6 ZeQ fun s=>ZcR (Zoo s)):=by
 refine (Agr.bind agr_next (k:=fun s t=>(if s=bA [45] then ⟨#[]⟩ else s,if Zfw s=true then t else bad t)) fun s=>?_:Agr (Zcf ZaY _) _)
 refine Agr.lift (fun t h=>by dsimp only;generalize Zfw s=b;cases b;rfl;exact h) (fun l=>?_)
 unfold Zoo
 cases Zfw s <;> rfl
theorem agr_rule:Agr Zlq rRule:=by
 refine agr_name.bind fun nm=>?_
 refine (agr_next.bind fun s=>Zl1 s 4 4).bind fun f=>?_
 refine (agr_next.bind fun s=>agr_to f s).bind fun t2=>?_
 refine agr_month.bind fun m=>?_
 refine (agr_next.bind fun s=>agr_form s).bind fun k=>?_
 refine (agr_next.bind fun s=>Zno (.inl rfl) s).bind fun c=>?_
 refine (agr_next.bind fun s=>ZfW s).bind fun sv=>?_
 exact agr_letter.bind fun l=>Agr.ret _
theorem agr_shift:Agr ZgK (Zb6 ZeQ fun s=>ZcR (Zs7 s)):=by
 refine (Agr.bind agr_next (k:=fun s t=>if s.size≠0∧Zia s=45 then (-(ZbS (s.extract 1 s.size) t).1,(ZbS (s.extract 1 s.size) t).2) else ZbS s t) fun s=>?_:Agr (Zcf ZaY _) _)
 unfold Zs7
 split
 ·refine Agr.lift (fun t h=>ZcB h) (fun l=>?_)
  have hS:=(ZfW (s.extract 1 s.size) l).2
  unfold ZcR at hS
  cases h1:Zgj (s.extract 1 s.size) with
  | none=>simp only[h1] at hS ⊢;exact hS
  | some n=>simp only[h1] at hS ⊢;rw[hS];rfl
 ·exact ZfW s
theorem ZtH:ZcI (bA [48])=false:=by decide
theorem ZuO (s:ByteArray):Agr (Zel s) (ZcR (Ztb s)):=by
 unfold Zel Ztb
 split
 ·exact Agr.lift (fun t h=>h) (fun l=>rfl)
 ·split
  ·rename_i hm hd
   by_cases h0:s=bA [48]
   ·rw[if_neg (by rintro⟨_,_,h⟩;exact h h0),if_neg (by rw[h0,ZtH];simp)]
    refine Agr.lift (fun t h=>ZcB (by rw[if_pos h0])) (fun l=>?_)
    exact ZcB (by rw[if_pos h0])
   ·rw[if_pos ⟨hd.1,hd.2,h0⟩]
    simp only[if_neg h0]
    refine Agr.lift (fun t h=>ZcB h) (fun l=>?_)
    have hS:=(ZfW s l).2
    unfold ZcR at hS
    cases h1:Zgj s with
    | none=>simp only[h1] at hS ⊢;exact hS
    | some n=>simp only[h1] at hS ⊢;rw[hS];rfl
  ·rename_i hm hd
   rw[if_neg (by rintro⟨h1,h2,_⟩;exact hd ⟨h1,h2⟩)]
   refine Agr.lift (fun t h=>by dsimp only;split;exact h;rfl) (fun l=>?_)
   cases ZcI s <;> rfl
theorem agr_format:Agr ZiI (Zb6 ZeQ fun s=>ZcR (if Zbx s=true then some s else none)):=by
 refine (Agr.bind agr_next (k:=fun s t=>(s,if Zbx s=true then t else bad t)) fun s=>?_:Agr (Zcf ZaY _) _)
 refine Agr.lift (fun t h=>by dsimp only;split;exact h;rfl) (fun l=>?_)
 cases Zbx s <;> rfl
theorem ZuN:Agr ZhT Ztp:=by
 refine (agr_next.bind fun s=>Zl1 s 4 4).bind fun y=>?_
 refine agr_month.bind fun m=>?_
 refine (agr_next.bind fun s=>Zl1 s 1 2).bind fun d=>?_
 refine (agr_next.bind fun s=>Zno (.inr rfl) s).bind fun c=>?_
 refine Agr.bind (Agr.lift (fun t h=>?_) (fun l=>?_)) fun _=>Agr.ret _
 ·unfold ZsP;dsimp only;split <;> simp_all
 ·unfold ZsP;by_cases h:c.2=1 <;> simp[h] <;> rfl
theorem agr_end:Agr tEnd rEnd:=by
 intro l
 have hU:=ZuN l
 unfold tEnd rEnd
 by_cases h0:l=[]
 ·subst h0;exact⟨rfl,rfl⟩
 ·simp only[if_neg h0]
  refine⟨hU.1,?_⟩
  revert hU
  cases Ztp l with
  | none=>exact fun hU=>hU.2
  | some p=>intro hU;have h2:=hU.2;simp only at h2 ⊢;rw[h2]
theorem agr_era:Agr tEra rEra:=by
 refine agr_shift.bind fun sh=>?_
 refine (agr_next.bind fun s=>ZuO s).bind fun r=>?_
 refine agr_format.bind fun f=>?_
 exact agr_end.bind fun u=>Agr.ret _
end Go.Proofs.YtlekejpogddndaaGreatDoor
end
section
namespace Go.Proofs.YtlekejpogddndaaGreatDoor
open Go.Ab
def refN (n:Int):Bool:=letB n||digB n||decide (n=95)||decide (n=45)||decide (n=47)||decide (n=43)
theorem ZtI (c:UInt8):ZmX c.toNat=refN c.toNat:=by
 have hc:((c.toNat:Int).toNat.toUInt8)=c:=by simp
 unfold ZmX refN
 rw[hc,←Lib.contains_iff_indexByte]
 have e : ∀ x:UInt8,decide ((c.toNat:Int)=(x.toNat:Int))=(c==x):=by
  intro x
  rw[Bool.eq_iff_iff,decide_eq_true_iff,beq_iff_eq]
  exact⟨fun h=>UInt8.toNat_inj.1 om,fun h=>by rw[h]⟩
 rw[show (95:Int)=((95:UInt8).toNat:Int) from rfl,show (45:Int)=((45:UInt8).toNat:Int) from rfl,show (47:Int)=((47:UInt8).toNat:Int) from rfl,show (43:Int)=((43:UInt8).toNat:Int) from rfl,e,e,e,e]
 simp[List.contains_cons,Bool.or_assoc] <;> rfl
def fmtL:Nat→Bool→Bs→Bool
 | m,_,[]=>decide (m≤1)
 | m,b,c::l=>if c=47 then !b&&!l.isEmpty&&fmtL (m+1) false l else if c=37 then decide (l.head?=some 115)&&fmtL (m+1) false l else Zbs c.toNat&&fmtL m false l
abbrev plL (l:Bs):Bool:=allB Zbs (bA l)
theorem Zoe:plL []=true:=rfl
theorem ZgW (c:UInt8) (l:Bs):plL (c::l)=(Zbs c.toNat&&plL l):=by simp[plL,allB,bA]
theorem pl47:Zbs (47:UInt8).toNat=false:=by decide
theorem pl37:Zbs (37:UInt8).toNat=false:=by decide
theorem pl115:Zbs (115:UInt8).toNat=true:=by decide
theorem pl115':Zbs 115=true:=by decide
theorem Zoy : ∀ (l:Bs) (m:Nat) (b:Bool),2≤m→fmtL m b l=false
 | [],m,b,h=>by unfold fmtL;simp;omega
 | c::l,m,b,h=>by
  unfold fmtL
  rw[Zoy l (m+1) false om,Zoy l m false h]
  simp
theorem ZlM : ∀ (l:Bs),fmtL 1 false l=plL l
 | []=>rfl
 | c::l=>by
  unfold fmtL
  rw[Zoy l (1+1) false om,ZlM l,ZgW]
  split
  ·rename_i h;subst h;rw[pl47];simp
  ·split
   ·rename_i h;subst h;rw[pl37];simp
   ·rfl
theorem plL_no {c:UInt8}{l:Bs}(h:Zbs c.toNat=false) (hc:c∈l):plL l=false:=by
 cases hp:plL l
 ·rfl
 ·rw[Zl0 hp hc] at h;cases h
def cutP (l:Bs):Bool:=plL (Lib.cut l [37,115]).1&&plL (Lib.cut l [37,115]).2.1
theorem ZoJ (l:Bs):cutP l=if 0≤Lib.index l [37,115] then plL (l.take (Lib.index l [37,115]).toNat)&&plL (l.drop ((Lib.index l [37,115]).toNat+2)) else plL l:=by
 unfold cutP Lib.cut
 split <;> simp[Zoe]
theorem Zq5 {c:UInt8}{l sub:Bs}(h:sub.isPrefixOf (c::l)=false):Lib.index (c::l) sub=if Lib.index l sub = -1 then -1 else Lib.index l sub+1:=by
 rw[Lib.index,h];simp
theorem Znj {c:UInt8}{l:Bs}(h:[37,115].isPrefixOf (c::l)=false):cutP (c::l)=(Zbs c.toNat&&cutP l):=by
 have hge:=Lib.index_ge l [37,115]
 rw[ZoJ,ZoJ,Zq5 h]
 by_cases e:Lib.index l [37,115] = -1
 ·rw[e];simp[ZgW]
 ·obtain⟨k,hk⟩ : ∃ k:Nat,Lib.index l [37,115]=k:=⟨(Lib.index l [37,115]).toNat,by omega⟩
  rw[hk]
  rw[if_neg (show ¬(k:Int) = -1 by omega),if_pos om,if_pos om]
  rw[show ((k:Int)+1).toNat=k+1 by omega,show ((k:Int)).toNat=k by omega]
  rw[List.take_succ_cons,ZgW,show k+1+2=(k+2)+1 by omega,List.drop_succ_cons,Bool.and_assoc]
theorem Zud : ∀ (l:Bs) (b:Bool),47 ∉ l→fmtL 0 b l=cutP l
 | [],b,h=>rfl
 | c::l,b,h=>by
  have hc:c≠47:=fun e=>h (by simp[e])
  have hl:47 ∉ l:=fun e=>h (by simp[e])
  unfold fmtL
  rw[if_neg hc]
  by_cases hp:c=37
  ·subst hp
   rw[if_pos rfl]
   cases l with
   | nil=>decide
   | cons d l =>
    by_cases hd:d=115
    ·subst hd
     rw[ZlM,ZoJ]
     have e:Lib.index (37::115::l) [37,115]=0:=by unfold Lib.index;simp[List.isPrefixOf]
     rw[e]
     simp[Zoe,ZgW,pl115,pl115']
    ·rw[Znj (by simp[List.isPrefixOf];exact fun e=>hd e.symm),pl37]
     simp[hd]
  ·rw[if_neg hp,Znj (by simp[List.isPrefixOf];intro e;exact absurd e.symm hp),Zud l false hl]
theorem Zna : ∀ (l:Bs) (b:Bool),47∈l → ∃ k:Nat,Lib.index l [47]=k∧fmtL 0 b l=(!(b&&decide (k=0))&&!(l.drop (k+1)).isEmpty&&plL (l.take k)&&plL (l.drop (k+1)))
 | [],b,h=>by cases h
 | c::l,b,h=>by
  by_cases hc:c=47
  ·subst hc
   refine⟨0,by unfold Lib.index;simp[List.isPrefixOf],?_⟩
   unfold fmtL
   rw[if_pos rfl,ZlM]
   simp[Zoe]
  ·have hl:47∈l:=by
    rcases List.mem_cons.1 h with e | e
    ·exact absurd e.symm hc
    ·exact e
   obtain⟨k,hk,hf⟩:=Zna l false hl
   refine⟨k+1,?_,?_⟩
   ·unfold Lib.index
    rw[hk]
    rw[if_neg (by simp[List.isPrefixOf];exact fun e=>hc e.symm),if_neg (by simp)]
    push_cast;rfl
   ·unfold fmtL
    rw[if_neg hc,List.take_succ_cons,List.drop_succ_cons,ZgW]
    by_cases hp:c=37
    ·subst hp
     rw[if_pos rfl,ZlM,plL_no pl47 hl,pl37]
     simp
    ·rw[if_neg hp,hf]
     simp only[Bool.false_and,Bool.not_false,Bool.true_and]
     cases Zbs c.toNat <;> simp
theorem Zko (l:Bs):(!l.isEmpty)=decide (bA l≠⟨#[]⟩):=by
 cases l with
 | nil=>rfl
 | cons c l =>
  have:bA (c::l)≠⟨#[]⟩:=fun e=>by
   have:=congrArg ByteArray.size e
   rw[ZdG] at this;cases this
  simp[this]
theorem Zox (s:ByteArray):Zbx s=(decide (s.size≠0)&&decide (s.size≤24)&&fmtL 0 true (aB s)):=by
 unfold Zbx
 by_cases hs:s.size=0∨24<s.size
 ·rw[if_pos hs]
  rcases hs with h | h
  ·simp[h]
  ·simp[show ¬s.size≤24 by omega]
 ·rw[if_neg hs]
  have h1:s.size≠0:=fun e=>hs (.inl e)
  have h2:s.size≤24:=by omega
  simp only[h1,h2,ne_eq,not_false_eq_true,decide_true,Bool.true_and]
  by_cases hm:(47:UInt8)∈aB s
  ·obtain⟨k,hk,hf⟩:=Zna (aB s) true hm
   have hcut:cutL s [47]=((aB s).take k,(aB s).drop (k+1),true):=by
    unfold cutL Lib.cut
    rw[hk,if_pos om]
    simp
   rw[hcut,hf,if_pos rfl]
   simp only
   rw[Zko]
   have e:decide (bA ((aB s).take k)≠⟨#[]⟩)=!(true&&decide (k=0)):=by
    rw[←Zko]
    cases k with
    | zero=>rfl
    | succ k =>
     have:0<(aB s).length:=by rw[ZeD];omega
     cases hq:aB s with
     | nil=>rw[hq] at this;cases this
     | cons c l=>simp
   rw[e]
  ·have hi:Lib.index (aB s) [47] = -1:=by
    have hge:=Lib.index_ge (aB s) [47]
    by_cases e:Lib.index (aB s) [47] = -1
    ·exact e
    ·obtain⟨k,hk⟩ : ∃ k:Nat,Lib.index (aB s) [47]=k:=⟨(Lib.index (aB s) [47]).toNat,by omega⟩
     obtain⟨_,hk1,hk2⟩:=ZeW hk
     exact absurd (List.mem_of_getElem? hk2) hm
   have hcut:(cutL s [47]).2.2=false:=by
    unfold cutL Lib.cut
    rw[hi];rfl
   rw[if_neg (by rw[hcut];simp),Zud _ _ hm]
   rfl
end Go.Proofs.YtlekejpogddndaaGreatDoor
end
section
namespace Go.Proofs.YtlekejpogddndaaGreatDoor
open Go.Ab Go.RowKit Civ
def c190:AC:=(Sr [Mb 2 false] (Sr [Mv 3 0,Oo 4 (.cvi .i64 (.tmp 3)),Cl 5 73 [(.tmp 4),(Ci 97),(Ci 122)],Mv 6 5,Of 7 6 (mt 0),Of 8 6 (.cvi .i64 (.tmp 7)),Of 9 6 (.call (.func 73) [(.tmp 8),(Ci 65),(Ci 90)]),Oo 10 (.pick (.tmp 6) (.const (.bool true)) (.tmp 9)),Mv 2 10] .ret))
theorem k190:ZaE Tryz.prog 190=some ⟨c190,[(.tmp 2)],11⟩:=by kernel_rfl
def c191:AC:=(Sr [Mb 2 false] (Sr [Mv 3 0,Oo 4 (.cvi .i64 (.tmp 3)),Cl 5 73 [(.tmp 4),(Ci 48),(Ci 57)],Mv 2 5] .ret))
theorem k191:ZaE Tryz.prog 191=some ⟨c191,[(.tmp 2)],6⟩:=by kernel_rfl
def c115:AC:=(Sr [Mb 2 false] (.seq (Sr [Mv 5 0,Oo 6 (.bin .eql (.tmp 5) (.const (.string ⟨#[]⟩))),Mv 7 6,Of 8 7 (mt 0),Of 9 7 (.len true (.tmp 8)),Of 10 7 (.bin .gtr (.tmp 9) (Ci 24)),Oo 11 (.pick (.tmp 7) (.const (.bool true)) (.tmp 10)),Mv 12 11,Of 13 12 (mt 0),Of 14 12 (.ix (.tmp 13) (Ci 0)),Of 15 12 (.call (.func 190) [(.tmp 14)]),Of 16 12 (.un .not (.tmp 15)),Oo 17 (.pick (.tmp 12) (.const (.bool true)) (.tmp 16))] (Cd 17 (Sr [Mb 2 false] .ret) .skip)) (.seq (Sr [Mc 3 0] (.block 0 (.loop (.seq (Sr [Mv 18 3,Mv 19 0,Oo 20 (.len true (.tmp 19)),Bn 21 .lss 18 20] (Cd 21 .skip (.exit 0))) (.seq (.block 1 (Sr [Mv 24 0,Mv 25 3,Oo 26 (.ix (.tmp 24) (.tmp 25)),Mv 4 26] (Sr [Mv 27 4,Cl 28 190 [(.tmp 27)],Oo 29 (.un .not (.tmp 28)),Mv 30 29,Ot 31 30 (mt 4),Ot 32 30 (.call (.func 191) [(.tmp 31)]),Ot 33 30 (.un .not (.tmp 32)),Oo 34 (.pick (.tmp 30) (.tmp 33) (.const (.bool false))),Mv 35 34,Ot 36 35 (mt 4),Ot 37 35 (.bin .neq (.tmp 36) (.const (.int .u8 95))),Oo 38 (.pick (.tmp 35) (.tmp 37) (.const (.bool false))),Mv 39 38,Ot 40 39 (mt 4),Ot 41 39 (.bin .neq (.tmp 40) (.const (.int .u8 45))),Oo 42 (.pick (.tmp 39) (.tmp 41) (.const (.bool false))),Mv 43 42,Ot 44 43 (mt 4),Ot 45 43 (.bin .neq (.tmp 44) (.const (.int .u8 47))),Oo 46 (.pick (.tmp 43) (.tmp 45) (.const (.bool false))),Mv 47 46,Ot 48 47 (mt 4),Ot 49 47 (.bin .neq (.tmp 48) (.const (.int .u8 43))),Oo 50 (.pick (.tmp 47) (.tmp 49) (.const (.bool false)))] (Cd 50 (Sr [Mb 2 false] .ret) .skip)))) (.reg [Mv 22 3,Bc 23 .add 22 1,Mv 3 23])))))) (Sr [Mb 2 true] .ret))))
theorem k115:ZaE Tryz.prog 115=some ⟨c115,[(.tmp 2)],51⟩:=by kernel_rfl
def c224:AC:=(Sr [Mb 2 false] (.seq (Sr [Mc 3 0] (.block 0 (.loop (.seq (Sr [Mv 4 3,Mv 5 0,Oo 6 (.len true (.tmp 5)),Bn 7 .lss 4 6] (Cd 7 .skip (.exit 0))) (.seq (.block 1 (Sr [Mv 10 0,Mv 11 3,Oo 12 (.ix (.tmp 10) (.tmp 11)),Cl 13 190 [(.tmp 12)],Oo 14 (.un .not (.tmp 13))] (Cd 14 (Sr [Mb 2 false] .ret) .skip))) (.reg [Mv 8 3,Bc 9 .add 8 1,Mv 3 9])))))) (Sr [Mv 15 0,Oo 16 (.len true (.tmp 15)),Bc 17 .leq 16 24,Mv 2 17] .ret)))
theorem k224:ZaE Tryz.prog 224=some ⟨c224,[(.tmp 2)],18⟩:=by kernel_rfl
def c148:AC:=(Sr [Mb 2 false] (.seq (Sr [Mc 3 0] (.block 0 (.loop (.seq (Sr [Mv 4 3,Mv 5 0,Oo 6 (.len true (.tmp 5)),Bn 7 .lss 4 6] (Cd 7 .skip (.exit 0))) (.seq (.block 1 (Sr [Mv 10 0,Mv 11 3,Oo 12 (.ix (.tmp 10) (.tmp 11)),Cl 13 190 [(.tmp 12)],Oo 14 (.un .not (.tmp 13)),Mv 15 14,Ot 16 15 (mt 0),Ot 17 15 (mt 3),Ot 18 15 (.ix (.tmp 16) (.tmp 17)),Ot 19 15 (.call (.func 191) [(.tmp 18)]),Ot 20 15 (.un .not (.tmp 19)),Oo 21 (.pick (.tmp 15) (.tmp 20) (.const (.bool false))),Mv 22 21,Ot 23 22 (mt 0),Ot 24 22 (mt 3),Ot 25 22 (.ix (.tmp 23) (.tmp 24)),Ot 26 22 (.bin .neq (.tmp 25) (.const (.int .u8 43))),Oo 27 (.pick (.tmp 22) (.tmp 26) (.const (.bool false))),Mv 28 27,Ot 29 28 (mt 0),Ot 30 28 (mt 3),Ot 31 28 (.ix (.tmp 29) (.tmp 30)),Ot 32 28 (.bin .neq (.tmp 31) (.const (.int .u8 45))),Oo 33 (.pick (.tmp 28) (.tmp 32) (.const (.bool false)))] (Cd 33 (Sr [Mb 2 false] .ret) .skip))) (.reg [Mv 8 3,Bc 9 .add 8 1,Mv 3 9])))))) (Sr [Mb 2 true] .ret)))
theorem k148:ZaE Tryz.prog 148=some ⟨c148,[(.tmp 2)],34⟩:=by kernel_rfl
def c225:AC:=(Sr [Mb 2 false] (Sr [Mc 3 0] (.seq (Sr [Mc 4 0] (.block 0 (.loop (.seq (Sr [Mv 5 4,Mv 6 0,Oo 7 (.len true (.tmp 6)),Bn 8 .lss 5 7] (Cd 8 .skip (.exit 0))) (.seq (.block 1 (.block 2 (Sr [Mv 12 0,Mv 13 4,Oo 14 (.ix (.tmp 12) (.tmp 13)),Oo 15 (.bin .eql (.tmp 14) (.const (.int .u8 47))),Mv 11 15] (Cd 11 (Sr [Mv 16 3,Bc 17 .add 16 1,Mv 3 17] (Sr [Mv 18 4,Bc 19 .eql 18 0,Mv 20 19,Of 21 20 (mt 4),Of 22 20 (mt 0),Of 23 20 (.len true (.tmp 22)),Of 24 20 (.bin .sub (.tmp 23) (Ci 1)),Of 25 20 (.bin .eql (.tmp 21) (.tmp 24)),Oo 26 (.pick (.tmp 20) (.const (.bool true)) (.tmp 25))] (Cd 26 (Sr [Mb 2 false] .ret) .skip))) (Sr [Mv 28 0,Mv 29 4,Oo 30 (.ix (.tmp 28) (.tmp 29)),Oo 31 (.bin .eql (.tmp 30) (.const (.int .u8 37))),Mv 27 31] (Cd 27 (Sr [Mv 32 3,Bc 33 .add 32 1,Mv 3 33] (Sr [Mv 34 4,Mv 35 0,Oo 36 (.len true (.tmp 35)),Bc 37 .sub 36 1,Bn 38 .eql 34 37,Mv 39 38,Of 40 39 (mt 0),Of 41 39 (mt 4),Of 42 39 (.bin .add (.tmp 41) (Ci 1)),Of 43 39 (.ix (.tmp 40) (.tmp 42)),Of 44 39 (.bin .neq (.tmp 43) (.const (.int .u8 115))),Oo 45 (.pick (.tmp 39) (.const (.bool true)) (.tmp 44))] (Cd 45 (Sr [Mb 2 false] .ret) .skip))) (Sr [Mv 47 0,Mv 48 4,Mv 49 4,Bc 50 .add 49 1,Oo 51 (.sls (.tmp 47) (some (.tmp 48)) (some (.tmp 50))),Cl 52 148 [(.tmp 51)],Oo 53 (.un .not (.tmp 52)),Mv 46 53] (Cd 46 (Sr [Mb 2 false] .ret) .skip)))))))) (.reg [Mv 9 4,Bc 10 .add 9 1,Mv 4 10])))))) (Sr [Mv 54 0,Oo 55 (.bin .neq (.tmp 54) (.const (.string ⟨#[]⟩))),Mv 56 55,Ot 57 56 (mt 0),Ot 58 56 (.len true (.tmp 57)),Ot 59 56 (.bin .leq (.tmp 58) (Ci 24)),Oo 60 (.pick (.tmp 56) (.tmp 59) (.const (.bool false))),Mv 61 60,Ot 62 61 (mt 3),Ot 63 61 (.bin .leq (.tmp 62) (Ci 1)),Oo 64 (.pick (.tmp 61) (.tmp 63) (.const (.bool false))),Mv 2 64] .ret))))
theorem k225:ZaE Tryz.prog 225=some ⟨c225,[(.tmp 2)],65⟩:=by kernel_rfl
theorem ZeO {n:Int}{h:AH}(h0:0≤n) (h1:n≤255):Ac 190 [uv n] h (bv (letB n)):=by
 refine tI' k190 fun N hn hlt hlA hbd=>?_
 simp only[tb'] at hbd ⊢
 refine wr'<|mw<|sn'<|wr'<|mw<|?_
 refine V' (Ziy lk om om) pt ?_
 refine Zaf mp (Zba) pt<|mw<|?_
 refine ZaK (t:=6) gt pt pt (fun hg6=>?_) (fun hg6=>?_)
 ·refine s_no gt pt<|s_no gt pt<|s_no gt pt<|Vw (Zal lk lkb)<|mw<|sn'<|Zaa<|Zah rz<|rT'<|?_
  refine bvx ?_;unfold wi at *;unfold letB;rw[Bool.eq_iff_iff];simp at *;omega
 refine s_do gt<|mw<|s_do gt<|?_
 refine V' (Ziy lk om om) pt ?_
 refine s_do gt<|Zaf mp (Zba) pt<|Vw (Zak lk lk)<|mw<|sn'<|Zaa<|Zah rz<|rT'<|?_
 refine bvx ?_;unfold wi at *;unfold letB;rw[Bool.eq_iff_iff];simp at *;omega
theorem Zex {n:Int}{h:AH}(h0:0≤n) (h1:n≤255):Ac 191 [uv n] h (bv (digB n)):=by
 refine tI' k191 fun N hn hlt hlA hbd=>?_
 simp only[tb'] at hbd ⊢
 refine wr'<|mw<|sn'<|wr'<|mw<|?_
 refine V' (Ziy lk om om) pt ?_
 refine Zaf mp (Zba) pt<|mw<|sn'<|Zaa<|Zah rz<|rT'<|?_
 refine bvx ?_;unfold wi digB;rw[Bool.eq_iff_iff];simp
theorem ZfE (s:ByteArray) (k:Nat):(0:Int)≤((ZaM s k).toNat:Int)∧((ZaM s k).toNat:Int)≤255:=by
 have:=(ZaM s k).toNat_lt
 omega
theorem ZiR {s:ByteArray}{h:AH}(hs:s.size≤maxLen):Ac 148 [sv s] h (bv (allB Zbs s)):=by
 have hm:s.size≤9223372036854775807:=by simpa [maxLen] using hs
 refine tI' k148 fun N hn hlt hlA hbd=>?_
 simp only[tb'] at hbd ⊢
 refine wr'<|mw<|sn'<|Zag<|wr'<|mw<|sn'<|Zam<|?_
 refine w_lp (ι:=Nat) (fun (k:Nat)=>[(3,iv (k:Int)),(2,.any)]++rn' 4 30) (fun (k:Nat)=>[]) (fun (k:Nat)=>k≤s.size ∧ ∀ j (hj:j<s.size),j<k→Zbs s[j].toNat=true) (fun (k:Nat)=>s.size-k) (0) (by exact⟨by omega,fun j hj h0=>absurd h0 om⟩) ?_
 rintro k hi1
 try simp only[sm',Nat.reduceAdd]
 obtain⟨hk1,hk2⟩:=hi1
 refine Zag<|wr'<|mw<|mw<|Vw (Zbo lk)<|Vw (ZaZ lk lk)<|sn'<|?_
 refine cd' lk (fun hc1=>?_) (fun hc1=>?_)
 ·have hk:k<s.size:=by omega
  have hb:=ZfE s k
  have hbk:ZaM s k=s[k]:=ZcW hk
  refine Zad<|Zae<|Zag<|Zam<|wr'<|mw<|mw<|?_
  refine V' (v_ix lk lk om om) pt ?_
  refine Zaf mp (ZeO hb.1 hb.2) pt<|Vw (ZaC lk)<|mw<|?_
  refine ZaK (t:=15) gt pt pt (fun hg15=>?_) (fun hg15=>?_)
  ·refine s_do gt<|mw<|s_do gt<|mw<|s_do gt<|?_
   refine V' (v_ix lk lk om om) pt ?_
   refine s_do gt<|Zaf mp (Zex hb.1 hb.2) pt<|s_do gt<|Vw (ZaC lk)<|Vw (Zal lk lk)<|mw<|?_
   refine ZaK (t:=22) gt pt pt (fun hg22=>?_) (fun hg22=>?_)
   ·refine s_do gt<|mw<|s_do gt<|mw<|s_do gt<|?_
    refine V' (v_ix lk lk om om) pt ?_
    refine s_do gt<|Vw (Za9 lk lki)<|Vw (Zal lk lk)<|mw<|?_
    refine sp' (t:=28) gt pt pt (fun hg28=>?_) (fun hg28=>?_)
    ·refine s_do gt<|mw<|s_do gt<|mw<|s_do gt<|?_
     refine V' (v_ix lk lk om om) pt ?_
     refine s_do gt<|Vw (Za9 lk lki)<|Vw (Zal lk lk)<|sn'<|?_
     refine cd' lk (fun hc2=>?_) (fun hc2=>?_)
     ·refine wr'<|mw<|sn'<|Zaa<|Zas<|Zai<|Zai<|Zas<|Zai<|Zah rz<|rT'<|?_
      refine bvx ?_;rw[Zjn (k:=k) hk (by rw[←hbk];unfold Zbs;simp at *;simp_all)]
     refine Zad<|ZaA<|Zae<|Zat<|mw<|?_
     refine V' (Zax lk lki om om) pt ?_
     refine mw<|Zaq<|ZaB<|?_
     refine lT' (k+1) (by (try dsimp only);refine⟨by omega,fun j hj h0=>?_⟩;rcases Nat.lt_or_ge j k with e | e;exact hk2 j hj e;obtain rfl:j=k:=om;rw[←hbk];unfold Zbs;simp_all)
    refine s_no gt pt<|s_no gt pt<|s_no gt pt<|s_no gt pt<|Vw (Zak lk lkb)<|sn'<|ZaT lk<|Zad<|ZaA<|Zae<|Zat<|mw<|?_
    refine V' (Zax lk lki om om) pt ?_
    refine mw<|Zaq<|ZaB<|?_
    refine lT' (k+1) (by (try dsimp only);refine⟨by omega,fun j hj h0=>?_⟩;rcases Nat.lt_or_ge j k with e | e;exact hk2 j hj e;obtain rfl:j=k:=om;rw[←hbk];unfold Zbs;simp_all)
   refine s_no gt pt<|s_no gt pt<|s_no gt pt<|s_no gt pt<|Vw (Zak lk lkb)<|mw<|s_no gt pt<|s_no gt pt<|s_no gt pt<|s_no gt pt<|Vw (Zak lk lkb)<|sn'<|ZaT lk<|?_
   refine Zad<|ZaA<|Zae<|Zat<|mw<|?_
   refine V' (Zax lk lki om om) pt ?_
   refine mw<|Zaq<|ZaB<|?_
   refine lT' (k+1) (by (try dsimp only);refine⟨by omega,fun j hj h0=>?_⟩;rcases Nat.lt_or_ge j k with e | e;exact hk2 j hj e;obtain rfl:j=k:=om;rw[←hbk];unfold Zbs;simp_all)
  refine s_no gt pt<|s_no gt pt<|s_no gt pt<|s_no gt pt<|s_no gt pt<|Vw (Zak lk lkb)<|mw<|s_no gt pt<|s_no gt pt<|s_no gt pt<|s_no gt pt<|Vw (Zak lk lkb)<|mw<|s_no gt pt<|?_
  refine s_no gt pt<|s_no gt pt<|s_no gt pt<|Vw (Zak lk lkb)<|sn'<|ZaT lk<|Zad<|ZaA<|Zae<|Zat<|mw<|?_
  refine V' (Zax lk lki om om) pt ?_
  refine mw<|Zaq<|ZaB<|?_
  refine lT' (k+1) (by (try dsimp only);refine⟨by omega,fun j hj h0=>?_⟩;rcases Nat.lt_or_ge j k with e | e;exact hk2 j hj e;obtain rfl:j=k:=om;rw[←hbk];unfold Zbs;simp_all)
 refine ZaD<|Zay<|Zay<|ZaU<|Zae<|wr'<|mw<|sn'<|Zaa<|Zah rz<|rT'<|?_
 refine bvx ?_;rw[Zhb fun j hj=>hk2 j hj om]
theorem ZhW {s:ByteArray}{h:AH}(hs:s.size≤maxLen):Ac 224 [sv s] h (bv (ZcD s)):=by
 have hm:s.size≤9223372036854775807:=by simpa [maxLen] using hs
 refine tI' k224 fun N hn hlt hlA hbd=>?_
 simp only[tb'] at hbd ⊢
 refine wr'<|mw<|sn'<|Zag<|wr'<|mw<|sn'<|Zam<|?_
 refine w_lp (ι:=Nat) (fun (k:Nat)=>[(3,iv (k:Int)),(2,.any)]++rn' 4 11) (fun (k:Nat)=>[]) (fun (k:Nat)=>k≤s.size ∧ ∀ j (hj:j<s.size),j<k→letB s[j].toNat=true) (fun (k:Nat)=>s.size-k) (0) (by exact⟨by omega,fun j hj h0=>absurd h0 om⟩) ?_
 rintro k hi1
 try simp only[sm',Nat.reduceAdd]
 obtain⟨hk1,hk2⟩:=hi1
 refine Zag<|wr'<|mw<|mw<|Vw (Zbo lk)<|Vw (ZaZ lk lk)<|sn'<|?_
 refine cd' lk (fun hc1=>?_) (fun hc1=>?_)
 ·have hk:k<s.size:=by omega
  have hb:=ZfE s k
  have hbk:ZaM s k=s[k]:=ZcW hk
  refine Zad<|Zae<|Zag<|Zam<|wr'<|mw<|mw<|?_
  refine V' (v_ix lk lk om om) pt ?_
  refine Zaf mp (ZeO hb.1 hb.2) pt<|Vw (ZaC lk)<|sn'<|?_
  refine Zaz lk (fun hc2=>?_) (fun hc2=>?_)
  ·refine wr'<|mw<|sn'<|Zaa<|Zas<|Zai<|Zai<|Zas<|Zai<|Zah rz<|rT'<|?_
   refine bvx ?_;unfold ZcD;rw[Zjn (k:=k) hk (by rw[←hbk];simp_all)];simp
  refine Zad<|ZaA<|Zae<|Zat<|mw<|?_
  refine V' (Zax lk lki om om) pt ?_
  refine mw<|Zaq<|ZaB<|?_
  refine lT' (k+1) (by (try dsimp only);refine⟨by omega,fun j hj h0=>?_⟩;rcases Nat.lt_or_ge j k with e | e;exact hk2 j hj e;obtain rfl:j=k:=om;rw[←hbk];simp_all)
 refine ZaD<|Zay<|Zay<|ZaU<|Zae<|wr'<|mw<|Vw (Zbo lk)<|Vw (Zc0 lk lki)<|mw<|sn'<|Zaa<|?_
 refine Zah rz<|rT'<|?_
 refine bvx ?_;unfold ZcD;rw[Zhb fun j hj=>hk2 j hj om];rw[Bool.eq_iff_iff];simp;omega
theorem Zdr {s:ByteArray}{h:AH}(hs:s.size≤maxLen):Ac 115 [sv s] h (bv (ZcI s)):=by
 have hm:s.size≤9223372036854775807:=by simpa [maxLen] using hs
 have hem:=Ze0 (f:=s)
 have hb0:=ZfE s 0
 refine tI' k115 fun N hn hlt hlA hbd=>?_
 simp only[tb'] at hbd ⊢
 refine wr'<|mw<|sn'<|Zag<|wr'<|mw<|Vw (Zch lk lks)<|mw<|?_
 refine sp' (t:=7) gt pt pt (fun hg7=>?_) (fun hg7=>?_)
 ·refine s_no gt pt<|s_no gt pt<|s_no gt pt<|Vw (Zal lk lkb)<|mw<|s_no gt pt<|s_no gt pt<|s_no gt pt<|s_no gt pt<|Vw (Zal lk lkb)<|sn'<|ZaH lk<|Zag<|?_
  refine Zat<|mw<|sn'<|Zaa<|Zai<|Zah rz<|rT'<|?_
  refine bvx ?_;unfold ZcI;simp[hem.1 hg7]
 have hne:s.size≠0:=fun e=>hg7 (hem.2 e)
 refine s_do gt<|mw<|s_do gt<|Vw (Zbo lk)<|s_do gt<|Vw (Zbz lk lki)<|Vw (Zak lk lk)<|mw<|?_
 refine sp' (t:=12) gt pt pt (fun hg12=>?_) (fun hg12=>?_)
 ·refine s_no gt pt<|s_no gt pt<|s_no gt pt<|s_no gt pt<|Vw (Zal lk lkb)<|sn'<|ZaH lk<|wr'<|mw<|sn'<|Zaa<|?_
  refine Zai<|Zah rz<|rT'<|?_
  refine bvx ?_;unfold ZcI;simp;omega
 refine s_do gt<|mw<|s_do gt<|?_
 refine V' (v_ix lk lki om om) pt ?_
 refine s_do gt<|Zaf mp (ZeO hb0.1 hb0.2) pt<|s_do gt<|Vw (ZaC lk)<|Vw (Zak lk lk)<|sn'<|?_
 refine Zaz lk (fun hc1=>?_) (fun hc1=>?_)
 ·refine wr'<|mw<|sn'<|Zaa<|Zai<|Zah rz<|rT'<|?_
  refine bvx ?_;unfold ZcI;simp_all
 have hz:s.size≤24:=by omega
 have hL:letB (ZaM s 0).toNat=true:=by simpa using hc1
 refine Zad<|Zae<|Zag<|wr'<|mw<|sn'<|Zam<|?_
 refine w_lp (ι:=Nat) (fun (k:Nat)=>[(3,iv (k:Int)),(2,.any),(4,.any)]++rn' 18 33) (fun (k:Nat)=>[]) (fun (k:Nat)=>k≤s.size ∧ ∀ j (hj:j<s.size),j<k→ZmX s[j].toNat=true) (fun (k:Nat)=>s.size-k) (0) (by exact⟨by omega,fun j hj h0=>absurd h0 om⟩) ?_
 rintro k hi1
 try simp only[sm',Nat.reduceAdd]
 obtain⟨hk1,hk2⟩:=hi1
 refine Zag<|wr'<|mw<|mw<|Vw (Zbo lk)<|Vw (ZaZ lk lk)<|sn'<|?_
 refine cd' lk (fun hc2=>?_) (fun hc2=>?_)
 ·have hk:k<s.size:=by omega
  have hb:=ZfE s k
  have hbk:ZaM s k=s[k]:=ZcW hk
  have hR:=ZtI (ZaM s k)
  refine Zad<|Zae<|Zag<|Zam<|wr'<|mw<|mw<|?_
  refine V' (v_ix lk lk om om) pt ?_
  refine mw<|sn'<|wr'<|mw<|Zaf mp (ZeO hb.1 hb.2) pt<|Vw (ZaC lk)<|mw<|?_
  refine ZaK (t:=30) gt pt pt (fun hg30=>?_) (fun hg30=>?_)
  ·refine s_do gt<|mw<|s_do gt<|Zaf mp (Zex hb.1 hb.2) pt<|s_do gt<|Vw (ZaC lk)<|Vw (Zal lk lk)<|mw<|?_
   refine ZaK (t:=35) gt pt pt (fun hg35=>?_) (fun hg35=>?_)
   ·refine s_do gt<|mw<|s_do gt<|Vw (Za9 lk lki)<|Vw (Zal lk lk)<|mw<|?_
    refine sp' (t:=39) gt pt pt (fun hg39=>?_) (fun hg39=>?_)
    ·refine s_do gt<|mw<|s_do gt<|Vw (Za9 lk lki)<|Vw (Zal lk lk)<|mw<|?_
     refine sp' (t:=43) gt pt pt (fun hg43=>?_) (fun hg43=>?_)
     ·refine s_do gt<|mw<|s_do gt<|Vw (Za9 lk lki)<|Vw (Zal lk lk)<|mw<|?_
      refine sp' (t:=47) gt pt pt (fun hg47=>?_) (fun hg47=>?_)
      ·refine s_do gt<|mw<|s_do gt<|Vw (Za9 lk lki)<|Vw (Zal lk lk)<|sn'<|?_
       refine cd' lk (fun hc3=>?_) (fun hc3=>?_)
       ·refine wr'<|mw<|sn'<|Zaa<|Zas<|Zai<|Zai<|Zas<|Zai<|Zah rz<|rT'<|?_
        refine bvx ?_;unfold ZcI;rw[Zjn (k:=k) hk (by rw[←hbk,hR];unfold refN;simp_all)];simp
       refine Zad<|ZaA<|Zae<|Zat<|mw<|?_
       refine V' (Zax lk lki om om) pt ?_
       refine mw<|Zaq<|ZaB<|?_
       refine lT' (k+1) (by (try dsimp only);refine⟨by omega,fun j hj h0=>?_⟩;rcases Nat.lt_or_ge j k with e | e;exact hk2 j hj e;obtain rfl:j=k:=om;rw[←hbk,hR];unfold refN;simp_all)
      refine s_no gt pt<|s_no gt pt<|Vw (Zak lk lkb)<|sn'<|ZaT lk<|Zad<|ZaA<|Zae<|Zat<|mw<|?_
      refine V' (Zax lk lki om om) pt ?_
      refine mw<|Zaq<|ZaB<|?_
      refine lT' (k+1) (by (try dsimp only);refine⟨by omega,fun j hj h0=>?_⟩;rcases Nat.lt_or_ge j k with e | e;exact hk2 j hj e;obtain rfl:j=k:=om;rw[←hbk,hR];unfold refN;simp_all)
     refine s_no gt pt<|s_no gt pt<|Vw (Zak lk lkb)<|mw<|s_no gt pt<|s_no gt pt<|Vw (Zak lk lkb)<|sn'<|ZaT lk<|Zad<|ZaA<|Zae<|Zat<|?_
     refine mv' lk pt ?_
     refine V' (Zax lk lki om om) pt ?_
     refine mw<|Zaq<|ZaB<|?_
     refine lT' (k+1) (by (try dsimp only);refine⟨by omega,fun j hj h0=>?_⟩;rcases Nat.lt_or_ge j k with e | e;exact hk2 j hj e;obtain rfl:j=k:=om;rw[←hbk,hR];unfold refN;simp_all)
    refine s_no gt pt<|s_no gt pt<|Vw (Zak lk lkb)<|mw<|s_no gt pt<|s_no gt pt<|Vw (Zak lk lkb)<|mw<|s_no gt pt<|s_no gt pt<|Vw (Zak lk lkb)<|sn'<|ZaT lk<|?_
    refine Zad<|ZaA<|Zae<|Zat<|mw<|?_
    refine V' (Zax lk lki om om) pt ?_
    refine mw<|Zaq<|ZaB<|?_
    refine lT' (k+1) (by (try dsimp only);refine⟨by omega,fun j hj h0=>?_⟩;rcases Nat.lt_or_ge j k with e | e;exact hk2 j hj e;obtain rfl:j=k:=om;rw[←hbk,hR];unfold refN;simp_all)
   refine s_no gt pt<|s_no gt pt<|Vw (Zak lk lkb)<|mw<|s_no gt pt<|s_no gt pt<|Vw (Zak lk lkb)<|mw<|s_no gt pt<|s_no gt pt<|Vw (Zak lk lkb)<|mw<|s_no gt pt<|s_no gt pt<|?_
   refine Vw (Zak lk lkb)<|sn'<|ZaT lk<|Zad<|ZaA<|Zae<|Zat<|mw<|?_
   refine V' (Zax lk lki om om) pt ?_
   refine mw<|Zaq<|ZaB<|?_
   refine lT' (k+1) (by (try dsimp only);refine⟨by omega,fun j hj h0=>?_⟩;rcases Nat.lt_or_ge j k with e | e;exact hk2 j hj e;obtain rfl:j=k:=om;rw[←hbk,hR];unfold refN;simp_all)
  refine s_no gt pt<|s_no gt pt<|s_no gt pt<|Vw (Zak lk lkb)<|mw<|s_no gt pt<|s_no gt pt<|Vw (Zak lk lkb)<|mw<|s_no gt pt<|s_no gt pt<|Vw (Zak lk lkb)<|mw<|s_no gt pt<|?_
  refine s_no gt pt<|Vw (Zak lk lkb)<|mw<|s_no gt pt<|s_no gt pt<|Vw (Zak lk lkb)<|sn'<|ZaT lk<|Zad<|ZaA<|Zae<|Zat<|mw<|?_
  refine V' (Zax lk lki om om) pt ?_
  refine mw<|Zaq<|ZaB<|?_
  refine lT' (k+1) (by (try dsimp only);refine⟨by omega,fun j hj h0=>?_⟩;rcases Nat.lt_or_ge j k with e | e;exact hk2 j hj e;obtain rfl:j=k:=om;rw[←hbk,hR];unfold refN;simp_all)
 refine ZaD<|Zay<|Zay<|ZaU<|Zae<|wr'<|mw<|sn'<|Zaa<|Zah rz<|rT'<|?_
 refine bvx ?_;unfold ZcI;rw[Zhb fun j hj=>hk2 j hj om,hL];simp[hne,hz]
theorem Zgl {s:ByteArray}{h:AH}(hs:s.size≤maxLen):Ac 225 [sv s] h (bv (Zbx s)):=by
 have hm:s.size≤9223372036854775807:=by simpa [maxLen] using hs
 have hem:=Ze0 (f:=s)
 have hF:=Zox s
 refine tI' k225 fun N hn hlt hlA hbd=>?_
 simp only[tb'] at hbd ⊢
 refine wr'<|mw<|sn'<|wr'<|mw<|sn'<|Zag<|wr'<|mw<|?_
 refine sn'<|Zam<|?_
 refine w_lp (ι:=Nat×Nat) (fun (x_:Nat×Nat)=>match x_ with | ⟨k,m⟩=>[(3,iv (m:Int)),(4,iv (k:Int)),(2,.any)]++rn' 5 49) (fun (x_:Nat×Nat)=>match x_ with | ⟨k,m⟩=>[]) (fun (x_:Nat×Nat)=>match x_ with | ⟨k,m⟩=>k≤s.size∧m≤k∧fmtL 0 true (aB s)=fmtL m (decide (k=0)) ((aB s).drop k)) (fun (x_:Nat×Nat)=>match x_ with | ⟨k,m⟩=>s.size-k) (⟨0,0⟩) (by exact⟨by omega,by omega,rfl⟩) ?_
 rintro⟨k,m⟩ hi1
 try simp only[sm',Nat.reduceAdd]
 obtain⟨hk1,hk2,hk3⟩:=hi1
 refine Zag<|wr'<|mw<|mw<|Vw (Zbo lk)<|Vw (ZaZ lk lk)<|sn'<|?_
 refine cd' lk (fun hc1=>?_) (fun hc1=>?_)
 ·have hk:k<s.size:=by omega
  have hb:=ZfE s k
  have hA:=ZfG hk
  rw[hA,fmtL] at hk3
  have hE:((aB s).drop (k+1)).isEmpty=decide ((k:Int)=(s.size:Int)-1):=by
   rw[Bool.eq_iff_iff,List.isEmpty_iff,List.drop_eq_nil_iff,decide_eq_true_iff,ZeD];omega
  refine Zad<|Zae<|Zag<|Zam<|Zam<|wr'<|mw<|mw<|?_
  refine V' (v_ix lk lk om om) pt ?_
  refine Vw (ZaX lk lki)<|mw<|sn'<|?_
  refine cd' lk (fun hc2=>?_) (fun hc2=>?_)
  ·have hx:ZaM s k=47:=Zjj (n:=47) om hc2
   rw[if_pos hx,hE] at hk3
   refine wr'<|mw<|?_
   refine V' (Zax lk lki om om) pt ?_
   refine mw<|sn'<|wr'<|mw<|Vw (ZaX lk lki)<|mw<|?_
   refine sp' (t:=20) gt pt pt (fun hg20=>?_) (fun hg20=>?_)
   ·refine s_no gt pt<|s_no gt pt<|s_no gt pt<|s_no gt pt<|s_no gt pt<|Vw (Zal lk lkb)<|sn'<|ZaH lk<|wr'<|mw<|sn'<|?_
    refine Zaa<|Zas<|Zas<|Zai<|Zai<|Zas<|Zai<|Zah rz<|rT'<|?_
    refine bvx ?_;rw[hF,hk3];simp_all
   refine s_do gt<|mw<|s_do gt<|mw<|s_do gt<|Vw (Zbo lk)<|s_do gt<|?_
   refine V' (Zbm lk lki om om) pt ?_
   refine s_do gt<|Vw (ZaX lk lk)<|Vw (Zak lk lk)<|sn'<|?_
   refine cd' lk (fun hc3=>?_) (fun hc3=>?_)
   ·refine wr'<|mw<|sn'<|Zaa<|Zas<|Zas<|Zai<|Zai<|Zas<|Zai<|Zah rz<|rT'<|?_
    refine bvx ?_;rw[hF,hk3];simp_all
   have hk3':fmtL 0 true (aB s)=fmtL (m+1) false ((aB s).drop (k+1)):=by rw[hk3];simp_all
   refine Zad<|ZaA<|ZaA<|Zae<|Zat<|mw<|?_
   refine V' (Zax lk lki om om) pt ?_
   refine mw<|Zaq<|ZaB<|?_
   refine lT' (⟨k+1,m+1⟩) (by (try dsimp only);exact⟨by omega,by omega,by rw[hk3'];simp⟩)
  have hx:¬ZaM s k=47:=ZlW (n:=47) om hc2
  rw[if_neg hx] at hk3
  refine wr'<|mw<|mw<|?_
  refine V' (v_ix lk lk om om) pt ?_
  refine Vw (ZaX lk lki)<|mw<|sn'<|?_
  refine cd' lk (fun hc4=>?_) (fun hc4=>?_)
  ·have hy:ZaM s k=37:=Zjj (n:=37) om hc4
   rw[if_pos hy] at hk3
   refine wr'<|mw<|?_
   refine V' (Zax lk lki om om) pt ?_
   refine mw<|sn'<|wr'<|mw<|mw<|Vw (Zbo lk)<|?_
   refine V' (Zbm lk lki om om) pt ?_
   refine Vw (ZaX lk lk)<|mw<|?_
   refine sp' (t:=39) gt pt pt (fun hg39=>?_) (fun hg39=>?_)
   ·have hD:(aB s).drop (k+1)=[]:=by rw[List.drop_eq_nil_iff,ZeD];omega
    refine s_no gt pt<|s_no gt pt<|s_no gt pt<|s_no gt pt<|s_no gt pt<|Vw (Zal lk lkb)<|sn'<|ZaH lk<|wr'<|mw<|sn'<|?_
    refine Zaa<|Zas<|Zas<|Zai<|Zai<|Zas<|Zai<|Zah rz<|rT'<|?_
    refine bvx ?_;rw[hF,hk3,hD];simp
   have hk':k+1<s.size:=by omega
   have hA':=ZfG hk'
   refine s_do gt<|mw<|s_do gt<|mw<|s_do gt<|?_
   refine V' (Zax lk lki om om) pt ?_
   refine s_do gt ?_
   refine V' (v_ix lk lk om om) pt ?_
   refine s_do gt<|Vw (Za9 lk lki)<|Vw (Zak lk lk)<|sn'<|?_
   refine cd' lk (fun hc5=>?_) (fun hc5=>?_)
   ·refine wr'<|mw<|sn'<|Zaa<|Zas<|Zas<|Zai<|Zai<|Zas<|Zai<|Zah rz<|rT'<|?_
    refine bvx ?_;rw[hF,hk3,hA'];have h9:¬ZaM s (k+1)=115:=ZlW (c:=ZaM s (k+1)) (n:=115) om (by simpa using hc5);simp[h9]
   have hk3':fmtL 0 true (aB s)=fmtL (m+1) false ((aB s).drop (k+1)):=by rw[hk3];have:=Zjj (c:=ZaM s (k+1)) (n:=115) om (by simpa using hc5);rw[hA'];simp[this]
   refine Zad<|ZaA<|ZaA<|Zae<|Zat<|mw<|?_
   refine V' (Zax lk lki om om) pt ?_
   refine mw<|Zaq<|ZaB<|?_
   refine lT' (⟨k+1,m+1⟩) (by (try dsimp only);exact⟨by omega,by omega,by rw[hk3'];simp⟩)
  have hy:¬ZaM s k=37:=ZlW (n:=37) om hc4
  rw[if_neg hy] at hk3
  have hone:allB Zbs (s.extract k (k+1))=Zbs (ZaM s k).toNat:=by rw[Zha,hA,Nat.add_sub_cancel_left];simp[allB,bA]
  refine wr'<|mw<|mw<|mw<|?_
  refine V' (Zax lk lki om om) pt ?_
  refine V' (Zdy lk (oi lk) (oi lk) om om om) pt ?_
  refine Zaf mp (ZiR (by rw[ByteArray.size_extract];unfold maxLen at *;omega)) pt ?_
  refine Vw (ZaC lk)<|mw<|sn'<|?_
  refine Zaz lk (fun hc6=>?_) (fun hc6=>?_)
  ·refine wr'<|mw<|sn'<|Zaa<|Zas<|Zas<|Zai<|Zai<|Zas<|Zai<|Zah rz<|rT'<|?_
   refine bvx ?_;rw[hF,hk3,←hone];simp_all
  have hk3':fmtL 0 true (aB s)=fmtL m false ((aB s).drop (k+1)):=by rw[hk3,←hone];simp_all
  refine Zad<|ZaA<|ZaA<|Zae<|Zat<|mw<|?_
  refine V' (Zax lk lki om om) pt ?_
  refine mw<|Zaq<|ZaB<|?_
  refine lT' (⟨k+1,m⟩) (by (try dsimp only);exact⟨by omega,by omega,by rw[hk3'];simp⟩)
 have hk4:fmtL 0 true (aB s)=decide (m≤1):=by rw[hk3,Znr om,fmtL]
 clear hk3
 refine ZaD<|Zay<|Zay<|ZaU<|Zae<|wr'<|mw<|Vw (ZcF lk lks)<|mw<|?_
 refine sp' (t:=56) gt pt pt (fun hg56=>?_) (fun hg56=>?_)
 ·refine s_do gt<|mw<|s_do gt<|Vw (Zbo lk)<|s_do gt<|Vw (Zc0 lk lki)<|Vw (Zal lk lk)<|mw<|?_
  refine sp' (t:=61) gt pt pt (fun hg61=>?_) (fun hg61=>?_)
  ·refine s_do gt<|mw<|s_do gt<|Vw (Zc0 lk lki)<|Vw (Zal lk lk)<|mw<|sn'<|Zaa<|Zah rz<|rT'<|?_
   refine bvx ?_;rw[hF,hk4];clear hF hk4;by_cases h0:s.size=0 <;> simp_all <;> (try intros) <;> first | omega | (rw[Bool.eq_iff_iff];simp;omega)
  refine s_no gt pt<|s_no gt pt<|Vw (Zak lk lkb)<|mw<|sn'<|Zaa<|Zah rz<|rT'<|?_
  refine bvx ?_;rw[hF,hk4];clear hF hk4;by_cases h0:s.size=0 <;> simp_all <;> (try intros) <;> first | omega | (rw[Bool.eq_iff_iff];simp;omega)
 refine s_no gt pt<|s_no gt pt<|s_no gt pt<|Vw (Zak lk lkb)<|mw<|s_no gt pt<|s_no gt pt<|Vw (Zak lk lkb)<|mw<|sn'<|Zaa<|Zah rz<|rT'<|?_
 refine bvx ?_;rw[hF,hk4];clear hF hk4;by_cases h0:s.size=0 <;> simp_all <;> (try intros) <;> first | omega | (rw[Bool.eq_iff_iff];simp;omega)
end Go.Proofs.YtlekejpogddndaaGreatDoor
end
section
namespace Go.Proofs.YtlekejpogddndaaGreatDoor
open Go.Ab Civ
attribute [local simp] Zcv
section
theorem ZeI {a0 a1 a2:AV}{l:List AV}:((a0::a1::a2::l).drop 0).take 3=[a0,a1,a2]:=rfl
theorem ZkZ {a0 a1 a2 c0 c1 c2:AV}{l:List AV}:setCells (a0::a1::a2::l) 0 [c0,c1,c2]=c0::c1::c2::l:=rfl
theorem Znz {a0 a1 a2 a3:AV}{l:List AV}:(a0::a1::a2::a3::l).take 4=[a0,a1,a2,a3]:=rfl
theorem ZkY {a0 a1 a2 a3 c0 c1 c2 c3:AV}{l:List AV}:setCells (a0::a1::a2::a3::l) 0 [c0,c1,c2,c3]=c0::c1::c2::c3::l:=rfl
theorem Zo9 {a0 b0:Int}{a1 b1:Int}{a2 b2:ByteArray}:Zbt [.int,.int,.str] [iv a0,iv a1,sv a2] [iv b0,iv b1,sv b2]=some (decide (a0=b0∧a1=b1∧a2=b2)):=by
 simp only[Zbt,Zd5,if_true,ZcL,Option.some.injEq]
 simp only[Bool.decide_and,Bool.and_true]
 try (congr 1 <;> simp)
 try rfl
theorem ZnC {a0 b0:Int}{a1 b1:Int}{a2 b2:Int}{a3 b3:ByteArray}:Zbt [.int,.int,.int,.str] [iv a0,iv a1,iv a2,sv a3] [iv b0,iv b1,iv b2,sv b3]=some (decide (a0=b0∧a1=b1∧a2=b2∧a3=b3)):=by
 simp only[Zbt,Zd5,if_true,ZcL,Option.some.injEq]
 simp only[Bool.decide_and,Bool.and_true]
 try (congr 1 <;> simp)
 try rfl
theorem ZnB {τ:Operand→AV}{y0 y1:Operand}{x0_0 x1_0:AV}(h0:Zav (τ y0)=some [x0_0]) (l0:[x0_0].all leaf=true) (h1:Zav (τ y1)=some [x1_0]) (l1:[x1_0].all leaf=true):Zau τ [(0,1,y0),(2,1,y1)] [(.v (.int .i64 0)),(.v (.int .i64 0)),(.v (.string ⟨#[]⟩))]=some [x0_0,(.v (.int .i64 0)),x1_0]:=by
 simp only[Zau,h0,l0,h1,l1]
 rfl
theorem ZnA {τ:Operand→AV}{y0 y1 y2:Operand}{x0_0 x1_0 x2_0:AV}(h0:Zav (τ y0)=some [x0_0]) (l0:[x0_0].all leaf=true) (h1:Zav (τ y1)=some [x1_0]) (l1:[x1_0].all leaf=true) (h2:Zav (τ y2)=some [x2_0]) (l2:[x2_0].all leaf=true):Zau τ [(0,1,y0),(1,1,y1),(2,1,y2)] [(.v (.int .i64 0)),(.v (.int .i64 0)),(.v (.string ⟨#[]⟩))]=some [x0_0,x1_0,x2_0]:=by
 simp only[Zau,h0,l0,h1,l1,h2,l2]
 rfl
theorem Zl9 {τ:Operand→AV}{y0 y1:Operand}{x0_0 x1_0 x1_1 x1_2:AV}(h0:Zav (τ y0)=some [x0_0]) (l0:[x0_0].all leaf=true) (h1:Zav (τ y1)=some [x1_0,x1_1,x1_2]) (l1:[x1_0,x1_1,x1_2].all leaf=true):Zau τ [(0,1,y0),(1,3,y1)] [(.v (.int .i64 0)),(.v (.int .i64 0)),(.v (.int .i64 0)),(.v (.string ⟨#[]⟩))]=some [x0_0,x1_0,x1_1,x1_2]:=by
 simp only[Zau,h0,l0,h1,l1]
 rfl
theorem Zl8 {τ:Operand→AV}{y0 y1:Operand}{x0_0 x1_0 x1_1 x1_2:AV}(h0:Zav (τ y0)=some [x0_0]) (l0:[x0_0].all leaf=true) (h1:Zav (τ y1)=some [x1_0,x1_1,x1_2]) (l1:[x1_0,x1_1,x1_2].all leaf=true):Zau τ [(0,1,y0),(1,3,y1)] [(.v (.int .i64 0)),(.v (.int .i64 0)),(.v (.int .i64 0)),(.v (.string ⟨#[]⟩))]=some [x0_0,x1_0,x1_1,x1_2]:=by
 simp only[Zau,h0,l0,h1,l1]
 rfl
theorem Zl7 {τ:Operand→AV}{y0 y1:Operand}{x0_0 x0_1 x0_2 x0_3 x1_0 x1_1 x1_2 x1_3:AV}(h0:Zav (τ y0)=some [x0_0,x0_1,x0_2,x0_3]) (l0:[x0_0,x0_1,x0_2,x0_3].all leaf=true) (h1:Zav (τ y1)=some [x1_0,x1_1,x1_2,x1_3]) (l1:[x1_0,x1_1,x1_2,x1_3].all leaf=true):Zau τ [(0,4,y0),(4,4,y1)] [(.v (.int .i64 0)),(.v (.int .i64 0)),(.v (.int .i64 0)),(.v (.string ⟨#[]⟩)),(.v (.int .i64 0)),(.v (.int .i64 0)),(.v (.int .i64 0)),(.v (.string ⟨#[]⟩))]=some [x0_0,x0_1,x0_2,x0_3,x1_0,x1_1,x1_2,x1_3]:=by
 simp only[Zau,h0,l0,h1,l1]
 rfl
theorem Zl6 {τ:Operand→AV}{y0 y1:Operand}{x0_0 x0_1 x0_2 x1_0:AV}(h0:Zav (τ y0)=some [x0_0,x0_1,x0_2]) (l0:[x0_0,x0_1,x0_2].all leaf=true) (h1:Zav (τ y1)=some [x1_0]) (l1:[x1_0].all leaf=true):Zau τ [(0,3,y0),(3,1,y1)] [(.v (.int .i64 0)),(.v (.int .i64 0)),(.v (.string ⟨#[]⟩)),(.sl 0 0 true [])]=some [x0_0,x0_1,x0_2,x1_0]:=by
 simp only[Zau,h0,l0,h1,l1]
 rfl
theorem ZeH {a0 a1 a2 a3:AV}{l:List AV}:((a0::a1::a2::a3::l).drop 0).take 4=[a0,a1,a2,a3]:=rfl
theorem ZjV {τ:Operand→AV}:Zau τ [] [(.v (.int .i64 0)),(.v (.int .i64 0)),(.v (.string ⟨#[]⟩)),(.sl 0 0 true [])]=some [(.v (.int .i64 0)),(.v (.int .i64 0)),(.v (.string ⟨#[]⟩)),(.sl 0 0 true [])]:=rfl
end
def c19:AC:=(Sr [Mc 0 0] (Sr [Cl 1 74 [],Bc 2 .mul 1 86400,Mv 0 2] .ret))
theorem k19:ZaE Tryz.prog 19=some ⟨c19,[(.tmp 0)],3⟩:=by kernel_rfl
def c20:AC:=(Sr [Mc 0 0] (Sr [Cl 1 75 [],Bc 2 .mul 1 86400,Bc 3 .add 2 86399,Mv 0 3] .ret))
theorem k20:ZaE Tryz.prog 20=some ⟨c20,[(.tmp 0)],4⟩:=by kernel_rfl
def c72:AC:=(Sr [Oo 1 (.box 29 3 (.tmp 0)),Mc 2 0] (.seq (Sr [Fa 3 0 1,Ld 4 3,Cl 5 73 [(.tmp 4),(.const (.int .i64 (-75600))),(Ci 75600)],Oo 6 (.un .not (.tmp 5)),Mv 7 6,Of 8 7 (.fa 1 (.tmp 1)),Of 9 7 (.load false 1 (.tmp 8)),Of 10 7 (.call (.func 73) [(.tmp 9),(Ci 0),(Ci 10800)]),Of 11 7 (.un .not (.tmp 10)),Oo 12 (.pick (.tmp 7) (.const (.bool true)) (.tmp 11))] (Cd 12 (Sr [Mc 2 3] .ret) .skip)) (.seq (Sr [Fa 13 2 1,Ld 14 13,Oo 15 (.bin .eql (.tmp 14) (.const (.string ⟨#[]⟩))),Mv 16 15,Of 17 16 (.fa 2 (.tmp 1)),Of 18 16 (.load false 1 (.tmp 17)),Of 19 16 (.len true (.tmp 18)),Of 20 16 (.bin .gtr (.tmp 19) (Ci 24)),Oo 21 (.pick (.tmp 16) (.const (.bool true)) (.tmp 20)),Mv 22 21,Of 23 22 (.fa 2 (.tmp 1)),Of 24 22 (.load false 1 (.tmp 23)),Of 25 22 (.call (.func 148) [(.tmp 24)]),Of 26 22 (.un .not (.tmp 25)),Oo 27 (.pick (.tmp 22) (.const (.bool true)) (.tmp 26))] (Cd 27 (Sr [Mc 2 1] .ret) .skip)) (Sr [Mc 2 0] .ret))))
theorem k72:ZaE Tryz.prog 72=some ⟨c72,[(.tmp 2)],28⟩:=by kernel_rfl
def c40:AC:=(Sr [Oo 2 (.box 40 4 (.tmp 0)),Oo 3 (.box 40 4 (.tmp 1)),Mb 4 false] (.seq (Sr [Fa 6 0 2,Oo 7 (.load true 3 (.tmp 6)),Fa 8 0 3,Oo 9 (.load true 3 (.tmp 8)),Oo 10 (.eqs true [.int,.int,.str] (.tmp 7) (.tmp 9)),Mv 11 10,Of 12 11 (.fa 3 (.tmp 2)),Of 13 11 (.load false 1 (.tmp 12)),Of 14 11 (.len false (.tmp 13)),Of 15 11 (.fa 3 (.tmp 3)),Of 16 11 (.load false 1 (.tmp 15)),Of 17 11 (.len false (.tmp 16)),Of 18 11 (.bin .neq (.tmp 14) (.tmp 17)),Oo 19 (.pick (.tmp 11) (.const (.bool true)) (.tmp 18))] (Cd 19 (Sr [Mb 4 false] .ret) .skip)) (.seq (Sr [Mc 5 0] (.block 0 (.loop (.seq (Sr [Mv 20 5,Fa 21 3 2,Ld 22 21,Oo 23 (.len false (.tmp 22)),Bn 24 .lss 20 23] (Cd 24 .skip (.exit 0))) (.seq (.block 1 (Sd [Fa 27 3 2,Ld 28 27,Mv 29 5,Oo 30 (.ia 4 (.tmp 28) (.tmp 29)),Oo 31 (.load true 4 (.tmp 30)),Fa 32 3 3,Ld 33 32,Mv 34 5,Oo 35 (.ia 4 (.tmp 33) (.tmp 34)),Oo 36 (.load true 4 (.tmp 35)),Oo 37 (.eqs true [.int,.int,.int,.str] (.tmp 31) (.tmp 36))] (Cd 37 (Sr [Mb 4 false] .ret) .skip))) (.reg [Mv 25 5,Bc 26 .add 25 1,Mv 5 26])))))) (Sr [Mb 4 true] .ret))))
theorem k40:ZaE Tryz.prog 40=some ⟨c40,[(.tmp 4)],38⟩:=by kernel_rfl
def c76:AC:=(Sr [Oo 0 (.new 40 4 [(iv 0),(iv 0),Ss,(.sl 0 0 true [])])] (Sr [Oo 3 (.build [(iv 0),(iv 0),Ss] [(0,(1,(Ci 3600))),(2,(1,(.const (.string ⟨#[65]⟩))))]),Oo 4 (.build [(iv 0),(iv 0),Ss] [(0,(1,(Ci 7200))),(1,(1,(Ci 3600))),(2,(1,(.const (.string ⟨#[66]⟩))))]),Oo 1 (.new 29 3 [(iv 0),(iv 0),Ss]),Oo 2 (.new 29 3 [(iv 0),(iv 0),Ss]),⟨none,none,(.store 3 (.tmp 1) (.tmp 3))⟩,⟨none,none,(.store 3 (.tmp 2) (.tmp 4))⟩] (Sr [Oo 5 (.load true 3 (.tmp 1)),Oo 6 (.load true 3 (.tmp 2)),Oo 7 (.build [(iv 0),(iv 0),(iv 0),Ss] [(0,(1,(Ci 100))),(1,(3,(.tmp 6)))]),Oo 8 (.load true 3 (.tmp 1)),Oo 9 (.build [(iv 0),(iv 0),(iv 0),Ss] [(0,(1,(Ci 90000))),(1,(3,(.tmp 8)))]),Oo 10 (.lit 68 4 2 [(iv 0),(iv 0),(iv 0),Ss,(iv 0),(iv 0),(iv 0),Ss] [(0,(4,(.tmp 7))),(4,(4,(.tmp 9)))]),Oo 11 (.build [(iv 0),(iv 0),Ss,(.sl 0 0 true [])] [(0,(3,(.tmp 5))),(3,(1,(.tmp 10)))]),⟨none,none,(.store 4 (.tmp 0) (.tmp 11))⟩] .ret)))
theorem k76:ZaE Tryz.prog 76=some ⟨c76,[(.cell 0 true 4)],12⟩:=by kernel_rfl
def c28:AC:=(Sr [Oo 4 (.box 40 4 (.tmp 0)),Oo 7 (.box 40 4 (.tmp 3)),Mb 8 false] (.seq (Sr [Mv 9 2,Bc 10 .neq 9 0] (Cd 10 (.reg [Oo 11 (.build [(iv 0),(iv 0),Ss,(.sl 0 0 true [])] []),⟨none,none,(.store 4 (.tmp 7) (.tmp 11))⟩]) .skip)) (Sr [Mv 12 1,Mv 13 2,Bn 14 .eql 12 13,Mv 15 14,Ot 16 15 (.load true 4 (.tmp 4)),Ot 17 15 (.load true 4 (.tmp 7)),Ot 18 15 (.call (.func 40) [(.tmp 16),(.tmp 17)]),Oo 19 (.pick (.tmp 15) (.tmp 18) (.const (.bool false))),Mv 8 19] .ret)))
theorem k28:ZaE Tryz.prog 28=some ⟨c28,[(.tmp 8)],20⟩:=by kernel_rfl
theorem Zt6 {s:ByteArray}{h:AH}(hs:s.size≤maxLen:=by first | assumption | omega):Ac 148 [sv s] h (bv (allB Zbs s)):=ZiR hs
theorem Zj9 {h:AH}:Ac 19 [] h (iv (-62135596800)):=by
 refine tI' k19 fun N hn hlt hlA hbd=>?_
 simp only[tb'] at hbd ⊢
 refine wr'<|mw<|sn'<|wr'<|Zaf mp0 (ZpK) pt<|?_
 refine V' (Zer lk lki om om) pt ?_
 exact mw<|sn'<|Zaa<|Zah rz<|rT' rfl
theorem Ztd {h:AH}:Ac 20 [] h (iv 253402300799):=by
 refine tI' k20 fun N hn hlt hlA hbd=>?_
 simp only[tb'] at hbd ⊢
 refine wr'<|mw<|sn'<|wr'<|Zaf mp0 (Zte) pt<|?_
 refine V' (Zer lk lki om om) pt ?_
 refine V' (Zax lk lki om om) pt ?_
 exact mw<|sn'<|Zaa<|Zah rz<|rT' rfl
theorem ZgV {a b:Int}{s:ByteArray}{h:AH}(hs:s.size≤maxLen:=by first | assumption | omega):Ac 72 [.agg [iv a,iv b,sv s]] h (iv (locE (a,b,s))):=by
 refine tI' k72 fun N hn hlt hlA hbd=>?_
 simp only[tb'] at hbd ⊢
 refine wr'<|E' (Zbc cv rfl (hl0 hn) ha0) pt<|mw<|sn'<|Zag<|wr'<|Vw (Zac lk)<|Vw (Zab lk gx gt0)<|Zaf mp (ZbK) pt<|Vw (ZaC lk)<|mw<|?_
 refine ZaK (t:=7) gt pt pt (fun hg7=>?_) (fun hg7=>?_)
 ·refine s_no gt pt<|s_no gt pt<|s_no gt pt<|s_no gt pt<|Vw (Zal lk lkb)<|sn'<|ZaH lk<|wr'<|mw<|sn'<|Zaa<|?_
  refine Zai<|Zah rz<|rT'<|?_
  refine ivx ?_;unfold locE;simp_all [wi];try omega
 refine s_do gt<|Vw (Zac lk)<|s_do gt<|Vw (Zab lk gx gt1)<|s_do gt<|Zaf mp (ZbK) pt<|s_do gt<|Vw (ZaC lk)<|Vw (Zak lk lk)<|sn'<|?_
 refine Zaz lk (fun hc1=>?_) (fun hc1=>?_)
 ·refine wr'<|mw<|sn'<|Zaa<|Zai<|Zah rz<|rT'<|?_
  refine ivx ?_;unfold locE;simp_all [wi];try omega
 refine Zad<|Zae<|Zag<|wr'<|Vw (Zac lk)<|Vw (Zab lk gx gt2)<|Vw (v_eqlE lk)<|mw<|?_
 refine sp' (t:=16) gt pt pt (fun hg16=>?_) (fun hg16=>?_)
 ·refine s_no gt pt<|s_no gt pt<|s_no gt pt<|s_no gt pt<|Vw (Zal lk lkb)<|mw<|s_no gt pt<|s_no gt pt<|s_no gt pt<|s_no gt pt<|Vw (Zal lk lkb)<|sn'<|ZaH lk<|?_
  refine wr'<|mw<|sn'<|Zaa<|Zai<|Zah rz<|rT'<|?_
  refine ivx ?_;unfold locE;simp_all [wi];try omega
 refine s_do gt<|Vw (Zac lk)<|s_do gt<|Vw (Zab lk gx gt2)<|s_do gt<|Vw (Zbo lk)<|s_do gt<|Vw (Zbz lk lki)<|Vw (Zak lk lk)<|mw<|?_
 refine sp' (t:=22) gt pt pt (fun hg22=>?_) (fun hg22=>?_)
 ·refine s_no gt pt<|s_no gt pt<|s_no gt pt<|s_no gt pt<|Vw (Zal lk lkb)<|sn'<|ZaH lk<|wr'<|mw<|sn'<|Zaa<|?_
  refine Zai<|Zah rz<|rT'<|?_
  refine ivx ?_;unfold locE;simp_all [wi];try omega
 refine s_do gt<|Vw (Zac lk)<|s_do gt<|Vw (Zab lk gx gt2)<|s_do gt<|Zaf mp (Zt6) pt<|s_do gt<|Vw (ZaC lk)<|Vw (Zak lk lk)<|sn'<|?_
 refine Zaz lk (fun hc2=>?_) (fun hc2=>?_)
 ·refine wr'<|mw<|sn'<|Zaa<|Zai<|Zah rz<|rT'<|?_
  refine ivx ?_;unfold locE;simp_all [wi];try omega
 refine Zad<|Zae<|wr'<|mw<|sn'<|Zaa<|Zah rz<|rT'<|?_
 refine ivx ?_;unfold locE;simp_all [wi];try omega
theorem ZsM {l m:List Chg}{k:Nat}(h1:k<l.length) (h2:k<m.length) (h:l.take k=m.take k) (he:l[k]=m[k]):l.take (k+1)=m.take (k+1):=by
 rw[List.take_succ_eq_append_getElem h1,List.take_succ_eq_append_getElem h2,h,he]
theorem Zs8 {t u:Tab}{f1 f2:Bool}{h:AH} :
  Ac 40 [.agg [iv t.1.1,iv t.1.2.1,sv t.1.2.2,.sl t.2.length 4 f1 (rows chgC t.2)],.agg [iv u.1.1,iv u.1.2.1,sv u.1.2.2,.sl u.2.length 4 f2 (rows chgC u.2)]] h (bv (decide (t=u))):=by
 refine tI' k40 fun N hn hlt hlA hbd=>?_
 simp only[tb'] at hbd ⊢
 refine wr'<|E' (Zbc cv rfl (hl0 hn) ha0) pt<|E' (Zbc cv rfl (hl1 hn) ha1) pt<|mw<|sn'<|Zag<|wr'<|Vw (Zac lk)<|Vw (Zao lk gx ZeI rfl)<|Vw (Zac lk)<|Vw (Zao lk gx ZeI rfl)<|?_
 refine Vw (Zix lk lk Zo9)<|mw<|?_
 refine sp' (t:=11) gt pt pt (fun hg11=>?_) (fun hg11=>?_)
 ·refine s_no gt pt<|s_no gt pt<|s_no gt pt<|s_no gt pt<|s_no gt pt<|s_no gt pt<|s_no gt pt<|Vw (Zal lk lkb)<|sn'<|ZaH lk<|wr'<|mw<|?_
  refine sn'<|Zaa<|Zai<|Zah rz<|rT'<|?_
  refine bvx (decide_eq_false (fun e=>hg11 (by rw[e];simp))).symm
 refine s_do gt<|Vw (Zac lk)<|s_do gt<|Vw (Zab lk gx gt3)<|s_do gt<|Vw (ZaG lk)<|s_do gt<|Vw (Zac lk)<|s_do gt<|Vw (Zab lk gx gt3)<|s_do gt<|Vw (ZaG lk)<|s_do gt<|Vw (Za9 lk lk)<|?_
 refine Vw (Zak lk lk)<|sn'<|?_
 refine cd' lk (fun hc1=>?_) (fun hc1=>?_)
 ·refine wr'<|mw<|sn'<|Zaa<|Zai<|Zah rz<|rT'<|?_
  refine bvx (decide_eq_false (fun e=>hc1 (by rw[e]))).symm
 refine Zad<|Zae<|Zag<|wr'<|mw<|sn'<|Zam<|?_
 refine w_lp (ι:=Nat) (fun (k:Nat)=>[(5,iv (k:Int)),(4,.any)]++rn' 20 18) (fun (k:Nat)=>[]) (fun (k:Nat)=>k≤t.2.length∧t.2.length=u.2.length∧t.1=u.1∧t.2.take k=u.2.take k) (fun (k:Nat)=>t.2.length-k) (0) (by exact⟨by omega,by omega,(by obtain⟨x1,x2,x3⟩:=Decidable.of_not_not hg11;exact Prod.ext x1 (Prod.ext x2 x3)),by simp⟩) ?_
 rintro k hi1
 try simp only[sm',Nat.reduceAdd]
 obtain⟨hk1,hk2,hk3,hk4⟩:=hi1
 refine Zag<|wr'<|mw<|Vw (Zac lk)<|Vw (Zab lk gx gt3)<|Vw (ZaG lk)<|Vw (ZaZ lk lk)<|sn'<|?_
 refine cd' lk (fun hc2=>?_) (fun hc2=>?_)
 ·refine Zad<|Zae<|Zag<|Zam<|Zag<|Za2<|Dw (Zac lk)<|Dw (Zab lk gx gt3)<|Dw (v_mv lk)<|?_
  refine D' (ZaJ lk lk Zcn (nb' rfl) ro om ro rfl) pt ?_
  refine Dw (ZaF lk Znz rfl)<|Dw (Zac lk)<|Dw (Zab lk gx gt3)<|Dw (v_mv lk)<|?_
  refine D' (ZaJ lk lk Zcn (nb' rfl) ro om ro rfl) pt ?_
  refine Dw (ZaF lk Znz rfl)<|Dw (Zix lk lk ZnC)<|Za8<|?_
  refine Zby ?_
  refine sn' ?_
  refine cd' lk (fun hc3=>?_) (fun hc3=>?_)
  ·refine wr'<|mw<|sn'<|Zaa<|Zas<|Zai<|Zai<|Zas<|Zai<|Zah rz<|rT'<|?_
   refine bvx (decide_eq_false (fun e=>hc3 (by subst e;simp))).symm
  refine Zad<|ZaA<|Zae<|Zat<|mw<|?_
  refine V' (Zax lk lki om om) pt ?_
  refine mw<|Zaq<|ZaB<|?_
  refine lT' (k+1) (by (try dsimp only);exact⟨by omega,hk2,hk3,ZsM om om hk4 (chg_ext (Decidable.of_not_not hc3))⟩)
 refine ZaD<|Zay<|Zay<|ZaU<|Zae<|wr'<|mw<|sn'<|Zaa<|Zah rz<|rT'<|?_
 refine bvx (decide_eq_true ?_).symm
 rw[List.take_of_length_le om,List.take_of_length_le om] at hk4
 exact Prod.ext hk3 hk4
def ZgM:Tab:=((3600,0,⟨#[65]⟩),[(100,(7200,3600,⟨#[66]⟩)),(90000,(3600,0,⟨#[65]⟩))])
theorem Zlv {h:AH}:Ac 76 [] h (tabA ZgM):=by
 refine tI' k76 fun N hn hlt hlA hbd=>?_
 simp only[tb'] at hbd ⊢
 refine wr'<|E' (Za7 (hl0 hn) ha0) pt<|sn'<|wr'<|Vw (Zaw (ZnB (cvl lki rfl) rfl (cvl lks rfl) rfl))<|Vw (Zaw (ZnA (cvl lki rfl) rfl (cvl lki rfl) rfl (cvl lks rfl) rfl))<|E' (Za7 (hl1 hn) ha1) pt<|E' (Za7 (hl2 hn) ha2) pt<|E' (Zaj lk cv gx rfl (nb' rfl) rfl ZkZ (hs1 hn)) ptn<|E' (Zaj lk cv gx rfl (nb' rfl) rfl ZkZ (hs2 hn)) ptn<|Zaq<|?_
 refine Zae<|wr'<|Vw (Zao lk gx ZeI rfl)<|Vw (Zao lk gx ZeI rfl)<|Vw (Zaw (Zl9 (cvl lki rfl) rfl cv rfl))<|Vw (Zao lk gx ZeI rfl)<|Vw (Zaw (Zl8 (cvl lki rfl) rfl cv rfl))<|E' (Zda (Zl7 cv rfl cv rfl) (hl3 hn) ha3) pt<|Vw (Zaw (Zl6 cv rfl cv rfl))<|E' (Zaj lk cv gx rfl (nb' rfl) rfl ZkY (hs0 hn)) ptn<|Zaq<|?_
 refine Za1 (ALe.iceCellR gx gx om gt3 rfl (nb' rfl) pt3 (hs3 hn) (hs0 hn)) ?_
 exact Zaa<|Zah (rs1 (rr_c gt gx (ld1 ZeH rfl)))<|rT' rfl
theorem ZmQ:okT ZgM:=⟨by decide,by decide⟩
theorem ZiD {t u:Tab}{e1 e2:Int}{f1 f2:Bool}{h:AH} :
  Ac 28 [.agg [iv t.1.1,iv t.1.2.1,sv t.1.2.2,.sl t.2.length 4 f1 (rows chgC t.2)],iv e1,iv e2,.agg [iv u.1.1,iv u.1.2.1,sv u.1.2.2,.sl u.2.length 4 f2 (rows chgC u.2)]] h (bv (decide (e1=e2)&&decide (t=if e2≠0 then Zi2 else u))):=by
 refine tI' k28 fun N hn hlt hlA hbd=>?_
 simp only[tb'] at hbd ⊢
 refine wr'<|E' (Zbc cv rfl (hl0 hn) ha0) pt<|E' (Zbc cv rfl (hl1 hn) ha1) pt<|mw<|sn'<|Zag<|wr'<|mw<|Vw (Za9 lk lki)<|sn'<|?_
 refine cd' lk (fun hc1=>?_) (fun hc1=>?_)
 ·refine Zat<|Vw (Zaw ZjV)<|E' (Zaj lk cv gx rfl (nb' rfl) rfl ZkY (hs1 hn)) ptn<|sn'<|wr'<|mw<|mw<|Vw (ZaX lk lk)<|mw<|?_
  refine sp' (t:=15) gt pt pt (fun hg15=>?_) (fun hg15=>?_)
  ·refine s_do gt<|Vw (Zao lk gx ZeH rfl)<|s_do gt<|Vw (Zao lk gx ZeH rfl)<|s_do gt<|?_
   refine Zaf mp (ACalls.wk (wkw (Wk.refl _) (wkw (Wk.agg (wk1 rfl (wk1 rfl (wk1 rfl (wkw Wk.nilF wk0))))) wk0))<|Zs8 (t:=t) (u:=Zi2) (f1:=f1) (f2:=false)) pt ?_
   refine Vw (Zal lk lk)<|mw<|sn'<|Zaa<|Zah rz<|rT'<|?_
   refine bvx ?_;simp_all
  refine s_no gt pt<|s_no gt pt<|s_no gt pt<|Vw (Zak lk lkb)<|mw<|sn'<|Zaa<|Zah rz<|rT'<|?_
  refine bvx ?_;simp_all
 refine Zad<|Zae<|wr'<|mw<|mw<|Vw (ZaX lk lk)<|mw<|?_
 refine sp' (t:=15) gt pt pt (fun hg15=>?_) (fun hg15=>?_)
 ·refine s_do gt<|Vw (Zao lk gx ZeH rfl)<|s_do gt<|Vw (Zao lk gx ZeH rfl)<|s_do gt<|Zaf mp (Zs8 (t:=t) (u:=u)) pt<|Vw (Zal lk lk)<|mw<|sn'<|Zaa<|Zah rz<|rT'<|?_
  refine bvx ?_;simp_all
 refine s_no gt pt<|s_no gt pt<|s_no gt pt<|Vw (Zak lk lkb)<|mw<|sn'<|Zaa<|Zah rz<|rT'<|?_
 refine bvx ?_;simp_all
end Go.Proofs.YtlekejpogddndaaGreatDoor
end
section
namespace Go.Proofs.YtlekejpogddndaaGreatDoor
open Go.Ab
attribute [local simp] Zbw ZbM ZbG ZbL Zcv
section
theorem Zu9 {a0 a1 a2 a3 a4 a5 a6 a7 a8 a9 a10:AV}{l:List AV}:(a0::a1::a2::a3::a4::a5::a6::a7::a8::a9::a10::l).take 11=[a0,a1,a2,a3,a4,a5,a6,a7,a8,a9,a10]:=rfl
theorem Zmb {a0 a1:AV}{l:List AV}:(a0::a1::l).take 2=[a0,a1]:=rfl
theorem Zqy {a0 a1 a2 a3:AV}{l:List AV}:(a0::a1::a2::a3::l).take 4=[a0,a1,a2,a3]:=rfl
end
def c234:AC:=(Sr [Mc 4 0] (.seq (Sr [Mv 6 0,Oo 7 (.len false (.tmp 6)),Mc 8 0] (.block 0 (.loop (Sr [Bn 9 .lss 8 7] (.seq (Cd 9 .skip (.exit 0)) (.seq (.block 1 (Sr [Mv 10 8,Mv 5 10] (Sr [Mv 11 1,Mv 12 0,Mv 13 5,Oo 14 (.ia 11 (.tmp 12) (.tmp 13)),Oo 15 (.load true 11 (.tmp 14)),Oo 16 (.call (.tmp 11) [(.tmp 15)])] (Cd 16 (Sr [Mv 17 5,Mv 4 17] .ret) .skip)))) (.reg [Bc 18 .add 8 1,Mv 8 18]))))))) (Sr [Oo 4 (.mv (.const (.int .i64 (-1))))] .ret)))
theorem k234:ZaE Tryz.prog 234=some ⟨c234,[(.tmp 4)],19⟩:=by kernel_rfl
def c157:AC:=(Sr [Mb 4 false] (Sr [Mv 5 0,Mv 6 1,Cl 7 234 [(.tmp 5),(.tmp 6)],Bc 8 .geq 7 0,Mv 4 8] .ret))
theorem k157:ZaE Tryz.prog 157=some ⟨c157,[(.tmp 4)],9⟩:=by kernel_rfl
def c218:AC:=(Sr [Mc 4 0] (.seq (Sr [Mv 6 0,Oo 7 (.len false (.tmp 6)),Mc 8 0] (.block 0 (.loop (Sr [Bn 9 .lss 8 7] (.seq (Cd 9 .skip (.exit 0)) (.seq (.block 1 (Sr [Mv 10 8,Mv 5 10] (Sr [Mv 11 1,Mv 12 0,Mv 13 5,Oo 14 (.ia 2 (.tmp 12) (.tmp 13)),Oo 15 (.load true 2 (.tmp 14)),Oo 16 (.call (.tmp 11) [(.tmp 15)])] (Cd 16 (Sr [Mv 17 5,Mv 4 17] .ret) .skip)))) (.reg [Bc 18 .add 8 1,Mv 8 18]))))))) (Sr [Oo 4 (.mv (.const (.int .i64 (-1))))] .ret)))
theorem k218:ZaE Tryz.prog 218=some ⟨c218,[(.tmp 4)],19⟩:=by kernel_rfl
def c136:AC:=(Sr [Mb 4 false] (Sr [Mv 5 0,Mv 6 1,Cl 7 218 [(.tmp 5),(.tmp 6)],Bc 8 .geq 7 0,Mv 4 8] .ret))
theorem k136:ZaE Tryz.prog 136=some ⟨c136,[(.tmp 4)],9⟩:=by kernel_rfl
def c171:AC:=(Sr [Mc 4 0] (.seq (Sr [Mv 6 0,Oo 7 (.len false (.tmp 6)),Mc 8 0] (.block 0 (.loop (Sr [Bn 9 .lss 8 7] (.seq (Cd 9 .skip (.exit 0)) (.seq (.block 1 (Sr [Mv 10 8,Mv 5 10] (Sr [Mv 11 1,Mv 12 0,Mv 13 5,Oo 14 (.ia 2 (.tmp 12) (.tmp 13)),Oo 15 (.load true 2 (.tmp 14)),Oo 16 (.call (.tmp 11) [(.tmp 15)])] (Cd 16 (Sr [Mv 17 5,Mv 4 17] .ret) .skip)))) (.reg [Bc 18 .add 8 1,Mv 8 18]))))))) (Sr [Oo 4 (.mv (.const (.int .i64 (-1))))] .ret)))
theorem k171:ZaE Tryz.prog 171=some ⟨c171,[(.tmp 4)],19⟩:=by kernel_rfl
def c213:AC:=(Sr [Mb 4 false] (Sr [Mv 5 0,Mv 6 1,Cl 7 171 [(.tmp 5),(.tmp 6)],Bc 8 .geq 7 0,Mv 4 8] .ret))
theorem k213:ZaE Tryz.prog 213=some ⟨c213,[(.tmp 4)],9⟩:=by kernel_rfl
def c221:AC:=(Sr [Mc 4 0] (.seq (Sr [Mv 6 0,Oo 7 (.len false (.tmp 6)),Mc 8 0] (.block 0 (.loop (Sr [Bn 9 .lss 8 7] (.seq (Cd 9 .skip (.exit 0)) (.seq (.block 1 (Sr [Mv 10 8,Mv 5 10] (Sr [Mv 11 1,Mv 12 0,Mv 13 5,Oo 14 (.ia 4 (.tmp 12) (.tmp 13)),Oo 15 (.load true 4 (.tmp 14)),Oo 16 (.call (.tmp 11) [(.tmp 15)])] (Cd 16 (Sr [Mv 17 5,Mv 4 17] .ret) .skip)))) (.reg [Bc 18 .add 8 1,Mv 8 18]))))))) (Sr [Oo 4 (.mv (.const (.int .i64 (-1))))] .ret)))
theorem k221:ZaE Tryz.prog 221=some ⟨c221,[(.tmp 4)],19⟩:=by kernel_rfl
def c145:AC:=(Sr [Mc 4 0] (.seq (Sr [Mv 6 0,Oo 7 (.len false (.tmp 6)),Mc 8 0] (.block 0 (.loop (Sr [Bn 9 .lss 8 7] (.seq (Cd 9 .skip (.exit 0)) (.seq (.block 1 (Sr [Mv 10 8,Mv 5 10] (Sr [Mv 11 1,Mv 12 0,Mv 13 5,Oo 14 (.ia 4 (.tmp 12) (.tmp 13)),Oo 15 (.load true 4 (.tmp 14)),Oo 16 (.call (.tmp 11) [(.tmp 15)])] (Cd 16 (Sr [Mv 17 5,Mv 4 17] .ret) .skip)))) (.reg [Bc 18 .add 8 1,Mv 8 18]))))))) (Sr [Oo 4 (.mv (.const (.int .i64 (-1))))] .ret)))
theorem k145:ZaE Tryz.prog 145=some ⟨c145,[(.tmp 4)],19⟩:=by kernel_rfl
theorem Zei {α:Type}{p:α→Bool}{l:List α}{k:Nat}(hk:k<l.length) (h1:p l[k]=true) (h2 : ∀ j (hj:j<k),p (l[j]'(by omega))=false):l.findIdx p=k:=by
 have hlt:l.findIdx p<l.length:=List.findIdx_lt_length.2 ⟨_,List.getElem_mem hk,h1⟩
 rcases Nat.lt_trichotomy (l.findIdx p) k with e | e | e
 ·have a:=h2 _ e
  have b:=List.findIdx_getElem (w:=hlt)
  rw[a] at b;cases b
 ·exact e
 have:=List.not_of_lt_findIdx e
 rw[h1] at this;cases this
def idxV {α:Type}(p:α→Bool) (l:List α):Int:=if l.findIdx p<l.length then (l.findIdx p:Int) else -1
theorem ZfR {α:Type}(p:α→Bool) (l:List α):decide (0≤idxV p l)=l.any p:=by
 unfold idxV
 rw[Bool.eq_iff_iff,decide_eq_true_iff,List.any_eq_true]
 split
 ·rename_i h
  exact⟨fun _=>⟨_,List.getElem_mem h,List.findIdx_getElem (w:=h)⟩,fun _=>by omega⟩
 rename_i h
 constructor
 ·intro h2;omega
 rintro⟨x,hx,hp⟩;exact absurd (List.findIdx_lt_length.2 ⟨x,hx,hp⟩) h
theorem ixRulC_a {p:Rul→Bool}{f:FuncId}{caps:List AV}{l:List Rul}{full:Bool}{h:AH}(hp : ∀ c∈l,∀ E:AH,ACalls Tryz.prog f ([.agg (rulC c)]++caps) (h++E) fun x h'=>h'=h++E∧x=.ret (bv (p c))) (hl:l.length≤9223372036854775807) :
  Ac 234 [.sl l.length 11 full (rows rulC l),.clo (.func f) caps] h (iv (idxV p l)):=by
 refine tI' k234 fun N hn hlt hlA hbd=>?_
 simp only[tb'] at hbd ⊢
 refine wr'<|mw<|sn'<|Zag<|wr'<|mw<|Vw (ZaG lk)<|mw<|sn'<|Zam<|?_
 refine w_lp (ι:=Nat) (fun (k:Nat)=>[(8,iv (k:Int)),(4,.any),(5,.any)]++rn' 9 10) (fun (k:Nat)=>[]) (fun (k:Nat)=>k≤l.length ∧ ∀ j (hj:j<l.length),j<k→p l[j]=false) (fun (k:Nat)=>l.length-k) (0) (by exact⟨by omega,fun j hj h0=>absurd h0 om⟩) ?_
 rintro k hi1
 try simp only[sm',Nat.reduceAdd]
 obtain⟨hk1,hk2⟩:=hi1
 refine wr'<|Vw (ZaZ lk lk)<|sn'<|Zag<|?_
 refine cd' lk (fun hc1=>?_) (fun hc1=>?_)
 ·have hk:k<l.length:=by omega
  refine Zad<|Zae<|Zag<|Zam<|wr'<|mw<|mw<|sn'<|wr'<|mw<|mw<|?_
  refine mv' lk pt ?_
  refine V' (ZaJ lk lk Zck (nb' rfl) ro om ro rfl) pt ?_
  refine Vw (ZaF lk Zu9 rfl)<|ZiM lk mp (hp l[k] (List.getElem_mem hk) _) pt<|sn'<|?_
  refine Zaz lk (fun hc2=>?_) (fun hc2=>?_)
  ·refine wr'<|mw<|mw<|sn'<|Zaa<|Zas<|Zai<|Zai<|Zas<|Zai<|Zah rz<|rT'<|?_
   refine ivx ?_
   have hf:l.findIdx p=k:=Zei hk (by simpa using hc2) (fun j hj=>hk2 j om hj)
   rw[idxV,hf,if_pos hk]
  refine Zad<|ZaA<|Zae<|Zat<|?_
  refine V' (Zax lk lki om om) pt ?_
  refine mw<|Zaq<|ZaB<|?_
  refine lT' (k+1) (by (try dsimp only);refine⟨by omega,fun j hj h0=>?_⟩;by_cases e:j=k;subst e;simpa using hc2;exact hk2 j hj om)
 refine ZaD<|Zay<|Zay<|ZaU<|Zae<|wr'<|mw<|sn'<|Zaa<|Zah rz<|rT'<|?_
 refine ivx ?_
 have hf:l.findIdx p=l.length:=List.findIdx_eq_length.2 (fun x hx=>by obtain⟨i,hi,rfl⟩:=List.getElem_of_mem hx;exact hk2 i hi om)
 rw[idxV,hf,if_neg om]
theorem Zm8 {p:Rul→Bool}{f:FuncId}{caps:List AV}{l:List Rul}{full:Bool}{h:AH}(hp : ∀ c∈l,∀ E:AH,ACalls Tryz.prog f ([.agg (rulC c)]++caps) (h++E) fun x h'=>h'=h++E∧x=.ret (bv (p c))) (hl:l.length≤9223372036854775807) :
  Ac 157 [.sl l.length 11 full (rows rulC l),.clo (.func f) caps] h (bv (l.any p)):=by
 refine tI' k157 fun N hn hlt hlA hbd=>?_
 simp only[tb'] at hbd ⊢
 refine wr'<|mw<|sn'<|wr'<|mw<|mw<|?_
 refine Zaf mp (ixRulC_a (fun c hc E=>by have:=hp c hc E;rwa [List.append_nil]) hl) pt ?_
 refine Vw (Zf6 lk lki)<|mw<|sn'<|Zaa<|Zah rz<|rT'<|?_
 exact bvx (by first | exact ZfR p l | (rw[←ZfR];simp))
theorem ixZonC_a {p:Zon→Bool}{f:FuncId}{caps:List AV}{l:List Zon}{full:Bool}{h:AH}(hp : ∀ c∈l,∀ E:AH,ACalls Tryz.prog f ([.agg (zonC c)]++caps) (h++E) fun x h'=>h'=h++E∧x=.ret (bv (p c))) (hl:l.length≤9223372036854775807) :
  Ac 218 [.sl l.length 2 full (rows zonC l),.clo (.func f) caps] h (iv (idxV p l)):=by
 refine tI' k218 fun N hn hlt hlA hbd=>?_
 simp only[tb'] at hbd ⊢
 refine wr'<|mw<|sn'<|Zag<|wr'<|mw<|Vw (ZaG lk)<|mw<|sn'<|Zam<|?_
 refine w_lp (ι:=Nat) (fun (k:Nat)=>[(8,iv (k:Int)),(4,.any),(5,.any)]++rn' 9 10) (fun (k:Nat)=>[]) (fun (k:Nat)=>k≤l.length ∧ ∀ j (hj:j<l.length),j<k→p l[j]=false) (fun (k:Nat)=>l.length-k) (0) (by exact⟨by omega,fun j hj h0=>absurd h0 om⟩) ?_
 rintro k hi1
 try simp only[sm',Nat.reduceAdd]
 obtain⟨hk1,hk2⟩:=hi1
 refine wr'<|Vw (ZaZ lk lk)<|sn'<|Zag<|?_
 refine cd' lk (fun hc1=>?_) (fun hc1=>?_)
 ·have hk:k<l.length:=by omega
  refine Zad<|Zae<|Zag<|Zam<|wr'<|mw<|mw<|sn'<|wr'<|mw<|mw<|?_
  refine mv' lk pt ?_
  refine V' (ZaJ lk lk ZbI (nb' rfl) ro om ro rfl) pt ?_
  refine Vw (ZaF lk Zmb rfl)<|ZiM lk mp (hp l[k] (List.getElem_mem hk) _) pt<|sn'<|?_
  refine Zaz lk (fun hc2=>?_) (fun hc2=>?_)
  ·refine wr'<|mw<|mw<|sn'<|Zaa<|Zas<|Zai<|Zai<|Zas<|Zai<|Zah rz<|rT'<|?_
   refine ivx ?_
   have hf:l.findIdx p=k:=Zei hk (by simpa using hc2) (fun j hj=>hk2 j om hj)
   rw[idxV,hf,if_pos hk]
  refine Zad<|ZaA<|Zae<|Zat<|?_
  refine V' (Zax lk lki om om) pt ?_
  refine mw<|Zaq<|ZaB<|?_
  refine lT' (k+1) (by (try dsimp only);refine⟨by omega,fun j hj h0=>?_⟩;by_cases e:j=k;subst e;simpa using hc2;exact hk2 j hj om)
 refine ZaD<|Zay<|Zay<|ZaU<|Zae<|wr'<|mw<|sn'<|Zaa<|Zah rz<|rT'<|?_
 refine ivx ?_
 have hf:l.findIdx p=l.length:=List.findIdx_eq_length.2 (fun x hx=>by obtain⟨i,hi,rfl⟩:=List.getElem_of_mem hx;exact hk2 i hi om)
 rw[idxV,hf,if_neg om]
theorem ixZonT_a {p:Zon→Bool}{f:FuncId}{l:List Zon}{full:Bool}{h:AH}(hp : ∀ c∈l,∀ E:AH,ACalls Tryz.prog f [.agg (zonC c)] (h++E) fun x h'=>h'=h++E∧x=.ret (bv (p c))) (hl:l.length≤9223372036854775807) :
  Ac 218 [.sl l.length 2 full (rows zonC l),.v (.func (.func f) #[] #[])] h (iv (idxV p l)):=by
 refine tI' k218 fun N hn hlt hlA hbd=>?_
 simp only[tb'] at hbd ⊢
 refine wr'<|mw<|sn'<|Zag<|wr'<|mw<|Vw (ZaG lk)<|mw<|sn'<|Zam<|?_
 refine w_lp (ι:=Nat) (fun (k:Nat)=>[(8,iv (k:Int)),(4,.any),(5,.any)]++rn' 9 10) (fun (k:Nat)=>[]) (fun (k:Nat)=>k≤l.length ∧ ∀ j (hj:j<l.length),j<k→p l[j]=false) (fun (k:Nat)=>l.length-k) (0) (by exact⟨by omega,fun j hj h0=>absurd h0 om⟩) ?_
 rintro k hi1
 try simp only[sm',Nat.reduceAdd]
 obtain⟨hk1,hk2⟩:=hi1
 refine wr'<|Vw (ZaZ lk lk)<|sn'<|Zag<|?_
 refine cd' lk (fun hc1=>?_) (fun hc1=>?_)
 ·have hk:k<l.length:=by omega
  refine Zad<|Zae<|Zag<|Zam<|wr'<|mw<|mw<|sn'<|wr'<|mw<|mw<|?_
  refine mv' lk pt ?_
  refine V' (ZaJ lk lk ZbI (nb' rfl) ro om ro rfl) pt ?_
  refine Vw (ZaF lk Zmb rfl)<|ZiL lk mp (hp l[k] (List.getElem_mem hk) _) pt<|sn'<|?_
  refine Zaz lk (fun hc2=>?_) (fun hc2=>?_)
  ·refine wr'<|mw<|mw<|sn'<|Zaa<|Zas<|Zai<|Zai<|Zas<|Zai<|Zah rz<|rT'<|?_
   refine ivx ?_
   have hf:l.findIdx p=k:=Zei hk (by simpa using hc2) (fun j hj=>hk2 j om hj)
   rw[idxV,hf,if_pos hk]
  refine Zad<|ZaA<|Zae<|Zat<|?_
  refine V' (Zax lk lki om om) pt ?_
  refine mw<|Zaq<|ZaB<|?_
  refine lT' (k+1) (by (try dsimp only);refine⟨by omega,fun j hj h0=>?_⟩;by_cases e:j=k;subst e;simpa using hc2;exact hk2 j hj om)
 refine ZaD<|Zay<|Zay<|ZaU<|Zae<|wr'<|mw<|sn'<|Zaa<|Zah rz<|rT'<|?_
 refine ivx ?_
 have hf:l.findIdx p=l.length:=List.findIdx_eq_length.2 (fun x hx=>by obtain⟨i,hi,rfl⟩:=List.getElem_of_mem hx;exact hk2 i hi om)
 rw[idxV,hf,if_neg om]
theorem Zua {p:Zon→Bool}{f:FuncId}{l:List Zon}{full:Bool}{h:AH}(hp : ∀ c∈l,∀ E:AH,ACalls Tryz.prog f [.agg (zonC c)] (h++E) fun x h'=>h'=h++E∧x=.ret (bv (p c))) (hl:l.length≤9223372036854775807) :
  Ac 136 [.sl l.length 2 full (rows zonC l),.v (.func (.func f) #[] #[])] h (bv (l.any p)):=by
 refine tI' k136 fun N hn hlt hlA hbd=>?_
 simp only[tb'] at hbd ⊢
 refine wr'<|mw<|sn'<|wr'<|mw<|mw<|?_
 refine Zaf mp (ixZonT_a (fun c hc E=>by have:=hp c hc E;rwa [List.append_nil]) hl) pt ?_
 refine Vw (Zf6 lk lki)<|mw<|sn'<|Zaa<|Zah rz<|rT'<|?_
 exact bvx (by first | exact ZfR p l | (rw[←ZfR];simp))
theorem Zp6 {p:Lnk→Bool}{f:FuncId}{caps:List AV}{l:List Lnk}{full:Bool}{h:AH}(hp : ∀ c∈l,∀ E:AH,ACalls Tryz.prog f ([.agg (lnkC c)]++caps) (h++E) fun x h'=>h'=h++E∧x=.ret (bv (p c))) (hl:l.length≤9223372036854775807) :
  Ac 171 [.sl l.length 2 full (rows lnkC l),.clo (.func f) caps] h (iv (idxV p l)):=by
 refine tI' k171 fun N hn hlt hlA hbd=>?_
 simp only[tb'] at hbd ⊢
 refine wr'<|mw<|sn'<|Zag<|wr'<|mw<|Vw (ZaG lk)<|mw<|sn'<|Zam<|?_
 refine w_lp (ι:=Nat) (fun (k:Nat)=>[(8,iv (k:Int)),(4,.any),(5,.any)]++rn' 9 10) (fun (k:Nat)=>[]) (fun (k:Nat)=>k≤l.length ∧ ∀ j (hj:j<l.length),j<k→p l[j]=false) (fun (k:Nat)=>l.length-k) (0) (by exact⟨by omega,fun j hj h0=>absurd h0 om⟩) ?_
 rintro k hi1
 try simp only[sm',Nat.reduceAdd]
 obtain⟨hk1,hk2⟩:=hi1
 refine wr'<|Vw (ZaZ lk lk)<|sn'<|Zag<|?_
 refine cd' lk (fun hc1=>?_) (fun hc1=>?_)
 ·have hk:k<l.length:=by omega
  refine Zad<|Zae<|Zag<|Zam<|wr'<|mw<|mw<|sn'<|wr'<|mw<|mw<|?_
  refine mv' lk pt ?_
  refine V' (ZaJ lk lk ZcM (nb' rfl) ro om ro rfl) pt ?_
  refine Vw (ZaF lk Zmb rfl)<|ZiM lk mp (hp l[k] (List.getElem_mem hk) _) pt<|sn'<|?_
  refine Zaz lk (fun hc2=>?_) (fun hc2=>?_)
  ·refine wr'<|mw<|mw<|sn'<|Zaa<|Zas<|Zai<|Zai<|Zas<|Zai<|Zah rz<|rT'<|?_
   refine ivx ?_
   have hf:l.findIdx p=k:=Zei hk (by simpa using hc2) (fun j hj=>hk2 j om hj)
   rw[idxV,hf,if_pos hk]
  refine Zad<|ZaA<|Zae<|Zat<|?_
  refine V' (Zax lk lki om om) pt ?_
  refine mw<|Zaq<|ZaB<|?_
  refine lT' (k+1) (by (try dsimp only);refine⟨by omega,fun j hj h0=>?_⟩;by_cases e:j=k;subst e;simpa using hc2;exact hk2 j hj om)
 refine ZaD<|Zay<|Zay<|ZaU<|Zae<|wr'<|mw<|sn'<|Zaa<|Zah rz<|rT'<|?_
 refine ivx ?_
 have hf:l.findIdx p=l.length:=List.findIdx_eq_length.2 (fun x hx=>by obtain⟨i,hi,rfl⟩:=List.getElem_of_mem hx;exact hk2 i hi om)
 rw[idxV,hf,if_neg om]
theorem Zub {p:Lnk→Bool}{f:FuncId}{caps:List AV}{l:List Lnk}{full:Bool}{h:AH}(hp : ∀ c∈l,∀ E:AH,ACalls Tryz.prog f ([.agg (lnkC c)]++caps) (h++E) fun x h'=>h'=h++E∧x=.ret (bv (p c))) (hl:l.length≤9223372036854775807) :
  Ac 213 [.sl l.length 2 full (rows lnkC l),.clo (.func f) caps] h (bv (l.any p)):=by
 refine tI' k213 fun N hn hlt hlA hbd=>?_
 simp only[tb'] at hbd ⊢
 refine wr'<|mw<|sn'<|wr'<|mw<|mw<|?_
 refine Zaf mp (Zp6 (fun c hc E=>by have:=hp c hc E;rwa [List.append_nil]) hl) pt ?_
 refine Vw (Zf6 lk lki)<|mw<|sn'<|Zaa<|Zah rz<|rT'<|?_
 exact bvx (by first | exact ZfR p l | (rw[←ZfR];simp))
theorem ixPrtC_a {p:Chg→Bool}{f:FuncId}{caps:List AV}{l:List Chg}{full:Bool}{h:AH}(hp : ∀ c∈l,∀ E:AH,ACalls Tryz.prog f ([.agg (chgC c)]++caps) (h++E) fun x h'=>h'=h++E∧x=.ret (bv (p c))) (hl:l.length≤9223372036854775807) :
  Ac 221 [.sl l.length 4 full (rows chgC l),.clo (.func f) caps] h (iv (idxV p l)):=by
 refine tI' k221 fun N hn hlt hlA hbd=>?_
 simp only[tb'] at hbd ⊢
 refine wr'<|mw<|sn'<|Zag<|wr'<|mw<|Vw (ZaG lk)<|mw<|sn'<|Zam<|?_
 refine w_lp (ι:=Nat) (fun (k:Nat)=>[(8,iv (k:Int)),(4,.any),(5,.any)]++rn' 9 10) (fun (k:Nat)=>[]) (fun (k:Nat)=>k≤l.length ∧ ∀ j (hj:j<l.length),j<k→p l[j]=false) (fun (k:Nat)=>l.length-k) (0) (by exact⟨by omega,fun j hj h0=>absurd h0 om⟩) ?_
 rintro k hi1
 try simp only[sm',Nat.reduceAdd]
 obtain⟨hk1,hk2⟩:=hi1
 refine wr'<|Vw (ZaZ lk lk)<|sn'<|Zag<|?_
 refine cd' lk (fun hc1=>?_) (fun hc1=>?_)
 ·have hk:k<l.length:=by omega
  refine Zad<|Zae<|Zag<|Zam<|wr'<|mw<|mw<|sn'<|wr'<|mw<|mw<|?_
  refine mv' lk pt ?_
  refine V' (ZaJ lk lk Zcn (nb' rfl) ro om ro rfl) pt ?_
  refine Vw (ZaF lk Zqy rfl)<|ZiM lk mp (hp l[k] (List.getElem_mem hk) _) pt<|sn'<|?_
  refine Zaz lk (fun hc2=>?_) (fun hc2=>?_)
  ·refine wr'<|mw<|mw<|sn'<|Zaa<|Zas<|Zai<|Zai<|Zas<|Zai<|Zah rz<|rT'<|?_
   refine ivx ?_
   have hf:l.findIdx p=k:=Zei hk (by simpa using hc2) (fun j hj=>hk2 j om hj)
   rw[idxV,hf,if_pos hk]
  refine Zad<|ZaA<|Zae<|Zat<|?_
  refine V' (Zax lk lki om om) pt ?_
  refine mw<|Zaq<|ZaB<|?_
  refine lT' (k+1) (by (try dsimp only);refine⟨by omega,fun j hj h0=>?_⟩;by_cases e:j=k;subst e;simpa using hc2;exact hk2 j hj om)
 refine ZaD<|Zay<|Zay<|ZaU<|Zae<|wr'<|mw<|sn'<|Zaa<|Zah rz<|rT'<|?_
 refine ivx ?_
 have hf:l.findIdx p=l.length:=List.findIdx_eq_length.2 (fun x hx=>by obtain⟨i,hi,rfl⟩:=List.getElem_of_mem hx;exact hk2 i hi om)
 rw[idxV,hf,if_neg om]
theorem ixChgC_a {p:Chg→Bool}{f:FuncId}{caps:List AV}{l:List Chg}{full:Bool}{h:AH}(hp : ∀ c∈l,∀ E:AH,ACalls Tryz.prog f ([.agg (chgC c)]++caps) (h++E) fun x h'=>h'=h++E∧x=.ret (bv (p c))) (hl:l.length≤9223372036854775807) :
  Ac 145 [.sl l.length 4 full (rows chgC l),.clo (.func f) caps] h (iv (idxV p l)):=by
 refine tI' k145 fun N hn hlt hlA hbd=>?_
 simp only[tb'] at hbd ⊢
 refine wr'<|mw<|sn'<|Zag<|wr'<|mw<|Vw (ZaG lk)<|mw<|sn'<|Zam<|?_
 refine w_lp (ι:=Nat) (fun (k:Nat)=>[(8,iv (k:Int)),(4,.any),(5,.any)]++rn' 9 10) (fun (k:Nat)=>[]) (fun (k:Nat)=>k≤l.length ∧ ∀ j (hj:j<l.length),j<k→p l[j]=false) (fun (k:Nat)=>l.length-k) (0) (by exact⟨by omega,fun j hj h0=>absurd h0 om⟩) ?_
 rintro k hi1
 try simp only[sm',Nat.reduceAdd]
 obtain⟨hk1,hk2⟩:=hi1
 refine wr'<|Vw (ZaZ lk lk)<|sn'<|Zag<|?_
 refine cd' lk (fun hc1=>?_) (fun hc1=>?_)
 ·have hk:k<l.length:=by omega
  refine Zad<|Zae<|Zag<|Zam<|wr'<|mw<|mw<|sn'<|wr'<|mw<|mw<|?_
  refine mv' lk pt ?_
  refine V' (ZaJ lk lk Zcn (nb' rfl) ro om ro rfl) pt ?_
  refine Vw (ZaF lk Zqy rfl)<|ZiM lk mp (hp l[k] (List.getElem_mem hk) _) pt<|sn'<|?_
  refine Zaz lk (fun hc2=>?_) (fun hc2=>?_)
  ·refine wr'<|mw<|mw<|sn'<|Zaa<|Zas<|Zai<|Zai<|Zas<|Zai<|Zah rz<|rT'<|?_
   refine ivx ?_
   have hf:l.findIdx p=k:=Zei hk (by simpa using hc2) (fun j hj=>hk2 j om hj)
   rw[idxV,hf,if_pos hk]
  refine Zad<|ZaA<|Zae<|Zat<|?_
  refine V' (Zax lk lki om om) pt ?_
  refine mw<|Zaq<|ZaB<|?_
  refine lT' (k+1) (by (try dsimp only);refine⟨by omega,fun j hj h0=>?_⟩;by_cases e:j=k;subst e;simpa using hc2;exact hk2 j hj om)
 refine ZaD<|Zay<|Zay<|ZaU<|Zae<|wr'<|mw<|sn'<|Zaa<|Zah rz<|rT'<|?_
 refine ivx ?_
 have hf:l.findIdx p=l.length:=List.findIdx_eq_length.2 (fun x hx=>by obtain⟨i,hi,rfl⟩:=List.getElem_of_mem hx;exact hk2 i hi om)
 rw[idxV,hf,if_neg om]
end Go.Proofs.YtlekejpogddndaaGreatDoor
end
section
namespace Go.Proofs.YtlekejpogddndaaGreatDoor
open Go.Ab Civ
attribute [local simp] Zcv
section
theorem Zpl {a0 a1 a2:AV}{l:List AV}:(a0::a1::a2::l).take 3=[a0,a1,a2]:=rfl
theorem ZcA {a0 a1 a2 c0 c1 c2:AV}{l:List AV}:setCells (a0::a1::a2::l) 0 [c0,c1,c2]=c0::c1::c2::l:=rfl
theorem ZbP {a0 a1 a2:AV}{l:List AV}:((a0::a1::a2::l).drop 0).take 3=[a0,a1,a2]:=rfl
theorem ZfJ {τ:Operand→AV}{y0 y1:Operand}{x0_0 x0_1 x0_2 x1_0:AV}(h0:Zav (τ y0)=some [x0_0,x0_1,x0_2]) (l0:[x0_0,x0_1,x0_2].all leaf=true) (h1:Zav (τ y1)=some [x1_0]) (l1:[x1_0].all leaf=true):Zau τ [(0,3,y0),(3,1,y1)] [(.v (.int .i64 0)),(.v (.int .i64 0)),(.v (.string ⟨#[]⟩)),(.sl 0 0 true [])]=some [x0_0,x0_1,x0_2,x1_0]:=by
 simp only[Zau,h0,l0,h1,l1]
 rfl
theorem ZfI {τ:Operand→AV}{y0:Operand}{x0_0 x0_1 x0_2 x0_3:AV}(h0:Zav (τ y0)=some [x0_0,x0_1,x0_2,x0_3]) (l0:[x0_0,x0_1,x0_2,x0_3].all leaf=true):Zau τ [(0,4,y0)] [(.v (.int .i64 0)),(.v (.int .i64 0)),(.v (.string ⟨#[]⟩)),(.sl 0 0 true [])]=some [x0_0,x0_1,x0_2,x0_3]:=by
 simp only[Zau,h0,l0]
 rfl
theorem ZjP { e:Ent}:([]:AH)++[e]=[e]:=rfl
theorem Zh8 {e0 e1 e2 d0:Ent}:([e0,e1,e2]:AH)++[d0]=[e0,e1,e2,d0]:=rfl
theorem Zh7 {a0 a1 a2 a3:AV}{l:List AV}:((a0::a1::a2::a3::l).drop 0).take 4=[a0,a1,a2,a3]:=rfl
theorem Zmd {τ:Operand→AV}:Zau τ [] [(.v (.int .i64 0)),(.v (.int .i64 0)),(.v (.string ⟨#[]⟩))]=some [(.v (.int .i64 0)),(.v (.int .i64 0)),(.v (.string ⟨#[]⟩))]:=rfl
theorem Zj0 {τ:Operand→AV}:Zau τ [] [(.v (.int .i64 0)),(.v (.int .i64 0)),(.v (.string ⟨#[]⟩))]=some [(.v (.int .i64 0)),(.v (.int .i64 0)),(.v (.string ⟨#[]⟩))]:=rfl
end
def c147:AC:=(Sr [Oo 2 (.new 29 3 [(iv 0),(iv 0),Ss])] (.seq (Sr [Mv 4 0,Nk 5 4,Fa 6 0 5,Fa 7 3 6,Ld 8 7,Oo 9 (.len false (.tmp 8)),Mv 3 9] (Sr [Mv 10 3,Bc 11 .gtr 10 0] (Cd 11 (Sr [Mv 12 0,Nk 13 12,Fa 14 0 13,Fa 15 3 14,Ld 16 15,Mv 17 3,Bc 18 .sub 17 1,Oo 19 (.ia 4 (.tmp 16) (.tmp 18)),Fa 20 1 19,Oo 21 (.load true 3 (.tmp 20)),⟨none,none,(.store 3 (.tmp 2) (.tmp 21))⟩] .ret) .skip))) (Sr [Mv 22 0,Nk 23 22,Fa 24 0 23,Fa 25 0 24,Oo 26 (.load true 3 (.tmp 25)),⟨none,none,(.store 3 (.tmp 2) (.tmp 26))⟩] .ret)))
theorem k147:ZaE Tryz.prog 147=some ⟨c147,[(.cell 2 true 3)],27⟩:=by kernel_rfl
def c146:AC:=(Sr [Oo 2 (.box 68 4 (.tmp 0)),Mb 3 false] (Sr [Fa 4 0 2,Ld 5 4,Ld 6 1,Bn 7 .gtr 5 6,Mv 3 7] .ret))
theorem k146:ZaE Tryz.prog 146=some ⟨c146,[(.tmp 3)],8⟩:=by kernel_rfl
def c71:AC:=(Sr [Oo 2 (.box 40 4 (.tmp 0)),Oo 3 (.box 3 1 (.tmp 1)),Oo 4 (.new 29 3 [(iv 0),(iv 0),Ss])] (Sr [Fa 7 3 2,Ld 8 7,Oo 9 (.mkfn 146 [(.tmp 3)]),Cl 10 145 [(.tmp 8),(.tmp 9)],Mv 5 10] (.seq (Sr [Mv 11 5,Bc 12 .lss 11 0] (Cd 12 (.reg [Fa 13 3 2,Ld 14 13,Oo 15 (.len false (.tmp 14)),Mv 5 15]) .skip)) (Sd [Fa 16 0 2,Oo 17 (.load true 3 (.tmp 16)),Fa 18 3 2,Ld 19 18,Mv 20 5,Oo 21 (.slc 4 (.tmp 19) none (some (.tmp 20)) none),Oo 22 (.build [(iv 0),(iv 0),Ss,(.sl 0 0 true [])] [(0,(3,(.tmp 17))),(3,(1,(.tmp 21)))]),Oo 23 (.build [(iv 0),(iv 0),Ss,(.sl 0 0 true [])] [(0,(4,(.tmp 22)))]),Oo 24 (.box 198 4 (.tmp 23)),Mv 6 24] (Sr [Mv 25 6,Cl 26 147 [(.tmp 25)],⟨none,none,(.store 3 (.tmp 4) (.tmp 26))⟩] .ret)))))
theorem k71:ZaE Tryz.prog 71=some ⟨c71,[(.cell 4 true 3)],27⟩:=by kernel_rfl
def c17:AC:=(Sr [Oo 2 (.box 40 4 (.tmp 0)),Oo 4 (.new 29 3 [(iv 0),(iv 0),Ss]),Mc 5 0] (.seq (Sr [Oo 7 (.load true 4 (.tmp 2)),Cl 8 23 [(.tmp 7)],Mv 6 8] (Sr [Mv 9 6,Bc 10 .neq 9 0] (Cd 10 (Sr [Oo 11 (.build [(iv 0),(iv 0),Ss] []),Mv 12 6,⟨none,none,(.store 3 (.tmp 4) (.tmp 11))⟩,Mv 5 12] .ret) .skip))) (.seq (Sr [Mv 13 1,Cl 14 70 [(.tmp 13)],Oo 15 (.un .not (.tmp 14))] (Cd 15 (Sr [Oo 16 (.build [(iv 0),(iv 0),Ss] []),⟨none,none,(.store 3 (.tmp 4) (.tmp 16))⟩,Mc 5 3] .ret) .skip)) (Sr [Oo 17 (.load true 4 (.tmp 2)),Mv 18 1,Cl 19 71 [(.tmp 17),(.tmp 18)],⟨none,none,(.store 3 (.tmp 4) (.tmp 19))⟩,Mc 5 0] .ret))))
theorem k17:ZaE Tryz.prog 17=some ⟨c17,[(.cell 4 true 3),(.tmp 5)],20⟩:=by kernel_rfl
abbrev locC (l:Loc):List AV:=[iv l.1,iv l.2.1,sv l.2.2]
theorem there1_a {c:Chg}{n:Int}{h:AH}:Ac 146 [.agg [iv c.1,iv c.2.1,iv c.2.2.1,sv c.2.2.2],.rp [iv n]] h (bv (decide (n<c.1))):=by
 refine tI' k146 fun N hn hlt hlA hbd=>?_
 simp only[tb'] at hbd ⊢
 refine wr'<|E' (Zbc cv rfl (hl0 hn) ha0) pt<|mw<|sn'<|wr'<|Vw (Zac lk)<|Vw (Zab lk gx gt0)<|Vw (Zar lk gt)<|Vw (Zbz lk lk)<|mw<|Zaq<|?_
 refine Zae<|Zaa<|Zah rz<|rT'<|?_
 refine bvx ?_;first | rfl | (rw[Bool.eq_iff_iff];simp)
theorem indexF_a {p:Chg→Bool}{f:FuncId}{caps:List AV}(hp : ∀ (c:Chg) (h:AH),ACalls Tryz.prog f ([.agg [iv c.1,iv c.2.1,iv c.2.2.1,sv c.2.2.2]]++caps) h fun x h'=>h'=h∧x=.ret (bv (p c))) {l:List Chg}{full:Bool}{h:AH}(hl:l.length≤9223372036854775807) :
  Ac 145 [.sl l.length 4 full (rows chgC l),.clo (.func f) caps] h (iv (if l.findIdx p<l.length then (l.findIdx p:Int) else -1)):=ixChgC_a (fun c _ E=>hp c _) hl
def Zm4 (a:Loc):List Chg→Loc
 | []=>a
 | c::l=>Zm4 c.2 l
theorem Zg0 : ∀ {a:Loc}{l:List Chg}(h:0<l.length),Zm4 a l=(l[l.length-1]'(by omega)).2
 | a,[c],_=>rfl
 | a,c::d::l,_=>by
  rw[Zm4,Zg0 (l:=d::l) (by simp)]
  rfl
def ZkI (t:Tab) (n:Int):Nat:=t.2.findIdx (fun c=>decide (n<c.1))
theorem ZuP (t:Tab) (n:Int):ZkI t n≤t.2.length:=List.findIdx_le_length
def ZgJ (t:Tab) (n:Int):Loc:=Zm4 t.1 (t.2.take (ZkI t n))
theorem ZtL {a b:Int}{c:ByteArray}{l:List Chg}{full:Bool}{id v0 ty:Nat}{h:AH}(h1:h[id]?=some (.mk v0 ty 4 [iv a,iv b,sv c,.sl l.length 4 full (rows chgC l)])) (hl:l.length≤9223372036854775807) :
  Ac 147 [.ptr id v0 0] h (.agg [iv (Zm4 (a,b,c) l).1,iv (Zm4 (a,b,c) l).2.1,sv (Zm4 (a,b,c) l).2.2]):=by
 have hid:id<h.length:=(List.getElem?_eq_some_iff.1 h1).1
 refine tI' k147 fun N hn hlt hlA hbd=>?_
 simp only[tb'] at hbd ⊢
 refine wr'<|E' (Za7 (hl0 hn) ha0) pt<|sn'<|Zag<|wr'<|mw<|Vw (ZbE lk)<|Vw (Zac lk)<|Vw (Zac lk)<|Vw (Zab lk (Zfc h1) gt3)<|Vw (ZaG lk)<|?_
 refine mw<|sn'<|wr'<|mw<|Vw (Zbz lk lki)<|sn'<|?_
 refine cd' lk (fun hc1=>?_) (fun hc1=>?_)
 ·have hl0:0<l.length:=by omega
  refine wr'<|mw<|Vw (ZbE lk)<|Vw (Zac lk)<|Vw (Zac lk)<|Vw (Zab lk (Zfc h1) gt3)<|mw<|?_
  refine V' (Zbm lk lki om om) pt ?_
  refine V' (ZaJ (k:=l.length-1) lk lk Zcn (nb' rfl) ro om ro rfl) pt ?_
  refine Vw (ZaR lk dp1)<|Vw (ZaF lk Zpl rfl)<|E' (Zaj lk cv gx rfl (nb' rfl) rfl ZcA (hs0 hn)) ptn<|sn'<|Zaa<|Zai<|Zah (rs1 (rr_c gt gx (ld1 ZbP rfl)))<|rT'<|?_
  rw[Zg0 hl0]
 have hl0:l=[]:=List.eq_nil_of_length_eq_zero om
 refine Zad<|Zae<|wr'<|mw<|Vw (ZbE lk)<|Vw (Zac lk)<|Vw (Zac lk)<|Vw (Zao lk (Zfc h1) ZbP rfl)<|E' (Zaj lk cv gx rfl (nb' rfl) rfl ZcA (hs0 hn)) ptn<|sn'<|Zaa<|Zah (rs1 (rr_c gt gx (ld1 ZbP rfl)))<|?_
 refine rT' ?_
 subst hl0;rfl
theorem there_a {t:Tab}{n:Int}{full:Bool}{h:AH}(hl:t.2.length≤9223372036854775807) :
  Ac 71 [.agg [iv t.1.1,iv t.1.2.1,sv t.1.2.2,.sl t.2.length 4 full (rows chgC t.2)],iv n] h (.agg [iv (ZgJ t n).1,iv (ZgJ t n).2.1,sv (ZgJ t n).2.2]):=by
 have haf:=ZuP t n
 refine tI' k71 fun N hn hlt hlA hbd=>?_
 simp only[tb'] at hbd ⊢
 refine wr'<|E' (Zbc cv rfl (hl0 hn) ha0) pt<|E' (Zbc cv rfl (hl1 hn) ha1) pt<|E' (Za7 (hl2 hn) ha2) pt<|Zaq<|?_
 refine Za1 (ALe.icePtr gx gt3 (by simp) pt3 (hs1 hn)) ?_
 refine wr'<|Vw (Zac lk)<|Vw (Zab lk gx gt3)<|Vw (ZgG mp)<|?_
 refine Zaf mp (indexF_a (p:=fun c=>decide (n<c.1)) (l:=t.2) (fun c h=>there1_a) hl) pt ?_
 refine mw<|sn'<|Zag<|wr'<|mw<|Vw (ZaZ lk lki)<|sn'<|?_
 refine cd' lk (fun hc1=>?_) (fun hc1=>?_)
 ·have he:ZkI t n=t.2.length:=by have haf2:=haf;unfold ZkI at haf2 ⊢;rcases Nat.lt_or_ge (t.2.findIdx fun c=>decide (n<c.1)) t.2.length with e | e;rw[if_pos e] at hc1;omega;omega
  refine Zat<|Vw (Zac lk)<|Vw (Zab lk gx gt3)<|Vw (ZaG lk)<|mw<|sn'<|Zag<|Za2<|Dw (Zac lk)<|Dw (Zao lk gx ZbP rfl)<|Dw (Zac lk)<|Dw (Zab lk gx gt3)<|Dw (v_mv lk)<|?_
  refine D' (v_hi (k:=t.2.length) lk lk Zcn ro om ro) pt ?_
  refine Dw (Zaw (ZfJ cv rfl cv rfl))<|Dw (Zaw (ZfI cv rfl))<|Zep rfl rfl (hlk hn rfl) (l_box cv rfl) pt ZjP<|Dw (v_mv lk)<|Za8<|?_
  refine Zez Zh8 ?_
  refine sn'<|wr'<|mw<|?_
  refine Zaf mp (ZtL (l:=t.2.take t.2.length) gx (by rw[List.length_take];omega)) pt ?_
  refine E' (Zaj lk cv gx rfl (nb' rfl) rfl ZcA (hs2 hn)) ptn<|sn'<|Zaa<|Zah (rs1 (rr_c gt gx (ld1 ZbP rfl)))<|rT'<|?_
  rw[ZgJ,he]
 have he:t.2.findIdx (fun c=>decide (n<c.1))<t.2.length:=by rcases Nat.lt_or_ge (t.2.findIdx fun c=>decide (n<c.1)) t.2.length with e | e;exact e;rw[if_neg om] at hc1;omega
 rw[if_pos he] at *
 refine Zad<|Zae<|Zag<|Za2<|Dw (Zac lk)<|Dw (Zao lk gx ZbP rfl)<|Dw (Zac lk)<|Dw (Zab lk gx gt3)<|Dw (v_mv lk)<|?_
 refine D' (v_hi (k:=ZkI t n) lk lk Zcn ro om ro) pt ?_
 refine Dw (Zaw (ZfJ cv rfl cv rfl))<|Dw (Zaw (ZfI cv rfl))<|Zep rfl rfl (hlk hn rfl) (l_box cv rfl) pt ZjP<|Dw (v_mv lk)<|Za8<|?_
 refine Zez Zh8 ?_
 refine sn'<|wr'<|mw<|?_
 refine Zaf mp (ZtL (l:=t.2.take (ZkI t n)) gx (by rw[List.length_take];omega)) pt ?_
 exact E' (Zaj lk cv gx rfl (nb' rfl) rfl ZcA (hs2 hn)) ptn<|sn'<|Zaa<|Zah (rs1 (rr_c gt gx (ld1 ZbP rfl)))<|rT' rfl
theorem tlook_a {t:Tab}{n:Int}{full:Bool}{h:AH}(ht:okT t) :
  Ac 17 [.agg [iv t.1.1,iv t.1.2.1,sv t.1.2.2,.sl t.2.length 4 full (rows chgC t.2)],iv n] h (.tup [.agg (locC (if Zcj t=0∧Zek n=true then ZgJ t n else (0,0,⟨#[]⟩))),iv (if Zcj t≠0 then Zcj t else if Zek n=true then 0 else 3)]):=by
 refine tI' k17 fun N hn hlt hlA hbd=>?_
 simp only[tb'] at hbd ⊢
 refine wr'<|E' (Zbc cv rfl (hl0 hn) ha0) pt<|E' (Za7 (hl1 hn) ha1) pt<|mw<|sn'<|Zag<|wr'<|Vw (Zao lk gx Zh7 rfl)<|Zaf mp (ZuD (l:=t.2) ht.1 ht.2) pt<|mw<|Zaq<|?_
 refine Zae<|wr'<|mw<|Vw (Za9 lk lki)<|sn'<|?_
 refine cd' lk (fun hc1=>?_) (fun hc1=>?_)
 ·have hv:Zcj t≠0:=hc1
  refine wr'<|Vw (Zaw Zmd)<|mw<|E' (Zaj lk cv gx rfl (nb' rfl) rfl ZcA (hs1 hn)) ptn<|mw<|sn'<|Zaa<|Zai<|Zah (rsn (rm1 (rr_c gt gx (ld1 ZbP rfl)) (rm1 (rr_t gt) rm0)))<|rT'<|?_
  rw[if_neg (fun e=>hv e.1),if_pos hv]
 have hv:Zcj t=0:=Decidable.of_not_not hc1
 refine Zad<|Zae<|Zag<|wr'<|mw<|Zaf mp (time_a) pt<|Vw (ZaC lk)<|sn'<|?_
 refine Zaz lk (fun hc2=>?_) (fun hc2=>?_)
 ·have hb:Zek n=false:=by simpa using hc2
  refine wr'<|Vw (Zaw Zj0)<|E' (Zaj lk cv gx rfl (nb' rfl) rfl ZcA (hs1 hn)) ptn<|mw<|sn'<|Zaa<|Zai<|Zah (rsn (rm1 (rr_c gt gx (ld1 ZbP rfl)) (rm1 (rr_t gt) rm0)))<|rT'<|?_
  rw[if_neg (by rw[hb];simp),if_neg (by simpa using hv),if_neg (by rw[hb];simp)]
 have hb:Zek n=true:=by simpa using hc2
 refine Zad<|Zae<|wr'<|Vw (Zao lk gx Zh7 rfl)<|mw<|?_
 refine Zaf mp (there_a (t:=t) (by have:=Zrl hv;omega)) pt ?_
 refine E' (Zaj lk cv gx rfl (nb' rfl) rfl ZcA (hs1 hn)) ptn<|mw<|sn'<|Zaa<|Zah (rsn (rm1 (rr_c gt gx (ld1 ZbP rfl)) (rm1 (rr_t gt) rm0)))<|rT'<|?_
 rw[if_pos ⟨hv,hb⟩,if_neg (by simpa using hv),if_pos hb]
end Go.Proofs.YtlekejpogddndaaGreatDoor
end
section
namespace Go.Ab
section
variable {P : Program} {n0 : Nat} {Q : AX → List AV → AH → Prop} {T : List AV} {h : AH} {a : AC}
theorem Zpq {b:AC}{ι:Type}(f:ι→List (Nat×AV)) (H:ι→AH) (J:ι→Prop) (ha:aw P n0 a (AX.thn (fun T' h' => ∃ i,J i∧ALe n0 T' h' (ZdK T (f i)) (H i)) Q) T h) (hb : ∀ i,J i→aw P n0 b Q (ZdK T (f i)) (H i)):aw P n0 (.seq a b) Q T h :=
 w_seqc (fun i=>(ZdK T (f i),H i)) J ha hb
theorem SimH.renew {w:World}{g:Gh}{h:AH}(hs:SimH w g h) {id v':Nat}(hid:id<h.length) (hb : ∀ ver l,g.loc id ver=some l→ver<v') (A:Option Addr) (ty st:Nat) :
  SimH w (g.add id v' (A,0)) (h.set id (.mk v' ty st []))∧g.le (g.add id v' (A,0)) ∧ ∀ k,Ow (g.add id v' (A,0)) (h.set id (.mk v' ty st [])) k→Ow g h k:=by
 have hloc : ∀ i v l,g.loc i v=some l→(g.add id v' (A,0)).loc i v=some l:=by
  intro i v l hi
  simp only[Gh.add]
  rw[if_neg]
  ·exact hi
  ·rintro⟨rfl,rfl⟩;exact Nat.lt_irrefl _ (hb _ _ hi)
 have:=hs.put (w':=w) (g':=g.add id v' (A,0)) (h':=h.set id (.mk v' ty st [])) id v' ty st [] A 0 ?_ ?_ ?_ rfl hloc ?_ ?_ (fun v l hl=>Nat.le_of_lt (hb v l hl)) (fun k hk=>rfl) (Nat.le_refl _) (by simp[maxLen]) (.inl ⟨rfl,rfl⟩) (fun _ _ h=>absurd rfl h)
 ·exact⟨this.1,this.2.1,fun k hk=>(this.2.2 k hk).resolve_right (fun h=>h.2 rfl)⟩
 ·intro i hi
  rw[List.getElem?_set_ne (Ne.symm hi)]
 ·rw[List.getElem?_set_self hid]
 ·simp
 ·intro i v l hi
  simp only[Gh.add] at hi
  split at hi
  ·right;assumption
  ·left;exact hi
 ·simp[Gh.add]
theorem ZmC {h:AH}{i j:Nat}{x y z:Ent}(hne:j≠i):((h.set i x).set j y).set i z=(h.set i z).set j y:=by
 rw[List.set_comm _ _ hne,List.set_set]
theorem ALe.iceCellNew {T:List AV}{h h1 h2:AH}{id j ver ty s n k v' t' s' ty2 st2:Nat}{cells cs cs' ds:List AV}(hi:h[id]?=some (.mk ver ty s cells)) (hj:h[j]?=some (.mk v' t' s' cs)) (hne:j≠id) (hk:cs[k]?=some (.own id ver n)) (hc:cells.take (n*s)=ds) (hl:n*s≤cells.length) (hp:aPut cs (some k) (.sl n s false ds)=cs')
  (e1:h.set id (.mk (ver+1) ty2 st2 [])=h1) (e2:h1.set j (.mk v' t' s' cs')=h2):ALe n0 T h T h2:=fun w0 S0 g0 a w g st=>by
 subst hp hc e1 e2
 have hid:id<h.length:=(List.getElem?_eq_some_iff.1 hi).1
 obtain⟨h1,h2,h3⟩:=st.sim.ice hi
 have htm:=RepL.mono (g.le_ice h id) (fun _ _=>rfl) _ _ st.tmps
 obtain⟨k1,k2⟩:=h1.tell (id:=j) (by rw[List.getElem?_set_ne (Ne.symm hne)];exact hj) hk (fun u hu=>h3 n u hl (by
  simp only[Rep] at hu ⊢
  exact hu))
 obtain⟨r1,r2,r3⟩:=k1.renew (id:=id) (v':=ver+1) (by simpa using hid) (fun v l hv=>by
  have:=(st.sim.fresh id v l hv).2 _ _ _ _ hi
  omega) none ty2 st2
 have htm2:=RepL.mono r2 (fun _ _=>rfl) _ _ htm
 rw[ZmC hne] at r1 r3
 exact⟨_,htm2,st.defers,r1,st.fr,(st.le.trans (g.le_ice h id)).trans r2,st.bd,fun i hi=>st.ow i (h2 i (k2 i (r3 i hi)))⟩
theorem ALe.own0CellRe {T:List AV}{h h1:AH}{id j ver ty s v' t' s' k st st2 ty2:Nat}{cells cs ds cs':List AV}(hi:h[id]?=some (.mk ver ty s cells)) (hj:h[j]?=some (.mk v' t' s' cs)) (hne:j≠id) (hk:cs[k]?=some (.sl 0 st true ds)) (hp:aPut cs (some k) (.own id (ver+1) 0)=cs') (he:(h.set id (Ent.mk (ver+1) ty2 st2 [])).set j (Ent.mk v' t' s' cs')=h1):ALe n0 T h T h1:=fun w0 S0 g0 a w g s=>by
 subst he hp
 obtain⟨A1,cap1,l1,l2,l3⟩:=s.sim.ent _ _ _ _ _ hj
 have hid:id<h.length:=(List.getElem?_eq_some_iff.1 hi).1
 have hjl:j<h.length:=(List.getElem?_eq_some_iff.1 hj).1
 rcases l3 with ⟨h0,_⟩ | ⟨b,arr,rfl,x1,x2,x3,x4,x5,x6⟩
 ·rw[h0] at hk;simp at hk
 obtain⟨u,hu,hr⟩:=x6.get hk
 have hcell:w.cell? ⟨b,k,none⟩=some u:=by
  rw[cell_of_row w b k arr t' (0,0) x3]
  rw[List.getElem?_take] at hu
  split at hu
  ·simpa using hu
  ·cases hu
 simp only[Rep] at hr
 obtain⟨_,A,cap,rfl,_,_,hc,_,_⟩:=hr
 obtain rfl:cap=0:=(hc trivial).symm
 obtain⟨q1,q2,q3⟩:=s.sim.renew (id:=id) (v':=ver+1) hid (fun v l hv=>by
  have:=(s.sim.fresh id v l hv).2 _ _ _ _ hi
  omega) A ty2 st2
 have htm:=RepL.mono q2 (fun _ _=>rfl) _ _ s.tmps
 obtain⟨r1,r2⟩:=q1.tell1 (id:=j) (c':=.own id (ver+1) 0) (by rw[List.getElem?_set_ne (Ne.symm hne)];exact hj) hk (by
  intro b' cap' u' e1 e2 _
  have:=q2.loc _ _ _ l1
  rw[this] at e1
  simp only[Option.some.injEq,Prod.mk.injEq,Addr.mk.injEq] at e1
  obtain⟨⟨rfl,_⟩,_⟩:=e1
  rw[hcell] at e2
  cases e2
  exact Zcl (Nat.le_refl _) (by simp[maxLen]))
 exact⟨_,htm,s.defers,r1,s.fr,s.le.trans q2,s.bd,fun i hi=>s.ow i (q3 i (r2 i hi))⟩
theorem ALe.newEnt {T:List AV}{h h1:AH}{ty st:Nat}(he:h++[.mk 0 ty st []]=h1):ALe n0 T h T h1:=fun w0 S0 g0 a w g s=>by
 subst he
 obtain⟨q1,q2,q3⟩:=s.sim.add0 (w':=w) none ty st (fun _ _=>rfl) (Nat.le_refl _)
 exact⟨_,RepL.mono q2 (fun _ _=>rfl) _ _ s.tmps,s.defers,q1,s.fr,s.le.trans q2,s.bd,fun i hi=>(q3 i hi).elim (s.ow i) (fun h=>.inr (Nat.le_trans s.fr.size h))⟩
end
end Go.Ab
end
section
namespace Go.Ab
section
variable {P : Program}
abbrev dfo:Obj:=.deferred (some [])
abbrev mkD (D:Nat):Ent:=.raw D dfo [] []
theorem putA (w:World) (k j:Nat) (o:Obj) (h:j≠k):(w.putObj k o).heap[j]?=w.heap[j]?:=World.putObj_heap_other h
theorem raw_or {h:AH}{i:Nat}{e:Ent}{j k:Nat}{o:Obj}{T:List AV}{vs:List Value}(h1:(h.set i e)[j]?=some (.raw k o T vs)):(j=i∧e=.raw k o T vs)∨(j≠i∧h[j]?=some (.raw k o T vs)):=by
 by_cases hi:j=i
 ·subst hi
  by_cases hl:j<h.length
  ·rw[List.getElem?_set_self hl] at h1;cases h1;exact .inl ⟨rfl,rfl⟩
  ·rw[List.getElem?_eq_none (by simpa using hl)] at h1;cases h1
 ·rw[List.getElem?_set_ne (Ne.symm hi)] at h1;exact .inr ⟨hi,h1⟩
theorem SimH.setRaw {w:World}{g:Gh}{h:AH}(hs:SimH w g h) {i k:Nat}{o o':Obj}{T:List AV}{vs:List Value}(hi:h[i]?=some (.raw k o T vs)) (ho:o'.isCells=false) (e:Ent) (he:e=.raw k o' T vs∨e=.gone) :
  SimH (w.putObj k o') g (h.set i e)∧Fr w (Ow g h) (w.putObj k o') ∧ ∀ j,Ow g (h.set i e) j→Ow g h j:=by
 have hil:i<h.length:=(List.getElem?_eq_some_iff.1 hi).1
 obtain⟨r1,r2,r3,r4⟩:=hs.raw _ _ _ _ _ hi
 have hkl:k<w.heap.size:=(Array.getElem?_eq_some_iff.1 r1).1
 have hget : ∀ {j v ty s:Nat} {c:List AV},(h.set i e)[j]?=some (.mk v ty s c)→j≠i∧h[j]?=some (.mk v ty s c):=by
  intro j v ty s c h1
  by_cases hj:j=i
  ·subst hj
   rw[List.getElem?_set_self hil] at h1
   rcases he with rfl | rfl <;> cases h1
  ·rw[List.getElem?_set_ne (Ne.symm hj)] at h1;exact⟨hj,h1⟩
 have how : ∀ j b,OwAt g (h.set i e) j b→OwAt g h j b:=by
  rintro j b ⟨v,ty,s,c,a,cap,e1,e2⟩
  exact⟨v,ty,s,c,a,cap,(hget e1).2,e2⟩
 have hrw : ∀ {j b:Nat} {x:Obj} {T':List AV} {vs':List Value},(h.set i e)[j]?=some (.raw b x T' vs')→(j=i∧b=k∧x=o'∧T'=T∧vs'=vs)∨(j≠i∧h[j]?=some (.raw b x T' vs')):=by
  intro j b x T' vs' h1
  rcases raw_or h1 with ⟨h2,h3⟩ | h2
  ·rcases he with rfl | rfl <;> cases h3
   exact .inl ⟨h2,rfl,rfl,rfl,rfl⟩
  ·exact .inr h2
 have hrw' : ∀ j b,RwAt (h.set i e) j b→RwAt h j b:=by
  rintro j b ⟨x,T',vs',h1⟩
  rcases hrw h1 with ⟨rfl,rfl,_⟩ | ⟨_,h2⟩
  ·exact⟨_,_,_,hi⟩
  ·exact⟨_,_,_,h2⟩
 have hD : ∀ b,g.D b→(w.putObj k o').heap[b]?=w.heap[b]?:=fun b hb=>putA _ _ _ _ (fun e=>r3 (e ▸ hb))
 have hne : ∀ {j b:Nat},OwAt g h j b→b≠k:=fun hb e=>hs.own_ne_raw hb (by subst e;exact⟨o,T,vs,hi⟩)
 refine⟨⟨?_,fun a b c h1 h2=>hs.inj a b c (how _ _ h1) (how _ _ h2),fun b hb=>by simpa using hs.lt b hb,fun j v l hl=>?_,fun j v l hl hf=>?_,hs.glob.mono (fun _ h=>h) hD,?_,fun a b c h1 h2=>hs.rinj a b c (hrw' _ _ h1) (hrw' _ _ h2)⟩,⟨rfl,rfl,rfl,by simp,fun b _ hn=>putA _ _ _ _ (fun e=>hn (.inr ⟨i,o,T,vs,by subst e;exact hi⟩))⟩,fun j hj=>hj.imp (fun ⟨a,h1⟩=>⟨a,how _ _ h1⟩) (fun ⟨a,h1⟩=>⟨a,hrw' _ _ h1⟩)⟩
 ·intro j v ty s c h1
  obtain⟨hj,h2⟩:=hget h1
  obtain⟨A,cap,e1,e2,e3⟩:=hs.ent _ _ _ _ _ h2
  refine⟨A,cap,e1,e2,e3.mono (Gh.le.refl g) (fun _ _ _ h=>h) hD (fun b hb h0=>?_)⟩
  cases A with
  | none=>simp at hb
  | some a=>exact putA _ _ _ _ (hne (j:=j) ⟨v,ty,s,c,a,cap,h2,e1,h0,by simpa using hb⟩)
 ·have:=hs.fresh j v l hl
  exact⟨by simpa using this.1,fun v' ty s c h1=>this.2 _ _ _ _ (hget h1).2⟩
 ·by_cases hj:j=i
  ·subst hj;rw[List.getElem?_set_self hil] at hf;rcases he with rfl | rfl <;> cases hf
  ·rw[List.getElem?_set_ne (Ne.symm hj)] at hf;exact hs.free _ _ _ hl hf
 ·intro j b x T' vs' h1
  rcases hrw h1 with ⟨rfl,rfl,rfl,rfl,rfl⟩ | ⟨hj,h2⟩
  ·exact⟨World.putObj_heap_same hkl,ho,r3,RepL.mono (Gh.le.refl g) hD _ _ r4⟩
  ·obtain⟨q1,q2,q3,q4⟩:=hs.raw _ _ _ _ _ h2
   exact⟨(putA _ _ _ _ (fun e=>hj (hs.rinj j i b ⟨_,_,_,h2⟩ ⟨o,T,vs,by subst e;exact hi⟩))).trans q1,q2,q3,RepL.mono (Gh.le.refl g) hD _ _ q4⟩
theorem SimH.newRaw {w:World}{g:Gh}{h:AH}(hs:SimH w g h) {o:Obj}{T:List AV}{vs:List Value}(ho:o.isCells=false) (hr:RepL w g T vs) :
  SimH (w.alloc o) g (h++[.raw w.heap.size o T vs])∧Fr w (Ow g h) (w.alloc o) ∧ ∀ j,Ow g (h++[.raw w.heap.size o T vs]) j→Ow g h j∨w.heap.size≤j:=by
 have hget : ∀ {j v ty s:Nat} {c:List AV},(h++[.raw w.heap.size o T vs])[j]?=some (.mk v ty s c)→h[j]?=some (.mk v ty s c):=by
  intro j v ty s c h1
  by_cases hj:j<h.length
  ·rwa [List.getElem?_append_left hj] at h1
  ·rw[List.getElem?_append_right om] at h1
   cases hk:j-h.length with
   | zero=>rw[hk] at h1;simp at h1
   | succ m=>rw[hk] at h1;simp at h1
 have hrw : ∀ {j b:Nat} {x:Obj} {T':List AV} {vs':List Value},(h++[.raw w.heap.size o T vs])[j]?=some (.raw b x T' vs')→(j=h.length∧b=w.heap.size∧x=o∧T'=T∧vs'=vs)∨h[j]?=some (.raw b x T' vs'):=by
  intro j b x T' vs' h1
  by_cases hj:j<h.length
  ·rw[List.getElem?_append_left hj] at h1;exact .inr h1
  ·rw[List.getElem?_append_right om] at h1
   cases hk:j-h.length with
   | zero=>rw[hk] at h1;simp at h1;obtain⟨rfl,rfl,rfl,rfl⟩:=h1;exact .inl ⟨by omega,rfl,rfl,rfl,rfl⟩
   | succ m=>rw[hk] at h1;simp at h1
 have how : ∀ j b,OwAt g (h++[.raw w.heap.size o T vs]) j b→OwAt g h j b:=by
  rintro j b ⟨v,ty,s,c,a,cap,e1,e2⟩
  exact⟨v,ty,s,c,a,cap,hget e1,e2⟩
 have hold : ∀ b,b<w.heap.size→(w.alloc o).heap[b]?=w.heap[b]?:=fun b hb=>Zt9 _ _ _ hb
 have hD : ∀ b,g.D b→(w.alloc o).heap[b]?=w.heap[b]?:=fun b hb=>hold b (hs.lt b hb)
 have hlt : ∀ {j b:Nat},RwAt h j b→b<w.heap.size:=fun hb=>(hs.own_not_D (.inr ⟨_,hb⟩)).2
 refine⟨⟨?_,fun a b c h1 h2=>hs.inj a b c (how _ _ h1) (how _ _ h2),fun b hb=>by have:=hs.lt b hb;simp;omega,fun j v l hl=>?_,fun j v l hl hf=>?_,hs.glob.mono (fun _ h=>h) hD,?_,?_⟩,⟨rfl,rfl,rfl,by simp,fun b hb _=>hold b hb⟩,?_⟩
 ·intro j v ty s c h1
  have h2:=hget h1
  obtain⟨A,cap,e1,e2,e3⟩:=hs.ent _ _ _ _ _ h2
  refine⟨A,cap,e1,e2,e3.mono (Gh.le.refl g) (fun _ _ _ h=>h) hD (fun b hb h0=>?_)⟩
  cases A with
  | none=>simp at hb
  | some a=>exact hold b (hs.own_not_D (.inl ⟨j,v,ty,s,c,a,cap,h2,e1,h0,by simpa using hb⟩)).2
 ·have:=hs.fresh j v l hl
  exact⟨by simp;omega,fun v' ty s c h1=>this.2 _ _ _ _ (hget h1)⟩
 ·have:=(hs.fresh j v l hl).1
  rw[List.getElem?_append_left this] at hf
  exact hs.free _ _ _ hl hf
 ·intro j b x T' vs' h1
  rcases hrw h1 with ⟨rfl,rfl,rfl,rfl,rfl⟩ | h2
  ·exact⟨World.alloc_heap_new w _,ho,fun hd=>Nat.lt_irrefl _ (hs.lt _ hd),RepL.mono (Gh.le.refl g) hD _ _ hr⟩
  ·obtain⟨q1,q2,q3,q4⟩:=hs.raw _ _ _ _ _ h2
   exact⟨(hold b (hlt ⟨_,_,_,h2⟩)).trans q1,q2,q3,RepL.mono (Gh.le.refl g) hD _ _ q4⟩
 ·rintro a b c ⟨x1,x2,x3,h1⟩ ⟨y1,y2,y3,h2⟩
  rcases hrw h1 with ⟨rfl,rfl,_⟩ | h1'
  ·rcases hrw h2 with ⟨rfl,_⟩ | h2'
   ·rfl
   ·exact absurd (hlt ⟨_,_,_,h2'⟩) (Nat.lt_irrefl _)
  ·rcases hrw h2 with ⟨rfl,rfl,_⟩ | h2'
   ·exact absurd (hlt ⟨_,_,_,h1'⟩) (Nat.lt_irrefl _)
   ·exact hs.rinj a b c ⟨_,_,_,h1'⟩ ⟨_,_,_,h2'⟩
 ·rintro b (⟨a,h1⟩ | ⟨a,x1,x2,x3,h1⟩)
  ·exact .inl (.inl ⟨a,how _ _ h1⟩)
  ·rcases hrw h1 with ⟨_,rfl,_⟩ | h2
   ·exact .inr (Nat.le_refl _)
   ·exact .inl (.inr ⟨a,_,_,_,h2⟩)
theorem St.start {w:World}{g:Gh}{h:AH}{T:List AV}{a:Act}(hs:SimH w g h) (ht:RepL w g T a.tmps.toList):St h.length w (Ow g h) ⟨g.D,g.loc,a.defers⟩ T h a w g :=
 ⟨ht,rfl,hs,Fr.refl _ _,⟨fun _ h=>h,fun _ _ _ h=>h⟩,fun i v l hl=>(hs.fresh i v l hl).1,fun k hk=>.inl hk⟩
structure LkY (w:World) (g:Gh) (h:AH) (w':World) (g':Gh) (h':AH):Prop where
 sim:SimH w' g' h'
 le:g.le g'
 fr:Fr w (Ow g h) w'
 ow : ∀ k,Ow g' h' k→Ow g h k∨w.heap.size≤k
theorem LkY.trans {a b c:World}{ga gb gc:Gh}{ha hb hc:AH}(h:LkY a ga ha b gb hb) (k:LkY b gb hb c gc hc):LkY a ga ha c gc hc:=by
 refine⟨k.sim,h.le.trans k.le,h.fr.trans k.fr ?_,?_⟩
 ·intro i hi hlt
  exact (h.ow i hi).resolve_right om
 ·intro i hi
  rcases k.ow i hi with ho | ho
  ·exact h.ow i ho
  ·exact .inr (Nat.le_trans h.fr.size ho)
theorem LkY.of_st {w w':World}{g g':Gh}{h h':AH}{n0:Nat}{df:List Deferred}{T:List AV}{a:Act}(st:St n0 w (Ow g h) ⟨g.D,g.loc,df⟩ T h' a w' g'):LkY w g h w' g' h':=⟨st.sim,⟨st.le.D,st.le.loc⟩,st.fr,st.ow⟩
theorem LkY.rep {w w':World}{g g':Gh}{h h':AH}(hs:SimH w g h) (k:LkY w g h w' g' h') {T:List AV}{vs:List Value}(ht:RepL w g T vs):RepL w' g' T vs :=
 RepL.mono k.le (fun b hb=>k.fr.block b (hs.lt b hb) (fun ho=>(hs.own_not_D ho).1 hb)) _ _ ht
theorem LkY.setRaw {w:World}{g:Gh}{h:AH}(hs:SimH w g h) {i k:Nat}{o o':Obj}{T:List AV}{vs:List Value}(hi:h[i]?=some (.raw k o T vs)) (ho:o'.isCells=false) (e:Ent) (he:e=.raw k o' T vs∨e=.gone):LkY w g h (w.putObj k o') g (h.set i e):=by
 obtain⟨h1,h2,h3⟩:=hs.setRaw hi ho e he
 exact⟨h1,Gh.le.refl g,h2,fun k hk=>.inl (h3 k hk)⟩
theorem LkY.newRaw {w:World}{g:Gh}{h:AH}(hs:SimH w g h) {o:Obj}{T:List AV}{vs:List Value}(ho:o.isCells=false) (hr:RepL w g T vs):LkY w g h (w.alloc o) g (h++[.raw w.heap.size o T vs]):=by
 obtain⟨h1,h2,h3⟩:=hs.newRaw ho hr
 exact⟨h1,Gh.le.refl g,h2,h3⟩
structure RgC where
 pre:List Code
 id:Nat
 g:Operand
 ps:Array Tmp
 asg:Code
 body:Code
 post:List Code
def Zuh:Code→List Code
 | .seq a b=>Zuh a++Zuh b
 | c=>[c]
def Zcc:List Code→Option RgC
 | []=>none
 | .block id (.rangeFunc g ps a b)::y=>some ⟨[],id,g,ps,a,b,y⟩
 | x::y=>(Zcc y).map fun r=>{ r with pre:=x::r.pre }
def splitR (c:Code):Option RgC:=Zcc (Zuh c)
def wpL (F:Fence) (n:Nat) (P:Program):List Code→(Exit→Act→World→Prop)→Act→World→Prop
 | [],Q,a,w=>Q .normal a w
 | x::l,Q,a,w=>x.wpIn F n P (Exit.then (wpL F n P l Q) Q) a w
theorem Zlh {F:Fence}{n:Nat} : ∀ {l:List Code}{Q Q':Exit→Act→World→Prop}{a:Act}{w:World},wpL F n P l Q a w→(∀ e a w,Q e a w→Q' e a w)→wpL F n P l Q' a w
 | [],Q,Q',a,w,hq,h=>h _ _ _ hq
 | x::l,Q,Q',a,w,hq,h=>by
  refine wpIn_mono hq ?_
  intro e a w hq
  cases e with
  | normal=>exact Zlh hq h
  | _=>exact h _ _ _ hq
theorem Zli {F:Fence}{n:Nat} : ∀ (l m:List Code) {Q:Exit→Act→World→Prop}{a:Act}{w:World},wpL F n P (l++m) Q a w↔wpL F n P l (Exit.then (wpL F n P m Q) Q) a w
 | [],m,Q,a,w=>Iff.rfl
 | x::l,m,Q,a,w=>by
  constructor
  ·intro hq
   refine wpIn_mono hq ?_
   intro e a w hq
   cases e with
   | normal=>exact (Zli l m).1 hq
   | _=>exact hq
  ·intro hq
   refine wpIn_mono hq ?_
   intro e a w hq
   cases e with
   | normal=>exact (Zli l m).2 hq
   | _=>exact hq
theorem Zq7 {F:Fence}{n:Nat}(c:Code) : ∀ {Q:Exit→Act→World→Prop}{a:Act}{w:World},wpL F n P (Zuh c) Q a w→c.wpIn F n P Q a w:=by
 fun_induction Zuh c with
 | case1 x y ihx ihy =>
  intro Q a w hq
  refine wpIn_seq (wpIn_mono (ihx ((Zli _ _).1 hq)) ?_)
  intro e a w hq
  cases e with
  | normal=>exact ihy hq
  | _=>exact hq
 | case2 c hc =>
  intro Q a w hq
  refine wpIn_mono (show c.wpIn F n P (Exit.then (wpL F n P [] Q) Q) a w from hq) ?_
  intro e a w hq
  cases e <;> exact hq
theorem ZsW : ∀ {l:List Code}{r:RgC},Zcc l=some r→l=r.pre++Code.block r.id (.rangeFunc r.g r.ps r.asg r.body)::r.post:=by
 intro l
 fun_induction Zcc l with
 | case1=>intro r h;cases h
 | case2 id g ps x b y=>intro r h;cases h;rfl
 | case3 x y hx ih =>
  intro r h
  obtain⟨r',h1,rfl⟩:=Option.map_eq_some_iff.1 h
  rw[ih h1];rfl
theorem ZmA {F:Fence}{n:Nat}{Q:Exit→Act→World→Prop}(c:Code) {r:RgC}(hc:splitR c=some r) {a:Act}{w:World}
  (hw:wpL F n P r.pre (Exit.then ((Code.block r.id (.rangeFunc r.g r.ps r.asg r.body)).wpIn F n P (Exit.then (wpL F n P r.post Q) Q)) Q) a w):c.wpIn F n P Q a w:=by
 refine Zq7 c ?_
 rw[ZsW hc]
 exact (Zli _ _).2 hw
structure AFR where
 pre:List AC
 g:Operand
 ps:Array Tmp
 asg:AC
 body:AC
 post:AC
 res:List AR
 ntmps:Nat
def Zh3 (P:Program) (f:FuncId):Option AFR :=
 match P.funcs[f]? with
 | some fn=>if fn.name == "runtime.NumGoroutine" then none else match fn.body with
  | some c=>match splitR c with
   | some r=>match r.pre.mapM (comp P),comp P r.asg,comp P r.body,r.post.mapM (comp P),fn.results.toList.mapM (Zgu P) with
    | some p,some a,some b,some q,some rs=>some ⟨p,r.g,r.ps,a,b,q.foldr .seq .skip,rs,fn.ntmps⟩
    | _,_,_,_,_=>none
   | none=>none
  | none=>none
 | none=>none
theorem Ziw {n0:Nat} : ∀ (l:List Code) (al:List AC),l.mapM (comp P)=some al → ∀ {Q:AX→List AV→AH→Prop}{T:List AV}{h:AH},aw P n0 (al.foldr .seq .skip) Q T h →
  ∀ w0 S0 g0 a w g,St n0 w0 S0 g0 T h a w g→wpL Fence.wide 0 P l (ZnR n0 w0 S0 g0 Q) a w
 | [],al,hm,Q,T,h,hw,w0,S0,g0,a,w,g,st=>by
  simp at hm;subst hm
  exact⟨.normal,T,h,g,st,trivial,hw⟩
 | x::l,al,hm,Q,T,h,hw,w0,S0,g0,a,w,g,st=>by
  simp only[List.mapM_cons,Option.bind_eq_bind,Option.bind_eq_some_iff,Option.pure_def,Option.some.injEq] at hm
  obtain⟨ac,h1,al',h2,rfl⟩:=hm
  refine wpIn_mono (@ZfS P n0 rdN x ac h1 _ _ _ hw w0 S0 g0 a w g st) ?_
  rintro e a' w' ⟨z,T',h',g',k1,k2,k3⟩
  cases z <;> cases e <;> simp only[ExR] at k2 <;> simp only[Exit.then,AX.thn] at k3 ⊢
  case normal.normal =>
   obtain⟨T1,h1,hle,hq⟩:=k3
   obtain⟨g1,st1⟩:=hle w0 S0 g0 a' w' g' k1
   exact Ziw l al' h2 hq w0 S0 g0 a' w' g1 st1
  case exit.exit=>exact⟨_,T',h',g',k1,by simp only[ExR];exact k2,k3⟩
  case ret.ret=>exact⟨_,T',h',g',k1,by simp only[ExR],k3⟩
  case pan.panic=>exact⟨_,T',h',g',k1,by simp only[ExR];exact k2,k3⟩
def setPs (T:List AV) (ps:Array Tmp) (as1:List AV):List AV:=(ps.toList.zip as1).foldl (fun T p=>T.set p.1 p.2) T
theorem ZmI {w:World}{g:Gh} : ∀ (ps:List Tmp) (as1:List AV) (args:List Value) (T:List AV) (tm:List Value),RepL w g T tm→RepL w g as1 args →
  RepL w g ((ps.zip as1).foldl (fun T p=>T.set p.1 p.2) T) ((ps.zip args).foldl (fun T p=>T.set p.1 p.2) tm)
 | [],_,_,_,_,ht,_=>by simpa using ht
 | p::ps,[],args,T,tm,ht,ha=>by simp only[RepL] at ha;subst ha;simpa using ht
 | p::ps,c::as1,args,T,tm,ht,ha=>by
  simp only[RepL] at ha
  obtain⟨u,us,rfl,h1,h2⟩:=ha
  simp only[List.zip_cons_cons,List.foldl_cons]
  exact ZmI ps as1 us _ _ (ht.set h1) h2
theorem Zkt : ∀ (l:List (Tmp×Value)) (tm:Array Value),(l.foldl (fun t p=>t.setIfInBounds p.1 p.2) tm).toList=l.foldl (fun T p=>T.set p.1 p.2) tm.toList
 | [],tm=>rfl
 | p::l,tm=>by simp only[List.foldl_cons];rw[Zkt l];simp
def ZuG (i l:Nat) (rdy bsy fin:Obj) (T:List AV) (vs:List Value) (R2:AE→AH→Prop):AX→List AV→AH→Prop
 | .normal,_,h=>h[i]?=some (.raw l bsy T vs)∧R2 (.ret (.v (.bool true))) (h.set i (.raw l rdy T vs))
 | .ret,_,h=>h[i]?=some (.raw l bsy T vs)∧R2 (.ret (.v (.bool false))) (h.set i (.raw l fin T vs))
 | _,_,_=>False
def asgQ (P:Program) (fr:AFR) (i l:Nat) (rdy bsy fin:Obj) (T:List AV) (vs:List Value) (R2:AE→AH→Prop) (x:AX) (T1:List AV) (h2:AH):Prop :=
 x=.normal∧h2[i]?=some (.raw l rdy T vs) ∧ ∀ n1,(h2.set i (.raw l bsy T vs)).length=n1→(∀ e∈h2.set i (.raw l bsy T vs),e.lt n1=true)→aw P n1 fr.body (ZuG i l rdy bsy fin T vs R2) T1 (h2.set i (.raw l bsy T vs))
def Zl5 (P:Program) (fr:AFR) (i l:Nat) (rdy bsy fin:Obj) (T:List AV) (vs:List Value):Prop :=
 ∀ (as1:List AV) (h:AH) (R2:AE→AH→Prop),as1.length=fr.ps.size→h[i]?=some (.raw l rdy T vs) →
  (∀ n0,h.length=n0→(∀ e∈h,e.lt n0=true)→AV.ltL n0 as1=true→AV.bdL as1→AV.bdL T→aw P n0 fr.asg (asgQ P fr i l rdy bsy fin T vs R2) (setPs T fr.ps as1) h)→AYield P l as1 h R2
def Zfs (rs:List AR) (N D:Nat) (R:AE→AH→Prop):AX→List AV→AH→Prop
 | .normal,T,h=>h[N]?=some (mkD D)∧match aRes rs T (h.set N .gone) with
  | some c=>R (.ret c) (h.set N .gone)
  | none=>False
 | .ret,T,h=>h[N]?=some (mkD D)∧match aRes rs T (h.set N .gone) with
  | some c=>R (.ret c) (h.set N .gone)
  | none=>False
 | _,_,_=>False
def rangeA (P:Program) (fr:AFR) (R:AE→AH→Prop) (T:List AV) (h:AH):Prop :=
  ∃ gf caps,Zan T fr.g=.clo (.func gf) caps ∧ ∀ (l D:Nat) (rdy bsy fin:Obj) (vs:List Value),(∀ e∈h,e.lt h.length=true)→AV.ltL h.length T=true→Zl5 P fr (h.length+1) l rdy bsy fin T vs →
    ACalls P gf (.v (.func (.yield l) #[] #[])::caps) (h++[mkD D,.raw l rdy T vs]) fun r h3=>(∃ c,r=.ret c) ∧
      ((h3[h.length+1]?=some (.raw l rdy T vs) ∧ ∀ n0,(h3.set (h.length+1) .gone).length=n0→(∀ e∈h3.set (h.length+1) .gone,e.lt n0=true)→aw P n0 fr.post (Zfs fr.res h.length D R) T (h3.set (h.length+1) .gone)) ∨
       (h3[h.length+1]?=some (.raw l fin T vs)∧Zfs fr.res h.length D R .ret T (h3.set (h.length+1) .gone)))
def preQ (P:Program) (fr:AFR) (n0:Nat) (R:AE→AH→Prop):AX→List AV→AH→Prop
 | .normal,T,h => ∃ T1 h1,ALe n0 T h T1 h1∧rangeA P fr R T1 h1
 | .ret,T,h=>match aRes fr.res T h with
  | some c=>R (.ret c) h
  | none=>False
 | _,_,_=>False
theorem yrule {fr:AFR}{asg body:Code}(ha:comp P asg=some fr.asg) (hb:comp P body=some fr.body) {i D l:Nat}{T:List AV}{tm:Array Value}{rec:LoopState→Option Code→Loop}{fn:FuncId}
    (hrec:rec=fun st pe=>{ state:=st,pending:=pe,fn:=fn,tmps:=tm,params:=fr.ps,assign:=asg,body:=body,defers:=D }) :
    Zl5 P fr i l (.loop (rec .ready none)) (.loop (rec .busy none)) (.loop (rec .done (some .ret))) T tm.toList:=by
  intro as1 h R2 hsz hi hw w g vs hs hr
  obtain⟨q1,q2,q3,q4⟩:=hs.raw _ _ _ _ _ hi
  have hvs:vs.size=fr.ps.size:=by have:=hr.length;simp only[Array.length_toList] at this;omega
  have hy:=run_yield (P:=P) (args:=vs) q1 (by rw[hrec];exact hvs)
  rw[hrec] at hy
  refine⟨fn,_,asg,body,hy,roundIn_of_wpIn trivial ?_⟩
  have ht:RepL w g (setPs T fr.ps as1) ((fr.ps.zip vs).foldl (fun t p=>t.setIfInBounds p.1 p.2) tm).toList:=by
    have:=ZmI fr.ps.toList as1 vs.toList T tm.toList q4 hr
    rw[←Array.foldl_toList,Zkt,Array.toList_zip]
    exact this
  letI:Rd:=rdS l
  refine wpIn_mono (ZfS asg fr.asg ha (hw _ rfl hs.ltE (RepL.lt (fun i v l hl=>(hs.fresh i v l hl).1) _ _ hr) (RepL.bd _ _ hr) (RepL.bd _ _ q4)) w _ _ _ w g (St.start (a:={ tmps:=(fr.ps.zip vs).foldl (fun t p=>t.setIfInBounds p.1 p.2) tm,defers:=[] }) hs ht)) ?_
  rintro e a1 w1 ⟨x1,T1,h2,g1,st1,hx1,rfl,hi2,hw1⟩
  cases e <;> simp only[ExR] at hx1
  simp only[Exit.then]
  have k1:=LkY.of_st st1
  obtain⟨r1,_,_,_⟩:=k1.sim.raw _ _ _ _ _ hi2
  refine⟨_,run_beginRound r1 (by rw[hrec]),?_⟩
  have e0:({ rec .ready none with state:=.busy }:Loop)=rec .busy none:=by rw[hrec]
  rw[e0]
  have k2:=LkY.setRaw k1.sim hi2 (o':=.loop (rec .busy none)) rfl (.raw l (.loop (rec .busy none)) T tm.toList) (.inl rfl)
  have st2:=St.start (a:=a1) k2.sim (k2.rep k1.sim st1.tmps)
  refine wpIn_mono (ZfS body fr.body hb (hw1 _ rfl k2.sim.ltE) _ _ _ _ _ g1 st2) ?_
  rintro e a2 w2 ⟨x2,T2,h3,g2,st3,hx2,hq⟩
  have k3:=(k1.trans k2).trans (LkY.of_st st3)
  have fin : ∀ (jump : Option Code) (b : Bool), h3[i]? = some (.raw l (.loop (rec .busy none)) T tm.toList) → b = jump.isNone →
      R2 (.ret (.v (.bool b))) (h3.set i (.raw l (.loop (rec (if jump.isNone then .ready else .done) jump)) T tm.toList)) →
      ∃ v w',(Instr.endRound l jump).run P w2=.ok v w' ∧ ∃ x h' g',EndR w' g' (.returned v) x∧SimH w' g' h'∧g.le g'∧Fr w (Ow g h) w'∧(∀ k,Ow g' h' k→Ow g h k∨w.heap.size≤k)∧R2 x h':=by
    rintro jump b hi3 rfl hR
    obtain⟨p1,_,_,_⟩:=k3.sim.raw _ _ _ _ _ hi3
    refine⟨_,_,run_endRound jump p1,?_⟩
    have e1:({ rec .busy none with state:=if jump.isNone then .ready else .done,pending:=jump }:Loop)=rec (if jump.isNone then .ready else .done) jump:=by rw[hrec]
    rw[e1]
    have k4:=LkY.setRaw k3.sim hi3 (o':=.loop (rec (if jump.isNone then .ready else .done) jump)) rfl (.raw l (.loop (rec (if jump.isNone then .ready else .done) jump)) T tm.toList) (.inl rfl)
    have k5:=k3.trans k4
    exact⟨.ret (.v (.bool jump.isNone)),_,g2,by simp only[EndR,Rep],k5.sim,k5.le,k5.fr,k5.ow,hR⟩
  cases x2 <;> cases e <;> simp only[ExR] at hx2 <;> simp only[ZuG] at hq <;> try (exact hq.elim)
  · exact fin none true hq.1 rfl hq.2
  · exact fin (some .ret) false hq.1 rfl hq.2
theorem Zjb {f:FuncId}(he:enters P f=true) (args:Array Value) (w:World):(callFunc f args).run P w=.ok (.enter f args) w:=by
 unfold enters at he
 split at he <;> try (cases he;done)
 rename_i fd hfd
 simp only[Bool.and_eq_true,bne_iff_ne,ne_eq] at he
 have hb:fd.body≠none:=by intro e;simp[e] at he
 simp[callFunc,hfd,he.1,hb]
theorem ACalls.of_range {f:FuncId}{fr:AFR}(hc:Zh3 P f=some fr) {args:List AV}{h:AH}{R:AE→AH→Prop}(hw:aw P h.length (fr.pre.foldr .seq .skip) (preQ P fr h.length R) (args++List.replicate (fr.ntmps-args.length) .any) h):ACalls P f args h R:=by
  unfold Zh3 at hc
  split at hc <;> try (cases hc;done)
  rename_i fn hfn
  split at hc <;> try (cases hc;done)
  rename_i hname
  split at hc <;> try (cases hc;done)
  rename_i c hb
  split at hc <;> try (cases hc;done)
  rename_i rg hrg
  split at hc <;> try (cases hc;done)
  rename_i ap aa ab aq rs hap haa hab haq hrs
  cases hc
  simp only at hw
  refine⟨?_,fun w g vs hs ha=>(callsIn_wide (n:=0)).1 (callsIn_of_wp_marks hfn hb trivial (ZmA c hrg ?_) rfl)⟩
  · simp only[enters,hfn,hb]
    simp only[Bool.not_eq_true] at hname
    simp[bne,hname]
  have hlen:vs.size=args.length:=by simpa using ha.length
  have ht:RepL w g (args++List.replicate (fn.ntmps-args.length) .any) (vs++Array.replicate (fn.ntmps-vs.size) undef).toList:=by
    simp only[Array.toList_append,Array.toList_replicate,hlen]
    refine ha.append ?_
    have:=ZlE w g (List.replicate (fn.ntmps-args.length) undef)
    simpa using this
  have fin : ∀ {w1 : World} {g1 : Gh} {h1 : AH} {T1 : List AV} {a1 : Act} {c : AV}, LkY w g h w1 g1 h1 → RepL w1 g1 T1 a1.tmps.toList → aRes rs T1 h1 = some c → R (.ret c) h1 →
      LeavesInM Fence.wide 0 P fn a1.tmps (fun e w' => ∃ x h' g',EndR w' g' e x∧SimH w' g' h'∧g.le g'∧Fr w (Ow g h) w'∧(∀ k,Ow g' h' k→Ow g h k∨w.heap.size≤k)∧R x h') [] .returning w1:=by
    intro w1 g1 h1 T1 a1 c k1 ht1 hres hR
    obtain⟨v,r1,r2⟩:=Zd1 hrs hres k1.sim ht1
    exact⟨v,by simpa using r1,.ret c,h1,g1,r2,k1.sim,k1.le,k1.fr,k1.ow,hR⟩
  have hpre:=Ziw rg.pre ap hap hw w _ _ _ w g (St.start (a:={ tmps:=vs++Array.replicate (fn.ntmps-vs.size) undef,defers:=[] }) hs ht)
  refine Zlh hpre ?_
  rintro e1 a1 w1 ⟨x1,T1,h1,g1,st1,hx1,hq1⟩
  have hdf:a1.defers=[]:=st1.defers
  cases x1 <;> cases e1 <;> simp only[ExR] at hx1 <;> simp only[preQ] at hq1 <;> try (exact hq1.elim)
  rotate_left 1
  · split at hq1 <;> try (exact hq1.elim)
    rename_i c0 hc0
    show LeavesInM Fence.wide 0 P fn a1.tmps _ a1.defers .returning w1
    rw[hdf]
    exact fin (LkY.of_st st1) st1.tmps hc0 hq1
  obtain⟨T1',h1',hle1,gf,caps,hgf,hit⟩:=hq1
  obtain⟨g1',st1⟩:=hle1 _ _ _ _ _ _ st1
  have k1:=LkY.of_st st1
  simp only[Exit.then]
  refine wpIn_block (wpIn_rangeFunc ?_)
  intro fn1 _
  show ∃ (l:Nat) (mark:List Deferred) (w₁:World) (d:Deferred) (w₁':World) (f:FuncId) (args:Array Value) (w₂:World),(Instr.enterLoop fn1 a1.tmps rg.ps rg.asg rg.body none).run P w1=_∧_
  obtain⟨rec,hrec⟩ : ∃ rec:LoopState→Option Code→Loop,rec=fun st pe=>{ state:=st,pending:=pe,fn:=fn1,tmps:=a1.tmps,params:=rg.ps,assign:=rg.asg,body:=rg.body,defers:=w1.heap.size }:=⟨_,rfl⟩
  have k2:=LkY.newRaw k1.sim (o:=dfo) (T:=[]) (vs:=[]) rfl (by simp only[RepL])
  have k3:=LkY.newRaw k2.sim (o:=.loop (rec .ready none)) (T:=T1') (vs:=a1.tmps.toList) rfl (k2.rep k1.sim st1.tmps)
  rw[World.size_alloc,List.append_assoc,List.cons_append,List.nil_append] at k3
  have k123:=(k1.trans k2).trans k3
  have hcallee:=Zcq st1.tmps rg.g
  rw[hgf] at hcallee
  simp only[Rep] at hcallee
  obtain⟨cv,hcv,hcr⟩:=hcallee
  have hy:=yrule (P:=P) (fr:=⟨ap,rg.g,rg.ps,aa,ab,aq.foldr .seq .skip,rs,fn.ntmps⟩) haa hab (i:=h1'.length+1) (D:=w1.heap.size) (l:=w1.heap.size+1) (T:=T1') hrec
  obtain⟨heng,hcall⟩:=hit (w1.heap.size+1) w1.heap.size _ _ _ a1.tmps.toList st1.sim.ltE (RepL.lt (fun i v l hl=>(st1.sim.fresh i v l hl).1) _ _ st1.tmps) hy
  refine⟨w1.heap.size+1,[{ target:=.collected w1.heap.size,args := #[] }],(w1.alloc dfo).alloc (.loop (rec .ready none)),{ target:=.fn (.func gf) cv,args := #[.func (.yield (w1.heap.size+1)) #[] #[]] },(w1.alloc dfo).alloc (.loop (rec .ready none)),gf,
    #[.func (.yield (w1.heap.size+1)) #[] #[]]++cv,(w1.alloc dfo).alloc (.loop (rec .ready none)),(by rw[hrec];exact run_enterLoop_outer _ _ _ _ _),?_,fun _ _=>trivial,?_,fun h=>by simp[Fence.wide] at h,?_⟩
  · simp only[resolve,hcv]
    simp[go_sem]
  · simp[invoke,go_sem,Zjb heng]
  refine callsIn_wide.2 ((hcall _ g1' _ k123.sim (by
    rw[Array.toList_append]
    have hcr':=(k2.trans k3).rep k1.sim hcr
    simp only[List.cons_append,List.nil_append,RepL]
    exact⟨_,_,rfl,by simp only[Rep],hcr'⟩)).mono ?_)
  rintro e3 w3 ⟨x3,h3,g3,hx3,hs3,hle3,hfr3,how3,⟨c3,rfl⟩,hcase⟩
  cases e3 <;> simp only[EndR] at hx3
  have k4:LkY w g h w3 g3 h3:=k123.trans ⟨hs3,hle3,hfr3,how3⟩
  have ht3:RepL w3 g3 T1' a1.tmps.toList:=(LkY.mk hs3 hle3 hfr3 how3).rep k123.sim ((k2.trans k3).rep k1.sim st1.tmps)
  -- the end, with the mark taken up
  have fin2 : ∀ {w5 : World} {g5 : Gh} {h5 : AH} {T5 : List AV} {a5 : Act}, LkY w g h w5 g5 h5 → RepL w5 g5 T5 a5.tmps.toList → a5.defers = [{ target := .collected w1.heap.size, args := #[] }] → Zfs rs h1'.length w1.heap.size R .ret T5 h5 →
      LeavesInM Fence.wide 0 P fn a5.tmps (fun e w' => ∃ x h' g',EndR w' g' e x∧SimH w' g' h'∧g.le g'∧Fr w (Ow g h) w'∧(∀ k,Ow g' h' k→Ow g h k∨w.heap.size≤k)∧R x h') a5.defers .returning w5:=by
    rintro w5 g5 h5 T5 a5 k5 ht5 hd5 ⟨hi5,hR5⟩
    split at hR5 <;> try (exact hR5.elim)
    rename_i c5 hres
    rw[hd5]
    obtain⟨p1,_,_,_⟩:=k5.sim.raw _ _ _ _ _ hi5
    have k6:=LkY.setRaw k5.sim hi5 (o':=.deferred none) rfl .gone (.inr rfl)
    have ht6:=k6.rep k5.sim ht5
    refine⟨by simp,.inl ⟨_,_,rfl,run_takeDeferred p1,?_⟩⟩
    exact fin (k5.trans k6) ht6 hres hR5
  have drop : ∀ (o : Obj) (st : LoopState) (jump : Option Code), o = .loop (rec st jump) → h3[h1'.length + 1]? = some (.raw (w1.heap.size + 1) o T1' a1.tmps.toList) → st ≠ .busy →
      ∃ w4,(Instr.endLoop (w1.heap.size+1)).run P w3=.ok jump w4∧LkY w g h w4 g3 (h3.set (h1'.length+1) .gone)∧RepL w4 g3 T1' a1.tmps.toList:=by
    rintro o st jump rfl hi3 hst
    obtain⟨p1,_,_,_⟩:=hs3.raw _ _ _ _ _ hi3
    have k5:=LkY.setRaw hs3 hi3 (o':=.loop { rec st jump with state:=.exhausted }) rfl .gone (.inr rfl)
    have ht5:=k5.rep hs3 ht3
    refine⟨_,?_,k4.trans k5,ht5⟩
    have:=run_endLoop (P:=P) p1 (by rw[hrec];exact hst)
    rw[this]
    rw[hrec]
  rcases hcase with ⟨hi3,hpost⟩ | ⟨hi3,hpost⟩
  · obtain⟨w4,r4,k5,ht5⟩:=drop _ .ready none rfl hi3 (by simp)
    refine⟨none,w4,r4,?_⟩
    show wpL Fence.wide 0 P rg.post _ _ w4
    have st5:=St.start (a:={ a1 with defers:=[{ target:=.collected w1.heap.size,args := #[] }]++a1.defers }) k5.sim ht5
    refine Zlh (Ziw rg.post aq haq (hpost _ rfl k5.sim.ltE) _ _ _ _ _ g3 st5) ?_
    rintro e6 a6 w6 ⟨x6,T6,h6,g6,st6,hx6,hq6⟩
    have k6:=k5.trans (LkY.of_st st6)
    have hd6:a6.defers=[{ target:=.collected w1.heap.size,args := #[] }]:=by rw[st6.defers];simp[hdf]
    cases x6 <;> cases e6 <;> simp only[ExR] at hx6 <;> simp only[Zfs] at hq6 <;> try (exact hq6.elim)
    · exact fin2 k6 st6.tmps hd6 hq6
    · exact fin2 k6 st6.tmps hd6 hq6
  · obtain⟨w4,r4,k5,ht5⟩:=drop _ .done (some .ret) rfl hi3 (by simp)
    refine⟨some .ret,w4,r4,wpIn_ret ?_⟩
    exact fin2 (a5:={ a1 with defers:=[{ target:=.collected w1.heap.size,args := #[] }]++a1.defers }) k5 ht5 (by simp[hdf]) hpost
end
section
variable {P : Program} {Kp : AV → List AV → AH → Prop} {K : List AV → AH → Prop} {T T' : List AV} {h h' : AH} {d : Option Nat} {c : AV} {rest : List AOper}
theorem Zic {f:FuncId}{fr:AFR}(hc:Zh3 P f=some fr):enters P f=true:=by
 unfold Zh3 at hc
 split at hc <;> try (cases hc;done)
 rename_i fn hfn
 split at hc <;> try (cases hc;done)
 rename_i hname
 split at hc <;> try (cases hc;done)
 rename_i c hb
 simp only[enters,hfn,hb]
 simp only[Bool.not_eq_true] at hname
 simp[bne,hname]
theorem tR' {f:FuncId}{fr:AFR}{args:List AV}{R:AE→Prop}(hc:Zh3 P f=some fr) (hw : ∀ n,h.length=n→(∀ e∈h,e.lt n=true)→AV.ltL n args=true→AV.bdL args→aw P n (fr.pre.foldr .seq .skip) (preQ P fr n fun x h' => ∃ z,h'=h++z∧x.lt n=true∧R x) (tA' args fr.ntmps) (h++[]))
  (hl:Nat.ble args.length fr.ntmps=true:=by rfl):ACalls P f args h fun x h'=>h'=h∧R x:=by
 refine ACalls.gc_same ⟨Zic hc,fun w g vs hs ha=>(ACalls.of_range hc ?_).2 w g vs hs ha⟩
 have:=hw h.length rfl hs.ltE (RepL.lt (fun i v l hl=>(hs.fresh i v l hl).1) _ _ ha) (RepL.bd _ _ ha)
 rw[List.append_nil] at this
 rw[ZiJ _ _ (Nat.le_of_ble_eq_true hl)]
 exact this
theorem Ztt {fr:AFR}{n0 gf l0:Nat}{R:AE→AH→Prop}{T1 caps:List AV}{h1:AH}(hl:ALe n0 T h T1 h1) (hg:Zan T1 fr.g=.clo (.func gf) caps) (hn:h1.length=l0)
    (hi : ∀ (l D:Nat) (rdy bsy fin:Obj) (vs:List Value),(∀ e∈h1,e.lt l0=true)→AV.ltL l0 T1=true→Zl5 P fr (l0+1) l rdy bsy fin T1 vs →
      ACalls P gf (.v (.func (.yield l) #[] #[])::caps) (h1++[mkD D,.raw l rdy T1 vs]) fun r h3=>(∃ c,r=.ret c) ∧
      ((h3[l0+1]?=some (.raw l rdy T1 vs) ∧ ∀ n0,(h3.set (l0+1) .gone).length=n0→(∀ e∈h3.set (l0+1) .gone,e.lt n0=true)→aw P n0 fr.post (Zfs fr.res l0 D R) T1 (h3.set (l0+1) .gone)) ∨
       (h3[l0+1]?=some (.raw l fin T1 vs)∧Zfs fr.res l0 D R .ret T1 (h3.set (l0+1) .gone)))):preQ P fr n0 R .normal T h:=by
  subst hn;exact⟨T1,h1,hl,gf,caps,hg,hi⟩
theorem Zs9 {l:Nat}{x:Operand}{xs:List Operand}{as1:List AV}(hf:Zan T x=.v (.func (.yield l) #[] #[])) (hx:xs.map (Zan T)=as1) (hc:AYield P l as1 h fun r h''=>r=.ret c∧h''=h') (hp:aPut T d c=T') (hk:arun P Kp rest T' h' K):arun P Kp (⟨d,none,.call x xs⟩::rest) T h K:=by
 subst hp hx
 refine⟨fun _=>?_,fun h=>by cases h⟩
 simp only[astep,hf,Zgc]
 refine⟨trivial,trivial,fun w g vs hs ha=>?_⟩
 obtain⟨f,t,a,b,h1,h2⟩:=hc w g vs hs ha
 refine⟨f,t,a,b,h1,h2.mono ?_⟩
 rintro e w' ⟨x,h',g',k1,k2,k3,k4,k5,rfl,rfl⟩
 exact⟨_,_,g',k1,k2,k3,k4,k5,hk⟩
theorem AYield.mono {l:Nat}{as1:List AV}{R R':AE→AH→Prop}(hc:AYield P l as1 h R) (hr : ∀ r h,R r h→R' r h):AYield P l as1 h R':=fun w g vs hs ha=>by
 obtain⟨f,t,a,b,h1,h2⟩:=hc w g vs hs ha
 exact⟨f,t,a,b,h1,h2.mono fun _ _ ⟨x,h',g',h1,h2,h3,h4,h5,h6⟩=>⟨x,h',g',h1,h2,h3,h4,h5,hr _ _ h6⟩⟩
theorem ZiV {fr:AFR}{n0:Nat}{R:AE→AH→Prop}(hr:aRes fr.res T h=some c) (hR:R (.ret c) h):preQ P fr n0 R .ret T h:=by simp only[preQ,hr];exact hR
theorem Zeg {rs:List AR}{k D:Nat}{R:AE→AH→Prop}(h1:h[k]?=some (mkD D)) (h2:h.set k .gone=h') (hr:aRes rs T h'=some c) (hR:R (.ret c) h'):Zfs rs k D R .ret T h:=by subst h2;simp only[Zfs,hr];exact⟨h1,hR⟩
theorem YieldAt.gc {l:Nat}{as1:List AV}{R:AE→AH→Prop}(hc:AYield P l as1 h fun x h' => ∃ y z,h'=y++z∧y.length=h.length∧(∀ e∈y,e.lt h.length=true)∧x.lt h.length=true∧R x y):AYield P l as1 h R:=fun w g vs hs ha=>by
 obtain⟨f,t,a,b,q1,q2⟩:=hc w g vs hs ha
 refine⟨f,t,a,b,q1,q2.mono ?_⟩
 rintro e w' ⟨x,h',g',h1,h2,h3,h4,h5,y,z,rfl,hl,hlt,hx,hR⟩
 have hcut:=h2.cut (by rw[hl];exact hlt)
 refine⟨x,y,g'.cut y.length,?_,hcut,h3.cut (fun i v l hi=>by rw[hl];exact (hs.fresh _ _ _ hi).1),h4,fun k hk=>h5 k hk.of_cut,hR⟩
 rw[hl]
 cases x <;> cases e <;> simp only[EndR] at h1 ⊢
 ·exact Rep.cut _ _ hx h1
 ·obtain⟨v,e1,e2⟩:=h1;exact⟨v,e1,Rep.cut _ _ hx e2⟩
theorem y_go {fr:AFR}{i l:Nat}{rdy bsy fin:Obj}{T:List AV}{vs:List Value}(hY:Zl5 P fr i l rdy bsy fin T vs) {as1:List AV}(hi:h[i]?=some (.raw l rdy T vs)) (hsz:as1.length=fr.ps.size)
  (hw : ∀ n0,h.length=n0→(∀ e∈h,e.lt n0=true)→AV.ltL n0 as1=true→AV.bdL as1→AV.bdL T→aw P n0 fr.asg (asgQ P fr i l rdy bsy fin T vs fun x h2 => ∃ y z,h2=y++z∧y.length=n0∧(∀ e∈y,e.lt n0=true)∧x.lt n0=true∧x=.ret c∧y=h') (setPs T fr.ps as1) h) :
  AYield P l as1 h fun r h''=>r=.ret c∧h''=h' :=
 YieldAt.gc (hY as1 h _ hsz hi fun n0 hn hlt q1 q2 q3=>by subst hn;exact hw _ rfl hlt q1 q2 q3)
theorem ZuL {fr:AFR}{i l:Nat}{rdy bsy fin:Obj}{vs:List Value}{R2:AE→AH→Prop}{T0:List AV}(hi:h[i]?=some (.raw l rdy T0 vs)) (hs:h.set i (.raw l bsy T0 vs)=h') (hw : ∀ n1,h'.length=n1→(∀ e∈h',e.lt n1=true)→aw P n1 fr.body (ZuG i l rdy bsy fin T0 vs R2) T h'):asgQ P fr i l rdy bsy fin T0 vs R2 .normal T h:=by
 subst hs;exact⟨rfl,hi,hw⟩
theorem Zjk {i l:Nat}{rdy bsy fin:Obj}{vs:List Value}{R2:AE→AH→Prop}{T0:List AV}(hi:h[i]?=some (.raw l bsy T0 vs)) (hs:h.set i (.raw l rdy T0 vs)=h') (hR:R2 (.ret (.v (.bool true))) h'):ZuG i l rdy bsy fin T0 vs R2 .normal T h:=by
 subst hs;exact⟨hi,hR⟩
theorem Zqt {i l:Nat}{rdy bsy fin:Obj}{vs:List Value}{R2:AE→AH→Prop}{T0:List AV}(hi:h[i]?=some (.raw l bsy T0 vs)) (hs:h.set i (.raw l fin T0 vs)=h') (hR:R2 (.ret (.v (.bool false))) h'):ZuG i l rdy bsy fin T0 vs R2 .ret T h:=by
 subst hs;exact⟨hi,hR⟩
theorem AYield.args {l:Nat}{as1 as2:List AV}{R:AE→AH→Prop}(hc:AYield P l as1 h R) (e:as2=as1):AYield P l as2 h R:=e ▸ hc
theorem k_callY {m:Bool}{q:List Bool}{rs:List Nat}{l:Nat}{x:Operand}{xs:List Operand}{as1:List AV}(hf:Zan T x=.v (.func (.yield l) #[] #[])) (hx:xs.map (Zan T)=as1) (hc:AYield P l as1 h fun r h''=>r=.ret c∧h''=h') (hr : ∀ id∈(bif m then rs else []),h'[id]?=h[id]?) (hp:aPut T d c=T') (hk:ZcH P rs q rest T' h' K):ZcH P rs (m::q) (⟨d,none,.call x xs⟩::rest) T h K:=by
 subst hp hx
 refine⟨fun _=>?_,fun h=>by cases h⟩
 refine⟨c,h',?_,hr,hk⟩
 simp only[hf,Zgc]
 exact⟨trivial,trivial,hc.mono fun r h2 hr=>⟨hr.2,hr.1⟩⟩
theorem s_callE {ι:Type}{H:ι→AH}{J:ι→Prop}{f:FuncId}{xs:List Operand}{as1:List AV}(hx:xs.map (Zan T)=as1) (hc:ACalls P f as1 h fun r h''=>r=.ret c ∧ ∃ i,J i∧h''=H i) (hp:aPut T d c=T') (hk : ∀ i,J i→arun P Kp rest T' (H i) K):arun P Kp (⟨d,none,.call (.func f) xs⟩::rest) T h K:=by
 subst hp
 refine ZmD hx hc ?_
 rintro r h'' ⟨rfl,i,h1,rfl⟩
 exact hk i h1
theorem ZdV {off id v a b:Nat}{x:Operand}(hx:Zan T x=.ptr id v (a+b)):aval h (Zan T) (.fa off x)=some (.ptr id v (a+(b+off))):=by rw[←Nat.add_assoc];exact Zbl hx
theorem Zc7 {α:Type}{f:α→List AV}{sz k off id v ty s:Nat}{l:List α}{x:Operand}(hx:Zan T x=.ptr id v (k*sz+off)) (he:h[id]?=some (.mk v ty s (rows f l))) (hf : ∀ x,(f x).length=sz) (hk:k<l.length) (ho:off<sz) (hc:(f l[k])[off]?=some c):aval h (Zan T) (.load false 1 x)=some c:=by
 refine Zab hx he ?_
 rw[←ZiP hf hk,List.getElem?_take_of_lt ho,List.getElem?_drop] at hc
 exact hc
theorem v_ldOFA {α:Type}{f:α→List AV}{sz k off id v ty s m:Nat}{l:List α}{x:Operand}{cs:List AV}(hx:Zan T x=.ptr id v (k*sz+off)) (he:h[id]?=some (.mk v ty s (rows f l))) (hf : ∀ x,(f x).length=sz) (hk:k<l.length) (ho:off+m≤sz) (hc:((f l[k]).drop off).take m=cs) (hl:cs.length=m):aval h (Zan T) (.load true m x)=some (.agg cs):=by
 refine Zao hx he ?_ hl
 rw[←ZiP hf hk,List.drop_take,List.take_take,List.drop_drop,Nat.min_eq_left om] at hc
 exact hc
end
end Go.Ab
end
section
namespace Go.Proofs.YtlekejpogddndaaGreatDoor
open Go.Ab Civ
attribute [local simp] Zbw Zmk Zeb
section
theorem Zlf {a0 a1 a2 a3 a4 a5 a6 a7 a8 a9 a10:AV}{l:List AV}:(a0::a1::a2::a3::a4::a5::a6::a7::a8::a9::a10::l).take 11=[a0,a1,a2,a3,a4,a5,a6,a7,a8,a9,a10]:=rfl
theorem ZjL {a0 a1 a2 a3 a4 a5 a6 a7 a8 a9 a10 c0 c1 c2 c3 c4 c5 c6 c7 c8 c9 c10:AV}{l:List AV}:setCells (a0::a1::a2::a3::a4::a5::a6::a7::a8::a9::a10::l) 0 [c0,c1,c2,c3,c4,c5,c6,c7,c8,c9,c10]=c0::c1::c2::c3::c4::c5::c6::c7::c8::c9::c10::l:=rfl
theorem ZjK {a0 a1 a2 a3 a4 a5 a6 a7 a8 a9 a10:AV}{l:List AV}:((a0::a1::a2::a3::a4::a5::a6::a7::a8::a9::a10::l).drop 0).take 11=[a0,a1,a2,a3,a4,a5,a6,a7,a8,a9,a10]:=rfl
theorem Zsg {a0 a1 a2 a3 a4 a5 a6:AV}{l:List AV}:((a0::a1::a2::a3::a4::a5::a6::l).drop 4).take 3=[a4,a5,a6]:=rfl
theorem Zsi {a0 a1 a2 c0 c1 c2:AV}{l:List AV}:setCells (a0::a1::a2::l) 0 [c0,c1,c2]=c0::c1::c2::l:=rfl
theorem Zsh {a0 a1 a2:AV}{l:List AV}:((a0::a1::a2::l).drop 0).take 3=[a0,a1,a2]:=rfl
theorem ZjW {τ:Operand→AV}{y0 y1:Operand}{x0_0 x1_0 x1_1 x1_2 x1_3 x1_4 x1_5 x1_6 x1_7 x1_8 x1_9 x1_10:AV}(h0:Zav (τ y0)=some [x0_0]) (l0:[x0_0].all leaf=true) (h1:Zav (τ y1)=some [x1_0,x1_1,x1_2,x1_3,x1_4,x1_5,x1_6,x1_7,x1_8,x1_9,x1_10]) (l1:[x1_0,x1_1,x1_2,x1_3,x1_4,x1_5,x1_6,x1_7,x1_8,x1_9,x1_10].all leaf=true):Zau τ [(0,1,y0),(1,11,y1)] [(.v (.int .i64 0)),(.v (.string ⟨#[]⟩)),(.v (.int .i64 0)),(.v (.int .i64 0)),(.v (.int .i64 0)),(.v (.int .i64 0)),(.v (.int .i64 0)),(.v (.int .i64 0)),(.v (.int .i64 0)),(.v (.int .i64 0)),(.v (.int .i64 0)),(.v (.string ⟨#[]⟩))]=some [x0_0,x1_0,x1_1,x1_2,x1_3,x1_4,x1_5,x1_6,x1_7,x1_8,x1_9,x1_10]:=by
 simp only[Zau,h0,l0,h1,l1]
 rfl
end
def c158:AC:=(Sr [Oo 2 (.box 36 11 (.tmp 0)),Mb 3 false] (Sr [Fa 4 0 2,Ld 5 4,Ld 6 1,Bn 7 .eql 5 6,Mv 3 7] .ret))
theorem k158:ZaE Tryz.prog 158=some ⟨c158,[(.tmp 3)],8⟩:=by kernel_rfl
end Go.Proofs.YtlekejpogddndaaGreatDoor
end
