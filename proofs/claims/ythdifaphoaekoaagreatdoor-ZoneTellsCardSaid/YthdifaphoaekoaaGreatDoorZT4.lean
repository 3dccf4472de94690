/-
  Part 4 of the proof: own lemmas and contracts on plain data. No condition beyond those that each lemma states.
-/
import Derived.Test.YthdifaphoaekoaaGreatDoorZT3
import Derived.ProofKit
import Derived.Carry
import Derived.Lib.SmallJoins
import Derived.Deep.Slices
import Derived.Test.YthdifaphoaekoaaGreatDoorCards
import Derived.Test.YthdifaphoaekoaaGreatDoorTie
import Derived.Lay
import Derived.Handed
import Derived.SizedLaws
import Derived.Shelf.Vars
import Derived.SevenTiedAt
import Derived.LaidSub
import Derived.MakeChecks
set_option linter.all false
set_option maxRecDepth 1000000
set_option maxHeartbeats 4000000
section
namespace Go.Proofs.YthdifaphoaekoaaGreatDoor
open Go.Ab Go.RowKit Civ
attribute [local simp] Zby ZbO ZbD ZbK Zd6 Zd5 ZeR
attribute [local simp] tms_lt
theorem rtold_a {a:List Rul}{nm:ByteArray}{es:List Era}{n:Int}{h:AH}(hz:okZ es):Ac 26 [.agg [sv nm,.sl es.length 10 false (rows eraC es),.sl (ZaO es).length 1 false (rows intC (ZaO es)),.sl es.length 1 false (rows (tmsE a) es)],iv n] h (.agg (ZrJ (ZcX a es n))):=by
 have hlen:=hz.len
 have hel:=ZdD es
 have hkl:=kAt_lt hz.ne n
 have hke:=Zou (ZaO es) n
 refine tI' k26 fun N hn hlt hlA hbd=>?_
 simp only [tb'] at hbd ⊢
 refine wr'<|E' (Zbi (cvl lk rfl) rfl (hl0 hn) ha0) pt<|E' (Za6 (hl1 hn) ha1) pt<|Zaq<|?_
 refine Za8 (ALe.icePtr (hga hn rfl) gt2 (by simp) pt2 (hs0 hn)) ?_
 refine wr'<|mv' lki pt<|sn'<|Zah<|Zan<|?_
 refine w_lp (ι:=Nat) (fun (i:Nat)=>[(5,iv (i:Int))]++rn' 10 16) (fun (i:Nat)=>[]) (fun (i:Nat)=>i≤kAt (ZaO es) n) (fun (i:Nat)=>kAt (ZaO es) n-i) (0) (by exact Nat.zero_le _) ?_
 rintro i hi1
 try simp only [sm',Nat.reduceAdd]
 replace hi1:i≤kAt (ZaO es) n:=hi1
 refine Zah<|wr'<|mv' lk pt<|V' (ZaS lk dp2) pt<|V' (Zar lk gt) pt<|V' (ZaI lk) pt<|V' (ZaZ lk lk) pt<|mv' lk pt<|?_
 refine sp' (t:=15) gt pt pt (fun hg15=>?_) (fun hg15=>?_)
 ·have hst:=Zot (a:=n) (show i<(ZaO es).length by omega) hi1
  refine s_do gt<|V' (ZaS lk dp2) pt<|s_do gt<|V' (Zar lk gt) pt<|s_do gt<|mv' lk pt<|s_do gt<|?_
  refine V' (ZaJ lk lk ZcB (nb' rfl) ro (by omega) ro rfl) pt ?_
  refine s_do gt<|V' (Zar lk gt) pt<|s_do gt<|mv' lk pt<|s_do gt<|V' (Zc5 lk lk) pt<|V' (Zai lk lk) pt<|sn'<|?_
  refine cd' lk (fun hc1=>?_) (fun hc1=>?_)
  ·have hi2:=hst.1 hc1
   refine Zad<|Zaf<|Zan<|Zat<|mv' lk pt<|?_
   refine V' (Zav lk lki (by omega) (by omega)) pt ?_
   refine mv' lk pt<|Zaq<|Zay<|ZaB<|?_
   refine lT' (i+1) (by (try dsimp only);omega)
  have hie:i=kAt (ZaO es) n:=by have:¬i+1≤kAt (ZaO es) n:=fun h=>hc1 (hst.2 h);omega
  have hx:=Zrt hz (List.getElem_mem hkl)
  subst hie
  refine ZaE<|Zaz<|Zaz<|ZaX<|Zaf<|wr'<|V' (ZaS lk dp0) pt<|V' (ZaS lk dp1) pt<|V' (Zar lk gt) pt<|mv' lk pt<|?_
  refine V' (ZaJ (k:=kAt (ZaO es) n) lk lk ZbG (nb' rfl) ro (by omega) ro rfl) pt ?_
  refine V' (ZaF lk ZjS rfl) pt<|E' (Za6 (hl2 hn) ha2) pt<|E' (Zal lk (cvl lk rfl) (hga hn rfl) rfl (nb' rfl) rfl ZiL (hs2 hn)) ptn<|sn'<|wr'<|V' (Zac lk) pt<|V' (Zab lk (hga hn rfl) gt2) pt<|mv' lk pt<|mv' lks pt<|sn'<|Zah<|?_
  refine wr'<|mv' lki pt<|sn'<|Zan<|?_
  refine w_lp (ι:=Nat) (fun (j:Nat)=>[(7,iv (Zc1 (xSv es[kAt (ZaO es) n]) ⟨#[]⟩ ((Za3 a es[kAt (ZaO es) n]).take j) n).1),(8,sv (Zc1 (xSv es[kAt (ZaO es) n]) ⟨#[]⟩ ((Za3 a es[kAt (ZaO es) n]).take j) n).2),(9,iv (j:Int))]++rn' 34 39) (fun (j:Nat)=>[]) (fun (j:Nat)=>j≤(Za3 a es[kAt (ZaO es) n]).length) (fun (j:Nat)=>(Za3 a es[kAt (ZaO es) n]).length-j) (0) (by exact Nat.zero_le _) ?_
  rintro j hi2
  try simp only [sm',Nat.reduceAdd]
  replace hi2:j≤(Za3 a es[kAt (ZaO es) n]).length:=hi2
  have hxl:=Zfl (rl:=a) (x:=es[kAt (ZaO es) n])
  refine Zah<|wr'<|mv' lk pt<|V' (ZaS lk dp3) pt<|V' (Zar lk gt) pt<|mv' lk pt<|?_
  refine V' (ZaJ (k:=kAt (ZaO es) n) lk lk Zge (nb' rfl) ro (by omega) ro rfl) pt ?_
  refine V' (Zar lk gt) pt ?_
  refine V' ((by first | exact ZaI lk | exact ZcC lk)) pt ?_
  refine V' (ZaZ lk lk) pt<|sn'<|?_
  refine cd' lk (fun hc2=>?_) (fun hc2=>?_)
  ·have hj:j<(Za3 a es[kAt (ZaO es) n]).length:=by omega
   have hpk:=Zel ((Za3 a es[kAt (ZaO es) n]).take j) (Za3 a es[kAt (ZaO es) n])[j] (xSv es[kAt (ZaO es) n]) ⟨#[]⟩ n
   rw [←List.take_succ_eq_append_getElem hj] at hpk
   refine Zad<|Zaf<|Zah<|Zan<|wr'<|V' (ZaS lk dp3) pt<|V' (Zar lk gt) pt<|mv' lk pt<|?_
   refine V' (ZaJ (k:=kAt (ZaO es) n) lk lk Zge (nb' rfl) ro (by omega) ro rfl) pt ?_
   refine V' (Zar lk gt) pt<|mv' lk pt<|?_
   refine V' (ZaJ lk lk Zd0 (nb' rfl) ro (by omega) ro rfl) pt ?_
   refine V' (ZaS lk dp0) pt<|V' (Zar lk gt) pt<|mv' lk pt<|V' (Zc5 lk lk) pt<|sn'<|?_
   refine cd' lk (fun hc3=>?_) (fun hc3=>?_)
   ·rw [if_pos hc3] at hpk
    refine Zbf<|D' (ZaS lk dp3) pt<|D' (Zar lk gt) pt<|D' (v_mv lk) pt<|?_
    refine D' (ZaJ lk lk (fun _=>rfl) (nb' rfl) ro (by omega) ro rfl) pt ?_
    refine D' (Zar lk gt) pt<|D' (v_mv lk) pt<|?_
    refine D' (ZaJ lk lk Zd0 (nb' rfl) ro (by omega) ro rfl) pt ?_
    refine D' (ZaS lk dp1) pt<|D' (Zar lk gt) pt<|D' (ZaS lk dp3) pt<|D' (Zar lk gt) pt<|D' (v_mv lk) pt<|?_
    refine D' (ZaJ lk lk (fun _=>rfl) (nb' rfl) ro (by omega) ro rfl) pt ?_
    refine D' (Zar lk gt) pt<|D' (v_mv lk) pt<|?_
    refine D' (ZaJ lk lk Zd0 (nb' rfl) ro (by omega) ro rfl) pt ?_
    refine D' (ZaS lk dp2) pt<|D' (Zar lk gt) pt<|D' (v_mv lk) pt<|D' (v_mv lk) pt<|Zbj<|?_
    refine ZbH ?_
    refine Zaq<|Zay<|Zaf<|Zat<|mv' lk pt<|?_
    refine V' (Zav lk lki (by omega) (by omega)) pt ?_
    refine mv' lk pt<|Zaq<|ZaB<|?_
    refine lU' (j+1) (by (try dsimp only);omega) (by (try dsimp only);(try simp only [sm',Nat.reduceAdd]);exact ALe.same (by repeat (first | exact wk0 | refine wka ?_ | refine wk1 rfl ?_ | refine wk1 (by first | rfl | exact ivx (by omega) | (rw [hpk])) ?_)) rfl)
   rw [if_neg hc3] at hpk
   refine Zad<|Zay<|Zaf<|Zat<|mv' lk pt<|?_
   refine V' (Zav lk lki (by omega) (by omega)) pt ?_
   refine mv' lk pt<|Zaq<|ZaB<|?_
   refine lU' (j+1) (by (try dsimp only);omega) (by (try dsimp only);(try simp only [sm',Nat.reduceAdd]);exact ALe.same (by repeat (first | exact wk0 | refine wka ?_ | refine wk1 rfl ?_ | refine wk1 (by first | rfl | exact ivx (by omega) | (rw [hpk])) ?_)) rfl)
  rw [List.take_of_length_le (show (Za3 a es[kAt (ZaO es) n]).length≤j by omega)]
  have hpb:=ZhP (l:=Za3 a es[kAt (ZaO es) n]) (at_:=n) (fun t ht=>(Zji ht).2) hx.sv (show (⟨#[]⟩:ByteArray).size≤24 by decide)
  have hsh : -64800≤es[kAt (ZaO es) n].1∧es[kAt (ZaO es) n].1≤64800:=hx.sh
  have hTG:=ZmG (rl:=a) (a:=n) hkl
  refine ZaE<|Zaz<|Zaz<|ZaX<|Zaf<|Zah<|Zbf<|D' (Zac lk) pt<|D' (Zab lk (hga hn rfl) gt0) pt<|D' (v_mv lk) pt<|?_
  refine D' (Zav lk lk (by omega) (by omega)) pt ?_
  refine D' (v_mv lk) pt<|D' (Zac lk) pt<|D' (Zab lk (hga hn rfl) gt3) pt<|D' (v_mv lk) pt<|D' (v_mv lk) pt<|?_
  refine Za2 mp (fun hE hX=>ZlC hx.fm hpb.2 hpb.1.1) pt ?_
  refine D' (ZaA (ZjZ (cvl lk rfl) rfl (cvl lk rfl) rfl (cvl lk rfl) rfl)) pt<|Zbj<|?_
  refine ZbH ?_
  refine E' (Zal lk (cvl lk rfl) (hga hn rfl) rfl (nb' rfl) rfl ZjY (hs1 hn)) ptn<|sn'<|Zaa<|Zag (rs1 (rr_c gt (hga hn rfl) (ld1 ZjU rfl)))<|rT'<|?_
  rw [hTG];rfl
 have hie:i=kAt (ZaO es) n:=by omega
 have hx:=Zrt hz (List.getElem_mem hkl)
 subst hie
 refine s_no gt pt<|s_no gt pt<|s_no gt pt<|s_no gt pt<|s_no gt pt<|s_no gt pt<|s_no gt pt<|V' (Zak lk lkb) pt<|sn'<|ZaR lk<|ZaE<|Zaz<|Zaz<|?_
 refine ZaX<|Zaf<|wr'<|V' (ZaS lk dp0) pt<|V' (ZaS lk dp1) pt<|V' (Zar lk gt) pt<|mv' lk pt<|?_
 refine V' (ZaJ (k:=kAt (ZaO es) n) lk lk ZbG (nb' rfl) ro (by omega) ro rfl) pt ?_
 refine V' (ZaF lk ZjS rfl) pt<|E' (Za6 (hl2 hn) ha2) pt<|E' (Zal lk (cvl lk rfl) (hga hn rfl) rfl (nb' rfl) rfl ZiL (hs2 hn)) ptn<|sn'<|wr'<|V' (Zac lk) pt<|V' (Zab lk (hga hn rfl) gt2) pt<|mv' lk pt<|mv' lks pt<|sn'<|Zah<|?_
 refine wr'<|mv' lki pt<|sn'<|Zan<|?_
 refine w_lp (ι:=Nat) (fun (j:Nat)=>[(7,iv (Zc1 (xSv es[kAt (ZaO es) n]) ⟨#[]⟩ ((Za3 a es[kAt (ZaO es) n]).take j) n).1),(8,sv (Zc1 (xSv es[kAt (ZaO es) n]) ⟨#[]⟩ ((Za3 a es[kAt (ZaO es) n]).take j) n).2),(9,iv (j:Int))]++rn' 34 39) (fun (j:Nat)=>[]) (fun (j:Nat)=>j≤(Za3 a es[kAt (ZaO es) n]).length) (fun (j:Nat)=>(Za3 a es[kAt (ZaO es) n]).length-j) (0) (by exact Nat.zero_le _) ?_
 rintro j hi2
 try simp only [sm',Nat.reduceAdd]
 replace hi2:j≤(Za3 a es[kAt (ZaO es) n]).length:=hi2
 have hxl:=Zfl (rl:=a) (x:=es[kAt (ZaO es) n])
 refine Zah<|wr'<|mv' lk pt<|V' (ZaS lk dp3) pt<|V' (Zar lk gt) pt<|mv' lk pt<|?_
 refine V' (ZaJ (k:=kAt (ZaO es) n) lk lk Zge (nb' rfl) ro (by omega) ro rfl) pt ?_
 refine V' (Zar lk gt) pt ?_
 refine V' ((by first | exact ZaI lk | exact ZcC lk)) pt ?_
 refine V' (ZaZ lk lk) pt<|sn'<|?_
 refine cd' lk (fun hc2=>?_) (fun hc2=>?_)
 ·have hj:j<(Za3 a es[kAt (ZaO es) n]).length:=by omega
  have hpk:=Zel ((Za3 a es[kAt (ZaO es) n]).take j) (Za3 a es[kAt (ZaO es) n])[j] (xSv es[kAt (ZaO es) n]) ⟨#[]⟩ n
  rw [←List.take_succ_eq_append_getElem hj] at hpk
  refine Zad<|Zaf<|Zah<|Zan<|wr'<|V' (ZaS lk dp3) pt<|V' (Zar lk gt) pt<|mv' lk pt<|?_
  refine V' (ZaJ (k:=kAt (ZaO es) n) lk lk Zge (nb' rfl) ro (by omega) ro rfl) pt ?_
  refine V' (Zar lk gt) pt<|mv' lk pt<|?_
  refine V' (ZaJ lk lk Zd0 (nb' rfl) ro (by omega) ro rfl) pt ?_
  refine V' (ZaS lk dp0) pt<|V' (Zar lk gt) pt<|mv' lk pt<|V' (Zc5 lk lk) pt<|sn'<|?_
  refine cd' lk (fun hc3=>?_) (fun hc3=>?_)
  ·rw [if_pos hc3] at hpk
   refine Zbf<|D' (ZaS lk dp3) pt<|D' (Zar lk gt) pt<|D' (v_mv lk) pt<|?_
   refine D' (ZaJ lk lk (fun _=>rfl) (nb' rfl) ro (by omega) ro rfl) pt ?_
   refine D' (Zar lk gt) pt<|D' (v_mv lk) pt<|?_
   refine D' (ZaJ lk lk Zd0 (nb' rfl) ro (by omega) ro rfl) pt ?_
   refine D' (ZaS lk dp1) pt<|D' (Zar lk gt) pt<|D' (ZaS lk dp3) pt<|D' (Zar lk gt) pt<|D' (v_mv lk) pt<|?_
   refine D' (ZaJ lk lk (fun _=>rfl) (nb' rfl) ro (by omega) ro rfl) pt ?_
   refine D' (Zar lk gt) pt<|D' (v_mv lk) pt<|?_
   refine D' (ZaJ lk lk Zd0 (nb' rfl) ro (by omega) ro rfl) pt ?_
   refine D' (ZaS lk dp2) pt<|D' (Zar lk gt) pt<|D' (v_mv lk) pt<|D' (v_mv lk) pt<|Zbj<|?_
   refine ZbH ?_
   refine Zaq<|Zay<|Zaf<|Zat<|mv' lk pt<|?_
   refine V' (Zav lk lki (by omega) (by omega)) pt ?_
   refine mv' lk pt<|Zaq<|ZaB<|?_
   refine lU' (j+1) (by (try dsimp only);omega) (by (try dsimp only);(try simp only [sm',Nat.reduceAdd]);exact ALe.same (by repeat (first | exact wk0 | refine wka ?_ | refine wk1 rfl ?_ | refine wk1 (by first | rfl | exact ivx (by omega) | (rw [hpk])) ?_)) rfl)
  rw [if_neg hc3] at hpk
  refine Zad<|Zay<|Zaf<|Zat<|mv' lk pt<|?_
  refine V' (Zav lk lki (by omega) (by omega)) pt ?_
  refine mv' lk pt<|Zaq<|ZaB<|?_
  refine lU' (j+1) (by (try dsimp only);omega) (by (try dsimp only);(try simp only [sm',Nat.reduceAdd]);exact ALe.same (by repeat (first | exact wk0 | refine wka ?_ | refine wk1 rfl ?_ | refine wk1 (by first | rfl | exact ivx (by omega) | (rw [hpk])) ?_)) rfl)
 rw [List.take_of_length_le (show (Za3 a es[kAt (ZaO es) n]).length≤j by omega)]
 have hpb:=ZhP (l:=Za3 a es[kAt (ZaO es) n]) (at_:=n) (fun t ht=>(Zji ht).2) hx.sv (show (⟨#[]⟩:ByteArray).size≤24 by decide)
 have hsh : -64800≤es[kAt (ZaO es) n].1∧es[kAt (ZaO es) n].1≤64800:=hx.sh
 have hTG:=ZmG (rl:=a) (a:=n) hkl
 refine ZaE<|Zaz<|Zaz<|ZaX<|Zaf<|Zah<|Zbf<|D' (Zac lk) pt<|D' (Zab lk (hga hn rfl) gt0) pt<|D' (v_mv lk) pt<|?_
 refine D' (Zav lk lk (by omega) (by omega)) pt ?_
 refine D' (v_mv lk) pt<|D' (Zac lk) pt<|D' (Zab lk (hga hn rfl) gt3) pt<|D' (v_mv lk) pt<|D' (v_mv lk) pt<|?_
 refine Za2 mp (fun hE hX=>ZlC hx.fm hpb.2 hpb.1.1) pt ?_
 refine D' (ZaA (ZjZ (cvl lk rfl) rfl (cvl lk rfl) rfl (cvl lk rfl) rfl)) pt<|Zbj<|?_
 refine ZbH ?_
 refine E' (Zal lk (cvl lk rfl) (hga hn rfl) rfl (nb' rfl) rfl ZjY (hs1 hn)) ptn<|sn'<|Zaa<|Zag (rs1 (rr_c gt (hga hn rfl) (ld1 ZjU rfl)))<|rT'<|?_
 rw [hTG];rfl
end Go.Proofs.YthdifaphoaekoaaGreatDoor
end
section
namespace Go.Proofs.YthdifaphoaekoaaGreatDoor
open Go.Ab Go.RowKit Civ
attribute [local simp] Zby ZbO ZbD ZbK Zd6 Zd5 ZeR Zb7
section
theorem Zmi {a0 a1 a2:AV}{l:List AV}:(a0::a1::a2::l).take 3=[a0,a1,a2]:=rfl
theorem ZgE {τ:Operand→AV}{y0:Operand}{x0_0:AV}(h0:Zax (τ y0)=some [x0_0]) (l0:[x0_0].all leaf=true):Zau τ [(0,1,y0)] [(.v (.string ⟨#[]⟩))]=some [x0_0]:=by
 simp only [Zau,h0,l0]
 rfl
theorem Zmj {a0:AV}{l:List AV}:(a0::l).take 1=[a0]:=rfl
theorem ZgD {τ:Operand→AV}{y0:Operand}{x0_0:AV}(h0:Zax (τ y0)=some [x0_0]) (l0:[x0_0].all leaf=true):Zau τ [(0,1,y0)] [(.v (.string ⟨#[]⟩))]=some [x0_0]:=by
 simp only [Zau,h0,l0]
 rfl
theorem ZpE {a0 a1 a2 a3 a4 a5 a6 a7 a8 a9:AV}{l:List AV}:(a0::a1::a2::a3::a4::a5::a6::a7::a8::a9::l).take 10=[a0,a1,a2,a3,a4,a5,a6,a7,a8,a9]:=rfl
theorem Znu {a0 a1 a2 a3 a4 a5 a6 a7 a8 a9 c0 c1 c2 c3 c4 c5 c6 c7 c8 c9:AV}{l:List AV}:setCells (a0::a1::a2::a3::a4::a5::a6::a7::a8::a9::l) 0 [c0,c1,c2,c3,c4,c5,c6,c7,c8,c9]=c0::c1::c2::c3::c4::c5::c6::c7::c8::c9::l:=rfl
theorem Zsz {a0 a1:AV}{l:List AV}:(a0::a1::l).take 2=[a0,a1]:=rfl
end
def c18:AC:=(Sr [Oo 1 (.box 26 3 (.tmp 0)),Mc 2 0] (Sr [Oo 22 (.load true 3 (.tmp 1)),Cl 23 55 [(.tmp 22)],Mv 3 23] (.seq (Sr [Mv 24 3,Bc 25 .neq 24 0] (Cd 25 (Sr [Mv 26 3,Mv 2 26] .ret) .skip)) (Sr [Oo 4 (.mv (.const (.slice none 0 0)))] (.seq (Sr [Mc 5 0] (.block 0 (.loop (.seq (Sr [Mv 27 5,Fa 28 1 1,Ld 29 28,Oo 30 (.len false (.tmp 29)),Bn 31 .lss 27 30] (Cd 31 .skip (.exit 0))) (.seq (.block 1 (.reg [Mv 34 4,Fa 35 1 1,Ld 36 35,Mv 37 5,Oo 38 (.ia 2 (.tmp 36) (.tmp 37)),Fa 39 0 38,Ld 40 39,Oo 41 (.lit 9 1 1 [Ss] [(0,(1,(.tmp 40)))]),Oo 42 (.app 9 1 16 (.tmp 34) (.tmp 41)),Mv 4 42])) (.reg [Mv 32 5,Bc 33 .add 32 1,Mv 5 33])))))) (.seq (Sr [Mc 6 0] (.block 2 (.loop (.seq (Sr [Mv 43 6,Fa 44 2 1,Ld 45 44,Oo 46 (.len false (.tmp 45)),Bn 47 .lss 43 46] (Cd 47 .skip (.exit 2))) (.seq (.block 3 (.reg [Mv 50 4,Fa 51 2 1,Ld 52 51,Mv 53 6,Oo 54 (.ia 2 (.tmp 52) (.tmp 53)),Fa 55 1 54,Ld 56 55,Oo 57 (.lit 9 1 1 [Ss] [(0,(1,(.tmp 56)))]),Oo 58 (.app 9 1 16 (.tmp 50) (.tmp 57)),Mv 4 58])) (.reg [Mv 48 6,Bc 49 .add 48 1,Mv 6 49])))))) (.seq (Sr [Mc 7 0] (.block 4 (.loop (.seq (Sr [Mv 59 7,Mv 60 4,Oo 61 (.len false (.tmp 60)),Bn 62 .lss 59 61] (Cd 62 .skip (.exit 4))) (.seq (.block 5 (Sr [Mc 8 0] (.block 6 (.loop (.seq (Sr [Mv 65 8,Mv 66 7,Bn 67 .lss 65 66] (Cd 67 .skip (.exit 6))) (.seq (.block 7 (Sd [Mv 70 4,Mv 71 7,Oo 72 (.ia 1 (.tmp 70) (.tmp 71)),Ld 73 72,Mv 74 4,Mv 75 8,Oo 76 (.ia 1 (.tmp 74) (.tmp 75)),Ld 77 76,Bn 78 .eql 73 77] (Cd 78 (Sr [Mc 2 6] .ret) .skip))) (.reg [Mv 68 8,Bc 69 .add 68 1,Mv 8 69]))))))) (.reg [Mv 63 7,Bc 64 .add 63 1,Mv 7 64])))))) (.seq (Sr [Mc 9 0] (.block 8 (.loop (.seq (Sr [Mv 79 9,Fa 80 2 1,Ld 81 80,Oo 82 (.len false (.tmp 81)),Bn 83 .lss 79 82] (Cd 83 .skip (.exit 8))) (.seq (.block 9 (Sd [Oo 86 (.load true 3 (.tmp 1)),Fa 87 2 1,Ld 88 87,Mv 89 9,Oo 90 (.ia 2 (.tmp 88) (.tmp 89)),Fa 91 0 90,Ld 92 91,Cl 93 56 [(.tmp 86),(.tmp 92)],Bc 94 .lss 93 0] (Cd 94 (Sr [Mc 2 5] .ret) .skip))) (.reg [Mv 84 9,Bc 85 .add 84 1,Mv 9 85])))))) (.seq (Sr [Mc 10 0] (.block 10 (.loop (.seq (Sr [Mv 95 10,Fa 96 1 1,Ld 97 96,Oo 98 (.len false (.tmp 97)),Bn 99 .lss 95 98] (Cd 99 .skip (.exit 10))) (.seq (.block 11 (Sr [Mc 11 0] (.block 12 (.loop (.seq (Sr [Mv 102 11,Fa 103 1 1,Ld 104 103,Mv 105 10,Oo 106 (.ia 2 (.tmp 104) (.tmp 105)),Fa 107 1 106,Ld 108 107,Oo 109 (.len false (.tmp 108)),Bn 110 .lss 102 109] (Cd 110 .skip (.exit 12))) (.seq (.block 13 (Sr [Fa 113 1 1,Ld 114 113,Mv 115 10,Oo 116 (.ia 2 (.tmp 114) (.tmp 115)),Fa 117 1 116,Ld 118 117,Mv 119 11,Oo 120 (.ia 10 (.tmp 118) (.tmp 119)),Fa 121 1 120,Ld 122 121,Oo 123 (.bin .eql (.tmp 122) (.const (.string ⟨#[]⟩))),Mv 12 123] (.seq (Sr [Mc 13 0] (.block 14 (.loop (.seq (Sr [Mv 124 13,Fa 125 0 1,Ld 126 125,Oo 127 (.len false (.tmp 126)),Bn 128 .lss 124 127] (Cd 128 .skip (.exit 14))) (.seq (.block 15 (.drw [Mv 131 12,Mv 132 131,Of 133 132 (.fa 0 (.tmp 1)),Of 134 132 (.load false 1 (.tmp 133)),Of 135 132 (mt 13),Of 136 132 (.ia 11 (.tmp 134) (.tmp 135)),Of 137 132 (.fa 0 (.tmp 136)),Of 138 132 (.load false 1 (.tmp 137)),Of 139 132 (.fa 1 (.tmp 1)),Of 140 132 (.load false 1 (.tmp 139)),Of 141 132 (mt 10),Of 142 132 (.ia 2 (.tmp 140) (.tmp 141)),Of 143 132 (.fa 1 (.tmp 142)),Of 144 132 (.load false 1 (.tmp 143)),Of 145 132 (mt 11),Of 146 132 (.ia 10 (.tmp 144) (.tmp 145)),Of 147 132 (.fa 1 (.tmp 146)),Of 148 132 (.load false 1 (.tmp 147)),Of 149 132 (.bin .eql (.tmp 138) (.tmp 148)),Oo 150 (.pick (.tmp 132) (.const (.bool true)) (.tmp 149)),Mv 12 150] [] [])) (.reg [Mv 129 13,Bc 130 .add 129 1,Mv 13 130])))))) (Sr [Mv 151 12,Oo 152 (.un .not (.tmp 151))] (Cd 152 (Sr [Mc 2 5] .ret) .skip))))) (.reg [Mv 111 11,Bc 112 .add 111 1,Mv 11 112]))))))) (.reg [Mv 100 10,Bc 101 .add 100 1,Mv 10 101])))))) (.seq (Sr [Mc 14 0] (.block 16 (.loop (.seq (Sr [Mv 153 14,Fa 154 1 1,Ld 155 154,Oo 156 (.len false (.tmp 155)),Bn 157 .lss 153 156] (Cd 157 .skip (.exit 16))) (.seq (.block 17 (Sr [Mc 15 0] (.block 18 (.loop (.seq (Sr [Mv 160 15,Fa 161 1 1,Ld 162 161,Mv 163 14,Oo 164 (.ia 2 (.tmp 162) (.tmp 163)),Fa 165 1 164,Ld 166 165,Oo 167 (.len false (.tmp 166)),Bn 168 .lss 160 167] (Cd 168 .skip (.exit 18))) (.seq (.block 19 (Sr [Fa 171 1 1,Ld 172 171,Mv 173 14,Oo 174 (.ia 2 (.tmp 172) (.tmp 173)),Fa 175 1 174,Ld 176 175,Mv 177 15,Oo 178 (.ia 10 (.tmp 176) (.tmp 177)),Oo 179 (.load true 10 (.tmp 178)),Oo 16 (.new 67 10 [(iv 0),Ss,(iv 0),Ss,(.v (.bool false)),(iv 0),(iv 0),(iv 0),(iv 0),(iv 0)]),⟨none,none,(.store 10 (.tmp 16) (.tmp 179))⟩] (.seq (Sr [Fa 180 1 16,Ld 181 180,Oo 182 (.bin .eql (.tmp 181) (.const (.string ⟨#[]⟩)))] (Cd 182 (.exit 19) .skip)) (Sr [Fa 184 0 1,Ld 185 184,Fa 186 1 16,Ld 187 186,Fa 188 0 16,Ld 189 188,Cl 190 57 [(.tmp 185),(.tmp 187),(.tmp 189)],Mv 183 190,Ex 191 183 0,Ex 192 183 1,Mv 17 191,Mv 18 192] (Sr [Mv 193 18,Bc 194 .neq 193 0] (Cd 194 (Sr [Mv 195 18,Mv 2 195] .ret) .skip)))))) (.reg [Mv 169 15,Bc 170 .add 169 1,Mv 15 170]))))))) (.reg [Mv 158 14,Bc 159 .add 158 1,Mv 14 159])))))) (.seq (Sr [Mc 19 0] (.block 20 (.loop (.seq (Sr [Mv 196 19,Fa 197 1 1,Ld 198 197,Oo 199 (.len false (.tmp 198)),Bn 200 .lss 196 199] (Cd 200 .skip (.exit 20))) (.seq (.block 21 (Sr [Fa 203 1 1,Ld 204 203,Mv 205 19,Oo 206 (.ia 2 (.tmp 204) (.tmp 205)),Oo 207 (.load true 2 (.tmp 206)),Cl 208 20 [(.tmp 207)],Mv 20 208] (Sr [Mc 21 1] (.block 22 (.loop (.seq (Sr [Mv 209 21,Mv 210 20,Oo 211 (.len false (.tmp 210)),Bn 212 .lss 209 211] (Cd 212 .skip (.exit 22))) (.seq (.block 23 (Sd [Mv 215 20,Mv 216 21,Oo 217 (.ia 1 (.tmp 215) (.tmp 216)),Ld 218 217,Mv 219 20,Mv 220 21,Bc 221 .sub 220 1,Oo 222 (.ia 1 (.tmp 219) (.tmp 221)),Ld 223 222,Bn 224 .leq 218 223] (Cd 224 (Sr [Mc 2 4] .ret) .skip))) (.reg [Mv 213 21,Bc 214 .add 213 1,Mv 21 214])))))))) (.reg [Mv 201 19,Bc 202 .add 201 1,Mv 19 202])))))) (Sr [Mc 2 0] .ret))))))))))))
theorem k18:ZaD Tryz.prog 18=some ⟨c18,[(.tmp 2)],225⟩:=by kernel_rfl
theorem Zpf {l:List ByteArray}{i:Nat}(hi:i<l.length) (h:(l.take i).Nodup) (hn : ∀ m (hm:m<l.length),m<i→l[m]≠l[i]):(l.take (i+1)).Nodup:=by
 rw [List.take_succ_eq_append_getElem hi,List.nodup_append]
 refine ⟨h,by simp,fun x hx y hy=>?_⟩
 simp only [List.mem_singleton] at hy
 subst hy
 obtain ⟨m,hm,rfl⟩:=List.getElem_of_mem hx
 rw [List.length_take] at hm
 rw [List.getElem_take]
 exact hn m (by omega) (by omega)
theorem Zrx {l:List ByteArray}{i j:Nat}(hi:i<l.length) (hj:j<i) (h:l[i]=l[j]'(by omega)):¬l.Nodup:=fun hn=>List.pairwise_iff_getElem.1 hn j i (by omega) hi hj h.symm
theorem Znd {p:Era→Int}{l m r:List Era}{x:Era}(hl : ∀ y∈l,p y=0) (hm : ∀ y∈m,p y=0) (hx:p x≠0):Za0 p (l++(m++x::r))=p x:=by
 rw [ZfY,Zl3 (p:=fun x=>decide (p x≠0)) (fun y hy=>by simp [hl y hy]) (fun y hy=>by simp [hm y hy]) (by simp [hx])]
theorem Ziw {p:Era→Int}{l:List Era}(h : ∀ y∈l,p y=0):Za0 p l=0:=by
 rw [ZfY,List.find?_eq_none.2 (fun y hy=>by simp [h y hy])]
theorem ZlH {a:List Rul}{z:List Zon}{k:List Lnk}{h:AH}(hok:Zeb (a,z,k)):Ac 18 [.agg (srcB a z k)] h (iv (ZbE (a,z,k))):=by
 refine tI' k18 fun N hn hlt hlA hbd=>?_
 simp only [tb'] at hbd ⊢
 refine wr'<|E' (Zbi (cvl lk rfl) rfl (hl0 hn) ha0) pt<|mv' lki pt<|Zaq<|?_
 refine Za8 (ALe.icePtr (hga hn rfl) gt1 (by simp) pt1 (hs0 hn)) ?_
 refine wr'<|V' (ZaF lk Zmi rfl) pt<|Zae mp (ZlI hok) pt<|mv' lk pt<|sn'<|Zah<|wr'<|mv' lk pt<|V' (Za5 lk lki) pt<|sn'<|?_
 refine cd' lk (fun hc1=>?_) (fun hc1=>?_)
 ·have hZ:ZbE (a,z,k)=ZbQ (a,z,k):=if_pos hc1
  refine wr'<|mv' lk pt<|mv' lk pt<|sn'<|Zaa<|Zaj<|Zag rz<|rT'<|?_
  rw [hZ]
 have hc:ZbQ (a,z,k)=0:=Decidable.of_not_not hc1
 obtain ⟨q1,q2,q3,q4,q5,q6,q7⟩:=Zc0 hc
 simp only at q1 q2 q3 q4 q5 q6 q7
 have hZ:ZbE (a,z,k)=if ¬(Zcj z k).Nodup then 6 else if Ze7 (a,z,k)=true then 5 else if Za0 (errX a) (ZcN z)≠0 then Za0 (errX a) (ZcN z) else if (z.any fun z=>!risL (ZaO z.2))=true then 4 else 0:=by unfold ZbE;rw [if_neg (by rw [hc];simp)]
 have hokR:=ZkL hok
 have hnl:=Zfq z k
 refine Zad<|Zaf<|wr'<|mv' lkn pt4<|Zaq<|Za8 (ALe.own0' (st':=1) (ty:=9) gt4 (hl1 hn) pt4 ha1)<|Zah<|wr'<|mv' lki pt5<|sn'<|Zan<|?_
 refine w_lp (ι:=Nat) (fun (i:Nat)=>[(4,.own (N+1) i i),(5,iv (i:Int))]++rn' 27 16) (fun (i:Nat)=>[(1,.mk i 9 1 (rows strC ((z.map (·.1)).take i)))]) (fun (i:Nat)=>i≤z.length) (fun (i:Nat)=>z.length-i) (0) (by exact Nat.zero_le _) ?_
 rintro i hi1
 try simp only [sm',Nat.reduceAdd]
 replace hi1:i≤z.length:=hi1
 have htl:((z.map (·.1)).take i).length=i:=by rw [List.length_take,List.length_map];omega
 refine Zah<|wr'<|mv' lk pt<|V' (ZaS lk dp1) pt<|V' (Zar lk gt) pt<|V' (ZaI lk) pt<|V' (ZaZ lk lk) pt<|sn'<|?_
 refine cd' lk (fun hc2=>?_) (fun hc2=>?_)
 ·have hi:i<z.length:=by omega
  have htk:(z.map (·.1)).take (i+1)=(z.map (·.1)).take i++[z[i].1]:=by rw [List.take_succ_eq_append_getElem (by simpa using hi)];simp
  refine Zad<|Zaf<|Zah<|Zan<|Zat<|mv' lk pt<|V' (ZaS lk dp1) pt<|V' (Zar lk gt) pt<|mv' lk pt<|?_
  refine V' (ZaJ lk lk Zbs (nb' rfl) ro (by omega) ro rfl) pt ?_
  refine V' (ZaS lk dp0) pt<|V' (Zar lk gt) pt<|E' (Zda (ZgE (cvl lk rfl) rfl) (hl2 hn) ha2) pt<|?_
  refine E' (Zcw (ZbI lk (hga hn rfl) rfl Zmj (nb' rfl)) lk (hga hn rfl) ((ZdR _).trans (by rw [htl])) (by omega) rfl (hs1 hn)) pt ?_
  refine mv' lk pt<|Zaq<|Zay<|Zaf<|Zat<|mv' lk pt<|?_
  refine V' (Zav lk lki (by omega) (by omega)) pt ?_
  refine mv' lk pt<|Zaq<|ZaB<|?_
  refine lU' (i+1) (by (try dsimp only);omega) (by (try dsimp only);(try simp only [sm',Nat.reduceAdd]);exact bk' 2 hn hlt (by rw [htk,ZaU,ZgX];rfl))
 have hie:i=z.length:=by omega
 subst hie
 rw [show (z.map (·.1)).take z.length=z.map (·.1) from List.take_of_length_le (by simp)]
 refine ZaE<|Zaz<|Zaz<|ZaX<|Zaf<|Zah<|wr'<|mv' lki pt<|sn'<|Zan<|?_
 refine Ze0 (ι:=Nat) (fun (j:Nat)=>[(4,.own (N+1) (z.length+j) (z.length+j)),(6,iv (j:Int))]++rn' 43 16) (fun (j:Nat)=>[(1,.mk (z.length+j) 9 1 (rows strC (z.map (·.1)++(k.map (·.2)).take j)))]) (fun (j:Nat)=>j≤k.length) (fun (j:Nat)=>k.length-j) (0) (by exact Nat.zero_le _) (by try simp only [sm',Nat.reduceAdd];exact ALe.same wA' (by rw [List.take_zero,List.append_nil];rfl)) ?_
 rintro j hi2
 try simp only [sm',Nat.reduceAdd]
 replace hi2:j≤k.length:=hi2
 have htl2:(z.map (·.1)++(k.map (·.2)).take j).length=z.length+j:=by rw [List.length_append,List.length_map,List.length_take,List.length_map];omega
 refine Zah<|wr'<|mv' lk pt<|V' (ZaS lk dp2) pt<|V' (Zar lk gt) pt<|V' (ZaI lk) pt<|V' (ZaZ lk lk) pt<|sn'<|?_
 refine cd' lk (fun hc3=>?_) (fun hc3=>?_)
 ·have hj:j<k.length:=by omega
  have htk2:(k.map (·.2)).take (j+1)=(k.map (·.2)).take j++[k[j].2]:=by rw [List.take_succ_eq_append_getElem (by simpa using hj)];simp
  refine Zad<|Zaf<|Zah<|Zan<|Zat<|mv' lk pt<|V' (ZaS lk dp2) pt<|V' (Zar lk gt) pt<|mv' lk pt<|?_
  refine V' (ZaJ lk lk ZcH (nb' rfl) ro (by omega) ro rfl) pt ?_
  refine V' (ZaS lk dp1) pt<|V' (Zar lk gt) pt<|E' (Zda (ZgD (cvl lk rfl) rfl) (hl2 hn) ha2) pt<|?_
  refine E' (Zcw (ZbI lk (hga hn rfl) rfl Zmj (nb' rfl)) lk (hga hn rfl) ((ZdR _).trans (by rw [htl2])) (by omega) rfl (hs1 hn)) pt ?_
  refine mv' lk pt<|Zaq<|Zay<|Zaf<|Zat<|mv' lk pt<|?_
  refine V' (Zav lk lki (by omega) (by omega)) pt ?_
  refine mv' lk pt<|Zaq<|ZaB<|?_
  refine lU' (j+1) (by (try dsimp only);omega) (by (try dsimp only);(try simp only [sm',Nat.reduceAdd]);exact bk' 2 hn hlt (by simp only [htk2,ZaU,ZgX,List.append_assoc];rfl))
 have hje:j=k.length:=by omega
 subst hje
 rw [show (k.map (·.2)).take k.length=k.map (·.2) from List.take_of_length_le (by simp),show z.map (·.1)++k.map (·.2)=Zcj z k from rfl,←hnl]
 refine ZaE<|Zaz<|Zaz<|ZaX<|Zaf<|Zah<|wr'<|mv' lki pt<|sn'<|Zan<|?_
 refine w_lp (ι:=Nat) (fun (i3:Nat)=>[(7,iv (i3:Int)),(2,.any),(8,.any)]++rn' 59 20) (fun (i3:Nat)=>[]) (fun (i3:Nat)=>i3≤(Zcj z k).length∧((Zcj z k).take i3).Nodup) (fun (i3:Nat)=>(Zcj z k).length-i3) (0) (by exact ⟨Nat.zero_le _,by simp⟩) ?_
 rintro i3 hi3
 try simp only [sm',Nat.reduceAdd]
 obtain ⟨hn3,hd3⟩:=hi3
 refine Zah<|wr'<|mv' lk pt<|mv' lk pt<|V' (ZcC lk) pt<|V' (ZaZ lk lk) pt<|sn'<|?_
 refine cd' lk (fun hc4=>?_) (fun hc4=>?_)
 ·have hi3':i3<(Zcj z k).length:=by omega
  refine Zad<|Zaf<|Zah<|Zan<|wr'<|mv' lki pt<|sn'<|Zan<|?_
  refine w_lp (ι:=Nat) (fun (j4:Nat)=>[(8,iv (j4:Int)),(2,.any)]++rn' 65 14) (fun (j4:Nat)=>[]) (fun (j4:Nat)=>j4≤i3 ∧ ∀ m (hm:m<(Zcj z k).length),m<j4→(Zcj z k)[m]≠(Zcj z k)[i3]) (fun (j4:Nat)=>i3-j4) (0) (by exact ⟨Nat.zero_le _,fun m _ h=>by omega⟩) ?_
  rintro j4 hi4
  try simp only [sm',Nat.reduceAdd]
  obtain ⟨hn4,hd4⟩:=hi4
  refine Zah<|wr'<|mv' lk pt<|mv' lk pt<|V' (ZaZ lk lk) pt<|sn'<|?_
  refine cd' lk (fun hc5=>?_) (fun hc5=>?_)
  ·have hj4:j4<i3:=by omega
   refine Zad<|Zaf<|Zah<|Zan<|Zah<|Zbf<|D' (v_mv lk) pt<|D' (v_mv lk) pt<|?_
   refine D' (Zcb lk lk (hga hn rfl) ZbA (nb' rfl) ro (by omega) (by first | rfl | (simp;done) | omega)) pt ?_
   refine D' (ZqA lk (hga hn rfl) ZbA (by omega) rfl) pt ?_
   refine D' (v_mv lk) pt<|D' (v_mv lk) pt<|?_
   refine D' (Zcb lk lk (hga hn rfl) ZbA (nb' rfl) ro (by omega) (by first | rfl | (simp;done) | omega)) pt ?_
   refine D' (ZqA lk (hga hn rfl) ZbA (by omega) rfl) pt ?_
   refine D' ((by first | exact ZaN lk lk | exact Zci lk lk)) pt ?_
   refine Zbj ?_
   refine ZbH ?_
   refine sn' ?_
   refine cd' lk (fun hc6=>?_) (fun hc6=>?_)
   ·have hnd:=Zrx hi3' hj4 hc6
    refine wr'<|mv' lki pt<|sn'<|Zaa<|Zas<|Zaj<|Zaj<|Zas<|Zas<|Zaj<|Zaj<|Zas<|?_
    refine Zaj<|Zag rz<|rT'<|?_
    rw [hZ,if_pos hnd]
   refine Zad<|Zay<|Zaf<|Zat<|mv' lk pt<|?_
   refine V' (Zav lk lki (by omega) (by omega)) pt ?_
   refine mv' lk pt<|Zaq<|ZaB<|?_
   refine lT' (j4+1) (by (try dsimp only);refine ⟨by omega,fun m hm h=>?_⟩;by_cases e:m=j4;(subst e;exact fun e=>hc6 e.symm);exact hd4 m hm (by omega))
  have hje4:j4=i3:=by omega
  refine ZaE<|Zaz<|Zaz<|ZaX<|Zay<|Zaf<|Zat<|mv' lk pt<|?_
  refine V' (Zav lk lki (by omega) (by omega)) pt ?_
  refine mv' lk pt<|Zaq<|ZaB<|?_
  refine lT' (i3+1) (by (try dsimp only);exact ⟨by omega,Zpf hi3' hd3 fun m hm h=>hd4 m hm (by omega)⟩)
 have hND:(Zcj z k).Nodup:=by rwa [List.take_of_length_le (by omega)] at hd3
 rw [if_neg (by simpa using hND)] at hZ
 refine ZaE<|Zaz<|Zaz<|ZaX<|Zaf<|Zah<|wr'<|mv' lki pt<|sn'<|Zan<|?_
 refine w_lp (ι:=Nat) (fun (i5:Nat)=>[(9,iv (i5:Int)),(2,.any)]++rn' 79 16) (fun (i5:Nat)=>[]) (fun (i5:Nat)=>i5≤k.length ∧ ∀ m (hm:m<k.length),m<i5→¬ZeS z k[m].1<0) (fun (i5:Nat)=>k.length-i5) (0) (by exact ⟨Nat.zero_le _,fun m _ h=>by omega⟩) ?_
 rintro i5 hi5
 try simp only [sm',Nat.reduceAdd]
 obtain ⟨hn5,hd5⟩:=hi5
 refine Zah<|wr'<|mv' lk pt<|V' (ZaS lk dp2) pt<|V' (Zar lk gt) pt<|V' (ZaI lk) pt<|V' (ZaZ lk lk) pt<|sn'<|?_
 refine cd' lk (fun hc7=>?_) (fun hc7=>?_)
 ·have hi5':i5<k.length:=by omega
  refine Zad<|Zaf<|Zah<|Zan<|Zah<|Zbf<|D' (ZaF lk Zmi rfl) pt<|D' (ZaS lk dp2) pt<|D' (Zar lk gt) pt<|D' (v_mv lk) pt<|?_
  refine D' (ZaJ lk lk ZcH (nb' rfl) ro (by omega) ro rfl) pt ?_
  refine D' (ZaS lk dp0) pt<|D' (Zar lk gt) pt<|?_
  refine Za2 mp (fun hE hX=>Zia (by omega)) pt ?_
  refine D' (ZaZ lk lki) pt<|Zbj<|?_
  refine ZbH ?_
  refine sn' ?_
  refine cd' lk (fun hc8=>?_) (fun hc8=>?_)
  ·have hM:Ze7 (a,z,k)=true:=by unfold Ze7;rw [Bool.or_eq_true];exact .inl (List.any_eq_true.2 ⟨_,List.getElem_mem hi5',decide_eq_true hc8⟩)
   refine wr'<|mv' lki pt<|sn'<|Zaa<|Zas<|Zaj<|Zaj<|Zas<|Zaj<|Zag rz<|rT'<|?_
   rw [hZ,if_pos hM]
  refine Zad<|Zay<|Zaf<|Zat<|mv' lk pt<|?_
  refine V' (Zav lk lki (by omega) (by omega)) pt ?_
  refine mv' lk pt<|Zaq<|ZaB<|?_
  refine lT' (i5+1) (by (try dsimp only);refine ⟨by omega,fun m hm h=>?_⟩;by_cases e:m=i5;(subst e;exact hc8);exact hd5 m hm (by omega))
 have hLk:(k.any fun l=>decide (ZeS z l.1<0))=false:=List.any_eq_false.2 fun x hx=>by obtain ⟨m,hm,rfl⟩:=List.getElem_of_mem hx;simpa using hd5 m hm (by omega)
 have hMis:Ze7 (a,z,k)=(ZcN z).any (misP a):=by unfold Ze7;rw [hLk,Bool.false_or]
 refine ZaE<|Zaz<|Zaz<|ZaX<|Zaf<|Zah<|wr'<|mv' lki pt<|sn'<|Zan<|?_
 refine w_lp (ι:=Nat) (fun (i6:Nat)=>[(10,iv (i6:Int)),(2,.any)]++rn' 11 3++rn' 95 58) (fun (i6:Nat)=>[]) (fun (i6:Nat)=>i6≤z.length ∧ ∀ x∈ZcN (z.take i6),misP a x=false) (fun (i6:Nat)=>z.length-i6) (0) (by exact ⟨Nat.zero_le _,fun x hx=>by cases hx⟩) ?_
 rintro i6 hi6
 try simp only [sm',Nat.reduceAdd]
 obtain ⟨hn6,hd6⟩:=hi6
 refine Zah<|wr'<|mv' lk pt<|V' (ZaS lk dp1) pt<|V' (Zar lk gt) pt<|V' (ZaI lk) pt<|V' (ZaZ lk lk) pt<|sn'<|?_
 refine cd' lk (fun hc9=>?_) (fun hc9=>?_)
 ·have hi6':i6<z.length:=by omega
  have hz3:=q4 _ (List.getElem_mem hi6')
  refine Zad<|Zaf<|Zah<|Zan<|wr'<|mv' lki pt<|sn'<|Zan<|?_
  refine w_lp (ι:=Nat) (fun (j7:Nat)=>[(11,iv (j7:Int)),(2,.any),(12,.any),(13,.any)]++rn' 102 51) (fun (j7:Nat)=>[]) (fun (j7:Nat)=>j7≤z[i6].2.length ∧ ∀ x∈z[i6].2.take j7,misP a x=false) (fun (j7:Nat)=>z[i6].2.length-j7) (0) (by exact ⟨Nat.zero_le _,fun x hx=>by cases hx⟩) ?_
  rintro j7 hi7
  try simp only [sm',Nat.reduceAdd]
  obtain ⟨hn7,hd7⟩:=hi7
  refine Zah<|wr'<|mv' lk pt<|V' (ZaS lk dp1) pt<|V' (Zar lk gt) pt<|mv' lk pt<|?_
  refine V' (ZaJ lk lk Zbs (nb' rfl) ro (by omega) ro rfl) pt ?_
  refine V' (ZaS lk dp1) pt<|V' (Zar lk gt) pt<|?_
  refine V' ((by first | exact ZaI lk | exact ZcC lk)) pt ?_
  refine V' (ZaZ lk lk) pt<|sn'<|?_
  refine cd' lk (fun hc10=>?_) (fun hc10=>?_)
  ·have hj7:j7<z[i6].2.length:=by omega
   refine Zad<|Zaf<|Zah<|Zan<|wr'<|V' (ZaS lk dp1) pt<|V' (Zar lk gt) pt<|mv' lk pt<|?_
   refine V' (ZaJ lk lk Zbs (nb' rfl) ro (by omega) ro rfl) pt ?_
   refine V' (ZaS lk dp1) pt<|V' (Zar lk gt) pt<|mv' lk pt<|?_
   refine V' (ZaJ lk lk ZbG (nb' rfl) ro (by omega) ro rfl) pt ?_
   refine V' (ZaS lk dp1) pt<|V' (Zar lk gt) pt<|V' (Zci lk lks) pt<|mv' lk pt<|sn'<|Zah<|wr'<|mv' lki pt<|sn'<|Zan<|?_
   refine Ze0 (ι:=Nat) (fun (n8:Nat)=>[(12,bv (decide (xRl z[i6].2[j7]=⟨#[]⟩)||(a.take n8).any fun r=>decide (r.1=xRl z[i6].2[j7]))),(13,iv (n8:Int))]++rn' 124 27) (fun (n8:Nat)=>[]) (fun (n8:Nat)=>n8≤a.length) (fun (n8:Nat)=>a.length-n8) (0) (by exact Nat.zero_le _) (by try simp only [sm',Nat.reduceAdd];exact ALe.same (by repeat (first | exact wk0 | refine wka ?_ | refine wk1 rfl ?_ | refine wk1 (by first | rfl | (rw [List.take_zero];simp)) ?_)) rfl) ?_
   rintro n8 hi8
   try simp only [sm',Nat.reduceAdd]
   replace hi8:n8≤a.length:=hi8
   refine Zah<|wr'<|mv' lk pt<|V' (ZaS lk dp0) pt<|V' (Zar lk gt) pt<|V' (ZaI lk) pt<|V' (ZaZ lk lk) pt<|sn'<|?_
   refine cd' lk (fun hc11=>?_) (fun hc11=>?_)
   ·have hi8':n8<a.length:=by omega
    have hak:(a.take (n8+1)).any (fun r=>decide (r.1=xRl z[i6].2[j7]))=((a.take n8).any (fun r=>decide (r.1=xRl z[i6].2[j7]))||decide (a[n8].1=xRl z[i6].2[j7])):=by rw [List.take_succ_eq_append_getElem hi8',List.any_append];simp
    refine Zad<|Zaf<|Zah<|Zan<|Zbf<|D' (v_mv lk) pt<|D' (v_mv lk) pt<|?_
    refine dq' (t:=132) gt pt pt (fun hg132=>?_) (fun hg132=>?_)
    ·refine d_no gt pt<|d_no gt pt<|d_no gt pt<|d_no gt pt<|d_no gt pt<|d_no gt pt<|d_no gt pt<|d_no gt pt<|d_no gt pt<|d_no gt pt<|d_no gt pt<|d_no gt pt<|d_no gt pt<|d_no gt pt<|?_
     refine d_no gt pt<|d_no gt pt<|d_no gt pt<|D' (Zai lk lkb) pt<|D' (v_mv lk) pt<|Zbj<|?_
     refine ZbH ?_
     refine Zaq<|Zay<|Zaf<|Zat<|mv' lk pt<|?_
     refine V' (Zav lk lki (by omega) (by omega)) pt ?_
     refine mv' lk pt<|Zaq<|ZaB<|?_
     refine lU' (n8+1) (by (try dsimp only);omega) (by (try dsimp only);(try simp only [sm',Nat.reduceAdd]);exact ALe.same (by repeat (first | exact wk0 | refine wka ?_ | refine wk1 rfl ?_ | refine wk1 (by first | rfl | exact ivx (by omega) | (rw [hak,←Bool.or_assoc,hg132];rfl)) ?_)) rfl)
    refine d_do gt<|D' (ZaS lk dp0) pt<|d_do gt<|D' (Zar lk gt) pt<|d_do gt<|D' (v_mv lk) pt<|d_do gt<|?_
    refine D' (ZaJ lk lk Zck (nb' rfl) ro (by omega) ro rfl) pt ?_
    refine d_do gt<|D' (ZaS lk dp0) pt<|d_do gt<|D' (Zar lk gt) pt<|d_do gt<|D' (ZaS lk dp1) pt<|d_do gt<|D' (Zar lk gt) pt<|d_do gt<|D' (v_mv lk) pt<|d_do gt<|?_
    refine D' (ZaJ lk lk Zbs (nb' rfl) ro (by omega) ro rfl) pt ?_
    refine d_do gt<|D' (ZaS lk dp1) pt<|d_do gt<|D' (Zar lk gt) pt<|d_do gt<|D' (v_mv lk) pt<|d_do gt<|?_
    refine D' (ZaJ lk lk ZbG (nb' rfl) ro (by omega) ro rfl) pt ?_
    refine d_do gt<|D' (ZaS lk dp1) pt<|d_do gt<|D' (Zar lk gt) pt<|d_do gt<|?_
    refine D' ((by first | exact ZaN lk lk | exact Zci lk lk)) pt ?_
    refine D' (Zak lk lk) pt<|D' (v_mv lk) pt<|Zbj<|?_
    refine ZbH ?_
    refine Zaq<|Zay<|Zaf<|Zat<|mv' lk pt<|?_
    refine V' (Zav lk lki (by omega) (by omega)) pt ?_
    refine mv' lk pt<|Zaq<|ZaB<|?_
    refine lU' (n8+1) (by (try dsimp only);omega) (by (try dsimp only);(try simp only [sm',Nat.reduceAdd]);exact ALe.same (by repeat (first | exact wk0 | refine wka ?_ | refine wk1 rfl ?_ | refine wk1 (by first | rfl | exact ivx (by omega) | (rw [hak,←Bool.or_assoc,hg132];rfl)) ?_)) rfl)
   rw [List.take_of_length_le (show a.length≤n8 by omega)]
   obtain ⟨rr,hrr⟩:=ZfZ hi6' hj7
   refine ZaE<|Zaz<|Zaz<|ZaX<|Zaf<|wr'<|mv' lk pt<|?_
   refine V' ((by first | exact v_not lk | exact ZaC lk)) pt ?_
   refine sn' ?_
   refine cd' lk (fun hc12=>?_) (fun hc12=>?_)
   ·have hmp:misP a z[i6].2[j7]=true:=by have:=hc12;rw [Bool.not_eq_true',Bool.or_eq_false_iff] at this;unfold misP;rw [Bool.and_eq_true];exact ⟨decide_eq_true (of_decide_eq_false this.1),by rw [this.2];rfl⟩
    have hM:Ze7 (a,z,k)=true:=by rw [hMis,hrr];exact List.any_eq_true.2 ⟨_,by simp,hmp⟩
    refine wr'<|mv' lki pt<|sn'<|Zaa<|Zas<|Zaj<|Zaj<|Zas<|Zas<|Zaj<|Zaj<|Zas<|?_
    refine Zaj<|Zag rz<|rT'<|?_
    rw [hZ,if_pos hM]
   have hmp:misP a z[i6].2[j7]=false:=by have:=hc12;rw [Bool.not_eq_false',Bool.or_eq_true] at this;unfold misP;rw [Bool.and_eq_false_iff];rcases this with h | h;exact .inl (decide_eq_false (fun e=>e (of_decide_eq_true h)));exact .inr (by rw [h];rfl)
   refine Zad<|Zay<|Zaf<|Zat<|mv' lk pt<|?_
   refine V' (Zav lk lki (by omega) (by omega)) pt ?_
   refine mv' lk pt<|Zaq<|ZaB<|?_
   refine lT' (j7+1) (by (try dsimp only);refine ⟨by omega,fun x hx=>?_⟩;rw [List.take_succ_eq_append_getElem hj7] at hx;rcases List.mem_append.1 hx with hx | hx;exact hd7 x hx;simp only [List.mem_singleton] at hx;subst hx;exact hmp)
  rw [List.take_of_length_le (by omega)] at hd7
  refine ZaE<|Zaz<|Zaz<|ZaX<|Zay<|Zaf<|Zat<|mv' lk pt<|?_
  refine V' (Zav lk lki (by omega) (by omega)) pt ?_
  refine mv' lk pt<|Zaq<|ZaB<|?_
  refine lT' (i6+1) (by (try dsimp only);refine ⟨by omega,fun x hx=>?_⟩;rw [Zg9 hi6'] at hx;rcases List.mem_append.1 hx with hx | hx;exact hd6 x hx;exact hd7 x hx)
 rw [List.take_of_length_le (by omega)] at hd6
 have hM:Ze7 (a,z,k)=false:=by rw [hMis];exact List.any_eq_false.2 fun x hx=>by rw [hd6 x hx];simp
 rw [if_neg (by rw [hM];simp)] at hZ
 refine ZaE<|Zaz<|Zaz<|ZaX<|Zaf<|Zah<|wr'<|mv' lki pt<|sn'<|Zan<|?_
 refine w_lp (ι:=Nat) (fun (i9:Nat)=>[(14,iv (i9:Int)),(2,.any)]++rn' 15 4++rn' 153 43) (fun (i9:Nat)=>[]) (fun (i9:Nat)=>i9≤z.length ∧ ∀ x∈ZcN (z.take i9),errX a x=0) (fun (i9:Nat)=>z.length-i9) (0) (by exact ⟨Nat.zero_le _,fun x hx=>by cases hx⟩) ?_
 rintro i9 hi9
 try simp only [sm',Nat.reduceAdd]
 obtain ⟨hn9,hd9⟩:=hi9
 refine Zah<|wr'<|mv' lk pt<|V' (ZaS lk dp1) pt<|V' (Zar lk gt) pt<|V' (ZaI lk) pt<|V' (ZaZ lk lk) pt<|sn'<|?_
 refine cd' lk (fun hc13=>?_) (fun hc13=>?_)
 ·have hi9':i9<z.length:=by omega
  have hz9:=q4 _ (List.getElem_mem hi9')
  refine Zad<|Zaf<|Zah<|Zan<|wr'<|mv' lki pt<|sn'<|Zan<|?_
  refine w_lp (ι:=Nat) (fun (jx:Nat)=>[(15,iv (jx:Int)),(2,.any)]++rn' 16 3++rn' 160 36) (fun (jx:Nat)=>[]) (fun (jx:Nat)=>jx≤z[i9].2.length ∧ ∀ x∈z[i9].2.take jx,errX a x=0) (fun (jx:Nat)=>z[i9].2.length-jx) (0) (by exact ⟨Nat.zero_le _,fun x hx=>by cases hx⟩) ?_
  rintro jx hi10
  try simp only [sm',Nat.reduceAdd]
  obtain ⟨hnx,hdx⟩:=hi10
  refine Zah<|wr'<|mv' lk pt<|V' (ZaS lk dp1) pt<|V' (Zar lk gt) pt<|mv' lk pt<|?_
  refine V' (ZaJ lk lk Zbs (nb' rfl) ro (by omega) ro rfl) pt ?_
  refine V' (ZaS lk dp1) pt<|V' (Zar lk gt) pt<|?_
  refine V' ((by first | exact ZaI lk | exact ZcC lk)) pt ?_
  refine V' (ZaZ lk lk) pt<|sn'<|?_
  refine cd' lk (fun hc14=>?_) (fun hc14=>?_)
  ·have hjx:jx<z[i9].2.length:=by omega
   obtain ⟨rx,hrx⟩:=ZfZ hi9' hjx
   refine Zad<|Zaf<|Zah<|Zan<|wr'<|V' (ZaS lk dp1) pt<|V' (Zar lk gt) pt<|mv' lk pt<|?_
   refine V' (ZaJ lk lk Zbs (nb' rfl) ro (by omega) ro rfl) pt ?_
   refine V' (ZaS lk dp1) pt<|V' (Zar lk gt) pt<|mv' lk pt<|?_
   refine V' (ZaJ lk lk ZbG (nb' rfl) ro (by omega) ro rfl) pt ?_
   refine V' (ZaF lk ZpE rfl) pt<|E' (Za6 (hl2 hn) ha2) pt<|E' (Zal lk (cvl lk rfl) (hga hn rfl) rfl (nb' rfl) rfl Znu (hs2 hn)) ptn<|sn'<|Zah<|wr'<|V' (Zac lk) pt<|V' (Zab lk (hga hn rfl) gt1) pt<|V' (Zci lk lks) pt<|sn'<|?_
   refine cd' lk (fun hc15=>?_) (fun hc15=>?_)
   ·have hP:errX a z[i9].2[jx]=0:=if_pos hc15
    refine ZaE<|Zaz<|ZaX<|Zaf<|Zat<|mv' lk pt<|?_
    refine V' (Zav lk lki (by omega) (by omega)) pt ?_
    refine mv' lk pt<|Zaq<|ZaB<|?_
    refine lU' (jx+1) (by (try dsimp only);refine ⟨by omega,fun x hx=>?_⟩;rw [List.take_succ_eq_append_getElem hjx] at hx;rcases List.mem_append.1 hx with hx | hx;exact hdx x hx;simp only [List.mem_singleton] at hx;subst hx;exact hP) (by (try dsimp only);(try simp only [sm',Nat.reduceAdd]);exact bk' 2 hn hlt)
   have hP0:errX a z[i9].2[jx]=(Zba a z[i9].2[jx].2.1 z[i9].2[jx].1).2:=if_neg hc15
   refine Zad<|Zaf<|wr'<|V' (ZaS lk dp0) pt<|V' (Zar lk gt) pt<|V' (Zac lk) pt<|V' (Zab lk (hga hn rfl) gt1) pt<|V' (Zac lk) pt<|V' (Zab lk (hga hn rfl) gt0) pt<|?_
   refine Zae mp (Zn9 hokR (by omega)) pt ?_
   refine mv' lk pt<|V' (Za7 lk gt) pt<|V' (Za7 lk gt) pt<|mv' lk pt<|mv' lk pt<|sn'<|wr'<|mv' lk pt<|V' (Za5 lk lki) pt<|sn'<|?_
   refine cd' lk (fun hc16=>?_) (fun hc16=>?_)
   ·have hF:Za0 (errX a) (ZcN z)=(Zba a z[i9].2[jx].2.1 z[i9].2[jx].1).2:=by rw [hrx,Znd hd9 hdx (by rw [hP0];exact hc16),hP0]
    refine wr'<|mv' lk pt<|mv' lk pt<|sn'<|Zaa<|Zas<|Zaj<|Zaj<|Zas<|Zas<|Zaj<|Zaj<|?_
    refine Zas<|Zaj<|Zag rz<|rT'<|?_
    rw [hZ,hF,if_pos hc16]
   have hP:errX a z[i9].2[jx]=0:=by rw [hP0];exact Decidable.of_not_not hc16
   refine Zad<|Zay<|Zaf<|Zat<|mv' lk pt<|?_
   refine V' (Zav lk lki (by omega) (by omega)) pt ?_
   refine mv' lk pt<|Zaq<|ZaB<|?_
   refine lU' (jx+1) (by (try dsimp only);refine ⟨by omega,fun x hx=>?_⟩;rw [List.take_succ_eq_append_getElem hjx] at hx;rcases List.mem_append.1 hx with hx | hx;exact hdx x hx;simp only [List.mem_singleton] at hx;subst hx;exact hP) (by (try dsimp only);(try simp only [sm',Nat.reduceAdd]);exact bk' 2 hn hlt)
  rw [List.take_of_length_le (by omega)] at hdx
  refine ZaE<|Zaz<|Zaz<|ZaX<|Zay<|Zaf<|Zat<|mv' lk pt<|?_
  refine V' (Zav lk lki (by omega) (by omega)) pt ?_
  refine mv' lk pt<|Zaq<|ZaB<|?_
  refine lT' (i9+1) (by (try dsimp only);refine ⟨by omega,fun x hx=>?_⟩;rw [Zg9 hi9'] at hx;rcases List.mem_append.1 hx with hx | hx;exact hd9 x hx;exact hdx x hx)
 rw [List.take_of_length_le (by omega)] at hd9
 rw [Ziw hd9,if_neg (by simp)] at hZ
 refine ZaE<|Zaz<|Zaz<|ZaX<|Zaf<|Zah<|wr'<|mv' lki pt<|sn'<|Zan<|?_
 refine w_lp (ι:=Nat) (fun (ie:Nat)=>[(19,iv (ie:Int)),(2,.any),(20,.any),(21,.any)]++rn' 196 29) (fun (ie:Nat)=>[]) (fun (ie:Nat)=>ie≤z.length ∧ ∀ y∈z.take ie,risL (ZaO y.2)=true) (fun (ie:Nat)=>z.length-ie) (0) (by exact ⟨Nat.zero_le _,fun x hx=>by cases hx⟩) ?_
 rintro ie hi11
 try simp only [sm',Nat.reduceAdd]
 obtain ⟨hne,hde⟩:=hi11
 refine Zah<|wr'<|mv' lk pt<|V' (ZaS lk dp1) pt<|V' (Zar lk gt) pt<|V' (ZaI lk) pt<|V' (ZaZ lk lk) pt<|sn'<|?_
 refine cd' lk (fun hc17=>?_) (fun hc17=>?_)
 ·have hie':ie<z.length:=by omega
  have hzo:=Zdd (s:=(a,z,k)) hc (List.getElem_mem hie')
  have hel:=ZdD z[ie].2
  have hel8:=hzo.len
  refine Zad<|Zaf<|Zah<|Zan<|wr'<|V' (ZaS lk dp1) pt<|V' (Zar lk gt) pt<|mv' lk pt<|?_
  refine V' (ZaJ lk lk Zbs (nb' rfl) ro (by omega) ro rfl) pt ?_
  refine V' (ZaF lk Zsz rfl) pt<|Zae mp (ZmT hzo) pt<|mv' lk pt<|sn'<|wr'<|mv' lki pt<|sn'<|Zan<|?_
  refine w_lp (ι:=Nat) (fun (m12:Nat)=>[(21,iv ((m12:Int)+1)),(2,.any)]++rn' 209 16) (fun (m12:Nat)=>[]) (fun (m12:Nat)=>(m12+1≤(ZaO z[ie].2).length∨m12=0) ∧ ∀ i (h:i+1<(ZaO z[ie].2).length),i<m12→(ZaO z[ie].2)[i]<(ZaO z[ie].2)[i+1]) (fun (m12:Nat)=>(ZaO z[ie].2).length-m12) (0) (by exact ⟨.inr rfl,fun i _ h=>by omega⟩) ?_
  rintro m12 hi12
  try simp only [sm',Nat.reduceAdd]
  obtain ⟨hn12,hd12⟩:=hi12
  refine Zah<|wr'<|mv' lk pt<|mv' lk (ptS pt)<|V' (ZaI (lkS lk)) (ptS pt)<|V' (ZaZ lk (lkS lk)) (ptS pt)<|sn'<|?_
  first | refine w_cond (lkS lk) (fun hc18=>?_) (fun hc18=>?_) | refine Zaw (lkS lk) (fun hc18=>?_) (fun hc18=>?_)
  ·have hm12:m12+1<(ZaO z[ie].2).length:=by omega
   refine Zad<|Zaf<|Zah<|Zan<|Zah<|Zbf<|D' (v_mv lk) (ptS pt)<|D' (v_mv lk) (ptS pt)<|?_
   refine D' (ZaJ (k:=m12+1) (lkS lk) (lkS lk) ZcB (nb' rfl) ro (by omega) ro rfl) (ptS pt) ?_
   refine D' (Zar (lkS lk) gt) (ptS pt)<|D' (v_mv lk) (ptS pt)<|D' (v_mv lk) (ptS pt)<|?_
   refine D' (Zbn (lkS lk) lki (by omega) (by omega)) (ptS pt) ?_
   refine D' (ZaJ (k:=m12) (lkS lk) (lkS lk) ZcB (nb' rfl) ro (by omega) ro rfl) (ptS pt) ?_
   refine D' (Zar (lkS lk) gt) (ptS pt)<|D' (Zc5 (lkS lk) (lkS lk)) (ptS pt)<|Zbj<|?_
   refine ZbH ?_
   refine sn' ?_
   first | refine w_cond (lkS lk) (fun hc19=>?_) (fun hc19=>?_) | refine Zaw (lkS lk) (fun hc19=>?_) (fun hc19=>?_)
   ·have hR:risL (ZaO z[ie].2)=false:=Zjo hm12 (by omega)
    refine wr'<|mv' lki pt<|sn'<|Zaa<|Zas<|Zaj<|Zaj<|Zas<|Zas<|Zaj<|Zaj<|Zas<|?_
    refine Zaj<|Zag rz<|rT'<|?_
    rw [hZ,if_pos (List.any_eq_true.2 ⟨_,List.getElem_mem hie',by rw [hR];rfl⟩)]
   refine Zad<|Zay<|Zaf<|Zat<|mv' lk (ptS pt)<|?_
   refine V' (Zav (lkS lk) lki (by omega) (by omega)) (ptS pt) ?_
   refine V' (v_mv (lkS lk)) pt<|Zaq<|ZaB<|?_
   refine lU' (m12+1) (by (try dsimp only);exact ⟨by omega,fun i hi h=>by by_cases e:i=m12;(subst e;omega);exact hd12 i hi (by omega)⟩) (by (try dsimp only);(try simp only [sm',Nat.reduceAdd]);exact ALe.same (by repeat (first | exact wk0 | refine wka ?_ | refine wk1 rfl ?_ | refine wk1 (by first | rfl | exact ivx (by omega)) ?_)) rfl)
  have hR:risL (ZaO z[ie].2)=true:=Zie fun i hi=>hd12 i hi (by omega)
  refine ZaE<|Zaz<|Zaz<|ZaX<|Zay<|Zaf<|Zat<|mv' lk pt<|?_
  refine V' (Zav lk lki (by omega) (by omega)) pt ?_
  refine mv' lk pt<|Zaq<|ZaB<|?_
  refine lT' (ie+1) (by (try dsimp only);refine ⟨by omega,fun y hy=>?_⟩;rw [List.take_succ_eq_append_getElem hie'] at hy;rcases List.mem_append.1 hy with hy | hy;exact hde y hy;simp only [List.mem_singleton] at hy;subst hy;exact hR)
 rw [List.take_of_length_le (by omega)] at hde
 refine ZaE<|Zaz<|Zaz<|ZaX<|Zaf<|wr'<|mv' lki pt<|sn'<|Zaa<|Zag rz<|rT'<|?_
 rw [hZ,if_neg (by simp only [List.any_eq_true,not_exists,not_and];intro y hy;rw [hde y hy];simp)]
end Go.Proofs.YthdifaphoaekoaaGreatDoor
end
section
namespace Go.Proofs.YthdifaphoaekoaaGreatDoor
open Go.Ab
abbrev PS:=Src×Bool
def ZcL (x:Era):Bool:=x.2.2.2.2.1
def ZoU:List Zon→Era→List Zon
 | [],_=>[]
 | [z],x=>[(z.1,z.2++[x])]
 | z::y::l,x=>z::ZoU (y::l) x
theorem Zf5 (l:List Zon) (z:Zon) (x:Era):ZoU (l++[z]) x=l++[(z.1,z.2++[x])]:=by
 induction l with
 | nil=>rfl
 | cons a l ih =>
  cases l with
  | nil=>rfl
  | cons b l=>exact congrArg (a :: ·) ih
def ruleA:ByteArray:=bA [82,117,108,101]
def zoneA:ByteArray:=bA [90,111,110,101]
def linkA:ByteArray:=bA [76,105,110,107]
def ZcJ (p:Src) (x:Era):PS:=((p.1,ZoU p.2.1 x,p.2.2),!ZcL x)
def Zsl (p:PS):RM PS :=
 if p.2=true then Zb4 rEra fun x=>retR (ZcJ p.1 x)
 else Zb4 Zex fun w =>
  if w=ruleA then Zb4 rRule fun r=>retR ((p.1.1++[r],p.1.2.1,p.1.2.2),false)
  else if w=zoneA then Zb4 Zrk fun n=>Zb4 rEra fun x=>retR (ZcJ (p.1.1,p.1.2.1++[(n,[])],p.1.2.2) x)
  else if w=linkA then Zb4 Zrk fun a=>Zb4 Zrk fun b=>retR ((p.1.1,p.1.2.1,p.1.2.2++[(a,b)]),false)
  else ZcM none
def ZeM (p:PS):TS→PS×TS :=
 if p.2=true then Zch tEra fun x=>ret2 (ZcJ p.1 x)
 else Zch ZaW fun w =>
  if w=ruleA then Zch Zkr fun r=>ret2 ((p.1.1++[r],p.1.2.1,p.1.2.2),false)
  else if w=zoneA then Zch Ze2 fun n=>Zch tEra fun x=>ret2 (ZcJ (p.1.1,p.1.2.1++[(n,[])],p.1.2.2) x)
  else if w=linkA then Zch Ze2 fun a=>Zch Ze2 fun b=>ret2 ((p.1.1,p.1.2.1,p.1.2.2++[(a,b)]),false)
  else fun t=>(p,bad t)
theorem ZoT (p:PS):Agr (ZeM p) (Zsl p):=by
 unfold ZeM Zsl
 split
 ·exact agr_era.bind fun x=>Agr.ret _
 ·refine agr_next.bind fun w=>?_
  split
  ·exact agr_rule.bind fun r=>Agr.ret _
  ·split
   ·exact agr_name.bind fun n=>agr_era.bind fun x=>Agr.ret _
   ·split
    ·exact agr_name.bind fun a=>agr_name.bind fun b=>Agr.ret _
    ·exact Agr.lift (fun t h=>rfl) (fun l=>rfl)
def ZlU (p:PS) (x:Ln):Option PS:=if x.2.1≠p.2 then none else match Zsl p x.2.2 with
 | some (q,[])=>some q
 | _=>none
def badT (p:PS) (x:Ln):Prop:=(ZeM p (x.2.2,false)).2.2=true∨(ZeM p (x.2.2,false)).2.1≠[]∨x.2.1≠p.2
theorem ZrL {p:PS}{x:Ln}(h:badT p x):ZlU p x=none:=by
 unfold ZlU
 by_cases hi:x.2.1=p.2
 ·rw [if_neg (by simp [hi])]
  have hA:=(ZoT p x.2.2).2
  unfold badT at h
  revert hA
  cases hb:Zsl p x.2.2 with
  | none=>intro;rfl
  | some q =>
   obtain ⟨q,l⟩:=q
   intro hA
   simp only at hA
   rw [hA] at h
   cases l with
   | nil=>simp [hi] at h
   | cons c l=>rfl
 ·rw [if_pos hi]
theorem lineR_ok {p:PS}{x:Ln}(h:¬badT p x):ZlU p x=some (ZeM p (x.2.2,false)).1:=by
 unfold ZlU
 unfold badT at h
 simp only [not_or,Decidable.not_not] at h
 obtain ⟨h1,h2,h3⟩:=h
 rw [if_neg (by simp [h3])]
 have hA:=(ZoT p x.2.2).2
 revert hA
 cases hb:Zsl p x.2.2 with
 | none=>intro hA;exact absurd hA h1
 | some q =>
  obtain ⟨q,l⟩:=q
  intro hA
  simp only at hA
  rw [hA] at h2 ⊢
  simp only at h2
  subst h2
  rfl
def runR:PS→List Ln→PS ⊕ Int
 | p,[]=>.inl p
 | p,x::l=>match ZlU p x with
  | none=>.inr x.1
  | some q=>runR q l
def srcZ:Src:=([],[],[])
def endP (p:PS):Src×Int×Int:=if p.2=true then (srcZ,0,1) else if ZbQ p.1≠0 then (srcZ,0,ZbQ p.1) else (p.1,0,0)
def outP (l:List Ln):Src×Int×Int:=match runR (srcZ,false) l with
 | .inr n=>(srcZ,n,1)
 | .inl p=>endP p
def ZbU (s:ByteArray):Src×Int×Int:=if (Zcc s).2.2≠0 then (srcZ,(Zcc s).2.1,(Zcc s).2.2) else outP (Zcc s).1
theorem runR_at {l:List Ln}{k:Nat}(h:k<l.length) (p:PS):runR p (l.drop k)=match ZlU p l[k] with
  | none=>.inr l[k].1
  | some q=>runR q (l.drop (k+1)):=by
 rw [List.drop_eq_getElem_cons h,runR]
end Go.Proofs.YthdifaphoaekoaaGreatDoor
end
section
namespace Go.Proofs.YthdifaphoaekoaaGreatDoor
open Go.Ab Go.RowKit Civ
attribute [local simp] Zb7
section
theorem ZcS {a0 a1 c0:AV}{l:List AV}:setCells (a0::a1::l) 1 [c0]=a0::c0::l:=rfl
theorem Zp3 {a0 c0:AV}{l:List AV}:setCells (a0::l) 0 [c0]=c0::l:=rfl
end
def c132:AC:=(Sr [Ms 2] (.seq (Sr [Mv 4 0,Nk 5 4,Fa 6 1 5,Ld 7 6,Mv 8 7,Of 9 8 (mt 0),Of 10 8 (.nck (.tmp 9)),Of 11 8 (.fa 0 (.tmp 10)),Of 12 8 (.load false 1 (.tmp 11)),Of 13 8 (.len false (.tmp 12)),Of 14 8 (.bin .eql (.tmp 13) (Ci 0)),Oo 15 (.pick (.tmp 8) (.const (.bool true)) (.tmp 14))] (Cd 15 (Sr [Mv 16 0,Nk 17 16,Fa 18 1 17,⟨none,none,(.store 1 (.tmp 18) (.const (.bool true)))⟩] (Sr [Ms 2] .ret)) .skip)) (Sr [Mv 19 0,Nk 20 19,Fa 21 0 20,Ld 22 21,Oo 23 (.ia 1 (.tmp 22) (Ci 0)),Ld 24 23,Mv 3 24] (Sr [Mv 25 0,Mv 26 0,Nk 27 26,Fa 28 0 27,Ld 29 28,Oo 30 (.slc 1 (.tmp 29) (some (Ci 1)) none none),Nk 31 25,Fa 32 0 31,Sc 32 30] (Sr [Mv 33 3,Mv 2 33] .ret)))))
theorem k132:ZaD Tryz.prog 132=some ⟨c132,[(.tmp 2)],34⟩:=by kernel_rfl
def c178:AC:=(Sr [Mc 8 0] (.seq (Sr [Mv 11 1,Oo 12 (.len true (.tmp 11)),Mv 13 2,Mv 14 3,Cl 15 72 [(.tmp 12),(.tmp 13),(.tmp 14)],Oo 16 (.un .not (.tmp 15))] (Cd 16 (Sr [Mv 17 0,Nk 18 17,Fa 19 1 18,⟨none,none,(.store 1 (.tmp 19) (.const (.bool true)))⟩] (Sr [Mc 8 0] .ret)) .skip)) (Sr [Mc 9 0] (.seq (Sr [Mc 10 0] (.block 0 (.loop (.seq (Sr [Mv 20 10,Mv 21 1,Oo 22 (.len true (.tmp 21)),Bn 23 .lss 20 22] (Cd 23 .skip (.exit 0))) (.seq (.block 1 (.seq (Sr [Mv 26 1,Mv 27 10,Oo 28 (.ix (.tmp 26) (.tmp 27)),Cl 29 151 [(.tmp 28)],Oo 30 (.un .not (.tmp 29))] (Cd 30 (Sr [Mv 31 0,Nk 32 31,Fa 33 1 32,⟨none,none,(.store 1 (.tmp 33) (.const (.bool true)))⟩] (Sr [Mc 8 0] .ret)) .skip)) (.reg [Mv 34 9,Oo 35 (.bin .mul (Ci 10) (.tmp 34)),Mv 36 1,Mv 37 10,Oo 38 (.ix (.tmp 36) (.tmp 37)),Oo 39 (.cvi .i64 (.tmp 38)),Bn 40 .add 35 39,Bc 41 .sub 40 48,Mv 9 41]))) (.reg [Mv 24 10,Bc 25 .add 24 1,Mv 10 25])))))) (Sr [Mv 42 9,Mv 8 42] .ret)))))
theorem k178:ZaD Tryz.prog 178=some ⟨c178,[(.tmp 8)],43⟩:=by kernel_rfl
def c135:AC:=(Sr [Ms 2] (Sr [Mv 4 0,Cl 5 132 [(.tmp 4)],Mv 3 5] (.seq (Sr [Mv 6 3,Cl 7 108 [(.tmp 6)],Oo 8 (.un .not (.tmp 7))] (Cd 8 (.reg [Mv 9 0,Nk 10 9,Fa 11 1 10,⟨none,none,(.store 1 (.tmp 11) (.const (.bool true)))⟩]) .skip)) (Sr [Mv 12 3,Mv 2 12] .ret))))
theorem k135:ZaD Tryz.prog 135=some ⟨c135,[(.tmp 2)],13⟩:=by kernel_rfl
def c204:AC:=(Sr [Mc 4 0] (.seq (Sr [Mc 5 0] (.block 0 (.loop (.seq (Sr [Mv 6 5,Bc 7 .add 6 3,Mv 8 0,Oo 9 (.len true (.tmp 8)),Bn 10 .leq 7 9,Mv 11 10,Ot 12 11 (mt 1),Ot 13 11 (.len true (.tmp 12)),Ot 14 11 (.bin .eql (.tmp 13) (Ci 3)),Oo 15 (.pick (.tmp 11) (.tmp 14) (.const (.bool false)))] (Cd 15 .skip (.exit 0))) (.seq (.block 1 (Sr [Mv 18 0,Mv 19 5,Mv 20 5,Bc 21 .add 20 3,Oo 22 (.sls (.tmp 18) (some (.tmp 19)) (some (.tmp 21))),Mv 23 1,Bn 24 .eql 22 23] (Cd 24 (Sr [Mv 25 5,Bc 26 .quo 25 3,Mv 4 26] .ret) .skip))) (.reg [Mv 16 5,Bc 17 .add 16 3,Mv 5 17])))))) (Sr [Oo 4 (.mv (.const (.int .i64 (-1))))] .ret)))
theorem k204:ZaD Tryz.prog 204=some ⟨c204,[(.tmp 4)],27⟩:=by kernel_rfl
def c179:AC:=(Sr [Mc 2 0] (Sr [Mv 4 0,Cl 5 132 [(.tmp 4)],Oo 6 (.call (.func 204) [(.const (.string ⟨#[74,97,110,70,101,98,77,97,114,65,112,114,77,97,121,74,117,110,74,117,108,65,117,103,83,101,112,79,99,116,78,111,118,68,101,99]⟩)),(.tmp 5)]),Mv 3 6] (.seq (Sr [Mv 7 3,Bc 8 .lss 7 0] (Cd 8 (.reg [Mv 9 0,Nk 10 9,Fa 11 1 10,⟨none,none,(.store 1 (.tmp 11) (.const (.bool true)))⟩]) .skip)) (Sr [Mv 12 3,Bc 13 .add 12 1,Mv 2 13] .ret))))
theorem k179:ZaD Tryz.prog 179=some ⟨c179,[(.tmp 2)],14⟩:=by kernel_rfl
def c205:AC:=(Sr [Mc 4 0] (Sr [Mv 6 1,Oo 7 (.call (.func 204) [(.const (.string ⟨#[83,117,110,77,111,110,84,117,101,87,101,100,84,104,117,70,114,105,83,97,116]⟩)),(.tmp 6)]),Mv 5 7] (.seq (Sr [Mv 8 5,Bc 9 .lss 8 0] (Cd 9 (Sr [Mv 10 0,Nk 11 10,Fa 12 1 11,⟨none,none,(.store 1 (.tmp 12) (.const (.bool true)))⟩] (Sr [Mc 4 0] .ret)) .skip)) (Sr [Mv 13 5,Mv 4 13] .ret))))
theorem k205:ZaD Tryz.prog 205=some ⟨c205,[(.tmp 4)],14⟩:=by kernel_rfl
def c203:AC:=(Sr [Mc 4 0] (Sr [Mv 6 0,Mv 7 1,Cl 8 178 [(.tmp 6),(.tmp 7),(Ci 2),(Ci 2)],Mv 5 8] (.seq (Sr [Mv 9 5,Bc 10 .gtr 9 59] (Cd 10 (.reg [Mv 11 0,Nk 12 11,Fa 13 1 12,⟨none,none,(.store 1 (.tmp 13) (.const (.bool true)))⟩]) .skip)) (Sr [Mv 14 5,Mv 4 14] .ret))))
theorem k203:ZaD Tryz.prog 203=some ⟨c203,[(.tmp 4)],15⟩:=by kernel_rfl
abbrev takE (t:TS):Ent:=.mk 0 175 2 [.sl t.1.length 1 false (rows strC t.1),bv t.2]
theorem ZaQ {l:List ByteArray}{b:Bool}{n:Nat}:(Ent.mk 0 175 2 [.sl l.length 1 false (rows strC l),.v (.bool b)]).lt n=true:=by simp [Ent.lt,AV.lt,AV.ltL,Zb7]
theorem tnext_b {l:List ByteArray}{b:Bool}{id:Nat}{h:AH}(h1:h[id]?=some (takE (l,b))):ACalls Tryz.prog 132 [.ptr id 0 0] h fun x h'=>x=.ret (sv (ZaW (l,b)).1)∧h'=h.set id (takE (ZaW (l,b)).2):=by
 have hid:id<h.length:=(List.getElem?_eq_some_iff.1 h1).1
 refine tJ' k132 fun N hn hlt hlA hbd=>?_
 simp only [tb'] at hbd ⊢
 refine ZdV (h1:=h.set id (.mk 0 175 2 [.sl l.length 1 false (rows strC l),bv b])++[]) (by rw [Zc8 h1]) ?_
 refine wr'<|mv' lks pt<|sn'<|Zah<|wr'<|mv' lk pt<|V' (Zct lk) pt<|V' (Zac lk) pt<|V' (Zab lk (Za9 hid) gt1) pt<|mv' lk pt<|?_
 refine ZaM (t:=8) gt pt pt (fun hg8=>?_) (fun hg8=>?_)
 ·have hb:b=true:=hg8
  have hT:ZaW (l,b)=(⟨#[]⟩,l,true):=if_pos (.inl hb)
  refine s_no gt pt<|s_no gt pt<|s_no gt pt<|s_no gt pt<|s_no gt pt<|s_no gt pt<|V' (Zai lk lkb) pt<|sn'<|ZaG lk<|wr'<|mv' lk pt<|V' (Zct lk) pt<|?_
  refine V' (Zac lk) pt<|E' (Zal lk (cvl lkb rfl) (Za9 hid) rfl (nb' rfl) rfl ZcS (ZaP hid)) ptn<|sn'<|wr'<|mv' lks pt<|sn'<|Zaa<|Zaj<|Zag rz<|?_
  exact ⟨_,_,rfl,Zao hn,Zb8 hlt ZaQ,rfl,by rw [hT],by rw [hT]⟩
 have hb:b=false:=by simpa using hg8
 refine s_do gt<|mv' lk pt<|s_do gt<|V' (Zct lk) pt<|s_do gt<|V' (Zac lk) pt<|s_do gt<|V' (Zab lk (Za9 hid) gt0) pt<|s_do gt<|V' (ZaI lk) pt<|s_do gt<|V' (ZaN lk lki) pt<|V' (Zak lk lk) pt<|Zaq<|?_
 refine Zaf ?_
 refine cd' lk (fun hc1=>?_) (fun hc1=>?_)
 ·have hT:ZaW (l,b)=(⟨#[]⟩,l,true):=if_pos (.inr (List.eq_nil_of_length_eq_zero (show l.length=0 by have hc1':(l.length:Int)=0:=hc1;omega)))
  refine wr'<|mv' lk pt<|V' (Zct lk) pt<|V' (Zac lk) pt<|E' (Zal lk (cvl lkb rfl) (Za9 hid) rfl (nb' rfl) rfl ZcS (ZaP hid)) ptn<|sn'<|wr'<|mv' lks pt<|sn'<|Zaa<|?_
  refine Zaj<|Zag rz<|?_
  exact ⟨_,_,rfl,Zao hn,Zb8 hlt ZaQ,rfl,by rw [hT],by rw [hT]⟩
 have hlen:0<l.length:=by have hc1':¬(l.length:Int)=0:=hc1;omega
 have hne:l≠[]:=by intro e;rw [e] at hlen;cases hlen
 have hT:ZaW (l,b)=(l[0],l.drop 1,b):=by
  cases l with
  | nil=>exact absurd rfl hne
  | cons a l=>subst hb;rfl
 refine Zad<|Zaf<|wr'<|mv' lk pt<|V' (Zct lk) pt<|V' (Zac lk) pt<|V' (Zab lk (Za9 hid) gt0) pt<|?_
 refine V' (ZaJ (k:=0) lk lki ZbA (nb' rfl) ro (by omega) ro rfl) pt ?_
 refine V' (Zar lk gt) pt<|mv' lk pt<|sn'<|wr'<|mv' lk pt<|mv' lk pt<|V' (Zct lk) pt<|V' (Zac lk) pt<|V' (Zab lk (Za9 hid) gt0) pt<|?_
 refine V' (v_lo (k:=1) lk lki ZbA ro (by omega) ro) pt ?_
 refine V' (Zct lk) pt<|V' (Zac lk) pt<|E' (Zal lk (cvl lk rfl) (Za9 hid) rfl (nb' rfl) rfl Zp3 (ZaP hid)) ptn<|sn'<|wr'<|mv' lk pt<|mv' lk pt<|sn'<|Zaa<|Zag rz<|?_
 exact ⟨_,_,rfl,Zao hn,Zb8 hlt ZaQ,rfl,by rw [hT],by rw [hT]⟩
theorem ZmH {t:TS}{id:Nat}{h:AH}(h1:h[id]?=some (takE t)):ACalls Tryz.prog 132 [.ptr id 0 0] h fun x h'=>x=.ret (sv (ZaW t).1)∧h'=h.set id (takE (ZaW t).2):=tnext_b h1
theorem Znj {n:Int}(h:digB n=true):48≤n∧n≤57:=by unfold digB at h;simpa using h
theorem ZdZ {s:ByteArray}{a b:Int}{t:TS}{id:Nat}{h:AH}(hb4:b≤4) (h1:h[id]?=some (takE t)):ACalls Tryz.prog 178 [.ptr id 0 0,sv s,iv a,iv b] h fun x h'=>x=.ret (iv (tNum s a b t).1)∧h'=h.set id (takE (tNum s a b t).2):=by
 obtain ⟨l,bd⟩:=t
 have hid:id<h.length:=(List.getElem?_eq_some_iff.1 h1).1
 refine tJ' k178 fun N hn hlt hlA hbd=>?_
 simp only [tb'] at hbd ⊢
 refine ZdV (h1:=h.set id (takE (l,bd))++[]) (by rw [Zc8 h1]) ?_
 refine wr'<|mv' lki pt<|sn'<|Zah<|wr'<|mv' lk pt<|V' (Zbm lk) pt<|mv' lk pt<|mv' lk pt<|Zae mp (Za4) pt<|V' (ZaC lk) pt<|?_
 refine sn' ?_
 refine Zaw lk (fun hc1=>?_) (fun hc1=>?_)
 ·have hw:¬wi s.size a b=true:=by simpa using hc1
  have hT:tNum s a b (l,bd)=(0,l,true):=ZdP (if_neg (fun e=>hw e.1))
  refine wr'<|mv' lk pt<|V' (Zct lk) pt<|V' (Zac lk) pt<|E' (Zal lk (cvl lkb rfl) (Za9 hid) rfl (nb' rfl) rfl ZcS (ZaP hid)) ptn<|sn'<|wr'<|mv' lki pt<|sn'<|Zaa<|?_
  refine Zaj<|Zag rz<|?_
  exact ⟨_,_,rfl,Zao hn,Zb8 hlt ZaQ,rfl,by rw [hT],by rw [hT]⟩
 have hw:wi s.size a b=true:=by simpa using hc1
 have hz:s.size≤4:=by unfold wi at hw;simp at hw;omega
 refine Zad<|Zaf<|wr'<|mv' lki pt<|sn'<|Zah<|wr'<|mv' lki pt<|sn'<|Zan<|?_
 refine w_lp (ι:=Nat×Int) (fun (x_:Nat×Int)=>match x_ with | ⟨k,n⟩=>[(9,iv n),(10,iv (k:Int)),(8,.any)]++rn' 20 22) (fun (x_:Nat×Int)=>match x_ with | ⟨k,n⟩=>[]) (fun (x_:Nat×Int)=>match x_ with | ⟨k,n⟩=>k≤s.size∧0≤n∧n<10 ^ k∧decL 0 (aB s)=decL n ((aB s).drop k) ∧ ∀ j (hj:j<s.size),j<k→digB s[j].toNat=true) (fun (x_:Nat×Int)=>match x_ with | ⟨k,n⟩=>s.size-k) (⟨0,0⟩) (by exact ⟨by omega,by omega,by decide,rfl,fun j hj h0=>absurd h0 (by omega)⟩) ?_
 rintro ⟨k,n⟩ hi1
 try simp only [sm',Nat.reduceAdd]
 obtain ⟨hk1,hk2,hk3,hk4,hk5⟩:=hi1
 refine Zah<|wr'<|mv' lk pt<|mv' lk pt<|V' (Zbm lk) pt<|V' (ZaZ lk lk) pt<|sn'<|?_
 refine cd' lk (fun hc2=>?_) (fun hc2=>?_)
 ·have hk:k<s.size:=by omega
  have hbb:=Zfh s k
  have hbk:ZaL s k=s[k]:=ZcQ hk
  have hp:(10:Int) ^ k≤1000:=by
   have:k=0∨k=1∨k=2∨k=3:=by omega
   rcases this with rfl | rfl | rfl | rfl <;> decide
  refine Zad<|Zaf<|Zah<|Zan<|Zah<|wr'<|mv' lk pt<|mv' lk pt<|?_
  refine V' (v_ix lk lk (by omega) (by omega)) pt ?_
  refine Zae mp (Zek hbb.1 hbb.2) pt<|V' (ZaC lk) pt<|sn'<|?_
  refine Zaw lk (fun hc3=>?_) (fun hc3=>?_)
  ·have hd:digB s[k].toNat=false:=by rw [←hbk];simpa using hc3
   have hT:tNum s a b (l,bd)=(0,l,true):=ZdP (if_neg (fun e=>by have:=ZiJ hk hd;rw [e.2] at this;cases this))
   refine wr'<|mv' lk pt<|V' (Zct lk) pt<|V' (Zac lk) pt<|E' (Zal lk (cvl lkb rfl) (Za9 hid) rfl (nb' rfl) rfl ZcS (ZaP hid)) ptn<|sn'<|wr'<|mv' lki pt<|sn'<|Zaa<|?_
   refine Zaj<|Zas<|Zaj<|Zaj<|Zas<|Zaj<|Zag rz<|?_
   exact ⟨_,_,rfl,Zao hn,Zb8 hlt ZaQ,rfl,by rw [hT],by rw [hT]⟩
  have hd:digB (ZaL s k).toNat=true:=by simpa using hc3
  have hdb:48≤((ZaL s (k:Int).toNat).toNat:Int)∧((ZaL s (k:Int).toNat).toNat:Int)≤57:=Znj hd
  have hdb2:=Znj hd
  refine Zad<|Zaf<|Zat<|mv' lk pt<|?_
  refine V' (Zee lki lk (by omega) (by omega)) pt ?_
  refine mv' lk pt<|mv' lk pt<|?_
  refine V' (v_ix lk lk (by omega) (by omega)) pt ?_
  refine V' (ZhY lk (by omega) (by omega)) pt ?_
  refine V' (Zav lk lk (by omega) (by omega)) pt ?_
  refine V' (Zbn lk lki (by omega) (by omega)) pt ?_
  refine mv' lk pt<|Zaq<|Zay<|Zaf<|Zat<|mv' lk pt<|?_
  refine V' (Zav lk lki (by omega) (by omega)) pt ?_
  refine mv' lk pt<|Zaq<|ZaB<|?_
  refine lT' (⟨k+1,10*n+(ZaL s k).toNat-48⟩) (by (try dsimp only);refine ⟨by omega,by omega,by rw [Int.pow_succ];omega,by rw [hk4,Zfj hk,decL],fun j hj h0=>?_⟩;rcases Nat.lt_or_ge j k with e | e;exact hk5 j hj e;obtain rfl:j=k:=(by omega);rw [←hbk];exact hd)
 have hT:tNum s a b (l,bd)=(n,l,bd):=ZdO (by
  unfold numV
  rw [if_pos ⟨hw,Zgz fun j hj=>hk5 j hj (by omega)⟩,hk4,Zmh (by omega)];rfl)
 refine ZaE<|Zaz<|Zaz<|ZaX<|Zaf<|wr'<|mv' lk pt<|mv' lk pt<|sn'<|Zaa<|Zag rz<|?_
 exact ⟨_,_,rfl,Zao hn,Zb8 hlt ZaQ,rfl,by rw [hT],by rw [hT]⟩
theorem tname_a {t:TS}{id:Nat}{h:AH}(hz:(ZaW t).1.size≤maxLen) (h1:h[id]?=some (takE t)):ACalls Tryz.prog 135 [.ptr id 0 0] h fun x h'=>x=.ret (sv (Ze2 t).1)∧h'=h.set id (takE (Ze2 t).2):=by
 have hid:id<h.length:=(List.getElem?_eq_some_iff.1 h1).1
 refine tJ' k135 fun N hn hlt hlA hbd=>?_
 simp only [tb'] at hbd ⊢
 refine ZdV (h1:=h.set id (takE t)++[]) (by rw [Zc8 h1]) ?_
 refine wr'<|mv' lks pt<|sn'<|wr'<|mv' lk pt<|ZaT mp (ZmH (Za9 hid)) (ZaP hid) pt<|mv' lk pt<|sn'<|Zah<|Zah<|?_
 refine Zat<|mv' lk pt<|Zae mp (Zdk hz) pt<|V' (ZaC lk) pt<|sn'<|?_
 refine Zaw lk (fun hc1=>?_) (fun hc1=>?_)
 ·refine Zat<|mv' lk pt<|V' (Zct lk) pt<|V' (Zac lk) pt<|E' (Zal lk (cvl lkb rfl) (Za9 hid) rfl (nb' rfl) rfl ZcS (ZaP hid)) ptn<|sn'<|wr'<|mv' lk pt<|mv' lk pt<|sn'<|Zaa<|?_
  refine Zag rz ?_
  exact ⟨_,_,rfl,Zao hn,Zb8 hlt ZaQ,rfl,rfl,by unfold Ze2;rw [if_neg (by simpa using hc1)]⟩
 refine Zad<|Zaf<|wr'<|mv' lk pt<|mv' lk pt<|sn'<|Zaa<|Zag rz<|?_
 exact ⟨_,_,rfl,Zao hn,Zb8 hlt ZaQ,rfl,rfl,by unfold Ze2;rw [if_pos (by simpa using hc1)]⟩
theorem idxL_at {l:List ByteArray}{s:ByteArray}{d:Int}{k:Nat}(h:k<l.length):idxL (l.drop k) s (d+k)=if s=l[k] then some (d+k) else idxL (l.drop (k+1)) s (d+(k+1:Nat)):=by
 rw [List.drop_eq_getElem_cons h,idxL]
 congr 2
 push_cast;omega
theorem ZrU {s:ByteArray} : ∀ {l:List ByteArray}{d:Int},(∀ x∈l,s≠x)→idxL l s d=none
 | [],_,_=>rfl
 | x::l,d,h=>by rw [idxL,if_neg (h x (by simp))];exact ZrU fun y hy=>h y (by simp [hy])
theorem Zm8 {s:ByteArray} : ∀ {l:List ByteArray}{d:Int},idxL l s d=(idxL l s 0).map (· + d)
 | [],_=>rfl
 | x::l,d=>by
  rw [idxL,idxL]
  split
  ·simp
  rw [Zm8 (l:=l) (d:=d+1),Zm8 (l:=l) (d:=0+1),Option.map_map];congr 1;funext y;simp;omega
theorem Zn3 {nl:List ByteArray}{all s:ByteArray}{h:AH}(hl:nl.length≤20) (hz:all.size=3*nl.length) (h3 : ∀ x∈nl,x.size=3) (hx : ∀ k (hk:k<nl.length),all.extract (3*k) (3*k+3)=nl[k]):Ac 204 [sv all,sv s] h (iv ((idxL nl s 0).getD (-1))):=by
 refine tI' k204 fun N hn hlt hlA hbd=>?_
 simp only [tb'] at hbd ⊢
 refine wr'<|mv' lki pt<|sn'<|Zah<|wr'<|mv' lki pt<|sn'<|Zan<|?_
 refine w_lp (ι:=Nat) (fun (k:Nat)=>[(5,iv ((3*k:Nat):Int)),(4,.any)]++rn' 6 21) (fun (k:Nat)=>[]) (fun (k:Nat)=>k≤nl.length∧idxL nl s 0=idxL (nl.drop k) s (0+(k:Int))) (fun (k:Nat)=>nl.length-k) (0) (by exact ⟨Nat.zero_le _,by simp⟩) ?_
 rintro k hi1
 try simp only [sm',Nat.reduceAdd]
 obtain ⟨hk1,hk2⟩:=hi1
 refine Zah<|wr'<|mv' lk pt<|?_
 refine V' (Zav lk lki (by omega) (by omega)) pt ?_
 refine mv' lk pt<|V' (Zbm lk) pt<|V' (Zc5 lk lk) pt<|mv' lk pt<|?_
 refine sp' (t:=11) gt pt pt (fun hg11=>?_) (fun hg11=>?_)
 ·have hk:k<nl.length:=by omega
  rw [idxL_at hk] at hk2
  refine s_do gt<|mv' lk pt<|s_do gt<|V' (Zbm lk) pt<|s_do gt<|V' (ZaN lk lki) pt<|V' (Zai lk lk) pt<|sn'<|?_
  refine cd' lk (fun hc1=>?_) (fun hc1=>?_)
  ·have he:=hx k hk
   refine Zad<|Zaf<|Zah<|Zan<|wr'<|mv' lk pt<|mv' lk pt<|mv' lk pt<|?_
   refine V' (Zav lk lki (by omega) (by omega)) pt ?_
   refine V' (Zdr lk (oi lk) (oi lk) (by omega) (by omega) (by omega)) pt ?_
   refine mv' lk pt<|V' (Zci lk lk) pt<|sn'<|?_
   refine cd' lk (fun hc2=>?_) (fun hc2=>?_)
   ·have hc2':s=nl[k]:=by rw [←he];exact hc2.symm
    rw [if_pos hc2'] at hk2
    refine wr'<|mv' lk pt<|?_
    refine V' (Zgb lk lki (by omega) (by omega) (by omega)) pt ?_
    refine mv' lk pt<|sn'<|Zaa<|Zas<|Zaj<|Zaj<|Zas<|Zaj<|Zag rz<|rT'<|?_
    refine ivx ?_;rw [hk2];simp
   have hc2':¬s=nl[k]:=by rw [←he];exact fun e=>hc2 e.symm
   rw [if_neg hc2'] at hk2
   refine Zad<|Zay<|Zaf<|Zat<|mv' lk pt<|?_
   refine V' (Zav lk lki (by omega) (by omega)) pt ?_
   refine mv' lk pt<|Zaq<|ZaB<|?_
   refine lT' (k+1) (by (try dsimp only);exact ⟨by omega,by rw [hk2]⟩)
  refine ZaE<|Zaz<|Zaz<|ZaX<|Zaf<|wr'<|mv' lki pt<|sn'<|Zaa<|Zag rz<|rT'<|?_
  refine ivx ?_;rw [ZrU (l:=nl) (d:=0) (fun x hx e=>hc1 (by rw [e,h3 x hx];rfl))];rfl
 refine s_no gt pt<|s_no gt pt<|s_no gt pt<|V' (Zak lk lkb) pt<|sn'<|ZaR lk<|ZaE<|Zaz<|Zaz<|ZaX<|Zaf<|wr'<|?_
 refine mv' lki pt<|sn'<|Zaa<|Zag rz<|rT'<|?_
 refine ivx ?_;rw [List.drop_of_length_le (by omega)] at hk2;rw [hk2];rfl
def monA:ByteArray:=bA [74,97,110,70,101,98,77,97,114,65,112,114,77,97,121,74,117,110,74,117,108,65,117,103,83,101,112,79,99,116,78,111,118,68,101,99]
def dayA:ByteArray:=bA [83,117,110,77,111,110,84,117,101,87,101,100,84,104,117,70,114,105,83,97,116]
theorem mon_at : ∀ k (hk:k<monL.length),monA.extract (3*k) (3*k+3)=monL[k]:=by decide
theorem day_at : ∀ k (hk:k<dayL.length),dayA.extract (3*k) (3*k+3)=dayL[k]:=by decide
theorem mon_3 : ∀ x∈monL,x.size=3:=by decide
theorem day_3 : ∀ x∈dayL,x.size=3:=by decide
theorem Zm9 {s:ByteArray} : ∀ {l:List ByteArray}{d n:Int},idxL l s d=some n→d≤n∧n<d+l.length
 | [],_,_,h=>by cases h
 | x::l,d,n,h=>by
  rw [idxL] at h
  split at h
  ·cases h;simp;omega
  have:=Zm9 h;simp;omega
theorem tmonth_a {t:TS}{id:Nat}{h:AH}(h1:h[id]?=some (takE t)):ACalls Tryz.prog 179 [.ptr id 0 0] h fun x h'=>x=.ret (iv (ZdQ t).1)∧h'=h.set id (takE (ZdQ t).2):=by
 have hid:id<h.length:=(List.getElem?_eq_some_iff.1 h1).1
 have hM:idxL monL (ZaW t).1 1=(idxL monL (ZaW t).1 0).map (· + 1):=Zm8
 obtain ⟨o,ho⟩ : ∃ o,o=idxL monL (ZaW t).1 0:=⟨_,rfl⟩
 rw [←ho] at hM
 have hbd : ∀ n,o=some n→0≤n∧n<12:=fun n e=>by have:=Zm9 (ho.symm.trans e);have h12:(monL.length:Int)=12:=rfl;omega
 refine tJ' k179 fun N hn hlt hlA hbd=>?_
 simp only [tb'] at hbd ⊢
 refine ZdV (h1:=h.set id (takE t)++[]) (by rw [Zc8 h1]) ?_
 refine wr'<|mv' lki pt<|sn'<|wr'<|mv' lk pt<|ZaT mp (ZmH (Za9 hid)) (ZaP hid) pt<|?_
 refine Zae mp (Zn3 (nl:=monL) (all:=monA) (by decide) (by decide) mon_3 mon_at) pt ?_
 rw [←ho]
 have hcase:(o=none) ∨ ∃ n,o=some n:=by cases o <;> simp
 have hgd : -1≤o.getD (-1)∧o.getD (-1)<12:=by rcases hcase with rfl | ⟨n,rfl⟩;exact ⟨by decide,by decide⟩;have:=hbd n rfl;exact ⟨by simp;omega,by simp;omega⟩
 refine mv' lk pt<|sn'<|Zah<|wr'<|mv' lk pt<|V' (ZaZ lk lki) pt<|sn'<|?_
 refine cd' lk (fun hc1=>?_) (fun hc1=>?_)
 ·refine Zat<|mv' lk pt<|V' (Zct lk) pt<|V' (Zac lk) pt<|E' (Zal lk (cvl lkb rfl) (Za9 hid) rfl (nb' rfl) rfl ZcS (ZaP hid)) ptn<|sn'<|wr'<|mv' lk pt<|?_
  refine V' (Zav lk lki (by omega) (by omega)) pt ?_
  refine mv' lk pt<|sn'<|Zaa<|Zag rz<|?_
  have ho2:o=none:=by rcases hcase with e | ⟨n,rfl⟩;exact e;have:=hbd n rfl;simp at hc1;omega
  have hT:ZdQ t=(0,bad (ZaW t).2):=by unfold ZdQ;rw [hM,ho2];rfl
  exact ⟨_,_,rfl,Zao hn,Zb8 hlt ZaQ,rfl,by rw [hT,ho2];rfl,by rw [hT]⟩
 refine Zad<|Zaf<|wr'<|mv' lk pt<|?_
 refine V' (Zav lk lki (by omega) (by omega)) pt ?_
 refine mv' lk pt<|sn'<|Zaa<|Zag rz<|?_
 obtain ⟨n,rfl⟩ : ∃ n,o=some n:=by rcases hcase with rfl | e;exact absurd (by decide:(-1:Int)<0) hc1;exact e
 have hT:ZdQ t=(n+1,(ZaW t).2):=by unfold ZdQ;rw [hM];rfl
 exact ⟨_,_,rfl,Zao hn,Zb8 hlt ZaQ,rfl,by rw [hT];rfl,by rw [hT]⟩
theorem ZhZ {s:ByteArray}{t:TS}{id:Nat}{h:AH}(h1:h[id]?=some (takE t)):ACalls Tryz.prog 205 [.ptr id 0 0,sv s] h fun x h'=>x=.ret (iv (Zeg s t).1)∧h'=h.set id (takE (Zeg s t).2):=by
 have hid:id<h.length:=(List.getElem?_eq_some_iff.1 h1).1
 obtain ⟨o,ho⟩ : ∃ o,o=idxL dayL s 0:=⟨_,rfl⟩
 have hbd : ∀ n,o=some n→0≤n∧n<7:=fun n e=>by have:=Zm9 (ho.symm.trans e);have h7:(dayL.length:Int)=7:=rfl;omega
 refine tJ' k205 fun N hn hlt hlA hbd=>?_
 simp only [tb'] at hbd ⊢
 refine ZdV (h1:=h.set id (takE t)++[]) (by rw [Zc8 h1]) ?_
 refine wr'<|mv' lki pt<|sn'<|wr'<|mv' lk pt<|?_
 refine Zae mp (Zn3 (nl:=dayL) (all:=dayA) (by decide) (by decide) day_3 day_at) pt ?_
 rw [←ho]
 have hcase:(o=none) ∨ ∃ n,o=some n:=by cases o <;> simp
 refine mv' lk pt<|sn'<|Zah<|wr'<|mv' lk pt<|V' (ZaZ lk lki) pt<|sn'<|?_
 refine cd' lk (fun hc1=>?_) (fun hc1=>?_)
 ·refine wr'<|mv' lk pt<|V' (Zct lk) pt<|V' (Zac lk) pt<|E' (Zal lk (cvl lkb rfl) (Za9 hid) rfl (nb' rfl) rfl ZcS (ZaP hid)) ptn<|sn'<|wr'<|mv' lki pt<|sn'<|Zaa<|?_
  refine Zaj<|Zag rz<|?_
  have ho2:o=none:=by rcases hcase with e | ⟨n,rfl⟩;exact e;have:=hbd n rfl;simp at hc1;omega
  have hT:Zeg s t=(0,bad t):=by unfold Zeg;rw [←ho,ho2]
  exact ⟨_,_,rfl,Zao hn,Zb8 hlt ZaQ,rfl,by rw [hT],by rw [hT]⟩
 refine Zad<|Zaf<|wr'<|mv' lk pt<|mv' lk pt<|sn'<|Zaa<|Zag rz<|?_
 obtain ⟨n,rfl⟩ : ∃ n,o=some n:=by rcases hcase with rfl | e;exact absurd (by decide:(-1:Int)<0) hc1;exact e
 have hT:Zeg s t=(n,t):=by unfold Zeg;rw [←ho]
 exact ⟨_,_,rfl,Zao hn,Zb8 hlt ZaQ,rfl,by rw [hT];rfl,by rw [hT]⟩
theorem ZqE {s:ByteArray}{t:TS}{id:Nat}{h:AH}(h1:h[id]?=some (takE t)):ACalls Tryz.prog 203 [.ptr id 0 0,sv s] h fun x h'=>x=.ret (iv (tSix s t).1)∧h'=h.set id (takE (tSix s t).2):=by
 have hid:id<h.length:=(List.getElem?_eq_some_iff.1 h1).1
 refine tJ' k203 fun N hn hlt hlA hbd=>?_
 simp only [tb'] at hbd ⊢
 refine ZdV (h1:=h.set id (takE t)++[]) (by rw [Zc8 h1]) ?_
 refine wr'<|mv' lki pt<|sn'<|wr'<|mv' lk pt<|mv' lk pt<|?_
 refine ZaT mp (ZdZ (by omega) (Za9 hid)) (ZaP hid) pt ?_
 refine mv' lk pt<|sn'<|Zah<|wr'<|mv' lk pt<|V' (ZbW lk lki) pt<|sn'<|?_
 refine cd' lk (fun hc1=>?_) (fun hc1=>?_)
 ·refine Zat<|mv' lk pt<|V' (Zct lk) pt<|V' (Zac lk) pt<|E' (Zal lk (cvl lkb rfl) (Za9 hid) rfl (nb' rfl) rfl ZcS (ZaP hid)) ptn<|sn'<|wr'<|mv' lk pt<|mv' lk pt<|sn'<|Zaa<|?_
  refine Zag rz ?_
  exact ⟨_,_,rfl,Zao hn,Zb8 hlt ZaQ,rfl,rfl,by unfold tSix;rw [if_pos (by omega)]⟩
 refine Zad<|Zaf<|wr'<|mv' lk pt<|mv' lk pt<|sn'<|Zaa<|Zag rz<|?_
 exact ⟨_,_,rfl,Zao hn,Zb8 hlt ZaQ,rfl,rfl,by unfold tSix;rw [if_neg (by omega)]⟩
end Go.Proofs.YthdifaphoaekoaaGreatDoor
end
section
namespace Go.Proofs.YthdifaphoaekoaaGreatDoor
open Go.Ab Go.RowKit Civ
attribute [local simp] Zb7
section
theorem ZhB {τ:Operand→AV}{y0:Operand}{x0_0:AV}(h0:Zax (τ y0)=some [x0_0]) (l0:[x0_0].all leaf=true):Zau τ [(0,1,y0)] [(.v (.string ⟨#[]⟩))]=some [x0_0]:=by
 simp only [Zau,h0,l0]
 rfl
theorem Zmp {a0:AV}{l:List AV}:(a0::l).take 1=[a0]:=rfl
theorem Zka {a0 a1 c0:AV}{l:List AV}:setCells (a0::a1::l) 1 [c0]=a0::c0::l:=rfl
theorem Zmq {τ:Operand→AV}{y0 y1:Operand}{x0_0 x1_0:AV}(h0:Zax (τ y0)=some [x0_0]) (l0:[x0_0].all leaf=true) (h1:Zax (τ y1)=some [x1_0]) (l1:[x1_0].all leaf=true):Zau τ [(0,1,y0),(1,1,y1)] [(.v (.int .i64 0)),(.v (.int .i64 0)),(.v (.int .i64 0))]=some [x0_0,x1_0,(.v (.int .i64 0))]:=by
 simp only [Zau,h0,l0,h1,l1]
 rfl
theorem Zbx {a0 a1 a2 c0 c1 c2:AV}{l:List AV}:setCells (a0::a1::a2::l) 0 [c0,c1,c2]=c0::c1::c2::l:=rfl
theorem Zbw {a0 a1 a2:AV}{l:List AV}:((a0::a1::a2::l).drop 0).take 3=[a0,a1,a2]:=rfl
theorem Zd7 {τ:Operand→AV}{y0 y1 y2:Operand}{x0_0 x1_0 x2_0:AV}(h0:Zax (τ y0)=some [x0_0]) (l0:[x0_0].all leaf=true) (h1:Zax (τ y1)=some [x1_0]) (l1:[x1_0].all leaf=true) (h2:Zax (τ y2)=some [x2_0]) (l2:[x2_0].all leaf=true):Zau τ [(0,1,y0),(1,1,y1),(2,1,y2)] [(.v (.int .i64 0)),(.v (.int .i64 0)),(.v (.int .i64 0))]=some [x0_0,x1_0,x2_0]:=by
 simp only [Zau,h0,l0,h1,l1,h2,l2]
 rfl
theorem Zkb {a0 c0:AV}{l:List AV}:setCells (a0::l) 0 [c0]=c0::l:=rfl
theorem ZcR {τ:Operand→AV}{y0 y1:Operand}{x0_0 x1_0:AV}(h0:Zax (τ y0)=some [x0_0]) (l0:[x0_0].all leaf=true) (h1:Zax (τ y1)=some [x1_0]) (l1:[x1_0].all leaf=true):Zau τ [(0,1,y0),(2,1,y1)] [(.v (.int .i64 0)),(.v (.int .i64 0)),(.v (.int .i64 0))]=some [x0_0,(.v (.int .i64 0)),x1_0]:=by
 simp only [Zau,h0,l0,h1,l1]
 rfl
end
def c181:AC:=(Sr [Oo 2 (.new 38 3 [(iv 0),(iv 0),(iv 0)])] (Sr [Mv 5 0,Cl 6 132 [(.tmp 5)],Mv 3 6] (.seq (Sr [Mv 7 3,Oo 8 (.len true (.tmp 7)),Bc 9 .geq 8 4,Mv 10 9,Ot 11 10 (mt 3),Ot 12 10 (.sls (.tmp 11) none (some (Ci 4))),Ot 13 10 (.bin .eql (.tmp 12) (.const (.string ⟨#[108,97,115,116]⟩))),Oo 14 (.pick (.tmp 10) (.tmp 13) (.const (.bool false)))] (Cd 14 (Sr [Mv 15 0,Mv 16 3,Oo 17 (.sls (.tmp 16) (some (Ci 4)) none),Cl 18 205 [(.tmp 15),(.tmp 17)],Oo 19 (.build [(iv 0),(iv 0),(iv 0)] [(0,(1,(Ci 2))),(1,(1,(.tmp 18)))]),⟨none,none,(.store 3 (.tmp 2) (.tmp 19))⟩] .ret) .skip)) (.seq (Sr [Mv 20 3,Oo 21 (.len true (.tmp 20)),Bc 22 .gtr 21 5,Mv 23 22,Ot 24 23 (mt 3),Ot 25 23 (.ix (.tmp 24) (Ci 4)),Ot 26 23 (.bin .eql (.tmp 25) (.const (.int .u8 61))),Oo 27 (.pick (.tmp 23) (.tmp 26) (.const (.bool false))),Mv 28 27,Ot 29 28 (mt 3),Ot 30 28 (.ix (.tmp 29) (Ci 3)),Ot 31 28 (.bin .eql (.tmp 30) (.const (.int .u8 62))),Ot 32 28 (mt 31),Of 33 32 (mt 3),Of 34 32 (.ix (.tmp 33) (Ci 3)),Of 35 32 (.bin .eql (.tmp 34) (.const (.int .u8 60))),Ot 36 28 (.pick (.tmp 32) (.const (.bool true)) (.tmp 35)),Oo 37 (.pick (.tmp 28) (.tmp 36) (.const (.bool false)))] (Cd 37 (.seq (.drwU [[],[0],[0],[],[0,1,2,3],[0,1,2,3,4],[0,1,2,3,4],[],[],[0,1,2,3,4,5,6,7,8],[]] [Mv 38 0,Mv 39 3,Oo 40 (.sls (.tmp 39) none (some (Ci 3))),Cl 41 205 [(.tmp 38),(.tmp 40)],Mv 42 0,Mv 43 3,Oo 44 (.sls (.tmp 43) (some (Ci 5)) none),Cl 45 178 [(.tmp 42),(.tmp 44),(Ci 1),(Ci 2)],Oo 46 (.build [(iv 0),(iv 0),(iv 0)] [(0,(1,(Ci 3))),(1,(1,(.tmp 41))),(2,(1,(.tmp 45)))]),Oo 4 (.new 38 3 [(iv 0),(iv 0),(iv 0)]),⟨none,none,(.store 3 (.tmp 4) (.tmp 46))⟩]) (.seq (Sr [Mv 47 3,Oo 48 (.ix (.tmp 47) (Ci 3)),Oo 49 (.bin .eql (.tmp 48) (.const (.int .u8 60)))] (Cd 49 (.reg [Fa 50 0 4,⟨none,none,(.store 1 (.tmp 50) (Ci 4))⟩]) .skip)) (Sr [Oo 51 (.load true 3 (.tmp 4)),⟨none,none,(.store 3 (.tmp 2) (.tmp 51))⟩] .ret))) .skip)) (Sr [Mv 52 0,Mv 53 3,Cl 54 178 [(.tmp 52),(.tmp 53),(Ci 1),(Ci 2)],Oo 55 (.build [(iv 0),(iv 0),(iv 0)] [(0,(1,(Ci 1))),(2,(1,(.tmp 54)))]),⟨none,none,(.store 3 (.tmp 2) (.tmp 55))⟩] .ret)))))
theorem k181:ZaD Tryz.prog 181=some ⟨c181,[(.cell 2 true 3)],56⟩:=by kernel_rfl
def c177:AC:=(Sr [Mc 4 0] (.seq (Sr [Mv 9 1,Oo 10 (.bin .eql (.tmp 9) (.const (.string ⟨#[48]⟩)))] (Cd 10 (Sr [Mc 4 0] .ret) .skip)) (Sr [Oo 5 (.mv (.const (.slice none 0 0)))] (Sr [Mc 6 0] (.seq (Sr [Mc 7 0] (.block 0 (.loop (.seq (Sr [Mv 11 7,Mv 12 1,Oo 13 (.len true (.tmp 12)),Bn 14 .leq 11 13] (Cd 14 .skip (.exit 0))) (.seq (.block 1 (Sr [Mv 17 7,Mv 18 1,Oo 19 (.len true (.tmp 18)),Bn 20 .eql 17 19,Mv 21 20,Of 22 21 (mt 1),Of 23 21 (mt 7),Of 24 21 (.ix (.tmp 22) (.tmp 23)),Of 25 21 (.bin .eql (.tmp 24) (.const (.int .u8 58))),Oo 26 (.pick (.tmp 21) (.const (.bool true)) (.tmp 25))] (Cd 26 (Sr [Mv 27 5,Mv 28 1,Mv 29 6,Mv 30 7,Oo 31 (.sls (.tmp 28) (some (.tmp 29)) (some (.tmp 30))),Oo 32 (.lit 9 1 1 [Ss] [(0,(1,(.tmp 31)))]),Oo 33 (.app 9 1 16 (.tmp 27) (.tmp 32)),Mv 5 33] (.reg [Mv 34 7,Bc 35 .add 34 1,Mv 6 35])) .skip))) (.reg [Mv 15 7,Bc 16 .add 15 1,Mv 7 16])))))) (.seq (Sr [Mv 36 5,Oo 37 (.len false (.tmp 36)),Bc 38 .neq 37 2,Mv 39 38,Ot 40 39 (mt 5),Ot 41 39 (.len false (.tmp 40)),Ot 42 39 (.bin .neq (.tmp 41) (Ci 3)),Oo 43 (.pick (.tmp 39) (.tmp 42) (.const (.bool false)))] (Cd 43 (Sr [Mv 44 0,Nk 45 44,Fa 46 1 45,⟨none,none,(.store 1 (.tmp 46) (.const (.bool true)))⟩] (Sr [Mc 4 0] .ret)) .skip)) (.seq (.drwU [[],[0],[0],[0],[],[],[0,1,2,3,4,5],[0,1,2,3,4,5,6],[0,1,2,3,4,5,6],[0,1,2,3,4,5,6],[5],[5],[],[]] [Mv 47 0,Mv 48 5,Oo 49 (.ia 1 (.tmp 48) (Ci 0)),Ld 50 49,Cl 51 178 [(.tmp 47),(.tmp 50),(Ci 1),(Ci 2)],Oo 52 (.bin .mul (Ci 3600) (.tmp 51)),Mv 53 0,Mv 54 5,Oo 55 (.ia 1 (.tmp 54) (Ci 1)),Ld 56 55,Cl 57 203 [(.tmp 53),(.tmp 56)],Oo 58 (.bin .mul (Ci 60) (.tmp 57)),Bn 59 .add 52 58,Mv 8 59]) (.seq (Sr [Mv 60 5,Oo 61 (.len false (.tmp 60)),Bc 62 .eql 61 3] (Cd 62 (.reg [Mv 63 8,Mv 64 0,Mv 65 5,Oo 66 (.ia 1 (.tmp 65) (Ci 2)),Ld 67 66,Cl 68 203 [(.tmp 64),(.tmp 67)],Bn 69 .add 63 68,Mv 8 69]) .skip)) (Sr [Mv 70 8,Mv 4 70] .ret)))))))))
theorem k177:ZaD Tryz.prog 177=some ⟨c177,[(.tmp 4)],71⟩:=by kernel_rfl
def c180:AC:=(Sr [Mc 4 0,Mc 5 0] (Sr [Mv 9 0,Cl 10 132 [(.tmp 9)],Mv 6 10] (Sr [Mv 11 1,Mv 7 11] (.seq (Sr [Mv 12 6,Oo 13 (.bin .neq (.tmp 12) (.const (.string ⟨#[]⟩)))] (Cd 13 (.seq (Sr [Mc 8 1] (.block 0 (.loop (.seq (Sr [Mv 14 8,Bc 15 .leq 14 3] (Cd 15 .skip (.exit 0))) (.seq (.block 1 (Sd [Mv 18 6,Mv 19 6,Oo 20 (.len true (.tmp 19)),Bc 21 .sub 20 1,Oo 22 (.ix (.tmp 18) (.tmp 21)),Mv 23 8,Oo 24 (.ix (.const (.string ⟨#[63,119,115,117]⟩)) (.tmp 23)),Bn 25 .eql 22 24] (Cd 25 (.reg [Mv 26 8,Mv 7 26]) .skip))) (.reg [Mv 16 8,Bc 17 .add 16 1,Mv 8 17])))))) (Sr [Mv 27 6,Mv 28 6,Oo 29 (.len true (.tmp 28)),Bc 30 .sub 29 1,Oo 31 (.ix (.tmp 27) (.tmp 30)),Cl 32 151 [(.tmp 31)],Oo 33 (.un .not (.tmp 32))] (Cd 33 (.seq (Sd [Mv 34 6,Mv 35 6,Oo 36 (.len true (.tmp 35)),Bc 37 .sub 36 1,Oo 38 (.ix (.tmp 34) (.tmp 37)),Mv 39 7,Oo 40 (.ix (.const (.string ⟨#[63,119,115,117]⟩)) (.tmp 39)),Bn 41 .neq 38 40] (Cd 41 (.reg [Mv 42 0,Nk 43 42,Fa 44 1 43,⟨none,none,(.store 1 (.tmp 44) (.const (.bool true)))⟩]) .skip)) (.reg [Mv 45 6,Mv 46 6,Oo 47 (.len true (.tmp 46)),Bc 48 .sub 47 1,Oo 49 (.sls (.tmp 45) none (some (.tmp 48))),Mv 6 49])) .skip))) .skip)) (Sr [Mv 50 0,Mv 51 6,Cl 52 177 [(.tmp 50),(.tmp 51)],Mv 53 7,Mv 4 52,Mv 5 53] .ret)))))
theorem k180:ZaD Tryz.prog 180=some ⟨c180,[(.tmp 4),(.tmp 5)],54⟩:=by kernel_rfl
theorem Zsc : ∀ {l:Bs}{n:Int},(∀ c∈l,digB c.toNat=true)→0≤n→0≤decL n l∧decL n l+1≤(n+1)*10 ^ l.length
 | [],n,h,h0=>by simp [decL];omega
 | c::l,n,h,h0=>by
  have hd:=Znj (h c (by simp))
  obtain ⟨i1,i2⟩:=Zsc (l:=l) (n:=10*n+c.toNat-48) (fun x hx=>h x (by simp [hx])) (by omega)
  refine ⟨i1,Int.le_trans i2 ?_⟩
  rw [List.length_cons,Int.pow_succ,Int.mul_comm (10 ^ l.length) 10,←Int.mul_assoc]
  exact Int.mul_le_mul_of_nonneg_right (by omega) (by exact_mod_cast Nat.zero_le (10 ^ l.length))
theorem numV_bd {s:ByteArray}{a b n:Int}(h:numV s a b=some n) (hb:b≤4):0≤n∧n<10000∧s.size≤4:=by
 obtain ⟨h1,h2,rfl⟩:=ZlP h
 have hz:s.size≤4:=by unfold wi at h1;simp at h1;omega
 have hl:(aB s).length≤4:=by rw [Zep];exact hz
 have:=Zsc (l:=aB s) (n:=0) (fun c hc=>Zk9 (l:=aB s) h2 hc) (by omega)
 have hp:(10:Int) ^ (aB s).length≤10000:=by
  obtain ⟨m,hm⟩ : ∃ m,m=(aB s).length:=⟨_,rfl⟩
  rw [←hm] at hl ⊢
  have:m=0∨m=1∨m=2∨m=3∨m=4:=by omega
  rcases this with rfl | rfl | rfl | rfl | rfl <;> decide
 omega
theorem Zh5 {s:ByteArray}{a b:Int}{t:TS}(hb:b≤4):0≤(tNum s a b t).1∧(tNum s a b t).1<10000:=by
 unfold tNum
 split
 ·rename_i n hn;have:=numV_bd hn hb;exact ⟨this.1,this.2.1⟩
 show (0:Int)≤0∧(0:Int)<10000;decide
theorem ZgV {s:ByteArray}{t:TS}:0≤(tSix s t).1∧(tSix s t).1<10000:=Zh5 (by omega)
theorem Zo0 {l:List ByteArray}{t:TS}(h:l.length=2):Ze1 (l.map aB) t=(3600*(tNum l[0] 1 2 t).1+60*(tSix l[1] (tNum l[0] 1 2 t).2).1,(tSix l[1] (tNum l[0] 1 2 t).2).2):=by
 match l,h with
 | [a,b],_=>rfl
theorem Zlt {l:List ByteArray}{t:TS}(h:l.length=3):Ze1 (l.map aB) t=(3600*(tNum l[0] 1 2 t).1+60*(tSix l[1] (tNum l[0] 1 2 t).2).1+(tSix l[2] (tSix l[1] (tNum l[0] 1 2 t).2).2).1,(tSix l[2] (tSix l[1] (tNum l[0] 1 2 t).2).2).2):=by
 match l,h with
 | [a,b,c],_=>rfl
theorem Zo1 {l:List Bs}{t:TS}(h2:l.length≠2) (h3:l.length≠3):Ze1 l t=(0,bad t):=by
 unfold Ze1
 split
 ·exact absurd rfl h2
 ·exact absurd rfl h3
 rfl
theorem Zh0 {s:ByteArray}{t:TS}{id:Nat}{h:AH}(hz:s.size≤24) (h1:h[id]?=some (takE t)):ACalls Tryz.prog 177 [.ptr id 0 0,sv s] h fun x h'=>x=.ret (iv (ZbN s t).1)∧h'=h.set id (takE (ZbN s t).2):=by
 have hid:id<h.length:=(List.getElem?_eq_some_iff.1 h1).1
 refine tJ' k177 fun N hn hlt hlA hbd=>?_
 simp only [tb'] at hbd ⊢
 refine ZdV (h1:=h.set id (takE t)++[]) (by rw [Zc8 h1]) ?_
 refine wr'<|mv' lki pt<|sn'<|Zah<|wr'<|mv' lk pt<|V' (Zci lk lks) pt<|sn'<|?_
 refine cd' lk (fun hc1=>?_) (fun hc1=>?_)
 ·have hT:ZbN s t=(0,t):=if_pos hc1
  refine wr'<|mv' lki pt<|sn'<|Zaa<|Zaj<|Zag rz<|?_
  exact ⟨_,_,rfl,Zao hn,Zb8 hlt ZaQ,rfl,by rw [hT],by rw [hT]⟩
 have hT0:ZbN s t=Ze1 (cutC 58 (aB s)) t:=if_neg hc1
 refine Zad<|Zaf<|wr'<|mv' lkn pt5<|Zaq<|Za8 (ALe.own0' (st':=1) (ty:=9) gt5 (hl0 (Zao hn)) pt5 ha0)<|wr'<|mv' lki pt6<|sn'<|Zah<|Zah<|?_
 refine Zat<|mv' lki pt<|sn'<|Zan<|?_
 refine w_lp (ι:=Nat×Nat×List ByteArray×Nat) (fun (x_:Nat×Nat×List ByteArray×Nat)=>match x_ with | ⟨f,i,ps,v⟩=>[(5,.own (N+0) v ps.length),(6,iv (f:Int)),(7,iv (i:Int))]++rn' 11 25) (fun (x_:Nat×Nat×List ByteArray×Nat)=>match x_ with | ⟨f,i,ps,v⟩=>[(0,.mk v 9 1 (rows strC ps))]) (fun (x_:Nat×Nat×List ByteArray×Nat)=>match x_ with | ⟨f,i,ps,v⟩=>i≤s.size+1∧f≤i∧ps.length≤i∧(i≤s.size→clean 58 s f i∧cutC 58 (aB s)=ps.map aB++cutC 58 ((aB s).drop f))∧(i=s.size+1→cutC 58 (aB s)=ps.map aB)) (fun (x_:Nat×Nat×List ByteArray×Nat)=>match x_ with | ⟨f,i,ps,v⟩=>s.size+1-i) (⟨0,0,[],0⟩) (by exact ⟨by omega,by omega,by simp,fun _=>⟨Zdc,rfl⟩,fun h=>by omega⟩) ?_
 rintro ⟨f,i,ps,v⟩ hi1
 try simp only [sm',Nat.reduceAdd]
 obtain ⟨hk1,hk2,hk3,hk4,hk5⟩:=hi1
 refine Zah<|wr'<|mv' lk pt<|mv' lk pt<|V' (Zbm lk) pt<|V' (Zc5 lk lk) pt<|sn'<|?_
 refine cd' lk (fun hc2=>?_) (fun hc2=>?_)
 ·have hi:i≤s.size:=by omega
  obtain ⟨hk6,hk7⟩:=hk4 hi
  refine Zad<|Zaf<|Zah<|Zan<|wr'<|mv' lk pt<|mv' lk pt<|V' (Zbm lk) pt<|V' (ZaN lk lk) pt<|mv' lk pt<|?_
  refine sp' (t:=21) gt pt pt (fun hg21=>?_) (fun hg21=>?_)
  ·have hie:i=s.size:=by omega
   have hseg:cutC 58 (aB s)=(ps++[s.extract f i]).map aB:=by rw [hk7,Zmb hk6 hk2 hie];simp
   refine s_no gt pt<|s_no gt pt<|s_no gt pt<|s_no gt pt<|V' (Zai lk lkb) pt<|sn'<|ZaG lk<|wr'<|mv' lk pt<|mv' lk pt<|mv' lk pt<|mv' lk pt<|?_
   refine V' (Zdr lk (oi lk) (oi lk) (by omega) (by omega) (by omega)) pt ?_
   refine E' (Zda (ZhB (cvl lk rfl) rfl) (hl1 (Zao hn)) ha1) pt ?_
   refine E' (Zcw (ZbI lk (hga (Zao hn) rfl) rfl Zmp (nb' rfl)) lk (hga (Zao hn) rfl) (ZdR _) (by omega) rfl (hs0 (Zao hn))) pt ?_
   refine mv' lk pt<|sn'<|Zat<|mv' lk pt<|?_
   refine V' (Zav lk lki (by omega) (by omega)) pt ?_
   refine mv' lk pt<|Zaq<|Zay<|Zaf<|Zat<|mv' lk pt<|?_
   refine V' (Zav lk lki (by omega) (by omega)) pt ?_
   refine mv' lk pt<|Zaq<|ZaB<|?_
   refine lU' (⟨i+1,i+1,ps++[s.extract f i],v+1⟩) (by (try dsimp only);exact ⟨by omega,by omega,by simp;omega,fun h=>by omega,fun _=>hseg⟩) (by (try dsimp only);(try simp only [sm',Nat.reduceAdd]);exact bkE' 1 (Zao hn) (Zb8 hlt ZaQ) (by repeat (first | exact wk0 | refine wka ?_ | refine wk1 rfl ?_ | refine wk1 (by first | rfl | exact ivx (by omega) | (simp;done)) ?_)) (by simp only [ZaU,Zbc,strC];rfl))
  have hilt:i<s.size:=by omega
  refine s_do gt<|mv' lk pt<|s_do gt<|mv' lk pt<|s_do gt<|?_
  refine V' (v_ix lk lk (by omega) (by omega)) pt ?_
  refine s_do gt<|V' (ZaN lk lki) pt<|V' (Zak lk lk) pt<|sn'<|?_
  refine cd' lk (fun hc3=>?_) (fun hc3=>?_)
  ·have hx:ZaL s i=58:=ZiG (n:=58) (by omega) hc3
   have hseg:cutC 58 (aB s)=(ps++[s.extract f i]).map aB++cutC 58 ((aB s).drop (i+1)):=by rw [hk7,ZoJ hk6 hk2 hilt hx];simp
   refine wr'<|mv' lk pt<|mv' lk pt<|mv' lk pt<|mv' lk pt<|?_
   refine V' (Zdr lk (oi lk) (oi lk) (by omega) (by omega) (by omega)) pt ?_
   refine E' (Zda (ZhB (cvl lk rfl) rfl) (hl1 (Zao hn)) ha1) pt ?_
   refine E' (Zcw (ZbI lk (hga (Zao hn) rfl) rfl Zmp (nb' rfl)) lk (hga (Zao hn) rfl) (ZdR _) (by omega) rfl (hs0 (Zao hn))) pt ?_
   refine mv' lk pt<|sn'<|Zat<|mv' lk pt<|?_
   refine V' (Zav lk lki (by omega) (by omega)) pt ?_
   refine mv' lk pt<|Zaq<|Zay<|Zaf<|Zat<|mv' lk pt<|?_
   refine V' (Zav lk lki (by omega) (by omega)) pt ?_
   refine mv' lk pt<|Zaq<|ZaB<|?_
   refine lU' (⟨i+1,i+1,ps++[s.extract f i],v+1⟩) (by (try dsimp only);exact ⟨by omega,by omega,by simp;omega,fun h=>⟨Zdc,hseg⟩,fun h=>by omega⟩) (by (try dsimp only);(try simp only [sm',Nat.reduceAdd]);exact bkE' 1 (Zao hn) (Zb8 hlt ZaQ) (by repeat (first | exact wk0 | refine wka ?_ | refine wk1 rfl ?_ | refine wk1 (by first | rfl | exact ivx (by omega) | (simp;done)) ?_)) (by simp only [ZaU,Zbc,strC];rfl))
  have hx:ZaL s i≠58:=Zk5 (n:=58) (by omega) hc3
  refine Zad<|Zay<|Zaf<|Zat<|mv' lk pt<|?_
  refine V' (Zav lk lki (by omega) (by omega)) pt ?_
  refine mv' lk pt<|Zaq<|ZaB<|?_
  refine lU' (⟨f,i+1,ps,v⟩) (by (try dsimp only);exact ⟨by omega,by omega,by omega,fun h=>⟨ZoM hk6 hk2 hilt hx,hk7⟩,fun h=>by omega⟩) (by (try dsimp only);(try simp only [sm',Nat.reduceAdd]);exact ALe.same (by repeat (first | exact wk0 | refine wka ?_ | refine wk1 rfl ?_ | refine wk1 (by first | rfl | exact ivx (by omega) | (simp;done)) ?_)) rfl)
 have hC:=hk5 (by omega)
 rw [hC] at hT0
 have hps:ps.length≤25:=by omega
 refine ZaE<|Zaz<|Zaz<|ZaX<|Zaf<|Zah<|wr'<|mv' lk pt<|V' (ZcC lk) pt<|V' (Za5 lk lki) pt<|mv' lk pt<|?_
 refine sp' (t:=39) gt pt pt (fun hg39=>?_) (fun hg39=>?_)
 ·refine s_do gt<|mv' lk pt<|s_do gt<|V' (ZcC lk) pt<|s_do gt<|V' (Za5 lk lki) pt<|V' (Zai lk lk) pt<|sn'<|?_
  refine cd' lk (fun hc4=>?_) (fun hc4=>?_)
  ·rw [Zo1 (by rw [List.length_map];omega) (by rw [List.length_map];omega)] at hT0
   refine wr'<|mv' lk pt<|V' (Zct lk) pt<|V' (Zac lk) pt<|E' (Zal lk (cvl lkb rfl) (Za9 hid) rfl (nb' rfl) rfl Zka (ZaP hid)) ptn<|sn'<|wr'<|mv' lki pt<|sn'<|Zaa<|?_
   refine Zaj<|Zag rz<|?_
   exact ⟨_,_,rfl,Zao hn,Zb8 hlt ZaQ,rfl,by rw [hT0],by rw [hT0]⟩
  have hl3:ps.length=3:=by omega
  have hl0:2≤ps.length:=by omega
  rw [Zlt hl3] at hT0
  refine Zad ?_
  refine Za8 (ALe.iceR (hga (Zao hn) rfl) gt5 (List.take_of_length_le (by rw [Zbd ZbA];first | exact Nat.le_refl _ | omega)) (by rw [Zbd ZbA];first | exact Nat.le_refl _ | omega) pt5 (hs0 (Zao hn))) ?_
  refine Zah<|Zca<|u_fr rfl (v_mv lk) pt<|u_fr rfl (v_mv lk) pt<|?_
  refine u_fr rfl (ZaJ (k:=0) lk lki ZbA (nb' rfl) ro (by omega) ro rfl) pt ?_
  refine u_fr rfl (Zar lk gt) pt ?_
  refine Zc7 mp (Za9 hid) (fun hU hUe=>ZdZ (by omega) hUe) nh (ZaP hid) pt ?_
  have hb1:=Zh5 (s:=ps[0]) (a:=1) (b:=2) (t:=t) (by omega)
  refine u_fr rfl (Zee lki lk (by omega) (by omega)) pt ?_
  refine u_fr rfl (v_mv lk) pt<|u_fr rfl (v_mv lk) pt<|?_
  refine u_fr rfl (ZaJ (k:=1) lk lki ZbA (nb' rfl) ro (by omega) ro rfl) pt ?_
  refine u_fr rfl (Zar lk gt) pt ?_
  refine Zc7 mp (Za9 hid) (fun hU hUe=>ZqE hUe) nh (ZaP hid) pt ?_
  have hb2:=ZgV (s:=ps[1]) (t:=(tNum ps[0] 1 2 t).2)
  refine u_fr rfl (Zee lki lk (by omega) (by omega)) pt ?_
  refine u_fr rfl (Zav lk lk (by omega) (by omega)) pt ?_
  refine u_fr rfl (v_mv lk) pt<|Zc6<|Zaf<|Zah<|wr'<|mv' lk pt<|V' (ZaI lk) pt<|V' (ZaN lk lki) pt<|sn'<|?_
  refine Zc4 lk (by simp [hl3]) ?_
  refine Zat<|mv' lk pt<|mv' lk pt<|mv' lk pt<|?_
  refine V' (ZaJ (k:=2) lk lki ZbA (nb' rfl) ro (by omega) ro rfl) pt ?_
  refine V' (Zar lk gt) pt<|ZaT mp (ZqE (Za9 hid)) (ZaP hid) pt<|?_
  have hb3:=ZgV (s:=ps[2]) (t:=(tSix ps[1] (tNum ps[0] 1 2 t).2).2)
  refine V' (Zav lk lk (by omega) (by omega)) pt ?_
  refine mv' lk pt<|sn'<|wr'<|mv' lk pt<|mv' lk pt<|sn'<|Zaa<|Zag rz<|?_
  exact ⟨_,_,rfl,Zao hn,Zb8 hlt ZaQ,rfl,by rw [hT0] <;> rfl,by rw [hT0] <;> rfl⟩
 have hl2:ps.length=2:=by omega
 have hl0:2≤ps.length:=by omega
 rw [Zo0 hl2] at hT0
 refine s_no gt pt<|s_no gt pt<|s_no gt pt<|V' (Zak lk lkb) pt<|sn'<|ZaR lk<|Zad<|?_
 refine Za8 (ALe.iceR (hga (Zao hn) rfl) gt5 (List.take_of_length_le (by rw [Zbd ZbA];first | exact Nat.le_refl _ | omega)) (by rw [Zbd ZbA];first | exact Nat.le_refl _ | omega) pt5 (hs0 (Zao hn))) ?_
 refine Zah<|Zca<|u_fr rfl (v_mv lk) pt<|u_fr rfl (v_mv lk) pt<|?_
 refine u_fr rfl (ZaJ (k:=0) lk lki ZbA (nb' rfl) ro (by omega) ro rfl) pt ?_
 refine u_fr rfl (Zar lk gt) pt ?_
 refine Zc7 mp (Za9 hid) (fun hU hUe=>ZdZ (by omega) hUe) nh (ZaP hid) pt ?_
 have hb1:=Zh5 (s:=ps[0]) (a:=1) (b:=2) (t:=t) (by omega)
 refine u_fr rfl (Zee lki lk (by omega) (by omega)) pt ?_
 refine u_fr rfl (v_mv lk) pt<|u_fr rfl (v_mv lk) pt<|?_
 refine u_fr rfl (ZaJ (k:=1) lk lki ZbA (nb' rfl) ro (by omega) ro rfl) pt ?_
 refine u_fr rfl (Zar lk gt) pt ?_
 refine Zc7 mp (Za9 hid) (fun hU hUe=>ZqE hUe) nh (ZaP hid) pt ?_
 have hb2:=ZgV (s:=ps[1]) (t:=(tNum ps[0] 1 2 t).2)
 refine u_fr rfl (Zee lki lk (by omega) (by omega)) pt ?_
 refine u_fr rfl (Zav lk lk (by omega) (by omega)) pt ?_
 refine u_fr rfl (v_mv lk) pt<|Zc6<|Zaf<|Zah<|wr'<|mv' lk pt<|V' (ZaI lk) pt<|V' (ZaN lk lki) pt<|sn'<|?_
 refine Zcr lk (by simp [hl2]) ?_
 refine Zad<|Zaf<|wr'<|mv' lk pt<|mv' lk pt<|sn'<|Zaa<|Zag rz<|?_
 exact ⟨_,_,rfl,Zao hn,Zb8 hlt ZaQ,rfl,by rw [hT0] <;> rfl,by rw [hT0] <;> rfl⟩
theorem Zds {t t1:TS}{s:ByteArray}{id:Nat}{h:AH}(he:ZaW t=(s,t1)) (h1:h[id]?=some (takE t)):ACalls Tryz.prog 132 [.ptr id 0 0] h fun x h'=>x=.ret (sv s)∧h'=h.set id (takE t1):=by
 have:=ZmH h1
 rw [he] at this
 exact this
theorem Zfw {s:ByteArray}{k:Nat}{n:Int}(h:¬((ZaL s (k:Int).toNat).toNat:Int)=n):ZcU s k≠n:=h
theorem tform_a {t:TS}{id:Nat}{h:AH}(hz:(ZaW t).1.size≤24) (h1:h[id]?=some (takE t)):ACalls Tryz.prog 181 [.ptr id 0 0] h fun x h'=>x=.ret (.agg [iv (ZgW t).1.1,iv (ZgW t).1.2.1,iv (ZgW t).1.2.2])∧h'=h.set id (takE (ZgW t).2):=by
 have hid:id<h.length:=(List.getElem?_eq_some_iff.1 h1).1
 obtain ⟨s,t1,he⟩ : ∃ s t1,ZaW t=(s,t1):=⟨_,_,rfl⟩
 have hF:ZgW t=Zb6 s t1:=by unfold ZgW;rw [he]
 rw [he] at hz
 replace hz:s.size≤24:=hz
 obtain ⟨q,hq⟩ : ∃ q,q=Zec s:=⟨_,rfl⟩
 have hK:Zec s=if 4≤s.size∧s.extract 0 4=bA [108,97,115,116] then 2 else if 5<s.size∧ZcU s 4=61∧ZcU s 3=62 then 3 else if 5<s.size∧ZcU s 4=61∧ZcU s 3=60 then 4 else 1:=rfl
 refine tJ' k181 fun N hn hlt hlA hbd=>?_
 simp only [tb'] at hbd ⊢
 refine ZdV (h1:=h.set id (takE t)++[]) (by rw [Zc8 h1]) ?_
 refine wr'<|E' (Za6 (hl0 (Zao hn)) ha0) pt<|sn'<|wr'<|mv' lk pt<|ZaT mp (Zds he (Za9 hid)) (ZaP hid) pt<|mv' lk pt<|sn'<|Zah<|Zah<|?_
 refine Zat<|mv' lk pt<|V' (Zbm lk) pt<|V' (ZfP lk lki) pt<|mv' lk pt<|?_
 refine sp' (t:=10) gt pt pt (fun hg10=>?_) (fun hg10=>?_)
 ·refine s_do gt<|mv' lk pt<|s_do gt<|?_
  refine V' (Zdr lk on_ (oi lki) (by omega) (by omega) (by omega)) pt ?_
  refine s_do gt<|V' (Zci lk lks) pt<|V' (Zai lk lk) pt<|sn'<|?_
  refine cd' lk (fun hc1=>?_) (fun hc1=>?_)
  ·have hk:Zec s=2:=by rw [hK];exact if_pos ⟨by omega,hc1⟩
   have hT:ZgW t=((2,(Zeg (s.extract 4 s.size) t1).1,0),(Zeg (s.extract 4 s.size) t1).2):=by rw [hF];unfold Zb6;rw [if_pos hk]
   refine wr'<|mv' lk pt<|mv' lk pt<|?_
   refine V' (Zdr lk (oi lki) on_ (by omega) (by omega) (by omega)) pt ?_
   refine ZaT mp (ZhZ (Za9 hid)) (ZaP hid) pt<|V' (ZaA (Zmq (cvl lki rfl) rfl (cvl lk rfl) rfl)) pt<|E' (Zal lk (cvl lk rfl) (hga (Zao hn) rfl) rfl (nb' rfl) rfl Zbx (hs0 (Zao hn))) ptn<|sn'<|Zaa<|Zaj<|Zag (rs1 (rr_c gt (hga (Zao hn) rfl) (ld1 Zbw rfl)))<|?_
   exact ⟨_,_,rfl,Zao hn,Zb8 hlt ZaQ,rfl,by rw [hT] <;> rfl,by rw [hT] <;> rfl⟩
  have hn2:¬(4≤s.size∧s.extract 0 4=bA [108,97,115,116]):=fun e=>hc1 e.2
  rw [if_neg hn2] at hK
  refine Zad<|Zaf<|Zah<|wr'<|mv' lk pt<|V' (Zbm lk) pt<|V' (ZbW lk lki) pt<|mv' lk pt<|?_
  refine sp' (t:=23) gt pt pt (fun hg23=>?_) (fun hg23=>?_)
  ·refine s_do gt<|mv' lk pt<|s_do gt<|?_
   refine V' (v_ix lk lki (by omega) (by omega)) pt ?_
   refine s_do gt<|V' (ZaN lk lki) pt<|V' (Zai lk lk) pt<|mv' lk pt<|?_
   refine sp' (t:=28) gt pt pt (fun hg28=>?_) (fun hg28=>?_)
   ·refine s_do gt<|mv' lk pt<|s_do gt<|?_
    refine V' (v_ix lk lki (by omega) (by omega)) pt ?_
    refine s_do gt<|V' (ZaN lk lki) pt<|s_do gt<|mv' lk pt<|?_
    refine sp' (t:=32) gt pt pt (fun hg32=>?_) (fun hg32=>?_)
    ·have hk:Zec s=3:=by rw [hK];exact if_pos ⟨by omega,hg28,hg32⟩
     refine s_no gt pt<|s_no gt pt<|s_no gt pt<|s_do gt<|V' (Zai lk lkb) pt<|V' (Zai lk lk) pt<|sn'<|ZaG lk<|Zah<|Zca<|u_fr rfl (v_mv lk) pt<|u_fr rfl (v_mv lk) pt<|?_
     refine u_fr rfl (Zdr lk on_ (oi lki) (by omega) (by omega) (by omega)) pt ?_
     refine Zc7 mp (Za9 hid) (fun hU hUe=>ZhZ hUe) nh (ZaP hid) pt ?_
     refine u_fr rfl (v_mv lk) pt<|u_fr rfl (v_mv lk) pt<|?_
     refine u_fr rfl (Zdr lk (oi lki) on_ (by omega) (by omega) (by omega)) pt ?_
     refine Zc7 mp (Za9 hid) (fun hU hUe=>ZdZ (by omega) hUe) nh (ZaP hid) pt ?_
     refine u_fr rfl (ZaA (Zd7 (cvl lki rfl) rfl (cvl lk rfl) rfl (cvl lk rfl) rfl)) pt ?_
     refine u_al rfl (Za6 (hl1 (Zao hn)) ha1) (hl1 (Zao hn)) nh pt ?_
     refine u_st (Zal lk (cvl lk rfl) (hga (Zao hn) rfl) rfl (nb' rfl) rfl Zbx (hs1 (Zao hn))) lk nh ptn ?_
     refine Zc6<|Zaf<|Zah<|wr'<|mv' lk pt<|?_
     refine V' (v_ix lk lki (by omega) (by omega)) pt ?_
     refine V' (ZaN lk lki) pt<|sn'<|?_
     refine Zcr lk (by exact decide_eq_false (by rw [hg32];decide)) ?_
     refine Zad<|Zaf<|wr'<|V' (Zap lk (hga (Zao hn) rfl) Zbw rfl) pt<|E' (Zal lk (cvl lk rfl) (hga (Zao hn) rfl) rfl (nb' rfl) rfl Zbx (hs0 (Zao hn))) ptn<|sn'<|Zaa<|Zaj<|Zag (rs1 (rr_c gt (hga (Zao hn) rfl) (ld1 Zbw rfl)))<|?_
     exact ⟨_,_,rfl,Zao hn,Zb8 hlt ZaQ,rfl,by rw [hF];unfold Zb6;rw [hk] <;> rfl,by rw [hF];unfold Zb6;rw [hk] <;> rfl⟩
    have h3:ZcU s 3≠62:=Zfw hg32
    refine s_do gt<|mv' lk pt<|s_do gt<|?_
    refine V' (v_ix lk lki (by omega) (by omega)) pt ?_
    refine s_do gt<|V' (ZaN lk lki) pt<|s_do gt<|V' (Zak lk lk) pt<|V' (Zai lk lk) pt<|sn'<|?_
    refine cd' lk (fun hc2=>?_) (fun hc2=>?_)
    ·have hk:Zec s=4:=by rw [hK,if_neg (fun e=>h3 e.2.2)];exact if_pos ⟨by omega,hg28,hc2⟩
     refine Zah<|Zca<|u_fr rfl (v_mv lk) pt<|u_fr rfl (v_mv lk) pt<|?_
     refine u_fr rfl (Zdr lk on_ (oi lki) (by omega) (by omega) (by omega)) pt ?_
     refine Zc7 mp (Za9 hid) (fun hU hUe=>ZhZ hUe) nh (ZaP hid) pt ?_
     refine u_fr rfl (v_mv lk) pt<|u_fr rfl (v_mv lk) pt<|?_
     refine u_fr rfl (Zdr lk (oi lki) on_ (by omega) (by omega) (by omega)) pt ?_
     refine Zc7 mp (Za9 hid) (fun hU hUe=>ZdZ (by omega) hUe) nh (ZaP hid) pt ?_
     refine u_fr rfl (ZaA (Zd7 (cvl lki rfl) rfl (cvl lk rfl) rfl (cvl lk rfl) rfl)) pt ?_
     refine u_al rfl (Za6 (hl1 (Zao hn)) ha1) (hl1 (Zao hn)) nh pt ?_
     refine u_st (Zal lk (cvl lk rfl) (hga (Zao hn) rfl) rfl (nb' rfl) rfl Zbx (hs1 (Zao hn))) lk nh ptn ?_
     refine Zc6<|Zaf<|Zah<|wr'<|mv' lk pt<|?_
     refine V' (v_ix lk lki (by omega) (by omega)) pt ?_
     refine V' (ZaN lk lki) pt<|sn'<|?_
     refine Zc4 lk (by exact decide_eq_true hc2) ?_
     refine Zat<|V' (Zac lk) pt<|E' (Zal lk (cvl lki rfl) (hga (Zao hn) rfl) rfl (nb' rfl) rfl Zkb (hs1 (Zao hn))) ptn<|sn'<|wr'<|V' (Zap lk (hga (Zao hn) rfl) Zbw rfl) pt<|E' (Zal lk (cvl lk rfl) (hga (Zao hn) rfl) rfl (nb' rfl) rfl Zbx (hs0 (Zao hn))) ptn<|sn'<|Zaa<|Zaj<|Zag (rs1 (rr_c gt (hga (Zao hn) rfl) (ld1 Zbw rfl)))<|?_
     exact ⟨_,_,rfl,Zao hn,Zb8 hlt ZaQ,rfl,by rw [hF];unfold Zb6;rw [hk] <;> rfl,by rw [hF];unfold Zb6;rw [hk] <;> rfl⟩
    have h3':ZcU s 3≠60:=Zfw hc2
    have hk:Zec s=1:=by rw [hK,if_neg (fun e=>h3 e.2.2),if_neg (fun e=>h3' e.2.2)]
    refine Zad<|Zaf<|wr'<|mv' lk pt<|mv' lk pt<|?_
    refine ZaT mp (ZdZ (by omega) (Za9 hid)) (ZaP hid) pt ?_
    refine V' (ZaA (ZcR (cvl lki rfl) rfl (cvl lk rfl) rfl)) pt<|E' (Zal lk (cvl lk rfl) (hga (Zao hn) rfl) rfl (nb' rfl) rfl Zbx (hs0 (Zao hn))) ptn<|sn'<|Zaa<|Zag (rs1 (rr_c gt (hga (Zao hn) rfl) (ld1 Zbw rfl)))<|?_
    exact ⟨_,_,rfl,Zao hn,Zb8 hlt ZaQ,rfl,by rw [hF];unfold Zb6;rw [hk] <;> rfl,by rw [hF];unfold Zb6;rw [hk] <;> rfl⟩
   have h4:ZcU s 4≠61:=Zfw hg28
   have hk:Zec s=1:=by rw [hK,if_neg (fun e=>h4 e.2.1),if_neg (fun e=>h4 e.2.1)]
   refine s_no gt pt<|s_no gt pt<|s_no gt pt<|s_no gt pt<|s_nu gt pt<|s_nu gt pt<|s_nu gt pt<|s_no gt pt<|V' (Zak lk lkb) pt<|sn'<|ZaR lk<|Zad<|Zaf<|?_
   refine wr'<|mv' lk pt<|mv' lk pt<|?_
   refine ZaT mp (ZdZ (by omega) (Za9 hid)) (ZaP hid) pt ?_
   refine V' (ZaA (ZcR (cvl lki rfl) rfl (cvl lk rfl) rfl)) pt<|E' (Zal lk (cvl lk rfl) (hga (Zao hn) rfl) rfl (nb' rfl) rfl Zbx (hs0 (Zao hn))) ptn<|sn'<|Zaa<|Zag (rs1 (rr_c gt (hga (Zao hn) rfl) (ld1 Zbw rfl)))<|?_
   exact ⟨_,_,rfl,Zao hn,Zb8 hlt ZaQ,rfl,by rw [hF];unfold Zb6;rw [hk] <;> rfl,by rw [hF];unfold Zb6;rw [hk] <;> rfl⟩
  have hk:Zec s=1:=by rw [hK,if_neg (by omega),if_neg (by omega)]
  refine s_no gt pt<|s_no gt pt<|s_no gt pt<|V' (Zak lk lkb) pt<|mv' lk pt<|s_no gt pt<|s_no gt pt<|s_no gt pt<|s_no gt pt<|s_nu gt pt<|s_nu gt pt<|s_nu gt pt<|s_no gt pt<|V' (Zak lk lkb) pt<|?_
  refine sn'<|ZaR lk<|Zad<|Zaf<|wr'<|mv' lk pt<|mv' lk pt<|?_
  refine ZaT mp (ZdZ (by omega) (Za9 hid)) (ZaP hid) pt ?_
  refine V' (ZaA (ZcR (cvl lki rfl) rfl (cvl lk rfl) rfl)) pt<|E' (Zal lk (cvl lk rfl) (hga (Zao hn) rfl) rfl (nb' rfl) rfl Zbx (hs0 (Zao hn))) ptn<|sn'<|Zaa<|Zag (rs1 (rr_c gt (hga (Zao hn) rfl) (ld1 Zbw rfl)))<|?_
  exact ⟨_,_,rfl,Zao hn,Zb8 hlt ZaQ,rfl,by rw [hF];unfold Zb6;rw [hk] <;> rfl,by rw [hF];unfold Zb6;rw [hk] <;> rfl⟩
 have hn2:¬(4≤s.size∧s.extract 0 4=bA [108,97,115,116]):=fun e=>by omega
 rw [if_neg hn2] at hK
 refine s_no gt pt<|s_no gt pt<|s_no gt pt<|V' (Zak lk lkb) pt<|sn'<|ZaR lk<|Zad<|Zaf<|Zah<|wr'<|mv' lk pt<|V' (Zbm lk) pt<|?_
 refine V' (ZbW lk lki) pt<|mv' lk pt<|?_
 refine sp' (t:=23) gt pt pt (fun hg23=>?_) (fun hg23=>?_)
 ·refine s_do gt<|mv' lk pt<|s_do gt<|?_
  refine V' (v_ix lk lki (by omega) (by omega)) pt ?_
  refine s_do gt<|V' (ZaN lk lki) pt<|V' (Zai lk lk) pt<|mv' lk pt<|?_
  refine sp' (t:=28) gt pt pt (fun hg28=>?_) (fun hg28=>?_)
  ·refine s_do gt<|mv' lk pt<|s_do gt<|?_
   refine V' (v_ix lk lki (by omega) (by omega)) pt ?_
   refine s_do gt<|V' (ZaN lk lki) pt<|s_do gt<|mv' lk pt<|?_
   refine sp' (t:=32) gt pt pt (fun hg32=>?_) (fun hg32=>?_)
   ·have hk:Zec s=3:=by rw [hK];exact if_pos ⟨by omega,hg28,hg32⟩
    refine s_no gt pt<|s_no gt pt<|s_no gt pt<|s_do gt<|V' (Zai lk lkb) pt<|V' (Zai lk lk) pt<|sn'<|ZaG lk<|Zah<|Zca<|u_fr rfl (v_mv lk) pt<|u_fr rfl (v_mv lk) pt<|?_
    refine u_fr rfl (Zdr lk on_ (oi lki) (by omega) (by omega) (by omega)) pt ?_
    refine Zc7 mp (Za9 hid) (fun hU hUe=>ZhZ hUe) nh (ZaP hid) pt ?_
    refine u_fr rfl (v_mv lk) pt<|u_fr rfl (v_mv lk) pt<|?_
    refine u_fr rfl (Zdr lk (oi lki) on_ (by omega) (by omega) (by omega)) pt ?_
    refine Zc7 mp (Za9 hid) (fun hU hUe=>ZdZ (by omega) hUe) nh (ZaP hid) pt ?_
    refine u_fr rfl (ZaA (Zd7 (cvl lki rfl) rfl (cvl lk rfl) rfl (cvl lk rfl) rfl)) pt ?_
    refine u_al rfl (Za6 (hl1 (Zao hn)) ha1) (hl1 (Zao hn)) nh pt ?_
    refine u_st (Zal lk (cvl lk rfl) (hga (Zao hn) rfl) rfl (nb' rfl) rfl Zbx (hs1 (Zao hn))) lk nh ptn ?_
    refine Zc6<|Zaf<|Zah<|wr'<|mv' lk pt<|?_
    refine V' (v_ix lk lki (by omega) (by omega)) pt ?_
    refine V' (ZaN lk lki) pt<|sn'<|?_
    refine Zcr lk (by exact decide_eq_false (by rw [hg32];decide)) ?_
    refine Zad<|Zaf<|wr'<|V' (Zap lk (hga (Zao hn) rfl) Zbw rfl) pt<|E' (Zal lk (cvl lk rfl) (hga (Zao hn) rfl) rfl (nb' rfl) rfl Zbx (hs0 (Zao hn))) ptn<|sn'<|Zaa<|Zaj<|Zag (rs1 (rr_c gt (hga (Zao hn) rfl) (ld1 Zbw rfl)))<|?_
    exact ⟨_,_,rfl,Zao hn,Zb8 hlt ZaQ,rfl,by rw [hF];unfold Zb6;rw [hk] <;> rfl,by rw [hF];unfold Zb6;rw [hk] <;> rfl⟩
   have h3:ZcU s 3≠62:=Zfw hg32
   refine s_do gt<|mv' lk pt<|s_do gt<|?_
   refine V' (v_ix lk lki (by omega) (by omega)) pt ?_
   refine s_do gt<|V' (ZaN lk lki) pt<|s_do gt<|V' (Zak lk lk) pt<|V' (Zai lk lk) pt<|sn'<|?_
   refine cd' lk (fun hc2=>?_) (fun hc2=>?_)
   ·have hk:Zec s=4:=by rw [hK,if_neg (fun e=>h3 e.2.2)];exact if_pos ⟨by omega,hg28,hc2⟩
    refine Zah<|Zca<|u_fr rfl (v_mv lk) pt<|u_fr rfl (v_mv lk) pt<|?_
    refine u_fr rfl (Zdr lk on_ (oi lki) (by omega) (by omega) (by omega)) pt ?_
    refine Zc7 mp (Za9 hid) (fun hU hUe=>ZhZ hUe) nh (ZaP hid) pt ?_
    refine u_fr rfl (v_mv lk) pt<|u_fr rfl (v_mv lk) pt<|?_
    refine u_fr rfl (Zdr lk (oi lki) on_ (by omega) (by omega) (by omega)) pt ?_
    refine Zc7 mp (Za9 hid) (fun hU hUe=>ZdZ (by omega) hUe) nh (ZaP hid) pt ?_
    refine u_fr rfl (ZaA (Zd7 (cvl lki rfl) rfl (cvl lk rfl) rfl (cvl lk rfl) rfl)) pt ?_
    refine u_al rfl (Za6 (hl1 (Zao hn)) ha1) (hl1 (Zao hn)) nh pt ?_
    refine u_st (Zal lk (cvl lk rfl) (hga (Zao hn) rfl) rfl (nb' rfl) rfl Zbx (hs1 (Zao hn))) lk nh ptn ?_
    refine Zc6<|Zaf<|Zah<|wr'<|mv' lk pt<|?_
    refine V' (v_ix lk lki (by omega) (by omega)) pt ?_
    refine V' (ZaN lk lki) pt<|sn'<|?_
    refine Zc4 lk (by exact decide_eq_true hc2) ?_
    refine Zat<|V' (Zac lk) pt<|E' (Zal lk (cvl lki rfl) (hga (Zao hn) rfl) rfl (nb' rfl) rfl Zkb (hs1 (Zao hn))) ptn<|sn'<|wr'<|V' (Zap lk (hga (Zao hn) rfl) Zbw rfl) pt<|E' (Zal lk (cvl lk rfl) (hga (Zao hn) rfl) rfl (nb' rfl) rfl Zbx (hs0 (Zao hn))) ptn<|sn'<|Zaa<|Zaj<|Zag (rs1 (rr_c gt (hga (Zao hn) rfl) (ld1 Zbw rfl)))<|?_
    exact ⟨_,_,rfl,Zao hn,Zb8 hlt ZaQ,rfl,by rw [hF];unfold Zb6;rw [hk] <;> rfl,by rw [hF];unfold Zb6;rw [hk] <;> rfl⟩
   have h3':ZcU s 3≠60:=Zfw hc2
   have hk:Zec s=1:=by rw [hK,if_neg (fun e=>h3 e.2.2),if_neg (fun e=>h3' e.2.2)]
   refine Zad<|Zaf<|wr'<|mv' lk pt<|mv' lk pt<|?_
   refine ZaT mp (ZdZ (by omega) (Za9 hid)) (ZaP hid) pt ?_
   refine V' (ZaA (ZcR (cvl lki rfl) rfl (cvl lk rfl) rfl)) pt<|E' (Zal lk (cvl lk rfl) (hga (Zao hn) rfl) rfl (nb' rfl) rfl Zbx (hs0 (Zao hn))) ptn<|sn'<|Zaa<|Zag (rs1 (rr_c gt (hga (Zao hn) rfl) (ld1 Zbw rfl)))<|?_
   exact ⟨_,_,rfl,Zao hn,Zb8 hlt ZaQ,rfl,by rw [hF];unfold Zb6;rw [hk] <;> rfl,by rw [hF];unfold Zb6;rw [hk] <;> rfl⟩
  have h4:ZcU s 4≠61:=Zfw hg28
  have hk:Zec s=1:=by rw [hK,if_neg (fun e=>h4 e.2.1),if_neg (fun e=>h4 e.2.1)]
  refine s_no gt pt<|s_no gt pt<|s_no gt pt<|s_no gt pt<|s_nu gt pt<|s_nu gt pt<|s_nu gt pt<|s_no gt pt<|V' (Zak lk lkb) pt<|sn'<|ZaR lk<|Zad<|Zaf<|?_
  refine wr'<|mv' lk pt<|mv' lk pt<|?_
  refine ZaT mp (ZdZ (by omega) (Za9 hid)) (ZaP hid) pt ?_
  refine V' (ZaA (ZcR (cvl lki rfl) rfl (cvl lk rfl) rfl)) pt<|E' (Zal lk (cvl lk rfl) (hga (Zao hn) rfl) rfl (nb' rfl) rfl Zbx (hs0 (Zao hn))) ptn<|sn'<|Zaa<|Zag (rs1 (rr_c gt (hga (Zao hn) rfl) (ld1 Zbw rfl)))<|?_
  exact ⟨_,_,rfl,Zao hn,Zb8 hlt ZaQ,rfl,by rw [hF];unfold Zb6;rw [hk] <;> rfl,by rw [hF];unfold Zb6;rw [hk] <;> rfl⟩
 have hk:Zec s=1:=by rw [hK,if_neg (by omega),if_neg (by omega)]
 refine s_no gt pt<|s_no gt pt<|s_no gt pt<|V' (Zak lk lkb) pt<|mv' lk pt<|s_no gt pt<|s_no gt pt<|s_no gt pt<|s_no gt pt<|s_nu gt pt<|s_nu gt pt<|s_nu gt pt<|s_no gt pt<|V' (Zak lk lkb) pt<|?_
 refine sn'<|ZaR lk<|Zad<|Zaf<|wr'<|mv' lk pt<|mv' lk pt<|?_
 refine ZaT mp (ZdZ (by omega) (Za9 hid)) (ZaP hid) pt ?_
 refine V' (ZaA (ZcR (cvl lki rfl) rfl (cvl lk rfl) rfl)) pt<|E' (Zal lk (cvl lk rfl) (hga (Zao hn) rfl) rfl (nb' rfl) rfl Zbx (hs0 (Zao hn))) ptn<|sn'<|Zaa<|Zag (rs1 (rr_c gt (hga (Zao hn) rfl) (ld1 Zbw rfl)))<|?_
 exact ⟨_,_,rfl,Zao hn,Zb8 hlt ZaQ,rfl,by rw [hF];unfold Zb6;rw [hk] <;> rfl,by rw [hF];unfold Zb6;rw [hk] <;> rfl⟩
theorem Zor {c d:Int}(hd:d=1∨d=2) : ∀ k:Nat,k≤3→1≤ZdC c d k∧ZdC c d k≤3
 | 0,_=>by unfold ZdC;omega
 | k+1,h=>by
  have:=Zor (c:=c) hd k (by omega)
  unfold ZdC
  split <;> omega
theorem tclock_a {d:Int}{t:TS}{id:Nat}{h:AH}(hd:d=1∨d=2) (hz:(ZaW t).1.size≤24) (h1:h[id]?=some (takE t)):ACalls Tryz.prog 180 [.ptr id 0 0,iv d] h fun x h'=>x=.ret (.tup [iv (Zdi d t).1.1,iv (Zdi d t).1.2])∧h'=h.set id (takE (Zdi d t).2):=by
 have hid:id<h.length:=(List.getElem?_eq_some_iff.1 h1).1
 obtain ⟨s,t1,he⟩ : ∃ s t1,ZaW t=(s,t1):=⟨_,_,rfl⟩
 have hF:Zdi d t=Zea d s t1:=by unfold Zdi;rw [he]
 rw [he] at hz
 replace hz:s.size≤24:=hz
 have hem:=ZeH (f:=s)
 have hkb:=Zor (c:=ZcT s) hd 3 (by omega)
 have hws:(⟨#[63,119,115,117]⟩:ByteArray).size=4:=rfl
 refine tJ' k180 fun N hn hlt hlA hbd=>?_
 simp only [tb'] at hbd ⊢
 refine ZdV (h1:=h.set id (takE t)++[]) (by rw [Zc8 h1]) ?_
 refine wr'<|mv' lki pt<|mv' lki pt<|sn'<|wr'<|mv' lk pt<|ZaT mp (Zds he (Za9 hid)) (ZaP hid) pt<|mv' lk pt<|sn'<|Zah<|?_
 refine Zat<|mv' lk pt<|mv' lk pt<|sn'<|Zah<|wr'<|mv' lk pt<|V' (Zb5 lk lks) pt<|sn'<|?_
 refine cd' lk (fun hc1=>?_) (fun hc1=>?_)
 ·have h0:s.size≠0:=fun e=>hc1 (hem.2 e)
  have hL:((ZaL s ((s.size:Int)-1).toNat).toNat:Int)=ZcT s:=by unfold ZcT ZcU;congr 2;congr 1;omega
  have hbl:(0:Int)≤((ZaL s ((s.size:Int)-1).toNat).toNat:Int)∧((ZaL s ((s.size:Int)-1).toNat).toNat:Int)≤255:=Zfh _ _
  refine Zah<|wr'<|mv' lki pt<|sn'<|Zan<|?_
  refine w_lp (ι:=Nat) (fun (k:Nat)=>[(7,iv (ZdC (ZcT s) d k)),(8,iv ((k+1:Nat):Int))]++rn' 14 13) (fun (k:Nat)=>[]) (fun (k:Nat)=>k≤3) (fun (k:Nat)=>3-k) (0) (by omega) ?_
  rintro k hi1
  try simp only [sm',Nat.reduceAdd]
  refine Zah<|wr'<|mv' lk pt<|V' (Zc5 lk lki) pt<|sn'<|?_
  refine cd' lk (fun hc2=>?_) (fun hc2=>?_)
  ·have hk:k+1≤3:=by omega
   refine Zad<|Zaf<|Zah<|Zan<|Zah<|Zbf<|D' (v_mv lk) pt<|D' (v_mv lk) pt<|D' (Zbm lk) pt<|?_
   refine D' (Zbn lk lki (by omega) (by omega)) pt ?_
   refine D' (v_ix lk lk (by omega) (by omega)) pt ?_
   refine D' (v_mv lk) pt ?_
   refine D' (v_ix lks lk (by omega) (by omega)) pt ?_
   refine D' (ZaN lk lk) pt<|Zbj<|?_
   refine ZbH ?_
   refine sn' ?_
   refine cd' lk (fun hc3=>?_) (fun hc3=>?_)
   ·have hkk:ZdC (ZcT s) d (k+1)=((k+1:Nat):Int):=by unfold ZdC;exact if_pos (hL.symm.trans hc3)
    refine Zat<|mv' lk pt<|mv' lk pt<|Zaq<|Zay<|Zaf<|Zat<|mv' lk pt<|?_
    refine V' (Zav lk lki (by omega) (by omega)) pt ?_
    refine mv' lk pt<|Zaq<|ZaB<|?_
    refine lU' (k+1) (by (try dsimp only);omega) (by (try dsimp only);(try simp only [sm',Nat.reduceAdd]);exact ALe.same (by repeat (first | exact wk0 | refine wka ?_ | refine wk1 rfl ?_ | refine wk1 (by first | rfl | exact ivx (by omega) | exact ivx hkk.symm) ?_)) rfl)
   have hkk:ZdC (ZcT s) d (k+1)=ZdC (ZcT s) d k:=by rw [ZdC,if_neg (show ¬ZcT s=ZcU wsuA (k+1) from fun e=>hc3 (hL.trans e))]
   refine Zad<|Zay<|Zaf<|Zat<|mv' lk pt<|?_
   refine V' (Zav lk lki (by omega) (by omega)) pt ?_
   refine mv' lk pt<|Zaq<|ZaB<|?_
   refine lU' (k+1) (by (try dsimp only);omega) (by (try dsimp only);(try simp only [sm',Nat.reduceAdd]);exact ALe.same (by repeat (first | exact wk0 | refine wka ?_ | refine wk1 rfl ?_ | refine wk1 (by first | rfl | exact ivx (by omega) | exact ivx hkk.symm) ?_)) rfl)
  have hk3:k=3:=by omega
  subst hk3
  refine ZaE<|Zaz<|Zaz<|ZaX<|Zaf<|wr'<|mv' lk pt<|mv' lk pt<|V' (Zbm lk) pt<|?_
  refine V' (Zbn lk lki (by omega) (by omega)) pt ?_
  refine V' (v_ix lk lk (by omega) (by omega)) pt ?_
  refine Zae mp (Zek hbl.1 hbl.2) pt<|V' (ZaC lk) pt<|sn'<|?_
  refine Zaw lk (fun hc4=>?_) (fun hc4=>?_)
  ·have hdg:¬digB (ZcT s)=true:=by rw [←hL];simpa using hc4
   refine Zah<|Zah<|Zbf<|D' (v_mv lk) pt<|D' (v_mv lk) pt<|D' (Zbm lk) pt<|?_
   refine D' (Zbn lk lki (by omega) (by omega)) pt ?_
   refine D' (v_ix lk lk (by omega) (by omega)) pt ?_
   refine D' (v_mv lk) pt ?_
   refine D' (v_ix lks lk (by omega) (by omega)) pt ?_
   refine D' (Za5 lk lk) pt<|Zbj<|?_
   refine ZbH ?_
   refine sn' ?_
   refine cd' lk (fun hc5=>?_) (fun hc5=>?_)
   ·have hne:¬ZcT s=ZcU wsuA (ZdC (ZcT s) d 3).toNat:=fun e=>hc5 (hL.trans e)
    have hT:Zdi d t=(((ZbN (s.extract 0 (s.size-1)) (bad t1)).1,ZdC (ZcT s) d 3),(ZbN (s.extract 0 (s.size-1)) (bad t1)).2):=by rw [hF];unfold Zea;rw [if_neg h0,if_neg hdg];simp only [if_neg hne]
    refine Zat<|mv' lk pt<|V' (Zct lk) pt<|V' (Zac lk) pt<|E' (Zal lk (cvl lkb rfl) (Za9 hid) rfl (nb' rfl) rfl Zka (ZaP hid)) ptn<|sn'<|Zat<|mv' lk pt<|mv' lk pt<|V' (Zbm lk) pt<|?_
    refine V' (Zbn lk lki (by omega) (by omega)) pt ?_
    refine V' (Zdr lk on_ (oi lk) (by omega) (by omega) (by omega)) pt ?_
    rw [show s.extract (Int.toNat 0) ((s.size:Int)-1).toNat=s.extract 0 (s.size-1) by congr 1;omega]
    refine mv' lk pt<|sn'<|wr'<|mv' lk pt<|mv' lk pt<|?_
    refine ZaT mp (Zh0 (t:=bad t1) (by first | assumption | (rw [ByteArray.size_extract];omega)) (Za9 hid)) (ZaP hid) pt ?_
    refine mv' lk pt<|mv' lk pt<|mv' lk pt<|sn'<|Zaa<|Zag ry<|?_
    exact ⟨_,_,rfl,Zao hn,Zb8 hlt ZaQ,rfl,by rw [hT] <;> rfl,by rw [hT] <;> rfl⟩
   have hne:ZcT s=ZcU wsuA (ZdC (ZcT s) d 3).toNat:=hL.symm.trans (Decidable.of_not_not hc5)
   have hT:Zdi d t=(((ZbN (s.extract 0 (s.size-1)) t1).1,ZdC (ZcT s) d 3),(ZbN (s.extract 0 (s.size-1)) t1).2):=by rw [hF];unfold Zea;rw [if_neg h0,if_neg hdg];simp only [if_pos hne]
   refine Zad<|Zaf<|Zat<|mv' lk pt<|mv' lk pt<|V' (Zbm lk) pt<|?_
   refine V' (Zbn lk lki (by omega) (by omega)) pt ?_
   refine V' (Zdr lk on_ (oi lk) (by omega) (by omega) (by omega)) pt ?_
   rw [show s.extract (Int.toNat 0) ((s.size:Int)-1).toNat=s.extract 0 (s.size-1) by congr 1;omega]
   refine mv' lk pt<|sn'<|wr'<|mv' lk pt<|mv' lk pt<|?_
   refine ZaT mp (Zh0 (t:=t1) (by first | assumption | (rw [ByteArray.size_extract];omega)) (Za9 hid)) (ZaP hid) pt ?_
   refine mv' lk pt<|mv' lk pt<|mv' lk pt<|sn'<|Zaa<|Zag ry<|?_
   exact ⟨_,_,rfl,Zao hn,Zb8 hlt ZaQ,rfl,by rw [hT] <;> rfl,by rw [hT] <;> rfl⟩
  have hdg:digB (ZcT s)=true:=by rw [←hL];simpa using hc4
  have hT:Zdi d t=(((ZbN s t1).1,ZdC (ZcT s) d 3),(ZbN s t1).2):=by rw [hF];unfold Zea;rw [if_neg h0,if_pos hdg]
  refine Zad<|Zaf<|wr'<|mv' lk pt<|mv' lk pt<|?_
  refine ZaT mp (Zh0 (t:=t1) (by first | assumption | (rw [ByteArray.size_extract];omega)) (Za9 hid)) (ZaP hid) pt ?_
  refine mv' lk pt<|mv' lk pt<|mv' lk pt<|sn'<|Zaa<|Zag ry<|?_
  exact ⟨_,_,rfl,Zao hn,Zb8 hlt ZaQ,rfl,by rw [hT] <;> rfl,by rw [hT] <;> rfl⟩
 have h0:s.size=0:=hem.1 (Decidable.of_not_not hc1)
 have hT:Zdi d t=(((ZbN s t1).1,d),(ZbN s t1).2):=by rw [hF];exact if_pos h0
 refine Zad<|Zaf<|wr'<|mv' lk pt<|mv' lk pt<|?_
 refine ZaT mp (Zh0 (t:=t1) (by first | assumption | (rw [ByteArray.size_extract];omega)) (Za9 hid)) (ZaP hid) pt ?_
 refine mv' lk pt<|mv' lk pt<|mv' lk pt<|sn'<|Zaa<|Zag ry<|?_
 exact ⟨_,_,rfl,Zao hn,Zb8 hlt ZaQ,rfl,by rw [hT] <;> rfl,by rw [hT] <;> rfl⟩
end Go.Proofs.YthdifaphoaekoaaGreatDoor
end
section
namespace Go.Proofs.YthdifaphoaekoaaGreatDoor
open Go.Ab Go.RowKit Civ
attribute [local simp] Zb7
section
theorem ZfD {a0 c0:AV}{l:List AV}:setCells (a0::l) 0 [c0]=c0::l:=rfl
theorem ZbY {a0 a1 c0:AV}{l:List AV}:setCells (a0::a1::l) 1 [c0]=a0::c0::l:=rfl
theorem Zer {a0 a1 a2 c0:AV}{l:List AV}:setCells (a0::a1::a2::l) 2 [c0]=a0::a1::c0::l:=rfl
theorem Zj9 {a0 a1 a2 a3 c0:AV}{l:List AV}:setCells (a0::a1::a2::a3::l) 3 [c0]=a0::a1::a2::c0::l:=rfl
theorem Zp1 {a0 a1 a2 a3 a4 a5 a6 c0 c1 c2:AV}{l:List AV}:setCells (a0::a1::a2::a3::a4::a5::a6::l) 4 [c0,c1,c2]=a0::a1::a2::a3::c0::c1::c2::l:=rfl
theorem ZpZ {a0 a1 a2 a3 a4 a5 a6 a7 c0:AV}{l:List AV}:setCells (a0::a1::a2::a3::a4::a5::a6::a7::l) 7 [c0]=a0::a1::a2::a3::a4::a5::a6::c0::l:=rfl
theorem Zj8 {a0 a1 a2 a3 a4 a5 a6 a7 a8 c0:AV}{l:List AV}:setCells (a0::a1::a2::a3::a4::a5::a6::a7::a8::l) 8 [c0]=a0::a1::a2::a3::a4::a5::a6::a7::c0::l:=rfl
theorem Zj7 {a0 a1 a2 a3 a4 a5 a6 a7 a8 a9 c0:AV}{l:List AV}:setCells (a0::a1::a2::a3::a4::a5::a6::a7::a8::a9::l) 9 [c0]=a0::a1::a2::a3::a4::a5::a6::a7::a8::c0::l:=rfl
theorem Zf6 {a0 a1 a2 a3 a4 a5 a6 a7 a8 a9 a10 c0:AV}{l:List AV}:setCells (a0::a1::a2::a3::a4::a5::a6::a7::a8::a9::a10::l) 10 [c0]=a0::a1::a2::a3::a4::a5::a6::a7::a8::a9::c0::l:=rfl
theorem Zcx {a0 a1 a2 a3 a4 a5 a6 a7 a8 a9 a10:AV}{l:List AV}:((a0::a1::a2::a3::a4::a5::a6::a7::a8::a9::a10::l).drop 0).take 11=[a0,a1,a2,a3,a4,a5,a6,a7,a8,a9,a10]:=rfl
theorem ZeO {a0 a1 a2 a3 a4 a5 a6 a7 a8 a9 a10 c0 c1 c2 c3 c4 c5 c6 c7 c8 c9 c10:AV}{l:List AV}:setCells (a0::a1::a2::a3::a4::a5::a6::a7::a8::a9::a10::l) 0 [c0,c1,c2,c3,c4,c5,c6,c7,c8,c9,c10]=c0::c1::c2::c3::c4::c5::c6::c7::c8::c9::c10::l:=rfl
theorem Zp2 {a0 a1 a2 a3 a4 c0:AV}{l:List AV}:setCells (a0::a1::a2::a3::a4::l) 4 [c0]=a0::a1::a2::a3::c0::l:=rfl
theorem Zdg {a0 a1 a2 a3 a4 a5 a6 a7 a8 a9:AV}{l:List AV}:((a0::a1::a2::a3::a4::a5::a6::a7::a8::a9::l).drop 0).take 10=[a0,a1,a2,a3,a4,a5,a6,a7,a8,a9]:=rfl
theorem Zf7 {a0 a1 a2 a3 a4 a5 a6 a7 a8 a9 c0 c1 c2 c3 c4 c5 c6 c7 c8 c9:AV}{l:List AV}:setCells (a0::a1::a2::a3::a4::a5::a6::a7::a8::a9::l) 0 [c0,c1,c2,c3,c4,c5,c6,c7,c8,c9]=c0::c1::c2::c3::c4::c5::c6::c7::c8::c9::l:=rfl
theorem Zlf {τ:Operand→AV}{y0 y1 y2:Operand}{x0_0 x1_0 x2_0:AV}(h0:Zax (τ y0)=some [x0_0]) (l0:[x0_0].all leaf=true) (h1:Zax (τ y1)=some [x1_0]) (l1:[x1_0].all leaf=true) (h2:Zax (τ y2)=some [x2_0]) (l2:[x2_0].all leaf=true):Zau τ [(0,1,y0),(1,1,y1),(2,1,y2)] [(.v (.int .i64 0)),(.v (.int .i64 0)),(.v (.int .i64 0))]=some [x0_0,x1_0,x2_0]:=by
 simp only [Zau,h0,l0,h1,l1,h2,l2]
 rfl
theorem Zp0 {a0 a1 a2 a3 a4 a5 a6 a7 c0 c1 c2:AV}{l:List AV}:setCells (a0::a1::a2::a3::a4::a5::a6::a7::l) 5 [c0,c1,c2]=a0::a1::a2::a3::a4::c0::c1::c2::l:=rfl
end
def c134:AC:=(Sr [Oo 2 (.new 40 11 [Ss,(iv 0),(iv 0),(iv 0),(iv 0),(iv 0),(iv 0),(iv 0),(iv 0),(iv 0),Ss])] (Sr [Oo 3 (.new 40 11 [Ss,(iv 0),(iv 0),(iv 0),(iv 0),(iv 0),(iv 0),(iv 0),(iv 0),(iv 0),Ss])] (Sr [Mv 5 0,Cl 6 135 [(.tmp 5)],Fa 7 0 3,Sc 7 6] (Sr [Mv 8 0,Mv 9 0,Cl 10 132 [(.tmp 9)],Cl 11 178 [(.tmp 8),(.tmp 10),(Ci 4),(Ci 4)],Fa 12 1 3,Sc 12 11] (Sr [Mv 13 0,Cl 14 132 [(.tmp 13)],Mv 4 14] (.seq (Sr [Mv 15 4] (.block 0 (Sr [Oo 21 (.bin .eql (.tmp 15) (.const (.string ⟨#[111,110,108,121]⟩))),Mv 20 21] (Cd 20 (.reg [Fa 22 1 3,Ld 23 22,Fa 24 2 3,Sc 24 23]) (Sr [Oo 26 (.bin .eql (.tmp 15) (.const (.string ⟨#[109,97,120]⟩))),Mv 25 26] (Cd 25 (.reg [Fa 27 2 3,⟨none,none,(.store 1 (.tmp 27) (Ci 2100))⟩]) (.reg [Mv 16 0,Mv 17 4,Cl 18 178 [(.tmp 16),(.tmp 17),(Ci 4),(Ci 4)],Fa 19 2 3,Sc 19 18]))))))) (Sr [Mv 28 0,Cl 29 179 [(.tmp 28)],Fa 30 3 3,Sc 30 29] (Sr [Mv 31 0,Cl 32 181 [(.tmp 31)],Fa 33 4 3,⟨none,none,(.store 3 (.tmp 33) (.tmp 32))⟩] (Sr [Mv 35 0,Cl 36 180 [(.tmp 35),(Ci 1)],Mv 34 36,Ex 37 34 0,Ex 38 34 1,Fa 39 7 3,Sc 39 37,Fa 40 8 3,Sc 40 38] (Sr [Mv 41 0,Mv 42 0,Cl 43 132 [(.tmp 42)],Cl 44 177 [(.tmp 41),(.tmp 43)],Fa 45 9 3,Sc 45 44] (Sr [Mv 46 0,Cl 47 132 [(.tmp 46)],Mv 4 47] (.seq (Sr [Mv 48 4,Oo 49 (.bin .eql (.tmp 48) (.const (.string ⟨#[]⟩))),Mv 50 49,Of 51 50 (mt 4),Of 52 50 (.bin .neq (.tmp 51) (.const (.string ⟨#[45]⟩))),Of 53 50 (mt 52),Ot 54 53 (mt 4),Ot 55 53 (.call (.func 149) [(.tmp 54)]),Ot 56 53 (.un .not (.tmp 55)),Of 57 50 (.pick (.tmp 53) (.tmp 56) (.const (.bool false))),Oo 58 (.pick (.tmp 50) (.const (.bool true)) (.tmp 57))] (Cd 58 (.reg [Mv 59 0,Nk 60 59,Fa 61 1 60,⟨none,none,(.store 1 (.tmp 61) (.const (.bool true)))⟩]) .skip)) (.seq (Sr [Mv 62 4,Oo 63 (.bin .neq (.tmp 62) (.const (.string ⟨#[45]⟩)))] (Cd 63 (.reg [Mv 64 4,Fa 65 10 3,Sc 65 64]) .skip)) (Sr [Oo 66 (.load true 11 (.tmp 3)),⟨none,none,(.store 11 (.tmp 2) (.tmp 66))⟩] .ret))))))))))))))
theorem k134:ZaD Tryz.prog 134=some ⟨c134,[(.cell 2 true 11)],67⟩:=by kernel_rfl
def c133:AC:=(Sr [Oo 2 (.new 67 10 [(iv 0),Ss,(iv 0),Ss,(.v (.bool false)),(iv 0),(iv 0),(iv 0),(iv 0),(iv 0)])] (Sr [Oo 3 (.new 67 10 [(iv 0),Ss,(iv 0),Ss,(.v (.bool false)),(iv 0),(iv 0),(iv 0),(iv 0),(iv 0)])] (Sr [Mv 8 0,Cl 9 132 [(.tmp 8)],Mv 4 9] (.seq (Sr [Mv 10 4,Oo 11 (.bin .neq (.tmp 10) (.const (.string ⟨#[]⟩))),Mv 12 11,Ot 13 12 (mt 4),Ot 14 12 (.ix (.tmp 13) (Ci 0)),Ot 15 12 (.bin .eql (.tmp 14) (.const (.int .u8 45))),Oo 16 (.pick (.tmp 12) (.tmp 15) (.const (.bool false)))] (Cd 16 (.reg [Mv 17 0,Mv 18 4,Oo 19 (.sls (.tmp 18) (some (Ci 1)) none),Cl 20 177 [(.tmp 17),(.tmp 19)],Oo 21 (.un .neg (.tmp 20)),Fa 22 0 3,Sc 22 21]) (.reg [Mv 23 0,Mv 24 4,Cl 25 177 [(.tmp 23),(.tmp 24)],Fa 26 0 3,Sc 26 25]))) (Sr [Mv 27 0,Cl 28 132 [(.tmp 27)],Mv 4 28] (.seq (.block 0 (Sr [Mv 38 4,Oo 39 (.bin .eql (.tmp 38) (.const (.string ⟨#[45]⟩))),Mv 37 39] (Cd 37 .skip (Sr [Mv 41 4,Oo 42 (.bin .neq (.tmp 41) (.const (.string ⟨#[]⟩))),Mv 43 42,Ot 44 43 (mt 4),Ot 45 43 (.ix (.tmp 44) (Ci 0)),Ot 46 43 (.call (.func 151) [(.tmp 45)]),Oo 47 (.pick (.tmp 43) (.tmp 46) (.const (.bool false))),Mv 40 47] (Cd 40 (.seq (Sr [Mv 48 4,Oo 49 (.bin .eql (.tmp 48) (.const (.string ⟨#[48]⟩)))] (Cd 49 (.reg [Mv 50 0,Nk 51 50,Fa 52 1 51,⟨none,none,(.store 1 (.tmp 52) (.const (.bool true)))⟩]) .skip)) (.reg [Mv 53 0,Mv 54 4,Cl 55 177 [(.tmp 53),(.tmp 54)],Fa 56 2 3,Sc 56 55])) (.seq (Sr [Mv 29 4,Cl 30 108 [(.tmp 29)],Oo 31 (.un .not (.tmp 30))] (Cd 31 (.reg [Mv 32 0,Nk 33 32,Fa 34 1 33,⟨none,none,(.store 1 (.tmp 34) (.const (.bool true)))⟩]) .skip)) (.reg [Mv 35 4,Fa 36 1 3,Sc 36 35]))))))) (Sr [Mv 57 0,Cl 58 132 [(.tmp 57)],Fa 59 3 3,Sc 59 58] (.seq (Sr [Fa 60 3 3,Ld 61 60,Cl 62 152 [(.tmp 61)],Oo 63 (.un .not (.tmp 62))] (Cd 63 (.reg [Mv 64 0,Nk 65 64,Fa 66 1 65,⟨none,none,(.store 1 (.tmp 66) (.const (.bool true)))⟩]) .skip)) (.seq (Sr [Mv 67 0,Nk 68 67,Fa 69 0 68,Ld 70 69,Oo 71 (.len false (.tmp 70)),Bc 72 .eql 71 0] (Cd 72 (Sr [Fa 73 4 3,⟨none,none,(.store 1 (.tmp 73) (.const (.bool true)))⟩] (Sr [Oo 74 (.load true 10 (.tmp 3)),⟨none,none,(.store 10 (.tmp 2) (.tmp 74))⟩] .ret)) .skip)) (Sr [Mv 75 0,Mv 76 0,Cl 77 132 [(.tmp 76)],Cl 78 178 [(.tmp 75),(.tmp 77),(Ci 4),(Ci 4)],Mv 5 78] (Sr [Mv 79 0,Cl 80 179 [(.tmp 79)],Mv 6 80] (Sr [Mv 81 0,Mv 82 0,Cl 83 132 [(.tmp 82)],Cl 84 178 [(.tmp 81),(.tmp 83),(Ci 1),(Ci 2)],Mv 7 84] (Sr [Mv 85 5,Mv 86 6,Mv 87 7,Oo 88 (.build [(iv 0),(iv 0),(iv 0)] [(0,(1,(.tmp 85))),(1,(1,(.tmp 86))),(2,(1,(.tmp 87)))]),Fa 89 5 3,Fa 90 0 89,⟨none,none,(.store 3 (.tmp 90) (.tmp 88))⟩] (Sr [Mv 92 0,Cl 93 180 [(.tmp 92),(Ci 2)],Mv 91 93,Ex 94 91 0,Ex 95 91 1,Fa 96 5 3,Fa 97 3 96,Sc 97 94,Fa 98 5 3,Fa 99 4 98,Sc 99 95] (.seq (Sr [Fa 100 5 3,Fa 101 4 100,Ld 102 101,Bc 103 .eql 102 1] (Cd 103 (.reg [Mv 104 0,Nk 105 104,Fa 106 1 105,⟨none,none,(.store 1 (.tmp 106) (.const (.bool true)))⟩]) .skip)) (Sr [Oo 107 (.load true 10 (.tmp 3)),⟨none,none,(.store 10 (.tmp 2) (.tmp 107))⟩] .ret))))))))))))))))
theorem k133:ZaD Tryz.prog 133=some ⟨c133,[(.cell 2 true 10)],108⟩:=by kernel_rfl
def okT (t:TS):Prop := ∀ x∈t.1,x.size≤24
theorem Zil {t u:TS}(h:u.1=t.1) (ho:okT t):okT u:=by unfold okT;rw [h];exact ho
theorem Zbt {t u:TS}{s:ByteArray}(ho:okT t) (e:ZaW t=(s,u)):s.size≤24∧okT u:=by
 unfold ZaW at e
 split at e
 ·cases e;exact ⟨by decide,ho⟩
 rename_i hn
 obtain ⟨l,b⟩:=t
 cases l with
 | nil=>exact absurd (.inr rfl) hn
 | cons x l=>cases e;exact ⟨ho x (by simp),fun y hy=>ho y (by simp only [List.mem_cons];exact .inr hy)⟩
theorem tNum_fst {s:ByteArray}{a b:Int}{t:TS}:(tNum s a b t).2.1=t.1:=by unfold tNum;split <;> rfl
theorem Zls {s:ByteArray}{t:TS}:(Zeg s t).2.1=t.1:=by unfold Zeg;split <;> rfl
theorem tSix_fst {s:ByteArray}{t:TS}:(tSix s t).2.1=t.1:=by unfold tSix;dsimp only;split <;> exact tNum_fst
theorem tSpan_fst {s:ByteArray}{t:TS}:(ZbN s t).2.1=t.1:=by
 unfold ZbN
 split
 ·rfl
 unfold Ze1
 split
 ·exact tSix_fst.trans tNum_fst
 ·exact tSix_fst.trans (tSix_fst.trans tNum_fst)
 rfl
theorem Zo2 {s:ByteArray}{t:TS}:(Zb6 s t).2.1=t.1:=by
 unfold Zb6
 split
 ·exact Zls
 split
 ·exact tNum_fst
 exact tNum_fst.trans Zls
theorem ZmL {d:Int}{s:ByteArray}{t:TS}:(Zea d s t).2.1=t.1:=by
 unfold Zea
 split
 ·exact tSpan_fst
 split
 ·exact tSpan_fst
 refine tSpan_fst.trans ?_
 split <;> rfl
theorem tTo_fst {f:Int}{s:ByteArray}{t:TS}:(tTo f s t).2.1=t.1:=by
 unfold tTo
 split
 ·rfl
 split
 ·rfl
 exact tNum_fst
theorem ZhR {t u:TS}{s:ByteArray}(ho:okT t) (e:Ze2 t=(s,u)):okT u:=by
 obtain ⟨x,v,ev⟩ : ∃ x v,ZaW t=(x,v):=⟨_,_,rfl⟩
 unfold Ze2 at e
 rw [ev] at e
 have:=(Zbt ho ev).2
 simp only [Prod.mk.injEq] at e
 obtain ⟨_,e2⟩:=e
 subst e2
 split
 ·exact this
 exact this
theorem Zim {t u:TS}{n:Int}(ho:okT t) (e:ZdQ t=(n,u)):okT u:=by
 obtain ⟨x,v,ev⟩ : ∃ x v,ZaW t=(x,v):=⟨_,_,rfl⟩
 unfold ZdQ at e
 rw [ev] at e
 have:=(Zbt ho ev).2
 split at e <;> cases e <;> exact this
theorem ZkK {s:ByteArray}{a b n:Int}{t u:TS}(ho:okT t) (e:tNum s a b t=(n,u)):okT u:=Zil (by have := @tNum_fst s a b t;rw [e] at this;exact this) ho
theorem ZkJ {s:ByteArray}{n:Int}{t u:TS}(ho:okT t) (e:ZbN s t=(n,u)):okT u:=Zil (by have := @tSpan_fst s t;rw [e] at this;exact this) ho
theorem okT_to {f:Int}{s:ByteArray}{n:Int}{t u:TS}(ho:okT t) (e:tTo f s t=(n,u)):okT u:=Zil (by have := @tTo_fst f s t;rw [e] at this;exact this) ho
theorem Zog {n:Frm}{t u:TS}(ho:okT t) (e:ZgW t=(n,u)):okT u:=by
 obtain ⟨x,v,ev⟩ : ∃ x v,ZaW t=(x,v):=⟨_,_,rfl⟩
 unfold ZgW at e
 rw [ev] at e
 exact Zil (by have := @Zo2 x v;rw [e] at this;exact this) (Zbt ho ev).2
theorem Zin {d:Int}{n:Int×Int}{t u:TS}(ho:okT t) (e:Zdi d t=(n,u)):okT u:=by
 obtain ⟨x,v,ev⟩ : ∃ x v,ZaW t=(x,v):=⟨_,_,rfl⟩
 unfold Zdi at e
 rw [ev] at e
 exact Zil (by have := @ZmL d x v;rw [e] at this;exact this) (Zbt ho ev).2
theorem Zkn {t t1:TS}{s:ByteArray}{id:Nat}{h:AH}(ho:okT t) (he:Ze2 t=(s,t1)) (h1:h[id]?=some (takE t)):ACalls Tryz.prog 135 [.ptr id 0 0] h fun x h'=>x=.ret (sv s)∧h'=h.set id (takE t1):=by
 have:=tname_a (by have:=(Zbt ho (s:=(ZaW t).1) (u:=(ZaW t).2) rfl).1;unfold maxLen;omega) h1
 rw [he] at this
 exact this
theorem Zn1 {s:ByteArray}{a b n:Int}{t t1:TS}{id:Nat}{h:AH}(hb:b≤4) (he:tNum s a b t=(n,t1)) (h1:h[id]?=some (takE t)):ACalls Tryz.prog 178 [.ptr id 0 0,sv s,iv a,iv b] h fun x h'=>x=.ret (iv n)∧h'=h.set id (takE t1):=by
 have:=ZdZ (s:=s) (a:=a) hb h1
 rw [he] at this
 exact this
theorem Zn2 {n:Int}{t t1:TS}{id:Nat}{h:AH}(he:ZdQ t=(n,t1)) (h1:h[id]?=some (takE t)):ACalls Tryz.prog 179 [.ptr id 0 0] h fun x h'=>x=.ret (iv n)∧h'=h.set id (takE t1):=by
 have:=tmonth_a h1
 rw [he] at this
 exact this
theorem tform_e {n:Frm}{t t1:TS}{id:Nat}{h:AH}(ho:okT t) (he:ZgW t=(n,t1)) (h1:h[id]?=some (takE t)):ACalls Tryz.prog 181 [.ptr id 0 0] h fun x h'=>x=.ret (.agg [iv n.1,iv n.2.1,iv n.2.2])∧h'=h.set id (takE t1):=by
 have:=tform_a (Zbt ho (s:=(ZaW t).1) (u:=(ZaW t).2) rfl).1 h1
 rw [he] at this
 exact this
theorem Zn4 {d:Int}{n:Int×Int}{t t1:TS}{id:Nat}{h:AH}(hd:d=1∨d=2) (ho:okT t) (he:Zdi d t=(n,t1)) (h1:h[id]?=some (takE t)):ACalls Tryz.prog 180 [.ptr id 0 0,iv d] h fun x h'=>x=.ret (.tup [iv n.1,iv n.2])∧h'=h.set id (takE t1):=by
 have:=tclock_a hd (Zbt ho (s:=(ZaW t).1) (u:=(ZaW t).2) rfl).1 h1
 rw [he] at this
 exact this
theorem ZgT {s:ByteArray}{n:Int}{t t1:TS}{id:Nat}{h:AH}(hz:s.size≤24) (he:ZbN s t=(n,t1)) (h1:h[id]?=some (takE t)):ACalls Tryz.prog 177 [.ptr id 0 0,sv s] h fun x h'=>x=.ret (iv n)∧h'=h.set id (takE t1):=by
 have:=Zh0 hz h1
 rw [he] at this
 exact this
theorem trule_a {t:TS}{id:Nat}{h:AH}(ho:okT t) (h1:h[id]?=some (takE t)):ACalls Tryz.prog 134 [.ptr id 0 0] h fun x h'=>x=.ret (.agg (rulC (Zkr t).1))∧h'=h.set id (takE (Zkr t).2):=by
 have hid:id<h.length:=(List.getElem?_eq_some_iff.1 h1).1
 obtain ⟨nm,t1,e1⟩ : ∃ a b,Ze2 t=(a,b):=⟨_,_,rfl⟩
 have o1:=ZhR ho e1
 obtain ⟨s2,t2,e2⟩ : ∃ a b,ZaW t1=(a,b):=⟨_,_,rfl⟩
 obtain ⟨z2,o2⟩:=Zbt o1 e2
 obtain ⟨f,t3,e3⟩ : ∃ a b,tNum s2 4 4 t2=(a,b):=⟨_,_,rfl⟩
 have o3:=ZkK o2 e3
 obtain ⟨s4,t4,e4⟩ : ∃ a b,ZaW t3=(a,b):=⟨_,_,rfl⟩
 obtain ⟨z4,o4⟩:=Zbt o3 e4
 obtain ⟨yr,t5,e5⟩ : ∃ a b,tTo f s4 t4=(a,b):=⟨_,_,rfl⟩
 have o5:=okT_to o4 e5
 obtain ⟨m,t6,e6⟩ : ∃ a b,ZdQ t5=(a,b):=⟨_,_,rfl⟩
 have o6:=Zim o5 e6
 obtain ⟨k,t7,e7⟩ : ∃ a b,ZgW t6=(a,b):=⟨_,_,rfl⟩
 have o7:=Zog o6 e7
 obtain ⟨c,t8,e8⟩ : ∃ a b,Zdi 1 t7=(a,b):=⟨_,_,rfl⟩
 have o8:=Zin o7 e8
 obtain ⟨s9,t9,e9⟩ : ∃ a b,ZaW t8=(a,b):=⟨_,_,rfl⟩
 obtain ⟨z9,o9⟩:=Zbt o8 e9
 obtain ⟨svd,t10,e10⟩ : ∃ a b,ZbN s9 t9=(a,b):=⟨_,_,rfl⟩
 have o10:=ZkJ o9 e10
 obtain ⟨s11,t11,e11⟩ : ∃ a b,ZaW t10=(a,b):=⟨_,_,rfl⟩
 obtain ⟨z11,o11⟩:=Zbt o10 e11
 have hR:Zkr t=((nm,f,yr,m,k,c.1,c.2,svd,(Zdu t10).1),(Zdu t10).2):=by
  simp only [Zkr,Zch,ret2,ZqO,tToN,ZqQ,e1,e2,e3,e4,e5,e6,e7,e8,e9,e10]
 have hL:Zdu t10=(if s11=bA [45] then ⟨#[]⟩ else s11,if Ze9 s11=true then t11 else bad t11):=by unfold Zdu;rw [e11]
 refine tJ' k134 fun N hn hlt hlA hbd=>?_
 simp only [tb'] at hbd ⊢
 refine ZdV (h1:=h.set id (takE t)++[]) (by rw [Zc8 h1]) ?_
 refine wr'<|E' (Za6 (hl0 (Zao hn)) ha0) pt<|sn'<|wr'<|E' (Za6 (hl1 (Zao hn)) ha1) pt<|sn'<|wr'<|mv' lk pt<|ZaT mp (Zkn ho e1 (Za9 hid)) (ZaP hid) pt<|?_
 refine V' (Zac lk) pt<|E' (Zal lk (cvl lk rfl) (hga (Zao hn) rfl) rfl (nb' rfl) rfl ZfD (hs1 (Zao hn))) ptn<|sn'<|wr'<|mv' lk pt<|mv' lk pt<|ZaT mp (Zds e2 (Za9 hid)) (ZaP hid) pt<|?_
 refine ZaT mp (Zn1 (by omega) e3 (Za9 hid)) (ZaP hid) pt ?_
 refine V' (Zac lk) pt<|E' (Zal lk (cvl lk rfl) (hga (Zao hn) rfl) rfl (nb' rfl) rfl ZbY (hs1 (Zao hn))) ptn<|sn'<|wr'<|mv' lk pt<|ZaT mp (Zds e4 (Za9 hid)) (ZaP hid) pt<|mv' lk pt<|sn'<|?_
 refine ZnS (ι:=Unit) (fun (u:Unit)=>[]++rn' 15 13) (fun (u:Unit)=>h.set id (takE t5)++[.mk 0 40 11 [sv ⟨#[]⟩,iv 0,iv 0,iv 0,iv 0,iv 0,iv 0,iv 0,iv 0,iv 0,sv ⟨#[]⟩],.mk 0 40 11 [sv nm,iv f,iv yr,iv 0,iv 0,iv 0,iv 0,iv 0,iv 0,iv 0,sv ⟨#[]⟩]]) (fun (u:Unit)=>True) ?_ ?_
 ·try simp only [sm',Nat.reduceAdd]
  refine wr'<|mv' lk pt<|sn'<|Zan<|wr'<|V' (Zci lk lks) pt<|mv' lk pt<|sn'<|?_
  refine cd' lk (fun hc1=>?_) (fun hc1=>?_)
  ·have hq:yr=f∧t5=t4:=by rw [tTo,if_pos (show s4=Zrs from hc1)] at e5;cases e5;exact ⟨rfl,rfl⟩
   obtain ⟨rfl,rfl⟩:=hq
   refine Zat<|V' (Zac lk) pt<|V' (Zab lk (hga (Zao hn) rfl) gt1) pt<|V' (Zac lk) pt<|E' (Zal lk (cvl lk rfl) (hga (Zao hn) rfl) rfl (nb' rfl) rfl Zer (hs1 (Zao hn))) ptn<|Zaq<|Zay<|ZaB<|?_
   exact cT' (()) (by trivial)
  refine wr'<|V' (Zci lk lks) pt<|mv' lk pt<|sn'<|?_
  refine cd' lk (fun hc2=>?_) (fun hc2=>?_)
  ·have hq:yr=2100∧t5=t4:=by rw [tTo,if_neg (show ¬s4=Zrs from hc1),if_pos (show s4=maxA from hc2)] at e5;cases e5;exact ⟨rfl,rfl⟩
   obtain ⟨rfl,rfl⟩:=hq
   refine Zat<|V' (Zac lk) pt<|E' (Zal lk (cvl lki rfl) (hga (Zao hn) rfl) rfl (nb' rfl) rfl Zer (hs1 (Zao hn))) ptn<|Zaq<|Zay<|ZaB<|?_
   exact cT' (()) (by trivial)
  have hq:tNum s4 4 4 t4=(yr,t5):=by rw [tTo,if_neg (show ¬s4=Zrs from hc1),if_neg (show ¬s4=maxA from hc2)] at e5;exact e5
  refine Zat<|mv' lk pt<|mv' lk pt<|?_
  refine ZaT mp (Zn1 (by omega) hq (Za9 hid)) (ZaP hid) pt ?_
  refine V' (Zac lk) pt<|E' (Zal lk (cvl lk rfl) (hga (Zao hn) rfl) rfl (nb' rfl) rfl Zer (hs1 (Zao hn))) ptn<|Zaq<|Zay<|ZaB<|?_
  exact cT' (()) (by trivial)
 rintro u hq9
 try simp only [sm',Nat.reduceAdd]
 refine wr'<|mv' lk pt<|ZaT mp (Zn2 e6 (Za9 hid)) (ZaP hid) pt<|V' (Zac lk) pt<|E' (Zal lk (cvl lk rfl) (hga (Zao hn) rfl) rfl (nb' rfl) rfl Zj9 (hs1 (Zao hn))) ptn<|sn'<|wr'<|mv' lk pt<|ZaT mp (tform_e o6 e7 (Za9 hid)) (ZaP hid) pt<|V' (Zac lk) pt<|E' (Zal lk (cvl lk rfl) (hga (Zao hn) rfl) rfl (nb' rfl) rfl Zp1 (hs1 (Zao hn))) ptn<|?_
 refine sn'<|wr'<|mv' lk pt<|ZaT mp (Zn4 (.inl rfl) o7 e8 (Za9 hid)) (ZaP hid) pt<|mv' lk pt<|V' (Za7 lk gt) pt<|V' (Za7 lk gt) pt<|V' (Zac lk) pt<|E' (Zal lk (cvl lk rfl) (hga (Zao hn) rfl) rfl (nb' rfl) rfl ZpZ (hs1 (Zao hn))) ptn<|V' (Zac lk) pt<|E' (Zal lk (cvl lk rfl) (hga (Zao hn) rfl) rfl (nb' rfl) rfl Zj8 (hs1 (Zao hn))) ptn<|Zaq<|?_
 refine Zaf<|wr'<|mv' lk pt<|mv' lk pt<|ZaT mp (Zds e9 (Za9 hid)) (ZaP hid) pt<|ZaT mp (ZgT z9 e10 (Za9 hid)) (ZaP hid) pt<|V' (Zac lk) pt<|E' (Zal lk (cvl lk rfl) (hga (Zao hn) rfl) rfl (nb' rfl) rfl Zj7 (hs1 (Zao hn))) ptn<|sn'<|wr'<|mv' lk pt<|?_
 refine ZaT mp (Zds e11 (Za9 hid)) (ZaP hid) pt<|mv' lk pt<|sn'<|Zah<|wr'<|mv' lk pt<|V' (Zci lk lks) pt<|mv' lk pt<|?_
 refine sp' (t:=50) gt pt pt (fun hg50=>?_) (fun hg50=>?_)
 ·have hLt:Zdu t10=(s11,bad t11):=by rw [hL,hg50];rfl
  refine s_no gt pt<|s_no gt pt<|s_no gt pt<|s_nu gt pt<|s_nu gt pt<|s_nu gt pt<|s_no gt pt<|V' (Zai lk lkb) pt<|sn'<|ZaG lk<|Zat<|mv' lk pt<|V' (Zct lk) pt<|?_
  refine V' (Zac lk) pt<|E' (Zal lk (cvl lkb rfl) (Za9 hid) rfl (nb' rfl) rfl ZbY (ZaP hid)) ptn<|sn'<|Zah<|wr'<|mv' lk pt<|V' (Zb5 lk lks) pt<|sn'<|?_
  refine Zc4 lk (by exact decide_eq_true (by rw [hg50];decide)) ?_
  refine Zat<|mv' lk pt<|V' (Zac lk) pt<|E' (Zal lk (cvl lk rfl) (hga (Zao hn) rfl) rfl (nb' rfl) rfl Zf6 (hs1 (Zao hn))) ptn<|sn'<|wr'<|V' (Zap lk (hga (Zao hn) rfl) Zcx rfl) pt<|E' (Zal lk (cvl lk rfl) (hga (Zao hn) rfl) rfl (nb' rfl) rfl ZeO (hs0 (Zao hn))) ptn<|sn'<|Zaa<|Zag (rs1 (rr_c gt (hga (Zao hn) rfl) (ld1 Zcx rfl)))<|?_
  rw [hLt] at hR
  exact ⟨_,_,rfl,Zao hn,Zb8 hlt ZaQ,rfl,by rw [hR] <;> rfl,by rw [hR] <;> rfl⟩
 refine s_do gt<|mv' lk pt<|s_do gt<|V' (Zb5 lk lks) pt<|s_do gt<|mv' lk pt<|?_
 refine sp' (t:=53) gt pt pt (fun hg53=>?_) (fun hg53=>?_)
 ·refine s_do gt<|mv' lk pt<|s_do gt<|?_
  refine Zae mp (Zhr (by unfold maxLen;omega)) pt ?_
  refine s_do gt<|V' (ZaC lk) pt<|s_do gt<|V' (Zai lk lk) pt<|V' (Zak lk lk) pt<|sn'<|?_
  refine Zaw lk (fun hc3=>?_) (fun hc3=>?_)
  ·have hl:ZcA s11=false:=by simpa using hc3
   have hLt:Zdu t10=(s11,bad t11):=by rw [hL,if_neg (show ¬s11=bA [45] from hg53),if_neg (by unfold Ze9;rw [hl,decide_eq_false (show ¬s11=bA [45] from hg53)];simp)]
   refine Zat<|mv' lk pt<|V' (Zct lk) pt<|V' (Zac lk) pt<|E' (Zal lk (cvl lkb rfl) (Za9 hid) rfl (nb' rfl) rfl ZbY (ZaP hid)) ptn<|sn'<|Zah<|wr'<|mv' lk pt<|V' (Zb5 lk lks) pt<|sn'<|?_
   refine Zc4 lk (by exact decide_eq_true hg53) ?_
   refine Zat<|mv' lk pt<|V' (Zac lk) pt<|E' (Zal lk (cvl lk rfl) (hga (Zao hn) rfl) rfl (nb' rfl) rfl Zf6 (hs1 (Zao hn))) ptn<|sn'<|wr'<|V' (Zap lk (hga (Zao hn) rfl) Zcx rfl) pt<|E' (Zal lk (cvl lk rfl) (hga (Zao hn) rfl) rfl (nb' rfl) rfl ZeO (hs0 (Zao hn))) ptn<|sn'<|Zaa<|Zag (rs1 (rr_c gt (hga (Zao hn) rfl) (ld1 Zcx rfl)))<|?_
   rw [hLt] at hR
   exact ⟨_,_,rfl,Zao hn,Zb8 hlt ZaQ,rfl,by rw [hR] <;> rfl,by rw [hR] <;> rfl⟩
  have hl:ZcA s11=true:=by simpa using hc3
  have hLt:Zdu t10=(s11,t11):=by rw [hL,if_neg (show ¬s11=bA [45] from hg53),if_pos (by unfold Ze9;rw [hl,decide_eq_true hg50];simp)]
  refine Zad<|Zaf<|Zah<|wr'<|mv' lk pt<|V' (Zb5 lk lks) pt<|sn'<|?_
  refine Zc4 lk (by exact decide_eq_true hg53) ?_
  refine Zat<|mv' lk pt<|V' (Zac lk) pt<|E' (Zal lk (cvl lk rfl) (hga (Zao hn) rfl) rfl (nb' rfl) rfl Zf6 (hs1 (Zao hn))) ptn<|sn'<|wr'<|V' (Zap lk (hga (Zao hn) rfl) Zcx rfl) pt<|E' (Zal lk (cvl lk rfl) (hga (Zao hn) rfl) rfl (nb' rfl) rfl ZeO (hs0 (Zao hn))) ptn<|sn'<|Zaa<|Zag (rs1 (rr_c gt (hga (Zao hn) rfl) (ld1 Zcx rfl)))<|?_
  rw [hLt] at hR
  exact ⟨_,_,rfl,Zao hn,Zb8 hlt ZaQ,rfl,by rw [hR] <;> rfl,by rw [hR] <;> rfl⟩
 have h45:s11=bA [45]:=Decidable.of_not_not hg53
 have hLt:Zdu t10=(⟨#[]⟩,t11):=by rw [hL,h45];rfl
 refine s_no gt pt<|s_no gt pt<|s_no gt pt<|s_do gt<|V' (Zak lk lkb) pt<|V' (Zak lk lk) pt<|sn'<|ZaR lk<|Zad<|Zaf<|Zah<|wr'<|?_
 refine mv' lk pt<|V' (Zb5 lk lks) pt<|sn'<|?_
 refine Zcr lk (by exact decide_eq_false (by rw [h45];decide)) ?_
 refine Zad<|Zaf<|wr'<|V' (Zap lk (hga (Zao hn) rfl) Zcx rfl) pt<|E' (Zal lk (cvl lk rfl) (hga (Zao hn) rfl) rfl (nb' rfl) rfl ZeO (hs0 (Zao hn))) ptn<|sn'<|Zaa<|Zag (rs1 (rr_c gt (hga (Zao hn) rfl) (ld1 Zcx rfl)))<|?_
 rw [hLt] at hR
 exact ⟨_,_,rfl,Zao hn,Zb8 hlt ZaQ,rfl,by rw [hR] <;> rfl,by rw [hR] <;> rfl⟩
theorem tSpan_bd {s:ByteArray}{t:TS}:0≤(ZbN s t).1∧(ZbN s t).1<1000000000:=by
 unfold ZbN
 split
 ·exact ⟨Int.le_refl 0,show (0:Int)<1000000000 by decide⟩
 unfold Ze1
 split
 ·rename_i a b _
  have h1:=Zh5 (s:=bA a) (a:=1) (b:=2) (t:=t) (by omega)
  have h2:=ZgV (s:=bA b) (t:=(tNum (bA a) 1 2 t).2)
  constructor <;> dsimp only <;> omega
 ·rename_i a b c _
  have h1:=Zh5 (s:=bA a) (a:=1) (b:=2) (t:=t) (by omega)
  have h2:=ZgV (s:=bA b) (t:=(tNum (bA a) 1 2 t).2)
  have h3:=ZgV (s:=bA c) (t:=(tSix (bA b) (tNum (bA a) 1 2 t).2).2)
  constructor <;> dsimp only <;> omega
 exact ⟨Int.le_refl 0,show (0:Int)<1000000000 by decide⟩
abbrev eraZ:List AV:=[iv 0,sv ⟨#[]⟩,iv 0,sv ⟨#[]⟩,bv false,iv 0,iv 0,iv 0,iv 0,iv 0]
theorem ZlL {t u:TS}{n:Int}(ho:okT t) (e:Zgf t=(n,u)):okT u:=by
 obtain ⟨x,v,ev⟩ : ∃ x v,ZaW t=(x,v):=⟨_,_,rfl⟩
 unfold Zgf at e
 rw [ev] at e
 have:=(Zbt ho ev).2
 split at e
 ·cases e;exact Zil tSpan_fst this
 exact ZkJ this e
theorem ZlM {s:ByteArray}{t u:TS}{p:Int×ByteArray}(ho:okT t) (e:Zd9 s t=(p,u)):okT u:=by
 unfold Zd9 at e
 split at e
 ·cases e;exact ho
 split at e
 ·cases e
  refine Zil tSpan_fst ?_
  split <;> exact ho
 cases e
 split <;> exact ho
theorem tera_a {t:TS}{id:Nat}{h:AH}(ho:okT t) (h1:h[id]?=some (takE t)):ACalls Tryz.prog 133 [.ptr id 0 0] h fun x h'=>x=.ret (.agg (eraC (tEra t).1))∧h'=h.set id (takE (tEra t).2):=by
 have hid:id<h.length:=(List.getElem?_eq_some_iff.1 h1).1
 obtain ⟨s1,t1,e1⟩ : ∃ a b,ZaW t=(a,b):=⟨_,_,rfl⟩
 obtain ⟨z1,o1⟩:=Zbt ho e1
 have hem1:=ZeH (f:=s1)
 obtain ⟨sh,t2,e2⟩ : ∃ a b,Zgf t=(a,b):=⟨_,_,rfl⟩
 have o2:=ZlL ho e2
 obtain ⟨s3,t3,e3⟩ : ∃ a b,ZaW t2=(a,b):=⟨_,_,rfl⟩
 obtain ⟨z3,o3⟩:=Zbt o2 e3
 have hem3:=ZeH (f:=s3)
 obtain ⟨⟨sa,rl⟩,t4,e4⟩ : ∃ a b,Zd9 s3 t3=(a,b):=⟨_,_,rfl⟩
 have o4:=ZlM o3 e4
 obtain ⟨fm,t5,e5⟩ : ∃ a b,ZaW t4=(a,b):=⟨_,_,rfl⟩
 obtain ⟨z5,o5⟩:=Zbt o4 e5
 obtain ⟨t6,e6⟩ : ∃ u,(if ZbF fm=true then t5 else bad t5)=u:=⟨_,rfl⟩
 have o6:okT t6:=by rw [←e6];split <;> exact o5
 obtain ⟨s7,t7,e7⟩ : ∃ a b,ZaW t6=(a,b):=⟨_,_,rfl⟩
 obtain ⟨z7,o7⟩:=Zbt o6 e7
 obtain ⟨y,t8,e8⟩ : ∃ a b,tNum s7 4 4 t7=(a,b):=⟨_,_,rfl⟩
 have o8:=ZkK o7 e8
 obtain ⟨m,t9,e9⟩ : ∃ a b,ZdQ t8=(a,b):=⟨_,_,rfl⟩
 have o9:=Zim o8 e9
 obtain ⟨s10,t10,e10⟩ : ∃ a b,ZaW t9=(a,b):=⟨_,_,rfl⟩
 obtain ⟨z10,o10⟩:=Zbt o9 e10
 obtain ⟨d,t11,e11⟩ : ∃ a b,tNum s10 1 2 t10=(a,b):=⟨_,_,rfl⟩
 have o11:=ZkK o10 e11
 obtain ⟨c,t12,e12⟩ : ∃ a b,Zdi 2 t11=(a,b):=⟨_,_,rfl⟩
 have o12:=Zin o11 e12
 have hU:Zho t6=(((y,m,d),c.1,c.2),if c.2=1 then bad t12 else t12):=by
  simp only [Zho,Zch,ret2,ZqO,tDay,ZqP,e7,e8,e9,e10,e11,e12]
 have hR:tEra t=((sh,rl,sa,fm,(tEnd t6).1.1,(tEnd t6).1.2),(tEnd t6).2):=by
  simp only [tEra,Zch,ret2,ZqR,Zh6,e2,e3,e4,e5,e6]
 refine tJ' k133 fun N hn hlt hlA hbd=>?_
 simp only [tb'] at hbd ⊢
 refine ZdV (h1:=h.set id (takE t)++[]) (by rw [Zc8 h1]) ?_
 refine wr'<|E' (Za6 (hl0 (Zao hn)) ha0) pt<|sn'<|wr'<|E' (Za6 (hl1 (Zao hn)) ha1) pt<|sn'<|wr'<|mv' lk pt<|ZaT mp (Zds e1 (Za9 hid)) (ZaP hid) pt<|?_
 refine mv' lk pt<|sn'<|?_
 refine ZnS (ι:=Unit) (fun (u:Unit)=>[]++rn' 10 17) (fun (u:Unit)=>h.set id (takE t2)++[.mk 0 67 10 eraZ,.mk 0 67 10 [iv sh,sv ⟨#[]⟩,iv 0,sv ⟨#[]⟩,bv false,iv 0,iv 0,iv 0,iv 0,iv 0]]) (fun (u:Unit)=>True) ?_ ?_
 ·try simp only [sm',Nat.reduceAdd]
  refine wr'<|mv' lk pt<|V' (Zb5 lk lks) pt<|mv' lk pt<|?_
  refine sp' (t:=12) gt pt pt (fun hg12=>?_) (fun hg12=>?_)
  ·have hn1:s1.size≠0:=fun e=>hg12 (hem1.2 e)
   refine s_do gt<|mv' lk pt<|s_do gt<|?_
   refine V' (v_ix lk lki (by omega) (by omega)) pt ?_
   refine s_do gt<|V' (ZaN lk lki) pt<|V' (Zai lk lk) pt<|sn'<|?_
   refine cd' lk (fun hc1=>?_) (fun hc1=>?_)
   ·have hc:s1.size≠0∧ZhD s1=45:=⟨fun e=>hg12 (hem1.2 e),hc1⟩
    obtain ⟨n,u2,f2⟩ : ∃ a b,ZbN (s1.extract 1 s1.size) t1=(a,b):=⟨_,_,rfl⟩
    have hb2:=tSpan_bd (s:=s1.extract 1 s1.size) (t:=t1)
    rw [f2] at hb2
    replace hb2:0≤n∧n<1000000000:=hb2
    have hq:sh = -n∧t2=u2:=by unfold Zgf at e2;rw [e1,if_pos hc,f2] at e2;cases e2;exact ⟨rfl,rfl⟩
    obtain ⟨rfl,rfl⟩:=hq
    refine Zat<|mv' lk pt<|mv' lk pt<|?_
    refine V' (Zdr lk (oi lki) on_ (by omega) (by omega) (by omega)) pt ?_
    refine ZaT mp (ZgT (by rw [ByteArray.size_extract];omega) f2 (Za9 hid)) (ZaP hid) pt ?_
    refine V' (v_neg lk (by omega) (by omega)) pt ?_
    refine V' (Zac lk) pt<|E' (Zal lk (cvl lk rfl) (hga (Zao hn) rfl) rfl (nb' rfl) rfl ZfD (hs1 (Zao hn))) ptn<|Zaq<|ZaB<|?_
    exact cT' (()) (by trivial)
   have hc:¬(s1.size≠0∧ZhD s1=45):=fun e=>hc1 e.2
   have f2:ZbN s1 t1=(sh,t2):=by unfold Zgf at e2;rw [e1,if_neg hc] at e2;exact e2
   refine Zat<|mv' lk pt<|mv' lk pt<|ZaT mp (ZgT z1 f2 (Za9 hid)) (ZaP hid) pt<|V' (Zac lk) pt<|E' (Zal lk (cvl lk rfl) (hga (Zao hn) rfl) rfl (nb' rfl) rfl ZfD (hs1 (Zao hn))) ptn<|Zaq<|ZaB<|?_
   exact cT' (()) (by trivial)
  have hc:¬(s1.size≠0∧ZhD s1=45):=fun e=>e.1 (hem1.1 (Decidable.of_not_not hg12))
  have f2:ZbN s1 t1=(sh,t2):=by unfold Zgf at e2;rw [e1,if_neg hc] at e2;exact e2
  refine s_no gt pt<|s_no gt pt<|s_no gt pt<|V' (Zak lk lkb) pt<|sn'<|ZaR lk<|Zat<|mv' lk pt<|mv' lk pt<|ZaT mp (ZgT z1 f2 (Za9 hid)) (ZaP hid) pt<|V' (Zac lk) pt<|E' (Zal lk (cvl lk rfl) (hga (Zao hn) rfl) rfl (nb' rfl) rfl ZfD (hs1 (Zao hn))) ptn<|Zaq<|?_
  refine ZaB ?_
  exact cT' (()) (by trivial)
 rintro u hq5
 try simp only [sm',Nat.reduceAdd]
 refine wr'<|mv' lk pt<|ZaT mp (Zds e3 (Za9 hid)) (ZaP hid) pt<|mv' lk pt<|sn'<|?_
 refine ZnS (ι:=Unit) (fun (u:Unit)=>[]++rn' 29 28) (fun (u:Unit)=>h.set id (takE t4)++[.mk 0 67 10 eraZ,.mk 0 67 10 [iv sh,sv rl,iv sa,sv ⟨#[]⟩,bv false,iv 0,iv 0,iv 0,iv 0,iv 0]]) (fun (u:Unit)=>True) ?_ ?_
 ·try simp only [sm',Nat.reduceAdd]
  refine Zan<|wr'<|mv' lk pt<|V' (Zci lk lks) pt<|mv' lk pt<|sn'<|?_
  refine cd' lk (fun hc2=>?_) (fun hc2=>?_)
  ·have hq:sa=0∧rl=⟨#[]⟩∧t4=t3:=by rw [Zd9,if_pos (show s3=bA [45] from hc2)] at e4;cases e4;exact ⟨rfl,rfl,rfl⟩
   obtain ⟨rfl,rfl,rfl⟩:=hq
   refine Zad<|Zay<|ZaB<|?_
   exact cT' (()) (by trivial)
  rw [Zd9,if_neg (show ¬s3=bA [45] from hc2)] at e4
  have hbz:=Zfh s3 0
  refine wr'<|mv' lk pt<|V' (Zb5 lk lks) pt<|mv' lk pt<|?_
  refine sp' (t:=43) gt pt pt (fun hg43=>?_) (fun hg43=>?_)
  ·have hn3:s3.size≠0:=fun e=>hg43 (hem3.2 e)
   refine s_do gt<|mv' lk pt<|s_do gt<|?_
   refine V' (v_ix lk lki (by omega) (by omega)) pt ?_
   refine s_do gt<|Zae mp (Zek hbz.1 hbz.2) pt<|V' (Zai lk lk) pt<|mv' lk pt<|sn'<|?_
   refine Zaw lk (fun hc3=>?_) (fun hc3=>?_)
   ·have hc:s3.size≠0∧digB (ZhD s3)=true:=⟨fun e=>hg43 (hem3.2 e),hc3⟩
    rw [if_pos hc] at e4
    refine Zah<|wr'<|mv' lk pt<|V' (Zci lk lks) pt<|sn'<|?_
    refine cd' lk (fun hc4=>?_) (fun hc4=>?_)
    ·rw [if_pos (show s3=bA [48] from hc4)] at e4
     have hsp:ZbN s3 (bad t3)=(sa,t4):=by cases e4;rfl
     have hrl:rl=⟨#[]⟩:=by cases e4;rfl
     subst hrl
     refine Zat<|mv' lk pt<|V' (Zct lk) pt<|V' (Zac lk) pt<|E' (Zal lk (cvl lkb rfl) (Za9 hid) rfl (nb' rfl) rfl ZbY (ZaP hid)) ptn<|sn'<|Zat<|mv' lk pt<|mv' lk pt<|ZaT mp (ZgT z3 hsp (Za9 hid)) (ZaP hid) pt<|V' (Zac lk) pt<|E' (Zal lk (cvl lk rfl) (hga (Zao hn) rfl) rfl (nb' rfl) rfl Zer (hs1 (Zao hn))) ptn<|Zaq<|?_
     refine Zay<|ZaB<|?_
     exact cT' (()) (by trivial)
    rw [if_neg (show ¬s3=bA [48] from hc4)] at e4
    have hsp:ZbN s3 t3=(sa,t4):=by cases e4;rfl
    have hrl:rl=⟨#[]⟩:=by cases e4;rfl
    subst hrl
    refine Zad<|Zaf<|Zat<|mv' lk pt<|mv' lk pt<|ZaT mp (ZgT z3 hsp (Za9 hid)) (ZaP hid) pt<|V' (Zac lk) pt<|E' (Zal lk (cvl lk rfl) (hga (Zao hn) rfl) rfl (nb' rfl) rfl Zer (hs1 (Zao hn))) ptn<|Zaq<|Zay<|ZaB<|?_
    exact cT' (()) (by trivial)
   have hc:¬(s3.size≠0∧digB (ZhD s3)=true):=fun e=>by have:=e.2;rw [show digB (ZhD s3)=false from hc3] at this;cases this
   refine Zah<|wr'<|mv' lk pt<|?_
   rw [if_neg hc] at e4
   refine Zae mp (Zdk (by unfold maxLen;omega)) pt ?_
   refine V' (ZaC lk) pt<|sn'<|?_
   refine Zaw lk (fun hc5=>?_) (fun hc5=>?_)
   ·have hnm:¬ZcF s3=true:=by simpa using hc5
    rw [if_neg hnm] at e4
    have hq:sa=0∧rl=s3∧t4=bad t3:=by cases e4;exact ⟨rfl,rfl,rfl⟩
    obtain ⟨rfl,rfl,rfl⟩:=hq
    refine Zat<|mv' lk pt<|V' (Zct lk) pt<|V' (Zac lk) pt<|E' (Zal lk (cvl lkb rfl) (Za9 hid) rfl (nb' rfl) rfl ZbY (ZaP hid)) ptn<|sn'<|Zat<|mv' lk pt<|V' (Zac lk) pt<|E' (Zal lk (cvl lk rfl) (hga (Zao hn) rfl) rfl (nb' rfl) rfl ZbY (hs1 (Zao hn))) ptn<|Zaq<|Zay<|ZaB<|?_
    exact cT' (()) (by trivial)
   have hnm:ZcF s3=true:=by simpa using hc5
   rw [if_pos hnm] at e4
   have hq:sa=0∧rl=s3∧t4=t3:=by cases e4;exact ⟨rfl,rfl,rfl⟩
   obtain ⟨rfl,rfl,rfl⟩:=hq
   refine Zad<|Zaf<|Zat<|mv' lk pt<|V' (Zac lk) pt<|E' (Zal lk (cvl lk rfl) (hga (Zao hn) rfl) rfl (nb' rfl) rfl ZbY (hs1 (Zao hn))) ptn<|Zaq<|Zay<|ZaB<|?_
   exact cT' (()) (by trivial)
  have hc:¬(s3.size≠0∧digB (ZhD s3)=true):=fun e=>e.1 (hem3.1 (Decidable.of_not_not hg43))
  refine s_no gt pt<|s_no gt pt<|s_no gt pt<|V' (Zak lk lkb) pt<|mv' lk pt<|sn'<|ZaR lk<|Zah<|wr'<|mv' lk pt<|?_
  rw [if_neg hc] at e4
  refine Zae mp (Zdk (by unfold maxLen;omega)) pt ?_
  refine V' (ZaC lk) pt<|sn'<|?_
  refine Zaw lk (fun hc5=>?_) (fun hc5=>?_)
  ·have hnm:¬ZcF s3=true:=by simpa using hc5
   rw [if_neg hnm] at e4
   have hq:sa=0∧rl=s3∧t4=bad t3:=by cases e4;exact ⟨rfl,rfl,rfl⟩
   obtain ⟨rfl,rfl,rfl⟩:=hq
   refine Zat<|mv' lk pt<|V' (Zct lk) pt<|V' (Zac lk) pt<|E' (Zal lk (cvl lkb rfl) (Za9 hid) rfl (nb' rfl) rfl ZbY (ZaP hid)) ptn<|sn'<|Zat<|mv' lk pt<|V' (Zac lk) pt<|E' (Zal lk (cvl lk rfl) (hga (Zao hn) rfl) rfl (nb' rfl) rfl ZbY (hs1 (Zao hn))) ptn<|Zaq<|Zay<|ZaB<|?_
   exact cT' (()) (by trivial)
  have hnm:ZcF s3=true:=by simpa using hc5
  rw [if_pos hnm] at e4
  have hq:sa=0∧rl=s3∧t4=t3:=by cases e4;exact ⟨rfl,rfl,rfl⟩
  obtain ⟨rfl,rfl,rfl⟩:=hq
  refine Zad<|Zaf<|Zat<|mv' lk pt<|V' (Zac lk) pt<|E' (Zal lk (cvl lk rfl) (hga (Zao hn) rfl) rfl (nb' rfl) rfl ZbY (hs1 (Zao hn))) ptn<|Zaq<|Zay<|ZaB<|?_
  exact cT' (()) (by trivial)
 rintro u hq13
 try simp only [sm',Nat.reduceAdd]
 refine wr'<|mv' lk pt<|ZaT mp (Zds e5 (Za9 hid)) (ZaP hid) pt<|V' (Zac lk) pt<|E' (Zal lk (cvl lk rfl) (hga (Zao hn) rfl) rfl (nb' rfl) rfl Zj9 (hs1 (Zao hn))) ptn<|sn'<|?_
 refine ZnS (ι:=Unit) (fun (u:Unit)=>[]++rn' 60 7) (fun (u:Unit)=>h.set id (takE t6)++[.mk 0 67 10 eraZ,.mk 0 67 10 [iv sh,sv rl,iv sa,sv fm,bv false,iv 0,iv 0,iv 0,iv 0,iv 0]]) (fun (u:Unit)=>True) ?_ ?_
 ·try simp only [sm',Nat.reduceAdd]
  refine wr'<|V' (Zac lk) pt<|V' (Zab lk (hga (Zao hn) rfl) gt3) pt<|?_
  refine Zae mp (ZfU (by unfold maxLen;omega)) pt ?_
  refine V' (ZaC lk) pt<|sn'<|?_
  refine Zaw lk (fun hc6=>?_) (fun hc6=>?_)
  ·have hq:t6=bad t5:=by rw [←e6,if_neg (by simpa using hc6)]
   subst hq
   refine Zat<|mv' lk pt<|V' (Zct lk) pt<|V' (Zac lk) pt<|E' (Zal lk (cvl lkb rfl) (Za9 hid) rfl (nb' rfl) rfl ZbY (ZaP hid)) ptn<|Zaq<|ZaB<|?_
   exact cT' (()) (by trivial)
  have hq:t6=t5:=by rw [←e6,if_pos (by simpa using hc6)]
  subst hq
  refine Zad<|ZaB<|?_
  exact cT' (()) (by trivial)
 rintro u hq16
 try simp only [sm',Nat.reduceAdd]
 refine Zah<|wr'<|mv' lk pt<|V' (Zct lk) pt<|V' (Zac lk) pt<|V' (Zab lk (Za9 hid) gt0) pt<|V' (ZaI lk) pt<|V' (ZaN lk lki) pt<|sn'<|?_
 refine cd' lk (fun hc7=>?_) (fun hc7=>?_)
 ·have hE:tEnd t6=((true,untZ),t6):=by unfold tEnd;rw [if_pos (List.eq_nil_of_length_eq_zero (by omega))]
  rw [hE] at hR
  refine wr'<|V' (Zac lk) pt<|E' (Zal lk (cvl lkb rfl) (hga (Zao hn) rfl) rfl (nb' rfl) rfl Zp2 (hs1 (Zao hn))) ptn<|sn'<|wr'<|V' (Zap lk (hga (Zao hn) rfl) Zdg rfl) pt<|E' (Zal lk (cvl lk rfl) (hga (Zao hn) rfl) rfl (nb' rfl) rfl Zf7 (hs0 (Zao hn))) ptn<|sn'<|Zaa<|Zaj<|?_
  refine Zag (rs1 (rr_c gt (hga (Zao hn) rfl) (ld1 Zdg rfl))) ?_
  exact ⟨_,_,rfl,Zao hn,Zb8 hlt ZaQ,rfl,by rw [hR] <;> rfl,by rw [hR] <;> rfl⟩
 have hE:tEnd t6=((false,(Zho t6).1),(Zho t6).2):=by unfold tEnd;rw [if_neg (by intro e;rw [e] at hc7;exact hc7 rfl)]
 rw [hE,hU] at hR
 refine Zad<|Zaf<|wr'<|mv' lk pt<|mv' lk pt<|ZaT mp (Zds e7 (Za9 hid)) (ZaP hid) pt<|?_
 refine ZaT mp (Zn1 (by omega) e8 (Za9 hid)) (ZaP hid) pt ?_
 refine mv' lk pt<|sn'<|wr'<|mv' lk pt<|ZaT mp (Zn2 e9 (Za9 hid)) (ZaP hid) pt<|mv' lk pt<|sn'<|wr'<|mv' lk pt<|mv' lk pt<|?_
 refine ZaT mp (Zds e10 (Za9 hid)) (ZaP hid) pt ?_
 refine ZaT mp (Zn1 (by omega) e11 (Za9 hid)) (ZaP hid) pt ?_
 refine mv' lk pt<|sn'<|wr'<|mv' lk pt<|mv' lk pt<|mv' lk pt<|V' (ZaA (Zlf (cvl lk rfl) rfl (cvl lk rfl) rfl (cvl lk rfl) rfl)) pt<|V' (Zac lk) pt<|V' (Zbg lk) pt<|E' (Zal lk (cvl lk rfl) (hga (Zao hn) rfl) rfl (nb' rfl) rfl Zp0 (hs1 (Zao hn))) ptn<|sn'<|?_
 refine wr'<|mv' lk pt<|ZaT mp (Zn4 (.inr rfl) o11 e12 (Za9 hid)) (ZaP hid) pt<|mv' lk pt<|V' (Za7 lk gt) pt<|V' (Za7 lk gt) pt<|V' (Zac lk) pt<|V' (Zbg lk) pt<|E' (Zal lk (cvl lk rfl) (hga (Zao hn) rfl) rfl (nb' rfl) rfl Zj8 (hs1 (Zao hn))) ptn<|V' (Zac lk) pt<|V' (Zbg lk) pt<|E' (Zal lk (cvl lk rfl) (hga (Zao hn) rfl) rfl (nb' rfl) rfl Zj7 (hs1 (Zao hn))) ptn<|Zaq<|?_
 refine Zaf<|Zah<|wr'<|V' (Zac lk) pt<|V' (Zbg lk) pt<|V' (Zab lk (hga (Zao hn) rfl) gt9) pt<|V' (ZaN lk lki) pt<|sn'<|?_
 refine cd' lk (fun hc8=>?_) (fun hc8=>?_)
 ·rw [if_pos hc8] at hR
  refine Zat<|mv' lk pt<|V' (Zct lk) pt<|V' (Zac lk) pt<|E' (Zal lk (cvl lkb rfl) (Za9 hid) rfl (nb' rfl) rfl ZbY (ZaP hid)) ptn<|sn'<|wr'<|V' (Zap lk (hga (Zao hn) rfl) Zdg rfl) pt<|E' (Zal lk (cvl lk rfl) (hga (Zao hn) rfl) rfl (nb' rfl) rfl Zf7 (hs0 (Zao hn))) ptn<|sn'<|Zaa<|?_
  refine Zag (rs1 (rr_c gt (hga (Zao hn) rfl) (ld1 Zdg rfl))) ?_
  exact ⟨_,_,rfl,Zao hn,Zb8 hlt ZaQ,rfl,by rw [hR] <;> rfl,by rw [hR] <;> rfl⟩
 rw [if_neg hc8] at hR
 refine Zad<|Zaf<|wr'<|V' (Zap lk (hga (Zao hn) rfl) Zdg rfl) pt<|E' (Zal lk (cvl lk rfl) (hga (Zao hn) rfl) rfl (nb' rfl) rfl Zf7 (hs0 (Zao hn))) ptn<|sn'<|Zaa<|Zag (rs1 (rr_c gt (hga (Zao hn) rfl) (ld1 Zdg rfl)))<|?_
 exact ⟨_,_,rfl,Zao hn,Zb8 hlt ZaQ,rfl,by rw [hR] <;> rfl,by rw [hR] <;> rfl⟩
end Go.Proofs.YthdifaphoaekoaaGreatDoor
end
section
namespace Go.Proofs.YthdifaphoaekoaaGreatDoor
open Go.Ab
theorem Zrp (s:ByteArray):ZbU s=if (Zcc s).2.2≠0 then (srcZ,(Zcc s).2.1,(Zcc s).2.2) else outP (Zcc s).1:=rfl
end Go.Proofs.YthdifaphoaekoaaGreatDoor
end
section
namespace Go.Proofs.YthdifaphoaekoaaGreatDoor
open Go.Ab Go.RowKit
def badN (n:Int):Bool:=!plnN n||decide (n=34)
def ZfM (f:ByteArray):Int:=if (aB f).any (fun c=>badN c.toNat)=true then 1 else if 24<f.size then 2 else 0
def ZjG:List ByteArray→Int
 | []=>0
 | f::fs=>if ZfM f≠0 then ZfM f else ZjG fs
def Zpj (fs:List ByteArray):Int:=if fs.length=0 then 1 else if 12<fs.length then 2 else ZjG fs
end Go.Proofs.YthdifaphoaekoaaGreatDoor
end
section
namespace Go.Proofs.YthdifaphoaekoaaGreatDoor
open Go.Ab
theorem ZkB {p:Int→Bool} : ∀ {l:Bs}{n:Nat},runL p l=some n → ∀ c∈l.take n,p c.toNat=true∧plnN c.toNat=true
 | [],n,h,c,hc=>by simp at hc
 | x::l,n,h,c,hc=>by
  unfold runL at h
  split at h
  ·rename_i hp
   split at h
   ·rename_i hq
    rw [Option.map_eq_some_iff] at h
    obtain ⟨m,hm,rfl⟩:=h
    rw [List.take_succ_cons] at hc
    rcases List.mem_cons.1 hc with rfl | hc
    ·exact ⟨hp,hq⟩
    ·exact ZkB hm c hc
   ·cases h
  ·cases h;simp at hc
theorem ZoQ {n:Int}:badN n=false↔plnN n=true∧n≠34:=by
 unfold badN;simp
theorem Znf {l:Bs}{x:Nat×Nat×Nat}(h:Zc3 l=some x) : ∀ c∈(l.drop x.1).take x.2.1,badN c.toNat=false:=by
 cases l with
 | nil=>cases h
 | cons c l =>
  by_cases hc:(c.toNat:Int)=34
  ·rw [Zc3,if_pos hc] at h
   cases hr:runL quoP l with
   | none=>rw [hr] at h;cases h
   | some n =>
    have:=ZkB hr
    rw [hr] at h
    simp only at h
    split at h
    ·cases h
    ·split at h
     ·cases h
     ·cases h
      intro y hy
      have:=this y (by simpa using hy)
      exact ZoQ.2 ⟨this.2,by have:=this.1;unfold quoP at this;simpa using this⟩
  ·rw [Zc3,if_neg hc] at h
   cases hr:runL fldP (c::l) with
   | none=>rw [hr] at h;cases h
   | some n =>
    have:=ZkB hr
    rw [hr] at h
    simp only at h
    split at h
    ·cases h
    ·cases h
     intro y hy
     have:=this y (by simpa using hy)
     exact ZoQ.2 ⟨this.2,by have:=this.1;unfold fldP at this;simp at this;exact this.2⟩
theorem Zng {f:ByteArray}(h1 : ∀ c∈aB f,badN c.toNat=false) (h2:f.size≤24):ZfM f=0:=by
 unfold ZfM
 rw [if_neg,if_neg (by omega)]
 rw [List.any_eq_true]
 rintro ⟨c,hc,hb⟩
 rw [h1 c hc] at hb;cases hb
theorem Zps {f:ByteArray}(h:ZfM f=0):(∀ c∈aB f,badN c.toNat=false)∧f.size≤24:=by
 unfold ZfM at h
 split at h
 ·cases h
 ·rename_i h1
  split at h
  ·cases h
  ·refine ⟨fun c hc=>?_,by omega⟩
   cases hb:badN c.toNat
   ·rfl
   ·exact absurd (List.any_eq_true.2 ⟨c,hc,hb⟩) h1
theorem ZjD : ∀ {k:Nat}{acc:List ByteArray}{l:Bs},(∀ f∈acc,ZfM f=0)→acc.length≤12→(Zi9 k acc l).2=0→(∀ f∈(Zi9 k acc l).1,ZfM f=0)∧(Zi9 k acc l).1.length≤12
 | 0,acc,l,h1,h2,_=>⟨h1,h2⟩
 | k+1,acc,l,h1,h2,h3=>by
  rw [Zi9] at h3 ⊢
  split at h3
  ·rename_i hm
   rw [if_pos hm]
   split at h3
   ·cases h3
   ·rename_i x hx
    split at h3
    ·cases h3
    ·rename_i hn
     rw [if_neg hn]
     refine ZjD (fun f hf=>?_) (by simp;omega) h3
     rcases List.mem_append.1 hf with hf | hf
     ·exact h1 f hf
     ·rw [List.mem_singleton] at hf
      subst hf
      refine Zng (fun c hc=>Znf hx c hc) ?_
      unfold cutF
      rw [Zed,List.length_take];omega
  ·rename_i hm
   rw [if_neg hm]
   exact ⟨h1,h2⟩
theorem Zpi {x:Bs}(h:(ZdX x).2=0) (hne:(ZdX x).1≠[]):Zpj (ZdX x).1=0:=by
 obtain ⟨h1,h2⟩:=ZjD (k:=13) (acc:=[]) (l:=x) (fun f hf=>by simp at hf) (by simp) h
 unfold Zpj
 have:0<(ZdX x).1.length:=List.length_pos_iff.2 hne
 rw [if_neg (by omega),if_neg (by show ¬12<(Zi9 13 [] x).1.length;omega)]
 have : ∀ {fs:List ByteArray},(∀ f∈fs,ZfM f=0)→ZjG fs=0:=by
  intro fs
  induction fs with
  | nil=>intro _;rfl
  | cons f fs ih =>
   intro h
   rw [ZjG,if_neg (by rw [h f (by simp)];simp)]
   exact ih fun g hg=>h g (by simp [hg])
 exact this h1
theorem Zjw : ∀ {n:Int}{l:List Bs}{acc:List Ln},(ZcD n l acc).2.2≠0→(ZcD n l acc).1=[]
 | n,[],acc,h=>absurd rfl h
 | n,x::xs,acc,h=>by
  rw [ZcD] at h ⊢
  split at h
  ·rename_i h1;rw [if_pos h1]
  ·rename_i h1;rw [if_neg h1];exact Zjw h
theorem Ziq : ∀ {n:Int}{l:List Bs}{acc:List Ln},(∀ x∈acc,Zpj x.2.2=0) → ∀ x∈(ZcD n l acc).1,Zpj x.2.2=0
 | n,[],acc,h=>h
 | n,y::ys,acc,h=>by
  rw [ZcD]
  split
  ·intro x hx;simp at hx
  ·rename_i h1
   refine Ziq fun x hx=>?_
   split at hx
   ·exact h x hx
   ·rename_i h2
    rcases List.mem_append.1 hx with hx | hx
    ·exact h x hx
    ·rw [List.mem_singleton] at hx
     subst hx
     exact Zpi (Decidable.of_not_not h1) h2
theorem ZmM {s:ByteArray} : ∀ x∈(Zcc s).1,Zpj x.2.2=0:=by
 have:=Ziq (n:=1) (l:=cutC 10 (aB s)) (acc:=[]) (fun x hx=>by simp at hx)
 unfold Zcc
 split
 ·intro x hx;simp at hx
 ·split
  ·exact this
  ·split
   ·intro x hx;simp at hx
   ·exact this
end Go.Proofs.YthdifaphoaekoaaGreatDoor
end
section
namespace Go.Proofs.YthdifaphoaekoaaGreatDoor
open Go.Ab Go.RowKit Civ
def PT {α:Type}(f:TS→α×TS) (P:α→Prop):Prop := ∀ t,okT t→P (f t).1∧okT (f t).2
theorem PT.bind {α β:Type}{f:TS→α×TS}{k:α→TS→β×TS}{P:α→Prop}{Q:β→Prop}(h:PT f P) (hk : ∀ a,P a→PT (k a) Q):PT (Zch f k) Q:=fun t ho=>hk _ (h t ho).1 _ (h t ho).2
theorem PT.ret {α:Type}{P:α→Prop}{a:α}(h:P a):PT (ret2 a) P:=fun t ho=>⟨h,ho⟩
theorem pt_next:PT ZaW (fun s=>s.size≤24):=fun t ho=>Zbt ho rfl
theorem pt_name:PT Ze2 (fun s=>s.size≤24):=fun t ho=>⟨(Zbt ho (s:=(ZaW t).1) (u:=(ZaW t).2) rfl).1,ZhR ho rfl⟩
theorem pt_num (s:ByteArray) (a b:Int):PT (tNum s a b) (fun _=>True):=fun t ho=>⟨trivial,ZkK ho rfl⟩
theorem pt_year:PT ZqO (fun _=>True):=pt_next.bind (k:=fun s=>tNum s 4 4) fun s _=>pt_num s 4 4
theorem pt_day:PT tDay (fun _=>True):=pt_next.bind (k:=fun s=>tNum s 1 2) fun s _=>pt_num s 1 2
theorem pt_to (f:Int):PT (tToN f) (fun _=>True):=pt_next.bind (k:=tTo f) fun s _=>fun t ho=>⟨trivial,okT_to ho rfl⟩
theorem pt_month:PT ZdQ (fun _=>True):=fun t ho=>⟨trivial,Zim ho rfl⟩
theorem pt_form:PT ZgW (fun _=>True):=fun t ho=>⟨trivial,Zog ho rfl⟩
theorem Zoc (d:Int):PT (Zdi d) (fun _=>True):=fun t ho=>⟨trivial,Zin ho rfl⟩
theorem pt_span:PT ZqQ (fun _=>True):=pt_next.bind (k:=ZbN) fun s _=>fun t ho=>⟨trivial,ZkJ ho rfl⟩
theorem pt_letter:PT Zdu (fun s=>s.size≤24):=by
 intro t ho
 have h:=Zbt ho (s:=(ZaW t).1) (u:=(ZaW t).2) rfl
 unfold Zdu
 refine ⟨?_,?_⟩
 ·dsimp only;split
  ·decide
  ·exact h.1
 ·dsimp only;split
  ·exact h.2
  ·exact h.2
def okRul (r:Rul):Prop:=r.1.size≤maxLen∧r.2.2.2.2.2.2.2.2.size≤maxLen
theorem Zir {n:Nat}(h:n≤24):n≤maxLen:=by unfold maxLen;omega
theorem pt_rule:PT Zkr okRul :=
 pt_name.bind fun nm h1=>pt_year.bind fun f _=>(pt_to f).bind fun _ _=>pt_month.bind fun m _=>pt_form.bind fun k _=>(Zoc 1).bind fun c _=>pt_span.bind fun sv _=>pt_letter.bind fun l h2=>PT.ret ⟨Zir h1,Zir h2⟩
theorem pt_shift:PT Zgf (fun _=>True):=fun t ho=>⟨trivial,ZlL ho rfl⟩
theorem pt_rules:PT ZqR (fun p=>p.2.size≤24):=by
 refine pt_next.bind (k:=Zd9) fun s hs t ho=>⟨?_,ZlM ho rfl⟩
 unfold Zd9
 split
 ·exact Nat.zero_le 24
 ·split
  ·exact Nat.zero_le 24
  ·exact hs
theorem pt_format:PT Zh6 (fun s=>s.size≤24):=by
 intro t ho
 have h:=Zbt ho (s:=(ZaW t).1) (u:=(ZaW t).2) rfl
 unfold Zh6
 refine ⟨h.1,?_⟩
 dsimp only;split
 ·exact h.2
 ·exact h.2
theorem pt_until:PT Zho (fun _=>True) :=
 pt_year.bind fun y _=>pt_month.bind fun m _=>pt_day.bind fun d _=>(Zoc 2).bind fun c _=>PT.bind (P:=fun _=>True) (fun t ho=>⟨trivial,by unfold ZqP;dsimp only;split <;> exact ho⟩) fun _ _=>PT.ret trivial
theorem pt_end:PT tEnd (fun _=>True):=by
 intro t ho
 refine ⟨trivial,?_⟩
 unfold tEnd
 split
 ·exact ho
 ·exact (pt_until t ho).2
theorem pt_era:PT tEra Zru :=
 pt_shift.bind fun sh _=>pt_rules.bind fun r h1=>pt_format.bind fun f h2=>pt_end.bind fun u _=>PT.ret ⟨Zir h1,Zir h2⟩
theorem ZlN {s:Src}{x:Era}(h:Zeb s) (hx:Zru x):Zeb (ZcJ s x).1:=by
 refine ⟨h.1,?_,h.2.2⟩
 show ∀ z∈ZoU s.2.1 x,_
 obtain ⟨a,z,l⟩:=s
 have h2:=h.2.1
 simp only at h2 ⊢
 rcases List.eq_nil_or_concat z with rfl | ⟨i,y,rfl⟩
 ·intro z hz;cases hz
 ·rw [List.concat_eq_append,Zf5]
  intro z hz
  rcases List.mem_append.1 hz with hz | hz
  ·exact h2 z (by rw [List.concat_eq_append];exact List.mem_append_left _ hz)
  ·rw [List.mem_singleton] at hz
   subst hz
   have hy:=h2 y (by rw [List.concat_eq_append];simp)
   refine ⟨hy.1,fun e he=>?_⟩
   rcases List.mem_append.1 he with he | he
   ·exact hy.2 e he
   ·rw [List.mem_singleton] at he;subst he;exact hx
theorem pt_body {p:PS}(h:Zeb p.1):PT (ZeM p) (fun q=>Zeb q.1):=by
 unfold ZeM
 split
 ·exact pt_era.bind fun x hx=>PT.ret (ZlN h hx)
 ·refine pt_next.bind fun w _=>?_
  split
  ·refine pt_rule.bind fun r hr=>PT.ret ⟨fun y hy=>?_,h.2.1,h.2.2⟩
   rcases List.mem_append.1 hy with hy | hy
   ·exact h.1 y hy
   ·rw [List.mem_singleton] at hy;subst hy;exact hr
  ·split
   ·refine pt_name.bind fun n hn=>pt_era.bind fun x hx=>PT.ret (ZlN ⟨h.1,fun y hy=>?_,h.2.2⟩ hx)
    rcases List.mem_append.1 hy with hy | hy
    ·exact h.2.1 y hy
    ·rw [List.mem_singleton] at hy;subst hy;exact ⟨Zir hn,fun e he=>by cases he⟩
   ·split
    ·refine pt_name.bind fun a ha=>pt_name.bind fun b hb=>PT.ret ⟨h.1,h.2.1,fun y hy=>?_⟩
     rcases List.mem_append.1 hy with hy | hy
     ·exact h.2.2 y hy
     ·rw [List.mem_singleton] at hy;subst hy;exact ⟨Zir ha,Zir hb⟩
    ·exact fun t ho=>⟨h,ho⟩
theorem Zbe {p q:PS}{x:Ln}{u:TS}(hB:ZeM p (x.2.2,false)=(q,u)) (h:u.2=true∨u.1≠[]∨x.2.1≠p.2):ZlU p x=none:=ZrL (by unfold badT;rw [hB];exact h)
theorem ZdG {p q:PS}{x:Ln}{u:TS}(hB:ZeM p (x.2.2,false)=(q,u)) (h1:u.2=false) (h2:u.1=[]) (h3:x.2.1=p.2):ZlU p x=some q:=by
 have:=lineR_ok (p:=p) (x:=x) (by unfold badT;rw [hB];simp [h1,h2,h3])
 rw [this,hB]
def curS (s:Src) (o:Option Zon):Src:=(s.1,s.2.1++o.toList,s.2.2)
theorem Zfb {s:Src}:curS s none=s:=by unfold curS;simp
def zC (N v:Nat):Option Zon→List AV
 | none=>[]
 | some z=>[sv z.1,.own (N+5) v z.2.length]
def eC:Option Zon→List Era
 | none=>[]
 | some z=>z.2
theorem ZrG {n:Nat}{b:List AV}(hb:AV.ltL n b=true) : ∀ {a:List AV},AV.ltL n a=true→AV.ltL n (a++b)=true
 | [],_=>hb
 | x::a,h=>by
  simp only [List.cons_append,AV.ltL,Bool.and_eq_true] at h ⊢
  exact ⟨h.1,ZrG hb h.2⟩
theorem ZgQ {N v:Nat}{l:List Zon}{o:Option Zon}:AV.ltL (N+6) (rows zonC l++zC N v o)=true:=by
 refine ZrG ?_ (ZbD l)
 cases o <;> simp [zC,AV.ltL,AV.lt]
theorem Zli {N v:Nat}{l:List Zon}{o:Option Zon}:(rows zonC l++zC N v o).length=(l.length+o.toList.length)*2:=by
 rw [List.length_append,ZgP]
 cases o <;> simp [zC] <;> omega
theorem zc_at {l:List Zon}{a b:AV}{off:Nat}(h:off=l.length*2+1):(rows zonC l++[a,b])[off]?=some b:=by
 subst h
 rw [List.getElem?_append_right (by rw [ZgP];omega),ZgP,Nat.add_sub_cancel_left];rfl
theorem zc_set {l:List Zon}{a b c:AV}{off:Nat}(h:off=l.length*2+1):setCells (rows zonC l++[a,b]) off [c]=rows zonC l++[a,c]:=by
 subst h
 simp only [setCells]
 rw [List.set_append_right _ _ (by rw [ZgP];omega),ZgP,Nat.add_sub_cancel_left];rfl
theorem zc_put {l:List Zon}{a b c:AV}:aPut (rows zonC l++[a,b]) (some (l.length*2+1)) c=rows zonC l++[a,c]:=zc_set rfl
theorem zc_at2 {l:List Zon}{N v:Nat}{a b:AV}{off:Nat}(h:off=l.length*2+1):(rows zonC l++zC N v none++[a,b])[off]?=some b:=by
 rw [show rows zonC l++zC N v none=rows zonC l from List.append_nil _];exact zc_at h
theorem zc_put2 {l:List Zon}{N v:Nat}{a b c:AV}:aPut (rows zonC l++zC N v none++[a,b]) (some (l.length*2+1)) c=rows zonC l++[a,c]:=by
 rw [show rows zonC l++zC N v none=rows zonC l from List.append_nil _];exact zc_put
theorem Zlv {s:ByteArray} : ∀ x∈(Zcc s).1,∀ f∈x.2.2,f.size≤24:=by
 intro x hx f hf
 have h:=ZmM x hx
 unfold Zpj at h
 split at h
 ·cases h
 ·split at h
  ·cases h
  ·have : ∀ {fs:List ByteArray},ZjG fs=0 → ∀ f∈fs,ZfM f=0:=by
    intro fs
    induction fs with
    | nil=>intro _ f hf;cases hf
    | cons g fs ih =>
     intro h f hf
     rw [ZjG] at h
     split at h
     ·rename_i h1;exact absurd h h1
     ·rename_i h1
      rcases List.mem_cons.1 hf with rfl | hf
      ·exact Decidable.of_not_not h1
      ·exact ih h f hf
   exact (Zps (this h f hf)).2
theorem ZqT {s:ByteArray}:(Zcc s).1.length≤200:=by
 unfold Zcc
 split
 ·simp
 ·split
  ·rename_i h2;rw [Zjw h2];simp
  ·split
   ·simp
   ·omega
end Go.Proofs.YthdifaphoaekoaaGreatDoor
end
section
namespace Go.Proofs.YthdifaphoaekoaaGreatDoor
open Go.Ab Go.RowKit Civ
attribute [local simp] Zby ZbO ZbD ZbK Zb7 ZfW ZgQ
section
theorem ZiV {τ:Operand→AV}:Zau τ [] [(.sl 0 0 true []),(.sl 0 0 true []),(.sl 0 0 true [])]=some [(.sl 0 0 true []),(.sl 0 0 true []),(.sl 0 0 true [])]:=rfl
theorem Za1 {a0 a1 a2 c0 c1 c2:AV}{l:List AV}:setCells (a0::a1::a2::l) 0 [c0,c1,c2]=c0::c1::c2::l:=rfl
theorem ZaY {a0 a1 a2:AV}{l:List AV}:((a0::a1::a2::l).drop 0).take 3=[a0,a1,a2]:=rfl
theorem ZiU {τ:Operand→AV}{y0:Operand}{x0_0:AV}(h0:Zax (τ y0)=some [x0_0]) (l0:[x0_0].all leaf=true):Zau τ [(0,1,y0)] [(.sl 0 0 true []),(.v (.bool false))]=some [x0_0,(.v (.bool false))]:=by
 simp only [Zau,h0,l0]
 rfl
theorem Zj5 {a0 a1 c0 c1:AV}{l:List AV}:setCells (a0::a1::l) 0 [c0,c1]=c0::c1::l:=rfl
theorem ZiS {τ:Operand→AV}{y0:Operand}{x0_0 x0_1 x0_2 x0_3 x0_4 x0_5 x0_6 x0_7 x0_8 x0_9 x0_10:AV}(h0:Zax (τ y0)=some [x0_0,x0_1,x0_2,x0_3,x0_4,x0_5,x0_6,x0_7,x0_8,x0_9,x0_10]) (l0:[x0_0,x0_1,x0_2,x0_3,x0_4,x0_5,x0_6,x0_7,x0_8,x0_9,x0_10].all leaf=true):Zau τ [(0,11,y0)] [(.v (.string ⟨#[]⟩)),(.v (.int .i64 0)),(.v (.int .i64 0)),(.v (.int .i64 0)),(.v (.int .i64 0)),(.v (.int .i64 0)),(.v (.int .i64 0)),(.v (.int .i64 0)),(.v (.int .i64 0)),(.v (.int .i64 0)),(.v (.string ⟨#[]⟩))]=some [x0_0,x0_1,x0_2,x0_3,x0_4,x0_5,x0_6,x0_7,x0_8,x0_9,x0_10]:=by
 simp only [Zau,h0,l0]
 rfl
theorem ZpW {a0 a1 a2 a3 a4 a5 a6 a7 a8 a9 a10:AV}{l:List AV}:(a0::a1::a2::a3::a4::a5::a6::a7::a8::a9::a10::l).take 11=[a0,a1,a2,a3,a4,a5,a6,a7,a8,a9,a10]:=rfl
theorem Zj6 {a0 c0:AV}{l:List AV}:setCells (a0::l) 0 [c0]=c0::l:=rfl
theorem ZaH {τ:Operand→AV}:Zau τ [] [(.sl 0 0 true []),(.sl 0 0 true []),(.sl 0 0 true [])]=some [(.sl 0 0 true []),(.sl 0 0 true []),(.sl 0 0 true [])]:=rfl
theorem ZiR {τ:Operand→AV}{y0:Operand}{x0_0:AV}(h0:Zax (τ y0)=some [x0_0]) (l0:[x0_0].all leaf=true):Zau τ [(0,1,y0)] [(.v (.string ⟨#[]⟩)),(.sl 0 0 true [])]=some [x0_0,(.sl 0 0 true [])]:=by
 simp only [Zau,h0,l0]
 rfl
theorem ZiP {a0 a1 a2 a3 a4 a5 a6 a7 a8 a9 c0 c1 c2 c3 c4 c5 c6 c7 c8 c9:AV}{l:List AV}:setCells (a0::a1::a2::a3::a4::a5::a6::a7::a8::a9::l) 0 [c0,c1,c2,c3,c4,c5,c6,c7,c8,c9]=c0::c1::c2::c3::c4::c5::c6::c7::c8::c9::l:=rfl
theorem ZiO {a0 a1 a2 a3 a4 a5 a6 a7 a8 a9:AV}{l:List AV}:((a0::a1::a2::a3::a4::a5::a6::a7::a8::a9::l).drop 0).take 10=[a0,a1,a2,a3,a4,a5,a6,a7,a8,a9]:=rfl
theorem ZiQ {τ:Operand→AV}{y0:Operand}{x0_0 x0_1 x0_2 x0_3 x0_4 x0_5 x0_6 x0_7 x0_8 x0_9:AV}(h0:Zax (τ y0)=some [x0_0,x0_1,x0_2,x0_3,x0_4,x0_5,x0_6,x0_7,x0_8,x0_9]) (l0:[x0_0,x0_1,x0_2,x0_3,x0_4,x0_5,x0_6,x0_7,x0_8,x0_9].all leaf=true):Zau τ [(0,10,y0)] [(.v (.int .i64 0)),(.v (.string ⟨#[]⟩)),(.v (.int .i64 0)),(.v (.string ⟨#[]⟩)),(.v (.bool false)),(.v (.int .i64 0)),(.v (.int .i64 0)),(.v (.int .i64 0)),(.v (.int .i64 0)),(.v (.int .i64 0))]=some [x0_0,x0_1,x0_2,x0_3,x0_4,x0_5,x0_6,x0_7,x0_8,x0_9]:=by
 simp only [Zau,h0,l0]
 rfl
theorem Zj3 {a0 a1 a2 a3 a4 a5 a6 a7 a8 a9:AV}{l:List AV}:(a0::a1::a2::a3::a4::a5::a6::a7::a8::a9::l).take 10=[a0,a1,a2,a3,a4,a5,a6,a7,a8,a9]:=rfl
theorem ZfC {a0 a1 c0:AV}{l:List AV}:setCells (a0::a1::l) 1 [c0]=a0::c0::l:=rfl
theorem Zj4 {a0 a1:AV}{l:List AV}:((a0::a1::l).drop 0).take 2=[a0,a1]:=rfl
theorem ZhL {τ:Operand→AV}{y0:Operand}{x0_0 x0_1:AV}(h0:Zax (τ y0)=some [x0_0,x0_1]) (l0:[x0_0,x0_1].all leaf=true):Zau τ [(0,2,y0)] [(.v (.string ⟨#[]⟩)),(.sl 0 0 true [])]=some [x0_0,x0_1]:=by
 simp only [Zau,h0,l0]
 rfl
theorem ZsK {h:AH}{n:Nat}(hn:h.length=n) {e0 e1 e2 e3 e4 e5 e6 e7 e8 e9:Ent}:(h++[e0,e1,e2,e3,e4,e5,e6,e7,e8,e9]).length=n+10:=by subst hn;simp
theorem ZsL {h:AH}{e0 e1 e2 e3 e4 e5 e6 e7 e8 e9 e:Ent}:(h++[e0,e1,e2,e3,e4,e5,e6,e7,e8,e9])++[e]=h++[e0,e1,e2,e3,e4,e5,e6,e7,e8,e9,e]:=by simp
theorem Zmo {a0 a1:AV}{l:List AV}:(a0::a1::l).take 2=[a0,a1]:=rfl
theorem ZhK {τ:Operand→AV}{y0:Operand}{x0_0 x0_1:AV}(h0:Zax (τ y0)=some [x0_0,x0_1]) (l0:[x0_0,x0_1].all leaf=true):Zau τ [(0,2,y0)] [(.v (.string ⟨#[]⟩)),(.v (.string ⟨#[]⟩))]=some [x0_0,x0_1]:=by
 simp only [Zau,h0,l0]
 rfl
theorem ZpX {a0 a1 a2 c0:AV}{l:List AV}:setCells (a0::a1::a2::l) 2 [c0]=a0::a1::c0::l:=rfl
theorem ZiT {τ:Operand→AV}{y0:Operand}{x0_0 x0_1 x0_2 x0_3 x0_4 x0_5 x0_6 x0_7 x0_8 x0_9:AV}(h0:Zax (τ y0)=some [x0_0,x0_1,x0_2,x0_3,x0_4,x0_5,x0_6,x0_7,x0_8,x0_9]) (l0:[x0_0,x0_1,x0_2,x0_3,x0_4,x0_5,x0_6,x0_7,x0_8,x0_9].all leaf=true):Zau τ [(0,10,y0)] [(.v (.int .i64 0)),(.v (.string ⟨#[]⟩)),(.v (.int .i64 0)),(.v (.string ⟨#[]⟩)),(.v (.bool false)),(.v (.int .i64 0)),(.v (.int .i64 0)),(.v (.int .i64 0)),(.v (.int .i64 0)),(.v (.int .i64 0))]=some [x0_0,x0_1,x0_2,x0_3,x0_4,x0_5,x0_6,x0_7,x0_8,x0_9]:=by
 simp only [Zau,h0,l0]
 rfl
theorem ZsJ { e:Ent}:([]:AH)++[e]=[e]:=rfl
theorem ZpY {e0 e1 e2 e3 e4 e5 e6 e7 d0:Ent}:([e0,e1,e2,e3,e4,e5,e6,e7]:AH)++[d0]=[e0,e1,e2,e3,e4,e5,e6,e7,d0]:=rfl
theorem ZhJ {τ:Operand→AV}:Zau τ [] [(.sl 0 0 true []),(.sl 0 0 true []),(.sl 0 0 true [])]=some [(.sl 0 0 true []),(.sl 0 0 true []),(.sl 0 0 true [])]:=rfl
theorem ZhI {τ:Operand→AV}:Zau τ [] [(.sl 0 0 true []),(.sl 0 0 true []),(.sl 0 0 true [])]=some [(.sl 0 0 true []),(.sl 0 0 true []),(.sl 0 0 true [])]:=rfl
end
def c84:AC:=(Sr [Oo 2 (.new 26 3 [(.sl 0 0 true []),(.sl 0 0 true []),(.sl 0 0 true [])]),Mc 3 0,Mc 4 0] (Sr [Mv 20 0,Cl 21 131 [(.tmp 20)],Mv 19 21,Ex 22 19 0,Ex 23 19 1,Ex 24 19 2,Mv 5 22,Mv 6 23,Mv 7 24] (.seq (Sr [Mv 25 7,Bc 26 .neq 25 0] (Cd 26 (Sr [Oo 27 (.build [(.sl 0 0 true []),(.sl 0 0 true []),(.sl 0 0 true [])] []),Mv 28 6,Mv 29 7,⟨none,none,(.store 3 (.tmp 2) (.tmp 27))⟩,Mv 3 28,Mv 4 29] .ret) .skip)) (Sr [Oo 8 (.new 26 3 [(.sl 0 0 true []),(.sl 0 0 true []),(.sl 0 0 true [])])] (Sr [Mb 9 false] (.seq (Sr [Mc 10 0] (.block 0 (.loop (.seq (Sr [Mv 30 10,Mv 31 5,Oo 32 (.len false (.tmp 31)),Bn 33 .lss 30 32] (Cd 33 .skip (.exit 0))) (.seq (.block 1 (Sr [Mv 36 5,Mv 37 10,Oo 38 (.ia 3 (.tmp 36) (.tmp 37)),Fa 39 2 38,Ld 40 39,Oo 41 (.build [(.sl 0 0 true []),(.v (.bool false))] [(0,(1,(.tmp 40)))]),Oo 11 (.new 175 2 [(.sl 0 0 true []),(.v (.bool false))]),⟨none,none,(.store 2 (.tmp 11) (.tmp 41))⟩] (Sr [Mv 42 9,Mv 12 42] (Sr [Ms 13] (.seq (Sr [Mv 43 9,Oo 44 (.un .not (.tmp 43))] (Cd 44 (.reg [Cl 45 132 [(.tmp 11)],Mv 13 45]) .skip)) (.seq (.block 2 (Sr [Mv 48 9,Mv 47 48] (Cd 47 (Sr [Fa 49 1 8,Ld 50 49,Oo 51 (.len false (.tmp 50)),Bc 52 .sub 51 1,Mv 14 52] (Sr [Cl 53 133 [(.tmp 11)],Oo 15 (.new 67 10 [(iv 0),Ss,(iv 0),Ss,(.v (.bool false)),(iv 0),(iv 0),(iv 0),(iv 0),(iv 0)]),⟨none,none,(.store 10 (.tmp 15) (.tmp 53))⟩] (.seq (.drw [Fa 54 1 8,Oo 55 (.loadR false 1 (.tmp 54)),Mv 56 14,Fa 57 1 8,Ld 58 57,Mv 59 14,Oo 60 (.ia 2 (.tmp 58) (.tmp 59)),Fa 61 1 60,Ld 62 61,Oo 63 (.load true 10 (.tmp 15)),Oo 64 (.lit 67 10 1 [(iv 0),Ss,(iv 0),Ss,(.v (.bool false)),(iv 0),(iv 0),(iv 0),(iv 0),(iv 0)] [(0,(10,(.tmp 63)))])] [true,false,false,false] [Oo 65 (.app 67 10 96 (.tmp 62) (.tmp 64)),Oo 66 (.ia 2 (.tmp 55) (.tmp 56)),Fa 67 1 66,Sc 67 65]) (.reg [Fa 68 4 15,Ld 69 68,Oo 70 (.un .not (.tmp 69)),Mv 9 70])))) (Sr [Mv 72 13,Oo 73 (.bin .eql (.tmp 72) (.const (.string ⟨#[82,117,108,101]⟩))),Mv 71 73] (Cd 71 (.orPan (.drw [Fa 74 0 8,Oo 75 (.loadR false 1 (.tmp 74))] [true,true,false,false,false] [Cl 76 134 [(.tmp 11)],Oo 77 (.lit 40 11 1 [Ss,(iv 0),(iv 0),(iv 0),(iv 0),(iv 0),(iv 0),(iv 0),(iv 0),(iv 0),Ss] [(0,(11,(.tmp 76)))]),Oo 78 (.app 40 11 104 (.tmp 75) (.tmp 77)),Fa 79 0 8,Sc 79 78]) (.tmp 11) 134 [Fa 74 0 8,Ld 75 74,Mv 76 11,Mb 77 false,Mb 78 false,Mb 79 false,⟨none,none,(.mv (.const (.bool false)))⟩] 76) (Sr [Mv 81 13,Oo 82 (.bin .eql (.tmp 81) (.const (.string ⟨#[90,111,110,101]⟩))),Mv 80 82] (Cd 80 (Sr [Cl 83 135 [(.tmp 11)],Oo 84 (.build [Ss,(.sl 0 0 true [])] [(0,(1,(.tmp 83)))]),Oo 16 (.new 44 2 [Ss,(.sl 0 0 true [])]),⟨none,none,(.store 2 (.tmp 16) (.tmp 84))⟩] (Sr [Cl 85 133 [(.tmp 11)],Oo 17 (.new 67 10 [(iv 0),Ss,(iv 0),Ss,(.v (.bool false)),(iv 0),(iv 0),(iv 0),(iv 0),(iv 0)]),⟨none,none,(.store 10 (.tmp 17) (.tmp 85))⟩] (Sr [Fa 86 1 16,Ld 87 86,Oo 88 (.load true 10 (.tmp 17)),Oo 89 (.lit 67 10 1 [(iv 0),Ss,(iv 0),Ss,(.v (.bool false)),(iv 0),(iv 0),(iv 0),(iv 0),(iv 0)] [(0,(10,(.tmp 88)))]),Oo 90 (.app 67 10 96 (.tmp 87) (.tmp 89)),Fa 91 1 16,Sc 91 90] (Sr [Fa 92 1 8,Ld 93 92,Oo 94 (.load true 2 (.tmp 16)),Oo 95 (.lit 44 2 1 [Ss,(.sl 0 0 true [])] [(0,(2,(.tmp 94)))]),Oo 96 (.app 44 2 40 (.tmp 93) (.tmp 95)),Fa 97 1 8,Sc 97 96] (.reg [Fa 98 4 17,Ld 99 98,Oo 100 (.un .not (.tmp 99)),Mv 9 100]))))) (Sr [Mv 102 13,Oo 103 (.bin .eql (.tmp 102) (.const (.string ⟨#[76,105,110,107]⟩))),Mv 101 103] (Cd 101 (Sr [Oo 18 (.new 35 2 [Ss,Ss])] (Sr [Cl 104 135 [(.tmp 11)],Fa 105 0 18,Sc 105 104] (Sr [Cl 106 135 [(.tmp 11)],Fa 107 1 18,Sc 107 106] (.reg [Fa 108 2 8,Ld 109 108,Oo 110 (.load true 2 (.tmp 18)),Oo 111 (.lit 35 2 1 [Ss,Ss] [(0,(2,(.tmp 110)))]),Oo 112 (.app 35 2 32 (.tmp 109) (.tmp 111)),Fa 113 2 8,Sc 113 112])))) (.reg [Fa 46 1 11,⟨none,none,(.store 1 (.tmp 46) (.const (.bool true)))⟩])))))))))) (Sr [Fa 114 1 11,Ld 115 114,Mv 116 115,Of 117 116 (.fa 0 (.tmp 11)),Of 118 116 (.load false 1 (.tmp 117)),Of 119 116 (.len false (.tmp 118)),Of 120 116 (.bin .gtr (.tmp 119) (Ci 0)),Oo 121 (.pick (.tmp 116) (.const (.bool true)) (.tmp 120)),Mv 122 121,Of 123 122 (mt 5),Of 124 122 (mt 10),Of 125 122 (.ia 3 (.tmp 123) (.tmp 124)),Of 126 122 (.fa 1 (.tmp 125)),Of 127 122 (.load false 1 (.tmp 126)),Of 128 122 (mt 12),Of 129 122 (.eqb true (.tmp 127) (.tmp 128)),Oo 130 (.pick (.tmp 122) (.const (.bool true)) (.tmp 129))] (Cd 130 (.seq (.drwU [[],[0],[0,1],[0],[0],[0],[1,2,3,4,5],[],[]] [Oo 131 (.build [(.sl 0 0 true []),(.sl 0 0 true []),(.sl 0 0 true [])] []),Mv 132 5,Mv 133 10,Oo 134 (.ia 3 (.tmp 132) (.tmp 133)),Fa 135 0 134,Ld 136 135,⟨none,none,(.store 3 (.tmp 2) (.tmp 131))⟩,Mv 3 136,Mc 4 1]) .ret) .skip)))))))) (.reg [Mv 34 10,Bc 35 .add 34 1,Mv 10 35])))))) (.seq (Sr [Mv 137 9] (Cd 137 (Sr [Oo 138 (.build [(.sl 0 0 true []),(.sl 0 0 true []),(.sl 0 0 true [])] []),⟨none,none,(.store 3 (.tmp 2) (.tmp 138))⟩,Mc 3 0,Mc 4 1] .ret) .skip)) (Sr [Oo 139 (.load true 3 (.tmp 8)),Cl 140 55 [(.tmp 139)],Mv 7 140] (.seq (Sr [Mv 141 7,Bc 142 .neq 141 0] (Cd 142 (Sr [Oo 143 (.build [(.sl 0 0 true []),(.sl 0 0 true []),(.sl 0 0 true [])] []),Mv 144 7,⟨none,none,(.store 3 (.tmp 2) (.tmp 143))⟩,Mc 3 0,Mv 4 144] .ret) .skip)) (Sr [Oo 145 (.load true 3 (.tmp 8)),Mv 146 7,⟨none,none,(.store 3 (.tmp 2) (.tmp 145))⟩,Mc 3 0,Mv 4 146] .ret))))))))))
theorem k84:ZaD Tryz.prog 84=some ⟨c84,[(.cell 2 true 3),(.tmp 3),(.tmp 4)],147⟩:=by kernel_rfl
theorem trule_e {t t1:TS}{r:Rul}{id:Nat}{h:AH}(ho:okT t) (he:Zkr t=(r,t1)) (h1:h[id]?=some (takE t)):ACalls Tryz.prog 134 [.ptr id 0 0] h fun x h'=>x=.ret (.agg (rulC r))∧h'=h.set id (takE t1):=by
 have:=trule_a ho h1
 rw [he] at this
 exact this
theorem tera_e {t t1:TS}{r:Era}{id:Nat}{h:AH}(ho:okT t) (he:tEra t=(r,t1)) (h1:h[id]?=some (takE t)):ACalls Tryz.prog 133 [.ptr id 0 0] h fun x h'=>x=.ret (.agg (eraC r))∧h'=h.set id (takE t1):=by
 have:=tera_a ho h1
 rw [he] at this
 exact this
theorem ZbV {n e:AV}:Wk (.tup [.agg [.sl 0 0 true [],.sl 0 0 true [],.sl 0 0 true []],n,e]) (.tup [.agg (srcC srcZ),n,e]) :=
 Wk.tup (wkw (Wk.agg (wkw Wk.nilF (wkw Wk.nilF (wkw Wk.nilF wk0)))) (wk1 rfl (wk1 rfl wk0)))
theorem okSrc_Z:Zeb (curS srcZ none):=by rw [Zfb];exact ⟨fun _ h=>(by cases h),fun _ h=>(by cases h),fun _ h=>(by cases h)⟩
theorem lt26 {N:Nat}:decide (N+2<N+6)=true:=by simp
attribute [local simp] lt26
theorem lt36 {N:Nat}:decide (N+3<N+6)=true:=by simp
attribute [local simp] lt36
theorem lt46 {N:Nat}:decide (N+4<N+6)=true:=by simp
attribute [local simp] lt46
theorem lt56 {N:Nat}:decide (N+5<N+6)=true:=by simp
attribute [local simp] lt56
theorem rparse_a {s:ByteArray}{h:AH}:Ac 84 [sv s] h (.tup [.agg (srcC (ZbU s).1),iv (ZbU s).2.1,iv (ZbU s).2.2]):=by
 obtain ⟨L,hL⟩ : ∃ L,L=(Zcc s).1:=⟨_,rfl⟩
 have hf24:=Zlv (s:=s)
 have hL200:=ZqT (s:=s)
 rw [←hL] at hf24 hL200
 have hV0:=Zrp s
 rw [←hL] at hV0
 refine tW' k84 fun N hn hlt hlA hbd=>?_
 simp only [tb'] at hbd ⊢
 refine wr'<|E' (Za6 (hl0 hn) ha0) pt<|mv' lki pt<|mv' lki pt<|sn'<|wr'<|mv' lk pt<|Zae mp (Zo6) pt<|?_
 rw [←hL]
 refine mv' lk pt<|V' (Za7 lk gt) pt<|V' (Za7 lk gt) pt<|V' (Za7 lk gt) pt<|mv' lk pt<|mv' lk pt<|mv' lk pt<|sn'<|Zah<|wr'<|mv' lk pt<|V' (Za5 lk lki) pt<|?_
 refine sn' ?_
 refine cd' lk (fun hc1=>?_) (fun hc1=>?_)
 ·have hV:ZbU s=(srcZ,(Zcc s).2.1,(Zcc s).2.2):=by rw [hV0];exact if_pos hc1
  refine wr'<|V' (ZaA ZiV) pt<|mv' lk pt<|mv' lk pt<|E' (Zal lk (cvl lk rfl) (hga hn rfl) rfl (nb' rfl) rfl Za1 (hs0 hn)) ptn<|mv' lk pt<|mv' lk pt<|sn'<|Zaa<|Zaj<|Zag (rsn (rm1 (rr_c gt (hga hn rfl) (ld1 ZaY rfl)) (rm1 (rr_t gt) (rm1 (rr_t gt) rm0))))<|rtW'<|?_
  rw [hV];exact ZbV
 have hV:ZbU s=outP L:=by rw [hV0];exact if_neg hc1
 clear hV0
 refine Zad<|Zaf<|wr'<|E' (Za6 (hl1 hn) ha1) pt<|Zaq<|?_
 refine Za8 (ALe.trans (ALe.own0Cell (st':=11) (ty:=40) (hga hn rfl) gt0 (hl2 hn) pt0 (Eq.trans (congrArg (fun z=>List.set z _ _) ha2) (hs1 hn))) (ALe.trans (ALe.own0Cell (st':=2) (ty:=44) (hga hn rfl) gt1 (hl3 hn) pt1 (Eq.trans (congrArg (fun z=>List.set z _ _) ha3) (hs1 hn))) (ALe.own0Cell (st':=2) (ty:=35) (hga hn rfl) gt2 (hl4 hn) pt2 (Eq.trans (congrArg (fun z=>List.set z _ _) ha4) (hs1 hn))))) ?_
 refine wr'<|mv' lkb pt9<|Zaq<|Za8 ((ALe.newEnt (ty:=67) (st:=10) ha5))<|Zah<|wr'<|mv' lki pt10<|sn'<|Zan<|?_
 refine w_lp (ι:=Nat×Src×Option Zon×Nat×Nat×Nat×Nat×Nat) (fun (x_:Nat×Src×Option Zon×Nat×Nat×Nat×Nat×Nat)=>match x_ with | ⟨k,sr,o,m,v1,v2,v3,v4⟩=>[(9,bv o.isSome),(10,iv (k:Int)),(3,.any),(4,.any)]++rn' 11 8++rn' 30 107) (fun (x_:Nat×Src×Option Zon×Nat×Nat×Nat×Nat×Nat)=>match x_ with | ⟨k,sr,o,m,v1,v2,v3,v4⟩=>[(1,.mk 0 26 3 [.own (N+2) v1 sr.1.length,.own (N+3) v2 m,.own (N+4) v3 sr.2.2.length]),(2,.mk v1 40 11 (rows rulC sr.1)),(3,.mk v2 44 2 (rows zonC sr.2.1++zC N v4 o)),(4,.mk v3 35 2 (rows lnkC sr.2.2)),(5,.mk v4 67 10 (rows eraC (eC o)))]) (fun (x_:Nat×Src×Option Zon×Nat×Nat×Nat×Nat×Nat)=>match x_ with | ⟨k,sr,o,m,v1,v2,v3,v4⟩=>k≤L.length∧m=sr.2.1.length+o.toList.length∧sr.1.length≤k∧m≤k∧sr.2.2.length≤k∧(eC o).length≤k∧Zeb (curS sr o)∧runR (srcZ,false) L=runR (curS sr o,o.isSome) (L.drop k)) (fun (x_:Nat×Src×Option Zon×Nat×Nat×Nat×Nat×Nat)=>match x_ with | ⟨k,sr,o,m,v1,v2,v3,v4⟩=>L.length-k) (⟨0,srcZ,none,0,0,0,0,0⟩) (by exact ⟨Nat.zero_le _,rfl,Nat.le_refl _,Nat.le_refl _,Nat.le_refl _,Nat.le_refl _,okSrc_Z,rfl⟩) ?_
 rintro ⟨k,sr,o,m,v1,v2,v3,v4⟩ hi1
 try simp only [sm',Nat.reduceAdd]
 obtain ⟨hk1,hm,hk2,hk3,hk4,hk5,hok,hrun⟩:=hi1
 refine Zah<|wr'<|mv' lk pt<|mv' lk pt<|V' (ZaI lk) pt<|V' (ZaZ lk lk) pt<|sn'<|?_
 refine cd' lk (fun hc2=>?_) (fun hc2=>?_)
 ·have hk:k<L.length:=by omega
  have hfs:=hf24 _ (List.getElem_mem hk)
  have hokt:okT (L[k].2.2,false):=hfs
  rw [runR_at hk] at hrun
  have hPT:=pt_body (p:=(curS sr o,o.isSome)) hok (L[k].2.2,false) hokt
  refine Zad<|Zaf<|Zah<|Zan<|wr'<|mv' lk pt<|mv' lk pt<|?_
  refine V' (ZaJ lk lk Zbu (nb' rfl) ro (by omega) ro rfl) pt ?_
  refine V' (ZaS lk38 dp2) pt39<|V' (Zar lk39 gt0) pt40<|V' (ZaA (ZiU (cvl lk40 rfl) rfl)) pt41<|E' (Za6 (hl6 hn) ha6) pt11<|E' (Zal lk11 (cvl lk41 rfl) (hga hn rfl) rfl (nb' rfl) rfl Zj5 (hs6 hn)) ptn<|Zaq<|Za8 ((ALe.same (WkL.refl _) rfl))<|wr'<|?_
  by_cases hs36:o=none
  ·subst hs36
   simp only [Option.isSome_none] at hrun hPT
   have hm':m=sr.2.1.length:=by simpa using hm
   subst hm'
   obtain ⟨w,t1,e1⟩ : ∃ a b,ZaW (L[k].2.2,false)=(a,b):=⟨_,_,rfl⟩
   obtain ⟨z1,o1⟩:=Zbt hokt e1
   refine mv' lk pt<|mv' lk pt<|sn'<|wr'<|mv' lks pt<|sn'<|Zah<|wr'<|mv' lk pt<|?_
   refine V' ((by first | exact v_not lk | exact ZaC lk)) pt ?_
   refine sn' ?_
   refine Zc4 lk (by rfl) ?_
   refine Zat<|ZaT mp (Zds e1 (hga hn rfl)) (hs6 hn) pt<|mv' lk pt<|sn'<|Zah<|Zan<|wr'<|mv' lk pt<|mv' lk pt<|sn'<|?_
   refine Zcr lk (by rfl) ?_
   refine wr'<|mv' lk pt<|V' (Zci lk lks) pt<|mv' lk pt<|sn'<|?_
   refine cd' lk (fun hc5=>?_) (fun hc5=>?_)
   ·have hwR:w=ruleA:=hc5
    obtain ⟨r,u,eR⟩ : ∃ a b,Zkr t1=(a,b):=⟨_,_,rfl⟩
    have hB:ZeM (curS sr none,false) (L[k].2.2,false)=((curS (sr.1++[r],sr.2.1,sr.2.2) none,false),u):=by unfold ZeM;rw [if_neg (by simp)];simp only [Zch,e1,if_pos hwR,ret2,eR];rfl
    have hq:True:=trivial
    refine w_orl<|Zqz [N+1]<|D' (Zac lk) pt<|?_
    refine d_ldP lk (hga hn rfl) (ld0 gt) (by simp) pt ?_
    refine Zbj<|ZrR<|?_
    refine k_calls mp (trule_e o1 eR (hga hn rfl)) (hs6 hn) (by intro i hi;simp only [cond_true,List.mem_cons,List.not_mem_nil,or_false] at hi;subst hi;first | rfl | exact (hga hn rfl).trans (hga hn rfl).symm) pt ?_
    refine ZrQ rfl rfl (Zda (ZiS (cvl lk rfl) rfl) (hl7 hn) ha7) (by intro i hi;simp only [cond_true,List.mem_cons,List.not_mem_nil,or_false] at hi;subst hi;first | rfl | exact (hga hn rfl).trans (hga hn rfl).symm) pt ?_
    refine ZrQ rfl rfl (Zcw (ZbI lk (hga hn rfl) rfl ZpW (nb' rfl)) lk (hga hn rfl) (ZmO _) (by omega) rfl (hs2 hn)) (by intro i hi;simp at hi) pt ?_
    refine k_val rfl (Zac lk) pt ?_
    refine ZrQ rfl rfl (Zal lk (cvl lk rfl) (hga hn rfl) rfl (nb' rfl) rfl Zj6 (hs1 hn)) (by intro i hi;simp at hi) ptn ?_
    refine k_nil<|Zay<|Zaf<|wr'<|V' (Zac lk) pt<|V' (Zab lk (hga hn rfl) gt1) pt<|mv' lk pt<|?_
    refine ZaM (t:=116) gt pt pt (fun hg116=>?_) (fun hg116=>?_)
    ·have hN:=Zbe hB (.inl hg116)
     refine s_no gt pt<|s_no gt pt<|s_no gt pt<|s_no gt pt<|V' (Zai lk lkb) pt<|mv' lk pt<|s_no gt pt<|s_no gt pt<|s_no gt pt<|s_no gt pt<|s_no gt pt<|s_no gt pt<|s_no gt pt<|V' (Zai lk lkb) pt<|?_
     refine sn'<|ZaG lk<|Zah<|Zca<|u_fr rfl (ZaA ZaH) pt<|u_fr rfl (v_mv lk) pt<|u_fr rfl (v_mv lk) pt<|?_
     refine u_fr rfl (ZaJ lk lk Zbu (nb' rfl) ro (by omega) ro rfl) pt ?_
     refine u_fr rfl (ZaS lk dp0) pt<|u_fr rfl (Zar lk gt) pt<|?_
     refine u_st (Zal lk (cvl lk rfl) (hga hn rfl) rfl (nb' rfl) rfl Za1 (hs0 hn)) lk nh ptn ?_
     refine u_fr rfl (v_mv lk) pt<|u_fr rfl (v_mv lki) pt<|Zc6<|Zaf<|Zaa<|Zas<|Zaj<|Zaj<|Zas<|Zaj<|Zag (rsn (rm1 (rr_c gt (hga hn rfl) (ld1 ZaY rfl)) (rm1 (rr_t gt) (rm1 (rr_t gt) rm0))))<|rtW'<|?_
     have hP:ZbU s=(srcZ,L[k].1,1):=by rw [hV,outP,hrun,hN]
     rw [hP];exact ZbV
    refine s_do gt<|V' (Zac lk) pt<|s_do gt<|V' (Zab lk (hga hn rfl) gt0) pt<|s_do gt<|V' (ZaI lk) pt<|s_do gt<|V' (ZbW lk lki) pt<|V' (Zak lk lk) pt<|mv' lk pt<|?_
    refine sp' (t:=122) gt pt pt (fun hg122=>?_) (fun hg122=>?_)
    ·have hN:=Zbe hB (.inr (.inl (by intro e;rw [e] at hg122;exact absurd hg122 (by decide))))
     refine s_no gt pt<|s_no gt pt<|s_no gt pt<|s_no gt pt<|s_no gt pt<|s_no gt pt<|s_no gt pt<|V' (Zai lk lkb) pt<|sn'<|ZaG lk<|Zah<|Zca<|u_fr rfl (ZaA ZaH) pt<|?_
     refine u_fr rfl (v_mv lk) pt<|u_fr rfl (v_mv lk) pt<|?_
     refine u_fr rfl (ZaJ lk lk Zbu (nb' rfl) ro (by omega) ro rfl) pt ?_
     refine u_fr rfl (ZaS lk dp0) pt<|u_fr rfl (Zar lk gt) pt<|?_
     refine u_st (Zal lk (cvl lk rfl) (hga hn rfl) rfl (nb' rfl) rfl Za1 (hs0 hn)) lk nh ptn ?_
     refine u_fr rfl (v_mv lk) pt<|u_fr rfl (v_mv lki) pt<|Zc6<|Zaf<|Zaa<|Zas<|Zaj<|Zaj<|Zas<|Zaj<|Zag (rsn (rm1 (rr_c gt (hga hn rfl) (ld1 ZaY rfl)) (rm1 (rr_t gt) (rm1 (rr_t gt) rm0))))<|rtW'<|?_
     have hP:ZbU s=(srcZ,L[k].1,1):=by rw [hV,outP,hrun,hN]
     rw [hP];exact ZbV
    refine s_do gt<|mv' lk pt<|s_do gt<|mv' lk pt<|s_do gt<|?_
    refine V' (ZaJ lk lk Zbu (nb' rfl) ro (by omega) ro rfl) pt ?_
    refine s_do gt<|V' (ZaS lk dp1) pt<|s_do gt<|V' (Zar lk gt) pt<|s_do gt<|mv' lk pt<|s_do gt<|V' (ZdM lk lk) pt<|V' (Zak lk lk) pt<|sn'<|?_
    refine cd' lk (fun hc8=>?_) (fun hc8=>?_)
    ·have hN:=Zbe hB (.inr (.inr (by simpa using hc8)))
     refine Zah<|Zca<|u_fr rfl (ZaA ZaH) pt<|u_fr rfl (v_mv lk) pt<|u_fr rfl (v_mv lk) pt<|?_
     refine u_fr rfl (ZaJ lk lk Zbu (nb' rfl) ro (by omega) ro rfl) pt ?_
     refine u_fr rfl (ZaS lk dp0) pt<|u_fr rfl (Zar lk gt) pt<|?_
     refine u_st (Zal lk (cvl lk rfl) (hga hn rfl) rfl (nb' rfl) rfl Za1 (hs0 hn)) lk nh ptn ?_
     refine u_fr rfl (v_mv lk) pt<|u_fr rfl (v_mv lki) pt<|Zc6<|Zaf<|Zaa<|Zas<|Zaj<|Zaj<|Zas<|Zaj<|Zag (rsn (rm1 (rr_c gt (hga hn rfl) (ld1 ZaY rfl)) (rm1 (rr_t gt) (rm1 (rr_t gt) rm0))))<|rtW'<|?_
     have hP:ZbU s=(srcZ,L[k].1,1):=by rw [hV,outP,hrun,hN]
     rw [hP];exact ZbV
    have hu1:u.2=false:=by simpa using hg116
    have hu2:u.1=[]:=List.eq_nil_of_length_eq_zero (by omega)
    have hS:=ZdG hB hu1 hu2 (by simpa using hc8)
    rw [hS] at hrun
    have hokq:=hPT.1
    rw [hB] at hokq
    refine Zad<|Zay<|Zaf<|Zat<|mv' lk pt<|?_
    refine V' (Zav lk lki (by omega) (by omega)) pt ?_
    refine mv' lk pt<|Zaq<|ZaB<|?_
    refine lU' (⟨k+1,(sr.1++[r],sr.2.1,sr.2.2),none,sr.2.1.length,v1+1,v2,v3,v4⟩) (by (try dsimp only);exact ⟨by omega,by simp,by simp;omega,by omega,by omega,by simp [eC],hokq,hrun⟩) (by (try dsimp only);(try simp only [sm',Nat.reduceAdd]);exact bkE' 6 hn hlt (by repeat (first | exact wk0 | refine wka ?_ | refine wk1 rfl ?_ | refine wk1 (by first | rfl | exact ivx (by omega) | (simp;done) | exact bvx (by have h9:=hs68;unfold ZcL at h9;rw [h9];rfl) | exact bvx (by have h9:=hs106;unfold ZcL at h9;rw [h9];rfl) | exact bvx (by have h9:=hs68;unfold ZcL at h9;rw [Bool.not_eq_true] at h9;rw [h9];rfl) | exact bvx (by have h9:=hs106;unfold ZcL at h9;rw [Bool.not_eq_true] at h9;rw [h9];rfl)) ?_)) (by simp only [zonC,ZaU,Zbc,zC,eC,List.append_nil,List.length_append,List.length_singleton];rfl) (hT:=by first | rfl | (simp only [AV.lt,AV.ltL,Ent.lt,List.all_cons,List.all_nil,Bool.and_true,Bool.and_self,decide_true,Zby,ZbO,ZbD,ZbK,Zb7,ZfW,ZgQ,lt26,lt36,lt46,lt56];done) | exact lt') (hE:=by first | rfl | (simp only [AV.lt,AV.ltL,Ent.lt,List.all_cons,List.all_nil,Bool.and_true,Bool.and_self,decide_true,Zby,ZbO,ZbD,ZbK,Zb7,ZfW,ZgQ,lt26,lt36,lt46,lt56];done) | exact lt'))
   have hwR:¬w=ruleA:=hc5
   refine wr'<|mv' lk pt<|V' (Zci lk lks) pt<|mv' lk pt<|sn'<|?_
   refine cd' lk (fun hc6=>?_) (fun hc6=>?_)
   ·have hwZ:w=zoneA:=hc6
    obtain ⟨nm,t2,e2⟩ : ∃ a b,Ze2 t1=(a,b):=⟨_,_,rfl⟩
    have o2:=ZhR o1 e2
    obtain ⟨x,u,eE⟩ : ∃ a b,tEra t2=(a,b):=⟨_,_,rfl⟩
    have hB:ZeM (curS sr none,false) (L[k].2.2,false)=(ZcJ (sr.1,sr.2.1++[(nm,[])],sr.2.2) x,u):=by unfold ZeM;rw [if_neg (by simp)];simp only [Zch,e1,if_neg hwR,if_pos hwZ,ret2,e2,eE,Zfb]
    have hw:ZcJ (sr.1,sr.2.1++[(nm,[])],sr.2.2) x=((sr.1,sr.2.1++[(nm,[x])],sr.2.2),!ZcL x):=by unfold ZcJ;rw [Zf5];rfl
    refine wr'<|ZaT mp (Zkn o1 e2 (hga hn rfl)) (hs6 hn) pt<|V' (ZaA (ZiR (cvl lk rfl) rfl)) pt<|E' (Za6 (hl7 hn) ha7) pt<|E' (Zal lk (cvl lk rfl) (hga hn rfl) rfl (nb' rfl) rfl Zj5 (hs7 hn)) ptn<|sn'<|wr'<|ZaT mp (tera_e o2 eE (hga hn rfl)) (hs6 hn) pt<|E' (Za6 (hl8 hn) ha8) pt<|E' (Zal lk (cvl lk rfl) (hga hn rfl) rfl (nb' rfl) rfl ZiP (hs8 hn)) ptn<|Zaq<|?_
    refine Za8 ((ALe.own0CellRe (ty2:=67) (st2:=10) (hga hn rfl) (hga hn rfl) (by omega) gt1 pt1 (Eq.trans (congrArg (fun z=>List.set z _ _) (hs5 hn)) (hs7 hn)))) ?_
    refine wr'<|V' (Zac lk) pt<|V' (Zab lk (hga hn rfl) gt1) pt<|V' (Zap lk (hga hn rfl) ZiO rfl) pt<|E' (Zda (ZiQ (cvl lk rfl) rfl) (hl9 hn) ha9) pt<|?_
    refine E' (Zcw (ZbI lk (hga hn rfl) rfl Zj3 (nb' rfl)) lk (hga hn rfl) rfl (by omega) rfl (hs5 hn)) pt ?_
    refine V' (Zac lk) pt<|E' (Zal lk (cvl lk rfl) (hga hn rfl) rfl (nb' rfl) rfl ZfC (hs7 hn)) ptn<|sn'<|wr'<|V' (Zac lk) pt<|V' (Zab lk (hga hn rfl) gt1) pt<|V' (Zap lk (hga hn rfl) Zj4 rfl) pt<|E' (Zda (ZhL (cvl lk rfl) rfl) (ZsK hn) ZsL) pt<|?_
    refine E' (Zcw (ZbI lk (hga hn rfl) rfl Zmo (nb' rfl)) lk (hga hn rfl) Zli (by omega) rfl (hs3 hn)) pt ?_
    refine V' (Zac lk) pt<|E' (Zal lk (cvl lk rfl) (hga hn rfl) rfl (nb' rfl) rfl ZfC (hs1 hn)) ptn<|sn'<|Zat<|?_
    by_cases hs106:ZcL x=true
    ·have hq:ZcJ (sr.1,sr.2.1++[(nm,[])],sr.2.2) x=(curS (sr.1,sr.2.1++[(nm,[x])],sr.2.2) none,false):=by rw [hw,hs106,Zfb];rfl
     refine V' (Zac lk) pt<|V' (Zab lk (hga hn rfl) gt4) pt<|V' (ZaC lk) pt<|mv' lk pt<|Zaq<|Zay<|Zaf<|wr'<|V' (Zac lk) pt<|V' (Zab lk (hga hn rfl) gt1) pt<|mv' lk pt<|?_
     refine ZaM (t:=116) gt pt pt (fun hg116=>?_) (fun hg116=>?_)
     ·have hN:=Zbe hB (.inl hg116)
      refine s_no gt pt<|s_no gt pt<|s_no gt pt<|s_no gt pt<|V' (Zai lk lkb) pt<|mv' lk pt<|s_no gt pt<|s_no gt pt<|s_no gt pt<|s_no gt pt<|s_no gt pt<|s_no gt pt<|s_no gt pt<|V' (Zai lk lkb) pt<|?_
      refine sn'<|ZaG lk<|Zah<|Zca<|u_fr rfl (ZaA ZaH) pt<|u_fr rfl (v_mv lk) pt<|u_fr rfl (v_mv lk) pt<|?_
      refine u_fr rfl (ZaJ lk lk Zbu (nb' rfl) ro (by omega) ro rfl) pt ?_
      refine u_fr rfl (ZaS lk dp0) pt<|u_fr rfl (Zar lk gt) pt<|?_
      refine u_st (Zal lk (cvl lk rfl) (hga hn rfl) rfl (nb' rfl) rfl Za1 (hs0 hn)) lk nh ptn ?_
      refine u_fr rfl (v_mv lk) pt<|u_fr rfl (v_mv lki) pt<|Zc6<|Zaf<|Zaa<|Zas<|Zaj<|Zaj<|Zas<|Zaj<|Zag (rsn (rm1 (rr_c gt (hga hn rfl) (ld1 ZaY rfl)) (rm1 (rr_t gt) (rm1 (rr_t gt) rm0))))<|rtW'<|?_
      have hP:ZbU s=(srcZ,L[k].1,1):=by rw [hV,outP,hrun,hN]
      rw [hP];exact ZbV
     refine s_do gt<|V' (Zac lk) pt<|s_do gt<|V' (Zab lk (hga hn rfl) gt0) pt<|s_do gt<|V' (ZaI lk) pt<|s_do gt<|V' (ZbW lk lki) pt<|V' (Zak lk lk) pt<|mv' lk pt<|?_
     refine sp' (t:=122) gt pt pt (fun hg122=>?_) (fun hg122=>?_)
     ·have hN:=Zbe hB (.inr (.inl (by intro e;rw [e] at hg122;exact absurd hg122 (by decide))))
      refine s_no gt pt<|s_no gt pt<|s_no gt pt<|s_no gt pt<|s_no gt pt<|s_no gt pt<|s_no gt pt<|V' (Zai lk lkb) pt<|sn'<|ZaG lk<|Zah<|Zca<|u_fr rfl (ZaA ZaH) pt<|?_
      refine u_fr rfl (v_mv lk) pt<|u_fr rfl (v_mv lk) pt<|?_
      refine u_fr rfl (ZaJ lk lk Zbu (nb' rfl) ro (by omega) ro rfl) pt ?_
      refine u_fr rfl (ZaS lk dp0) pt<|u_fr rfl (Zar lk gt) pt<|?_
      refine u_st (Zal lk (cvl lk rfl) (hga hn rfl) rfl (nb' rfl) rfl Za1 (hs0 hn)) lk nh ptn ?_
      refine u_fr rfl (v_mv lk) pt<|u_fr rfl (v_mv lki) pt<|Zc6<|Zaf<|Zaa<|Zas<|Zaj<|Zaj<|Zas<|Zaj<|Zag (rsn (rm1 (rr_c gt (hga hn rfl) (ld1 ZaY rfl)) (rm1 (rr_t gt) (rm1 (rr_t gt) rm0))))<|rtW'<|?_
      have hP:ZbU s=(srcZ,L[k].1,1):=by rw [hV,outP,hrun,hN]
      rw [hP];exact ZbV
     refine s_do gt<|mv' lk pt<|s_do gt<|mv' lk pt<|s_do gt<|?_
     refine V' (ZaJ lk lk Zbu (nb' rfl) ro (by omega) ro rfl) pt ?_
     refine s_do gt<|V' (ZaS lk dp1) pt<|s_do gt<|V' (Zar lk gt) pt<|s_do gt<|mv' lk pt<|s_do gt<|V' (ZdM lk lk) pt<|V' (Zak lk lk) pt<|sn'<|?_
     refine cd' lk (fun hc8=>?_) (fun hc8=>?_)
     ·have hN:=Zbe hB (.inr (.inr (by simpa using hc8)))
      refine Zah<|Zca<|u_fr rfl (ZaA ZaH) pt<|u_fr rfl (v_mv lk) pt<|u_fr rfl (v_mv lk) pt<|?_
      refine u_fr rfl (ZaJ lk lk Zbu (nb' rfl) ro (by omega) ro rfl) pt ?_
      refine u_fr rfl (ZaS lk dp0) pt<|u_fr rfl (Zar lk gt) pt<|?_
      refine u_st (Zal lk (cvl lk rfl) (hga hn rfl) rfl (nb' rfl) rfl Za1 (hs0 hn)) lk nh ptn ?_
      refine u_fr rfl (v_mv lk) pt<|u_fr rfl (v_mv lki) pt<|Zc6<|Zaf<|Zaa<|Zas<|Zaj<|Zaj<|Zas<|Zaj<|Zag (rsn (rm1 (rr_c gt (hga hn rfl) (ld1 ZaY rfl)) (rm1 (rr_t gt) (rm1 (rr_t gt) rm0))))<|rtW'<|?_
      have hP:ZbU s=(srcZ,L[k].1,1):=by rw [hV,outP,hrun,hN]
      rw [hP];exact ZbV
     have hu1:u.2=false:=by simpa using hg116
     have hu2:u.1=[]:=List.eq_nil_of_length_eq_zero (by omega)
     have hS:=ZdG hB hu1 hu2 (by simpa using hc8)
     rw [hS] at hrun
     have hokq:=hPT.1
     rw [hB] at hokq
     refine Zad<|Zay<|?_
     refine Za8 ((ALe.iceCellNew (ds:=rows eraC [x]) (k:=sr.2.1.length*2+1) (ty2:=67) (st2:=10) (hga hn rfl) (hga hn rfl) (by omega) (zc_at2 rfl) rfl (Nat.le_refl _) zc_put2 (hs5 hn) (hs3 hn))) ?_
     refine Zat<|mv' lk pt<|?_
     refine V' (Zav lk lki (by omega) (by omega)) pt ?_
     refine mv' lk pt<|Zaq<|ZaB<|?_
     refine lU' (⟨k+1,(sr.1,sr.2.1++[(nm,[x])],sr.2.2),none,sr.2.1.length+1,v1,v2+1,v3,v4+3⟩) (by (try dsimp only);rw [hq] at hrun hokq;exact ⟨by omega,by simp,by omega,by omega,by omega,by simp [eC],hokq,hrun⟩) (by (try dsimp only);(try simp only [sm',Nat.reduceAdd]);exact bkE' 6 hn hlt (by repeat (first | exact wk0 | refine wka ?_ | refine wk1 rfl ?_ | refine wk1 (by first | rfl | exact ivx (by omega) | (simp;done) | exact bvx (by have h9:=hs68;unfold ZcL at h9;rw [h9];rfl) | exact bvx (by have h9:=hs106;unfold ZcL at h9;rw [h9];rfl) | exact bvx (by have h9:=hs68;unfold ZcL at h9;rw [Bool.not_eq_true] at h9;rw [h9];rfl) | exact bvx (by have h9:=hs106;unfold ZcL at h9;rw [Bool.not_eq_true] at h9;rw [h9];rfl)) ?_)) (by simp only [zonC,ZaU,Zbc,zC,eC,List.append_nil,List.length_append,List.length_singleton];rfl) (hT:=by first | rfl | (simp only [AV.lt,AV.ltL,Ent.lt,List.all_cons,List.all_nil,Bool.and_true,Bool.and_self,decide_true,Zby,ZbO,ZbD,ZbK,Zb7,ZfW,ZgQ,lt26,lt36,lt46,lt56];done) | exact lt') (hE:=by first | rfl | (simp only [AV.lt,AV.ltL,Ent.lt,List.all_cons,List.all_nil,Bool.and_true,Bool.and_self,decide_true,Zby,ZbO,ZbD,ZbK,Zb7,ZfW,ZgQ,lt26,lt36,lt46,lt56];done) | exact lt'))
    have hq:ZcJ (sr.1,sr.2.1++[(nm,[])],sr.2.2) x=(curS sr (some (nm,[x])),true):=by rw [hw,show ZcL x=false by simpa using hs106];rfl
    refine V' (Zac lk) pt<|V' (Zab lk (hga hn rfl) gt4) pt<|V' (ZaC lk) pt<|mv' lk pt<|Zaq<|Zay<|Zaf<|wr'<|V' (Zac lk) pt<|V' (Zab lk (hga hn rfl) gt1) pt<|mv' lk pt<|?_
    refine ZaM (t:=116) gt pt pt (fun hg116=>?_) (fun hg116=>?_)
    ·have hN:=Zbe hB (.inl hg116)
     refine s_no gt pt<|s_no gt pt<|s_no gt pt<|s_no gt pt<|V' (Zai lk lkb) pt<|mv' lk pt<|s_no gt pt<|s_no gt pt<|s_no gt pt<|s_no gt pt<|s_no gt pt<|s_no gt pt<|s_no gt pt<|V' (Zai lk lkb) pt<|?_
     refine sn'<|ZaG lk<|Zah<|Zca<|u_fr rfl (ZaA ZaH) pt<|u_fr rfl (v_mv lk) pt<|u_fr rfl (v_mv lk) pt<|?_
     refine u_fr rfl (ZaJ lk lk Zbu (nb' rfl) ro (by omega) ro rfl) pt ?_
     refine u_fr rfl (ZaS lk dp0) pt<|u_fr rfl (Zar lk gt) pt<|?_
     refine u_st (Zal lk (cvl lk rfl) (hga hn rfl) rfl (nb' rfl) rfl Za1 (hs0 hn)) lk nh ptn ?_
     refine u_fr rfl (v_mv lk) pt<|u_fr rfl (v_mv lki) pt<|Zc6<|Zaf<|Zaa<|Zas<|Zaj<|Zaj<|Zas<|Zaj<|Zag (rsn (rm1 (rr_c gt (hga hn rfl) (ld1 ZaY rfl)) (rm1 (rr_t gt) (rm1 (rr_t gt) rm0))))<|rtW'<|?_
     have hP:ZbU s=(srcZ,L[k].1,1):=by rw [hV,outP,hrun,hN]
     rw [hP];exact ZbV
    refine s_do gt<|V' (Zac lk) pt<|s_do gt<|V' (Zab lk (hga hn rfl) gt0) pt<|s_do gt<|V' (ZaI lk) pt<|s_do gt<|V' (ZbW lk lki) pt<|V' (Zak lk lk) pt<|mv' lk pt<|?_
    refine sp' (t:=122) gt pt pt (fun hg122=>?_) (fun hg122=>?_)
    ·have hN:=Zbe hB (.inr (.inl (by intro e;rw [e] at hg122;exact absurd hg122 (by decide))))
     refine s_no gt pt<|s_no gt pt<|s_no gt pt<|s_no gt pt<|s_no gt pt<|s_no gt pt<|s_no gt pt<|V' (Zai lk lkb) pt<|sn'<|ZaG lk<|Zah<|Zca<|u_fr rfl (ZaA ZaH) pt<|?_
     refine u_fr rfl (v_mv lk) pt<|u_fr rfl (v_mv lk) pt<|?_
     refine u_fr rfl (ZaJ lk lk Zbu (nb' rfl) ro (by omega) ro rfl) pt ?_
     refine u_fr rfl (ZaS lk dp0) pt<|u_fr rfl (Zar lk gt) pt<|?_
     refine u_st (Zal lk (cvl lk rfl) (hga hn rfl) rfl (nb' rfl) rfl Za1 (hs0 hn)) lk nh ptn ?_
     refine u_fr rfl (v_mv lk) pt<|u_fr rfl (v_mv lki) pt<|Zc6<|Zaf<|Zaa<|Zas<|Zaj<|Zaj<|Zas<|Zaj<|Zag (rsn (rm1 (rr_c gt (hga hn rfl) (ld1 ZaY rfl)) (rm1 (rr_t gt) (rm1 (rr_t gt) rm0))))<|rtW'<|?_
     have hP:ZbU s=(srcZ,L[k].1,1):=by rw [hV,outP,hrun,hN]
     rw [hP];exact ZbV
    refine s_do gt<|mv' lk pt<|s_do gt<|mv' lk pt<|s_do gt<|?_
    refine V' (ZaJ lk lk Zbu (nb' rfl) ro (by omega) ro rfl) pt ?_
    refine s_do gt<|V' (ZaS lk dp1) pt<|s_do gt<|V' (Zar lk gt) pt<|s_do gt<|mv' lk pt<|s_do gt<|V' (ZdM lk lk) pt<|V' (Zak lk lk) pt<|sn'<|?_
    refine cd' lk (fun hc8=>?_) (fun hc8=>?_)
    ·have hN:=Zbe hB (.inr (.inr (by simpa using hc8)))
     refine Zah<|Zca<|u_fr rfl (ZaA ZaH) pt<|u_fr rfl (v_mv lk) pt<|u_fr rfl (v_mv lk) pt<|?_
     refine u_fr rfl (ZaJ lk lk Zbu (nb' rfl) ro (by omega) ro rfl) pt ?_
     refine u_fr rfl (ZaS lk dp0) pt<|u_fr rfl (Zar lk gt) pt<|?_
     refine u_st (Zal lk (cvl lk rfl) (hga hn rfl) rfl (nb' rfl) rfl Za1 (hs0 hn)) lk nh ptn ?_
     refine u_fr rfl (v_mv lk) pt<|u_fr rfl (v_mv lki) pt<|Zc6<|Zaf<|Zaa<|Zas<|Zaj<|Zaj<|Zas<|Zaj<|Zag (rsn (rm1 (rr_c gt (hga hn rfl) (ld1 ZaY rfl)) (rm1 (rr_t gt) (rm1 (rr_t gt) rm0))))<|rtW'<|?_
     have hP:ZbU s=(srcZ,L[k].1,1):=by rw [hV,outP,hrun,hN]
     rw [hP];exact ZbV
    have hu1:u.2=false:=by simpa using hg116
    have hu2:u.1=[]:=List.eq_nil_of_length_eq_zero (by omega)
    have hS:=ZdG hB hu1 hu2 (by simpa using hc8)
    rw [hS] at hrun
    have hokq:=hPT.1
    rw [hB] at hokq
    refine Zad<|Zay<|Zaf<|Zat<|mv' lk pt<|?_
    refine V' (Zav lk lki (by omega) (by omega)) pt ?_
    refine mv' lk pt<|Zaq<|ZaB<|?_
    refine lU' (⟨k+1,sr,some (nm,[x]),sr.2.1.length+1,v1,v2+1,v3,v4+2⟩) (by (try dsimp only);rw [hq] at hrun hokq;exact ⟨by omega,by simp,by omega,by omega,by omega,by simp [eC],hokq,hrun⟩) (by (try dsimp only);(try simp only [sm',Nat.reduceAdd]);exact bkE' 6 hn hlt (by repeat (first | exact wk0 | refine wka ?_ | refine wk1 rfl ?_ | refine wk1 (by first | rfl | exact ivx (by omega) | (simp;done) | exact bvx (by have h9:=hs68;unfold ZcL at h9;rw [h9];rfl) | exact bvx (by have h9:=hs106;unfold ZcL at h9;rw [h9];rfl) | exact bvx (by have h9:=hs68;unfold ZcL at h9;rw [Bool.not_eq_true] at h9;rw [h9];rfl) | exact bvx (by have h9:=hs106;unfold ZcL at h9;rw [Bool.not_eq_true] at h9;rw [h9];rfl)) ?_)) (by simp only [zonC,ZaU,Zbc,zC,eC,List.append_nil,List.length_append,List.length_singleton];rfl) (hT:=by first | rfl | (simp only [AV.lt,AV.ltL,Ent.lt,List.all_cons,List.all_nil,Bool.and_true,Bool.and_self,decide_true,Zby,ZbO,ZbD,ZbK,Zb7,ZfW,ZgQ,lt26,lt36,lt46,lt56];done) | exact lt') (hE:=by first | rfl | (simp only [AV.lt,AV.ltL,Ent.lt,List.all_cons,List.all_nil,Bool.and_true,Bool.and_self,decide_true,Zby,ZbO,ZbD,ZbK,Zb7,ZfW,ZgQ,lt26,lt36,lt46,lt56];done) | exact lt'))
   have hwZ:¬w=zoneA:=hc6
   refine wr'<|mv' lk pt<|V' (Zci lk lks) pt<|mv' lk pt<|sn'<|?_
   refine cd' lk (fun hc7=>?_) (fun hc7=>?_)
   ·have hwL:w=linkA:=hc7
    obtain ⟨n1,t2,e2⟩ : ∃ a b,Ze2 t1=(a,b):=⟨_,_,rfl⟩
    have o2:=ZhR o1 e2
    obtain ⟨n2,u,e3⟩ : ∃ a b,Ze2 t2=(a,b):=⟨_,_,rfl⟩
    have hB:ZeM (curS sr none,false) (L[k].2.2,false)=((curS (sr.1,sr.2.1,sr.2.2++[(n1,n2)]) none,false),u):=by unfold ZeM;rw [if_neg (by simp)];simp only [Zch,e1,if_neg hwR,if_neg hwZ,if_pos hwL,ret2,e2,e3];rfl
    refine wr'<|E' (Za6 (hl7 hn) ha7) pt<|sn'<|wr'<|ZaT mp (Zkn o1 e2 (hga hn rfl)) (hs6 hn) pt<|V' (Zac lk) pt<|E' (Zal lk (cvl lk rfl) (hga hn rfl) rfl (nb' rfl) rfl Zj6 (hs7 hn)) ptn<|sn'<|wr'<|?_
    refine ZaT mp (Zkn o2 e3 (hga hn rfl)) (hs6 hn) pt<|V' (Zac lk) pt<|E' (Zal lk (cvl lk rfl) (hga hn rfl) rfl (nb' rfl) rfl ZfC (hs7 hn)) ptn<|sn'<|Zat<|V' (Zac lk) pt<|V' (Zab lk (hga hn rfl) gt2) pt<|V' (Zap lk (hga hn rfl) Zj4 rfl) pt<|E' (Zda (ZhK (cvl lk rfl) rfl) (hl8 hn) ha8) pt<|?_
    refine E' (Zcw (ZbI lk (hga hn rfl) rfl Zmo (nb' rfl)) lk (hga hn rfl) (Zm3 _) (by omega) rfl (hs4 hn)) pt ?_
    refine V' (Zac lk) pt<|E' (Zal lk (cvl lk rfl) (hga hn rfl) rfl (nb' rfl) rfl ZpX (hs1 hn)) ptn<|Zaq<|Zay<|Zaf<|wr'<|V' (Zac lk) pt<|V' (Zab lk (hga hn rfl) gt1) pt<|mv' lk pt<|?_
    refine ZaM (t:=116) gt pt pt (fun hg116=>?_) (fun hg116=>?_)
    ·have hN:=Zbe hB (.inl hg116)
     refine s_no gt pt<|s_no gt pt<|s_no gt pt<|s_no gt pt<|V' (Zai lk lkb) pt<|mv' lk pt<|s_no gt pt<|s_no gt pt<|s_no gt pt<|s_no gt pt<|s_no gt pt<|s_no gt pt<|s_no gt pt<|V' (Zai lk lkb) pt<|?_
     refine sn'<|ZaG lk<|Zah<|Zca<|u_fr rfl (ZaA ZaH) pt<|u_fr rfl (v_mv lk) pt<|u_fr rfl (v_mv lk) pt<|?_
     refine u_fr rfl (ZaJ lk lk Zbu (nb' rfl) ro (by omega) ro rfl) pt ?_
     refine u_fr rfl (ZaS lk dp0) pt<|u_fr rfl (Zar lk gt) pt<|?_
     refine u_st (Zal lk (cvl lk rfl) (hga hn rfl) rfl (nb' rfl) rfl Za1 (hs0 hn)) lk nh ptn ?_
     refine u_fr rfl (v_mv lk) pt<|u_fr rfl (v_mv lki) pt<|Zc6<|Zaf<|Zaa<|Zas<|Zaj<|Zaj<|Zas<|Zaj<|Zag (rsn (rm1 (rr_c gt (hga hn rfl) (ld1 ZaY rfl)) (rm1 (rr_t gt) (rm1 (rr_t gt) rm0))))<|rtW'<|?_
     have hP:ZbU s=(srcZ,L[k].1,1):=by rw [hV,outP,hrun,hN]
     rw [hP];exact ZbV
    refine s_do gt<|V' (Zac lk) pt<|s_do gt<|V' (Zab lk (hga hn rfl) gt0) pt<|s_do gt<|V' (ZaI lk) pt<|s_do gt<|V' (ZbW lk lki) pt<|V' (Zak lk lk) pt<|mv' lk pt<|?_
    refine sp' (t:=122) gt pt pt (fun hg122=>?_) (fun hg122=>?_)
    ·have hN:=Zbe hB (.inr (.inl (by intro e;rw [e] at hg122;exact absurd hg122 (by decide))))
     refine s_no gt pt<|s_no gt pt<|s_no gt pt<|s_no gt pt<|s_no gt pt<|s_no gt pt<|s_no gt pt<|V' (Zai lk lkb) pt<|sn'<|ZaG lk<|Zah<|Zca<|u_fr rfl (ZaA ZaH) pt<|?_
     refine u_fr rfl (v_mv lk) pt<|u_fr rfl (v_mv lk) pt<|?_
     refine u_fr rfl (ZaJ lk lk Zbu (nb' rfl) ro (by omega) ro rfl) pt ?_
     refine u_fr rfl (ZaS lk dp0) pt<|u_fr rfl (Zar lk gt) pt<|?_
     refine u_st (Zal lk (cvl lk rfl) (hga hn rfl) rfl (nb' rfl) rfl Za1 (hs0 hn)) lk nh ptn ?_
     refine u_fr rfl (v_mv lk) pt<|u_fr rfl (v_mv lki) pt<|Zc6<|Zaf<|Zaa<|Zas<|Zaj<|Zaj<|Zas<|Zaj<|Zag (rsn (rm1 (rr_c gt (hga hn rfl) (ld1 ZaY rfl)) (rm1 (rr_t gt) (rm1 (rr_t gt) rm0))))<|rtW'<|?_
     have hP:ZbU s=(srcZ,L[k].1,1):=by rw [hV,outP,hrun,hN]
     rw [hP];exact ZbV
    refine s_do gt<|mv' lk pt<|s_do gt<|mv' lk pt<|s_do gt<|?_
    refine V' (ZaJ lk lk Zbu (nb' rfl) ro (by omega) ro rfl) pt ?_
    refine s_do gt<|V' (ZaS lk dp1) pt<|s_do gt<|V' (Zar lk gt) pt<|s_do gt<|mv' lk pt<|s_do gt<|V' (ZdM lk lk) pt<|V' (Zak lk lk) pt<|sn'<|?_
    refine cd' lk (fun hc8=>?_) (fun hc8=>?_)
    ·have hN:=Zbe hB (.inr (.inr (by simpa using hc8)))
     refine Zah<|Zca<|u_fr rfl (ZaA ZaH) pt<|u_fr rfl (v_mv lk) pt<|u_fr rfl (v_mv lk) pt<|?_
     refine u_fr rfl (ZaJ lk lk Zbu (nb' rfl) ro (by omega) ro rfl) pt ?_
     refine u_fr rfl (ZaS lk dp0) pt<|u_fr rfl (Zar lk gt) pt<|?_
     refine u_st (Zal lk (cvl lk rfl) (hga hn rfl) rfl (nb' rfl) rfl Za1 (hs0 hn)) lk nh ptn ?_
     refine u_fr rfl (v_mv lk) pt<|u_fr rfl (v_mv lki) pt<|Zc6<|Zaf<|Zaa<|Zas<|Zaj<|Zaj<|Zas<|Zaj<|Zag (rsn (rm1 (rr_c gt (hga hn rfl) (ld1 ZaY rfl)) (rm1 (rr_t gt) (rm1 (rr_t gt) rm0))))<|rtW'<|?_
     have hP:ZbU s=(srcZ,L[k].1,1):=by rw [hV,outP,hrun,hN]
     rw [hP];exact ZbV
    have hu1:u.2=false:=by simpa using hg116
    have hu2:u.1=[]:=List.eq_nil_of_length_eq_zero (by omega)
    have hS:=ZdG hB hu1 hu2 (by simpa using hc8)
    rw [hS] at hrun
    have hokq:=hPT.1
    rw [hB] at hokq
    refine Zad<|Zay<|Zaf<|Zat<|mv' lk pt<|?_
    refine V' (Zav lk lki (by omega) (by omega)) pt ?_
    refine mv' lk pt<|Zaq<|ZaB<|?_
    refine lU' (⟨k+1,(sr.1,sr.2.1,sr.2.2++[(n1,n2)]),none,sr.2.1.length,v1,v2,v3+1,v4⟩) (by (try dsimp only);exact ⟨by omega,by simp,by omega,by omega,by simp;omega,by simp [eC],hokq,hrun⟩) (by (try dsimp only);(try simp only [sm',Nat.reduceAdd]);exact bkE' 6 hn hlt (by repeat (first | exact wk0 | refine wka ?_ | refine wk1 rfl ?_ | refine wk1 (by first | rfl | exact ivx (by omega) | (simp;done) | exact bvx (by have h9:=hs68;unfold ZcL at h9;rw [h9];rfl) | exact bvx (by have h9:=hs106;unfold ZcL at h9;rw [h9];rfl) | exact bvx (by have h9:=hs68;unfold ZcL at h9;rw [Bool.not_eq_true] at h9;rw [h9];rfl) | exact bvx (by have h9:=hs106;unfold ZcL at h9;rw [Bool.not_eq_true] at h9;rw [h9];rfl)) ?_)) (by simp only [zonC,ZaU,Zbc,zC,eC,List.append_nil,List.length_append,List.length_singleton];rfl) (hT:=by first | rfl | (simp only [AV.lt,AV.ltL,Ent.lt,List.all_cons,List.all_nil,Bool.and_true,Bool.and_self,decide_true,Zby,ZbO,ZbD,ZbK,Zb7,ZfW,ZgQ,lt26,lt36,lt46,lt56];done) | exact lt') (hE:=by first | rfl | (simp only [AV.lt,AV.ltL,Ent.lt,List.all_cons,List.all_nil,Bool.and_true,Bool.and_self,decide_true,Zby,ZbO,ZbD,ZbK,Zb7,ZfW,ZgQ,lt26,lt36,lt46,lt56];done) | exact lt'))
   have hwL:¬w=linkA:=hc7
   have hB:ZeM (curS sr none,false) (L[k].2.2,false)=((curS sr none,false),bad t1):=by unfold ZeM;rw [if_neg (by simp)];simp only [Zch,e1,if_neg hwR,if_neg hwZ,if_neg hwL]
   have hN:=Zbe hB (.inl rfl)
   refine Zat<|V' (Zac lk) pt<|E' (Zal lk (cvl lkb rfl) (hga hn rfl) rfl (nb' rfl) rfl ZfC (hs6 hn)) ptn<|Zaq<|Zay<|Zaf<|wr'<|V' (Zac lk) pt<|V' (Zab lk (hga hn rfl) gt1) pt<|mv' lk pt<|s_no gt pt<|s_no gt pt<|s_no gt pt<|?_
   refine s_no gt pt<|V' (Zai lk lkb) pt<|mv' lk pt<|s_no gt pt<|s_no gt pt<|s_no gt pt<|s_no gt pt<|s_no gt pt<|s_no gt pt<|s_no gt pt<|V' (Zai lk lkb) pt<|sn'<|ZaG lk<|?_
   refine Zah<|Zca<|u_fr rfl (ZaA ZaH) pt<|u_fr rfl (v_mv lk) pt<|u_fr rfl (v_mv lk) pt<|?_
   refine u_fr rfl (ZaJ lk lk Zbu (nb' rfl) ro (by omega) ro rfl) pt ?_
   refine u_fr rfl (ZaS lk dp0) pt<|u_fr rfl (Zar lk gt) pt<|?_
   refine u_st (Zal lk (cvl lk rfl) (hga hn rfl) rfl (nb' rfl) rfl Za1 (hs0 hn)) lk nh ptn ?_
   refine u_fr rfl (v_mv lk) pt<|u_fr rfl (v_mv lki) pt<|Zc6<|Zaf<|Zaa<|Zas<|Zaj<|Zaj<|Zas<|Zaj<|Zag (rsn (rm1 (rr_c gt (hga hn rfl) (ld1 ZaY rfl)) (rm1 (rr_t gt) (rm1 (rr_t gt) rm0))))<|rtW'<|?_
   have hP:ZbU s=(srcZ,L[k].1,1):=by rw [hV,outP,hrun,hN]
   rw [hP];exact ZbV
  obtain ⟨z,rfl⟩:=Option.ne_none_iff_exists'.1 hs36
  simp only [Option.isSome_some] at hrun hPT
  have hm':m=sr.2.1.length+1:=by simpa using hm
  have hk5':z.2.length≤k:=hk5
  obtain ⟨x,u,eE⟩ : ∃ a b,tEra (L[k].2.2,false)=(a,b):=⟨_,_,rfl⟩
  have hB:ZeM (curS sr (some z),true) (L[k].2.2,false)=(ZcJ (curS sr (some z)) x,u):=by unfold ZeM;rw [if_pos rfl];simp only [Zch,ret2,eE]
  have hw:ZcJ (curS sr (some z)) x=((sr.1,sr.2.1++[(z.1,z.2++[x])],sr.2.2),!ZcL x):=by unfold ZcJ curS;rw [show sr.2.1++(some z).toList=sr.2.1++[z] from rfl,Zf5]
  refine mv' lk pt<|mv' lk pt<|sn'<|wr'<|mv' lks pt<|sn'<|Zah<|wr'<|mv' lk pt<|?_
  refine V' ((by first | exact v_not lk | exact ZaC lk)) pt ?_
  refine sn' ?_
  refine Zcr lk (by rfl) ?_
  refine Zad<|Zaf<|Zah<|Zan<|wr'<|mv' lk pt<|mv' lk pt<|sn'<|?_
  refine Zc4 lk (by rfl) ?_
  refine wr'<|V' (Zac lk) pt<|V' (Zab lk (hga hn rfl) gt1) pt<|V' (ZcC lk) pt<|?_
  refine V' (Zbn lk lki (by omega) (by omega)) pt ?_
  refine mv' lk pt<|sn'<|wr'<|ZaT mp (tera_e hokt eE (hga hn rfl)) (hs6 hn) pt<|E' (Za6 (hl7 hn) ha7) pt<|E' (Zal lk (cvl lk rfl) (hga hn rfl) rfl (nb' rfl) rfl ZiP (hs7 hn)) ptn<|sn'<|Zah<|Zqz [N+1]<|D' (Zac lk) pt<|?_
  refine d_ldP lk (hga hn rfl) (ld0 gt) (by simp) pt ?_
  refine D' (v_mv lk) pt<|D' (Zac lk) pt<|D' (Zab lk (hga hn rfl) gt1) pt<|D' (v_mv lk) pt<|?_
  refine D' (v_iaO lk lk (hga hn rfl) (nb' rfl) (by omega) (by omega) (by rw [Zli];simp;omega)) pt ?_
  refine D' (Zbg lk) pt ?_
  refine D' (Zab lk (hga hn rfl) (zc_at (by omega))) pt ?_
  refine D' (Zap lk (hga hn rfl) ZiO rfl) pt<|Zha rfl rfl (hlk hn rfl) (ZkQ (ZiT (cvl lk rfl) rfl)) pt ZsJ<|Zbj<|k_e_ent ZpY<|?_
  refine ZrQ rfl rfl (Zcw (ZbI lk (hga hn rfl) rfl Zj3 (nb' rfl)) lk (hga hn rfl) (ZkV _) (by omega) rfl (hs5 hn)) (by intro i hi;simp only [cond_true,List.mem_cons,List.not_mem_nil,or_false] at hi;subst hi;first | rfl | exact (hga hn rfl).trans (hga hn rfl).symm) pt ?_
  refine k_val rfl (v_iaO lk lk (hga hn rfl) (nb' rfl) (by omega) (by omega) (by rw [Zli];simp;omega)) pt ?_
  refine k_val rfl (Zbg lk) pt ?_
  refine ZrQ rfl rfl (Zal lk (cvl lk rfl) (hga hn rfl) rfl (by rw [Zli];simp;omega) rfl (zc_set (by omega)) (hs3 hn)) (by intro i hi;simp at hi) ptn ?_
  refine k_nil<|Zaf<|Zat<|?_
  by_cases hs68:ZcL x=true
  ·have hq:ZcJ (curS sr (some z)) x=(curS (sr.1,sr.2.1++[(z.1,z.2++[x])],sr.2.2) none,false):=by rw [hw,hs68,Zfb];rfl
   refine V' (Zac lk) pt<|V' (Zab lk (hga hn rfl) gt4) pt<|V' (ZaC lk) pt<|mv' lk pt<|Zaq<|Zay<|Zaf<|wr'<|V' (Zac lk) pt<|V' (Zab lk (hga hn rfl) gt1) pt<|mv' lk pt<|?_
   refine ZaM (t:=116) gt pt pt (fun hg116=>?_) (fun hg116=>?_)
   ·have hN:=Zbe hB (.inl hg116)
    refine s_no gt pt<|s_no gt pt<|s_no gt pt<|s_no gt pt<|V' (Zai lk lkb) pt<|mv' lk pt<|s_no gt pt<|s_no gt pt<|s_no gt pt<|s_no gt pt<|s_no gt pt<|s_no gt pt<|s_no gt pt<|V' (Zai lk lkb) pt<|?_
    refine sn'<|ZaG lk<|Zah<|Zca<|u_fr rfl (ZaA ZaH) pt<|u_fr rfl (v_mv lk) pt<|u_fr rfl (v_mv lk) pt<|?_
    refine u_fr rfl (ZaJ lk lk Zbu (nb' rfl) ro (by omega) ro rfl) pt ?_
    refine u_fr rfl (ZaS lk dp0) pt<|u_fr rfl (Zar lk gt) pt<|?_
    refine u_st (Zal lk (cvl lk rfl) (hga hn rfl) rfl (nb' rfl) rfl Za1 (hs0 hn)) lk nh ptn ?_
    refine u_fr rfl (v_mv lk) pt<|u_fr rfl (v_mv lki) pt<|Zc6<|Zaf<|Zaa<|Zas<|Zaj<|Zaj<|Zas<|Zaj<|Zag (rsn (rm1 (rr_c gt (hga hn rfl) (ld1 ZaY rfl)) (rm1 (rr_t gt) (rm1 (rr_t gt) rm0))))<|rtW'<|?_
    have hP:ZbU s=(srcZ,L[k].1,1):=by rw [hV,outP,hrun,hN]
    rw [hP];exact ZbV
   refine s_do gt<|V' (Zac lk) pt<|s_do gt<|V' (Zab lk (hga hn rfl) gt0) pt<|s_do gt<|V' (ZaI lk) pt<|s_do gt<|V' (ZbW lk lki) pt<|V' (Zak lk lk) pt<|mv' lk pt<|?_
   refine sp' (t:=122) gt pt pt (fun hg122=>?_) (fun hg122=>?_)
   ·have hN:=Zbe hB (.inr (.inl (by intro e;rw [e] at hg122;exact absurd hg122 (by decide))))
    refine s_no gt pt<|s_no gt pt<|s_no gt pt<|s_no gt pt<|s_no gt pt<|s_no gt pt<|s_no gt pt<|V' (Zai lk lkb) pt<|sn'<|ZaG lk<|Zah<|Zca<|u_fr rfl (ZaA ZaH) pt<|?_
    refine u_fr rfl (v_mv lk) pt<|u_fr rfl (v_mv lk) pt<|?_
    refine u_fr rfl (ZaJ lk lk Zbu (nb' rfl) ro (by omega) ro rfl) pt ?_
    refine u_fr rfl (ZaS lk dp0) pt<|u_fr rfl (Zar lk gt) pt<|?_
    refine u_st (Zal lk (cvl lk rfl) (hga hn rfl) rfl (nb' rfl) rfl Za1 (hs0 hn)) lk nh ptn ?_
    refine u_fr rfl (v_mv lk) pt<|u_fr rfl (v_mv lki) pt<|Zc6<|Zaf<|Zaa<|Zas<|Zaj<|Zaj<|Zas<|Zaj<|Zag (rsn (rm1 (rr_c gt (hga hn rfl) (ld1 ZaY rfl)) (rm1 (rr_t gt) (rm1 (rr_t gt) rm0))))<|rtW'<|?_
    have hP:ZbU s=(srcZ,L[k].1,1):=by rw [hV,outP,hrun,hN]
    rw [hP];exact ZbV
   refine s_do gt<|mv' lk pt<|s_do gt<|mv' lk pt<|s_do gt<|?_
   refine V' (ZaJ lk lk Zbu (nb' rfl) ro (by omega) ro rfl) pt ?_
   refine s_do gt<|V' (ZaS lk dp1) pt<|s_do gt<|V' (Zar lk gt) pt<|s_do gt<|mv' lk pt<|s_do gt<|V' (ZdM lk lk) pt<|V' (Zak lk lk) pt<|sn'<|?_
   refine cd' lk (fun hc8=>?_) (fun hc8=>?_)
   ·have hN:=Zbe hB (.inr (.inr (by simpa using hc8)))
    refine Zah<|Zca<|u_fr rfl (ZaA ZaH) pt<|u_fr rfl (v_mv lk) pt<|u_fr rfl (v_mv lk) pt<|?_
    refine u_fr rfl (ZaJ lk lk Zbu (nb' rfl) ro (by omega) ro rfl) pt ?_
    refine u_fr rfl (ZaS lk dp0) pt<|u_fr rfl (Zar lk gt) pt<|?_
    refine u_st (Zal lk (cvl lk rfl) (hga hn rfl) rfl (nb' rfl) rfl Za1 (hs0 hn)) lk nh ptn ?_
    refine u_fr rfl (v_mv lk) pt<|u_fr rfl (v_mv lki) pt<|Zc6<|Zaf<|Zaa<|Zas<|Zaj<|Zaj<|Zas<|Zaj<|Zag (rsn (rm1 (rr_c gt (hga hn rfl) (ld1 ZaY rfl)) (rm1 (rr_t gt) (rm1 (rr_t gt) rm0))))<|rtW'<|?_
    have hP:ZbU s=(srcZ,L[k].1,1):=by rw [hV,outP,hrun,hN]
    rw [hP];exact ZbV
   have hu1:u.2=false:=by simpa using hg116
   have hu2:u.1=[]:=List.eq_nil_of_length_eq_zero (by omega)
   have hS:=ZdG hB hu1 hu2 (by simpa using hc8)
   rw [hS] at hrun
   have hokq:=hPT.1
   rw [hB] at hokq
   refine Zad<|Zay<|?_
   refine Za8 ((ALe.iceCellNew (ds:=rows eraC (z.2++[x])) (k:=sr.2.1.length*2+1) (ty2:=67) (st2:=10) (hga hn rfl) (hga hn rfl) (by omega) (zc_at rfl) (by rw [ZaU,Zbc];exact List.take_of_length_le (by simp [ZkV,eC];omega)) (by simp [ZkV,eC];omega) zc_put (hs5 hn) (hs3 hn))) ?_
   refine Zat<|mv' lk pt<|?_
   refine V' (Zav lk lki (by omega) (by omega)) pt ?_
   refine mv' lk pt<|Zaq<|ZaB<|?_
   refine lU' (⟨k+1,(sr.1,sr.2.1++[(z.1,z.2++[x])],sr.2.2),none,m,v1,v2,v3,v4+2⟩) (by (try dsimp only);rw [hq] at hrun hokq;exact ⟨by omega,by simp;omega,by omega,by omega,by omega,by simp [eC],hokq,hrun⟩) (by (try dsimp only);(try simp only [sm',Nat.reduceAdd]);exact bkE' 6 hn hlt (by repeat (first | exact wk0 | refine wka ?_ | refine wk1 rfl ?_ | refine wk1 (by first | rfl | exact ivx (by omega) | (simp;done) | exact bvx (by have h9:=hs68;unfold ZcL at h9;rw [h9];rfl) | exact bvx (by have h9:=hs106;unfold ZcL at h9;rw [h9];rfl) | exact bvx (by have h9:=hs68;unfold ZcL at h9;rw [Bool.not_eq_true] at h9;rw [h9];rfl) | exact bvx (by have h9:=hs106;unfold ZcL at h9;rw [Bool.not_eq_true] at h9;rw [h9];rfl)) ?_)) (by simp only [zonC,ZaU,Zbc,zC,eC,List.append_nil,List.length_append,List.length_singleton];rfl) (hT:=by first | rfl | (simp only [AV.lt,AV.ltL,Ent.lt,List.all_cons,List.all_nil,Bool.and_true,Bool.and_self,decide_true,Zby,ZbO,ZbD,ZbK,Zb7,ZfW,ZgQ,lt26,lt36,lt46,lt56];done) | exact lt') (hE:=by first | rfl | (simp only [AV.lt,AV.ltL,Ent.lt,List.all_cons,List.all_nil,Bool.and_true,Bool.and_self,decide_true,Zby,ZbO,ZbD,ZbK,Zb7,ZfW,ZgQ,lt26,lt36,lt46,lt56];done) | exact lt'))
  have hq:ZcJ (curS sr (some z)) x=(curS sr (some (z.1,z.2++[x])),true):=by rw [hw,show ZcL x=false by simpa using hs68];rfl
  refine V' (Zac lk) pt<|V' (Zab lk (hga hn rfl) gt4) pt<|V' (ZaC lk) pt<|mv' lk pt<|Zaq<|Zay<|Zaf<|wr'<|V' (Zac lk) pt<|V' (Zab lk (hga hn rfl) gt1) pt<|mv' lk pt<|?_
  refine ZaM (t:=116) gt pt pt (fun hg116=>?_) (fun hg116=>?_)
  ·have hN:=Zbe hB (.inl hg116)
   refine s_no gt pt<|s_no gt pt<|s_no gt pt<|s_no gt pt<|V' (Zai lk lkb) pt<|mv' lk pt<|s_no gt pt<|s_no gt pt<|s_no gt pt<|s_no gt pt<|s_no gt pt<|s_no gt pt<|s_no gt pt<|V' (Zai lk lkb) pt<|?_
   refine sn'<|ZaG lk<|Zah<|Zca<|u_fr rfl (ZaA ZaH) pt<|u_fr rfl (v_mv lk) pt<|u_fr rfl (v_mv lk) pt<|?_
   refine u_fr rfl (ZaJ lk lk Zbu (nb' rfl) ro (by omega) ro rfl) pt ?_
   refine u_fr rfl (ZaS lk dp0) pt<|u_fr rfl (Zar lk gt) pt<|?_
   refine u_st (Zal lk (cvl lk rfl) (hga hn rfl) rfl (nb' rfl) rfl Za1 (hs0 hn)) lk nh ptn ?_
   refine u_fr rfl (v_mv lk) pt<|u_fr rfl (v_mv lki) pt<|Zc6<|Zaf<|Zaa<|Zas<|Zaj<|Zaj<|Zas<|Zaj<|Zag (rsn (rm1 (rr_c gt (hga hn rfl) (ld1 ZaY rfl)) (rm1 (rr_t gt) (rm1 (rr_t gt) rm0))))<|rtW'<|?_
   have hP:ZbU s=(srcZ,L[k].1,1):=by rw [hV,outP,hrun,hN]
   rw [hP];exact ZbV
  refine s_do gt<|V' (Zac lk) pt<|s_do gt<|V' (Zab lk (hga hn rfl) gt0) pt<|s_do gt<|V' (ZaI lk) pt<|s_do gt<|V' (ZbW lk lki) pt<|V' (Zak lk lk) pt<|mv' lk pt<|?_
  refine sp' (t:=122) gt pt pt (fun hg122=>?_) (fun hg122=>?_)
  ·have hN:=Zbe hB (.inr (.inl (by intro e;rw [e] at hg122;exact absurd hg122 (by decide))))
   refine s_no gt pt<|s_no gt pt<|s_no gt pt<|s_no gt pt<|s_no gt pt<|s_no gt pt<|s_no gt pt<|V' (Zai lk lkb) pt<|sn'<|ZaG lk<|Zah<|Zca<|u_fr rfl (ZaA ZaH) pt<|?_
   refine u_fr rfl (v_mv lk) pt<|u_fr rfl (v_mv lk) pt<|?_
   refine u_fr rfl (ZaJ lk lk Zbu (nb' rfl) ro (by omega) ro rfl) pt ?_
   refine u_fr rfl (ZaS lk dp0) pt<|u_fr rfl (Zar lk gt) pt<|?_
   refine u_st (Zal lk (cvl lk rfl) (hga hn rfl) rfl (nb' rfl) rfl Za1 (hs0 hn)) lk nh ptn ?_
   refine u_fr rfl (v_mv lk) pt<|u_fr rfl (v_mv lki) pt<|Zc6<|Zaf<|Zaa<|Zas<|Zaj<|Zaj<|Zas<|Zaj<|Zag (rsn (rm1 (rr_c gt (hga hn rfl) (ld1 ZaY rfl)) (rm1 (rr_t gt) (rm1 (rr_t gt) rm0))))<|rtW'<|?_
   have hP:ZbU s=(srcZ,L[k].1,1):=by rw [hV,outP,hrun,hN]
   rw [hP];exact ZbV
  refine s_do gt<|mv' lk pt<|s_do gt<|mv' lk pt<|s_do gt<|?_
  refine V' (ZaJ lk lk Zbu (nb' rfl) ro (by omega) ro rfl) pt ?_
  refine s_do gt<|V' (ZaS lk dp1) pt<|s_do gt<|V' (Zar lk gt) pt<|s_do gt<|mv' lk pt<|s_do gt<|V' (ZdM lk lk) pt<|V' (Zak lk lk) pt<|sn'<|?_
  refine cd' lk (fun hc8=>?_) (fun hc8=>?_)
  ·have hN:=Zbe hB (.inr (.inr (by simpa using hc8)))
   refine Zah<|Zca<|u_fr rfl (ZaA ZaH) pt<|u_fr rfl (v_mv lk) pt<|u_fr rfl (v_mv lk) pt<|?_
   refine u_fr rfl (ZaJ lk lk Zbu (nb' rfl) ro (by omega) ro rfl) pt ?_
   refine u_fr rfl (ZaS lk dp0) pt<|u_fr rfl (Zar lk gt) pt<|?_
   refine u_st (Zal lk (cvl lk rfl) (hga hn rfl) rfl (nb' rfl) rfl Za1 (hs0 hn)) lk nh ptn ?_
   refine u_fr rfl (v_mv lk) pt<|u_fr rfl (v_mv lki) pt<|Zc6<|Zaf<|Zaa<|Zas<|Zaj<|Zaj<|Zas<|Zaj<|Zag (rsn (rm1 (rr_c gt (hga hn rfl) (ld1 ZaY rfl)) (rm1 (rr_t gt) (rm1 (rr_t gt) rm0))))<|rtW'<|?_
   have hP:ZbU s=(srcZ,L[k].1,1):=by rw [hV,outP,hrun,hN]
   rw [hP];exact ZbV
  have hu1:u.2=false:=by simpa using hg116
  have hu2:u.1=[]:=List.eq_nil_of_length_eq_zero (by omega)
  have hS:=ZdG hB hu1 hu2 (by simpa using hc8)
  rw [hS] at hrun
  have hokq:=hPT.1
  rw [hB] at hokq
  refine Zad<|Zay<|Zaf<|Zat<|mv' lk pt<|?_
  refine V' (Zav lk lki (by omega) (by omega)) pt ?_
  refine mv' lk pt<|Zaq<|ZaB<|?_
  refine lU' (⟨k+1,sr,some (z.1,z.2++[x]),m,v1,v2,v3,v4+1⟩) (by (try dsimp only);rw [hq] at hrun hokq;exact ⟨by omega,by simp;omega,by omega,by omega,by omega,by simp [eC] at hk5 ⊢;omega,hokq,hrun⟩) (by (try dsimp only);(try simp only [sm',Nat.reduceAdd]);exact bkE' 6 hn hlt (by repeat (first | exact wk0 | refine wka ?_ | refine wk1 rfl ?_ | refine wk1 (by first | rfl | exact ivx (by omega) | (simp;done) | exact bvx (by have h9:=hs68;unfold ZcL at h9;rw [h9];rfl) | exact bvx (by have h9:=hs106;unfold ZcL at h9;rw [h9];rfl) | exact bvx (by have h9:=hs68;unfold ZcL at h9;rw [Bool.not_eq_true] at h9;rw [h9];rfl) | exact bvx (by have h9:=hs106;unfold ZcL at h9;rw [Bool.not_eq_true] at h9;rw [h9];rfl)) ?_)) (by simp only [zonC,ZaU,Zbc,zC,eC,List.append_nil,List.length_append,List.length_singleton];rfl) (hT:=by first | rfl | (simp only [AV.lt,AV.ltL,Ent.lt,List.all_cons,List.all_nil,Bool.and_true,Bool.and_self,decide_true,Zby,ZbO,ZbD,ZbK,Zb7,ZfW,ZgQ,lt26,lt36,lt46,lt56];done) | exact lt') (hE:=by first | rfl | (simp only [AV.lt,AV.ltL,Ent.lt,List.all_cons,List.all_nil,Bool.and_true,Bool.and_self,decide_true,Zby,ZbO,ZbD,ZbK,Zb7,ZfW,ZgQ,lt26,lt36,lt46,lt56];done) | exact lt'))
 have hke:k=L.length:=by omega
 rw [List.drop_of_length_le (by omega),runR] at hrun
 have hV2:ZbU s=endP (curS sr o,o.isSome):=by rw [hV,outP,hrun]
 refine ZaE<|Zaz<|Zaz<|ZaX<|Zaf<|Zah<|wr'<|mv' lk pt<|sn'<|?_
 refine cd' lk (fun hc9=>?_) (fun hc9=>?_)
 ·have hP:ZbU s=(srcZ,0,1):=by rw [hV2];exact if_pos hc9
  refine wr'<|V' (ZaA ZhJ) pt<|E' (Zal lk (cvl lk rfl) (hga hn rfl) rfl (nb' rfl) rfl Za1 (hs0 hn)) ptn<|mv' lki pt<|mv' lki pt<|sn'<|Zaa<|Zaj<|Zag (rsn (rm1 (rr_c gt (hga hn rfl) (ld1 ZaY rfl)) (rm1 (rr_t gt) (rm1 (rr_t gt) rm0))))<|rtW'<|?_
  rw [hP];exact ZbV
 obtain rfl:o=none:=by cases o;rfl;cases hc9
 have hm':m=sr.2.1.length:=by simpa using hm
 subst hm'
 rw [Zfb] at hok hV2
 refine Zad ?_
 refine Za8 ((ALe.trans (ALe.iceCellR (ds:=rows rulC sr.1) (hga hn rfl) (hga hn rfl) (by omega) gt0 (List.take_of_length_le (by rw [ZmO];exact Nat.le_refl _)) (by rw [ZmO];exact Nat.le_refl _) pt0 (hs2 hn) (hs1 hn)) (ALe.trans (ALe.iceCellR (ds:=rows zonC sr.2.1) (hga hn rfl) (hga hn rfl) (by omega) gt1 (by rw [show rows zonC sr.2.1++zC N v4 none=rows zonC sr.2.1 from List.append_nil _];exact List.take_of_length_le (by rw [ZgP];exact Nat.le_refl _)) (by rw [Zli];simp) pt1 (hs3 hn) (hs1 hn)) (ALe.iceCellR (ds:=rows lnkC sr.2.2) (hga hn rfl) (hga hn rfl) (by omega) gt2 (List.take_of_length_le (by rw [Zm3];exact Nat.le_refl _)) (by rw [Zm3];exact Nat.le_refl _) pt2 (hs4 hn) (hs1 hn))))) ?_
 refine wr'<|V' (Zap lk (hga hn rfl) ZaY rfl) pt<|Zae mp (ZlI (a:=sr.1) (z:=sr.2.1) (l:=sr.2.2) hok) pt<|mv' lk pt<|sn'<|Zah<|wr'<|mv' lk pt<|V' (Za5 lk lki) pt<|sn'<|?_
 refine cd' lk (fun hc10=>?_) (fun hc10=>?_)
 ·have hP:ZbU s=(srcZ,0,ZbQ sr):=by rw [hV2,endP,if_neg (by simp)];exact if_pos hc10
  refine wr'<|V' (ZaA ZhI) pt<|mv' lk pt<|E' (Zal lk (cvl lk rfl) (hga hn rfl) rfl (nb' rfl) rfl Za1 (hs0 hn)) ptn<|mv' lki pt<|mv' lk pt<|sn'<|Zaa<|Zaj<|Zag (rsn (rm1 (rr_c gt (hga hn rfl) (ld1 ZaY rfl)) (rm1 (rr_t gt) (rm1 (rr_t gt) rm0))))<|rtW'<|?_
  rw [hP];exact ZbV
 have h0:ZbQ sr=0:=Decidable.of_not_not hc10
 have hP:ZbU s=(sr,0,0):=by rw [hV2,endP,if_neg (by simp)];exact if_neg hc10
 refine Zad<|Zaf<|wr'<|V' (Zap lk (hga hn rfl) ZaY rfl) pt<|mv' lk pt<|E' (Zal lk (cvl lk rfl) (hga hn rfl) rfl (nb' rfl) rfl Za1 (hs0 hn)) ptn<|mv' lki pt<|mv' lk pt<|sn'<|Zaa<|Zag (rsn (rm1 (rr_c gt (hga hn rfl) (ld1 ZaY rfl)) (rm1 (rr_t gt) (rm1 (rr_t gt) rm0))))<|rtW'<|?_
 rw [hP];exact Wk.tup (wk1 rfl (wk1 rfl (wk1 (ivx h0.symm) wk0)))
end Go.Proofs.YthdifaphoaekoaaGreatDoor
end
section
namespace Go.Proofs.YthdifaphoaekoaaGreatDoor
open Go.ChangeShapes Go.WideShapes Go.ChangeAt Go.RowKit
theorem own:ownKnob Tryz.prog.godebug=none:=by kernel_rfl
theorem ZrP:laidOutB Tryz.prog=true:=by kernel_rfl
theorem Zgd {H:Type}{enc:TypeId×Value→H}{P:Program}(hl:laidOutB P=true) {W W':World}(hb:Below W.heap.size W W') :
  ∀ (ts:List TypeId) (vs:List Value) (ds:List (DataW H)) (ps:List MemPlace),(ts.all fun t=>P.readableRec t&&decide (t<P.types.size))=true→(∀ x∈ps,x.block<W.heap.size) →
   DataW.TrodAll enc P W 0 (fun _=>true) true ts vs ds ps→DataW.TrodAll enc P W' 0 (fun b=>decide (b<W.heap.size)) true ts vs ds ps
 | [],[],[],ps,_,_,h=>h
 | t::ts,v::vs,d::ds,ps,hr,hlt,h=>by
  obtain ⟨p,q,h1,h2,rfl⟩:=h
  simp only [List.all_cons,Bool.and_eq_true,decide_eq_true_eq] at hr
  exact ⟨p,q,Below.trod hl hr.1.1 hr.1.2 h1 hb (fun x hx=>hlt x (List.mem_append.2 (.inl hx))),
   Zgd hl hb ts vs ds q hr.2 (fun x hx=>hlt x (List.mem_append.2 (.inr hx))) h2,rfl⟩
 | [],_::_,_,_,_,_,h=>by simp [DataW.TrodAll] at h
 | [],[],_::_,_,_,_,h=>by simp [DataW.TrodAll] at h
 | _::_,[],_,_,_,_,h=>by simp [DataW.TrodAll] at h
 | _::_,_::_,[],_,_,_,h=>by simp [DataW.TrodAll] at h
theorem Zoq {H:Type}{enc:TypeId×Value→H}{P:Program}{f:Func}{s:ChangeSpec}{handsOn fresh:Bool}{W W':World}{args:Array Value}{ds gs:List (DataW H)}{before:List MemPlace}{tb:TypeId}
  (hl:laidOutB P=true) (hts:(f.params.toList.all fun t=>P.readableRec t&&decide (t<P.types.size))=true)
  (hrt:f.resultTypes = #[tb]) (htb:P.underlying tb=some .bool) (hvars:s.vars=[])
  (hs:s.fn H ds={ results:=[.lit (.bool true)],args:=ds })
  (hW:DataW.Whole enc P f.params.toList s.vars false W args.toList ds gs before) (hb:Below W.heap.size W W') :
  s.post enc P f false fresh handsOn false W args (.bool true) W':=by
 have hW':=hW
 obtain ⟨p,q,hA,hV,rfl,_,_⟩:=hW
 rw [hvars] at hV
 obtain ⟨rfl,rfl⟩:=trodVars_none hV
 have hlt : ∀ x∈p,x.block<W.heap.size:=fun x hx=>by simpa using hW'.lt x (List.mem_append.2 (.inl hx))
 have e1:s.fn H (ds++[])={ results:=[.lit (.bool true)],args:=ds }:=by simpa using hs
 refine ⟨ds,[],p++[],[],p,[],hW',?_,?_,?_,hb.frame _,fun h=>by cases h⟩
 ·rw [e1,hrt];exact trodAll_mk1 (shut_bool htb _)
 ·rw [e1];exact Zgd hl hb _ _ _ _ hts hlt hA
 ·rw [e1,hvars];exact rfl
end Go.Proofs.YthdifaphoaekoaaGreatDoor
end
section
namespace Go.Proofs.YthdifaphoaekoaaGreatDoor
open Go.ChangeShapes Go.WideShapes Go.ChangeAt Go.RowKit Go.Deep Go.Ab
inductive Ds where
 | int | str | bool
 | pair (a b:Ds)
 | slice (a:Ds)
@[reducible] def El:Ds→Type
 | .int=>Int
 | .str=>ByteArray
 | .bool=>Bool
 | .pair a b=>El a×El b
 | .slice a=>List (El a)
def Ds.size:Ds→Nat
 | .pair a b=>a.size+b.size
 | _=>1
theorem Ds.size_pos (d:Ds):0<d.size:=by
 induction d with
 | pair a b iha ihb=>simp only [Ds.size];omega
 | _=>simp [Ds.size]
def Rd (w:World) (B:Nat):(d:Ds)→List Value→El d→Prop
  | .int,cs,n=>cs=[.int .i64 n] ∧ -9223372036854775808≤n∧n≤9223372036854775807
  | .str,cs,s=>cs=[.string s]∧s.size≤maxLen
  | .bool,cs,b=>cs=[.bool b]
  | .pair a b,cs,p => ∃ c1 c2,cs=c1++c2∧Rd w B a c1 p.1∧Rd w B b c2 p.2
  | .slice a, cs, l => ∃ A c, cs = [.slice A l.length c] ∧ l.length ≤ c ∧ c ≤ maxLen ∧ (A = none → c = 0) ∧
      (0<l.length → ∃ b off,A=some ⟨b,off,none⟩∧b<B ∧ ∀ k (h:k<l.length),∃ r,(∀ j v,r[j]?=some v→w.cell? ⟨b,off+k*a.size+j,none⟩=some v)∧Rd w B a r l[k])
theorem Rd.length {w:World}{B:Nat} : ∀ {d:Ds}{cs:List Value}{x:El d},Rd w B d cs x→cs.length=d.size
 | .int,cs,x,h=>by rw [h.1];rfl
 | .str,cs,x,h=>by rw [h.1];rfl
 | .bool,cs,x,h=>by rw [show cs=_ from h];rfl
 | .pair a b,cs,x,⟨c1,c2,e,h1,h2⟩=>by rw [e,List.length_append,Rd.length h1,Rd.length h2];rfl
 | .slice a,cs,x,⟨A,c,e,_⟩=>by rw [e];rfl
theorem Rd.keep {w w':World}{B B':Nat}(hk : ∀ p:Addr,p.block<B→w'.cell? p=w.cell? p) (hB:B≤B') : ∀ {d:Ds}{cs:List Value}{x:El d},Rd w B d cs x→Rd w' B' d cs x
  | .int,cs,x,h=>h
  | .str,cs,x,h=>h
  | .bool,cs,x,h=>h
  | .pair a b,cs,x,⟨c1,c2,e,h1,h2⟩=>⟨c1,c2,e,Rd.keep hk hB h1,Rd.keep hk hB h2⟩
  | .slice a, cs, x, ⟨A, c, e, hl, hm, hA0, h⟩ => ⟨A, c, e, hl, hm, hA0, fun h0 => by
      obtain ⟨b,off,hA,hb,hi⟩:=h h0
      refine ⟨b,off,hA,by omega,fun k hk'=>?_⟩
      obtain ⟨r,hc,hr⟩:=hi k hk'
      exact ⟨r,fun j v hv=>(hk _ hb).trans (hc j v hv),Rd.keep hk hB hr⟩⟩
theorem Rd.below {w w':World}{B:Nat}{d:Ds}{cs:List Value}{x:El d}(h:Rd w B d cs x) (hb:Below B w w'):Rd w' B d cs x:=h.keep (fun p hp=>hb.cell hp) (Nat.le_refl _)
theorem Rd.more {w:World}{B B':Nat}{d:Ds}{cs:List Value}{x:El d}(h:Rd w B d cs x) (hB:B≤B'):Rd w B' d cs x:=h.keep (fun p hp=>rfl) hB
def Znc (P:Program) (f:TypeId→Ds→Bool):List Field→Nat→Ds→Bool
 | [],_,_=>false
 | fd::fs,off,d=>match fs with
  | []=>fd.offset==off&&P.cellsOf fd.type==d.size&&f fd.type d
  | _::_=>match d with
   | .pair a b=>fd.offset==off&&P.cellsOf fd.type==a.size&&f fd.type a&&Znc P f fs (off+a.size) b
   | _=>false
def fits (P:Program):Nat→TypeId→Ds→Bool
 | 0,_,_=>false
 | n+1,t,d =>
  match P.underlying t with
  | some (.int .i64)=>match d with
   | .int=>true
   | _=>false
  | some .string=>match d with
   | .str=>true
   | _=>false
  | some .bool=>match d with
   | .bool=>true
   | _=>false
  | some (.slice e)=>match d with
   | .slice a=>P.cellsOf e==a.size&&fits P n e a
   | _=>false
  | some (.struct fs)=>P.cellsOf t==d.size&&Znc P (fits P n) fs.toList 0 d
  | _=>false
section
variable {H : Type} {enc : TypeId × Value → H} {P : Program} {w : World} {base : Nat} {spare : Nat → Bool} {held : Bool}
theorem Zlu {w:World}{a:Addr}{v:Value}(h:w.cell? a=some v):a.spot=none:=by
 unfold World.cell? at h
 split at h
 ·split at h
  ·cases h
  ·rename_i hs;simpa using hs
 ·cases h
theorem ZrK {α β:Type}{Q:Nat→β→α→Prop} : ∀ (n:Nat),(∀ i,i<n → ∃ r y,Q i r y) → ∃ l:List α,l.length=n ∧ ∀ i (h:i<l.length),∃ r,Q i r l[i]
 | 0,_=>⟨[],rfl,fun i h=>absurd h (by simp)⟩
 | n+1,h=>by
  obtain ⟨l,hl,hq⟩:=ZrK n (fun i hi=>h i (by omega))
  obtain ⟨r,y,hy⟩:=h n (by omega)
  refine ⟨l++[y],by simp [hl],fun i hi=>?_⟩
  by_cases hin:i<l.length
  ·obtain ⟨r',h'⟩:=hq i hin
   exact ⟨r',by rw [List.getElem_append_left hin];exact h'⟩
  ·obtain rfl:i=n:=by simp at hi;omega
   exact ⟨r,by rw [List.getElem_append_right (by omega)];simpa [hl] using hy⟩
theorem Zfn : ∀ (n:Nat) (t:TypeId) (d:Ds) (fuel:Nat) (cs:List Value) (x:DataW H×List MemPlace),fits P n t d=true→DataW.trod enc P w base spare held fuel t cs=some x → ∃ e:El d,Rd w w.heap.size d cs e
  | 0,t,d,fuel,cs,x,hf,h=>by simp [fits] at hf
  | n+1,t,d,fuel,cs,x,hf,h=>by
    unfold fits at hf
    split at hf
    · rename_i hu
      split at hf <;> try (cases hf;done)
      obtain ⟨m,rfl,_,hw⟩:=DataW.trod_int hu h
      exact ⟨m,rfl,by simpa [Lit.wf,IntKind.min,IntKind.max,IntKind.signed,IntKind.bits] using hw⟩
    · rename_i hu
      split at hf <;> try (cases hf;done)
      obtain ⟨s,rfl,_,hw⟩:=DataW.trod_string hu h
      exact ⟨s,rfl,hw⟩
    · rename_i hu
      split at hf <;> try (cases hf;done)
      obtain ⟨b,rfl,_⟩:=DataW.trod_bool hu h
      exact ⟨b,rfl⟩
    · rename_i e hu
      split at hf <;> try (cases hf;done)
      rename_i a
      simp only [Bool.and_eq_true,beq_iff_eq] at hf
      rcases open_slice hu h with ⟨rfl,_⟩ | ⟨ad,len,cap,m,k,D,Pl,rfl,hb,hl,hm,hmm,_,hi⟩
      · exact ⟨([]:List (El a)),none,0,rfl,Nat.le_refl _,by unfold maxLen;omega,fun _=>rfl,fun h0=>absurd h0 (by simp)⟩
      · have hlm:len≤m:=by rw [hmm];split <;> omega
        have hex : ∀ i,i<len → ∃ (r:List Value) (y:El a),(∀ j v,r[j]?=some v→w.cell? ((ad.add (i*a.size)).add j)=some v)∧r.length=a.size∧Rd w w.heap.size a r y:=by
          intro i hil
          obtain ⟨cs',hc,ht⟩:=hi i (by omega)
          rw [hf.1] at hc
          obtain ⟨_,hcl,hat⟩:=World.cells?_some hc
          obtain ⟨y,hy⟩:=Zfn n e a k cs' _ hf.2 ht
          exact ⟨cs',y,fun j v hv=>by rw [hat j (by have:=(List.getElem?_eq_some_iff.1 hv).1;omega)];exact hv,hcl,hy⟩
        obtain ⟨l,hll,hl2⟩:=ZrK len hex
        refine ⟨l,some ad,cap,by rw [hll],by omega,hm,fun h=>(by cases h),fun h0=>?_⟩
        obtain ⟨r0,hr0,hl0,_⟩:=hl2 0 h0
        have hp:=a.size_pos
        have hc0:=hr0 0 r0[0] (List.getElem?_eq_getElem (by omega))
        have hsp:ad.spot=none:=by
          have:=Zlu hc0
          simpa [Addr.add] using this
        obtain ⟨b,off,sp⟩:=ad
        simp only at hsp
        subst hsp
        refine ⟨b,off,rfl,?_,fun k' hk'=>?_⟩
        · have:=block_lt_of_cell hc0
          simpa [Addr.add] using this
        · obtain ⟨r,hr1,_,hr2⟩:=hl2 k' hk'
          exact ⟨r,fun j v hv=>by have:=hr1 j v hv;simpa [Addr.add_lit] using this,hr2⟩
    · rename_i fs hu
      simp only [Bool.and_eq_true,beq_iff_eq] at hf
      obtain ⟨xs,m,_,_,hcl,hxl,hat⟩:=DataW.trod_struct hu h
      have key : ∀ (l : List Field) (off i : Nat) (d : Ds) (cs' : List Value), Znc P (fits P n) l off d = true → cs'.length = d.size → cs.drop off = cs' → (∀ (j : Nat) (f : Field), l[j]? = some f → fs.toList[i + j]? = some f) →
          ∃ e:El d,Rd w w.heap.size d cs' e:=by
        intro l
        induction l with
        | nil=>intro off i d cs' hg;simp [Znc] at hg
        | cons f l ih =>
          intro off i d cs' hg hcl' hd hj
          have hfi:fs[i]?=some f:=by have:=hj 0 f rfl;simpa using this
          have hlt:i<xs.length:=by rw [hxl];exact (Array.getElem?_eq_some_iff.1 hfi).1
          have ht:=hat i f hfi
          rw [List.getElem?_eq_getElem hlt] at ht
          cases l with
          | nil =>
            simp only [Znc,Bool.and_eq_true,beq_iff_eq] at hg
            rw [hg.1.1,hg.1.2,hd,List.take_of_length_le (by omega)] at ht
            exact Zfn n f.type d m cs' _ hg.2 ht
          | cons g l =>
            cases d with
            | pair a b =>
              simp only [Znc,Bool.and_eq_true,beq_iff_eq] at hg
              obtain ⟨⟨⟨g1,g2⟩,g3⟩,g4⟩:=hg
              rw [g1,g2,hd] at ht
              obtain ⟨e1,he1⟩:=Zfn n f.type a m _ _ g3 ht
              obtain ⟨e2,he2⟩:=ih (off+a.size) (i+1) b (cs'.drop a.size) g4 (by rw [List.length_drop,hcl'];simp [Ds.size]) (by rw [←hd,List.drop_drop]) (fun j f' hf'=>by have:=hj (j+1) f' (by simpa using hf');rw [←this];congr 1;omega)
              exact ⟨(e1,e2),cs'.take a.size,cs'.drop a.size,(List.take_append_drop _ _).symm,he1,he2⟩
            | _=>simp [Znc] at hg
      exact key fs.toList 0 0 _ cs hf.2 (by rw [hcl,hf.1]) (by simp) (fun j f' hf'=>by simpa using hf')
    · cases hf
theorem rd_arg {d:Ds}{t:TypeId}{v:Value}{x:DataW H}{p:List MemPlace}(hf:fits P 20 t d=true) (h:DataW.Trod enc P w base spare held t v x p) : ∃ e:El d,Rd w w.heap.size d v.cells.toList e:=by
 obtain ⟨fuel,hf'⟩:=h
 exact Zfn 20 t d fuel _ _ hf hf'
end
def avs:(d:Ds)→El d→List AV
 | .int,n=>[iv n]
 | .str,s=>[sv s]
 | .bool,b=>[bv b]
 | .pair a b,p=>avs a p.1++avs b p.2
 | .slice a,l=>[.sl (List.length l) a.size false (rows (avs a) l)]
theorem Zk7 : ∀ (d:Ds) (x:El d),(avs d x).length=d.size
 | .int,_=>rfl
 | .str,_=>rfl
 | .bool,_=>rfl
 | .pair a b,p=>by simp only [avs,List.length_append,Zk7 a,Zk7 b,Ds.size]
 | .slice a,l=>rfl
def okD:(d:Ds)→El d→Prop
 | .int,n => -9223372036854775808≤n∧n≤9223372036854775807
 | .str,s=>ByteArray.size s≤maxLen
 | .bool,_=>True
 | .pair a b,p=>okD a p.1∧okD b p.2
 | .slice a,l => ∀ (k:Nat) (h:k<List.length l),okD a (l[k])
theorem Rd.ok {w:World}{B:Nat} : ∀ {d:Ds}{cs:List Value}{x:El d},Rd w B d cs x→okD d x
 | .int,cs,x,h=>h.2
 | .str,cs,x,h=>h.2
 | .bool,cs,x,h=>trivial
 | .pair a b,cs,x,⟨c1,c2,e,h1,h2⟩=>⟨Rd.ok h1,Rd.ok h2⟩
 | .slice a,cs,x,⟨A,c,e,hl,hm,h0,h⟩=>fun k hk=>by
  obtain ⟨b,off,_,_,hi⟩:=h (by omega)
  obtain ⟨r,_,hr⟩:=hi k hk
  exact Rd.ok hr
theorem RepC.append {w:World}{g:Gh} : ∀ {cs ds:List AV}{b off:Nat},RepC w g cs b off→RepC w g ds b (off+cs.length)→RepC w g (cs++ds) b off
 | [],ds,b,off,_,h=>by simpa using h
 | c::cs,ds,b,off,h,k=>by
  simp only [RepC,List.cons_append] at h ⊢
  refine ⟨h.1,RepC.append h.2 ?_⟩
  rw [show off+1+cs.length=off+(c::cs).length by simp;omega]
  exact k
theorem RepC.of_list {w:World}{g:Gh}{b:Nat} : ∀ {cs:List AV}{us:List Value}{off:Nat},RepL w g cs us→(∀ j v,us[j]?=some v→w.cell? ⟨b,off+j,none⟩=some v)→RepC w g cs b off
 | [],us,off,_,_=>by simp only [RepC]
 | c::cs,us,off,h,k=>by
  simp only [RepL] at h
  obtain ⟨u,us',rfl,h1,h2⟩:=h
  simp only [RepC]
  refine ⟨⟨u,k 0 u rfl,h1⟩,RepC.of_list h2 fun j v hv=>?_⟩
  have:=k (j+1) v (by simpa using hv)
  rw [show off+1+j=off+(j+1) by omega]
  exact this
theorem ZlF {w:World}{B:Nat}{g:Gh}(hg : ∀ k,k<B→g.D k) : ∀ (d:Ds) (cs:List Value) (x:El d),Rd w B d cs x→RepL w g (avs d x) cs
 | .int,cs,x,h=>by rw [h.1];simp only [avs,RepL];exact ⟨_,[],rfl,by simp only [Rep],rfl⟩
 | .str,cs,x,h=>by rw [h.1];simp only [avs,RepL];exact ⟨_,[],rfl,by simp only [Rep],rfl⟩
 | .bool,cs,x,h=>by rw [show cs=_ from h];simp only [avs,RepL];exact ⟨_,[],rfl,by simp only [Rep],rfl⟩
 | .pair a b,cs,x,⟨c1,c2,e,h1,h2⟩=>by rw [e];simp only [avs];exact (ZlF hg a c1 x.1 h1).append (ZlF hg b c2 x.2 h2)
 | .slice a,cs,l,⟨A,c,e,hl,hm,h0,h⟩=>by
  rw [e]
  simp only [avs,RepL]
  refine ⟨_,[],rfl,?_,rfl⟩
  simp only [Rep]
  refine ⟨Zbd (Zk7 a) l,A,c,rfl,hl,hm,fun h=>(by cases h),h0,fun hne=>?_⟩
  have hpos:0<List.length l:=by
   rcases Nat.eq_zero_or_pos (List.length l) with h' | h'
   ·have:l=[]:=List.eq_nil_of_length_eq_zero h'
    subst this;exact absurd rfl hne
   ·exact h'
  obtain ⟨b,off,eA,hb,hi⟩:=h hpos
  refine ⟨b,off,eA,hg b hb,?_⟩
  have key : ∀ (m:List (El a)) (o:Nat),(∀ k (hk:k<m.length),∃ r,(∀ j v,r[j]?=some v→w.cell? ⟨b,o+k*a.size+j,none⟩=some v)∧RepL w g (avs a m[k]) r)→RepC w g (rows (avs a) m) b o:=by
   intro m
   induction m with
   | nil=>intro o _;simp only [rows,List.flatMap_nil,RepC]
   | cons x m ih =>
    intro o hm'
    simp only [rows,List.flatMap_cons]
    obtain ⟨r,hr1,hr2⟩:=hm' 0 (by simp)
    refine RepC.append (RepC.of_list hr2 fun j v hv=>by have:=hr1 j v hv;simpa using this) ?_
    rw [Zk7]
    refine ih (o+a.size) fun k hk=>?_
    obtain ⟨r,hr1,hr2⟩:=hm' (k+1) (by simpa using hk)
    refine ⟨r,fun j v hv=>?_,by simpa using hr2⟩
    have:=hr1 j v hv
    rw [show o+a.size+k*a.size+j=o+(k+1)*a.size+j by rw [Nat.add_mul];omega]
    exact this
  exact key l off fun k hk=>by
   obtain ⟨r,hr1,hr2⟩:=hi k hk
   exact ⟨r,hr1,ZlF hg a r _ hr2⟩
def g0 (w:World):Gh:=⟨fun k=>k<w.heap.size,fun _ _=>none,[]⟩
theorem sim0 (w:World) (hG:GlobW w):SimH w (g0 w) [] :=
 ⟨fun id ver ty s c h=>(by simp at h),fun i j k hi _=>by obtain ⟨_,_,_,_,_,_,h,_⟩:=hi;simp at h,fun k hk=>hk,fun id ver l h=>(by simp [g0] at h),fun id ver l h=>(by simp [g0] at h),⟨hG,hG.lt⟩,fun i k o T vs h=>(by simp at h),fun i j k hi _=>by obtain ⟨_,_,_,h⟩:=hi;simp at h⟩
theorem ZlX {P:Program}{f:FuncId}{args:List AV}(hc:ACalls P f args [] fun x h'=>h'=[]∧x=.ret (bv true)) {w:World}(hG:GlobW w) {vs:Array Value}(hr:RepL w (g0 w) args vs.toList) :
  Calls P f vs w fun e w'=>e=.returned (.bool true)∧Below w.heap.size w w':=by
 refine (hc.2 w (g0 w) vs (sim0 w hG) hr).mono ?_
 rintro e w' ⟨x,h',g',h1,h2,h3,h4,h5,rfl,rfl⟩
 cases e <;> simp only [EndR] at h1
 simp only [Rep] at h1
 refine ⟨by rw [h1],h4.os,h4.tape,h4.output,h4.size,fun k hk=>h4.block k hk ?_⟩
 rintro (⟨i,_,_,_,_,_,_,h,_⟩ | ⟨i,_,_,_,h⟩) <;> simp at h
section
variable {H : Type} {enc : TypeId × Value → H} {P : Program} {w : World} {base : Nat} {spare : Nat → Bool} {held : Bool}
theorem ZjN (d:Ds) {t:TypeId}{v:Value}{x:DataW H}{p:List MemPlace}{fs:Array Field}{r:Reach}{b:Nat}(ht:P.underlying t=some (.struct fs)) (hf:fits P 20 t d=true) (hv:Value.okWide P w r b t v) (h:DataW.Trod enc P w base spare held t v x p) :
  ∃ e:El d,okD d e∧Rep w (g0 w) (.agg (avs d e)) v:=by
 obtain ⟨e,he⟩:=rd_arg hf h
 obtain ⟨cs,rfl,_⟩:=okWide_struct ht hv
 refine ⟨e,he.ok,?_⟩
 simp only [Rep]
 exact ⟨cs,rfl,ZlF (fun k hk=>hk) d _ e he⟩
theorem ZoR (d:Ds) {t:TypeId}{v:Value}{x:DataW H}{p:List MemPlace}(hf:fits P 20 t d=true) (hv:v.cells = #[v]) (h:DataW.Trod enc P w base spare held t v x p) :
  ∃ e:El d,okD d e∧RepL w (g0 w) (avs d e) [v]:=by
 obtain ⟨e,he⟩:=rd_arg hf h
 refine ⟨e,he.ok,?_⟩
 have:=ZlF (g:=g0 w) (fun k hk=>hk) d _ e he
 rwa [hv] at this
theorem arg_int {t:TypeId}{v:Value}{x:DataW H}{p:List MemPlace}{r:Reach}{b:Nat}(ht:P.underlying t=some (.int .i64)) (hv:Value.okWide P w r b t v) (h:DataW.Trod enc P w base spare held t v x p) :
  ∃ e:Int,(-9223372036854775808≤e∧e≤9223372036854775807)∧Rep w (g0 w) (iv e) v:=by
 obtain ⟨n,rfl⟩:=okWide_int ht hv
 obtain ⟨e,he,hr⟩:=ZoR .int (by simp [fits,ht]) rfl h
 simp only [avs,RepL] at hr
 obtain ⟨u,us,h1,h2,rfl⟩:=hr
 cases h1
 exact ⟨e,he,h2⟩
theorem Zst {t:TypeId}{v:Value}{x:DataW H}{p:List MemPlace}{r:Reach}{b:Nat}(ht:P.underlying t=some .string) (hv:Value.okWide P w r b t v) (h:DataW.Trod enc P w base spare held t v x p) :
  ∃ e:ByteArray,e.size≤maxLen∧Rep w (g0 w) (sv e) v:=by
 obtain ⟨n,rfl⟩:=okWide_string ht hv
 obtain ⟨e,he,hr⟩:=ZoR .str (by simp [fits,ht]) rfl h
 simp only [avs,RepL] at hr
 obtain ⟨u,us,h1,h2,rfl⟩:=hr
 cases h1
 exact ⟨e,he,h2⟩
end
theorem Zrf {w:World}{g:Gh}{c:AV}{v:Value}{cs:List AV}{vs:List Value}(h:Rep w g c v) (hs:RepL w g cs vs):RepL w g (c::cs) (v::vs):=by simp only [RepL];exact ⟨v,vs,rfl,h,hs⟩
theorem repL0 {w:World}{g:Gh}:RepL w g [] []:=by simp only [RepL]
end Go.Proofs.YthdifaphoaekoaaGreatDoor
end
section
namespace Go.Proofs.YthdifaphoaekoaaGreatDoor
open Go.Ab Go.RowKit Civ
attribute [local simp] Zby ZbO ZbD ZbK Zd6 Zd5 ZeR Zb7
section
theorem ZjR {a0 a1 a2 c0 c1 c2:AV}{l:List AV}:setCells (a0::a1::a2::l) 0 [c0,c1,c2]=c0::c1::c2::l:=rfl
theorem ZjQ {a0 a1 a2:AV}{l:List AV}:((a0::a1::a2::l).drop 0).take 3=[a0,a1,a2]:=rfl
end
def c41:AC:=(Sr [Oo 0 (.new 26 3 [(.sl 0 0 true []),(.sl 0 0 true []),(.sl 0 0 true [])])] (Sr [Oo 5 (.call (.func 84) [(.const (.string ⟨#[82,117,108,101,32,101,117,32,49,57,56,49,32,109,97,120,32,77,97,114,32,108,97,115,116,83,117,110,32,49,58,48,48,117,32,49,58,48,48,32,83,10,82,117,108,101,32,101,117,32,49,57,57,54,32,109,97,120,32,79,99,116,32,108,97,115,116,83,117,110,32,49,58,48,48,117,32,48,32,45,10,90,111,110,101,32,72,101,114,101,47,84,111,119,110,32,48,58,49,48,32,45,32,76,77,84,32,49,56,56,48,32,74,97,110,32,49,32,48,10,32,32,49,58,48,48,32,101,117,32,67,69,37,115,84,10,76,105,110,107,32,72,101,114,101,47,84,111,119,110,32,79,108,100,10]⟩))]),Mv 4 5,Ex 6 4 0,Ex 7 4 1,Ex 8 4 2,Oo 1 (.new 26 3 [(.sl 0 0 true []),(.sl 0 0 true []),(.sl 0 0 true [])]),⟨none,none,(.store 3 (.tmp 1) (.tmp 6))⟩,Mv 2 7,Mv 3 8] (Sr [Oo 9 (.load true 3 (.tmp 1)),⟨none,none,(.store 3 (.tmp 0) (.tmp 9))⟩] .ret)))
theorem k41:ZaD Tryz.prog 41=some ⟨c41,[(.cell 0 true 3)],10⟩:=by kernel_rfl
def txtS:Bs:=[82,117,108,101,32,101,117,32,49,57,56,49,32,109,97,120,32,77,97,114,32,108,97,115,116,83,117,110,32,49,58,48,48,117,32,49,58,48,48,32,83,10,82,117,108,101,32,101,117,32,49,57,57,54,32,109,97,120,32,79,99,116,32,108,97,115,116,83,117,110,32,49,58,48,48,117,32,48,32,45,10,90,111,110,101,32,72,101,114,101,47,84,111,119,110,32,48,58,49,48,32,45,32,76,77,84,32,49,56,56,48,32,74,97,110,32,49,32,48,10,32,32,49,58,48,48,32,101,117,32,67,69,37,115,84,10,76,105,110,107,32,72,101,114,101,47,84,111,119,110,32,79,108,100,10]
def nEu:ByteArray:=bA [101,117]
def nHt:ByteArray:=bA [72,101,114,101,47,84,111,119,110]
def nOld:ByteArray:=bA [79,108,100]
def rul0:List Rul:=[(nEu,1981,2100,3,(2,0,0),3600,3,3600,bA [83]),(nEu,1996,2100,10,(2,0,0),3600,3,0,bA [])]
def era0:Era:=(600,bA [],0,bA [76,77,84],false,((1880,1,1),0,2))
def era1:Era:=(3600,nEu,0,bA [67,69,37,115,84],true,((0,0,0),0,0))
def src0:Src:=(rul0,[(nHt,[era0,era1])],[(nHt,nOld)])
theorem prs0:ZbU (bA txtS)=(src0,0,0):=by kernel_rfl
theorem ZgY:Zeb src0:=by
 refine ⟨fun r hr=>?_,fun z hz=>?_,fun l hl=>?_⟩
 ·simp only [src0,rul0,List.mem_cons,List.not_mem_nil,or_false] at hr
  rcases hr with rfl | rfl <;> exact ⟨by decide,by decide⟩
 ·simp only [src0,List.mem_cons,List.not_mem_nil,or_false] at hz
  subst hz
  refine ⟨by decide,fun x hx=>?_⟩
  simp only [List.mem_cons,List.not_mem_nil,or_false] at hx
  rcases hx with rfl | rfl <;> exact ⟨by decide,by decide⟩
 simp only [src0,List.mem_cons,List.not_mem_nil,or_false] at hl
 subst hl;exact ⟨by decide,by decide⟩
theorem rp_txt {h:AH}:Ac 84 [sv (bA txtS)] h (.tup [.agg (srcC src0),iv 0,iv 0]):=by
 have:=rparse_a (s:=bA txtS) (h:=h)
 rw [prs0] at this
 exact this
theorem Zfp {h:AH}:Ac 41 [] h (.agg (srcC src0)):=by
 refine tI' k41 fun N hn hlt hlA hbd=>?_
 simp only [tb'] at hbd ⊢
 refine wr'<|E' (Za6 (hl0 hn) ha0) pt<|sn'<|wr'<|Zae mp (rp_txt) pt<|mv' lk pt<|V' (Za7 lk gt) pt<|V' (Za7 lk gt) pt<|V' (Za7 lk gt) pt<|E' (Za6 (hl1 hn) ha1) pt<|E' (Zal lk (cvl lk rfl) (hga hn rfl) rfl (nb' rfl) rfl ZjR (hs1 hn)) ptn<|?_
 exact mv' lk pt<|mv' lk pt<|sn'<|wr'<|V' (Zap lk (hga hn rfl) ZjQ rfl) pt<|E' (Zal lk (cvl lk rfl) (hga hn rfl) rfl (nb' rfl) rfl ZjR (hs0 hn)) ptn<|sn'<|Zaa<|Zag (rs1 (rr_c gt (hga hn rfl) (ld1 ZjQ rfl)))<|rT' rfl
def insT (t:Trn):List Trn→List Trn
 | []=>[t]
 | u::l=>if t.1≤u.1 then t::u::l else u::insT t l
def insS:List Trn→List Trn
 | []=>[]
 | t::l=>insT t (insS l)
theorem Zis (t:Trn) : ∀ l:List Trn,(insT t l).Perm (t::l)
 | []=>.refl _
 | u::l=>by
  rw [insT]
  split
  ·exact .refl _
  exact ((Zis t l).cons u).trans (List.Perm.swap t u l)
theorem ZlY : ∀ l:List Trn,(insS l).Perm l
 | []=>.refl _
 | t::l=>(Zis t _).trans ((ZlY l).cons t)
theorem Zow {t:Trn} : ∀ {l:List Trn},l.Pairwise (fun a b=>a.1≤b.1)→(insT t l).Pairwise fun a b=>a.1≤b.1
 | [],_=>by simp [insT]
 | u::l,h=>by
  rw [insT]
  rw [List.pairwise_cons] at h
  split
  ·rename_i hle
   refine List.pairwise_cons.2 ⟨fun x hx=>?_,List.pairwise_cons.2 h⟩
   rcases List.mem_cons.1 hx with rfl | hx
   ·exact hle
   have:=h.1 x hx;omega
  rename_i hle
  refine List.pairwise_cons.2 ⟨fun x hx=>?_,Zow h.2⟩
  rcases List.mem_cons.1 ((Zis t l).mem_iff.1 hx) with rfl | hx
  ·omega
  exact h.1 x hx
theorem Zox : ∀ l:List Trn,(insS l).Pairwise fun a b=>a.1≤b.1
 | []=>.nil
 | t::l=>Zow (Zox l)
def Zjj (l:List Rul) (nm:ByteArray) (sh:Int):List Tim×Int :=
 if Zdz l nm sh≠0 then ([],Zdz l nm sh) else if gapB (insS (Zbh l nm))=true then ([],4) else if 1000<(insS (Zbh l nm)).length then ([],2) else (outV sh 0 (insS (Zbh l nm)),0)
theorem ZqL (l:List Rul) (nm:ByteArray) (sh:Int):Zba l nm sh=Zjj l nm sh:=by
 unfold Zjj
 by_cases h:Zdz l nm sh=0
 ·rw [if_neg (by simp [h]),Zkp h (ZlY _) (Zox _)]
 rw [if_pos h,Zef h]
theorem tim0_err:(Zjj rul0 nEu 3600).2=0:=by kernel_rfl
theorem chk0:ZbE src0=0:=by
 have h1:ZbQ src0=0:=by kernel_rfl
 have h2:(Zcj src0.2.1 src0.2.2).Nodup:=by decide
 have h3:Ze7 src0=false:=by kernel_rfl
 have h4:Za0 (errX src0.1) (ZcN src0.2.1)=0:=by
  refine Ziw fun y hy=>?_
  simp only [src0,ZcN,List.flatMap_cons,List.flatMap_nil,List.append_nil,List.mem_cons,List.not_mem_nil,or_false] at hy
  rcases hy with rfl | rfl
  ·rfl
  show (if nEu=⟨#[]⟩ then 0 else (Zba rul0 nEu 3600).2)=0
  rw [ZqL,tim0_err];split <;> rfl
 have h5:(src0.2.1.any fun z=>!risL (ZaO z.2))=false:=by kernel_rfl
 unfold ZbE
 rw [if_neg (by simp [h1]),if_neg (by simpa using h2),if_neg (by simp [h3]),if_neg (by simp [h4]),if_neg (by simp [h5])]
end Go.Proofs.YthdifaphoaekoaaGreatDoor
end
section
namespace Go.Proofs.YthdifaphoaekoaaGreatDoor
open Go.Ab
attribute [local simp] Zd5
def c22:AC:=(Sr [Mb 4 false] (.seq (Sr [Mv 6 0,Oo 7 (.len false (.tmp 6)),Mv 8 1,Oo 9 (.len false (.tmp 8)),Bn 10 .neq 7 9] (Cd 10 (Sr [Mb 4 false] .ret) .skip)) (.seq (Sr [Mc 5 0] (.block 0 (.loop (.seq (Sr [Mv 11 5,Mv 12 0,Oo 13 (.len false (.tmp 12)),Bn 14 .lss 11 13] (Cd 14 .skip (.exit 0))) (.seq (.block 1 (Sd [Mv 17 0,Mv 18 5,Oo 19 (.ia 1 (.tmp 17) (.tmp 18)),Ld 20 19,Mv 21 1,Mv 22 5,Oo 23 (.ia 1 (.tmp 21) (.tmp 22)),Ld 24 23,Bn 25 .neq 20 24] (Cd 25 (Sr [Mb 4 false] .ret) .skip))) (.reg [Mv 15 5,Bc 16 .add 15 1,Mv 5 16])))))) (Sr [Mb 4 true] .ret))))
theorem k22:ZaD Tryz.prog 22=some ⟨c22,[(.tmp 4)],26⟩:=by kernel_rfl
theorem ZgZ {l m:List Int}{f1 f2:Bool}{h:AH}:Ac 22 [.sl l.length 1 f1 (rows intC l),.sl m.length 1 f2 (rows intC m)] h (bv (decide (l=m))):=by
 refine tI' k22 fun N hn hlt hlA hbd=>?_
 simp only [tb'] at hbd ⊢
 refine wr'<|mv' lkb pt<|sn'<|Zah<|wr'<|mv' lk pt<|V' (ZaI lk) pt<|mv' lk pt<|V' (ZaI lk) pt<|V' (Za5 lk lk) pt<|Zaq<|?_
 refine Zaf ?_
 refine cd' lk (fun hc1=>?_) (fun hc1=>?_)
 ·refine wr'<|mv' lkb pt<|sn'<|Zaa<|Zaj<|Zag rz<|rT'<|?_
  refine bvx (decide_eq_false (fun e=>hc1 (by rw [e]))).symm
 refine Zad<|Zaf<|Zah<|wr'<|mv' lki pt<|sn'<|Zan<|?_
 refine w_lp (ι:=Nat) (fun (k:Nat)=>[(5,iv (k:Int)),(4,.any)]++rn' 11 15) (fun (k:Nat)=>[]) (fun (k:Nat)=>k≤l.length∧l.length=m.length∧l.take k=m.take k) (fun (k:Nat)=>l.length-k) (0) (by exact ⟨by omega,by omega,by simp⟩) ?_
 rintro k hi1
 try simp only [sm',Nat.reduceAdd]
 obtain ⟨hk1,hk2,hk3⟩:=hi1
 refine Zah<|wr'<|mv' lk pt<|mv' lk pt<|V' (ZaI lk) pt<|V' (ZaZ lk lk) pt<|sn'<|?_
 refine cd' lk (fun hc2=>?_) (fun hc2=>?_)
 ·refine Zad<|Zaf<|Zah<|Zan<|Zah<|Zbf<|D' (v_mv lk) pt<|D' (v_mv lk) pt<|?_
  refine D' (ZaJ lk lk ZcB (nb' rfl) ro (by omega) ro rfl) pt ?_
  refine D' (Zar lk gt) pt<|D' (v_mv lk) pt<|D' (v_mv lk) pt<|?_
  refine D' (ZaJ lk lk ZcB (nb' rfl) ro (by omega) ro rfl) pt ?_
  refine D' (Zar lk gt) pt ?_
  refine D' ((by first | exact Za5 lk lk | exact Zb5 lk lk)) pt ?_
  refine Zbj ?_
  refine ZbH ?_
  refine sn' ?_
  refine cd' lk (fun hc3=>?_) (fun hc3=>?_)
  ·refine wr'<|mv' lkb pt<|sn'<|Zaa<|Zas<|Zaj<|Zaj<|Zas<|Zaj<|Zag rz<|rT'<|?_
   refine bvx (decide_eq_false (fun e=>hc3 (by subst e;simp))).symm
  refine Zad<|Zay<|Zaf<|Zat<|mv' lk pt<|?_
  refine V' (Zav lk lki (by omega) (by omega)) pt ?_
  refine mv' lk pt<|Zaq<|ZaB<|?_
  refine lT' (k+1) (by (try dsimp only);exact ⟨by omega,hk2,by rw [List.take_succ_eq_append_getElem (by omega),List.take_succ_eq_append_getElem (by omega),hk3,Decidable.of_not_not hc3]⟩)
 refine ZaE<|Zaz<|Zaz<|ZaX<|Zaf<|wr'<|mv' lkb pt<|sn'<|Zaa<|Zag rz<|rT'<|?_
 refine bvx (decide_eq_true ?_).symm
 rw [List.take_of_length_le (by omega),List.take_of_length_le (by omega)] at hk3
 exact hk3
end Go.Proofs.YthdifaphoaekoaaGreatDoor
end
section
namespace Go.Proofs.YthdifaphoaekoaaGreatDoor
open Go.Ab Go.RowKit Civ
attribute [local simp] Zby ZbO ZbD ZbK Zd6 Zd5 ZeR Zb7
section
theorem ZiK {a0 b0:Int}{a1 b1:Int}{a2 b2:ByteArray}:Zb3 [.int,.int,.str] [iv a0,iv a1,sv a2] [iv b0,iv b1,sv b2]=some (decide (a0=b0∧a1=b1∧a2=b2)):=by
 simp only [Zb3,Zfa,if_true,Zem,Option.some.injEq]
 simp only [Bool.decide_and,Bool.and_true]
 try (congr 1 <;> simp)
 try rfl
theorem ZpD {a0 a1 c0 c1:AV}{l:List AV}:setCells (a0::a1::l) 0 [c0,c1]=c0::c1::l:=rfl
theorem Zhf {a0 a1 a2 c0 c1 c2:AV}{l:List AV}:setCells (a0::a1::a2::l) 0 [c0,c1,c2]=c0::c1::c2::l:=rfl
theorem ZjP {a0 a1 a2:AV}{l:List AV}:((a0::a1::a2::l).drop 0).take 3=[a0,a1,a2]:=rfl
theorem Zhe {τ:Operand→AV}{y0 y1 y2:Operand}{x0_0 x1_0 x2_0:AV}(h0:Zax (τ y0)=some [x0_0]) (l0:[x0_0].all leaf=true) (h1:Zax (τ y1)=some [x1_0]) (l1:[x1_0].all leaf=true) (h2:Zax (τ y2)=some [x2_0]) (l2:[x2_0].all leaf=true):Zau τ [(0,1,y0),(1,1,y1),(2,1,y2)] [(.v (.int .i64 0)),(.v (.int .i64 0)),(.v (.string ⟨#[]⟩))]=some [x0_0,x1_0,x2_0]:=by
 simp only [Zau,h0,l0,h1,l1,h2,l2]
 rfl
theorem Zhd {τ:Operand→AV}{y0 y1:Operand}{x0_0 x1_0:AV}(h0:Zax (τ y0)=some [x0_0]) (l0:[x0_0].all leaf=true) (h1:Zax (τ y1)=some [x1_0]) (l1:[x1_0].all leaf=true):Zau τ [(0,1,y0),(2,1,y1)] [(.v (.int .i64 0)),(.v (.int .i64 0)),(.v (.string ⟨#[]⟩))]=some [x0_0,(.v (.int .i64 0)),x1_0]:=by
 simp only [Zau,h0,l0,h1,l1]
 rfl
end
def c13:AC:=(Sr [Mb 0 false] (Sr [Cl 12 41 [],Oo 13 (.call (.func 16) [(.tmp 12),(.const (.string ⟨#[79,108,100]⟩))]),Mv 11 13,Ex 14 11 0,Ex 15 11 1,Oo 1 (.new 44 2 [Ss,(.sl 0 0 true [])]),⟨none,none,(.store 2 (.tmp 1) (.tmp 14))⟩,Mv 2 15] (Sr [Cl 17 41 [],Oo 18 (.call (.func 17) [(.tmp 17),(.const (.string ⟨#[72,101,114,101,47,84,111,119,110]⟩))]),Mv 16 18,Ex 19 16 0,Ex 20 16 1,Mv 3 19,Mv 4 20] (Sr [Cl 22 41 [],Oo 23 (.call (.func 15) [(.tmp 22),(.const (.string ⟨#[79,108,100]⟩)),(Ci 1585443600)]),Mv 21 23,Ex 24 21 0,Ex 25 21 1,Oo 5 (.new 31 3 [(iv 0),(iv 0),Ss]),⟨none,none,(.store 3 (.tmp 5) (.tmp 24))⟩,Mv 6 25] (Sr [Cl 27 41 [],Oo 28 (.call (.func 15) [(.tmp 27),(.const (.string ⟨#[79,108,100]⟩)),(Ci 1585443599)]),Mv 26 28,Ex 29 26 0,Ex 30 26 1,Oo 7 (.new 31 3 [(iv 0),(iv 0),Ss]),⟨none,none,(.store 3 (.tmp 7) (.tmp 29))⟩,Mv 8 30] (Sr [Cl 32 41 [],Oo 33 (.call (.func 15) [(.tmp 32),(.const (.string ⟨#[78,101,119]⟩)),(Ci 0)]),Mv 31 33,Ex 34 31 0,Ex 35 31 1,Oo 9 (.new 31 3 [(iv 0),(iv 0),Ss]),⟨none,none,(.store 3 (.tmp 9) (.tmp 34))⟩,Mv 10 35] (Sr [Cl 36 41 [],Cl 37 14 [(.tmp 36)],Bc 38 .eql 37 0,Mv 39 38,Ot 40 39 (mt 2),Ot 41 39 (.bin .eql (.tmp 40) (Ci 0)),Oo 42 (.pick (.tmp 39) (.tmp 41) (.const (.bool false))),Mv 43 42,Ot 44 43 (mt 4),Ot 45 43 (.bin .eql (.tmp 44) (Ci 0)),Oo 46 (.pick (.tmp 43) (.tmp 45) (.const (.bool false))),Mv 47 46,Ot 48 47 (mt 6),Ot 49 47 (.bin .eql (.tmp 48) (Ci 0)),Oo 50 (.pick (.tmp 47) (.tmp 49) (.const (.bool false))),Mv 51 50,Ot 52 51 (mt 8),Ot 53 51 (.bin .eql (.tmp 52) (Ci 0)),Oo 54 (.pick (.tmp 51) (.tmp 53) (.const (.bool false))),Mv 55 54,Ot 56 55 (mt 10),Ot 57 55 (.bin .eql (.tmp 56) (Ci 5)),Oo 58 (.pick (.tmp 55) (.tmp 57) (.const (.bool false))),Mv 59 58,Ot 60 59 (.fa 0 (.tmp 1)),Ot 61 59 (.load false 1 (.tmp 60)),Ot 62 59 (.bin .eql (.tmp 61) (.const (.string ⟨#[72,101,114,101,47,84,111,119,110]⟩))),Oo 63 (.pick (.tmp 59) (.tmp 62) (.const (.bool false))),Mv 64 63,Ot 65 64 (mt 3),Ot 66 64 (.len false (.tmp 65)),Ot 67 64 (.bin .eql (.tmp 66) (Ci 1)),Oo 68 (.pick (.tmp 64) (.tmp 67) (.const (.bool false))),Mv 69 68,Ot 70 69 (mt 3),Ot 71 69 (.ia 1 (.tmp 70) (Ci 0)),Ot 72 69 (.load false 1 (.tmp 71)),Ot 73 69 (.bin .eql (.tmp 72) (.const (.int .i64 (-2840141400)))),Oo 74 (.pick (.tmp 69) (.tmp 73) (.const (.bool false))),Mv 75 74,Ot 76 75 (.load true 3 (.tmp 5)),Ot 77 75 (.build [(iv 0),(iv 0),Ss] [(0,(1,(Ci 7200))),(1,(1,(Ci 3600))),(2,(1,(.const (.string ⟨#[67,69,83,84]⟩))))]),Ot 78 75 (.eqs false [.int,.int,.str] (.tmp 76) (.tmp 77)),Oo 79 (.pick (.tmp 75) (.tmp 78) (.const (.bool false))),Mv 80 79,Ot 81 80 (.load true 3 (.tmp 7)),Ot 82 80 (.build [(iv 0),(iv 0),Ss] [(0,(1,(Ci 3600))),(2,(1,(.const (.string ⟨#[67,69,84]⟩))))]),Ot 83 80 (.eqs false [.int,.int,.str] (.tmp 81) (.tmp 82)),Oo 84 (.pick (.tmp 80) (.tmp 83) (.const (.bool false))),Mv 0 84] .ret)))))))
theorem k13:ZaD Tryz.prog 13=some ⟨c13,[(.tmp 0)],85⟩:=by kernel_rfl
theorem find0:ZbT src0 nOld=((nHt,[era0,era1]),0):=by
 unfold ZbT;rw [if_neg (by simp [chk0])];kernel_rfl
theorem find1:ZbT src0 nHt=((nHt,[era0,era1]),0):=by
 unfold ZbT;rw [if_neg (by simp [chk0])];kernel_rfl
theorem find2:ZbT src0 (bA [78,101,119])=(zonO,5):=by
 unfold ZbT;rw [if_neg (by simp [chk0])];kernel_rfl
theorem told0 {n:Int}(h:endV era0≤n):ZcX rul0 [era0,era1] n=locV era1 (Zc1 0 ⟨#[]⟩ (Zjj rul0 nEu 3600).1 n).1 (Zc1 0 ⟨#[]⟩ (Zjj rul0 nEu 3600).1 n).2:=by
 rw [ZcX,if_pos h,ZcX]
 unfold Zf0
 have:Za3 rul0 era1=(Zjj rul0 nEu 3600).1:=by
  unfold Za3
  rw [if_neg (by decide),ZqL];rfl
 rw [this];rfl
theorem at0:atV src0 nOld 1585443600=((7200,3600,bA [67,69,83,84]),0):=by
 unfold atV
 rw [find0]
 simp only [ne_eq,not_true_eq_false,if_false]
 rw [if_neg (by decide)]
 show (ZcX rul0 [era0,era1] 1585443600,(0:Int))=_
 rw [told0 (by decide)]
 kernel_rfl
theorem at1:atV src0 nOld 1585443599=((3600,0,bA [67,69,84]),0):=by
 unfold atV
 rw [find0]
 simp only [ne_eq,not_true_eq_false,if_false]
 rw [if_neg (by decide)]
 show (ZcX rul0 [era0,era1] 1585443599,(0:Int))=_
 rw [told0 (by decide)]
 kernel_rfl
theorem at2:atV src0 (bA [78,101,119]) 0=(locZ,5):=by
 unfold atV
 rw [find2];rfl
theorem zf0 {h:AH}:Ac 16 [.agg (srcC src0),sv nOld] h (.tup [.agg (zonC (nHt,[era0,era1])),iv 0]):=by
 have:=Zqr (a:=src0.1) (z:=src0.2.1) (k:=src0.2.2) (nm:=nOld) (h:=h) ZgY
 rw [show (src0.1,src0.2.1,src0.2.2)=src0 from rfl,find0] at this
 exact this
theorem ze0 {h:AH}:Ac 17 [.agg (srcC src0),sv nHt] h (.tup [.sl 1 1 false (rows intC [-2840141400]),iv 0]):=by
 have:=Zqs (a:=src0.1) (z:=src0.2.1) (k:=src0.2.2) (nm:=nHt) (h:=h) ZgY
 rw [show (src0.1,src0.2.1,src0.2.2)=src0 from rfl,find1,show ZaO ((nHt,[era0,era1]),(0:Int)).1.2=[-2840141400] from by kernel_rfl] at this
 exact this
theorem za0 {h:AH}:Ac 15 [.agg (srcC src0),sv nOld,iv 1585443600] h (.tup [.agg (ZrJ (7200,3600,bA [67,69,83,84])),iv 0]):=by
 have:=at_a (a:=src0.1) (z:=src0.2.1) (k:=src0.2.2) (nm:=nOld) (n:=1585443600) (h:=h) ZgY
 rw [show (src0.1,src0.2.1,src0.2.2)=src0 from rfl,at0] at this
 exact this
theorem za1 {h:AH}:Ac 15 [.agg (srcC src0),sv nOld,iv 1585443599] h (.tup [.agg (ZrJ (3600,0,bA [67,69,84])),iv 0]):=by
 have:=at_a (a:=src0.1) (z:=src0.2.1) (k:=src0.2.2) (nm:=nOld) (n:=1585443599) (h:=h) ZgY
 rw [show (src0.1,src0.2.1,src0.2.2)=src0 from rfl,at1] at this
 exact this
theorem za2 {h:AH}:Ac 15 [.agg (srcC src0),sv (bA [78,101,119]),iv 0] h (.tup [.agg (ZrJ locZ),iv 5]):=by
 have:=at_a (a:=src0.1) (z:=src0.2.1) (k:=src0.2.2) (nm:=bA [78,101,119]) (n:=0) (h:=h) ZgY
 rw [show (src0.1,src0.2.1,src0.2.2)=src0 from rfl,at2] at this
 exact this
theorem zc0 {h:AH}:Ac 14 [.agg (srcC src0)] h (iv 0):=by
 have:=Zf8 (a:=src0.1) (z:=src0.2.1) (k:=src0.2.2) (h:=h) ZgY
 rw [show (src0.1,src0.2.1,src0.2.2)=src0 from rfl,chk0] at this
 exact this
theorem ZdY {h:AH}:Ac 13 [] h (bv true):=by
 refine tI' k13 fun N hn hlt hlA hbd=>?_
 simp only [tb'] at hbd ⊢
 refine wr'<|mv' lkb pt<|sn'<|wr'<|Zae mp0 (Zfp) pt<|Zae mp (zf0) pt<|mv' lk pt<|V' (Za7 lk gt) pt<|V' (Za7 lk gt) pt<|E' (Za6 (hl0 hn) ha0) pt<|E' (Zal lk (cvl lk rfl) (hga hn rfl) rfl (nb' rfl) rfl ZpD (hs0 hn)) ptn<|?_
 refine mv' lk pt<|sn'<|wr'<|Zae mp0 (Zfp) pt<|Zae mp (ze0) pt<|mv' lk pt<|V' (Za7 lk gt) pt<|V' (Za7 lk gt) pt<|mv' lk pt<|mv' lk pt<|sn'<|?_
 refine wr'<|Zae mp0 (Zfp) pt<|Zae mp (za0) pt<|mv' lk pt<|V' (Za7 lk gt) pt<|V' (Za7 lk gt) pt<|E' (Za6 (hl1 hn) ha1) pt<|E' (Zal lk (cvl lk rfl) (hga hn rfl) rfl (nb' rfl) rfl Zhf (hs1 hn)) ptn<|mv' lk pt<|sn'<|wr'<|?_
 refine Zae mp0 (Zfp) pt<|Zae mp (za1) pt<|mv' lk pt<|V' (Za7 lk gt) pt<|V' (Za7 lk gt) pt<|E' (Za6 (hl2 hn) ha2) pt<|E' (Zal lk (cvl lk rfl) (hga hn rfl) rfl (nb' rfl) rfl Zhf (hs2 hn)) ptn<|mv' lk pt<|sn'<|wr'<|Zae mp0 (Zfp) pt<|Zae mp (za2) pt<|?_
 refine mv' lk pt<|V' (Za7 lk gt) pt<|V' (Za7 lk gt) pt<|E' (Za6 (hl3 hn) ha3) pt<|E' (Zal lk (cvl lk rfl) (hga hn rfl) rfl (nb' rfl) rfl Zhf (hs3 hn)) ptn<|mv' lk pt<|sn'<|wr'<|Zae mp0 (Zfp) pt<|Zae mp (zc0) pt<|V' (ZaN lk lki) pt<|mv' lk pt<|?_
 refine Zbl (t:=39) gt (b:=true) (by rfl) pt ?_
 refine s_do gt<|mv' lk pt<|s_do gt<|V' (ZaN lk lki) pt<|V' (Zai lk lk) pt<|mv' lk pt<|?_
 refine Zbl (t:=43) gt (b:=true) (by rfl) pt ?_
 refine s_do gt<|mv' lk pt<|s_do gt<|V' (ZaN lk lki) pt<|V' (Zai lk lk) pt<|mv' lk pt<|?_
 refine Zbl (t:=47) gt (b:=true) (by rfl) pt ?_
 refine s_do gt<|mv' lk pt<|s_do gt<|V' (ZaN lk lki) pt<|V' (Zai lk lk) pt<|mv' lk pt<|?_
 refine Zbl (t:=51) gt (b:=true) (by rfl) pt ?_
 refine s_do gt<|mv' lk pt<|s_do gt<|V' (ZaN lk lki) pt<|V' (Zai lk lk) pt<|mv' lk pt<|?_
 refine Zbl (t:=55) gt (b:=true) (by rfl) pt ?_
 refine s_do gt<|mv' lk pt<|s_do gt<|V' (ZaN lk lki) pt<|V' (Zai lk lk) pt<|mv' lk pt<|?_
 refine Zbl (t:=59) gt (b:=true) (by rfl) pt ?_
 refine s_do gt<|V' (Zac lk) pt<|s_do gt<|V' (Zab lk (hga hn rfl) gt0) pt<|s_do gt<|V' (Zci lk lks) pt<|V' (Zai lk lk) pt<|mv' lk pt<|?_
 refine Zbl (t:=64) gt (b:=true) (by rfl) pt ?_
 refine s_do gt<|mv' lk pt<|s_do gt<|V' (ZaI lk) pt<|s_do gt<|V' (ZaN lk lki) pt<|V' (Zai lk lk) pt<|mv' lk pt<|?_
 refine Zbl (t:=69) gt (b:=true) (by rfl) pt ?_
 refine s_do gt<|mv' lk pt<|s_do gt<|?_
 refine V' (ZaJ (k:=0) lk lki ZcB (nb' rfl) (by first | rfl | first | omega | decide) (by first | omega | decide) ro rfl) pt ?_
 refine s_do gt<|V' (Zar lk gt) pt<|s_do gt<|V' (ZaN lk lki) pt<|V' (Zai lk lk) pt<|mv' lk pt<|?_
 refine Zbl (t:=75) gt (b:=true) (by rfl) pt ?_
 refine s_do gt<|V' (Zap lk (hga hn rfl) ZjP rfl) pt<|s_do gt<|V' (ZaA (Zhe (cvl lki rfl) rfl (cvl lki rfl) rfl (cvl lks rfl) rfl)) pt<|s_do gt<|V' (Zhn lk lk ZiK) pt<|V' (Zai lk lk) pt<|mv' lk pt<|?_
 refine Zbl (t:=80) gt (b:=true) (by rfl) pt ?_
 exact s_do gt<|V' (Zap lk (hga hn rfl) ZjP rfl) pt<|s_do gt<|V' (ZaA (Zhd (cvl lki rfl) rfl (cvl lks rfl) rfl)) pt<|s_do gt<|V' (Zhn lk lk ZiK) pt<|V' (Zai lk lk) pt<|mv' lk pt<|sn'<|Zaa<|Zag rz<|rT' rfl
end Go.Proofs.YthdifaphoaekoaaGreatDoor
end
section
namespace Go.Proofs.YthdifaphoaekoaaGreatDoor
open Go.Ab Go.RowKit Civ
abbrev RulD:Ds:=.pair .str (.pair .int (.pair .int (.pair .int (.pair (.pair .int (.pair .int .int)) (.pair .int (.pair .int (.pair .int .str)))))))
abbrev EraD:Ds:=.pair .int (.pair .str (.pair .int (.pair .str (.pair .bool (.pair (.pair .int (.pair .int .int)) (.pair .int .int))))))
abbrev ZonD:Ds:=.pair .str (.slice EraD)
abbrev LnkD:Ds:=.pair .str .str
abbrev SrcDs:Ds:=.pair (.slice RulD) (.pair (.slice ZonD) (.slice LnkD))
theorem Zoh {s:Src}(h:okD SrcDs s):Zeb s:=by
 obtain ⟨h1,h2,h3⟩:=h
 refine ⟨fun r hr=>?_,fun z hz=>?_,fun l hl=>?_⟩
 ·obtain ⟨i,hi,rfl⟩:=List.getElem_of_mem hr
  have:=h1 i hi
  exact ⟨this.1,this.2.2.2.2.2.2.2.2⟩
 ·obtain ⟨i,hi,rfl⟩:=List.getElem_of_mem hz
  have:=h2 i hi
  refine ⟨this.1,fun x hx=>?_⟩
  obtain ⟨j,hj,rfl⟩:=List.getElem_of_mem hx
  have:=this.2 j hj
  exact ⟨this.2.1,this.2.2.2.1⟩
 ·obtain ⟨i,hi,rfl⟩:=List.getElem_of_mem hl
  exact h3 i hi
end Go.Proofs.YthdifaphoaekoaaGreatDoor
end
section
namespace Go
variable {H : Type} {enc : TypeId × Value → H}
theorem Ziu {a:Assume}{C:Checked}{os:Os}{f:FuncId}{fn:Func}{s:ChangeSpec}{apart fresh handsOn again:Bool}{laid:List (String×DataW Unit)}
  (own:ownKnob C.prog.godebug=none) (started:os.Started) (noInit:C.prog.inits.idxOf? f=none) (hfn:C.prog.funcs[f]?=some fn)
  (witness : ∃ (w:World) (tape:Tape) (i:Input),w.os=os∧(w.forCall tape i).Shaped C.prog∧i.vars=[]∧Input.okWide C.prog (w.forCall tape i) .any w.heap.size f i ∧
   ((s.pre enc C.prog fn [] apart (w.forCall tape i).memory i.args∧laidMetH C.prog laid (w.forCall tape i).memory)∧sizedMet enc C.prog fn (OpenSpec.ofChange s) apart (w.forCall tape i).memory i.args)∧a.holds C.prog (lone (Frame.enter C.prog f i.args .normal) [] (w.forCall tape i)))
  (contract : ∀ (W:World) (base:Nat) (args:Array Value) (ds gs:List (DataW H)) (before:List MemPlace),
   (∀ (j:Nat) t v,fn.params[j]?=some t→args[j]?=some v→Value.okWide C.prog W .any base t v) →
   DataW.Whole enc C.prog fn.params.toList s.vars apart W args.toList ds gs before →
   (DataW.weightsEach C.prog (fn.params.toList++s.plain.varTypes C.prog) (ds++gs)).all (· ≤ reachBytes)=true →
   laidMetH C.prog laid W→W.ShapedOpen C.prog →
   Calls C.prog f args W fun e W' => ∃ v,e=.returned v∧s.post enc C.prog fn apart fresh handsOn again W args v W') :
  ReturnsInHanded a C os f .any (fun w args=>(s.pre enc C.prog fn [] apart w args∧laidMetH C.prog laid w)∧sizedMet enc C.prog fn (OpenSpec.ofChange s) apart w args) (s.post enc C.prog fn apart fresh handsOn again):=by
 refine returnsInHanded_of_calls own started noInit witness ?_
 intro w tape i _ hsh _ hok hpre hholds
 obtain ⟨_,_,_,fn',hfn',_,_,_,_,hval⟩:=hok
 have e:fn'=fn:=Option.some.inj (hfn'.symm.trans hfn)
 subst e
 obtain ⟨⟨⟨ds,gs,before,hw,hc⟩,hx⟩,hz⟩:=hpre
 have hw':=DataW.Whole.of_heap (w':=w.forCall tape i) (by rfl) hw
 refine (contract (w.forCall tape i) w.heap.size i.args ds gs before hval hw' (hz.weights hw) (hx.of_heap (by rfl)) hsh).mono fun e W' ⟨v,he,hp⟩=>?_
 subst he
 exact ChangeSpec.post_blind hp
end Go
namespace Go.Proofs.YthdifaphoaekoaaGreatDoor
open Go.ChangeShapes Go.WideShapes Go.ChangeAt Go.RowKit Go.Ab
def ZsM (l:List (String×DataW Unit)):Prop:=l.length=l.length
theorem globW {W:World}{l:List (String×DataW Unit)}(hsh:W.ShapedOpen Tryz.prog) (hL:laidMetH Tryz.prog l W) (hl:ZsM l):GlobW W where
 tt:=trivial
 maxLen:=cell_of_shapedOpen_int (t:=3) (zero := #[.int .i64 0]) hsh (of_decide_eq_true (by kernel_rfl)) (by kernel_rfl) rfl (by kernel_rfl) (by kernel_rfl) Tryz.underlying3
end Go.Proofs.YthdifaphoaekoaaGreatDoor
end
