/-
  Part 3 of the proof: own lemmas and contracts on plain data. No condition beyond those that each lemma states.
-/
import Derived.Test.YtlekejpogddndaaGreatDoorLo2
import Derived.Shelf.SlSortCmp.WholeK
import Derived.Lib.ReplaceLaws
import Derived.Sort.OwnSorted
import Derived.Lib.RowBridge
set_option linter.all false
set_option maxRecDepth 1000000
set_option maxHeartbeats 4000000
section
namespace Go.Proofs.YtlekejpogddndaaGreatDoor
open Go.Ab
attribute [local simp] Zdd
def c92:AC:=(Sr [Mb 4 false] (.seq (Sr [Mv 6 0,Oo 7 (.len false (.tmp 6)),Mv 8 1,Oo 9 (.len false (.tmp 8)),Bn 10 .neq 7 9] (Cd 10 (Sr [Mb 4 false] .ret) .skip)) (.seq (Sr [Mc 5 0] (.block 0 (.loop (.seq (Sr [Mv 11 5,Mv 12 0,Oo 13 (.len false (.tmp 12)),Bn 14 .lss 11 13] (Cd 14 .skip (.exit 0))) (.seq (.block 1 (Sd [Mv 17 0,Mv 18 5,Oo 19 (.ia 1 (.tmp 17) (.tmp 18)),Ld 20 19,Mv 21 1,Mv 22 5,Oo 23 (.ia 1 (.tmp 21) (.tmp 22)),Ld 24 23,Bn 25 .neq 20 24] (Cd 25 (Sr [Mb 4 false] .ret) .skip))) (.reg [Mv 15 5,Bc 16 .add 15 1,Mv 5 16])))))) (Sr [Mb 4 true] .ret))))
theorem k92:ZaA Tryz.prog 92=some ⟨c92,[(.tmp 4)],26⟩:=by kernel_rfl
end Go.Proofs.YtlekejpogddndaaGreatDoor
end
section
namespace Go.Proofs.YtlekejpogddndaaGreatDoor
open Go.Ab Civ
attribute [local simp] Zb3 Zdd
section
theorem Zm1 {a0 a1 a2 c0 c1 c2:AV}{l:List AV}:setCells (a0::a1::a2::l) 0 [c0,c1,c2]=c0::c1::c2::l:=rfl
theorem Zfd {a0 a1 a2:AV}{l:List AV}:((a0::a1::a2::l).drop 0).take 3=[a0,a1,a2]:=rfl
theorem ZfI {τ:Operand→AV}{y0 y1 y2:Operand}{x0_0 x1_0 x2_0:AV}(h0:Zat (τ y0)=some [x0_0]) (l0:[x0_0].all leaf=true) (h1:Zat (τ y1)=some [x1_0]) (l1:[x1_0].all leaf=true) (h2:Zat (τ y2)=some [x2_0]) (l2:[x2_0].all leaf=true):Zar τ [(0,1,y0),(1,1,y1),(2,1,y2)] [(.v (.int .i64 0)),(.v (.int .i64 0)),(.v (.int .i64 0))]=some [x0_0,x1_0,x2_0]:=by
 simp only[Zar,h0,l0,h1,l1,h2,l2]
 rfl
theorem ZfH {τ:Operand→AV}{y0 y1 y2:Operand}{x0_0 x1_0 x2_0:AV}(h0:Zat (τ y0)=some [x0_0]) (l0:[x0_0].all leaf=true) (h1:Zat (τ y1)=some [x1_0]) (l1:[x1_0].all leaf=true) (h2:Zat (τ y2)=some [x2_0]) (l2:[x2_0].all leaf=true):Zar τ [(0,1,y0),(1,1,y1),(2,1,y2)] [(.v (.int .i64 0)),(.v (.int .i64 0)),(.v (.int .i64 0))]=some [x0_0,x1_0,x2_0]:=by
 simp only[Zar,h0,l0,h1,l1,h2,l2]
 rfl
theorem Zls {a0 b0:Int}{a1 b1:Int}{a2 b2:Int}:Zbn [.int,.int,.int] [iv a0,iv a1,iv a2] [iv b0,iv b1,iv b2]=some (decide (a0=b0∧a1=b1∧a2=b2)):=by
 simp only[Zbn,ZdY,if_true,ZcV,Option.some.injEq]
 simp only[Bool.decide_and,Bool.and_true]
 try (congr 1 <;> simp)
 try rfl
theorem ZfG {τ:Operand→AV}{y0:Operand}{x0_0:AV}(h0:Zat (τ y0)=some [x0_0]) (l0:[x0_0].all leaf=true):Zar τ [(0,1,y0)] [(.v (.int .i64 0))]=some [x0_0]:=by
 simp only[Zar,h0,l0]
 rfl
theorem ZfF {τ:Operand→AV}{y0 y1:Operand}{x0_0 x1_0:AV}(h0:Zat (τ y0)=some [x0_0]) (l0:[x0_0].all leaf=true) (h1:Zat (τ y1)=some [x1_0]) (l1:[x1_0].all leaf=true):Zar τ [(0,1,y0),(1,1,y1)] [(.v (.int .i64 0)),(.v (.int .i64 0))]=some [x0_0,x1_0]:=by
 simp only[Zar,h0,l0,h1,l1]
 rfl
end
def c32:AC:=(Sr [Mb 0 false] (Sr [Cl 11 76 [],Cl 12 34 [(.tmp 11),(Ci 100)],Mv 10 12,Ex 13 10 0,Ex 14 10 1,Ex 15 10 2,Oo 1 (.new 59 3 [(iv 0),(iv 0),(iv 0)]),⟨none,none,(.store 3 (.tmp 1) (.tmp 13))⟩,Mv 2 14,Mv 3 15] (Sd [Cl 17 76 [],Oo 18 (.load true 3 (.tmp 1)),Mv 19 2,Cl 20 60 [(.tmp 17),(.tmp 18),(.tmp 19)],Mv 16 20,Ex 21 16 0,Ex 22 16 1,Mv 4 21,Mv 5 22] (Sd [Cl 24 76 [],Oo 25 (.load true 3 (.tmp 1)),Cl 26 60 [(.tmp 24),(.tmp 25),(Ci 3700)],Mv 23 26,Ex 27 23 0,Ex 28 23 1,Mv 6 27,Mv 7 28] (Sr [Cl 30 76 [],Oo 31 (.build [(iv 0),(iv 0),(iv 0)] [(0,(1,(Ci 1970))),(1,(1,(Ci 1))),(2,(1,(Ci 2)))]),Cl 32 60 [(.tmp 30),(.tmp 31),(Ci 7300)],Mv 29 32,Ex 33 29 0,Ex 34 29 1,Mv 8 33,Mv 9 34] (Sr [Mv 35 3,Bc 36 .eql 35 0,Mv 37 36,Ot 38 37 (mt 5),Ot 39 37 (.bin .eql (.tmp 38) (Ci 0)),Oo 40 (.pick (.tmp 37) (.tmp 39) (.const (.bool false))),Mv 41 40,Ot 42 41 (mt 7),Ot 43 41 (.bin .eql (.tmp 42) (Ci 0)),Oo 44 (.pick (.tmp 41) (.tmp 43) (.const (.bool false))),Mv 45 44,Ot 46 45 (mt 9),Ot 47 45 (.bin .eql (.tmp 46) (Ci 0)),Oo 48 (.pick (.tmp 45) (.tmp 47) (.const (.bool false))),Mv 49 48,Ot 50 49 (.load true 3 (.tmp 1)),Ot 51 49 (.build [(iv 0),(iv 0),(iv 0)] [(0,(1,(Ci 1970))),(1,(1,(Ci 1))),(2,(1,(Ci 1)))]),Ot 52 49 (.eqs false [.int,.int,.int] (.tmp 50) (.tmp 51)),Oo 53 (.pick (.tmp 49) (.tmp 52) (.const (.bool false))),Mv 54 53,Ot 55 54 (mt 2),Ot 56 54 (.bin .eql (.tmp 55) (Ci 7300)),Oo 57 (.pick (.tmp 54) (.tmp 56) (.const (.bool false))),Mv 58 57,Ot 59 58 (mt 4),Ot 60 58 (.lit 3 1 1 [(iv 0)] [(0,(1,(Ci 100)))]),Ot 61 58 (.call (.func 92) [(.tmp 59),(.tmp 60)]),Oo 62 (.pick (.tmp 58) (.tmp 61) (.const (.bool false))),Mv 63 62,Ot 64 63 (mt 6),Ot 65 63 (.len false (.tmp 64)),Ot 66 63 (.bin .eql (.tmp 65) (Ci 0)),Oo 67 (.pick (.tmp 63) (.tmp 66) (.const (.bool false))),Mv 68 67,Ot 69 68 (mt 8),Ot 70 68 (.lit 3 1 2 [(iv 0),(iv 0)] [(0,(1,(Ci 86500))),(1,(1,(Ci 90100)))]),Ot 71 68 (.call (.func 92) [(.tmp 69),(.tmp 70)]),Oo 72 (.pick (.tmp 68) (.tmp 71) (.const (.bool false))),Mv 0 72] .ret))))))
theorem k32:ZaA Tryz.prog 32=some ⟨c32,[(.tmp 0)],73⟩:=by kernel_rfl
theorem ZsO:Za9 ZbV=0:=by kernel_rfl
theorem ZpK {f:Bool}{h:AH}:Ac 34 [.agg [iv ZbV.1.1,iv ZbV.1.2.1,sv ZbV.1.2.2,.sl ZbV.2.length 4 f (rows chgC ZbV.2)],iv 100] h (.tup [Zn2 (1970,1,1),iv 7300,iv 0]):=by
 have:=Zrz (t:=ZbV) (n:=100) (full:=f) (h:=h) Zgo
 rw[show Znc ZbV 100=(1970,1,1) by kernel_rfl,show ZpL ZbV 100=7300 by kernel_rfl,show ZpM ZbV 100=0 by kernel_rfl] at this
 exact this
theorem ZgY {y m d s N:Int}{L:List Int}{f:Bool}{h:AH}(he:ZhI ZbV (y,m,d) s=0) (hN:num y m d*86400+s=N) (hL:spA ZbV N=L) (hp:L.Pairwise (· ≤ ·)):Ac 60 [.agg [iv ZbV.1.1,iv ZbV.1.2.1,sv ZbV.1.2.2,.sl ZbV.2.length 4 f (rows chgC ZbV.2)],.agg [iv y,iv m,iv d],iv s] h (.tup [.sl L.length 1 false (rows intC L),iv 0]):=by
 have:=when_a (t:=ZbV) (y:=y) (m:=m) (d:=d) (s:=s) (full:=f) (h:=h) Zgo
 have e:ZkB ZbV (y,m,d) s=L:=by
  rw[ZkB,if_pos he,hN,←spA_when ZsO N,hL]
  exact (ZpY (List.Perm.refl _) hp).symm
 rw[he,e] at this
 exact this
theorem Zin {l m:List Int}{f1:Bool}{id v ty:Nat}{h:AH}(hid:h[id]?=some (.mk v ty 1 (rows intC m))):Ac 92 [.sl l.length 1 f1 (rows intC l),.own id v m.length] h (bv (decide (l=m))):=by
 refine tI' k92 fun N hn hlt hlA hbd=>?_
 simp only[tb'] at hbd ⊢
 refine wr'<|mw<|sn'<|Zam<|wr'<|mw<|Vw (ZaL lk)<|mw<|Vw (ZcW lk)<|Vw (ZaT lk lk)<|Zas<|?_
 refine Zah ?_
 refine cd' lk (fun hc1=>?_) (fun hc1=>?_)
 ·refine wr'<|mw<|sn'<|Zaa<|Zai<|Zae rz<|rT'<|?_
  refine bvx (decide_eq_false (fun e=>hc1 (by rw[e]))).symm
 refine Zaf<|Zah<|Zam<|wr'<|mw<|sn'<|Zap<|?_
 refine w_lp (ι:=Nat) (fun (k:Nat)=>[(5,iv (k:Int)),(4,.any)]++rn' 11 15) (fun (k:Nat)=>[]) (fun (k:Nat)=>k≤l.length∧l.length=m.length∧l.take k=m.take k) (fun (k:Nat)=>l.length-k) (0) (by exact⟨by omega,by omega,by simp⟩) ?_
 rintro k hi1
 try simp only[sm',Nat.reduceAdd]
 obtain⟨hk1,hk2,hk3⟩:=hi1
 refine Zam<|wr'<|mw<|mw<|Vw (ZaL lk)<|Vw (Zbb lk lk)<|sn'<|?_
 refine cd' lk (fun hc2=>?_) (fun hc2=>?_)
 ·refine Zaf<|Zah<|Zam<|Zap<|Zam<|ZbZ<|Dw (v_mv lk)<|Dw (v_mv lk)<|?_
  refine D' (Za0 lk lk ZcS (nb' rfl) ro om ro rfl) pt ?_
  refine Dw (ZaE lk gt)<|Dw (v_mv lk)<|Dw (v_mv lk)<|?_
  refine D' (ZlC lk lk (ZdW hid) ZcS (nb' rfl) ro om (by first | rfl | (simp;done) | omega)) pt ?_
  refine D' (v_ldOR1 lk (ZdW hid) ZcS om rfl) pt ?_
  refine D' ((by first | exact ZaT lk lk | exact Zcr lk lk)) pt ?_
  refine ZbI ?_
  refine Zch ?_
  refine sn' ?_
  refine cd' lk (fun hc3=>?_) (fun hc3=>?_)
  ·refine wr'<|mw<|sn'<|Zaa<|Zaq<|Zai<|Zai<|Zaq<|Zai<|Zae rz<|rT'<|?_
   refine bvx (decide_eq_false (fun e=>hc3 (by subst e;simp))).symm
  refine Zaf<|Zaz<|Zah<|Zav<|mw<|?_
  refine V' (Zay lk lki om om) pt ?_
  refine mw<|Zas<|ZaB<|?_
  refine lT' (k+1) (by (try dsimp only);exact⟨by omega,hk2,by rw[List.take_succ_eq_append_getElem om,List.take_succ_eq_append_getElem om,hk3,Decidable.of_not_not hc3]⟩)
 refine ZaQ<|ZaD<|ZaD<|Zba<|Zah<|wr'<|mw<|sn'<|Zaa<|Zae rz<|rT'<|?_
 refine bvx (decide_eq_true ?_).symm
 rw[List.take_of_length_le om,List.take_of_length_le om] at hk3
 exact hk3
theorem lbegun_a {h:AH}:Ac 32 [] h (bv true):=by
 refine tI' k32 fun N hn hlt hlA hbd=>?_
 simp only[tb'] at hbd ⊢
 refine wr'<|mw<|sn'<|wr'<|Zad mp0 (ZeW) pt<|Zad mp (ZpK) pt<|mw<|Vw (ZaN lk gt)<|Vw (ZaN lk gt)<|Vw (ZaN lk gt)<|E' (ZaV (hl0 hn) ha0) pt<|?_
 refine E' (Zak lk cv gx rfl (nb' rfl) rfl Zm1 (hs0 hn)) ptn<|mw<|mw<|sn'<|Zam<|ZbZ<|?_
 refine ZaY mp0 (fun hE hX=>ZeW) pt ?_
 refine Dw (Zan lk gx Zfd rfl)<|Dw (v_mv lk)<|?_
 refine ZaY mp (fun hE hX=>ZgY (y:=1970) (m:=1) (d:=1) (s:=7300) (N:=7300) (L:=[100]) (by kernel_rfl) (by kernel_rfl) (by kernel_rfl) (by decide)) pt ?_
 refine Dw (v_mv lk)<|Dw (ZaN lk gt)<|Dw (ZaN lk gt)<|Dw (v_mv lk)<|Dw (v_mv lk)<|ZbI<|?_
 refine Zch ?_
 refine sn'<|Zam<|ZbZ<|?_
 refine ZaY mp0 (fun hE hX=>ZeW) pt ?_
 refine D' (Zan lk gx Zfd rfl) pt ?_
 refine ZaY mp (fun hE hX=>ZgY (y:=1970) (m:=1) (d:=1) (s:=3700) (N:=3700) (L:=[]) (by kernel_rfl) (by kernel_rfl) (by kernel_rfl) (by decide)) pt ?_
 refine Dw (v_mv lk)<|Dw (ZaN lk gt)<|Dw (ZaN lk gt)<|Dw (v_mv lk)<|Dw (v_mv lk)<|ZbI<|?_
 refine Zch ?_
 refine sn'<|wr'<|Zad mp0 (ZeW) pt<|Vw (Zau (ZfI (cvl lki rfl) rfl (cvl lki rfl) rfl (cvl lki rfl) rfl))<|?_
 refine Zad mp (ZgY (y:=1970) (m:=1) (d:=2) (s:=7300) (N:=93700) (L:=[86500,90100]) (by kernel_rfl) (by kernel_rfl) (by kernel_rfl) (by decide)) pt ?_
 refine mw<|Vw (ZaN lk gt)<|Vw (ZaN lk gt)<|mw<|mw<|sn'<|wr'<|mw<|Vw (ZaP lk lki)<|mw<|?_
 refine ZbF (t:=37) gt (b:=true) (by exact decide_eq_true rfl) pt ?_
 refine s_do gt<|mw<|s_do gt<|Vw (ZaP lk lki)<|Vw (Zag lk lk)<|mw<|?_
 refine ZbF (t:=41) gt (b:=true) (by exact decide_eq_true rfl) pt ?_
 refine s_do gt<|mw<|s_do gt<|Vw (ZaP lk lki)<|Vw (Zag lk lk)<|mw<|?_
 refine ZbF (t:=45) gt (b:=true) (by exact decide_eq_true rfl) pt ?_
 refine s_do gt<|mw<|s_do gt<|Vw (ZaP lk lki)<|Vw (Zag lk lk)<|mw<|?_
 refine ZbF (t:=49) gt (b:=true) (by exact decide_eq_true rfl) pt ?_
 refine s_do gt<|Vw (Zan lk gx Zfd rfl)<|s_do gt<|Vw (Zau (ZfH (cvl lki rfl) rfl (cvl lki rfl) rfl (cvl lki rfl) rfl))<|s_do gt<|Vw (Zf9 lk lk Zls)<|Vw (Zag lk lk)<|mw<|?_
 refine ZbF (t:=54) gt (b:=true) (by exact decide_eq_true ⟨rfl,rfl,rfl⟩) pt ?_
 refine s_do gt<|mw<|s_do gt<|Vw (ZaP lk lki)<|Vw (Zag lk lk)<|mw<|?_
 refine ZbF (t:=58) gt (b:=true) (by exact decide_eq_true rfl) pt ?_
 refine s_do gt<|mw<|s_do gt<|E' (Zdm (ZfG (cvl lki rfl) rfl) (hl1 hn) ha1) pt<|s_do gt<|Zad mp (Zin (l:=[100]) (m:=[100]) gx) pt<|Vw (Zag lk lk)<|mw<|?_
 refine ZbF (t:=63) gt (b:=true) (by exact decide_eq_true rfl) pt ?_
 refine s_do gt<|mw<|s_do gt<|Vw (ZaL lk)<|s_do gt<|Vw (ZaP lk lki)<|Vw (Zag lk lk)<|mw<|?_
 refine ZbF (t:=68) gt (b:=true) (by exact decide_eq_true rfl) pt ?_
 exact s_do gt<|mw<|s_do gt<|E' (Zdm (ZfF (cvl lki rfl) rfl (cvl lki rfl) rfl) (hl2 hn) ha2) pt<|s_do gt<|Zad mp (Zin (l:=[86500,90100]) (m:=[86500,90100]) gx) pt<|Vw (Zag lk lk)<|mw<|sn'<|Zaa<|Zae rz<|rT' rfl
end Go.Proofs.YtlekejpogddndaaGreatDoor
end
section
namespace Go.Proofs.YtlekejpogddndaaGreatDoor
open Go.Ab Civ
abbrev Trn:=Int×Rul
abbrev Tim:=Int×Int×ByteArray
abbrev trnC (t:Trn):List AV:=iv t.1::rulC t.2
abbrev timC (t:Tim):List AV:=[iv t.1,iv t.2.1,sv t.2.2]
theorem ZlE {n:Nat}(l:List Trn):AV.ltL n (rows trnC l)=true:=Zdi (fun n x=>by simp[AV.ltL,AV.lt]) l
theorem Zd5 {n:Nat}(l:List Tim):AV.ltL n (rows timC l)=true:=Zdi (fun n x=>by simp[AV.ltL,AV.lt]) l
theorem Zgb : ∀ x,(trnC x).length=12:=fun _=>rfl
theorem ZoT : ∀ x,(timC x).length=3:=fun _=>rfl
theorem trn_len (l:List Trn):(rows trnC l).length=l.length*12:=Za6 Zgb l
theorem ZkF (l:List Tim):(rows timC l).length=l.length*3:=Za6 ZoT l
instance decTim:DecidableEq Tim:=inferInstance
abbrev rFr (r:Rul):Int:=r.2.1
abbrev rTo (r:Rul):Int:=r.2.2.1
abbrev rDy (r:Rul) (y:Int):Int:=Zdj y r.2.2.2.1 r.2.2.2.2.1.1 r.2.2.2.2.1.2.1 r.2.2.2.2.1.2.2
abbrev rAt (r:Rul):Int:=r.2.2.2.2.2.1
abbrev rCk (r:Rul):Int:=r.2.2.2.2.2.2.1
abbrev rSv (r:Rul):Int:=r.2.2.2.2.2.2.2.1
abbrev rLt (r:Rul):ByteArray:=r.2.2.2.2.2.2.2.2
def Zh8 (r:Rul) (y:Int):Int:=rDy r y*86400+rAt r
def ZjC (a b:Int):List Int:=(List.range (b+1-a).toNat).map fun (k:Nat)=>a+(k:Int)
def Zc9 (r:Rul):List Trn:=(ZjC (rFr r) (rTo r)).map fun y=>(Zh8 r y,r)
def Zbf (l:List Rul) (nm:ByteArray):List Trn:=l.flatMap fun r=>if r.1=nm then Zc9 r else []
def offV (r:Rul) (sh sa:Int):Int:=if rCk r=1 then sh+sa else if rCk r=2 then sh else 0
def timV (sh sa:Int) (t:Trn):Tim:=(t.1-offV t.2 sh sa,rSv t.2,rLt t.2)
def outV (sh:Int):Int→List Trn→List Tim
 | _,[]=>[]
 | sa,t::l=>timV sh sa t::outV sh (rSv t.2) l
def gapB:List Trn→Bool
 | a::b::l=>decide (b.1-a.1<172800)||gapB (b::l)
 | _=>false
def srtT (l:List Trn):List Trn:=l.mergeSort fun a b=>decide (a.1≤b.1)
def ZdH (l:List Rul) (nm:ByteArray) (sh:Int):Int :=
 if 40<l.length then 2 else if Za4 Zbw l≠0 then Za4 Zbw l else if sh < -64800∨sh>64800 then 3
 else if l.any (fun r=>decide (r.1=nm))=false then 5 else 0
def Zbc (l:List Rul) (nm:ByteArray) (sh:Int):List Tim×Int :=
 if ZdH l nm sh≠0 then ([],ZdH l nm sh)
 else if gapB (srtT (Zbf l nm))=true then ([],4)
 else if 1000<(Zbf l nm).length then ([],2) else (outV sh 0 (srtT (Zbf l nm)),0)
theorem ZkK (l:List Trn):(srtT l).Perm l:=List.mergeSort_perm l _
theorem ZpX (l:List Trn):(srtT l).Pairwise fun a b=>a.1≤b.1:=by
 have h:=List.pairwise_mergeSort (le:=fun a b:Trn=>decide (a.1≤b.1)) (fun a b c h1 h2=>by simp at *;omega) (fun a b=>by simp;omega) l
 exact h.imp fun h=>by simpa using h
theorem srt_len (l:List Trn):(srtT l).length=l.length:=List.length_mergeSort l
theorem Zgu {a b:Trn}{l:List Trn}:gapB (a::b::l)=(decide (b.1-a.1<172800)||gapB (b::l)):=rfl
theorem Zp9 {l m:List Trn}(hp:l.Perm m) (h1:l.Pairwise fun a b=>a.1≤b.1) (h2:m.Pairwise fun a b=>a.1≤b.1):l.map (·.1)=m.map (·.1):=by
 refine List.Perm.eq_of_pairwise (le:=fun a b:Int=>a≤b) (fun a b _ _ h1 h2=>by omega) ?_ ?_ (hp.map _)
 ·exact List.pairwise_map.2 h1
 ·exact List.pairwise_map.2 h2
def gapI:List Int→Bool
 | a::b::l=>decide (b-a<172800)||gapI (b::l)
 | _=>false
theorem ZkZ : ∀ l:List Trn,gapB l=gapI (l.map (·.1))
 | []=>rfl
 | [_]=>rfl
 | a::b::l=>by rw[Zgu,ZkZ (b::l)];rfl
theorem Zha : ∀ {l:List Trn},gapB l=false→l.Pairwise (fun a b=>a.1≤b.1)→l.Pairwise fun a b=>a.1<b.1
 | [],_,_=>.nil
 | [a],_,_=>by simp
 | a::b::l,h,hp=>by
  rw[Zgu,Bool.or_eq_false_iff] at h
  have h1:¬b.1-a.1<172800:=by simpa using h.1
  rw[List.pairwise_cons] at hp
  have ih:=Zha h.2 hp.2
  refine List.pairwise_cons.2 ⟨fun x hx=>?_,ih⟩
  rcases List.mem_cons.1 hx with rfl | hx
  ·omega
  ·have:=(List.pairwise_cons.1 hp.2).1 x hx;omega
theorem gap_uniq {l m:List Trn}(hp:l.Perm m) (h1:l.Pairwise fun a b=>a.1≤b.1) (h2:m.Pairwise fun a b=>a.1≤b.1):gapB l=gapB m∧(gapB l=false→l=m):=by
 have e:gapB l=gapB m:=by rw[ZkZ,ZkZ,Zp9 hp h1 h2]
 refine⟨e,fun h=>?_⟩
 exact List.Perm.eq_of_pairwise (le:=fun a b:Trn=>a.1<b.1) (fun a b _ _ h1 h2=>by omega) (Zha h h1) (Zha (e ▸ h) h2) hp
theorem Zk0 : ∀ l:List Trn,gapB l=false ↔ ∀ i (h:i+1<l.length),172800≤l[i+1].1-l[i].1
 | []=>by simp[gapB]
 | [_]=>by simp[gapB]
 | a::b::l=>by
  rw[Zgu,Bool.or_eq_false_iff,Zk0 (b::l)]
  constructor
  ·rintro⟨h1,h2⟩ i hi
   cases i with
   | zero=>simp at h1 ⊢;omega
   | succ i=>exact h2 i (by simpa using hi)
  ·intro h
   refine⟨?_,fun i hi=>h (i+1) (by simpa using hi)⟩
   have:=h 0 (by simp)
   simp at this ⊢;omega
theorem Zs3 {l:List Trn}{i:Nat}(h:i+1<l.length) (hg:l[i+1].1-l[i].1<172800):gapB l=true:=by
 by_cases e:gapB l=true
 ·exact e
 ·have:=(Zk0 l).1 (by simpa using e) i h;omega
def svAt (l:List Trn) (i:Nat):Int:=match i with
 | 0=>0
 | i+1=>match l[i]? with
  | some t=>rSv t.2
  | none=>0
theorem Zik {l:List Trn}{i:Nat}(h:i<l.length):svAt l (i+1)=rSv l[i].2:=by
 show (match l[i]? with | some t=>rSv t.2 | none=>0)=_
 rw[List.getElem?_eq_getElem h]
def lastS:Int→List Trn→Int
 | sa,[]=>sa
 | _,t::l=>lastS (rSv t.2) l
theorem ZjW : ∀ (l:List Trn) (t:Trn) (sa:Int),lastS sa (l++[t])=rSv t.2
 | [],t,sa=>rfl
 | u::l,t,sa=>ZjW l t (rSv u.2)
theorem Zo5 : ∀ (l m:List Trn) (sh sa:Int),outV sh sa (l++m)=outV sh sa l++outV sh (lastS sa l) m
 | [],m,sh,sa=>rfl
 | t::l,m,sh,sa=>by rw[List.cons_append,outV,Zo5 l m,outV,List.cons_append];rfl
theorem Zmd {l:List Trn}{i:Nat}(h:i<l.length) (sh:Int):outV sh 0 (l.take (i+1))=outV sh 0 (l.take i)++[timV sh (svAt l i) l[i]]:=by
 rw[List.take_succ_eq_append_getElem h,Zo5]
 congr 1
 rw[outV,outV]
 cases i with
 | zero=>rfl
 | succ i=>rw[Zik om,List.take_succ_eq_append_getElem (i:=i) om,ZjW]
theorem Zgn : ∀ (l:List Trn) (sh sa:Int),(outV sh sa l).length=l.length
 | [],_,_=>rfl
 | t::l,sh,sa=>by rw[outV,List.length_cons,Zgn l,List.length_cons]
theorem Zcn {r:Rul}(h:Zbw r=0):1900≤rFr r∧rFr r≤rTo r∧rTo r≤2100∧(1≤r.2.2.2.1∧r.2.2.2.1≤12)∧ZbX 2001 r.2.2.2.1 r.2.2.2.2.1.1 r.2.2.2.2.1.2.1 r.2.2.2.2.1.2.2=0∧(0≤rAt r∧rAt r≤172800)∧clkB (rCk r) true=true∧(0≤rSv r∧rSv r≤10800):=by
 unfold Zbw at h
 split at h
 ·omega
 split at h
 ·omega
 rename_i h2
 split at h
 ·rename_i h3;exact absurd h h3
 rename_i h3
 split at h
 ·omega
 rename_i h4
 split at h
 ·omega
 rename_i h5
 split at h
 ·omega
 rename_i h6
 have w1:wi r.2.2.2.1 1 12=true:=Decidable.of_not_not fun e=>h2 (.inr (.inr (.inr e)))
 refine⟨show 1900≤r.2.1 by omega,show r.2.1≤r.2.2.1 by omega,show r.2.2.1≤2100 by omega,ZbC.1 w1,?_,ZbC.1 (Decidable.of_not_not h4),Decidable.of_not_not h5,ZbC.1 (Decidable.of_not_not h6)⟩
 by_cases e:ZbX 2001 r.2.2.2.1 r.2.2.2.2.1.1 r.2.2.2.2.1.2.1 r.2.2.2.2.1.2.2=0
 ·exact e
 ·exact absurd (Decidable.of_not_not h3) (by rw[ZjP rfl e];exact e)
theorem ZsD (m y:Int):mlen 2001 m≤mlen y m:=by
 have:=ZnC y
 have e:lp 2001=0:=by decide
 unfold mlen;rw[e];split <;> (try split) <;> (try split) <;> (try split) <;> (try split) <;> omega
theorem Zs4 {m k w n y:Int}(h:ZbX 2001 m k w n=0) (hy:1≤y∧y≤9999):ZbX y m k w n=0:=by
 obtain⟨_,h2,h3,h4,h5,h6,h7⟩:=Zk1 h
 have:=ZsD m y
 unfold ZbX
 repeat' split
 all_goals omega
theorem onDay_bd {m k w n y:Int}(h:ZbX y m k w n=0) (hy:1900≤y∧y≤2100) : -30000≤Zdj y m k w n∧Zdj y m k w n≤50000:=by
 obtain⟨h1,h2,h3,h4,h5,h6,h7⟩:=Zk1 h
 have hm:=Zd3 y m
 have a:=ZeF (a:=1900) (b:=y) hy.1
 have b:=ZeF (a:=y) (b:=2100) hy.2
 have c:=ZmI (y:=y) (m:=m) h2.1 om
 have e1:bef 1900=693595:=by decide
 have e2:bef 2100=766644:=by decide
 unfold Zdj fwd bwd num
 repeat' split
 all_goals omega
theorem Znz {r:Rul}(h:Zbw r=0) {y:Int}(hy:1900≤y∧y≤2100):onV y r.2.2.2.1 r.2.2.2.2.1.1 r.2.2.2.2.1.2.1 r.2.2.2.2.1.2.2=(Zbl (rDy r y),0) ∧ -30000≤rDy r y∧rDy r y≤50000:=by
 obtain⟨_,_,_,_,h5,_⟩:=Zcn h
 have hf:=Zs4 (y:=y) h5 om
 have hb:=onDay_bd hf hy
 exact⟨by rw[Ziz hf rfl,if_pos om],hb⟩
theorem ZrD {r:Rul}(h:Zbw r=0) {y:Int}(hy:1900≤y∧y≤2100) : -2592000000≤Zh8 r y∧Zh8 r y≤4320172800:=by
 have:=(Znz h hy).2
 obtain⟨_,_,_,_,_,h6,_⟩:=Zcn h
 unfold Zh8;omega
theorem Zdx {α:Type}{p:α→Int} : ∀ {l:List α},Za4 p l=0 → ∀ x∈l,p x=0
 | [],_,x,hx=>by cases hx
 | a::l,h,x,hx=>by
  rw[Za4] at h
  split at h
  ·rename_i h1;exact absurd h h1
  ·rename_i h1
   rcases List.mem_cons.1 hx with rfl | hx
   ·exact Decidable.of_not_not h1
   ·exact Zdx h x hx
theorem Zgk {l:List Rul}{nm:ByteArray}{sh:Int}(h:ZdH l nm sh=0):l.length≤40∧(∀ r∈l,Zbw r=0)∧(-64800≤sh∧sh≤64800) ∧ ∃ r∈l,r.1=nm:=by
 unfold ZdH at h
 split at h
 ·omega
 split at h
 ·rename_i h1;exact absurd h h1
 rename_i h1
 split at h
 ·omega
 split at h
 ·omega
 rename_i h2
 refine⟨by omega,Zdx (Decidable.of_not_not h1),by omega,?_⟩
 have h3:l.any (fun r=>decide (r.1=nm))=true:=by simpa using h2
 simpa using h3
theorem Zmm {a b y:Int}:y∈ZjC a b↔a≤y∧y≤b:=by
 unfold ZjC
 simp only[List.mem_map,List.mem_range]
 constructor
 ·rintro⟨k,hk,rfl⟩;omega
 ·intro h;exact⟨(y-a).toNat,by omega,by omega⟩
theorem Zlz (a b:Int):(ZjC a b).length=(b+1-a).toNat:=by simp[ZjC]
theorem ZsI {l:List Rul}{nm:ByteArray}{t:Trn}:t∈Zbf l nm↔t.2∈l∧t.2.1=nm ∧ ∃ y,(rFr t.2≤y∧y≤rTo t.2)∧t.1=Zh8 t.2 y:=by
 unfold Zbf
 rw[List.mem_flatMap]
 constructor
 ·rintro⟨r,hr,h⟩
  split at h
  ·rename_i hn
   obtain⟨y,hy,rfl⟩:=List.mem_map.1 h
   exact⟨hr,hn,y,Zmm.1 hy,rfl⟩
  ·cases h
 ·rintro⟨hr,hn,y,hy,e⟩
  refine⟨t.2,hr,?_⟩
  rw[if_pos hn]
  exact List.mem_map.2 ⟨y,Zmm.2 hy,by rw[←e]⟩
theorem ZkC {l:List Rul}{nm:ByteArray}(h : ∀ r∈l,Zbw r=0) {t:Trn}(ht:t∈Zbf l nm):Zbw t.2=0 ∧ -2592000000≤t.1∧t.1≤4320172800:=by
 obtain⟨h1,h2,y,hy,e⟩:=ZsI.1 ht
 have h3:=h _ h1
 obtain⟨q1,q2,q3,_⟩:=Zcn h3
 rw[e]
 exact⟨h3,ZrD h3 om⟩
theorem ZgZ {r:Rul}(h:Zbw r=0):(Zc9 r).length≤201∧((Zc9 r).length:Int)=rTo r-rFr r+1:=by
 obtain⟨h1,h2,h3,_⟩:=Zcn h
 unfold Zc9
 rw[List.length_map,Zlz];omega
theorem Zh7 : ∀ {l:List Rul}{nm:ByteArray},(∀ r∈l,Zbw r=0)→(Zbf l nm).length≤201*l.length
 | [],nm,_=>by simp[Zbf]
 | r::l,nm,h=>by
  have ih:=Zh7 (l:=l) (nm:=nm) fun x hx=>h x (by simp[hx])
  have h1:=ZgZ (h r (by simp))
  unfold Zbf at ih ⊢
  rw[List.flatMap_cons,List.length_append,List.length_cons]
  split
  ·omega
  ·rw[List.length_nil];omega
theorem ZjD {l:List Rul}{k:Nat}(hk:k<l.length) (nm:ByteArray):Zbf (l.take (k+1)) nm=Zbf (l.take k) nm++(if l[k].1=nm then Zc9 l[k] else []):=by
 unfold Zbf
 rw[List.take_succ_eq_append_getElem hk,List.flatMap_append,List.flatMap_cons,List.flatMap_nil,List.append_nil]
theorem svAt_bd {l:List Trn}{i:Nat}(h : ∀ t∈l,Zbw t.2=0):0≤svAt l i∧svAt l i≤10800:=by
 cases i with
 | zero=>simp[svAt]
 | succ i =>
  show 0≤(match l[i]? with | some t=>rSv t.2 | none=>0)∧(match l[i]? with | some t=>rSv t.2 | none=>0)≤10800
  cases e:l[i]? with
  | none=>exact⟨by simp,by simp⟩
  | some t =>
   obtain⟨_,_,_,_,_,_,_,h8⟩:=Zcn (h t (List.mem_of_getElem? e))
   exact h8
theorem Zsy {r:Rul}{sh sa:Int}(h : -64800≤sh∧sh≤64800) (h2:0≤sa∧sa≤10800) : -64800≤offV r sh sa∧offV r sh sa≤75600:=by
 unfold offV;split
 ·omega
 split <;> omega
theorem ZoS {l:List Rul}{nm:ByteArray}{sh:Int}(hr:ZdH l nm sh=0) {S:List Trn}(hp:S.Perm (Zbf l nm)) (hs:S.Pairwise fun a b=>a.1≤b.1) :
  Zbc l nm sh=if gapB S=true then ([],4) else if 1000<S.length then ([],2) else (outV sh 0 S,0):=by
 obtain⟨g1,g2⟩:=gap_uniq (hp.trans (ZkK _).symm) hs (ZpX _)
 unfold Zbc
 rw[if_neg (by simp[hr]),←g1,←hp.length_eq]
 by_cases e:gapB S=true
 ·rw[if_pos e,if_pos e]
 ·rw[if_neg e,if_neg e,g2 (by simpa using e)]
theorem ZlH {l:List Rul}{nm:ByteArray}{sh:Int}(hr:ZdH l nm sh≠0):Zbc l nm sh=([],ZdH l nm sh):=if_pos hr
end Go.Proofs.YtlekejpogddndaaGreatDoor
end
section
namespace Go.Proofs.YtlekejpogddndaaGreatDoor
def Zdk (F:Loc):List Chg→Int→Loc
 | [],_=>F
 | c::cs,a=>if c.1≤a then Zdk c.2 cs a else F
def nrm (a:Int) (F:Loc):List Chg→Prop
 | []=>True
 | c::cs=>a<c.1∧c.2≠F∧nrm c.1 c.2 cs
theorem Zo7 {M:Int} : ∀ (C C':List Chg) (a:Int) (F:Loc),nrm a F C→nrm a F C'→(∀ c∈C,c.1≤M)→(∀ c∈C',c.1≤M)→(∀ x,a≤x→x≤M→Zdk F C x=Zdk F C' x)→C=C'
 | [],[],_,_,_,_,_,_,_=>rfl
 | [],c::cs,a,F,_,h2,_,m2,h=>by
  have:=h c.1 (by have:=h2.1;omega) (m2 c (by simp))
  rw[Zdk,Zdk,if_pos (Int.le_refl _)] at this
  have e:Zdk c.2 cs c.1=c.2:=by
   cases cs with
   | nil=>rfl
   | cons d ds=>rw[Zdk,if_neg (by have:=h2.2.2.1;omega)]
  rw[e] at this
  exact absurd this.symm h2.2.1
 | c::cs,[],a,F,h1,_,m1,_,h=>by
  have:=h c.1 (by have:=h1.1;omega) (m1 c (by simp))
  rw[Zdk,Zdk,if_pos (Int.le_refl _)] at this
  have e:Zdk c.2 cs c.1=c.2:=by
   cases cs with
   | nil=>rfl
   | cons d ds=>rw[Zdk,if_neg (by have:=h1.2.2.1;omega)]
  rw[e] at this
  exact absurd this h1.2.1
 | c::cs,d::ds,a,F,h1,h2,m1,m2,h=>by
  have self : ∀ (c:Chg) (cs:List Chg),nrm c.1 c.2 cs→Zdk c.2 cs c.1=c.2:=by
   intro c cs hn
   cases cs with
   | nil=>rfl
   | cons d ds=>rw[Zdk,if_neg (by have:=hn.1;omega)]
  have hc:=h c.1 (by have:=h1.1;omega) (m1 c (by simp))
  have hd:=h d.1 (by have:=h2.1;omega) (m2 d (by simp))
  rw[Zdk,Zdk,if_pos (Int.le_refl _),self c cs h1.2.2] at hc
  rw[Zdk,Zdk,if_pos (Int.le_refl _),self d ds h2.2.2] at hd
  have e1:c.1=d.1:=by
   rcases Int.lt_trichotomy c.1 d.1 with e | e | e
   ·rw[if_neg om] at hc;exact absurd hc h1.2.1
   ·exact e
   ·rw[if_neg om] at hd;exact absurd hd.symm h2.2.1
  rw[if_pos om,e1,self d ds h2.2.2] at hc
  have e2:c=d:=Prod.ext e1 hc
  subst e2
  refine congrArg _ (Zo7 cs ds c.1 c.2 h1.2.2 h2.2.2 (fun x hx=>m1 x (by simp[hx])) (fun x hx=>m2 x (by simp[hx])) fun x hx hM=>?_)
  have:=h x (by have:=h1.1;omega) hM
  rwa [Zdk,Zdk,if_pos hx,if_pos hx] at this
def dd (F:Loc):List Chg→List Chg
 | []=>[]
 | c::cs=>if c.2=F then dd F cs else c::dd c.2 cs
def pts (g:Int→Loc) (L:List Int):List Chg:=L.map fun a=>(a,g a)
theorem ZmD : ∀ {l:List Chg}{F:Loc}{c:Chg},c∈dd F l→c∈l
 | [],_,_,h=>by cases h
 | d::l,F,c,h=>by
  rw[dd] at h
  split at h
  ·exact List.mem_cons_of_mem _ (ZmD h)
  ·rcases List.mem_cons.1 h with rfl | h
   ·exact List.mem_cons_self
   ·exact List.mem_cons_of_mem _ (ZmD h)
theorem Ztl : ∀ (l:List Chg) (F:Loc),(dd F l).length≤l.length
 | [],_=>Nat.le_refl _
 | d::l,F=>by
  rw[dd]
  split
  ·have:=Ztl l F;simp only[List.length_cons];omega
  ·have:=Ztl l d.2;simp only[List.length_cons];omega
theorem Ztm : ∀ (l m:List Chg) (F:Loc),dd F (l++m)=dd F l++dd ((dd F l).getLast?.elim F (·.2)) m
 | [],m,F=>rfl
 | c::l,m,F=>by
  rw[List.cons_append,dd,dd]
  split
  ·exact Ztm l m F
  ·rw[Ztm l m c.2,List.cons_append,List.getLast?_cons]
   cases (dd c.2 l).getLast? <;> rfl
theorem Ztk {g:Int→Loc} : ∀ {L:List Int}{a:Int},L.Pairwise (· ≤ ·)→(∀ x∈L,a≤x)→nrm a (g a) (dd (g a) (pts g L))
 | [],_,_,_=>trivial
 | p::L,a,hs,ha=>by
  have h1:=ha p (by simp)
  show nrm a (g a) (if g p=g a then dd (g a) (pts g L) else (p,g p)::dd (g p) (pts g L))
  rw[List.pairwise_cons] at hs
  split
  ·exact Ztk hs.2 fun x hx=>ha x (by simp[hx])
  ·rename_i hne
   exact⟨by have:a≠p:=fun e=>hne (by rw[e]);show a<p;omega,hne,Ztk hs.2 hs.1⟩
theorem ZsP {F:Loc}{l:List Chg}{x:Int}(h : ∀ c∈l,x<c.1):Zdk F l x=F:=by
 cases l with
 | nil=>rfl
 | cons c l=>rw[Zdk,if_neg (by have:=h c (by simp);omega)]
theorem ZnA {g:Int→Loc}{L:List Int}{c:Chg}:c∈pts g L↔c.1∈L∧c.2=g c.1:=by
 unfold pts
 rw[List.mem_map]
 constructor
 ·rintro⟨a,ha,rfl⟩;exact⟨ha,rfl⟩
 ·rintro⟨h1,h2⟩;exact⟨c.1,h1,by rw[←h2]⟩
def still (g:Int→Loc) (L:List Int) (a M:Int):Prop := ∀ u v,a≤u→u≤v→v≤M→(∀ p∈L,¬(u<p∧p≤v))→g u=g v
theorem Zn1 {g:Int→Loc}{M:Int} : ∀ {L:List Int}{a:Int},L.Pairwise (· ≤ ·)→(∀ x∈L,a≤x)→still g L a M → ∀ x,a≤x→x≤M→Zdk (g a) (dd (g a) (pts g L)) x=g x
 | [],a,_,_,hc,x,h1,h2=>hc a x (Int.le_refl _) h1 h2 (by simp)
 | p::L,a,hs,ha,hc,x,h1,h2=>by
  have hp:=ha p (by simp)
  rw[List.pairwise_cons] at hs
  have hc':still g L p M:=fun u v q1 q2 q3 q4=>hc u v om q2 q3 (fun z hz=>by
   rcases List.mem_cons.1 hz with rfl | hz
   ·omega
   ·exact q4 z hz)
  show Zdk (g a) (if g p=g a then dd (g a) (pts g L) else (p,g p)::dd (g p) (pts g L)) x=g x
  have low:x<p→g a=g x:=fun hx=>hc a x (Int.le_refl _) h1 h2 fun z hz=>by
   rcases List.mem_cons.1 hz with rfl | hz
   ·omega
   ·have:=hs.1 z hz;omega
  split
  ·rename_i e
   by_cases hx:p≤x
   ·have:=Zn1 hs.2 hs.1 hc' x hx h2
    rwa [e] at this
   ·rw[ZsP fun c hc=>?_]
    ·exact low om
    ·have:=hs.1 _ (ZnA.1 (ZmD hc)).1;omega
  ·rw[Zdk]
   split
   ·rename_i hx;exact Zn1 hs.2 hs.1 hc' x hx h2
   ·rename_i hx;exact low (by have:¬p≤x:=hx;omega)
abbrev tMin:Int := -62135596800
abbrev tMax:Int:=253402300799
def inT (x:Int):Bool:=decide (tMin<x∧x≤tMax)
def ZfB (g:Int→Loc) (L:List Int):Tab:=(g tMin,dd (g tMin) (pts g (L.filter inT)))
theorem ZlQ {g:Int→Loc}{L:List Int}(h:still g L tMin tMax):still g (L.filter inT) tMin tMax:=fun u v h1 h2 h3 h4=>h u v h1 h2 h3 fun p hp hpp=>h4 p (List.mem_filter.2 ⟨hp,by unfold inT;simp only[tMin,tMax] at *;simp;omega⟩) hpp
theorem Zmx {L:List Int} : ∀ x∈L.filter inT,tMin≤x:=fun x hx=>by
 have:=(List.mem_filter.1 hx).2;unfold inT at this;simp only[tMin,decide_eq_true_eq] at *;omega
theorem ZjF {g:Int→Loc}{L:List Int}(hs:L.Pairwise (· ≤ ·)) (h:still g L tMin tMax) {x:Int}(h1:tMin≤x) (h2:x≤tMax):Zdk (ZfB g L).1 (ZfB g L).2 x=g x :=
 Zn1 (hs.filter _) Zmx (ZlQ h) x h1 h2
theorem Zie {g:Int→Loc}{L:List Int}(hs:L.Pairwise (· ≤ ·)):nrm tMin (g tMin) (ZfB g L).2:=Ztk (hs.filter _) Zmx
theorem ZlN {g:Int→Loc}{L:List Int} : ∀ c∈(ZfB g L).2,c.1≤tMax:=fun c hc=>by
 have:=(List.mem_filter.1 (ZnA.1 (ZmD hc)).1).2
 unfold inT at this;simp only[decide_eq_true_eq] at this;exact this.2
theorem ZpS {g:Int→Loc}{L L':List Int}(hs:L.Pairwise (· ≤ ·)) (h:still g L tMin tMax) (hs':L'.Pairwise (· ≤ ·)) (h':still g L' tMin tMax):ZfB g L=ZfB g L':=by
 refine Prod.ext rfl (Zo7 (M:=tMax) _ _ tMin (g tMin) (Zie hs) (Zie hs') ZlN ZlN fun x h1 h2=>?_)
 have a:=ZjF hs h h1 h2
 have b:=ZjF hs' h' h1 h2
 exact a.trans b.symm
def Zcc:List Chg→Int
 | []=>0
 | c::cs=>if locE c.2≠0 then locE c.2 else Zcc cs
theorem ZhY : ∀ {l:List Chg}{F:Loc},locE F=0→Zcc (dd F l)=Zcc l
 | [],_,_=>rfl
 | c::l,F,h=>by
  rw[dd]
  split
  ·rename_i e
   rw[ZhY h,Zcc,e,h];simp
  ·rw[Zcc,Zcc]
   split
   ·rfl
   ·rename_i h2;exact ZhY (Decidable.of_not_not h2)
def tabR (t:Tab):Tab×Int :=
 if locE t.1≠0 then ((((0,0,⟨#[]⟩):Loc),[]),locE t.1) else if Zcc t.2≠0 then (((0,0,⟨#[]⟩),[]),Zcc t.2) else if 1000<t.2.length then (((0,0,⟨#[]⟩),[]),2) else (t,0)
theorem Zpc : ∀ {l:List Chg},Zcc l=0 → ∀ c∈l,locE c.2=0
 | [],_,_,h=>by cases h
 | c::l,h,d,hd=>by
  rw[Zcc] at h
  split at h
  ·rename_i h2;exact absurd h h2
  ·rename_i h2
   rcases List.mem_cons.1 hd with rfl | hd
   ·exact Decidable.of_not_not h2
   ·exact Zpc h d hd
theorem Ztw : ∀ {C:List Chg}{a:Int}{F:Loc},nrm a F C→(∀ c∈C,locE c.2=0∧Zda c.1=true)→chk a F C=0
 | [],_,_,_,_=>rfl
 | c::cs,a,F,h,hc=>by
  have h1:=hc c (by simp)
  rw[ZiQ h1.2 h.1 h1.1 (Zpd h.2.1)]
  exact Ztw h.2.2 fun d hd=>hc d (by simp[hd])
theorem tabR_ok {t:Tab}(h:(tabR t).2=0):(tabR t).1=t∧locE t.1=0∧Zcc t.2=0∧t.2.length≤1000:=by
 unfold tabR at h ⊢
 split at h
 ·rename_i h1;exact absurd h h1
 split at h
 ·rename_i h1;exact absurd h h1
 split at h
 ·cases h
 rename_i h1 h2 h3
 rw[if_neg h1,if_neg h2,if_neg h3]
 exact⟨rfl,Decidable.of_not_not h1,Decidable.of_not_not h2,by omega⟩
theorem ZpR {g:Int→Loc}{L:List Int}(hs:L.Pairwise (· ≤ ·)) (h:(tabR (ZfB g L)).2=0):Za9 (ZfB g L)=0:=by
 obtain⟨_,h2,h3,h4⟩:=tabR_ok h
 unfold Za9
 rw[if_neg om,if_neg (by simp[h2])]
 have hn:nrm (-62135596801) (ZfB g L).1 (ZfB g L).2:=by
  have:=Zie (g:=g) hs
  show nrm (-62135596801) (g tMin) (ZfB g L).2
  cases hC:(ZfB g L).2 with
  | nil=>trivial
  | cons c cs=>rw[hC] at this;exact⟨by have:=this.1;simp only[tMin] at this;omega,this.2⟩
 refine Ztw hn fun c hc=>⟨Zpc h3 c hc,ZeT.2 ?_⟩
 have:=(List.mem_filter.1 (ZnA.1 (ZmD hc)).1).2
 unfold inT at this;simp only[tMin,tMax,decide_eq_true_eq] at this;omega
end Go.Proofs.YtlekejpogddndaaGreatDoor
end
section
namespace Go.Proofs.YtlekejpogddndaaGreatDoor
open Go.Ab Civ
abbrev xSh (x:Era):Int:=x.1
abbrev xRl (x:Era):ByteArray:=x.2.1
abbrev xSv (x:Era):Int:=x.2.2.1
abbrev xFm (x:Era):ByteArray:=x.2.2.2.1
abbrev xOp (x:Era):Bool:=x.2.2.2.2.1
def endV (x:Era):Int:=num x.2.2.2.2.2.1.1 x.2.2.2.2.2.1.2.1 x.2.2.2.2.2.1.2.2*86400+x.2.2.2.2.2.2.1-(if x.2.2.2.2.2.2.2=2 then xSh x else 0)
def Zcd (es:List Era):List Int:=es.dropLast.map endV
def ZkX (fm lt:ByteArray) (sa:Int):ByteArray :=
 if (cutL fm [47]).2.2=true then (if 0<sa then bA (cutL fm [47]).2.1 else bA (cutL fm [47]).1)
 else if (cutL fm [37,115]).2.2=true then bA ((cutL fm [37,115]).1++aB lt++(cutL fm [37,115]).2.1) else fm
def locV (x:Era) (sa:Int) (lt:ByteArray):Loc:=(xSh x+sa,sa,ZkX (xFm x) lt sa)
def Zbg (rl:List Rul) (x:Era):List Tim:=if xRl x=⟨#[]⟩ then [] else (Zbc rl (xRl x) (xSh x)).1
def ZdM (sa:Int) (lt:ByteArray):List Tim→Int→Int×ByteArray
 | [],_=>(sa,lt)
 | t::ts,a=>if t.1≤a then ZdM t.2.1 t.2.2 ts a else ZdM sa lt ts a
def Zhe (rl:List Rul) (x:Era) (a:Int):Loc:=locV x (ZdM (xSv x) ⟨#[]⟩ (Zbg rl x) a).1 (ZdM (xSv x) ⟨#[]⟩ (Zbg rl x) a).2
def locZ:Loc:=(0,0,⟨#[]⟩)
def ZcP (rl:List Rul):List Era→Int→Loc
 | [],_=>locZ
 | [x],a=>Zhe rl x a
 | x::y::es,a=>if endV x≤a then ZcP rl (y::es) a else Zhe rl x a
theorem Zk5 (es:List Era):(Zcd es).length=es.length-1:=by simp[Zcd]
theorem Zgy {x y:Era}{es:List Era}:Zcd (x::y::es)=endV x::Zcd (y::es):=by simp[Zcd]
theorem Zk6 {es:List Era}{k:Nat}(h:k<(Zcd es).length) (h2:k<es.length):(Zcd es)[k]=endV es[k]:=by simp[Zcd]
theorem Zgm : ∀ (l:List Tim) (t:Tim) (sa:Int) (lt:ByteArray) (a:Int),ZdM sa lt (l++[t]) a=if t.1≤a then (t.2.1,t.2.2) else ZdM sa lt l a
 | [],t,sa,lt,a=>rfl
 | u::l,t,sa,lt,a=>by
  rw[List.cons_append,ZdM,ZdM]
  split
  ·exact Zgm l t _ _ a
  ·exact Zgm l t _ _ a
theorem Ziy : ∀ (l:List Tim) (sa:Int) (lt:ByteArray) (u v:Int),u≤v→(∀ t∈l,¬(u<t.1∧t.1≤v))→ZdM sa lt l u=ZdM sa lt l v
 | [],_,_,_,_,_,_=>rfl
 | t::l,sa,lt,u,v,h,hl=>by
  have ih:=fun sa lt=>Ziy l sa lt u v h fun x hx=>hl x (by simp[hx])
  have:=hl t (by simp)
  rw[ZdM,ZdM]
  split
  ·rw[if_pos om];exact ih _ _
  ·rw[if_neg om];exact ih _ _
theorem ZjO : ∀ (l:List Tim) (sa:Int) (lt:ByteArray) (a:Int),(∀ t∈l,a<t.1)→ZdM sa lt l a=(sa,lt)
 | [],_,_,_,_=>rfl
 | t::l,sa,lt,a,h=>by
  rw[ZdM,if_neg (by have:=h t (by simp);omega)]
  exact ZjO l sa lt a fun x hx=>h x (by simp[hx])
theorem Zo2 : ∀ {l:List Tim}{t:Tim}(sa:Int) (lt:ByteArray),l.Pairwise (fun a b=>a.1<b.1)→t∈l→ZdM sa lt l t.1=(t.2.1,t.2.2)
 | u::l,t,sa,lt,hp,ht=>by
  rw[List.pairwise_cons] at hp
  rw[ZdM]
  rcases List.mem_cons.1 ht with rfl | ht
  ·rw[if_pos (Int.le_refl _)];exact ZjO l _ _ _ hp.1
  ·rw[if_pos (by have:=hp.1 t ht;omega)];exact Zo2 _ _ hp.2 ht
def eraG (x:Era) (b:Int) (ts:List Tim):List Chg :=
 (b,locV x (ZdM (xSv x) ⟨#[]⟩ ts b).1 (ZdM (xSv x) ⟨#[]⟩ ts b).2)::(ts.filter fun t=>decide (b<t.1)).map fun t=>(t.1,locV x t.2.1 t.2.2)
theorem eraG_low {x:Era}{b:Int}{ts:List Tim}{t:Tim}(h:t.1≤b):eraG x b (ts++[t])=(b,locV x t.2.1 t.2.2)::(eraG x b ts).tail:=by
 unfold eraG
 rw[Zgm,if_pos h,List.filter_append]
 simp[show ¬b<t.1 by omega]
theorem Zth {x:Era}{b:Int}{ts:List Tim}{t:Tim}(h:¬t.1≤b):eraG x b (ts++[t])=eraG x b ts++[(t.1,locV x t.2.1 t.2.2)]:=by
 unfold eraG
 rw[Zgm,if_neg h,List.filter_append]
 simp[show b<t.1 by omega]
def cutV (l:List Chg) (e:Int):List Chg:=l.takeWhile fun c=>decide (c.1<e)
def ZbK (prev:Option Int) (f:Int):Int:=match prev with
 | none=>f
 | some e=>max f e
def Za1 (rl:List Rul) (f:Int):Option Int→List Era→List Chg
 | _,[]=>[]
 | prev,[x]=>eraG x (ZbK prev f) (Zbg rl x)
 | prev,x::y::es=>(if endV x≤f then [] else cutV (eraG x (ZbK prev f) (Zbg rl x)) (endV x))++Za1 rl f (some (endV x)) (y::es)
def risL:List Int→Bool
 | a::b::l=>decide (a<b)&&risL (b::l)
 | _=>true
theorem ZkS : ∀ l:List Int,risL l=true↔l.Pairwise (· < ·)
 | []=>by simp[risL]
 | [a]=>by simp[risL]
 | a::b::l=>by
  rw[risL,Bool.and_eq_true,ZkS (b::l),List.pairwise_cons (a:=a)]
  constructor
  ·rintro⟨h1,h2⟩
   have h1:a<b:=by simpa using h1
   refine⟨fun x hx=>?_,h2⟩
   rcases List.mem_cons.1 hx with rfl | hx
   ·exact h1
   ·have:=(List.pairwise_cons.1 h2).1 x hx;omega
  ·rintro⟨h1,h2⟩
   exact⟨by simpa using h1 b (by simp),h2⟩
theorem Zl3 : ∀ {l:List Int},(∀ i (h:i+1<l.length),l[i]<l[i+1])→risL l=true
 | [],_=>rfl
 | [_],_=>rfl
 | a::b::l,h=>by
  rw[risL,Bool.and_eq_true]
  exact⟨by simpa using h 0 (by simp),Zl3 fun i hi=>h (i+1) (by simpa using hi)⟩
theorem Zp3 {l:List Int}{i:Nat}(h:i+1<l.length) (hb:¬l[i]<l[i+1]):risL l=false:=by
 cases e:risL l with
 | false=>rfl
 | true=>exact absurd (List.pairwise_iff_getElem.1 ((ZkS l).1 e) i (i+1) om h om) hb
def risT (rl:List Rul) (x:Era):Prop:=(Zbg rl x).Pairwise fun a b=>a.1<b.1
theorem Zn3 {l:List Chg}{e:Int}{c:Chg}(hs:l.Pairwise fun a b=>a.1<b.1):c∈cutV l e↔c∈l∧c.1<e:=by
 unfold cutV
 induction l with
 | nil=>simp
 | cons d l ih =>
  rw[List.pairwise_cons] at hs
  rw[List.takeWhile_cons]
  split
  ·rename_i h
   rw[List.mem_cons,ih hs.2,List.mem_cons]
   simp only[decide_eq_true_eq] at h
   constructor
   ·rintro (rfl | ⟨h1,h2⟩)
    ·exact⟨.inl rfl,h⟩
    ·exact⟨.inr h1,h2⟩
   ·rintro⟨rfl | h1,h2⟩
    ·exact .inl rfl
    ·exact .inr ⟨h1,h2⟩
  ·rename_i h
   simp only[decide_eq_true_eq] at h
   constructor
   ·intro h;cases h
   ·rintro⟨h1,h2⟩
    rcases List.mem_cons.1 h1 with rfl | h1
    ·exact absurd h2 h
    ·have:=hs.1 c h1;omega
theorem Zps {x:Era}{b:Int}{ts:List Tim}(h:ts.Pairwise fun a b=>a.1<b.1):(eraG x b ts).Pairwise fun a b=>a.1<b.1:=by
 unfold eraG
 rw[List.pairwise_cons]
 refine⟨fun c hc=>?_,?_⟩
 ·obtain⟨t,ht,rfl⟩:=List.mem_map.1 hc
  simpa using (List.mem_filter.1 ht).2
 ·rw[List.pairwise_map]
  exact h.filter _
theorem Zpu {rl:List Rul}{x:Era}{b:Int}(h:risT rl x) {c:Chg}(hc:c∈eraG x b (Zbg rl x)):b≤c.1∧c.2=Zhe rl x c.1:=by
 rcases List.mem_cons.1 hc with rfl | hc
 ·exact⟨Int.le_refl _,rfl⟩
 ·obtain⟨t,ht,rfl⟩:=List.mem_map.1 hc
  obtain⟨h1,h2⟩:=List.mem_filter.1 ht
  simp only[decide_eq_true_eq] at h2
  refine⟨by show b≤t.1;omega,?_⟩
  show locV x t.2.1 t.2.2=Zhe rl x t.1
  unfold Zhe
  rw[Zo2 _ _ h h1]
theorem Zez {rl:List Rul}{x:Era}{u v:Int}(h:u≤v) (ht : ∀ t∈Zbg rl x,¬(u<t.1∧t.1≤v)):Zhe rl x u=Zhe rl x v:=by
 unfold Zhe;rw[Ziy _ _ _ u v h ht]
theorem Zqp {rl:List Rul}{x:Era}{b u v:Int}(h0:b≤u) (h:u≤v) (hc : ∀ c∈eraG x b (Zbg rl x),¬(u<c.1∧c.1≤v)):Zhe rl x u=Zhe rl x v:=by
 refine Zez h fun t ht hh=>?_
 refine hc (t.1,locV x t.2.1 t.2.2) (List.mem_cons_of_mem _ (List.mem_map.2 ⟨t,List.mem_filter.2 ⟨ht,?_⟩,rfl⟩)) hh
 simp;omega
def prevOk (prev:Option Int) (es:List Era):Prop:=match prev with
 | none=>True
 | some e => ∀ x∈Zcd es,e<x
theorem Zmb {rl:List Rul}{f:Int} : ∀ {es:List Era}{prev:Option Int},es≠[]→(∀ x∈es,risT rl x)→(Zcd es).Pairwise (· < ·)→prevOk prev es →
  (∃ l,Za1 rl f prev es=(ZbK prev f,ZcP rl es (ZbK prev f))::l)∧(Za1 rl f prev es).Pairwise (fun a b=>a.1<b.1)∧(∀ c∈Za1 rl f prev es,ZbK prev f≤c.1∧c.2=ZcP rl es c.1) ∧
  ∀ u v,ZbK prev f≤u→u≤v→(∀ c∈Za1 rl f prev es,¬(u<c.1∧c.1≤v))→ZcP rl es u=ZcP rl es v
 | [x],prev,_,ht,_,_=>by
  have hx:=ht x (by simp)
  refine⟨⟨_,rfl⟩,Zps hx,fun c hc=>Zpu hx hc,fun u v h1 h2 h3=>Zqp h1 h2 h3⟩
 | x::y::es,prev,_,ht,hr,hp=>by
  have hx:=ht x (by simp)
  rw[Zgy,List.pairwise_cons] at hr
  have hp2:prevOk (some (endV x)) (y::es):=hr.1
  obtain⟨i1,i2,i3,i4⟩:=Zmb (f:=f) (es:=y::es) (prev:=some (endV x)) (by simp) (fun z hz=>ht z (by simp[hz])) hr.2 hp2
  have hbe:prev=none ∨ ∃ e,prev=some e∧e<endV x:=by
   cases prev with
   | none=>exact .inl rfl
   | some e=>exact .inr ⟨e,rfl,hp _ (by rw[Zgy];simp)⟩
  by_cases hf:endV x≤f
  ·have hb:ZbK prev f=f:=by
    rcases hbe with rfl | ⟨e,rfl,he⟩
    ·rfl
    ·show max f e=f;omega
   have hb2:ZbK (some (endV x)) f=f:=by show max f (endV x)=f;omega
   have hP:Za1 rl f prev (x::y::es)=Za1 rl f (some (endV x)) (y::es):=by rw[Za1,if_pos hf,List.nil_append]
   have hT : ∀ a,f≤a→ZcP rl (x::y::es) a=ZcP rl (y::es) a:=fun a ha=>by rw[ZcP,if_pos om]
   rw[hP,hb]
   rw[hb2] at i1 i3 i4
   refine⟨by rw[hT f (Int.le_refl _)];exact i1,i2,fun c hc=>?_,fun u v h1 h2 h3=>?_⟩
   ·obtain⟨j1,j2⟩:=i3 c hc
    exact⟨j1,by rw[hT _ j1];exact j2⟩
   ·rw[hT u h1,hT v om];exact i4 u v h1 h2 h3
  ·have hb:ZbK prev f<endV x:=by
    rcases hbe with rfl | ⟨e,rfl,he⟩
    ·show f<endV x;omega
    ·show max f e<endV x;omega
   have hb2:ZbK (some (endV x)) f=endV x:=by show max f (endV x)=endV x;omega
   have hP:Za1 rl f prev (x::y::es)=cutV (eraG x (ZbK prev f) (Zbg rl x)) (endV x)++Za1 rl f (some (endV x)) (y::es):=by rw[Za1,if_neg hf]
   have hT1 : ∀ a,a<endV x→ZcP rl (x::y::es) a=Zhe rl x a:=fun a ha=>by rw[ZcP,if_neg om]
   have hT2 : ∀ a,endV x≤a→ZcP rl (x::y::es) a=ZcP rl (y::es) a:=fun a ha=>by rw[ZcP,if_pos ha]
   rw[hb2] at i1 i3 i4
   have hg:=Zps (x:=x) (b:=ZbK prev f) hx
   generalize hB:ZbK prev f=b at *
   rw[hP]
   refine⟨?_,?_,?_,?_⟩
   ·have:cutV (eraG x b (Zbg rl x)) (endV x)=(b,Zhe rl x b)::cutV (eraG x b (Zbg rl x)).tail (endV x):=by
     unfold cutV eraG Zhe
     rw[List.takeWhile_cons,if_pos (by simpa using hb)]
     rfl
    rw[this,hT1 b hb]
    exact⟨_,rfl⟩
   ·rw[List.pairwise_append]
    refine⟨hg.sublist (List.takeWhile_sublist _),i2,fun c hc d hd=>?_⟩
    have h1:=((Zn3 hg).1 hc).2
    have h2:=(i3 d hd).1
    omega
   ·intro c hc
    rcases List.mem_append.1 hc with hc | hc
    ·obtain⟨h1,h2⟩:=(Zn3 hg).1 hc
     obtain⟨h3,h4⟩:=Zpu hx h1
     exact⟨h3,by rw[hT1 _ h2];exact h4⟩
    ·obtain⟨h1,h2⟩:=i3 c hc
     exact⟨by omega,by rw[hT2 _ h1];exact h2⟩
   ·intro u v h1 h2 h3
    by_cases hv:v<endV x
    ·rw[hT1 u om,hT1 v hv]
     refine Zez h2 fun t ht hh=>?_
     refine h3 (t.1,locV x t.2.1 t.2.2) (List.mem_append_left _ ((Zn3 hg).2 ⟨List.mem_cons_of_mem _ (List.mem_map.2 ⟨t,List.mem_filter.2 ⟨ht,?_⟩,rfl⟩),?_⟩)) hh
     ·simp;omega
     ·show t.1<endV x;omega
    ·by_cases hu:endV x≤u
     ·rw[hT2 u hu,hT2 v om]
      exact i4 u v hu h2 fun c hc=>h3 c (List.mem_append_right _ hc)
     ·obtain⟨l,hl⟩:=i1
      exact absurd ⟨by show u<endV x;omega,by show endV x≤v;omega⟩ (h3 (endV x,_) (List.mem_append_right _ (by rw[hl];exact List.mem_cons_self)))
def Zgd (rl:List Rul) (es:List Era):List Int:=(es.flatMap fun x=>(Zbg rl x).map (·.1))++Zcd es
theorem Zil {rl:List Rul} : ∀ {es:List Era}{u v:Int},u≤v→(∀ p∈Zgd rl es,¬(u<p∧p≤v))→ZcP rl es u=ZcP rl es v
 | [],u,v,_,_=>rfl
 | [x],u,v,h,hp=>Zez h fun t ht=>hp t.1 (by unfold Zgd;simp;exact .inl ⟨_,_,ht⟩)
 | x::y::es,u,v,h,hp=>by
  have hx:¬(u<endV x∧endV x≤v):=hp _ (by unfold Zgd;rw[Zgy];simp)
  have ht : ∀ t∈Zbg rl x,¬(u<t.1∧t.1≤v):=fun t ht=>hp t.1 (by unfold Zgd;rw[List.flatMap_cons];simp only[List.append_assoc,List.mem_append,List.mem_map];exact .inl ⟨t,ht,rfl⟩)
  have ih:ZcP rl (y::es) u=ZcP rl (y::es) v:=Zil h fun p hp'=>hp p (by
   unfold Zgd at hp' ⊢
   rw[Zgy,List.flatMap_cons]
   rcases List.mem_append.1 hp' with h1 | h1
   ·exact List.mem_append_left _ (List.mem_append_right _ h1)
   ·exact List.mem_append_right _ (List.mem_cons_of_mem _ h1))
  rw[ZcP,ZcP]
  split
  ·rw[if_pos om];exact ih
  ·rw[if_neg om];exact Zez h ht
def Zht (rl:List Rul) (es:List Era):Tab:=ZfB (ZcP rl es) ((Zgd rl es).mergeSort fun a b=>decide (a≤b))
theorem table_of {rl:List Rul}{es:List Era}{L:List Int}(hs:L.Pairwise (· ≤ ·)) (hc : ∀ u v,tMin≤u→u≤v→(∀ p∈L,¬(u<p∧p≤v))→ZcP rl es u=ZcP rl es v):ZfB (ZcP rl es) L=Zht rl es:=by
 refine ZpS hs (fun u v h1 h2 _ h4=>hc u v h1 h2 h4) ?_ fun u v h1 h2 _ h4=>Zil h2 fun p hp=>h4 p ?_
 ·have h:=List.pairwise_mergeSort (le:=fun a b:Int=>decide (a≤b)) (fun a b c h1 h2=>by simp at *;omega) (fun a b=>by simp;omega) (Zgd rl es)
  exact h.imp fun h=>by simpa using h
 ·exact (List.mergeSort_perm _ _).mem_iff.2 hp
theorem Zso {rl:List Rul}{f:Int}{es:List Era}(hc : ∀ c∈Za1 rl f none es,c.2=ZcP rl es c.1):Za1 rl f none es=pts (ZcP rl es) ((Za1 rl f none es).map (·.1)):=by
 unfold pts
 rw[List.map_map]
 exact (List.map_id' _).symm.trans (List.map_congr_left fun c h=>by show c=(c.1,_);rw[←hc c h])
end Go.Proofs.YtlekejpogddndaaGreatDoor
end
section
namespace Go.Proofs.YtlekejpogddndaaGreatDoor
open Go.Ab Civ
def stV:List Chg→Tab
 | []=>(locZ,[])
 | c::cs=>(c.2,dd c.2 cs)
def ZiI (F:Loc) (l:List Chg):Loc:=l.getLast?.elim F (·.2)
theorem stV_snoc {l:List Chg}{c:Chg}(h:l≠[]):stV (l++[c])=((stV l).1,(stV l).2++if c.2=ZiI (stV l).1 (stV l).2 then [] else [c]):=by
 cases l with
 | nil=>exact absurd rfl h
 | cons d l =>
  show ((d.2,dd d.2 (l++[c])):Tab)=(d.2,dd d.2 l++_)
  rw[Ztm]
  rfl
theorem ZrU : ∀ l:List Chg,(stV l).2.length≤l.length
 | []=>Nat.le_refl _
 | c::l=>by have:=Ztl l c.2;show (dd c.2 l).length≤_;simp only[List.length_cons];omega
def inP (ps:List Chg):List Chg:=ps.takeWhile fun c=>decide (c.1≤tMax)
theorem Zpm {ps:List Chg}{i:Nat}(h1 : ∀ c∈ps.take i,c.1≤tMax) (h2 : ∀ h:i<ps.length,¬ps[i].1≤tMax):inP ps=ps.take i:=by
 unfold inP
 induction ps generalizing i with
 | nil=>simp
 | cons c ps ih =>
  cases i with
  | zero=>rw[List.takeWhile_cons,if_neg (by have:=h2 (by simp);simpa using this)];rfl
  | succ i =>
   rw[List.takeWhile_cons,if_pos (by have:=h1 c (by simp);simpa using this),List.take_succ_cons]
   exact congrArg _ (ih (fun d hd=>h1 d (by simp[hd])) fun h=>by have:=h2 (by simpa using h);simpa using this)
theorem inP_pts {g:Int→Loc}{L:List Int}(hs:L.Pairwise (· < ·)):inP (pts g L)=pts g (L.filter fun x=>decide (x≤tMax)):=by
 unfold inP
 induction L with
 | nil=>rfl
 | cons a L ih =>
  rw[List.pairwise_cons] at hs
  show List.takeWhile _ ((a,g a)::pts g L)=_
  rw[List.takeWhile_cons]
  by_cases h:a≤tMax
  ·rw[if_pos (by simpa using h),List.filter_cons,if_pos (by simpa using h),ih hs.2];rfl
  ·rw[if_neg (by simpa using h),List.filter_cons,if_neg (by simpa using h)]
   have:L.filter (fun x=>decide (x≤tMax))=[]:=List.filter_eq_nil_iff.2 fun x hx=>by have:=hs.1 x hx;simp only[decide_eq_true_eq];omega
   rw[this];rfl
theorem stV_tab {g:Int→Loc}{L:List Int}(hs:(tMin::L).Pairwise (· < ·)):stV (inP (pts g (tMin::L)))=ZfB g (tMin::L):=by
 rw[inP_pts hs]
 rw[List.pairwise_cons] at hs
 unfold ZfB
 rw[List.filter_cons,if_pos (by decide)]
 have e:(tMin::L).filter inT=L.filter fun x=>decide (x≤tMax):=by
  rw[List.filter_cons,if_neg (by decide)]
  refine List.filter_congr fun x hx=>?_
  have:=hs.1 x hx
  unfold inT
  rw[Bool.eq_iff_iff]
  simp only[decide_eq_true_eq]
  exact⟨fun h=>h.2,fun h=>⟨this,h⟩⟩
 rw[e]
 rfl
theorem tabR_st : ∀ {l:List Chg},locE locZ=0∨l≠[]→tabR (stV l)=if Zcc l≠0 then ((((0,0,⟨#[]⟩):Loc),[]),Zcc l) else if 1000<(stV l).2.length then (((0,0,⟨#[]⟩),[]),2) else (stV l,0)
 | [],h=>by
  have h:=h.resolve_right (fun h=>h rfl)
  unfold tabR stV
  simp[Zcc,h]
 | c::l,_=>by
  unfold tabR
  show (if locE c.2≠0 then _ else if Zcc (dd c.2 l)≠0 then _ else _)=_
  rw[Zcc]
  by_cases h:locE c.2=0
  ·have e:(if locE c.2≠0 then locE c.2 else Zcc l)=Zcc l:=if_neg (by simp[h])
   rw[e,if_neg (show ¬locE c.2≠0 from fun hh=>hh h),ZhY h,show Zcc (stV (c::l)).2=Zcc l from ZhY h]
  ·have e:(if locE c.2≠0 then locE c.2 else Zcc l)=locE c.2:=if_pos h
   rw[e,if_pos h,if_pos h];rfl
theorem ZiF : ∀ {l:List Chg}{c:Chg},Zcc l=0→Zcc (l++[c])=locE c.2
 | [],c,_=>by show (if locE c.2≠0 then locE c.2 else 0)=_;split <;> simp_all
 | d::l,c,h=>by
  rw[Zcc] at h
  split at h
  ·rename_i h2;exact absurd h h2
  ·rename_i h2
   rw[List.cons_append,Zcc,if_neg h2]
   exact ZiF h
theorem Zmo : ∀ {l m:List Chg},Zcc l≠0→Zcc (l++m)=Zcc l
 | [],_,h=>absurd rfl h
 | d::l,m,h=>by
  rw[List.cons_append,Zcc,Zcc]
  rw[Zcc] at h
  split
  ·rfl
  ·rename_i h2;rw[if_neg h2] at h;exact Zmo h
end Go.Proofs.YtlekejpogddndaaGreatDoor
end
section
namespace Go.Proofs.YtlekejpogddndaaGreatDoor
open Go.Ab Civ
attribute [local simp] Zbj ZlE Zd5
section
theorem Zkw {a0 a1 a2 a3 a4 a5 a6 a7 a8 a9 a10:AV}{l:List AV}:(a0::a1::a2::a3::a4::a5::a6::a7::a8::a9::a10::l).take 11=[a0,a1,a2,a3,a4,a5,a6,a7,a8,a9,a10]:=rfl
theorem Zjh {a0 a1 a2 a3 a4 a5 a6 a7 a8 a9 a10 c0 c1 c2 c3 c4 c5 c6 c7 c8 c9 c10:AV}{l:List AV}:setCells (a0::a1::a2::a3::a4::a5::a6::a7::a8::a9::a10::l) 0 [c0,c1,c2,c3,c4,c5,c6,c7,c8,c9,c10]=c0::c1::c2::c3::c4::c5::c6::c7::c8::c9::c10::l:=rfl
theorem Zjg {a0 a1 a2 a3 a4 a5 a6 a7 a8 a9 a10:AV}{l:List AV}:((a0::a1::a2::a3::a4::a5::a6::a7::a8::a9::a10::l).drop 0).take 11=[a0,a1,a2,a3,a4,a5,a6,a7,a8,a9,a10]:=rfl
theorem Zri {a0 a1 a2 a3 a4 a5 a6:AV}{l:List AV}:((a0::a1::a2::a3::a4::a5::a6::l).drop 4).take 3=[a4,a5,a6]:=rfl
theorem Zrk {a0 a1 a2 c0 c1 c2:AV}{l:List AV}:setCells (a0::a1::a2::l) 0 [c0,c1,c2]=c0::c1::c2::l:=rfl
theorem Zrj {a0 a1 a2:AV}{l:List AV}:((a0::a1::a2::l).drop 0).take 3=[a0,a1,a2]:=rfl
theorem Zju {τ:Operand→AV}{y0 y1:Operand}{x0_0 x1_0 x1_1 x1_2 x1_3 x1_4 x1_5 x1_6 x1_7 x1_8 x1_9 x1_10:AV}(h0:Zat (τ y0)=some [x0_0]) (l0:[x0_0].all leaf=true) (h1:Zat (τ y1)=some [x1_0,x1_1,x1_2,x1_3,x1_4,x1_5,x1_6,x1_7,x1_8,x1_9,x1_10]) (l1:[x1_0,x1_1,x1_2,x1_3,x1_4,x1_5,x1_6,x1_7,x1_8,x1_9,x1_10].all leaf=true):Zar τ [(0,1,y0),(1,11,y1)] [(.v (.int .i64 0)),(.v (.string ⟨#[]⟩)),(.v (.int .i64 0)),(.v (.int .i64 0)),(.v (.int .i64 0)),(.v (.int .i64 0)),(.v (.int .i64 0)),(.v (.int .i64 0)),(.v (.int .i64 0)),(.v (.int .i64 0)),(.v (.int .i64 0)),(.v (.string ⟨#[]⟩))]=some [x0_0,x1_0,x1_1,x1_2,x1_3,x1_4,x1_5,x1_6,x1_7,x1_8,x1_9,x1_10]:=by
 simp only[Zar,h0,l0,h1,l1]
 rfl
end
def c158:AC:=(Sr [Oo 2 (.box 36 11 (.tmp 0)),Mb 3 false] (Sr [Fa 4 0 2,Ld 5 4,Ld 6 1,Bn 7 .eql 5 6,Mv 3 7] .ret))
theorem k158:ZaA Tryz.prog 158=some ⟨c158,[(.tmp 3)],8⟩:=by kernel_rfl
def c86:AC:=(Sr [Oo 4 (.box 9 1 (.tmp 1)),Mc 6 0] (.seq (Sr [Mv 10 0,Oo 11 (.len false (.tmp 10)),Bc 12 .gtr 11 40] (Cd 12 (Sr [Mc 6 2] .ret) .skip)) (.seq (Sr [Mv 13 0,Oo 14 (.len false (.tmp 13)),Mc 15 0] (.block 0 (.loop (Sr [Bn 16 .lss 15 14] (.seq (Cd 16 .skip (.exit 0)) (.seq (.block 1 (Sr [Oo 17 (.ia 11 (.tmp 13) (.tmp 15)),Oo 18 (.load true 11 (.tmp 17)),Oo 8 (.new 36 11 [Ss,(iv 0),(iv 0),(iv 0),(iv 0),(iv 0),(iv 0),(iv 0),(iv 0),(iv 0),Ss]),⟨none,none,(.store 11 (.tmp 8) (.tmp 18))⟩] (Sr [Oo 19 (.load true 11 (.tmp 8)),Cl 20 156 [(.tmp 19)],Mv 9 20] (Sr [Mv 21 9,Bc 22 .neq 21 0] (Cd 22 (Sr [Mv 23 9,Mv 6 23] .ret) .skip))))) (.reg [Bc 24 .add 15 1,Mv 15 24]))))))) (.seq (.block 2 (Sr [Mv 26 2,Oo 27 (.bin .lss (.tmp 26) (.const (.int .i64 (-64800)))),Mv 28 27,Of 29 28 (mt 2),Of 30 28 (.bin .gtr (.tmp 29) (Ci 64800)),Oo 31 (.pick (.tmp 28) (.const (.bool true)) (.tmp 30)),Mv 25 31] (Cd 25 (Sr [Mc 6 3] .ret) (Sr [Mv 33 0,Oo 34 (.mkfn 158 [(.tmp 4)]),Cl 35 157 [(.tmp 33),(.tmp 34)],Oo 36 (.un .not (.tmp 35)),Mv 32 36] (Cd 32 (Sr [Mc 6 5] .ret) .skip))))) (Sr [Mc 6 0] .ret)))))
theorem k86:ZaA Tryz.prog 86=some ⟨c86,[(.tmp 6)],37⟩:=by kernel_rfl
def c91:AC:=(Sr [Oo 3 (.box 36 11 (.tmp 0)),Mc 6 0] (.seq (Sr [Fa 7 8 3,Ld 8 7] (.block 0 (Sr [Bc 10 .eql 8 1,Mv 9 10] (Cd 9 (Sr [Mv 11 1,Mv 12 2,Bn 13 .add 11 12,Mv 6 13] .ret) (Sr [Bc 15 .eql 8 2,Mv 14 15] (Cd 14 (Sr [Mv 16 1,Mv 6 16] .ret) .skip)))))) (Sr [Mc 6 0] .ret)))
theorem k91:ZaA Tryz.prog 91=some ⟨c91,[(.tmp 6)],17⟩:=by kernel_rfl
def c87:AC:=(Sr [Oo 2 (.box 22 1 (.tmp 0)),Oo 3 (.box 9 1 (.tmp 1)),Oo 4 (.mv (.const .nilFunc))] (Sr [Oo 5 (.mkfn 159 [(.tmp 2),(.tmp 3)]),Mv 4 5] .ret))
theorem k87:ZaA Tryz.prog 87=some ⟨c87,[(.tmp 4)],6⟩:=by kernel_rfl
def c159:AC:=(Sr [Ld 9 1,Oo 10 (.len false (.tmp 9)),Mc 11 0] (.block 0 (.loop (Sr [Bn 12 .lss 11 10] (.seq (Cd 12 .skip (.exit 0)) (.seq (.block 1 (Sr [Oo 13 (.ia 11 (.tmp 9) (.tmp 11)),Oo 14 (.load true 11 (.tmp 13)),Oo 5 (.new 36 11 [Ss,(iv 0),(iv 0),(iv 0),(iv 0),(iv 0),(iv 0),(iv 0),(iv 0),(iv 0),Ss]),⟨none,none,(.store 11 (.tmp 5) (.tmp 14))⟩] (.seq (Sr [Fa 15 0 5,Ld 16 15,Ld 17 2,Bn 18 .neq 16 17] (Cd 18 (.exit 1) .skip)) (Sr [Fa 19 1 5,Ld 20 19,Mv 6 20] (.block 2 (.loop (.seq (Sr [Mv 21 6,Fa 22 2 5,Ld 23 22,Bn 24 .leq 21 23] (Cd 24 .skip (.exit 2))) (.seq (.block 3 (Sr [Mv 28 6,Fa 29 3 5,Ld 30 29,Fa 31 4 5,Oo 32 (.load true 3 (.tmp 31)),Cl 33 94 [(.tmp 28),(.tmp 30),(.tmp 32)],Mv 27 33,Ex 34 27 0,Ex 35 27 1,Oo 7 (.new 59 3 [(iv 0),(iv 0),(iv 0)]),⟨none,none,(.store 3 (.tmp 7) (.tmp 34))⟩,Mv 8 35] (.seq (.drw [Mv 36 0,Oo 37 (.load true 3 (.tmp 7)),Cl 38 98 [(.tmp 37)],Bc 39 .mul 38 86400,Fa 40 7 5,Ld 41 40,Bn 42 .add 39 41,Oo 43 (.load true 11 (.tmp 5)),Oo 44 (.build [(iv 0),Ss,(iv 0),(iv 0),(iv 0),(iv 0),(iv 0),(iv 0),(iv 0),(iv 0),(iv 0),Ss] [(0,(1,(.tmp 42))),(1,(11,(.tmp 43)))])] [false,false] [Oo 45 (.call (.tmp 36) [(.tmp 44)]),Oo 46 (.un .not (.tmp 45))]) (Cd 46 .ret .skip)))) (.reg [Mv 25 6,Bc 26 .add 25 1,Mv 6 26]))))))))) (.reg [Bc 47 .add 11 1,Mv 11 47])))))))
theorem k159:ZaA Tryz.prog 159=some ⟨c159,[],48⟩:=by kernel_rfl
def okRs (l:List Rul):Prop := ∀ r∈l,r.1.size≤maxLen∧r.2.2.2.2.2.2.2.2.size≤maxLen
theorem ready1_a {nm:ByteArray}{r:Rul}{h:AH}:Ac 158 [.agg (rulC r),.rp [sv nm]] h (bv (decide (r.1=nm))):=by
 obtain⟨n,f,t,m,⟨k,w,d⟩,a,c,s,lt⟩:=r
 refine tI' k158 fun N hn hlt hlA hbd=>?_
 simp only[tb'] at hbd ⊢
 refine wr'<|E' (Zbd cv rfl (hl0 hn) ha0) pt<|mw<|sn'<|wr'<|Vw (Zab lk)<|Vw (Zac lk gx gt0)<|Vw (ZaE lk gt)<|Vw (ZcF lk lk)<|mw<|Zas<|?_
 exact Zah<|Zaa<|Zae rz<|rT' rfl
theorem ready_a {l:List Rul}{nm:ByteArray}{sh:Int}{h:AH}(hok:okRs l) (hl:l.length≤9223372036854775807):Ac 86 [.sl l.length 11 false (rows rulC l),sv nm,iv sh] h (iv (ZdH l nm sh)):=by
 have hll:=hl
 refine tI' k86 fun N hn hlt hlA hbd=>?_
 simp only[tb'] at hbd ⊢
 refine wr'<|E' (Zbd cv rfl (hl0 hn) ha0) pt<|mw<|Zas<|?_
 refine Za5 (ALe.icePtr gx gt4 (by simp) pt4 (hs0 hn)) ?_
 refine Zam<|wr'<|mw<|Vw (ZaL lk)<|Vw (ZbD lk lki)<|sn'<|?_
 refine cd' lk (fun hc1=>?_) (fun hc1=>?_)
 ·have hR:ZdH l nm sh=2:=if_pos om
  refine wr'<|mw<|sn'<|Zaa<|Zai<|Zae rz<|rT'<|?_
  rw[hR]
 have hR:ZdH l nm sh=if Za4 Zbw l≠0 then Za4 Zbw l else if sh < -64800∨sh>64800 then 3 else if l.any (fun r=>decide (r.1=nm))=false then 5 else 0:=if_neg om
 refine Zaf<|Zah<|Zam<|wr'<|mw<|Vw (ZaL lk)<|mw<|sn'<|Zap<|?_
 refine w_lp (ι:=Nat) (fun (k:Nat)=>[(15,iv (k:Int)),(6,.any),(8,.any),(9,.any)]++rn' 16 9) (fun (k:Nat)=>[]) (fun (k:Nat)=>k≤l.length∧Za4 Zbw l=Za4 Zbw (l.drop k)) (fun (k:Nat)=>l.length-k) (0) (by exact⟨Nat.zero_le _,rfl⟩) ?_
 rintro k hi1
 try simp only[sm',Nat.reduceAdd]
 obtain⟨hk1,hk2⟩:=hi1
 refine wr'<|Vw (Zbb lk lk)<|sn'<|Zam<|?_
 refine cd' lk (fun hc2=>?_) (fun hc2=>?_)
 ·have hk:k<l.length:=by omega
  have ho:=hok _ (List.getElem_mem hk)
  rw[ZdK hk] at hk2
  refine Zaf<|Zah<|Zam<|Zap<|wr'<|?_
  refine V' (Za0 lk lk Zfi (nb' rfl) ro om ro rfl) pt ?_
  refine Vw (ZaI lk Zkw rfl)<|E' (ZaV (hl1 hn) ha1) pt<|E' (Zak lk cv gx rfl (nb' rfl) rfl Zjh (hs1 hn)) ptn<|sn'<|wr'<|Vw (Zan lk gx Zjg rfl)<|Zad mp (rule_b ho.1 ho.2) pt<|mw<|sn'<|wr'<|?_
  refine mw<|Vw (ZaT lk lki)<|sn'<|?_
  refine cd' lk (fun hc3=>?_) (fun hc3=>?_)
  ·have hc3':Zbw l[k]≠0:=hc3
   rw[if_pos hc3'] at hk2
   rw[if_pos (by rw[hk2];exact hc3'),hk2] at hR
   refine wr'<|mw<|mw<|sn'<|Zaa<|Zaq<|Zai<|Zai<|Zaq<|Zai<|Zae rz<|rT'<|?_
   rw[hR]
  have hc3':¬Zbw l[k]≠0:=hc3
  rw[if_neg hc3'] at hk2
  refine Zaf<|Zaz<|Zah<|Zav<|?_
  refine V' (Zay lk lki om om) pt ?_
  refine mw<|Zas<|ZaB<|?_
  refine lU' (k+1) (by (try dsimp only);exact⟨by omega,hk2⟩) (by (try dsimp only);(try simp only[sm',Nat.reduceAdd]);exact bk' 1 hn hlt)
 rw[List.drop_of_length_le om] at hk2
 rw[if_neg (by rw[hk2];simp[Za4])] at hR
 refine ZaQ<|ZaD<|ZaD<|Zba<|Zah<|Zam<|Zap<|wr'<|mw<|Vw (Zbb lk lki)<|mw<|?_
 refine sp' (t:=28) gt pt pt (fun hg28=>?_) (fun hg28=>?_)
 ·rw[if_pos (.inl om)] at hR
  refine s_no gt pt<|s_no gt pt<|Vw (Zag lk lkb)<|mw<|sn'<|ZaC lk<|wr'<|mw<|sn'<|Zaa<|Zaq<|?_
  refine Zai<|Zae rz<|rT'<|?_
  rw[hR]
 refine s_do gt<|mw<|s_do gt<|Vw (ZbD lk lki)<|Vw (Zaj lk lk)<|mw<|sn'<|?_
 refine cd' lk (fun hc4=>?_) (fun hc4=>?_)
 ·rw[if_pos (.inr om)] at hR
  refine wr'<|mw<|sn'<|Zaa<|Zaq<|Zai<|Zae rz<|rT'<|?_
  rw[hR]
 rw[if_neg om] at hR
 refine wr'<|mw<|Vw (Zf8 mp)<|?_
 refine Zad mp (Zmv (p:=fun r=>decide (r.1=nm)) (fun c _ _=>ready1_a) hll) pt ?_
 refine Vw (Zax lk)<|mw<|sn'<|?_
 refine Zaw lk (fun hc5=>?_) (fun hc5=>?_)
 ·rw[if_pos (by simpa using hc5)] at hR
  refine wr'<|mw<|sn'<|Zaa<|Zaq<|Zai<|Zae rz<|rT'<|?_
  rw[hR]
 rw[if_neg (by simpa using hc5)] at hR
 refine Zaf<|Zaz<|Zah<|wr'<|mw<|sn'<|Zaa<|Zae rz<|rT'<|?_
 rw[hR]
theorem off_a {r:Rul}{sh sa:Int}{h:AH}(h1 : -64800≤sh∧sh≤64800) (h2:0≤sa∧sa≤10800):Ac 91 [.agg (rulC r),iv sh,iv sa] h (iv (offV r sh sa)):=by
 obtain⟨n,f,t,m,⟨k,w,d⟩,a,c,s,lt⟩:=r
 refine tI' k91 fun N hn hlt hlA hbd=>?_
 simp only[tb'] at hbd ⊢
 refine wr'<|E' (Zbd cv rfl (hl0 hn) ha0) pt<|mw<|sn'<|Zam<|wr'<|Vw (Zab lk)<|Vw (Zac lk gx gt8)<|sn'<|Zap<|?_
 refine wr'<|Vw (ZaP lk lki)<|mw<|sn'<|?_
 refine cd' lk (fun hc1=>?_) (fun hc1=>?_)
 ·refine wr'<|mw<|mw<|?_
  refine V' (Zay lk lk om om) pt ?_
  refine mw<|sn'<|Zaa<|Zaq<|Zai<|Zae rz<|rT'<|?_
  refine ivx ?_;unfold offV;rw[if_pos (by assumption)]
 refine wr'<|Vw (ZaP lk lki)<|mw<|sn'<|?_
 refine cd' lk (fun hc2=>?_) (fun hc2=>?_)
 ·refine wr'<|mw<|mw<|sn'<|Zaa<|Zaq<|Zai<|Zae rz<|rT'<|?_
  refine ivx ?_;unfold offV;rw[if_neg (by assumption),if_pos (by assumption)]
 refine Zaf<|Zaz<|Zah<|wr'<|mw<|sn'<|Zaa<|Zae rz<|rT'<|?_
 refine ivx ?_;unfold offV;rw[if_neg (by assumption),if_neg (by assumption)]
theorem turns_a {l:List Rul}{nm:ByteArray}{h:AH}:Ac 87 [.sl l.length 11 false (rows rulC l),sv nm] h (.clo (.func 159) [.rp [.sl l.length 11 false (rows rulC l)],.rp [sv nm]]):=by
 refine tI' k87 fun N hn hlt hlA hbd=>?_
 simp only[tb'] at hbd ⊢
 refine wr'<|E' (Zbd cv rfl (hl0 hn) ha0) pt<|E' (Zbd cv rfl (hl1 hn) ha1) pt<|mv' rfl pt<|Zas<|?_
 refine Za5 (ALe.trans (ALe.icePtr gx gt2 (by simp) pt2 (hs0 hn)) (ALe.icePtr gx gt3 (by simp) pt3 (hs1 hn))) ?_
 exact wr'<|Vw (Zf8 mp)<|mw<|sn'<|Zaa<|Zae rz<|rT' rfl
theorem on_r {r:Rul}{y:Int}{h:AH}(hr:Zbw r=0) (hy:1900≤y∧y≤2100):Ac 94 [iv y,iv r.2.2.2.1,.agg [iv r.2.2.2.2.1.1,iv r.2.2.2.2.1.2.1,iv r.2.2.2.2.1.2.2]] h (.tup [.agg [iv (Zbl (rDy r y)).1,iv (Zbl (rDy r y)).2.1,iv (Zbl (rDy r y)).2.2],iv 0]):=by
 have:=on_a (y:=y) (m:=r.2.2.2.1) (k:=r.2.2.2.2.1.1) (wk:=r.2.2.2.2.1.2.1) (n:=r.2.2.2.2.1.2.2) (h:=h)
 rw[(Znz hr hy).1] at this
 exact this
theorem num_r {k:Int}{h:AH}(hk : -30000≤k∧k≤50000):Ac 98 [.agg [iv (Zbl k).1,iv (Zbl k).2.1,iv (Zbl k).2.2]] h (iv k):=by
 obtain⟨h1,h2⟩:=ZfU (days:=k) om om
 have hd:=Zcp.1 h1
 have hm:=Zd3 (Zbl k).1 (Zbl k).2.1
 have:=ZhX (y:=(Zbl k).1) (m:=(Zbl k).2.1) (d:=(Zbl k).2.2) (h:=h) om om om om om om
 rwa [h2] at this
theorem Zne {r:Rul}{j:Nat}(hj:(j:Int)<r.2.2.1+1-r.2.1):(Zc9 r).take (j+1)=(Zc9 r).take j++[(Zh8 r (r.2.1+(j:Int)),r)]:=by
 have hl:j<(Zc9 r).length:=by unfold Zc9;rw[List.length_map,Zlz];show j<(r.2.2.1+1-r.2.1).toNat;omega
 rw[List.take_succ_eq_append_getElem hl]
 congr 2
 simp[Zc9,ZjC]
theorem Znd {l:List Rul}{nm:ByteArray}{k:Nat}(hk:k<l.length) (hn:l[k].1=nm) : ∃ m,Zbf l nm=Zbf (l.take k) nm++(Zc9 l[k]++m):=by
 refine⟨Zbf (l.drop (k+1)) nm,?_⟩
 have e:l=l.take k++l[k]::l.drop (k+1):=by rw[←List.drop_eq_getElem_cons hk,List.take_append_drop]
 have:Zbf l nm=Zbf (l.take k++l[k]::l.drop (k+1)) nm:=by rw[←e]
 rw[this]
 unfold Zbf
 rw[List.flatMap_append,List.flatMap_cons,if_pos hn]
theorem turns1_a {l:List Rul}{nm:ByteArray}{lp M0:Nat}{H:List Trn→AH}(hok : ∀ r∈l,Zbw r=0) (hz:l.length≤40) (hH : ∀ d,(H d).length=M0) (hHlt : ∀ d,∀ e∈H d,e.lt M0=true)
  (hY : ∀ (d:List Trn) (t:Trn) (e f:Ent),d.length<(Zbf l nm).length→AYield Tryz.prog lp [.agg (trnC t)] (H d++[e,f]) fun r h''=>r=.ret (.v (.bool true))∧h''=H (d++[t])++[e,f]) :
  ACalls Tryz.prog 159 [.v (.func (.yield lp) #[] #[]),.rp [.sl l.length 11 false (rows rulC l)],.rp [sv nm]] (H []) fun x h'=>x=.ret (.tup [])∧h'=H (Zbf l nm):=by
 refine tJ' k159 fun N hn hlt hlA hbd=>?_
 simp only[tb'] at hbd ⊢
 have hMN:M0=N:=(hH []).symm.trans hn
 simp only[hMN] at hH hHlt
 refine wr'<|Vw (ZaE lk gt)<|Vw (ZaL lk)<|mw<|sn'<|Zap<|?_
 refine ZrA (ι:=Nat) (fun (k:Nat)=>[(11,iv (k:Int))]++rn' 5 4++rn' 12 36) (fun (k:Nat)=>H (Zbf (l.take k) nm)++[]) (fun (k:Nat)=>k≤l.length) (fun (k:Nat)=>l.length-k) (0) (by exact Nat.zero_le _) (by try simp only[sm',Nat.reduceAdd];exact ALe.same wA' rfl) ?_
 rintro k hi1
 try simp only[sm',Nat.reduceAdd]
 replace hi1:k≤l.length:=hi1
 refine wr'<|Vw (Zbb lk lk)<|sn'<|Zam<|?_
 refine cd' lk (fun hc1=>?_) (fun hc1=>?_)
 ·have hk:k<l.length:=by omega
  have hr:=hok _ (List.getElem_mem hk)
  obtain⟨hr1,hr2,hr3⟩:1900≤l[k].2.1∧l[k].2.1≤l[k].2.2.1∧l[k].2.2.1≤2100:=⟨(Zcn hr).1,(Zcn hr).2.1,(Zcn hr).2.2.1⟩
  obtain⟨hr4,hr5⟩:(Zc9 l[k]).length≤201∧((Zc9 l[k]).length:Int)=l[k].2.2.1-l[k].2.1+1:=ZgZ hr
  refine Zaf<|Zah<|Zam<|Zap<|wr'<|?_
  refine V' (Za0 lk lk Zfi (nb' rfl) ro om ro rfl) pt ?_
  refine Vw (ZaI lk Zkw rfl)<|E' (ZaV (hl0 (hH _)) ha0) pt<|E' (Zak lk cv (hga (hH _) rfl) rfl (nb' rfl) rfl Zjh (hs0 (hH _))) ptn<|sn'<|Zam<|wr'<|Vw (Zab lk)<|Vw (Zac lk (hga (hH _) rfl) gt0)<|Vw (ZaE lk gt)<|Vw (Zcr lk lk)<|sn'<|?_
  refine cd' lk (fun hc2=>?_) (fun hc2=>?_)
  ·refine ZaQ<|ZaD<|Zba<|Zah<|Zav<|?_
   refine V' (Zay lk lki om om) pt ?_
   refine mw<|Zas<|ZaB<|?_
   refine lU' (k+1) (by (try dsimp only);omega) (by (try dsimp only);(try simp only[sm',Nat.reduceAdd]);exact ALe.trans (ALe.back wA' rfl (E1:=[]) (k:=N+0) (by simp only[List.length_cons,List.length_nil,(hH _)]) om (by exact lt') (ltw om (hHlt _)) (by rfl)) (ALe.same (WkL.refl _) (by rw[ZjD hk,if_neg hc2,List.append_nil (Zbf _ _)])))
  have hnm:l[k].1=nm:=Decidable.of_not_not hc2
  obtain⟨mm,hmm⟩:=Znd hk hnm
  refine Zaf<|Zah<|wr'<|Vw (Zab lk)<|Vw (Zac lk (hga (hH _) rfl) gt1)<|mw<|sn'<|Zap<|?_
  refine ZrA (ι:=Nat) (fun (j:Nat)=>[(6,iv (l[k].2.1+(j:Int))),(7,.any),(8,.any)]++rn' 21 26) (fun (j:Nat)=>H (Zbf (l.take k) nm++(Zc9 l[k]).take j)++[Ent.mk 0 36 11 (rulC l[k])]) (fun (j:Nat)=>(j:Int)≤l[k].2.2.1-l[k].2.1+1) (fun (j:Nat)=>(Zc9 l[k]).length-j) (0) (by show (0:Int)≤_;omega) (by try simp only[sm',Nat.reduceAdd];exact ALe.same wA' (by rw[List.take_zero,List.append_nil])) ?_
  rintro j hi2
  try simp only[sm',Nat.reduceAdd]
  replace hi2:(j:Int)≤l[k].2.2.1-l[k].2.1+1:=hi2
  refine Zam<|wr'<|mw<|Vw (Zab lk)<|Vw (Zac lk (hga (hH _) rfl) gt2)<|Vw (Zdq lk lk)<|sn'<|?_
  refine cd' lk (fun hc3=>?_) (fun hc3=>?_)
  ·have hy:1900≤l[k].2.1+(j:Int)∧l[k].2.1+(j:Int)≤2100:=by omega
   obtain⟨hd1,hd2⟩:=Znz hr hy
   have ha6:0≤l[k].2.2.2.2.2.1∧l[k].2.2.2.2.2.1≤172800:=(Zcn hr).2.2.2.2.2.1
   have hd3 : -30000≤rDy l[k] (l[k].2.1+(j:Int))∧rDy l[k] (l[k].2.1+(j:Int))≤50000:=hd2
   refine Zaf<|Zah<|Zam<|Zap<|wr'<|mw<|Vw (Zab lk)<|Vw (Zac lk (hga (hH _) rfl) gt3)<|Vw (Zab lk)<|Vw (Zan lk (hga (hH _) rfl) Zri rfl)<|Zad mp (on_r hr hy) pt<|mw<|Vw (ZaN lk gt)<|?_
   refine Vw (ZaN lk gt)<|E' (ZaV (hl1 (hH _)) ha1) pt<|E' (Zak lk cv (hga (hH _) rfl) rfl (nb' rfl) rfl Zrk (hs1 (hH _))) ptn<|mw<|sn'<|Zam<|ZoK []<|Dw (v_mv lk)<|Dw (Zan lk (hga (hH _) rfl) Zrj rfl)<|?_
   refine ZaY mp (fun hE hX=>num_r hd2) pt ?_
   refine D' (ZeN lk lki om om) pt ?_
   refine Dw (Zab lk)<|Dw (Zac lk (hga (hH _) rfl) gt7)<|?_
   refine D' (Zay lk lk om om) pt ?_
   refine Dw (Zan lk (hga (hH _) rfl) Zjg rfl)<|Dw (Zau (Zju cv rfl cv rfl))<|ZbI<|ZnK<|?_
   refine k_callY lk mp (hY _ (Zh8 l[k] (l[k].2.1+(j:Int)),l[k]) _ _ (by rw[hmm,List.length_append,List.length_append,List.length_append,List.length_take];omega)) (by intro i hi;simp at hi) pt ?_
   refine Zqf rfl (Zax lk) pt<|ZsX<|Zah<|ZaM lk<|Zaf<|Zaz<|Zah<|Zav<|mw<|?_
   refine V' (Zay lk lki om om) pt ?_
   refine mw<|Zas<|ZaB<|?_
   refine lU' (j+1) (by (try dsimp only);omega) (by (try dsimp only);(try simp only[sm',Nat.reduceAdd]);exact ALe.trans (ALe.back wA' rfl (E1:=[Ent.mk 0 36 11 (rulC l[k])]) (k:=N+1) (by simp only[List.length_cons,List.length_nil,(hH _)]) om (by exact lt') (ltw om (hHlt _)) (by exact lt')) (ALe.same (WkL.refl _) (by rw[Zne om,List.append_assoc])))
  refine ZaQ<|ZaD<|ZaD<|Zba<|Zaz<|Zah<|Zav<|?_
  refine V' (Zay lk lki om om) pt ?_
  refine mw<|Zas<|ZaB<|?_
  refine lU' (k+1) (by (try dsimp only);omega) (by (try dsimp only);(try simp only[sm',Nat.reduceAdd]);exact ALe.trans (ALe.back wA' rfl (E1:=[]) (k:=N+0) (by simp only[List.length_cons,List.length_nil,(hH _)]) om (by exact lt') (ltw om (hHlt _)) (by rfl)) (ALe.same (WkL.refl _) (by rw[ZjD hk,if_pos hnm,List.take_of_length_le (l:=Zc9 l[k]) om])))
 refine ZaQ<|ZaD<|ZaD<|Zba<|w_end (rs0)<|?_
 exact⟨_,_,rfl,hH _,hHlt _,rfl,rfl,by rw[List.take_of_length_le om]⟩
end Go.Proofs.YtlekejpogddndaaGreatDoor
end
section
namespace Go.Ab
open Go.RowKit Go.Sort
section
variable {P : Program}
theorem Znt (w:World) (g:Gh) : ∀ {vs us:List Value},RepL w g (vs.map .v) us↔us=vs
 | [],us=>by simp only[List.map_nil,RepL]
 | v::vs,us=>by
  simp only[List.map_cons,RepL,Rep,Znt w g (vs:=vs)]
  constructor
  ·rintro⟨u,us',rfl,rfl,rfl⟩;rfl
  ·rintro rfl;exact⟨_,_,rfl,rfl,rfl⟩
theorem ACalls.of_turn {f:FuncId}{args:List AV}{h:AH}{id ver ty st:Nat}{cells:List AV}{R':List AV→Prop}(he:enters P f=true) (hi:h[id]?=some (.mk ver ty st cells)) (hne:cells≠[])
  (hc : ∀ w g (vs:Array Value) b cap arr,SimH w g h→RepL w g args vs.toList→g.loc id ver=some (some ⟨b,0,none⟩,cap)→w.heap[b]?=some (.cells arr ty (0,0))→arr.size=cap*st→cells.length≤arr.size→RepL w g cells (arr.toList.take cells.length) →
   Calls P f vs w fun e w'=>e=.returned (.tuple #[]) ∧ ∃ (vs':List Value) (arr':Array Value),R' (vs'.map .v)∧w'.heap[b]?=some (.cells arr' ty (0,0))∧arr'.size=arr.size∧vs'.length=cells.length∧arr'.toList.take cells.length=vs' ∧
    w'.os=w.os∧w'.tape=w.tape∧w'.output=w.output∧w.heap.size≤w'.heap.size ∧ ∀ k,k<w.heap.size→k≠b→w'.heap[k]?=w.heap[k]?) :
  ACalls P f args h fun x h'=>x=.ret (.tup []) ∧ ∃ cells',R' cells'∧h'=h.set id (.mk ver ty st cells'):=by
 refine⟨he,fun w g vs hs ha=>?_⟩
 obtain⟨A,cap,f1,fm,f3⟩:=hs.ent _ _ _ _ _ hi
 rcases f3 with ⟨e,_⟩ | ⟨b,arr,rfl,hc0,hd,hb,hsz,hle,hrl⟩
 ·exact absurd e hne
 have hid:id<h.length:=(List.getElem?_eq_some_iff.1 hi).1
 have how:OwAt g h id b:=⟨ver,ty,st,cells,_,cap,hi,f1,hc0,rfl⟩
 refine (hc w g vs b cap arr hs ha f1 hb hsz hle hrl).mono ?_
 rintro e w' ⟨rfl,vs',arr',hR,h1,h2,h3,h4,h5,h6,h7,h8,h9⟩
 have hother : ∀ j,g.D j∨(∃ i,i≠id∧OwAt g h i j)∨(∃ i,RwAt h i j)→w'.heap[j]?=w.heap[j]?:=by
  rintro j (hj | ⟨i,hne',hj⟩ | ⟨i,hj⟩)
  rotate_left 2
  ·exact h9 j (hs.own_not_D (.inr ⟨i,hj⟩)).2 (fun e=>by subst e;exact hs.own_ne_raw how hj)
  ·exact h9 j (hs.lt j hj) (fun e=>hd (e ▸ hj))
  ·exact h9 j (hs.own_not_D (.inl ⟨i,hj⟩)).2 (fun e=>hne' (hs.inj i id j hj (e ▸ how)))
 obtain⟨k1,k2,k3⟩:=hs.put (w':=w') (g':=g) (h':=h.set id (.mk ver ty st (vs'.map .v))) id ver ty st (vs'.map .v) (some ⟨b,0,none⟩) cap
  (fun i hne'=>by rw[List.getElem?_set_ne (Ne.symm hne')]) (by rw[List.getElem?_set_self hid]) (by simp) rfl (fun _ _ _ h=>h) (fun _ _ _ h=>.inl h) f1 (fun v l hv=>(hs.fresh _ _ _ hv).2 _ _ _ _ hi) hother h8 fm
  (.inr ⟨b,arr',rfl,hc0,hd,h1,by rw[h2,hsz],by rw[List.length_map,h3,h2];exact hle,by rw[List.length_map,h3,h4];exact (Znt w' g).2 rfl⟩)
  (fun j hj _ i hne' ho=>by
   simp at hj
   subst hj
   exact hne' (hs.inj i id _ ho how))
 refine⟨.ret (.tup []),_,g,?_,k1,k2,⟨h5,h6,h7,h8,fun k hk hn=>h9 k hk (fun e=>hn (.inl ⟨id,e ▸ how⟩))⟩,fun k hk=>?_,rfl,_,hR,rfl⟩
 ·simp only[EndR,Rep];exact⟨#[],rfl,by simp only[RepL]⟩
 ·rcases k3 k hk with ho | ⟨ho,_⟩
  ·exact .inl ho
  ·simp at ho;subst ho;exact .inl (.inl ⟨id,how⟩)
end
section
variable {P : Program} {α : Type}
theorem Zs8 {enc:α→List Value}{k:Nat}(hk : ∀ x,(enc x).length=k) : ∀ (l:List α) (i j:Nat) (h:i<l.length),j<k→(l.flatMap enc)[i*k+j]?=(enc l[i])[j]?
 | [],i,j,h,_=>by simp at h
 | x::l,0,j,h,hj=>by
  rw[List.flatMap_cons,Nat.zero_mul,Nat.zero_add,List.getElem?_append_left (by rw[hk];exact hj)];rfl
 | x::l,i+1,j,h,hj=>by
  have ih:=Zs8 hk l i j (by simpa using h) hj
  rw[List.flatMap_cons,List.getElem?_append_right (by rw[hk,Nat.succ_mul];omega),hk,show (i+1)*k+j-k=i*k+j by rw[Nat.succ_mul];omega,ih];rfl
theorem Zey {enc:α→List Value}{k:Nat}(hk : ∀ x,(enc x).length=k) : ∀ (l:List α),(l.flatMap enc).length=l.length*k
 | []=>by simp
 | x::l=>by rw[List.flatMap_cons,List.length_append,hk,Zey hk l,List.length_cons,Nat.succ_mul];omega
theorem Zj2 [Inhabited α] {enc:α→List Value}{k:Nat}(hk0:0<k) (hk : ∀ x,(enc x).length=k) (d:Array α):(Go.Sort.flatK enc k d).toList=d.toList.flatMap enc:=by
 apply List.ext_getElem?
 intro t
 by_cases ht:t<d.size*k
 ·have h1:t/k<d.size:=Nat.div_lt_of_lt_mul (by rw[Nat.mul_comm];exact ht)
  have h2:t%k<k:=Nat.mod_lt _ hk0
  have h3:=Zs8 hk d.toList (t/k) (t%k) (by simpa using h1) h2
  rw[Nat.mul_comm (t/k) k,Nat.div_add_mod] at h3
  rw[h3]
  have hs:t<(Go.Sort.flatK enc k d).size:=by simpa using ht
  have h4:=Go.Sort.get_flatK enc k d t ht
  rw[getElem!_pos _ t hs,getElem!_pos _ (t/k) h1,getElem!_pos _ (t%k) (by rw[hk];exact h2)] at h4
  rw[Array.getElem?_toList,Array.getElem?_eq_getElem hs,h4,Array.getElem_toList,List.getElem?_eq_getElem (by rw[hk];exact h2)]
  rfl
 ·rw[List.getElem?_eq_none (by simpa using ht),List.getElem?_eq_none (by rw[Zey hk];simpa using ht)]
theorem rows_v {enc:α→List Value}(l:List α):rows (fun x=>(enc x).map .v) l=(l.flatMap enc).map .v:=by
 unfold rows
 rw[List.map_flatMap]
theorem sort_a [Inhabited α] {ρ:Go.Shelf.Ren}(L:Go.Proofs.SlLaysF0.n6 P ρ) {k:Nat}(hk0:0<k) (aE : ∀ w,(isAgg (ρ.t 24)).run P w=.ok true w) (zE : ∀ w,(Go.sizeOf (ρ.t 24)).run P w=.ok k w) {enc:α→List Value}(hk : ∀ x,(enc x).length=k) (h1 : ∀ x,∀ v∈enc x,v.oneCell'=true) {cf:α→α→Int}(hO:SWO (Go.Proofs.ltOf cf)) {g0:Nat}
  (eg : ∀ args w,(callFunc g0 args).run P w=.ok (.enter g0 args) w) (hcmp : ∀ blk off size w,Go.Proofs.CmpLays P g0 #[] enc k cf blk off size w) {h:AH} {id ver ty:Nat} {l:List α} (hi:h[id]?=some (.mk ver ty k (rows (fun x=>(enc x).map .v) l))) (hl:l≠[]) (hz:l.length<4611686018427387904) (he:enters P (ρ.f 6)=true) :
  ACalls P (ρ.f 6) [.own id ver l.length,.v (.func (.func g0) #[] #[])] h fun x h'=>x=.ret (.tup []) ∧ ∃ l':List α,l'.Perm l∧(∀ i j (hi:i<l'.length) (hj:j<l'.length),i<j→Go.Proofs.ltOf cf l'[j] l'[i]=false)∧h'=h.set id (.mk ver ty k (rows (fun x=>(enc x).map .v) l')):=by
 have hlen:=Za6 (f:=fun x=>(enc x).map .v) (st:=k) (fun x=>by rw[List.length_map,hk]) l
 have hpos:0<l.length:=List.length_pos_iff.2 hl
 refine (ACalls.of_turn (R':=fun cs => ∃ l':List α,l'.Perm l∧(∀ i j (hi:i<l'.length) (hj:j<l'.length),i<j→Go.Proofs.ltOf cf l'[j] l'[i]=false)∧cs=rows (fun x=>(enc x).map .v) l') he hi ?_ ?_).mono ?_
 ·intro e
  have:=congrArg List.length e
  rw[hlen] at this
  have h0:0<l.length*k:=Nat.mul_pos hpos hk0
  simp at this;omega
 ·intro w g vs b cap arr hs ha hloc hb hsz hle hr
  simp only[RepL,Rep,hloc] at ha
  obtain⟨u1,us1,e1,⟨A,c,e2,hn1,hn2,rfl⟩,u2,us2,rfl,rfl,rfl⟩:=ha
  simp only[Option.some.injEq,Prod.mk.injEq] at e2
  obtain⟨rfl,rfl⟩:=e2
  obtain rfl:vs = #[.slice (some ⟨b,0,none⟩) l.length cap,.func (.func g0) #[] #[]]:=by cases vs;simp_all
  have hr':arr.toList.take (l.length*k)=l.flatMap enc:=by
   rw[hlen,rows_v] at hr
   exact (Znt w g).1 hr
  have hblk:b<w.heap.size:=(Array.getElem?_eq_some_iff.1 hb).1
  have hflat:=Zj2 hk0 hk l.toArray
  have hgetF : ∀ (d:Array α) (t:Nat),t<d.size*k→(Go.Sort.flatK enc k d).toList[t]?=some (Go.Sort.flatK enc k d)[t]!:=by
   intro d t ht
   have hs:t<(Go.Sort.flatK enc k d).size:=by simpa using ht
   rw[getElem!_pos _ t hs,Array.getElem?_toList,Array.getElem?_eq_getElem hs]
  have hH:Go.Sort.HoldsK enc k w b 0 l.toArray:=by
   intro j hj
   have hj':j<l.length*k:=by simpa using hj
   rw[Nat.zero_add]
   refine⟨?_,frozen_of_row w b j arr ty hb⟩
   rw[cell_of_row w b j arr ty (0,0) hb,←Array.getElem?_toList]
   have h5:arr.toList[j]?=(l.flatMap enc)[j]?:=by rw[←hr',List.getElem?_take_of_lt hj']
   rw[h5,show l.flatMap enc=(Go.Sort.flatK enc k l.toArray).toList from hflat.symm,hgetF _ _ (by simpa using hj')];rfl
  refine (Go.Proofs.AnyQ.slices_SortFunc L k aE zE enc hk h1 cf hO g0 #[] b 0 cap l.toArray w eg (hcmp b 0 l.toArray.size w) hH hblk (by simpa using hz)).mono ?_
  rintro e w' ⟨rfl,d',n,os,⟨p1,_,p3⟩,hso,rfl⟩
  have hds:d'.size=l.length:=by simpa using p1
  have hw' : ∀ j,j<w.heap.size→(Go.Proofs.sortWorldK enc k w b 0 n d' os).heap[j]?=(w.heap.modify b (onCells (putCells _root_.id 0 (Go.Sort.flatK enc k d'))))[j]?:=by
   intro j hj
   show ((w.heap.modify b (onCells (putCells _root_.id 0 (Go.Sort.flatK enc k d'))))++os)[j]?=_
   rw[Array.getElem?_append_left (by simpa using hj)]
  have hsz2:arr.size=(putCells _root_.id 0 (Go.Sort.flatK enc k d') arr).size:=by simp[putCells]
  refine⟨rfl,d'.toList.flatMap enc,putCells _root_.id 0 (Go.Sort.flatK enc k d') arr,⟨d'.toList,?_,?_,(rows_v _).symm⟩,?_,hsz2.symm,?_,?_,rfl,rfl,rfl,?_,?_⟩
  ·have e1:d'.extract 0 l.toArray.size=d':=by rw[←p1];simp
   have e2:l.toArray.extract 0 l.toArray.size=l.toArray:=by simp
   rw[e1,e2] at p3
   simpa using p3
  ·intro i j hi hj hij
   have:=hso i j (Nat.zero_le _) hij (by simpa [hds] using hj)
   rw[getElem!_pos d' j (by simpa using hj),getElem!_pos d' i (by simpa using hi)] at this
   simpa using this
  ·rw[hw' b hblk,Array.getElem?_modify,if_pos rfl,hb];rfl
  ·rw[Zey hk,hlen,Array.length_toList,hds]
  ·rw[hlen]
   apply List.ext_getElem?
   intro t
   by_cases ht:t<l.length*k
   ·have ht2:t<d'.size*k:=by rw[hds];exact ht
    have hta:t<arr.size:=by rw[hlen] at hle;omega
    rw[List.getElem?_take_of_lt ht,←Zj2 hk0 hk d',hgetF d' t ht2]
    unfold putCells
    rw[Array.getElem?_toList,Array.getElem?_mapIdx,Array.getElem?_eq_getElem hta,Option.map_some,if_pos ⟨Nat.zero_le _,by simpa using ht2⟩]
    rfl
   ·rw[List.getElem?_eq_none (by simp;omega),List.getElem?_eq_none (by rw[Zey hk,Array.length_toList,hds];omega)]
  ·show w.heap.size≤((w.heap.modify b (onCells (putCells _root_.id 0 (Go.Sort.flatK enc k d'))))++os).size
   simp
  ·intro j hj hjb
   rw[hw' j hj,Array.getElem?_modify,if_neg (Ne.symm hjb)]
 ·rintro x h' ⟨rfl,cs,⟨l',hp,hs,rfl⟩,rfl⟩
  exact⟨rfl,l',hp,hs,rfl⟩
end
end Go.Ab
end
section
namespace Go.Proofs
open Go.Shelf
def Tryz.sl9_ren:Go.Shelf.Ren:=⟨fun | 6=>88 | 15=>161 | 14=>160 | 28=>243 | 29=>244 | 20=>235 | 21=>236 | 22=>237 | 23=>238 | 24=>239 | 25=>240 | 26=>241 | 27=>242 | 46=>283 | 47=>284 | 48=>285 | 49=>286 | 50=>287 | 57=>322 | n=>n,fun | 22=>140 | 24=>144 | 25=>147 | 3=>3 | 39=>211 | 0=>0 | 53=>279 | 55=>281 | 4=>4 | 46=>273 | 45=>272 | 50=>170 | 5=>5 | 9=>9 | 66=>311 | 70=>315 | 76=>337 | 77=>307 | n=>n,fun | n=>n⟩
theorem Tryz.sl9:Go.Proofs.SlLaysF0.n6 Tryz.prog Tryz.sl9_ren:={
 mixed:=by kernel_rfl
 f6:=⟨Tryz.f88.name,by decide,Tryz.func88.trans (congrArg some (by kernel_rfl))⟩
 f14:=⟨Tryz.f160.name,by decide,Tryz.func160.trans (congrArg some (by kernel_rfl))⟩
 f15:=Tryz.func161.trans (congrArg some (by kernel_rfl))
 f20:=⟨Tryz.f235.name,by decide,Tryz.func235.trans (congrArg some (by kernel_rfl))⟩
 f21:=⟨Tryz.f236.name,by decide,Tryz.func236.trans (congrArg some (by kernel_rfl))⟩
 f22:=⟨Tryz.f237.name,by decide,Tryz.func237.trans (congrArg some (by kernel_rfl))⟩
 f23:=⟨Tryz.f238.name,by decide,Tryz.func238.trans (congrArg some (by kernel_rfl))⟩
 f24:=⟨Tryz.f239.name,by decide,Tryz.func239.trans (congrArg some (by kernel_rfl))⟩
 f25:=⟨Tryz.f240.name,by decide,Tryz.func240.trans (congrArg some (by kernel_rfl))⟩
 f26:=⟨Tryz.f241.name,by decide,Tryz.func241.trans (congrArg some (by kernel_rfl))⟩
 f27:=⟨Tryz.f242.name,by decide,Tryz.func242.trans (congrArg some (by kernel_rfl))⟩
 f28:=Tryz.func243.trans (congrArg some (by kernel_rfl))
 f29:=Tryz.func244.trans (congrArg some (by kernel_rfl))
 f46:=⟨Tryz.f283.name,by decide,Tryz.func283.trans (congrArg some (by kernel_rfl))⟩
 f47:=Tryz.func284.trans (congrArg some (by kernel_rfl))
 f48:=Tryz.func285.trans (congrArg some (by kernel_rfl))
 f49:=⟨Tryz.f286.name,by decide,Tryz.func286.trans (congrArg some (by kernel_rfl))⟩
 f50:=⟨Tryz.f287.name,by decide,Tryz.func287.trans (congrArg some (by kernel_rfl))⟩
 f57:=⟨Tryz.f322.name,by decide,Tryz.func322.trans (congrArg some (by kernel_rfl))⟩
 t0:=Tryz.underlying0
 a0:=Tryz.isAgg0
 z0:=Tryz.sizeOf0
 v0:=Tryz.zeroValue0
 t3:=Tryz.underlying3
 a3:=Tryz.isAgg3
 z3:=Tryz.sizeOf3
 v3:=Tryz.zeroValue3
 t4:=Tryz.underlying4
 a4:=Tryz.isAgg4
 z4:=Tryz.sizeOf4
 v4:=Tryz.zeroValue4
 t5:=Tryz.underlying5
 a5:=Tryz.isAgg5
 z5:=Tryz.sizeOf5
 v5:=Tryz.zeroValue5
 t9:=Tryz.underlying9
 a9:=Tryz.isAgg9
 z9:=Tryz.sizeOf9
 v9:=Tryz.zeroValue9
 t22:=Tryz.underlying140
 a22:=Tryz.isAgg140
 z22:=Tryz.sizeOf140
 v22:=Tryz.zeroValue140
 t25:=Tryz.underlying147
 a25:=Tryz.isAgg147
 z25:=Tryz.sizeOf147
 v25:=Tryz.zeroValue147
 t39:=Tryz.underlying211
 a39:=Tryz.isAgg211
 z39:=Tryz.sizeOf211
 v39:=Tryz.zeroValue211
 t45:=Tryz.underlying272
 a45:=Tryz.isAgg272
 z45:=Tryz.sizeOf272
 v45:=Tryz.zeroValue272
 t46:=Tryz.underlying273
 a46:=Tryz.isAgg273
 z46:=Tryz.sizeOf273
 v46:=Tryz.zeroValue273
 t50:=Tryz.underlying170
 a50:=Tryz.isAgg170
 z50:=Tryz.sizeOf170
 v50:=Tryz.zeroValue170
 t53:=Tryz.underlying279
 a53:=Tryz.isAgg279
 z53:=Tryz.sizeOf279
 v53:=Tryz.zeroValue279
 t55:=Tryz.underlying281
 a55:=Tryz.isAgg281
 z55:=Tryz.sizeOf281
 v55:=Tryz.zeroValue281
 t66:=Tryz.underlying311
 a66:=Tryz.isAgg311
 z66:=Tryz.sizeOf311
 v66:=Tryz.zeroValue311
 t70:=Tryz.underlying315
 a70:=Tryz.isAgg315
 z70:=Tryz.sizeOf315
 v70:=Tryz.zeroValue315
 t76:=Tryz.underlying337
 a76:=Tryz.isAgg337
 z76:=Tryz.sizeOf337
 v76:=Tryz.zeroValue337
 t77:=Tryz.underlying307
 a77:=Tryz.isAgg307
 z77:=Tryz.sizeOf307
 v77:=Tryz.zeroValue307 }
end Go.Proofs
end
section
namespace Go.Proofs
open Go.Shelf
def Tryz.lays122_ren:Go.Shelf.Ren:=⟨fun | 122=>90 | 215=>162 | n=>n,fun | 3=>3 | 4=>4 | n=>n,fun | n=>n⟩
theorem Tryz.lays122:Go.Proofs.Lays.n122 Tryz.prog Tryz.lays122_ren:={
 mixed:=by kernel_rfl
 f122:=Tryz.func90.trans (congrArg some (by kernel_rfl))
 f215:=Tryz.func162.trans (congrArg some (by kernel_rfl))
 t3:=Tryz.underlying3
 a3:=Tryz.isAgg3
 z3:=Tryz.sizeOf3
 v3:=Tryz.zeroValue3
 t4:=Tryz.underlying4
 a4:=Tryz.isAgg4
 z4:=Tryz.sizeOf4
 v4:=Tryz.zeroValue4 }
open Go.RowKit in
theorem Tryz.cmp_Compare_int (x y:Int) (w:World) :
  Calls Tryz.prog 90 #[.int .i64 x,.int .i64 y] w fun e w'=>e=.returned (.int .i64 (Lib.compareInt x y))∧w'=w:=Any.cmp_Compare_int Tryz.lays122 x y w
end Go.Proofs
end
section
namespace Go.Proofs.YtlekejpogddndaaGreatDoor
open Go.Ab Go.RowKit Civ Go.Sort
def trnV (t:Trn):List Value:=[.int .i64 t.1,.string t.2.1,.int .i64 t.2.2.1,.int .i64 t.2.2.2.1,.int .i64 t.2.2.2.2.1,.int .i64 t.2.2.2.2.2.1.1,.int .i64 t.2.2.2.2.2.1.2.1,.int .i64 t.2.2.2.2.2.1.2.2,.int .i64 t.2.2.2.2.2.2.1,.int .i64 t.2.2.2.2.2.2.2.1,.int .i64 t.2.2.2.2.2.2.2.2.1,.string t.2.2.2.2.2.2.2.2.2]
def cmpT (a b:Trn):Int:=Lib.compareInt a.1 b.1
theorem Ztv (a b:Trn):Go.Proofs.ltOf cmpT a b=decide (a.1<b.1):=by
 unfold Go.Proofs.ltOf cmpT Lib.compareInt
 rw[Bool.eq_iff_iff]
 simp only[decide_eq_true_eq]
 repeat' split
 all_goals omega
theorem cmpT_swo:SWO (Go.Proofs.ltOf cmpT):=by
 refine⟨fun x=>?_,fun x y z=>?_,fun x y z=>?_⟩ <;> simp only[Ztv,decide_eq_true_eq,decide_eq_false_iff_not] <;> omega
theorem cmp_walk (x y:Trn) (w:World):Calls Tryz.prog 89 #[.agg (trnV x).toArray,.agg (trnV y).toArray] w fun e w'=>e=.returned (.int .i64 (cmpT x y)) ∧ ∃ q os,w'=grow (w.drewN q) os:=by
 obtain⟨a,n,f,t,m,⟨k,v,d⟩,c,e,s,l⟩:=x
 obtain⟨a2,n2,f2,t2,m2,⟨k2,v2,d2⟩,c2,e2,s2,l2⟩:=y
 simp only[trnV]
 go_enter Tryz.func89,Tryz.ntmps89
 go_wp2_with (go_at_call 90;refine (Tryz.cmp_Compare_int _ _ _).mono ?_;rintro e w' ⟨rfl,rfl⟩)
 go_ret
 refine⟨rfl,?_⟩
 rw[alloc_eq_grow,alloc_eq_grow,grow_grow]
 exact⟨0,_,rfl⟩
def ordT (l l':List Trn):Prop:=l'.Perm l∧l'.Pairwise fun a b=>a.1≤b.1
theorem sortT_a {h:AH}{id ver ty:Nat}{l:List Trn}(hi:h[id]?=some (.mk ver ty 12 (rows trnC l))) (hl:l≠[]) (hz:l.length<4611686018427387904) :
  ACalls Tryz.prog 88 [.own id ver l.length,.v (.func (.func 89) #[] #[])] h fun x h'=>x=.ret (.tup []) ∧ ∃ l',ordT l l'∧h'=h.set id (.mk ver ty 12 (rows trnC l')):=by
 refine (sort_a (P:=Tryz.prog) Tryz.sl9 (k:=12) om (fun w=>by kernel_rfl) (fun w=>by kernel_rfl) (enc:=trnV) (fun _=>rfl) (fun t v hv=>?_) cmpT_swo (g0:=89) (fun args w=>?_) (fun blk off size w m os dk hd x y=>cmp_walk x y _) hi hl hz (by kernel_rfl)).mono ?_
 ·unfold trnV at hv
  simp only[List.mem_cons,List.not_mem_nil,or_false] at hv
  rcases hv with rfl | rfl | rfl | rfl | rfl | rfl | rfl | rfl | rfl | rfl | rfl | rfl <;> rfl
 ·exact ZiN (by kernel_rfl) args w
 ·rintro x h' ⟨rfl,l',hp,hs,rfl⟩
  refine⟨rfl,l',⟨hp,List.pairwise_iff_getElem.2 fun i j hi hj hij=>?_⟩,rfl⟩
  have:=hs i j hi hj hij
  rw[Ztv] at this
  simp only[decide_eq_false_iff_not] at this
  omega
end Go.Proofs.YtlekejpogddndaaGreatDoor
end
section
namespace Go.Proofs.YtlekejpogddndaaGreatDoor
open Go.Ab Go.RowKit Civ
attribute [local simp] Zbj ZlE Zd5
section
theorem Zjf {a0 a1 a2 a3 a4 a5 a6 a7 a8 a9 a10 a11 c0 c1 c2 c3 c4 c5 c6 c7 c8 c9 c10 c11:AV}{l:List AV}:setCells (a0::a1::a2::a3::a4::a5::a6::a7::a8::a9::a10::a11::l) 0 [c0,c1,c2,c3,c4,c5,c6,c7,c8,c9,c10,c11]=c0::c1::c2::c3::c4::c5::c6::c7::c8::c9::c10::c11::l:=rfl
theorem ZoE {a0 a1 a2 a3 a4 a5 a6 a7 a8 a9 a10 a11:AV}{l:List AV}:((a0::a1::a2::a3::a4::a5::a6::a7::a8::a9::a10::a11::l).drop 0).take 12=[a0,a1,a2,a3,a4,a5,a6,a7,a8,a9,a10,a11]:=rfl
theorem Zm0 {τ:Operand→AV}{y0:Operand}{x0_0 x0_1 x0_2 x0_3 x0_4 x0_5 x0_6 x0_7 x0_8 x0_9 x0_10 x0_11:AV}(h0:Zat (τ y0)=some [x0_0,x0_1,x0_2,x0_3,x0_4,x0_5,x0_6,x0_7,x0_8,x0_9,x0_10,x0_11]) (l0:[x0_0,x0_1,x0_2,x0_3,x0_4,x0_5,x0_6,x0_7,x0_8,x0_9,x0_10,x0_11].all leaf=true):Zar τ [(0,12,y0)] [(.v (.int .i64 0)),(.v (.string ⟨#[]⟩)),(.v (.int .i64 0)),(.v (.int .i64 0)),(.v (.int .i64 0)),(.v (.int .i64 0)),(.v (.int .i64 0)),(.v (.int .i64 0)),(.v (.int .i64 0)),(.v (.int .i64 0)),(.v (.int .i64 0)),(.v (.string ⟨#[]⟩))]=some [x0_0,x0_1,x0_2,x0_3,x0_4,x0_5,x0_6,x0_7,x0_8,x0_9,x0_10,x0_11]:=by
 simp only[Zar,h0,l0]
 rfl
theorem Zrg {a0 a1 a2 a3 a4 a5 a6 a7 a8 a9 a10 a11:AV}{l:List AV}:(a0::a1::a2::a3::a4::a5::a6::a7::a8::a9::a10::a11::l).take 12=[a0,a1,a2,a3,a4,a5,a6,a7,a8,a9,a10,a11]:=rfl
theorem Zrh {a0 c0:AV}{l:List AV}:setCells (a0::l) 0 [c0]=c0::l:=rfl
theorem Zje {a0 a1 a2 a3 a4 a5 a6 a7 a8 a9 a10 a11:AV}{l:List AV}:((a0::a1::a2::a3::a4::a5::a6::a7::a8::a9::a10::a11::l).drop 1).take 11=[a1,a2,a3,a4,a5,a6,a7,a8,a9,a10,a11]:=rfl
theorem ZgP {τ:Operand→AV}{y0 y1 y2:Operand}{x0_0 x1_0 x2_0:AV}(h0:Zat (τ y0)=some [x0_0]) (l0:[x0_0].all leaf=true) (h1:Zat (τ y1)=some [x1_0]) (l1:[x1_0].all leaf=true) (h2:Zat (τ y2)=some [x2_0]) (l2:[x2_0].all leaf=true):Zar τ [(0,1,y0),(1,1,y1),(2,1,y2)] [(.v (.int .i64 0)),(.v (.int .i64 0)),(.v (.string ⟨#[]⟩))]=some [x0_0,x1_0,x2_0]:=by
 simp only[Zar,h0,l0,h1,l1,h2,l2]
 rfl
theorem ZgO {τ:Operand→AV}{y0:Operand}{x0_0 x0_1 x0_2:AV}(h0:Zat (τ y0)=some [x0_0,x0_1,x0_2]) (l0:[x0_0,x0_1,x0_2].all leaf=true):Zar τ [(0,3,y0)] [(.v (.int .i64 0)),(.v (.int .i64 0)),(.v (.string ⟨#[]⟩))]=some [x0_0,x0_1,x0_2]:=by
 simp only[Zar,h0,l0]
 rfl
theorem ZmZ { e:Ent}:([]:AH)++[e]=[e]:=rfl
theorem Zkv {e0 e1 e2 e3 e4 e5 d0:Ent}:([e0,e1,e2,e3,e4,e5]:AH)++[d0]=[e0,e1,e2,e3,e4,e5,d0]:=rfl
theorem ZmY {a0 a1 a2:AV}{l:List AV}:(a0::a1::a2::l).take 3=[a0,a1,a2]:=rfl
end
def c31p:AC:=(.seq (.reg [⟨(some 6),none,(.mv (.const (.slice none 0 0)))⟩,⟨(some 7),none,(.mv (.const (.int .i64 0)))⟩]) (.seq (.reg [⟨(some 15),none,(.mv (.tmp 0))⟩,⟨(some 16),none,(.mv (.tmp 1))⟩,⟨(some 17),none,(.mv (.tmp 2))⟩,⟨(some 18),none,(.call (.func 86) [(.tmp 15),(.tmp 16),(.tmp 17)])⟩,⟨(some 8),none,(.mv (.tmp 18))⟩]) (.seq (.reg [⟨(some 19),none,(.mv (.tmp 8))⟩,⟨(some 20),none,(.bin .neq (.tmp 19) (.const (.int .i64 0)))⟩]) (.seq (.cond (.tmp 20) (.seq (.reg [⟨(some 21),none,(.mv (.tmp 8))⟩,⟨(some 6),none,(.mv (.const (.slice none 0 0)))⟩,⟨(some 7),none,(.mv (.tmp 21))⟩]) .ret) .skip) (.seq (.reg [⟨(some 9),none,(.new 140 1 [(.sl 0 0 true [])])⟩]) (.seq (.reg [⟨(some 22),none,(.mv (.tmp 0))⟩,⟨(some 23),none,(.mv (.tmp 1))⟩,⟨(some 24),none,(.call (.func 87) [(.tmp 22),(.tmp 23)])⟩]) .skip))))))
def c31a:AC:=(.reg [⟨(some 10),none,(.new 144 12 [(.v (.int .i64 0)),(.v (.string ⟨#[]⟩)),(.v (.int .i64 0)),(.v (.int .i64 0)),(.v (.int .i64 0)),(.v (.int .i64 0)),(.v (.int .i64 0)),(.v (.int .i64 0)),(.v (.int .i64 0)),(.v (.int .i64 0)),(.v (.int .i64 0)),(.v (.string ⟨#[]⟩))])⟩,⟨none,none,(.store 12 (.tmp 10) (.tmp 25))⟩])
def c31b:AC:=(.block 1 (.reg [⟨(some 26),none,(.load false 1 (.tmp 9))⟩,⟨(some 27),none,(.load true 12 (.tmp 10))⟩,⟨(some 28),none,(.lit 144 12 1 [(.v (.int .i64 0)),(.v (.string ⟨#[]⟩)),(.v (.int .i64 0)),(.v (.int .i64 0)),(.v (.int .i64 0)),(.v (.int .i64 0)),(.v (.int .i64 0)),(.v (.int .i64 0)),(.v (.int .i64 0)),(.v (.int .i64 0)),(.v (.int .i64 0)),(.v (.string ⟨#[]⟩))] [(0,(12,(.tmp 27)))])⟩,⟨(some 29),none,(.app 144 12 112 (.tmp 26) (.tmp 28))⟩,⟨none,none,(.store 1 (.tmp 9) (.tmp 29))⟩]))
def c31q:AC:=(.seq (.reg [⟨(some 30),none,(.load false 1 (.tmp 9))⟩,⟨(some 31),none,(.call (.func 88) [(.tmp 30),(.func 89)])⟩]) (.seq (.reg [⟨(some 11),none,(.mv (.const (.slice none 0 0)))⟩]) (.seq (.reg [⟨(some 12),none,(.mv (.const (.int .i64 0)))⟩]) (.seq (.reg [⟨(some 32),none,(.load false 1 (.tmp 9))⟩,⟨(some 33),none,(.len false (.tmp 32))⟩,⟨(some 34),none,(.mv (.const (.int .i64 0)))⟩]) (.seq (.block 2 (.loop (.seq (.reg [⟨(some 35),none,(.bin .lss (.tmp 34) (.tmp 33))⟩]) (.seq (.cond (.tmp 35) .skip (.exit 2)) (.seq (.block 3 (.seq (.reg [⟨(some 36),none,(.mv (.tmp 34))⟩,⟨(some 37),none,(.ia 12 (.tmp 32) (.tmp 34))⟩,⟨(some 38),none,(.load true 12 (.tmp 37))⟩,⟨(some 14),none,(.new 144 12 [(.v (.int .i64 0)),(.v (.string ⟨#[]⟩)),(.v (.int .i64 0)),(.v (.int .i64 0)),(.v (.int .i64 0)),(.v (.int .i64 0)),(.v (.int .i64 0)),(.v (.int .i64 0)),(.v (.int .i64 0)),(.v (.int .i64 0)),(.v (.int .i64 0)),(.v (.string ⟨#[]⟩))])⟩,⟨(some 13),none,(.mv (.tmp 36))⟩,⟨none,none,(.store 12 (.tmp 14) (.tmp 38))⟩]) (.seq (.seq (.drw [⟨(some 39),none,(.mv (.tmp 13))⟩,⟨(some 40),none,(.bin .gtr (.tmp 39) (.const (.int .i64 0)))⟩,⟨(some 41),none,(.mv (.tmp 40))⟩,⟨(some 42),(some (41,true)),(.fa 0 (.tmp 14))⟩,⟨(some 43),(some (41,true)),(.load false 1 (.tmp 42))⟩,⟨(some 44),(some (41,true)),(.load false 1 (.tmp 9))⟩,⟨(some 45),(some (41,true)),(.mv (.tmp 13))⟩,⟨(some 46),(some (41,true)),(.bin .sub (.tmp 45) (.const (.int .i64 1)))⟩,⟨(some 47),(some (41,true)),(.ia 12 (.tmp 44) (.tmp 46))⟩,⟨(some 48),(some (41,true)),(.fa 0 (.tmp 47))⟩,⟨(some 49),(some (41,true)),(.load false 1 (.tmp 48))⟩,⟨(some 50),(some (41,true)),(.bin .sub (.tmp 43) (.tmp 49))⟩,⟨(some 51),(some (41,true)),(.bin .lss (.tmp 50) (.const (.int .i64 172800)))⟩,⟨(some 52),none,(.pick (.tmp 41) (.tmp 51) (.const (.bool false)))⟩] [] []) (.cond (.tmp 52) (.seq (.reg [⟨(some 6),none,(.mv (.const (.slice none 0 0)))⟩,⟨(some 7),none,(.mv (.const (.int .i64 4)))⟩]) .ret) .skip)) (.seq (.drw [⟨(some 53),none,(.mv (.tmp 11))⟩,⟨(some 54),none,(.fa 0 (.tmp 14))⟩,⟨(some 55),none,(.load false 1 (.tmp 54))⟩,⟨(some 56),none,(.fa 1 (.tmp 14))⟩,⟨(some 57),none,(.load true 11 (.tmp 56))⟩,⟨(some 58),none,(.mv (.tmp 2))⟩,⟨(some 59),none,(.mv (.tmp 12))⟩,⟨(some 60),none,(.call (.func 91) [(.tmp 57),(.tmp 58),(.tmp 59)])⟩,⟨(some 61),none,(.bin .sub (.tmp 55) (.tmp 60))⟩,⟨(some 62),none,(.fa 1 (.tmp 14))⟩,⟨(some 63),none,(.fa 9 (.tmp 62))⟩,⟨(some 64),none,(.load false 1 (.tmp 63))⟩,⟨(some 65),none,(.fa 1 (.tmp 14))⟩,⟨(some 66),none,(.fa 10 (.tmp 65))⟩,⟨(some 67),none,(.load false 1 (.tmp 66))⟩,⟨(some 68),none,(.build [(.v (.int .i64 0)),(.v (.int .i64 0)),(.v (.string ⟨#[]⟩))] [(0,(1,(.tmp 61))),(1,(1,(.tmp 64))),(2,(1,(.tmp 67)))])⟩,⟨(some 69),none,(.lit 136 3 1 [(.v (.int .i64 0)),(.v (.int .i64 0)),(.v (.string ⟨#[]⟩))] [(0,(3,(.tmp 68)))])⟩] [false,false] [⟨(some 70),none,(.app 136 3 32 (.tmp 53) (.tmp 69))⟩,⟨(some 11),none,(.mv (.tmp 70))⟩]) (.reg [⟨(some 71),none,(.fa 1 (.tmp 14))⟩,⟨(some 72),none,(.fa 9 (.tmp 71))⟩,⟨(some 73),none,(.load false 1 (.tmp 72))⟩,⟨(some 12),none,(.mv (.tmp 73))⟩]))))) (.reg [⟨(some 74),none,(.bin .add (.tmp 34) (.const (.int .i64 1)))⟩,⟨(some 34),none,(.mv (.tmp 74))⟩])))))) (.seq (.reg [⟨(some 75),none,(.mv (.tmp 11))⟩,⟨(some 76),none,(.len false (.tmp 75))⟩,⟨(some 77),none,(.bin .gtr (.tmp 76) (.const (.int .i64 1000)))⟩]) (.seq (.cond (.tmp 77) (.seq (.reg [⟨(some 6),none,(.mv (.const (.slice none 0 0)))⟩,⟨(some 7),none,(.mv (.const (.int .i64 2)))⟩]) .ret) .skip) (.seq (.reg [⟨(some 78),none,(.mv (.tmp 11))⟩,⟨(some 6),none,(.mv (.tmp 78))⟩,⟨(some 7),none,(.mv (.const (.int .i64 0)))⟩]) (.seq .ret .skip)))))))))
abbrev fr31:AFR:=⟨[(.reg [⟨(some 6),none,(.mv (.const (.slice none 0 0)))⟩,⟨(some 7),none,(.mv (.const (.int .i64 0)))⟩]),(.reg [⟨(some 15),none,(.mv (.tmp 0))⟩,⟨(some 16),none,(.mv (.tmp 1))⟩,⟨(some 17),none,(.mv (.tmp 2))⟩,⟨(some 18),none,(.call (.func 86) [(.tmp 15),(.tmp 16),(.tmp 17)])⟩,⟨(some 8),none,(.mv (.tmp 18))⟩]),(.reg [⟨(some 19),none,(.mv (.tmp 8))⟩,⟨(some 20),none,(.bin .neq (.tmp 19) (.const (.int .i64 0)))⟩]),(.cond (.tmp 20) (.seq (.reg [⟨(some 21),none,(.mv (.tmp 8))⟩,⟨(some 6),none,(.mv (.const (.slice none 0 0)))⟩,⟨(some 7),none,(.mv (.tmp 21))⟩]) .ret) .skip),(.reg [⟨(some 9),none,(.new 140 1 [(.sl 0 0 true [])])⟩]),(.reg [⟨(some 22),none,(.mv (.tmp 0))⟩,⟨(some 23),none,(.mv (.tmp 1))⟩,⟨(some 24),none,(.call (.func 87) [(.tmp 22),(.tmp 23)])⟩])],(.tmp 24),#[25],c31a,c31b,c31q,[(.tmp 6),(.tmp 7)],79⟩
theorem k31:ZhC Tryz.prog 31=some fr31:=by kernel_rfl
theorem turns_ne {l:List Rul}{nm:ByteArray}(h : ∀ r∈l,Zbw r=0) (hn : ∃ r∈l,r.1=nm):Zbf l nm≠[]:=by
 obtain⟨r,hr,e⟩:=hn
 have h1:=ZgZ (h r hr)
 obtain⟨_,q2,_⟩:=Zcn (h r hr)
 intro hE
 have:Zc9 r=[]:=by
  unfold Zbf at hE
  rw[List.flatMap_eq_nil_iff] at hE
  have:=hE r hr
  rwa [if_pos e] at this
 rw[this] at h1
 simp at h1
 have q2:r.2.1≤r.2.2.1:=q2
 have h2:(0:Int)=r.2.2.1-r.2.1+1:=h1
 omega
abbrev timT (N:Nat) (l:List Rul) (nm:ByteArray) (sh:Int) (x:AV):List AV:=[.sl l.length 11 false (rows rulC l),sv nm,iv sh,.any,.any,.any,.any,.any,.any,.ptr (N+0) 0 0,.any,.any,.any,.any,.any,.any,.any,.any,.any,.any,.any,.any,.any,.any,.clo (.func 159) [.rp [.sl l.length 11 false (rows rulC l)],.rp [sv nm]],x,.any,.any,.any,.any,.any,.any,.any,.any,.any,.any,.any,.any,.any,.any,.any,.any,.any,.any,.any,.any,.any,.any,.any,.any,.any,.any,.any,.any,.any,.any,.any,.any,.any,.any,.any,.any,.any,.any,.any,.any,.any,.any,.any,.any,.any,.any,.any,.any,.any,.any,.any,.any,.any]
abbrev timH (h:AH) (D l N:Nat) (o:Obj) (T:List AV) (vs:List Value) (d:List Trn):AH:=h++[.mk 0 140 1 [.own (N+1) d.length d.length],.mk d.length 144 12 (rows trnC d),mkD D,.raw l o T vs]
abbrev timJ (h:AH) (D l N:Nat) (o:Obj) (T:List AV) (vs:List Value) (d:List Trn) (e f:Ent):AH:=h++[.mk 0 140 1 [.own (N+1) d.length d.length],.mk d.length 144 12 (rows trnC d),mkD D,.raw l o T vs,e,f]
theorem Zpa {n:Nat} : ∀ {a b:List AV},AV.ltL n (a++b)=(AV.ltL n a&&AV.ltL n b)
 | [],b=>by simp[AV.ltL]
 | c::a,b=>by simp[AV.ltL,Zpa (a:=a) (b:=b),Bool.and_assoc]
theorem ZrO {h:AH}{D l N:Nat}{o:Obj}{T:List AV}{vs:List Value}{d:List Trn}{e f:Ent}:timH h D l N o T vs d++[e,f]=timJ h D l N o T vs d e f:=by simp
abbrev timK (P:Program) (lp N D:Nat) (rdy bsy fin:Obj) (l:List Rul) (nm:ByteArray) (sh:Int) (vs:List Value):Prop:=Zlm P fr31 (N+2+1) lp rdy bsy fin (timT N l nm sh .any) vs
theorem timT_lt {N:Nat}{l:List Rul}{nm:ByteArray}{sh:Int}:AV.ltL (N+4) (timT N l nm sh .any)=true:=by simp[AV.ltL,AV.lt,Zbj]
theorem timH_lt {h:AH}{D lp N:Nat}{o:Obj}{l:List Rul}{nm:ByteArray}{sh:Int}{vs:List Value}(hlt : ∀ e∈h,e.lt N=true) (d:List Trn) : ∀ e∈timH h D lp N o (timT N l nm sh .any) vs d,e.lt (N+4)=true:=by
 intro e he
 rcases List.mem_append.1 he with he | he
 ·exact ltw om hlt e he
 simp only[List.mem_cons,List.not_mem_nil,or_false] at he
 rcases he with rfl | rfl | rfl | rfl
 ·simp[Ent.lt,AV.ltL,AV.lt]
 ·simp[Ent.lt,ZlE]
 ·simp[Ent.lt,AV.ltL]
 simpa [Ent.lt] using timT_lt
theorem app62 {h:AH}{a b c d e f p q:Ent}:h++[a,b,c,d,e,f,p,q]=(h++[a,b,c,d,e,f])++[p,q]:=by simp
theorem Zni {h:AH}{lp N D:Nat}{rdy bsy fin:Obj}{l:List Rul}{nm:ByteArray}{sh:Int}{vs:List Value}(hn:h.length=N) (hlt : ∀ e∈h,e.lt N=true) (hY:timK Tryz.prog lp N D rdy bsy fin l nm sh vs) {d:List Trn}{t:Trn}{e f:Ent}(hd:d.length<10000) :
  AYield Tryz.prog lp [.agg (trnC t)] (timJ h D lp N rdy (timT N l nm sh .any) vs d e f) fun r h''=>r=.ret (.v (.bool true))∧h''=timJ h D lp N rdy (timT N l nm sh .any) vs (d++[t]) e f:=by
 refine y_go hY (hga (k:=3) hn rfl) rfl fun n0 hn0 hlt0 q1 q2 q3=>?_
 obtain⟨a,n,fr,tt,m,⟨kd,wk,dn⟩,at_,ck,sv_,lt⟩:=t
 show aw _ _ c31a _ _ _
 show aw _ _ _ _ (timT N l nm sh (.agg (trnC (a,n,fr,tt,m,(kd,wk,dn),at_,ck,sv_,lt)))) (h++[.mk 0 140 1 [.own (N+1) d.length d.length],.mk d.length 144 12 (rows trnC d),mkD D,.raw lp rdy (timT N l nm sh .any) vs,e,f])
 refine Zav<|E' (ZaV (hl6 hn) ha6) pt<|E' (Zak lk cv gx rfl (nb' rfl) rfl Zjf (hs6 hn)) ptn<|Zas<|?_
 refine ZtG (i:=N+3) gx (hs3 hn) fun n1 hn1 hlt1=>?_
 show aw _ _ c31b _ _ _
 refine Zap<|Zav<|Vw (Zac lk gx gt0)<|Vw (Zan lk gx ZoE rfl)<|E' (Zdm (Zm0 cv rfl) (hl7 hn) ha7) pt<|?_
 refine E' (Zdn (Zcs lk gx rfl Zrg (nb' rfl)) lk gx (trn_len _) om rfl (hs1 hn)) pt ?_
 refine E' (Zak lk cv gx rfl (nb' rfl) rfl Zrh (hs0 hn)) ptn<|Zas<|Zaz<|?_
 refine ZiV (i:=N+3) gx (hs3 hn) ?_
 refine⟨_,_,app62,?_,fun x hx=>?_,rfl,rfl,?_⟩
 ·rw[←hn0];simp
 ·have hm:n0=N+6:=by rw[←hn0];simp[hn]
  subst hm
  rcases List.mem_append.1 hx with hx | hx
  ·exact ltw om hlt x hx
  simp only[List.mem_cons,List.not_mem_nil,or_false] at hx
  rcases hx with rfl | rfl | rfl | rfl | rfl | rfl
  ·simp[Ent.lt,AV.ltL,AV.lt]
  ·simp[Ent.lt,ZlE,Zpa,AV.ltL,AV.lt]
  ·simp[Ent.lt,AV.ltL]
  ·exact hlt0 _ (by simp)
  ·exact hlt0 _ (by simp)
  exact hlt0 _ (by simp)
 unfold timJ;rw[ZaZ,Zbi,List.length_append];rfl
theorem sortT_b {h:AH}{N:Nat}{a:Ent}{l:AH}{v ty:Nat}{S:List Trn}(hn:h.length=N) (hl:S≠[]) (hz:S.length<4611686018427387904) :
  ACalls Tryz.prog 88 [.own (N+1) v S.length,.v (.func (.func 89) #[] #[])] (h++(a::.mk v ty 12 (rows trnC S)::l)) fun x h'=>x=.ret (.tup []) ∧ ∃ S',ordT S S'∧h'=h++(a::.mk v ty 12 (rows trnC S')::l):=by
 refine (sortT_a (hga (k:=1) hn rfl) hl hz).mono ?_
 rintro x h' ⟨rfl,S',h1,rfl⟩
 exact⟨rfl,S',h1,hs1 hn⟩
theorem gapB_pre {l:List Trn}{i:Nat}(h:i<l.length) (h0:0<i) (hg:l[i].1-(l[i-1]'(by omega)).1<172800):gapB l=true:=by
 obtain⟨i,rfl⟩ : ∃ i0,i=i0+1:=⟨i-1,by omega⟩
 exact Zs3 h hg
theorem gap_ok {S:List Trn}{i:Nat}(hi : ∀ j (h:j+1<S.length),j+1<i→172800≤S[j+1].1-S[j].1) (hl:S.length≤i):gapB S=false:=(Zk0 S).2 fun j h=>hi j h om
theorem ZpO {h:AH}{lp N D n0:Nat}{o:Obj}{l:List Rul}{nm:ByteArray}{sh:Int}{vs:List Value}(hn:h.length=N) (hlt : ∀ e∈h,e.lt N=true) (hr0:ZdH l nm sh=0) (hn0:N+4=n0) :
  aw Tryz.prog n0 c31q (Ze0 fr31.res (N+2) D fun x h' => ∃ z,h'=h++z∧x.lt N=true ∧ ∃ c,x=.ret c∧Wk c (.tup [.sl (Zbc l nm sh).1.length 3 false (rows timC (Zbc l nm sh).1),iv (Zbc l nm sh).2])) (timT N l nm sh .any)
   (h++[.mk 0 140 1 [.own (N+1) (Zbf l nm).length (Zbf l nm).length],.mk (Zbf l nm).length 144 12 (rows trnC (Zbf l nm)),mkD D,.gone]):=by
 obtain⟨g1,g2,g3,g4⟩:=Zgk hr0
 have hne:=turns_ne g2 g4
 have htl:=Zh7 (nm:=nm) g2
 have htO : ∀ t∈Zbf l nm,Zbw t.2=0 ∧ -2592000000≤t.1∧t.1≤4320172800:=fun t ht=>ZkC g2 ht
 subst hn0
 show aw _ _ c31q _ _ _
 refine wr'<|Vw (Zac lk gx gt0)<|?_
 refine s_callE mp (sortT_b hn hne om) pt ?_
 rintro S hS
 have hSl:=hS.1.length_eq
 have hSO : ∀ t∈S,Zbw t.2=0 ∧ -2592000000≤t.1∧t.1≤4320172800:=fun t ht=>htO t (hS.1.mem_iff.1 ht)
 have hTV:=ZoS (sh:=sh) hr0 hS.1 hS.2
 rw[←hSl]
 refine sn'<|wr'<|mv' lkn pt11<|Zas<|Za5 (ALe.own0' (st':=3) (ty:=136) gt11 (hl4 hn) pt11 ha4)<|wr'<|mv' lki pt12<|sn'<|wr'<|?_
 refine Vw (Zac lk gx gt0)<|Vw (ZcW lk)<|mw<|sn'<|Zam<|Zap<|?_
 refine w_lp (ι:=Nat) (fun (i:Nat)=>[(11,.own (N+4) i (outV sh 0 (S.take i)).length),(12,iv (svAt S i)),(34,iv (i:Int)),(6,.any),(7,.any),(13,.any),(14,.any)]++rn' 35 40) (fun (i:Nat)=>[(4,.mk i 136 3 (rows timC (outV sh 0 (S.take i))))]) (fun (i:Nat)=>i≤S.length ∧ ∀ j (h:j+1<S.length),j+1<i→172800≤S[j+1].1-S[j].1) (fun (i:Nat)=>S.length-i) (0) (by exact⟨Nat.zero_le _,fun j _ h=>by omega⟩) ?_
 rintro i hi1
 try simp only[sm',Nat.reduceAdd]
 obtain⟨hi1,hi2⟩:=hi1
 refine wr'<|Vw (Zbb lk lk)<|sn'<|Zam<|?_
 refine cd' lk (fun hc1=>?_) (fun hc1=>?_)
 ·have hi:i<S.length:=by omega
  obtain⟨hb0,hb1⟩:=hSO _ (List.getElem_mem hi)
  have hsv:=svAt_bd (i:=i) fun t ht=>(hSO t ht).1
  have hoff:=Zsy (r:=S[i].2) g3 hsv
  have hol2:(outV sh 0 (S.take (i+1))).length=i+1:=by rw[Zgn,List.length_take];omega
  have hol:(outV sh 0 (S.take i)).length=i:=by rw[Zgn,List.length_take];omega
  refine Zaf<|Zah<|Zam<|Zap<|wr'<|mw<|?_
  refine V' (ZlC lk lk gx Zgb (nb' rfl) ro om (by first | rfl | (simp;done) | omega)) pt ?_
  refine V' (v_ldOR lk gx Zgb om rfl) pt ?_
  refine E' (ZaV (hl5 hn) ha5) pt<|mw<|E' (Zak lk cv gx rfl (nb' rfl) rfl Zjf (hs5 hn)) ptn<|sn'<|Zam<|Zam<|ZbZ<|Dw (v_mv lk)<|Dw (ZbD lk lki)<|Dw (v_mv lk)<|?_
  refine dq' (t:=41) gt pt pt (fun hg41=>?_) (fun hg41=>?_)
  ·obtain⟨hb3,hb4⟩:=hSO _ (List.getElem_mem (show i-1<S.length by omega))
   refine d_do gt<|Dw (Zab lk)<|d_do gt<|Dw (Zac lk gx gt0)<|d_do gt<|Dw (Zac lk gx gt0)<|d_do gt<|Dw (v_mv lk)<|d_do gt<|?_
   refine D' (Zbt lk lki om om) pt ?_
   refine d_do gt ?_
   refine D' (ZlC (k:=i-1) lk lk gx Zgb (nb' rfl) ro om (by first | rfl | (simp;done) | omega)) pt ?_
   refine d_do gt<|Dw (ZbN lk)<|d_do gt<|?_
   refine D' (v_ldOF lk gx Zgb om (nb' rfl) gt0) pt ?_
   refine d_do gt ?_
   refine D' (Zbt lk lk om om) pt ?_
   refine d_do gt<|Dw (Zbb lk lki)<|Dw (Zag lk lk)<|ZbI<|?_
   refine Zch ?_
   refine sn' ?_
   refine cd' lk (fun hc2=>?_) (fun hc2=>?_)
   ·have hG:gapB S=true:=gapB_pre hi om hc2
    refine wr'<|mw<|mw<|sn'<|Zaa<|Zai<|Zaq<|Zai<|Zai<|Zaq<|Zai<|?_
    refine ZdU gx (hs2 hn) ry ?_
    refine rtW' ?_
    rw[hTV,if_pos hG];exact Wk.tup (wkw Wk.nilF (wk1 rfl wk0))
   refine Zaf<|Zah<|Zam<|ZbZ<|Dw (v_mv lk)<|Dw (Zab lk)<|Dw (Zac lk gx gt0)<|Dw (Zab lk)<|Dw (Zan lk gx Zje rfl)<|Dw (v_mv lk)<|Dw (v_mv lk)<|?_
   refine ZaY mp (fun hE hX=>off_a g3 hsv) pt ?_
   refine D' (Zbt lk lk om om) pt ?_
   refine Dw (Zab lk)<|Dw (ZbN lk)<|Dw (Zac lk gx gt10)<|Dw (Zab lk)<|Dw (ZbN lk)<|Dw (Zac lk gx gt11)<|Dw (Zau (ZgP cv rfl cv rfl cv rfl))<|ZmE rfl rfl (hlk hn rfl) (l_lit (ZgO cv rfl)) pt ZmZ<|ZbI<|?_
   refine ZnZ Zkv ?_
   refine E' (Zdn (Zcs lk gx rfl ZmY (nb' rfl)) lk gx (ZkF _) om rfl (hs4 hn)) pt ?_
   refine mw<|sn'<|Zav<|Vw (Zab lk)<|Vw (ZbN lk)<|Vw (Zac lk gx gt10)<|mw<|Zas<|Zaz<|Zah<|Zav<|?_
   refine V' (Zay lk lki om om) pt ?_
   refine mw<|Zas<|ZaB<|?_
   refine lU' (i+1) (by (try dsimp only);exact⟨by omega,fun j hj h=>by by_cases e:j+1=i;(subst e;(try simp only[Nat.add_sub_cancel] at hc2);omega);exact hi2 j hj om⟩) (by (try dsimp only);(try simp only[sm',Nat.reduceAdd]);exact bkE' 5 hn hlt (by repeat (first | exact wk0 | refine wka ?_ | refine wk1 rfl ?_ | refine wk1 (by first | rfl | exact ivx om | (rw[hol2,hol];done) | (rw[hol2,hol]) | (rw[Zik hi])) ?_)) (by rw[Zmd hi,ZaZ,Zbi];rfl))
  refine d_no gt pt<|d_no gt pt<|d_no gt pt<|d_no gt pt<|d_no gt pt<|d_no gt pt<|d_no gt pt<|d_no gt pt<|d_no gt pt<|d_no gt pt<|Dw (Zaj lk lkb)<|ZbI<|?_
  refine Zch ?_
  refine sn'<|ZaM lk<|Zaf<|Zah<|Zam<|ZbZ<|Dw (v_mv lk)<|Dw (Zab lk)<|Dw (Zac lk gx gt0)<|Dw (Zab lk)<|Dw (Zan lk gx Zje rfl)<|Dw (v_mv lk)<|Dw (v_mv lk)<|?_
  refine ZaY mp (fun hE hX=>off_a g3 hsv) pt ?_
  refine D' (Zbt lk lk om om) pt ?_
  refine Dw (Zab lk)<|Dw (ZbN lk)<|Dw (Zac lk gx gt10)<|Dw (Zab lk)<|Dw (ZbN lk)<|Dw (Zac lk gx gt11)<|Dw (Zau (ZgP cv rfl cv rfl cv rfl))<|ZmE rfl rfl (hlk hn rfl) (l_lit (ZgO cv rfl)) pt ZmZ<|ZbI<|?_
  refine ZnZ Zkv ?_
  refine E' (Zdn (Zcs lk gx rfl ZmY (nb' rfl)) lk gx (ZkF _) om rfl (hs4 hn)) pt ?_
  refine mw<|sn'<|Zav<|Vw (Zab lk)<|Vw (ZbN lk)<|Vw (Zac lk gx gt10)<|mw<|Zas<|Zaz<|Zah<|Zav<|?_
  refine V' (Zay lk lki om om) pt ?_
  refine mw<|Zas<|ZaB<|?_
  refine lU' (i+1) (by (try dsimp only);exact⟨by omega,fun j hj h=>by by_cases e:j+1=i;(subst e;(try simp only[Nat.add_sub_cancel] at hc2);omega);exact hi2 j hj om⟩) (by (try dsimp only);(try simp only[sm',Nat.reduceAdd]);exact bkE' 5 hn hlt (by repeat (first | exact wk0 | refine wka ?_ | refine wk1 rfl ?_ | refine wk1 (by first | rfl | exact ivx om | (rw[hol2,hol];done) | (rw[hol2,hol]) | (rw[Zik hi])) ?_)) (by rw[Zmd hi,ZaZ,Zbi];rfl))
 have hie:i=S.length:=by omega
 subst hie
 rw[List.take_length]
 have hG:gapB S=false:=gap_ok hi2 (Nat.le_refl _)
 rw[if_neg (by rw[hG];simp)] at hTV
 have hol:=Zgn S sh 0
 refine ZaQ<|ZaD<|ZaD<|Zba<|Zah<|wr'<|mw<|Vw (ZcW lk)<|Vw (ZbD lk lki)<|sn'<|Zam<|?_
 refine cd' lk (fun hc3=>?_) (fun hc3=>?_)
 ·refine wr'<|mw<|mw<|sn'<|Zaa<|Zai<|?_
  refine ZdU gx (hs2 hn) ry ?_
  refine rtW' ?_
  rw[hTV,if_pos om];exact Wk.tup (wkw Wk.nilF (wk1 rfl wk0))
 refine Zaf ?_
 refine Za5 (ALe.iceR gx gt11 (List.take_of_length_le (by rw[ZkF];exact Nat.le_refl _)) (by rw[ZkF];exact Nat.le_refl _) pt11 (hs4 hn)) ?_
 refine wr'<|mw<|mw<|mw<|sn'<|Zam<|Zaa<|Zai<|?_
 refine ZdU gx (hs2 hn) ry ?_
 refine rtW' ?_
 rw[hTV,if_neg om];exact Wk.tup (wkw Wk.full (wk1 rfl wk0))
theorem ZpP {h:AH}{lp N D:Nat}{rdy bsy fin:Obj}{l:List Rul}{nm:ByteArray}{sh:Int}{vs:List Value}(hn:h.length=N) (hlt : ∀ e∈h,e.lt N=true) (hr0:ZdH l nm sh=0) (hY:timK Tryz.prog lp N D rdy bsy fin l nm sh vs) {R:AE→AH→Prop}
    (hR:R=fun x h' => ∃ z,h'=h++z∧x.lt N=true ∧ ∃ c,x=.ret c∧Wk c (.tup [.sl (Zbc l nm sh).1.length 3 false (rows timC (Zbc l nm sh).1),iv (Zbc l nm sh).2])) :
    ACalls Tryz.prog 159 (.v (.func (.yield lp) #[] #[])::[.rp [.sl l.length 11 false (rows rulC l)],.rp [sv nm]]) (timH h D lp N rdy (timT N l nm sh .any) vs []) fun r h3=>(∃ c,r=.ret c) ∧
      ((h3[N+2+1]?=some (.raw lp rdy (timT N l nm sh .any) vs) ∧ ∀ n0,(h3.set (N+2+1) .gone).length=n0→(∀ e∈h3.set (N+2+1) .gone,e.lt n0=true)→aw Tryz.prog n0 fr31.post (Ze0 fr31.res (N+2) D R) (timT N l nm sh .any) (h3.set (N+2+1) .gone)) ∨
       (h3[N+2+1]?=some (.raw lp fin (timT N l nm sh .any) vs)∧Ze0 fr31.res (N+2) D R .ret (timT N l nm sh .any) (h3.set (N+2+1) .gone))):=by
  obtain⟨g1,g2,g3,g4⟩:=Zgk hr0
  have htl:=Zh7 (nm:=nm) g2
  refine (turns1_a (H:=timH h D lp N rdy (timT N l nm sh .any) vs) g2 g1 (fun d=>hl4 hn) (timH_lt hlt) (fun d t e f hd=>?_)).mono ?_
  · rw[ZrO,ZrO]
    exact Zni hn hlt hY om
  rintro x h3 ⟨rfl,rfl⟩
  refine⟨⟨_,rfl⟩,.inl ⟨hga (k:=3) hn rfl,fun n0 hn0 _=>?_⟩⟩
  have hs:(timH h D lp N rdy (timT N l nm sh .any) vs (Zbf l nm)).set (N+2+1) .gone=h++[.mk 0 140 1 [.own (N+1) (Zbf l nm).length (Zbf l nm).length],.mk (Zbf l nm).length 144 12 (rows trnC (Zbf l nm)),mkD D,.gone]:=hs3 hn
  rw[hs] at hn0 ⊢
  subst hR
  exact ZpO (o:=rdy) (lp:=lp) (vs:=vs) hn hlt hr0 ((hl4 hn).symm.trans hn0)
theorem ZrL {l:List Rul}{nm:ByteArray}{sh:Int}{h:AH}(hok:okRs l) (hl:l.length≤9223372036854775807) :
  Ac 31 [.sl l.length 11 false (rows rulC l),sv nm,iv sh] h (.tup [.sl (Zbc l nm sh).1.length 3 false (rows timC (Zbc l nm sh).1),iv (Zbc l nm sh).2]):=by
 refine ACalls.weak (tR' k31 fun N hn hlt hlA hbd=>?_)
 show aw _ _ c31p _ _ _
 show aw _ _ _ _ [.sl l.length 11 false (rows rulC l),sv nm,iv sh,.any,.any,.any,.any,.any,.any,.any,.any,.any,.any,.any,.any,.any,.any,.any,.any,.any,.any,.any,.any,.any,.any,.any,.any,.any,.any,.any,.any,.any,.any,.any,.any,.any,.any,.any,.any,.any,.any,.any,.any,.any,.any,.any,.any,.any,.any,.any,.any,.any,.any,.any,.any,.any,.any,.any,.any,.any,.any,.any,.any,.any,.any,.any,.any,.any,.any,.any,.any,.any,.any,.any,.any,.any,.any,.any,.any] _
 refine wr'<|mw<|mw<|sn'<|wr'<|mw<|mw<|mw<|Zad mp (ready_a hok hl) pt<|mw<|Zas<|?_
 refine Zah<|wr'<|mw<|Vw (ZaT lk lki)<|sn'<|Zam<|?_
 refine cd' lk (fun hc1=>?_) (fun hc1=>?_)
 ·refine wr'<|mw<|mw<|mw<|sn'<|Zaa<|Zai<|?_
  refine Ziv ry ?_
  refine rtW' ?_
  rw[ZlH hc1];exact Wk.tup (wkw Wk.nilF (wk1 rfl wk0))
 refine Zaf<|Zah<|wr'<|E' (ZaV (hl0 hn) ha0) pt<|Zas<|?_
 refine Za5 (ALe.own0Cell (st':=12) (ty:=144) gx gt0 (hl1 hn) pt0 (Eq.trans (congrArg (fun z=>List.set z _ _) ha1) (hs0 hn))) ?_
 refine wr'<|mw<|mw<|Zad mp (turns_a) pt<|sn'<|Zaf<|?_
 refine Zsn (T1:=timT N l nm sh .any) (ALe.same wA' rfl) rfl (hl2 hn) fun lp D rdy bsy fin vs hle hlT hY=>?_
 have hgo:=ZpP (D:=D) hn hlt (Decidable.of_not_not hc1) hY rfl
 rw[show (h++[Ent.mk 0 140 1 [.own (N+1) 0 0],Ent.mk 0 144 12 []]++[mkD D,Ent.raw lp rdy (timT N l nm sh .any) vs]:AH)=timH h D lp N rdy (timT N l nm sh .any) vs [] by simp[rows]]
 exact hgo
end Go.Proofs.YtlekejpogddndaaGreatDoor
end
section
namespace Go.Proofs.YtlekejpogddndaaGreatDoor
open Go.Ab Go.RowKit Civ
attribute [local simp] Zbj Zby Zbs Zbv Zb3 Zdd
section
theorem ZtV {a0 a1 a2:AV}{l:List AV}:(a0::a1::a2::l).take 3=[a0,a1,a2]:=rfl
theorem ZqL {a0 a1 a2 a3 a4 a5 a6 a7 a8 a9:AV}{l:List AV}:(a0::a1::a2::a3::a4::a5::a6::a7::a8::a9::l).take 10=[a0,a1,a2,a3,a4,a5,a6,a7,a8,a9]:=rfl
theorem Zov {a0 a1 a2 a3 a4 a5 a6 a7 a8 a9 c0 c1 c2 c3 c4 c5 c6 c7 c8 c9:AV}{l:List AV}:setCells (a0::a1::a2::a3::a4::a5::a6::a7::a8::a9::l) 0 [c0,c1,c2,c3,c4,c5,c6,c7,c8,c9]=c0::c1::c2::c3::c4::c5::c6::c7::c8::c9::l:=rfl
theorem ZqM {a0 a1 a2 a3 a4 a5 a6 a7:AV}{l:List AV}:((a0::a1::a2::a3::a4::a5::a6::a7::l).drop 5).take 3=[a5,a6,a7]:=rfl
theorem ZhE {τ:Operand→AV}{y0:Operand}{x0_0:AV}(h0:Zat (τ y0)=some [x0_0]) (l0:[x0_0].all leaf=true):Zar τ [(0,1,y0)] [(.v (.int .i64 0))]=some [x0_0]:=by
 simp only[Zar,h0,l0]
 rfl
theorem ZmR {a0:AV}{l:List AV}:(a0::l).take 1=[a0]:=rfl
theorem ZqN {a0 a1:AV}{l:List AV}:((a0::a1::l).drop 0).take 2=[a0,a1]:=rfl
theorem ZqP {a0 c0:AV}{l:List AV}:setCells (a0::l) 0 [c0]=c0::l:=rfl
theorem Zhk {a0 a1 a2:AV}{l:List AV}:((a0::a1::a2::l).drop 0).take 3=[a0,a1,a2]:=rfl
theorem Zll {τ:Operand→AV}{y0 y1 y2:Operand}{x0_0 x1_0 x2_0:AV}(h0:Zat (τ y0)=some [x0_0]) (l0:[x0_0].all leaf=true) (h1:Zat (τ y1)=some [x1_0]) (l1:[x1_0].all leaf=true) (h2:Zat (τ y2)=some [x2_0]) (l2:[x2_0].all leaf=true):Zar τ [(0,1,y0),(1,1,y1),(2,1,y2)] [(.v (.int .i64 0)),(.v (.int .i64 0)),(.v (.string ⟨#[]⟩))]=some [x0_0,x1_0,x2_0]:=by
 simp only[Zar,h0,l0,h1,l1,h2,l2]
 rfl
theorem ZqO {a0 a1 a2 c0 c1 c2:AV}{l:List AV}:setCells (a0::a1::a2::l) 0 [c0,c1,c2]=c0::c1::c2::l:=rfl
end
def c280:AC:=(Sr [Oo 2 (.box 53 2 (.tmp 0)),Mb 3 false] (Sr [Fa 4 0 2,Ld 5 4,Ld 6 1,Bn 7 .eql 5 6,Mv 3 7] .ret))
theorem k280:ZaA Tryz.prog 280=some ⟨c280,[(.tmp 3)],8⟩:=by kernel_rfl
def c215:AC:=(Sr [Oo 2 (.box 26 3 (.tmp 0)),Oo 3 (.box 9 1 (.tmp 1)),Mc 4 0] (Sr [Fa 5 1 2,Ld 6 5,Oo 7 (.mkfn 280 [(.tmp 3)]),Cl 8 218 [(.tmp 6),(.tmp 7)],Mv 4 8] .ret))
theorem k215:ZaA Tryz.prog 215=some ⟨c215,[(.tmp 4)],9⟩:=by kernel_rfl
def c219:AC:=(Sr [Oo 2 (.box 129 2 (.tmp 0)),Mb 3 false] (Sr [Fa 4 1 2,Ld 5 4,Ld 6 1,Bn 7 .eql 5 6,Mv 3 7] .ret))
theorem k219:ZaA Tryz.prog 219=some ⟨c219,[(.tmp 3)],8⟩:=by kernel_rfl
def c139:AC:=(Sr [Oo 2 (.box 26 3 (.tmp 0)),Oo 3 (.box 9 1 (.tmp 1)),Mc 4 0] (Sr [Fa 6 2 2,Ld 7 6,Oo 8 (.mkfn 219 [(.tmp 3)]),Cl 9 171 [(.tmp 7),(.tmp 8)],Mv 5 9] (.seq (Sr [Mv 10 5,Bc 11 .geq 10 0] (Cd 11 (.reg [Fa 12 2 2,Ld 13 12,Mv 14 5,Oo 15 (.ia 2 (.tmp 13) (.tmp 14)),Fa 16 0 15,Ld 17 16,Sc 3 17]) .skip)) (Sr [Oo 18 (.load true 3 (.tmp 2)),Ld 19 3,Cl 20 215 [(.tmp 18),(.tmp 19)],Mv 4 20] .ret))))
theorem k139:ZaA Tryz.prog 139=some ⟨c139,[(.tmp 4)],21⟩:=by kernel_rfl
def c214:AC:=(Sr [Oo 2 (.box 129 2 (.tmp 0)),Mb 3 false] (Sr [Oo 4 (.load true 3 (.tmp 1)),Fa 5 0 2,Ld 6 5,Cl 7 215 [(.tmp 4),(.tmp 6)],Bc 8 .lss 7 0,Mv 3 8] .ret))
theorem k214:ZaA Tryz.prog 214=some ⟨c214,[(.tmp 3)],9⟩:=by kernel_rfl
def c216:AC:=(Sr [Oo 2 (.box 36 11 (.tmp 0)),Mb 3 false] (Sr [Fa 4 0 2,Ld 5 4,Fa 6 1 1,Ld 7 6,Bn 8 .eql 5 7,Mv 3 8] .ret))
theorem k216:ZaA Tryz.prog 216=some ⟨c216,[(.tmp 3)],9⟩:=by kernel_rfl
def c131:AC:=(Sr [Oo 1 (.box 53 2 (.tmp 0)),Oo 2 (.mv (.const (.slice none 0 0)))] (Sr [Oo 3 (.mv (.const (.slice none 0 0)))] (.seq (Sr [Fa 7 1 1,Ld 8 7,Oo 9 (.len false (.tmp 8)),Mc 10 0] (.block 0 (.loop (Sr [Bn 11 .lss 10 9] (.seq (Cd 11 .skip (.exit 0)) (.seq (.block 1 (Sr [Oo 12 (.ia 10 (.tmp 8) (.tmp 10)),Oo 13 (.load true 10 (.tmp 12)),Oo 5 (.new 63 10 [(iv 0),Ss,(iv 0),Ss,(.v (.bool false)),(iv 0),(iv 0),(iv 0),(iv 0),(iv 0)]),⟨none,none,(.store 10 (.tmp 5) (.tmp 13))⟩] (.seq (Sr [Fa 14 4 5,Ld 15 14] (Cd 15 (.exit 0) .skip)) (Sd [Fa 16 5 5,Fa 17 0 16,Oo 18 (.load true 3 (.tmp 17)),Cl 19 98 [(.tmp 18)],Bc 20 .mul 19 86400,Fa 21 5 5,Fa 22 3 21,Ld 23 22,Bn 24 .add 20 23,Mv 6 24] (.seq (Sr [Fa 25 5 5,Fa 26 4 25,Ld 27 26,Bc 28 .eql 27 2] (Cd 28 (.reg [Mv 29 6,Fa 30 0 5,Ld 31 30,Bn 32 .sub 29 31,Mv 6 32]) .skip)) (.reg [Mv 33 3,Mv 34 6,Oo 35 (.lit 3 1 1 [(iv 0)] [(0,(1,(.tmp 34)))]),Oo 36 (.app 3 1 8 (.tmp 33) (.tmp 35)),Mv 3 36])))))) (.reg [Bc 37 .add 10 1,Mv 10 37]))))))) (Sr [Mv 38 3,Mv 2 38] .ret))))
theorem k131:ZaA Tryz.prog 131=some ⟨c131,[(.tmp 2)],39⟩:=by kernel_rfl
def c138:AC:=(Sr [Mb 2 false] (.seq (Sr [Mc 3 1] (.block 0 (.loop (.seq (Sr [Mv 4 3,Mv 5 0,Oo 6 (.len false (.tmp 5)),Bn 7 .lss 4 6] (Cd 7 .skip (.exit 0))) (.seq (.block 1 (Sd [Mv 10 0,Mv 11 3,Oo 12 (.ia 1 (.tmp 10) (.tmp 11)),Ld 13 12,Mv 14 0,Mv 15 3,Bc 16 .sub 15 1,Oo 17 (.ia 1 (.tmp 14) (.tmp 16)),Ld 18 17,Bn 19 .leq 13 18] (Cd 19 (Sr [Mb 2 false] .ret) .skip))) (.reg [Mv 8 3,Bc 9 .add 8 1,Mv 3 9])))))) (Sr [Mb 2 true] .ret)))
theorem k138:ZaA Tryz.prog 138=some ⟨c138,[(.tmp 2)],20⟩:=by kernel_rfl
def c137:AC:=(Sr [Oo 1 (.box 53 2 (.tmp 0)),Mb 2 false] (Sr [Oo 3 (.load true 2 (.tmp 1)),Cl 4 131 [(.tmp 3)],Cl 5 138 [(.tmp 4)],Oo 6 (.un .not (.tmp 5)),Mv 2 6] .ret))
theorem k137:ZaA Tryz.prog 137=some ⟨c137,[(.tmp 2)],7⟩:=by kernel_rfl
def c135:AC:=(Sr [Oo 1 (.box 26 3 (.tmp 0)),Oo 2 (.mv (.const .nilFunc))] (Sr [Oo 3 (.mkfn 217 [(.tmp 1)]),Mv 2 3] .ret))
theorem k135:ZaA Tryz.prog 135=some ⟨c135,[(.tmp 2)],4⟩:=by kernel_rfl
def c281:AC:=(Sr [Ms 6] (Sr [Mv 11 0,Oo 12 (.call (.func 320) [(.tmp 11),(.const (.string ⟨#[47]⟩))]),Mv 10 12,Ex 13 10 0,Ex 14 10 1,Ex 15 10 2,Mv 7 13,Mv 8 14,Mv 9 15] (.seq (.block 0 (Sr [Mv 17 9,Oo 18 (.un .not (.tmp 17)),Mv 16 18] (Cd 16 (Sr [Mv 19 0,Mv 20 1,Oo 21 (.call (.func 321) [(.tmp 19),(.const (.string ⟨#[37,115]⟩)),(.tmp 20),(Ci 1)]),Mv 6 21] .ret) (Sr [Mv 23 2,Bc 24 .gtr 23 0,Mv 22 24] (Cd 22 (Sr [Mv 25 8,Mv 6 25] .ret) .skip))))) (Sr [Mv 26 7,Mv 6 26] .ret))))
theorem k281:ZaA Tryz.prog 281=some ⟨c281,[(.tmp 6)],27⟩:=by kernel_rfl
def c220:AC:=(Sr [Oo 2 (.box 63 10 (.tmp 0)),Oo 3 (.box 136 3 (.tmp 1)),Oo 4 (.new 29 3 [(iv 0),(iv 0),Ss])] (.seq (.drw [Fa 5 0 2,Ld 6 5,Fa 7 1 3,Ld 8 7,Bn 9 .add 6 8,Fa 10 1 3,Ld 11 10,Fa 12 3 2,Ld 13 12,Fa 14 2 3,Ld 15 14,Fa 16 1 3,Ld 17 16,Cl 18 281 [(.tmp 13),(.tmp 15),(.tmp 17)],Oo 19 (.build [(iv 0),(iv 0),Ss] [(0,(1,(.tmp 9))),(1,(1,(.tmp 11))),(2,(1,(.tmp 18)))])] [false] [⟨none,none,(.store 3 (.tmp 4) (.tmp 19))⟩]) .ret))
theorem k220:ZaA Tryz.prog 220=some ⟨c220,[(.cell 4 true 3)],20⟩:=by kernel_rfl
def c222:AC:=(Sr [Oo 2 (.box 121 4 (.tmp 0)),Mb 3 false] (Sr [Fa 4 0 2,Ld 5 4,Ld 6 1,Bn 7 .geq 5 6,Mv 3 7] .ret))
theorem k222:ZaA Tryz.prog 222=some ⟨c222,[(.tmp 3)],8⟩:=by kernel_rfl
def c143:AC:=(Sr [Oo 3 (.box 3 1 (.tmp 1)),Oo 4 (.mv (.const (.slice none 0 0)))] (Sr [Mv 6 0,Oo 7 (.mkfn 222 [(.tmp 3)]),Cl 8 221 [(.tmp 6),(.tmp 7)],Mv 5 8] (.seq (Sr [Mv 9 5,Bc 10 .lss 9 0] (Cd 10 (Sr [Mv 11 0,Mv 4 11] .ret) .skip)) (Sr [Mv 12 0,Mv 13 5,Oo 14 (.slc 4 (.tmp 12) none (some (.tmp 13)) none),Mv 4 14] .ret))))
theorem k143:ZaA Tryz.prog 143=some ⟨c143,[(.tmp 4)],15⟩:=by kernel_rfl
theorem place1_a {nm:ByteArray}{z:Zon}{h:AH}:Ac 280 [.agg (zonC z),.rp [sv nm]] h (bv (decide (z.1=nm))):=by
 refine tI' k280 fun N hn hlt hlA hbd=>?_
 simp only[tb'] at hbd ⊢
 refine wr'<|E' (Zbd cv rfl (hl0 hn) ha0) pt<|mw<|sn'<|wr'<|Vw (Zab lk)<|Vw (Zac lk gx gt0)<|Vw (ZaE lk gt)<|Vw (ZcF lk lk)<|mw<|Zas<|?_
 exact Zah<|Zaa<|Zae rz<|rT' rfl
def Zix (zs:List Zon) (nm:ByteArray):Int:=idxV (fun z:Zon=>decide (z.1=nm)) zs
theorem Znx {a:List Rul}{z:List Zon}{k:List Lnk}{nm:ByteArray}{h:AH}(hz:z.length≤9223372036854775807):Ac 215 [.agg [.sl a.length 11 false (rows rulC a),.sl z.length 2 false (rows zonC z),.sl k.length 2 false (rows lnkC k)],sv nm] h (iv (Zix z nm)):=by
 refine tI' k215 fun N hn hlt hlA hbd=>?_
 simp only[tb'] at hbd ⊢
 refine wr'<|E' (Zbd cv rfl (hl0 hn) ha0) pt<|E' (Zbd cv rfl (hl1 hn) ha1) pt<|mw<|Zas<|?_
 refine Za5 (ALe.icePtr gx gt3 (by simp) pt3 (hs1 hn)) ?_
 refine wr'<|Vw (Zab lk)<|Vw (Zac lk gx gt1)<|Vw (Zf8 mp)<|?_
 refine Zad mp (ixZonC_a (p:=fun z=>decide (z.1=nm)) (fun c _ _=>place1_a) hz) pt ?_
 exact mw<|sn'<|Zaa<|Zae rz<|rT' rfl
theorem miss1_a {a:List Rul}{z:List Zon}{k:List Lnk}{l:Lnk}{h:AH}(hz:z.length≤9223372036854775807):Ac 214 [.agg (lnkC l),.rp [.sl a.length 11 false (rows rulC a),.sl z.length 2 false (rows zonC z),.sl k.length 2 false (rows lnkC k)]] h (bv (decide (Zix z l.1<0))):=by
 refine tI' k214 fun N hn hlt hlA hbd=>?_
 simp only[tb'] at hbd ⊢
 refine wr'<|E' (Zbd cv rfl (hl0 hn) ha0) pt<|mw<|sn'<|wr'<|Vw (ZaI lk ZtV rfl)<|Vw (Zab lk)<|Vw (Zac lk gx gt0)<|Zad mp (Znx hz) pt<|Vw (Zbb lk lki)<|mw<|?_
 exact sn'<|Zaa<|Zae rz<|rT' rfl
theorem ZnX {x:Era}{last:Bool}(h:eraX x last=0):(xRl x≠⟨#[]⟩→Zcv (xRl x)=true)∧ZbO (xFm x)=true∧(-64800≤xSh x∧xSh x≤64800)∧(0≤xSv x∧xSv x≤10800)∧(xRl x≠⟨#[]⟩→xSv x=0)∧xOp x=last ∧
  (xOp x=false→Za2 x.2.2.2.2.2.1.1 x.2.2.2.2.2.1.2.1 x.2.2.2.2.2.1.2.2=true∧0≤x.2.2.2.2.2.2.1∧x.2.2.2.2.2.2.1≤172800):=by
 unfold eraX eraE at h
 split at h
 ·cases h
 rename_i h1
 split at h
 ·cases h
 rename_i h2
 split at h
 ·cases h
 rename_i h3
 split at h
 ·cases h
 rename_i h4
 have p1:xRl x≠⟨#[]⟩→Zcv (xRl x)=true:=fun hn=>Decidable.of_not_not fun e=>h1 (.inl ⟨hn,e⟩)
 have p2:ZbO (xFm x)=true:=Decidable.of_not_not fun e=>h1 (.inr e)
 have p3:=ZbC.1 (Decidable.of_not_not fun e=>h2 (.inl e))
 have p4:=ZbC.1 (Decidable.of_not_not fun e=>h2 (.inr e))
 have p5:xRl x≠⟨#[]⟩→xSv x=0:=fun hn=>Decidable.of_not_not fun e=>h3 ⟨hn,e⟩
 refine⟨p1,p2,p3,p4,p5,Decidable.of_not_not h4,fun ho=>?_⟩
 rw[if_neg (by rw[show x.2.2.2.2.1=false from ho];simp)] at h
 split at h
 ·cases h
 rename_i h5
 split at h
 ·cases h
 rename_i h6
 exact⟨Decidable.of_not_not h5,ZbC.1 (Decidable.of_not_not h6)⟩
theorem Zmz : ∀ {l:List Era},Zgv l=0 → ∀ k (h:k<l.length),eraX l[k] (decide (k+1=l.length))=0
 | [],_,k,h=>by simp at h
 | x::l,he,k,h=>by
  rw[Zgv] at he
  split at he
  ·rename_i h1;exact absurd he h1
  rename_i h1
  cases k with
  | zero =>
   have h2:=Decidable.of_not_not h1
   have e:l.isEmpty=decide (0+1=(x::l).length):=by rw[Bool.eq_iff_iff,List.isEmpty_iff,decide_eq_true_iff,List.length_cons];cases l <;> simp
   rw[←e];exact h2
  | succ k =>
   have:=Zmz he k (by simpa using h)
   simpa using this
structure okZ (es:List Era):Prop where
 ne:es≠[]
 fm : ∀ x∈es,ZbO (xFm x)=true∧(-64800≤xSh x∧xSh x≤64800)∧(0≤xSv x∧xSv x≤10800)∧(xRl x≠⟨#[]⟩→xSv x=0)
 op : ∀ k (h:k<es.length),xOp es[k]=decide (k+1=es.length)
 un : ∀ k (h:k<es.length),k+1<es.length→Za2 es[k].2.2.2.2.2.1.1 es[k].2.2.2.2.2.1.2.1 es[k].2.2.2.2.2.1.2.2=true∧0≤es[k].2.2.2.2.2.2.1∧es[k].2.2.2.2.2.2.1≤172800
 len:es.length≤8
theorem okZ_of {z:Zon}(h:ZeQ z=0) (hl:z.2.length≤8):okZ z.2:=by
 unfold ZeQ at h
 split at h
 ·cases h
 rename_i h1
 have hne:z.2≠[]:=fun e=>h1 (.inr (by rw[e];rfl))
 have hg:=Zmz h
 refine⟨hne,fun x hx=>?_,fun k hk=>(ZnX (hg k hk)).2.2.2.2.2.1,fun k hk hk2=>?_,hl⟩
 ·obtain⟨k,hk,rfl⟩:=List.getElem_of_mem hx
  obtain⟨_,q2,q3,q4,q5,_⟩:=ZnX (hg k hk)
  exact⟨q2,q3,q4,q5⟩
 obtain⟨_,_,_,_,_,q6,q7⟩:=ZnX (hg k hk)
 exact q7 (by rw[q6];simp;omega)
theorem endV_bd {x:Era}(h1:Za2 x.2.2.2.2.2.1.1 x.2.2.2.2.2.1.2.1 x.2.2.2.2.2.1.2.2=true) (h2:0≤x.2.2.2.2.2.2.1∧x.2.2.2.2.2.2.1≤172800) (h3 : -64800≤xSh x∧xSh x≤64800) : -100000000000≤endV x∧endV x≤300000000000:=by
 have:=Zmg h1
 unfold endV
 split <;> omega
theorem Zk7 {α:Type}{l:List α}{k:Nat}(h:k+1<l.length):l.dropLast.take (k+1)=l.dropLast.take k++[l[k]]:=by
 have hk:k<l.dropLast.length:=by simp;omega
 rw[List.take_succ_eq_append_getElem hk]
 congr 2
 simp
theorem ZmA {es:List Era}{k:Nat}(h:k+1<es.length):(Zcd es).take (k+1)=(Zcd es).take k++[endV es[k]]:=by
 unfold Zcd
 rw[←List.map_take,←List.map_take,Zk7 h,List.map_append,List.map_cons,List.map_nil]
theorem ends_a {nm:ByteArray}{es:List Era}{h:AH}(hz:okZ es):Ac 131 [.agg [sv nm,.sl es.length 10 false (rows eraC es)]] h (.sl (Zcd es).length 1 false (rows intC (Zcd es))):=by
 have hlen:=hz.len
 have hne:=List.length_pos_iff.2 hz.ne
 have hel:=Zk5 es
 refine tW' k131 fun N hn hlt hlA hbd=>?_
 simp only[tb'] at hbd ⊢
 refine wr'<|E' (Zbd (cvl lk0 rfl) rfl (hl0 hn) ha0) pt1<|mv' lkn pt2<|sn'<|wr'<|mv' lkn pt3<|Zas<|Za5 (ALe.own0' (st':=1) (ty:=3) gt3 (hl1 hn) pt3 ha1)<|Zam<|wr'<|?_
 refine Vw (Zab lk)<|Vw (Zac lk gx gt1)<|Vw (ZaL lk)<|mw<|sn'<|Zap<|?_
 refine w_lp (ι:=Nat) (fun (k:Nat)=>[(3,.own (N+1) k k),(10,iv (k:Int)),(5,.any),(6,.any)]++rn' 11 27) (fun (k:Nat)=>[(1,.mk k 3 1 (rows intC ((Zcd es).take k)))]) (fun (k:Nat)=>k<es.length) (fun (k:Nat)=>es.length-k) (0) (by exact hne) ?_
 rintro k hi1
 try simp only[sm',Nat.reduceAdd]
 replace hi1:k<es.length:=hi1
 refine wr'<|Vw (Zbb lk lk)<|sn'<|Zam<|?_
 refine ZcZ lk (by exact decide_eq_true om) ?_
 refine Zaf<|Zah<|Zam<|Zap<|wr'<|?_
 refine V' (Za0 lk lk ZdX (nb' rfl) ro om ro rfl) pt ?_
 refine Vw (ZaI lk ZqL rfl)<|E' (ZaV (hl2 hn) ha2) pt<|E' (Zak lk cv gx rfl (nb' rfl) rfl Zov (hs2 hn)) ptn<|sn'<|Zam<|wr'<|Vw (Zab lk)<|Vw (Zac lk gx gt4)<|sn'<|?_
 have hop:=hz.op k hi1
 have htl:((Zcd es).take k).length=k:=by rw[List.length_take,hel];omega
 refine cd' lk (fun hc2=>?_) (fun hc2=>?_)
 ·rw[show es[k].2.2.2.2.1=decide (k+1=es.length) from hop] at hc2
  have hke:k+1=es.length:=of_decide_eq_true hc2
  refine ZaQ<|ZaD<|x_pas (Nat.ne_of_beq_eq_false rfl)<|ZaD<|ZaD<|Zba<|?_
  refine Za5 (ALe.iceR gx gt3 (List.take_of_length_le (by rw[Zc1,htl];omega)) (by rw[Zc1,htl];omega) pt3 (hs1 hn)) ?_
  refine wr'<|mw<|mw<|sn'<|Zaa<|Zae rz<|rtW'<|?_
  rw[show k=(Zcd es).length by omega,List.take_length];exact Wk.full
 rw[show es[k].2.2.2.2.1=decide (k+1=es.length) from hop] at hc2
 have hke:k+1<es.length:=by have:=of_decide_eq_false hc2;omega
 obtain⟨hd,ha1,ha2⟩:=hz.un k hi1 hke
 have hsh : -64800≤es[k].1∧es[k].1≤64800:=(hz.fm _ (List.getElem_mem hi1)).2.1
 have hnb:=Zmg hd
 have hdi:=Zcp.1 hd
 have hml:=Zd3 es[k].2.2.2.2.2.1.1 es[k].2.2.2.2.2.1.2.1
 refine Zaf<|Zah<|Zam<|ZbZ<|Dw (Zab lk)<|Dw (ZbN lk)<|Dw (Zan lk gx ZqM rfl)<|?_
 refine ZaY mp (fun hE hX=>ZhX om om om om om om) pt ?_
 refine D' (ZeN lk lki om om) pt ?_
 refine Dw (Zab lk)<|Dw (ZbN lk)<|Dw (Zac lk gx gt8)<|?_
 refine D' (Zay lk lk om om) pt ?_
 refine Dw (v_mv lk)<|ZbI<|?_
 refine Zch ?_
 refine sn'<|Zam<|wr'<|Vw (Zab lk)<|Vw (ZbN lk)<|Vw (Zac lk gx gt9)<|Vw (ZaP lk lki)<|sn'<|?_
 refine cd' lk (fun hc3=>?_) (fun hc3=>?_)
 ·have hev:endV es[k]=num es[k].2.2.2.2.2.1.1 es[k].2.2.2.2.2.1.2.1 es[k].2.2.2.2.2.1.2.2*86400+es[k].2.2.2.2.2.2.1-es[k].1:=by unfold endV;rw[if_pos hc3]
  refine Zav<|mw<|Vw (Zab lk)<|Vw (Zac lk gx gt0)<|?_
  refine V' (Zbt lk lk om om) pt ?_
  refine mw<|sn'<|Zav<|mw<|mw<|E' (Zdm (ZhE cv rfl) (hl3 hn) ha3) pt<|?_
  refine E' (Zdn (Zcs lk gx rfl ZmR (nb' rfl)) lk gx ((Zc1 _).trans (by rw[htl])) om rfl (hs1 hn)) pt ?_
  refine mw<|Zas<|Zaz<|Zah<|Zav<|?_
  refine V' (Zay lk lki om om) pt ?_
  refine mw<|Zas<|ZaB<|?_
  refine lU' (k+1) (by (try dsimp only);omega) (by (try dsimp only);(try simp only[sm',Nat.reduceAdd]);exact bk' 2 hn hlt (by rw[ZmA hke,hev,ZaZ,Zbi];rfl))
 have hev:endV es[k]=num es[k].2.2.2.2.2.1.1 es[k].2.2.2.2.2.1.2.1 es[k].2.2.2.2.2.1.2.2*86400+es[k].2.2.2.2.2.2.1:=by unfold endV;rw[if_neg hc3,Int.sub_zero]
 refine Zaf<|Zah<|Zav<|mw<|mw<|E' (Zdm (ZhE cv rfl) (hl3 hn) ha3) pt<|?_
 refine E' (Zdn (Zcs lk gx rfl ZmR (nb' rfl)) lk gx ((Zc1 _).trans (by rw[htl])) om rfl (hs1 hn)) pt ?_
 refine mw<|Zas<|Zaz<|Zah<|Zav<|?_
 refine V' (Zay lk lki om om) pt ?_
 refine mw<|Zas<|ZaB<|?_
 refine lU' (k+1) (by (try dsimp only);omega) (by (try dsimp only);(try simp only[sm',Nat.reduceAdd]);exact bk' 2 hn hlt (by rw[ZmA hke,hev,ZaZ,Zbi];rfl))
theorem rising_a {l:List Int}{full:Bool}{h:AH}(hl:l.length≤9223372036854775807):Ac 138 [.sl l.length 1 full (rows intC l)] h (bv (risL l)):=by
 refine tI' k138 fun N hn hlt hlA hbd=>?_
 simp only[tb'] at hbd ⊢
 refine wr'<|mw<|sn'<|Zam<|wr'<|mw<|sn'<|Zap<|?_
 refine w_lp (ι:=Nat) (fun (k:Nat)=>[(3,iv ((k:Int)+1)),(2,.any)]++rn' 4 16) (fun (k:Nat)=>[]) (fun (k:Nat)=>(k+1≤l.length∨k=0) ∧ ∀ i (h:i+1<l.length),i<k→l[i]<l[i+1]) (fun (k:Nat)=>l.length-k) (0) (by exact⟨.inr rfl,fun i _ h=>by omega⟩) ?_
 rintro k hi1
 try simp only[sm',Nat.reduceAdd]
 obtain⟨hk1,hk2⟩:=hi1
 refine Zam<|wr'<|mw<|mw<|Vw (ZaL lk)<|Vw (Zbb lk lk)<|sn'<|?_
 refine cd' lk (fun hc1=>?_) (fun hc1=>?_)
 ·have hk:k+1<l.length:=by omega
  refine Zaf<|Zah<|Zam<|Zap<|Zam<|ZbZ<|Dw (v_mv lk)<|Dw (v_mv lk)<|?_
  refine D' (Za0 (k:=k+1) lk lk ZcS (nb' rfl) ro om ro rfl) pt ?_
  refine Dw (ZaE lk gt)<|Dw (v_mv lk)<|Dw (v_mv lk)<|?_
  refine D' (Zbt lk lki om om) pt ?_
  refine D' (Za0 (k:=k) lk lk ZcS (nb' rfl) ro om ro rfl) pt ?_
  refine Dw (ZaE lk gt)<|Dw (Zdq lk lk)<|ZbI<|?_
  refine Zch ?_
  refine sn' ?_
  refine cd' lk (fun hc2=>?_) (fun hc2=>?_)
  ·have hR:risL l=false:=Zp3 hk om
   refine wr'<|mw<|sn'<|Zaa<|Zaq<|Zai<|Zai<|Zaq<|Zai<|Zae rz<|rT'<|?_
   rw[hR]
  refine Zaf<|Zaz<|Zah<|Zav<|mw<|?_
  refine V' (Zay lk lki om om) pt ?_
  refine mw<|Zas<|ZaB<|?_
  refine lU' (k+1) (by (try dsimp only);exact⟨by omega,fun i hi h=>by by_cases e:i=k;(subst e;omega);exact hk2 i hi om⟩) (by (try dsimp only);(try simp only[sm',Nat.reduceAdd]);exact ALe.same (by repeat (first | exact wk0 | refine wka ?_ | refine wk1 rfl ?_ | refine wk1 (by first | rfl | exact ivx om) ?_)) rfl)
 refine ZaQ<|ZaD<|ZaD<|Zba<|Zah<|wr'<|mw<|sn'<|Zaa<|Zae rz<|rT'<|?_
 exact bvx (Zl3 fun i hi=>hk2 i hi om).symm
theorem check1_a {z:Zon}{h:AH}(hz:okZ z.2):Ac 137 [.agg (zonC z)] h (bv (!risL (Zcd z.2))):=by
 obtain⟨nm,es⟩:=z
 have hel:(Zcd es).length=es.length-1:=Zk5 es
 have hlen:es.length≤8:=hz.len
 refine tI' k137 fun N hn hlt hlA hbd=>?_
 simp only[tb'] at hbd ⊢
 refine wr'<|E' (Zbd cv rfl (hl0 hn) ha0) pt<|mw<|sn'<|wr'<|Vw (Zan lk gx ZqN rfl)<|Zad mp (ends_a hz) pt<|?_
 refine Zad mp (rising_a (show (Zcd es).length≤9223372036854775807 by omega)) pt ?_
 exact Vw (Zax lk)<|mw<|sn'<|Zaa<|Zae rz<|rT' rfl
theorem eras_a {a:List Rul}{z:List Zon}{k:List Lnk}{h:AH}:Ac 135 [.agg [.sl a.length 11 false (rows rulC a),.sl z.length 2 false (rows zonC z),.sl k.length 2 false (rows lnkC k)]] h (.clo (.func 217) [.rp [.sl a.length 11 false (rows rulC a),.sl z.length 2 false (rows zonC z),.sl k.length 2 false (rows lnkC k)]]):=by
 refine tI' k135 fun N hn hlt hlA hbd=>?_
 simp only[tb'] at hbd ⊢
 refine wr'<|E' (Zbd cv rfl (hl0 hn) ha0) pt<|mv' rfl pt<|Zas<|?_
 refine Za5 (ALe.icePtr gx gt1 (by simp) pt1 (hs0 hn)) ?_
 exact wr'<|Vw (Zf8 mp)<|mw<|sn'<|Zaa<|Zae rz<|rT' rfl
theorem look1p_a {nm:ByteArray}{l:Lnk}{id:Nat}{h:AH}(he:h[id]?=some (.mk 0 9 1 [sv nm])):Ac 219 [.agg (lnkC l),.ptr id 0 0] h (bv (decide (l.2=nm))):=by
 refine tI' k219 fun N hn hlt hlA hbd=>?_
 simp only[tb'] at hbd ⊢
 refine wr'<|E' (Zbd cv rfl (hl0 hn) ha0) pt<|mw<|sn'<|wr'<|Vw (Zab lk)<|Vw (Zac lk gx gt1)<|Vw (Zac lk (ZdW he) gt0)<|Vw (ZcF lk lk)<|mw<|Zas<|?_
 exact Zah<|Zaa<|Zae rz<|rT' rfl
def Zqa (s:Src) (nm:ByteArray):Int:=Zix s.2.1 (match s.2.2[s.2.2.findIdx fun l=>decide (l.2=nm)]? with
 | some l=>l.1
 | none=>nm)
theorem look_a {a:List Rul}{z:List Zon}{k:List Lnk}{nm:ByteArray}{h:AH}(hz:z.length≤9223372036854775807) (hk:k.length≤9223372036854775807):Ac 139 [.agg [.sl a.length 11 false (rows rulC a),.sl z.length 2 false (rows zonC z),.sl k.length 2 false (rows lnkC k)],sv nm] h (iv (Zqa (a,z,k) nm)):=by
 have hkk:=hk
 refine tI' k139 fun N hn hlt hlA hbd=>?_
 simp only[tb'] at hbd ⊢
 refine wr'<|E' (Zbd cv rfl (hl0 hn) ha0) pt<|E' (Zbd cv rfl (hl1 hn) ha1) pt<|mw<|sn'<|wr'<|Vw (Zab lk)<|Vw (Zac lk gx gt2)<|Vw (Zf8 mp)<|?_
 refine Zad mp (Zpj (p:=fun l:Lnk=>decide (l.2=nm)) (fun c _ E=>look1p_a (ZdW gx)) hkk) pt ?_
 refine mw<|sn'<|Zam<|wr'<|mw<|Vw (ZeR lk lki)<|sn'<|?_
 refine cd' lk (fun hc1=>?_) (fun hc1=>?_)
 ·have hlt':k.findIdx (fun l:Lnk=>decide (l.2=nm))<k.length:=by unfold idxV at hc1;split at hc1;assumption;omega
  have hix:idxV (fun l:Lnk=>decide (l.2=nm)) k=((k.findIdx fun l:Lnk=>decide (l.2=nm):Nat):Int):=if_pos hlt'
  refine Zav<|Vw (Zab lk)<|Vw (Zac lk gx gt2)<|mw<|?_
  refine V' (Za0 (k:=k.findIdx fun l:Lnk=>decide (l.2=nm)) lk lk ZdV (nb' rfl) ro om ro rfl) pt ?_
  refine Vw (ZbM lk dp0)<|Vw (ZaE lk gt)<|E' (Zak lk cv gx rfl (nb' rfl) rfl ZqP (hs1 hn)) ptn<|sn'<|wr'<|Vw (Zan lk gx Zhk rfl)<|Vw (Zac lk gx gt0)<|Zad mp (Znx hz) pt<|mw<|sn'<|Zaa<|?_
  refine Zae rz<|rT'<|?_
  refine ivx ?_;unfold Zqa;rw[show (a,z,k).2.2[(a,z,k).2.2.findIdx fun l=>decide (l.2=nm)]?=some k[k.findIdx fun l:Lnk=>decide (l.2=nm)] from List.getElem?_eq_getElem hlt']
 have hlt':¬k.findIdx (fun l:Lnk=>decide (l.2=nm))<k.length:=fun h=>hc1 (by unfold idxV;rw[if_pos h];omega)
 refine Zaf<|Zah<|wr'<|Vw (Zan lk gx Zhk rfl)<|Vw (Zac lk gx gt0)<|Zad mp (Znx hz) pt<|mw<|sn'<|Zaa<|Zae rz<|rT'<|?_
 refine ivx ?_;unfold Zqa;rw[show (a,z,k).2.2[(a,z,k).2.2.findIdx fun l=>decide (l.2=nm)]?=none from List.getElem?_eq_none (Nat.le_of_not_lt hlt')]
theorem repl_one {s lt:Bs}:Lib.replace s [37,115] lt 1=if (Lib.cut s [37,115]).2.2=true then (Lib.cut s [37,115]).1++lt++(Lib.cut s [37,115]).2.1 else s:=by
 have hge:=Lib.index_ge s [37,115]
 unfold Lib.cut
 by_cases h0:0≤Lib.index s [37,115]
 ·rw[if_pos h0]
  obtain⟨i,hi⟩ : ∃ i:Nat,Lib.index s [37,115]=i:=⟨(Lib.index s [37,115]).toNat,by omega⟩
  simp only[if_true,hi,Int.toNat_natCast,List.length_cons,List.length_nil]
  unfold Lib.replace
  split
  ·rename_i e
   have e:[37,115]=lt:=by simpa using e
   subst e
   rcases Lib.index_spec s [37,115] with ⟨h1,_⟩ | ⟨j,h1,h2,h3,_⟩
   ·omega
   obtain rfl:i=j:=by omega
   have h4:[37,115] <+: s.drop i:=by simpa [Lib.occAt] using h3
   obtain⟨t,ht⟩:=h4
   have e2:s.drop (i+2)=t:=by rw[←List.drop_drop,←ht];rfl
   rw[e2,List.append_assoc,ht,List.take_append_drop]
  have hc:0<Lib.count s [37,115]:=by rw[Lib.count_hit (by simp) hi];omega
  unfold Lib.replaceNum
  rw[if_neg om]
  rw[show (1:Int).toNat=0+1 from rfl,Lib.replaceK_hit _ _ _ _ _ hi]
  rfl
 rw[if_neg h0]
 simp only[Bool.false_eq_true,if_false]
 unfold Lib.replace
 split
 ·rfl
 have hm:Lib.index s [37,115] = -1:=by omega
 unfold Lib.replaceNum
 rw[if_pos (.inr (by rw[Lib.count_miss hm];simp)),Lib.count_miss hm];rfl
theorem Zse {s lt:ByteArray}{h:AH}(h1:s.size≤24) (h2:lt.size≤24):Ac 321 [sv s,sv (bA [37,115]),sv lt,iv 1] h (sv (if (cutL s [37,115]).2.2=true then bA ((cutL s [37,115]).1++aB lt++(cutL s [37,115]).2.1) else s)):=by
 refine ACalls.of_below (by kernel_rfl) fun w g vs hs ha=>?_
 simp only[RepL,Rep] at ha
 obtain⟨u1,us1,e1,rfl,u2,us2,rfl,rfl,u3,us3,rfl,rfl,u4,us4,rfl,rfl,rfl⟩:=ha
 obtain rfl:vs = #[.string s,.string (bA [37,115]),.string lt,.int .i64 1]:=by cases vs;simp_all
 obtain⟨m,hm⟩:=hs.glob.w.maxLen
 have hc:=Lib.countB_le (bA [37,115]) (by decide) s.size s (Nat.le_refl _)
 have hc2:Lib.countB s (bA [37,115])*lt.size≤24*24:=Nat.mul_le_mul om h2
 refine (Tryz.strings_Replace s (bA [37,115]) lt 1 m w om hm (by decide) om).mono ?_
 rintro e w' ⟨rfl,hb⟩
 refine⟨_,rfl,hb,?_⟩
 simp only[Rep]
 have:=repl_one (s:=aB s) (lt:=aB lt)
 show Value.string (bA (Lib.replace (aB s) [37,115] (aB lt) 1))=_
 rw[this]
 unfold cutL
 split <;> rfl
theorem named_a {fm lt:ByteArray}{sa:Int}{h:AH}(h1:fm.size≤24) (h2:lt.size≤24):Ac 281 [sv fm,sv lt,iv sa] h (sv (ZkX fm lt sa)):=by
 refine tI' k281 fun N hn hlt hlA hbd=>?_
 simp only[tb'] at hbd ⊢
 refine wr'<|mw<|sn'<|wr'<|mw<|Zad mp (cut1_a h1) pt<|mw<|Vw (ZaN lk gt)<|Vw (ZaN lk gt)<|Vw (ZaN lk gt)<|mw<|?_
 refine mw<|mw<|sn'<|Zam<|Zap<|wr'<|mw<|Vw (Zax lk)<|mw<|sn'<|?_
 refine Zaw lk (fun hc1=>?_) (fun hc1=>?_)
 ·refine wr'<|mw<|mw<|Zad mp (Zse h1 h2) pt<|mw<|sn'<|Zaa<|Zaq<|Zai<|Zae rz<|rT'<|?_
  unfold ZkX;exact congrArg (fun z=>sv z) (if_neg (by have:=hc1;rw[Bool.not_eq_true'] at this;rw[this];simp)).symm
 refine wr'<|mw<|Vw (ZbD lk lki)<|mw<|sn'<|?_
 refine cd' lk (fun hc2=>?_) (fun hc2=>?_)
 ·refine wr'<|mw<|mw<|sn'<|Zaa<|Zaq<|Zai<|Zae rz<|rT'<|?_
  unfold ZkX;rw[if_pos (by have:=hc1;rwa [Bool.not_eq_false'] at this),if_pos hc2]
 refine Zaf<|Zaz<|Zah<|wr'<|mw<|mw<|sn'<|Zaa<|Zae rz<|rT'<|?_
 unfold ZkX;rw[if_pos (by have:=hc1;rwa [Bool.not_eq_false'] at this),if_neg hc2]
theorem ZnD {x:Era}{t:Tim}{h:AH}(h1:(xFm x).size≤24) (h2:t.2.2.size≤24) (h3 : -64800≤xSh x∧xSh x≤64800) (h4:0≤t.2.1∧t.2.1≤10800):ACalls Tryz.prog 220 [.agg (eraC x),.agg (timC t)] h fun y h'=>h'=h∧y=.ret (.agg [iv (locV x t.2.1 t.2.2).1,iv (locV x t.2.1 t.2.2).2.1,sv (locV x t.2.1 t.2.2).2.2]):=by
 obtain⟨sh,rl,sa,fm,op,⟨⟨y,m,d⟩,a,c⟩⟩:=x
 obtain⟨at_,sv_,lt⟩:=t
 simp only[xFm,xSh] at h1 h3
 simp only at h2 h4
 show ACalls _ _ [.agg [iv sh,sv rl,iv sa,sv fm,bv op,iv y,iv m,iv d,iv a,iv c],.agg [iv at_,iv sv_,sv lt]] h _
 refine tI' k220 fun N hn hlt hlA hbd=>?_
 simp only[tb'] at hbd ⊢
 refine wr'<|E' (Zbd cv rfl (hl0 hn) ha0) pt<|E' (Zbd cv rfl (hl1 hn) ha1) pt<|E' (ZaV (hl2 hn) ha2) pt<|sn'<|Zam<|ZbZ<|Dw (Zab lk)<|Dw (Zac lk gx gt0)<|Dw (Zab lk)<|Dw (Zac lk gx gt1)<|?_
 refine D' (Zay lk lk om om) pt ?_
 refine Dw (Zab lk)<|Dw (Zac lk gx gt1)<|Dw (Zab lk)<|Dw (Zac lk gx gt3)<|Dw (Zab lk)<|Dw (Zac lk gx gt2)<|Dw (Zab lk)<|Dw (Zac lk gx gt1)<|?_
 refine ZaY mp (fun hE hX=>named_a h1 h2) pt ?_
 refine Dw (Zau (Zll cv rfl cv rfl cv rfl))<|ZbI<|?_
 refine Zch ?_
 exact E' (Zak lk cv gx rfl (nb' rfl) rfl ZqO (hs2 hn)) ptn<|sn'<|Zaa<|Zae (rs1 (rr_c gt gx (ld1 Zhk rfl)))<|rT' rfl
theorem cut1p_a {c:Chg}{e:Int}{h:AH}:ACalls Tryz.prog 222 [.agg (chgC c),.rp [iv e]] h fun y h'=>h'=h∧y=.ret (bv (decide (e≤c.1))):=by
 obtain⟨c1,c2,c3,c4⟩:=c
 refine tI' k222 fun N hn hlt hlA hbd=>?_
 simp only[tb'] at hbd ⊢
 refine wr'<|E' (Zbd cv rfl (hl0 hn) ha0) pt<|mw<|sn'<|wr'<|Vw (Zab lk)<|Vw (Zac lk gx gt0)<|Vw (ZaE lk gt)<|Vw (ZeR lk lk)<|mw<|Zas<|?_
 refine Zah<|Zaa<|Zae rz<|rT'<|?_
 exact bvx (by first | rfl | (rw[Bool.eq_iff_iff];simp))
theorem Ztq {l:List Chg}{e:Int}:cutV l e=l.take (l.findIdx fun c=>decide (e≤c.1)):=by
 unfold cutV
 induction l with
 | nil=>rfl
 | cons c l ih =>
  rw[List.takeWhile_cons,List.findIdx_cons]
  by_cases h:c.1<e
  ·rw[if_pos (by simpa using h),ih,show decide (e≤c.1)=false by simp;omega];rfl
  rw[if_neg (by simpa using h),show decide (e≤c.1)=true by simp;omega];rfl
theorem zcut_a {l:List Chg}{e:Int}{full:Bool}{h:AH}(hl:l.length≤9223372036854775807):ACalls Tryz.prog 143 [.sl l.length 4 full (rows chgC l),iv e] h fun y h'=>h'=h∧y=.ret (.sl (cutV l e).length 4 false (rows chgC (cutV l e))):=by
 have hll:=hl
 refine tW' k143 fun N hn hlt hlA hbd=>?_
 simp only[tb'] at hbd ⊢
 refine wr'<|E' (Zbd cv rfl (hl0 hn) ha0) pt<|mw<|Zas<|?_
 refine Za5 (ALe.icePtr gx gt3 (by simp) pt3 (hs0 hn)) ?_
 refine wr'<|mw<|Vw (Zf8 mp)<|?_
 refine Zad mp (ixPrtC_a (p:=fun c:Chg=>decide (e≤c.1)) (fun c _ _=>cut1p_a) hll) pt ?_
 refine mw<|sn'<|Zam<|wr'<|mw<|Vw (Zbb lk lki)<|sn'<|?_
 refine cd' lk (fun hc1=>?_) (fun hc1=>?_)
 ·have hi:¬l.findIdx (fun c:Chg=>decide (e≤c.1))<l.length:=by unfold idxV at hc1;split at hc1;omega;assumption
  refine wr'<|mw<|mw<|sn'<|Zaa<|Zai<|Zae rz<|rtW'<|?_
  rw[Ztq,List.take_of_length_le om];exact Wk.full
 have hi:l.findIdx (fun c:Chg=>decide (e≤c.1))<l.length:=by unfold idxV at hc1;split at hc1;assumption;omega
 have hix:idxV (fun c:Chg=>decide (e≤c.1)) l=((l.findIdx fun c:Chg=>decide (e≤c.1):Nat):Int):=if_pos hi
 refine Zaf<|Zah<|wr'<|mw<|mw<|?_
 refine V' (v_hi (k:=l.findIdx fun c:Chg=>decide (e≤c.1)) lk lk Zcb ro om ro) pt ?_
 refine mw<|sn'<|Zaa<|Zae rz<|rtW'<|?_
 rw[Ztq,List.length_take,Nat.min_eq_left (Nat.le_of_lt hi)];exact Wk.full
end Go.Proofs.YtlekejpogddndaaGreatDoor
end
section
namespace Go.Proofs.YtlekejpogddndaaGreatDoor
open Go.Ab Go.RowKit Civ
attribute [local simp] Zbj Zby Zbs Zbv Zb3 Zdd
section
theorem ZtU {a0 a1:AV}{l:List AV}:(a0::a1::l).take 2=[a0,a1]:=rfl
theorem ZqK {a0 a1 c0 c1:AV}{l:List AV}:setCells (a0::a1::l) 0 [c0,c1]=c0::c1::l:=rfl
theorem ZqJ {a0 a1 a2 a3 a4 a5 a6 a7 a8 a9:AV}{l:List AV}:(a0::a1::a2::a3::a4::a5::a6::a7::a8::a9::l).take 10=[a0,a1,a2,a3,a4,a5,a6,a7,a8,a9]:=rfl
theorem Zi2 {a0 a1 a2 a3 a4 a5 a6 a7 a8 a9 c0 c1 c2 c3 c4 c5 c6 c7 c8 c9:AV}{l:List AV}:setCells (a0::a1::a2::a3::a4::a5::a6::a7::a8::a9::l) 0 [c0,c1,c2,c3,c4,c5,c6,c7,c8,c9]=c0::c1::c2::c3::c4::c5::c6::c7::c8::c9::l:=rfl
theorem Zou {a0 a1 a2 a3 a4 a5 a6 a7 a8 a9:AV}{l:List AV}:((a0::a1::a2::a3::a4::a5::a6::a7::a8::a9::l).drop 0).take 10=[a0,a1,a2,a3,a4,a5,a6,a7,a8,a9]:=rfl
theorem Zhj {a0 c0:AV}{l:List AV}:setCells (a0::l) 0 [c0]=c0::l:=rfl
theorem ZtT {a0 a1 a2:AV}{l:List AV}:(a0::a1::a2::l).take 3=[a0,a1,a2]:=rfl
end
def c217:AC:=(Sr [Fa 7 1 1,Ld 8 7,Oo 9 (.len false (.tmp 8)),Mc 10 0] (.block 0 (.loop (Sr [Bn 11 .lss 10 9] (.seq (Cd 11 .skip (.exit 0)) (.seq (.block 1 (Sr [Oo 12 (.ia 2 (.tmp 8) (.tmp 10)),Oo 13 (.load true 2 (.tmp 12)),Oo 4 (.new 53 2 [Ss,(.sl 0 0 true [])]),⟨none,none,(.store 2 (.tmp 4) (.tmp 13))⟩] (Sr [Fa 14 1 4,Ld 15 14,Oo 16 (.len false (.tmp 15)),Mc 17 0] (.block 2 (.loop (Sr [Bn 18 .lss 17 16] (.seq (Cd 18 .skip (.exit 2)) (.seq (.block 3 (Sr [Oo 19 (.ia 10 (.tmp 15) (.tmp 17)),Oo 20 (.load true 10 (.tmp 19)),Oo 6 (.new 63 10 [(iv 0),Ss,(iv 0),Ss,(.v (.bool false)),(iv 0),(iv 0),(iv 0),(iv 0),(iv 0)]),⟨none,none,(.store 10 (.tmp 6) (.tmp 20))⟩] (Sr [Mv 21 0,Oo 22 (.load true 10 (.tmp 6)),Oo 23 (.call (.tmp 21) [(.tmp 22)]),Oo 24 (.un .not (.tmp 23))] (Cd 24 .ret .skip)))) (.reg [Bc 25 .add 17 1,Mv 17 25]))))))))) (.reg [Bc 26 .add 10 1,Mv 10 26])))))))
theorem k217:ZaA Tryz.prog 217=some ⟨c217,[],27⟩:=by kernel_rfl
def c134p:AC:=(.seq (.reg [⟨(some 1),none,(.box 26 3 (.tmp 0))⟩,⟨(some 2),none,(.new 4 1 [(.v (.bool false))])⟩]) (.seq (.reg [⟨(some 4),none,(.fa 2 (.tmp 1))⟩,⟨(some 5),none,(.load false 1 (.tmp 4))⟩,⟨(some 6),none,(.mkfn 214 [(.tmp 1)])⟩,⟨(some 7),none,(.call (.func 213) [(.tmp 5),(.tmp 6)])⟩]) (.seq (.cond (.tmp 7) (.seq (.reg [⟨none,none,(.store 1 (.tmp 2) (.const (.bool true)))⟩]) .ret) .skip) (.seq (.reg [⟨(some 8),none,(.load true 3 (.tmp 1))⟩,⟨(some 9),none,(.call (.func 135) [(.tmp 8)])⟩]) .skip))))
def c134a:AC:=(.reg [⟨(some 3),none,(.new 63 10 [(.v (.int .i64 0)),(.v (.string ⟨#[]⟩)),(.v (.int .i64 0)),(.v (.string ⟨#[]⟩)),(.v (.bool false)),(.v (.int .i64 0)),(.v (.int .i64 0)),(.v (.int .i64 0)),(.v (.int .i64 0)),(.v (.int .i64 0))])⟩,⟨none,none,(.store 10 (.tmp 3) (.tmp 10))⟩])
def c134b:AC:=(.block 1 (.seq (.reg [⟨(some 11),none,(.fa 1 (.tmp 3))⟩,⟨(some 12),none,(.load false 1 (.tmp 11))⟩,⟨(some 13),none,(.bin .neq (.tmp 12) (.const (.string ⟨#[]⟩)))⟩,⟨(some 14),none,(.mv (.tmp 13))⟩,⟨(some 15),(some (14,true)),(.fa 0 (.tmp 1))⟩,⟨(some 16),(some (14,true)),(.load false 1 (.tmp 15))⟩,⟨(some 17),(some (14,true)),(.mkfn 216 [(.tmp 3)])⟩,⟨(some 18),(some (14,true)),(.call (.func 157) [(.tmp 16),(.tmp 17)])⟩,⟨(some 19),(some (14,true)),(.un .not (.tmp 18))⟩,⟨(some 20),none,(.pick (.tmp 14) (.tmp 19) (.const (.bool false)))⟩]) (.cond (.tmp 20) (.seq (.reg [⟨none,none,(.store 1 (.tmp 2) (.const (.bool true)))⟩]) .ret) .skip)))
def c134q:AC:=(.seq (.reg [⟨none,none,(.store 1 (.tmp 2) (.const (.bool false)))⟩]) (.seq .ret .skip))
abbrev fr134:AFR:=⟨[(.reg [⟨(some 1),none,(.box 26 3 (.tmp 0))⟩,⟨(some 2),none,(.new 4 1 [(.v (.bool false))])⟩]),(.reg [⟨(some 4),none,(.fa 2 (.tmp 1))⟩,⟨(some 5),none,(.load false 1 (.tmp 4))⟩,⟨(some 6),none,(.mkfn 214 [(.tmp 1)])⟩,⟨(some 7),none,(.call (.func 213) [(.tmp 5),(.tmp 6)])⟩]),(.cond (.tmp 7) (.seq (.reg [⟨none,none,(.store 1 (.tmp 2) (.const (.bool true)))⟩]) .ret) .skip),(.reg [⟨(some 8),none,(.load true 3 (.tmp 1))⟩,⟨(some 9),none,(.call (.func 135) [(.tmp 8)])⟩])],(.tmp 9),#[10],c134a,c134b,c134q,[(.cell 2 false 1)],21⟩
theorem k134:ZhC Tryz.prog 134=some fr134:=by kernel_rfl
def Zdl (z:List Zon):List Era:=z.flatMap (·.2)
theorem ZnW {z:List Zon}{i j:Nat}(hi:i<z.length) (hj:j<z[i].2.length) : ∃ r,Zdl z=Zdl (z.take i)++(z[i].2.take j++z[i].2[j]::r):=by
 refine⟨z[i].2.drop (j+1)++Zdl (z.drop (i+1)),?_⟩
 have e:z=z.take i++z[i]::z.drop (i+1):=by rw[←List.drop_eq_getElem_cons hi,List.take_append_drop]
 have e2:z[i].2=z[i].2.take j++z[i].2[j]::z[i].2.drop (j+1):=by rw[←List.drop_eq_getElem_cons hj,List.take_append_drop]
 have h1:Zdl z=Zdl (z.take i++z[i]::z.drop (i+1)):=by rw[←e]
 rw[h1]
 unfold Zdl
 rw[List.flatMap_append,List.flatMap_cons]
 have h2:z[i].2++(z.drop (i+1)).flatMap (·.2)=z[i].2.take j++z[i].2[j]::(z[i].2.drop (j+1)++(z.drop (i+1)).flatMap (·.2)):=by
  conv=>lhs;rw[e2]
  rw[List.append_assoc];rfl
 rw[h2]
theorem Zqo {z:List Zon}{i:Nat}(hi:i<z.length):Zdl (z.take (i+1))=Zdl (z.take i)++z[i].2:=by
 unfold Zdl
 rw[List.take_succ_eq_append_getElem hi,List.flatMap_append,List.flatMap_cons,List.flatMap_nil,List.append_nil]
theorem Ztc {p:Era→Bool}{l m r:List Era}{x:Era}(hl : ∀ y∈l,p y=false) (hm : ∀ y∈m,p y=false) (hx:p x=true):(l++(m++x::r)).find? p=some x:=by
 rw[List.find?_append,List.find?_eq_none.2 (fun y hy=>by rw[hl y hy];simp),Option.none_or,List.find?_append,List.find?_eq_none.2 (fun y hy=>by rw[hm y hy];simp),Option.none_or,List.find?_cons,hx]
def stopH (h:AH) (hS:Era→AH):Option Era→AH
 | none=>h
 | some x=>hS x
theorem Ztf {a:List Rul}{z:List Zon}{k:List Lnk}{lp:Nat}{h:AH}{p:Era→Bool}{hS:Era→AH}(hz:z.length≤20) (hz2 : ∀ y∈z,y.2.length≤8) (hSl : ∀ x,(hS x).length=h.length) (hSlt : ∀ x,∀ e∈hS x,e.lt h.length=true)
  (hY : ∀ x∈Zdl z,∀ e f:Ent,p x=false→AYield Tryz.prog lp [.agg (eraC x)] (h++[e,f]) fun r h''=>r=.ret (.v (.bool true))∧h''=h++[e,f])
  (hN : ∀ x∈Zdl z,∀ e f:Ent,p x=true→AYield Tryz.prog lp [.agg (eraC x)] (h++[e,f]) fun r h''=>r=.ret (.v (.bool false))∧h''=hS x++[e,f]) :
  ACalls Tryz.prog 217 [.v (.func (.yield lp) #[] #[]),.rp [.sl a.length 11 false (rows rulC a),.sl z.length 2 false (rows zonC z),.sl k.length 2 false (rows lnkC k)]] h fun y h'=>y=.ret (.tup [])∧h'=stopH h hS ((Zdl z).find? p):=by
 refine tJ' k217 fun N hn hlt hlA hbd=>?_
 simp only[tb'] at hbd ⊢
 refine wr'<|Vw (ZbM lk dp1)<|Vw (ZaE lk gt)<|Vw (ZaL lk)<|mw<|sn'<|Zap<|?_
 refine w_lp (ι:=Nat) (fun (i:Nat)=>[(10,iv (i:Int)),(4,.any),(6,.any)]++rn' 11 16) (fun (i:Nat)=>[]) (fun (i:Nat)=>i≤z.length ∧ ∀ x∈Zdl (z.take i),p x=false) (fun (i:Nat)=>z.length-i) (0) (by exact⟨Nat.zero_le _,fun x hx=>by cases hx⟩) ?_
 rintro i hi1
 try simp only[sm',Nat.reduceAdd]
 obtain⟨hk1,hk2⟩:=hi1
 refine wr'<|Vw (Zbb lk lk)<|sn'<|Zam<|?_
 refine cd' lk (fun hc1=>?_) (fun hc1=>?_)
 ·have hi:i<z.length:=by omega
  have hz3:=hz2 _ (List.getElem_mem hi)
  refine Zaf<|Zah<|Zam<|Zap<|wr'<|?_
  refine V' (Za0 lk lk ZcO (nb' rfl) ro om ro rfl) pt ?_
  refine Vw (ZaI lk ZtU rfl)<|E' (ZaV (hl0 hn) ha0) pt<|E' (Zak lk cv gx rfl (nb' rfl) rfl ZqK (hs0 hn)) ptn<|sn'<|wr'<|Vw (Zab lk)<|Vw (Zac lk gx gt1)<|?_
  refine V' ((by first | exact ZaL lk | exact ZcW lk)) pt ?_
  refine mw<|sn'<|Zap<|?_
  refine w_lp (ι:=Nat) (fun (j:Nat)=>[(17,iv (j:Int)),(6,.any)]++rn' 18 8) (fun (j:Nat)=>[]) (fun (j:Nat)=>j≤z[i].2.length ∧ ∀ x∈z[i].2.take j,p x=false) (fun (j:Nat)=>z[i].2.length-j) (0) (by exact⟨Nat.zero_le _,fun x hx=>by cases hx⟩) ?_
  rintro j hi2
  try simp only[sm',Nat.reduceAdd]
  obtain⟨hj1,hj2⟩:=hi2
  refine wr'<|Vw (Zbb lk lk)<|sn'<|Zam<|?_
  refine cd' lk (fun hc2=>?_) (fun hc2=>?_)
  ·have hj:j<z[i].2.length:=by omega
   obtain⟨rr,hrr⟩:=ZnW hi hj
   have hmem:z[i].2[j]∈Zdl z:=by rw[hrr];simp
   refine Zaf<|Zah<|Zam<|Zap<|wr'<|?_
   refine V' (Za0 lk lk ZdX (nb' rfl) ro om ro rfl) pt ?_
   refine Vw (ZaI lk ZqJ rfl)<|E' (ZaV (hl1 hn) ha1) pt<|E' (Zak lk cv gx rfl (nb' rfl) rfl Zi2 (hs1 hn)) ptn<|sn'<|wr'<|mw<|Vw (Zan lk gx Zou rfl)<|?_
   by_cases hs21:p z[i].2[j]=true
   ·refine Zsb lk mp (hN _ hmem _ _ hs21) pt<|Vw (Zax lk)<|sn'<|ZaC lk<|Zaa<|Zaq<|Zai<|Zai<|Zaq<|Zaq<|Zai<|Zai<|Zaq<|?_
    refine Zae (rs0) ?_
    exact⟨_,_,rfl,(hSl _).trans hn,by rw[←hn];exact hSlt _,rfl,rfl,by rw[hrr,Ztc hk2 hj2 hs21];rfl⟩
   refine Zsb lk mp (hY _ hmem _ _ (by simpa using hs21)) pt ?_
   refine Vw (Zax lk)<|sn'<|ZaM lk<|Zaf<|Zaz<|Zah<|Zav<|?_
   refine V' (Zay lk lki om om) pt ?_
   refine mw<|Zas<|ZaB<|?_
   refine lU' (j+1) (by (try dsimp only);refine⟨by omega,fun x hx=>?_⟩;rw[List.take_succ_eq_append_getElem hj] at hx;rcases List.mem_append.1 hx with hx | hx;exact hj2 x hx;simp only[List.mem_singleton] at hx;subst hx;simpa using hs21) (by (try dsimp only);(try simp only[sm',Nat.reduceAdd]);exact bk' 1 hn hlt)
  have hje:z[i].2.length≤j:=by omega
  rw[List.take_of_length_le hje] at hj2
  refine ZaQ<|ZaD<|ZaD<|Zba<|Zaz<|Zah<|Zav<|?_
  refine V' (Zay lk lki om om) pt ?_
  refine mw<|Zas<|ZaB<|?_
  refine lU' (i+1) (by (try dsimp only);refine⟨by omega,fun x hx=>?_⟩;rw[Zqo hi] at hx;rcases List.mem_append.1 hx with hx | hx;exact hk2 x hx;exact hj2 x hx) (by (try dsimp only);(try simp only[sm',Nat.reduceAdd]);exact bk' 0 hn hlt)
 rw[List.take_of_length_le om] at hk2
 refine ZaQ<|ZaD<|ZaD<|Zba<|w_end (rs0)<|?_
 exact⟨_,_,rfl,hn,hlt,rfl,rfl,by rw[List.find?_eq_none.2 (fun y hy=>by rw[hk2 y hy];simp)];rfl⟩
theorem miss2p_a {r:Rul}{x:Era}{id:Nat}{h:AH}(he:h[id]?=some (.mk 0 63 10 (eraC x))):ACalls Tryz.prog 216 [.agg (rulC r),.ptr id 0 0] h fun x' h'=>h'=h∧x'=.ret (bv (decide (r.1=xRl x))):=by
 obtain⟨n,f,t,m,⟨k,w,d⟩,a,c,s,lt⟩:=r
 refine tI' k216 fun N hn hlt hlA hbd=>?_
 simp only[tb'] at hbd ⊢
 refine wr'<|E' (Zbd cv rfl (hl0 hn) ha0) pt<|mw<|sn'<|wr'<|Vw (Zab lk)<|Vw (Zac lk gx gt0)<|Vw (Zab lk)<|Vw (Zac lk (ZdW he) gt1)<|Vw (ZcF lk lk)<|mw<|?_
 exact sn'<|Zaa<|Zae rz<|rT' rfl
abbrev srcB (a:List Rul) (z:List Zon) (k:List Lnk):List AV:=[.sl a.length 11 false (rows rulC a),.sl z.length 2 false (rows zonC z),.sl k.length 2 false (rows lnkC k)]
abbrev ergH (h:AH) (D l ty:Nat) (o:Obj) (T:List AV) (vs:List Value) (c:AV):AH:=h++[.gone,.mk 0 ty 1 [c],mkD D,.raw l o T vs]
abbrev ergJ (h:AH) (D l ty:Nat) (o:Obj) (T:List AV) (vs:List Value) (c:AV) (e f:Ent):AH:=h++[.gone,.mk 0 ty 1 [c],mkD D,.raw l o T vs,e,f]
theorem Zhd {h:AH}{D l ty:Nat}{o:Obj}{T:List AV}{vs:List Value}{c:AV}{e f:Ent}:ergH h D l ty o T vs c++[e,f]=ergJ h D l ty o T vs c e f:=by simp
theorem Zte {h:AH}{D l ty N:Nat}{o:Obj}{T:List AV}{vs:List Value}{c:AV}(hlt : ∀ e∈h,e.lt N=true) (hT:AV.ltL (N+4) T=true) (hc:c.lt (N+4)=true) : ∀ e∈ergH h D l ty o T vs c,e.lt (N+4)=true:=by
 intro e he
 rcases List.mem_append.1 he with he | he
 ·exact ltw om hlt e he
 simp only[List.mem_cons,List.not_mem_nil,or_false] at he
 rcases he with rfl | rfl | rfl | rfl
 ·simp[Ent.lt]
 ·simp[Ent.lt,AV.ltL,hc]
 ·simp[Ent.lt,AV.ltL]
 simpa [Ent.lt] using hT
def misP (a:List Rul) (x:Era):Bool:=decide (xRl x≠⟨#[]⟩)&&!a.any fun r=>decide (r.1=xRl x)
def Zjp (s:Src):Bool:=(s.2.2.any fun l=>decide (Zix s.2.1 l.1<0))||(Zdl s.2.1).any (misP s.1)
abbrev misT (N:Nat) (a:List Rul) (z:List Zon) (k:List Lnk) (x:AV):List AV:=[.any,.rp (srcB a z k),.ptr (N+1) 0 0,.any,.any,.any,.any,.any,.any,.clo (.func 217) [.rp (srcB a z k)],x,.any,.any,.any,.any,.any,.any,.any,.any,.any,.any]
theorem ZsH {N:Nat}{a:List Rul}{z:List Zon}{k:List Lnk}:AV.ltL (N+4) (misT N a z k .any)=true:=by simp[AV.ltL,AV.lt,Zbj,Zbs,Zbv]
theorem app61 {h:AH}{a b c d e f p:Ent}:h++[a,b,c,d,e,f,p]=(h++[a,b,c,d,e,f])++[p]:=by simp
theorem ZjT {h:AH}{lp N D:Nat}{rdy bsy fin:Obj}{a:List Rul}{z:List Zon}{k:List Lnk}{vs:List Value}(hn:h.length=N) (hlt : ∀ e∈h,e.lt N=true) (ha:a.length≤9223372036854775807)
  (hY:Zlm Tryz.prog fr134 (N+2+1) lp rdy bsy fin (misT N a z k .any) vs) {x:Era} {e f:Ent} :
  AYield Tryz.prog lp [.agg (eraC x)] (ergJ h D lp 4 rdy (misT N a z k .any) vs (bv false) e f) fun r h''=>r=.ret (.v (.bool (!misP a x)))∧h''=ergJ h D lp 4 (if misP a x=true then fin else rdy) (misT N a z k .any) vs (bv (misP a x)) e f:=by
 refine y_go hY (hga (k:=3) hn rfl) rfl fun n0 hn0 hlt0 q1 q2 q3=>?_
 have hm:n0=N+6:=by rw[←hn0];simp[hn]
 have hT0:=ZsH (N:=N) (a:=a) (z:=z) (k:=k)
 have hE:=hlt0 e (by simp)
 have hF:=hlt0 f (by simp)
 have hR:=hlt0 (.raw lp rdy (misT N a z k .any) vs) (by simp)
 show aw _ _ c134a _ _ _
 show aw _ _ _ _ (misT N a z k (.agg (eraC x))) (h++[.gone,.mk 0 4 1 [bv false],mkD D,.raw lp rdy (misT N a z k .any) vs,e,f])
 refine Zav<|E' (ZaV (hl6 hn) ha6) pt<|E' (Zak lk cv gx rfl (nb' rfl) rfl Zi2 (hs6 hn)) ptn<|Zas<|?_
 refine ZtG (i:=N+3) gx (hs3 hn) fun n1 hn1 hlt1=>?_
 have fin2 : ∀ (b:Bool) (o:Obj) (E:Ent),b=misP a x→o=(if misP a x=true then fin else rdy)→o.isCells=o.isCells→Ent.lt n0 (.raw lp o (misT N a z k .any) vs)=true → ∃ y z',h++[.gone,.mk 0 4 1 [bv b],mkD D,.raw lp o (misT N a z k .any) vs,e,f,E]=y++z'∧y.length=n0∧(∀ e∈y,e.lt n0=true)∧(AE.ret (.v (.bool (!b)))).lt n0=true∧AE.ret (.v (.bool (!b)))=.ret (.v (.bool (!misP a x)))∧y=ergJ h D lp 4 (if misP a x=true then fin else rdy) (misT N a z k .any) vs (bv (misP a x)) e f:=by
  rintro b o E rfl rfl _ hro
  refine⟨_,_,app61,by rw[←hn0];simp,fun y hy=>?_,rfl,rfl,rfl⟩
  rcases List.mem_append.1 hy with hy | hy
  ·exact ltw om hlt y hy
  simp only[List.mem_cons,List.not_mem_nil,or_false] at hy
  rcases hy with rfl | rfl | rfl | rfl | rfl | rfl
  ·simp[Ent.lt]
  ·simp[Ent.lt,AV.ltL,AV.lt]
  ·simp[Ent.lt,AV.ltL]
  ·exact hro
  ·exact hE
  exact hF
 have hro : ∀ o:Obj,Ent.lt n0 (.raw lp o (misT N a z k .any) vs)=true:=fun o=>by simpa [Ent.lt] using hR
 show aw _ _ c134b _ _ _
 refine Zap<|wr'<|Vw (Zab lk)<|Vw (Zac lk gx gt1)<|Vw (Zcr lk lks)<|mw<|?_
 refine sp' (t:=14) gt pt pt (fun hg14=>?_) (fun hg14=>?_)
 ·refine s_do gt<|Vw (ZbM lk dp0)<|s_do gt<|Vw (ZaE lk gt)<|s_do gt<|Vw (Zf8 mp)<|s_do gt<|?_
  refine Zad mp (Zmv (p:=fun r:Rul=>decide (r.1=xRl x)) (fun c _ E=>miss2p_a (ZdW gx)) ha) pt ?_
  refine s_do gt<|Vw (Zax lk)<|Vw (Zag lk lk)<|sn'<|?_
  refine Zaw lk (fun hc1=>?_) (fun hc1=>?_)
  ·have hP:misP a x=true:=by unfold misP;rw[Bool.and_eq_true];exact⟨decide_eq_true hg14,hc1⟩
   refine wr'<|E' (Zak lk (cvl lkb rfl) gx rfl (nb' rfl) rfl Zhj (hs1 hn)) ptn<|sn'<|Zaa<|Zaq<|?_
   refine ZpD (i:=N+3) gx (hs3 hn) (fin2 true fin _ hP.symm (by rw[if_pos hP]) rfl (hro _))
  have hP:misP a x=false:=by unfold misP;rw[Bool.and_eq_false_iff];exact .inr hc1
  refine Zaf<|Zaz<|?_
  exact ZiV (i:=N+3) gx (hs3 hn) (fin2 false rdy _ hP.symm (by rw[hP];rfl) rfl (hro _))
 have hP:misP a x=false:=by unfold misP;rw[Bool.and_eq_false_iff];exact .inl (decide_eq_false hg14)
 refine s_no gt pt<|s_no gt pt<|s_no gt pt<|s_no gt pt<|s_no gt pt<|Vw (Zaj lk lkb)<|sn'<|ZaM lk<|Zaf<|Zaz<|?_
 exact ZiV (i:=N+3) gx (hs3 hn) (fin2 false rdy _ hP.symm (by rw[hP];rfl) rfl (hro _))
theorem any_find {p:Era→Bool} {l:List Era}:(match l.find? p with | none=>false | some _=>true)=l.any p:=by
 induction l with
 | nil=>rfl
 | cons x l ih=>rw[List.find?_cons,List.any_cons];cases p x <;> simp[ih]
theorem ZsG {h:AH}{lp N D:Nat}{rdy bsy fin:Obj}{a:List Rul}{z:List Zon}{k:List Lnk}{vs:List Value}(hn:h.length=N) (hlt : ∀ e∈h,e.lt N=true) (ha:a.length≤9223372036854775807) (hz:z.length≤20) (hz2 : ∀ y∈z,y.2.length≤8)
    (hY:Zlm Tryz.prog fr134 (N+2+1) lp rdy bsy fin (misT N a z k .any) vs) (hl0:(k.any fun l=>decide (Zix z l.1<0))=false) {R:AE→AH→Prop} (hR:R=fun x h' => ∃ z',h'=h++z'∧x.lt N=true∧x=.ret (bv (Zjp (a,z,k)))) :
    ACalls Tryz.prog 217 (.v (.func (.yield lp) #[] #[])::[.rp (srcB a z k)]) (ergH h D lp 4 rdy (misT N a z k .any) vs (bv false)) fun r h3=>(∃ c,r=.ret c) ∧
      ((h3[N+2+1]?=some (.raw lp rdy (misT N a z k .any) vs) ∧ ∀ n0,(h3.set (N+2+1) .gone).length=n0→(∀ e∈h3.set (N+2+1) .gone,e.lt n0=true)→aw Tryz.prog n0 fr134.post (Ze0 fr134.res (N+2) D R) (misT N a z k .any) (h3.set (N+2+1) .gone)) ∨
       (h3[N+2+1]?=some (.raw lp fin (misT N a z k .any) vs)∧Ze0 fr134.res (N+2) D R .ret (misT N a z k .any) (h3.set (N+2+1) .gone))):=by
  have hmis:Zjp (a,z,k)=(Zdl z).any (misP a):=by unfold Zjp;rw[hl0,Bool.false_or]
  refine (Ztf (h:=ergH h D lp 4 rdy (misT N a z k .any) vs (bv false)) (p:=misP a) (hS:=fun _=>ergH h D lp 4 fin (misT N a z k .any) vs (bv true)) hz hz2 (fun _=>(hl4 hn).trans (hl4 hn).symm) (fun _=>by rw[hl4 hn];exact Zte hlt ZsH rfl) (fun x _ e f hp=>?_) (fun x _ e f hp=>?_)).mono ?_
  · have:=ZjT (e:=e) (f:=f) (D:=D) (x:=x) hn hlt ha hY
    rw[hp] at this
    rw[Zhd]
    exact this
  · have:=ZjT (e:=e) (f:=f) (D:=D) (x:=x) hn hlt ha hY
    rw[hp] at this
    rw[Zhd,Zhd]
    exact this
  rintro x h3 ⟨rfl,rfl⟩
  refine⟨⟨_,rfl⟩,?_⟩
  rw[←any_find] at hmis
  subst hR
  cases hf:(Zdl z).find? (misP a) with
  | none =>
    rw[hf] at hmis
    refine .inl ⟨hga (k:=3) hn rfl,fun n0 hn0 _=>?_⟩
    have hs:(ergH h D lp 4 rdy (misT N a z k .any) vs (bv false)).set (N+2+1) .gone=h++[.gone,.mk 0 4 1 [bv false],mkD D,.gone]:=hs3 hn
    show aw _ _ _ _ _ ((ergH h D lp 4 rdy (misT N a z k .any) vs (bv false)).set (N+2+1) .gone)
    rw[hs]
    show aw _ _ c134q _ _ _
    refine wr'<|E' (Zak lk (cvl lkb rfl) gx rfl (nb' rfl) rfl Zhj (hs1 hn)) ptn<|sn'<|Zam<|Zaa<|Zai<|?_
    refine ZdU gx (hs2 hn) (rs1 (rr_c gt gx (ld0 gt))) ?_
    refine rT' ?_
    rw[hmis]
  | some x =>
    rw[hf] at hmis
    refine .inr ⟨hga (k:=3) hn rfl,?_⟩
    have hs:(ergH h D lp 4 fin (misT N a z k .any) vs (bv true)).set (N+2+1) .gone=h++[.gone,.mk 0 4 1 [bv true],mkD D,.gone]:=hs3 hn
    show Ze0 _ _ _ _ _ _ ((ergH h D lp 4 fin (misT N a z k .any) vs (bv true)).set (N+2+1) .gone)
    rw[hs]
    exact ZdU (hga (k:=2) hn rfl) (hs2 hn) (rs1 (rr_c gt (hga (k:=1) hn rfl) (ld0 gt))) (rT' (by rw[hmis]))
theorem ZsF {a:List Rul}{z:List Zon}{k:List Lnk}{h:AH}(ha:a.length≤9223372036854775807) (hz:z.length≤20) (hz2 : ∀ y∈z,y.2.length≤8) (hk:k.length≤9223372036854775807):Ac 134 [.agg (srcB a z k)] h (bv (Zjp (a,z,k))):=by
 have hkk:=hk
 refine tR' k134 fun N hn hlt hlA hbd=>?_
 show aw _ _ c134p _ _ _
 show aw _ _ _ _ [.agg (srcB a z k),.any,.any,.any,.any,.any,.any,.any,.any,.any,.any,.any,.any,.any,.any,.any,.any,.any,.any,.any,.any] _
 refine wr'<|E' (Zbd cv rfl (hl0 hn) ha0) pt<|E' (ZaV (hl1 hn) ha1) pt<|Zas<|?_
 refine Za5 (ALe.icePtr gx gt1 (by simp) pt1 (hs0 hn)) ?_
 refine wr'<|Vw (ZbM lk dp2)<|Vw (ZaE lk gt)<|Vw (Zf8 mp)<|?_
 refine Zad mp (Zs2 (p:=fun l:Lnk=>decide (Zix z l.1<0)) (fun c _ _=>miss1_a om) hkk) pt ?_
 refine sn'<|Zam<|?_
 refine Zaw lk (fun hc1=>?_) (fun hc1=>?_)
 ·have hm:Zjp (a,z,k)=true:=by unfold Zjp;rw[show (k.any fun l=>decide (Zix z l.1<0))=true from hc1];rfl
  refine wr'<|E' (Zak lk (cvl lkb rfl) gx rfl (nb' rfl) rfl Zhj (hs1 hn)) ptn<|sn'<|Zaa<|Zai<|?_
  refine Ziv (rs1 (rr_c gt gx (ld0 gt))) ?_
  refine rT' ?_
  rw[hm]
 refine Zaf<|Zah<|wr'<|Vw (ZaI lk ZtT rfl)<|Zad mp (eras_a) pt<|sn'<|Zaf<|?_
 refine Zsn (T1:=misT N a z k .any) (ALe.same wA' rfl) rfl (hl2 hn) fun lp D rdy bsy fin vs hle hlT hY=>?_
 have hgo:=ZsG (D:=D) hn hlt ha hz hz2 hY hc1 rfl
 rw[show (h++[Ent.gone,Ent.mk 0 4 1 [bv false]]++[mkD D,Ent.raw lp rdy (misT N a z k .any) vs]:AH)=ergH h D lp 4 rdy (misT N a z k .any) vs (bv false) by simp]
 exact hgo
end Go.Proofs.YtlekejpogddndaaGreatDoor
end
section
namespace Go.Proofs.YtlekejpogddndaaGreatDoor
open Go.Ab Go.Sort
def bsL (l:List ByteArray):List Bs:=l.map aB
def sbL (l:List Bs):List ByteArray:=l.map bA
theorem sb_bs (l:List ByteArray):sbL (bsL l)=l:=by
 unfold sbL bsL;rw[List.map_map]
 have:(bA ∘ aB)=id:=by funext z;rfl
 rw[this,List.map_id]
theorem ZkR (l:List Bs):rows strC (sbL l)=(l.map encStr).map .v:=by
 unfold sbL
 induction l with
 | nil=>rfl
 | cons x l ih=>rw[List.map_cons,List.map_cons,List.map_cons,←ih];rfl
theorem Zd9 (l:List ByteArray):rows strC l=((bsL l).map encStr).map .v:=by rw[←ZkR,sb_bs]
def Zep (l:List ByteArray):List ByteArray:=sbL ((bsL l).mergeSort fun x y=>decide (x≤y))
def ZfC (l:List ByteArray):List Bs:=Lib.compact (bsL l)
theorem ZrY (l:List ByteArray):(Zep l).length=l.length:=by simp[Zep,sbL,bsL]
theorem ZrX {l:List ByteArray}{id v ty:Nat}{h:AH}(he:h[id]?=some (.mk v ty 1 (rows strC l))) (h0:l≠[]) (hl:l.length<4611686018427387904) :
  ACalls Tryz.prog 211 [.own id v l.length] h fun r h'=>r=.ret (.tup [])∧h'=h.set id (.mk v ty 1 (rows strC (Zep l))):=by
 refine ACalls.of_turnR (by kernel_rfl) he ?_ ?_
 ·rw[Zd9];simpa [bsL] using h0
 ·intro w g vs b cap arr hs ha hloc hb hsz hle hr
  simp only[RepL,Rep,hloc] at ha
  obtain⟨u1,us1,e1,⟨A,c,e2,hn1,hn2,rfl⟩,rfl⟩:=ha
  simp only[Option.some.injEq,Prod.mk.injEq] at e2
  obtain⟨rfl,rfl⟩:=e2
  obtain rfl:vs = #[.slice (some ⟨b,0,none⟩) l.length cap]:=by cases vs;simp_all
  have hlen:(rows strC l).length=(bsL l).length:=by rw[Zd9];simp
  have hbl:(bsL l).length=l.length:=by simp[bsL]
  rw[hlen] at hr hle
  rw[Zd9] at hr
  have hr2:=ZkT.1 hr
  have hb':b<w.heap.size:=(Array.getElem?_eq_some_iff.1 hb).1
  have:=Tryz.slices_Sort_string b 0 cap (bsL l) w (holds_of_block hb hr2) hb' (by rw[hbl];exact hl)
  rw[hbl] at this
  refine this.mono ?_
  rintro e w' ⟨rfl,n,os,rfl⟩
  obtain⟨q1,q2,q3,q4,q5⟩:=grownBy_sorted (w:=w) (g:=b) (n:=n) (os:=os) ((bsL l).mergeSort fun x y=>decide (x≤y)).toArray
  have hml:((bsL l).mergeSort fun x y=>decide (x≤y)).length=(bsL l).length:=List.length_mergeSort _
  refine⟨_,((bsL l).mergeSort fun x y=>decide (x≤y)).map encStr,_,rfl,by unfold Zep;rw[ZkR],heap_sorted _ hb,by simp[putCells],by rw[hlen];simp,?_,q1,q2,q3,q4,fun k hk hne=>q5 k hk (by simpa using hne),?_⟩
  ·rw[hlen,←hml]
   exact take_putCells arr _ (by rw[hml];exact hle)
  ·simp only[Rep];exact⟨#[],rfl,by simp only[RepL]⟩
theorem Ztu {l:List ByteArray}{id v ty:Nat}{h:AH}(he:h[id]?=some (.mk v ty 1 (rows strC l))) (h0:l≠[]) (hl:l.length≤9223372036854775807) :
  ACalls Tryz.prog 212 [.own id v l.length] h fun r h'=>r=.ret (.own id v (ZfC l).length)∧h'=h.set id (.mk v ty 1 (rows strC (sbL (ZfC l++List.replicate ((bsL l).length-(ZfC l).length) [])))):=by
 refine ACalls.of_turnR (by kernel_rfl) he ?_ ?_
 ·rw[Zd9];simpa [bsL] using h0
 ·intro w g vs b cap arr hs ha hloc hb hsz hle hr
  simp only[RepL,Rep,hloc] at ha
  obtain⟨u1,us1,e1,⟨A,c,e2,hn1,hn2,rfl⟩,rfl⟩:=ha
  simp only[Option.some.injEq,Prod.mk.injEq] at e2
  obtain⟨rfl,rfl⟩:=e2
  obtain rfl:vs = #[.slice (some ⟨b,0,none⟩) l.length cap]:=by cases vs;simp_all
  have hlen:(rows strC l).length=(bsL l).length:=by rw[Zd9];simp
  have hbl:(bsL l).length=l.length:=by simp[bsL]
  rw[hlen] at hr hle
  rw[Zd9] at hr
  have hr2:=ZkT.1 hr
  have hcl:(ZfC l).length≤(bsL l).length:=Lib.compact_length_le _
  have:=Tryz.slices_Compact_string b 0 cap (bsL l) w (holds_of_block hb hr2) (by rw[hbl];exact hl) (by rw[hbl];omega)
  rw[hbl] at this
  refine this.mono ?_
  rintro e w' ⟨rfl,q,rfl⟩
  have e0:putRow encStr (Sort.ahead w q) b 0 (Lib.compact (bsL l)++List.replicate (l.length-(Lib.compact (bsL l)).length) []).toArray=grow (putRow encStr (Sort.ahead w q) b 0 (ZfC l++List.replicate ((bsL l).length-(ZfC l).length) []).toArray) #[]:=by rw[grow_empty,hbl];rfl
  rw[e0]
  obtain⟨q1,q2,q3,q4,q5⟩:=grownBy_sorted (w:=w) (g:=b) (n:=q) (os := #[]) (ZfC l++List.replicate ((bsL l).length-(ZfC l).length) []).toArray
  have hml:(ZfC l++List.replicate ((bsL l).length-(ZfC l).length) []).length=(bsL l).length:=by rw[List.length_append,List.length_replicate];omega
  refine⟨_,(ZfC l++List.replicate ((bsL l).length-(ZfC l).length) []).map encStr,_,rfl,by rw[ZkR],heap_sorted _ hb,by simp[putCells],by rw[hlen,List.length_map,hml],?_,q1,q2,q3,q4,fun k hk hne=>q5 k hk (by simpa using hne),?_⟩
  ·rw[hlen]
   exact (congrArg (fun n=>List.take n _) hml.symm).trans (take_putCells arr _ (by rw[hml];exact hle))
  ·simp only[Rep];exact⟨_,_,hloc,by omega,hn2,rfl⟩
theorem Zno {l:List ByteArray}{id v ty:Nat}{h:AH}(he:h[id]?=some (.mk v ty 1 (rows strC l))) (hl:l.length<4611686018427387904) :
  ACalls Tryz.prog 211 [.own id v l.length] h fun r h'=>r=.ret (.tup [])∧h'=h.set id (.mk v ty 1 (rows strC (Zep l))):=by
 by_cases h0:l=[]
 ·subst h0
  refine⟨by kernel_rfl,fun w g vs hs ha=>?_⟩
  simp only[RepL,Rep] at ha
  obtain⟨val,us,e,⟨A,cap,e1,e2,e3,rfl⟩,rfl⟩:=ha
  obtain rfl:vs = #[.slice A 0 cap]:=by cases vs;simp_all
  refine (Tryz.slices_Sort_string_none A cap w).mono ?_
  rintro e w' ⟨rfl,rfl⟩
  refine⟨.ret (.tup []),h,g,?_,hs,Gh.le.refl g,Fr.refl _ _,fun k hk=>.inl hk,rfl,?_⟩
  ·exact (by simp only[EndR,Rep];exact⟨#[],rfl,by simp[RepL]⟩)
  ·rw[show Zep []=[] by simp[Zep,bsL,sbL]]
   exact (ZcT he).symm
 ·exact ZrX he h0 hl
theorem Zn7 {l:List ByteArray}{id v ty:Nat}{h:AH}(he:h[id]?=some (.mk v ty 1 (rows strC l))) (hl:l.length≤9223372036854775807) :
  ACalls Tryz.prog 212 [.own id v l.length] h fun r h'=>r=.ret (.own id v (ZfC l).length)∧h'=h.set id (.mk v ty 1 (rows strC (sbL (ZfC l++List.replicate ((bsL l).length-(ZfC l).length) [])))):=by
 by_cases h0:l=[]
 ·subst h0
  refine⟨by kernel_rfl,fun w g vs hs ha=>?_⟩
  simp only[RepL,Rep] at ha
  obtain⟨val,us,e,⟨A,cap,e1,e2,e3,rfl⟩,rfl⟩:=ha
  obtain rfl:vs = #[.slice A 0 cap]:=by cases vs;simp_all
  refine (Tryz.slices_Compact_string_empty A cap w).mono ?_
  rintro e w' ⟨rfl,rfl⟩
  refine⟨.ret (.own id v 0),h,g,?_,hs,Gh.le.refl g,Fr.refl _ _,fun k hk=>.inl hk,rfl,?_⟩
  ·exact (by simp only[EndR,Rep];exact⟨A,cap,e1,Nat.zero_le _,e3,rfl⟩)
  ·exact (ZcT he).symm
 ·exact Ztu he h0 hl
theorem le_tr (a b c:Bs):a≤b→b≤c→a≤c:=fun h1 h2=>List.le_trans h1 h2
theorem ZrC {l:List ByteArray}:decide ((ZfC (Zep l)).length<l.length)=decide (¬l.Nodup):=by
 have hperm:(bsL (Zep l)).Perm (bsL l):=by
  have:bsL (Zep l)=(bsL l).mergeSort fun x y=>decide (x≤y):=by
   unfold Zep sbL bsL
   rw[List.map_map]
   have:(aB ∘ bA)=id:=by funext z;simp[aB,bA]
   rw[this,List.map_id]
  rw[this];exact List.mergeSort_perm _ _
 have hsort:(bsL (Zep l)).Pairwise (· ≤ ·):=by
  have e:bsL (Zep l)=(bsL l).mergeSort fun x y=>decide (x≤y):=by
   unfold Zep sbL bsL
   rw[List.map_map]
   have:(aB ∘ bA)=id:=by funext z;simp[aB,bA]
   rw[this,List.map_id]
  rw[e]
  have h:=List.pairwise_mergeSort (le:=fun a b:Bs=>decide (a≤b)) (fun a b c h1 h2=>by simp only[decide_eq_true_eq] at *;exact le_tr _ _ _ h1 h2) (fun a b=>by simp only[Bool.or_eq_true,decide_eq_true_eq];exact List.le_total a b) (bsL l)
  exact h.imp fun h=>by simpa using h
 have hnd:l.Nodup↔(bsL (Zep l)).Nodup:=by
  rw[hperm.nodup_iff]
  unfold bsL
  constructor
  ·intro h
   exact List.pairwise_map.2 (h.imp fun hne e=>hne (by have:=congrArg bA e;exact this))
  ·intro h
   exact (List.pairwise_map.1 h).imp fun hne e=>hne (by rw[e])
 have hlen:(bsL (Zep l)).length=l.length:=by rw[hperm.length_eq];simp[bsL]
 rw[Bool.eq_iff_iff,decide_eq_true_iff,decide_eq_true_iff,hnd,←hlen]
 show (Lib.compact (bsL (Zep l))).length<_↔_
 generalize bsL (Zep l)=L at hsort
 have e:(Lib.compact L).length=((List.range L.length).filter (Lib.keeps L.toArray)).length:=by unfold Lib.compact Lib.compactUpTo;rw[List.length_map]
 rw[e]
 have hr:L.length=(List.range L.length).length:=by simp
 conv=>lhs;rhs;rw[hr]
 rw[List.length_filter_lt_length_iff_exists]
 have hget : ∀ j (h:j<L.length),L.toArray[j]! = L[j]:=fun j h=>by simp[h]
 constructor
 ·rintro⟨j,hj,hk⟩ hnd
  have hj:=List.mem_range.1 hj
  unfold Lib.keeps at hk
  simp only[decide_eq_true_eq,not_or,Decidable.not_not] at hk
  obtain⟨h0,h1⟩:=hk
  rw[hget j hj,hget (j-1) om] at h1
  exact List.pairwise_iff_getElem.1 hnd (j-1) j om hj om h1.symm
 ·intro hnd
  refine Decidable.byContradiction fun hne=>hnd (List.pairwise_iff_getElem.2 fun i j hi hj hij e=>hne ⟨j,List.mem_range.2 hj,?_⟩)
  unfold Lib.keeps
  simp only[decide_eq_true_eq,not_or,Decidable.not_not]
  refine⟨by omega,?_⟩
  rw[hget j hj,hget (j-1) om]
  have h1:L[j-1]≤L[j]:=List.pairwise_iff_getElem.1 hsort (j-1) j om hj om
  have h2:L[i]≤L[j-1]:=by
   by_cases hh:i=j-1
   ·subst hh;exact List.le_refl _
   ·exact List.pairwise_iff_getElem.1 hsort i (j-1) hi om om
  rw[←e] at h1
  rw[←e]
  exact List.le_antisymm h2 h1
end Go.Proofs.YtlekejpogddndaaGreatDoor
end
section
namespace Go.Proofs.YtlekejpogddndaaGreatDoor
open Go.Ab Go.RowKit Civ
attribute [local simp] Zbj Zby Zbs Zbv Zb3 Zdd ZbU
section
theorem ZgK {a0 a1:AV}{l:List AV}:(a0::a1::l).take 2=[a0,a1]:=rfl
theorem Zfu {a0 a1 c0 c1:AV}{l:List AV}:setCells (a0::a1::l) 0 [c0,c1]=c0::c1::l:=rfl
theorem ZgN {τ:Operand→AV}{y0:Operand}{x0_0:AV}(h0:Zat (τ y0)=some [x0_0]) (l0:[x0_0].all leaf=true):Zar τ [(0,1,y0)] [(.v (.string ⟨#[]⟩))]=some [x0_0]:=by
 simp only[Zar,h0,l0]
 rfl
theorem ZgL {a0:AV}{l:List AV}:(a0::l).take 1=[a0]:=rfl
theorem ZgM {τ:Operand→AV}{y0:Operand}{x0_0:AV}(h0:Zat (τ y0)=some [x0_0]) (l0:[x0_0].all leaf=true):Zar τ [(0,1,y0)] [(.v (.string ⟨#[]⟩))]=some [x0_0]:=by
 simp only[Zar,h0,l0]
 rfl
theorem ZmQ {a0 a1 a2:AV}{l:List AV}:(a0::a1::a2::l).take 3=[a0,a1,a2]:=rfl
end
def c210:AC:=(Sr [Oo 1 (.box 26 3 (.tmp 0)),Oo 2 (.mv (.const (.slice none 0 0)))] (Sr [Oo 3 (.mv (.const (.slice none 0 0)))] (.seq (Sr [Fa 8 1 1,Ld 9 8,Oo 10 (.len false (.tmp 9)),Mc 11 0] (.block 0 (.loop (Sr [Bn 12 .lss 11 10] (.seq (Cd 12 .skip (.exit 0)) (.seq (.block 1 (Sr [Oo 13 (.ia 2 (.tmp 9) (.tmp 11)),Oo 14 (.load true 2 (.tmp 13)),Oo 5 (.new 53 2 [Ss,(.sl 0 0 true [])]),⟨none,none,(.store 2 (.tmp 5) (.tmp 14))⟩] (.reg [Mv 15 3,Fa 16 0 5,Ld 17 16,Oo 18 (.lit 9 1 1 [Ss] [(0,(1,(.tmp 17)))]),Oo 19 (.app 9 1 16 (.tmp 15) (.tmp 18)),Mv 3 19]))) (.reg [Bc 20 .add 11 1,Mv 11 20]))))))) (.seq (Sr [Fa 21 2 1,Ld 22 21,Oo 23 (.len false (.tmp 22)),Mc 24 0] (.block 2 (.loop (Sr [Bn 25 .lss 24 23] (.seq (Cd 25 .skip (.exit 2)) (.seq (.block 3 (Sr [Oo 26 (.ia 2 (.tmp 22) (.tmp 24)),Oo 27 (.load true 2 (.tmp 26)),Oo 7 (.new 129 2 [Ss,Ss]),⟨none,none,(.store 2 (.tmp 7) (.tmp 27))⟩] (.reg [Mv 28 3,Fa 29 1 7,Ld 30 29,Oo 31 (.lit 9 1 1 [Ss] [(0,(1,(.tmp 30)))]),Oo 32 (.app 9 1 16 (.tmp 28) (.tmp 31)),Mv 3 32]))) (.reg [Bc 33 .add 24 1,Mv 24 33]))))))) (Sr [Mv 34 3,Mv 2 34] .ret)))))
theorem k210:ZaA Tryz.prog 210=some ⟨c210,[(.tmp 2)],35⟩:=by kernel_rfl
def c133:AC:=(Sr [Oo 1 (.box 26 3 (.tmp 0)),Mb 2 false] (Sr [Oo 4 (.load true 3 (.tmp 1)),Cl 5 210 [(.tmp 4)],Mv 3 5] (Sr [Mv 6 3,Cl 7 211 [(.tmp 6)]] (.seq (.drwU [[],[],[],[0,1,2],[2],[2],[],[]] [Mv 8 3,Cl 9 212 [(.tmp 8)],Oo 10 (.len false (.tmp 9)),Oo 11 (.load true 3 (.tmp 1)),Cl 12 210 [(.tmp 11)],Oo 13 (.len false (.tmp 12)),Bn 14 .lss 10 13,Mv 2 14]) .ret))))
theorem k133:Zj9 Tryz.prog 133=some ⟨c133,[(.tmp 2)],15⟩:=by kernel_rfl
def Zdp (z:List Zon) (k:List Lnk):List ByteArray:=z.map (·.1)++k.map (·.2)
theorem Zg9 (z:List Zon) (k:List Lnk):(Zdp z k).length=z.length+k.length:=by simp[Zdp]
theorem ZkJ (x:ByteArray):rows strC [x]=[sv x]:=rfl
theorem names_o {a:List Rul}{z:List Zon}{k:List Lnk}{h:AH}{q:Nat}(hq:h.length+1=q) (hz:z.length≤20) (hk:k.length≤20):ACalls Tryz.prog 210 [.agg (srcB a z k)] h fun x h'=>x=.ret (.own q (Zdp z k).length (Zdp z k).length)∧h'=h++[.mk 0 26 3 (srcB a z k),.mk (Zdp z k).length 9 1 (rows strC (Zdp z k))]:=by
 have hnl:=Zg9 z k
 have hkk:=hk
 refine tN' k210 fun N hn hlt hlA hbd=>?_
 simp only[tb'] at hbd ⊢
 refine wr'<|E' (Zbd (cvl lk0 rfl) rfl (hl0 hn) ha0) pt1<|mv' lkn pt2<|sn'<|wr'<|mv' lkn pt3<|Zas<|Za5 (ALe.own0' (st':=1) (ty:=9) gt3 (hl1 hn) pt3 ha1)<|Zam<|wr'<|?_
 refine Vw (Zab lk)<|Vw (Zac lk gx gt1)<|Vw (ZaL lk)<|mw<|sn'<|Zap<|?_
 refine w_lp (ι:=Nat) (fun (i:Nat)=>[(3,.own (N+1) i i),(11,iv (i:Int)),(5,.any)]++rn' 12 9) (fun (i:Nat)=>[(1,.mk i 9 1 (rows strC ((z.map (·.1)).take i)))]) (fun (i:Nat)=>i≤z.length) (fun (i:Nat)=>z.length-i) (0) (by exact Nat.zero_le _) ?_
 rintro i hi1
 try simp only[sm',Nat.reduceAdd]
 replace hi1:i≤z.length:=hi1
 have htl:((z.map (·.1)).take i).length=i:=by rw[List.length_take,List.length_map];omega
 refine wr'<|Vw (Zbb lk lk)<|sn'<|Zam<|?_
 refine cd' lk (fun hc1=>?_) (fun hc1=>?_)
 ·have hi:i<z.length:=by omega
  have htk:(z.map (·.1)).take (i+1)=(z.map (·.1)).take i++[z[i].1]:=by rw[List.take_succ_eq_append_getElem (by simpa using hi)];simp
  refine Zaf<|Zah<|Zam<|Zap<|wr'<|?_
  refine V' (Za0 lk lk ZcO (nb' rfl) ro om ro rfl) pt ?_
  refine Vw (ZaI lk ZgK rfl)<|E' (ZaV (hl2 hn) ha2) pt<|E' (Zak lk cv gx rfl (nb' rfl) rfl Zfu (hs2 hn)) ptn<|sn'<|Zav<|mw<|Vw (Zab lk)<|Vw (Zac lk gx gt0)<|E' (Zdm (ZgN cv rfl) (hl3 hn) ha3) pt<|?_
  refine E' (Zdn (Zcs lk gx rfl ZgL (nb' rfl)) lk gx ((Zeo _).trans (by rw[htl])) om rfl (hs1 hn)) pt ?_
  refine mw<|Zas<|Zaz<|Zah<|Zav<|?_
  refine V' (Zay lk lki om om) pt ?_
  refine mw<|Zas<|ZaB<|?_
  refine lU' (i+1) (by (try dsimp only);omega) (by (try dsimp only);(try simp only[sm',Nat.reduceAdd]);exact bk' 2 hn hlt (by rw[htk,ZaZ,ZkJ];rfl))
 have hie:i=z.length:=by omega
 subst hie
 rw[show (z.map (·.1)).take z.length=z.map (·.1) from List.take_of_length_le (by simp)]
 refine ZaQ<|ZaD<|ZaD<|Zba<|Zah<|Zam<|wr'<|Vw (Zab lk)<|Vw (Zac lk gx gt2)<|Vw (ZaL lk)<|mw<|sn'<|?_
 refine Zap ?_
 refine Zhs (ι:=Nat) (fun (j:Nat)=>[(3,.own (N+1) (z.length+j) (z.length+j)),(24,iv (j:Int)),(7,.any)]++rn' 25 9) (fun (j:Nat)=>[(1,.mk (z.length+j) 9 1 (rows strC (z.map (·.1)++(k.map (·.2)).take j)))]) (fun (j:Nat)=>j≤k.length) (fun (j:Nat)=>k.length-j) (0) (by exact Nat.zero_le _) (by try simp only[sm',Nat.reduceAdd];exact ALe.same wA' (by rw[List.take_zero,List.append_nil];rfl)) ?_
 rintro j hi2
 try simp only[sm',Nat.reduceAdd]
 replace hi2:j≤k.length:=hi2
 have htl2:(z.map (·.1)++(k.map (·.2)).take j).length=z.length+j:=by rw[List.length_append,List.length_map,List.length_take,List.length_map];omega
 refine wr'<|Vw (Zbb lk lk)<|sn'<|Zam<|?_
 refine cd' lk (fun hc2=>?_) (fun hc2=>?_)
 ·have hj:j<k.length:=by omega
  have htk2:(k.map (·.2)).take (j+1)=(k.map (·.2)).take j++[k[j].2]:=by rw[List.take_succ_eq_append_getElem (by simpa using hj)];simp
  refine Zaf<|Zah<|Zam<|Zap<|wr'<|?_
  refine V' (Za0 lk lk ZdV (nb' rfl) ro om ro rfl) pt ?_
  refine Vw (ZaI lk ZgK rfl)<|E' (ZaV (hl2 hn) ha2) pt<|E' (Zak lk cv gx rfl (nb' rfl) rfl Zfu (hs2 hn)) ptn<|sn'<|Zav<|mw<|Vw (Zab lk)<|Vw (Zac lk gx gt1)<|E' (Zdm (ZgM cv rfl) (hl3 hn) ha3) pt<|?_
  refine E' (Zdn (Zcs lk gx rfl ZgL (nb' rfl)) lk gx ((Zeo _).trans (by rw[htl2])) om rfl (hs1 hn)) pt ?_
  refine mw<|Zas<|Zaz<|Zah<|Zav<|?_
  refine V' (Zay lk lki om om) pt ?_
  refine mw<|Zas<|ZaB<|?_
  refine lU' (j+1) (by (try dsimp only);omega) (by (try dsimp only);(try simp only[sm',Nat.reduceAdd]);exact bk' 2 hn hlt (by simp only[htk2,ZaZ,ZkJ,List.append_assoc];rfl))
 have hje:j=k.length:=by omega
 subst hje
 rw[show (k.map (·.2)).take k.length=k.map (·.2) from List.take_of_length_le (by simp)]
 refine ZaQ<|ZaD<|ZaD<|Zba<|Zah<|wr'<|mw<|mw<|sn'<|Zaa<|Zae rz<|?_
 rw[←hq,hnl,hn];exact⟨rfl,rfl⟩
theorem names_q {a:List Rul}{z:List Zon}{k:List Lnk}{h:AH}(hz:z.length≤20) (hk:k.length≤20):Ac 210 [.agg (srcB a z k)] h (.sl (Zdp z k).length 1 false (rows strC (Zdp z k))):=by
 have hnl:=Zg9 z k
 have hkk:=hk
 refine tW' k210 fun N hn hlt hlA hbd=>?_
 simp only[tb'] at hbd ⊢
 refine wr'<|E' (Zbd (cvl lk0 rfl) rfl (hl0 hn) ha0) pt1<|mv' lkn pt2<|sn'<|wr'<|mv' lkn pt3<|Zas<|Za5 (ALe.own0' (st':=1) (ty:=9) gt3 (hl1 hn) pt3 ha1)<|Zam<|wr'<|?_
 refine Vw (Zab lk)<|Vw (Zac lk gx gt1)<|Vw (ZaL lk)<|mw<|sn'<|Zap<|?_
 refine w_lp (ι:=Nat) (fun (i:Nat)=>[(3,.own (N+1) i i),(11,iv (i:Int)),(5,.any)]++rn' 12 9) (fun (i:Nat)=>[(1,.mk i 9 1 (rows strC ((z.map (·.1)).take i)))]) (fun (i:Nat)=>i≤z.length) (fun (i:Nat)=>z.length-i) (0) (by exact Nat.zero_le _) ?_
 rintro i hi1
 try simp only[sm',Nat.reduceAdd]
 replace hi1:i≤z.length:=hi1
 have htl:((z.map (·.1)).take i).length=i:=by rw[List.length_take,List.length_map];omega
 refine wr'<|Vw (Zbb lk lk)<|sn'<|Zam<|?_
 refine cd' lk (fun hc1=>?_) (fun hc1=>?_)
 ·have hi:i<z.length:=by omega
  have htk:(z.map (·.1)).take (i+1)=(z.map (·.1)).take i++[z[i].1]:=by rw[List.take_succ_eq_append_getElem (by simpa using hi)];simp
  refine Zaf<|Zah<|Zam<|Zap<|wr'<|?_
  refine V' (Za0 lk lk ZcO (nb' rfl) ro om ro rfl) pt ?_
  refine Vw (ZaI lk ZgK rfl)<|E' (ZaV (hl2 hn) ha2) pt<|E' (Zak lk cv gx rfl (nb' rfl) rfl Zfu (hs2 hn)) ptn<|sn'<|Zav<|mw<|Vw (Zab lk)<|Vw (Zac lk gx gt0)<|E' (Zdm (ZgN cv rfl) (hl3 hn) ha3) pt<|?_
  refine E' (Zdn (Zcs lk gx rfl ZgL (nb' rfl)) lk gx ((Zeo _).trans (by rw[htl])) om rfl (hs1 hn)) pt ?_
  refine mw<|Zas<|Zaz<|Zah<|Zav<|?_
  refine V' (Zay lk lki om om) pt ?_
  refine mw<|Zas<|ZaB<|?_
  refine lU' (i+1) (by (try dsimp only);omega) (by (try dsimp only);(try simp only[sm',Nat.reduceAdd]);exact bk' 2 hn hlt (by rw[htk,ZaZ,ZkJ];rfl))
 have hie:i=z.length:=by omega
 subst hie
 rw[show (z.map (·.1)).take z.length=z.map (·.1) from List.take_of_length_le (by simp)]
 refine ZaQ<|ZaD<|ZaD<|Zba<|Zah<|Zam<|wr'<|Vw (Zab lk)<|Vw (Zac lk gx gt2)<|Vw (ZaL lk)<|mw<|sn'<|?_
 refine Zap ?_
 refine Zhs (ι:=Nat) (fun (j:Nat)=>[(3,.own (N+1) (z.length+j) (z.length+j)),(24,iv (j:Int)),(7,.any)]++rn' 25 9) (fun (j:Nat)=>[(1,.mk (z.length+j) 9 1 (rows strC (z.map (·.1)++(k.map (·.2)).take j)))]) (fun (j:Nat)=>j≤k.length) (fun (j:Nat)=>k.length-j) (0) (by exact Nat.zero_le _) (by try simp only[sm',Nat.reduceAdd];exact ALe.same wA' (by rw[List.take_zero,List.append_nil];rfl)) ?_
 rintro j hi2
 try simp only[sm',Nat.reduceAdd]
 replace hi2:j≤k.length:=hi2
 have htl2:(z.map (·.1)++(k.map (·.2)).take j).length=z.length+j:=by rw[List.length_append,List.length_map,List.length_take,List.length_map];omega
 refine wr'<|Vw (Zbb lk lk)<|sn'<|Zam<|?_
 refine cd' lk (fun hc2=>?_) (fun hc2=>?_)
 ·have hj:j<k.length:=by omega
  have htk2:(k.map (·.2)).take (j+1)=(k.map (·.2)).take j++[k[j].2]:=by rw[List.take_succ_eq_append_getElem (by simpa using hj)];simp
  refine Zaf<|Zah<|Zam<|Zap<|wr'<|?_
  refine V' (Za0 lk lk ZdV (nb' rfl) ro om ro rfl) pt ?_
  refine Vw (ZaI lk ZgK rfl)<|E' (ZaV (hl2 hn) ha2) pt<|E' (Zak lk cv gx rfl (nb' rfl) rfl Zfu (hs2 hn)) ptn<|sn'<|Zav<|mw<|Vw (Zab lk)<|Vw (Zac lk gx gt1)<|E' (Zdm (ZgM cv rfl) (hl3 hn) ha3) pt<|?_
  refine E' (Zdn (Zcs lk gx rfl ZgL (nb' rfl)) lk gx ((Zeo _).trans (by rw[htl2])) om rfl (hs1 hn)) pt ?_
  refine mw<|Zas<|Zaz<|Zah<|Zav<|?_
  refine V' (Zay lk lki om om) pt ?_
  refine mw<|Zas<|ZaB<|?_
  refine lU' (j+1) (by (try dsimp only);omega) (by (try dsimp only);(try simp only[sm',Nat.reduceAdd]);exact bk' 2 hn hlt (by simp only[htk2,ZaZ,ZkJ,List.append_assoc];rfl))
 have hje:j=k.length:=by omega
 subst hje
 rw[show (k.map (·.2)).take k.length=k.map (·.2) from List.take_of_length_le (by simp)]
 refine ZaQ<|ZaD<|ZaD<|Zba<|?_
 refine Za5 (ALe.iceR gx gt3 (List.take_of_length_le (by rw[Zeo];simp)) (by rw[Zeo];simp) pt3 (hs1 hn)) ?_
 refine wr'<|mw<|mw<|sn'<|Zaa<|Zae rz<|rtW'<|?_
 rw[hnl];exact Wk.full
theorem twice_a {a:List Rul}{z:List Zon}{k:List Lnk}{h:AH}(hz:z.length≤20) (hk:k.length≤20):Ac 133 [.agg (srcB a z k)] h (bv (decide (¬(Zdp z k).Nodup))):=by
 have hnl:=Zg9 z k
 have hsl:=ZrY (Zdp z k)
 refine tU' k133 fun N hn hlt hlA hbd=>?_
 simp only[tb'] at hbd ⊢
 refine wr'<|E' (Zbd cv rfl (hl0 hn) ha0) pt<|mw<|Zas<|?_
 refine Za5 (ALe.icePtr gx gt1 (by simp) pt1 (hs0 hn)) ?_
 refine wr'<|Vw (ZaI lk ZmQ rfl)<|?_
 refine s_callh mp ((names_o (q:=N+2) (by rw[hl1 hn]) hz hk).mono (fun x h' hh=>⟨hh.1,hh.2.trans (show _=h++[_,_,_] from List.append_assoc _ _ _)⟩)) pt ?_
 refine mw<|sn'<|wr'<|mw<|?_
 refine ZaO mp (Zno gx om) (hs2 hn) pt ?_
 refine sn'<|Zam<|Zb2<|u_fr rfl (v_mv lk) pt<|?_
 refine Zc0 mp gx (fun hU hUe=>(by have:=Zn7 (h:=hU) (l:=Zep (Zdp z k)) hUe om;rwa [hsl] at this)) nh (hs2 hn) pt ?_
 refine u_fr rfl (ZcW lk) pt<|u_fr rfl (ZaI lk ZmQ rfl) pt<|?_
 refine u_callF mp (fun hU=>names_q hz hk) pt ?_
 refine u_fr rfl (ZaL lk) pt<|u_fr rfl (Zbb lk lk) pt<|u_fr rfl (v_mv lk) pt<|Zc8<|Zah<|Zaa<|Zae rz<|rT'<|?_
 exact bvx (by rw[←ZrC];simp)
end Go.Proofs.YtlekejpogddndaaGreatDoor
end
section
namespace Go.Proofs.YtlekejpogddndaaGreatDoor
open Go.Ab Go.RowKit Civ
attribute [local simp] Zbj Zby Zbs Zbv Zb3 Zdd Zd5
section
theorem Zot {a0 a1 a2 a3 a4 a5 a6 a7 a8 a9 c0 c1 c2 c3 c4 c5 c6 c7 c8 c9:AV}{l:List AV}:setCells (a0::a1::a2::a3::a4::a5::a6::a7::a8::a9::l) 0 [c0,c1,c2,c3,c4,c5,c6,c7,c8,c9]=c0::c1::c2::c3::c4::c5::c6::c7::c8::c9::l:=rfl
theorem Zdz {a0 c0:AV}{l:List AV}:setCells (a0::l) 0 [c0]=c0::l:=rfl
theorem ZgJ {a0 a1 a2:AV}{l:List AV}:(a0::a1::a2::l).take 3=[a0,a1,a2]:=rfl
end
def c65p:AC:=(.seq (.reg [⟨(some 1),none,(.box 26 3 (.tmp 0))⟩,⟨(some 2),none,(.new 30 1 [(.v (.int .i64 0))])⟩]) (.seq (.reg [⟨(some 7),none,(.load true 3 (.tmp 1))⟩,⟨(some 8),none,(.call (.func 132) [(.tmp 7)])⟩,⟨(some 3),none,(.mv (.tmp 8))⟩]) (.seq (.block 0 (.seq (.reg [⟨(some 10),none,(.mv (.tmp 3))⟩,⟨(some 11),none,(.bin .neq (.tmp 10) (.const (.int .i64 0)))⟩,⟨(some 9),none,(.mv (.tmp 11))⟩]) (.cond (.tmp 9) (.seq (.reg [⟨(some 12),none,(.mv (.tmp 3))⟩,⟨none,none,(.store 1 (.tmp 2) (.tmp 12))⟩]) .ret) (.seq (.reg [⟨(some 14),none,(.load true 3 (.tmp 1))⟩,⟨(some 15),none,(.call (.func 133) [(.tmp 14)])⟩,⟨(some 13),none,(.mv (.tmp 15))⟩]) (.cond (.tmp 13) (.seq (.reg [⟨none,none,(.store 1 (.tmp 2) (.const (.int .i64 6)))⟩]) .ret) (.seq (.reg [⟨(some 17),none,(.load true 3 (.tmp 1))⟩,⟨(some 18),none,(.call (.func 134) [(.tmp 17)])⟩,⟨(some 16),none,(.mv (.tmp 18))⟩]) (.cond (.tmp 16) (.seq (.reg [⟨none,none,(.store 1 (.tmp 2) (.const (.int .i64 5)))⟩]) .ret) .skip))))))) (.seq (.reg [⟨(some 19),none,(.load true 3 (.tmp 1))⟩,⟨(some 20),none,(.call (.func 135) [(.tmp 19)])⟩]) .skip))))
def c65a:AC:=(.reg [⟨(some 4),none,(.new 63 10 [(.v (.int .i64 0)),(.v (.string ⟨#[]⟩)),(.v (.int .i64 0)),(.v (.string ⟨#[]⟩)),(.v (.bool false)),(.v (.int .i64 0)),(.v (.int .i64 0)),(.v (.int .i64 0)),(.v (.int .i64 0)),(.v (.int .i64 0))])⟩,⟨none,none,(.store 10 (.tmp 4) (.tmp 21))⟩])
def c65b:AC:=(.block 2 (.seq (.seq (.reg [⟨(some 22),none,(.fa 1 (.tmp 4))⟩,⟨(some 23),none,(.load false 1 (.tmp 22))⟩,⟨(some 24),none,(.bin .eql (.tmp 23) (.const (.string ⟨#[]⟩)))⟩]) (.cond (.tmp 24) (.exit 2) .skip)) (.seq (.reg [⟨(some 26),none,(.fa 0 (.tmp 1))⟩,⟨(some 27),none,(.load false 1 (.tmp 26))⟩,⟨(some 28),none,(.fa 1 (.tmp 4))⟩,⟨(some 29),none,(.load false 1 (.tmp 28))⟩,⟨(some 30),none,(.fa 0 (.tmp 4))⟩,⟨(some 31),none,(.load false 1 (.tmp 30))⟩,⟨(some 32),none,(.call (.func 31) [(.tmp 27),(.tmp 29),(.tmp 31)])⟩,⟨(some 25),none,(.mv (.tmp 32))⟩,⟨(some 33),none,(.ext (.tmp 25) 0)⟩,⟨(some 34),none,(.ext (.tmp 25) 1)⟩,⟨(some 5),none,(.mv (.tmp 33))⟩,⟨(some 6),none,(.mv (.tmp 34))⟩]) (.seq (.reg [⟨(some 35),none,(.mv (.tmp 6))⟩,⟨(some 36),none,(.bin .neq (.tmp 35) (.const (.int .i64 0)))⟩]) (.cond (.tmp 36) (.seq (.reg [⟨(some 37),none,(.mv (.tmp 6))⟩,⟨none,none,(.store 1 (.tmp 2) (.tmp 37))⟩]) .ret) .skip)))))
def c65q:AC:=(.seq (.reg [⟨(some 38),none,(.fa 1 (.tmp 1))⟩,⟨(some 39),none,(.load false 1 (.tmp 38))⟩,⟨(some 40),none,(.call (.func 136) [(.tmp 39),(.func 137)])⟩]) (.seq (.cond (.tmp 40) (.seq (.reg [⟨none,none,(.store 1 (.tmp 2) (.const (.int .i64 4)))⟩]) .ret) .skip) (.seq (.reg [⟨none,none,(.store 1 (.tmp 2) (.const (.int .i64 0)))⟩]) (.seq .ret .skip))))
abbrev fr65:AFR:=⟨[(.reg [⟨(some 1),none,(.box 26 3 (.tmp 0))⟩,⟨(some 2),none,(.new 30 1 [(.v (.int .i64 0))])⟩]),(.reg [⟨(some 7),none,(.load true 3 (.tmp 1))⟩,⟨(some 8),none,(.call (.func 132) [(.tmp 7)])⟩,⟨(some 3),none,(.mv (.tmp 8))⟩]),(.block 0 (.seq (.reg [⟨(some 10),none,(.mv (.tmp 3))⟩,⟨(some 11),none,(.bin .neq (.tmp 10) (.const (.int .i64 0)))⟩,⟨(some 9),none,(.mv (.tmp 11))⟩]) (.cond (.tmp 9) (.seq (.reg [⟨(some 12),none,(.mv (.tmp 3))⟩,⟨none,none,(.store 1 (.tmp 2) (.tmp 12))⟩]) .ret) (.seq (.reg [⟨(some 14),none,(.load true 3 (.tmp 1))⟩,⟨(some 15),none,(.call (.func 133) [(.tmp 14)])⟩,⟨(some 13),none,(.mv (.tmp 15))⟩]) (.cond (.tmp 13) (.seq (.reg [⟨none,none,(.store 1 (.tmp 2) (.const (.int .i64 6)))⟩]) .ret) (.seq (.reg [⟨(some 17),none,(.load true 3 (.tmp 1))⟩,⟨(some 18),none,(.call (.func 134) [(.tmp 17)])⟩,⟨(some 16),none,(.mv (.tmp 18))⟩]) (.cond (.tmp 16) (.seq (.reg [⟨none,none,(.store 1 (.tmp 2) (.const (.int .i64 5)))⟩]) .ret) .skip))))))),(.reg [⟨(some 19),none,(.load true 3 (.tmp 1))⟩,⟨(some 20),none,(.call (.func 135) [(.tmp 19)])⟩])],(.tmp 20),#[21],c65a,c65b,c65q,[(.cell 2 false 1)],41⟩
theorem k65:ZhC Tryz.prog 65=some fr65:=by kernel_rfl
def errX (a:List Rul) (x:Era):Int:=if xRl x=⟨#[]⟩ then 0 else (Zbc a (xRl x) (xSh x)).2
def Zb7 (s:Src):Int :=
 if ZbR s≠0 then ZbR s else if ¬(Zdp s.2.1 s.2.2).Nodup then 6 else if Zjp s=true then 5
 else if Za4 (errX s.1) (Zdl s.2.1)≠0 then Za4 (errX s.1) (Zdl s.2.1)
 else if (s.2.1.any fun z=>!risL (Zcd z.2))=true then 4 else 0
theorem ZiM {p:Era→Int}{l:List Era}:Za4 p l=match l.find? (fun x=>decide (p x≠0)) with
  | none=>0
  | some x=>p x:=by
 induction l with
 | nil=>rfl
 | cons x l ih =>
  rw[Za4,List.find?_cons]
  by_cases h:p x≠0
  ·rw[if_pos h,decide_eq_true h]
  rw[if_neg h,decide_eq_false h];exact ih
theorem Zed {s:Src}(h:ZbR s=0):s.1.length≤40∧s.2.1.length≤20∧s.2.2.length≤20∧(∀ z∈s.2.1,z.2.length≤8)∧(∀ r∈s.1,Zbw r=0)∧(∀ z∈s.2.1,ZeQ z=0) ∧ ∀ l∈s.2.2,Zev l=0:=by
 unfold ZbR at h
 split at h
 ·cases h
 rename_i h1
 split at h
 ·rename_i h2;exact absurd h h2
 rename_i h2
 split at h
 ·rename_i h3;exact absurd h h3
 rename_i h3
 have h1:ZeP s=false:=by simpa using h1
 unfold ZeP at h1
 simp only[Bool.or_eq_false_iff,decide_eq_false_iff_not,List.any_eq_false,decide_eq_true_eq] at h1
 exact⟨by omega,by omega,by omega,fun z hz=>by have:=h1.1.1.1 z hz;omega,Zdx (Decidable.of_not_not h2),Zdx (Decidable.of_not_not h3),Zdx h⟩
theorem Zhf {s:Src}(h:ZbR s=0) {z:Zon}(hz:z∈s.2.1):okZ z.2:=by
 obtain⟨_,_,_,h4,_,h6,_⟩:=Zed h
 exact okZ_of (h6 z hz) (h4 z hz)
abbrev chkT (N:Nat) (a:List Rul) (z:List Zon) (k:List Lnk) (x:AV):List AV:=[.any,.rp (srcB a z k),.ptr (N+1) 0 0,.any,.any,.any,.any,.any,.any,.any,.any,.any,.any,.any,.any,.any,.any,.any,.any,.any,.clo (.func 217) [.rp (srcB a z k)],x,.any,.any,.any,.any,.any,.any,.any,.any,.any,.any,.any,.any,.any,.any,.any,.any,.any,.any,.any]
theorem chkT_lt {N:Nat}{a:List Rul}{z:List Zon}{k:List Lnk}:AV.ltL (N+4) (chkT N a z k .any)=true:=by simp[AV.ltL,AV.lt,Zbj,Zbs,Zbv]
theorem ZiR {h:AH}{lp N D:Nat}{rdy bsy fin:Obj}{a:List Rul}{z:List Zon}{k:List Lnk}{vs:List Value}(hn:h.length=N) (hlt : ∀ e∈h,e.lt N=true) (ha:a.length≤9223372036854775807) (hok:okRs a)
  (hY:Zlm Tryz.prog fr65 (N+2+1) lp rdy bsy fin (chkT N a z k .any) vs) {x:Era} {e f:Ent} :
  AYield Tryz.prog lp [.agg (eraC x)] (ergJ h D lp 30 rdy (chkT N a z k .any) vs (iv 0) e f) fun r h''=>r=.ret (.v (.bool (!decide (errX a x≠0))))∧h''=ergJ h D lp 30 (if errX a x≠0 then fin else rdy) (chkT N a z k .any) vs (iv (errX a x)) e f:=by
 refine y_go hY (hga (k:=3) hn rfl) rfl fun n0 hn0 hlt0 q1 q2 q3=>?_
 have hm:n0=N+6:=by rw[←hn0];simp[hn]
 have hE:=hlt0 e (by simp)
 have hF:=hlt0 f (by simp)
 have hR:=hlt0 (.raw lp rdy (chkT N a z k .any) vs) (by simp)
 show aw _ _ c65a _ _ _
 show aw _ _ _ _ (chkT N a z k (.agg (eraC x))) (h++[.gone,.mk 0 30 1 [iv 0],mkD D,.raw lp rdy (chkT N a z k .any) vs,e,f])
 refine Zav<|E' (ZaV (hl6 hn) ha6) pt<|E' (Zak lk cv gx rfl (nb' rfl) rfl Zot (hs6 hn)) ptn<|Zas<|?_
 refine ZtG (i:=N+3) gx (hs3 hn) fun n1 hn1 hlt1=>?_
 have hro : ∀ o:Obj,Ent.lt n0 (.raw lp o (chkT N a z k .any) vs)=true:=fun o=>by simpa [Ent.lt] using hR
 have fin2 : ∀ (n:Int) (b:Bool) (o:Obj) (E:Ent),n=errX a x→b=!decide (errX a x≠0)→o=(if errX a x≠0 then fin else rdy) → ∃ y z',h++[.gone,.mk 0 30 1 [iv n],mkD D,.raw lp o (chkT N a z k .any) vs,e,f,E]=y++z'∧y.length=n0∧(∀ e∈y,e.lt n0=true)∧(AE.ret (.v (.bool b))).lt n0=true∧AE.ret (.v (.bool b))=.ret (.v (.bool (!decide (errX a x≠0))))∧y=ergJ h D lp 30 (if errX a x≠0 then fin else rdy) (chkT N a z k .any) vs (iv (errX a x)) e f:=by
  rintro n b o E rfl rfl rfl
  refine⟨_,_,app61,by rw[←hn0];simp,fun y hy=>?_,rfl,rfl,rfl⟩
  rcases List.mem_append.1 hy with hy | hy
  ·exact ltw om hlt y hy
  simp only[List.mem_cons,List.not_mem_nil,or_false] at hy
  rcases hy with rfl | rfl | rfl | rfl | rfl | rfl
  ·simp[Ent.lt]
  ·simp[Ent.lt,AV.ltL,AV.lt]
  ·simp[Ent.lt,AV.ltL]
  ·exact hro _
  ·exact hE
  exact hF
 show aw _ _ c65b _ _ _
 refine Zap<|Zam<|wr'<|Vw (Zab lk)<|Vw (Zac lk gx gt1)<|Vw (ZcF lk lks)<|sn'<|?_
 refine cd' lk (fun hc1=>?_) (fun hc1=>?_)
 ·have hP:errX a x=0:=if_pos hc1
  refine ZaQ<|ZaD<|Zba<|?_
  exact ZiV (i:=N+3) gx (hs3 hn) (fin2 0 true rdy _ hP.symm (by rw[hP];rfl) (by rw[hP];rfl))
 have hP:errX a x=(Zbc a (xRl x) (xSh x)).2:=if_neg hc1
 refine Zaf<|Zah<|wr'<|Vw (ZbM lk dp0)<|Vw (ZaE lk gt)<|Vw (Zab lk)<|Vw (Zac lk gx gt1)<|Vw (Zab lk)<|Vw (Zac lk gx gt0)<|Zad mp (ZrL hok ha) pt<|mw<|Vw (ZaN lk gt)<|Vw (ZaN lk gt)<|?_
 refine mw<|mw<|sn'<|wr'<|mw<|Vw (ZaT lk lki)<|sn'<|?_
 refine cd' lk (fun hc2=>?_) (fun hc2=>?_)
 ·have hP2:errX a x≠0:=by rw[hP];exact hc2
  refine wr'<|mw<|E' (Zak lk cv gx rfl (nb' rfl) rfl Zdz (hs1 hn)) ptn<|sn'<|Zaa<|Zaq<|?_
  refine ZpD (i:=N+3) gx (hs3 hn) (fin2 _ false fin _ hP.symm (by rw[decide_eq_true hP2];rfl) (by rw[if_pos hP2]))
 have hP2:errX a x=0:=by rw[hP];exact Decidable.of_not_not hc2
 refine Zaf<|Zaz<|?_
 exact ZiV (i:=N+3) gx (hs3 hn) (fin2 0 true rdy _ hP2.symm (by rw[hP2];rfl) (by rw[hP2];rfl))
theorem Zqx {h:AH}{lp N D:Nat}{rdy bsy fin:Obj}{a:List Rul}{z:List Zon}{k:List Lnk}{vs:List Value}(hn:h.length=N) (hlt : ∀ e∈h,e.lt N=true) (hok:okRs a) (hc:ZbR (a,z,k)=0)
    (hY:Zlm Tryz.prog fr65 (N+2+1) lp rdy bsy fin (chkT N a z k .any) vs) (hnd:(Zdp z k).Nodup) (hms:Zjp (a,z,k)=false) {R:AE→AH→Prop} (hR:R=fun x h' => ∃ z',h'=h++z'∧x.lt N=true∧x=.ret (iv (Zb7 (a,z,k)))) :
    ACalls Tryz.prog 217 (.v (.func (.yield lp) #[] #[])::[.rp (srcB a z k)]) (ergH h D lp 30 rdy (chkT N a z k .any) vs (iv 0)) fun r h3=>(∃ c,r=.ret c) ∧
      ((h3[N+2+1]?=some (.raw lp rdy (chkT N a z k .any) vs) ∧ ∀ n0,(h3.set (N+2+1) .gone).length=n0→(∀ e∈h3.set (N+2+1) .gone,e.lt n0=true)→aw Tryz.prog n0 fr65.post (Ze0 fr65.res (N+2) D R) (chkT N a z k .any) (h3.set (N+2+1) .gone)) ∨
       (h3[N+2+1]?=some (.raw lp fin (chkT N a z k .any) vs)∧Ze0 fr65.res (N+2) D R .ret (chkT N a z k .any) (h3.set (N+2+1) .gone))):=by
  obtain⟨q1,q2,q3,q4,q5,q6,q7⟩:=Zed hc
  simp only at q1 q2 q3 q4 q5 q6 q7
  have hZ:Zb7 (a,z,k)=if Za4 (errX a) (Zdl z)≠0 then Za4 (errX a) (Zdl z) else if (z.any fun z=>!risL (Zcd z.2))=true then 4 else 0:=by
    unfold Zb7
    rw[if_neg (by rw[hc];simp),if_neg (by simpa using hnd),if_neg (by rw[hms];simp)]
  refine (Ztf (h:=ergH h D lp 30 rdy (chkT N a z k .any) vs (iv 0)) (p:=fun x=>decide (errX a x≠0)) (hS:=fun x=>ergH h D lp 30 fin (chkT N a z k .any) vs (iv (errX a x))) q2 q4 (fun _=>(hl4 hn).trans (hl4 hn).symm) (fun _=>by rw[hl4 hn];exact Zte hlt chkT_lt rfl) (fun x _ e f hp=>?_) (fun x _ e f hp=>?_)).mono ?_
  · have hp':errX a x=0:=by simpa using hp
    have:=ZiR (e:=e) (f:=f) (D:=D) (x:=x) hn hlt om hok hY
    rw[hp'] at this
    rw[Zhd]
    exact this
  · have hp':errX a x≠0:=by simpa using hp
    have:=ZiR (e:=e) (f:=f) (D:=D) (x:=x) hn hlt om hok hY
    rw[if_pos hp',decide_eq_true hp'] at this
    rw[Zhd,Zhd]
    exact this
  rintro x h3 ⟨rfl,rfl⟩
  refine⟨⟨_,rfl⟩,?_⟩
  rw[ZiM] at hZ
  subst hR
  cases hf:(Zdl z).find? (fun x=>decide (errX a x≠0)) with
  | none =>
    rw[hf] at hZ
    simp only[ne_eq,not_true_eq_false,if_false] at hZ
    refine .inl ⟨hga (k:=3) hn rfl,fun n0 hn0 _=>?_⟩
    have hs:(ergH h D lp 30 rdy (chkT N a z k .any) vs (iv 0)).set (N+2+1) .gone=h++[.gone,.mk 0 30 1 [iv 0],mkD D,.gone]:=hs3 hn
    show aw _ _ _ _ _ ((ergH h D lp 30 rdy (chkT N a z k .any) vs (iv 0)).set (N+2+1) .gone)
    rw[hs]
    show aw _ _ c65q _ _ _
    refine wr'<|Vw (ZbM lk dp1)<|Vw (ZaE lk gt)<|?_
    refine Zad mp (Zs1 (p:=fun z:Zon=>!risL (Zcd z.2)) (fun c hc' _=>check1_a (Zhf (s:=(a,z,k)) hc hc')) om) pt ?_
    refine sn'<|Zam<|?_
    refine Zaw lk (fun hc1=>?_) (fun hc1=>?_)
    · rw[if_pos hc1] at hZ
      refine wr'<|E' (Zak lk (cvl lki rfl) gx rfl (nb' rfl) rfl Zdz (hs1 hn)) ptn<|sn'<|Zaa<|Zai<|?_
      refine ZdU gx (hs2 hn) (rs1 (rr_c gt gx (ld0 gt))) ?_
      refine rT' ?_
      rw[hZ]
    rw[if_neg (by rw[hc1];simp)] at hZ
    refine Zaf<|Zah<|wr'<|E' (Zak lk (cvl lki rfl) gx rfl (nb' rfl) rfl Zdz (hs1 hn)) ptn<|sn'<|Zam<|Zaa<|Zai<|?_
    refine ZdU gx (hs2 hn) (rs1 (rr_c gt gx (ld0 gt))) ?_
    refine rT' ?_
    rw[hZ]
  | some x =>
    rw[hf] at hZ
    have hx:errX a x≠0:=by have:=List.find?_some hf;simpa using this
    simp only at hZ
    rw[if_pos hx] at hZ
    refine .inr ⟨hga (k:=3) hn rfl,?_⟩
    have hs:(ergH h D lp 30 fin (chkT N a z k .any) vs (iv (errX a x))).set (N+2+1) .gone=h++[.gone,.mk 0 30 1 [iv (errX a x)],mkD D,.gone]:=hs3 hn
    show Ze0 _ _ _ _ _ _ ((ergH h D lp 30 fin (chkT N a z k .any) vs (iv (errX a x))).set (N+2+1) .gone)
    rw[hs]
    exact ZdU (hga (k:=2) hn rfl) (hs2 hn) (rs1 (rr_c gt (hga (k:=1) hn rfl) (ld0 gt))) (rT' (by rw[hZ]))
theorem Zsw {s:Src}(h:Zgq s):okRs s.1:=fun r hr=>h.1 r hr
theorem zcheck_a {a:List Rul}{z:List Zon}{k:List Lnk}{h:AH}(hok:Zgq (a,z,k)):Ac 65 [.agg (srcB a z k)] h (iv (Zb7 (a,z,k))):=by
 refine tR' k65 fun N hn hlt hlA hbd=>?_
 show aw _ _ c65p _ _ _
 show aw _ _ _ _ [.agg (srcB a z k),.any,.any,.any,.any,.any,.any,.any,.any,.any,.any,.any,.any,.any,.any,.any,.any,.any,.any,.any,.any,.any,.any,.any,.any,.any,.any,.any,.any,.any,.any,.any,.any,.any,.any,.any,.any,.any,.any,.any,.any] _
 refine wr'<|E' (Zbd cv rfl (hl0 hn) ha0) pt<|E' (ZaV (hl1 hn) ha1) pt<|Zas<|?_
 refine Za5 (ALe.icePtr gx gt1 (by simp) pt1 (hs0 hn)) ?_
 refine wr'<|Vw (ZaI lk ZgJ rfl)<|Zad mp (scheck_b hok) pt<|mw<|sn'<|Zam<|Zap<|wr'<|mw<|Vw (ZaT lk lki)<|mw<|?_
 refine sn' ?_
 refine cd' lk (fun hc1=>?_) (fun hc1=>?_)
 ·have hZ:Zb7 (a,z,k)=ZbR (a,z,k):=if_pos hc1
  refine wr'<|mw<|E' (Zak lk cv gx rfl (nb' rfl) rfl Zdz (hs1 hn)) ptn<|sn'<|Zaa<|Zaq<|Zai<|?_
  refine Ziv (rs1 (rr_c gt gx (ld0 gt))) ?_
  refine rT' ?_
  rw[hZ]
 have hc:ZbR (a,z,k)=0:=Decidable.of_not_not hc1
 obtain⟨q1,q2,q3,q4,q5,q6,q7⟩:=Zed hc
 simp only at q1 q2 q3 q4 q5 q6 q7
 refine wr'<|Vw (ZaI lk ZgJ rfl)<|Zad mp (twice_a q2 q3) pt<|mw<|sn'<|?_
 refine Zaw lk (fun hc2=>?_) (fun hc2=>?_)
 ·have hZ:Zb7 (a,z,k)=6:=by unfold Zb7;rw[if_neg hc1,if_pos (of_decide_eq_true hc2)]
  refine wr'<|E' (Zak lk (cvl lki rfl) gx rfl (nb' rfl) rfl Zdz (hs1 hn)) ptn<|sn'<|Zaa<|Zaq<|Zai<|?_
  refine Ziv (rs1 (rr_c gt gx (ld0 gt))) ?_
  refine rT' ?_
  rw[hZ]
 have hnd:(Zdp z k).Nodup:=Decidable.of_not_not (of_decide_eq_false hc2)
 refine wr'<|Vw (ZaI lk ZgJ rfl)<|?_
 refine Zad mp (ZsF om q2 q4 om) pt ?_
 refine mw<|sn'<|?_
 refine Zaw lk (fun hc3=>?_) (fun hc3=>?_)
 ·have hZ:Zb7 (a,z,k)=5:=by unfold Zb7;rw[if_neg hc1,if_neg (by simpa using hnd),if_pos hc3]
  refine wr'<|E' (Zak lk (cvl lki rfl) gx rfl (nb' rfl) rfl Zdz (hs1 hn)) ptn<|sn'<|Zaa<|Zaq<|Zai<|?_
  refine Ziv (rs1 (rr_c gt gx (ld0 gt))) ?_
  refine rT' ?_
  rw[hZ]
 refine Zaf<|Zaz<|Zah<|wr'<|Vw (ZaI lk ZgJ rfl)<|Zad mp (eras_a) pt<|sn'<|Zaf<|?_
 refine Zsn (T1:=chkT N a z k .any) (ALe.same wA' rfl) rfl (hl2 hn) fun lp D rdy bsy fin vs hle hlT hY=>?_
 have hgo:=Zqx (D:=D) hn hlt (Zsw hok) hc hY hnd hc3 rfl
 rw[show (h++[Ent.gone,Ent.mk 0 30 1 [iv 0]]++[mkD D,Ent.raw lp rdy (chkT N a z k .any) vs]:AH)=ergH h D lp 30 rdy (chkT N a z k .any) vs (iv 0) by simp]
 exact hgo
end Go.Proofs.YtlekejpogddndaaGreatDoor
end
section
namespace Go.Proofs.YtlekejpogddndaaGreatDoor
open Go.Ab Go.RowKit Civ
attribute [local simp] Zbj Zby Zbs Zbv Zb3 Zdd Zd5
section
theorem Zhi {a0 a1 a2:AV}{l:List AV}:((a0::a1::a2::l).drop 0).take 3=[a0,a1,a2]:=rfl
theorem Zos {τ:Operand→AV}:Zar τ [] [(.v (.string ⟨#[]⟩)),(.sl 0 0 true [])]=some [(.v (.string ⟨#[]⟩)),(.sl 0 0 true [])]:=rfl
theorem Zei {a0 a1 c0 c1:AV}{l:List AV}:setCells (a0::a1::l) 0 [c0,c1]=c0::c1::l:=rfl
theorem Zeh {a0 a1:AV}{l:List AV}:((a0::a1::l).drop 0).take 2=[a0,a1]:=rfl
theorem ZmP {τ:Operand→AV}:Zar τ [] [(.v (.string ⟨#[]⟩)),(.sl 0 0 true [])]=some [(.v (.string ⟨#[]⟩)),(.sl 0 0 true [])]:=rfl
theorem ZtS {a0 a1:AV}{l:List AV}:(a0::a1::l).take 2=[a0,a1]:=rfl
theorem ZqI {τ:Operand→AV}:Zar τ [] []=some []:=rfl
theorem ZqH {a0 a1 c0:AV}{l:List AV}:setCells (a0::a1::l) 1 [c0]=a0::c0::l:=rfl
end
def c66:AC:=(Sr [Oo 2 (.box 26 3 (.tmp 0)),Oo 4 (.new 53 2 [Ss,(.sl 0 0 true [])]),Mc 5 0] (.seq (Sr [Oo 8 (.load true 3 (.tmp 2)),Cl 9 65 [(.tmp 8)],Mv 6 9] (Sr [Mv 10 6,Bc 11 .neq 10 0] (Cd 11 (Sr [Oo 12 (.build [Ss,(.sl 0 0 true [])] []),Mv 13 6,⟨none,none,(.store 2 (.tmp 4) (.tmp 12))⟩,Mv 5 13] .ret) .skip))) (Sr [Oo 14 (.load true 3 (.tmp 2)),Mv 15 1,Cl 16 139 [(.tmp 14),(.tmp 15)],Mv 7 16] (.seq (Sr [Mv 17 7,Bc 18 .lss 17 0] (Cd 18 (Sr [Oo 19 (.build [Ss,(.sl 0 0 true [])] []),⟨none,none,(.store 2 (.tmp 4) (.tmp 19))⟩,Mc 5 5] .ret) .skip)) (Sr [Fa 20 1 2,Ld 21 20,Mv 22 7,Oo 23 (.ia 2 (.tmp 21) (.tmp 22)),Oo 24 (.load true 2 (.tmp 23)),⟨none,none,(.store 2 (.tmp 4) (.tmp 24))⟩,Mc 5 0] .ret)))))
theorem k66:ZaA Tryz.prog 66=some ⟨c66,[(.cell 4 true 2),(.tmp 5)],25⟩:=by kernel_rfl
def c30:AC:=(Sr [Oo 2 (.box 26 3 (.tmp 0)),Oo 4 (.new 53 2 [Ss,(.sl 0 0 true [])]),Mc 5 0] (Sr [Oo 9 (.load true 3 (.tmp 2)),Mv 10 1,Cl 11 66 [(.tmp 9),(.tmp 10)],Mv 8 11,Ex 12 8 0,Ex 13 8 1,Oo 6 (.new 53 2 [Ss,(.sl 0 0 true [])]),⟨none,none,(.store 2 (.tmp 6) (.tmp 12))⟩,Mv 7 13] (Sr [Fa 14 1 6,Ld 15 14,Cl 16 85 [(.tmp 15)],Fa 17 1 6,Sc 17 16] (Sr [Oo 18 (.load true 2 (.tmp 6)),Mv 19 7,⟨none,none,(.store 2 (.tmp 4) (.tmp 18))⟩,Mv 5 19] .ret))))
theorem k30:ZaA Tryz.prog 30=some ⟨c30,[(.cell 4 true 2),(.tmp 5)],20⟩:=by kernel_rfl
def c85:AC:=(Sr [Oo 2 (.mv (.const (.slice none 0 0)))] (.seq (Sr [Mv 3 0,Oo 4 (.eqn false (.tmp 3))] (Cd 4 (Sr [Oo 2 (.mv (.const (.slice none 0 0)))] .ret) .skip)) (Sr [Oo 5 (.lit 63 10 0 [] []),Mv 6 0,Oo 7 (.app 63 10 96 (.tmp 5) (.tmp 6)),Mv 2 7] .ret)))
theorem k85:ZaA Tryz.prog 85=some ⟨c85,[(.tmp 2)],8⟩:=by kernel_rfl
def zonO:Zon:=(⟨#[]⟩,[])
def tgtV (s:Src) (nm:ByteArray):ByteArray:=match s.2.2[s.2.2.findIdx fun l=>decide (l.2=nm)]? with
 | some l=>l.1
 | none=>nm
def ZcM (s:Src) (nm:ByteArray):Zon×Int :=
 if Zb7 s≠0 then (zonO,Zb7 s) else match s.2.1[s.2.1.findIdx fun z=>decide (z.1=tgtV s nm)]? with
 | some z=>(z,0)
 | none=>(zonO,5)
theorem Zqm {s:Src}{nm:ByteArray}(h0:Zb7 s=0) (h:¬s.2.1.findIdx (fun z=>decide (z.1=tgtV s nm))<s.2.1.length):ZcM s nm=(zonO,5):=by
 unfold ZcM;rw[if_neg (by simp[h0]),List.getElem?_eq_none (Nat.le_of_not_lt h)]
theorem Zql {s:Src}{nm:ByteArray}(h0:Zb7 s=0) (h:s.2.1.findIdx (fun z=>decide (z.1=tgtV s nm))<s.2.1.length):ZcM s nm=(s.2.1[s.2.1.findIdx fun z=>decide (z.1=tgtV s nm)],0):=by
 unfold ZcM;rw[if_neg (by simp[h0]),List.getElem?_eq_getElem h]
theorem Zru {e:AV}:Wk (.tup [.agg [sv ⟨#[]⟩,.sl 0 0 true []],e]) (.tup [.agg (zonC zonO),e]):=Wk.tup (wkw (Wk.agg (wk1 rfl (wkw Wk.nilF wk0))) (wk1 rfl wk0))
theorem find_a {a:List Rul}{z:List Zon}{k:List Lnk}{nm:ByteArray}{h:AH}(hok:Zgq (a,z,k)):Ac 66 [.agg (srcB a z k),sv nm] h (.tup [.agg (zonC (ZcM (a,z,k) nm).1),iv (ZcM (a,z,k) nm).2]):=by
 refine tW' k66 fun N hn hlt hlA hbd=>?_
 simp only[tb'] at hbd ⊢
 refine wr'<|E' (Zbd cv rfl (hl0 hn) ha0) pt<|E' (ZaV (hl1 hn) ha1) pt<|mw<|sn'<|Zam<|wr'<|Vw (Zan lk gx Zhi rfl)<|Zad mp (zcheck_a hok) pt<|mw<|Zas<|?_
 refine Zah<|wr'<|mw<|Vw (ZaT lk lki)<|sn'<|?_
 refine cd' lk (fun hc1=>?_) (fun hc1=>?_)
 ·have hF:ZcM (a,z,k) nm=(zonO,Zb7 (a,z,k)):=if_pos hc1
  refine wr'<|Vw (Zau Zos)<|mw<|E' (Zak lk cv gx rfl (nb' rfl) rfl Zei (hs1 hn)) ptn<|mw<|sn'<|Zaa<|Zai<|Zae (rsn (rm1 (rr_c gt gx (ld1 Zeh rfl)) (rm1 (rr_t gt) rm0)))<|rtW'<|?_
  rw[hF];exact Zru
 have hz0:Zb7 (a,z,k)=0:=Decidable.of_not_not hc1
 have hce:ZbR (a,z,k)=0:=by unfold Zb7 at hz0;split at hz0;(rename_i hh;exact absurd hz0 hh);(rename_i hh;exact Decidable.of_not_not hh)
 obtain⟨q1,q2,q3,q4,q5,q6,q7⟩:=Zed hce
 simp only at q1 q2 q3 q4 q5 q6 q7
 refine Zaf<|Zah<|wr'<|Vw (Zan lk gx Zhi rfl)<|mw<|?_
 refine Zad mp (look_a om om) pt ?_
 refine mw<|sn'<|Zam<|wr'<|mw<|Vw (Zbb lk lki)<|sn'<|?_
 refine cd' lk (fun hc2=>?_) (fun hc2=>?_)
 ·have hlt':¬z.findIdx (fun y:Zon=>decide (y.1=tgtV (a,z,k) nm))<z.length:=fun hh=>by have:Zqa (a,z,k) nm=((z.findIdx fun y:Zon=>decide (y.1=tgtV (a,z,k) nm):Nat):Int):=if_pos hh;omega
  have hF:ZcM (a,z,k) nm=(zonO,5):=Zqm hz0 hlt'
  refine wr'<|Vw (Zau ZmP)<|E' (Zak lk cv gx rfl (nb' rfl) rfl Zei (hs1 hn)) ptn<|mw<|sn'<|Zaa<|Zai<|Zae (rsn (rm1 (rr_c gt gx (ld1 Zeh rfl)) (rm1 (rr_t gt) rm0)))<|rtW'<|?_
  rw[hF];exact Zru
 have hlt':z.findIdx (fun y:Zon=>decide (y.1=tgtV (a,z,k) nm))<z.length:=Decidable.byContradiction fun hh=>by have:Zqa (a,z,k) nm = -1:=if_neg hh;omega
 have hix:Zqa (a,z,k) nm=((z.findIdx fun y:Zon=>decide (y.1=tgtV (a,z,k) nm):Nat):Int):=if_pos hlt'
 have hF:ZcM (a,z,k) nm=(z[z.findIdx fun y:Zon=>decide (y.1=tgtV (a,z,k) nm)],0):=Zql hz0 hlt'
 refine Zaf<|Zah<|wr'<|Vw (Zab lk)<|Vw (Zac lk gx gt1)<|mw<|?_
 refine V' (Za0 lk lk (fun _=>rfl) (nb' rfl) ro om ro rfl) pt ?_
 refine Vw (ZaI lk ZtS rfl)<|E' (Zak lk cv gx rfl (nb' rfl) rfl Zei (hs1 hn)) ptn<|mw<|sn'<|Zaa<|Zae (rsn (rm1 (rr_c gt gx (ld1 Zeh rfl)) (rm1 (rr_t gt) rm0)))<|rtW'<|?_
 rw[hF];exact Wk.refl _
theorem Zlc {s:Src}(h:Zb7 s=0):ZbR s=0:=by
 unfold Zb7 at h
 split at h
 ·rename_i hh;exact absurd h hh
 rename_i hh;exact Decidable.of_not_not hh
theorem Ztb {s:Src}{nm:ByteArray}(h:(ZcM s nm).2=0):Zb7 s=0∧(ZcM s nm).1∈s.2.1∧(ZcM s nm).1.1=tgtV s nm:=by
 unfold ZcM at h ⊢
 split at h
 ·rename_i h1;exact absurd h h1
 rename_i h1
 rw[if_neg h1]
 split at h
 ·rename_i z hz
  refine⟨Decidable.of_not_not h1,List.mem_of_getElem? hz,?_⟩
  obtain⟨hlt,rfl⟩:=List.getElem?_eq_some_iff.1 hz
  have:=List.findIdx_getElem (w:=hlt)
  simpa using this
 cases h
theorem find_bad {s:Src}{nm:ByteArray}(h:(ZcM s nm).2≠0):(ZcM s nm).1=zonO:=by
 unfold ZcM at h ⊢
 split
 ·rfl
 rename_i h1
 rw[if_neg h1] at h
 split
 ·rename_i z hz;rw[hz] at h;exact absurd rfl h
 rfl
theorem Zqy {s:Src}(h:Zb7 s=0):ZbR s=0∧(Zdp s.2.1 s.2.2).Nodup∧Zjp s=false∧(∀ x∈Zdl s.2.1,errX s.1 x=0) ∧ ∀ z∈s.2.1,risL (Zcd z.2)=true:=by
 have hE:=Zlc h
 unfold Zb7 at h
 rw[if_neg (by simp[hE])] at h
 split at h
 ·cases h
 rename_i h1
 split at h
 ·cases h
 rename_i h2
 split at h
 ·rename_i h3;exact absurd h h3
 rename_i h3
 split at h
 ·cases h
 rename_i h4
 refine⟨hE,Decidable.of_not_not h1,by simpa using h2,Zdx (Decidable.of_not_not h3),fun z hz=>?_⟩
 simp only[List.any_eq_true,not_exists,not_and,Bool.not_eq_true',Bool.not_eq_false] at h4
 exact h4 z hz
theorem cloneE_a {l:List Era}{full:Bool}{h:AH}(hl:l.length≤300000000000):ACalls Tryz.prog 85 [.sl l.length 10 full (rows eraC l)] h fun r h' => ∃ v,r=.ret (.own h.length v l.length)∧h'=h++[.mk v 63 10 (rows eraC l)]:=by
 refine tN' k85 fun N hn hlt hlA hbd=>?_
 simp only[tb'] at hbd ⊢
 refine wr'<|mw<|sn'<|Zam<|wr'<|mw<|?_
 refine s_eqn lk (fun _=>pt) (fun bn3 hbn3=>?_)
 refine sn' ?_
 refine cd' lk (fun hc1=>?_) (fun hc1=>?_)
 ·refine wr'<|mv' lkn pt2<|Zas<|Za5 (ALe.own0 (d:=2) (st':=10) (ty:=63) rfl)<|Zaa<|Zai<|Zae (rs1 (rr_t gt2))<|?_
  have h0:l=[]:=List.eq_nil_of_length_eq_zero ((Nat.eq_zero_or_pos _).resolve_right (fun e=>by have:=hbn3 e;rw[hc1] at this;cases this))
  subst h0
  exact⟨0,by simp,by simp[rows]⟩
 refine Zaf<|Zah<|wr'<|E' (Zdm ZqI (hl0 hn) ha0) pt<|mw<|?_
 refine E' (Zdn (sc_sl lk (Zk3 _)) lk gx rfl om (era_leaf _) (hs0 hn)) pt ?_
 refine mw<|sn'<|Zaa<|Zae rz<|?_
 exact⟨0+1,by simp[hn],by simp⟩
theorem Ztd {s:Src}{nm:ByteArray}:(ZcM s nm).1.2.length≤8:=by
 by_cases h:(ZcM s nm).2=0
 ·obtain⟨h1,h2,_⟩:=Ztb h
  exact (Zed (Zlc h1)).2.2.2.1 _ h2
 rw[find_bad h];simp[zonO]
theorem zfind_a {a:List Rul}{z:List Zon}{k:List Lnk}{nm:ByteArray}{h:AH}(hok:Zgq (a,z,k)):Ac 30 [.agg (srcB a z k),sv nm] h (.tup [.agg (zonC (ZcM (a,z,k) nm).1),iv (ZcM (a,z,k) nm).2]):=by
 have hfl:=Ztd (s:=(a,z,k)) (nm:=nm)
 refine tW' k30 fun N hn hlt hlA hbd=>?_
 simp only[tb'] at hbd ⊢
 refine wr'<|E' (Zbd cv rfl (hl0 hn) ha0) pt<|E' (ZaV (hl1 hn) ha1) pt<|mw<|sn'<|wr'<|Vw (Zan lk gx Zhi rfl)<|mw<|Zad mp (find_a hok) pt<|mw<|Vw (ZaN lk gt)<|?_
 refine Vw (ZaN lk gt)<|E' (ZaV (hl2 hn) ha2) pt<|E' (Zak lk cv gx rfl (nb' rfl) rfl Zei (hs2 hn)) ptn<|mw<|sn'<|wr'<|Vw (Zab lk)<|Vw (Zac lk gx gt1)<|?_
 refine s_calla mp (cloneE_a om) (hl3 hn) (fun _=>ha3) (fun _=>pt) (fun va15=>?_)
 refine Vw (Zab lk)<|E' (Zak lk cv gx rfl (nb' rfl) rfl ZqH (hs2 hn)) ptn<|Zas<|?_
 refine Za5 (ALe.iceCellR gx gx om gt1 (List.take_of_length_le (by rw[Za6 ZdX];first | exact Nat.le_refl _ | omega)) (by rw[Za6 ZdX];first | exact Nat.le_refl _ | omega) pt1 (hs3 hn) (hs2 hn)) ?_
 refine wr'<|Vw (Zan lk gx Zeh rfl)<|mw<|E' (Zak lk cv gx rfl (nb' rfl) rfl Zei (hs1 hn)) ptn<|mw<|sn'<|Zaa<|Zae (rsn (rm1 (rr_c gt gx (ld1 Zeh rfl)) (rm1 (rr_t gt) rm0)))<|rtW'<|?_
 exact Wk.tup (wkw (Wk.agg (wk1 rfl (wkw Wk.full wk0))) (wk1 rfl wk0))
theorem Zst : ∀ {l:List Trn}{sh sa:Int}{t:Tim},t∈outV sh sa l→(0≤sa∧sa≤10800)→(∀ u∈l,Zbw u.2=0) → ∃ u∈l,∃ sa',(0≤sa'∧sa'≤10800)∧t=timV sh sa' u
 | u::l,sh,sa,t,ht,hs,hr=>by
  rw[outV] at ht
  rcases List.mem_cons.1 ht with rfl | ht
  ·exact⟨u,by simp,sa,hs,rfl⟩
  have h8:=(Zcn (hr u (by simp))).2.2.2.2.2.2.2
  obtain⟨v,hv,sa',h1,h2⟩:=Zst ht h8 fun x hx=>hr x (by simp[hx])
  exact⟨v,by simp[hv],sa',h1,h2⟩
theorem ruleE_lt {r:Rul}(h:Zbw r=0):(rLt r).size≤24:=by
 unfold Zbw at h
 split at h
 ·cases h
 rename_i h1
 have:=(Decidable.of_not_not h1).2
 unfold Zco at this
 simp only[Bool.and_eq_true,decide_eq_true_eq] at this
 exact this.1
theorem ZlG {l:List Rul}{nm:ByteArray}{sh:Int}{t:Tim}(ht:t∈(Zbc l nm sh).1):(-2600000000≤t.1∧t.1≤4330172800)∧(0≤t.2.1∧t.2.1≤10800)∧t.2.2.size≤24:=by
 unfold Zbc at ht
 split at ht
 ·cases ht
 rename_i h1
 split at ht
 ·cases ht
 split at ht
 ·cases ht
 obtain⟨g1,g2,g3,_⟩:=Zgk (Decidable.of_not_not h1)
 have hm : ∀ u∈srtT (Zbf l nm),Zbw u.2=0 ∧ -2592000000≤u.1∧u.1≤4320172800:=fun u hu=>ZkC g2 ((ZkK _).mem_iff.1 hu)
 obtain⟨u,hu,sa',hs,rfl⟩:=Zst ht om fun u hu=>(hm u hu).1
 obtain⟨hr,hb1,hb2⟩:=hm u hu
 have ho:=Zsy (r:=u.2) g3 hs
 obtain⟨_,_,_,_,_,_,_,h8⟩:=Zcn hr
 exact⟨⟨by show -2600000000≤u.1-offV u.2 sh sa';omega,by show u.1-offV u.2 sh sa'≤4330172800;omega⟩,h8,ruleE_lt hr⟩
theorem Zic {l:List Rul}{nm:ByteArray}{sh:Int}:(Zbc l nm sh).1.length≤1000:=by
 unfold Zbc
 split
 ·simp
 split
 ·simp
 split
 ·simp
 rw[Zgn,srt_len];omega
theorem Zss : ∀ {l:List Trn}{sh sa:Int},(-64800≤sh∧sh≤64800)→(0≤sa∧sa≤10800)→(∀ u∈l,Zbw u.2=0)→gapB l=false→(outV sh sa l).Pairwise fun a b=>a.1<b.1
 | [],_,_,_,_,_,_=>.nil
 | [u],_,_,_,_,_,_=>by simp[outV]
 | u::v::l,sh,sa,h1,h2,hr,hg=>by
  rw[Zgu,Bool.or_eq_false_iff] at hg
  have hu8:=(Zcn (hr u (by simp))).2.2.2.2.2.2.2
  have ih:=Zss (l:=v::l) (sh:=sh) (sa:=rSv u.2) h1 hu8 (fun x hx=>hr x (by simp[hx])) hg.2
  rw[outV,List.pairwise_cons]
  refine⟨fun t ht=>?_,ih⟩
  have hgap:172800≤v.1-u.1:=by have:=hg.1;simp only[decide_eq_false_iff_not] at this;omega
  have hfirst:(timV sh sa u).1<(timV sh (rSv u.2) v).1:=by
   show u.1-offV u.2 sh sa<v.1-offV v.2 sh (rSv u.2)
   unfold offV
   split <;> split <;> (try split) <;> (try split) <;> omega
  rw[outV] at ht
  rcases List.mem_cons.1 ht with rfl | ht
  ·exact hfirst
  rw[outV,List.pairwise_cons] at ih
  have:=ih.1 t ht
  omega
theorem ZrK {l:List Rul}{nm:ByteArray}{sh:Int}:(Zbc l nm sh).1.Pairwise fun a b=>a.1<b.1:=by
 unfold Zbc
 split
 ·exact .nil
 rename_i h1
 split
 ·exact .nil
 rename_i h2
 split
 ·exact .nil
 obtain⟨g1,g2,g3,_⟩:=Zgk (Decidable.of_not_not h1)
 exact Zss g3 om (fun u hu=>(ZkC g2 ((ZkK _).mem_iff.1 hu)).1) (by simpa using h2)
theorem risT_all (rl:List Rul) (x:Era):risT rl x:=by
 unfold risT Zbg
 split
 ·exact .nil
 exact ZrK
theorem ZjE {rl:List Rul}{x:Era}{t:Tim}(ht:t∈Zbg rl x):(-2600000000≤t.1∧t.1≤4330172800)∧(0≤t.2.1∧t.2.1≤10800)∧t.2.2.size≤24:=by
 unfold Zbg at ht
 split at ht
 ·cases ht
 exact ZlG ht
theorem Zfh {rl:List Rul}{x:Era}:(Zbg rl x).length≤1000:=by
 unfold Zbg
 split
 ·simp
 exact Zic
theorem ZiL {fm:ByteArray}(h:ZbO fm=true):fm.size≤24:=by
 unfold ZbO at h
 split at h
 ·cases h
 rename_i h1;omega
end Go.Proofs.YtlekejpogddndaaGreatDoor
end
section
namespace Go.Proofs.YtlekejpogddndaaGreatDoor
open Go.Ab Go.RowKit Civ
attribute [local simp] Zbj Zby Zbs Zbv Zb3 Zdd Zd5
section
theorem Zft {a0 a1 a2 a3 a4 a5 a6 a7 a8 a9:AV}{l:List AV}:(a0::a1::a2::a3::a4::a5::a6::a7::a8::a9::l).take 10=[a0,a1,a2,a3,a4,a5,a6,a7,a8,a9]:=rfl
theorem Zor {τ:Operand→AV}{y0:Operand}{x0_0:AV}(h0:Zat (τ y0)=some [x0_0]) (l0:[x0_0].all leaf=true):Zar τ [(1,1,y0)] [(.v (.int .i64 0)),(.v (.int .i64 0)),(.v (.string ⟨#[]⟩))]=some [(.v (.int .i64 0)),x0_0,(.v (.string ⟨#[]⟩))]:=by
 simp only[Zar,h0,l0]
 rfl
theorem Zoq {τ:Operand→AV}{y0 y1:Operand}{x0_0 x1_0 x1_1 x1_2:AV}(h0:Zat (τ y0)=some [x0_0]) (l0:[x0_0].all leaf=true) (h1:Zat (τ y1)=some [x1_0,x1_1,x1_2]) (l1:[x1_0,x1_1,x1_2].all leaf=true):Zar τ [(0,1,y0),(1,3,y1)] [(.v (.int .i64 0)),(.v (.int .i64 0)),(.v (.int .i64 0)),(.v (.string ⟨#[]⟩))]=some [x0_0,x1_0,x1_1,x1_2]:=by
 simp only[Zar,h0,l0,h1,l1]
 rfl
theorem Zop {τ:Operand→AV}{y0:Operand}{x0_0 x0_1 x0_2 x0_3:AV}(h0:Zat (τ y0)=some [x0_0,x0_1,x0_2,x0_3]) (l0:[x0_0,x0_1,x0_2,x0_3].all leaf=true):Zar τ [(0,4,y0)] [(.v (.int .i64 0)),(.v (.int .i64 0)),(.v (.int .i64 0)),(.v (.string ⟨#[]⟩))]=some [x0_0,x0_1,x0_2,x0_3]:=by
 simp only[Zar,h0,l0]
 rfl
theorem Zoo {τ:Operand→AV}:Zar τ [] [(.v (.int .i64 0)),(.v (.int .i64 0)),(.v (.string ⟨#[]⟩))]=some [(.v (.int .i64 0)),(.v (.int .i64 0)),(.v (.string ⟨#[]⟩))]:=rfl
theorem Zom {τ:Operand→AV}{y0 y1:Operand}{x0_0 x1_0 x1_1 x1_2:AV}(h0:Zat (τ y0)=some [x0_0]) (l0:[x0_0].all leaf=true) (h1:Zat (τ y1)=some [x1_0,x1_1,x1_2]) (l1:[x1_0,x1_1,x1_2].all leaf=true):Zar τ [(0,1,y0),(1,3,y1)] [(.v (.int .i64 0)),(.v (.int .i64 0)),(.v (.int .i64 0)),(.v (.string ⟨#[]⟩))]=some [x0_0,x1_0,x1_1,x1_2]:=by
 simp only[Zar,h0,l0,h1,l1]
 rfl
theorem Zol {τ:Operand→AV}{y0:Operand}{x0_0 x0_1 x0_2 x0_3:AV}(h0:Zat (τ y0)=some [x0_0,x0_1,x0_2,x0_3]) (l0:[x0_0,x0_1,x0_2,x0_3].all leaf=true):Zar τ [(0,4,y0)] [(.v (.int .i64 0)),(.v (.int .i64 0)),(.v (.int .i64 0)),(.v (.string ⟨#[]⟩))]=some [x0_0,x0_1,x0_2,x0_3]:=by
 simp only[Zar,h0,l0]
 rfl
theorem Zi0 {a0 a1 a2:AV}{l:List AV}:(a0::a1::a2::l).take 3=[a0,a1,a2]:=rfl
theorem ZqF {a0 a1 a2 c0 c1 c2:AV}{l:List AV}:setCells (a0::a1::a2::l) 0 [c0,c1,c2]=c0::c1::c2::l:=rfl
theorem ZqD {a0 a1 a2:AV}{l:List AV}:((a0::a1::a2::l).drop 0).take 3=[a0,a1,a2]:=rfl
theorem Zok {τ:Operand→AV}{y0 y1:Operand}{x0_0 x1_0 x1_1 x1_2:AV}(h0:Zat (τ y0)=some [x0_0]) (l0:[x0_0].all leaf=true) (h1:Zat (τ y1)=some [x1_0,x1_1,x1_2]) (l1:[x1_0,x1_1,x1_2].all leaf=true):Zar τ [(0,1,y0),(1,3,y1)] [(.v (.int .i64 0)),(.v (.int .i64 0)),(.v (.int .i64 0)),(.v (.string ⟨#[]⟩))]=some [x0_0,x1_0,x1_1,x1_2]:=by
 simp only[Zar,h0,l0,h1,l1]
 rfl
theorem ZtR { e:Ent}:([]:AH)++[e]=[e]:=rfl
theorem ZqG {e0 e1 e2 e3 d0:Ent}:([e0,e1,e2,e3]:AH)++[d0]=[e0,e1,e2,e3,d0]:=rfl
theorem ZqE {a0 a1 a2 a3 c0 c1 c2 c3:AV}{l:List AV}:setCells (a0::a1::a2::a3::l) 0 [c0,c1,c2,c3]=c0::c1::c2::c3::l:=rfl
theorem Zkg {a0 a1 a2 a3:AV}{l:List AV}:((a0::a1::a2::a3::l).drop 0).take 4=[a0,a1,a2,a3]:=rfl
theorem Zoj {τ:Operand→AV}{y0:Operand}{x0_0 x0_1 x0_2 x0_3:AV}(h0:Zat (τ y0)=some [x0_0,x0_1,x0_2,x0_3]) (l0:[x0_0,x0_1,x0_2,x0_3].all leaf=true):Zar τ [(0,4,y0)] [(.v (.int .i64 0)),(.v (.int .i64 0)),(.v (.int .i64 0)),(.v (.string ⟨#[]⟩))]=some [x0_0,x0_1,x0_2,x0_3]:=by
 simp only[Zar,h0,l0]
 rfl
theorem ZtP {a0 a1 a2 a3:AV}{l:List AV}:(a0::a1::a2::a3::l).take 4=[a0,a1,a2,a3]:=rfl
theorem ZtQ {a0 a1:AV}{l:List AV}:(a0::a1::l).take 2=[a0,a1]:=rfl
theorem Zoi {a0 a1 a2 a3 a4 a5 a6 a7 a8 a9 c0 c1 c2 c3 c4 c5 c6 c7 c8 c9:AV}{l:List AV}:setCells (a0::a1::a2::a3::a4::a5::a6::a7::a8::a9::l) 0 [c0,c1,c2,c3,c4,c5,c6,c7,c8,c9]=c0::c1::c2::c3::c4::c5::c6::c7::c8::c9::l:=rfl
theorem Zi1 {a0 a1 a2 a3 a4 a5 a6 a7 a8 a9:AV}{l:List AV}:((a0::a1::a2::a3::a4::a5::a6::a7::a8::a9::l).drop 0).take 10=[a0,a1,a2,a3,a4,a5,a6,a7,a8,a9]:=rfl
end
def c142:AC:=(Sr [Oo 3 (.box 26 3 (.tmp 0)),Oo 4 (.box 63 10 (.tmp 1)),Oo 6 (.mv (.const (.slice none 0 0)))] (.seq (Sr [Fa 13 1 4,Ld 14 13,Oo 15 (.bin .eql (.tmp 14) (.const (.string ⟨#[]⟩)))] (Cd 15 (Sr [Mv 16 2,Oo 17 (.load true 10 (.tmp 4)),Fa 18 2 4,Ld 19 18,Oo 20 (.build [(iv 0),(iv 0),Ss] [(1,(1,(.tmp 19)))]),Cl 21 220 [(.tmp 17),(.tmp 20)],Oo 22 (.build [(iv 0),(iv 0),(iv 0),Ss] [(0,(1,(.tmp 16))),(1,(3,(.tmp 21)))]),Oo 23 (.lit 121 4 1 [(iv 0),(iv 0),(iv 0),Ss] [(0,(4,(.tmp 22)))]),Mv 6 23] .ret) .skip)) (Sr [Fa 25 0 3,Ld 26 25,Fa 27 1 4,Ld 28 27,Fa 29 0 4,Ld 30 29,Cl 31 31 [(.tmp 26),(.tmp 28),(.tmp 30)],Mv 24 31,Ex 32 24 0,Ex 33 24 1,Mv 7 32,Mv 8 33] (Sr [Mv 34 2,Oo 35 (.load true 10 (.tmp 4)),Oo 36 (.build [(iv 0),(iv 0),Ss] []),Cl 37 220 [(.tmp 35),(.tmp 36)],Oo 38 (.build [(iv 0),(iv 0),(iv 0),Ss] [(0,(1,(.tmp 34))),(1,(3,(.tmp 37)))]),Oo 39 (.lit 121 4 1 [(iv 0),(iv 0),(iv 0),Ss] [(0,(4,(.tmp 38)))]),Mv 9 39] (.seq (Sr [Mv 40 7,Oo 41 (.len false (.tmp 40)),Mc 42 0] (.block 0 (.loop (Sr [Bn 43 .lss 42 41] (.seq (Cd 43 .skip (.exit 0)) (.seq (.block 1 (Sr [Oo 44 (.ia 3 (.tmp 40) (.tmp 42)),Oo 45 (.load true 3 (.tmp 44)),Oo 11 (.new 136 3 [(iv 0),(iv 0),Ss]),⟨none,none,(.store 3 (.tmp 11) (.tmp 45))⟩] (.seq (.drw [Mv 46 2,Fa 47 0 11,Ld 48 47,Oo 49 (.mm true (.tmp 46) (.tmp 48)),Oo 50 (.load true 10 (.tmp 4)),Oo 51 (.load true 3 (.tmp 11)),Cl 52 220 [(.tmp 50),(.tmp 51)],Oo 53 (.build [(iv 0),(iv 0),(iv 0),Ss] [(0,(1,(.tmp 49))),(1,(3,(.tmp 52)))]),Oo 12 (.new 121 4 [(iv 0),(iv 0),(iv 0),Ss])] [false] [⟨none,none,(.store 4 (.tmp 12) (.tmp 53))⟩]) (Sr [Fa 54 0 11,Ld 55 54,Mv 56 2,Bn 57 .leq 55 56] (Cd 57 (.reg [Mv 58 9,Oo 59 (.load true 4 (.tmp 12)),Oo 60 (.ia 4 (.tmp 58) (Ci 0)),⟨none,none,(.store 4 (.tmp 60) (.tmp 59))⟩]) (.reg [Mv 61 9,Oo 62 (.load true 4 (.tmp 12)),Oo 63 (.lit 121 4 1 [(iv 0),(iv 0),(iv 0),Ss] [(0,(4,(.tmp 62)))]),Oo 64 (.app 121 4 40 (.tmp 61) (.tmp 63)),Mv 9 64])))))) (.reg [Bc 65 .add 42 1,Mv 42 65]))))))) (Sr [Mv 66 9,Mv 6 66] .ret))))))
theorem k142:ZaA Tryz.prog 142=some ⟨c142,[(.tmp 6)],67⟩:=by kernel_rfl
def c69:AC:=(Sr [Oo 3 (.box 26 3 (.tmp 0)),Oo 4 (.box 53 2 (.tmp 1)),Oo 6 (.mv (.const (.slice none 0 0)))] (Sr [Oo 7 (.mv (.const (.slice none 0 0)))] (Sr [Oo 13 (.load true 2 (.tmp 4)),Cl 14 131 [(.tmp 13)],Mv 8 14] (.seq (Sr [Fa 15 1 4,Ld 16 15,Oo 17 (.len false (.tmp 16)),Mc 18 0] (.block 0 (.loop (Sr [Bn 19 .lss 18 17] (.seq (Cd 19 .skip (.exit 0)) (.seq (.block 1 (Sr [Mv 20 18,Oo 21 (.ia 10 (.tmp 16) (.tmp 18)),Oo 22 (.load true 10 (.tmp 21)),Oo 10 (.new 63 10 [(iv 0),Ss,(iv 0),Ss,(.v (.bool false)),(iv 0),(iv 0),(iv 0),(iv 0),(iv 0)]),Mv 9 20,⟨none,none,(.store 10 (.tmp 10) (.tmp 22))⟩] (.seq (Sr [Mv 23 9,Mv 24 8,Oo 25 (.len false (.tmp 24)),Bn 26 .lss 23 25,Mv 27 26,Ot 28 27 (mt 8),Ot 29 27 (mt 9),Ot 30 27 (.ia 1 (.tmp 28) (.tmp 29)),Ot 31 27 (.load false 1 (.tmp 30)),Ot 32 27 (mt 2),Ot 33 27 (.bin .leq (.tmp 31) (.tmp 32)),Oo 34 (.pick (.tmp 27) (.tmp 33) (.const (.bool false)))] (Cd 34 (.exit 1) .skip)) (Sr [Mv 35 2,Mv 11 35] (.seq (Sr [Mv 36 9,Bc 37 .gtr 36 0] (Cd 37 (.reg [Mv 38 2,Mv 39 8,Mv 40 9,Bc 41 .sub 40 1,Oo 42 (.ia 1 (.tmp 39) (.tmp 41)),Ld 43 42,Oo 44 (.mm true (.tmp 38) (.tmp 43)),Mv 11 44]) .skip)) (Sr [Oo 45 (.load true 3 (.tmp 3)),Oo 46 (.load true 10 (.tmp 10)),Mv 47 11,Cl 48 142 [(.tmp 45),(.tmp 46),(.tmp 47)],Mv 12 48] (.seq (Sr [Mv 49 9,Mv 50 8,Oo 51 (.len false (.tmp 50)),Bn 52 .lss 49 51] (Cd 52 (.reg [Mv 53 12,Mv 54 8,Mv 55 9,Oo 56 (.ia 1 (.tmp 54) (.tmp 55)),Ld 57 56,Cl 58 143 [(.tmp 53),(.tmp 57)],Mv 12 58]) .skip)) (.reg [Mv 59 7,Mv 60 12,Oo 61 (.app 121 4 40 (.tmp 59) (.tmp 60)),Mv 7 61])))))))) (.reg [Bc 62 .add 18 1,Mv 18 62]))))))) (Sr [Mv 63 7,Mv 6 63] .ret)))))
theorem k69:ZaA Tryz.prog 69=some ⟨c69,[(.tmp 6)],64⟩:=by kernel_rfl
structure okX (x:Era):Prop where
 fm:ZbO (xFm x)=true
 sh : -64800≤xSh x∧xSh x≤64800
 sv:0≤xSv x∧xSv x≤10800
 no:xRl x≠⟨#[]⟩→xSv x=0
theorem okX_of {es:List Era}(h:okZ es) {x:Era}(hx:x∈es):okX x:=by
 obtain⟨h1,h2,h3,h4⟩:=h.fm x hx
 exact⟨h1,h2,h3,h4⟩
theorem Zgw {x:Era}{b:Int}(ts:List Tim):(eraG x b ts).length≤ts.length+1:=by
 unfold eraG
 rw[List.length_cons,List.length_map]
 have:=List.length_filter_le (fun t:Tim=>decide (b<t.1)) ts
 omega
theorem Zpt {x:Era}{b:Int}:eraG x b []=[(b,locV x (xSv x) ⟨#[]⟩)]:=rfl
theorem eraG_set {x:Era}{b:Int}{ts:List Tim}{t:Tim}(h:t.1≤b):eraG x b (ts++[t])=(eraG x b ts).set 0 (b,locV x t.2.1 t.2.2):=by
 rw[eraG_low h];rfl
theorem eraG_pos {x:Era}{b:Int}{ts:List Tim}:0<(eraG x b ts).length:=by unfold eraG;simp
theorem era_z {a:List Rul}{z:List Zon}{k:List Lnk}{x:Era}{b:Int}{h:AH}(hok:okRs a) (ha:a.length≤9223372036854775807) (hx:okX x) (hb : -9000000000000000000≤b∧b≤9000000000000000000) :
  ACalls Tryz.prog 142 [.agg (srcB a z k),.agg (eraC x),iv b] h fun y h'=>h'=h∧y=.ret (.sl (eraG x b (Zbg a x)).length 4 false (rows chgC (eraG x b (Zbg a x)))):=by
 obtain⟨hx1,hx2,hx3,hx4⟩:=hx
 have hfl:=ZiL hx1
 refine tW' k142 fun N hn hlt hlA hbd=>?_
 simp only[tb'] at hbd ⊢
 refine wr'<|E' (Zbd cv rfl (hl0 hn) ha0) pt<|E' (Zbd cv rfl (hl1 hn) ha1) pt<|mw<|Zas<|?_
 refine Za5 (ALe.trans (ALe.icePtr gx gt3 (by simp) pt3 (hs0 hn)) (ALe.icePtr gx gt4 (by simp) pt4 (hs1 hn))) ?_
 refine Zam<|wr'<|Vw (ZbM lk dp1)<|Vw (ZaE lk gt)<|Vw (ZcF lk lks)<|sn'<|?_
 refine cd' lk (fun hc1=>?_) (fun hc1=>?_)
 ·have hT:Zbg a x=[]:=if_pos hc1
  refine wr'<|mw<|Vw (ZaI lk Zft rfl)<|Vw (ZbM lk dp2)<|Vw (ZaE lk gt)<|Vw (Zau (Zor cv rfl))<|?_
  refine Zad mp (ZnD (x:=x) (t:=(0,xSv x,⟨#[]⟩)) hfl (show (0:Nat)≤24 by decide) hx2 hx3) pt ?_
  refine V' (Zau (Zoq (cvl lk16 rfl) rfl (cvl lk21 rfl) rfl)) pt22<|E' (Zdm (Zop (cvl lk22 rfl) rfl) (hl2 hn) ha2) pt23<|mv' lk23 pt6<|Zas<|Za5 (ALe.iceR gx gt6 rfl (nb' rfl) pt6 (hs2 hn))<|Zaa<|Zai<|Zae (rs1 (rr_t gt6))<|rtW'<|?_
  rw[hT,Zpt];exact Wk.full
 have hT:Zbg a x=(Zbc a x.2.1 x.1).1:=if_neg hc1
 have hsv0:xSv x=0:=hx4 hc1
 have hTl:(Zbc a x.2.1 x.1).1.length≤1000:=Zic
 refine Zaf<|Zah<|wr'<|Vw (ZbM lk dp0)<|Vw (ZaE lk gt)<|Vw (ZbM lk dp1)<|Vw (ZaE lk gt)<|Vw (ZbM lk dp0)<|Vw (ZaE lk gt)<|Zad mp (ZrL hok ha) pt<|mw<|Vw (ZaN lk gt)<|Vw (ZaN lk gt)<|?_
 refine mw<|mw<|sn'<|wr'<|mw<|Vw (ZaI lk Zft rfl)<|Vw (Zau Zoo)<|?_
 refine Zad mp (ZnD (x:=x) (t:=(0,0,⟨#[]⟩)) hfl (by decide) hx2 (by decide)) pt ?_
 refine Vw (Zau (Zom cv rfl cv rfl))<|E' (Zdm (Zol cv rfl) (hl2 hn) ha2) pt<|mw<|sn'<|Zam<|wr'<|mw<|Vw (ZaL lk)<|mw<|sn'<|Zap<|?_
 refine Zhs (ι:=Nat×Nat) (fun (x_:Nat×Nat)=>match x_ with | ⟨i,v⟩=>[(9,.own (N+2) v (eraG x b ((Zbc a x.2.1 x.1).1.take i)).length),(42,iv (i:Int)),(11,.any),(12,.any)]++rn' 43 23) (fun (x_:Nat×Nat)=>match x_ with | ⟨i,v⟩=>[(2,.mk v 121 4 (rows chgC (eraG x b ((Zbc a x.2.1 x.1).1.take i))))]) (fun (x_:Nat×Nat)=>match x_ with | ⟨i,v⟩=>i≤(Zbc a x.2.1 x.1).1.length) (fun (x_:Nat×Nat)=>match x_ with | ⟨i,v⟩=>(Zbc a x.2.1 x.1).1.length-i) (⟨0,0⟩) (by exact Nat.zero_le _) (by try simp only[sm',Nat.reduceAdd];exact ALe.same wA' (by rw[List.take_zero,Zpt,hsv0];rfl)) ?_
 rintro⟨i,v⟩ hi1
 try simp only[sm',Nat.reduceAdd]
 replace hi1:i≤(Zbc a x.2.1 x.1).1.length:=hi1
 refine wr'<|Vw (Zbb lk lk)<|sn'<|Zam<|?_
 refine cd' lk (fun hc2=>?_) (fun hc2=>?_)
 ·have hi:i<(Zbc a x.2.1 x.1).1.length:=by omega
  obtain⟨hm1,hm2,hm3⟩:=ZlG (List.getElem_mem hi)
  have hel:=Zgw (x:=x) (b:=b) ((Zbc a x.2.1 x.1).1.take i)
  rw[List.length_take] at hel
  have htk:=List.take_succ_eq_append_getElem hi
  refine Zaf<|Zah<|Zam<|Zap<|wr'<|?_
  refine V' (Za0 lk lk ZoT (nb' rfl) ro om ro rfl) pt ?_
  refine Vw (ZaI lk Zi0 rfl)<|E' (ZaV (hl3 hn) ha3) pt<|E' (Zak lk cv gx rfl (nb' rfl) rfl ZqF (hs3 hn)) ptn<|sn'<|Zam<|ZbZ<|Dw (v_mv lk)<|Dw (Zab lk)<|Dw (Zac lk gx gt0)<|Dw (v_mm lk lk)<|Dw (ZaI lk Zft rfl)<|Dw (Zan lk gx ZqD rfl)<|?_
  refine ZaY mp (fun hE hX=>ZnD (x:=x) (t:=(Zbc a x.2.1 x.1).1[i]) hfl hm3 hx2 hm2) pt ?_
  refine Dw (Zau (Zok cv rfl cv rfl))<|ZmE rfl rfl (hlk hn rfl) (l_new) pt ZtR<|ZbI<|?_
  refine ZnZ ZqG ?_
  refine E' (Zak lk cv gx rfl (nb' rfl) rfl ZqE (hs4 hn)) ptn<|sn'<|wr'<|Vw (Zab lk)<|Vw (Zac lk gx gt0)<|mw<|Vw (Zdq lk lk)<|sn'<|?_
  refine cd' lk (fun hc3=>?_) (fun hc3=>?_)
  ·have hmx:(if (Zbc a x.2.1 x.1).1[i].1>b then (Zbc a x.2.1 x.1).1[i].1 else b)=b:=if_neg om
   simp only[cond_true,hmx]
   have hE:=eraG_set (x:=x) (ts:=(Zbc a x.2.1 x.1).1.take i) hc3
   have hep:=eraG_pos (x:=x) (b:=b) (ts:=(Zbc a x.2.1 x.1).1.take i)
   rw[←htk] at hE
   refine Zav<|mw<|Vw (Zan lk gx Zkg rfl)<|?_
   refine V' (ZlC (k:=0) lk lki gx Zcb (nb' rfl) ro om (by first | rfl | (simp;done) | omega)) pt ?_
   refine E' (e_stOR (z:=(b,locV x (Zbc a x.2.1 x.1).1[i].2.1 (Zbc a x.2.1 x.1).1[i].2.2)) lk cv gx Zcb rfl om (hs2 hn)) ptn ?_
   refine Zas<|Zaz<|Zah<|Zav<|?_
   refine V' (Zay lk lki om om) pt ?_
   refine mw<|Zas<|ZaB<|?_
   refine lU' (⟨i+1,v⟩) (by (try dsimp only);omega) (by (try dsimp only);(try simp only[sm',Nat.reduceAdd]);exact bkE' 3 hn hlt (by repeat (first | exact wk0 | refine wka ?_ | refine wk1 rfl ?_ | refine wk1 (by first | rfl | exact ivx om | (rw[hE,List.length_set];done) | (rw[hE,List.length_append];rfl) | (rw[hE,List.length_set])) ?_)) (by rw[hE];rfl) (hT:=by simp[AV.lt,AV.ltL,Ent.lt]) (hE:=by simp[AV.lt,AV.ltL,Ent.lt]))
  have hmx:(if (Zbc a x.2.1 x.1).1[i].1>b then (Zbc a x.2.1 x.1).1[i].1 else b)=(Zbc a x.2.1 x.1).1[i].1:=if_pos om
  simp only[cond_true,hmx]
  have hE:=Zth (x:=x) (ts:=(Zbc a x.2.1 x.1).1.take i) hc3
  rw[←htk] at hE
  refine Zav<|mw<|Vw (Zan lk gx Zkg rfl)<|E' (Zdm (Zoj cv rfl) (hl5 hn) ha5) pt<|?_
  refine E' (Zdn (Zcs lk gx rfl ZtP (nb' rfl)) lk gx (ZcD _) om rfl (hs2 hn)) pt ?_
  refine mw<|Zas<|Zaz<|Zah<|Zav<|?_
  refine V' (Zay lk lki om om) pt ?_
  refine mw<|Zas<|ZaB<|?_
  refine lU' (⟨i+1,v+1⟩) (by (try dsimp only);omega) (by (try dsimp only);(try simp only[sm',Nat.reduceAdd]);exact bkE' 3 hn hlt (by repeat (first | exact wk0 | refine wka ?_ | refine wk1 rfl ?_ | refine wk1 (by first | rfl | exact ivx om | (rw[hE,List.length_set];done) | (rw[hE,List.length_append];rfl) | (rw[hE,List.length_set])) ?_)) (by rw[hE,ZaZ,Zbi];rfl) (hT:=by simp[AV.lt,AV.ltL,Ent.lt]) (hE:=by simp[AV.lt,AV.ltL,Ent.lt]))
 refine ZaQ<|ZaD<|ZaD<|Zba<|?_
 refine Za5 (ALe.iceR gx gt9 (List.take_of_length_le (by rw[ZcD];exact Nat.le_refl _)) (by rw[ZcD];exact Nat.le_refl _) pt9 (hs2 hn)) ?_
 refine wr'<|mw<|mw<|sn'<|Zaa<|Zae rz<|rtW'<|?_
 rw[hT,List.take_of_length_le om];exact Wk.full
def Zet (es:List Era):Nat→Option Int
 | 0=>none
 | j+1=>(es[j]?).map endV
theorem Zfl {es:List Era}{i:Nat}(h:i<es.length):Zet es (i+1)=some (endV es[i]):=by
 show (es[i]?).map endV=_
 rw[List.getElem?_eq_getElem h];rfl
theorem Zp7 {rl:List Rul}{f:Int}{es:List Era}{prev:Option Int}{i:Nat}(h:i<es.length) (hl:es.length≤i+1):Za1 rl f prev (es.drop i)=eraG es[i] (ZbK prev f) (Zbg rl es[i]):=by
 rw[List.drop_eq_getElem_cons h,List.drop_of_length_le hl];rfl
theorem Zp6 {rl:List Rul}{f:Int}{es:List Era}{prev:Option Int}{i:Nat}(h:i+1<es.length) (hc:endV es[i]≤f):Za1 rl f prev (es.drop i)=Za1 rl f (Zet es (i+1)) (es.drop (i+1)):=by
 rw[Zfl om,List.drop_eq_getElem_cons (show i<es.length by omega),List.drop_eq_getElem_cons h,Za1,if_pos hc,List.nil_append]
theorem Zp5 {rl:List Rul}{f:Int}{es:List Era}{prev:Option Int}{i:Nat}(h:i+1<es.length) (hc:¬endV es[i]≤f):Za1 rl f prev (es.drop i)=cutV (eraG es[i] (ZbK prev f) (Zbg rl es[i])) (endV es[i])++Za1 rl f (Zet es (i+1)) (es.drop (i+1)):=by
 rw[Zfl om,List.drop_eq_getElem_cons (show i<es.length by omega),List.drop_eq_getElem_cons h,Za1,if_neg hc]
theorem Zpw (l:List Chg) (e:Int):(cutV l e).length≤l.length:=(List.takeWhile_sublist _).length_le
theorem ZnY {es:List Era}(hz:okZ es) {i:Nat}(h:i+1<es.length) : -100000000000≤endV es[i]∧endV es[i]≤300000000000:=by
 obtain⟨h1,h2,h3⟩:=hz.un i om h
 exact endV_bd h1 ⟨h2,h3⟩ (hz.fm _ (List.getElem_mem _)).2.1
theorem parts_a {a:List Rul}{z:List Zon}{k:List Lnk}{nm:ByteArray}{es:List Era}{f:Int}{h:AH}(hok:okRs a) (ha:a.length≤9223372036854775807) (hz:okZ es) (hf : -1000000000000≤f∧f≤1000000000000) :
  ACalls Tryz.prog 69 [.agg (srcB a z k),.agg [sv nm,.sl es.length 10 false (rows eraC es)],iv f] h fun y h'=>h'=h∧y=.ret (.sl (Za1 a f none es).length 4 false (rows chgC (Za1 a f none es))):=by
 have hel:=Zk5 es
 have hlen:=hz.len
 refine tW' k69 fun N hn hlt hlA hbd=>?_
 simp only[tb'] at hbd ⊢
 refine wr'<|E' (Zbd cv rfl (hl0 hn) ha0) pt<|E' (Zbd cv rfl (hl1 hn) ha1) pt<|mw<|Zas<|?_
 refine Za5 (ALe.trans (ALe.icePtr gx gt3 (by simp) pt3 (hs0 hn)) (ALe.icePtr gx gt4 (by simp) pt4 (hs1 hn))) ?_
 refine wr'<|mv' lkn pt7<|Zas<|Za5 (ALe.own0' (st':=4) (ty:=121) gt7 (hl2 hn) pt7 ha2)<|wr'<|V' (ZaI lk4 ZtQ rfl) pt13<|Zad (mp1 lk13 mp0) (ends_a hz) pt14<|mv' lk14 pt8<|sn'<|Zam<|Zam<|?_
 refine Zav<|Vw (ZbM lk dp1)<|Vw (ZaE lk gt)<|Vw (ZaL lk)<|mw<|sn'<|Zap<|?_
 refine w_lp (ι:=Nat×List Chg×Nat) (fun (x_:Nat×List Chg×Nat)=>match x_ with | ⟨i,O,v⟩=>[(7,.own (N+2) v O.length),(18,iv (i:Int))]++rn' 9 4++rn' 19 44) (fun (x_:Nat×List Chg×Nat)=>match x_ with | ⟨i,O,v⟩=>[(2,.mk v 121 4 (rows chgC O))]) (fun (x_:Nat×List Chg×Nat)=>match x_ with | ⟨i,O,v⟩=>i≤es.length∧Za1 a f none es=O++Za1 a f (Zet es i) (es.drop i)∧O.length≤1001*i) (fun (x_:Nat×List Chg×Nat)=>match x_ with | ⟨i,O,v⟩=>es.length-i) (⟨0,[],0⟩) (by exact⟨Nat.zero_le _,rfl,Nat.zero_le _⟩) ?_
 rintro⟨i,O,v⟩ hi1
 try simp only[sm',Nat.reduceAdd]
 obtain⟨hi1,hi2,hi3⟩:=hi1
 refine wr'<|Vw (Zbb lk lk)<|sn'<|Zam<|?_
 refine cd' lk (fun hc1=>?_) (fun hc1=>?_)
 ·have hi:i<es.length:=by omega
  have hxo:=okX_of hz (List.getElem_mem hi)
  refine Zaf<|Zah<|Zam<|Zap<|wr'<|mw<|?_
  refine V' (Za0 lk lk ZdX (nb' rfl) ro om ro rfl) pt ?_
  refine Vw (ZaI lk Zft rfl)<|E' (ZaV (hl3 hn) ha3) pt<|mw<|E' (Zak lk cv gx rfl (nb' rfl) rfl Zoi (hs3 hn)) ptn<|sn'<|Zam<|wr'<|mw<|mw<|Vw (ZaL lk)<|Vw (Zbb lk lk)<|mw<|?_
  refine sp' (t:=27) gt pt pt (fun hg27=>?_) (fun hg27=>?_)
  ·have hn1:i+1<es.length:=by omega
   have hen:(Zcd es)[i]'(by omega)=endV es[i]:=Zk6 om hi
   have heb:=ZnY hz hn1
   refine s_do gt<|mw<|s_do gt<|mw<|s_do gt<|?_
   refine V' (Za0 lk lk ZcS (nb' rfl) ro om ro rfl) pt ?_
   refine s_do gt<|Vw (ZaE lk gt)<|s_do gt<|mw<|s_do gt<|Vw (Zdq lk lk)<|Vw (Zag lk lk)<|sn'<|?_
   refine cd' lk (fun hc2=>?_) (fun hc2=>?_)
   ·have hsk:=Zp6 (rl:=a) (f:=f) (prev:=Zet es i) hn1 (by rw[←hen];exact hc2)
    refine ZaQ<|ZaD<|Zba<|Zah<|Zav<|?_
    refine V' (Zay lk lki om om) pt ?_
    refine mw<|Zas<|ZaB<|?_
    refine lU' (⟨i+1,O,v⟩) (by (try dsimp only);exact⟨by omega,by rw[hi2,hsk],by omega⟩) (by (try dsimp only);(try simp only[sm',Nat.reduceAdd]);exact bkE' 3 hn hlt (by repeat (first | exact wk0 | refine wka ?_ | refine wk1 rfl ?_ | refine wk1 (by first | rfl | exact ivx om | (rw[List.length_append])) ?_)) (hT:=by simp[AV.lt,AV.ltL,Ent.lt]) (hE:=by simp[AV.lt,AV.ltL,Ent.lt]))
   have hnc:¬endV es[i]≤f:=by rw[←hen];exact hc2
   refine Zaf<|Zah<|wr'<|mw<|mw<|sn'<|?_
   refine Zf7 (ι:=Int) (fun (B:Int)=>[(11,iv B)]++rn' 36 9) (fun (B:Int)=>[]) (fun (B:Int)=>ZbK (Zet es i) f=B ∧ -9000000000000000000≤B∧B≤9000000000000000000) ?_ ?_
   ·try simp only[sm',Nat.reduceAdd]
    refine wr'<|mw<|Vw (ZbD lk lki)<|sn'<|?_
    refine cd' lk (fun hc3=>?_) (fun hc3=>?_)
    ·have hi0:i-1+1<es.length:=by omega
     have hen0:(Zcd es)[i-1]'(by omega)=endV (es[i-1]'(by omega)):=Zk6 om om
     have heb0:=ZnY hz hi0
     have hB:(if (Zcd es)[i-1]'(by omega)>f then (Zcd es)[i-1]'(by omega) else f)=ZbK (Zet es i) f:=by rw[hen0,show Zet es i=some (endV (es[i-1]'(by omega))) from by have:=Zfl (es:=es) (i:=i-1) om;rwa [show i-1+1=i by omega] at this];show _=max f _;omega
     have hBb : -9000000000000000000≤ZbK (Zet es i) f∧ZbK (Zet es i) f≤9000000000000000000:=by rw[←hB,hen0];split <;> omega
     refine Zav<|mw<|mw<|mw<|?_
     refine V' (Zbt lk lki om om) pt ?_
     refine V' (Za0 (k:=i-1) lk lk ZcS (nb' rfl) ro om ro rfl) pt ?_
     refine Vw (ZaE lk gt)<|Vw (v_mm lk lk)<|?_
     simp only[cond_true,hB]
     refine mw<|Zas<|ZaB<|?_
     exact cT' (ZbK (Zet es i) f) (by exact⟨rfl,hBb.1,hBb.2⟩)
    refine Zaf<|ZaB<|?_
    exact cT' (f) (by exact⟨by rw[show i=0 by omega];rfl,by omega,by omega⟩)
   rintro B hq12
   try simp only[sm',Nat.reduceAdd]
   obtain⟨hBd,hB1,hB2⟩:=hq12
   refine wr'<|Vw (ZaI lk Zi0 rfl)<|Vw (Zan lk gx Zi1 rfl)<|mw<|Zad mp (era_z hok ha hxo ⟨hB1,hB2⟩) pt<|mw<|sn'<|Zam<|wr'<|mw<|mw<|?_
   refine Vw (ZaL lk)<|Vw (Zbb lk lk)<|sn'<|?_
   have hgl:=Zgw (x:=es[i]) (b:=B) (Zbg a es[i])
   have htl:=Zfh (rl:=a) (x:=es[i])
   refine ZcZ lk (by exact decide_eq_true om) ?_
   refine Zav<|mw<|mw<|mw<|?_
   refine V' (Za0 lk lk ZcS (nb' rfl) ro om ro rfl) pt ?_
   refine V' (ZaE lk gt) pt ?_
   refine Zad mp (zcut_a om) pt ?_
   have hcl:=Zpw (eraG es[i] B (Zbg a es[i])) ((Zcd es)[i]'(by omega))
   have hT:=Zp5 (rl:=a) (f:=f) (prev:=Zet es i) hn1 hnc
   rw[hBd,←hen] at hT
   refine mw<|sn'<|Zav<|mw<|mw<|?_
   refine E' (Zdn (sc_sl lk (ZcD _)) lk gx (ZcD _) om (ZpC _) (hs2 hn)) pt ?_
   refine mw<|Zas<|Zaz<|Zah<|Zav<|?_
   refine V' (Zay lk lki om om) pt ?_
   refine mw<|Zas<|ZaB<|?_
   refine lU' (⟨i+1,O++cutV (eraG es[i] B (Zbg a es[i])) ((Zcd es)[i]'(by omega)),v+1⟩) (by (try dsimp only);exact⟨by omega,by rw[hi2,hT,List.append_assoc],by rw[List.length_append];omega⟩) (by (try dsimp only);(try simp only[sm',Nat.reduceAdd]);exact bkE' 3 hn hlt (by repeat (first | exact wk0 | refine wka ?_ | refine wk1 rfl ?_ | refine wk1 (by first | rfl | exact ivx om | (rw[List.length_append])) ?_)) (by rw[ZaZ];rfl) (hT:=by simp[AV.lt,AV.ltL,Ent.lt]) (hE:=by simp[AV.lt,AV.ltL,Ent.lt]))
  have hn1:es.length≤i+1:=by omega
  refine s_no gt pt<|s_no gt pt<|s_no gt pt<|s_no gt pt<|s_no gt pt<|s_no gt pt<|Vw (Zaj lk lkb)<|sn'<|ZaM lk<|Zaf<|Zah<|wr'<|?_
  refine mw<|mw<|sn'<|?_
  refine Zf7 (ι:=Int) (fun (B:Int)=>[(11,iv B)]++rn' 36 9) (fun (B:Int)=>[]) (fun (B:Int)=>ZbK (Zet es i) f=B ∧ -9000000000000000000≤B∧B≤9000000000000000000) ?_ ?_
  ·try simp only[sm',Nat.reduceAdd]
   refine wr'<|mw<|Vw (ZbD lk lki)<|sn'<|?_
   refine cd' lk (fun hc3=>?_) (fun hc3=>?_)
   ·have hi0:i-1+1<es.length:=by omega
    have hen0:(Zcd es)[i-1]'(by omega)=endV (es[i-1]'(by omega)):=Zk6 om om
    have heb0:=ZnY hz hi0
    have hB:(if (Zcd es)[i-1]'(by omega)>f then (Zcd es)[i-1]'(by omega) else f)=ZbK (Zet es i) f:=by rw[hen0,show Zet es i=some (endV (es[i-1]'(by omega))) from by have:=Zfl (es:=es) (i:=i-1) om;rwa [show i-1+1=i by omega] at this];show _=max f _;omega
    have hBb : -9000000000000000000≤ZbK (Zet es i) f∧ZbK (Zet es i) f≤9000000000000000000:=by rw[←hB,hen0];split <;> omega
    refine Zav<|mw<|mw<|mw<|?_
    refine V' (Zbt lk lki om om) pt ?_
    refine V' (Za0 (k:=i-1) lk lk ZcS (nb' rfl) ro om ro rfl) pt ?_
    refine Vw (ZaE lk gt)<|Vw (v_mm lk lk)<|?_
    simp only[cond_true,hB]
    refine mw<|Zas<|ZaB<|?_
    exact cT' (ZbK (Zet es i) f) (by exact⟨rfl,hBb.1,hBb.2⟩)
   refine Zaf<|ZaB<|?_
   exact cT' (f) (by exact⟨by rw[show i=0 by omega];rfl,by omega,by omega⟩)
  rintro B hq12
  try simp only[sm',Nat.reduceAdd]
  obtain⟨hBd,hB1,hB2⟩:=hq12
  refine wr'<|Vw (ZaI lk Zi0 rfl)<|Vw (Zan lk gx Zi1 rfl)<|mw<|Zad mp (era_z hok ha hxo ⟨hB1,hB2⟩) pt<|mw<|sn'<|Zam<|wr'<|mw<|mw<|?_
  refine Vw (ZaL lk)<|Vw (Zbb lk lk)<|sn'<|?_
  have hgl:=Zgw (x:=es[i]) (b:=B) (Zbg a es[i])
  have htl:=Zfh (rl:=a) (x:=es[i])
  have hT:=Zp7 (rl:=a) (f:=f) (prev:=Zet es i) hi hn1
  rw[hBd] at hT
  refine ZdO lk (by exact decide_eq_false om) ?_
  refine Zaf<|Zah<|Zav<|mw<|mw<|?_
  refine E' (Zdn (sc_sl lk (ZcD _)) lk gx (ZcD _) om (ZpC _) (hs2 hn)) pt ?_
  refine mw<|Zas<|Zaz<|Zah<|Zav<|?_
  refine V' (Zay lk lki om om) pt ?_
  refine mw<|Zas<|ZaB<|?_
  refine lU' (⟨i+1,O++eraG es[i] B (Zbg a es[i]),v+1⟩) (by (try dsimp only);exact⟨by omega,by rw[hi2,hT,List.drop_of_length_le hn1];exact (List.append_nil _).symm,by rw[List.length_append];omega⟩) (by (try dsimp only);(try simp only[sm',Nat.reduceAdd]);exact bkE' 3 hn hlt (by repeat (first | exact wk0 | refine wka ?_ | refine wk1 rfl ?_ | refine wk1 (by first | rfl | exact ivx om | (rw[List.length_append])) ?_)) (by rw[ZaZ];rfl) (hT:=by simp[AV.lt,AV.ltL,Ent.lt]) (hE:=by simp[AV.lt,AV.ltL,Ent.lt]))
 rw[List.drop_of_length_le om] at hi2
 have hPO:Za1 a f none es=O:=hi2.trans (List.append_nil _)
 refine ZaQ<|ZaD<|ZaD<|Zba<|?_
 refine Za5 (ALe.iceR gx gt7 (List.take_of_length_le (by rw[ZcD];exact Nat.le_refl _)) (by rw[ZcD];exact Nat.le_refl _) pt7 (hs2 hn)) ?_
 refine wr'<|mw<|mw<|sn'<|Zaa<|Zae rz<|rtW'<|?_
 rw[hPO];exact Wk.full
theorem Zo4 {s:Src}{z:Zon}(h:Zb7 s=0) (hm:z∈s.2.1) (f:Int):(∃ l,Za1 s.1 f none z.2=(f,ZcP s.1 z.2 f)::l)∧(Za1 s.1 f none z.2).Pairwise (fun a b=>a.1<b.1)∧(∀ c∈Za1 s.1 f none z.2,f≤c.1∧c.2=ZcP s.1 z.2 c.1) ∧
  ∀ u v,f≤u→u≤v→(∀ c∈Za1 s.1 f none z.2,¬(u<c.1∧c.1≤v))→ZcP s.1 z.2 u=ZcP s.1 z.2 v:=by
 obtain⟨hE,_,_,_,h5⟩:=Zqy h
 exact Zmb (f:=f) (prev:=none) (Zhf hE hm).ne (fun x _=>risT_all _ x) ((ZkS _).1 (h5 z hm)) trivial
end Go.Proofs.YtlekejpogddndaaGreatDoor
end
section
namespace Go.Proofs.YtlekejpogddndaaGreatDoor
open Go.Ab Civ
theorem ZlR {s:Src}{z:Zon}(h:Zb7 s=0) (hm:z∈s.2.1):stV (inP (Za1 s.1 tMin none z.2))=Zht s.1 z.2:=by
 obtain⟨⟨l,h1⟩,h2,h3,h4⟩:=Zo4 h hm tMin
 have hp:=Zso (rl:=s.1) (f:=tMin) (es:=z.2) fun c hc=>(h3 c hc).2
 have hs:((Za1 s.1 tMin none z.2).map (·.1)).Pairwise (· < ·):=by rw[List.pairwise_map];exact h2
 have hL:(Za1 s.1 tMin none z.2).map (·.1)=tMin::l.map (·.1):=by rw[h1];rfl
 rw[hp,hL]
 rw[hL] at hs
 rw[stV_tab hs]
 refine table_of (hs.imp fun h=>Int.le_of_lt h) fun u v h5 h6 h7=>h4 u v h5 h6 fun c hc hh=>h7 c.1 ?_ hh
 rw[←hL]
 exact List.mem_map.2 ⟨c,hc,rfl⟩
def ofV (s:Src) (z:Zon):Tab×Int:=tabR (Zht s.1 z.2)
def Zn5 (s:Src) (nm:ByteArray):Tab×Int:=if (ZcM s nm).2≠0 then (noTab,(ZcM s nm).2) else ofV s (ZcM s nm).1
theorem Znk {rl:List Rul}{es:List Era}:((Zgd rl es).mergeSort fun a b=>decide (a≤b)).Pairwise (· ≤ ·):=by
 have h:=List.pairwise_mergeSort (le:=fun a b:Int=>decide (a≤b)) (fun a b c h1 h2=>by simp at *;omega) (fun a b=>by simp;omega) (Zgd rl es)
 exact h.imp fun h=>by simpa using h
theorem ZlM {rl:List Rul}{es:List Era}(h:(tabR (Zht rl es)).2=0):Za9 (Zht rl es)=0:=ZpR Znk h
end Go.Proofs.YtlekejpogddndaaGreatDoor
end
section
namespace Go.Proofs.YtlekejpogddndaaGreatDoor
open Go.Ab
attribute [local simp] Zbj Zby Zbs Zbv
section
theorem Zkt {a0 a1 a2:AV}{l:List AV}:((a0::a1::a2::l).drop 0).take 3=[a0,a1,a2]:=rfl
theorem Zoz {a0 b0:Int}{a1 b1:Int}{a2 b2:Int}:Zbn [.int,.int,.int] [iv a0,iv a1,iv a2] [iv b0,iv b1,iv b2]=some (decide (a0=b0∧a1=b1∧a2=b2)):=by
 simp only[Zbn,ZdY,if_true,ZcV,Option.some.injEq]
 simp only[Bool.decide_and,Bool.and_true]
 try (congr 1 <;> simp)
 try rfl
end
def c226:AC:=(Sr [Oo 2 (.box 61 5 (.tmp 0)),Oo 3 (.box 61 5 (.tmp 1)),Mb 4 false] (Sr [Fa 5 0 2,Oo 6 (.load true 3 (.tmp 5)),Fa 7 0 3,Oo 8 (.load true 3 (.tmp 7)),Oo 9 (.eqs false [.int,.int,.int] (.tmp 6) (.tmp 8)),Mv 10 9,Ot 11 10 (.fa 3 (.tmp 2)),Ot 12 10 (.load false 1 (.tmp 11)),Ot 13 10 (.fa 3 (.tmp 3)),Ot 14 10 (.load false 1 (.tmp 13)),Ot 15 10 (.bin .eql (.tmp 12) (.tmp 14)),Oo 16 (.pick (.tmp 10) (.tmp 15) (.const (.bool false))),Mv 17 16,Ot 18 17 (.fa 4 (.tmp 2)),Ot 19 17 (.load false 1 (.tmp 18)),Ot 20 17 (.fa 4 (.tmp 3)),Ot 21 17 (.load false 1 (.tmp 20)),Ot 22 17 (.bin .eql (.tmp 19) (.tmp 21)),Oo 23 (.pick (.tmp 17) (.tmp 22) (.const (.bool false))),Mv 4 23] .ret))
theorem k226:ZaA Tryz.prog 226=some ⟨c226,[(.tmp 4)],24⟩:=by kernel_rfl
theorem ZdS {u v:Unt}{h:AH}:Ac 226 [.agg (untC u),.agg (untC v)] h (bv (decide (u=v))):=by
 obtain⟨⟨y,m,d⟩,a,c⟩:=u
 obtain⟨⟨y2,m2,d2⟩,a2,c2⟩:=v
 refine tI' k226 fun N hn hlt hlA hbd=>?_
 simp only[tb'] at hbd ⊢
 refine wr'<|E' (Zbd cv rfl (hl0 hn) ha0) pt<|E' (Zbd cv rfl (hl1 hn) ha1) pt<|mw<|sn'<|wr'<|Vw (Zab lk)<|Vw (Zan lk gx Zkt rfl)<|Vw (Zab lk)<|Vw (Zan lk gx Zkt rfl)<|Vw (Zf9 lk lk Zoz)<|?_
 refine mv' lk pt ?_
 refine sp' (t:=10) gt pt pt (fun hg10=>?_) (fun hg10=>?_)
 ·refine s_do gt<|Vw (Zab lk)<|s_do gt<|Vw (Zac lk gx gt3)<|s_do gt<|Vw (Zab lk)<|s_do gt<|Vw (Zac lk gx gt3)<|s_do gt<|Vw (ZaP lk lk)<|Vw (Zag lk lk)<|mw<|?_
  refine sp' (t:=17) gt pt pt (fun hg17=>?_) (fun hg17=>?_)
  ·refine s_do gt<|Vw (Zab lk)<|s_do gt<|Vw (Zac lk gx gt4)<|s_do gt<|Vw (Zab lk)<|s_do gt<|Vw (Zac lk gx gt4)<|s_do gt<|Vw (ZaP lk lk)<|Vw (Zag lk lk)<|mw<|sn'<|?_
   refine Zaa<|Zae rz<|rT'<|?_
   refine bvx ?_;simp_all
  refine s_no gt pt<|s_no gt pt<|s_no gt pt<|s_no gt pt<|s_no gt pt<|Vw (Zaj lk lkb)<|mw<|sn'<|Zaa<|Zae rz<|rT'<|?_
  refine bvx ?_;simp_all
 refine s_no gt pt<|s_no gt pt<|s_no gt pt<|s_no gt pt<|s_no gt pt<|Vw (Zaj lk lkb)<|mw<|s_no gt pt<|s_no gt pt<|s_no gt pt<|s_no gt pt<|s_no gt pt<|Vw (Zaj lk lkb)<|mw<|?_
 refine sn'<|Zaa<|Zae rz<|rT'<|?_
 refine bvx ?_;simp_all
end Go.Proofs.YtlekejpogddndaaGreatDoor
end
section
namespace Go.Proofs.YtlekejpogddndaaGreatDoor
open Go.Ab Go.RowKit Civ
attribute [local simp] Zbj Zby Zbs Zbv
section
theorem Zq9 {a0 a1 a2 a3 a4 a5 a6:AV}{l:List AV}:((a0::a1::a2::a3::a4::a5::a6::l).drop 4).take 3=[a4,a5,a6]:=rfl
theorem Zra {a0 a1 a2 c0 c1 c2:AV}{l:List AV}:setCells (a0::a1::a2::l) 0 [c0,c1,c2]=c0::c1::c2::l:=rfl
theorem Zfx {a0 a1 a2 a3 a4 a5 a6 a7 a8 a9:AV}{l:List AV}:((a0::a1::a2::a3::a4::a5::a6::a7::a8::a9::l).drop 5).take 5=[a5,a6,a7,a8,a9]:=rfl
theorem Zcy {τ:Operand→AV}:Zar τ [] [(.v (.int .i64 0)),(.v (.int .i64 0)),(.v (.int .i64 0)),(.v (.int .i64 0)),(.v (.int .i64 0))]=some [(.v (.int .i64 0)),(.v (.int .i64 0)),(.v (.int .i64 0)),(.v (.int .i64 0)),(.v (.int .i64 0))]:=rfl
theorem Zfy {a0 a1 a2 a3 a4 a5 a6 a7:AV}{l:List AV}:((a0::a1::a2::a3::a4::a5::a6::a7::l).drop 5).take 3=[a5,a6,a7]:=rfl
theorem Zq7 {a0 a1 a2 a3 a4 a5 a6 a7 a8 a9 a10:AV}{l:List AV}:(a0::a1::a2::a3::a4::a5::a6::a7::a8::a9::a10::l).take 11=[a0,a1,a2,a3,a4,a5,a6,a7,a8,a9,a10]:=rfl
theorem Zq8 {a0 a1 a2 a3 a4 a5 a6 a7 a8 a9:AV}{l:List AV}:(a0::a1::a2::a3::a4::a5::a6::a7::a8::a9::l).take 10=[a0,a1,a2,a3,a4,a5,a6,a7,a8,a9]:=rfl
end
def c151:AC:=(Sr [Oo 1 (.box 36 11 (.tmp 0)),Mc 2 0] (.seq (Sr [Fa 5 0 1,Ld 6 5,Cl 7 115 [(.tmp 6)],Oo 8 (.un .not (.tmp 7)),Mv 9 8,Of 10 9 (.fa 10 (.tmp 1)),Of 11 9 (.load false 1 (.tmp 10)),Of 12 9 (.call (.func 224) [(.tmp 11)]),Of 13 9 (.un .not (.tmp 12)),Oo 14 (.pick (.tmp 9) (.const (.bool true)) (.tmp 13))] (Cd 14 (Sr [Mc 2 1] .ret) .skip)) (.seq (Sr [Fa 15 1 1,Ld 16 15,Fa 17 2 1,Ld 18 17,Cl 19 73 [(.tmp 16),(Ci 1900),(.tmp 18)],Oo 20 (.un .not (.tmp 19)),Mv 21 20,Of 22 21 (.fa 2 (.tmp 1)),Of 23 21 (.load false 1 (.tmp 22)),Of 24 21 (.bin .gtr (.tmp 23) (Ci 2100)),Oo 25 (.pick (.tmp 21) (.const (.bool true)) (.tmp 24)),Mv 26 25,Of 27 26 (.fa 3 (.tmp 1)),Of 28 26 (.load false 1 (.tmp 27)),Of 29 26 (.call (.func 73) [(.tmp 28),(Ci 1),(Ci 12)]),Of 30 26 (.un .not (.tmp 29)),Oo 31 (.pick (.tmp 26) (.const (.bool true)) (.tmp 30))] (Cd 31 (Sr [Mc 2 3] .ret) .skip)) (Sr [Fa 33 3 1,Ld 34 33,Fa 35 4 1,Oo 36 (.load true 3 (.tmp 35)),Cl 37 153 [(Ci 2001),(.tmp 34),(.tmp 36)],Mv 32 37,Ex 38 32 0,Ex 39 32 1,Oo 3 (.new 59 3 [(iv 0),(iv 0),(iv 0)]),⟨none,none,(.store 3 (.tmp 3) (.tmp 38))⟩,Mv 4 39] (.seq (Sr [Mv 40 4,Bc 41 .neq 40 0] (Cd 41 (Sr [Mv 42 4,Mv 2 42] .ret) .skip)) (.seq (Sr [Fa 43 7 1,Ld 44 43,Cl 45 73 [(.tmp 44),(Ci 0),(Ci 172800)],Oo 46 (.un .not (.tmp 45))] (Cd 46 (Sr [Mc 2 3] .ret) .skip)) (.seq (Sr [Fa 47 8 1,Ld 48 47,Cl 49 73 [(.tmp 48),(Ci 1),(Ci 3)],Oo 50 (.un .not (.tmp 49))] (Cd 50 (Sr [Mc 2 7] .ret) .skip)) (.seq (Sr [Fa 51 9 1,Ld 52 51,Cl 53 73 [(.tmp 52),(Ci 0),(Ci 10800)],Oo 54 (.un .not (.tmp 53))] (Cd 54 (Sr [Mc 2 3] .ret) .skip)) (Sr [Mc 2 0] .ret)))))))))
theorem k151:ZaA Tryz.prog 151=some ⟨c151,[(.tmp 2)],55⟩:=by kernel_rfl
def c152:AC:=(Sr [Oo 2 (.box 63 10 (.tmp 0)),Mc 4 0] (.seq (Sr [Fa 5 1 2,Ld 6 5,Oo 7 (.bin .neq (.tmp 6) (.const (.string ⟨#[]⟩))),Mv 8 7,Ot 9 8 (.fa 1 (.tmp 2)),Ot 10 8 (.load false 1 (.tmp 9)),Ot 11 8 (.call (.func 115) [(.tmp 10)]),Ot 12 8 (.un .not (.tmp 11)),Oo 13 (.pick (.tmp 8) (.tmp 12) (.const (.bool false))),Mv 14 13,Of 15 14 (.fa 3 (.tmp 2)),Of 16 14 (.load false 1 (.tmp 15)),Of 17 14 (.call (.func 225) [(.tmp 16)]),Of 18 14 (.un .not (.tmp 17)),Oo 19 (.pick (.tmp 14) (.const (.bool true)) (.tmp 18))] (Cd 19 (Sr [Mc 4 1] .ret) .skip)) (.seq (Sr [Fa 20 0 2,Ld 21 20,Cl 22 73 [(.tmp 21),(.const (.int .i64 (-64800))),(Ci 64800)],Oo 23 (.un .not (.tmp 22)),Mv 24 23,Of 25 24 (.fa 2 (.tmp 2)),Of 26 24 (.load false 1 (.tmp 25)),Of 27 24 (.call (.func 73) [(.tmp 26),(Ci 0),(Ci 10800)]),Of 28 24 (.un .not (.tmp 27)),Oo 29 (.pick (.tmp 24) (.const (.bool true)) (.tmp 28))] (Cd 29 (Sr [Mc 4 3] .ret) .skip)) (.seq (Sr [Fa 30 1 2,Ld 31 30,Oo 32 (.bin .neq (.tmp 31) (.const (.string ⟨#[]⟩))),Mv 33 32,Ot 34 33 (.fa 2 (.tmp 2)),Ot 35 33 (.load false 1 (.tmp 34)),Ot 36 33 (.bin .neq (.tmp 35) (Ci 0)),Oo 37 (.pick (.tmp 33) (.tmp 36) (.const (.bool false)))] (Cd 37 (Sr [Mc 4 1] .ret) .skip)) (.seq (Sr [Fa 38 4 2,Ld 39 38,Mv 40 1,Oo 41 (.eqb true (.tmp 39) (.tmp 40))] (Cd 41 (Sr [Mc 4 4] .ret) .skip)) (.seq (Sr [Fa 42 4 2,Ld 43 42] (Cd 43 (.seq (Sr [Fa 44 5 2,Oo 45 (.load true 5 (.tmp 44)),Oo 46 (.build [(iv 0),(iv 0),(iv 0),(iv 0),(iv 0)] []),Cl 47 226 [(.tmp 45),(.tmp 46)],Oo 48 (.un .not (.tmp 47))] (Cd 48 (Sr [Mc 4 1] .ret) .skip)) (Sr [Mc 4 0] .ret)) .skip)) (.seq (Sr [Fa 49 5 2,Fa 50 0 49,Oo 51 (.load true 3 (.tmp 50)),Cl 52 227 [(.tmp 51)],Oo 53 (.un .not (.tmp 52)),Mv 54 53,Of 55 54 (.fa 5 (.tmp 2)),Of 56 54 (.fa 3 (.tmp 55)),Of 57 54 (.load false 1 (.tmp 56)),Of 58 54 (.call (.func 73) [(.tmp 57),(Ci 0),(Ci 172800)]),Of 59 54 (.un .not (.tmp 58)),Oo 60 (.pick (.tmp 54) (.const (.bool true)) (.tmp 59))] (Cd 60 (Sr [Mc 4 3] .ret) .skip)) (.seq (Sr [Fa 61 5 2,Fa 62 4 61,Ld 63 62,Bc 64 .neq 63 2,Mv 65 64,Ot 66 65 (.fa 5 (.tmp 2)),Ot 67 65 (.fa 4 (.tmp 66)),Ot 68 65 (.load false 1 (.tmp 67)),Ot 69 65 (.bin .neq (.tmp 68) (Ci 3)),Oo 70 (.pick (.tmp 65) (.tmp 69) (.const (.bool false)))] (Cd 70 (Sr [Mc 4 7] .ret) .skip)) (Sr [Mc 4 0] .ret)))))))))
theorem k152:ZaA Tryz.prog 152=some ⟨c152,[(.tmp 4)],71⟩:=by kernel_rfl
def c79:AC:=(Sr [Oo 1 (.box 26 3 (.tmp 0)),Mc 2 0] (.seq (Sr [Fa 11 0 1,Ld 12 11,Oo 13 (.len false (.tmp 12)),Bc 14 .gtr 13 40,Mv 15 14,Of 16 15 (.fa 1 (.tmp 1)),Of 17 15 (.load false 1 (.tmp 16)),Of 18 15 (.len false (.tmp 17)),Of 19 15 (.bin .gtr (.tmp 18) (Ci 20)),Oo 20 (.pick (.tmp 15) (.const (.bool true)) (.tmp 19)),Mv 21 20,Of 22 21 (.fa 2 (.tmp 1)),Of 23 21 (.load false 1 (.tmp 22)),Of 24 21 (.len false (.tmp 23)),Of 25 21 (.bin .gtr (.tmp 24) (Ci 20)),Oo 26 (.pick (.tmp 21) (.const (.bool true)) (.tmp 25))] (Cd 26 (Sr [Mc 2 2] .ret) .skip)) (.seq (Sr [Mc 3 0] (.block 0 (.loop (.seq (Sr [Mv 27 3,Fa 28 1 1,Ld 29 28,Oo 30 (.len false (.tmp 29)),Bn 31 .lss 27 30] (Cd 31 .skip (.exit 0))) (.seq (.block 1 (Sr [Fa 34 1 1,Ld 35 34,Mv 36 3,Oo 37 (.ia 2 (.tmp 35) (.tmp 36)),Fa 38 1 37,Ld 39 38,Oo 40 (.len false (.tmp 39)),Bc 41 .gtr 40 8] (Cd 41 (Sr [Mc 2 2] .ret) .skip))) (.reg [Mv 32 3,Bc 33 .add 32 1,Mv 3 33])))))) (.seq (Sr [Mc 4 0] (.block 2 (.loop (.seq (Sr [Mv 42 4,Fa 43 0 1,Ld 44 43,Oo 45 (.len false (.tmp 44)),Bn 46 .lss 42 45] (Cd 46 .skip (.exit 2))) (.seq (.block 3 (Sr [Fa 49 0 1,Ld 50 49,Mv 51 4,Oo 52 (.ia 11 (.tmp 50) (.tmp 51)),Oo 53 (.load true 11 (.tmp 52)),Cl 54 151 [(.tmp 53)],Mv 5 54] (Sr [Mv 55 5,Bc 56 .neq 55 0] (Cd 56 (Sr [Mv 57 5,Mv 2 57] .ret) .skip)))) (.reg [Mv 47 4,Bc 48 .add 47 1,Mv 4 48])))))) (.seq (Sr [Mc 6 0] (.block 4 (.loop (.seq (Sr [Mv 58 6,Fa 59 1 1,Ld 60 59,Oo 61 (.len false (.tmp 60)),Bn 62 .lss 58 61] (Cd 62 .skip (.exit 4))) (.seq (.block 5 (Sr [Fa 65 1 1,Ld 66 65,Mv 67 6,Oo 68 (.ia 2 (.tmp 66) (.tmp 67)),Fa 69 1 68,Ld 70 69,Mv 7 70] (.seq (Sr [Fa 71 1 1,Ld 72 71,Mv 73 6,Oo 74 (.ia 2 (.tmp 72) (.tmp 73)),Fa 75 0 74,Ld 76 75,Cl 77 115 [(.tmp 76)],Oo 78 (.un .not (.tmp 77)),Mv 79 78,Of 80 79 (mt 7),Of 81 79 (.len false (.tmp 80)),Of 82 79 (.bin .eql (.tmp 81) (Ci 0)),Oo 83 (.pick (.tmp 79) (.const (.bool true)) (.tmp 82))] (Cd 83 (Sr [Mc 2 1] .ret) .skip)) (Sr [Mc 8 0] (.block 6 (.loop (.seq (Sr [Mv 84 8,Mv 85 7,Oo 86 (.len false (.tmp 85)),Bn 87 .lss 84 86] (Cd 87 .skip (.exit 6))) (.seq (.block 7 (Sr [Mv 90 7,Mv 91 8,Oo 92 (.ia 10 (.tmp 90) (.tmp 91)),Oo 93 (.load true 10 (.tmp 92)),Mv 94 8,Mv 95 7,Oo 96 (.len false (.tmp 95)),Bc 97 .sub 96 1,Bn 98 .eql 94 97,Cl 99 152 [(.tmp 93),(.tmp 98)],Mv 9 99] (Sr [Mv 100 9,Bc 101 .neq 100 0] (Cd 101 (Sr [Mv 102 9,Mv 2 102] .ret) .skip)))) (.reg [Mv 88 8,Bc 89 .add 88 1,Mv 8 89]))))))))) (.reg [Mv 63 6,Bc 64 .add 63 1,Mv 6 64])))))) (.seq (Sr [Mc 10 0] (.block 8 (.loop (.seq (Sr [Mv 103 10,Fa 104 2 1,Ld 105 104,Oo 106 (.len false (.tmp 105)),Bn 107 .lss 103 106] (Cd 107 .skip (.exit 8))) (.seq (.block 9 (Sr [Fa 110 2 1,Ld 111 110,Mv 112 10,Oo 113 (.ia 2 (.tmp 111) (.tmp 112)),Fa 114 0 113,Ld 115 114,Cl 116 115 [(.tmp 115)],Oo 117 (.un .not (.tmp 116)),Mv 118 117,Of 119 118 (.fa 2 (.tmp 1)),Of 120 118 (.load false 1 (.tmp 119)),Of 121 118 (mt 10),Of 122 118 (.ia 2 (.tmp 120) (.tmp 121)),Of 123 118 (.fa 1 (.tmp 122)),Of 124 118 (.load false 1 (.tmp 123)),Of 125 118 (.call (.func 115) [(.tmp 124)]),Of 126 118 (.un .not (.tmp 125)),Oo 127 (.pick (.tmp 118) (.const (.bool true)) (.tmp 126))] (Cd 127 (Sr [Mc 2 1] .ret) .skip))) (.reg [Mv 108 10,Bc 109 .add 108 1,Mv 10 109])))))) (Sr [Mc 2 0] .ret)))))))
theorem k79:ZaA Tryz.prog 79=some ⟨c79,[(.tmp 2)],128⟩:=by kernel_rfl
theorem Zl8 {nm lt:ByteArray}{f t m k w n a c s:Int}{h:AH}(hnm:nm.size≤maxLen) (hlt':lt.size≤maxLen):Ac 151 [.agg [sv nm,iv f,iv t,iv m,iv k,iv w,iv n,iv a,iv c,iv s,sv lt]] h (iv (Zbw (nm,f,t,m,(k,w,n),a,c,s,lt))):=by
 refine tI' k151 fun N hn hlt hlA hbd=>?_
 simp only[tb'] at hbd ⊢
 refine wr'<|E' (Zbd cv rfl (hl0 hn) ha0) pt<|mw<|sn'<|Zam<|wr'<|Vw (Zab lk)<|Vw (Zac lk gx gt0)<|Zad mp (Zdc hnm) pt<|Vw (Zax lk)<|mw<|?_
 refine ZaG (t:=9) gt pt pt (fun hg9=>?_) (fun hg9=>?_)
 ·refine s_no gt pt<|s_no gt pt<|s_no gt pt<|s_no gt pt<|Vw (Zag lk lkb)<|sn'<|ZaC lk<|wr'<|mw<|sn'<|Zaa<|?_
  refine Zai<|Zae rz<|rT'<|?_
  rw[show Zbw (nm,f,t,m,(k,w,n),a,c,s,lt)=1 by unfold Zbw;simp_all]
 refine s_do gt<|Vw (Zab lk)<|s_do gt<|Vw (Zac lk gx gt10)<|s_do gt<|Zad mp (Zhx hlt') pt<|s_do gt<|Vw (Zax lk)<|Vw (Zaj lk lk)<|sn'<|?_
 refine Zaw lk (fun hc1=>?_) (fun hc1=>?_)
 ·refine wr'<|mw<|sn'<|Zaa<|Zai<|Zae rz<|rT'<|?_
  rw[show Zbw (nm,f,t,m,(k,w,n),a,c,s,lt)=1 by unfold Zbw;simp_all]
 have h1:Zcv nm=true∧Zco lt=true:=by simp_all
 have hR:Zbw (nm,f,t,m,(k,w,n),a,c,s,lt)=if f<1900∨f>t∨t>2100∨¬wi m 1 12=true then 3 else if (onV 2001 m k w n).2≠0 then (onV 2001 m k w n).2 else if ¬wi a 0 172800=true then 3 else if ¬clkB c true=true then 7 else if ¬wi s 0 10800=true then 3 else 0:=if_neg (by simp[h1])
 have hC:clkB c true=wi c 1 3:=by unfold clkB;simp
 rw[hC] at hR
 refine Zaf<|Zah<|Zam<|wr'<|Vw (Zab lk)<|Vw (Zac lk gx gt1)<|Vw (Zab lk)<|Vw (Zac lk gx gt2)<|Zad mp (ZaW) pt<|Vw (Zax lk)<|mw<|?_
 refine ZaG (t:=21) gt pt pt (fun hg21=>?_) (fun hg21=>?_)
 ·have hw:¬wi f 1900 t=true:=by simpa using hg21
  have hw':¬(1900≤f∧f≤t):=by unfold wi at hw;simpa using hw
  rw[if_pos om] at hR
  refine s_no gt pt<|s_no gt pt<|s_no gt pt<|Vw (Zag lk lkb)<|mw<|s_no gt pt<|s_no gt pt<|s_no gt pt<|s_no gt pt<|Vw (Zag lk lkb)<|sn'<|ZaC lk<|Zam<|?_
  refine Zav<|mw<|sn'<|Zaa<|Zai<|Zae rz<|rT'<|?_
  rw[hR]
 have hw:wi f 1900 t=true:=by simpa using hg21
 have hw':1900≤f∧f≤t:=by unfold wi at hw;simpa using hw
 refine s_do gt<|Vw (Zab lk)<|s_do gt<|Vw (Zac lk gx gt2)<|s_do gt<|Vw (ZbD lk lki)<|Vw (Zaj lk lk)<|mw<|?_
 refine sp' (t:=26) gt pt pt (fun hg26=>?_) (fun hg26=>?_)
 ·rw[if_pos (.inr (.inr (.inl om)))] at hR
  refine s_no gt pt<|s_no gt pt<|s_no gt pt<|s_no gt pt<|Vw (Zag lk lkb)<|sn'<|ZaC lk<|wr'<|mw<|sn'<|Zaa<|?_
  refine Zai<|Zae rz<|rT'<|?_
  rw[hR]
 refine s_do gt<|Vw (Zab lk)<|s_do gt<|Vw (Zac lk gx gt3)<|s_do gt<|Zad mp (ZaW) pt<|s_do gt<|Vw (Zax lk)<|Vw (Zaj lk lk)<|sn'<|?_
 refine Zaw lk (fun hc2=>?_) (fun hc2=>?_)
 ·rw[if_pos (.inr (.inr (.inr (by simpa using hc2))))] at hR
  refine wr'<|mw<|sn'<|Zaa<|Zai<|Zae rz<|rT'<|?_
  rw[hR]
 have hw2:wi m 1 12=true:=by simpa using hc2
 have h2:¬(f<1900∨f>t∨t>2100∨¬wi m 1 12=true):=by rw[hw2];simp;omega
 rw[if_neg h2] at hR
 refine Zaf<|Zah<|wr'<|Vw (Zab lk)<|Vw (Zac lk gx gt3)<|Vw (Zab lk)<|Vw (Zan lk gx Zq9 rfl)<|Zad mp (ron_a) pt<|mw<|Vw (ZaN lk gt)<|Vw (ZaN lk gt)<|E' (ZaV (hl1 hn) ha1) pt<|E' (Zak lk cv gx rfl (nb' rfl) rfl Zra (hs1 hn)) ptn<|?_
 refine mw<|sn'<|Zam<|wr'<|mw<|Vw (ZaT lk lki)<|sn'<|?_
 refine cd' lk (fun hc3=>?_) (fun hc3=>?_)
 ·rw[if_pos hc3] at hR
  refine wr'<|mw<|mw<|sn'<|Zaa<|Zai<|Zae rz<|rT'<|?_
  rw[hR]
 rw[if_neg hc3] at hR
 refine Zaf<|Zah<|Zam<|wr'<|Vw (Zab lk)<|Vw (Zac lk gx gt7)<|Zad mp (ZaW) pt<|Vw (Zax lk)<|sn'<|?_
 refine Zaw lk (fun hc4=>?_) (fun hc4=>?_)
 ·rw[if_pos (by simpa using hc4)] at hR
  refine wr'<|mw<|sn'<|Zaa<|Zai<|Zae rz<|rT'<|?_
  rw[hR]
 rw[if_neg (by simpa using hc4)] at hR
 refine Zaf<|Zah<|Zam<|wr'<|Vw (Zab lk)<|Vw (Zac lk gx gt8)<|Zad mp (ZaW) pt<|Vw (Zax lk)<|sn'<|?_
 refine Zaw lk (fun hc5=>?_) (fun hc5=>?_)
 ·rw[if_pos (by simpa using hc5)] at hR
  refine wr'<|mw<|sn'<|Zaa<|Zai<|Zae rz<|rT'<|?_
  rw[hR]
 rw[if_neg (by simpa using hc5)] at hR
 refine Zaf<|Zah<|Zam<|wr'<|Vw (Zab lk)<|Vw (Zac lk gx gt9)<|Zad mp (ZaW) pt<|Vw (Zax lk)<|sn'<|?_
 refine Zaw lk (fun hc6=>?_) (fun hc6=>?_)
 ·rw[if_pos (by simpa using hc6)] at hR
  refine wr'<|mw<|sn'<|Zaa<|Zai<|Zae rz<|rT'<|?_
  rw[hR]
 rw[if_neg (by simpa using hc6)] at hR
 refine Zaf<|Zah<|wr'<|mw<|sn'<|Zaa<|Zae rz<|rT'<|?_
 rw[hR]
theorem ZhM (c:Int):clkB c false=decide (c=2∨c=3):=by unfold clkB wi;rw[Bool.eq_iff_iff];simp;omega
theorem Znu {rl fm:ByteArray}{sh sa y m d a c:Int}{op last:Bool}{h:AH}(hrl:rl.size≤maxLen) (hfm:fm.size≤maxLen):Ac 152 [.agg [iv sh,sv rl,iv sa,sv fm,bv op,iv y,iv m,iv d,iv a,iv c],bv last] h (iv (eraE sh rl sa fm op y m d a c last)):=by
 refine tI' k152 fun N hn hlt hlA hbd=>?_
 simp only[tb'] at hbd ⊢
 refine wr'<|E' (Zbd cv rfl (hl0 hn) ha0) pt<|mw<|sn'<|Zam<|wr'<|Vw (Zab lk)<|Vw (Zac lk gx gt1)<|Vw (Zcr lk lks)<|mw<|?_
 refine sp' (t:=8) gt pt pt (fun hg8=>?_) (fun hg8=>?_)
 ·refine s_do gt<|Vw (Zab lk)<|s_do gt<|Vw (Zac lk gx gt1)<|s_do gt<|Zad mp (Zdc hrl) pt<|s_do gt<|Vw (Zax lk)<|Vw (Zag lk lk)<|mw<|?_
  refine ZaG (t:=14) gt pt pt (fun hg14=>?_) (fun hg14=>?_)
  ·refine s_no gt pt<|s_no gt pt<|s_no gt pt<|s_no gt pt<|Vw (Zag lk lkb)<|sn'<|ZaC lk<|wr'<|mw<|sn'<|Zaa<|?_
   refine Zai<|Zae rz<|rT'<|?_
   refine ivx ?_;unfold eraE;simp_all
  refine s_do gt<|Vw (Zab lk)<|s_do gt<|Vw (Zac lk gx gt3)<|s_do gt<|Zad mp (ZfQ hfm) pt<|s_do gt<|Vw (Zax lk)<|Vw (Zaj lk lk)<|sn'<|?_
  refine Zaw lk (fun hc1=>?_) (fun hc1=>?_)
  ·refine wr'<|mw<|sn'<|Zaa<|Zai<|Zae rz<|rT'<|?_
   refine ivx ?_;unfold eraE;simp_all
  refine Zaf<|Zah<|Zam<|wr'<|Vw (Zab lk)<|Vw (Zac lk gx gt0)<|Zad mp (ZaW) pt<|Vw (Zax lk)<|mw<|?_
  refine ZaG (t:=24) gt pt pt (fun hg24=>?_) (fun hg24=>?_)
  ·refine s_no gt pt<|s_no gt pt<|s_no gt pt<|s_no gt pt<|Vw (Zag lk lkb)<|sn'<|ZaC lk<|wr'<|mw<|sn'<|Zaa<|?_
   refine Zai<|Zae rz<|rT'<|?_
   refine ivx ?_;unfold eraE;simp_all
  refine s_do gt<|Vw (Zab lk)<|s_do gt<|Vw (Zac lk gx gt2)<|s_do gt<|Zad mp (ZaW) pt<|s_do gt<|Vw (Zax lk)<|Vw (Zaj lk lk)<|sn'<|?_
  refine Zaw lk (fun hc2=>?_) (fun hc2=>?_)
  ·refine wr'<|mw<|sn'<|Zaa<|Zai<|Zae rz<|rT'<|?_
   refine ivx ?_;unfold eraE;simp_all
  refine Zaf<|Zah<|Zam<|wr'<|Vw (Zab lk)<|Vw (Zac lk gx gt1)<|Vw (Zcr lk lks)<|mw<|?_
  refine sp' (t:=33) gt pt pt (fun hg33=>?_) (fun hg33=>?_)
  ·refine s_do gt<|Vw (Zab lk)<|s_do gt<|Vw (Zac lk gx gt2)<|s_do gt<|Vw (ZaT lk lki)<|Vw (Zag lk lk)<|sn'<|?_
   refine cd' lk (fun hc3=>?_) (fun hc3=>?_)
   ·refine wr'<|mw<|sn'<|Zaa<|Zai<|Zae rz<|rT'<|?_
    refine ivx ?_;unfold eraE;simp_all
   refine Zaf<|Zah<|Zam<|wr'<|Vw (Zab lk)<|Vw (Zac lk gx gt4)<|mw<|Vw (ZdP lk lk)<|sn'<|?_
   refine cd' lk (fun hc4=>?_) (fun hc4=>?_)
   ·refine wr'<|mw<|sn'<|Zaa<|Zai<|Zae rz<|rT'<|?_
    refine ivx ?_;unfold eraE;simp_all
   refine Zaf<|Zah<|Zam<|wr'<|Vw (Zab lk)<|Vw (Zac lk gx gt4)<|sn'<|?_
   refine Zaw lk (fun hc5=>?_) (fun hc5=>?_)
   ·refine Zam<|wr'<|Vw (Zab lk)<|Vw (Zan lk gx Zfx rfl)<|Vw (Zau Zcy)<|Zad mp (ZdS (u:=((y,m,d),a,c)) (v:=((0,0,0),0,0))) pt<|Vw (Zax lk)<|sn'<|?_
    refine Zaw lk (fun hc6=>?_) (fun hc6=>?_)
    ·refine wr'<|mw<|sn'<|Zaa<|Zai<|Zai<|Zae rz<|rT'<|?_
     refine ivx ?_;unfold eraE;simp_all <;> (try intros) <;> omega
    refine Zaf<|Zah<|wr'<|mw<|sn'<|Zaa<|Zai<|Zae rz<|rT'<|?_
    refine ivx ?_;unfold eraE;simp_all
   refine Zaf<|Zah<|Zam<|wr'<|Vw (Zab lk)<|Vw (ZbN lk)<|Vw (Zan lk gx Zfy rfl)<|Zad mp (Zfj) pt<|Vw (Zax lk)<|mw<|?_
   refine ZaG (t:=54) gt pt pt (fun hg54=>?_) (fun hg54=>?_)
   ·refine s_no gt pt<|s_no gt pt<|s_no gt pt<|s_no gt pt<|s_no gt pt<|Vw (Zag lk lkb)<|sn'<|ZaC lk<|wr'<|mw<|sn'<|?_
    refine Zaa<|Zai<|Zae rz<|rT'<|?_
    refine ivx ?_;unfold eraE;simp_all
   refine s_do gt<|Vw (Zab lk)<|s_do gt<|Vw (ZbN lk)<|s_do gt<|Vw (Zac lk gx gt8)<|s_do gt<|Zad mp (ZaW) pt<|s_do gt<|Vw (Zax lk)<|Vw (Zaj lk lk)<|sn'<|?_
   refine Zaw lk (fun hc7=>?_) (fun hc7=>?_)
   ·refine wr'<|mw<|sn'<|Zaa<|Zai<|Zae rz<|rT'<|?_
    refine ivx ?_;unfold eraE;simp_all
   refine Zaf<|Zah<|Zam<|wr'<|Vw (Zab lk)<|Vw (ZbN lk)<|Vw (Zac lk gx gt9)<|Vw (ZaT lk lki)<|mw<|?_
   refine sp' (t:=65) gt pt pt (fun hg65=>?_) (fun hg65=>?_)
   ·refine s_do gt<|Vw (Zab lk)<|s_do gt<|Vw (ZbN lk)<|s_do gt<|Vw (Zac lk gx gt9)<|s_do gt<|Vw (ZaT lk lki)<|Vw (Zag lk lk)<|sn'<|?_
    refine cd' lk (fun hc8=>?_) (fun hc8=>?_)
    ·refine wr'<|mw<|sn'<|Zaa<|Zai<|Zae rz<|rT'<|?_
     refine ivx ?_;unfold eraE;rw[ZhM];simp_all
    refine Zaf<|Zah<|wr'<|mw<|sn'<|Zaa<|Zae rz<|rT'<|?_
    refine ivx ?_;unfold eraE;rw[ZhM];simp_all
   refine s_no gt pt<|s_no gt pt<|s_no gt pt<|s_no gt pt<|Vw (Zaj lk lkb)<|sn'<|ZaM lk<|Zaf<|Zah<|wr'<|mw<|Zas<|?_
   refine Zah<|Zaa<|Zae rz<|rT'<|?_
   refine ivx ?_;unfold eraE;rw[ZhM];simp_all
  refine s_no gt pt<|s_no gt pt<|s_no gt pt<|Vw (Zaj lk lkb)<|sn'<|ZaM lk<|Zaf<|Zah<|Zam<|wr'<|Vw (Zab lk)<|Vw (Zac lk gx gt4)<|?_
  refine mw<|Vw (ZdP lk lk)<|sn'<|?_
  refine cd' lk (fun hc4=>?_) (fun hc4=>?_)
  ·refine wr'<|mw<|sn'<|Zaa<|Zai<|Zae rz<|rT'<|?_
   refine ivx ?_;unfold eraE;simp_all
  refine Zaf<|Zah<|Zam<|wr'<|Vw (Zab lk)<|Vw (Zac lk gx gt4)<|sn'<|?_
  refine Zaw lk (fun hc5=>?_) (fun hc5=>?_)
  ·refine Zam<|wr'<|Vw (Zab lk)<|Vw (Zan lk gx Zfx rfl)<|Vw (Zau Zcy)<|Zad mp (ZdS (u:=((y,m,d),a,c)) (v:=((0,0,0),0,0))) pt<|Vw (Zax lk)<|sn'<|?_
   refine Zaw lk (fun hc6=>?_) (fun hc6=>?_)
   ·refine wr'<|mw<|sn'<|Zaa<|Zai<|Zai<|Zae rz<|rT'<|?_
    refine ivx ?_;unfold eraE;simp_all <;> (try intros) <;> omega
   refine Zaf<|Zah<|wr'<|mw<|sn'<|Zaa<|Zai<|Zae rz<|rT'<|?_
   refine ivx ?_;unfold eraE;simp_all
  refine Zaf<|Zah<|Zam<|wr'<|Vw (Zab lk)<|Vw (ZbN lk)<|Vw (Zan lk gx Zfy rfl)<|Zad mp (Zfj) pt<|Vw (Zax lk)<|mw<|?_
  refine ZaG (t:=54) gt pt pt (fun hg54=>?_) (fun hg54=>?_)
  ·refine s_no gt pt<|s_no gt pt<|s_no gt pt<|s_no gt pt<|s_no gt pt<|Vw (Zag lk lkb)<|sn'<|ZaC lk<|wr'<|mw<|sn'<|?_
   refine Zaa<|Zai<|Zae rz<|rT'<|?_
   refine ivx ?_;unfold eraE;simp_all
  refine s_do gt<|Vw (Zab lk)<|s_do gt<|Vw (ZbN lk)<|s_do gt<|Vw (Zac lk gx gt8)<|s_do gt<|Zad mp (ZaW) pt<|s_do gt<|Vw (Zax lk)<|Vw (Zaj lk lk)<|sn'<|?_
  refine Zaw lk (fun hc7=>?_) (fun hc7=>?_)
  ·refine wr'<|mw<|sn'<|Zaa<|Zai<|Zae rz<|rT'<|?_
   refine ivx ?_;unfold eraE;simp_all
  refine Zaf<|Zah<|Zam<|wr'<|Vw (Zab lk)<|Vw (ZbN lk)<|Vw (Zac lk gx gt9)<|Vw (ZaT lk lki)<|mw<|?_
  refine sp' (t:=65) gt pt pt (fun hg65=>?_) (fun hg65=>?_)
  ·refine s_do gt<|Vw (Zab lk)<|s_do gt<|Vw (ZbN lk)<|s_do gt<|Vw (Zac lk gx gt9)<|s_do gt<|Vw (ZaT lk lki)<|Vw (Zag lk lk)<|sn'<|?_
   refine cd' lk (fun hc8=>?_) (fun hc8=>?_)
   ·refine wr'<|mw<|sn'<|Zaa<|Zai<|Zae rz<|rT'<|?_
    refine ivx ?_;unfold eraE;rw[ZhM];simp_all
   refine Zaf<|Zah<|wr'<|mw<|sn'<|Zaa<|Zae rz<|rT'<|?_
   refine ivx ?_;unfold eraE;rw[ZhM];simp_all
  refine s_no gt pt<|s_no gt pt<|s_no gt pt<|s_no gt pt<|Vw (Zaj lk lkb)<|sn'<|ZaM lk<|Zaf<|Zah<|wr'<|mw<|Zas<|?_
  refine Zah<|Zaa<|Zae rz<|rT'<|?_
  refine ivx ?_;unfold eraE;rw[ZhM];simp_all
 refine s_no gt pt<|s_no gt pt<|s_no gt pt<|s_no gt pt<|Vw (Zaj lk lkb)<|mw<|s_do gt<|Vw (Zab lk)<|s_do gt<|Vw (Zac lk gx gt3)<|s_do gt<|Zad mp (ZfQ hfm) pt<|s_do gt<|Vw (Zax lk)<|?_
 refine Vw (Zaj lk lk)<|sn'<|?_
 refine Zaw lk (fun hc1=>?_) (fun hc1=>?_)
 ·refine wr'<|mw<|sn'<|Zaa<|Zai<|Zae rz<|rT'<|?_
  refine ivx ?_;unfold eraE;simp_all
 refine Zaf<|Zah<|Zam<|wr'<|Vw (Zab lk)<|Vw (Zac lk gx gt0)<|Zad mp (ZaW) pt<|Vw (Zax lk)<|mw<|?_
 refine ZaG (t:=24) gt pt pt (fun hg24=>?_) (fun hg24=>?_)
 ·refine s_no gt pt<|s_no gt pt<|s_no gt pt<|s_no gt pt<|Vw (Zag lk lkb)<|sn'<|ZaC lk<|wr'<|mw<|sn'<|Zaa<|?_
  refine Zai<|Zae rz<|rT'<|?_
  refine ivx ?_;unfold eraE;simp_all
 refine s_do gt<|Vw (Zab lk)<|s_do gt<|Vw (Zac lk gx gt2)<|s_do gt<|Zad mp (ZaW) pt<|s_do gt<|Vw (Zax lk)<|Vw (Zaj lk lk)<|sn'<|?_
 refine Zaw lk (fun hc2=>?_) (fun hc2=>?_)
 ·refine wr'<|mw<|sn'<|Zaa<|Zai<|Zae rz<|rT'<|?_
  refine ivx ?_;unfold eraE;simp_all
 refine Zaf<|Zah<|Zam<|wr'<|Vw (Zab lk)<|Vw (Zac lk gx gt1)<|Vw (Zcr lk lks)<|mw<|?_
 refine sp' (t:=33) gt pt pt (fun hg33=>?_) (fun hg33=>?_)
 ·refine s_do gt<|Vw (Zab lk)<|s_do gt<|Vw (Zac lk gx gt2)<|s_do gt<|Vw (ZaT lk lki)<|Vw (Zag lk lk)<|sn'<|?_
  refine cd' lk (fun hc3=>?_) (fun hc3=>?_)
  ·refine wr'<|mw<|sn'<|Zaa<|Zai<|Zae rz<|rT'<|?_
   refine ivx ?_;unfold eraE;simp_all
  refine Zaf<|Zah<|Zam<|wr'<|Vw (Zab lk)<|Vw (Zac lk gx gt4)<|mw<|Vw (ZdP lk lk)<|sn'<|?_
  refine cd' lk (fun hc4=>?_) (fun hc4=>?_)
  ·refine wr'<|mw<|sn'<|Zaa<|Zai<|Zae rz<|rT'<|?_
   refine ivx ?_;unfold eraE;simp_all
  refine Zaf<|Zah<|Zam<|wr'<|Vw (Zab lk)<|Vw (Zac lk gx gt4)<|sn'<|?_
  refine Zaw lk (fun hc5=>?_) (fun hc5=>?_)
  ·refine Zam<|wr'<|Vw (Zab lk)<|Vw (Zan lk gx Zfx rfl)<|Vw (Zau Zcy)<|Zad mp (ZdS (u:=((y,m,d),a,c)) (v:=((0,0,0),0,0))) pt<|Vw (Zax lk)<|sn'<|?_
   refine Zaw lk (fun hc6=>?_) (fun hc6=>?_)
   ·refine wr'<|mw<|sn'<|Zaa<|Zai<|Zai<|Zae rz<|rT'<|?_
    refine ivx ?_;unfold eraE;simp_all <;> (try intros) <;> omega
   refine Zaf<|Zah<|wr'<|mw<|sn'<|Zaa<|Zai<|Zae rz<|rT'<|?_
   refine ivx ?_;unfold eraE;simp_all
  refine Zaf<|Zah<|Zam<|wr'<|Vw (Zab lk)<|Vw (ZbN lk)<|Vw (Zan lk gx Zfy rfl)<|Zad mp (Zfj) pt<|Vw (Zax lk)<|mw<|?_
  refine ZaG (t:=54) gt pt pt (fun hg54=>?_) (fun hg54=>?_)
  ·refine s_no gt pt<|s_no gt pt<|s_no gt pt<|s_no gt pt<|s_no gt pt<|Vw (Zag lk lkb)<|sn'<|ZaC lk<|wr'<|mw<|sn'<|?_
   refine Zaa<|Zai<|Zae rz<|rT'<|?_
   refine ivx ?_;unfold eraE;simp_all
  refine s_do gt<|Vw (Zab lk)<|s_do gt<|Vw (ZbN lk)<|s_do gt<|Vw (Zac lk gx gt8)<|s_do gt<|Zad mp (ZaW) pt<|s_do gt<|Vw (Zax lk)<|Vw (Zaj lk lk)<|sn'<|?_
  refine Zaw lk (fun hc7=>?_) (fun hc7=>?_)
  ·refine wr'<|mw<|sn'<|Zaa<|Zai<|Zae rz<|rT'<|?_
   refine ivx ?_;unfold eraE;simp_all
  refine Zaf<|Zah<|Zam<|wr'<|Vw (Zab lk)<|Vw (ZbN lk)<|Vw (Zac lk gx gt9)<|Vw (ZaT lk lki)<|mw<|?_
  refine sp' (t:=65) gt pt pt (fun hg65=>?_) (fun hg65=>?_)
  ·refine s_do gt<|Vw (Zab lk)<|s_do gt<|Vw (ZbN lk)<|s_do gt<|Vw (Zac lk gx gt9)<|s_do gt<|Vw (ZaT lk lki)<|Vw (Zag lk lk)<|sn'<|?_
   refine cd' lk (fun hc8=>?_) (fun hc8=>?_)
   ·refine wr'<|mw<|sn'<|Zaa<|Zai<|Zae rz<|rT'<|?_
    refine ivx ?_;unfold eraE;rw[ZhM];simp_all
   refine Zaf<|Zah<|wr'<|mw<|sn'<|Zaa<|Zae rz<|rT'<|?_
   refine ivx ?_;unfold eraE;rw[ZhM];simp_all
  refine s_no gt pt<|s_no gt pt<|s_no gt pt<|s_no gt pt<|Vw (Zaj lk lkb)<|sn'<|ZaM lk<|Zaf<|Zah<|wr'<|mw<|Zas<|?_
  refine Zah<|Zaa<|Zae rz<|rT'<|?_
  refine ivx ?_;unfold eraE;rw[ZhM];simp_all
 refine s_no gt pt<|s_no gt pt<|s_no gt pt<|Vw (Zaj lk lkb)<|sn'<|ZaM lk<|Zaf<|Zah<|Zam<|wr'<|Vw (Zab lk)<|Vw (Zac lk gx gt4)<|?_
 refine mw<|Vw (ZdP lk lk)<|sn'<|?_
 refine cd' lk (fun hc4=>?_) (fun hc4=>?_)
 ·refine wr'<|mw<|sn'<|Zaa<|Zai<|Zae rz<|rT'<|?_
  refine ivx ?_;unfold eraE;simp_all
 refine Zaf<|Zah<|Zam<|wr'<|Vw (Zab lk)<|Vw (Zac lk gx gt4)<|sn'<|?_
 refine Zaw lk (fun hc5=>?_) (fun hc5=>?_)
 ·refine Zam<|wr'<|Vw (Zab lk)<|Vw (Zan lk gx Zfx rfl)<|Vw (Zau Zcy)<|Zad mp (ZdS (u:=((y,m,d),a,c)) (v:=((0,0,0),0,0))) pt<|Vw (Zax lk)<|sn'<|?_
  refine Zaw lk (fun hc6=>?_) (fun hc6=>?_)
  ·refine wr'<|mw<|sn'<|Zaa<|Zai<|Zai<|Zae rz<|rT'<|?_
   refine ivx ?_;unfold eraE;simp_all <;> (try intros) <;> omega
  refine Zaf<|Zah<|wr'<|mw<|sn'<|Zaa<|Zai<|Zae rz<|rT'<|?_
  refine ivx ?_;unfold eraE;simp_all
 refine Zaf<|Zah<|Zam<|wr'<|Vw (Zab lk)<|Vw (ZbN lk)<|Vw (Zan lk gx Zfy rfl)<|Zad mp (Zfj) pt<|Vw (Zax lk)<|mw<|?_
 refine ZaG (t:=54) gt pt pt (fun hg54=>?_) (fun hg54=>?_)
 ·refine s_no gt pt<|s_no gt pt<|s_no gt pt<|s_no gt pt<|s_no gt pt<|Vw (Zag lk lkb)<|sn'<|ZaC lk<|wr'<|mw<|sn'<|?_
  refine Zaa<|Zai<|Zae rz<|rT'<|?_
  refine ivx ?_;unfold eraE;simp_all
 refine s_do gt<|Vw (Zab lk)<|s_do gt<|Vw (ZbN lk)<|s_do gt<|Vw (Zac lk gx gt8)<|s_do gt<|Zad mp (ZaW) pt<|s_do gt<|Vw (Zax lk)<|Vw (Zaj lk lk)<|sn'<|?_
 refine Zaw lk (fun hc7=>?_) (fun hc7=>?_)
 ·refine wr'<|mw<|sn'<|Zaa<|Zai<|Zae rz<|rT'<|?_
  refine ivx ?_;unfold eraE;simp_all
 refine Zaf<|Zah<|Zam<|wr'<|Vw (Zab lk)<|Vw (ZbN lk)<|Vw (Zac lk gx gt9)<|Vw (ZaT lk lki)<|mw<|?_
 refine sp' (t:=65) gt pt pt (fun hg65=>?_) (fun hg65=>?_)
 ·refine s_do gt<|Vw (Zab lk)<|s_do gt<|Vw (ZbN lk)<|s_do gt<|Vw (Zac lk gx gt9)<|s_do gt<|Vw (ZaT lk lki)<|Vw (Zag lk lk)<|sn'<|?_
  refine cd' lk (fun hc8=>?_) (fun hc8=>?_)
  ·refine wr'<|mw<|sn'<|Zaa<|Zai<|Zae rz<|rT'<|?_
   refine ivx ?_;unfold eraE;rw[ZhM];simp_all
  refine Zaf<|Zah<|wr'<|mw<|sn'<|Zaa<|Zae rz<|rT'<|?_
  refine ivx ?_;unfold eraE;rw[ZhM];simp_all
 refine s_no gt pt<|s_no gt pt<|s_no gt pt<|s_no gt pt<|Vw (Zaj lk lkb)<|sn'<|ZaM lk<|Zaf<|Zah<|wr'<|mw<|Zas<|?_
 refine Zah<|Zaa<|Zae rz<|rT'<|?_
 refine ivx ?_;unfold eraE;rw[ZhM];simp_all
theorem Zl9 {r:Rul}{h:AH}(h1:r.1.size≤maxLen) (h2:r.2.2.2.2.2.2.2.2.size≤maxLen):Ac 151 [.agg (rulC r)] h (iv (Zbw r)):=Zl8 h1 h2
theorem Znv {x:Era}{last:Bool}{h:AH}(ho:Zsx x):ACalls Tryz.prog 152 [.agg (eraC x),bv last] h fun y h'=>h'=h∧y=.ret (iv (eraX x last)):=Znu ho.1 ho.2
theorem Zsi {a:List Rul}{z:List Zon}{l:List Lnk}{h:AH}(hok:Zgq (a,z,l)):Ac 79 [.agg [.sl a.length 11 false (rows rulC a),.sl z.length 2 false (rows zonC z),.sl l.length 2 false (rows lnkC l)]] h (iv (ZbR (a,z,l))):=by
 refine tI' k79 fun N hn hlt hlA hbd=>?_
 simp only[tb'] at hbd ⊢
 refine wr'<|E' (Zbd cv rfl (hl0 hn) ha0) pt<|mw<|sn'<|Zam<|wr'<|Vw (Zab lk)<|Vw (Zac lk gx gt0)<|Vw (ZaL lk)<|Vw (ZbD lk lki)<|mw<|?_
 refine sp' (t:=15) gt pt pt (fun hg15=>?_) (fun hg15=>?_)
 ·have hM:ZeP (a,z,l)=true:=by unfold ZeP;simp;omega
  refine s_no gt pt<|s_no gt pt<|s_no gt pt<|s_no gt pt<|Vw (Zag lk lkb)<|mw<|s_no gt pt<|s_no gt pt<|s_no gt pt<|s_no gt pt<|Vw (Zag lk lkb)<|sn'<|ZaC lk<|?_
  refine wr'<|mw<|sn'<|Zaa<|Zai<|Zae rz<|rT'<|?_
  refine ivx ?_;unfold ZbR;rw[if_pos hM]
 refine s_do gt<|Vw (Zab lk)<|s_do gt<|Vw (Zac lk gx gt1)<|s_do gt<|Vw (ZaL lk)<|s_do gt<|Vw (ZbD lk lki)<|Vw (Zaj lk lk)<|mw<|?_
 refine sp' (t:=21) gt pt pt (fun hg21=>?_) (fun hg21=>?_)
 ·have hM:ZeP (a,z,l)=true:=by unfold ZeP;simp;omega
  refine s_no gt pt<|s_no gt pt<|s_no gt pt<|s_no gt pt<|Vw (Zag lk lkb)<|sn'<|ZaC lk<|wr'<|mw<|sn'<|Zaa<|?_
  refine Zai<|Zae rz<|rT'<|?_
  refine ivx ?_;unfold ZbR;rw[if_pos hM]
 refine s_do gt<|Vw (Zab lk)<|s_do gt<|Vw (Zac lk gx gt2)<|s_do gt<|Vw (ZaL lk)<|s_do gt<|Vw (ZbD lk lki)<|Vw (Zaj lk lk)<|sn'<|?_
 refine cd' lk (fun hc1=>?_) (fun hc1=>?_)
 ·have hM:ZeP (a,z,l)=true:=by unfold ZeP;simp;omega
  refine wr'<|mw<|sn'<|Zaa<|Zai<|Zae rz<|rT'<|?_
  refine ivx ?_;unfold ZbR;rw[if_pos hM]
 refine Zaf<|Zah<|Zam<|wr'<|mw<|sn'<|Zap<|?_
 refine w_lp (ι:=Nat) (fun (k:Nat)=>[(3,iv (k:Int)),(2,.any)]++rn' 27 15) (fun (k:Nat)=>[]) (fun (k:Nat)=>k≤z.length∧(z.take k).any (fun z=>decide (8<z.2.length))=false) (fun (k:Nat)=>z.length-k) (0) (by exact⟨Nat.zero_le _,rfl⟩) ?_
 rintro k hi1
 try simp only[sm',Nat.reduceAdd]
 obtain⟨hk1,hk2⟩:=hi1
 refine Zam<|wr'<|mw<|Vw (Zab lk)<|Vw (Zac lk gx gt1)<|Vw (ZaL lk)<|Vw (Zbb lk lk)<|sn'<|?_
 refine cd' lk (fun hc2=>?_) (fun hc2=>?_)
 ·have hk:k<z.length:=by omega
  refine Zaf<|Zah<|Zam<|Zap<|wr'<|Vw (Zab lk)<|Vw (Zac lk gx gt1)<|mw<|?_
  refine V' (Za0 lk lk ZcO (nb' rfl) ro om ro rfl) pt ?_
  refine Vw (ZbM lk dp1)<|Vw (ZaE lk gt)<|?_
  refine V' ((by first | exact ZaL lk | exact ZcW lk)) pt ?_
  refine Vw (ZbD lk lki)<|sn'<|?_
  refine cd' lk (fun hc3=>?_) (fun hc3=>?_)
  ·have hM:ZeP (a,z,l)=true:=by unfold ZeP;rw[show z.any (fun z=>decide (8<z.2.length))=true from List.any_eq_true.2 ⟨z[k],List.getElem_mem hk,decide_eq_true om⟩];simp
   refine wr'<|mw<|sn'<|Zaa<|Zaq<|Zai<|Zai<|Zaq<|Zai<|Zae rz<|rT'<|?_
   refine ivx ?_;unfold ZbR;rw[if_pos hM]
  refine Zaf<|Zaz<|Zah<|Zav<|mw<|?_
  refine V' (Zay lk lki om om) pt ?_
  refine mw<|Zas<|ZaB<|?_
  refine lT' (k+1) (by (try dsimp only);exact⟨by omega,by rw[List.take_succ_eq_append_getElem hk,List.any_append,hk2];simp;omega⟩)
 rw[List.take_of_length_le om] at hk2
 have hM:ZeP (a,z,l)=false:=by unfold ZeP;rw[hk2];simp;omega
 have hE:ZbR (a,z,l)=if Za4 Zbw a≠0 then Za4 Zbw a else if Za4 ZeQ z≠0 then Za4 ZeQ z else Za4 Zev l:=by unfold ZbR;rw[if_neg (by rw[hM];simp)]
 refine ZaQ<|ZaD<|ZaD<|Zba<|Zah<|Zam<|wr'<|mw<|sn'<|Zap<|?_
 refine w_lp (ι:=Nat) (fun (i2:Nat)=>[(4,iv (i2:Int)),(2,.any),(5,.any)]++rn' 42 16) (fun (i2:Nat)=>[]) (fun (i2:Nat)=>i2≤a.length∧Za4 Zbw a=Za4 Zbw (a.drop i2)) (fun (i2:Nat)=>a.length-i2) (0) (by exact⟨Nat.zero_le _,rfl⟩) ?_
 rintro i2 hi2
 try simp only[sm',Nat.reduceAdd]
 obtain⟨hu1,hu2⟩:=hi2
 refine Zam<|wr'<|mw<|Vw (Zab lk)<|Vw (Zac lk gx gt0)<|Vw (ZaL lk)<|Vw (Zbb lk lk)<|sn'<|?_
 refine cd' lk (fun hc4=>?_) (fun hc4=>?_)
 ·have hk4:i2<a.length:=by omega
  rw[ZdK hk4] at hu2
  have ho4:=hok.1 _ (List.getElem_mem hk4)
  refine Zaf<|Zah<|Zam<|Zap<|wr'<|Vw (Zab lk)<|Vw (Zac lk gx gt0)<|mw<|?_
  refine V' (Za0 lk lk Zfi (nb' rfl) ro om ro rfl) pt ?_
  refine Vw (ZaI lk Zq7 rfl)<|Zad mp (Zl9 (r:=a[i2]) ho4.1 ho4.2) pt<|mw<|sn'<|wr'<|mw<|Vw (ZaT lk lki)<|sn'<|?_
  refine cd' lk (fun hc5=>?_) (fun hc5=>?_)
  ·rw[if_pos hc5] at hu2
   refine wr'<|mw<|mw<|sn'<|Zaa<|Zaq<|Zai<|Zai<|Zaq<|Zai<|Zae rz<|rT'<|?_
   refine ivx ?_;rw[hE,hu2,if_pos hc5]
  rw[if_neg hc5] at hu2
  refine Zaf<|Zaz<|Zah<|Zav<|mw<|?_
  refine V' (Zay lk lki om om) pt ?_
  refine mw<|Zas<|ZaB<|?_
  refine lT' (i2+1) (by (try dsimp only);exact⟨by omega,hu2⟩)
 rw[List.drop_of_length_le om] at hu2
 rw[hu2,if_neg (by simp[Za4])] at hE
 refine ZaQ<|ZaD<|ZaD<|Zba<|Zah<|Zam<|wr'<|mw<|sn'<|Zap<|?_
 refine w_lp (ι:=Nat) (fun (i3:Nat)=>[(6,iv (i3:Int)),(2,.any)]++rn' 7 3++rn' 58 45) (fun (i3:Nat)=>[]) (fun (i3:Nat)=>i3≤z.length∧Za4 ZeQ z=Za4 ZeQ (z.drop i3)) (fun (i3:Nat)=>z.length-i3) (0) (by exact⟨Nat.zero_le _,rfl⟩) ?_
 rintro i3 hi3
 try simp only[sm',Nat.reduceAdd]
 obtain⟨hv1,hv2⟩:=hi3
 refine Zam<|wr'<|mw<|Vw (Zab lk)<|Vw (Zac lk gx gt1)<|Vw (ZaL lk)<|Vw (Zbb lk lk)<|sn'<|?_
 refine cd' lk (fun hc6=>?_) (fun hc6=>?_)
 ·have hk6:i3<z.length:=by omega
  rw[ZdK hk6] at hv2
  have ho6:=hok.2.1 _ (List.getElem_mem hk6)
  have h8:(z[i3]).2.length≤8:=by have:=List.any_eq_false.1 hk2 _ (List.getElem_mem hk6);simpa using this
  refine Zaf<|Zah<|Zam<|Zap<|wr'<|Vw (Zab lk)<|Vw (Zac lk gx gt1)<|mw<|?_
  refine V' (Za0 lk lk ZcO (nb' rfl) ro om ro rfl) pt ?_
  refine Vw (ZbM lk dp1)<|Vw (ZaE lk gt)<|mw<|sn'<|Zam<|wr'<|Vw (Zab lk)<|Vw (Zac lk gx gt1)<|mw<|?_
  refine V' (Za0 lk lk ZcO (nb' rfl) ro om ro rfl) pt ?_
  refine Vw (ZbM lk dp0)<|Vw (ZaE lk gt)<|Zad mp (Zdc ho6.1) pt<|Vw (Zax lk)<|mw<|?_
  refine ZaG (t:=79) gt pt pt (fun hg79=>?_) (fun hg79=>?_)
  ·have hZ:ZeQ z[i3]=1:=if_pos (.inl (by simpa using hg79))
   refine s_no gt pt<|s_no gt pt<|s_no gt pt<|Vw (Zag lk lkb)<|sn'<|ZaC lk<|wr'<|mw<|sn'<|Zaa<|Zai<|?_
   refine Zaq<|Zai<|Zai<|Zaq<|Zai<|Zae rz<|rT'<|?_
   refine ivx ?_;rw[hE,hv2,if_pos (by rw[hZ];simp),if_pos (by rw[hZ];simp),hZ]
  refine s_do gt<|mw<|s_do gt<|?_
  refine V' ((by first | exact ZaL lk | exact ZcW lk)) pt ?_
  refine s_do gt<|Vw (ZaP lk lki)<|Vw (Zaj lk lk)<|sn'<|?_
  refine cd' lk (fun hc7=>?_) (fun hc7=>?_)
  ·have hZ:ZeQ z[i3]=1:=if_pos (.inr om)
   refine wr'<|mw<|sn'<|Zaa<|Zai<|Zaq<|Zai<|Zai<|Zaq<|Zai<|Zae rz<|rT'<|?_
   refine ivx ?_;rw[hE,hv2,if_pos (by rw[hZ];simp),if_pos (by rw[hZ];simp),hZ]
  have hZ:ZeQ z[i3]=Zgv z[i3].2:=if_neg (by rintro (h1 | h1);exact h1 (by simpa using hg79);omega)
  refine Zaf<|Zah<|wr'<|mw<|sn'<|Zap<|?_
  refine w_lp (ι:=Nat) (fun (i4:Nat)=>[(8,iv (i4:Int)),(2,.any),(9,.any)]++rn' 84 19) (fun (i4:Nat)=>[]) (fun (i4:Nat)=>i4≤(z[i3]).2.length∧Zgv (z[i3]).2=Zgv ((z[i3]).2.drop i4)) (fun (i4:Nat)=>(z[i3]).2.length-i4) (0) (by exact⟨Nat.zero_le _,rfl⟩) ?_
  rintro i4 hi4
  try simp only[sm',Nat.reduceAdd]
  obtain⟨hx1,hx2⟩:=hi4
  refine Zam<|wr'<|mw<|mw<|?_
  refine V' ((by first | exact ZaL lk | exact ZcW lk)) pt ?_
  refine Vw (Zbb lk lk)<|sn'<|?_
  refine cd' lk (fun hc8=>?_) (fun hc8=>?_)
  ·have hk8:i4<(z[i3]).2.length:=by omega
   rw[Zpr hk8] at hx2
   have ho8:=ho6.2 _ (List.getElem_mem hk8)
   refine Zaf<|Zah<|Zam<|Zap<|wr'<|mw<|mw<|?_
   refine V' (Za0 lk lk ZdX (nb' rfl) ro om ro rfl) pt ?_
   refine Vw (ZaI lk Zq8 rfl)<|mw<|mw<|?_
   refine V' ((by first | exact ZaL lk | exact ZcW lk)) pt ?_
   refine V' (Zbt lk lki om om) pt ?_
   refine Vw (ZaP lk lk)<|Zad mp (Znv (x:=(z[i3]).2[i4]) (last:=decide ((i4:Int)=((z[i3]).2.length:Int)-1)) ho8) pt<|mw<|sn'<|wr'<|mw<|Vw (ZaT lk lki)<|sn'<|?_
   refine cd' lk (fun hc9=>?_) (fun hc9=>?_)
   ·rw[if_pos hc9] at hx2
    refine wr'<|mw<|mw<|sn'<|Zaa<|Zaq<|Zai<|Zai<|Zaq<|Zaq<|Zai<|Zai<|?_
    refine Zaq<|Zai<|Zae rz<|rT'<|?_
    refine ivx ?_;rw[hE,hv2,hZ,hx2,if_pos hc9,if_pos hc9]
   rw[if_neg hc9] at hx2
   refine Zaf<|Zaz<|Zah<|Zav<|mw<|?_
   refine V' (Zay lk lki om om) pt ?_
   refine mw<|Zas<|ZaB<|?_
   refine lT' (i4+1) (by (try dsimp only);exact⟨by omega,hx2⟩)
  rw[List.drop_of_length_le om] at hx2
  rw[hZ,hx2,if_neg (by simp[Zgv])] at hv2
  refine ZaQ<|ZaD<|ZaD<|Zba<|Zaz<|Zah<|Zav<|mw<|?_
  refine V' (Zay lk lki om om) pt ?_
  refine mw<|Zas<|ZaB<|?_
  refine lT' (i3+1) (by (try dsimp only);exact⟨by omega,hv2⟩)
 rw[List.drop_of_length_le om] at hv2
 rw[hv2,if_neg (by simp[Za4])] at hE
 refine ZaQ<|ZaD<|ZaD<|Zba<|Zah<|Zam<|wr'<|mw<|sn'<|Zap<|?_
 refine w_lp (ι:=Nat) (fun (i5:Nat)=>[(10,iv (i5:Int)),(2,.any)]++rn' 103 25) (fun (i5:Nat)=>[]) (fun (i5:Nat)=>i5≤l.length∧Za4 Zev l=Za4 Zev (l.drop i5)) (fun (i5:Nat)=>l.length-i5) (0) (by exact⟨Nat.zero_le _,rfl⟩) ?_
 rintro i5 hi5
 try simp only[sm',Nat.reduceAdd]
 obtain⟨hy1,hy2⟩:=hi5
 refine Zam<|wr'<|mw<|Vw (Zab lk)<|Vw (Zac lk gx gt2)<|Vw (ZaL lk)<|Vw (Zbb lk lk)<|sn'<|?_
 refine cd' lk (fun hc10=>?_) (fun hc10=>?_)
 ·have hk10:i5<l.length:=by omega
  rw[ZdK hk10] at hy2
  have ho10:=hok.2.2 _ (List.getElem_mem hk10)
  refine Zaf<|Zah<|Zam<|Zap<|wr'<|Vw (Zab lk)<|Vw (Zac lk gx gt2)<|mw<|?_
  refine V' (Za0 lk lk ZdV (nb' rfl) ro om ro rfl) pt ?_
  refine Vw (ZbM lk dp0)<|Vw (ZaE lk gt)<|Zad mp (Zdc ho10.1) pt<|Vw (Zax lk)<|mw<|?_
  refine ZaG (t:=118) gt pt pt (fun hg118=>?_) (fun hg118=>?_)
  ·have hK:Zev l[i5]=1:=by unfold Zev;simp_all
   refine s_no gt pt<|s_no gt pt<|s_no gt pt<|s_no gt pt<|s_no gt pt<|s_no gt pt<|s_no gt pt<|s_no gt pt<|Vw (Zag lk lkb)<|sn'<|ZaC lk<|wr'<|?_
   refine mw<|sn'<|Zaa<|Zaq<|Zai<|Zai<|Zaq<|Zai<|Zae rz<|rT'<|?_
   refine ivx ?_;rw[hE,hy2,if_pos (by rw[hK];simp),hK]
  refine s_do gt<|Vw (Zab lk)<|s_do gt<|Vw (Zac lk gx gt2)<|s_do gt<|mw<|s_do gt<|?_
  refine V' (Za0 lk lk ZdV (nb' rfl) ro om ro rfl) pt ?_
  refine s_do gt<|Vw (ZbM lk dp1)<|s_do gt<|Vw (ZaE lk gt)<|s_do gt<|Zad mp (Zdc ho10.2) pt<|s_do gt<|Vw (Zax lk)<|Vw (Zaj lk lk)<|sn'<|?_
  refine Zaw lk (fun hc11=>?_) (fun hc11=>?_)
  ·have hK:Zev l[i5]=1:=by unfold Zev;simp_all
   refine wr'<|mw<|sn'<|Zaa<|Zaq<|Zai<|Zai<|Zaq<|Zai<|Zae rz<|rT'<|?_
   refine ivx ?_;rw[hE,hy2,if_pos (by rw[hK];simp),hK]
  have hK:Zev l[i5]=0:=by unfold Zev;simp_all
  rw[hK,if_neg (by simp)] at hy2
  refine Zaf<|Zaz<|Zah<|Zav<|mw<|?_
  refine V' (Zay lk lki om om) pt ?_
  refine mw<|Zas<|ZaB<|?_
  refine lT' (i5+1) (by (try dsimp only);exact⟨by omega,hy2⟩)
 rw[List.drop_of_length_le om] at hy2
 refine ZaQ<|ZaD<|ZaD<|Zba<|Zah<|wr'<|mw<|sn'<|Zaa<|Zae rz<|rT'<|?_
 refine ivx ?_;rw[hE,hy2];rfl
end Go.Proofs.YtlekejpogddndaaGreatDoor
end
section
namespace Go.Proofs.YtlekejpogddndaaGreatDoor
open Go.Ab Go.RowKit Civ
attribute [local simp] Zbj Zby Zbs Zbv Zb3 Zdd Zd5 ZbU
theorem ZnT {p:Era→Int}{l:List Era}(h : ∀ y∈l,p y=0):Za4 p l=0:=by
 rw[ZiM,List.find?_eq_none.2 (fun y hy=>by simp[h y hy])]
end Go.Proofs.YtlekejpogddndaaGreatDoor
end
section
namespace Go.Proofs.YtlekejpogddndaaGreatDoor
open Go.Ab
abbrev PS:=Src×Bool
def ZcB (x:Era):Bool:=x.2.2.2.2.1
def ZpH:List Zon→Era→List Zon
 | [],_=>[]
 | [z],x=>[(z.1,z.2++[x])]
 | z::y::l,x=>z::ZpH (y::l) x
theorem ZfZ (l:List Zon) (z:Zon) (x:Era):ZpH (l++[z]) x=l++[(z.1,z.2++[x])]:=by
 induction l with
 | nil=>rfl
 | cons a l ih =>
  cases l with
  | nil=>rfl
  | cons b l=>exact congrArg (a :: ·) ih
def ruleA:ByteArray:=bA [82,117,108,101]
def zoneA:ByteArray:=bA [90,111,110,101]
def linkA:ByteArray:=bA [76,105,110,107]
def Zcz (p:Src) (x:Era):PS:=((p.1,ZpH p.2.1 x,p.2.2),!ZcB x)
def ZtA (p:PS):RM PS :=
 if p.2=true then ZbS rEra fun x=>retR (Zcz p.1 x)
 else ZbS Zes fun w =>
  if w=ruleA then ZbS rRule fun r=>retR ((p.1.1++[r],p.1.2.1,p.1.2.2),false)
  else if w=zoneA then ZbS Zsk fun n=>ZbS rEra fun x=>retR (Zcz (p.1.1,p.1.2.1++[(n,[])],p.1.2.2) x)
  else if w=linkA then ZbS Zsk fun a=>ZbS Zsk fun b=>retR ((p.1.1,p.1.2.1,p.1.2.2++[(a,b)]),false)
  else ZcC none
def ZeE (p:PS):TS→PS×TS :=
 if p.2=true then Zb1 tEra fun x=>ret2 (Zcz p.1 x)
 else Zb1 ZaR fun w =>
  if w=ruleA then Zb1 ZkH fun r=>ret2 ((p.1.1++[r],p.1.2.1,p.1.2.2),false)
  else if w=zoneA then Zb1 ZeV fun n=>Zb1 tEra fun x=>ret2 (Zcz (p.1.1,p.1.2.1++[(n,[])],p.1.2.2) x)
  else if w=linkA then Zb1 ZeV fun a=>Zb1 ZeV fun b=>ret2 ((p.1.1,p.1.2.1,p.1.2.2++[(a,b)]),false)
  else fun t=>(p,bad t)
theorem ZpG (p:PS):Agr (ZeE p) (ZtA p):=by
 unfold ZeE ZtA
 split
 ·exact agr_era.bind fun x=>Agr.ret _
 ·refine agr_next.bind fun w=>?_
  split
  ·exact agr_rule.bind fun r=>Agr.ret _
  ·split
   ·exact agr_name.bind fun n=>agr_era.bind fun x=>Agr.ret _
   ·split
    ·exact agr_name.bind fun a=>agr_name.bind fun b=>Agr.ret _
    ·exact Agr.lift (fun t h=>rfl) (fun l=>rfl)
def Zmq (p:PS) (x:Ln):Option PS:=if x.2.1≠p.2 then none else match ZtA p x.2.2 with
 | some (q,[])=>some q
 | _=>none
def badT (p:PS) (x:Ln):Prop:=(ZeE p (x.2.2,false)).2.2=true∨(ZeE p (x.2.2,false)).2.1≠[]∨x.2.1≠p.2
theorem ZsS {p:PS}{x:Ln}(h:badT p x):Zmq p x=none:=by
 unfold Zmq
 by_cases hi:x.2.1=p.2
 ·rw[if_neg (by simp[hi])]
  have hA:=(ZpG p x.2.2).2
  unfold badT at h
  revert hA
  cases hb:ZtA p x.2.2 with
  | none=>intro;rfl
  | some q =>
   obtain⟨q,l⟩:=q
   intro hA
   simp only at hA
   rw[hA] at h
   cases l with
   | nil=>simp[hi] at h
   | cons c l=>rfl
 ·rw[if_pos hi]
theorem lineR_ok {p:PS}{x:Ln}(h:¬badT p x):Zmq p x=some (ZeE p (x.2.2,false)).1:=by
 unfold Zmq
 unfold badT at h
 simp only[not_or,Decidable.not_not] at h
 obtain⟨h1,h2,h3⟩:=h
 rw[if_neg (by simp[h3])]
 have hA:=(ZpG p x.2.2).2
 revert hA
 cases hb:ZtA p x.2.2 with
 | none=>intro hA;exact absurd hA h1
 | some q =>
  obtain⟨q,l⟩:=q
  intro hA
  simp only at hA
  rw[hA] at h2 ⊢
  simp only at h2
  subst h2
  rfl
def runR:PS→List Ln→PS ⊕ Int
 | p,[]=>.inl p
 | p,x::l=>match Zmq p x with
  | none=>.inr x.1
  | some q=>runR q l
def srcZ:Src:=([],[],[])
def endP (p:PS):Src×Int×Int:=if p.2=true then (srcZ,0,1) else if ZbR p.1≠0 then (srcZ,0,ZbR p.1) else (p.1,0,0)
def outP (l:List Ln):Src×Int×Int:=match runR (srcZ,false) l with
 | .inr n=>(srcZ,n,1)
 | .inl p=>endP p
def ZbJ (s:ByteArray):Src×Int×Int:=if (Zb0 s).2.2≠0 then (srcZ,(Zb0 s).2.1,(Zb0 s).2.2) else outP (Zb0 s).1
theorem runR_at {l:List Ln}{k:Nat}(h:k<l.length) (p:PS):runR p (l.drop k)=match Zmq p l[k] with
  | none=>.inr l[k].1
  | some q=>runR q (l.drop (k+1)):=by
 rw[List.drop_eq_getElem_cons h,runR]
end Go.Proofs.YtlekejpogddndaaGreatDoor
end
section
namespace Go.Proofs.YtlekejpogddndaaGreatDoor
open Go.Ab Go.RowKit Civ
attribute [local simp] ZbU
section
theorem ZcI {a0 a1 c0:AV}{l:List AV}:setCells (a0::a1::l) 1 [c0]=a0::c0::l:=rfl
theorem Zq6 {a0 c0:AV}{l:List AV}:setCells (a0::l) 0 [c0]=c0::l:=rfl
end
def c200:AC:=(Sr [Ms 2] (.seq (Sr [Mv 4 0,Nk 5 4,Fa 6 1 5,Ld 7 6,Mv 8 7,Of 9 8 (mt 0),Of 10 8 (.nck (.tmp 9)),Of 11 8 (.fa 0 (.tmp 10)),Of 12 8 (.load false 1 (.tmp 11)),Of 13 8 (.len false (.tmp 12)),Of 14 8 (.bin .eql (.tmp 13) (Ci 0)),Oo 15 (.pick (.tmp 8) (.const (.bool true)) (.tmp 14))] (Cd 15 (Sr [Mv 16 0,Nk 17 16,Fa 18 1 17,⟨none,none,(.store 1 (.tmp 18) (.const (.bool true)))⟩] (Sr [Ms 2] .ret)) .skip)) (Sr [Mv 19 0,Nk 20 19,Fa 21 0 20,Ld 22 21,Oo 23 (.ia 1 (.tmp 22) (Ci 0)),Ld 24 23,Mv 3 24] (Sr [Mv 25 0,Mv 26 0,Nk 27 26,Fa 28 0 27,Ld 29 28,Oo 30 (.slc 1 (.tmp 29) (some (Ci 1)) none none),Nk 31 25,Fa 32 0 31,Sc 32 30] (Sr [Mv 33 3,Mv 2 33] .ret)))))
theorem k200:ZaA Tryz.prog 200=some ⟨c200,[(.tmp 2)],34⟩:=by kernel_rfl
def c274:AC:=(Sr [Mc 8 0] (.seq (Sr [Mv 11 1,Oo 12 (.len true (.tmp 11)),Mv 13 2,Mv 14 3,Cl 15 73 [(.tmp 12),(.tmp 13),(.tmp 14)],Oo 16 (.un .not (.tmp 15))] (Cd 16 (Sr [Mv 17 0,Nk 18 17,Fa 19 1 18,⟨none,none,(.store 1 (.tmp 19) (.const (.bool true)))⟩] (Sr [Mc 8 0] .ret)) .skip)) (Sr [Mc 9 0] (.seq (Sr [Mc 10 0] (.block 0 (.loop (.seq (Sr [Mv 20 10,Mv 21 1,Oo 22 (.len true (.tmp 21)),Bn 23 .lss 20 22] (Cd 23 .skip (.exit 0))) (.seq (.block 1 (.seq (Sr [Mv 26 1,Mv 27 10,Oo 28 (.ix (.tmp 26) (.tmp 27)),Cl 29 191 [(.tmp 28)],Oo 30 (.un .not (.tmp 29))] (Cd 30 (Sr [Mv 31 0,Nk 32 31,Fa 33 1 32,⟨none,none,(.store 1 (.tmp 33) (.const (.bool true)))⟩] (Sr [Mc 8 0] .ret)) .skip)) (.reg [Mv 34 9,Oo 35 (.bin .mul (Ci 10) (.tmp 34)),Mv 36 1,Mv 37 10,Oo 38 (.ix (.tmp 36) (.tmp 37)),Oo 39 (.cvi .i64 (.tmp 38)),Bn 40 .add 35 39,Bc 41 .sub 40 48,Mv 9 41]))) (.reg [Mv 24 10,Bc 25 .add 24 1,Mv 10 25])))))) (Sr [Mv 42 9,Mv 8 42] .ret)))))
theorem k274:ZaA Tryz.prog 274=some ⟨c274,[(.tmp 8)],43⟩:=by kernel_rfl
def c203:AC:=(Sr [Ms 2] (Sr [Mv 4 0,Cl 5 200 [(.tmp 4)],Mv 3 5] (.seq (Sr [Mv 6 3,Cl 7 115 [(.tmp 6)],Oo 8 (.un .not (.tmp 7))] (Cd 8 (.reg [Mv 9 0,Nk 10 9,Fa 11 1 10,⟨none,none,(.store 1 (.tmp 11) (.const (.bool true)))⟩]) .skip)) (Sr [Mv 12 3,Mv 2 12] .ret))))
theorem k203:ZaA Tryz.prog 203=some ⟨c203,[(.tmp 2)],13⟩:=by kernel_rfl
def c308:AC:=(Sr [Mc 4 0] (.seq (Sr [Mc 5 0] (.block 0 (.loop (.seq (Sr [Mv 6 5,Bc 7 .add 6 3,Mv 8 0,Oo 9 (.len true (.tmp 8)),Bn 10 .leq 7 9,Mv 11 10,Ot 12 11 (mt 1),Ot 13 11 (.len true (.tmp 12)),Ot 14 11 (.bin .eql (.tmp 13) (Ci 3)),Oo 15 (.pick (.tmp 11) (.tmp 14) (.const (.bool false)))] (Cd 15 .skip (.exit 0))) (.seq (.block 1 (Sr [Mv 18 0,Mv 19 5,Mv 20 5,Bc 21 .add 20 3,Oo 22 (.sls (.tmp 18) (some (.tmp 19)) (some (.tmp 21))),Mv 23 1,Bn 24 .eql 22 23] (Cd 24 (Sr [Mv 25 5,Bc 26 .quo 25 3,Mv 4 26] .ret) .skip))) (.reg [Mv 16 5,Bc 17 .add 16 3,Mv 5 17])))))) (Sr [Oo 4 (.mv (.const (.int .i64 (-1))))] .ret)))
theorem k308:ZaA Tryz.prog 308=some ⟨c308,[(.tmp 4)],27⟩:=by kernel_rfl
def c275:AC:=(Sr [Mc 2 0] (Sr [Mv 4 0,Cl 5 200 [(.tmp 4)],Oo 6 (.call (.func 308) [(.const (.string ⟨#[74,97,110,70,101,98,77,97,114,65,112,114,77,97,121,74,117,110,74,117,108,65,117,103,83,101,112,79,99,116,78,111,118,68,101,99]⟩)),(.tmp 5)]),Mv 3 6] (.seq (Sr [Mv 7 3,Bc 8 .lss 7 0] (Cd 8 (.reg [Mv 9 0,Nk 10 9,Fa 11 1 10,⟨none,none,(.store 1 (.tmp 11) (.const (.bool true)))⟩]) .skip)) (Sr [Mv 12 3,Bc 13 .add 12 1,Mv 2 13] .ret))))
theorem k275:ZaA Tryz.prog 275=some ⟨c275,[(.tmp 2)],14⟩:=by kernel_rfl
def c309:AC:=(Sr [Mc 4 0] (Sr [Mv 6 1,Oo 7 (.call (.func 308) [(.const (.string ⟨#[83,117,110,77,111,110,84,117,101,87,101,100,84,104,117,70,114,105,83,97,116]⟩)),(.tmp 6)]),Mv 5 7] (.seq (Sr [Mv 8 5,Bc 9 .lss 8 0] (Cd 9 (Sr [Mv 10 0,Nk 11 10,Fa 12 1 11,⟨none,none,(.store 1 (.tmp 12) (.const (.bool true)))⟩] (Sr [Mc 4 0] .ret)) .skip)) (Sr [Mv 13 5,Mv 4 13] .ret))))
theorem k309:ZaA Tryz.prog 309=some ⟨c309,[(.tmp 4)],14⟩:=by kernel_rfl
def c307:AC:=(Sr [Mc 4 0] (Sr [Mv 6 0,Mv 7 1,Cl 8 274 [(.tmp 6),(.tmp 7),(Ci 2),(Ci 2)],Mv 5 8] (.seq (Sr [Mv 9 5,Bc 10 .gtr 9 59] (Cd 10 (.reg [Mv 11 0,Nk 12 11,Fa 13 1 12,⟨none,none,(.store 1 (.tmp 13) (.const (.bool true)))⟩]) .skip)) (Sr [Mv 14 5,Mv 4 14] .ret))))
theorem k307:ZaA Tryz.prog 307=some ⟨c307,[(.tmp 4)],15⟩:=by kernel_rfl
abbrev takE (t:TS):Ent:=.mk 0 250 2 [.sl t.1.length 1 false (rows strC t.1),bv t.2]
theorem ZaK {l:List ByteArray}{b:Bool}{n:Nat}:(Ent.mk 0 250 2 [.sl l.length 1 false (rows strC l),.v (.bool b)]).lt n=true:=by simp[Ent.lt,AV.lt,AV.ltL,ZbU]
theorem tnext_b {l:List ByteArray}{b:Bool}{id:Nat}{h:AH}(h1:h[id]?=some (takE (l,b))):ACalls Tryz.prog 200 [.ptr id 0 0] h fun x h'=>x=.ret (sv (ZaR (l,b)).1)∧h'=h.set id (takE (ZaR (l,b)).2):=by
 have hid:id<h.length:=(List.getElem?_eq_some_iff.1 h1).1
 refine tJ' k200 fun N hn hlt hlA hbd=>?_
 simp only[tb'] at hbd ⊢
 refine ZdL (h1:=h.set id (.mk 0 250 2 [.sl l.length 1 false (rows strC l),bv b])++[]) (by rw[ZcT h1]) ?_
 refine wr'<|mw<|sn'<|Zam<|wr'<|mw<|Vw (Zbr lk)<|Vw (Zab lk)<|Vw (Zac lk (ZaX hid) gt1)<|mw<|?_
 refine ZaG (t:=8) gt pt pt (fun hg8=>?_) (fun hg8=>?_)
 ·have hb:b=true:=hg8
  have hT:ZaR (l,b)=(⟨#[]⟩,l,true):=if_pos (.inl hb)
  refine s_no gt pt<|s_no gt pt<|s_no gt pt<|s_no gt pt<|s_no gt pt<|s_no gt pt<|Vw (Zag lk lkb)<|sn'<|ZaC lk<|wr'<|mw<|Vw (Zbr lk)<|?_
  refine Vw (Zab lk)<|E' (Zak lk (cvl lkb rfl) (ZaX hid) rfl (nb' rfl) rfl ZcI (ZaJ hid)) ptn<|sn'<|wr'<|mw<|sn'<|Zaa<|Zai<|Zae rz<|?_
  exact⟨_,_,rfl,Zao hn,ZbW hlt ZaK,rfl,by rw[hT],by rw[hT]⟩
 have hb:b=false:=by simpa using hg8
 refine s_do gt<|mw<|s_do gt<|Vw (Zbr lk)<|s_do gt<|Vw (Zab lk)<|s_do gt<|Vw (Zac lk (ZaX hid) gt0)<|s_do gt<|Vw (ZaL lk)<|s_do gt<|Vw (ZaP lk lki)<|Vw (Zaj lk lk)<|Zas<|?_
 refine Zah ?_
 refine cd' lk (fun hc1=>?_) (fun hc1=>?_)
 ·have hT:ZaR (l,b)=(⟨#[]⟩,l,true):=if_pos (.inr (List.eq_nil_of_length_eq_zero (show l.length=0 by have hc1':(l.length:Int)=0:=hc1;omega)))
  refine wr'<|mw<|Vw (Zbr lk)<|Vw (Zab lk)<|E' (Zak lk (cvl lkb rfl) (ZaX hid) rfl (nb' rfl) rfl ZcI (ZaJ hid)) ptn<|sn'<|wr'<|mw<|sn'<|Zaa<|?_
  refine Zai<|Zae rz<|?_
  exact⟨_,_,rfl,Zao hn,ZbW hlt ZaK,rfl,by rw[hT],by rw[hT]⟩
 have hlen:0<l.length:=by have hc1':¬(l.length:Int)=0:=hc1;omega
 have hne:l≠[]:=by intro e;rw[e] at hlen;cases hlen
 have hT:ZaR (l,b)=(l[0],l.drop 1,b):=by
  cases l with
  | nil=>exact absurd rfl hne
  | cons a l=>subst hb;rfl
 refine Zaf<|Zah<|wr'<|mw<|Vw (Zbr lk)<|Vw (Zab lk)<|Vw (Zac lk (ZaX hid) gt0)<|?_
 refine V' (Za0 (k:=0) lk lki ZbY (nb' rfl) ro om ro rfl) pt ?_
 refine Vw (ZaE lk gt)<|mw<|sn'<|wr'<|mw<|mw<|Vw (Zbr lk)<|Vw (Zab lk)<|Vw (Zac lk (ZaX hid) gt0)<|?_
 refine V' (v_lo (k:=1) lk lki ZbY ro om ro) pt ?_
 refine Vw (Zbr lk)<|Vw (Zab lk)<|E' (Zak lk cv (ZaX hid) rfl (nb' rfl) rfl Zq6 (ZaJ hid)) ptn<|sn'<|wr'<|mw<|mw<|sn'<|Zaa<|Zae rz<|?_
 exact⟨_,_,rfl,Zao hn,ZbW hlt ZaK,rfl,by rw[hT],by rw[hT]⟩
theorem Znh {t:TS}{id:Nat}{h:AH}(h1:h[id]?=some (takE t)):ACalls Tryz.prog 200 [.ptr id 0 0] h fun x h'=>x=.ret (sv (ZaR t).1)∧h'=h.set id (takE (ZaR t).2):=tnext_b h1
theorem Zn0 {n:Int}(h:digB n=true):48≤n∧n≤57:=by unfold digB at h;simpa using h
theorem ZdQ {s:ByteArray}{a b:Int}{t:TS}{id:Nat}{h:AH}(hb4:b≤4) (h1:h[id]?=some (takE t)):ACalls Tryz.prog 274 [.ptr id 0 0,sv s,iv a,iv b] h fun x h'=>x=.ret (iv (tNum s a b t).1)∧h'=h.set id (takE (tNum s a b t).2):=by
 obtain⟨l,bd⟩:=t
 have hid:id<h.length:=(List.getElem?_eq_some_iff.1 h1).1
 refine tJ' k274 fun N hn hlt hlA hbd=>?_
 simp only[tb'] at hbd ⊢
 refine ZdL (h1:=h.set id (takE (l,bd))++[]) (by rw[ZcT h1]) ?_
 refine wr'<|mw<|sn'<|Zam<|wr'<|mw<|Vw (Zbe lk)<|mw<|mw<|Zad mp (ZaW) pt<|Vw (Zax lk)<|?_
 refine sn' ?_
 refine Zaw lk (fun hc1=>?_) (fun hc1=>?_)
 ·have hw:¬wi s.size a b=true:=by simpa using hc1
  have hT:tNum s a b (l,bd)=(0,l,true):=ZdE (if_neg (fun e=>hw e.1))
  refine wr'<|mw<|Vw (Zbr lk)<|Vw (Zab lk)<|E' (Zak lk (cvl lkb rfl) (ZaX hid) rfl (nb' rfl) rfl ZcI (ZaJ hid)) ptn<|sn'<|wr'<|mw<|sn'<|Zaa<|?_
  refine Zai<|Zae rz<|?_
  exact⟨_,_,rfl,Zao hn,ZbW hlt ZaK,rfl,by rw[hT],by rw[hT]⟩
 have hw:wi s.size a b=true:=by simpa using hc1
 have hz:s.size≤4:=by unfold wi at hw;simp at hw;omega
 refine Zaf<|Zah<|wr'<|mw<|sn'<|Zam<|wr'<|mw<|sn'<|Zap<|?_
 refine w_lp (ι:=Nat×Int) (fun (x_:Nat×Int)=>match x_ with | ⟨k,n⟩=>[(9,iv n),(10,iv (k:Int)),(8,.any)]++rn' 20 22) (fun (x_:Nat×Int)=>match x_ with | ⟨k,n⟩=>[]) (fun (x_:Nat×Int)=>match x_ with | ⟨k,n⟩=>k≤s.size∧0≤n∧n<10 ^ k∧decL 0 (aB s)=decL n ((aB s).drop k) ∧ ∀ j (hj:j<s.size),j<k→digB s[j].toNat=true) (fun (x_:Nat×Int)=>match x_ with | ⟨k,n⟩=>s.size-k) (⟨0,0⟩) (by exact⟨by omega,by omega,by decide,rfl,fun j hj h0=>absurd h0 om⟩) ?_
 rintro⟨k,n⟩ hi1
 try simp only[sm',Nat.reduceAdd]
 obtain⟨hk1,hk2,hk3,hk4,hk5⟩:=hi1
 refine Zam<|wr'<|mw<|mw<|Vw (Zbe lk)<|Vw (Zbb lk lk)<|sn'<|?_
 refine cd' lk (fun hc2=>?_) (fun hc2=>?_)
 ·have hk:k<s.size:=by omega
  have hbb:=Ze9 s k
  have hbk:ZaH s k=s[k]:=Zc4 hk
  have hp:(10:Int) ^ k≤1000:=by
   have:k=0∨k=1∨k=2∨k=3:=by omega
   rcases this with rfl | rfl | rfl | rfl <;> decide
  refine Zaf<|Zah<|Zam<|Zap<|Zam<|wr'<|mw<|mw<|?_
  refine V' (v_ix lk lk om om) pt ?_
  refine Zad mp (Zea hbb.1 hbb.2) pt<|Vw (Zax lk)<|sn'<|?_
  refine Zaw lk (fun hc3=>?_) (fun hc3=>?_)
  ·have hd:digB s[k].toNat=false:=by rw[←hbk];simpa using hc3
   have hT:tNum s a b (l,bd)=(0,l,true):=ZdE (if_neg (fun e=>by have:=ZiY hk hd;rw[e.2] at this;cases this))
   refine wr'<|mw<|Vw (Zbr lk)<|Vw (Zab lk)<|E' (Zak lk (cvl lkb rfl) (ZaX hid) rfl (nb' rfl) rfl ZcI (ZaJ hid)) ptn<|sn'<|wr'<|mw<|sn'<|Zaa<|?_
   refine Zai<|Zaq<|Zai<|Zai<|Zaq<|Zai<|Zae rz<|?_
   exact⟨_,_,rfl,Zao hn,ZbW hlt ZaK,rfl,by rw[hT],by rw[hT]⟩
  have hd:digB (ZaH s k).toNat=true:=by simpa using hc3
  have hdb:48≤((ZaH s (k:Int).toNat).toNat:Int)∧((ZaH s (k:Int).toNat).toNat:Int)≤57:=Zn0 hd
  have hdb2:=Zn0 hd
  refine Zaf<|Zah<|Zav<|mw<|?_
  refine V' (ZeN lki lk om om) pt ?_
  refine mw<|mw<|?_
  refine V' (v_ix lk lk om om) pt ?_
  refine V' (Zh5 lk om om) pt ?_
  refine V' (Zay lk lk om om) pt ?_
  refine V' (Zbt lk lki om om) pt ?_
  refine mw<|Zas<|Zaz<|Zah<|Zav<|mw<|?_
  refine V' (Zay lk lki om om) pt ?_
  refine mw<|Zas<|ZaB<|?_
  refine lT' (⟨k+1,10*n+(ZaH s k).toNat-48⟩) (by (try dsimp only);refine⟨by omega,by omega,by rw[Int.pow_succ];omega,by rw[hk4,Zfb hk,decL],fun j hj h0=>?_⟩;rcases Nat.lt_or_ge j k with e | e;exact hk5 j hj e;obtain rfl:j=k:=om;rw[←hbk];exact hd)
 have hT:tNum s a b (l,bd)=(n,l,bd):=ZdD (by
  unfold numV
  rw[if_pos ⟨hw,ZgF fun j hj=>hk5 j hj om⟩,hk4,ZmO om];rfl)
 refine ZaQ<|ZaD<|ZaD<|Zba<|Zah<|wr'<|mw<|mw<|sn'<|Zaa<|Zae rz<|?_
 exact⟨_,_,rfl,Zao hn,ZbW hlt ZaK,rfl,by rw[hT],by rw[hT]⟩
theorem tname_a {t:TS}{id:Nat}{h:AH}(hz:(ZaR t).1.size≤maxLen) (h1:h[id]?=some (takE t)):ACalls Tryz.prog 203 [.ptr id 0 0] h fun x h'=>x=.ret (sv (ZeV t).1)∧h'=h.set id (takE (ZeV t).2):=by
 have hid:id<h.length:=(List.getElem?_eq_some_iff.1 h1).1
 refine tJ' k203 fun N hn hlt hlA hbd=>?_
 simp only[tb'] at hbd ⊢
 refine ZdL (h1:=h.set id (takE t)++[]) (by rw[ZcT h1]) ?_
 refine wr'<|mw<|sn'<|wr'<|mw<|ZaO mp (Znh (ZaX hid)) (ZaJ hid) pt<|mw<|sn'<|Zam<|Zam<|?_
 refine Zav<|mw<|Zad mp (Zdc hz) pt<|Vw (Zax lk)<|sn'<|?_
 refine Zaw lk (fun hc1=>?_) (fun hc1=>?_)
 ·refine Zav<|mw<|Vw (Zbr lk)<|Vw (Zab lk)<|E' (Zak lk (cvl lkb rfl) (ZaX hid) rfl (nb' rfl) rfl ZcI (ZaJ hid)) ptn<|sn'<|wr'<|mw<|mw<|sn'<|Zaa<|?_
  refine Zae rz ?_
  exact⟨_,_,rfl,Zao hn,ZbW hlt ZaK,rfl,rfl,by unfold ZeV;rw[if_neg (by simpa using hc1)]⟩
 refine Zaf<|Zah<|wr'<|mw<|mw<|sn'<|Zaa<|Zae rz<|?_
 exact⟨_,_,rfl,Zao hn,ZbW hlt ZaK,rfl,rfl,by unfold ZeV;rw[if_pos (by simpa using hc1)]⟩
theorem idxL_at {l:List ByteArray}{s:ByteArray}{d:Int}{k:Nat}(h:k<l.length):idxL (l.drop k) s (d+k)=if s=l[k] then some (d+k) else idxL (l.drop (k+1)) s (d+(k+1:Nat)):=by
 rw[List.drop_eq_getElem_cons h,idxL]
 congr 2
 push_cast;omega
theorem ZsZ {s:ByteArray} : ∀ {l:List ByteArray}{d:Int},(∀ x∈l,s≠x)→idxL l s d=none
 | [],_,_=>rfl
 | x::l,d,h=>by rw[idxL,if_neg (h x (by simp))];exact ZsZ fun y hy=>h y (by simp[hy])
theorem ZnM {s:ByteArray} : ∀ {l:List ByteArray}{d:Int},idxL l s d=(idxL l s 0).map (· + d)
 | [],_=>rfl
 | x::l,d=>by
  rw[idxL,idxL]
  split
  ·simp
  rw[ZnM (l:=l) (d:=d+1),ZnM (l:=l) (d:=0+1),Option.map_map];congr 1;funext y;simp;omega
theorem ZoU {nl:List ByteArray}{all s:ByteArray}{h:AH}(hl:nl.length≤20) (hz:all.size=3*nl.length) (h3 : ∀ x∈nl,x.size=3) (hx : ∀ k (hk:k<nl.length),all.extract (3*k) (3*k+3)=nl[k]):Ac 308 [sv all,sv s] h (iv ((idxL nl s 0).getD (-1))):=by
 refine tI' k308 fun N hn hlt hlA hbd=>?_
 simp only[tb'] at hbd ⊢
 refine wr'<|mw<|sn'<|Zam<|wr'<|mw<|sn'<|Zap<|?_
 refine w_lp (ι:=Nat) (fun (k:Nat)=>[(5,iv ((3*k:Nat):Int)),(4,.any)]++rn' 6 21) (fun (k:Nat)=>[]) (fun (k:Nat)=>k≤nl.length∧idxL nl s 0=idxL (nl.drop k) s (0+(k:Int))) (fun (k:Nat)=>nl.length-k) (0) (by exact⟨Nat.zero_le _,by simp⟩) ?_
 rintro k hi1
 try simp only[sm',Nat.reduceAdd]
 obtain⟨hk1,hk2⟩:=hi1
 refine Zam<|wr'<|mw<|?_
 refine V' (Zay lk lki om om) pt ?_
 refine mw<|Vw (Zbe lk)<|Vw (Zdq lk lk)<|mw<|?_
 refine sp' (t:=11) gt pt pt (fun hg11=>?_) (fun hg11=>?_)
 ·have hk:k<nl.length:=by omega
  rw[idxL_at hk] at hk2
  refine s_do gt<|mw<|s_do gt<|Vw (Zbe lk)<|s_do gt<|Vw (ZaP lk lki)<|Vw (Zag lk lk)<|sn'<|?_
  refine cd' lk (fun hc1=>?_) (fun hc1=>?_)
  ·have he:=hx k hk
   refine Zaf<|Zah<|Zam<|Zap<|wr'<|mw<|mw<|mw<|?_
   refine V' (Zay lk lki om om) pt ?_
   refine V' (Zd0 lk (oi lk) (oi lk) om om om) pt ?_
   refine mw<|Vw (ZcF lk lk)<|sn'<|?_
   refine cd' lk (fun hc2=>?_) (fun hc2=>?_)
   ·have hc2':s=nl[k]:=by rw[←he];exact hc2.symm
    rw[if_pos hc2'] at hk2
    refine wr'<|mw<|?_
    refine V' (ZfN lk lki om om om) pt ?_
    refine mw<|sn'<|Zaa<|Zaq<|Zai<|Zai<|Zaq<|Zai<|Zae rz<|rT'<|?_
    refine ivx ?_;rw[hk2];simp
   have hc2':¬s=nl[k]:=by rw[←he];exact fun e=>hc2 e.symm
   rw[if_neg hc2'] at hk2
   refine Zaf<|Zaz<|Zah<|Zav<|mw<|?_
   refine V' (Zay lk lki om om) pt ?_
   refine mw<|Zas<|ZaB<|?_
   refine lT' (k+1) (by (try dsimp only);exact⟨by omega,by rw[hk2]⟩)
  refine ZaQ<|ZaD<|ZaD<|Zba<|Zah<|wr'<|mw<|sn'<|Zaa<|Zae rz<|rT'<|?_
  refine ivx ?_;rw[ZsZ (l:=nl) (d:=0) (fun x hx e=>hc1 (by rw[e,h3 x hx];rfl))];rfl
 refine s_no gt pt<|s_no gt pt<|s_no gt pt<|Vw (Zaj lk lkb)<|sn'<|ZaM lk<|ZaQ<|ZaD<|ZaD<|Zba<|Zah<|wr'<|?_
 refine mw<|sn'<|Zaa<|Zae rz<|rT'<|?_
 refine ivx ?_;rw[List.drop_of_length_le om] at hk2;rw[hk2];rfl
def monA:ByteArray:=bA [74,97,110,70,101,98,77,97,114,65,112,114,77,97,121,74,117,110,74,117,108,65,117,103,83,101,112,79,99,116,78,111,118,68,101,99]
def dayA:ByteArray:=bA [83,117,110,77,111,110,84,117,101,87,101,100,84,104,117,70,114,105,83,97,116]
theorem mon_at : ∀ k (hk:k<monL.length),monA.extract (3*k) (3*k+3)=monL[k]:=by decide
end Go.Proofs.YtlekejpogddndaaGreatDoor
end
