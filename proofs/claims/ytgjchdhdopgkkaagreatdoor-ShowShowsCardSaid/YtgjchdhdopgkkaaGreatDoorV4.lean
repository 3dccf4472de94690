/-
  Part 4 of the proof: own lemmas and contracts on plain data. No condition beyond those that each lemma states.
-/
import Derived.Test.YtgjchdhdopgkkaaGreatDoorV3
import Derived.Lib.IndexMore
import Derived.Lib.IndexLaws
import Derived.Maps.OwnOps
import Derived.Maps.OwnSet
import Derived.Test.YtgjchdhdopgkkaaGreatDoorCards
import Derived.Test.YtgjchdhdopgkkaaGreatDoorTie
import Derived.Lay
import Derived.Handed
import Derived.SizedLaws
import Derived.Shelf.Vars
import Derived.SevenTiedAt
import Derived.LaidSub
import Derived.MakeChecks
set_option linter.all false
set_option maxRecDepth 100000
section
namespace Go.Proofs.YtgjchdhdopgkkaaGreatDoor
open Go.Ab Go.RowKit Civ
attribute [local simp] str_lt ln_lt era_lt
theorem shzone_a {A B:Nat}{nm:ByteArray}{es:List Era}{L:List Ln}{h:AH}(h1:h[A]?=some (shP B L)) (h2:h[B]?=some (shL L)) (hne:A≠B) (hl:L.length+es.length≤1000) (hok : ∀ x∈es,shX x) :
  ACalls Tryz.prog 21 [.ptr A 0 0,.agg [sv nm,.sl es.length 10 false (rows eraC es)]] h fun x h'=>x = .ret (.tup [])∧h'=(h.set A (shP B (L++zoneL nm es))).set B (shL (L++zoneL nm es)):=by
 have hid:A<h.length:=(List.getElem?_eq_some_iff.1 h1).1
 have hib:B<h.length:=(List.getElem?_eq_some_iff.1 h2).1
 have hB:=hib
 refine tJ' k21 fun N hn hlt hlA hbd=>?_
 simp only [tA',AV.bdL,AV.bd,and_true,true_and] at hbd ⊢
 rw [hn] at hB
 refine aw_heap (h1:=(h.set A (shP B L)).set B (shL L)++[]) (by rw [hx2_self h1 h2]) ?_
 refine wr'<|E' (e_box (cvl lk1 rfl) rfl (hl0 (hx2_len hn)) ha0) pt3<|sn'<|wr'<|V' (v_fap0 lk3) pt7<|V' (v_loadp lk7 (hga (hx2_len hn) rfl) gt1) pt8<|V' (v_lenL lk8) pt9<|mv' lki pt10<|sn'<|w_block<|?_
 refine w_loopH (ι:=Nat) (fun (j:Nat)=>[(10,iv (j:Int))]++rn' 4 3++rn' 11 19) (fun (j:Nat)=>(h.set A (shP B (L++zoneL nm (es.take j)))).set B (shL (L++zoneL nm (es.take j)))++[.mk 0 52 2 [sv nm,.sl es.length 10 false (rows eraC es)]]) (fun (j:Nat)=>j≤es.length) (fun (j:Nat)=>es.length-j) (0) (by exact Nat.zero_le _) (by try simp only [setsT,setsE,z',s',rn',la',ln',Nat.reduceAdd];exact ALe.same wA' (by rw [List.take_zero,zoneL,List.append_nil])) ?_
 rintro j hi1
 try simp only [setsT,setsE,z',s',rn',la',ln',Nat.reduceAdd]
 refine wr'<|V' (v_lss lk10 lk9) pt11<|sn'<|w_seq<|?_
 refine cd' lk11 (fun hc1=>?_) (fun hc1=>?_)
 ·have hj:j<es.length:=by omega
  have hxe:=hok _ (List.getElem_mem hj)
  have hlj:(L++zoneL nm (es.take j)).length≤1000:=by rw [List.length_append,zoneL_len,List.length_take];omega
  refine w_skip<|n_seq<|w_seq<|w_block<|wr'<|mv' lk10 pt12<|?_
  refine V' (v_iaR (k:=j) lk8 lk10 era_len1 (nb' rfl) (by first | rfl | omega) (by omega) (by first | rfl | omega) rfl) pt13 ?_
  refine V' (v_loadrA lk13 ShwB_tk_10 rfl) pt14<|E' (e_new (hl1 (hx2_len hn)) ha1) pt5<|mv' lk12 pt4<|E' (e_store lk5 (cvl lk14 rfl) (hga (hx2_len hn) rfl) rfl (nb' rfl) rfl ShwB_sc0_10 (hs1 (hx2_len hn))) ptn<|sn'<|wr'<|V' (v_loadpA lk5 (hga (hx2_len hn) rfl) ShwB_tk0_10 rfl) pt15<|s_callp (mp1 lk15 mp0) (shera_a hxe) pt16<|mv' lk16 pt6<|sn'<|w_seq<|?_
  refine wr'<|mv' lk4 pt17<|V' (v_eql lk17 lki) pt18<|sn'<|?_
  refine cd' lk18 (fun hc2=>?_) (fun hc2=>?_)
  ·obtain rfl:j=0:=by omega
   have hfl:=eraG_len es[0]
   dsimp only [eraG] at hfl
   refine w_reg<|V' (v_fap0 lk3) pt19<|V' (v_loadp lk19 (hga (hx2_len hn) rfl) gt0) pt20<|E' (e_lit (ShwB_zone_20 (cvl lks rfl) rfl (cvl lk20 rfl) rfl) (hl2 (hx2_len hn)) ha2) pt21<|mv' lk6 pt22<|?_
   refine E' (e_app (sc_sl lk22 (str_len _)) lk21 (hga (hx2_len hn) rfl) rfl (by omega) (str_leaf _) (hs2 (hx2_len hn))) pt23 ?_
   refine mv' lk23 pt6<|s_nil<|?_
   refine n_seqw (ALe.iceN (hga (hx2_len hn) rfl) gt6 (show List.take _ _=rows strC ([⟨#[90,111,110,101]⟩,nm]++eraG es[0]) from List.take_of_length_le (by rw [str_len,Nat.mul_one,Nat.mul_one,List.length_append];exact Nat.le_refl _)) (by rw [str_len,Nat.mul_one,Nat.mul_one,List.length_append];exact Nat.le_refl _) (by exact (show 2+(eraG es[0]).length=([⟨#[90,111,110,101]⟩,nm]++eraG es[0]).length from by rw [List.length_append];rfl)) pt6 (hs2 (hx2_len hn))) ?_
   refine w_reg<|mv' lk0 pt24<|mv' lk4 pt25<|V' (v_gtr lk25 lki) pt26<|mv' lk6 pt27<|s_callh (mp1 lk24 (mp1 lk26 (mp1 lk27 mp0))) (shline_a (fs:=[⟨#[90,111,110,101]⟩,nm]++eraG es[0]) (hx2_at1 hne hid) (hx2_at2 hib) hne hlj) pt28<|s_nil<|n_blk<|n_seq<|w_reg<|?_
   refine V' (v_add lk10 lki (by omega) (by omega)) pt29 ?_
   refine mv' lk29 pt10<|s_nil<|n_thn<|?_
   rw [hx2_set1 hne hid,hx2_set2 hib]
   refine lU' (0+1) (by (try dsimp only);omega) (by (try dsimp only);(try simp only [setsT,setsE,z',s',rn',la',ln',Nat.reduceAdd]);exact ALe.trans (ALe.back wA' rfl (E1:=[.mk 0 52 2 [sv nm,.sl es.length 10 false (rows eraC es)]]) (k:=N+1) (by simp only [List.length_cons,List.length_nil,(hx2_len hn)]) (by omega) (by exact lt') (ltw (by omega) (hx2_lt hlt (shP_lt hB) shL_lt)) (by exact lt')) (ALe.same (WkL.refl _) (by rw [zone_0 hj,←List.append_assoc];rfl)))
  refine w_skip<|n_seq<|w_reg<|mv' lk0 pt24<|mv' lk4 pt25<|V' (v_gtr lk25 lki) pt26<|mv' lk6 pt27<|s_callh (mp1 lk24 (mp1 lk26 (mp1 lk27 mp0))) (shline_a (fs:=eraG es[j]) (hx2_at1 hne hid) (hx2_at2 hib) hne hlj) pt28<|s_nil<|n_blk<|n_seq<|w_reg<|?_
  refine V' (v_add lk10 lki (by omega) (by omega)) pt29 ?_
  refine mv' lk29 pt10<|s_nil<|n_thn<|?_
  rw [hx2_set1 hne hid,hx2_set2 hib]
  refine lU' (j+1) (by (try dsimp only);omega) (by (try dsimp only);(try simp only [setsT,setsE,z',s',rn',la',ln',Nat.reduceAdd]);exact ALe.trans (ALe.back wA' rfl (E1:=[.mk 0 52 2 [sv nm,.sl es.length 10 false (rows eraC es)]]) (k:=N+1) (by simp only [List.length_cons,List.length_nil,(hx2_len hn)]) (by omega) (by exact lt') (ltw (by omega) (hx2_lt hlt (shP_lt hB) shL_lt)) (by exact lt')) (ALe.same (WkL.refl _) (by rw [zone_s hj hc2,←List.append_assoc])))
 obtain rfl:j=es.length:=by omega
 refine w_exit<|x_thn<|x_thn<|x_blk<|w_end (rs0)<|?_
 refine ⟨_,_,rfl,hx2_len hn,hx2_lt hlt (shP_lt hB) shL_lt,rfl,rfl,?_⟩
 rw [List.take_length]
end Go.Proofs.YtgjchdhdopgkkaaGreatDoor
end
section
namespace Go.Ab
theorem ACalls.iceArg {P:Program}{f:FuncId}{args args' cs cells:List AV}{h h1:AH}{R:AE→AH→Prop}{id ver ty s n d:Nat}(hi:h[id]?=some (.mk ver ty s cells)) (hd:args[d]?=some (.own id ver n)) (hl:n*s≤cells.length)
  (hcs:cells.take (n*s)=cs) (ha:args.set d (.sl n s false cs)=args') (hh:h.set id .gone=h1) (hc:ACalls P f args' h1 R):ACalls P f args h R:=by
 subst hcs ha hh
 refine ⟨hc.1,fun w g vs hs hr=>?_⟩
 obtain ⟨h1,h2,h3⟩:=hs.ice hi
 have htm:=RepL.mono (g.le_ice h id) (fun _ _=>rfl) _ _ hr
 obtain ⟨u,hu,hru⟩:=hr.get hd
 have hset:=htm.set (k:=d) (h3 n u hl hru)
 have hself:vs.toList.set d u=vs.toList:=by
  apply List.ext_getElem?
  intro j
  by_cases hj:j=d
  ·subst hj
   have:j<vs.toList.length:=(List.getElem?_eq_some_iff.1 hu).1
   rw [List.getElem?_set_self this,hu]
  rw [List.getElem?_set_ne (Ne.symm hj)]
 rw [hself] at hset
 refine (hc.2 w (g.ice h id) vs h1 hset).mono ?_
 rintro e w' ⟨x,h',g',a1,a2,a3,a4,a5,a6⟩
 exact ⟨x,h',g',a1,a2,(g.le_ice h id).trans a3,⟨a4.os,a4.tape,a4.output,a4.size,fun i hi hn=>a4.block i hi (fun ho=>hn (h2 i ho))⟩,fun k hk=>(a5 k hk).imp (h2 k) (fun z=>z),a6⟩
end Go.Ab
namespace Go.Proofs.YtgjchdhdopgkkaaGreatDoor
open Go.Ab Go.RowKit Civ
attribute [local simp] rul_lt era_lt zon_lt lnk_lt str_lt ln_lt shP_lt shL_lt
section
theorem ShwC_tk_11 {a0 a1 a2 a3 a4 a5 a6 a7 a8 a9 a10:AV}{l:List AV}:(a0::a1::a2::a3::a4::a5::a6::a7::a8::a9::a10::l).take 11=[a0,a1,a2,a3,a4,a5,a6,a7,a8,a9,a10]:=rfl
theorem ShwC_eq_siiiiiiiiis {a0 b0:ByteArray}{a1 b1:Int}{a2 b2:Int}{a3 b3:Int}{a4 b4:Int}{a5 b5:Int}{a6 b6:Int}{a7 b7:Int}{a8 b8:Int}{a9 b9:Int}{a10 b10:ByteArray}:eqCells [.str,.int,.int,.int,.int,.int,.int,.int,.int,.int,.str] [sv a0,iv a1,iv a2,iv a3,iv a4,iv a5,iv a6,iv a7,iv a8,iv a9,sv a10] [sv b0,iv b1,iv b2,iv b3,iv b4,iv b5,iv b6,iv b7,iv b8,iv b9,sv b10]=some (decide (a0=b0∧a1=b1∧a2=b2∧a3=b3∧a4=b4∧a5=b5∧a6=b6∧a7=b7∧a8=b8∧a9=b9∧a10=b10)):=by
 simp only [eqCells,eqLeaf,if_true,bytes_beq,Option.some.injEq]
 simp only [Bool.decide_and,Bool.and_true]
 try (congr 1 <;> simp)
 try rfl
theorem ShwC_tk_2 {a0 a1:AV}{l:List AV}:(a0::a1::l).take 2=[a0,a1]:=rfl
theorem ShwC_eq_ss {a0 b0:ByteArray}{a1 b1:ByteArray}:eqCells [.str,.str] [sv a0,sv a1] [sv b0,sv b1]=some (decide (a0=b0∧a1=b1)):=by
 simp only [eqCells,eqLeaf,if_true,bytes_beq,Option.some.injEq]
 simp only [Bool.decide_and,Bool.and_true]
 try (congr 1 <;> simp)
 try rfl
theorem ShwC_tk_10 {a0 a1 a2 a3 a4 a5 a6 a7 a8 a9:AV}{l:List AV}:(a0::a1::a2::a3::a4::a5::a6::a7::a8::a9::l).take 10=[a0,a1,a2,a3,a4,a5,a6,a7,a8,a9]:=rfl
theorem ShwC_eq_isisbiiiii {a0 b0:Int}{a1 b1:ByteArray}{a2 b2:Int}{a3 b3:ByteArray}{a4 b4:Bool}{a5 b5:Int}{a6 b6:Int}{a7 b7:Int}{a8 b8:Int}{a9 b9:Int}:eqCells [.int,.str,.int,.str,.bool,.int,.int,.int,.int,.int] [iv a0,sv a1,iv a2,sv a3,bv a4,iv a5,iv a6,iv a7,iv a8,iv a9] [iv b0,sv b1,iv b2,sv b3,bv b4,iv b5,iv b6,iv b7,iv b8,iv b9]=some (decide (a0=b0∧a1=b1∧a2=b2∧a3=b3∧a4=b4∧a5=b5∧a6=b6∧a7=b7∧a8=b8∧a9=b9)):=by
 simp only [eqCells,eqLeaf,if_true,bytes_beq,Option.some.injEq]
 simp only [Bool.decide_and,Bool.and_true]
 try (congr 1 <;> simp)
 try rfl
theorem ShwC_sc0_2 {a0 a1 c0 c1:AV}{l:List AV}:setCells (a0::a1::l) 0 [c0,c1]=c0::c1::l:=rfl
theorem ShwC_tk0_2 {a0 a1:AV}{l:List AV}:((a0::a1::l).drop 0).take 2=[a0,a1]:=rfl
end
def c33:AC:=(.seq (.reg [Oo 4 (.mv (.const (.bool false)))]) (.seq (.seq (.reg [Mv 6 0,Oo 7 (.len false (.tmp 6)),Mv 8 1,Oo 9 (.len false (.tmp 8)),Oo 10 (.bin .neq (.tmp 7) (.tmp 9))]) (.cond (.tmp 10) (.seq (.reg [Oo 4 (.mv (.const (.bool false)))]) .ret) .skip)) (.seq (.seq (.reg [Mv 11 0,Oo 12 (.len false (.tmp 11)),Oo 13 (.mv (Ci 0))]) (.block 0 (.loop (.seq (.reg [Oo 14 (.bin .lss (.tmp 13) (.tmp 12))]) (.seq (.cond (.tmp 14) .skip (.exit 0)) (.seq (.block 1 (.seq (.reg [Mv 15 13,Mv 5 15]) (.seq (.drw [Mv 16 0,Mv 17 5,Oo 18 (.ia 11 (.tmp 16) (.tmp 17)),Oo 19 (.load true 11 (.tmp 18)),Mv 20 1,Mv 21 5,Oo 22 (.ia 11 (.tmp 20) (.tmp 21)),Oo 23 (.load true 11 (.tmp 22)),Oo 24 (.eqs true [.str,.int,.int,.int,.int,.int,.int,.int,.int,.int,.str] (.tmp 19) (.tmp 23))] [] []) (.cond (.tmp 24) (.seq (.reg [Oo 4 (.mv (.const (.bool false)))]) .ret) .skip)))) (.reg [Oo 25 (.bin .add (.tmp 13) (Ci 1)),Mv 13 25]))))))) (.seq (.reg [Oo 4 (.mv (.const (.bool true)))]) .ret))))
theorem k33:compF Tryz.prog 33=some ⟨c33,[(.tmp 4)],26⟩:=by kernel_rfl
def c34:AC:=(.seq (.reg [Oo 4 (.mv (.const (.bool false)))]) (.seq (.seq (.reg [Mv 6 0,Oo 7 (.len false (.tmp 6)),Mv 8 1,Oo 9 (.len false (.tmp 8)),Oo 10 (.bin .neq (.tmp 7) (.tmp 9))]) (.cond (.tmp 10) (.seq (.reg [Oo 4 (.mv (.const (.bool false)))]) .ret) .skip)) (.seq (.seq (.reg [Mv 11 0,Oo 12 (.len false (.tmp 11)),Oo 13 (.mv (Ci 0))]) (.block 0 (.loop (.seq (.reg [Oo 14 (.bin .lss (.tmp 13) (.tmp 12))]) (.seq (.cond (.tmp 14) .skip (.exit 0)) (.seq (.block 1 (.seq (.reg [Mv 15 13,Mv 5 15]) (.seq (.drw [Mv 16 0,Mv 17 5,Oo 18 (.ia 2 (.tmp 16) (.tmp 17)),Oo 19 (.load true 2 (.tmp 18)),Mv 20 1,Mv 21 5,Oo 22 (.ia 2 (.tmp 20) (.tmp 21)),Oo 23 (.load true 2 (.tmp 22)),Oo 24 (.eqs true [.str,.str] (.tmp 19) (.tmp 23))] [] []) (.cond (.tmp 24) (.seq (.reg [Oo 4 (.mv (.const (.bool false)))]) .ret) .skip)))) (.reg [Oo 25 (.bin .add (.tmp 13) (Ci 1)),Mv 13 25]))))))) (.seq (.reg [Oo 4 (.mv (.const (.bool true)))]) .ret))))
theorem k34:compF Tryz.prog 34=some ⟨c34,[(.tmp 4)],26⟩:=by kernel_rfl
def c37:AC:=(.seq (.reg [Oo 4 (.mv (.const (.bool false)))]) (.seq (.seq (.reg [Mv 6 0,Oo 7 (.len false (.tmp 6)),Mv 8 1,Oo 9 (.len false (.tmp 8)),Oo 10 (.bin .neq (.tmp 7) (.tmp 9))]) (.cond (.tmp 10) (.seq (.reg [Oo 4 (.mv (.const (.bool false)))]) .ret) .skip)) (.seq (.seq (.reg [Mv 11 0,Oo 12 (.len false (.tmp 11)),Oo 13 (.mv (Ci 0))]) (.block 0 (.loop (.seq (.reg [Oo 14 (.bin .lss (.tmp 13) (.tmp 12))]) (.seq (.cond (.tmp 14) .skip (.exit 0)) (.seq (.block 1 (.seq (.reg [Mv 15 13,Mv 5 15]) (.seq (.drw [Mv 16 0,Mv 17 5,Oo 18 (.ia 10 (.tmp 16) (.tmp 17)),Oo 19 (.load true 10 (.tmp 18)),Mv 20 1,Mv 21 5,Oo 22 (.ia 10 (.tmp 20) (.tmp 21)),Oo 23 (.load true 10 (.tmp 22)),Oo 24 (.eqs true [.int,.str,.int,.str,.bool,.int,.int,.int,.int,.int] (.tmp 19) (.tmp 23))] [] []) (.cond (.tmp 24) (.seq (.reg [Oo 4 (.mv (.const (.bool false)))]) .ret) .skip)))) (.reg [Oo 25 (.bin .add (.tmp 13) (Ci 1)),Mv 13 25]))))))) (.seq (.reg [Oo 4 (.mv (.const (.bool true)))]) .ret))))
theorem k37:compF Tryz.prog 37=some ⟨c37,[(.tmp 4)],26⟩:=by kernel_rfl
def c36:AC:=(.seq (.reg [Oo 2 (.box 52 2 (.tmp 0)),Oo 3 (.box 52 2 (.tmp 1)),Oo 4 (.mv (.const (.bool false)))]) (.seq (.reg [Fa 5 0 2,Ld 6 5,Fa 7 0 3,Ld 8 7,Oo 9 (.bin .eql (.tmp 6) (.tmp 8)),Mv 10 9,Ot 11 10 (.fa 1 (.tmp 2)),Ot 12 10 (.load false 1 (.tmp 11)),Ot 13 10 (.fa 1 (.tmp 3)),Ot 14 10 (.load false 1 (.tmp 13)),Ot 15 10 (.call (.func 37) [(.tmp 12),(.tmp 14)]),Oo 16 (.pick (.tmp 10) (.tmp 15) (.const (.bool false))),Mv 4 16]) .ret))
theorem k36:compF Tryz.prog 36=some ⟨c36,[(.tmp 4)],17⟩:=by kernel_rfl
def c35:AC:=(.seq (.reg [Oo 6 (.mv (.const (.bool false)))]) (.seq (.seq (.reg [Mv 10 0,Oo 11 (.len false (.tmp 10)),Mv 12 1,Oo 13 (.len false (.tmp 12)),Oo 14 (.bin .neq (.tmp 11) (.tmp 13))]) (.cond (.tmp 14) (.seq (.reg [Oo 6 (.mv (.const (.bool false)))]) .ret) .skip)) (.seq (.seq (.reg [Mv 15 0,Oo 16 (.len false (.tmp 15)),Oo 17 (.mv (Ci 0))]) (.block 0 (.loop (.seq (.reg [Oo 18 (.bin .lss (.tmp 17) (.tmp 16))]) (.seq (.cond (.tmp 18) .skip (.exit 0)) (.seq (.block 1 (.seq (.reg [Mv 19 17,Oo 20 (.ia 2 (.tmp 15) (.tmp 17)),Oo 21 (.load true 2 (.tmp 20)),Oo 8 (.new 52 2 [Ss,(.sl 0 0 true [])]),Mv 7 19,⟨none,none,(.store 2 (.tmp 8) (.tmp 21))⟩]) (.seq (.reg [Mv 22 1,Mv 23 7,Oo 24 (.ia 2 (.tmp 22) (.tmp 23)),Oo 25 (.load true 2 (.tmp 24)),Oo 9 (.new 52 2 [Ss,(.sl 0 0 true [])]),⟨none,none,(.store 2 (.tmp 9) (.tmp 25))⟩]) (.seq (.reg [Mv 26 2,Oo 27 (.load true 2 (.tmp 8)),Oo 28 (.load true 2 (.tmp 9)),Oo 29 (.call (.tmp 26) [(.tmp 27),(.tmp 28)]),Oo 30 (.un .not (.tmp 29))]) (.cond (.tmp 30) (.seq (.reg [Oo 6 (.mv (.const (.bool false)))]) .ret) .skip))))) (.reg [Oo 31 (.bin .add (.tmp 17) (Ci 1)),Mv 17 31]))))))) (.seq (.reg [Oo 6 (.mv (.const (.bool true)))]) .ret))))
theorem k35:compF Tryz.prog 35=some ⟨c35,[(.tmp 6)],32⟩:=by kernel_rfl
def c13:AC:=(.seq (.reg [Oo 2 (.box 26 3 (.tmp 0)),Oo 3 (.box 26 3 (.tmp 1)),Oo 4 (.mv (.const (.bool false)))]) (.seq (.reg [Fa 5 0 2,Ld 6 5,Fa 7 0 3,Ld 8 7,Oo 9 (.call (.func 33) [(.tmp 6),(.tmp 8)]),Mv 10 9,Ot 11 10 (.fa 2 (.tmp 2)),Ot 12 10 (.load false 1 (.tmp 11)),Ot 13 10 (.fa 2 (.tmp 3)),Ot 14 10 (.load false 1 (.tmp 13)),Ot 15 10 (.call (.func 34) [(.tmp 12),(.tmp 14)]),Oo 16 (.pick (.tmp 10) (.tmp 15) (.const (.bool false))),Mv 17 16,Ot 18 17 (.fa 1 (.tmp 2)),Ot 19 17 (.load false 1 (.tmp 18)),Ot 20 17 (.fa 1 (.tmp 3)),Ot 21 17 (.load false 1 (.tmp 20)),Ot 22 17 (.call (.func 35) [(.tmp 19),(.tmp 21),(.func 36)]),Oo 23 (.pick (.tmp 17) (.tmp 22) (.const (.bool false))),Mv 4 23]) .ret))
theorem k13:compF Tryz.prog 13=some ⟨c13,[(.tmp 4)],24⟩:=by kernel_rfl
theorem eqRules_a {a a2:List Rul}{h:AH}:ACalls Tryz.prog 33 [.sl a.length 11 false (rows rulC a),.sl a2.length 11 false (rows rulC a2)] h fun x h'=>h'=h∧x = .ret (bv (decide (a=a2))):=by
 refine tI' k33 fun N hn hlt hlA hbd=>?_
 simp only [tA',AV.bdL,AV.bd,and_true,true_and] at hbd ⊢
 refine wr'<|mv' lkb pt4<|sn'<|w_seq<|wr'<|mv' lk0 pt6<|V' (v_lenL lk6) pt7<|mv' lk1 pt8<|V' (v_lenL lk8) pt9<|V' (v_neq lk7 lk9) pt10<|s_nil<|?_
 refine n_seq ?_
 refine cd' lk10 (fun hc1=>?_) (fun hc1=>?_)
 ·refine wr'<|mv' lkb pt4<|sn'<|w_rets<|r_thn<|w_ret (rs1 (rr_t gt4))<|rT'<|?_
  exact bvx (decide_eq_false (fun e=>hc1 (by rw [e]))).symm
 have hL:a.length=a2.length:=by have:=Decidable.of_not_not hc1;omega
 refine w_skip<|n_seq<|w_seq<|wr'<|mv' lk0 pt11<|V' (v_lenL lk11) pt12<|mv' lki pt13<|sn'<|w_block<|?_
 refine w_lp (ι:=Nat) (fun (k:Nat)=>[(13,iv (k:Int)),(4,.any),(5,.any)]++rn' 14 12) (fun (k:Nat)=>[]) (fun (k:Nat)=>k≤a.length∧a.take k=a2.take k) (fun (k:Nat)=>a.length-k) (0) (by exact ⟨Nat.zero_le _,by simp⟩) ?_
 rintro k hi1
 try simp only [setsT,setsE,z',s',rn',la',ln',Nat.reduceAdd]
 obtain ⟨hk1,hk2⟩:=hi1
 refine wr'<|V' (v_lss lk13 lk12) pt14<|sn'<|w_seq<|?_
 refine cd' lk14 (fun hc2=>?_) (fun hc2=>?_)
 ·have hka:k<a.length:=by omega
  have hkb:k<a2.length:=by omega
  refine w_skip<|n_seq<|w_seq<|w_block<|wr'<|mv' lk13 pt15<|mv' lk15 pt5<|sn'<|w_seq<|w_drwE<|D' (v_mv lk0) pt16<|D' (v_mv lk5) pt17<|?_
  refine D' (v_iaR (k:=k) lk16 lk17 rul_len1 (nb' rfl) (by first | rfl | omega) (by omega) (by first | rfl | omega) rfl) pt18 ?_
  refine D' (v_loadrA lk18 ShwC_tk_11 rfl) pt19<|D' (v_mv lk1) pt20<|D' (v_mv lk5) pt21<|?_
  refine D' (v_iaR (k:=k) lk20 lk21 rul_len1 (nb' rfl) (by first | rfl | omega) (by omega) (by first | rfl | omega) rfl) pt22 ?_
  refine D' (v_loadrA lk22 ShwC_tk_11 rfl) pt23<|D' (v_eqsN lk19 lk23 ShwC_eq_siiiiiiiiis) pt24<|d_nil<|?_
  refine e_nil ?_
  refine sn' ?_
  refine cd' lk24 (fun hc3=>?_) (fun hc3=>?_)
  ·refine wr'<|mv' lkb pt4<|sn'<|w_rets<|r_blk<|r_thn<|r_thn<|r_blk<|r_thn<|w_ret (rs1 (rr_t gt4))<|rT'<|?_
   exact bvx (decide_eq_false (eq_no hka hkb (by intro e2;apply hc3;rw [e2];simp))).symm
  have hE:a[k]=a2[k]:=by simp only [Prod.ext_iff];simp_all
  refine w_skip<|n_blk<|n_seq<|w_reg<|?_
  refine V' (v_add lk13 lki (by omega) (by omega)) pt25 ?_
  refine mv' lk25 pt13<|s_nil<|n_thn<|?_
  refine lT' (k+1) (by (try dsimp only);exact ⟨by omega,eq_take hka hkb hk2 hE⟩)
 refine w_exit<|x_thn<|x_thn<|x_blk<|n_seq<|wr'<|mv' lkb pt4<|sn'<|w_rets<|w_ret (rs1 (rr_t gt4))<|rT'<|?_
 exact bvx (decide_eq_true (eq_end (by omega) (by omega) hk2)).symm
theorem eqLinks_a {a a2:List Lnk}{h:AH}:ACalls Tryz.prog 34 [.sl a.length 2 false (rows lnkC a),.sl a2.length 2 false (rows lnkC a2)] h fun x h'=>h'=h∧x = .ret (bv (decide (a=a2))):=by
 refine tI' k34 fun N hn hlt hlA hbd=>?_
 simp only [tA',AV.bdL,AV.bd,and_true,true_and] at hbd ⊢
 refine wr'<|mv' lkb pt4<|sn'<|w_seq<|wr'<|mv' lk0 pt6<|V' (v_lenL lk6) pt7<|mv' lk1 pt8<|V' (v_lenL lk8) pt9<|V' (v_neq lk7 lk9) pt10<|s_nil<|?_
 refine n_seq ?_
 refine cd' lk10 (fun hc1=>?_) (fun hc1=>?_)
 ·refine wr'<|mv' lkb pt4<|sn'<|w_rets<|r_thn<|w_ret (rs1 (rr_t gt4))<|rT'<|?_
  exact bvx (decide_eq_false (fun e=>hc1 (by rw [e]))).symm
 have hL:a.length=a2.length:=by have:=Decidable.of_not_not hc1;omega
 refine w_skip<|n_seq<|w_seq<|wr'<|mv' lk0 pt11<|V' (v_lenL lk11) pt12<|mv' lki pt13<|sn'<|w_block<|?_
 refine w_lp (ι:=Nat) (fun (k:Nat)=>[(13,iv (k:Int)),(4,.any),(5,.any)]++rn' 14 12) (fun (k:Nat)=>[]) (fun (k:Nat)=>k≤a.length∧a.take k=a2.take k) (fun (k:Nat)=>a.length-k) (0) (by exact ⟨Nat.zero_le _,by simp⟩) ?_
 rintro k hi1
 try simp only [setsT,setsE,z',s',rn',la',ln',Nat.reduceAdd]
 obtain ⟨hk1,hk2⟩:=hi1
 refine wr'<|V' (v_lss lk13 lk12) pt14<|sn'<|w_seq<|?_
 refine cd' lk14 (fun hc2=>?_) (fun hc2=>?_)
 ·have hka:k<a.length:=by omega
  have hkb:k<a2.length:=by omega
  refine w_skip<|n_seq<|w_seq<|w_block<|wr'<|mv' lk13 pt15<|mv' lk15 pt5<|sn'<|w_seq<|w_drwE<|D' (v_mv lk0) pt16<|D' (v_mv lk5) pt17<|?_
  refine D' (v_iaR (k:=k) lk16 lk17 lnk_len1 (nb' rfl) (by first | rfl | omega) (by omega) (by first | rfl | omega) rfl) pt18 ?_
  refine D' (v_loadrA lk18 ShwC_tk_2 rfl) pt19<|D' (v_mv lk1) pt20<|D' (v_mv lk5) pt21<|?_
  refine D' (v_iaR (k:=k) lk20 lk21 lnk_len1 (nb' rfl) (by first | rfl | omega) (by omega) (by first | rfl | omega) rfl) pt22 ?_
  refine D' (v_loadrA lk22 ShwC_tk_2 rfl) pt23<|D' (v_eqsN lk19 lk23 ShwC_eq_ss) pt24<|d_nil<|?_
  refine e_nil ?_
  refine sn' ?_
  refine cd' lk24 (fun hc3=>?_) (fun hc3=>?_)
  ·refine wr'<|mv' lkb pt4<|sn'<|w_rets<|r_blk<|r_thn<|r_thn<|r_blk<|r_thn<|w_ret (rs1 (rr_t gt4))<|rT'<|?_
   exact bvx (decide_eq_false (eq_no hka hkb (by intro e2;apply hc3;rw [e2];simp))).symm
  have hE:a[k]=a2[k]:=by simp only [Prod.ext_iff];simp_all
  refine w_skip<|n_blk<|n_seq<|w_reg<|?_
  refine V' (v_add lk13 lki (by omega) (by omega)) pt25 ?_
  refine mv' lk25 pt13<|s_nil<|n_thn<|?_
  refine lT' (k+1) (by (try dsimp only);exact ⟨by omega,eq_take hka hkb hk2 hE⟩)
 refine w_exit<|x_thn<|x_thn<|x_blk<|n_seq<|wr'<|mv' lkb pt4<|sn'<|w_rets<|w_ret (rs1 (rr_t gt4))<|rT'<|?_
 exact bvx (decide_eq_true (eq_end (by omega) (by omega) hk2)).symm
theorem eqEras_a {a a2:List Era}{h:AH}:ACalls Tryz.prog 37 [.sl a.length 10 false (rows eraC a),.sl a2.length 10 false (rows eraC a2)] h fun x h'=>h'=h∧x = .ret (bv (decide (a=a2))):=by
 refine tI' k37 fun N hn hlt hlA hbd=>?_
 simp only [tA',AV.bdL,AV.bd,and_true,true_and] at hbd ⊢
 refine wr'<|mv' lkb pt4<|sn'<|w_seq<|wr'<|mv' lk0 pt6<|V' (v_lenL lk6) pt7<|mv' lk1 pt8<|V' (v_lenL lk8) pt9<|V' (v_neq lk7 lk9) pt10<|s_nil<|?_
 refine n_seq ?_
 refine cd' lk10 (fun hc1=>?_) (fun hc1=>?_)
 ·refine wr'<|mv' lkb pt4<|sn'<|w_rets<|r_thn<|w_ret (rs1 (rr_t gt4))<|rT'<|?_
  exact bvx (decide_eq_false (fun e=>hc1 (by rw [e]))).symm
 have hL:a.length=a2.length:=by have:=Decidable.of_not_not hc1;omega
 refine w_skip<|n_seq<|w_seq<|wr'<|mv' lk0 pt11<|V' (v_lenL lk11) pt12<|mv' lki pt13<|sn'<|w_block<|?_
 refine w_lp (ι:=Nat) (fun (k:Nat)=>[(13,iv (k:Int)),(4,.any),(5,.any)]++rn' 14 12) (fun (k:Nat)=>[]) (fun (k:Nat)=>k≤a.length∧a.take k=a2.take k) (fun (k:Nat)=>a.length-k) (0) (by exact ⟨Nat.zero_le _,by simp⟩) ?_
 rintro k hi1
 try simp only [setsT,setsE,z',s',rn',la',ln',Nat.reduceAdd]
 obtain ⟨hk1,hk2⟩:=hi1
 refine wr'<|V' (v_lss lk13 lk12) pt14<|sn'<|w_seq<|?_
 refine cd' lk14 (fun hc2=>?_) (fun hc2=>?_)
 ·have hka:k<a.length:=by omega
  have hkb:k<a2.length:=by omega
  refine w_skip<|n_seq<|w_seq<|w_block<|wr'<|mv' lk13 pt15<|mv' lk15 pt5<|sn'<|w_seq<|w_drwE<|D' (v_mv lk0) pt16<|D' (v_mv lk5) pt17<|?_
  refine D' (v_iaR (k:=k) lk16 lk17 era_len1 (nb' rfl) (by first | rfl | omega) (by omega) (by first | rfl | omega) rfl) pt18 ?_
  refine D' (v_loadrA lk18 ShwC_tk_10 rfl) pt19<|D' (v_mv lk1) pt20<|D' (v_mv lk5) pt21<|?_
  refine D' (v_iaR (k:=k) lk20 lk21 era_len1 (nb' rfl) (by first | rfl | omega) (by omega) (by first | rfl | omega) rfl) pt22 ?_
  refine D' (v_loadrA lk22 ShwC_tk_10 rfl) pt23<|D' (v_eqsN lk19 lk23 ShwC_eq_isisbiiiii) pt24<|d_nil<|?_
  refine e_nil ?_
  refine sn' ?_
  refine cd' lk24 (fun hc3=>?_) (fun hc3=>?_)
  ·refine wr'<|mv' lkb pt4<|sn'<|w_rets<|r_blk<|r_thn<|r_thn<|r_blk<|r_thn<|w_ret (rs1 (rr_t gt4))<|rT'<|?_
   exact bvx (decide_eq_false (eq_no hka hkb (by intro e2;apply hc3;rw [e2];simp))).symm
  have hE:a[k]=a2[k]:=by simp only [Prod.ext_iff];simp_all
  refine w_skip<|n_blk<|n_seq<|w_reg<|?_
  refine V' (v_add lk13 lki (by omega) (by omega)) pt25 ?_
  refine mv' lk25 pt13<|s_nil<|n_thn<|?_
  refine lT' (k+1) (by (try dsimp only);exact ⟨by omega,eq_take hka hkb hk2 hE⟩)
 refine w_exit<|x_thn<|x_thn<|x_blk<|n_seq<|wr'<|mv' lkb pt4<|sn'<|w_rets<|w_ret (rs1 (rr_t gt4))<|rT'<|?_
 exact bvx (decide_eq_true (eq_end (by omega) (by omega) hk2)).symm
theorem same1_a {n n2:ByteArray}{es es2:List Era}{h:AH}:ACalls Tryz.prog 36 [.agg [sv n,.sl es.length 10 false (rows eraC es)],.agg [sv n2,.sl es2.length 10 false (rows eraC es2)]] h fun x h'=>h'=h∧x = .ret (bv (decide ((n,es)=(n2,es2)))):=by
 refine tI' k36 fun N hn hlt hlA hbd=>?_
 simp only [tA',AV.bdL,AV.bd,and_true,true_and] at hbd ⊢
 refine wr'<|E' (e_box (cvl lk0 rfl) rfl (hl0 hn) ha0) pt2<|E' (e_box (cvl lk1 rfl) rfl (hl1 hn) ha1) pt3<|mv' lkb pt4<|sn'<|wr'<|V' (v_fap0 lk2) pt5<|V' (v_loadp lk5 (hga hn rfl) gt0) pt6<|V' (v_fap0 lk3) pt7<|V' (v_loadp lk7 (hga hn rfl) gt0) pt8<|V' (v_eqlS lk6 lk8) pt9<|?_
 refine mv' lk9 pt10 ?_
 refine sp' gt10 pt10 pt10 (fun hg10=>?_) (fun hg10=>?_)
 ·refine s_do gt10<|V' (v_fap0 lk2) pt11<|s_do gt10<|V' (v_loadp lk11 (hga hn rfl) gt1) pt12<|s_do gt10<|V' (v_fap0 lk3) pt13<|s_do gt10<|V' (v_loadp lk13 (hga hn rfl) gt1) pt14<|s_do gt10<|s_callp (mp1 lk12 (mp1 lk14 mp0)) (eqEras_a) pt15<|V' (v_pickT lk10 lk15) pt16<|mv' lk16 pt4<|sn'<|?_
  refine w_rets<|w_ret (rs1 (rr_t gt4))<|rT'<|?_
  refine bvx ?_;rw [hg10];simp
 refine s_no gt10 pt11<|s_no gt10 pt12<|s_no gt10 pt13<|s_no gt10 pt14<|s_no gt10 pt15<|V' (v_pickF lk10 lkb) pt16<|mv' lk16 pt4<|sn'<|w_rets<|w_ret (rs1 (rr_t gt4))<|rT'<|?_
 exact bvx (decide_eq_false (fun e=>hg10 (congrArg Prod.fst e))).symm
theorem eqZones_a {a a2:List Zon}{h:AH}:ACalls Tryz.prog 35 [.sl a.length 2 false (rows zonC a),.sl a2.length 2 false (rows zonC a2),.v (.func (.func 36) #[] #[])] h fun x h'=>h'=h∧x = .ret (bv (decide (a=a2))):=by
 refine tI' k35 fun N hn hlt hlA hbd=>?_
 simp only [tA',AV.bdL,AV.bd,and_true,true_and] at hbd ⊢
 refine wr'<|mv' lkb pt6<|sn'<|w_seq<|wr'<|mv' lk0 pt10<|V' (v_lenL lk10) pt11<|mv' lk1 pt12<|V' (v_lenL lk12) pt13<|V' (v_neq lk11 lk13) pt14<|s_nil<|?_
 refine n_seq ?_
 refine cd' lk14 (fun hc1=>?_) (fun hc1=>?_)
 ·refine wr'<|mv' lkb pt6<|sn'<|w_rets<|r_thn<|w_ret (rs1 (rr_t gt6))<|rT'<|?_
  exact bvx (decide_eq_false (fun e=>hc1 (by rw [e]))).symm
 have hL:a.length=a2.length:=by have:=Decidable.of_not_not hc1;omega
 refine w_skip<|n_seq<|w_seq<|wr'<|mv' lk0 pt15<|V' (v_lenL lk15) pt16<|mv' lki pt17<|sn'<|w_block<|?_
 refine w_lp (ι:=Nat) (fun (k:Nat)=>[(17,iv (k:Int))]++rn' 6 4++rn' 18 14) (fun (k:Nat)=>[]) (fun (k:Nat)=>k≤a.length∧a.take k=a2.take k) (fun (k:Nat)=>a.length-k) (0) (by exact ⟨Nat.zero_le _,by simp⟩) ?_
 rintro k hi1
 try simp only [setsT,setsE,z',s',rn',la',ln',Nat.reduceAdd]
 obtain ⟨hk1,hk2⟩:=hi1
 refine wr'<|V' (v_lss lk17 lk16) pt18<|sn'<|w_seq<|?_
 refine cd' lk18 (fun hc2=>?_) (fun hc2=>?_)
 ·have hka:k<a.length:=by omega
  have hkb:k<a2.length:=by omega
  refine w_skip<|n_seq<|w_seq<|w_block<|wr'<|mv' lk17 pt19<|?_
  refine V' (v_iaR (k:=k) lk15 lk17 zon_len1 (nb' rfl) (by first | rfl | omega) (by omega) (by first | rfl | omega) rfl) pt20 ?_
  refine V' (v_loadrA lk20 ShwC_tk_2 rfl) pt21<|E' (e_new (hl0 hn) ha0) pt8<|mv' lk19 pt7<|E' (e_store lk8 (cvl lk21 rfl) (hga hn rfl) rfl (nb' rfl) rfl ShwC_sc0_2 (hs0 hn)) ptn<|sn'<|wr'<|mv' lk1 pt22<|mv' lk7 pt23<|?_
  refine V' (v_iaR (k:=k) lk22 lk23 zon_len1 (nb' rfl) (by first | rfl | omega) (by omega) (by first | rfl | omega) rfl) pt24 ?_
  refine V' (v_loadrA lk24 ShwC_tk_2 rfl) pt25<|E' (e_new (hl1 hn) ha1) pt9<|E' (e_store lk9 (cvl lk25 rfl) (hga hn rfl) rfl (nb' rfl) rfl ShwC_sc0_2 (hs1 hn)) ptn<|sn'<|wr'<|mv' lk2 pt26<|V' (v_loadpA lk8 (hga hn rfl) ShwC_tk0_2 rfl) pt27<|V' (v_loadpA lk9 (hga hn rfl) ShwC_tk0_2 rfl) pt28<|s_callT lk26 (mp1 lk27 (mp1 lk28 mp0)) (same1_a (n:=(a[k]).1) (es:=(a[k]).2) (n2:=(a2[k]).1) (es2:=(a2[k]).2)) pt29<|V' (v_notB lk29) pt30<|sn'<|?_
  refine w_condB lk30 (fun hc3=>?_) (fun hc3=>?_)
  ·have hne:a[k]≠a2[k]:=by intro e;rw [e] at hc3;simp at hc3
   refine wr'<|mv' lkb pt6<|sn'<|w_rets<|r_blk<|r_thn<|r_thn<|r_blk<|r_thn<|w_ret (rs1 (rr_t gt6))<|rT'<|?_
   exact bvx (decide_eq_false (eq_no hka hkb hne)).symm
  have hE:a[k]=a2[k]:=by have h5:=hc3;simp at h5;exact Prod.ext h5.1 h5.2
  refine w_skip<|n_blk<|n_seq<|w_reg<|?_
  refine V' (v_add lk17 lki (by omega) (by omega)) pt31 ?_
  refine mv' lk31 pt17<|s_nil<|n_thn<|?_
  refine lU' (k+1) (by (try dsimp only);exact ⟨by omega,eq_take hka hkb hk2 hE⟩) (by (try dsimp only);(try simp only [setsT,setsE,z',s',rn',la',ln',Nat.reduceAdd]);exact bk' 0 hn hlt)
 refine w_exit<|x_thn<|x_thn<|x_blk<|n_seq<|wr'<|mv' lkb pt6<|sn'<|w_rets<|w_ret (rs1 (rr_t gt6))<|rT'<|?_
 exact bvx (decide_eq_true (eq_end (by omega) (by omega) hk2)).symm
theorem same_b {a a2:List Rul}{z z2:List Zon}{l l2:List Lnk}{h:AH}:ACalls Tryz.prog 13 [.agg [.sl a.length 11 false (rows rulC a),.sl z.length 2 false (rows zonC z),.sl l.length 2 false (rows lnkC l)],.agg [.sl a2.length 11 false (rows rulC a2),.sl z2.length 2 false (rows zonC z2),.sl l2.length 2 false (rows lnkC l2)]] h fun x h'=>h'=h∧x = .ret (bv (decide ((a,z,l)=(a2,z2,l2)))):=by
 refine tI' k13 fun N hn hlt hlA hbd=>?_
 simp only [tA',AV.bdL,AV.bd,and_true,true_and] at hbd ⊢
 refine wr'<|E' (e_box (cvl lk0 rfl) rfl (hl0 hn) ha0) pt2<|E' (e_box (cvl lk1 rfl) rfl (hl1 hn) ha1) pt3<|mv' lkb pt4<|sn'<|wr'<|V' (v_fap0 lk2) pt5<|V' (v_loadp lk5 (hga hn rfl) gt0) pt6<|V' (v_fap0 lk3) pt7<|V' (v_loadp lk7 (hga hn rfl) gt0) pt8<|s_callp (mp1 lk6 (mp1 lk8 mp0)) (eqRules_a (a:=a) (a2:=a2)) pt9<|?_
 refine mv' lk9 pt10 ?_
 refine s_splitB gt10 pt10 pt10 (fun hg10=>?_) (fun hg10=>?_)
 ·refine s_do gt10<|V' (v_fap0 lk2) pt11<|s_do gt10<|V' (v_loadp lk11 (hga hn rfl) gt2) pt12<|s_do gt10<|V' (v_fap0 lk3) pt13<|s_do gt10<|V' (v_loadp lk13 (hga hn rfl) gt2) pt14<|s_do gt10<|s_callp (mp1 lk12 (mp1 lk14 mp0)) (eqLinks_a (a:=l) (a2:=l2)) pt15<|V' (v_pickT lk10 lk15) pt16<|mv' lk16 pt17<|?_
  refine s_splitB gt17 pt17 pt17 (fun hg17=>?_) (fun hg17=>?_)
  ·refine s_do gt17<|V' (v_fap0 lk2) pt18<|s_do gt17<|V' (v_loadp lk18 (hga hn rfl) gt1) pt19<|s_do gt17<|V' (v_fap0 lk3) pt20<|s_do gt17<|V' (v_loadp lk20 (hga hn rfl) gt1) pt21<|s_do gt17<|s_callp (mp1 lk19 (mp1 lk21 (mp1 lkf mp0))) (eqZones_a (a:=z) (a2:=z2)) pt22<|V' (v_pickT lk17 lk22) pt23<|mv' lk23 pt4<|sn'<|?_
   refine w_rets<|w_ret (rs1 (rr_t gt4))<|rT'<|?_
   refine bvx ?_;have h1:=of_decide_eq_true hg10;have h2:=of_decide_eq_true hg17;rw [h1,h2];simp
  refine s_no gt17 pt18<|s_no gt17 pt19<|s_no gt17 pt20<|s_no gt17 pt21<|s_no gt17 pt22<|V' (v_pickF lk17 lkb) pt23<|mv' lk23 pt4<|sn'<|w_rets<|w_ret (rs1 (rr_t gt4))<|rT'<|?_
  exact bvx (decide_eq_false (fun e=>of_decide_eq_false hg17 (congrArg (fun x=>x.2.2) e))).symm
 refine s_no gt10 pt11<|s_no gt10 pt12<|s_no gt10 pt13<|s_no gt10 pt14<|s_no gt10 pt15<|V' (v_pickF lk10 lkb) pt16<|mv' lk16 pt17<|s_no gt17 pt18<|s_no gt17 pt19<|s_no gt17 pt20<|s_no gt17 pt21<|s_no gt17 pt22<|V' (v_pickF lk17 lkb) pt23<|mv' lk23 pt4<|?_
 refine sn'<|w_rets<|w_ret (rs1 (rr_t gt4))<|rT'<|?_
 exact bvx (decide_eq_false (fun e=>of_decide_eq_false hg10 (congrArg Prod.fst e))).symm
end Go.Proofs.YtgjchdhdopgkkaaGreatDoor
end
section
namespace Go.Proofs.YtgjchdhdopgkkaaGreatDoor
open Go.Ab Go.RowKit Civ
abbrev ruleG (r:Rul):List ByteArray:=ruleF r.1 r.2.2.2.2.2.2.2.2 r.2.1 r.2.2.1 r.2.2.2.1 r.2.2.2.2.1.1 r.2.2.2.2.1.2.1 r.2.2.2.2.1.2.2 r.2.2.2.2.2.1 r.2.2.2.2.2.2.1 r.2.2.2.2.2.2.2.1
def ruleLn (r:Rul):Ln:=(0,false,ruleG r)
def linkF (l:Lnk):List ByteArray:=[⟨#[76,105,110,107]⟩,l.1,l.2]
def linkLn (l:Lnk):Ln:=(0,false,linkF l)
def zonesL (z:List Zon):List Ln:=z.flatMap fun x=>zoneL x.1 x.2
def linesV (s:Src):List Ln:=s.1.map ruleLn++zonesL s.2.1++s.2.2.map linkLn
def showV (s:Src):ByteArray×Int:=if checkE s≠0 then (⟨#[]⟩,checkE s) else joinV (linesV s)
theorem firstX_mem {α:Type}{p:α→Int} : ∀ {l:List α},firstX p l=0 → ∀ x∈l,p x=0
 | [],h,x,hx=>by cases hx
 | y::l,h,x,hx=>by
  rw [firstX] at h
  split at h
  ·rename_i h1;exact absurd h h1
  ·rename_i h1
   rcases List.mem_cons.1 hx with rfl | hx
   ·exact Decidable.of_not_not h1
   ·exact firstX_mem h x hx
theorem check_parts {s:Src}(h:checkE s=0):manyB s=false∧firstX ruleE s.1=0∧firstX zoneE s.2.1=0∧firstX linkE s.2.2=0:=by
 unfold checkE at h
 split at h
 ·exact absurd h (by decide)
 ·rename_i h0
  split at h
  ·rename_i h1;exact absurd h h1
  ·rename_i h1
   split at h
   ·rename_i h2;exact absurd h h2
   ·rename_i h2
    exact ⟨by simpa using h0,Decidable.of_not_not h1,Decidable.of_not_not h2,h⟩
def shR (r:Rul):Prop:=(1900≤r.2.1∧r.2.1≤r.2.2.1∧r.2.2.1≤2100)∧(1≤r.2.2.2.1∧r.2.2.2.1≤12)∧(1≤r.2.2.2.2.1.1∧r.2.2.2.2.1.1≤4)∧(0≤r.2.2.2.2.1.2.1∧r.2.2.2.2.1.2.1≤6)∧(0≤r.2.2.2.2.1.2.2∧r.2.2.2.2.1.2.2≤31)∧(0≤r.2.2.2.2.2.1∧r.2.2.2.2.2.1≤172800)∧(1≤r.2.2.2.2.2.2.1∧r.2.2.2.2.2.2.1≤3)∧(0≤r.2.2.2.2.2.2.2.1∧r.2.2.2.2.2.2.2.1≤10800)∧nameB r.1=true∧lettersB r.2.2.2.2.2.2.2.2=true
theorem formE_okS {y m kind wk n:Int}(h:formE y m kind wk n=0):(1≤kind∧kind≤4)∧(0≤wk∧wk≤6)∧(kind=1→wk=0)∧(kind=2→n=0)∧(kind≠2→1≤n∧n≤mlen y m):=by
 unfold formE at h
 split at h
 ·exact absurd h (by decide)
 ·split at h
  ·exact absurd h (by decide)
  ·split at h
   ·exact absurd h (by decide)
   ·split at h
    ·exact absurd h (by decide)
    ·omega
theorem onV_form {y m kind wk n:Int}(h:(onV y m kind wk n).2=0):formE y m kind wk n=0:=by
 unfold onV at h
 split at h
 ·exact h
 ·rename_i h1;exact Decidable.of_not_not h1
theorem rule_ok {r:Rul}(h:ruleE r=0):shR r:=by
 unfold ruleE at h
 split at h
 ·exact absurd h (by decide)
 rename_i h1
 split at h
 ·exact absurd h (by decide)
 rename_i h2
 split at h
 ·rename_i h3;exact absurd h h3
 rename_i h3
 split at h
 ·exact absurd h (by decide)
 rename_i h4
 split at h
 ·exact absurd h (by decide)
 rename_i h5
 split at h
 ·exact absurd h (by decide)
 rename_i h6
 have hf:=formE_okS (onV_form (Decidable.of_not_not h3))
 have hml:=mlen_bd 2001 r.2.2.2.1
 have h1:=Decidable.of_not_not h1
 unfold clkB at h5
 simp only [wi,Bool.and_eq_true,Bool.or_eq_true,decide_eq_true_eq,not_or,Decidable.not_not] at h2 h4 h5 h6
 unfold shR
 refine ⟨by omega,by omega,by omega,by omega,?_,by omega,by omega,by omega,h1.1,h1.2⟩
 by_cases hk:r.2.2.2.2.1.1=2 <;> omega
theorem era_ok {x:Era}{last:Bool}(h:eraX x last=0):shX x∧(x.2.1≠⟨#[]⟩→nameB x.2.1=true)∧formatB x.2.2.2.1=true∧(x.2.1≠⟨#[]⟩→x.2.2.1=0)∧x.2.2.2.2.1=last∧(x.2.2.2.2.1=true→x.2.2.2.2.2=((0,0,0),0,0))∧(x.2.2.2.2.1=false→clkB x.2.2.2.2.2.2.2 false=true∧isDate x.2.2.2.2.2.1.1 x.2.2.2.2.2.1.2.1 x.2.2.2.2.2.1.2.2=true∧x.2.2.2.2.2.2.1≤172800)∧(-64800≤x.1∧x.1≤64800)∧x.2.2.1≤10800:=by
 obtain ⟨sh,rl,sa,fm,op,⟨⟨y,m,d⟩,a,c⟩⟩:=x
 unfold eraX eraE at h
 simp only at h ⊢
 split at h
 ·exact absurd h (by decide)
 rename_i h1
 split at h
 ·exact absurd h (by decide)
 rename_i h2
 split at h
 ·exact absurd h (by decide)
 rename_i h3
 split at h
 ·exact absurd h (by decide)
 rename_i h4
 simp only [wi,Bool.and_eq_true,decide_eq_true_eq,not_or,Decidable.not_not,not_and] at h1 h2 h3 h4
 cases op with
 | true =>
  rw [if_pos rfl] at h
  split at h
  ·exact absurd h (by decide)
  ·rename_i h5
   have h5:=Decidable.of_not_not h5
   obtain ⟨rfl,rfl,rfl,rfl,rfl⟩:=h5
   have hS:shE sh sa true 0 0 0 0 0:=⟨by omega,by omega,fun e=>(by cases e)⟩
   exact ⟨hS,h1.1,h1.2,h3,h4,fun _=>rfl,fun e=>(by cases e),by omega,by omega⟩
 | false =>
  rw [if_neg (by simp)] at h
  split at h
  ·exact absurd h (by decide)
  rename_i h5
  split at h
  ·exact absurd h (by decide)
  rename_i h6
  split at h
  ·exact absurd h (by decide)
  rename_i h7
  have h5:=Decidable.of_not_not h5
  have h7:=Decidable.of_not_not h7
  have h5':=isDate_iff.1 h5
  have hml:=mlen_bd y m
  have h8:=h7
  unfold clkB at h8
  simp only [wi,Bool.and_eq_true,Bool.or_eq_true,decide_eq_true_eq,Decidable.not_not] at h6 h8
  have hS:shE sh sa false y m d a c:=⟨by omega,by omega,fun _=>⟨by omega,by omega,by omega,by omega,by omega⟩⟩
  exact ⟨hS,h1.1,h1.2,h3,h4,fun e=>(by cases e),fun _=>⟨h7,h5,by omega⟩,by omega,by omega⟩
theorem eras_ok : ∀ {l:List Era},erasE l=0 → ∀ x∈l,shX x
 | [],h,x,hx=>by cases hx
 | y::l,h,x,hx=>by
  rw [erasE] at h
  split at h
  ·rename_i h1;exact absurd h h1
  ·rename_i h1
   rcases List.mem_cons.1 hx with rfl | hx
   ·exact (era_ok (Decidable.of_not_not h1)).1
   ·exact eras_ok h x hx
theorem zone_ok {z:Zon}(h:zoneE z=0):nameB z.1=true∧z.2.length≠0 ∧ ∀ x∈z.2,shX x:=by
 unfold zoneE at h
 split at h
 ·exact absurd h (by decide)
 ·rename_i h1
  simp only [not_or,Decidable.not_not] at h1
  exact ⟨h1.1,h1.2,eras_ok h⟩
theorem many_ok {s:Src}(h:manyB s=false):(∀ z∈s.2.1,z.2.length≤8)∧s.1.length≤40∧s.2.1.length≤20∧s.2.2.length≤20:=by
 unfold manyB at h
 simp only [Bool.or_eq_false_iff,decide_eq_false_iff_not,List.any_eq_false,decide_eq_true_eq] at h
 exact ⟨fun z hz=>by have:=h.1.1.1 z hz;omega,by omega,by omega,by omega⟩
theorem zonesL_app {a b:List Zon}:zonesL (a++b)=zonesL a++zonesL b:=List.flatMap_append
theorem zonesL_s {z:List Zon}{k:Nat}(h:k<z.length):zonesL (z.take (k+1))=zonesL (z.take k)++zoneL (z[k]).1 (z[k]).2:=by
 rw [List.take_succ_eq_append_getElem h,zonesL_app];simp [zonesL]
theorem zonesL_len : ∀ {z:List Zon},(∀ x∈z,x.2.length≤8)→(zonesL z).length≤8*z.length
 | [],_=>by simp [zonesL]
 | x::z,h=>by
  have h1:=zonesL_len (z:=z) (fun y hy=>h y (by simp [hy]))
  have h2:=h x (by simp)
  have:zonesL (x::z)=zoneL x.1 x.2++zonesL z:=by simp [zonesL]
  rw [this,List.length_append,zoneL_len,List.length_cons];omega
theorem sizeClock {n kind none:Int}(h0 : -1000000000≤n) (h1:n≤1000000000) (hk0:0≤kind) (hk1:kind≤3):(clockT n kind none).size≤100:=by
 have hL:=spanT_len h0 h1
 have hkl:kind.toNat<clkS.length:=by have:clkS.length=4:=rfl;omega
 have hcs:=clk_at hkl
 unfold clockT
 split
 ·rw [bA_size];omega
 ·rw [ByteArray.size_append,bA_size,List.getD_eq_getElem?_getD,List.getElem?_eq_getElem hkl]
  simp only [Option.getD_some];omega
theorem sizeForm {k w n:Int}(h0 : -1000000000≤n) (h1:n≤1000000000):(formT k w n).size≤40:=by
 have hL:=itoaL h0 h1
 have hds:=day_size (k:=w)
 have h4:(⟨#[108,97,115,116]⟩:ByteArray).size=4:=rfl
 have h5:(⟨#[62,61]⟩:ByteArray).size=2:=rfl
 have h6:(⟨#[60,61]⟩:ByteArray).size=2:=rfl
 have key : ∀ x∈formS (dayS w) n,x.size≤40:=by
  intro x hx
  simp only [formS,List.mem_cons,List.not_mem_nil,or_false] at hx
  rcases hx with rfl | rfl | rfl | rfl | rfl
  ·exact Nat.zero_le _
  ·rw [bA_size];omega
  ·rw [ByteArray.size_append];omega
  ·rw [ByteArray.size_append,ByteArray.size_append,bA_size];omega
  ·rw [ByteArray.size_append,ByteArray.size_append,bA_size];omega
 unfold formT
 by_cases hkl:k.toNat<(formS (dayS w) n).length
 ·rw [List.getD_eq_getElem?_getD,List.getElem?_eq_getElem hkl];exact key _ (List.getElem_mem hkl)
 ·rw [List.getD_eq_getElem?_getD,List.getElem?_eq_none (by omega)];exact Nat.zero_le _
theorem sizeMon {k:Int}:(monS k).size≤3:=by
 have key : ∀ x∈((⟨#[]⟩:ByteArray)::monL),x.size≤3:=by decide
 unfold monS
 by_cases hkl:k.toNat<((⟨#[]⟩:ByteArray)::monL).length
 ·rw [List.getD_eq_getElem?_getD,List.getElem?_eq_getElem hkl];exact key _ (List.getElem_mem hkl)
 ·rw [List.getD_eq_getElem?_getD,List.getElem?_eq_none (by omega)];exact Nat.zero_le _
theorem sizeTo {f t:Int}(h0 : -1000000000≤t) (h1:t≤1000000000):(toT f t).size≤40:=by
 have:=padI_len (k:=4) h0 h1
 unfold toT
 split
 ·decide
 ·split
  ·decide
  ·rw [bA_size];omega
theorem sizeOr {s o:ByteArray}(hs:s.size≤100) (ho:o.size≤100):(orT s o).size≤100:=by
 unfold orT;split <;> assumption
theorem sizeName {s:ByteArray}(h:nameB s=true):s.size≤24:=by
 unfold nameB at h
 simp only [Bool.and_eq_true,decide_eq_true_eq] at h
 exact h.1.1.2
theorem sizeLetters {s:ByteArray}(h:lettersB s=true):s.size≤24:=by
 unfold lettersB at h
 simp only [Bool.and_eq_true,decide_eq_true_eq] at h
 exact h.1
theorem sizeFormat {s:ByteArray}(h:formatB s=true):s.size≤24:=by
 unfold formatB at h
 split at h
 ·cases h
 ·omega
def small (l:List Ln):Prop := ∀ x∈l,∀ f∈x.2.2,f.size≤100
theorem small_rule {r:Rul}(h:shR r) : ∀ f∈ruleG r,f.size≤100:=by
 obtain ⟨h1,h2,h3,h4,h5,h6,h7,h8,h9,h10⟩:=h
 intro f hf
 simp only [ruleF,List.mem_cons,List.not_mem_nil,or_false] at hf
 rcases hf with rfl | rfl | rfl | rfl | rfl | rfl | rfl | rfl | rfl
 ·decide
 ·have:=sizeName h9;omega
 ·rw [bA_size];have:=padI_len (n:=r.2.1) (k:=4) (by omega) (by omega);omega
 ·have:=sizeTo (f:=r.2.1) (t:=r.2.2.1) (by omega) (by omega);omega
 ·have:=sizeMon (k:=r.2.2.2.1);omega
 ·have:=sizeForm (k:=r.2.2.2.2.1.1) (w:=r.2.2.2.2.1.2.1) (n:=r.2.2.2.2.1.2.2) (by omega) (by omega);omega
 ·exact sizeClock (by omega) (by omega) (by omega) (by omega)
 ·rw [bA_size];have:=spanT_len (n:=r.2.2.2.2.2.2.2.1) (by omega) (by omega);omega
 ·exact sizeOr (by have:=sizeLetters h10;omega) (by decide)
theorem small_era {x:Era}(h:shX x) (hr:x.2.1.size≤24) (hf:x.2.2.2.1.size≤24) : ∀ f∈eraG x,f.size≤100:=by
 obtain ⟨h1,h2,h3⟩:=h
 intro f hx
 unfold eraG eraF at hx
 rcases List.mem_append.1 hx with hx | hx
 ·simp only [List.mem_cons,List.not_mem_nil,or_false] at hx
  rcases hx with rfl | rfl | rfl
  ·rw [bA_size];have:=spanT_len (n:=x.1) (by omega) (by omega);omega
  ·split
   ·rw [bA_size];have:=spanT_len (n:=x.2.2.1) (by omega) (by omega);omega
   ·exact sizeOr (by omega) (by decide)
  ·omega
 ·split at hx
  ·cases hx
  ·rename_i ho
   obtain ⟨a1,a2,a3,a4,a5⟩:=h3 (by simpa using ho)
   simp only [List.mem_cons,List.not_mem_nil,or_false] at hx
   rcases hx with rfl | rfl | rfl | rfl
   ·rw [bA_size];have:=padI_len (n:=x.2.2.2.2.2.1.1) (k:=4) (by omega) (by omega);omega
   ·have:=sizeMon (k:=x.2.2.2.2.2.1.2.1);omega
   ·rw [bA_size];have:=itoaL (n:=x.2.2.2.2.2.1.2.2) (by omega) (by omega);omega
   ·exact sizeClock (by omega) (by omega) (by omega) (by omega)
theorem small_zone {nm:ByteArray}{es:List Era}(hn:nm.size≤24) (h : ∀ x∈es,∀ f∈eraG x,f.size≤100):small (zoneL nm es):=by
 cases es with
 | nil=>intro x hx;cases hx
 | cons e es =>
  intro x hx f hf
  rw [zoneL] at hx
  rcases List.mem_cons.1 hx with rfl | hx
  ·rcases List.mem_append.1 hf with hf | hf
   ·simp only [List.mem_cons,List.not_mem_nil,or_false] at hf
    rcases hf with rfl | rfl
    ·decide
    ·omega
   ·exact h e (by simp) f hf
  ·obtain ⟨y,hy,rfl⟩:=List.mem_map.1 hx
   exact h y (by simp [hy]) f hf
theorem eras_okF : ∀ {l:List Era},erasE l=0 → ∀ x∈l,x.2.1.size≤24∧x.2.2.2.1.size≤24
 | [],h,x,hx=>by cases hx
 | y::l,h,x,hx=>by
  rw [erasE] at h
  split at h
  ·rename_i h1;exact absurd h h1
  ·rename_i h1
   rcases List.mem_cons.1 hx with rfl | hx
   ·obtain ⟨_,a,b,_⟩:=era_ok (Decidable.of_not_not h1)
    refine ⟨?_,sizeFormat b⟩
    by_cases he:x.2.1=⟨#[]⟩
    ·rw [he];decide
    ·exact sizeName (a he)
   ·exact eras_okF h x hx
theorem small_lines {s:Src}(h:checkE s=0):small (linesV s):=by
 obtain ⟨_,h1,h2,h3⟩:=check_parts h
 intro x hx f hf
 unfold linesV at hx
 rcases List.mem_append.1 hx with hx | hx
 ·rcases List.mem_append.1 hx with hx | hx
  ·obtain ⟨r,hr,rfl⟩:=List.mem_map.1 hx
   exact small_rule (rule_ok (firstX_mem h1 r hr)) f hf
  ·obtain ⟨z,hz,hx⟩:=List.mem_flatMap.1 hx
   have hz0:=firstX_mem h2 z hz
   obtain ⟨a,b,c⟩:=zone_ok hz0
   have hF:=eras_okF (l:=z.2) (by unfold zoneE at hz0;split at hz0;exact absurd hz0 (by decide);exact hz0)
   exact small_zone (sizeName a) (fun y hy=>small_era (c y hy) (hF y hy).1 (hF y hy).2) x hx f hf
 ·obtain ⟨l,hl,rfl⟩:=List.mem_map.1 hx
  have:=firstX_mem h3 l hl
  unfold linkE at this
  split at this
  ·exact absurd this (by decide)
  ·rename_i hh
   have hh:=Decidable.of_not_not hh
   simp only [linkLn,linkF,List.mem_cons,List.not_mem_nil,or_false] at hf
   rcases hf with rfl | rfl | rfl
   ·decide
   ·have:=sizeName hh.1;omega
   ·have:=sizeName hh.2;omega
theorem okLns_small {l:List Ln}(h:small l):okLns l:=fun x hx f hf=>Nat.le_trans (h x hx f hf) (by decide)
end Go.Proofs.YtgjchdhdopgkkaaGreatDoor
end
section
namespace Go.Proofs.YtgjchdhdopgkkaaGreatDoor
open Go.Ab Go.RowKit Civ
attribute [local simp] rul_lt era_lt zon_lt lnk_lt str_lt ln_lt shP_lt shL_lt
section
theorem ShwE_tk0_3 {a0 a1 a2:AV}{l:List AV}:((a0::a1::a2::l).drop 0).take 3=[a0,a1,a2]:=rfl
theorem ShwE_Show_12 {τ:Operand→AV}:fillAV τ [] [(.sl 0 0 true [])]=some [(.sl 0 0 true [])]:=rfl
theorem ShwE_tk_11 {a0 a1 a2 a3 a4 a5 a6 a7 a8 a9 a10:AV}{l:List AV}:(a0::a1::a2::a3::a4::a5::a6::a7::a8::a9::a10::l).take 11=[a0,a1,a2,a3,a4,a5,a6,a7,a8,a9,a10]:=rfl
theorem ShwE_sc0_11 {a0 a1 a2 a3 a4 a5 a6 a7 a8 a9 a10 c0 c1 c2 c3 c4 c5 c6 c7 c8 c9 c10:AV}{l:List AV}:setCells (a0::a1::a2::a3::a4::a5::a6::a7::a8::a9::a10::l) 0 [c0,c1,c2,c3,c4,c5,c6,c7,c8,c9,c10]=c0::c1::c2::c3::c4::c5::c6::c7::c8::c9::c10::l:=rfl
theorem ShwE_tk0_11 {a0 a1 a2 a3 a4 a5 a6 a7 a8 a9 a10:AV}{l:List AV}:((a0::a1::a2::a3::a4::a5::a6::a7::a8::a9::a10::l).drop 0).take 11=[a0,a1,a2,a3,a4,a5,a6,a7,a8,a9,a10]:=rfl
theorem ShwE_tk_2 {a0 a1:AV}{l:List AV}:(a0::a1::l).take 2=[a0,a1]:=rfl
theorem ShwE_sc0_2 {a0 a1 c0 c1:AV}{l:List AV}:setCells (a0::a1::l) 0 [c0,c1]=c0::c1::l:=rfl
theorem ShwE_tk0_2 {a0 a1:AV}{l:List AV}:((a0::a1::l).drop 0).take 2=[a0,a1]:=rfl
theorem ShwE_Show_57 {τ:Operand→AV}{y0 y1 y2:Operand}{x0_0 x1_0 x2_0:AV}(h0:cellsV (τ y0)=some [x0_0]) (l0:[x0_0].all leaf=true) (h1:cellsV (τ y1)=some [x1_0]) (l1:[x1_0].all leaf=true) (h2:cellsV (τ y2)=some [x2_0]) (l2:[x2_0].all leaf=true):fillAV τ [(0,1,y0),(1,1,y1),(2,1,y2)] [(.v (.string ⟨#[]⟩)),(.v (.string ⟨#[]⟩)),(.v (.string ⟨#[]⟩))]=some [x0_0,x1_0,x2_0]:=by
 simp only [fillAV,h0,l0,h1,l1,h2,l2]
 rfl
end
def c8:AC:=(.seq (.reg [Oo 1 (.box 26 3 (.tmp 0)),Oo 2 (.mv (.const (.string ⟨#[]⟩))),Oo 3 (.mv (Ci 0))]) (.seq (.seq (.reg [Oo 12 (.load true 3 (.tmp 1)),Oo 13 (.call (.func 17) [(.tmp 12)]),Mv 4 13]) (.seq (.reg [Mv 14 4,Oo 15 (.bin .neq (.tmp 14) (Ci 0))]) (.cond (.tmp 15) (.seq (.reg [Mv 16 4,Oo 2 (.mv (.const (.string ⟨#[]⟩))),Mv 3 16]) .ret) .skip))) (.seq (.reg [Oo 17 (.build [(.sl 0 0 true [])] []),Oo 18 (.box 44 1 (.tmp 17)),Mv 5 18]) (.seq (.seq (.reg [Fa 19 0 1,Ld 20 19,Oo 21 (.len false (.tmp 20)),Oo 22 (.mv (Ci 0))]) (.block 0 (.loop (.seq (.reg [Oo 23 (.bin .lss (.tmp 22) (.tmp 21))]) (.seq (.cond (.tmp 23) .skip (.exit 0)) (.seq (.block 1 (.seq (.reg [Oo 24 (.ia 11 (.tmp 20) (.tmp 22)),Oo 25 (.load true 11 (.tmp 24)),Oo 7 (.new 48 11 [Ss,(iv 0),(iv 0),(iv 0),(iv 0),(iv 0),(iv 0),(iv 0),(iv 0),(iv 0),Ss]),⟨none,none,(.store 11 (.tmp 7) (.tmp 25))⟩]) (.reg [Mv 26 5,Oo 27 (.load true 11 (.tmp 7)),Oo 28 (.call (.func 20) [(.tmp 26),(.tmp 27)])]))) (.reg [Oo 29 (.bin .add (.tmp 22) (Ci 1)),Mv 22 29]))))))) (.seq (.seq (.reg [Fa 30 1 1,Ld 31 30,Oo 32 (.len false (.tmp 31)),Oo 33 (.mv (Ci 0))]) (.block 2 (.loop (.seq (.reg [Oo 34 (.bin .lss (.tmp 33) (.tmp 32))]) (.seq (.cond (.tmp 34) .skip (.exit 2)) (.seq (.block 3 (.seq (.reg [Oo 35 (.ia 2 (.tmp 31) (.tmp 33)),Oo 36 (.load true 2 (.tmp 35)),Oo 9 (.new 52 2 [Ss,(.sl 0 0 true [])]),⟨none,none,(.store 2 (.tmp 9) (.tmp 36))⟩]) (.reg [Mv 37 5,Oo 38 (.load true 2 (.tmp 9)),Oo 39 (.call (.func 21) [(.tmp 37),(.tmp 38)])]))) (.reg [Oo 40 (.bin .add (.tmp 33) (Ci 1)),Mv 33 40]))))))) (.seq (.seq (.reg [Fa 41 2 1,Ld 42 41,Oo 43 (.len false (.tmp 42)),Oo 44 (.mv (Ci 0))]) (.block 4 (.loop (.seq (.reg [Oo 45 (.bin .lss (.tmp 44) (.tmp 43))]) (.seq (.cond (.tmp 45) .skip (.exit 4)) (.seq (.block 5 (.seq (.reg [Oo 46 (.ia 2 (.tmp 42) (.tmp 44)),Oo 47 (.load true 2 (.tmp 46)),Oo 11 (.new 55 2 [Ss,Ss]),⟨none,none,(.store 2 (.tmp 11) (.tmp 47))⟩]) (.reg [Mv 48 5,Fa 49 0 11,Ld 50 49,Fa 51 1 11,Ld 52 51,Oo 53 (.lit 9 1 3 [Ss,Ss,Ss] [(0,(1,(.const (.string ⟨#[76,105,110,107]⟩)))),(1,(1,(.tmp 50))),(2,(1,(.tmp 52)))]),Oo 54 (.call (.func 22) [(.tmp 48),(.const (.bool false)),(.tmp 53)])]))) (.reg [Oo 55 (.bin .add (.tmp 44) (Ci 1)),Mv 44 55]))))))) (.seq (.reg [Mv 56 5,Nk 57 56,Fa 58 0 57,Ld 59 58,Oo 60 (.call (.func 23) [(.tmp 59)]),Ex 61 60 0,Ex 62 60 1,Mv 2 61,Mv 3 62]) .ret)))))))
theorem k8:compF Tryz.prog 8=some ⟨c8,[(.tmp 2),(.tmp 3)],63⟩:=by kernel_rfl
theorem map_s {α β:Type}{f:α→β}{a:List α}{k:Nat}(h:k<a.length):(a.take (k+1)).map f=(a.take k).map f++[f a[k]]:=by
 rw [List.take_succ_eq_append_getElem h,List.map_append];rfl
theorem show_b {a:List Rul}{z:List Zon}{l:List Lnk}{h:AH}(hok:okSrc (a,z,l)):ACalls Tryz.prog 8 [.agg [.sl a.length 11 false (rows rulC a),.sl z.length 2 false (rows zonC z),.sl l.length 2 false (rows lnkC l)]] h fun x h'=>h'=h∧x = .ret (.tup [sv (showV (a,z,l)).1,iv (showV (a,z,l)).2]):=by
 refine tI' k8 fun N hn hlt hlA hbd=>?_
 simp only [tA',AV.bdL,AV.bd,and_true,true_and] at hbd ⊢
 refine wr'<|E' (e_box (cvl lk0 rfl) rfl (hl0 hn) ha0) pt1<|mv' lks pt2<|mv' lki pt3<|sn'<|w_seq<|wr'<|V' (v_loadpA lk1 (hga hn rfl) ShwE_tk0_3 rfl) pt12<|s_callp (mp1 lk12 mp0) (scheck_b (a:=a) (z:=z) (l:=l) hok) pt13<|mv' lk13 pt4<|s_nil<|?_
 refine n_seq<|wr'<|mv' lk4 pt14<|V' (v_neq lk14 lki) pt15<|sn'<|?_
 refine cd' lk15 (fun hc1=>?_) (fun hc1=>?_)
 ·have hV:showV (a,z,l)=(⟨#[]⟩,checkE (a,z,l)):=if_pos hc1
  refine wr'<|mv' lk4 pt16<|mv' lks pt2<|mv' lk16 pt3<|sn'<|w_rets<|r_thn<|w_ret (rsn (rm1 (rr_t gt2) (rm1 (rr_t gt3) rm0)))<|rT'<|?_
  rw [hV]
 have hc:checkE (a,z,l)=0:=Decidable.of_not_not hc1
 have hV:showV (a,z,l)=joinV (linesV (a,z,l)):=if_neg hc1
 obtain ⟨hp0,hp1,hp2,hp3⟩:=check_parts hc
 obtain ⟨hm1,hm2,hm3,hm4⟩:=many_ok hp0
 dsimp only at hm1 hm2 hm3 hm4
 refine w_skip<|n_seq<|wr'<|V' (v_build ShwE_Show_12) pt17<|E' (e_box (cvl lk17 rfl) rfl (hl1 hn) ha1) pt18<|mv' lk18 pt5<|s_nil<|?_
 refine n_seqw (ALe.own0Cell (st':=3) (ty:=67) (hga hn rfl) gt0 (hl2 hn) pt0 (Eq.trans (congrArg (fun z=>List.set z _ _) ha2) (hs1 hn))) ?_
 refine w_seq<|wr'<|V' (v_fap0 lk1) pt19<|V' (v_loadp lk19 (hga hn rfl) gt0) pt20<|V' (v_lenL lk20) pt21<|mv' lki pt22<|sn'<|w_block<|?_
 refine w_lp (ι:=Nat) (fun (k:Nat)=>[(22,iv (k:Int)),(7,.any)]++rn' 23 7) (fun (k:Nat)=>[(1,shP (N+2) ((a.take k).map ruleLn)),(2,shL ((a.take k).map ruleLn))]) (fun (k:Nat)=>k≤a.length) (fun (k:Nat)=>a.length-k) (0) (by exact Nat.zero_le _) ?_
 rintro k hi1
 try simp only [setsT,setsE,z',s',rn',la',ln',Nat.reduceAdd]
 refine wr'<|V' (v_lss lk22 lk21) pt23<|sn'<|w_seq<|?_
 refine cd' lk23 (fun hc2=>?_) (fun hc2=>?_)
 ·have hka:k<a.length:=by omega
  obtain ⟨b1,b2,b3,b4,b5,b6,b7,b8,_⟩:=rule_ok (firstX_mem hp1 _ (List.getElem_mem hka))
  refine w_skip<|n_seq<|w_seq<|w_block<|wr'<|?_
  refine V' (v_iaR (k:=k) lk20 lk22 rul_len1 (nb' rfl) (by first | rfl | omega) (by omega) (by first | rfl | omega) rfl) pt24 ?_
  refine V' (v_loadrA lk24 ShwE_tk_11 rfl) pt25<|E' (e_new (hl3 hn) ha3) pt7<|E' (e_store lk7 (cvl lk25 rfl) (hga hn rfl) rfl (nb' rfl) rfl ShwE_sc0_11 (hs3 hn)) ptn<|sn'<|w_reg<|mv' lk5 pt26<|V' (v_loadpA lk7 (hga hn rfl) ShwE_tk0_11 rfl) pt27<|?_
  refine s_callh (mp1 lk26 (mp1 lk27 mp0)) (shrule_a (L:=(a.take k).map ruleLn) (hga hn rfl) (hga hn rfl) (by omega) (by rw [List.length_map,List.length_take];omega) (by omega) (by omega) (by omega) (by omega) (by omega) (by omega) (by omega) (by omega) (by omega)) pt28 ?_
  refine s_nil<|n_blk<|n_seq<|w_reg<|?_
  refine V' (v_add lk22 lki (by omega) (by omega)) pt29 ?_
  refine mv' lk29 pt22<|s_nil<|n_thn<|?_
  rw [hs1 hn,hs2 hn]
  refine lU' (k+1) (by (try dsimp only);omega) (by (try dsimp only);(try simp only [setsT,setsE,z',s',rn',la',ln',Nat.reduceAdd]);exact bk' 3 hn hlt (by rw [map_s hka];rfl))
 obtain rfl:k=a.length:=by omega
 rw [List.take_length]
 refine w_exit<|x_thn<|x_thn<|x_blk<|n_seq<|w_seq<|wr'<|V' (v_fap0 lk1) pt30<|V' (v_loadp lk30 (hga hn rfl) gt1) pt31<|V' (v_lenL lk31) pt32<|mv' lki pt33<|sn'<|?_
 refine w_block ?_
 refine w_loop (ι:=Nat) (fun (k:Nat)=>[(33,iv (k:Int)),(9,.any)]++rn' 34 7) (fun (k:Nat)=>[(1,shP (N+2) (a.map ruleLn++zonesL (z.take k))),(2,shL (a.map ruleLn++zonesL (z.take k)))]) (fun (k:Nat)=>k≤z.length) (fun (k:Nat)=>z.length-k) (0) (by exact Nat.zero_le _) (by try simp only [setsT,setsE,z',s',rn',la',ln',Nat.reduceAdd];exact ALe.same wA' (by rw [List.take_zero];simp [zonesL])) ?_
 rintro k hi2
 try simp only [setsT,setsE,z',s',rn',la',ln',Nat.reduceAdd]
 refine wr'<|V' (v_lss lk33 lk32) pt34<|sn'<|w_seq<|?_
 refine cd' lk34 (fun hc3=>?_) (fun hc3=>?_)
 ·have hkz:k<z.length:=by omega
  have hz0:=zone_ok (firstX_mem hp2 _ (List.getElem_mem hkz))
  have hzl:=hm1 _ (List.getElem_mem hkz)
  have hzn:=zonesL_len (z:=z.take k) (fun x hx=>hm1 x (List.mem_of_mem_take hx))
  rw [List.length_take] at hzn
  refine w_skip<|n_seq<|w_seq<|w_block<|wr'<|?_
  refine V' (v_iaR (k:=k) lk31 lk33 zon_len1 (nb' rfl) (by first | rfl | omega) (by omega) (by first | rfl | omega) rfl) pt35 ?_
  refine V' (v_loadrA lk35 ShwE_tk_2 rfl) pt36<|E' (e_new (hl3 hn) ha3) pt9<|E' (e_store lk9 (cvl lk36 rfl) (hga hn rfl) rfl (nb' rfl) rfl ShwE_sc0_2 (hs3 hn)) ptn<|sn'<|w_reg<|mv' lk5 pt37<|V' (v_loadpA lk9 (hga hn rfl) ShwE_tk0_2 rfl) pt38<|?_
  refine s_callh (mp1 lk37 (mp1 lk38 mp0)) (shzone_a (L:=a.map ruleLn++zonesL (z.take k)) (nm:=(z[k]).1) (es:=(z[k]).2) (hga hn rfl) (hga hn rfl) (by omega) (by rw [List.length_append,List.length_map];omega) hz0.2.2) pt39 ?_
  refine s_nil<|n_blk<|n_seq<|w_reg<|?_
  refine V' (v_add lk33 lki (by omega) (by omega)) pt40 ?_
  refine mv' lk40 pt33<|s_nil<|n_thn<|?_
  rw [hs1 hn,hs2 hn]
  have hL2:a.map ruleLn++zonesL (z.take (k+1))=(a.map ruleLn++zonesL (z.take k))++zoneL (z[k]).1 (z[k]).2:=by rw [zonesL_s hkz,List.append_assoc]
  refine lU' (k+1) (by (try dsimp only);omega) (by (try dsimp only);(try simp only [setsT,setsE,z',s',rn',la',ln',Nat.reduceAdd]);exact bk' 3 hn hlt (by rw [hL2];rfl))
 obtain rfl:k=z.length:=by omega
 rw [List.take_length]
 have hzn:=zonesL_len (z:=z) hm1
 refine w_exit<|x_thn<|x_thn<|x_blk<|n_seq<|w_seq<|wr'<|V' (v_fap0 lk1) pt41<|V' (v_loadp lk41 (hga hn rfl) gt2) pt42<|V' (v_lenL lk42) pt43<|mv' lki pt44<|sn'<|?_
 refine w_block ?_
 refine w_loop (ι:=Nat) (fun (k:Nat)=>[(44,iv (k:Int)),(11,.any)]++rn' 45 11) (fun (k:Nat)=>[(1,shP (N+2) (a.map ruleLn++zonesL z++(l.take k).map linkLn)),(2,shL (a.map ruleLn++zonesL z++(l.take k).map linkLn))]) (fun (k:Nat)=>k≤l.length) (fun (k:Nat)=>l.length-k) (0) (by exact Nat.zero_le _) (by try simp only [setsT,setsE,z',s',rn',la',ln',Nat.reduceAdd];exact ALe.same wA' (by rw [List.take_zero,List.map_nil,List.append_nil])) ?_
 rintro k hi3
 try simp only [setsT,setsE,z',s',rn',la',ln',Nat.reduceAdd]
 refine wr'<|V' (v_lss lk44 lk43) pt45<|sn'<|w_seq<|?_
 refine cd' lk45 (fun hc4=>?_) (fun hc4=>?_)
 ·have hkl:k<l.length:=by omega
  refine w_skip<|n_seq<|w_seq<|w_block<|wr'<|?_
  refine V' (v_iaR (k:=k) lk42 lk44 lnk_len1 (nb' rfl) (by first | rfl | omega) (by omega) (by first | rfl | omega) rfl) pt46 ?_
  refine V' (v_loadrA lk46 ShwE_tk_2 rfl) pt47<|E' (e_new (hl3 hn) ha3) pt11<|E' (e_store lk11 (cvl lk47 rfl) (hga hn rfl) rfl (nb' rfl) rfl ShwE_sc0_2 (hs3 hn)) ptn<|sn'<|w_reg<|mv' lk5 pt48<|V' (v_fap0 lk11) pt49<|V' (v_loadp lk49 (hga hn rfl) gt0) pt50<|V' (v_fap0 lk11) pt51<|V' (v_loadp lk51 (hga hn rfl) gt1) pt52<|E' (e_lit (ShwE_Show_57 (cvl lks rfl) rfl (cvl lk50 rfl) rfl (cvl lk52 rfl) rfl) (hl4 hn) ha4) pt53<|?_
  refine s_callh (mp1 lk48 (mp1 lkb (mp1 lk53 mp0))) (ACalls.iceArg (d:=2) (hga hn rfl) rfl (nb' rfl) rfl rfl (hs4 hn) (shline_a (fs:=linkF l[k]) (L:=a.map ruleLn++zonesL z++(l.take k).map linkLn) (hga hn rfl) (hga hn rfl) (by omega) (by rw [List.length_append,List.length_append,List.length_map,List.length_map,List.length_take];omega))) pt54 ?_
  refine s_nil<|n_blk<|n_seq<|w_reg<|?_
  refine V' (v_add lk44 lki (by omega) (by omega)) pt55 ?_
  refine mv' lk55 pt44<|s_nil<|n_thn<|?_
  rw [hs1 hn,hs2 hn]
  have hL3:a.map ruleLn++zonesL z++(l.take (k+1)).map linkLn=(a.map ruleLn++zonesL z++(l.take k).map linkLn)++[(0,false,linkF l[k])]:=by rw [map_s hkl,←List.append_assoc];rfl
  refine lU' (k+1) (by (try dsimp only);omega) (by (try dsimp only);(try simp only [setsT,setsE,z',s',rn',la',ln',Nat.reduceAdd]);exact bk' 3 hn hlt (by rw [hL3];rfl))
 obtain rfl:k=l.length:=by omega
 rw [List.take_length]
 refine w_exit<|x_thn<|x_thn<|x_blk<|?_
 refine n_seqw (ALe.iceCellR (hga hn rfl) (hga hn rfl) (by omega) gt0 (show List.take _ _=rows lnC (linesV (a,z,l)) from List.take_of_length_le (by rw [ln_len];exact Nat.le_refl _)) (by rw [ln_len];exact Nat.le_refl _) pt0 (hs2 hn) (hs1 hn)) ?_
 refine wr'<|mv' lk5 pt56<|V' (v_nckp lk56) pt57<|V' (v_fap0 lk57) pt58<|V' (v_loadp lk58 (hga hn rfl) gt0) pt59<|s_callp (mp1 lk59 mp0) (lnJoin_a (l:=linesV (a,z,l)) (okLns_small (small_lines hc))) pt60<|V' (v_ext lk60 gt0) pt61<|V' (v_ext lk60 gt1) pt62<|mv' lk61 pt2<|mv' lk62 pt3<|sn'<|w_rets<|?_
 refine w_ret (rsn (rm1 (rr_t gt2) (rm1 (rr_t gt3) rm0)))<|rT'<|?_
 rw [hV]
theorem show_a {s:Src}{h:AH}(hok:okSrc s):ACalls Tryz.prog 8 [.agg (srcC s)] h fun x h'=>h'=h∧x = .ret (.tup [sv (showV s).1,iv (showV s).2]):=show_b hok
theorem same_a {s t:Src}{h:AH}:ACalls Tryz.prog 13 [.agg (srcC s),.agg (srcC t)] h fun x h'=>h'=h∧x = .ret (bv (decide (s=t))):=same_b
end Go.Proofs.YtgjchdhdopgkkaaGreatDoor
end
section
namespace Go.Proofs.YtgjchdhdopgkkaaGreatDoor
open Go.Ab Go.RowKit Civ
attribute [local simp] str_lt
section
theorem ShwR_Digits_31 {τ:Operand→AV}{y0:Operand}{x0_0:AV}(h0:cellsV (τ y0)=some [x0_0]) (l0:[x0_0].all leaf=true):fillAV τ [(0,1,y0)] [(.v (.int .u8 0))]=some [x0_0]:=by
 simp only [fillAV,h0,l0]
 rfl
end
def c30:AC:=(.seq (.reg [Oo 2 (.mv (.const (.string ⟨#[]⟩)))]) (.seq (.seq (.reg [Mv 3 0,Oo 4 (.bin .lss (.tmp 3) (Ci 0)),Mv 5 4,Ot 6 5 (.mv (.tmp 0)),Ot 7 5 (.bin .gtr (.tmp 6) (.const (.int .i64 (-10)))),Oo 8 (.pick (.tmp 5) (.tmp 7) (.const (.bool false)))]) (.cond (.tmp 8) (.seq (.reg [Mv 9 0,Oo 10 (.un .neg (.tmp 9)),Oo 11 (.call (.func 30) [(.tmp 10)]),Oo 12 (.bin .add (.const (.string ⟨#[45]⟩)) (.tmp 11)),Mv 2 12]) .ret) .skip)) (.seq (.seq (.reg [Mv 13 0,Oo 14 (.bin .lss (.tmp 13) (Ci 0))]) (.cond (.tmp 14) (.seq (.reg [Mv 15 0,Oo 16 (.bin .quo (.tmp 15) (Ci 10)),Oo 17 (.un .neg (.tmp 16)),Oo 18 (.call (.func 30) [(.tmp 17)]),Oo 19 (.bin .add (.const (.string ⟨#[45]⟩)) (.tmp 18)),Mv 20 0,Oo 21 (.bin .rem (.tmp 20) (Ci 10)),Oo 22 (.un .neg (.tmp 21)),Oo 23 (.call (.func 30) [(.tmp 22)]),Oo 24 (.bin .add (.tmp 19) (.tmp 23)),Mv 2 24]) .ret) .skip)) (.seq (.seq (.reg [Mv 25 0,Oo 26 (.bin .lss (.tmp 25) (Ci 10))]) (.cond (.tmp 26) (.seq (.reg [Mv 27 0,Oo 28 (.bin .add (Ci 48) (.tmp 27)),Oo 29 (.cvi .u8 (.tmp 28)),Oo 30 (.lit 5 1 1 [(.v (.int .u8 0))] [(0,(1,(.tmp 29)))]),Oo 31 (.b2s (.tmp 30)),Mv 2 31]) .ret) .skip)) (.seq (.reg [Mv 32 0,Oo 33 (.bin .quo (.tmp 32) (Ci 10)),Oo 34 (.call (.func 30) [(.tmp 33)]),Mv 35 0,Oo 36 (.bin .rem (.tmp 35) (Ci 10)),Oo 37 (.call (.func 30) [(.tmp 36)]),Oo 38 (.bin .add (.tmp 34) (.tmp 37)),Mv 2 38]) .ret)))))
theorem k30:compF Tryz.prog 30=some ⟨c30,[(.tmp 2)],39⟩:=by kernel_rfl
def c29:AC:=(.seq (.reg [Oo 4 (.mv (.const (.string ⟨#[]⟩)))]) (.seq (.reg [Mv 6 0,Oo 7 (.call (.func 30) [(.tmp 6)]),Mv 5 7]) (.seq (.block 0 (.loop (.seq (.seq (.reg [Mv 8 5,Oo 9 (.len true (.tmp 8)),Mv 10 1,Oo 11 (.bin .lss (.tmp 9) (.tmp 10))]) (.cond (.tmp 11) .skip (.exit 0))) (.block 1 (.reg [Mv 12 5,Oo 13 (.bin .add (.const (.string ⟨#[48]⟩)) (.tmp 12)),Mv 5 13]))))) (.seq (.reg [Mv 14 5,Mv 4 14]) .ret))))
theorem k29:compF Tryz.prog 29=some ⟨c29,[(.tmp 4)],15⟩:=by kernel_rfl
def c31:AC:=(.seq (.reg [Oo 2 (.mv (.const (.string ⟨#[]⟩)))]) (.seq (.seq (.reg [Mv 4 0,Oo 5 (.bin .lss (.tmp 4) (Ci 0))]) (.cond (.tmp 5) (.seq (.reg [Mv 6 0,Oo 7 (.un .neg (.tmp 6)),Oo 8 (.call (.func 31) [(.tmp 7)]),Oo 9 (.bin .add (.const (.string ⟨#[45]⟩)) (.tmp 8)),Mv 2 9]) .ret) .skip)) (.seq (.reg [Mv 10 0,Oo 11 (.bin .quo (.tmp 10) (Ci 3600)),Oo 12 (.call (.func 30) [(.tmp 11)]),Oo 13 (.bin .add (.tmp 12) (.const (.string ⟨#[58]⟩))),Mv 14 0,Oo 15 (.bin .quo (.tmp 14) (Ci 60)),Oo 16 (.bin .rem (.tmp 15) (Ci 60)),Oo 17 (.call (.func 29) [(.tmp 16),(Ci 2)]),Oo 18 (.bin .add (.tmp 13) (.tmp 17)),Mv 3 18]) (.seq (.seq (.reg [Mv 19 0,Oo 20 (.bin .rem (.tmp 19) (Ci 60)),Oo 21 (.bin .neq (.tmp 20) (Ci 0))]) (.cond (.tmp 21) (.reg [Mv 22 3,Mv 23 0,Oo 24 (.bin .rem (.tmp 23) (Ci 60)),Oo 25 (.call (.func 29) [(.tmp 24),(Ci 2)]),Oo 26 (.bin .add (.const (.string ⟨#[58]⟩)) (.tmp 25)),Oo 27 (.bin .add (.tmp 22) (.tmp 26)),Mv 3 27]) .skip)) (.seq (.reg [Mv 28 3,Mv 2 28]) .ret)))))
theorem k31:compF Tryz.prog 31=some ⟨c31,[(.tmp 2)],29⟩:=by kernel_rfl
theorem sh_cvi8 {h:AH}{T:List AV}{x:Operand}{n:Nat}{k':IntKind}(hx:aEval T x = .v (.int k' ((n:Nat):Int))) (hn:n<256):aval h (aEval T) (.cvi .u8 x)=some (.v (.int .u8 ((UInt8.ofNat n).toNat:Int))):=by
 rw [v_cvi hx]
 have:IntKind.wrap .u8 ((n:Nat):Int)=((UInt8.ofNat n).toNat:Int):=by
  have h1:(UInt8.ofNat n).toNat=n:=by simp;omega
  rw [h1]
  show ((n:Int)%(256:Int))=n
  omega
 rw [this]
theorem decD_len {u:Nat}(h:u≤1000000000):(Lib.decDigits u).length≤20:=by rw [Lib.decDigits_length];exact Lib.nDigits_le20 u (by omega)
theorem itoa_nat (n:Nat):Lib.itoa (n:Int)=Lib.decDigits n:=by
 unfold Lib.itoa;rw [if_neg (by omega),Int.toNat_natCast]
theorem decD_big {n:Nat}(h:¬n<10):Lib.decDigits n=Lib.decDigits (n/10)++Lib.decDigits (n%10):=by
 rw [Lib.decDigits_one (i:=n%10) (by omega),Lib.decDigits,dif_neg h]
theorem rdigits_n (n:Nat) (hn':n≤1000000000) {h:AH}:ACalls Tryz.prog 30 [iv (n:Int)] h fun x h'=>h'=h∧x = .ret (sv (bA (Lib.decDigits n))):=by
 induction n using Nat.strongRecOn generalizing h with
 | _ n ih =>
  refine tI' k30 fun N hn hlt hlA hbd=>?_
  simp only [tA',AV.bdL,AV.bd,and_true,true_and] at hbd ⊢
  refine wr'<|mv' lks pt2<|sn'<|w_seq<|wr'<|mv' lk0 pt3<|V' (v_lss lk3 lki) pt4<|mv' lk4 pt5<|?_
  refine s_known gt5 (b:=false) (by exact decide_eq_false (by omega)) pt5 ?_
  refine s_no gt5 pt6<|s_no gt5 pt7<|V' (v_pickF lk5 lkb) pt8<|sn'<|w_condF lk8<|w_skip<|n_seq<|w_seq<|wr'<|mv' lk0 pt13<|V' (v_lss lk13 lki) pt14<|s_nil<|?_
  refine n_seq ?_
  refine w_condKF lk14 (by exact decide_eq_false (by omega)) ?_
  refine w_skip<|n_seq<|w_seq<|wr'<|mv' lk0 pt25<|V' (v_lss lk25 lki) pt26<|sn'<|?_
  refine cd' lk26 (fun hc3=>?_) (fun hc3=>?_)
  ·have hD:=Lib.decDigits_one (i:=n) (by omega)
   refine wr'<|mv' lk0 pt27<|?_
   refine V' (v_add lki lk27 (by omega) (by omega)) pt28 ?_
   refine V' (sh_cvi8 (n:=48+n) lk28 (by omega)) pt29 ?_
   refine E' (e_lit (ShwR_Digits_31 (cvl lk29 rfl) rfl) (hl0 hn) ha0) pt30<|V' (v_b2sO (M:=[UInt8.ofNat (48+n)]) lk30 (hga hn rfl) rfl) pt31<|mv' lk31 pt2<|sn'<|w_rets<|r_thn<|w_ret (rs1 (rr_t gt2))<|rT'<|?_
   rw [hD];rfl
  have hD:=decD_big (n:=n) (by omega)
  have hL1:=decD_len (u:=n/10) (by omega)
  have hL2:=decD_len (u:=n%10) (by omega)
  refine w_skip<|n_seq<|wr'<|mv' lk0 pt32<|?_
  refine V' (v_quo lk32 lki (by omega) (by omega) (by omega)) pt33 ?_
  rw [show ((n:Int)/10)=((n/10:Nat):Int) from rfl]
  refine s_callp (mp1 lk33 mp0) (ih (n/10) (by omega) (by omega)) pt34 ?_
  refine mv' lk0 pt35 ?_
  refine V' (v_rem lk35 lki (by omega) (by omega)) pt36 ?_
  rw [show ((n:Int)%10)=((n%10:Nat):Int) from rfl]
  refine s_callp (mp1 lk36 mp0) (ih (n%10) (by omega) (by omega)) pt37 ?_
  refine V' (v_addS lk34 lk37 (by rw [bA_size,bA_size];omega)) pt38 ?_
  refine mv' lk38 pt2<|sn'<|w_rets<|w_ret (rs1 (rr_t gt2))<|rT'<|?_
  rw [hD,←bA_app]
theorem rdigits_a {n:Int}{h:AH}(h0:0≤n) (h1:n≤1000000000):ACalls Tryz.prog 30 [iv n] h fun x h'=>h'=h∧x = .ret (sv (bA (Lib.itoa n))):=by
 obtain ⟨m,rfl⟩:=Int.eq_ofNat_of_zero_le h0
 rw [itoa_nat];exact rdigits_n m (by omega)
theorem rpadded_a {n:Int}{k:Nat}{h:AH}(h0:0≤n) (h1:n≤1000000000) (hk:k≤10):ACalls Tryz.prog 29 [iv n,iv (k:Int)] h fun x h'=>h'=h∧x = .ret (sv (bA (padI n k))):=by
 have hL:=itoaL (n:=n) (by omega) h1
 refine tI' k29 fun N hn hlt hlA hbd=>?_
 simp only [tA',AV.bdL,AV.bd,and_true,true_and] at hbd ⊢
 refine wr'<|mv' lks pt4<|sn'<|wr'<|mv' lk0 pt6<|s_callp (mp1 lk6 mp0) (rdigits_a h0 h1) pt7<|mv' lk7 pt5<|sn'<|w_seq<|w_block<|?_
 refine w_lp (ι:=Nat) (fun (j:Nat)=>[(5,sv (bA (List.replicate j 48++Lib.itoa n)))]++rn' 8 6) (fun (j:Nat)=>[]) (fun (j:Nat)=>j≤k-(Lib.itoa n).length) (fun (j:Nat)=>k-(Lib.itoa n).length-j) (0) (by exact Nat.zero_le _) ?_
 rintro j hi1
 try simp only [setsT,setsE,z',s',rn',la',ln',Nat.reduceAdd]
 have hs:(bA (List.replicate j 48++Lib.itoa n)).size=j+(Lib.itoa n).length:=by rw [bA_size,List.length_append,List.length_replicate]
 refine w_seq<|wr'<|mv' lk5 pt8<|V' (v_lenS lk8) pt9<|mv' lk1 pt10<|V' (v_lss lk9 lk10) pt11<|sn'<|?_
 refine cd' lk11 (fun hc1=>?_) (fun hc1=>?_)
 ·rw [hs] at hc1
  refine w_skip<|n_seq<|w_block<|w_reg<|mv' lk5 pt12<|?_
  refine V' (v_addS lks lk12 (by rw [hs,szc];omega)) pt13 ?_
  refine mv' lk13 pt5<|s_nil<|n_blk<|n_thn<|?_
  refine lU' (j+1) (by (try dsimp only);omega) (by (try dsimp only);(try simp only [setsT,setsE,z',s',rn',la',ln',Nat.reduceAdd]);exact ALe.same (by repeat (first | exact wk0 | refine wka ?_ | refine wk1 rfl ?_ | refine wk1 (by first | rfl | exact ivx (by omega) | exact congrArg sv (by rw [List.replicate_succ];exact (bA_app [48] (List.replicate j 48++Lib.itoa n)).symm)) ?_)) rfl)
 rw [hs] at hc1
 obtain rfl:j=k-(Lib.itoa n).length:=by omega
 exact w_exit<|x_thn<|x_thn<|x_blk<|n_seq<|wr'<|mv' lk5 pt14<|mv' lk14 pt4<|sn'<|w_rets<|w_ret (rs1 (rr_t gt4))<|rT' rfl
theorem rspanN_a {m:Int}{h:AH}(h0:0≤m) (h1:m≤1000000000):ACalls Tryz.prog 31 [iv m] h fun x h'=>h'=h∧x = .ret (sv (bA (spnQ m))):=by
 have hL:=itoaL (n:=m/3600) (by omega) (by omega)
 have hL2:=padI_len (n:=m/60%60) (k:=2) (by omega) (by omega)
 have hL3:=padI_len (n:=m%60) (k:=2) (by omega) (by omega)
 refine tI' k31 fun N hn hlt hlA hbd=>?_
 simp only [tA',AV.bdL,AV.bd,and_true,true_and] at hbd ⊢
 refine wr'<|mv' lks pt2<|sn'<|w_seq<|wr'<|mv' lk0 pt4<|V' (v_lss lk4 lki) pt5<|sn'<|?_
 refine w_condKF lk5 (by exact decide_eq_false (by omega)) ?_
 refine w_skip<|n_seq<|wr'<|mv' lk0 pt10<|?_
 refine V' (v_quo lk10 lki (by omega) (by omega) (by omega)) pt11 ?_
 refine s_callp (mp1 lk11 mp0) (rdigits_a (by omega) (by omega)) pt12 ?_
 refine V' (v_addS lk12 lks (by rw [bA_size,szc];omega)) pt13 ?_
 refine mv' lk0 pt14 ?_
 refine V' (v_quo lk14 lki (by omega) (by omega) (by omega)) pt15 ?_
 refine V' (v_rem lk15 lki (by omega) (by omega)) pt16 ?_
 refine s_callp (mp1 lk16 (mp1 lki mp0)) (rpadded_a (k:=2) (by omega) (by omega) (by omega)) pt17 ?_
 refine V' (v_addS lk13 lk17 (by rw [ByteArray.size_append,bA_size,szc,bA_size];omega)) pt18 ?_
 refine mv' lk18 pt3<|sn'<|w_seq<|wr'<|mv' lk0 pt19<|?_
 refine V' (v_rem lk19 lki (by omega) (by omega)) pt20 ?_
 refine V' (v_neq lk20 lki) pt21<|sn'<|?_
 refine cd' lk21 (fun hc2=>?_) (fun hc2=>?_)
 ·refine w_reg<|mv' lk3 pt22<|mv' lk0 pt23<|?_
  refine V' (v_rem lk23 lki (by omega) (by omega)) pt24 ?_
  refine s_callp (mp1 lk24 (mp1 lki mp0)) (rpadded_a (k:=2) (by omega) (by omega) (by omega)) pt25 ?_
  refine V' (v_addS lks lk25 (by rw [bA_size,szc];omega)) pt26 ?_
  refine V' (v_addS lk22 lk26 (by simp only [ByteArray.size_append,bA_size,szc];omega)) pt27 ?_
  refine mv' lk27 pt3<|sn'<|wr'<|mv' lk3 pt28<|mv' lk28 pt2<|sn'<|w_rets<|w_ret (rs1 (rr_t gt2))<|rT'<|?_
  exact congrArg sv (by unfold spnQ;rw [if_pos (by omega)];simp only [←bA_app];rfl)
 refine w_skip<|n_seq<|wr'<|mv' lk3 pt28<|mv' lk28 pt2<|sn'<|w_rets<|w_ret (rs1 (rr_t gt2))<|rT'<|?_
 exact congrArg sv (by unfold spnQ;rw [if_neg (by omega),List.append_nil];simp only [←bA_app];rfl)
theorem rspanM_a {n:Int}{h:AH}(h0 : -1000000000≤n) (h1:n<0):ACalls Tryz.prog 31 [iv n] h fun x h'=>h'=h∧x = .ret (sv (bA ([45]++spnQ (-n)))):=by
 have hL:=spnQ_len (m := -n) (by omega) (by omega)
 refine tI' k31 fun N hn hlt hlA hbd=>?_
 simp only [tA',AV.bdL,AV.bd,and_true,true_and] at hbd ⊢
 refine wr'<|mv' lks pt2<|sn'<|w_seq<|wr'<|mv' lk0 pt4<|V' (v_lss lk4 lki) pt5<|sn'<|?_
 refine w_condK lk5 (by exact decide_eq_true h1) ?_
 refine wr'<|mv' lk0 pt6<|?_
 refine V' (v_neg lk6 (by omega) (by omega)) pt7 ?_
 refine s_callp (mp1 lk7 mp0) (rspanN_a (by omega) (by omega)) pt8 ?_
 refine V' (v_addS lks lk8 (by rw [bA_size,szc];omega)) pt9 ?_
 refine mv' lk9 pt2<|sn'<|w_rets<|r_thn<|w_ret (rs1 (rr_t gt2))<|rT'<|?_
 exact congrArg sv (bA_app [45] _)
theorem rspan_a {n:Int}{h:AH}(h0 : -1000000000≤n) (h1:n≤1000000000):ACalls Tryz.prog 31 [iv n] h fun x h'=>h'=h∧x = .ret (sv (bA (spanT n))):=by
 by_cases hn:n<0
 ·rw [show spanT n=[45]++spnQ (-n) from if_pos hn];exact rspanM_a h0 hn
 rw [show spanT n=spnQ n from if_neg hn];exact rspanN_a (by omega) h1
end Go.Proofs.YtgjchdhdopgkkaaGreatDoor
end
section
namespace Go.Proofs.YtgjchdhdopgkkaaGreatDoor
open Go.Ab Go.RowKit Civ
attribute [local simp] rul_lt era_lt zon_lt lnk_lt str_lt ln_lt shL_lt
section
theorem ShwS_tk_11 {a0 a1 a2 a3 a4 a5 a6 a7 a8 a9 a10:AV}{l:List AV}:(a0::a1::a2::a3::a4::a5::a6::a7::a8::a9::a10::l).take 11=[a0,a1,a2,a3,a4,a5,a6,a7,a8,a9,a10]:=rfl
theorem ShwS_sc0_11 {a0 a1 a2 a3 a4 a5 a6 a7 a8 a9 a10 c0 c1 c2 c3 c4 c5 c6 c7 c8 c9 c10:AV}{l:List AV}:setCells (a0::a1::a2::a3::a4::a5::a6::a7::a8::a9::a10::l) 0 [c0,c1,c2,c3,c4,c5,c6,c7,c8,c9,c10]=c0::c1::c2::c3::c4::c5::c6::c7::c8::c9::c10::l:=rfl
theorem ShwS_LinesOf_116 {τ:Operand→AV}{y0 y1 y2 y3 y4 y5 y6 y7 y8:Operand}{x0_0 x1_0 x2_0 x3_0 x4_0 x5_0 x6_0 x7_0 x8_0:AV}(h0:cellsV (τ y0)=some [x0_0]) (l0:[x0_0].all leaf=true) (h1:cellsV (τ y1)=some [x1_0]) (l1:[x1_0].all leaf=true) (h2:cellsV (τ y2)=some [x2_0]) (l2:[x2_0].all leaf=true) (h3:cellsV (τ y3)=some [x3_0]) (l3:[x3_0].all leaf=true) (h4:cellsV (τ y4)=some [x4_0]) (l4:[x4_0].all leaf=true) (h5:cellsV (τ y5)=some [x5_0]) (l5:[x5_0].all leaf=true) (h6:cellsV (τ y6)=some [x6_0]) (l6:[x6_0].all leaf=true) (h7:cellsV (τ y7)=some [x7_0]) (l7:[x7_0].all leaf=true) (h8:cellsV (τ y8)=some [x8_0]) (l8:[x8_0].all leaf=true):fillAV τ [(0,1,y0),(1,1,y1),(2,1,y2),(3,1,y3),(4,1,y4),(5,1,y5),(6,1,y6),(7,1,y7),(8,1,y8)] [(.v (.string ⟨#[]⟩)),(.v (.string ⟨#[]⟩)),(.v (.string ⟨#[]⟩)),(.v (.string ⟨#[]⟩)),(.v (.string ⟨#[]⟩)),(.v (.string ⟨#[]⟩)),(.v (.string ⟨#[]⟩)),(.v (.string ⟨#[]⟩)),(.v (.string ⟨#[]⟩))]=some [x0_0,x1_0,x2_0,x3_0,x4_0,x5_0,x6_0,x7_0,x8_0]:=by
 simp only [fillAV,h0,l0,h1,l1,h2,l2,h3,l3,h4,l4,h5,l5,h6,l6,h7,l7,h8,l8]
 rfl
theorem ShwS_lap0 { e:Ent}:([]:AH)++[e]=[e]:=rfl
theorem ShwS_LinesOf_117 {τ:Operand→AV}{y0:Operand}{x0_0:AV}(h0:cellsV (τ y0)=some [x0_0]) (l0:[x0_0].all leaf=true):fillAV τ [(2,1,y0)] [(.v (.int .i64 0)),(.v (.bool false)),(.sl 0 0 true [])]=some [(.v (.int .i64 0)),(.v (.bool false)),x0_0]:=by
 simp only [fillAV,h0,l0]
 rfl
theorem ShwS_LinesOf_118 {τ:Operand→AV}{y0:Operand}{x0_0 x0_1 x0_2:AV}(h0:cellsV (τ y0)=some [x0_0,x0_1,x0_2]) (l0:[x0_0,x0_1,x0_2].all leaf=true):fillAV τ [(0,3,y0)] [(.v (.int .i64 0)),(.v (.bool false)),(.sl 0 0 true [])]=some [x0_0,x0_1,x0_2]:=by
 simp only [fillAV,h0,l0]
 rfl
theorem ShwS_lap1 {e0 e:Ent}:([e0]:AH)++[e]=[e0,e]:=rfl
theorem ShwS_lj3_2 {e0 e1 e2 d0 d1:Ent}:([e0,e1,e2]:AH)++[d0,d1]=[e0,e1,e2,d0,d1]:=rfl
theorem ShwS_tk_3 {a0 a1 a2:AV}{l:List AV}:(a0::a1::a2::l).take 3=[a0,a1,a2]:=rfl
theorem ShwS_tk_10 {a0 a1 a2 a3 a4 a5 a6 a7 a8 a9:AV}{l:List AV}:(a0::a1::a2::a3::a4::a5::a6::a7::a8::a9::l).take 10=[a0,a1,a2,a3,a4,a5,a6,a7,a8,a9]:=rfl
theorem ShwS_sc0_10 {a0 a1 a2 a3 a4 a5 a6 a7 a8 a9 c0 c1 c2 c3 c4 c5 c6 c7 c8 c9:AV}{l:List AV}:setCells (a0::a1::a2::a3::a4::a5::a6::a7::a8::a9::l) 0 [c0,c1,c2,c3,c4,c5,c6,c7,c8,c9]=c0::c1::c2::c3::c4::c5::c6::c7::c8::c9::l:=rfl
theorem ShwS_LinesOf_160 {τ:Operand→AV}{y0 y1:Operand}{x0_0 x1_0:AV}(h0:cellsV (τ y0)=some [x0_0]) (l0:[x0_0].all leaf=true) (h1:cellsV (τ y1)=some [x1_0]) (l1:[x1_0].all leaf=true):fillAV τ [(0,1,y0),(1,1,y1)] [(.v (.string ⟨#[]⟩)),(.v (.string ⟨#[]⟩))]=some [x0_0,x1_0]:=by
 simp only [fillAV,h0,l0,h1,l1]
 rfl
theorem ShwS_LinesOf_182 {τ:Operand→AV}{y0 y1 y2:Operand}{x0_0 x1_0 x2_0:AV}(h0:cellsV (τ y0)=some [x0_0]) (l0:[x0_0].all leaf=true) (h1:cellsV (τ y1)=some [x1_0]) (l1:[x1_0].all leaf=true) (h2:cellsV (τ y2)=some [x2_0]) (l2:[x2_0].all leaf=true):fillAV τ [(0,1,y0),(1,1,y1),(2,1,y2)] [(.v (.string ⟨#[]⟩)),(.v (.string ⟨#[]⟩)),(.v (.string ⟨#[]⟩))]=some [x0_0,x1_0,x2_0]:=by
 simp only [fillAV,h0,l0,h1,l1,h2,l2]
 rfl
theorem ShwS_lj4_1 {e0 e1 e2 e3 d0:Ent}:([e0,e1,e2,e3]:AH)++[d0]=[e0,e1,e2,e3,d0]:=rfl
theorem ShwS_tk5_3 {a0 a1 a2 a3 a4 a5 a6 a7:AV}{l:List AV}:((a0::a1::a2::a3::a4::a5::a6::a7::l).drop 5).take 3=[a5,a6,a7]:=rfl
theorem ShwS_sc0_3 {a0 a1 a2 c0 c1 c2:AV}{l:List AV}:setCells (a0::a1::a2::l) 0 [c0,c1,c2]=c0::c1::c2::l:=rfl
theorem ShwS_LinesOf_222 {τ:Operand→AV}{y0 y1 y2 y3:Operand}{x0_0 x1_0 x2_0 x3_0:AV}(h0:cellsV (τ y0)=some [x0_0]) (l0:[x0_0].all leaf=true) (h1:cellsV (τ y1)=some [x1_0]) (l1:[x1_0].all leaf=true) (h2:cellsV (τ y2)=some [x2_0]) (l2:[x2_0].all leaf=true) (h3:cellsV (τ y3)=some [x3_0]) (l3:[x3_0].all leaf=true):fillAV τ [(0,1,y0),(1,1,y1),(2,1,y2),(3,1,y3)] [(.v (.string ⟨#[]⟩)),(.v (.string ⟨#[]⟩)),(.v (.string ⟨#[]⟩)),(.v (.string ⟨#[]⟩))]=some [x0_0,x1_0,x2_0,x3_0]:=by
 simp only [fillAV,h0,l0,h1,l1,h2,l2,h3,l3]
 rfl
theorem ShwS_lj6_1 {e0 e1 e2 e3 e4 e5 d0:Ent}:([e0,e1,e2,e3,e4,e5]:AH)++[d0]=[e0,e1,e2,e3,e4,e5,d0]:=rfl
theorem ShwS_tk_4 {a0 a1 a2 a3:AV}{l:List AV}:(a0::a1::a2::a3::l).take 4=[a0,a1,a2,a3]:=rfl
theorem ShwS_LinesOf_229 {τ:Operand→AV}{y0 y1:Operand}{x0_0 x1_0:AV}(h0:cellsV (τ y0)=some [x0_0]) (l0:[x0_0].all leaf=true) (h1:cellsV (τ y1)=some [x1_0]) (l1:[x1_0].all leaf=true):fillAV τ [(1,1,y0),(2,1,y1)] [(.v (.int .i64 0)),(.v (.bool false)),(.sl 0 0 true [])]=some [(.v (.int .i64 0)),x0_0,x1_0]:=by
 simp only [fillAV,h0,l0,h1,l1]
 rfl
theorem ShwS_LinesOf_230 {τ:Operand→AV}{y0:Operand}{x0_0 x0_1 x0_2:AV}(h0:cellsV (τ y0)=some [x0_0,x0_1,x0_2]) (l0:[x0_0,x0_1,x0_2].all leaf=true):fillAV τ [(0,3,y0)] [(.v (.int .i64 0)),(.v (.bool false)),(.sl 0 0 true [])]=some [x0_0,x0_1,x0_2]:=by
 simp only [fillAV,h0,l0]
 rfl
theorem ShwS_LinesOf_258 {τ:Operand→AV}{y0 y1 y2:Operand}{x0_0 x1_0 x2_0:AV}(h0:cellsV (τ y0)=some [x0_0]) (l0:[x0_0].all leaf=true) (h1:cellsV (τ y1)=some [x1_0]) (l1:[x1_0].all leaf=true) (h2:cellsV (τ y2)=some [x2_0]) (l2:[x2_0].all leaf=true):fillAV τ [(0,1,y0),(1,1,y1),(2,1,y2)] [(.v (.string ⟨#[]⟩)),(.v (.string ⟨#[]⟩)),(.v (.string ⟨#[]⟩))]=some [x0_0,x1_0,x2_0]:=by
 simp only [fillAV,h0,l0,h1,l1,h2,l2]
 rfl
theorem ShwS_LinesOf_259 {τ:Operand→AV}{y0:Operand}{x0_0:AV}(h0:cellsV (τ y0)=some [x0_0]) (l0:[x0_0].all leaf=true):fillAV τ [(2,1,y0)] [(.v (.int .i64 0)),(.v (.bool false)),(.sl 0 0 true [])]=some [(.v (.int .i64 0)),(.v (.bool false)),x0_0]:=by
 simp only [fillAV,h0,l0]
 rfl
theorem ShwS_LinesOf_260 {τ:Operand→AV}{y0:Operand}{x0_0 x0_1 x0_2:AV}(h0:cellsV (τ y0)=some [x0_0,x0_1,x0_2]) (l0:[x0_0,x0_1,x0_2].all leaf=true):fillAV τ [(0,3,y0)] [(.v (.int .i64 0)),(.v (.bool false)),(.sl 0 0 true [])]=some [x0_0,x0_1,x0_2]:=by
 simp only [fillAV,h0,l0]
 rfl
theorem ShwS_lj2_2 {e0 e1 d0 d1:Ent}:([e0,e1]:AH)++[d0,d1]=[e0,e1,d0,d1]:=rfl
end
def c11:AC:=(.seq (.reg [Oo 1 (.box 26 3 (.tmp 0)),Oo 2 (.mv (.const (.slice none 0 0)))]) (.seq (.reg [Oo 3 (.mv (.const (.string ⟨#[74,97,110,70,101,98,77,97,114,65,112,114,77,97,121,74,117,110,74,117,108,65,117,103,83,101,112,79,99,116,78,111,118,68,101,99]⟩))),Oo 4 (.mv (.const (.string ⟨#[83,117,110,77,111,110,84,117,101,87,101,100,84,104,117,70,114,105,83,97,116]⟩)))]) (.seq (.reg [Oo 5 (.mv (.const (.slice none 0 0)))]) (.seq (.seq (.reg [Oo 6 (.mv (Ci 0))]) (.block 0 (.loop (.seq (.seq (.reg [Mv 21 6,Fa 22 0 1,Ld 23 22,Oo 24 (.len false (.tmp 23)),Oo 25 (.bin .lss (.tmp 21) (.tmp 24))]) (.cond (.tmp 25) .skip (.exit 0))) (.seq (.block 1 (.seq (.reg [Fa 28 0 1,Ld 29 28,Mv 30 6,Oo 31 (.ia 11 (.tmp 29) (.tmp 30)),Oo 32 (.load true 11 (.tmp 31)),Oo 7 (.new 48 11 [Ss,(iv 0),(iv 0),(iv 0),(iv 0),(iv 0),(iv 0),(iv 0),(iv 0),(iv 0),Ss]),⟨none,none,(.store 11 (.tmp 7) (.tmp 32))⟩]) (.seq (.reg [Fa 33 2 7,Ld 34 33,Oo 35 (.call (.func 29) [(.tmp 34),(Ci 4)]),Mv 8 35]) (.seq (.seq (.reg [Fa 36 2 7,Ld 37 36,Oo 38 (.bin .eql (.tmp 37) (Ci 2100))]) (.cond (.tmp 38) (.reg [Oo 8 (.mv (.const (.string ⟨#[109,97,120]⟩)))]) .skip)) (.seq (.seq (.reg [Fa 39 2 7,Ld 40 39,Fa 41 1 7,Ld 42 41,Oo 43 (.bin .eql (.tmp 40) (.tmp 42))]) (.cond (.tmp 43) (.reg [Oo 8 (.mv (.const (.string ⟨#[111,110,108,121]⟩)))]) .skip)) (.seq (.reg [Mv 44 4,Fa 45 4 7,Fa 46 1 45,Ld 47 46,Oo 48 (.bin .mul (Ci 3) (.tmp 47)),Fa 49 4 7,Fa 50 1 49,Ld 51 50,Oo 52 (.bin .mul (Ci 3) (.tmp 51)),Oo 53 (.bin .add (.tmp 52) (Ci 3)),Oo 54 (.sls (.tmp 44) (some (.tmp 48)) (some (.tmp 53))),Mv 9 54]) (.seq (.reg [Fa 55 4 7,Fa 56 2 55,Ld 57 56,Oo 58 (.call (.func 30) [(.tmp 57)]),Mv 10 58]) (.seq (.seq (.reg [Fa 59 4 7,Fa 60 0 59,Ld 61 60]) (.block 2 (.seq (.reg [Oo 63 (.bin .eql (.tmp 61) (Ci 2)),Mv 62 63]) (.cond (.tmp 62) (.reg [Mv 64 9,Oo 65 (.bin .add (.const (.string ⟨#[108,97,115,116]⟩)) (.tmp 64)),Mv 10 65]) (.seq (.reg [Oo 67 (.bin .eql (.tmp 61) (Ci 3)),Mv 66 67]) (.cond (.tmp 66) (.reg [Mv 68 9,Oo 69 (.bin .add (.tmp 68) (.const (.string ⟨#[62,61]⟩))),Mv 70 10,Oo 71 (.bin .add (.tmp 69) (.tmp 70)),Mv 10 71]) (.seq (.reg [Oo 73 (.bin .eql (.tmp 61) (Ci 4)),Mv 72 73]) (.cond (.tmp 72) (.reg [Mv 74 9,Oo 75 (.bin .add (.tmp 74) (.const (.string ⟨#[60,61]⟩))),Mv 76 10,Oo 77 (.bin .add (.tmp 75) (.tmp 76)),Mv 10 77]) .skip)))))))) (.seq (.reg [Fa 78 7 7,Ld 79 78,Oo 80 (.call (.func 31) [(.tmp 79)]),Mv 11 80]) (.seq (.seq (.reg [Fa 81 8 7,Ld 82 81,Oo 83 (.bin .gtr (.tmp 82) (Ci 1))]) (.cond (.tmp 83) (.reg [Mv 84 11,Fa 85 8 7,Ld 86 85,Fa 87 8 7,Ld 88 87,Oo 89 (.bin .add (.tmp 88) (Ci 1)),Oo 90 (.sls (.const (.string ⟨#[63,119,115,117]⟩)) (some (.tmp 86)) (some (.tmp 89))),Oo 91 (.bin .add (.tmp 84) (.tmp 90)),Mv 11 91]) .skip)) (.seq (.reg [Fa 92 10 7,Ld 93 92,Mv 12 93]) (.seq (.seq (.reg [Mv 94 12,Oo 95 (.bin .eql (.tmp 94) (.const (.string ⟨#[]⟩)))]) (.cond (.tmp 95) (.reg [Oo 12 (.mv (.const (.string ⟨#[45]⟩)))]) .skip)) (.drw [Mv 96 5,Fa 97 0 7,Ld 98 97,Fa 99 1 7,Ld 100 99,Oo 101 (.call (.func 29) [(.tmp 100),(Ci 4)]),Mv 102 8,Mv 103 3,Fa 104 3 7,Ld 105 104,Oo 106 (.bin .mul (Ci 3) (.tmp 105)),Oo 107 (.bin .sub (.tmp 106) (Ci 3)),Fa 108 3 7,Ld 109 108,Oo 110 (.bin .mul (Ci 3) (.tmp 109)),Oo 111 (.sls (.tmp 103) (some (.tmp 107)) (some (.tmp 110))),Mv 112 10,Mv 113 11,Fa 114 9 7,Ld 115 114,Oo 116 (.call (.func 31) [(.tmp 115)]),Mv 117 12,Oo 118 (.lit 9 1 9 [Ss,Ss,Ss,Ss,Ss,Ss,Ss,Ss,Ss] [(0,(1,(.const (.string ⟨#[82,117,108,101]⟩)))),(1,(1,(.tmp 98))),(2,(1,(.tmp 101))),(3,(1,(.tmp 102))),(4,(1,(.tmp 111))),(5,(1,(.tmp 112))),(6,(1,(.tmp 113))),(7,(1,(.tmp 116))),(8,(1,(.tmp 117)))]),Oo 119 (.build [(iv 0),(.v (.bool false)),(.sl 0 0 true [])] [(2,(1,(.tmp 118)))]),Oo 120 (.lit 67 3 1 [(iv 0),(.v (.bool false)),(.sl 0 0 true [])] [(0,(3,(.tmp 119)))])] [false,false] [Oo 121 (.app 67 3 40 (.tmp 96) (.tmp 120)),Mv 5 121]))))))))))))) (.reg [Mv 26 6,Oo 27 (.bin .add (.tmp 26) (Ci 1)),Mv 6 27])))))) (.seq (.seq (.reg [Oo 13 (.mv (Ci 0))]) (.block 3 (.loop (.seq (.seq (.reg [Mv 122 13,Fa 123 1 1,Ld 124 123,Oo 125 (.len false (.tmp 124)),Oo 126 (.bin .lss (.tmp 122) (.tmp 125))]) (.cond (.tmp 126) .skip (.exit 3))) (.seq (.block 4 (.seq (.reg [Oo 14 (.mv (Ci 0))]) (.block 5 (.loop (.seq (.seq (.reg [Mv 129 14,Fa 130 1 1,Ld 131 130,Mv 132 13,Oo 133 (.ia 2 (.tmp 131) (.tmp 132)),Fa 134 1 133,Ld 135 134,Oo 136 (.len false (.tmp 135)),Oo 137 (.bin .lss (.tmp 129) (.tmp 136))]) (.cond (.tmp 137) .skip (.exit 5))) (.seq (.block 6 (.seq (.reg [Fa 140 1 1,Ld 141 140,Mv 142 13,Oo 143 (.ia 2 (.tmp 141) (.tmp 142)),Fa 144 1 143,Ld 145 144,Mv 146 14,Oo 147 (.ia 10 (.tmp 145) (.tmp 146)),Oo 148 (.load true 10 (.tmp 147)),Oo 15 (.new 64 10 [(iv 0),Ss,(iv 0),Ss,(.v (.bool false)),(iv 0),(iv 0),(iv 0),(iv 0),(iv 0)]),⟨none,none,(.store 10 (.tmp 15) (.tmp 148))⟩]) (.seq (.reg [Oo 16 (.mv (.const (.slice none 0 0)))]) (.seq (.seq (.reg [Mv 149 14,Oo 150 (.bin .eql (.tmp 149) (Ci 0))]) (.cond (.tmp 150) (.reg [Fa 151 1 1,Ld 152 151,Mv 153 13,Oo 154 (.ia 2 (.tmp 152) (.tmp 153)),Fa 155 0 154,Ld 156 155,Oo 157 (.lit 9 1 2 [Ss,Ss] [(0,(1,(.const (.string ⟨#[90,111,110,101]⟩)))),(1,(1,(.tmp 156)))]),Mv 16 157]) .skip)) (.seq (.reg [Fa 158 1 15,Ld 159 158,Mv 17 159]) (.seq (.seq (.reg [Mv 160 17,Oo 161 (.bin .eql (.tmp 160) (.const (.string ⟨#[]⟩)))]) (.cond (.tmp 161) (.reg [Oo 17 (.mv (.const (.string ⟨#[45]⟩)))]) .skip)) (.seq (.seq (.reg [Fa 162 2 15,Ld 163 162,Oo 164 (.bin .gtr (.tmp 163) (Ci 0))]) (.cond (.tmp 164) (.reg [Fa 165 2 15,Ld 166 165,Oo 167 (.call (.func 31) [(.tmp 166)]),Mv 17 167]) .skip)) (.seq (.drw [Mv 168 16,Fa 169 0 15,Ld 170 169,Oo 171 (.call (.func 31) [(.tmp 170)]),Mv 172 17,Fa 173 3 15,Ld 174 173,Oo 175 (.lit 9 1 3 [Ss,Ss,Ss] [(0,(1,(.tmp 171))),(1,(1,(.tmp 172))),(2,(1,(.tmp 174)))])] [false,false] [Oo 176 (.app 9 1 16 (.tmp 168) (.tmp 175)),Mv 16 176]) (.seq (.seq (.reg [Fa 177 4 15,Ld 178 177,Oo 179 (.un .not (.tmp 178))]) (.cond (.tmp 179) (.seq (.reg [Fa 180 5 15,Fa 181 3 180,Ld 182 181,Oo 183 (.call (.func 31) [(.tmp 182)]),Mv 18 183]) (.seq (.seq (.reg [Fa 184 5 15,Fa 185 4 184,Ld 186 185,Oo 187 (.bin .eql (.tmp 186) (Ci 3))]) (.cond (.tmp 187) (.reg [Mv 188 18,Oo 189 (.bin .add (.tmp 188) (.const (.string ⟨#[117]⟩))),Mv 18 189]) .skip)) (.seq (.reg [Fa 190 5 15,Fa 191 0 190,Oo 192 (.load true 3 (.tmp 191)),Oo 19 (.new 60 3 [(iv 0),(iv 0),(iv 0)]),⟨none,none,(.store 3 (.tmp 19) (.tmp 192))⟩]) (.drw [Mv 193 16,Fa 194 0 19,Ld 195 194,Oo 196 (.call (.func 29) [(.tmp 195),(Ci 4)]),Mv 197 3,Fa 198 1 19,Ld 199 198,Oo 200 (.bin .mul (Ci 3) (.tmp 199)),Oo 201 (.bin .sub (.tmp 200) (Ci 3)),Fa 202 1 19,Ld 203 202,Oo 204 (.bin .mul (Ci 3) (.tmp 203)),Oo 205 (.sls (.tmp 197) (some (.tmp 201)) (some (.tmp 204))),Fa 206 2 19,Ld 207 206,Oo 208 (.call (.func 30) [(.tmp 207)]),Mv 209 18,Oo 210 (.lit 9 1 4 [Ss,Ss,Ss,Ss] [(0,(1,(.tmp 196))),(1,(1,(.tmp 205))),(2,(1,(.tmp 208))),(3,(1,(.tmp 209)))])] [false,false] [Oo 211 (.app 9 1 16 (.tmp 193) (.tmp 210)),Mv 16 211])))) .skip)) (.reg [Mv 212 5,Mv 213 14,Oo 214 (.bin .gtr (.tmp 213) (Ci 0)),Mv 215 16,Oo 216 (.build [(iv 0),(.v (.bool false)),(.sl 0 0 true [])] [(1,(1,(.tmp 214))),(2,(1,(.tmp 215)))]),Oo 217 (.lit 67 3 1 [(iv 0),(.v (.bool false)),(.sl 0 0 true [])] [(0,(3,(.tmp 216)))]),Oo 218 (.app 67 3 40 (.tmp 212) (.tmp 217)),Mv 5 218])))))))))) (.reg [Mv 138 14,Oo 139 (.bin .add (.tmp 138) (Ci 1)),Mv 14 139]))))))) (.reg [Mv 127 13,Oo 128 (.bin .add (.tmp 127) (Ci 1)),Mv 13 128])))))) (.seq (.seq (.reg [Oo 20 (.mv (Ci 0))]) (.block 7 (.loop (.seq (.seq (.reg [Mv 219 20,Fa 220 2 1,Ld 221 220,Oo 222 (.len false (.tmp 221)),Oo 223 (.bin .lss (.tmp 219) (.tmp 222))]) (.cond (.tmp 223) .skip (.exit 7))) (.seq (.block 8 (.drw [Mv 226 5,Fa 227 2 1,Ld 228 227,Mv 229 20,Oo 230 (.ia 2 (.tmp 228) (.tmp 229)),Fa 231 0 230,Ld 232 231,Fa 233 2 1,Ld 234 233,Mv 235 20,Oo 236 (.ia 2 (.tmp 234) (.tmp 235)),Fa 237 1 236,Ld 238 237,Oo 239 (.lit 9 1 3 [Ss,Ss,Ss] [(0,(1,(.const (.string ⟨#[76,105,110,107]⟩)))),(1,(1,(.tmp 232))),(2,(1,(.tmp 238)))]),Oo 240 (.build [(iv 0),(.v (.bool false)),(.sl 0 0 true [])] [(2,(1,(.tmp 239)))]),Oo 241 (.lit 67 3 1 [(iv 0),(.v (.bool false)),(.sl 0 0 true [])] [(0,(3,(.tmp 240)))])] [false,false] [Oo 242 (.app 67 3 40 (.tmp 226) (.tmp 241)),Mv 5 242])) (.reg [Mv 224 20,Oo 225 (.bin .add (.tmp 224) (Ci 1)),Mv 20 225])))))) (.seq (.reg [Mv 243 5,Mv 2 243]) .ret)))))))
theorem k11:compF Tryz.prog 11=some ⟨c11,[(.tmp 2)],244⟩:=by kernel_rfl
theorem own_x {i a b c d:Nat}(h1:a=c) (h2:b=d):AV.own i a b=AV.own i c d:=by rw [h1,h2]
theorem shL_s {L:List Ln}{x:Ln}:shL (L++[x]) = .mk (L.length+1) 67 3 (rows lnC L++lnC x):=by
 unfold shL;rw [rows_app,rows_one,List.length_append];rfl
theorem mon_ex {m:Int}(h:1≤m∧m≤12):monA.extract (3*m-3).toNat (3*m).toNat=monS m:=by
 have hk:(m-1).toNat<monL.length:=by have:monL.length=12:=rfl;omega
 have h1:=mon_at (m-1).toNat hk
 rw [show (3*m-3).toNat=3*(m-1).toNat by omega,show (3*m).toNat=3*(m-1).toNat+3 by omega,h1]
 unfold monS
 rw [show m.toNat=(m-1).toNat+1 by omega,List.getD_cons_succ,List.getD_eq_getElem?_getD,List.getElem?_eq_getElem hk];rfl
theorem day_at' : ∀ k (hk:k<dayL.length),dayA.extract (3*k) (3*k+3)=dayL[k]:=by decide
theorem day_ex {w:Int}(h:0≤w∧w≤6):dayA.extract (3*w).toNat (3*w+3).toNat=dayS w:=by
 have hk:w.toNat<dayL.length:=by have:dayL.length=7:=rfl;omega
 have h1:=day_at' w.toNat hk
 rw [show (3*w).toNat=3*w.toNat by omega,show (3*w+3).toNat=3*w.toNat+3 by omega,h1]
 unfold dayS
 rw [List.getD_eq_getElem?_getD,List.getElem?_eq_getElem hk];rfl
def wsuB:ByteArray:=bA [63,119,115,117]
theorem wsu_ex {c:Int}(h:2≤c∧c≤3):wsuB.extract c.toNat (c+1).toNat=clkS.getD c.toNat ⟨#[]⟩:=by
 have:c=2∨c=3:=by omega
 rcases this with rfl | rfl <;> decide
def hdZ (nm:ByteArray) (j:Nat):List ByteArray:=if j=0 then [⟨#[90,111,110,101]⟩,nm] else []
theorem zone_n {nm:ByteArray}{es:List Era}{j:Nat}(h:j<es.length):zoneL nm (es.take (j+1))=zoneL nm (es.take j)++[((0:Int),decide ((j:Int)>0),hdZ nm j++eraG es[j])]:=by
 by_cases h0:j=0
 ·subst h0;exact zone_0 h
 rw [zone_s h (by omega),show hdZ nm j=[] from if_neg h0];rfl
theorem era_okC : ∀ {l:List Era},erasE l=0 → ∀ x∈l,x.2.2.2.2.1=false→2≤x.2.2.2.2.2.2.2
 | [],h,x,hx=>by cases hx
 | y::l,h,x,hx=>by
  rw [erasE] at h
  split at h
  ·rename_i h1;exact absurd h h1
  rename_i h1
  rcases List.mem_cons.1 hx with rfl | hx
  ·intro ho
   have h2:=((era_ok (Decidable.of_not_not h1)).2.2.2.2.2.2.1 ho).1
   unfold clkB at h2
   simp only [wi,Bool.and_eq_true,Bool.or_eq_true,decide_eq_true_eq] at h2
   rcases h2.2 with h3 | h3
   ·cases h3
   omega
  exact era_okC h x hx
theorem zone_okE {z:Zon}(h:zoneE z=0):erasE z.2=0:=by
 unfold zoneE at h
 split at h
 ·exact absurd h (by decide)
 exact h
set_option maxHeartbeats 2000000 in
theorem rlinesOf_b {a:List Rul}{z:List Zon}{l:List Lnk}{h:AH}(hc:checkE (a,z,l)=0):ACalls Tryz.prog 11 [.agg [.sl a.length 11 false (rows rulC a),.sl z.length 2 false (rows zonC z),.sl l.length 2 false (rows lnkC l)]] h fun x h'=>h'=h∧x = .ret (.sl (linesV (a,z,l)).length 3 false (rows lnC (linesV (a,z,l)))):=by
 obtain ⟨hp0,hp1,hp2,hp3⟩:=check_parts hc
 obtain ⟨hm1,hm2,hm3,hm4⟩:=many_ok hp0
 dsimp only at hm1 hm2 hm3 hm4
 have hd36:monA.size=36:=rfl
 have hd21:dayA.size=21:=rfl
 have hd4:wsuB.size=4:=rfl
 refine tW' k11 fun N hn hlt hlA hbd=>?_
 simp only [tA',AV.bdL,AV.bd,and_true,true_and] at hbd ⊢
 refine wr'<|E' (e_box (cvl lk0 rfl) rfl (hl0 hn) ha0) pt1<|mv' lkn pt2<|sn'<|wr'<|mv' (show aEval _ _=sv monA from rfl) pt3<|mv' (show aEval _ _=sv dayA from rfl) pt4<|sn'<|wr'<|?_
 refine mv' lkn pt5<|s_nil<|n_seqw (ALe.own0' (st':=3) (ty:=67) gt5 (hl1 hn) pt5 ha1)<|w_seq<|wr'<|mv' lki pt6<|sn'<|w_block<|?_
 refine w_lp (ι:=Nat) (fun (k:Nat)=>[(5,.own (N+1) ((a.take k).map ruleLn).length ((a.take k).map ruleLn).length),(6,iv (k:Int))]++rn' 7 6++rn' 21 101) (fun (k:Nat)=>[(1,shL ((a.take k).map ruleLn))]) (fun (k:Nat)=>k≤a.length) (fun (k:Nat)=>a.length-k) (0) (by exact Nat.zero_le _) ?_
 rintro k hi1
 try simp only [setsT,setsE,z',s',rn',la',ln',Nat.reduceAdd]
 refine w_seq<|wr'<|mv' lk6 pt21<|V' (v_fap0 lk1) pt22<|V' (v_loadp lk22 (hga hn rfl) gt0) pt23<|V' (v_lenL lk23) pt24<|V' (v_lss lk21 lk24) pt25<|sn'<|?_
 refine cd' lk25 (fun hc1=>?_) (fun hc1=>?_)
 ·have hka:k<a.length:=by omega
  obtain ⟨b1,b2,b3,b4,b5,b6,b7,b8,_⟩:=rule_ok (firstX_mem hp1 _ (List.getElem_mem hka))
  have hL1:=map_s (f:=ruleLn) hka
  have hLn:((a.take (k+1)).map ruleLn).length=((a.take k).map ruleLn).length+1:=by rw [hL1];simp
  have hLb:((a.take k).map ruleLn).length≤40:=by rw [List.length_map,List.length_take];omega
  have hds:=day_size (k:=(a[k]).2.2.2.2.1.2.1)
  have hia:=itoaL (n:=(a[k]).2.2.2.2.1.2.2) (by omega) (by omega)
  have hsl:=spanT_len (n:=(a[k]).2.2.2.2.2.1) (by omega) (by omega)
  refine w_skip<|n_seq<|w_seq<|w_block<|wr'<|V' (v_fap0 lk1) pt28<|V' (v_loadp lk28 (hga hn rfl) gt0) pt29<|mv' lk6 pt30<|?_
  refine V' (v_iaR (k:=k) lk29 lk30 rul_len1 (nb' rfl) (by first | rfl | omega) (by omega) (by first | rfl | omega) rfl) pt31 ?_
  refine V' (v_loadrA lk31 ShwS_tk_11 rfl) pt32<|E' (e_new (hl2 hn) ha2) pt7<|E' (e_store lk7 (cvl lk32 rfl) (hga hn rfl) rfl (nb' rfl) rfl ShwS_sc0_11 (hs2 hn)) ptn<|sn'<|wr'<|V' (v_fap0 lk7) pt33<|V' (v_loadp lk33 (hga hn rfl) gt2) pt34<|?_
  refine s_callp (mp1 lk34 (mp1 lki mp0)) (rpadded_a (k:=4) (by omega) (by omega) (by omega)) pt35 ?_
  refine mv' lk35 pt8<|sn'<|?_
  refine w_seqC (ι:=Unit) (fun (u_:Unit)=>[(8,sv (if (a[k]).2.2.1=2100 then ⟨#[109,97,120]⟩ else bA (padI (a[k]).2.2.1 4)))]++rn' 36 3) (fun (u_:Unit)=>[]) (fun (u_:Unit)=>True) ?_ ?_
  ·try simp only [setsT,setsE,z',s',rn',la',ln',Nat.reduceAdd]
   refine wr'<|V' (v_fap0 lk7) pt36<|V' (v_loadp lk36 (hga hn rfl) gt2) pt37<|V' (v_eql lk37 lki) pt38<|sn'<|?_
   refine cd' lk38 (fun hc2=>?_) (fun hc2=>?_)
   ·refine w_reg<|mv' lks pt8<|s_nil<|n_thn<|?_
    have hT:(if (a[k]).2.2.1=2100 then ⟨#[109,97,120]⟩ else bA (padI (a[k]).2.2.1 4))=(⟨#[109,97,120]⟩:ByteArray):=if_pos hc2
    exact cT' (()) (by trivial) (by (try dsimp only);(try simp only [setsT,setsE,z',s',rn',la',ln',Nat.reduceAdd]);exact ALe.same (by repeat (first | exact wk0 | refine wka ?_ | refine wk1 rfl ?_ | refine wk1 (by first | rfl | exact congrArg sv hT) ?_)) rfl)
   refine w_skip<|n_thn<|?_
   have hT:(if (a[k]).2.2.1=2100 then ⟨#[109,97,120]⟩ else bA (padI (a[k]).2.2.1 4))=bA (padI (a[k]).2.2.1 4):=if_neg hc2
   exact cT' (()) (by trivial) (by (try dsimp only);(try simp only [setsT,setsE,z',s',rn',la',ln',Nat.reduceAdd]);exact ALe.same (by repeat (first | exact wk0 | refine wka ?_ | refine wk1 rfl ?_ | refine wk1 (by first | rfl | exact congrArg sv hT) ?_)) rfl)
  rintro u_ hq10
  try simp only [setsT,setsE,z',s',rn',la',ln',Nat.reduceAdd]
  refine w_seqC (ι:=Unit) (fun (u_:Unit)=>[(8,sv (toT (a[k]).2.1 (a[k]).2.2.1))]++rn' 39 5) (fun (u_:Unit)=>[]) (fun (u_:Unit)=>True) ?_ ?_
  ·try simp only [setsT,setsE,z',s',rn',la',ln',Nat.reduceAdd]
   refine wr'<|V' (v_fap0 lk7) pt39<|V' (v_loadp lk39 (hga hn rfl) gt2) pt40<|V' (v_fap0 lk7) pt41<|V' (v_loadp lk41 (hga hn rfl) gt1) pt42<|?_
   refine V' ((by first | exact v_eql lk40 lk42 | exact v_eqlS lk40 lk42)) pt43 ?_
   refine sn' ?_
   refine cd' lk43 (fun hc3=>?_) (fun hc3=>?_)
   ·refine w_reg<|mv' lks pt8<|s_nil<|n_thn<|?_
    have hT:toT (a[k]).2.1 (a[k]).2.2.1=⟨#[111,110,108,121]⟩:=if_pos hc3
    exact cT' (()) (by trivial) (by (try dsimp only);(try simp only [setsT,setsE,z',s',rn',la',ln',Nat.reduceAdd]);exact ALe.same (by repeat (first | exact wk0 | refine wka ?_ | refine wk1 rfl ?_ | refine wk1 (by first | rfl | exact congrArg sv hT) ?_)) rfl)
   refine w_skip<|n_thn<|?_
   have hT:toT (a[k]).2.1 (a[k]).2.2.1=(if (a[k]).2.2.1=2100 then ⟨#[109,97,120]⟩ else bA (padI (a[k]).2.2.1 4)):=if_neg hc3
   exact cT' (()) (by trivial) (by (try dsimp only);(try simp only [setsT,setsE,z',s',rn',la',ln',Nat.reduceAdd]);exact ALe.same (by repeat (first | exact wk0 | refine wka ?_ | refine wk1 rfl ?_ | refine wk1 (by first | rfl | exact congrArg sv hT) ?_)) rfl)
  rintro u_ hq12
  try simp only [setsT,setsE,z',s',rn',la',ln',Nat.reduceAdd]
  refine wr'<|mv' lk4 pt44<|V' (v_fap0 lk7) pt45<|V' (v_fap lk45) pt46<|V' (v_loadp lk46 (hga hn rfl) gt5) pt47<|?_
  refine V' (v_mul lki lk47 (by omega) (by omega)) pt48 ?_
  refine V' (v_fap0 lk7) pt49<|V' (v_fap lk49) pt50<|V' (v_loadp lk50 (hga hn rfl) gt5) pt51<|?_
  refine V' (v_mul lki lk51 (by omega) (by omega)) pt52 ?_
  refine V' (v_add lk52 lki (by omega) (by omega)) pt53 ?_
  refine V' (v_sls lk44 (oi lk48) (oi lk53) (by first | omega | (rw [hd21];omega)) (by first | omega | (rw [hd21];omega)) (by first | omega | (rw [hd21];omega))) pt54 ?_
  rw [day_ex b4]
  refine mv' lk54 pt9<|sn'<|wr'<|V' (v_fap0 lk7) pt55<|V' (v_fap lk55) pt56<|V' (v_loadp lk56 (hga hn rfl) gt6) pt57<|?_
  refine s_callp (mp1 lk57 mp0) (rdigits_a (by omega) (by omega)) pt58 ?_
  refine mv' lk58 pt10<|sn'<|?_
  refine w_seqC (ι:=Unit) (fun (u_:Unit)=>[(10,sv (formT (a[k]).2.2.2.2.1.1 (a[k]).2.2.2.2.1.2.1 (a[k]).2.2.2.2.1.2.2))]++rn' 59 19) (fun (u_:Unit)=>[]) (fun (u_:Unit)=>True) ?_ ?_
  ·try simp only [setsT,setsE,z',s',rn',la',ln',Nat.reduceAdd]
   refine wr'<|V' (v_fap0 lk7) pt59<|V' (v_fap lk59) pt60<|V' (v_loadp lk60 (hga hn rfl) gt4) pt61<|sn'<|w_block<|wr'<|V' (v_eql lk61 lki) pt63<|mv' lk63 pt62<|sn'<|?_
   refine cd' lk62 (fun hc4=>?_) (fun hc4=>?_)
   ·refine w_reg<|mv' lk9 pt64<|?_
    refine V' (v_addS lks lk64 (by rw [show (⟨#[108,97,115,116]⟩:ByteArray).size=4 from rfl];omega)) pt65 ?_
    refine mv' lk65 pt10<|s_nil<|n_blk<|n_thn<|?_
    have hT:formT (a[k]).2.2.2.2.1.1 (a[k]).2.2.2.2.1.2.1 (a[k]).2.2.2.2.1.2.2=⟨#[108,97,115,116]⟩++dayS (a[k]).2.2.2.2.1.2.1:=by unfold formT;rw [hc4];rfl
    exact cT' (()) (by trivial) (by (try dsimp only);(try simp only [setsT,setsE,z',s',rn',la',ln',Nat.reduceAdd]);exact ALe.same (by repeat (first | exact wk0 | refine wka ?_ | refine wk1 rfl ?_ | refine wk1 (by first | rfl | exact congrArg sv hT) ?_)) rfl)
   refine wr'<|V' (v_eql lk61 lki) pt67<|mv' lk67 pt66<|sn'<|?_
   refine cd' lk66 (fun hc5=>?_) (fun hc5=>?_)
   ·refine w_reg<|mv' lk9 pt68<|?_
    refine V' (v_addS lk68 lks (by rw [show (⟨#[62,61]⟩:ByteArray).size=2 from rfl];omega)) pt69 ?_
    refine mv' lk10 (ptS pt0) ?_
    refine V' (v_addS lk69 (lkS lk0) (by rw [ByteArray.size_append,show (⟨#[62,61]⟩:ByteArray).size=2 from rfl,bA_size];omega)) (ptS pt1) ?_
    refine mv' (lkS lk1) pt10<|s_nil<|n_blk<|n_thn<|?_
    have hT:formT (a[k]).2.2.2.2.1.1 (a[k]).2.2.2.2.1.2.1 (a[k]).2.2.2.2.1.2.2=dayS (a[k]).2.2.2.2.1.2.1++⟨#[62,61]⟩++bA (Lib.itoa (a[k]).2.2.2.2.1.2.2):=by unfold formT;rw [hc5];rfl
    exact cT' (()) (by trivial) (by (try dsimp only);(try simp only [setsT,setsE,z',s',rn',la',ln',Nat.reduceAdd]);exact ALe.same (by repeat (first | exact wk0 | refine wka ?_ | refine wk1 rfl ?_ | refine wk1 (by first | rfl | exact congrArg sv hT) ?_)) rfl)
   refine wr'<|V' (v_eql lk61 lki) (ptS pt3)<|mv' (lkS lk3) (ptS pt2)<|sn'<|?_
   refine cd' (lkS lk2) (fun hc6=>?_) (fun hc6=>?_)
   ·refine w_reg<|mv' lk9 (ptS pt4)<|?_
    refine V' (v_addS (lkS lk4) lks (by rw [show (⟨#[60,61]⟩:ByteArray).size=2 from rfl];omega)) (ptS pt5) ?_
    refine mv' lk10 (ptS pt6) ?_
    refine V' (v_addS (lkS lk5) (lkS lk6) (by rw [ByteArray.size_append,show (⟨#[60,61]⟩:ByteArray).size=2 from rfl,bA_size];omega)) (ptS pt7) ?_
    refine mv' (lkS lk7) pt10<|s_nil<|n_blk<|n_thn<|?_
    have hT:formT (a[k]).2.2.2.2.1.1 (a[k]).2.2.2.2.1.2.1 (a[k]).2.2.2.2.1.2.2=dayS (a[k]).2.2.2.2.1.2.1++⟨#[60,61]⟩++bA (Lib.itoa (a[k]).2.2.2.2.1.2.2):=by unfold formT;rw [hc6];rfl
    exact cT' (()) (by trivial) (by (try dsimp only);(try simp only [setsT,setsE,z',s',rn',la',ln',Nat.reduceAdd]);exact ALe.same (by repeat (first | exact wk0 | refine wka ?_ | refine wk1 rfl ?_ | refine wk1 (by first | rfl | exact congrArg sv hT) ?_)) rfl)
   refine w_skip<|n_blk<|n_thn<|?_
   have hT:formT (a[k]).2.2.2.2.1.1 (a[k]).2.2.2.2.1.2.1 (a[k]).2.2.2.2.1.2.2=bA (Lib.itoa (a[k]).2.2.2.2.1.2.2):=by unfold formT;rw [show (a[k]).2.2.2.2.1.1=1 by omega];rfl
   exact cT' (()) (by trivial) (by (try dsimp only);(try simp only [setsT,setsE,z',s',rn',la',ln',Nat.reduceAdd]);exact ALe.same (by repeat (first | exact wk0 | refine wka ?_ | refine wk1 rfl ?_ | refine wk1 (by first | rfl | exact congrArg sv hT) ?_)) rfl)
  rintro u_ hq19
  try simp only [setsT,setsE,z',s',rn',la',ln',Nat.reduceAdd]
  refine wr'<|V' (v_fap0 lk7) (ptS pt8)<|V' (v_loadp (lkS lk8) (hga hn rfl) gt7) (ptS pt9)<|?_
  refine s_callp (mp1 (lkS lk9) mp0) (rspan_a (by omega) (by omega)) (ptS pt10) ?_
  refine mv' (lkS lk10) pt11<|sn'<|?_
  refine w_seqC (ι:=Unit) (fun (u_:Unit)=>[(11,sv (clockT (a[k]).2.2.2.2.2.1 (a[k]).2.2.2.2.2.2.1 1))]++rn' 81 11) (fun (u_:Unit)=>[]) (fun (u_:Unit)=>True) ?_ ?_
  ·try simp only [setsT,setsE,z',s',rn',la',ln',Nat.reduceAdd]
   refine wr'<|V' (v_fap0 lk7) (ptS pt11)<|V' (v_loadp (lkS lk11) (hga hn rfl) gt8) (ptS pt12)<|V' (v_gtr (lkS lk12) lki) (ptS pt13)<|sn'<|?_
   refine cd' (lkS lk13) (fun hc7=>?_) (fun hc7=>?_)
   ·refine w_reg<|mv' lk11 (ptS pt14)<|V' (v_fap0 lk7) (ptS pt15)<|V' (v_loadp (lkS lk15) (hga hn rfl) gt8) (ptS pt16)<|V' (v_fap0 lk7) (ptS pt17)<|V' (v_loadp (lkS lk17) (hga hn rfl) gt8) (ptS pt18)<|?_
    refine V' (v_add (lkS lk18) lki (by omega) (by omega)) (ptS pt19) ?_
    refine V' (v_sls (s:=wsuB) rfl (oi (lkS lk16)) (oi (lkS lk19)) (by omega) (by omega) (by rw [hd4];omega)) (ptS pt20) ?_
    rw [wsu_ex (by omega)]
    refine V' (v_addS (lkS lk14) (lkS lk20) (by have hcz:(clkS.getD (a[k]).2.2.2.2.2.2.1.toNat ⟨#[]⟩).size≤1:=(by rw [List.getD_eq_getElem?_getD,List.getElem?_eq_getElem (show (a[k]).2.2.2.2.2.2.1.toNat<clkS.length by have:clkS.length=4:=rfl;omega)];exact clk_at _);rw [bA_size];omega)) (ptS pt21) ?_
    refine mv' (lkS lk21) pt11<|s_nil<|n_thn<|?_
    have hT:clockT (a[k]).2.2.2.2.2.1 (a[k]).2.2.2.2.2.2.1 1=bA (spanT (a[k]).2.2.2.2.2.1)++clkS.getD (a[k]).2.2.2.2.2.2.1.toNat ⟨#[]⟩:=if_neg (by omega)
    exact cT' (()) (by trivial) (by (try dsimp only);(try simp only [setsT,setsE,z',s',rn',la',ln',Nat.reduceAdd]);exact ALe.same (by repeat (first | exact wk0 | refine wka ?_ | refine wk1 rfl ?_ | refine wk1 (by first | rfl | exact congrArg sv hT) ?_)) rfl)
   refine w_skip<|n_thn<|?_
   have hT:clockT (a[k]).2.2.2.2.2.1 (a[k]).2.2.2.2.2.2.1 1=bA (spanT (a[k]).2.2.2.2.2.1):=if_pos (by omega)
   exact cT' (()) (by trivial) (by (try dsimp only);(try simp only [setsT,setsE,z',s',rn',la',ln',Nat.reduceAdd]);exact ALe.same (by repeat (first | exact wk0 | refine wka ?_ | refine wk1 rfl ?_ | refine wk1 (by first | rfl | exact congrArg sv hT) ?_)) rfl)
  rintro u_ hq22
  try simp only [setsT,setsE,z',s',rn',la',ln',Nat.reduceAdd]
  refine wr'<|V' (v_fap0 lk7) (ptS pt22)<|V' (v_loadp (lkS lk22) (hga hn rfl) gt10) (ptS pt23)<|mv' (lkS lk23) pt12<|sn'<|?_
  refine w_seqC (ι:=Unit) (fun (u_:Unit)=>[(12,sv (orT (a[k]).2.2.2.2.2.2.2.2 ⟨#[45]⟩)),(94,.any),(95,.any)]) (fun (u_:Unit)=>[]) (fun (u_:Unit)=>True) ?_ ?_
  ·try simp only [setsT,setsE,z',s',rn',la',ln',Nat.reduceAdd]
   refine wr'<|mv' lk12 (ptS pt24)<|V' (v_eqlS (lkS lk24) lks) (ptS pt25)<|sn'<|?_
   refine cd' (lkS lk25) (fun hc8=>?_) (fun hc8=>?_)
   ·refine w_reg<|mv' lks pt12<|s_nil<|n_thn<|?_
    have hT:orT (a[k]).2.2.2.2.2.2.2.2 ⟨#[45]⟩=⟨#[45]⟩:=if_pos hc8
    exact cT' (()) (by trivial) (by (try dsimp only);(try simp only [setsT,setsE,z',s',rn',la',ln',Nat.reduceAdd]);exact ALe.same (by repeat (first | exact wk0 | refine wka ?_ | refine wk1 rfl ?_ | refine wk1 (by first | rfl | exact congrArg sv hT) ?_)) rfl)
   refine w_skip<|n_thn<|?_
   have hT:orT (a[k]).2.2.2.2.2.2.2.2 ⟨#[45]⟩=(a[k]).2.2.2.2.2.2.2.2:=if_neg hc8
   exact cT' (()) (by trivial) (by (try dsimp only);(try simp only [setsT,setsE,z',s',rn',la',ln',Nat.reduceAdd]);exact ALe.same (by repeat (first | exact wk0 | refine wka ?_ | refine wk1 rfl ?_ | refine wk1 (by first | rfl | exact congrArg sv hT) ?_)) rfl)
  rintro u_ hq25
  try simp only [setsT,setsE,z',s',rn',la',ln',Nat.reduceAdd]
  refine w_drwE<|D' (v_mv lk5) (ptS pt26)<|D' (v_fap0 lk7) (ptS pt27)<|D' (v_loadp (lkS lk27) (hga hn rfl) gt0) (ptS pt28)<|D' (v_fap0 lk7) (ptS pt29)<|D' (v_loadp (lkS lk29) (hga hn rfl) gt1) (ptS pt30)<|?_
  refine d_callp (mp1 (lkS lk30) (mp1 lki mp0)) (fun hE hX=>rpadded_a (k:=4) (by omega) (by omega) (by omega)) (ptS pt31) ?_
  refine D' (v_mv lk8) (ptS pt32)<|D' (v_mv lk3) (ptS pt33)<|D' (v_fap0 lk7) (ptS pt34)<|D' (v_loadp (lkS lk34) (hga hn rfl) gt3) (ptS pt35)<|?_
  refine D' (v_mul lki (lkS lk35) (by omega) (by omega)) (ptS pt36) ?_
  refine D' (v_sub (lkS lk36) lki (by omega) (by omega)) (ptS pt37) ?_
  refine D' (v_fap0 lk7) (ptS pt38)<|D' (v_loadp (lkS lk38) (hga hn rfl) gt3) (ptS pt39)<|?_
  refine D' (v_mul lki (lkS lk39) (by omega) (by omega)) (ptS pt40) ?_
  refine D' (v_sls (lkS lk33) (oi (lkS lk37)) (oi (lkS lk40)) (by first | omega | (rw [hd36];omega)) (by first | omega | (rw [hd36];omega)) (by first | omega | (rw [hd36];omega))) (ptS pt41) ?_
  rw [mon_ex b2]
  refine D' (v_mv lk10) (ptS pt42)<|D' (v_mv lk11) (ptS pt43)<|D' (v_fap0 lk7) (ptS pt44)<|D' (v_loadp (lkS lk44) (hga hn rfl) gt9) (ptS pt45)<|?_
  refine d_callp (mp1 (lkS lk45) mp0) (fun hE hX=>rspan_a (by omega) (by omega)) (ptS pt46) ?_
  refine D' (v_mv lk12) (ptS pt47)<|d_effI rfl rfl (hlk hn rfl) (l_litI (ShwS_LinesOf_116 (cvl lks rfl) rfl (cvl (lkS lk28) rfl) rfl (cvl (lkS lk31) rfl) rfl (cvl (lkS lk32) rfl) rfl (cvl (lkS lk41) rfl) rfl (cvl (lkS lk42) rfl) rfl (cvl (lkS lk43) rfl) rfl (cvl (lkS lk46) rfl) rfl (cvl (lkS lk47) rfl) rfl) rfl) (ptS pt48) ShwS_lap0<|D' (v_build (ShwS_LinesOf_117 (cvl (lkS lk48) rfl) rfl)) (ptS pt49)<|d_eff rfl rfl (hlk hn rfl) (l_lit (ShwS_LinesOf_118 (cvl (lkS lk49) rfl) rfl)) (ptS pt50) ShwS_lap1<|d_nil<|?_
  refine e_ent ShwS_lj3_2 ?_
  refine E' (e_app (sc_own (lkS lk50) (hga hn rfl) rfl ShwS_tk_3 (nb' rfl)) (lkS lk26) (hga hn rfl) (ln_len _) (by omega) rfl (hs1 hn)) (ptS pt51) ?_
  refine mv' (lkS lk51) pt5<|s_nil<|n_blk<|n_seq<|w_reg<|mv' lk6 pt26<|?_
  refine V' (v_add lk26 lki (by omega) (by omega)) pt27 ?_
  refine mv' lk27 pt6<|s_nil<|n_thn<|?_
  refine lU' (k+1) (by (try dsimp only);omega) (by (try dsimp only);(try simp only [setsT,setsE,z',s',rn',la',ln',Nat.reduceAdd]);exact bkE' 2 hn hlt (by repeat (first | exact wk0 | refine wka ?_ | refine wk1 rfl ?_ | refine wk1 (by first | rfl | exact ivx (by omega) | exact own_x hLn hLn) ?_)) (by rw [hL1,shL_s];rfl))
 obtain rfl:k=a.length:=by omega
 rw [List.take_length]
 have hLa:(a.map ruleLn).length≤40:=by rw [List.length_map];omega
 refine w_exit<|x_thn<|x_thn<|x_blk<|n_seq<|w_seq<|wr'<|mv' lki pt13<|sn'<|w_block<|?_
 refine w_loop (ι:=Nat) (fun (k:Nat)=>[(5,.own (N+1) (a.map ruleLn++zonesL (z.take k)).length (a.map ruleLn++zonesL (z.take k)).length),(13,iv (k:Int))]++rn' 14 6++rn' 122 97) (fun (k:Nat)=>[(1,shL (a.map ruleLn++zonesL (z.take k)))]) (fun (k:Nat)=>k≤z.length) (fun (k:Nat)=>z.length-k) (0) (by exact Nat.zero_le _) (by try simp only [setsT,setsE,z',s',rn',la',ln',Nat.reduceAdd];exact ALe.same (by repeat (first | exact wk0 | refine wka ?_ | refine wk1 rfl ?_ | refine wk1 (by first | rfl | exact ivx (by omega) | (rw [List.take_zero,show zonesL []=[] from rfl,List.append_nil];done)) ?_)) (by rw [List.take_zero,show zonesL []=[] from rfl,List.append_nil])) ?_
 rintro k hi2
 try simp only [setsT,setsE,z',s',rn',la',ln',Nat.reduceAdd]
 refine w_seq<|wr'<|mv' lk13 (ptS pt52)<|V' (v_fap0 lk1) (ptS pt53)<|V' (v_loadp (lkS lk53) (hga hn rfl) gt1) (ptS pt54)<|V' (v_lenL (lkS lk54)) (ptS pt55)<|V' (v_lss (lkS lk52) (lkS lk55)) (ptS pt56)<|sn'<|?_
 refine cd' (lkS lk56) (fun hc9=>?_) (fun hc9=>?_)
 ·have hkz:k<z.length:=by omega
  have hz0:=zone_ok (firstX_mem hp2 _ (List.getElem_mem hkz))
  have hzl:=hm1 _ (List.getElem_mem hkz)
  have hzn:=zonesL_len (z:=z.take k) (fun x hx=>hm1 x (List.mem_of_mem_take hx))
  rw [List.length_take] at hzn
  have hzb:(a.map ruleLn++zonesL (z.take k)).length≤200:=by rw [List.length_append];omega
  have hY0:a.map ruleLn++zonesL (z.take k)++zoneL (z[k]).1 ((z[k]).2.take 0)=a.map ruleLn++zonesL (z.take k):=by rw [List.take_zero,zoneL,List.append_nil]
  refine w_skip<|n_seq<|w_seq<|w_block<|wr'<|mv' lki pt14<|sn'<|w_block<|?_
  refine w_loop (ι:=Nat) (fun (j:Nat)=>[(5,.own (N+1) (a.map ruleLn++zonesL (z.take k)++zoneL (z[k]).1 ((z[k]).2.take j)).length (a.map ruleLn++zonesL (z.take k)++zoneL (z[k]).1 ((z[k]).2.take j)).length),(14,iv (j:Int))]++rn' 15 5++rn' 129 90) (fun (j:Nat)=>[(1,shL (a.map ruleLn++zonesL (z.take k)++zoneL (z[k]).1 ((z[k]).2.take j)))]) (fun (j:Nat)=>j≤(z[k]).2.length) (fun (j:Nat)=>(z[k]).2.length-j) (0) (by exact Nat.zero_le _) (by try simp only [setsT,setsE,z',s',rn',la',ln',Nat.reduceAdd];exact ALe.same (by repeat (first | exact wk0 | refine wka ?_ | refine wk1 rfl ?_ | refine wk1 (by first | rfl | exact ivx (by omega) | (rw [hY0];done)) ?_)) (by rw [hY0])) ?_
  rintro j hi3
  try simp only [setsT,setsE,z',s',rn',la',ln',Nat.reduceAdd]
  refine w_seq<|wr'<|mv' lk14 (ptS pt59)<|V' (v_fap0 lk1) (ptS pt60)<|V' (v_loadp (lkS lk60) (hga hn rfl) gt1) (ptS pt61)<|mv' lk13 (ptS pt62)<|?_
  refine V' (v_iaR (k:=k) (lkS lk61) (lkS lk62) zon_len1 (nb' rfl) (by first | rfl | omega) (by omega) (by first | rfl | omega) rfl) (ptS pt63) ?_
  refine V' (v_far (lkS lk63) dp1) (ptS pt64)<|V' (v_loadr (lkS lk64) gt0) (ptS pt65)<|?_
  refine V' ((by first | exact v_lenL (lkS lk65) | exact v_lenO (lkS lk65))) (ptS pt66) ?_
  refine V' (v_lss (lkS lk59) (lkS lk66)) (ptS pt67)<|sn'<|?_
  refine cd' (lkS lk67) (fun hc10=>?_) (fun hc10=>?_)
  ·have hje:j<(z[k]).2.length:=by omega
   have hx0:=hz0.2.2 _ (List.getElem_mem hje)
   obtain ⟨hsh,hsa,hrest⟩:=hx0
   have hL3:a.map ruleLn++zonesL (z.take k)++zoneL (z[k]).1 ((z[k]).2.take (j+1))=(a.map ruleLn++zonesL (z.take k)++zoneL (z[k]).1 ((z[k]).2.take j))++[((0:Int),decide ((j:Int)>0),hdZ (z[k]).1 j++eraG (z[k]).2[j])]:=by rw [zone_n hje,←List.append_assoc]
   have hLn3:(a.map ruleLn++zonesL (z.take k)++zoneL (z[k]).1 ((z[k]).2.take (j+1))).length=(a.map ruleLn++zonesL (z.take k)++zoneL (z[k]).1 ((z[k]).2.take j)).length+1:=by rw [hL3,List.length_append];rfl
   have hLb3:(a.map ruleLn++zonesL (z.take k)++zoneL (z[k]).1 ((z[k]).2.take j)).length≤300:=by rw [List.length_append,zoneL_len,List.length_take];omega
   have hsl:=spanT_len (n:=(z[k]).2[j].2.2.2.2.2.2.1)
   refine w_skip<|n_seq<|w_seq<|w_block<|wr'<|V' (v_fap0 lk1) (ptS (ptS pt0))<|V' (v_loadp (lkS (lkS lk0)) (hga hn rfl) gt1) (ptS (ptS pt1))<|mv' lk13 (ptS (ptS pt2))<|?_
   refine V' (v_iaR (k:=k) (lkS (lkS lk1)) (lkS (lkS lk2)) zon_len1 (nb' rfl) (by first | rfl | omega) (by omega) (by first | rfl | omega) rfl) (ptS (ptS pt3)) ?_
   refine V' (v_far (lkS (lkS lk3)) dp1) (ptS (ptS pt4))<|V' (v_loadr (lkS (lkS lk4)) gt0) (ptS (ptS pt5))<|mv' lk14 (ptS (ptS pt6))<|?_
   refine V' (v_iaR (k:=j) (lkS (lkS lk5)) (lkS (lkS lk6)) era_len1 (nb' rfl) (by first | rfl | omega) (by omega) (by first | rfl | omega) rfl) (ptS (ptS pt7)) ?_
   refine V' (v_loadrA (lkS (lkS lk7)) ShwS_tk_10 rfl) (ptS (ptS pt8))<|E' (e_new (hl2 hn) ha2) pt15<|E' (e_store lk15 (cvl (lkS (lkS lk8)) rfl) (hga hn rfl) rfl (nb' rfl) rfl ShwS_sc0_10 (hs2 hn)) ptn<|sn'<|wr'<|mv' lkn pt16<|sn'<|w_seq<|wr'<|mv' lk14 (ptS (ptS pt9))<|?_
   refine V' (v_eql (lkS (lkS lk9)) lki) (ptS (ptS pt10))<|sn'<|?_
   refine cd' (lkS (lkS lk10)) (fun hc11=>?_) (fun hc11=>?_)
   ·have hH:hdZ (z[k]).1 j=[⟨#[90,111,110,101]⟩,(z[k]).1]:=if_pos (by omega)
    refine w_reg<|V' (v_fap0 lk1) (ptS (ptS pt11))<|V' (v_loadp (lkS (lkS lk11)) (hga hn rfl) gt1) (ptS (ptS pt12))<|mv' lk13 (ptS (ptS pt13))<|?_
    refine V' (v_iaR (k:=k) (lkS (lkS lk12)) (lkS (lkS lk13)) zon_len1 (nb' rfl) (by first | rfl | omega) (by omega) (by first | rfl | omega) rfl) (ptS (ptS pt14)) ?_
    refine V' (v_far (lkS (lkS lk14)) dp0) (ptS (ptS pt15))<|V' (v_loadr (lkS (lkS lk15)) gt0) (ptS (ptS pt16))<|E' (e_lit (ShwS_LinesOf_160 (cvl lks rfl) rfl (cvl (lkS (lkS lk16)) rfl) rfl) (hl3 hn) ha3) (ptS (ptS pt17))<|mv' (lkS (lkS lk17)) pt16<|sn'<|wr'<|V' (v_fap0 lk15) (ptS (ptS pt18))<|V' (v_loadp (lkS (lkS lk18)) (hga hn rfl) gt1) (ptS (ptS pt19))<|mv' (lkS (lkS lk19)) pt17<|sn'<|?_
    refine w_seqC (ι:=Unit) (fun (u_:Unit)=>[(17,sv (orT (z[k]).2[j].2.1 ⟨#[45]⟩)),(160,.any),(161,.any)]) (fun (u_:Unit)=>[]) (fun (u_:Unit)=>True) ?_ ?_
    ·try simp only [setsT,setsE,z',s',rn',la',ln',Nat.reduceAdd]
     refine wr'<|mv' lk17 (ptS (ptS pt20))<|V' (v_eqlS (lkS (lkS lk20)) lks) (ptS (ptS pt21))<|sn'<|?_
     refine cd' (lkS (lkS lk21)) (fun hc12=>?_) (fun hc12=>?_)
     ·refine w_reg<|mv' lks pt17<|s_nil<|n_thn<|?_
      have hT:orT (z[k]).2[j].2.1 ⟨#[45]⟩=⟨#[45]⟩:=if_pos hc12
      exact cT' (()) (by trivial) (by (try dsimp only);(try simp only [setsT,setsE,z',s',rn',la',ln',Nat.reduceAdd]);exact ALe.same (by repeat (first | exact wk0 | refine wka ?_ | refine wk1 rfl ?_ | refine wk1 (by first | rfl | exact congrArg sv hT) ?_)) rfl)
     refine w_skip<|n_thn<|?_
     have hT:orT (z[k]).2[j].2.1 ⟨#[45]⟩=(z[k]).2[j].2.1:=if_neg hc12
     exact cT' (()) (by trivial) (by (try dsimp only);(try simp only [setsT,setsE,z',s',rn',la',ln',Nat.reduceAdd]);exact ALe.same (by repeat (first | exact wk0 | refine wka ?_ | refine wk1 rfl ?_ | refine wk1 (by first | rfl | exact congrArg sv hT) ?_)) rfl)
    rintro u_ hq40
    try simp only [setsT,setsE,z',s',rn',la',ln',Nat.reduceAdd]
    refine w_seqC (ι:=Unit) (fun (u_:Unit)=>[(17,sv (if 0<(z[k]).2[j].2.2.1 then bA (spanT (z[k]).2[j].2.2.1) else orT (z[k]).2[j].2.1 ⟨#[45]⟩))]++rn' 162 6) (fun (u_:Unit)=>[]) (fun (u_:Unit)=>True) ?_ ?_
    ·try simp only [setsT,setsE,z',s',rn',la',ln',Nat.reduceAdd]
     refine wr'<|V' (v_fap0 lk15) (ptS (ptS pt22))<|V' (v_loadp (lkS (lkS lk22)) (hga hn rfl) gt2) (ptS (ptS pt23))<|V' (v_gtr (lkS (lkS lk23)) lki) (ptS (ptS pt24))<|sn'<|?_
     refine cd' (lkS (lkS lk24)) (fun hc13=>?_) (fun hc13=>?_)
     ·refine w_reg<|V' (v_fap0 lk15) (ptS (ptS pt25))<|V' (v_loadp (lkS (lkS lk25)) (hga hn rfl) gt2) (ptS (ptS pt26))<|?_
      refine s_callp (mp1 (lkS (lkS lk26)) mp0) (rspan_a (by omega) (by omega)) (ptS (ptS pt27)) ?_
      refine mv' (lkS (lkS lk27)) pt17<|s_nil<|n_thn<|?_
      have hT:(if 0<(z[k]).2[j].2.2.1 then bA (spanT (z[k]).2[j].2.2.1) else orT (z[k]).2[j].2.1 ⟨#[45]⟩)=bA (spanT (z[k]).2[j].2.2.1):=if_pos hc13
      exact cT' (()) (by trivial) (by (try dsimp only);(try simp only [setsT,setsE,z',s',rn',la',ln',Nat.reduceAdd]);exact ALe.same (by repeat (first | exact wk0 | refine wka ?_ | refine wk1 rfl ?_ | refine wk1 (by first | rfl | exact congrArg sv hT) ?_)) rfl)
     refine w_skip<|n_thn<|?_
     have hT:(if 0<(z[k]).2[j].2.2.1 then bA (spanT (z[k]).2[j].2.2.1) else orT (z[k]).2[j].2.1 ⟨#[45]⟩)=orT (z[k]).2[j].2.1 ⟨#[45]⟩:=if_neg hc13
     exact cT' (()) (by trivial) (by (try dsimp only);(try simp only [setsT,setsE,z',s',rn',la',ln',Nat.reduceAdd]);exact ALe.same (by repeat (first | exact wk0 | refine wka ?_ | refine wk1 rfl ?_ | refine wk1 (by first | rfl | exact congrArg sv hT) ?_)) rfl)
    rintro u_ hq42
    try simp only [setsT,setsE,z',s',rn',la',ln',Nat.reduceAdd]
    refine w_seq<|w_drwE<|D' (v_mv lk16) (ptS (ptS pt28))<|D' (v_fap0 lk15) (ptS (ptS pt29))<|D' (v_loadp (lkS (lkS lk29)) (hga hn rfl) gt0) (ptS (ptS pt30))<|?_
    refine d_callp (mp1 (lkS (lkS lk30)) mp0) (fun hE hX=>rspan_a (by omega) (by omega)) (ptS (ptS pt31)) ?_
    refine D' (v_mv lk17) (ptS (ptS pt32))<|D' (v_fap0 lk15) (ptS (ptS pt33))<|D' (v_loadp (lkS (lkS lk33)) (hga hn rfl) gt3) (ptS (ptS pt34))<|d_eff rfl rfl (hlk hn rfl) (l_lit (ShwS_LinesOf_182 (cvl (lkS (lkS lk31)) rfl) rfl (cvl (lkS (lkS lk32)) rfl) rfl (cvl (lkS (lkS lk34)) rfl) rfl)) (ptS (ptS pt35)) ShwS_lap0<|d_nil<|?_
    refine e_ent ShwS_lj4_1 ?_
    refine E' (e_app (sc_own (lkS (lkS lk35)) (hga hn rfl) rfl ShwS_tk_3 (nb' rfl)) (lkS (lkS lk28)) (hga hn rfl) rfl (by omega) rfl (hs3 hn)) (ptS (ptS pt36)) ?_
    refine mv' (lkS (lkS lk36)) pt16<|sn'<|w_seq<|wr'<|V' (v_fap0 lk15) (ptS (ptS pt37))<|V' (v_loadp (lkS (lkS lk37)) (hga hn rfl) gt4) (ptS (ptS pt38))<|?_
    refine V' ((by first | exact v_not (lkS (lkS lk38)) | exact v_notB (lkS (lkS lk38)))) (ptS (ptS pt39)) ?_
    refine sn' ?_
    refine cd' (lkS (lkS lk39)) (fun hc14=>?_) (fun hc14=>?_)
    ·obtain ⟨hy,hm,hd,ha,hcl⟩:=hrest (by simpa using hc14)
     have hclk:2≤(z[k]).2[j].2.2.2.2.2.2.2:=by have:=(era_okC (show erasE (z[k]).2=0 from zone_okE (firstX_mem hp2 _ (List.getElem_mem hkz))) _ (List.getElem_mem hje)) (by simpa using hc14);exact this
     have hsl:=hsl (by omega) (by omega)
     have hE:eraG (z[k]).2[j]=[bA (spanT (z[k]).2[j].1),if 0<(z[k]).2[j].2.2.1 then bA (spanT (z[k]).2[j].2.2.1) else orT (z[k]).2[j].2.1 ⟨#[45]⟩,(z[k]).2[j].2.2.2.1,bA (padI (z[k]).2[j].2.2.2.2.2.1.1 4),monS (z[k]).2[j].2.2.2.2.2.1.2.1,bA (Lib.itoa (z[k]).2[j].2.2.2.2.2.1.2.2),clockT (z[k]).2[j].2.2.2.2.2.2.1 (z[k]).2[j].2.2.2.2.2.2.2 2]:=by unfold eraG eraF;rw [if_neg (show ¬(z[k]).2[j].2.2.2.2.1=true by simpa using hc14)];rfl
     refine wr'<|V' (v_fap0 lk15) (ptS (ptS pt40))<|V' (v_fap (lkS (lkS lk40))) (ptS (ptS pt41))<|V' (v_loadp (lkS (lkS lk41)) (hga hn rfl) gt8) (ptS (ptS pt42))<|?_
     refine s_callp (mp1 (lkS (lkS lk42)) mp0) (rspan_a (by omega) (by omega)) (ptS (ptS pt43)) ?_
     refine mv' (lkS (lkS lk43)) pt18<|sn'<|?_
     refine w_seqC (ι:=Unit) (fun (u_:Unit)=>[(18,sv (clockT (z[k]).2[j].2.2.2.2.2.2.1 (z[k]).2[j].2.2.2.2.2.2.2 2))]++rn' 184 6) (fun (u_:Unit)=>[]) (fun (u_:Unit)=>True) ?_ ?_
     ·try simp only [setsT,setsE,z',s',rn',la',ln',Nat.reduceAdd]
      refine wr'<|V' (v_fap0 lk15) (ptS (ptS pt44))<|V' (v_fap (lkS (lkS lk44))) (ptS (ptS pt45))<|V' (v_loadp (lkS (lkS lk45)) (hga hn rfl) gt9) (ptS (ptS pt46))<|V' (v_eql (lkS (lkS lk46)) lki) (ptS (ptS pt47))<|sn'<|?_
      refine cd' (lkS (lkS lk47)) (fun hc15=>?_) (fun hc15=>?_)
      ·refine w_reg<|mv' lk18 (ptS (ptS pt48))<|?_
       refine V' (v_addS (lkS (lkS lk48)) lks (by rw [bA_size,szc];omega)) (ptS (ptS pt49)) ?_
       refine mv' (lkS (lkS lk49)) pt18<|s_nil<|n_thn<|?_
       have hT:clockT (z[k]).2[j].2.2.2.2.2.2.1 (z[k]).2[j].2.2.2.2.2.2.2 2=bA (spanT (z[k]).2[j].2.2.2.2.2.2.1)++⟨#[117]⟩:=by rw [hc15];rfl
       exact cT' (()) (by trivial) (by (try dsimp only);(try simp only [setsT,setsE,z',s',rn',la',ln',Nat.reduceAdd]);exact ALe.same (by repeat (first | exact wk0 | refine wka ?_ | refine wk1 rfl ?_ | refine wk1 (by first | rfl | exact congrArg sv hT) ?_)) rfl)
      refine w_skip<|n_thn<|?_
      have hT:clockT (z[k]).2[j].2.2.2.2.2.2.1 (z[k]).2[j].2.2.2.2.2.2.2 2=bA (spanT (z[k]).2[j].2.2.2.2.2.2.1):=if_pos (by omega)
      exact cT' (()) (by trivial) (by (try dsimp only);(try simp only [setsT,setsE,z',s',rn',la',ln',Nat.reduceAdd]);exact ALe.same (by repeat (first | exact wk0 | refine wka ?_ | refine wk1 rfl ?_ | refine wk1 (by first | rfl | exact congrArg sv hT) ?_)) rfl)
     rintro u_ hq47
     try simp only [setsT,setsE,z',s',rn',la',ln',Nat.reduceAdd]
     refine wr'<|V' (v_fap0 lk15) (ptS (ptS pt50))<|V' (v_fap (lkS (lkS lk50))) (ptS (ptS pt51))<|V' (v_loadpA (lkS (lkS lk51)) (hga hn rfl) ShwS_tk5_3 rfl) (ptS (ptS pt52))<|E' (e_new (hl5 hn) ha5) pt19<|E' (e_store lk19 (cvl (lkS (lkS lk52)) rfl) (hga hn rfl) rfl (nb' rfl) rfl ShwS_sc0_3 (hs5 hn)) ptn<|sn'<|w_drwE<|D' (v_mv lk16) (ptS (ptS pt53))<|D' (v_fap0 lk19) (ptS (ptS pt54))<|D' (v_loadp (lkS (lkS lk54)) (hga hn rfl) gt0) (ptS (ptS pt55))<|?_
     refine d_callp (mp1 (lkS (lkS lk55)) (mp1 lki mp0)) (fun hE hX=>rpadded_a (k:=4) (by omega) (by omega) (by omega)) (ptS (ptS pt56)) ?_
     refine D' (v_mv lk3) (ptS (ptS pt57))<|D' (v_fap0 lk19) (ptS (ptS pt58))<|D' (v_loadp (lkS (lkS lk58)) (hga hn rfl) gt1) (ptS (ptS pt59))<|?_
     refine D' (v_mul lki (lkS (lkS lk59)) (by omega) (by omega)) (ptS (ptS pt60)) ?_
     refine D' (v_sub (lkS (lkS lk60)) lki (by omega) (by omega)) (ptS (ptS pt61)) ?_
     refine D' (v_fap0 lk19) (ptS (ptS pt62))<|D' (v_loadp (lkS (lkS lk62)) (hga hn rfl) gt1) (ptS (ptS pt63))<|?_
     refine D' (v_mul lki (lkS (lkS lk63)) (by omega) (by omega)) (ptS (ptS pt64)) ?_
     refine D' (v_sls (lkS (lkS lk57)) (oi (lkS (lkS lk61))) (oi (lkS (lkS lk64))) (by first | omega | (rw [hd36];omega)) (by first | omega | (rw [hd36];omega)) (by first | omega | (rw [hd36];omega))) (ptS (ptS pt65)) ?_
     rw [mon_ex hm]
     refine D' (v_fap0 lk19) (ptS (ptS pt66))<|D' (v_loadp (lkS (lkS lk66)) (hga hn rfl) gt2) (ptS (ptS pt67))<|?_
     refine d_callp (mp1 (lkS (lkS lk67)) mp0) (fun hE hX=>rdigits_a (by omega) (by omega)) (ptS (ptS pt68)) ?_
     refine D' (v_mv lk18) (ptS (ptS pt69))<|d_eff rfl rfl (hlk hn rfl) (l_lit (ShwS_LinesOf_222 (cvl (lkS (lkS lk56)) rfl) rfl (cvl (lkS (lkS lk65)) rfl) rfl (cvl (lkS (lkS lk68)) rfl) rfl (cvl (lkS (lkS lk69)) rfl) rfl)) (ptS (ptS (ptS pt0))) ShwS_lap0<|d_nil<|?_
     refine e_ent ShwS_lj6_1 ?_
     refine E' (e_app (sc_own (lkS (lkS (lkS lk0))) (hga hn rfl) rfl ShwS_tk_4 (nb' rfl)) (lkS (lkS lk53)) (hga hn rfl) rfl (by omega) rfl (hs3 hn)) (ptS (ptS (ptS pt1))) ?_
     refine V' (v_mv (lkS (lkS (lkS lk1)))) pt16<|s_nil<|?_
     refine n_seqw (ALe.iceN (hga hn rfl) gt16 (show List.take _ _=rows strC (hdZ (z[k]).1 j++eraG (z[k]).2[j]) from by rw [hE,hH];rfl) (nb' rfl) (by exact (show _=(hdZ (z[k]).1 j++eraG (z[k]).2[j]).length from by rw [hE,hH];rfl)) pt16 (hs3 hn)) ?_
     refine w_reg<|mv' lk5 (ptS (ptS (ptS pt2)))<|mv' lk14 (ptS (ptS (ptS pt3)))<|V' (v_gtr (lkS (lkS (lkS lk3))) lki) (ptS (ptS (ptS pt4)))<|mv' lk16 (ptS (ptS (ptS pt5)))<|V' (v_build (ShwS_LinesOf_229 (cvl (lkS (lkS (lkS lk4))) rfl) rfl (cvl (lkS (lkS (lkS lk5))) rfl) rfl)) (ptS (ptS (ptS pt6)))<|E' (e_lit (ShwS_LinesOf_230 (cvl (lkS (lkS (lkS lk6))) rfl) rfl) (hl7 hn) ha7) (ptS (ptS (ptS pt7)))<|?_
     refine E' (e_app (sc_own (lkS (lkS (lkS lk7))) (hga hn rfl) rfl ShwS_tk_3 (nb' rfl)) (lkS (lkS (lkS lk2))) (hga hn rfl) (ln_len _) (by omega) rfl (hs1 hn)) (ptS (ptS (ptS pt8))) ?_
     refine V' (v_mv (lkS (lkS (lkS lk8)))) pt5<|s_nil<|n_blk<|n_seq<|w_reg<|mv' lk14 (ptS pt68)<|?_
     refine V' (v_add (lkS lk68) lki (by omega) (by omega)) (ptS pt69) ?_
     refine mv' (lkS lk69) pt14<|s_nil<|n_thn<|?_
     refine lU' (j+1) (by (try dsimp only);omega) (by (try dsimp only);(try simp only [setsT,setsE,z',s',rn',la',ln',Nat.reduceAdd]);exact bkE' 2 hn hlt (by repeat (first | exact wk0 | refine wka ?_ | refine wk1 rfl ?_ | refine wk1 (by first | rfl | exact ivx (by omega) | exact own_x hLn3 hLn3) ?_)) (by rw [hL3,shL_s];rfl))
    have hE:eraG (z[k]).2[j]=[bA (spanT (z[k]).2[j].1),if 0<(z[k]).2[j].2.2.1 then bA (spanT (z[k]).2[j].2.2.1) else orT (z[k]).2[j].2.1 ⟨#[45]⟩,(z[k]).2[j].2.2.2.1]:=by unfold eraG eraF;rw [if_pos (show (z[k]).2[j].2.2.2.2.1=true by simpa using hc14)];rfl
    refine w_skip ?_
    refine n_seqw (ALe.iceN (hga hn rfl) gt16 (show List.take _ _=rows strC (hdZ (z[k]).1 j++eraG (z[k]).2[j]) from by rw [hE,hH];rfl) (nb' rfl) (by exact (show _=(hdZ (z[k]).1 j++eraG (z[k]).2[j]).length from by rw [hE,hH];rfl)) pt16 (hs3 hn)) ?_
    refine w_reg<|mv' lk5 (ptS (ptS (ptS pt2)))<|mv' lk14 (ptS (ptS (ptS pt3)))<|V' (v_gtr (lkS (lkS (lkS lk3))) lki) (ptS (ptS (ptS pt4)))<|mv' lk16 (ptS (ptS (ptS pt5)))<|V' (v_build (ShwS_LinesOf_229 (cvl (lkS (lkS (lkS lk4))) rfl) rfl (cvl (lkS (lkS (lkS lk5))) rfl) rfl)) (ptS (ptS (ptS pt6)))<|E' (e_lit (ShwS_LinesOf_230 (cvl (lkS (lkS (lkS lk6))) rfl) rfl) (hl5 hn) ha5) (ptS (ptS (ptS pt7)))<|?_
    refine E' (e_app (sc_own (lkS (lkS (lkS lk7))) (hga hn rfl) rfl ShwS_tk_3 (nb' rfl)) (lkS (lkS (lkS lk2))) (hga hn rfl) (ln_len _) (by omega) rfl (hs1 hn)) (ptS (ptS (ptS pt8))) ?_
    refine V' (v_mv (lkS (lkS (lkS lk8)))) pt5<|s_nil<|n_blk<|n_seq<|w_reg<|mv' lk14 (ptS pt68)<|?_
    refine V' (v_add (lkS lk68) lki (by omega) (by omega)) (ptS pt69) ?_
    refine mv' (lkS lk69) pt14<|s_nil<|n_thn<|?_
    refine lU' (j+1) (by (try dsimp only);omega) (by (try dsimp only);(try simp only [setsT,setsE,z',s',rn',la',ln',Nat.reduceAdd]);exact bkE' 2 hn hlt (by repeat (first | exact wk0 | refine wka ?_ | refine wk1 rfl ?_ | refine wk1 (by first | rfl | exact ivx (by omega) | exact own_x hLn3 hLn3) ?_)) (by rw [hL3,shL_s];rfl))
   have hH:hdZ (z[k]).1 j=[]:=if_neg (by omega)
   refine w_skip<|n_seqw (ALe.own0' (st':=1) (ty:=9) gt16 (hl3 hn) pt16 ha3)<|wr'<|V' (v_fap0 lk15) (ptS (ptS pt18))<|V' (v_loadp (lkS (lkS lk18)) (hga hn rfl) gt1) (ptS (ptS pt19))<|mv' (lkS (lkS lk19)) pt17<|sn'<|?_
   refine w_seqC (ι:=Unit) (fun (u_:Unit)=>[(17,sv (orT (z[k]).2[j].2.1 ⟨#[45]⟩)),(160,.any),(161,.any)]) (fun (u_:Unit)=>[]) (fun (u_:Unit)=>True) ?_ ?_
   ·try simp only [setsT,setsE,z',s',rn',la',ln',Nat.reduceAdd]
    refine wr'<|mv' lk17 (ptS (ptS pt20))<|V' (v_eqlS (lkS (lkS lk20)) lks) (ptS (ptS pt21))<|sn'<|?_
    refine cd' (lkS (lkS lk21)) (fun hc12=>?_) (fun hc12=>?_)
    ·refine w_reg<|mv' lks pt17<|s_nil<|n_thn<|?_
     have hT:orT (z[k]).2[j].2.1 ⟨#[45]⟩=⟨#[45]⟩:=if_pos hc12
     exact cT' (()) (by trivial) (by (try dsimp only);(try simp only [setsT,setsE,z',s',rn',la',ln',Nat.reduceAdd]);exact ALe.same (by repeat (first | exact wk0 | refine wka ?_ | refine wk1 rfl ?_ | refine wk1 (by first | rfl | exact congrArg sv hT) ?_)) rfl)
    refine w_skip<|n_thn<|?_
    have hT:orT (z[k]).2[j].2.1 ⟨#[45]⟩=(z[k]).2[j].2.1:=if_neg hc12
    exact cT' (()) (by trivial) (by (try dsimp only);(try simp only [setsT,setsE,z',s',rn',la',ln',Nat.reduceAdd]);exact ALe.same (by repeat (first | exact wk0 | refine wka ?_ | refine wk1 rfl ?_ | refine wk1 (by first | rfl | exact congrArg sv hT) ?_)) rfl)
   rintro u_ hq40
   try simp only [setsT,setsE,z',s',rn',la',ln',Nat.reduceAdd]
   refine w_seqC (ι:=Unit) (fun (u_:Unit)=>[(17,sv (if 0<(z[k]).2[j].2.2.1 then bA (spanT (z[k]).2[j].2.2.1) else orT (z[k]).2[j].2.1 ⟨#[45]⟩))]++rn' 162 6) (fun (u_:Unit)=>[]) (fun (u_:Unit)=>True) ?_ ?_
   ·try simp only [setsT,setsE,z',s',rn',la',ln',Nat.reduceAdd]
    refine wr'<|V' (v_fap0 lk15) (ptS (ptS pt22))<|V' (v_loadp (lkS (lkS lk22)) (hga hn rfl) gt2) (ptS (ptS pt23))<|V' (v_gtr (lkS (lkS lk23)) lki) (ptS (ptS pt24))<|sn'<|?_
    refine cd' (lkS (lkS lk24)) (fun hc13=>?_) (fun hc13=>?_)
    ·refine w_reg<|V' (v_fap0 lk15) (ptS (ptS pt25))<|V' (v_loadp (lkS (lkS lk25)) (hga hn rfl) gt2) (ptS (ptS pt26))<|?_
     refine s_callp (mp1 (lkS (lkS lk26)) mp0) (rspan_a (by omega) (by omega)) (ptS (ptS pt27)) ?_
     refine mv' (lkS (lkS lk27)) pt17<|s_nil<|n_thn<|?_
     have hT:(if 0<(z[k]).2[j].2.2.1 then bA (spanT (z[k]).2[j].2.2.1) else orT (z[k]).2[j].2.1 ⟨#[45]⟩)=bA (spanT (z[k]).2[j].2.2.1):=if_pos hc13
     exact cT' (()) (by trivial) (by (try dsimp only);(try simp only [setsT,setsE,z',s',rn',la',ln',Nat.reduceAdd]);exact ALe.same (by repeat (first | exact wk0 | refine wka ?_ | refine wk1 rfl ?_ | refine wk1 (by first | rfl | exact congrArg sv hT) ?_)) rfl)
    refine w_skip<|n_thn<|?_
    have hT:(if 0<(z[k]).2[j].2.2.1 then bA (spanT (z[k]).2[j].2.2.1) else orT (z[k]).2[j].2.1 ⟨#[45]⟩)=orT (z[k]).2[j].2.1 ⟨#[45]⟩:=if_neg hc13
    exact cT' (()) (by trivial) (by (try dsimp only);(try simp only [setsT,setsE,z',s',rn',la',ln',Nat.reduceAdd]);exact ALe.same (by repeat (first | exact wk0 | refine wka ?_ | refine wk1 rfl ?_ | refine wk1 (by first | rfl | exact congrArg sv hT) ?_)) rfl)
   rintro u_ hq42
   try simp only [setsT,setsE,z',s',rn',la',ln',Nat.reduceAdd]
   refine w_seq<|w_drwE<|D' (v_mv lk16) (ptS (ptS pt28))<|D' (v_fap0 lk15) (ptS (ptS pt29))<|D' (v_loadp (lkS (lkS lk29)) (hga hn rfl) gt0) (ptS (ptS pt30))<|?_
   refine d_callp (mp1 (lkS (lkS lk30)) mp0) (fun hE hX=>rspan_a (by omega) (by omega)) (ptS (ptS pt31)) ?_
   refine D' (v_mv lk17) (ptS (ptS pt32))<|D' (v_fap0 lk15) (ptS (ptS pt33))<|D' (v_loadp (lkS (lkS lk33)) (hga hn rfl) gt3) (ptS (ptS pt34))<|d_eff rfl rfl (hlk hn rfl) (l_lit (ShwS_LinesOf_182 (cvl (lkS (lkS lk31)) rfl) rfl (cvl (lkS (lkS lk32)) rfl) rfl (cvl (lkS (lkS lk34)) rfl) rfl)) (ptS (ptS pt35)) ShwS_lap0<|d_nil<|?_
   refine e_ent ShwS_lj4_1 ?_
   refine E' (e_app (sc_own (lkS (lkS lk35)) (hga hn rfl) rfl ShwS_tk_3 (nb' rfl)) (lkS (lkS lk28)) (hga hn rfl) rfl (by omega) rfl (hs3 hn)) (ptS (ptS pt36)) ?_
   refine mv' (lkS (lkS lk36)) pt16<|sn'<|w_seq<|wr'<|V' (v_fap0 lk15) (ptS (ptS pt37))<|V' (v_loadp (lkS (lkS lk37)) (hga hn rfl) gt4) (ptS (ptS pt38))<|?_
   refine V' ((by first | exact v_not (lkS (lkS lk38)) | exact v_notB (lkS (lkS lk38)))) (ptS (ptS pt39)) ?_
   refine sn' ?_
   refine cd' (lkS (lkS lk39)) (fun hc14=>?_) (fun hc14=>?_)
   ·obtain ⟨hy,hm,hd,ha,hcl⟩:=hrest (by simpa using hc14)
    have hclk:2≤(z[k]).2[j].2.2.2.2.2.2.2:=by have:=(era_okC (show erasE (z[k]).2=0 from zone_okE (firstX_mem hp2 _ (List.getElem_mem hkz))) _ (List.getElem_mem hje)) (by simpa using hc14);exact this
    have hsl:=hsl (by omega) (by omega)
    have hE:eraG (z[k]).2[j]=[bA (spanT (z[k]).2[j].1),if 0<(z[k]).2[j].2.2.1 then bA (spanT (z[k]).2[j].2.2.1) else orT (z[k]).2[j].2.1 ⟨#[45]⟩,(z[k]).2[j].2.2.2.1,bA (padI (z[k]).2[j].2.2.2.2.2.1.1 4),monS (z[k]).2[j].2.2.2.2.2.1.2.1,bA (Lib.itoa (z[k]).2[j].2.2.2.2.2.1.2.2),clockT (z[k]).2[j].2.2.2.2.2.2.1 (z[k]).2[j].2.2.2.2.2.2.2 2]:=by unfold eraG eraF;rw [if_neg (show ¬(z[k]).2[j].2.2.2.2.1=true by simpa using hc14)];rfl
    refine wr'<|V' (v_fap0 lk15) (ptS (ptS pt40))<|V' (v_fap (lkS (lkS lk40))) (ptS (ptS pt41))<|V' (v_loadp (lkS (lkS lk41)) (hga hn rfl) gt8) (ptS (ptS pt42))<|?_
    refine s_callp (mp1 (lkS (lkS lk42)) mp0) (rspan_a (by omega) (by omega)) (ptS (ptS pt43)) ?_
    refine mv' (lkS (lkS lk43)) pt18<|sn'<|?_
    refine w_seqC (ι:=Unit) (fun (u_:Unit)=>[(18,sv (clockT (z[k]).2[j].2.2.2.2.2.2.1 (z[k]).2[j].2.2.2.2.2.2.2 2))]++rn' 184 6) (fun (u_:Unit)=>[]) (fun (u_:Unit)=>True) ?_ ?_
    ·try simp only [setsT,setsE,z',s',rn',la',ln',Nat.reduceAdd]
     refine wr'<|V' (v_fap0 lk15) (ptS (ptS pt44))<|V' (v_fap (lkS (lkS lk44))) (ptS (ptS pt45))<|V' (v_loadp (lkS (lkS lk45)) (hga hn rfl) gt9) (ptS (ptS pt46))<|V' (v_eql (lkS (lkS lk46)) lki) (ptS (ptS pt47))<|sn'<|?_
     refine cd' (lkS (lkS lk47)) (fun hc15=>?_) (fun hc15=>?_)
     ·refine w_reg<|mv' lk18 (ptS (ptS pt48))<|?_
      refine V' (v_addS (lkS (lkS lk48)) lks (by rw [bA_size,szc];omega)) (ptS (ptS pt49)) ?_
      refine mv' (lkS (lkS lk49)) pt18<|s_nil<|n_thn<|?_
      have hT:clockT (z[k]).2[j].2.2.2.2.2.2.1 (z[k]).2[j].2.2.2.2.2.2.2 2=bA (spanT (z[k]).2[j].2.2.2.2.2.2.1)++⟨#[117]⟩:=by rw [hc15];rfl
      exact cT' (()) (by trivial) (by (try dsimp only);(try simp only [setsT,setsE,z',s',rn',la',ln',Nat.reduceAdd]);exact ALe.same (by repeat (first | exact wk0 | refine wka ?_ | refine wk1 rfl ?_ | refine wk1 (by first | rfl | exact congrArg sv hT) ?_)) rfl)
     refine w_skip<|n_thn<|?_
     have hT:clockT (z[k]).2[j].2.2.2.2.2.2.1 (z[k]).2[j].2.2.2.2.2.2.2 2=bA (spanT (z[k]).2[j].2.2.2.2.2.2.1):=if_pos (by omega)
     exact cT' (()) (by trivial) (by (try dsimp only);(try simp only [setsT,setsE,z',s',rn',la',ln',Nat.reduceAdd]);exact ALe.same (by repeat (first | exact wk0 | refine wka ?_ | refine wk1 rfl ?_ | refine wk1 (by first | rfl | exact congrArg sv hT) ?_)) rfl)
    rintro u_ hq47
    try simp only [setsT,setsE,z',s',rn',la',ln',Nat.reduceAdd]
    refine wr'<|V' (v_fap0 lk15) (ptS (ptS pt50))<|V' (v_fap (lkS (lkS lk50))) (ptS (ptS pt51))<|V' (v_loadpA (lkS (lkS lk51)) (hga hn rfl) ShwS_tk5_3 rfl) (ptS (ptS pt52))<|E' (e_new (hl5 hn) ha5) pt19<|E' (e_store lk19 (cvl (lkS (lkS lk52)) rfl) (hga hn rfl) rfl (nb' rfl) rfl ShwS_sc0_3 (hs5 hn)) ptn<|sn'<|w_drwE<|D' (v_mv lk16) (ptS (ptS pt53))<|D' (v_fap0 lk19) (ptS (ptS pt54))<|D' (v_loadp (lkS (lkS lk54)) (hga hn rfl) gt0) (ptS (ptS pt55))<|?_
    refine d_callp (mp1 (lkS (lkS lk55)) (mp1 lki mp0)) (fun hE hX=>rpadded_a (k:=4) (by omega) (by omega) (by omega)) (ptS (ptS pt56)) ?_
    refine D' (v_mv lk3) (ptS (ptS pt57))<|D' (v_fap0 lk19) (ptS (ptS pt58))<|D' (v_loadp (lkS (lkS lk58)) (hga hn rfl) gt1) (ptS (ptS pt59))<|?_
    refine D' (v_mul lki (lkS (lkS lk59)) (by omega) (by omega)) (ptS (ptS pt60)) ?_
    refine D' (v_sub (lkS (lkS lk60)) lki (by omega) (by omega)) (ptS (ptS pt61)) ?_
    refine D' (v_fap0 lk19) (ptS (ptS pt62))<|D' (v_loadp (lkS (lkS lk62)) (hga hn rfl) gt1) (ptS (ptS pt63))<|?_
    refine D' (v_mul lki (lkS (lkS lk63)) (by omega) (by omega)) (ptS (ptS pt64)) ?_
    refine D' (v_sls (lkS (lkS lk57)) (oi (lkS (lkS lk61))) (oi (lkS (lkS lk64))) (by first | omega | (rw [hd36];omega)) (by first | omega | (rw [hd36];omega)) (by first | omega | (rw [hd36];omega))) (ptS (ptS pt65)) ?_
    rw [mon_ex hm]
    refine D' (v_fap0 lk19) (ptS (ptS pt66))<|D' (v_loadp (lkS (lkS lk66)) (hga hn rfl) gt2) (ptS (ptS pt67))<|?_
    refine d_callp (mp1 (lkS (lkS lk67)) mp0) (fun hE hX=>rdigits_a (by omega) (by omega)) (ptS (ptS pt68)) ?_
    refine D' (v_mv lk18) (ptS (ptS pt69))<|d_eff rfl rfl (hlk hn rfl) (l_lit (ShwS_LinesOf_222 (cvl (lkS (lkS lk56)) rfl) rfl (cvl (lkS (lkS lk65)) rfl) rfl (cvl (lkS (lkS lk68)) rfl) rfl (cvl (lkS (lkS lk69)) rfl) rfl)) (ptS (ptS (ptS pt0))) ShwS_lap0<|d_nil<|?_
    refine e_ent ShwS_lj6_1 ?_
    refine E' (e_app (sc_own (lkS (lkS (lkS lk0))) (hga hn rfl) rfl ShwS_tk_4 (nb' rfl)) (lkS (lkS lk53)) (hga hn rfl) rfl (by omega) rfl (hs3 hn)) (ptS (ptS (ptS pt1))) ?_
    refine V' (v_mv (lkS (lkS (lkS lk1)))) pt16<|s_nil<|?_
    refine n_seqw (ALe.iceN (hga hn rfl) gt16 (show List.take _ _=rows strC (hdZ (z[k]).1 j++eraG (z[k]).2[j]) from by rw [hE,hH];rfl) (nb' rfl) (by exact (show _=(hdZ (z[k]).1 j++eraG (z[k]).2[j]).length from by rw [hE,hH];rfl)) pt16 (hs3 hn)) ?_
    refine w_reg<|mv' lk5 (ptS (ptS (ptS pt2)))<|mv' lk14 (ptS (ptS (ptS pt3)))<|V' (v_gtr (lkS (lkS (lkS lk3))) lki) (ptS (ptS (ptS pt4)))<|mv' lk16 (ptS (ptS (ptS pt5)))<|V' (v_build (ShwS_LinesOf_229 (cvl (lkS (lkS (lkS lk4))) rfl) rfl (cvl (lkS (lkS (lkS lk5))) rfl) rfl)) (ptS (ptS (ptS pt6)))<|E' (e_lit (ShwS_LinesOf_230 (cvl (lkS (lkS (lkS lk6))) rfl) rfl) (hl7 hn) ha7) (ptS (ptS (ptS pt7)))<|?_
    refine E' (e_app (sc_own (lkS (lkS (lkS lk7))) (hga hn rfl) rfl ShwS_tk_3 (nb' rfl)) (lkS (lkS (lkS lk2))) (hga hn rfl) (ln_len _) (by omega) rfl (hs1 hn)) (ptS (ptS (ptS pt8))) ?_
    refine V' (v_mv (lkS (lkS (lkS lk8)))) pt5<|s_nil<|n_blk<|n_seq<|w_reg<|mv' lk14 (ptS pt68)<|?_
    refine V' (v_add (lkS lk68) lki (by omega) (by omega)) (ptS pt69) ?_
    refine mv' (lkS lk69) pt14<|s_nil<|n_thn<|?_
    refine lU' (j+1) (by (try dsimp only);omega) (by (try dsimp only);(try simp only [setsT,setsE,z',s',rn',la',ln',Nat.reduceAdd]);exact bkE' 2 hn hlt (by repeat (first | exact wk0 | refine wka ?_ | refine wk1 rfl ?_ | refine wk1 (by first | rfl | exact ivx (by omega) | exact own_x hLn3 hLn3) ?_)) (by rw [hL3,shL_s];rfl))
   have hE:eraG (z[k]).2[j]=[bA (spanT (z[k]).2[j].1),if 0<(z[k]).2[j].2.2.1 then bA (spanT (z[k]).2[j].2.2.1) else orT (z[k]).2[j].2.1 ⟨#[45]⟩,(z[k]).2[j].2.2.2.1]:=by unfold eraG eraF;rw [if_pos (show (z[k]).2[j].2.2.2.2.1=true by simpa using hc14)];rfl
   refine w_skip ?_
   refine n_seqw (ALe.iceN (hga hn rfl) gt16 (show List.take _ _=rows strC (hdZ (z[k]).1 j++eraG (z[k]).2[j]) from by rw [hE,hH];rfl) (nb' rfl) (by exact (show _=(hdZ (z[k]).1 j++eraG (z[k]).2[j]).length from by rw [hE,hH];rfl)) pt16 (hs3 hn)) ?_
   refine w_reg<|mv' lk5 (ptS (ptS (ptS pt2)))<|mv' lk14 (ptS (ptS (ptS pt3)))<|V' (v_gtr (lkS (lkS (lkS lk3))) lki) (ptS (ptS (ptS pt4)))<|mv' lk16 (ptS (ptS (ptS pt5)))<|V' (v_build (ShwS_LinesOf_229 (cvl (lkS (lkS (lkS lk4))) rfl) rfl (cvl (lkS (lkS (lkS lk5))) rfl) rfl)) (ptS (ptS (ptS pt6)))<|E' (e_lit (ShwS_LinesOf_230 (cvl (lkS (lkS (lkS lk6))) rfl) rfl) (hl5 hn) ha5) (ptS (ptS (ptS pt7)))<|?_
   refine E' (e_app (sc_own (lkS (lkS (lkS lk7))) (hga hn rfl) rfl ShwS_tk_3 (nb' rfl)) (lkS (lkS (lkS lk2))) (hga hn rfl) (ln_len _) (by omega) rfl (hs1 hn)) (ptS (ptS (ptS pt8))) ?_
   refine V' (v_mv (lkS (lkS (lkS lk8)))) pt5<|s_nil<|n_blk<|n_seq<|w_reg<|mv' lk14 (ptS pt68)<|?_
   refine V' (v_add (lkS lk68) lki (by omega) (by omega)) (ptS pt69) ?_
   refine mv' (lkS lk69) pt14<|s_nil<|n_thn<|?_
   refine lU' (j+1) (by (try dsimp only);omega) (by (try dsimp only);(try simp only [setsT,setsE,z',s',rn',la',ln',Nat.reduceAdd]);exact bkE' 2 hn hlt (by repeat (first | exact wk0 | refine wka ?_ | refine wk1 rfl ?_ | refine wk1 (by first | rfl | exact ivx (by omega) | exact own_x hLn3 hLn3) ?_)) (by rw [hL3,shL_s];rfl))
  obtain rfl:j=(z[k]).2.length:=by omega
  rw [List.take_length]
  have hL2:a.map ruleLn++zonesL (z.take (k+1))=a.map ruleLn++zonesL (z.take k)++zoneL (z[k]).1 (z[k]).2:=by rw [zonesL_s hkz,List.append_assoc]
  refine w_exit<|x_thn<|x_thn<|x_blk<|n_blk<|n_seq<|w_reg<|mv' lk13 (ptS pt57)<|?_
  refine V' (v_add (lkS lk57) lki (by omega) (by omega)) (ptS pt58) ?_
  refine mv' (lkS lk58) pt13<|s_nil<|n_thn<|?_
  refine lU' (k+1) (by (try dsimp only);omega) (by (try dsimp only);(try simp only [setsT,setsE,z',s',rn',la',ln',Nat.reduceAdd]);exact ALe.same (by repeat (first | exact wk0 | refine wka ?_ | refine wk1 rfl ?_ | refine wk1 (by first | rfl | exact ivx (by omega) | (rw [hL2];done)) ?_)) (by first | (rw [hL2];done) | (rw [hL2];rfl)))
 obtain rfl:k=z.length:=by omega
 rw [List.take_length]
 have hzn:=zonesL_len (z:=z) hm1
 have hzb:(a.map ruleLn++zonesL z).length≤200:=by rw [List.length_append];omega
 refine w_exit<|x_thn<|x_thn<|x_blk<|n_seq<|w_seq<|wr'<|mv' lki pt20<|sn'<|w_block<|?_
 refine w_loop (ι:=Nat) (fun (k:Nat)=>[(5,.own (N+1) (a.map ruleLn++zonesL z++(l.take k).map linkLn).length (a.map ruleLn++zonesL z++(l.take k).map linkLn).length),(20,iv (k:Int))]++rn' 219 24) (fun (k:Nat)=>[(1,shL (a.map ruleLn++zonesL z++(l.take k).map linkLn))]) (fun (k:Nat)=>k≤l.length) (fun (k:Nat)=>l.length-k) (0) (by exact Nat.zero_le _) (by try simp only [setsT,setsE,z',s',rn',la',ln',Nat.reduceAdd];exact ALe.same (by repeat (first | exact wk0 | refine wka ?_ | refine wk1 rfl ?_ | refine wk1 (by first | rfl | exact ivx (by omega) | (rw [List.take_zero,List.map_nil,List.append_nil];done)) ?_)) (by rw [List.take_zero,List.map_nil,List.append_nil])) ?_
 rintro k hi4
 try simp only [setsT,setsE,z',s',rn',la',ln',Nat.reduceAdd]
 refine w_seq<|wr'<|mv' lk20 (ptS (ptS (ptS pt9)))<|V' (v_fap0 lk1) (ptS (ptS (ptS pt10)))<|V' (v_loadp (lkS (lkS (lkS lk10))) (hga hn rfl) gt2) (ptS (ptS (ptS pt11)))<|V' (v_lenL (lkS (lkS (lkS lk11)))) (ptS (ptS (ptS pt12)))<|V' (v_lss (lkS (lkS (lkS lk9))) (lkS (lkS (lkS lk12)))) (ptS (ptS (ptS pt13)))<|sn'<|?_
 first | refine w_cond (lkS (lkS (lkS lk13))) (fun hc16=>?_) (fun hc16=>?_) | refine w_condB (lkS (lkS (lkS lk13))) (fun hc16=>?_) (fun hc16=>?_)
 ·have hkl:k<l.length:=by omega
  have hL4:a.map ruleLn++zonesL z++(l.take (k+1)).map linkLn=(a.map ruleLn++zonesL z++(l.take k).map linkLn)++[linkLn l[k]]:=by rw [map_s hkl,←List.append_assoc]
  have hLn4:(a.map ruleLn++zonesL z++(l.take (k+1)).map linkLn).length=(a.map ruleLn++zonesL z++(l.take k).map linkLn).length+1:=by rw [hL4,List.length_append];rfl
  have hLb4:(a.map ruleLn++zonesL z++(l.take k).map linkLn).length≤300:=by rw [List.length_append,List.length_map,List.length_take];omega
  refine w_skip<|n_seq<|w_seq<|w_block<|w_drwE<|D' (v_mv lk5) (ptS (ptS (ptS pt16)))<|D' (v_fap0 lk1) (ptS (ptS (ptS pt17)))<|D' (v_loadp (lkS (lkS (lkS lk17))) (hga hn rfl) gt2) (ptS (ptS (ptS pt18)))<|D' (v_mv lk20) (ptS (ptS (ptS pt19)))<|?_
  refine D' (v_iaR (k:=k) (lkS (lkS (lkS lk18))) (lkS (lkS (lkS lk19))) lnk_len1 (nb' rfl) (by first | rfl | omega) (by omega) (by first | rfl | omega) rfl) (ptS (ptS (ptS pt20))) ?_
  refine D' (v_far (lkS (lkS (lkS lk20))) dp0) (ptS (ptS (ptS pt21)))<|D' (v_loadr (lkS (lkS (lkS lk21))) gt0) (ptS (ptS (ptS pt22)))<|D' (v_fap0 lk1) (ptS (ptS (ptS pt23)))<|D' (v_loadp (lkS (lkS (lkS lk23))) (hga hn rfl) gt2) (ptS (ptS (ptS pt24)))<|D' (v_mv lk20) (ptS (ptS (ptS pt25)))<|?_
  refine D' (v_iaR (k:=k) (lkS (lkS (lkS lk24))) (lkS (lkS (lkS lk25))) lnk_len1 (nb' rfl) (by first | rfl | omega) (by omega) (by first | rfl | omega) rfl) (ptS (ptS (ptS pt26))) ?_
  refine D' (v_far (lkS (lkS (lkS lk26))) dp1) (ptS (ptS (ptS pt27)))<|D' (v_loadr (lkS (lkS (lkS lk27))) gt0) (ptS (ptS (ptS pt28)))<|d_effI rfl rfl (hlk hn rfl) (l_litI (ShwS_LinesOf_258 (cvl lks rfl) rfl (cvl (lkS (lkS (lkS lk22))) rfl) rfl (cvl (lkS (lkS (lkS lk28))) rfl) rfl) rfl) (ptS (ptS (ptS pt29))) ShwS_lap0<|D' (v_build (ShwS_LinesOf_259 (cvl (lkS (lkS (lkS lk29))) rfl) rfl)) (ptS (ptS (ptS pt30)))<|d_eff rfl rfl (hlk hn rfl) (l_lit (ShwS_LinesOf_260 (cvl (lkS (lkS (lkS lk30))) rfl) rfl)) (ptS (ptS (ptS pt31))) ShwS_lap1<|d_nil<|?_
  refine e_ent ShwS_lj2_2 ?_
  refine E' (e_app (sc_own (lkS (lkS (lkS lk31))) (hga hn rfl) rfl ShwS_tk_3 (nb' rfl)) (lkS (lkS (lkS lk16))) (hga hn rfl) (ln_len _) (by omega) rfl (hs1 hn)) (ptS (ptS (ptS pt32))) ?_
  refine V' (v_mv (lkS (lkS (lkS lk32)))) pt5<|s_nil<|n_blk<|n_seq<|w_reg<|mv' lk20 (ptS (ptS (ptS pt14)))<|?_
  refine V' (v_add (lkS (lkS (lkS lk14))) lki (by omega) (by omega)) (ptS (ptS (ptS pt15))) ?_
  refine V' (v_mv (lkS (lkS (lkS lk15)))) pt20<|s_nil<|n_thn<|?_
  refine lU' (k+1) (by (try dsimp only);omega) (by (try dsimp only);(try simp only [setsT,setsE,z',s',rn',la',ln',Nat.reduceAdd]);exact bkE' 2 hn hlt (by repeat (first | exact wk0 | refine wka ?_ | refine wk1 rfl ?_ | refine wk1 (by first | rfl | exact ivx (by omega) | exact own_x hLn4 hLn4) ?_)) (by rw [hL4,shL_s];rfl))
 obtain rfl:k=l.length:=by omega
 rw [List.take_length]
 refine w_exit<|x_thn<|x_thn<|x_blk<|n_seq<|wr'<|mv' lk5 (ptS (ptS (ptS pt33)))<|V' (v_mv (lkS (lkS (lkS lk33)))) pt2<|s_nil<|?_
 refine n_seqw (ALe.iceR (hga hn rfl) gt2 (show List.take _ _=rows lnC (linesV (a,z,l)) from List.take_of_length_le (by rw [ln_len];exact Nat.le_refl _)) (by rw [ln_len];exact Nat.le_refl _) pt2 (hs1 hn)) ?_
 refine w_rets<|w_ret (rs1 (rr_t gt2))<|rtW'<|?_
 exact Wk.refl _
end Go.Proofs.YtgjchdhdopgkkaaGreatDoor
end
section
namespace Go.Proofs.YtgjchdhdopgkkaaGreatDoor
open Go.Ab Go.RowKit Civ
attribute [local simp] str_lt
def okL (l:List ByteArray):Prop := ∀ x∈l,x.size≤24
end Go.Proofs.YtgjchdhdopgkkaaGreatDoor
end
section
namespace Go.Proofs.YtgjchdhdopgkkaaGreatDoor
open Go.Ab Go.RowKit Civ
def PT {α:Type}(f:TS→α×TS) (P:α→Prop):Prop := ∀ t,okT t→P (f t).1∧okT (f t).2
theorem PT.bind {α β:Type}{f:TS→α×TS}{k:α→TS→β×TS}{P:α→Prop}{Q:β→Prop}(h:PT f P) (hk : ∀ a,P a→PT (k a) Q):PT (bind2 f k) Q:=fun t ho=>hk _ (h t ho).1 _ (h t ho).2
theorem PT.ret {α:Type}{P:α→Prop}{a:α}(h:P a):PT (ret2 a) P:=fun t ho=>⟨h,ho⟩
theorem pt_next:PT tNext (fun s=>s.size≤24):=fun t ho=>okT_next ho rfl
theorem pt_name:PT tName (fun s=>s.size≤24):=fun t ho=>⟨(okT_next ho (s:=(tNext t).1) (u:=(tNext t).2) rfl).1,okT_name ho rfl⟩
theorem pt_num (s:ByteArray) (a b:Int):PT (tNum s a b) (fun _=>True):=fun t ho=>⟨trivial,okT_num ho rfl⟩
theorem pt_year:PT tYear (fun _=>True):=pt_next.bind (k:=fun s=>tNum s 4 4) fun s _=>pt_num s 4 4
theorem pt_day:PT tDay (fun _=>True):=pt_next.bind (k:=fun s=>tNum s 1 2) fun s _=>pt_num s 1 2
theorem pt_to (f:Int):PT (tToN f) (fun _=>True):=pt_next.bind (k:=tTo f) fun s _=>fun t ho=>⟨trivial,okT_to ho rfl⟩
theorem pt_month:PT tMonth (fun _=>True):=fun t ho=>⟨trivial,okT_month ho rfl⟩
theorem pt_form:PT tForm (fun _=>True):=fun t ho=>⟨trivial,okT_form ho rfl⟩
theorem pt_clock (d:Int):PT (tClock d) (fun _=>True):=fun t ho=>⟨trivial,okT_clock ho rfl⟩
theorem pt_span:PT tSpanN (fun _=>True):=pt_next.bind (k:=tSpan) fun s _=>fun t ho=>⟨trivial,okT_span ho rfl⟩
theorem pt_letter:PT tLetter (fun s=>s.size≤24):=by
 intro t ho
 have h:=okT_next ho (s:=(tNext t).1) (u:=(tNext t).2) rfl
 unfold tLetter
 refine ⟨?_,?_⟩
 ·dsimp only;split
  ·decide
  ·exact h.1
 ·dsimp only;split
  ·exact h.2
  ·exact h.2
def okRul (r:Rul):Prop:=r.1.size≤maxLen∧r.2.2.2.2.2.2.2.2.size≤maxLen
theorem le_max {n:Nat}(h:n≤24):n≤maxLen:=by unfold maxLen;omega
theorem pt_rule:PT tRule okRul :=
 pt_name.bind fun nm h1=>pt_year.bind fun f _=>(pt_to f).bind fun _ _=>pt_month.bind fun m _=>pt_form.bind fun k _=>(pt_clock 1).bind fun c _=>pt_span.bind fun sv _=>pt_letter.bind fun l h2=>PT.ret ⟨le_max h1,le_max h2⟩
theorem pt_shift:PT tShift (fun _=>True):=fun t ho=>⟨trivial,okT_shift ho rfl⟩
theorem pt_rules:PT tRules (fun p=>p.2.size≤24):=by
 refine pt_next.bind (k:=tRulesS) fun s hs t ho=>⟨?_,okT_rules ho rfl⟩
 unfold tRulesS
 split
 ·exact Nat.zero_le 24
 ·split
  ·exact Nat.zero_le 24
  ·exact hs
theorem pt_format:PT tFormat (fun s=>s.size≤24):=by
 intro t ho
 have h:=okT_next ho (s:=(tNext t).1) (u:=(tNext t).2) rfl
 unfold tFormat
 refine ⟨h.1,?_⟩
 dsimp only;split
 ·exact h.2
 ·exact h.2
theorem pt_until:PT tUntil (fun _=>True) :=
 pt_year.bind fun y _=>pt_month.bind fun m _=>pt_day.bind fun d _=>(pt_clock 2).bind fun c _=>PT.bind (P:=fun _=>True) (fun t ho=>⟨trivial,by unfold tWall;dsimp only;split <;> exact ho⟩) fun _ _=>PT.ret trivial
theorem pt_end:PT tEnd (fun _=>True):=by
 intro t ho
 refine ⟨trivial,?_⟩
 unfold tEnd
 split
 ·exact ho
 ·exact (pt_until t ho).2
theorem pt_era:PT tEra okEra :=
 pt_shift.bind fun sh _=>pt_rules.bind fun r h1=>pt_format.bind fun f h2=>pt_end.bind fun u _=>PT.ret ⟨le_max h1,le_max h2⟩
theorem okSrc_era {s:Src}{x:Era}(h:okSrc s) (hx:okEra x):okSrc (withEra s x).1:=by
 refine ⟨h.1,?_,h.2.2⟩
 show ∀ z∈addEra s.2.1 x,_
 obtain ⟨a,z,l⟩:=s
 have h2:=h.2.1
 simp only at h2 ⊢
 rcases List.eq_nil_or_concat z with rfl | ⟨i,y,rfl⟩
 ·intro z hz;cases hz
 ·rw [List.concat_eq_append,addEra_snoc]
  intro z hz
  rcases List.mem_append.1 hz with hz | hz
  ·exact h2 z (by rw [List.concat_eq_append];exact List.mem_append_left _ hz)
  ·rw [List.mem_singleton] at hz
   subst hz
   have hy:=h2 y (by rw [List.concat_eq_append];simp)
   refine ⟨hy.1,fun e he=>?_⟩
   rcases List.mem_append.1 he with he | he
   ·exact hy.2 e he
   ·rw [List.mem_singleton] at he;subst he;exact hx
theorem pt_body {p:PS}(h:okSrc p.1):PT (bodyT p) (fun q=>okSrc q.1):=by
 unfold bodyT
 split
 ·exact pt_era.bind fun x hx=>PT.ret (okSrc_era h hx)
 ·refine pt_next.bind fun w _=>?_
  split
  ·refine pt_rule.bind fun r hr=>PT.ret ⟨fun y hy=>?_,h.2.1,h.2.2⟩
   rcases List.mem_append.1 hy with hy | hy
   ·exact h.1 y hy
   ·rw [List.mem_singleton] at hy;subst hy;exact hr
  ·split
   ·refine pt_name.bind fun n hn=>pt_era.bind fun x hx=>PT.ret (okSrc_era ⟨h.1,fun y hy=>?_,h.2.2⟩ hx)
    rcases List.mem_append.1 hy with hy | hy
    ·exact h.2.1 y hy
    ·rw [List.mem_singleton] at hy;subst hy;exact ⟨le_max hn,fun e he=>by cases he⟩
   ·split
    ·refine pt_name.bind fun a ha=>pt_name.bind fun b hb=>PT.ret ⟨h.1,h.2.1,fun y hy=>?_⟩
     rcases List.mem_append.1 hy with hy | hy
     ·exact h.2.2 y hy
     ·rw [List.mem_singleton] at hy;subst hy;exact ⟨le_max ha,le_max hb⟩
    ·exact fun t ho=>⟨h,ho⟩
theorem lineR_none {p q:PS}{x:Ln}{u:TS}(hB:bodyT p (x.2.2,false)=(q,u)) (h:u.2=true∨u.1≠[]∨x.2.1≠p.2):lineR p x=none:=lineR_bad (by unfold badT;rw [hB];exact h)
theorem lineR_some {p q:PS}{x:Ln}{u:TS}(hB:bodyT p (x.2.2,false)=(q,u)) (h1:u.2=false) (h2:u.1=[]) (h3:x.2.1=p.2):lineR p x=some q:=by
 have:=lineR_ok (p:=p) (x:=x) (by unfold badT;rw [hB];simp [h1,h2,h3])
 rw [this,hB]
def curS (s:Src) (o:Option Zon):Src:=(s.1,s.2.1++o.toList,s.2.2)
theorem curS_none {s:Src}:curS s none=s:=by unfold curS;simp
def zC (N v:Nat):Option Zon→List AV
 | none=>[]
 | some z=>[sv z.1,.own (N+5) v z.2.length]
def eC:Option Zon→List Era
 | none=>[]
 | some z=>z.2
theorem ltL_app {n:Nat}{b:List AV}(hb:AV.ltL n b=true) : ∀ {a:List AV},AV.ltL n a=true→AV.ltL n (a++b)=true
 | [],_=>hb
 | x::a,h=>by
  simp only [List.cons_append,AV.ltL,Bool.and_eq_true] at h ⊢
  exact ⟨h.1,ltL_app hb h.2⟩
theorem zc_lt {N v:Nat}{l:List Zon}{o:Option Zon}:AV.ltL (N+6) (rows zonC l++zC N v o)=true:=by
 refine ltL_app ?_ (zon_lt l)
 cases o <;> simp [zC,AV.ltL,AV.lt]
theorem zc_len {N v:Nat}{l:List Zon}{o:Option Zon}:(rows zonC l++zC N v o).length=(l.length+o.toList.length)*2:=by
 rw [List.length_append,zon_len]
 cases o <;> simp [zC] <;> omega
theorem zc_at {l:List Zon}{a b:AV}{off:Nat}(h:off=l.length*2+1):(rows zonC l++[a,b])[off]?=some b:=by
 subst h
 rw [List.getElem?_append_right (by rw [zon_len];omega),zon_len,Nat.add_sub_cancel_left];rfl
theorem zc_set {l:List Zon}{a b c:AV}{off:Nat}(h:off=l.length*2+1):setCells (rows zonC l++[a,b]) off [c]=rows zonC l++[a,c]:=by
 subst h
 simp only [setCells]
 rw [List.set_append_right _ _ (by rw [zon_len];omega),zon_len,Nat.add_sub_cancel_left];rfl
theorem zc_put {l:List Zon}{a b c:AV}:aPut (rows zonC l++[a,b]) (some (l.length*2+1)) c=rows zonC l++[a,c]:=zc_set rfl
theorem zc_at2 {l:List Zon}{N v:Nat}{a b:AV}{off:Nat}(h:off=l.length*2+1):(rows zonC l++zC N v none++[a,b])[off]?=some b:=by
 rw [show rows zonC l++zC N v none=rows zonC l from List.append_nil _];exact zc_at h
theorem zc_put2 {l:List Zon}{N v:Nat}{a b c:AV}:aPut (rows zonC l++zC N v none++[a,b]) (some (l.length*2+1)) c=rows zonC l++[a,c]:=by
 rw [show rows zonC l++zC N v none=rows zonC l from List.append_nil _];exact zc_put
theorem split_fields {s:ByteArray} : ∀ x∈(splitL s).1,∀ f∈x.2.2,f.size≤24:=by
 intro x hx f hf
 have h:=splitL_good x hx
 unfold lineE at h
 split at h
 ·cases h
 ·split at h
  ·cases h
  ·have : ∀ {fs:List ByteArray},firstE fs=0 → ∀ f∈fs,fieldE f=0:=by
    intro fs
    induction fs with
    | nil=>intro _ f hf;cases hf
    | cons g fs ih =>
     intro h f hf
     rw [firstE] at h
     split at h
     ·rename_i h1;exact absurd h h1
     ·rename_i h1
      rcases List.mem_cons.1 hf with rfl | hf
      ·exact Decidable.of_not_not h1
      ·exact ih h f hf
   exact (fieldE_all (this h f hf)).2
theorem split_len {s:ByteArray}:(splitL s).1.length≤200:=by
 unfold splitL
 split
 ·simp
 ·split
  ·rename_i h2;rw [linesL_bad h2];simp
  ·split
   ·simp
   ·omega
end Go.Proofs.YtgjchdhdopgkkaaGreatDoor
end
section
namespace Go.Proofs.YtgjchdhdopgkkaaGreatDoor
open Go.Ab Go.RowKit Civ
attribute [local simp] rul_lt era_lt zon_lt lnk_lt str_lt ln_lt zc_lt
section
theorem SrcY_ParseOf_15 {τ:Operand→AV}:fillAV τ [] [(.sl 0 0 true []),(.sl 0 0 true []),(.sl 0 0 true [])]=some [(.sl 0 0 true []),(.sl 0 0 true []),(.sl 0 0 true [])]:=rfl
theorem SrcY_sc0_3 {a0 a1 a2 c0 c1 c2:AV}{l:List AV}:setCells (a0::a1::a2::l) 0 [c0,c1,c2]=c0::c1::c2::l:=rfl
theorem SrcY_tk0_3 {a0 a1 a2:AV}{l:List AV}:((a0::a1::a2::l).drop 0).take 3=[a0,a1,a2]:=rfl
theorem SrcY_ParseOf_33 {τ:Operand→AV}{y0:Operand}{x0_0:AV}(h0:cellsV (τ y0)=some [x0_0]) (l0:[x0_0].all leaf=true):fillAV τ [(0,1,y0)] [(.sl 0 0 true []),(.v (.bool false))]=some [x0_0,(.v (.bool false))]:=by
 simp only [fillAV,h0,l0]
 rfl
theorem SrcY_sc0_2 {a0 a1 c0 c1:AV}{l:List AV}:setCells (a0::a1::l) 0 [c0,c1]=c0::c1::l:=rfl
theorem SrcY_ParseOf_78 {τ:Operand→AV}{y0:Operand}{x0_0 x0_1 x0_2 x0_3 x0_4 x0_5 x0_6 x0_7 x0_8 x0_9 x0_10:AV}(h0:cellsV (τ y0)=some [x0_0,x0_1,x0_2,x0_3,x0_4,x0_5,x0_6,x0_7,x0_8,x0_9,x0_10]) (l0:[x0_0,x0_1,x0_2,x0_3,x0_4,x0_5,x0_6,x0_7,x0_8,x0_9,x0_10].all leaf=true):fillAV τ [(0,11,y0)] [(.v (.string ⟨#[]⟩)),(.v (.int .i64 0)),(.v (.int .i64 0)),(.v (.int .i64 0)),(.v (.int .i64 0)),(.v (.int .i64 0)),(.v (.int .i64 0)),(.v (.int .i64 0)),(.v (.int .i64 0)),(.v (.int .i64 0)),(.v (.string ⟨#[]⟩))]=some [x0_0,x0_1,x0_2,x0_3,x0_4,x0_5,x0_6,x0_7,x0_8,x0_9,x0_10]:=by
 simp only [fillAV,h0,l0]
 rfl
theorem SrcY_tk_11 {a0 a1 a2 a3 a4 a5 a6 a7 a8 a9 a10:AV}{l:List AV}:(a0::a1::a2::a3::a4::a5::a6::a7::a8::a9::a10::l).take 11=[a0,a1,a2,a3,a4,a5,a6,a7,a8,a9,a10]:=rfl
theorem SrcY_sc0_1 {a0 c0:AV}{l:List AV}:setCells (a0::l) 0 [c0]=c0::l:=rfl
theorem SrcY_ParseOf_146 {τ:Operand→AV}:fillAV τ [] [(.sl 0 0 true []),(.sl 0 0 true []),(.sl 0 0 true [])]=some [(.sl 0 0 true []),(.sl 0 0 true []),(.sl 0 0 true [])]:=rfl
theorem SrcY_ParseOf_86 {τ:Operand→AV}{y0:Operand}{x0_0:AV}(h0:cellsV (τ y0)=some [x0_0]) (l0:[x0_0].all leaf=true):fillAV τ [(0,1,y0)] [(.v (.string ⟨#[]⟩)),(.sl 0 0 true [])]=some [x0_0,(.sl 0 0 true [])]:=by
 simp only [fillAV,h0,l0]
 rfl
theorem SrcY_sc0_10 {a0 a1 a2 a3 a4 a5 a6 a7 a8 a9 c0 c1 c2 c3 c4 c5 c6 c7 c8 c9:AV}{l:List AV}:setCells (a0::a1::a2::a3::a4::a5::a6::a7::a8::a9::l) 0 [c0,c1,c2,c3,c4,c5,c6,c7,c8,c9]=c0::c1::c2::c3::c4::c5::c6::c7::c8::c9::l:=rfl
theorem SrcY_tk0_10 {a0 a1 a2 a3 a4 a5 a6 a7 a8 a9:AV}{l:List AV}:((a0::a1::a2::a3::a4::a5::a6::a7::a8::a9::l).drop 0).take 10=[a0,a1,a2,a3,a4,a5,a6,a7,a8,a9]:=rfl
theorem SrcY_ParseOf_95 {τ:Operand→AV}{y0:Operand}{x0_0 x0_1 x0_2 x0_3 x0_4 x0_5 x0_6 x0_7 x0_8 x0_9:AV}(h0:cellsV (τ y0)=some [x0_0,x0_1,x0_2,x0_3,x0_4,x0_5,x0_6,x0_7,x0_8,x0_9]) (l0:[x0_0,x0_1,x0_2,x0_3,x0_4,x0_5,x0_6,x0_7,x0_8,x0_9].all leaf=true):fillAV τ [(0,10,y0)] [(.v (.int .i64 0)),(.v (.string ⟨#[]⟩)),(.v (.int .i64 0)),(.v (.string ⟨#[]⟩)),(.v (.bool false)),(.v (.int .i64 0)),(.v (.int .i64 0)),(.v (.int .i64 0)),(.v (.int .i64 0)),(.v (.int .i64 0))]=some [x0_0,x0_1,x0_2,x0_3,x0_4,x0_5,x0_6,x0_7,x0_8,x0_9]:=by
 simp only [fillAV,h0,l0]
 rfl
theorem SrcY_tk_10 {a0 a1 a2 a3 a4 a5 a6 a7 a8 a9:AV}{l:List AV}:(a0::a1::a2::a3::a4::a5::a6::a7::a8::a9::l).take 10=[a0,a1,a2,a3,a4,a5,a6,a7,a8,a9]:=rfl
theorem SrcY_sc1_1 {a0 a1 c0:AV}{l:List AV}:setCells (a0::a1::l) 1 [c0]=a0::c0::l:=rfl
theorem SrcY_tk0_2 {a0 a1:AV}{l:List AV}:((a0::a1::l).drop 0).take 2=[a0,a1]:=rfl
theorem SrcY_ParseOf_102 {τ:Operand→AV}{y0:Operand}{x0_0 x0_1:AV}(h0:cellsV (τ y0)=some [x0_0,x0_1]) (l0:[x0_0,x0_1].all leaf=true):fillAV τ [(0,2,y0)] [(.v (.string ⟨#[]⟩)),(.sl 0 0 true [])]=some [x0_0,x0_1]:=by
 simp only [fillAV,h0,l0]
 rfl
theorem SrcY_hl10 {h:AH}{n:Nat}(hn:h.length=n) {e0 e1 e2 e3 e4 e5 e6 e7 e8 e9:Ent}:(h++[e0,e1,e2,e3,e4,e5,e6,e7,e8,e9]).length=n+10:=by subst hn;simp
theorem SrcY_ha10 {h:AH}{e0 e1 e2 e3 e4 e5 e6 e7 e8 e9 e:Ent}:(h++[e0,e1,e2,e3,e4,e5,e6,e7,e8,e9])++[e]=h++[e0,e1,e2,e3,e4,e5,e6,e7,e8,e9,e]:=by simp
theorem SrcY_tk_2 {a0 a1:AV}{l:List AV}:(a0::a1::l).take 2=[a0,a1]:=rfl
theorem SrcY_ParseOf_123 {τ:Operand→AV}{y0:Operand}{x0_0 x0_1:AV}(h0:cellsV (τ y0)=some [x0_0,x0_1]) (l0:[x0_0,x0_1].all leaf=true):fillAV τ [(0,2,y0)] [(.v (.string ⟨#[]⟩)),(.v (.string ⟨#[]⟩))]=some [x0_0,x0_1]:=by
 simp only [fillAV,h0,l0]
 rfl
theorem SrcY_sc2_1 {a0 a1 a2 c0:AV}{l:List AV}:setCells (a0::a1::a2::l) 2 [c0]=a0::a1::c0::l:=rfl
theorem SrcY_ParseOf_63 {τ:Operand→AV}{y0:Operand}{x0_0 x0_1 x0_2 x0_3 x0_4 x0_5 x0_6 x0_7 x0_8 x0_9:AV}(h0:cellsV (τ y0)=some [x0_0,x0_1,x0_2,x0_3,x0_4,x0_5,x0_6,x0_7,x0_8,x0_9]) (l0:[x0_0,x0_1,x0_2,x0_3,x0_4,x0_5,x0_6,x0_7,x0_8,x0_9].all leaf=true):fillAV τ [(0,10,y0)] [(.v (.int .i64 0)),(.v (.string ⟨#[]⟩)),(.v (.int .i64 0)),(.v (.string ⟨#[]⟩)),(.v (.bool false)),(.v (.int .i64 0)),(.v (.int .i64 0)),(.v (.int .i64 0)),(.v (.int .i64 0)),(.v (.int .i64 0))]=some [x0_0,x0_1,x0_2,x0_3,x0_4,x0_5,x0_6,x0_7,x0_8,x0_9]:=by
 simp only [fillAV,h0,l0]
 rfl
theorem SrcY_lap0 { e:Ent}:([]:AH)++[e]=[e]:=rfl
theorem SrcY_lj8_1 {e0 e1 e2 e3 e4 e5 e6 e7 d0:Ent}:([e0,e1,e2,e3,e4,e5,e6,e7]:AH)++[d0]=[e0,e1,e2,e3,e4,e5,e6,e7,d0]:=rfl
theorem SrcY_ParseOf_159 {τ:Operand→AV}:fillAV τ [] [(.sl 0 0 true []),(.sl 0 0 true []),(.sl 0 0 true [])]=some [(.sl 0 0 true []),(.sl 0 0 true []),(.sl 0 0 true [])]:=rfl
theorem SrcY_ParseOf_168 {τ:Operand→AV}:fillAV τ [] [(.sl 0 0 true []),(.sl 0 0 true []),(.sl 0 0 true [])]=some [(.sl 0 0 true []),(.sl 0 0 true []),(.sl 0 0 true [])]:=rfl
end
def c19:AC:=(.seq (.reg [Oo 2 (.new 26 3 [(.sl 0 0 true []),(.sl 0 0 true []),(.sl 0 0 true [])]),Oo 3 (.mv (Ci 0)),Oo 4 (.mv (Ci 0))]) (.seq (.reg [Mv 20 0,Oo 21 (.call (.func 48) [(.tmp 20)]),Mv 19 21,Ex 22 19 0,Ex 23 19 1,Ex 24 19 2,Mv 5 22,Mv 6 23,Mv 7 24]) (.seq (.seq (.reg [Mv 25 7,Oo 26 (.bin .neq (.tmp 25) (Ci 0))]) (.cond (.tmp 26) (.seq (.reg [Oo 27 (.build [(.sl 0 0 true []),(.sl 0 0 true []),(.sl 0 0 true [])] []),Mv 28 6,Mv 29 7,⟨none,none,(.store 3 (.tmp 2) (.tmp 27))⟩,Mv 3 28,Mv 4 29]) .ret) .skip)) (.seq (.reg [Oo 8 (.new 26 3 [(.sl 0 0 true []),(.sl 0 0 true []),(.sl 0 0 true [])])]) (.seq (.reg [Oo 9 (.mv (.const (.bool false)))]) (.seq (.seq (.reg [Oo 10 (.mv (Ci 0))]) (.block 0 (.loop (.seq (.seq (.reg [Mv 30 10,Mv 31 5,Oo 32 (.len false (.tmp 31)),Oo 33 (.bin .lss (.tmp 30) (.tmp 32))]) (.cond (.tmp 33) .skip (.exit 0))) (.seq (.block 1 (.seq (.reg [Mv 36 5,Mv 37 10,Oo 38 (.ia 3 (.tmp 36) (.tmp 37)),Fa 39 2 38,Ld 40 39,Oo 41 (.build [(.sl 0 0 true []),(.v (.bool false))] [(0,(1,(.tmp 40)))]),Oo 11 (.new 90 2 [(.sl 0 0 true []),(.v (.bool false))]),⟨none,none,(.store 2 (.tmp 11) (.tmp 41))⟩]) (.seq (.reg [Mv 42 9,Mv 12 42]) (.seq (.reg [Oo 13 (.mv (.const (.string ⟨#[]⟩)))]) (.seq (.seq (.reg [Mv 43 9,Oo 44 (.un .not (.tmp 43))]) (.cond (.tmp 44) (.reg [Oo 45 (.call (.func 49) [(.tmp 11)]),Mv 13 45]) .skip)) (.seq (.block 2 (.seq (.reg [Mv 48 9,Mv 47 48]) (.cond (.tmp 47) (.seq (.reg [Fa 49 1 8,Ld 50 49,Oo 51 (.len false (.tmp 50)),Oo 52 (.bin .sub (.tmp 51) (Ci 1)),Mv 14 52]) (.seq (.reg [Oo 53 (.call (.func 50) [(.tmp 11)]),Oo 15 (.new 64 10 [(iv 0),Ss,(iv 0),Ss,(.v (.bool false)),(iv 0),(iv 0),(iv 0),(iv 0),(iv 0)]),⟨none,none,(.store 10 (.tmp 15) (.tmp 53))⟩]) (.seq (.drw [Fa 54 1 8,Oo 55 (.loadR false 1 (.tmp 54)),Mv 56 14,Fa 57 1 8,Ld 58 57,Mv 59 14,Oo 60 (.ia 2 (.tmp 58) (.tmp 59)),Fa 61 1 60,Ld 62 61,Oo 63 (.load true 10 (.tmp 15)),Oo 64 (.lit 64 10 1 [(iv 0),Ss,(iv 0),Ss,(.v (.bool false)),(iv 0),(iv 0),(iv 0),(iv 0),(iv 0)] [(0,(10,(.tmp 63)))])] [true,false,false,false] [Oo 65 (.app 64 10 96 (.tmp 62) (.tmp 64)),Oo 66 (.ia 2 (.tmp 55) (.tmp 56)),Fa 67 1 66,⟨none,none,(.store 1 (.tmp 67) (.tmp 65))⟩]) (.reg [Fa 68 4 15,Ld 69 68,Oo 70 (.un .not (.tmp 69)),Mv 9 70])))) (.seq (.reg [Mv 72 13,Oo 73 (.bin .eql (.tmp 72) (.const (.string ⟨#[82,117,108,101]⟩))),Mv 71 73]) (.cond (.tmp 71) (.orPan (.drw [Fa 74 0 8,Oo 75 (.loadR false 1 (.tmp 74))] [true,true,false,false,false] [Oo 76 (.call (.func 51) [(.tmp 11)]),Oo 77 (.lit 48 11 1 [Ss,(iv 0),(iv 0),(iv 0),(iv 0),(iv 0),(iv 0),(iv 0),(iv 0),(iv 0),Ss] [(0,(11,(.tmp 76)))]),Oo 78 (.app 48 11 104 (.tmp 75) (.tmp 77)),Fa 79 0 8,⟨none,none,(.store 1 (.tmp 79) (.tmp 78))⟩]) (.tmp 11) 51 [Fa 74 0 8,Ld 75 74,Mv 76 11,Oo 77 (.mv (.const (.bool false))),Oo 78 (.mv (.const (.bool false))),Oo 79 (.mv (.const (.bool false))),⟨none,none,(.mv (.const (.bool false)))⟩] 76) (.seq (.reg [Mv 81 13,Oo 82 (.bin .eql (.tmp 81) (.const (.string ⟨#[90,111,110,101]⟩))),Mv 80 82]) (.cond (.tmp 80) (.seq (.reg [Oo 83 (.call (.func 52) [(.tmp 11)]),Oo 84 (.build [Ss,(.sl 0 0 true [])] [(0,(1,(.tmp 83)))]),Oo 16 (.new 52 2 [Ss,(.sl 0 0 true [])]),⟨none,none,(.store 2 (.tmp 16) (.tmp 84))⟩]) (.seq (.reg [Oo 85 (.call (.func 50) [(.tmp 11)]),Oo 17 (.new 64 10 [(iv 0),Ss,(iv 0),Ss,(.v (.bool false)),(iv 0),(iv 0),(iv 0),(iv 0),(iv 0)]),⟨none,none,(.store 10 (.tmp 17) (.tmp 85))⟩]) (.seq (.reg [Fa 86 1 16,Ld 87 86,Oo 88 (.load true 10 (.tmp 17)),Oo 89 (.lit 64 10 1 [(iv 0),Ss,(iv 0),Ss,(.v (.bool false)),(iv 0),(iv 0),(iv 0),(iv 0),(iv 0)] [(0,(10,(.tmp 88)))]),Oo 90 (.app 64 10 96 (.tmp 87) (.tmp 89)),Fa 91 1 16,⟨none,none,(.store 1 (.tmp 91) (.tmp 90))⟩]) (.seq (.reg [Fa 92 1 8,Ld 93 92,Oo 94 (.load true 2 (.tmp 16)),Oo 95 (.lit 52 2 1 [Ss,(.sl 0 0 true [])] [(0,(2,(.tmp 94)))]),Oo 96 (.app 52 2 40 (.tmp 93) (.tmp 95)),Fa 97 1 8,⟨none,none,(.store 1 (.tmp 97) (.tmp 96))⟩]) (.reg [Fa 98 4 17,Ld 99 98,Oo 100 (.un .not (.tmp 99)),Mv 9 100]))))) (.seq (.reg [Mv 102 13,Oo 103 (.bin .eql (.tmp 102) (.const (.string ⟨#[76,105,110,107]⟩))),Mv 101 103]) (.cond (.tmp 101) (.seq (.reg [Oo 18 (.new 55 2 [Ss,Ss])]) (.seq (.reg [Oo 104 (.call (.func 52) [(.tmp 11)]),Fa 105 0 18,⟨none,none,(.store 1 (.tmp 105) (.tmp 104))⟩]) (.seq (.reg [Oo 106 (.call (.func 52) [(.tmp 11)]),Fa 107 1 18,⟨none,none,(.store 1 (.tmp 107) (.tmp 106))⟩]) (.reg [Fa 108 2 8,Ld 109 108,Oo 110 (.load true 2 (.tmp 18)),Oo 111 (.lit 55 2 1 [Ss,Ss] [(0,(2,(.tmp 110)))]),Oo 112 (.app 55 2 32 (.tmp 109) (.tmp 111)),Fa 113 2 8,⟨none,none,(.store 1 (.tmp 113) (.tmp 112))⟩])))) (.reg [Fa 46 1 11,⟨none,none,(.store 1 (.tmp 46) (.const (.bool true)))⟩])))))))))) (.seq (.reg [Fa 114 1 11,Ld 115 114,Mv 116 115,Of 117 116 (.fa 0 (.tmp 11)),Of 118 116 (.load false 1 (.tmp 117)),Of 119 116 (.len false (.tmp 118)),Of 120 116 (.bin .gtr (.tmp 119) (Ci 0)),Oo 121 (.pick (.tmp 116) (.const (.bool true)) (.tmp 120)),Mv 122 121,Of 123 122 (.mv (.tmp 5)),Of 124 122 (.mv (.tmp 10)),Of 125 122 (.ia 3 (.tmp 123) (.tmp 124)),Of 126 122 (.fa 1 (.tmp 125)),Of 127 122 (.load false 1 (.tmp 126)),Of 128 122 (.mv (.tmp 12)),Of 129 122 (.eqb true (.tmp 127) (.tmp 128)),Oo 130 (.pick (.tmp 122) (.const (.bool true)) (.tmp 129))]) (.cond (.tmp 130) (.seq (.drwU [[],[0],[0,1],[0],[0],[0],[1,2,3,4,5],[],[]] [Oo 131 (.build [(.sl 0 0 true []),(.sl 0 0 true []),(.sl 0 0 true [])] []),Mv 132 5,Mv 133 10,Oo 134 (.ia 3 (.tmp 132) (.tmp 133)),Fa 135 0 134,Ld 136 135,⟨none,none,(.store 3 (.tmp 2) (.tmp 131))⟩,Mv 3 136,Oo 4 (.mv (Ci 1))]) .ret) .skip)))))))) (.reg [Mv 34 10,Oo 35 (.bin .add (.tmp 34) (Ci 1)),Mv 10 35])))))) (.seq (.seq (.reg [Mv 137 9]) (.cond (.tmp 137) (.seq (.reg [Oo 138 (.build [(.sl 0 0 true []),(.sl 0 0 true []),(.sl 0 0 true [])] []),⟨none,none,(.store 3 (.tmp 2) (.tmp 138))⟩,Oo 3 (.mv (Ci 0)),Oo 4 (.mv (Ci 1))]) .ret) .skip)) (.seq (.reg [Oo 139 (.load true 3 (.tmp 8)),Oo 140 (.call (.func 9) [(.tmp 139)]),Mv 7 140]) (.seq (.seq (.reg [Mv 141 7,Oo 142 (.bin .neq (.tmp 141) (Ci 0))]) (.cond (.tmp 142) (.seq (.reg [Oo 143 (.build [(.sl 0 0 true []),(.sl 0 0 true []),(.sl 0 0 true [])] []),Mv 144 7,⟨none,none,(.store 3 (.tmp 2) (.tmp 143))⟩,Oo 3 (.mv (Ci 0)),Mv 4 144]) .ret) .skip)) (.seq (.reg [Oo 145 (.load true 3 (.tmp 8)),Mv 146 7,⟨none,none,(.store 3 (.tmp 2) (.tmp 145))⟩,Oo 3 (.mv (Ci 0)),Mv 4 146]) .ret))))))))))
theorem k19:compF Tryz.prog 19=some ⟨c19,[(.cell 2 true 3),(.tmp 3),(.tmp 4)],147⟩:=by kernel_rfl
theorem trule_e {t t1:TS}{r:Rul}{id:Nat}{h:AH}(ho:okT t) (he:tRule t=(r,t1)) (h1:h[id]?=some (takE t)):ACalls Tryz.prog 51 [.ptr id 0 0] h fun x h'=>x = .ret (.agg (rulC r))∧h'=h.set id (takE t1):=by
 have:=trule_a ho h1
 rw [he] at this
 exact this
theorem tera_e {t t1:TS}{r:Era}{id:Nat}{h:AH}(ho:okT t) (he:tEra t=(r,t1)) (h1:h[id]?=some (takE t)):ACalls Tryz.prog 50 [.ptr id 0 0] h fun x h'=>x = .ret (.agg (eraC r))∧h'=h.set id (takE t1):=by
 have:=tera_a ho h1
 rw [he] at this
 exact this
theorem wk_srcZ {n e:AV}:Wk (.tup [.agg [.sl 0 0 true [],.sl 0 0 true [],.sl 0 0 true []],n,e]) (.tup [.agg (srcC srcZ),n,e]) :=
 Wk.tup (wkw (Wk.agg (wkw Wk.nilF (wkw Wk.nilF (wkw Wk.nilF wk0)))) (wk1 rfl (wk1 rfl wk0)))
theorem okSrc_Z:okSrc (curS srcZ none):=by rw [curS_none];exact ⟨fun _ h=>(by cases h),fun _ h=>(by cases h),fun _ h=>(by cases h)⟩
theorem lt26 {N:Nat}:decide (N+2<N+6)=true:=by simp
attribute [local simp] lt26
theorem lt36 {N:Nat}:decide (N+3<N+6)=true:=by simp
attribute [local simp] lt36
theorem lt46 {N:Nat}:decide (N+4<N+6)=true:=by simp
attribute [local simp] lt46
theorem lt56 {N:Nat}:decide (N+5<N+6)=true:=by simp
attribute [local simp] lt56
set_option maxHeartbeats 8000000 in
theorem rparse_a {s:ByteArray}{h:AH}:ACalls Tryz.prog 19 [sv s] h fun x h'=>h'=h∧x = .ret (.tup [.agg (srcC (parseV s).1),iv (parseV s).2.1,iv (parseV s).2.2]):=by
 obtain ⟨L,hL⟩ : ∃ L,L=(splitL s).1:=⟨_,rfl⟩
 have hf24:=split_fields (s:=s)
 have hL200:=split_len (s:=s)
 rw [←hL] at hf24 hL200
 have hV0:=parseV_eq s
 rw [←hL] at hV0
 refine tW' k19 fun N hn hlt hlA hbd=>?_
 simp only [tA',AV.bdL,AV.bd,and_true,true_and] at hbd ⊢
 refine wr'<|E' (e_new (hl0 hn) ha0) pt2<|mv' lki pt3<|mv' lki pt4<|sn'<|wr'<|mv' lk0 pt20<|s_callp (mp1 lk20 mp0) (rsplitOf_a) pt21<|?_
 rw [←hL]
 refine mv' lk21 pt19<|V' (v_ext lk19 gt0) pt22<|V' (v_ext lk19 gt1) pt23<|V' (v_ext lk19 gt2) pt24<|mv' lk22 pt5<|mv' lk23 pt6<|mv' lk24 pt7<|sn'<|w_seq<|wr'<|mv' lk7 pt25<|V' (v_neq lk25 lki) pt26<|?_
 refine sn' ?_
 refine cd' lk26 (fun hc1=>?_) (fun hc1=>?_)
 ·have hV:parseV s=(srcZ,(splitL s).2.1,(splitL s).2.2):=by rw [hV0];exact if_pos hc1
  refine wr'<|V' (v_build SrcY_ParseOf_15) pt27<|mv' lk6 pt28<|mv' lk7 pt29<|E' (e_store lk2 (cvl lk27 rfl) (hga hn rfl) rfl (nb' rfl) rfl SrcY_sc0_3 (hs0 hn)) ptn<|mv' lk28 pt3<|mv' lk29 pt4<|sn'<|w_rets<|r_thn<|w_ret (rsn (rm1 (rr_c gt2 (hga hn rfl) (ld1 SrcY_tk0_3 rfl)) (rm1 (rr_t gt3) (rm1 (rr_t gt4) rm0))))<|rtW'<|?_
  rw [hV];exact wk_srcZ
 have hV:parseV s=outP L:=by rw [hV0];exact if_neg hc1
 clear hV0
 refine w_skip<|n_seq<|wr'<|E' (e_new (hl1 hn) ha1) pt8<|s_nil<|?_
 refine n_seqw (ALe.trans (ALe.own0Cell (st':=11) (ty:=48) (hga hn rfl) gt0 (hl2 hn) pt0 (Eq.trans (congrArg (fun z=>List.set z _ _) ha2) (hs1 hn))) (ALe.trans (ALe.own0Cell (st':=2) (ty:=52) (hga hn rfl) gt1 (hl3 hn) pt1 (Eq.trans (congrArg (fun z=>List.set z _ _) ha3) (hs1 hn))) (ALe.own0Cell (st':=2) (ty:=55) (hga hn rfl) gt2 (hl4 hn) pt2 (Eq.trans (congrArg (fun z=>List.set z _ _) ha4) (hs1 hn))))) ?_
 refine wr'<|mv' lkb pt9<|s_nil<|n_seqw ((ALe.newEnt (ty:=64) (st:=10) ha5))<|w_seq<|wr'<|mv' lki pt10<|sn'<|w_block<|?_
 refine w_lp (ι:=Nat×Src×Option Zon×Nat×Nat×Nat×Nat×Nat) (fun (x_:Nat×Src×Option Zon×Nat×Nat×Nat×Nat×Nat)=>match x_ with | ⟨k,sr,o,m,v1,v2,v3,v4⟩=>[(9,bv o.isSome),(10,iv (k:Int)),(3,.any),(4,.any)]++rn' 11 8++rn' 30 107) (fun (x_:Nat×Src×Option Zon×Nat×Nat×Nat×Nat×Nat)=>match x_ with | ⟨k,sr,o,m,v1,v2,v3,v4⟩=>[(1,.mk 0 26 3 [.own (N+2) v1 sr.1.length,.own (N+3) v2 m,.own (N+4) v3 sr.2.2.length]),(2,.mk v1 48 11 (rows rulC sr.1)),(3,.mk v2 52 2 (rows zonC sr.2.1++zC N v4 o)),(4,.mk v3 55 2 (rows lnkC sr.2.2)),(5,.mk v4 64 10 (rows eraC (eC o)))]) (fun (x_:Nat×Src×Option Zon×Nat×Nat×Nat×Nat×Nat)=>match x_ with | ⟨k,sr,o,m,v1,v2,v3,v4⟩=>k≤L.length∧m=sr.2.1.length+o.toList.length∧sr.1.length≤k∧m≤k∧sr.2.2.length≤k∧(eC o).length≤k∧okSrc (curS sr o)∧runR (srcZ,false) L=runR (curS sr o,o.isSome) (L.drop k)) (fun (x_:Nat×Src×Option Zon×Nat×Nat×Nat×Nat×Nat)=>match x_ with | ⟨k,sr,o,m,v1,v2,v3,v4⟩=>L.length-k) (⟨0,srcZ,none,0,0,0,0,0⟩) (by exact ⟨Nat.zero_le _,rfl,Nat.le_refl _,Nat.le_refl _,Nat.le_refl _,Nat.le_refl _,okSrc_Z,rfl⟩) ?_
 rintro ⟨k,sr,o,m,v1,v2,v3,v4⟩ hi1
 try simp only [setsT,setsE,z',s',rn',la',ln',Nat.reduceAdd]
 obtain ⟨hk1,hm,hk2,hk3,hk4,hk5,hok,hrun⟩:=hi1
 refine w_seq<|wr'<|mv' lk10 pt30<|mv' lk5 pt31<|V' (v_lenL lk31) pt32<|V' (v_lss lk30 lk32) pt33<|sn'<|?_
 refine cd' lk33 (fun hc2=>?_) (fun hc2=>?_)
 ·have hk:k<L.length:=by omega
  have hfs:=hf24 _ (List.getElem_mem hk)
  have hokt:okT (L[k].2.2,false):=hfs
  rw [runR_at hk] at hrun
  have hPT:=pt_body (p:=(curS sr o,o.isSome)) hok (L[k].2.2,false) hokt
  refine w_skip<|n_seq<|w_seq<|w_block<|wr'<|mv' lk5 pt36<|mv' lk10 pt37<|?_
  refine V' (v_iaR lk36 lk37 ln_len1 (nb' rfl) (by first | rfl | omega) (by omega) (by first | rfl | omega) rfl) pt38 ?_
  refine V' (v_far lk38 dp2) pt39<|V' (v_loadr lk39 gt0) pt40<|V' (v_build (SrcY_ParseOf_33 (cvl lk40 rfl) rfl)) pt41<|E' (e_new (hl6 hn) ha6) pt11<|E' (e_store lk11 (cvl lk41 rfl) (hga hn rfl) rfl (nb' rfl) rfl SrcY_sc0_2 (hs6 hn)) ptn<|s_nil<|n_seqw ((ALe.same (WkL.refl _) rfl))<|wr'<|?_
  by_cases hs36:o=none
  ·subst hs36
   simp only [Option.isSome_none] at hrun hPT
   have hm':m=sr.2.1.length:=by simpa using hm
   subst hm'
   obtain ⟨w,t1,e1⟩ : ∃ a b,tNext (L[k].2.2,false)=(a,b):=⟨_,_,rfl⟩
   obtain ⟨z1,o1⟩:=okT_next hokt e1
   refine mv' lk9 pt42<|mv' lk42 pt12<|sn'<|wr'<|mv' lks pt13<|sn'<|w_seq<|wr'<|mv' lk9 pt43<|?_
   refine V' ((by first | exact v_not lk43 | exact v_notB lk43)) pt44 ?_
   refine sn' ?_
   refine w_condK lk44 (by rfl) ?_
   refine w_reg<|s_calls (mp1 lk11 mp0) (tnext_e e1 (hga hn rfl)) (hs6 hn) pt45<|mv' lk45 pt13<|sn'<|w_seq<|w_block<|wr'<|mv' lk9 pt48<|mv' lk48 pt47<|sn'<|?_
   refine w_condKF lk47 (by rfl) ?_
   refine wr'<|mv' lk13 (ptS pt2)<|V' (v_eqlS (lkS lk2) lks) (ptS pt3)<|mv' (lkS lk3) (ptS pt1)<|sn'<|?_
   refine cd' (lkS lk1) (fun hc5=>?_) (fun hc5=>?_)
   ·have hwR:w=ruleA:=hc5
    obtain ⟨r,u,eR⟩ : ∃ a b,tRule t1=(a,b):=⟨_,_,rfl⟩
    have hB:bodyT (curS sr none,false) (L[k].2.2,false)=((curS (sr.1++[r],sr.2.1,sr.2.2) none,false),u):=by unfold bodyT;rw [if_neg (by simp)];simp only [bind2,e1,if_pos hwR,ret2,eR];rfl
    have hq:True:=trivial
    refine w_orl<|w_drwR [N+1]<|D' (v_fap0 lk8) (ptS pt4)<|?_
    refine d_ldP (lkS lk4) (hga hn rfl) (ld0 gt0) (by simp) (ptS pt5) ?_
    refine d_nil<|k_e_nil<|?_
    refine k_calls (mp1 lk11 mp0) (trule_e o1 eR (hga hn rfl)) (hs6 hn) (by intro i hi;simp only [cond_true,List.mem_cons,List.not_mem_nil,or_false] at hi;subst hi;first | rfl | exact (hga hn rfl).trans (hga hn rfl).symm) (ptS pt6) ?_
    refine k_eff rfl rfl (e_lit (SrcY_ParseOf_78 (cvl (lkS lk6) rfl) rfl) (hl7 hn) ha7) (by intro i hi;simp only [cond_true,List.mem_cons,List.not_mem_nil,or_false] at hi;subst hi;first | rfl | exact (hga hn rfl).trans (hga hn rfl).symm) (ptS pt7) ?_
    refine k_eff rfl rfl (e_app (sc_own (lkS lk7) (hga hn rfl) rfl SrcY_tk_11 (nb' rfl)) (lkS lk5) (hga hn rfl) (rul_len _) (by omega) rfl (hs2 hn)) (by intro i hi;simp at hi) (ptS pt8) ?_
    refine k_val rfl (v_fap0 lk8) (ptS pt9) ?_
    refine k_eff rfl rfl (e_store (lkS lk9) (cvl (lkS lk8) rfl) (hga hn rfl) rfl (nb' rfl) rfl SrcY_sc0_1 (hs1 hn)) (by intro i hi;simp at hi) ptn ?_
    refine k_nil<|n_blk<|n_seq<|wr'<|V' (v_fap0 lk11) (ptS pt44)<|V' (v_loadp (lkS lk44) (hga hn rfl) gt1) (ptS pt45)<|mv' (lkS lk45) (ptS pt46)<|?_
    refine s_splitB (gtS gt46) (ptS pt46) (ptS pt46) (fun hg116=>?_) (fun hg116=>?_)
    ·have hN:=lineR_none hB (.inl hg116)
     refine s_no (gtS gt46) (ptS pt47)<|s_no (gtS gt46) (ptS pt48)<|s_no (gtS gt46) (ptS pt49)<|s_no (gtS gt46) (ptS pt50)<|V' (v_pickT (lkS lk46) lkb) (ptS pt51)<|mv' (lkS lk51) (ptS pt52)<|s_no (gtS gt52) (ptS pt53)<|s_no (gtS gt52) (ptS pt54)<|s_no (gtS gt52) (ptS pt55)<|s_no (gtS gt52) (ptS pt56)<|s_no (gtS gt52) (ptS pt57)<|s_no (gtS gt52) (ptS pt58)<|s_no (gtS gt52) (ptS pt59)<|V' (v_pickT (lkS lk52) lkb) (ptS pt60)<|?_
     refine sn'<|w_condT (lkS lk60)<|w_seq<|w_drwU<|u_fr rfl (v_build SrcY_ParseOf_146) (ptS pt61)<|u_fr rfl (v_mv lk5) (ptS pt62)<|u_fr rfl (v_mv lk10) (ptS pt63)<|?_
     refine u_fr rfl (v_iaR (lkS lk62) (lkS lk63) ln_len1 (nb' rfl) (by first | rfl | omega) (by omega) (by first | rfl | omega) rfl) (ptS pt64) ?_
     refine u_fr rfl (v_far (lkS lk64) dp0) (ptS pt65)<|u_fr rfl (v_loadr (lkS lk65) gt0) (ptS pt66)<|?_
     refine u_st (e_store lk2 (cvl (lkS lk61) rfl) (hga hn rfl) rfl (nb' rfl) rfl SrcY_sc0_3 (hs0 hn)) lk2 (by first | (simp [noHit];done) | (simp [noHit];omega) | (simp [noHit] <;> (try intros) <;> omega)) ptn ?_
     refine u_fr rfl (v_mv (lkS lk66)) pt3<|u_fr rfl (v_mv lki) pt4<|u_nil<|n_seq<|w_rets<|r_blk<|r_thn<|r_thn<|r_blk<|r_thn<|w_ret (rsn (rm1 (rr_c gt2 (hga hn rfl) (ld1 SrcY_tk0_3 rfl)) (rm1 (rr_t gt3) (rm1 (rr_t gt4) rm0))))<|rtW'<|?_
     have hP:parseV s=(srcZ,L[k].1,1):=by rw [hV,outP,hrun,hN]
     rw [hP];exact wk_srcZ
    refine s_do (gtS gt46)<|V' (v_fap0 lk11) (ptS pt47)<|s_do (gtS gt46)<|V' (v_loadp (lkS lk47) (hga hn rfl) gt0) (ptS pt48)<|s_do (gtS gt46)<|V' (v_lenL (lkS lk48)) (ptS pt49)<|s_do (gtS gt46)<|V' (v_gtr (lkS lk49) lki) (ptS pt50)<|V' (v_pickF (lkS lk46) (lkS lk50)) (ptS pt51)<|mv' (lkS lk51) (ptS pt52)<|?_
    refine sp' (gtS gt52) (ptS pt52) (ptS pt52) (fun hg122=>?_) (fun hg122=>?_)
    ·have hN:=lineR_none hB (.inr (.inl (by intro e;rw [e] at hg122;exact absurd hg122 (by decide))))
     refine s_no (gtS gt52) (ptS pt53)<|s_no (gtS gt52) (ptS pt54)<|s_no (gtS gt52) (ptS pt55)<|s_no (gtS gt52) (ptS pt56)<|s_no (gtS gt52) (ptS pt57)<|s_no (gtS gt52) (ptS pt58)<|s_no (gtS gt52) (ptS pt59)<|V' (v_pickT (lkS lk52) lkb) (ptS pt60)<|sn'<|w_condT (lkS lk60)<|w_seq<|w_drwU<|u_fr rfl (v_build SrcY_ParseOf_146) (ptS pt61)<|?_
     refine u_fr rfl (v_mv lk5) (ptS pt62)<|u_fr rfl (v_mv lk10) (ptS pt63)<|?_
     refine u_fr rfl (v_iaR (lkS lk62) (lkS lk63) ln_len1 (nb' rfl) (by first | rfl | omega) (by omega) (by first | rfl | omega) rfl) (ptS pt64) ?_
     refine u_fr rfl (v_far (lkS lk64) dp0) (ptS pt65)<|u_fr rfl (v_loadr (lkS lk65) gt0) (ptS pt66)<|?_
     refine u_st (e_store lk2 (cvl (lkS lk61) rfl) (hga hn rfl) rfl (nb' rfl) rfl SrcY_sc0_3 (hs0 hn)) lk2 (by first | (simp [noHit];done) | (simp [noHit];omega) | (simp [noHit] <;> (try intros) <;> omega)) ptn ?_
     refine u_fr rfl (v_mv (lkS lk66)) pt3<|u_fr rfl (v_mv lki) pt4<|u_nil<|n_seq<|w_rets<|r_blk<|r_thn<|r_thn<|r_blk<|r_thn<|w_ret (rsn (rm1 (rr_c gt2 (hga hn rfl) (ld1 SrcY_tk0_3 rfl)) (rm1 (rr_t gt3) (rm1 (rr_t gt4) rm0))))<|rtW'<|?_
     have hP:parseV s=(srcZ,L[k].1,1):=by rw [hV,outP,hrun,hN]
     rw [hP];exact wk_srcZ
    refine s_do (gtS gt52)<|mv' lk5 (ptS pt53)<|s_do (gtS gt52)<|mv' lk10 (ptS pt54)<|s_do (gtS gt52)<|?_
    refine V' (v_iaR (lkS lk53) (lkS lk54) ln_len1 (nb' rfl) (by first | rfl | omega) (by omega) (by first | rfl | omega) rfl) (ptS pt55) ?_
    refine s_do (gtS gt52)<|V' (v_far (lkS lk55) dp1) (ptS pt56)<|s_do (gtS gt52)<|V' (v_loadr (lkS lk56) gt0) (ptS pt57)<|s_do (gtS gt52)<|mv' lk12 (ptS pt58)<|s_do (gtS gt52)<|V' (v_eqbN (lkS lk57) (lkS lk58)) (ptS pt59)<|V' (v_pickF (lkS lk52) (lkS lk59)) (ptS pt60)<|sn'<|?_
    refine cd' (lkS lk60) (fun hc8=>?_) (fun hc8=>?_)
    ·have hN:=lineR_none hB (.inr (.inr (by simpa using hc8)))
     refine w_seq<|w_drwU<|u_fr rfl (v_build SrcY_ParseOf_146) (ptS pt61)<|u_fr rfl (v_mv lk5) (ptS pt62)<|u_fr rfl (v_mv lk10) (ptS pt63)<|?_
     refine u_fr rfl (v_iaR (lkS lk62) (lkS lk63) ln_len1 (nb' rfl) (by first | rfl | omega) (by omega) (by first | rfl | omega) rfl) (ptS pt64) ?_
     refine u_fr rfl (v_far (lkS lk64) dp0) (ptS pt65)<|u_fr rfl (v_loadr (lkS lk65) gt0) (ptS pt66)<|?_
     refine u_st (e_store lk2 (cvl (lkS lk61) rfl) (hga hn rfl) rfl (nb' rfl) rfl SrcY_sc0_3 (hs0 hn)) lk2 (by first | (simp [noHit];done) | (simp [noHit];omega) | (simp [noHit] <;> (try intros) <;> omega)) ptn ?_
     refine u_fr rfl (v_mv (lkS lk66)) pt3<|u_fr rfl (v_mv lki) pt4<|u_nil<|n_seq<|w_rets<|r_blk<|r_thn<|r_thn<|r_blk<|r_thn<|w_ret (rsn (rm1 (rr_c gt2 (hga hn rfl) (ld1 SrcY_tk0_3 rfl)) (rm1 (rr_t gt3) (rm1 (rr_t gt4) rm0))))<|rtW'<|?_
     have hP:parseV s=(srcZ,L[k].1,1):=by rw [hV,outP,hrun,hN]
     rw [hP];exact wk_srcZ
    have hu1:u.2=false:=by simpa using hg116
    have hu2:u.1=[]:=List.eq_nil_of_length_eq_zero (by omega)
    have hS:=lineR_some hB hu1 hu2 (by simpa using hc8)
    rw [hS] at hrun
    have hokq:=hPT.1
    rw [hB] at hokq
    refine w_skip<|n_blk<|n_seq<|w_reg<|mv' lk10 pt34<|?_
    refine V' (v_add lk34 lki (by omega) (by omega)) pt35 ?_
    refine mv' lk35 pt10<|s_nil<|n_thn<|?_
    refine lU' (⟨k+1,(sr.1++[r],sr.2.1,sr.2.2),none,sr.2.1.length,v1+1,v2,v3,v4⟩) (by (try dsimp only);exact ⟨by omega,by simp,by simp;omega,by omega,by omega,by simp [eC],hokq,hrun⟩) (by (try dsimp only);(try simp only [setsT,setsE,z',s',rn',la',ln',Nat.reduceAdd]);exact bkE' 6 hn hlt (by repeat (first | exact wk0 | refine wka ?_ | refine wk1 rfl ?_ | refine wk1 (by first | rfl | exact ivx (by omega) | (simp;done) | exact bvx (by have h9:=hs68;unfold openE at h9;rw [h9];rfl) | exact bvx (by have h9:=hs106;unfold openE at h9;rw [h9];rfl) | exact bvx (by have h9:=hs68;unfold openE at h9;rw [Bool.not_eq_true] at h9;rw [h9];rfl) | exact bvx (by have h9:=hs106;unfold openE at h9;rw [Bool.not_eq_true] at h9;rw [h9];rfl)) ?_)) (by simp only [zonC,rows_app,rows_one,zC,eC,List.append_nil,List.length_append,List.length_singleton];rfl) (hT:=by first | rfl | (simp only [AV.lt,AV.ltL,Ent.lt,List.all_cons,List.all_nil,Bool.and_true,Bool.and_self,decide_true,rul_lt,era_lt,zon_lt,lnk_lt,str_lt,ln_lt,zc_lt,lt26,lt36,lt46,lt56];done) | exact lt') (hE:=by first | rfl | (simp only [AV.lt,AV.ltL,Ent.lt,List.all_cons,List.all_nil,Bool.and_true,Bool.and_self,decide_true,rul_lt,era_lt,zon_lt,lnk_lt,str_lt,ln_lt,zc_lt,lt26,lt36,lt46,lt56];done) | exact lt'))
   have hwR:¬w=ruleA:=hc5
   refine wr'<|mv' lk13 (ptS pt11)<|V' (v_eqlS (lkS lk11) lks) (ptS pt12)<|mv' (lkS lk12) (ptS pt10)<|sn'<|?_
   refine cd' (lkS lk10) (fun hc6=>?_) (fun hc6=>?_)
   ·have hwZ:w=zoneA:=hc6
    obtain ⟨nm,t2,e2⟩ : ∃ a b,tName t1=(a,b):=⟨_,_,rfl⟩
    have o2:=okT_name o1 e2
    obtain ⟨x,u,eE⟩ : ∃ a b,tEra t2=(a,b):=⟨_,_,rfl⟩
    have hB:bodyT (curS sr none,false) (L[k].2.2,false)=(withEra (sr.1,sr.2.1++[(nm,[])],sr.2.2) x,u):=by unfold bodyT;rw [if_neg (by simp)];simp only [bind2,e1,if_neg hwR,if_pos hwZ,ret2,e2,eE,curS_none]
    have hw:withEra (sr.1,sr.2.1++[(nm,[])],sr.2.2) x=((sr.1,sr.2.1++[(nm,[x])],sr.2.2),!openE x):=by unfold withEra;rw [addEra_snoc];rfl
    refine wr'<|s_calls (mp1 lk11 mp0) (tname_e o1 e2 (hga hn rfl)) (hs6 hn) (ptS pt13)<|V' (v_build (SrcY_ParseOf_86 (cvl (lkS lk13) rfl) rfl)) (ptS pt14)<|E' (e_new (hl7 hn) ha7) pt16<|E' (e_store lk16 (cvl (lkS lk14) rfl) (hga hn rfl) rfl (nb' rfl) rfl SrcY_sc0_2 (hs7 hn)) ptn<|sn'<|wr'<|s_calls (mp1 lk11 mp0) (tera_e o2 eE (hga hn rfl)) (hs6 hn) (ptS pt15)<|E' (e_new (hl8 hn) ha8) pt17<|E' (e_store lk17 (cvl (lkS lk15) rfl) (hga hn rfl) rfl (nb' rfl) rfl SrcY_sc0_10 (hs8 hn)) ptn<|s_nil<|?_
    refine n_seqw ((ALe.own0CellRe (ty2:=64) (st2:=10) (hga hn rfl) (hga hn rfl) (by omega) gt1 pt1 (Eq.trans (congrArg (fun z=>List.set z _ _) (hs5 hn)) (hs7 hn)))) ?_
    refine wr'<|V' (v_fap0 lk16) (ptS pt16)<|V' (v_loadp (lkS lk16) (hga hn rfl) gt1) (ptS pt17)<|V' (v_loadpA lk17 (hga hn rfl) SrcY_tk0_10 rfl) (ptS pt18)<|E' (e_lit (SrcY_ParseOf_95 (cvl (lkS lk18) rfl) rfl) (hl9 hn) ha9) (ptS pt19)<|?_
    refine E' (e_app (sc_own (lkS lk19) (hga hn rfl) rfl SrcY_tk_10 (nb' rfl)) (lkS lk17) (hga hn rfl) rfl (by omega) rfl (hs5 hn)) (ptS pt20) ?_
    refine V' (v_fap0 lk16) (ptS pt21)<|E' (e_store (lkS lk21) (cvl (lkS lk20) rfl) (hga hn rfl) rfl (nb' rfl) rfl SrcY_sc1_1 (hs7 hn)) ptn<|sn'<|wr'<|V' (v_fap0 lk8) (ptS pt22)<|V' (v_loadp (lkS lk22) (hga hn rfl) gt1) (ptS pt23)<|V' (v_loadpA lk16 (hga hn rfl) SrcY_tk0_2 rfl) (ptS pt24)<|E' (e_lit (SrcY_ParseOf_102 (cvl (lkS lk24) rfl) rfl) (SrcY_hl10 hn) SrcY_ha10) (ptS pt25)<|?_
    refine E' (e_app (sc_own (lkS lk25) (hga hn rfl) rfl SrcY_tk_2 (nb' rfl)) (lkS lk23) (hga hn rfl) zc_len (by omega) rfl (hs3 hn)) (ptS pt26) ?_
    refine V' (v_fap0 lk8) (ptS pt27)<|E' (e_store (lkS lk27) (cvl (lkS lk26) rfl) (hga hn rfl) rfl (nb' rfl) rfl SrcY_sc1_1 (hs1 hn)) ptn<|sn'<|w_reg<|?_
    by_cases hs106:openE x=true
    ·have hq:withEra (sr.1,sr.2.1++[(nm,[])],sr.2.2) x=(curS (sr.1,sr.2.1++[(nm,[x])],sr.2.2) none,false):=by rw [hw,hs106,curS_none];rfl
     refine V' (v_fap0 lk17) (ptS pt28)<|V' (v_loadp (lkS lk28) (hga hn rfl) gt4) (ptS pt29)<|V' (v_notB (lkS lk29)) (ptS pt30)<|mv' (lkS lk30) pt9<|s_nil<|n_blk<|n_seq<|wr'<|V' (v_fap0 lk11) (ptS pt44)<|V' (v_loadp (lkS lk44) (hga hn rfl) gt1) (ptS pt45)<|mv' (lkS lk45) (ptS pt46)<|?_
     refine s_splitB (gtS gt46) (ptS pt46) (ptS pt46) (fun hg116=>?_) (fun hg116=>?_)
     ·have hN:=lineR_none hB (.inl hg116)
      refine s_no (gtS gt46) (ptS pt47)<|s_no (gtS gt46) (ptS pt48)<|s_no (gtS gt46) (ptS pt49)<|s_no (gtS gt46) (ptS pt50)<|V' (v_pickT (lkS lk46) lkb) (ptS pt51)<|mv' (lkS lk51) (ptS pt52)<|s_no (gtS gt52) (ptS pt53)<|s_no (gtS gt52) (ptS pt54)<|s_no (gtS gt52) (ptS pt55)<|s_no (gtS gt52) (ptS pt56)<|s_no (gtS gt52) (ptS pt57)<|s_no (gtS gt52) (ptS pt58)<|s_no (gtS gt52) (ptS pt59)<|V' (v_pickT (lkS lk52) lkb) (ptS pt60)<|?_
      refine sn'<|w_condT (lkS lk60)<|w_seq<|w_drwU<|u_fr rfl (v_build SrcY_ParseOf_146) (ptS pt61)<|u_fr rfl (v_mv lk5) (ptS pt62)<|u_fr rfl (v_mv lk10) (ptS pt63)<|?_
      refine u_fr rfl (v_iaR (lkS lk62) (lkS lk63) ln_len1 (nb' rfl) (by first | rfl | omega) (by omega) (by first | rfl | omega) rfl) (ptS pt64) ?_
      refine u_fr rfl (v_far (lkS lk64) dp0) (ptS pt65)<|u_fr rfl (v_loadr (lkS lk65) gt0) (ptS pt66)<|?_
      refine u_st (e_store lk2 (cvl (lkS lk61) rfl) (hga hn rfl) rfl (nb' rfl) rfl SrcY_sc0_3 (hs0 hn)) lk2 (by first | (simp [noHit];done) | (simp [noHit];omega) | (simp [noHit] <;> (try intros) <;> omega)) ptn ?_
      refine u_fr rfl (v_mv (lkS lk66)) pt3<|u_fr rfl (v_mv lki) pt4<|u_nil<|n_seq<|w_rets<|r_blk<|r_thn<|r_thn<|r_blk<|r_thn<|w_ret (rsn (rm1 (rr_c gt2 (hga hn rfl) (ld1 SrcY_tk0_3 rfl)) (rm1 (rr_t gt3) (rm1 (rr_t gt4) rm0))))<|rtW'<|?_
      have hP:parseV s=(srcZ,L[k].1,1):=by rw [hV,outP,hrun,hN]
      rw [hP];exact wk_srcZ
     refine s_do (gtS gt46)<|V' (v_fap0 lk11) (ptS pt47)<|s_do (gtS gt46)<|V' (v_loadp (lkS lk47) (hga hn rfl) gt0) (ptS pt48)<|s_do (gtS gt46)<|V' (v_lenL (lkS lk48)) (ptS pt49)<|s_do (gtS gt46)<|V' (v_gtr (lkS lk49) lki) (ptS pt50)<|V' (v_pickF (lkS lk46) (lkS lk50)) (ptS pt51)<|mv' (lkS lk51) (ptS pt52)<|?_
     refine sp' (gtS gt52) (ptS pt52) (ptS pt52) (fun hg122=>?_) (fun hg122=>?_)
     ·have hN:=lineR_none hB (.inr (.inl (by intro e;rw [e] at hg122;exact absurd hg122 (by decide))))
      refine s_no (gtS gt52) (ptS pt53)<|s_no (gtS gt52) (ptS pt54)<|s_no (gtS gt52) (ptS pt55)<|s_no (gtS gt52) (ptS pt56)<|s_no (gtS gt52) (ptS pt57)<|s_no (gtS gt52) (ptS pt58)<|s_no (gtS gt52) (ptS pt59)<|V' (v_pickT (lkS lk52) lkb) (ptS pt60)<|sn'<|w_condT (lkS lk60)<|w_seq<|w_drwU<|u_fr rfl (v_build SrcY_ParseOf_146) (ptS pt61)<|?_
      refine u_fr rfl (v_mv lk5) (ptS pt62)<|u_fr rfl (v_mv lk10) (ptS pt63)<|?_
      refine u_fr rfl (v_iaR (lkS lk62) (lkS lk63) ln_len1 (nb' rfl) (by first | rfl | omega) (by omega) (by first | rfl | omega) rfl) (ptS pt64) ?_
      refine u_fr rfl (v_far (lkS lk64) dp0) (ptS pt65)<|u_fr rfl (v_loadr (lkS lk65) gt0) (ptS pt66)<|?_
      refine u_st (e_store lk2 (cvl (lkS lk61) rfl) (hga hn rfl) rfl (nb' rfl) rfl SrcY_sc0_3 (hs0 hn)) lk2 (by first | (simp [noHit];done) | (simp [noHit];omega) | (simp [noHit] <;> (try intros) <;> omega)) ptn ?_
      refine u_fr rfl (v_mv (lkS lk66)) pt3<|u_fr rfl (v_mv lki) pt4<|u_nil<|n_seq<|w_rets<|r_blk<|r_thn<|r_thn<|r_blk<|r_thn<|w_ret (rsn (rm1 (rr_c gt2 (hga hn rfl) (ld1 SrcY_tk0_3 rfl)) (rm1 (rr_t gt3) (rm1 (rr_t gt4) rm0))))<|rtW'<|?_
      have hP:parseV s=(srcZ,L[k].1,1):=by rw [hV,outP,hrun,hN]
      rw [hP];exact wk_srcZ
     refine s_do (gtS gt52)<|mv' lk5 (ptS pt53)<|s_do (gtS gt52)<|mv' lk10 (ptS pt54)<|s_do (gtS gt52)<|?_
     refine V' (v_iaR (lkS lk53) (lkS lk54) ln_len1 (nb' rfl) (by first | rfl | omega) (by omega) (by first | rfl | omega) rfl) (ptS pt55) ?_
     refine s_do (gtS gt52)<|V' (v_far (lkS lk55) dp1) (ptS pt56)<|s_do (gtS gt52)<|V' (v_loadr (lkS lk56) gt0) (ptS pt57)<|s_do (gtS gt52)<|mv' lk12 (ptS pt58)<|s_do (gtS gt52)<|V' (v_eqbN (lkS lk57) (lkS lk58)) (ptS pt59)<|V' (v_pickF (lkS lk52) (lkS lk59)) (ptS pt60)<|sn'<|?_
     refine cd' (lkS lk60) (fun hc8=>?_) (fun hc8=>?_)
     ·have hN:=lineR_none hB (.inr (.inr (by simpa using hc8)))
      refine w_seq<|w_drwU<|u_fr rfl (v_build SrcY_ParseOf_146) (ptS pt61)<|u_fr rfl (v_mv lk5) (ptS pt62)<|u_fr rfl (v_mv lk10) (ptS pt63)<|?_
      refine u_fr rfl (v_iaR (lkS lk62) (lkS lk63) ln_len1 (nb' rfl) (by first | rfl | omega) (by omega) (by first | rfl | omega) rfl) (ptS pt64) ?_
      refine u_fr rfl (v_far (lkS lk64) dp0) (ptS pt65)<|u_fr rfl (v_loadr (lkS lk65) gt0) (ptS pt66)<|?_
      refine u_st (e_store lk2 (cvl (lkS lk61) rfl) (hga hn rfl) rfl (nb' rfl) rfl SrcY_sc0_3 (hs0 hn)) lk2 (by first | (simp [noHit];done) | (simp [noHit];omega) | (simp [noHit] <;> (try intros) <;> omega)) ptn ?_
      refine u_fr rfl (v_mv (lkS lk66)) pt3<|u_fr rfl (v_mv lki) pt4<|u_nil<|n_seq<|w_rets<|r_blk<|r_thn<|r_thn<|r_blk<|r_thn<|w_ret (rsn (rm1 (rr_c gt2 (hga hn rfl) (ld1 SrcY_tk0_3 rfl)) (rm1 (rr_t gt3) (rm1 (rr_t gt4) rm0))))<|rtW'<|?_
      have hP:parseV s=(srcZ,L[k].1,1):=by rw [hV,outP,hrun,hN]
      rw [hP];exact wk_srcZ
     have hu1:u.2=false:=by simpa using hg116
     have hu2:u.1=[]:=List.eq_nil_of_length_eq_zero (by omega)
     have hS:=lineR_some hB hu1 hu2 (by simpa using hc8)
     rw [hS] at hrun
     have hokq:=hPT.1
     rw [hB] at hokq
     refine w_skip<|n_blk<|?_
     refine n_seqw ((ALe.iceCellNew (ds:=rows eraC [x]) (k:=sr.2.1.length*2+1) (ty2:=64) (st2:=10) (hga hn rfl) (hga hn rfl) (by omega) (zc_at2 rfl) rfl (Nat.le_refl _) zc_put2 (hs5 hn) (hs3 hn))) ?_
     refine w_reg<|mv' lk10 pt34<|?_
     refine V' (v_add lk34 lki (by omega) (by omega)) pt35 ?_
     refine mv' lk35 pt10<|s_nil<|n_thn<|?_
     refine lU' (⟨k+1,(sr.1,sr.2.1++[(nm,[x])],sr.2.2),none,sr.2.1.length+1,v1,v2+1,v3,v4+3⟩) (by (try dsimp only);rw [hq] at hrun hokq;exact ⟨by omega,by simp,by omega,by omega,by omega,by simp [eC],hokq,hrun⟩) (by (try dsimp only);(try simp only [setsT,setsE,z',s',rn',la',ln',Nat.reduceAdd]);exact bkE' 6 hn hlt (by repeat (first | exact wk0 | refine wka ?_ | refine wk1 rfl ?_ | refine wk1 (by first | rfl | exact ivx (by omega) | (simp;done) | exact bvx (by have h9:=hs68;unfold openE at h9;rw [h9];rfl) | exact bvx (by have h9:=hs106;unfold openE at h9;rw [h9];rfl) | exact bvx (by have h9:=hs68;unfold openE at h9;rw [Bool.not_eq_true] at h9;rw [h9];rfl) | exact bvx (by have h9:=hs106;unfold openE at h9;rw [Bool.not_eq_true] at h9;rw [h9];rfl)) ?_)) (by simp only [zonC,rows_app,rows_one,zC,eC,List.append_nil,List.length_append,List.length_singleton];rfl) (hT:=by first | rfl | (simp only [AV.lt,AV.ltL,Ent.lt,List.all_cons,List.all_nil,Bool.and_true,Bool.and_self,decide_true,rul_lt,era_lt,zon_lt,lnk_lt,str_lt,ln_lt,zc_lt,lt26,lt36,lt46,lt56];done) | exact lt') (hE:=by first | rfl | (simp only [AV.lt,AV.ltL,Ent.lt,List.all_cons,List.all_nil,Bool.and_true,Bool.and_self,decide_true,rul_lt,era_lt,zon_lt,lnk_lt,str_lt,ln_lt,zc_lt,lt26,lt36,lt46,lt56];done) | exact lt'))
    have hq:withEra (sr.1,sr.2.1++[(nm,[])],sr.2.2) x=(curS sr (some (nm,[x])),true):=by rw [hw,show openE x=false by simpa using hs106];rfl
    refine V' (v_fap0 lk17) (ptS pt28)<|V' (v_loadp (lkS lk28) (hga hn rfl) gt4) (ptS pt29)<|V' (v_notB (lkS lk29)) (ptS pt30)<|mv' (lkS lk30) pt9<|s_nil<|n_blk<|n_seq<|wr'<|V' (v_fap0 lk11) (ptS pt44)<|V' (v_loadp (lkS lk44) (hga hn rfl) gt1) (ptS pt45)<|mv' (lkS lk45) (ptS pt46)<|?_
    refine s_splitB (gtS gt46) (ptS pt46) (ptS pt46) (fun hg116=>?_) (fun hg116=>?_)
    ·have hN:=lineR_none hB (.inl hg116)
     refine s_no (gtS gt46) (ptS pt47)<|s_no (gtS gt46) (ptS pt48)<|s_no (gtS gt46) (ptS pt49)<|s_no (gtS gt46) (ptS pt50)<|V' (v_pickT (lkS lk46) lkb) (ptS pt51)<|mv' (lkS lk51) (ptS pt52)<|s_no (gtS gt52) (ptS pt53)<|s_no (gtS gt52) (ptS pt54)<|s_no (gtS gt52) (ptS pt55)<|s_no (gtS gt52) (ptS pt56)<|s_no (gtS gt52) (ptS pt57)<|s_no (gtS gt52) (ptS pt58)<|s_no (gtS gt52) (ptS pt59)<|V' (v_pickT (lkS lk52) lkb) (ptS pt60)<|?_
     refine sn'<|w_condT (lkS lk60)<|w_seq<|w_drwU<|u_fr rfl (v_build SrcY_ParseOf_146) (ptS pt61)<|u_fr rfl (v_mv lk5) (ptS pt62)<|u_fr rfl (v_mv lk10) (ptS pt63)<|?_
     refine u_fr rfl (v_iaR (lkS lk62) (lkS lk63) ln_len1 (nb' rfl) (by first | rfl | omega) (by omega) (by first | rfl | omega) rfl) (ptS pt64) ?_
     refine u_fr rfl (v_far (lkS lk64) dp0) (ptS pt65)<|u_fr rfl (v_loadr (lkS lk65) gt0) (ptS pt66)<|?_
     refine u_st (e_store lk2 (cvl (lkS lk61) rfl) (hga hn rfl) rfl (nb' rfl) rfl SrcY_sc0_3 (hs0 hn)) lk2 (by first | (simp [noHit];done) | (simp [noHit];omega) | (simp [noHit] <;> (try intros) <;> omega)) ptn ?_
     refine u_fr rfl (v_mv (lkS lk66)) pt3<|u_fr rfl (v_mv lki) pt4<|u_nil<|n_seq<|w_rets<|r_blk<|r_thn<|r_thn<|r_blk<|r_thn<|w_ret (rsn (rm1 (rr_c gt2 (hga hn rfl) (ld1 SrcY_tk0_3 rfl)) (rm1 (rr_t gt3) (rm1 (rr_t gt4) rm0))))<|rtW'<|?_
     have hP:parseV s=(srcZ,L[k].1,1):=by rw [hV,outP,hrun,hN]
     rw [hP];exact wk_srcZ
    refine s_do (gtS gt46)<|V' (v_fap0 lk11) (ptS pt47)<|s_do (gtS gt46)<|V' (v_loadp (lkS lk47) (hga hn rfl) gt0) (ptS pt48)<|s_do (gtS gt46)<|V' (v_lenL (lkS lk48)) (ptS pt49)<|s_do (gtS gt46)<|V' (v_gtr (lkS lk49) lki) (ptS pt50)<|V' (v_pickF (lkS lk46) (lkS lk50)) (ptS pt51)<|mv' (lkS lk51) (ptS pt52)<|?_
    refine sp' (gtS gt52) (ptS pt52) (ptS pt52) (fun hg122=>?_) (fun hg122=>?_)
    ·have hN:=lineR_none hB (.inr (.inl (by intro e;rw [e] at hg122;exact absurd hg122 (by decide))))
     refine s_no (gtS gt52) (ptS pt53)<|s_no (gtS gt52) (ptS pt54)<|s_no (gtS gt52) (ptS pt55)<|s_no (gtS gt52) (ptS pt56)<|s_no (gtS gt52) (ptS pt57)<|s_no (gtS gt52) (ptS pt58)<|s_no (gtS gt52) (ptS pt59)<|V' (v_pickT (lkS lk52) lkb) (ptS pt60)<|sn'<|w_condT (lkS lk60)<|w_seq<|w_drwU<|u_fr rfl (v_build SrcY_ParseOf_146) (ptS pt61)<|?_
     refine u_fr rfl (v_mv lk5) (ptS pt62)<|u_fr rfl (v_mv lk10) (ptS pt63)<|?_
     refine u_fr rfl (v_iaR (lkS lk62) (lkS lk63) ln_len1 (nb' rfl) (by first | rfl | omega) (by omega) (by first | rfl | omega) rfl) (ptS pt64) ?_
     refine u_fr rfl (v_far (lkS lk64) dp0) (ptS pt65)<|u_fr rfl (v_loadr (lkS lk65) gt0) (ptS pt66)<|?_
     refine u_st (e_store lk2 (cvl (lkS lk61) rfl) (hga hn rfl) rfl (nb' rfl) rfl SrcY_sc0_3 (hs0 hn)) lk2 (by first | (simp [noHit];done) | (simp [noHit];omega) | (simp [noHit] <;> (try intros) <;> omega)) ptn ?_
     refine u_fr rfl (v_mv (lkS lk66)) pt3<|u_fr rfl (v_mv lki) pt4<|u_nil<|n_seq<|w_rets<|r_blk<|r_thn<|r_thn<|r_blk<|r_thn<|w_ret (rsn (rm1 (rr_c gt2 (hga hn rfl) (ld1 SrcY_tk0_3 rfl)) (rm1 (rr_t gt3) (rm1 (rr_t gt4) rm0))))<|rtW'<|?_
     have hP:parseV s=(srcZ,L[k].1,1):=by rw [hV,outP,hrun,hN]
     rw [hP];exact wk_srcZ
    refine s_do (gtS gt52)<|mv' lk5 (ptS pt53)<|s_do (gtS gt52)<|mv' lk10 (ptS pt54)<|s_do (gtS gt52)<|?_
    refine V' (v_iaR (lkS lk53) (lkS lk54) ln_len1 (nb' rfl) (by first | rfl | omega) (by omega) (by first | rfl | omega) rfl) (ptS pt55) ?_
    refine s_do (gtS gt52)<|V' (v_far (lkS lk55) dp1) (ptS pt56)<|s_do (gtS gt52)<|V' (v_loadr (lkS lk56) gt0) (ptS pt57)<|s_do (gtS gt52)<|mv' lk12 (ptS pt58)<|s_do (gtS gt52)<|V' (v_eqbN (lkS lk57) (lkS lk58)) (ptS pt59)<|V' (v_pickF (lkS lk52) (lkS lk59)) (ptS pt60)<|sn'<|?_
    refine cd' (lkS lk60) (fun hc8=>?_) (fun hc8=>?_)
    ·have hN:=lineR_none hB (.inr (.inr (by simpa using hc8)))
     refine w_seq<|w_drwU<|u_fr rfl (v_build SrcY_ParseOf_146) (ptS pt61)<|u_fr rfl (v_mv lk5) (ptS pt62)<|u_fr rfl (v_mv lk10) (ptS pt63)<|?_
     refine u_fr rfl (v_iaR (lkS lk62) (lkS lk63) ln_len1 (nb' rfl) (by first | rfl | omega) (by omega) (by first | rfl | omega) rfl) (ptS pt64) ?_
     refine u_fr rfl (v_far (lkS lk64) dp0) (ptS pt65)<|u_fr rfl (v_loadr (lkS lk65) gt0) (ptS pt66)<|?_
     refine u_st (e_store lk2 (cvl (lkS lk61) rfl) (hga hn rfl) rfl (nb' rfl) rfl SrcY_sc0_3 (hs0 hn)) lk2 (by first | (simp [noHit];done) | (simp [noHit];omega) | (simp [noHit] <;> (try intros) <;> omega)) ptn ?_
     refine u_fr rfl (v_mv (lkS lk66)) pt3<|u_fr rfl (v_mv lki) pt4<|u_nil<|n_seq<|w_rets<|r_blk<|r_thn<|r_thn<|r_blk<|r_thn<|w_ret (rsn (rm1 (rr_c gt2 (hga hn rfl) (ld1 SrcY_tk0_3 rfl)) (rm1 (rr_t gt3) (rm1 (rr_t gt4) rm0))))<|rtW'<|?_
     have hP:parseV s=(srcZ,L[k].1,1):=by rw [hV,outP,hrun,hN]
     rw [hP];exact wk_srcZ
    have hu1:u.2=false:=by simpa using hg116
    have hu2:u.1=[]:=List.eq_nil_of_length_eq_zero (by omega)
    have hS:=lineR_some hB hu1 hu2 (by simpa using hc8)
    rw [hS] at hrun
    have hokq:=hPT.1
    rw [hB] at hokq
    refine w_skip<|n_blk<|n_seq<|w_reg<|mv' lk10 pt34<|?_
    refine V' (v_add lk34 lki (by omega) (by omega)) pt35 ?_
    refine mv' lk35 pt10<|s_nil<|n_thn<|?_
    refine lU' (⟨k+1,sr,some (nm,[x]),sr.2.1.length+1,v1,v2+1,v3,v4+2⟩) (by (try dsimp only);rw [hq] at hrun hokq;exact ⟨by omega,by simp,by omega,by omega,by omega,by simp [eC],hokq,hrun⟩) (by (try dsimp only);(try simp only [setsT,setsE,z',s',rn',la',ln',Nat.reduceAdd]);exact bkE' 6 hn hlt (by repeat (first | exact wk0 | refine wka ?_ | refine wk1 rfl ?_ | refine wk1 (by first | rfl | exact ivx (by omega) | (simp;done) | exact bvx (by have h9:=hs68;unfold openE at h9;rw [h9];rfl) | exact bvx (by have h9:=hs106;unfold openE at h9;rw [h9];rfl) | exact bvx (by have h9:=hs68;unfold openE at h9;rw [Bool.not_eq_true] at h9;rw [h9];rfl) | exact bvx (by have h9:=hs106;unfold openE at h9;rw [Bool.not_eq_true] at h9;rw [h9];rfl)) ?_)) (by simp only [zonC,rows_app,rows_one,zC,eC,List.append_nil,List.length_append,List.length_singleton];rfl) (hT:=by first | rfl | (simp only [AV.lt,AV.ltL,Ent.lt,List.all_cons,List.all_nil,Bool.and_true,Bool.and_self,decide_true,rul_lt,era_lt,zon_lt,lnk_lt,str_lt,ln_lt,zc_lt,lt26,lt36,lt46,lt56];done) | exact lt') (hE:=by first | rfl | (simp only [AV.lt,AV.ltL,Ent.lt,List.all_cons,List.all_nil,Bool.and_true,Bool.and_self,decide_true,rul_lt,era_lt,zon_lt,lnk_lt,str_lt,ln_lt,zc_lt,lt26,lt36,lt46,lt56];done) | exact lt'))
   have hwZ:¬w=zoneA:=hc6
   refine wr'<|mv' lk13 (ptS pt32)<|V' (v_eqlS (lkS lk32) lks) (ptS pt33)<|mv' (lkS lk33) (ptS pt31)<|sn'<|?_
   refine cd' (lkS lk31) (fun hc7=>?_) (fun hc7=>?_)
   ·have hwL:w=linkA:=hc7
    obtain ⟨n1,t2,e2⟩ : ∃ a b,tName t1=(a,b):=⟨_,_,rfl⟩
    have o2:=okT_name o1 e2
    obtain ⟨n2,u,e3⟩ : ∃ a b,tName t2=(a,b):=⟨_,_,rfl⟩
    have hB:bodyT (curS sr none,false) (L[k].2.2,false)=((curS (sr.1,sr.2.1,sr.2.2++[(n1,n2)]) none,false),u):=by unfold bodyT;rw [if_neg (by simp)];simp only [bind2,e1,if_neg hwR,if_neg hwZ,if_pos hwL,ret2,e2,e3];rfl
    refine wr'<|E' (e_new (hl7 hn) ha7) pt18<|sn'<|wr'<|s_calls (mp1 lk11 mp0) (tname_e o1 e2 (hga hn rfl)) (hs6 hn) (ptS pt34)<|V' (v_fap0 lk18) (ptS pt35)<|E' (e_store (lkS lk35) (cvl (lkS lk34) rfl) (hga hn rfl) rfl (nb' rfl) rfl SrcY_sc0_1 (hs7 hn)) ptn<|sn'<|wr'<|?_
    refine s_calls (mp1 lk11 mp0) (tname_e o2 e3 (hga hn rfl)) (hs6 hn) (ptS pt36)<|V' (v_fap0 lk18) (ptS pt37)<|E' (e_store (lkS lk37) (cvl (lkS lk36) rfl) (hga hn rfl) rfl (nb' rfl) rfl SrcY_sc1_1 (hs7 hn)) ptn<|sn'<|w_reg<|V' (v_fap0 lk8) (ptS pt38)<|V' (v_loadp (lkS lk38) (hga hn rfl) gt2) (ptS pt39)<|V' (v_loadpA lk18 (hga hn rfl) SrcY_tk0_2 rfl) (ptS pt40)<|E' (e_lit (SrcY_ParseOf_123 (cvl (lkS lk40) rfl) rfl) (hl8 hn) ha8) (ptS pt41)<|?_
    refine E' (e_app (sc_own (lkS lk41) (hga hn rfl) rfl SrcY_tk_2 (nb' rfl)) (lkS lk39) (hga hn rfl) (lnk_len _) (by omega) rfl (hs4 hn)) (ptS pt42) ?_
    refine V' (v_fap0 lk8) (ptS pt43)<|E' (e_store (lkS lk43) (cvl (lkS lk42) rfl) (hga hn rfl) rfl (nb' rfl) rfl SrcY_sc2_1 (hs1 hn)) ptn<|s_nil<|n_blk<|n_seq<|wr'<|V' (v_fap0 lk11) (ptS pt44)<|V' (v_loadp (lkS lk44) (hga hn rfl) gt1) (ptS pt45)<|mv' (lkS lk45) (ptS pt46)<|?_
    refine s_splitB (gtS gt46) (ptS pt46) (ptS pt46) (fun hg116=>?_) (fun hg116=>?_)
    ·have hN:=lineR_none hB (.inl hg116)
     refine s_no (gtS gt46) (ptS pt47)<|s_no (gtS gt46) (ptS pt48)<|s_no (gtS gt46) (ptS pt49)<|s_no (gtS gt46) (ptS pt50)<|V' (v_pickT (lkS lk46) lkb) (ptS pt51)<|mv' (lkS lk51) (ptS pt52)<|s_no (gtS gt52) (ptS pt53)<|s_no (gtS gt52) (ptS pt54)<|s_no (gtS gt52) (ptS pt55)<|s_no (gtS gt52) (ptS pt56)<|s_no (gtS gt52) (ptS pt57)<|s_no (gtS gt52) (ptS pt58)<|s_no (gtS gt52) (ptS pt59)<|V' (v_pickT (lkS lk52) lkb) (ptS pt60)<|?_
     refine sn'<|w_condT (lkS lk60)<|w_seq<|w_drwU<|u_fr rfl (v_build SrcY_ParseOf_146) (ptS pt61)<|u_fr rfl (v_mv lk5) (ptS pt62)<|u_fr rfl (v_mv lk10) (ptS pt63)<|?_
     refine u_fr rfl (v_iaR (lkS lk62) (lkS lk63) ln_len1 (nb' rfl) (by first | rfl | omega) (by omega) (by first | rfl | omega) rfl) (ptS pt64) ?_
     refine u_fr rfl (v_far (lkS lk64) dp0) (ptS pt65)<|u_fr rfl (v_loadr (lkS lk65) gt0) (ptS pt66)<|?_
     refine u_st (e_store lk2 (cvl (lkS lk61) rfl) (hga hn rfl) rfl (nb' rfl) rfl SrcY_sc0_3 (hs0 hn)) lk2 (by first | (simp [noHit];done) | (simp [noHit];omega) | (simp [noHit] <;> (try intros) <;> omega)) ptn ?_
     refine u_fr rfl (v_mv (lkS lk66)) pt3<|u_fr rfl (v_mv lki) pt4<|u_nil<|n_seq<|w_rets<|r_blk<|r_thn<|r_thn<|r_blk<|r_thn<|w_ret (rsn (rm1 (rr_c gt2 (hga hn rfl) (ld1 SrcY_tk0_3 rfl)) (rm1 (rr_t gt3) (rm1 (rr_t gt4) rm0))))<|rtW'<|?_
     have hP:parseV s=(srcZ,L[k].1,1):=by rw [hV,outP,hrun,hN]
     rw [hP];exact wk_srcZ
    refine s_do (gtS gt46)<|V' (v_fap0 lk11) (ptS pt47)<|s_do (gtS gt46)<|V' (v_loadp (lkS lk47) (hga hn rfl) gt0) (ptS pt48)<|s_do (gtS gt46)<|V' (v_lenL (lkS lk48)) (ptS pt49)<|s_do (gtS gt46)<|V' (v_gtr (lkS lk49) lki) (ptS pt50)<|V' (v_pickF (lkS lk46) (lkS lk50)) (ptS pt51)<|mv' (lkS lk51) (ptS pt52)<|?_
    refine sp' (gtS gt52) (ptS pt52) (ptS pt52) (fun hg122=>?_) (fun hg122=>?_)
    ·have hN:=lineR_none hB (.inr (.inl (by intro e;rw [e] at hg122;exact absurd hg122 (by decide))))
     refine s_no (gtS gt52) (ptS pt53)<|s_no (gtS gt52) (ptS pt54)<|s_no (gtS gt52) (ptS pt55)<|s_no (gtS gt52) (ptS pt56)<|s_no (gtS gt52) (ptS pt57)<|s_no (gtS gt52) (ptS pt58)<|s_no (gtS gt52) (ptS pt59)<|V' (v_pickT (lkS lk52) lkb) (ptS pt60)<|sn'<|w_condT (lkS lk60)<|w_seq<|w_drwU<|u_fr rfl (v_build SrcY_ParseOf_146) (ptS pt61)<|?_
     refine u_fr rfl (v_mv lk5) (ptS pt62)<|u_fr rfl (v_mv lk10) (ptS pt63)<|?_
     refine u_fr rfl (v_iaR (lkS lk62) (lkS lk63) ln_len1 (nb' rfl) (by first | rfl | omega) (by omega) (by first | rfl | omega) rfl) (ptS pt64) ?_
     refine u_fr rfl (v_far (lkS lk64) dp0) (ptS pt65)<|u_fr rfl (v_loadr (lkS lk65) gt0) (ptS pt66)<|?_
     refine u_st (e_store lk2 (cvl (lkS lk61) rfl) (hga hn rfl) rfl (nb' rfl) rfl SrcY_sc0_3 (hs0 hn)) lk2 (by first | (simp [noHit];done) | (simp [noHit];omega) | (simp [noHit] <;> (try intros) <;> omega)) ptn ?_
     refine u_fr rfl (v_mv (lkS lk66)) pt3<|u_fr rfl (v_mv lki) pt4<|u_nil<|n_seq<|w_rets<|r_blk<|r_thn<|r_thn<|r_blk<|r_thn<|w_ret (rsn (rm1 (rr_c gt2 (hga hn rfl) (ld1 SrcY_tk0_3 rfl)) (rm1 (rr_t gt3) (rm1 (rr_t gt4) rm0))))<|rtW'<|?_
     have hP:parseV s=(srcZ,L[k].1,1):=by rw [hV,outP,hrun,hN]
     rw [hP];exact wk_srcZ
    refine s_do (gtS gt52)<|mv' lk5 (ptS pt53)<|s_do (gtS gt52)<|mv' lk10 (ptS pt54)<|s_do (gtS gt52)<|?_
    refine V' (v_iaR (lkS lk53) (lkS lk54) ln_len1 (nb' rfl) (by first | rfl | omega) (by omega) (by first | rfl | omega) rfl) (ptS pt55) ?_
    refine s_do (gtS gt52)<|V' (v_far (lkS lk55) dp1) (ptS pt56)<|s_do (gtS gt52)<|V' (v_loadr (lkS lk56) gt0) (ptS pt57)<|s_do (gtS gt52)<|mv' lk12 (ptS pt58)<|s_do (gtS gt52)<|V' (v_eqbN (lkS lk57) (lkS lk58)) (ptS pt59)<|V' (v_pickF (lkS lk52) (lkS lk59)) (ptS pt60)<|sn'<|?_
    refine cd' (lkS lk60) (fun hc8=>?_) (fun hc8=>?_)
    ·have hN:=lineR_none hB (.inr (.inr (by simpa using hc8)))
     refine w_seq<|w_drwU<|u_fr rfl (v_build SrcY_ParseOf_146) (ptS pt61)<|u_fr rfl (v_mv lk5) (ptS pt62)<|u_fr rfl (v_mv lk10) (ptS pt63)<|?_
     refine u_fr rfl (v_iaR (lkS lk62) (lkS lk63) ln_len1 (nb' rfl) (by first | rfl | omega) (by omega) (by first | rfl | omega) rfl) (ptS pt64) ?_
     refine u_fr rfl (v_far (lkS lk64) dp0) (ptS pt65)<|u_fr rfl (v_loadr (lkS lk65) gt0) (ptS pt66)<|?_
     refine u_st (e_store lk2 (cvl (lkS lk61) rfl) (hga hn rfl) rfl (nb' rfl) rfl SrcY_sc0_3 (hs0 hn)) lk2 (by first | (simp [noHit];done) | (simp [noHit];omega) | (simp [noHit] <;> (try intros) <;> omega)) ptn ?_
     refine u_fr rfl (v_mv (lkS lk66)) pt3<|u_fr rfl (v_mv lki) pt4<|u_nil<|n_seq<|w_rets<|r_blk<|r_thn<|r_thn<|r_blk<|r_thn<|w_ret (rsn (rm1 (rr_c gt2 (hga hn rfl) (ld1 SrcY_tk0_3 rfl)) (rm1 (rr_t gt3) (rm1 (rr_t gt4) rm0))))<|rtW'<|?_
     have hP:parseV s=(srcZ,L[k].1,1):=by rw [hV,outP,hrun,hN]
     rw [hP];exact wk_srcZ
    have hu1:u.2=false:=by simpa using hg116
    have hu2:u.1=[]:=List.eq_nil_of_length_eq_zero (by omega)
    have hS:=lineR_some hB hu1 hu2 (by simpa using hc8)
    rw [hS] at hrun
    have hokq:=hPT.1
    rw [hB] at hokq
    refine w_skip<|n_blk<|n_seq<|w_reg<|mv' lk10 pt34<|?_
    refine V' (v_add lk34 lki (by omega) (by omega)) pt35 ?_
    refine mv' lk35 pt10<|s_nil<|n_thn<|?_
    refine lU' (⟨k+1,(sr.1,sr.2.1,sr.2.2++[(n1,n2)]),none,sr.2.1.length,v1,v2,v3+1,v4⟩) (by (try dsimp only);exact ⟨by omega,by simp,by omega,by omega,by simp;omega,by simp [eC],hokq,hrun⟩) (by (try dsimp only);(try simp only [setsT,setsE,z',s',rn',la',ln',Nat.reduceAdd]);exact bkE' 6 hn hlt (by repeat (first | exact wk0 | refine wka ?_ | refine wk1 rfl ?_ | refine wk1 (by first | rfl | exact ivx (by omega) | (simp;done) | exact bvx (by have h9:=hs68;unfold openE at h9;rw [h9];rfl) | exact bvx (by have h9:=hs106;unfold openE at h9;rw [h9];rfl) | exact bvx (by have h9:=hs68;unfold openE at h9;rw [Bool.not_eq_true] at h9;rw [h9];rfl) | exact bvx (by have h9:=hs106;unfold openE at h9;rw [Bool.not_eq_true] at h9;rw [h9];rfl)) ?_)) (by simp only [zonC,rows_app,rows_one,zC,eC,List.append_nil,List.length_append,List.length_singleton];rfl) (hT:=by first | rfl | (simp only [AV.lt,AV.ltL,Ent.lt,List.all_cons,List.all_nil,Bool.and_true,Bool.and_self,decide_true,rul_lt,era_lt,zon_lt,lnk_lt,str_lt,ln_lt,zc_lt,lt26,lt36,lt46,lt56];done) | exact lt') (hE:=by first | rfl | (simp only [AV.lt,AV.ltL,Ent.lt,List.all_cons,List.all_nil,Bool.and_true,Bool.and_self,decide_true,rul_lt,era_lt,zon_lt,lnk_lt,str_lt,ln_lt,zc_lt,lt26,lt36,lt46,lt56];done) | exact lt'))
   have hwL:¬w=linkA:=hc7
   have hB:bodyT (curS sr none,false) (L[k].2.2,false)=((curS sr none,false),bad t1):=by unfold bodyT;rw [if_neg (by simp)];simp only [bind2,e1,if_neg hwR,if_neg hwZ,if_neg hwL]
   have hN:=lineR_none hB (.inl rfl)
   refine w_reg<|V' (v_fap0 lk11) pt46<|E' (e_store lk46 (cvl lkb rfl) (hga hn rfl) rfl (nb' rfl) rfl SrcY_sc1_1 (hs6 hn)) ptn<|s_nil<|n_blk<|n_seq<|wr'<|V' (v_fap0 lk11) (ptS pt44)<|V' (v_loadp (lkS lk44) (hga hn rfl) gt1) (ptS pt45)<|mv' (lkS lk45) (ptS pt46)<|s_no (gtS gt46) (ptS pt47)<|s_no (gtS gt46) (ptS pt48)<|s_no (gtS gt46) (ptS pt49)<|?_
   refine s_no (gtS gt46) (ptS pt50)<|V' (v_pickT (lkS lk46) lkb) (ptS pt51)<|mv' (lkS lk51) (ptS pt52)<|s_no (gtS gt52) (ptS pt53)<|s_no (gtS gt52) (ptS pt54)<|s_no (gtS gt52) (ptS pt55)<|s_no (gtS gt52) (ptS pt56)<|s_no (gtS gt52) (ptS pt57)<|s_no (gtS gt52) (ptS pt58)<|s_no (gtS gt52) (ptS pt59)<|V' (v_pickT (lkS lk52) lkb) (ptS pt60)<|sn'<|w_condT (lkS lk60)<|?_
   refine w_seq<|w_drwU<|u_fr rfl (v_build SrcY_ParseOf_146) (ptS pt61)<|u_fr rfl (v_mv lk5) (ptS pt62)<|u_fr rfl (v_mv lk10) (ptS pt63)<|?_
   refine u_fr rfl (v_iaR (lkS lk62) (lkS lk63) ln_len1 (nb' rfl) (by first | rfl | omega) (by omega) (by first | rfl | omega) rfl) (ptS pt64) ?_
   refine u_fr rfl (v_far (lkS lk64) dp0) (ptS pt65)<|u_fr rfl (v_loadr (lkS lk65) gt0) (ptS pt66)<|?_
   refine u_st (e_store lk2 (cvl (lkS lk61) rfl) (hga hn rfl) rfl (nb' rfl) rfl SrcY_sc0_3 (hs0 hn)) lk2 (by first | (simp [noHit];done) | (simp [noHit];omega) | (simp [noHit] <;> (try intros) <;> omega)) ptn ?_
   refine u_fr rfl (v_mv (lkS lk66)) pt3<|u_fr rfl (v_mv lki) pt4<|u_nil<|n_seq<|w_rets<|r_blk<|r_thn<|r_thn<|r_blk<|r_thn<|w_ret (rsn (rm1 (rr_c gt2 (hga hn rfl) (ld1 SrcY_tk0_3 rfl)) (rm1 (rr_t gt3) (rm1 (rr_t gt4) rm0))))<|rtW'<|?_
   have hP:parseV s=(srcZ,L[k].1,1):=by rw [hV,outP,hrun,hN]
   rw [hP];exact wk_srcZ
  obtain ⟨z,rfl⟩:=Option.ne_none_iff_exists'.1 hs36
  simp only [Option.isSome_some] at hrun hPT
  have hm':m=sr.2.1.length+1:=by simpa using hm
  have hk5':z.2.length≤k:=hk5
  obtain ⟨x,u,eE⟩ : ∃ a b,tEra (L[k].2.2,false)=(a,b):=⟨_,_,rfl⟩
  have hB:bodyT (curS sr (some z),true) (L[k].2.2,false)=(withEra (curS sr (some z)) x,u):=by unfold bodyT;rw [if_pos rfl];simp only [bind2,ret2,eE]
  have hw:withEra (curS sr (some z)) x=((sr.1,sr.2.1++[(z.1,z.2++[x])],sr.2.2),!openE x):=by unfold withEra curS;rw [show sr.2.1++(some z).toList=sr.2.1++[z] from rfl,addEra_snoc]
  refine mv' lk9 pt42<|mv' lk42 pt12<|sn'<|wr'<|mv' lks pt13<|sn'<|w_seq<|wr'<|mv' lk9 pt43<|?_
  refine V' ((by first | exact v_not lk43 | exact v_notB lk43)) pt44 ?_
  refine sn' ?_
  refine w_condKF lk44 (by rfl) ?_
  refine w_skip<|n_seq<|w_seq<|w_block<|wr'<|mv' lk9 pt48<|mv' lk48 pt47<|sn'<|?_
  refine w_condK lk47 (by rfl) ?_
  refine wr'<|V' (v_fap0 lk8) pt49<|V' (v_loadp lk49 (hga hn rfl) gt1) pt50<|V' (v_lenO lk50) pt51<|?_
  refine V' (v_sub lk51 lki (by omega) (by omega)) pt52 ?_
  refine mv' lk52 pt14<|sn'<|wr'<|s_calls (mp1 lk11 mp0) (tera_e hokt eE (hga hn rfl)) (hs6 hn) pt53<|E' (e_new (hl7 hn) ha7) pt15<|E' (e_store lk15 (cvl lk53 rfl) (hga hn rfl) rfl (nb' rfl) rfl SrcY_sc0_10 (hs7 hn)) ptn<|sn'<|w_seq<|w_drwR [N+1]<|D' (v_fap0 lk8) pt54<|?_
  refine d_ldP lk54 (hga hn rfl) (ld0 gt1) (by simp) pt55 ?_
  refine D' (v_mv lk14) pt56<|D' (v_fap0 lk8) pt57<|D' (v_loadp lk57 (hga hn rfl) gt1) pt58<|D' (v_mv lk14) pt59<|?_
  refine D' (v_iaO lk58 lk59 (hga hn rfl) (nb' rfl) (by omega) (by omega) (by rw [zc_len];simp;omega)) pt60 ?_
  refine D' (v_fap lk60) pt61 ?_
  refine D' (v_loadp lk61 (hga hn rfl) (zc_at (by omega))) pt62 ?_
  refine D' (v_loadpA lk15 (hga hn rfl) SrcY_tk0_10 rfl) pt63<|d_eff rfl rfl (hlk hn rfl) (l_lit (SrcY_ParseOf_63 (cvl lk63 rfl) rfl)) pt64 SrcY_lap0<|d_nil<|k_e_ent SrcY_lj8_1<|?_
  refine k_eff rfl rfl (e_app (sc_own lk64 (hga hn rfl) rfl SrcY_tk_10 (nb' rfl)) lk62 (hga hn rfl) (era_len _) (by omega) rfl (hs5 hn)) (by intro i hi;simp only [cond_true,List.mem_cons,List.not_mem_nil,or_false] at hi;subst hi;first | rfl | exact (hga hn rfl).trans (hga hn rfl).symm) pt65 ?_
  refine k_val rfl (v_iaO lk55 lk56 (hga hn rfl) (nb' rfl) (by omega) (by omega) (by rw [zc_len];simp;omega)) pt66 ?_
  refine k_val rfl (v_fap lk66) pt67 ?_
  refine k_eff rfl rfl (e_store lk67 (cvl lk65 rfl) (hga hn rfl) rfl (by rw [zc_len];simp;omega) rfl (zc_set (by omega)) (hs3 hn)) (by intro i hi;simp at hi) ptn ?_
  refine k_nil<|n_seq<|w_reg<|?_
  by_cases hs68:openE x=true
  ·have hq:withEra (curS sr (some z)) x=(curS (sr.1,sr.2.1++[(z.1,z.2++[x])],sr.2.2) none,false):=by rw [hw,hs68,curS_none];rfl
   refine V' (v_fap0 lk15) pt68<|V' (v_loadp lk68 (hga hn rfl) gt4) pt69<|V' (v_notB lk69) (ptS pt0)<|mv' (lkS lk0) pt9<|s_nil<|n_blk<|n_seq<|wr'<|V' (v_fap0 lk11) (ptS pt44)<|V' (v_loadp (lkS lk44) (hga hn rfl) gt1) (ptS pt45)<|mv' (lkS lk45) (ptS pt46)<|?_
   refine s_splitB (gtS gt46) (ptS pt46) (ptS pt46) (fun hg116=>?_) (fun hg116=>?_)
   ·have hN:=lineR_none hB (.inl hg116)
    refine s_no (gtS gt46) (ptS pt47)<|s_no (gtS gt46) (ptS pt48)<|s_no (gtS gt46) (ptS pt49)<|s_no (gtS gt46) (ptS pt50)<|V' (v_pickT (lkS lk46) lkb) (ptS pt51)<|mv' (lkS lk51) (ptS pt52)<|s_no (gtS gt52) (ptS pt53)<|s_no (gtS gt52) (ptS pt54)<|s_no (gtS gt52) (ptS pt55)<|s_no (gtS gt52) (ptS pt56)<|s_no (gtS gt52) (ptS pt57)<|s_no (gtS gt52) (ptS pt58)<|s_no (gtS gt52) (ptS pt59)<|V' (v_pickT (lkS lk52) lkb) (ptS pt60)<|?_
    refine sn'<|w_condT (lkS lk60)<|w_seq<|w_drwU<|u_fr rfl (v_build SrcY_ParseOf_146) (ptS pt61)<|u_fr rfl (v_mv lk5) (ptS pt62)<|u_fr rfl (v_mv lk10) (ptS pt63)<|?_
    refine u_fr rfl (v_iaR (lkS lk62) (lkS lk63) ln_len1 (nb' rfl) (by first | rfl | omega) (by omega) (by first | rfl | omega) rfl) (ptS pt64) ?_
    refine u_fr rfl (v_far (lkS lk64) dp0) (ptS pt65)<|u_fr rfl (v_loadr (lkS lk65) gt0) (ptS pt66)<|?_
    refine u_st (e_store lk2 (cvl (lkS lk61) rfl) (hga hn rfl) rfl (nb' rfl) rfl SrcY_sc0_3 (hs0 hn)) lk2 (by first | (simp [noHit];done) | (simp [noHit];omega) | (simp [noHit] <;> (try intros) <;> omega)) ptn ?_
    refine u_fr rfl (v_mv (lkS lk66)) pt3<|u_fr rfl (v_mv lki) pt4<|u_nil<|n_seq<|w_rets<|r_blk<|r_thn<|r_thn<|r_blk<|r_thn<|w_ret (rsn (rm1 (rr_c gt2 (hga hn rfl) (ld1 SrcY_tk0_3 rfl)) (rm1 (rr_t gt3) (rm1 (rr_t gt4) rm0))))<|rtW'<|?_
    have hP:parseV s=(srcZ,L[k].1,1):=by rw [hV,outP,hrun,hN]
    rw [hP];exact wk_srcZ
   refine s_do (gtS gt46)<|V' (v_fap0 lk11) (ptS pt47)<|s_do (gtS gt46)<|V' (v_loadp (lkS lk47) (hga hn rfl) gt0) (ptS pt48)<|s_do (gtS gt46)<|V' (v_lenL (lkS lk48)) (ptS pt49)<|s_do (gtS gt46)<|V' (v_gtr (lkS lk49) lki) (ptS pt50)<|V' (v_pickF (lkS lk46) (lkS lk50)) (ptS pt51)<|mv' (lkS lk51) (ptS pt52)<|?_
   refine sp' (gtS gt52) (ptS pt52) (ptS pt52) (fun hg122=>?_) (fun hg122=>?_)
   ·have hN:=lineR_none hB (.inr (.inl (by intro e;rw [e] at hg122;exact absurd hg122 (by decide))))
    refine s_no (gtS gt52) (ptS pt53)<|s_no (gtS gt52) (ptS pt54)<|s_no (gtS gt52) (ptS pt55)<|s_no (gtS gt52) (ptS pt56)<|s_no (gtS gt52) (ptS pt57)<|s_no (gtS gt52) (ptS pt58)<|s_no (gtS gt52) (ptS pt59)<|V' (v_pickT (lkS lk52) lkb) (ptS pt60)<|sn'<|w_condT (lkS lk60)<|w_seq<|w_drwU<|u_fr rfl (v_build SrcY_ParseOf_146) (ptS pt61)<|?_
    refine u_fr rfl (v_mv lk5) (ptS pt62)<|u_fr rfl (v_mv lk10) (ptS pt63)<|?_
    refine u_fr rfl (v_iaR (lkS lk62) (lkS lk63) ln_len1 (nb' rfl) (by first | rfl | omega) (by omega) (by first | rfl | omega) rfl) (ptS pt64) ?_
    refine u_fr rfl (v_far (lkS lk64) dp0) (ptS pt65)<|u_fr rfl (v_loadr (lkS lk65) gt0) (ptS pt66)<|?_
    refine u_st (e_store lk2 (cvl (lkS lk61) rfl) (hga hn rfl) rfl (nb' rfl) rfl SrcY_sc0_3 (hs0 hn)) lk2 (by first | (simp [noHit];done) | (simp [noHit];omega) | (simp [noHit] <;> (try intros) <;> omega)) ptn ?_
    refine u_fr rfl (v_mv (lkS lk66)) pt3<|u_fr rfl (v_mv lki) pt4<|u_nil<|n_seq<|w_rets<|r_blk<|r_thn<|r_thn<|r_blk<|r_thn<|w_ret (rsn (rm1 (rr_c gt2 (hga hn rfl) (ld1 SrcY_tk0_3 rfl)) (rm1 (rr_t gt3) (rm1 (rr_t gt4) rm0))))<|rtW'<|?_
    have hP:parseV s=(srcZ,L[k].1,1):=by rw [hV,outP,hrun,hN]
    rw [hP];exact wk_srcZ
   refine s_do (gtS gt52)<|mv' lk5 (ptS pt53)<|s_do (gtS gt52)<|mv' lk10 (ptS pt54)<|s_do (gtS gt52)<|?_
   refine V' (v_iaR (lkS lk53) (lkS lk54) ln_len1 (nb' rfl) (by first | rfl | omega) (by omega) (by first | rfl | omega) rfl) (ptS pt55) ?_
   refine s_do (gtS gt52)<|V' (v_far (lkS lk55) dp1) (ptS pt56)<|s_do (gtS gt52)<|V' (v_loadr (lkS lk56) gt0) (ptS pt57)<|s_do (gtS gt52)<|mv' lk12 (ptS pt58)<|s_do (gtS gt52)<|V' (v_eqbN (lkS lk57) (lkS lk58)) (ptS pt59)<|V' (v_pickF (lkS lk52) (lkS lk59)) (ptS pt60)<|sn'<|?_
   refine cd' (lkS lk60) (fun hc8=>?_) (fun hc8=>?_)
   ·have hN:=lineR_none hB (.inr (.inr (by simpa using hc8)))
    refine w_seq<|w_drwU<|u_fr rfl (v_build SrcY_ParseOf_146) (ptS pt61)<|u_fr rfl (v_mv lk5) (ptS pt62)<|u_fr rfl (v_mv lk10) (ptS pt63)<|?_
    refine u_fr rfl (v_iaR (lkS lk62) (lkS lk63) ln_len1 (nb' rfl) (by first | rfl | omega) (by omega) (by first | rfl | omega) rfl) (ptS pt64) ?_
    refine u_fr rfl (v_far (lkS lk64) dp0) (ptS pt65)<|u_fr rfl (v_loadr (lkS lk65) gt0) (ptS pt66)<|?_
    refine u_st (e_store lk2 (cvl (lkS lk61) rfl) (hga hn rfl) rfl (nb' rfl) rfl SrcY_sc0_3 (hs0 hn)) lk2 (by first | (simp [noHit];done) | (simp [noHit];omega) | (simp [noHit] <;> (try intros) <;> omega)) ptn ?_
    refine u_fr rfl (v_mv (lkS lk66)) pt3<|u_fr rfl (v_mv lki) pt4<|u_nil<|n_seq<|w_rets<|r_blk<|r_thn<|r_thn<|r_blk<|r_thn<|w_ret (rsn (rm1 (rr_c gt2 (hga hn rfl) (ld1 SrcY_tk0_3 rfl)) (rm1 (rr_t gt3) (rm1 (rr_t gt4) rm0))))<|rtW'<|?_
    have hP:parseV s=(srcZ,L[k].1,1):=by rw [hV,outP,hrun,hN]
    rw [hP];exact wk_srcZ
   have hu1:u.2=false:=by simpa using hg116
   have hu2:u.1=[]:=List.eq_nil_of_length_eq_zero (by omega)
   have hS:=lineR_some hB hu1 hu2 (by simpa using hc8)
   rw [hS] at hrun
   have hokq:=hPT.1
   rw [hB] at hokq
   refine w_skip<|n_blk<|?_
   refine n_seqw ((ALe.iceCellNew (ds:=rows eraC (z.2++[x])) (k:=sr.2.1.length*2+1) (ty2:=64) (st2:=10) (hga hn rfl) (hga hn rfl) (by omega) (zc_at rfl) (by rw [rows_app,rows_one];exact List.take_of_length_le (by simp [era_len,eC];omega)) (by simp [era_len,eC];omega) zc_put (hs5 hn) (hs3 hn))) ?_
   refine w_reg<|mv' lk10 pt34<|?_
   refine V' (v_add lk34 lki (by omega) (by omega)) pt35 ?_
   refine mv' lk35 pt10<|s_nil<|n_thn<|?_
   refine lU' (⟨k+1,(sr.1,sr.2.1++[(z.1,z.2++[x])],sr.2.2),none,m,v1,v2,v3,v4+2⟩) (by (try dsimp only);rw [hq] at hrun hokq;exact ⟨by omega,by simp;omega,by omega,by omega,by omega,by simp [eC],hokq,hrun⟩) (by (try dsimp only);(try simp only [setsT,setsE,z',s',rn',la',ln',Nat.reduceAdd]);exact bkE' 6 hn hlt (by repeat (first | exact wk0 | refine wka ?_ | refine wk1 rfl ?_ | refine wk1 (by first | rfl | exact ivx (by omega) | (simp;done) | exact bvx (by have h9:=hs68;unfold openE at h9;rw [h9];rfl) | exact bvx (by have h9:=hs106;unfold openE at h9;rw [h9];rfl) | exact bvx (by have h9:=hs68;unfold openE at h9;rw [Bool.not_eq_true] at h9;rw [h9];rfl) | exact bvx (by have h9:=hs106;unfold openE at h9;rw [Bool.not_eq_true] at h9;rw [h9];rfl)) ?_)) (by simp only [zonC,rows_app,rows_one,zC,eC,List.append_nil,List.length_append,List.length_singleton];rfl) (hT:=by first | rfl | (simp only [AV.lt,AV.ltL,Ent.lt,List.all_cons,List.all_nil,Bool.and_true,Bool.and_self,decide_true,rul_lt,era_lt,zon_lt,lnk_lt,str_lt,ln_lt,zc_lt,lt26,lt36,lt46,lt56];done) | exact lt') (hE:=by first | rfl | (simp only [AV.lt,AV.ltL,Ent.lt,List.all_cons,List.all_nil,Bool.and_true,Bool.and_self,decide_true,rul_lt,era_lt,zon_lt,lnk_lt,str_lt,ln_lt,zc_lt,lt26,lt36,lt46,lt56];done) | exact lt'))
  have hq:withEra (curS sr (some z)) x=(curS sr (some (z.1,z.2++[x])),true):=by rw [hw,show openE x=false by simpa using hs68];rfl
  refine V' (v_fap0 lk15) pt68<|V' (v_loadp lk68 (hga hn rfl) gt4) pt69<|V' (v_notB lk69) (ptS pt0)<|mv' (lkS lk0) pt9<|s_nil<|n_blk<|n_seq<|wr'<|V' (v_fap0 lk11) (ptS pt44)<|V' (v_loadp (lkS lk44) (hga hn rfl) gt1) (ptS pt45)<|mv' (lkS lk45) (ptS pt46)<|?_
  refine s_splitB (gtS gt46) (ptS pt46) (ptS pt46) (fun hg116=>?_) (fun hg116=>?_)
  ·have hN:=lineR_none hB (.inl hg116)
   refine s_no (gtS gt46) (ptS pt47)<|s_no (gtS gt46) (ptS pt48)<|s_no (gtS gt46) (ptS pt49)<|s_no (gtS gt46) (ptS pt50)<|V' (v_pickT (lkS lk46) lkb) (ptS pt51)<|mv' (lkS lk51) (ptS pt52)<|s_no (gtS gt52) (ptS pt53)<|s_no (gtS gt52) (ptS pt54)<|s_no (gtS gt52) (ptS pt55)<|s_no (gtS gt52) (ptS pt56)<|s_no (gtS gt52) (ptS pt57)<|s_no (gtS gt52) (ptS pt58)<|s_no (gtS gt52) (ptS pt59)<|V' (v_pickT (lkS lk52) lkb) (ptS pt60)<|?_
   refine sn'<|w_condT (lkS lk60)<|w_seq<|w_drwU<|u_fr rfl (v_build SrcY_ParseOf_146) (ptS pt61)<|u_fr rfl (v_mv lk5) (ptS pt62)<|u_fr rfl (v_mv lk10) (ptS pt63)<|?_
   refine u_fr rfl (v_iaR (lkS lk62) (lkS lk63) ln_len1 (nb' rfl) (by first | rfl | omega) (by omega) (by first | rfl | omega) rfl) (ptS pt64) ?_
   refine u_fr rfl (v_far (lkS lk64) dp0) (ptS pt65)<|u_fr rfl (v_loadr (lkS lk65) gt0) (ptS pt66)<|?_
   refine u_st (e_store lk2 (cvl (lkS lk61) rfl) (hga hn rfl) rfl (nb' rfl) rfl SrcY_sc0_3 (hs0 hn)) lk2 (by first | (simp [noHit];done) | (simp [noHit];omega) | (simp [noHit] <;> (try intros) <;> omega)) ptn ?_
   refine u_fr rfl (v_mv (lkS lk66)) pt3<|u_fr rfl (v_mv lki) pt4<|u_nil<|n_seq<|w_rets<|r_blk<|r_thn<|r_thn<|r_blk<|r_thn<|w_ret (rsn (rm1 (rr_c gt2 (hga hn rfl) (ld1 SrcY_tk0_3 rfl)) (rm1 (rr_t gt3) (rm1 (rr_t gt4) rm0))))<|rtW'<|?_
   have hP:parseV s=(srcZ,L[k].1,1):=by rw [hV,outP,hrun,hN]
   rw [hP];exact wk_srcZ
  refine s_do (gtS gt46)<|V' (v_fap0 lk11) (ptS pt47)<|s_do (gtS gt46)<|V' (v_loadp (lkS lk47) (hga hn rfl) gt0) (ptS pt48)<|s_do (gtS gt46)<|V' (v_lenL (lkS lk48)) (ptS pt49)<|s_do (gtS gt46)<|V' (v_gtr (lkS lk49) lki) (ptS pt50)<|V' (v_pickF (lkS lk46) (lkS lk50)) (ptS pt51)<|mv' (lkS lk51) (ptS pt52)<|?_
  refine sp' (gtS gt52) (ptS pt52) (ptS pt52) (fun hg122=>?_) (fun hg122=>?_)
  ·have hN:=lineR_none hB (.inr (.inl (by intro e;rw [e] at hg122;exact absurd hg122 (by decide))))
   refine s_no (gtS gt52) (ptS pt53)<|s_no (gtS gt52) (ptS pt54)<|s_no (gtS gt52) (ptS pt55)<|s_no (gtS gt52) (ptS pt56)<|s_no (gtS gt52) (ptS pt57)<|s_no (gtS gt52) (ptS pt58)<|s_no (gtS gt52) (ptS pt59)<|V' (v_pickT (lkS lk52) lkb) (ptS pt60)<|sn'<|w_condT (lkS lk60)<|w_seq<|w_drwU<|u_fr rfl (v_build SrcY_ParseOf_146) (ptS pt61)<|?_
   refine u_fr rfl (v_mv lk5) (ptS pt62)<|u_fr rfl (v_mv lk10) (ptS pt63)<|?_
   refine u_fr rfl (v_iaR (lkS lk62) (lkS lk63) ln_len1 (nb' rfl) (by first | rfl | omega) (by omega) (by first | rfl | omega) rfl) (ptS pt64) ?_
   refine u_fr rfl (v_far (lkS lk64) dp0) (ptS pt65)<|u_fr rfl (v_loadr (lkS lk65) gt0) (ptS pt66)<|?_
   refine u_st (e_store lk2 (cvl (lkS lk61) rfl) (hga hn rfl) rfl (nb' rfl) rfl SrcY_sc0_3 (hs0 hn)) lk2 (by first | (simp [noHit];done) | (simp [noHit];omega) | (simp [noHit] <;> (try intros) <;> omega)) ptn ?_
   refine u_fr rfl (v_mv (lkS lk66)) pt3<|u_fr rfl (v_mv lki) pt4<|u_nil<|n_seq<|w_rets<|r_blk<|r_thn<|r_thn<|r_blk<|r_thn<|w_ret (rsn (rm1 (rr_c gt2 (hga hn rfl) (ld1 SrcY_tk0_3 rfl)) (rm1 (rr_t gt3) (rm1 (rr_t gt4) rm0))))<|rtW'<|?_
   have hP:parseV s=(srcZ,L[k].1,1):=by rw [hV,outP,hrun,hN]
   rw [hP];exact wk_srcZ
  refine s_do (gtS gt52)<|mv' lk5 (ptS pt53)<|s_do (gtS gt52)<|mv' lk10 (ptS pt54)<|s_do (gtS gt52)<|?_
  refine V' (v_iaR (lkS lk53) (lkS lk54) ln_len1 (nb' rfl) (by first | rfl | omega) (by omega) (by first | rfl | omega) rfl) (ptS pt55) ?_
  refine s_do (gtS gt52)<|V' (v_far (lkS lk55) dp1) (ptS pt56)<|s_do (gtS gt52)<|V' (v_loadr (lkS lk56) gt0) (ptS pt57)<|s_do (gtS gt52)<|mv' lk12 (ptS pt58)<|s_do (gtS gt52)<|V' (v_eqbN (lkS lk57) (lkS lk58)) (ptS pt59)<|V' (v_pickF (lkS lk52) (lkS lk59)) (ptS pt60)<|sn'<|?_
  refine cd' (lkS lk60) (fun hc8=>?_) (fun hc8=>?_)
  ·have hN:=lineR_none hB (.inr (.inr (by simpa using hc8)))
   refine w_seq<|w_drwU<|u_fr rfl (v_build SrcY_ParseOf_146) (ptS pt61)<|u_fr rfl (v_mv lk5) (ptS pt62)<|u_fr rfl (v_mv lk10) (ptS pt63)<|?_
   refine u_fr rfl (v_iaR (lkS lk62) (lkS lk63) ln_len1 (nb' rfl) (by first | rfl | omega) (by omega) (by first | rfl | omega) rfl) (ptS pt64) ?_
   refine u_fr rfl (v_far (lkS lk64) dp0) (ptS pt65)<|u_fr rfl (v_loadr (lkS lk65) gt0) (ptS pt66)<|?_
   refine u_st (e_store lk2 (cvl (lkS lk61) rfl) (hga hn rfl) rfl (nb' rfl) rfl SrcY_sc0_3 (hs0 hn)) lk2 (by first | (simp [noHit];done) | (simp [noHit];omega) | (simp [noHit] <;> (try intros) <;> omega)) ptn ?_
   refine u_fr rfl (v_mv (lkS lk66)) pt3<|u_fr rfl (v_mv lki) pt4<|u_nil<|n_seq<|w_rets<|r_blk<|r_thn<|r_thn<|r_blk<|r_thn<|w_ret (rsn (rm1 (rr_c gt2 (hga hn rfl) (ld1 SrcY_tk0_3 rfl)) (rm1 (rr_t gt3) (rm1 (rr_t gt4) rm0))))<|rtW'<|?_
   have hP:parseV s=(srcZ,L[k].1,1):=by rw [hV,outP,hrun,hN]
   rw [hP];exact wk_srcZ
  have hu1:u.2=false:=by simpa using hg116
  have hu2:u.1=[]:=List.eq_nil_of_length_eq_zero (by omega)
  have hS:=lineR_some hB hu1 hu2 (by simpa using hc8)
  rw [hS] at hrun
  have hokq:=hPT.1
  rw [hB] at hokq
  refine w_skip<|n_blk<|n_seq<|w_reg<|mv' lk10 pt34<|?_
  refine V' (v_add lk34 lki (by omega) (by omega)) pt35 ?_
  refine mv' lk35 pt10<|s_nil<|n_thn<|?_
  refine lU' (⟨k+1,sr,some (z.1,z.2++[x]),m,v1,v2,v3,v4+1⟩) (by (try dsimp only);rw [hq] at hrun hokq;exact ⟨by omega,by simp;omega,by omega,by omega,by omega,by simp [eC] at hk5 ⊢;omega,hokq,hrun⟩) (by (try dsimp only);(try simp only [setsT,setsE,z',s',rn',la',ln',Nat.reduceAdd]);exact bkE' 6 hn hlt (by repeat (first | exact wk0 | refine wka ?_ | refine wk1 rfl ?_ | refine wk1 (by first | rfl | exact ivx (by omega) | (simp;done) | exact bvx (by have h9:=hs68;unfold openE at h9;rw [h9];rfl) | exact bvx (by have h9:=hs106;unfold openE at h9;rw [h9];rfl) | exact bvx (by have h9:=hs68;unfold openE at h9;rw [Bool.not_eq_true] at h9;rw [h9];rfl) | exact bvx (by have h9:=hs106;unfold openE at h9;rw [Bool.not_eq_true] at h9;rw [h9];rfl)) ?_)) (by simp only [zonC,rows_app,rows_one,zC,eC,List.append_nil,List.length_append,List.length_singleton];rfl) (hT:=by first | rfl | (simp only [AV.lt,AV.ltL,Ent.lt,List.all_cons,List.all_nil,Bool.and_true,Bool.and_self,decide_true,rul_lt,era_lt,zon_lt,lnk_lt,str_lt,ln_lt,zc_lt,lt26,lt36,lt46,lt56];done) | exact lt') (hE:=by first | rfl | (simp only [AV.lt,AV.ltL,Ent.lt,List.all_cons,List.all_nil,Bool.and_true,Bool.and_self,decide_true,rul_lt,era_lt,zon_lt,lnk_lt,str_lt,ln_lt,zc_lt,lt26,lt36,lt46,lt56];done) | exact lt'))
 have hke:k=L.length:=by omega
 rw [List.drop_of_length_le (by omega),runR] at hrun
 have hV2:parseV s=endP (curS sr o,o.isSome):=by rw [hV,outP,hrun]
 refine w_exit<|x_thn<|x_thn<|x_blk<|n_seq<|w_seq<|wr'<|mv' lk9 (ptS pt67)<|sn'<|?_
 refine cd' (lkS lk67) (fun hc9=>?_) (fun hc9=>?_)
 ·have hP:parseV s=(srcZ,0,1):=by rw [hV2];exact if_pos hc9
  refine wr'<|V' (v_build SrcY_ParseOf_159) (ptS pt68)<|E' (e_store lk2 (cvl (lkS lk68) rfl) (hga hn rfl) rfl (nb' rfl) rfl SrcY_sc0_3 (hs0 hn)) ptn<|mv' lki pt3<|mv' lki pt4<|sn'<|w_rets<|r_thn<|w_ret (rsn (rm1 (rr_c gt2 (hga hn rfl) (ld1 SrcY_tk0_3 rfl)) (rm1 (rr_t gt3) (rm1 (rr_t gt4) rm0))))<|rtW'<|?_
  rw [hP];exact wk_srcZ
 obtain rfl:o=none:=by cases o;rfl;cases hc9
 have hm':m=sr.2.1.length:=by simpa using hm
 subst hm'
 rw [curS_none] at hok hV2
 refine w_skip ?_
 refine n_seqw ((ALe.trans (ALe.iceCellR (ds:=rows rulC sr.1) (hga hn rfl) (hga hn rfl) (by omega) gt0 (List.take_of_length_le (by rw [rul_len];exact Nat.le_refl _)) (by rw [rul_len];exact Nat.le_refl _) pt0 (hs2 hn) (hs1 hn)) (ALe.trans (ALe.iceCellR (ds:=rows zonC sr.2.1) (hga hn rfl) (hga hn rfl) (by omega) gt1 (by rw [show rows zonC sr.2.1++zC N v4 none=rows zonC sr.2.1 from List.append_nil _];exact List.take_of_length_le (by rw [zon_len];exact Nat.le_refl _)) (by rw [zc_len];simp) pt1 (hs3 hn) (hs1 hn)) (ALe.iceCellR (ds:=rows lnkC sr.2.2) (hga hn rfl) (hga hn rfl) (by omega) gt2 (List.take_of_length_le (by rw [lnk_len];exact Nat.le_refl _)) (by rw [lnk_len];exact Nat.le_refl _) pt2 (hs4 hn) (hs1 hn))))) ?_
 refine wr'<|V' (v_loadpA lk8 (hga hn rfl) SrcY_tk0_3 rfl) (ptS pt69)<|s_callp (mp1 (lkS lk69) mp0) (rcheckS_b (a:=sr.1) (z:=sr.2.1) (l:=sr.2.2) hok) (ptS (ptS pt0))<|mv' (lkS (lkS lk0)) pt7<|sn'<|w_seq<|wr'<|mv' lk7 (ptS (ptS pt1))<|V' (v_neq (lkS (lkS lk1)) lki) (ptS (ptS pt2))<|sn'<|?_
 refine cd' (lkS (lkS lk2)) (fun hc10=>?_) (fun hc10=>?_)
 ·have hP:parseV s=(srcZ,0,checkE sr):=by rw [hV2,endP,if_neg (by simp)];exact if_pos hc10
  refine wr'<|V' (v_build SrcY_ParseOf_168) (ptS (ptS pt3))<|mv' lk7 (ptS (ptS pt4))<|E' (e_store lk2 (cvl (lkS (lkS lk3)) rfl) (hga hn rfl) rfl (nb' rfl) rfl SrcY_sc0_3 (hs0 hn)) ptn<|mv' lki pt3<|mv' (lkS (lkS lk4)) pt4<|sn'<|w_rets<|r_thn<|w_ret (rsn (rm1 (rr_c gt2 (hga hn rfl) (ld1 SrcY_tk0_3 rfl)) (rm1 (rr_t gt3) (rm1 (rr_t gt4) rm0))))<|rtW'<|?_
  rw [hP];exact wk_srcZ
 have h0:checkE sr=0:=Decidable.of_not_not hc10
 have hP:parseV s=(sr,0,0):=by rw [hV2,endP,if_neg (by simp)];exact if_neg hc10
 refine w_skip<|n_seq<|wr'<|V' (v_loadpA lk8 (hga hn rfl) SrcY_tk0_3 rfl) (ptS (ptS pt5))<|mv' lk7 (ptS (ptS pt6))<|E' (e_store lk2 (cvl (lkS (lkS lk5)) rfl) (hga hn rfl) rfl (nb' rfl) rfl SrcY_sc0_3 (hs0 hn)) ptn<|mv' lki pt3<|mv' (lkS (lkS lk6)) pt4<|sn'<|w_rets<|w_ret (rsn (rm1 (rr_c gt2 (hga hn rfl) (ld1 SrcY_tk0_3 rfl)) (rm1 (rr_t gt3) (rm1 (rr_t gt4) rm0))))<|rtW'<|?_
 rw [hP];exact Wk.tup (wk1 rfl (wk1 rfl (wk1 (ivx h0.symm) wk0)))
end Go.Proofs.YtgjchdhdopgkkaaGreatDoor
end
section
namespace Go.Proofs.YtgjchdhdopgkkaaGreatDoor
open Go.Ab Go.RowKit Civ
attribute [local simp] rul_lt era_lt zon_lt lnk_lt str_lt ln_lt lt26 lt36 lt46 lt56
theorem lineR_okS {p q:PS}{x:Ln}(hok:okSrc p.1) (ho:okL x.2.2) (e:lineR p x=some q):okSrc q.1:=by
 by_cases hb:badT p x
 ·rw [lineR_bad hb] at e;cases e
 rw [lineR_ok hb] at e
 cases e
 exact (pt_body hok (x.2.2,false) ho).1
end Go.Proofs.YtgjchdhdopgkkaaGreatDoor
end
section
namespace Go.Proofs.YtgjchdhdopgkkaaGreatDoor
open Go.Ab Go.RowKit Civ
attribute [local simp] rul_lt era_lt zon_lt lnk_lt str_lt
section
theorem SrcBeg_sc0_3 {a0 a1 a2 c0 c1 c2:AV}{l:List AV}:setCells (a0::a1::a2::l) 0 [c0,c1,c2]=c0::c1::c2::l:=rfl
theorem SrcBeg_tk0_3 {a0 a1 a2:AV}{l:List AV}:((a0::a1::a2::l).drop 0).take 3=[a0,a1,a2]:=rfl
end
def c32:AC:=(.seq (.reg [Oo 0 (.new 26 3 [(.sl 0 0 true []),(.sl 0 0 true []),(.sl 0 0 true [])])]) (.seq (.reg [Oo 5 (.call (.func 19) [(.const (.string ⟨#[82,117,108,101,32,101,117,32,49,57,56,49,32,109,97,120,32,77,97,114,32,108,97,115,116,83,117,110,32,49,58,48,48,117,32,49,58,48,48,32,83,10,82,117,108,101,32,101,117,32,49,57,57,54,32,109,97,120,32,79,99,116,32,108,97,115,116,83,117,110,32,49,58,48,48,117,32,48,32,45,10,90,111,110,101,32,72,101,114,101,47,84,111,119,110,32,48,58,49,48,32,45,32,76,77,84,32,49,56,56,48,32,74,97,110,32,49,32,48,10,32,32,49,58,48,48,32,101,117,32,67,69,37,115,84,10,76,105,110,107,32,72,101,114,101,47,84,111,119,110,32,79,108,100,10]⟩))]),Mv 4 5,Ex 6 4 0,Ex 7 4 1,Ex 8 4 2,Oo 1 (.new 26 3 [(.sl 0 0 true []),(.sl 0 0 true []),(.sl 0 0 true [])]),⟨none,none,(.store 3 (.tmp 1) (.tmp 6))⟩,Mv 2 7,Mv 3 8]) (.seq (.reg [Oo 9 (.load true 3 (.tmp 1)),⟨none,none,(.store 3 (.tmp 0) (.tmp 9))⟩]) .ret)))
theorem k32:compF Tryz.prog 32=some ⟨c32,[(.cell 0 true 3)],10⟩:=by kernel_rfl
def txtS:Bs:=[82,117,108,101,32,101,117,32,49,57,56,49,32,109,97,120,32,77,97,114,32,108,97,115,116,83,117,110,32,49,58,48,48,117,32,49,58,48,48,32,83,10,82,117,108,101,32,101,117,32,49,57,57,54,32,109,97,120,32,79,99,116,32,108,97,115,116,83,117,110,32,49,58,48,48,117,32,48,32,45,10,90,111,110,101,32,72,101,114,101,47,84,111,119,110,32,48,58,49,48,32,45,32,76,77,84,32,49,56,56,48,32,74,97,110,32,49,32,48,10,32,32,49,58,48,48,32,101,117,32,67,69,37,115,84,10,76,105,110,107,32,72,101,114,101,47,84,111,119,110,32,79,108,100,10]
theorem runR_okS : ∀ {l:List Ln}{p q:PS},okSrc p.1→(∀ x∈l,okL x.2.2)→runR p l = .inl q→okSrc q.1
 | [],p,q,hok,_,e=>by rw [runR] at e;cases e;exact hok
 | x::l,p,q,hok,hl,e=>by
  rw [runR] at e
  cases hx:lineR p x with
  | none=>rw [hx] at e;cases e
  | some q1 =>
   rw [hx] at e
   exact runR_okS (lineR_okS hok (hl x (by simp)) hx) (fun y hy=>hl y (by simp [hy])) e
theorem okSrc_0:okSrc srcZ:=by have:=okSrc_Z;rwa [curS_none] at this
theorem parse_okS {s:ByteArray}:okSrc (parseV s).1:=by
 by_cases h:(parseV s).2.2=0
 ·obtain ⟨_,s2,_⟩:=parseV_ok h
  exact runR_okS (p:=(srcZ,false)) okSrc_0 (fun x hx=>split_fields x hx) s2
 rw [parseV_bad h];exact okSrc_0
theorem triple_eq {α:Type}{p:α×Int×Int}(h1:p.2.1=0) (h2:p.2.2=0):p=(p.1,0,0):=by
 obtain ⟨a,b,c⟩:=p
 simp only at h1 h2
 subst h1 h2
 rfl
theorem prs_txt : ∃ S:Src,parseV (bA txtS)=(S,0,0)∧checkE S=0∧okSrc S:=by
 have h:(parseV (bA txtS)).2.2=0:=by kernel_rfl
 obtain ⟨_,_,h3,h4⟩:=parseV_ok h
 exact ⟨(parseV (bA txtS)).1,triple_eq h4 h,h3,parse_okS⟩
theorem rp_txt {S:Src}(e:parseV (bA txtS)=(S,0,0)) {h:AH}:ACalls Tryz.prog 19 [sv (bA txtS)] h fun x h'=>h'=h∧x = .ret (.tup [.agg (srcC S),iv 0,iv 0]):=by
 have:=rparse_a (s:=bA txtS) (h:=h)
 rw [e] at this
 exact this
theorem parsed_a {S:Src}(e:parseV (bA txtS)=(S,0,0)) {h:AH}:ACalls Tryz.prog 32 [] h fun x h'=>h'=h∧x = .ret (.agg (srcC S)):=by
 refine tI' k32 fun N hn hlt hlA hbd=>?_
 simp only [tA',AV.bdL,AV.bd,and_true,true_and] at hbd ⊢
 refine wr'<|E' (e_new (hl0 hn) ha0) pt0<|sn'<|wr'<|s_callp (mp1 lks mp0) (rp_txt e) pt5<|mv' lk5 pt4<|V' (v_ext lk4 gt0) pt6<|V' (v_ext lk4 gt1) pt7<|V' (v_ext lk4 gt2) pt8<|E' (e_new (hl1 hn) ha1) pt1<|E' (e_store lk1 (cvl lk6 rfl) (hga hn rfl) rfl (nb' rfl) rfl SrcBeg_sc0_3 (hs1 hn)) ptn<|?_
 exact mv' lk7 pt2<|mv' lk8 pt3<|sn'<|wr'<|V' (v_loadpA lk1 (hga hn rfl) SrcBeg_tk0_3 rfl) pt9<|E' (e_store lk0 (cvl lk9 rfl) (hga hn rfl) rfl (nb' rfl) rfl SrcBeg_sc0_3 (hs0 hn)) ptn<|sn'<|w_rets<|w_ret (rs1 (rr_c gt0 (hga hn rfl) (ld1 SrcBeg_tk0_3 rfl)))<|rT' rfl
abbrev RulD:Ds:=.pair .str (.pair .int (.pair .int (.pair .int (.pair (.pair .int (.pair .int .int)) (.pair .int (.pair .int (.pair .int .str)))))))
abbrev EraD:Ds:=.pair .int (.pair .str (.pair .int (.pair .str (.pair .bool (.pair (.pair .int (.pair .int .int)) (.pair .int .int))))))
abbrev ZonD:Ds:=.pair .str (.slice EraD)
abbrev LnkD:Ds:=.pair .str .str
abbrev SrcDs:Ds:=.pair (.slice RulD) (.pair (.slice ZonD) (.slice LnkD))
theorem okSrc_of {s:Src}(h:okD SrcDs s):okSrc s:=by
 obtain ⟨h1,h2,h3⟩:=h
 refine ⟨fun r hr=>?_,fun z hz=>?_,fun l hl=>?_⟩
 ·obtain ⟨i,hi,rfl⟩:=List.getElem_of_mem hr
  have:=h1 i hi
  exact ⟨this.1,this.2.2.2.2.2.2.2.2⟩
 ·obtain ⟨i,hi,rfl⟩:=List.getElem_of_mem hz
  have:=h2 i hi
  refine ⟨this.1,fun x hx=>?_⟩
  obtain ⟨j,hj,rfl⟩:=List.getElem_of_mem hx
  have:=this.2 j hj
  exact ⟨this.2.1,this.2.2.2.1⟩
 obtain ⟨i,hi,rfl⟩:=List.getElem_of_mem hl
 exact h3 i hi
end Go.Proofs.YtgjchdhdopgkkaaGreatDoor
end
section
namespace Go.Proofs.YtgjchdhdopgkkaaGreatDoor
open Go.Ab Go.RowKit
attribute [local simp] rul_lt era_lt zon_lt lnk_lt str_lt
section
theorem ShwBeg_showBegun_22 {τ:Operand→AV}:fillAV τ [] [(.sl 0 0 true []),(.sl 0 0 true []),(.sl 0 0 true [])]=some [(.sl 0 0 true []),(.sl 0 0 true []),(.sl 0 0 true [])]:=rfl
end
def c12:AC:=(.seq (.reg [Oo 0 (.mv (.const (.bool false)))]) (.seq (.reg [Oo 4 (.call (.func 32) []),Oo 5 (.call (.func 8) [(.tmp 4)]),Mv 3 5,Ex 6 3 0,Ex 7 3 1,Mv 1 6,Mv 2 7]) (.seq (.reg [Mv 8 2,Oo 9 (.bin .eql (.tmp 8) (Ci 0)),Mv 10 9,Ot 11 10 (.mv (.tmp 1)),Ot 12 10 (.bin .eql (.tmp 11) (.const (.string ⟨#[82,117,108,101,32,101,117,32,49,57,56,49,32,109,97,120,32,77,97,114,32,108,97,115,116,83,117,110,32,49,58,48,48,117,32,49,58,48,48,32,83,10,82,117,108,101,32,101,117,32,49,57,57,54,32,109,97,120,32,79,99,116,32,108,97,115,116,83,117,110,32,49,58,48,48,117,32,48,58,48,48,32,45,10,90,111,110,101,32,72,101,114,101,47,84,111,119,110,32,48,58,49,48,32,45,32,76,77,84,32,49,56,56,48,32,74,97,110,32,49,32,48,58,48,48,10,32,49,58,48,48,32,101,117,32,67,69,37,115,84,10,76,105,110,107,32,72,101,114,101,47,84,111,119,110,32,79,108,100,10]⟩))),Oo 13 (.pick (.tmp 10) (.tmp 12) (.const (.bool false))),Mv 14 13,Ot 15 14 (.call (.func 32) []),Ot 16 14 (.call (.func 32) []),Ot 17 14 (.call (.func 13) [(.tmp 15),(.tmp 16)]),Oo 18 (.pick (.tmp 14) (.tmp 17) (.const (.bool false))),Mv 19 18,Ot 20 19 (.call (.func 32) []),Ot 21 19 (.build [(.sl 0 0 true []),(.sl 0 0 true []),(.sl 0 0 true [])] []),Ot 22 19 (.call (.func 13) [(.tmp 20),(.tmp 21)]),Ot 23 19 (.un .not (.tmp 22)),Oo 24 (.pick (.tmp 19) (.tmp 23) (.const (.bool false))),Mv 0 24]) .ret)))
theorem k12:compF Tryz.prog 12=some ⟨c12,[(.tmp 0)],25⟩:=by kernel_rfl
def shownS:Bs:=[82,117,108,101,32,101,117,32,49,57,56,49,32,109,97,120,32,77,97,114,32,108,97,115,116,83,117,110,32,49,58,48,48,117,32,49,58,48,48,32,83,10,82,117,108,101,32,101,117,32,49,57,57,54,32,109,97,120,32,79,99,116,32,108,97,115,116,83,117,110,32,49,58,48,48,117,32,48,58,48,48,32,45,10,90,111,110,101,32,72,101,114,101,47,84,111,119,110,32,48,58,49,48,32,45,32,76,77,84,32,49,56,56,48,32,74,97,110,32,49,32,48,58,48,48,10,32,49,58,48,48,32,101,117,32,67,69,37,115,84,10,76,105,110,107,32,72,101,114,101,47,84,111,119,110,32,79,108,100,10]
theorem shn_txt {S:Src}(e:parseV (bA txtS)=(S,0,0)):showV S=(bA shownS,0)∧S≠srcZ:=by
 have h1:showV (parseV (bA txtS)).1=(bA shownS,0):=by kernel_rfl
 have h2:(parseV (bA txtS)).1.1.length=2:=by kernel_rfl
 rw [e] at h1 h2
 exact ⟨h1,fun h=>by rw [h] at h2;cases h2⟩
theorem shbegun_a {h:AH}:ACalls Tryz.prog 12 [] h fun x h'=>h'=h∧x = .ret (bv true):=by
 obtain ⟨S,eS,hS1,hS2⟩:=prs_txt
 obtain ⟨hV,hZ⟩:=shn_txt eS
 have hsh : ∀ {h:AH},ACalls Tryz.prog 8 [.agg (srcC S)] h fun x h'=>h'=h∧x = .ret (.tup [sv (bA shownS),iv 0]):=by
  intro h
  have:=show_a (s:=S) (h:=h) hS2
  rw [hV] at this
  exact this
 refine tI' k12 fun N hn hlt hlA hbd=>?_
 simp only [tA',AV.bdL,AV.bd,and_true,true_and] at hbd ⊢
 refine wr'<|mv' lkb pt0<|sn'<|wr'<|s_callp mp0 (parsed_a eS) pt4<|s_callp (mp1 lk4 mp0) (hsh) pt5<|mv' lk5 pt3<|V' (v_ext lk3 gt0) pt6<|V' (v_ext lk3 gt1) pt7<|mv' lk6 pt1<|mv' lk7 pt2<|?_
 refine sn'<|wr'<|mv' lk2 pt8<|V' (v_eql lk8 lki) pt9<|mv' lk9 pt10<|?_
 refine s_known gt10 (b:=true) (by rfl) pt10 ?_
 refine s_do gt10<|mv' lk1 pt11<|s_do gt10<|V' (v_eqlS lk11 lks) pt12<|V' (v_pickT lk10 lk12) pt13<|mv' lk13 pt14<|?_
 refine s_known gt14 (b:=true) (by exact decide_eq_true rfl) pt14 ?_
 refine s_do gt14<|s_callp mp0 (parsed_a eS) pt15<|s_do gt14<|s_callp mp0 (parsed_a eS) pt16<|s_do gt14<|s_callp (mp1 lk15 (mp1 lk16 mp0)) (same_a (s:=S) (t:=S)) pt17<|V' (v_pickT lk14 lk17) pt18<|mv' lk18 pt19<|?_
 refine s_known gt19 (b:=true) (by exact decide_eq_true rfl) pt19 ?_
 refine s_do gt19<|s_callp mp0 (parsed_a eS) pt20<|s_do gt19<|V' (v_build ShwBeg_showBegun_22) pt21<|s_do gt19<|?_
 refine s_callp (mp1 lk20 (mp1 lk21 mp0)) (ACalls.wk (wkw (Wk.refl _) (wkw (Wk.agg (wkw Wk.nilF (wkw Wk.nilF (wkw Wk.nilF wk0)))) wk0))<|same_a (s:=S) (t:=srcZ)) pt22 ?_
 refine s_do gt19 ?_
 refine V' ((by first | exact v_not lk22 | exact v_notB lk22)) pt23 ?_
 refine V' (v_pickT lk19 lk23) pt24<|mv' lk24 pt0<|sn'<|w_rets<|w_ret (rs1 (rr_t gt0))<|rT'<|?_
 exact bvx (decide_eq_true hZ)
end Go.Proofs.YtgjchdhdopgkkaaGreatDoor
end
section
namespace Go
variable {H : Type} {enc : TypeId × Value → H}
theorem handed_tied {a:Assume}{C:Checked}{os:Os}{f:FuncId}{fn:Func}{s:ChangeSpec}{apart fresh handsOn again:Bool}{laid:List (String×DataW Unit)}
  (own:ownKnob C.prog.godebug=none) (started:os.Started) (noInit:C.prog.inits.idxOf? f=none) (hfn:C.prog.funcs[f]?=some fn)
  (witness : ∃ (w:World) (tape:Tape) (i:Input),w.os=os∧(w.forCall tape i).Shaped C.prog∧i.vars=[]∧Input.okWide C.prog (w.forCall tape i) .any w.heap.size f i ∧
   ((s.pre enc C.prog fn [] apart (w.forCall tape i).memory i.args∧laidMetH C.prog laid (w.forCall tape i).memory)∧sizedMet enc C.prog fn (OpenSpec.ofChange s) apart (w.forCall tape i).memory i.args)∧a.holds C.prog (lone (Frame.enter C.prog f i.args .normal) [] (w.forCall tape i)))
  (contract : ∀ (W:World) (base:Nat) (args:Array Value) (ds gs:List (DataW H)) (before:List MemPlace),
   (∀ (j:Nat) t v,fn.params[j]?=some t→args[j]?=some v→Value.okWide C.prog W .any base t v) →
   DataW.Whole enc C.prog fn.params.toList s.vars apart W args.toList ds gs before →
   (DataW.weightsEach C.prog (fn.params.toList++s.plain.varTypes C.prog) (ds++gs)).all (· ≤ reachBytes)=true →
   laidMetH C.prog laid W→W.ShapedOpen C.prog →
   Calls C.prog f args W fun e W' => ∃ v,e = .returned v∧s.post enc C.prog fn apart fresh handsOn again W args v W') :
  ReturnsInHanded a C os f .any (fun w args=>(s.pre enc C.prog fn [] apart w args∧laidMetH C.prog laid w)∧sizedMet enc C.prog fn (OpenSpec.ofChange s) apart w args) (s.post enc C.prog fn apart fresh handsOn again):=by
 refine returnsInHanded_of_calls own started noInit witness ?_
 intro w tape i _ hsh _ hok hpre hholds
 obtain ⟨_,_,_,fn',hfn',_,_,_,_,hval⟩:=hok
 have e:fn'=fn:=Option.some.inj (hfn'.symm.trans hfn)
 subst e
 obtain ⟨⟨⟨ds,gs,before,hw,hc⟩,hx⟩,hz⟩:=hpre
 have hw':=DataW.Whole.of_heap (w':=w.forCall tape i) (by rfl) hw
 refine (contract (w.forCall tape i) w.heap.size i.args ds gs before hval hw' (hz.weights hw) (hx.of_heap (by rfl)) hsh).mono fun e W' ⟨v,he,hp⟩=>?_
 subst he
 exact ChangeSpec.post_blind hp
end Go
namespace Go.Proofs.YtgjchdhdopgkkaaGreatDoor
open Go.ChangeShapes Go.WideShapes Go.ChangeAt Go.RowKit Go.Ab
def LaidOk (l:List (String×DataW Unit)):Prop:=(l.filter fun x=>x.1 == "internal/strconv.uint64pow10")=[("internal/strconv.uint64pow10",Lib.tabData .u64 Lib.pow10Tab)]
theorem tab_of_laid {W:World}{l:List (String×DataW Unit)}(h:laidMetH Tryz.prog l W) (hl:LaidOk l):Lib.TabIs Tryz.prog W "internal/strconv.uint64pow10" .u64 Lib.pow10Tab:=by
 have h1:=laidMetH.filter (fun x=>x.1 == "internal/strconv.uint64pow10") h
 rw [hl,MakeChecks.laidMetH_plain _ _ _ (by kernel_rfl)] at h1
 exact Lib.tabIs_of_head (g:=1) (n:=20) (t:=194) (e:=184) (by kernel_rfl) (by kernel_rfl) (by kernel_rfl) (by kernel_rfl) (by kernel_rfl) (by kernel_rfl) h1
theorem globW {W:World}{l:List (String×DataW Unit)}(hsh:W.ShapedOpen Tryz.prog) (hL:laidMetH Tryz.prog l W) (hl:LaidOk l):GlobW W where
 tt:=trivial
 maxLen:=cell_of_shapedOpen_int (t:=3) (zero := #[.int .i64 0]) hsh (of_decide_eq_true (by kernel_rfl)) (by kernel_rfl) rfl (by kernel_rfl) (by kernel_rfl) Tryz.underlying3
 pow10:=tab_of_laid hL hl
end Go.Proofs.YtgjchdhdopgkkaaGreatDoor
end
