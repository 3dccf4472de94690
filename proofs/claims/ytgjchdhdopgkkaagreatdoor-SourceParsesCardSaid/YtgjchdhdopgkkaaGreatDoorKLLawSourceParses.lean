/-
  The law LawSourceParses answers true; own lemmas and contracts lie in the parts ahead. No condition beyond those that each lemma states.
-/
import Derived.Test.YtgjchdhdopgkkaaGreatDoorK5
set_option linter.all false
set_option maxRecDepth 100000
section
namespace Go.Proofs.YtgjchdhdopgkkaaGreatDoor.sourceParses
open Go.ChangeShapes Go.WideShapes Go.ChangeAt Go.RowKit Go.Ab
attribute [local simp] rul_lt era_lt zon_lt lnk_lt str_lt
section
theorem LawSourceParses_sc0_3 {a0 a1 a2 c0 c1 c2:AV}{l:List AV}:setCells (a0::a1::a2::l) 0 [c0,c1,c2]=c0::c1::c2::l:=rfl
theorem LawSourceParses_tk0_3 {a0 a1 a2:AV}{l:List AV}:((a0::a1::a2::l).drop 0).take 3=[a0,a1,a2]:=rfl
end
def c5:AC:=(.seq (.reg [Oo 2 (.mv (.const (.bool false)))]) (.seq (.reg [Mv 10 0,Oo 11 (.call (.func 16) [(.tmp 10)]),Mv 9 11,Ex 12 9 0,Ex 13 9 1,Ex 14 9 2,Oo 3 (.new 26 3 [(.sl 0 0 true []),(.sl 0 0 true []),(.sl 0 0 true [])]),⟨none,none,(.store 3 (.tmp 3) (.tmp 12))⟩,Mv 4 13,Mv 5 14]) (.seq (.reg [Mv 16 0,Oo 17 (.call (.func 19) [(.tmp 16)]),Mv 15 17,Ex 18 15 0,Ex 19 15 1,Ex 20 15 2,Oo 6 (.new 26 3 [(.sl 0 0 true []),(.sl 0 0 true []),(.sl 0 0 true [])]),⟨none,none,(.store 3 (.tmp 6) (.tmp 18))⟩,Mv 7 19,Mv 8 20]) (.seq (.reg [Oo 21 (.call (.func 15) []),Mv 22 21,Ot 23 22 (.mv (.tmp 5)),Ot 24 22 (.mv (.tmp 8)),Ot 25 22 (.bin .eql (.tmp 23) (.tmp 24)),Oo 26 (.pick (.tmp 22) (.tmp 25) (.const (.bool false))),Mv 27 26,Ot 28 27 (.mv (.tmp 4)),Ot 29 27 (.mv (.tmp 7)),Ot 30 27 (.bin .eql (.tmp 28) (.tmp 29)),Oo 31 (.pick (.tmp 27) (.tmp 30) (.const (.bool false))),Mv 32 31,Ot 33 32 (.load true 3 (.tmp 3)),Ot 34 32 (.load true 3 (.tmp 6)),Ot 35 32 (.call (.func 14) [(.tmp 33),(.tmp 34)]),Oo 36 (.pick (.tmp 32) (.tmp 35) (.const (.bool false))),Mv 2 36]) .ret))))
theorem k5:compF Tryz.prog 5=some ⟨c5,[(.tmp 2)],37⟩:=by kernel_rfl
theorem walk {s:ByteArray}:ACalls Tryz.prog 5 [sv s] [] fun x h'=>h'=[]∧x = .ret (bv true):=by
 refine tI' k5 fun N hn hlt hlA hbd=>?_
 simp only [tA',AV.bdL,AV.bd,and_true,true_and] at hbd ⊢
 refine wr'<|mv' lkb pt2<|sn'<|wr'<|mv' lk0 pt10<|s_callp (mp1 lk10 mp0) (sparse_a (s:=s)) pt11<|mv' lk11 pt9<|V' (v_ext lk9 gt0) pt12<|V' (v_ext lk9 gt1) pt13<|V' (v_ext lk9 gt2) pt14<|E' (e_new (hl0 hn) ha0) pt3<|?_
 refine E' (e_store lk3 (cvl lk12 rfl) (hga hn rfl) rfl (nb' rfl) rfl LawSourceParses_sc0_3 (hs0 hn)) ptn<|mv' lk13 pt4<|mv' lk14 pt5<|sn'<|wr'<|mv' lk0 pt16<|s_callp (mp1 lk16 mp0) (rparse_a (s:=s)) pt17<|mv' lk17 pt15<|V' (v_ext lk15 gt0) pt18<|V' (v_ext lk15 gt1) pt19<|V' (v_ext lk15 gt2) pt20<|E' (e_new (hl1 hn) ha1) pt6<|?_
 refine E' (e_store lk6 (cvl lk18 rfl) (hga hn rfl) rfl (nb' rfl) rfl LawSourceParses_sc0_3 (hs1 hn)) ptn<|mv' lk19 pt7<|mv' lk20 pt8<|sn'<|wr'<|s_callp mp0 (sbegun_a) pt21<|mv' lk21 pt22<|?_
 refine s_known gt22 (b:=true) (by rfl) pt22 ?_
 refine s_do gt22<|mv' lk5 pt23<|s_do gt22<|mv' lk8 pt24<|s_do gt22<|V' (v_eql lk23 lk24) pt25<|V' (v_pickT lk22 lk25) pt26<|mv' lk26 pt27<|?_
 refine s_known gt27 (b:=true) (by exact decide_eq_true rfl) pt27 ?_
 refine s_do gt27<|mv' lk4 pt28<|s_do gt27<|mv' lk7 pt29<|s_do gt27<|V' (v_eql lk28 lk29) pt30<|V' (v_pickT lk27 lk30) pt31<|mv' lk31 pt32<|?_
 refine s_known gt32 (b:=true) (by exact decide_eq_true rfl) pt32 ?_
 refine s_do gt32<|V' (v_loadpA lk3 (hga hn rfl) LawSourceParses_tk0_3 rfl) pt33<|s_do gt32<|V' (v_loadpA lk6 (hga hn rfl) LawSourceParses_tk0_3 rfl) pt34<|s_do gt32<|s_callp (mp1 lk33 (mp1 lk34 mp0)) (rsameSource_a (s:=(parseV s).1) (t:=(parseV s).1)) pt35<|V' (v_pickT lk32 lk35) pt36<|mv' lk36 pt2<|sn'<|w_rets<|w_ret (rs1 (rr_t gt2))<|rT'<|?_
 refine bvx ?_;exact decide_eq_true rfl
set_option maxRecDepth 100000 in
theorem lifted (os:Os) (started:os.Started) (H:Type) (enc:TypeId×Value→H) :
  ReturnsInHanded {} Tryz.checked os 5 .any (fun w args=>(Rows.sourceParsesSpec.pre enc Tryz.prog Tryz.f5 [] false w args∧laidMetH Tryz.prog Rows.sourceParsesRow.laid w)∧sizedMet enc Tryz.prog Tryz.f5 (OpenSpec.ofChange Rows.sourceParsesSpec) false w args) (Rows.sourceParsesSpec.post enc Tryz.prog Tryz.f5 false true false false):=by
 refine handed_tied (C:=Tryz.checked) own started (by kernel_rfl) Tryz.func5
  (ChangeSpec.witness_shaped (enc:=enc) (C:=Tryz.checked) (os:=os) (X:=fun w _=>laidMetH Tryz.prog Rows.sourceParsesRow.laid w) false (World.laidAll Tryz.prog os Rows.sourceParsesRow.laid) #[.string ⟨#[]⟩] 8 (World.laidAll_os _ _ _)
   (World.shaped_of_ZipB (by kernel_rfl) (by kernel_rfl)) (by kernel_rfl) (by kernel_rfl) (by kernel_rfl)
   (by rw [MakeChecks.laidMetH_plain _ _ _ (by kernel_rfl)];exact laidMet_laidAll _ (by kernel_rfl) (by kernel_rfl))) ?_
 intro W base args ds gs before hval0 hW0 hsz hL hsh
 have hval : ∀ (j:Nat) t v,Tryz.f5.params[j]?=some t→args[j]?=some v→Value.okWide Tryz.prog W .any base t v:=hval0
 have hW:=hW0
 obtain ⟨p,q,hA0,_,_,_,_⟩:=hW
 have hA:DataW.TrodAll enc Tryz.prog W 0 (fun _=>true) true Tryz.f5.params.toList args.toList ds p:=hA0
 have hG:GlobW W:=globW hsh hL (by unfold LaidOk;kernel_rfl)
 have hfin : ∀ W',Below W.heap.size W W'→(∃ d,ds=d)→Rows.sourceParsesSpec.fn H ds={ results:=[.lit (.bool true)],args:=ds }→Rows.sourceParsesSpec.post enc Tryz.prog Tryz.f5 false true false false W args (.bool true) W' :=
  fun W' hb _ hs=>law_post laidOut (by kernel_rfl) rfl Tryz.underlying4 rfl hs hW0 hb
 obtain ⟨v0,vs0,d0,ds0,p0,q0,hargs,rfl,rfl,h0,r0⟩:=trodAll_cons hA
 obtain ⟨rfl,rfl,rfl⟩:=trodAll_nil r0
 obtain rfl:args = #[v0]:=by cases args;simp_all
 obtain ⟨s,hs,k0⟩:=arg_str Tryz.underlying9 (hval 0 9 _ rfl rfl) h0
 refine (law_calls walk hG (repL1 k0 repL0)).mono fun e W' ⟨he,hb⟩=>?_
 subst he
 exact ⟨_,rfl,hfin W' hb ⟨_,rfl⟩ rfl⟩
theorem row:Rows.SourceParsesSaid :=
 OpenClaim.holds_of_wide 5 Tryz.f5 rfl rfl rfl rfl rfl rfl rfl ⟨rfl,rfl,rfl,rfl,rfl⟩ rfl rfl rfl rfl rfl (by kernel_rfl) Tryz.func5 (by kernel_rfl)
  (of_decide_eq_true (by kernel_rfl)) (by unfold Func.isWrapper;first | (rw [if_pos (by decide +kernel)];kernel_rfl) | (rw [if_neg (by decide +kernel)];exact ⟨rfl,rfl⟩))
  (fun os started H enc _=>lifted os started H enc)
theorem proved:Rows.SourceParsesCardSaid :=
 Claim7.holds_tied_plain_at .later [] Rows.sourceParsesCard.laidKinds Rows.sourceParsesCard.laidTests Rows.sourceParsesCard.stood.harness Rows.sourceParsesCard.stood.looks
  row (fun _ h=>by cases h) (by kernel_rfl) (fun _ h=>by cases h) sourceParses_row_tie rfl ⟨rfl,rfl⟩ (by kernel_rfl) rfl
  (fun f fn hf hfn=>by
   obtain rfl:f=5:=Option.some.inj ((show Tryz.prog.funcNamed "dateline/datelinelaw.SourceParses" = some 5 by kernel_rfl).symm.trans hf) |>.symm
   obtain rfl:fn=Tryz.f5:=(Option.some.inj (Tryz.func5.symm.trans hfn)).symm
   exact ⟨by kernel_rfl,fun j t ht=>by
    have hm:t∈Tryz.f5.params.toList:=Array.mem_toList_iff.2 (Array.mem_of_getElem? ht)
    have hall:(Tryz.f5.params.toList.all fun u=>!Tryz.prog.wantsStandIn u)=true:=by kernel_rfl
    exact (show Tryz.prog.wantsStandIn t=false by simpa using List.all_eq_true.1 hall t hm)⟩)
  (by kernel_rfl)
end Go.Proofs.YtgjchdhdopgkkaaGreatDoor.sourceParses
end
