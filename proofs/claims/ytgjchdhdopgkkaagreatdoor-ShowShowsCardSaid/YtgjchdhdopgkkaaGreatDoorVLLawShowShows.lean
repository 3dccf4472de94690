/-
  The law LawShowShows answers true; own lemmas and contracts lie in the parts ahead. No condition beyond those that each lemma states.
-/
import Derived.Test.YtgjchdhdopgkkaaGreatDoorV4
set_option linter.all false
set_option maxRecDepth 100000
section
namespace Go.Proofs.YtgjchdhdopgkkaaGreatDoor.showShows
open Go.ChangeShapes Go.WideShapes Go.ChangeAt Go.RowKit Go.Ab
attribute [local simp] rul_lt era_lt zon_lt lnk_lt str_lt
section
theorem LawShowShows_tk0_3 {a0 a1 a2:AV}{l:List AV}:((a0::a1::a2::l).drop 0).take 3=[a0,a1,a2]:=rfl
end
def c3:AC:=(.seq (.reg [Oo 2 (.box 26 3 (.tmp 0)),Oo 3 (.box 26 3 (.tmp 1)),Oo 4 (.mv (.const (.bool false)))]) (.seq (.reg [Oo 10 (.load true 3 (.tmp 2)),Oo 11 (.call (.func 8) [(.tmp 10)]),Mv 9 11,Ex 12 9 0,Ex 13 9 1,Mv 5 12,Mv 6 13]) (.seq (.reg [Oo 14 (.load true 3 (.tmp 2)),Oo 15 (.call (.func 9) [(.tmp 14)]),Mv 7 15,Oo 8 (.mv (.const (.string ⟨#[]⟩)))]) (.seq (.seq (.reg [Mv 16 7,Oo 17 (.bin .eql (.tmp 16) (Ci 0))]) (.cond (.tmp 17) (.reg [Oo 19 (.load true 3 (.tmp 2)),Oo 20 (.call (.func 11) [(.tmp 19)]),Oo 21 (.call (.func 10) [(.tmp 20)]),Mv 18 21,Ex 22 18 0,Ex 23 18 1,Mv 8 22,Mv 7 23]) .skip)) (.seq (.drw [Oo 24 (.call (.func 12) []),Mv 25 24,Ot 26 25 (.mv (.tmp 6)),Ot 27 25 (.mv (.tmp 7)),Ot 28 25 (.bin .eql (.tmp 26) (.tmp 27)),Oo 29 (.pick (.tmp 25) (.tmp 28) (.const (.bool false))),Mv 30 29,Ot 31 30 (.mv (.tmp 5)),Ot 32 30 (.mv (.tmp 8)),Ot 33 30 (.bin .eql (.tmp 31) (.tmp 32)),Oo 34 (.pick (.tmp 30) (.tmp 33) (.const (.bool false))),Mv 35 34,Ot 36 35 (.load true 3 (.tmp 2)),Ot 37 35 (.load true 3 (.tmp 3)),Ot 38 35 (.call (.func 13) [(.tmp 36),(.tmp 37)]),Ot 39 35 (.load true 3 (.tmp 2)),Ot 40 35 (.load true 3 (.tmp 3)),Ot 41 35 (.call (.func 14) [(.tmp 39),(.tmp 40)]),Ot 42 35 (.eqb false (.tmp 38) (.tmp 41)),Oo 43 (.pick (.tmp 35) (.tmp 42) (.const (.bool false))),Mv 44 43,Ot 45 44 (.load true 3 (.tmp 2)),Ot 46 44 (.load true 3 (.tmp 2)),Ot 47 44 (.call (.func 13) [(.tmp 45),(.tmp 46)]),Oo 48 (.pick (.tmp 44) (.tmp 47) (.const (.bool false))),Mv 4 48] [] []) .ret)))))
theorem k3:compF Tryz.prog 3=some ⟨c3,[(.tmp 4)],49⟩:=by kernel_rfl
theorem walk {s t:Src}(hok:okSrc s):ACalls Tryz.prog 3 [.agg (srcC s),.agg (srcC t)] [] fun x h'=>h'=[]∧x = .ret (bv true):=by
 refine tI' k3 fun N hn hlt hlA hbd=>?_
 simp only [tA',AV.bdL,AV.bd,and_true,true_and] at hbd ⊢
 refine wr'<|E' (e_box (cvl lk0 rfl) rfl (hl0 hn) ha0) pt2<|E' (e_box (cvl lk1 rfl) rfl (hl1 hn) ha1) pt3<|mv' lkb pt4<|sn'<|wr'<|V' (v_loadpA lk2 (hga hn rfl) LawShowShows_tk0_3 rfl) pt10<|s_callp (mp1 lk10 mp0) (show_a (s:=s) hok) pt11<|mv' lk11 pt9<|V' (v_ext lk9 gt0) pt12<|V' (v_ext lk9 gt1) pt13<|?_
 refine mv' lk12 pt5<|mv' lk13 pt6<|sn'<|wr'<|V' (v_loadpA lk2 (hga hn rfl) LawShowShows_tk0_3 rfl) pt14<|s_callp (mp1 lk14 mp0) (rcheckS_b (a:=s.1) (z:=s.2.1) (l:=s.2.2) hok) pt15<|mv' lk15 pt7<|mv' lks pt8<|sn'<|w_seq<|w_seq<|?_
 refine w_reg<|mv' lk7 pt16<|V' (v_eql lk16 lki) pt17<|sn'<|?_
 refine cd' lk17 (fun hc1=>?_) (fun hc1=>?_)
 ·have hV:showV s=joinV (linesV s):=if_neg (fun e=>e hc1)
  refine w_reg<|V' (v_loadpA lk2 (hga hn rfl) LawShowShows_tk0_3 rfl) pt19<|s_callp (mp1 lk19 mp0) (rlinesOf_b (a:=s.1) (z:=s.2.1) (l:=s.2.2) hc1) pt20<|s_callp (mp1 lk20 mp0) (rjoinOf_a (l:=linesV s) (okLns_small (small_lines (s:=s) hc1))) pt21<|mv' lk21 pt18<|V' (v_ext lk18 gt0) pt22<|V' (v_ext lk18 gt1) pt23<|mv' lk22 pt8<|mv' lk23 pt7<|sn'<|w_seq<|w_drwE<|?_
  refine d_callp mp0 (fun hE hX=>shbegun_a) pt24 ?_
  refine D' (v_mv lk24) pt25 ?_
  refine d_known gt25 (b:=true) (by rfl) pt25 ?_
  refine d_do gt25<|D' (v_mv lk6) pt26<|d_do gt25<|D' (v_mv lk7) pt27<|d_do gt25<|D' (v_eql lk26 lk27) pt28<|D' (v_pickT lk25 lk28) pt29<|D' (v_mv lk29) pt30<|?_
  refine d_known gt30 (b:=true) (by exact decide_eq_true (by rw [hV])) pt30 ?_
  refine d_do gt30<|D' (v_mv lk5) pt31<|d_do gt30<|D' (v_mv lk8) pt32<|d_do gt30<|D' (v_eqlS lk31 lk32) pt33<|D' (v_pickT lk30 lk33) pt34<|D' (v_mv lk34) pt35<|?_
  refine d_known gt35 (b:=true) (by exact decide_eq_true (by rw [hV])) pt35 ?_
  refine d_do gt35<|D' (v_loadpA lk2 (hga hn rfl) LawShowShows_tk0_3 rfl) pt36<|d_do gt35<|D' (v_loadpA lk3 (hga hn rfl) LawShowShows_tk0_3 rfl) pt37<|d_do gt35<|?_
  refine d_callp (mp1 lk36 (mp1 lk37 mp0)) (fun hE hX=>same_a (s:=s) (t:=t)) pt38 ?_
  refine d_do gt35<|D' (v_loadpA lk2 (hga hn rfl) LawShowShows_tk0_3 rfl) pt39<|d_do gt35<|D' (v_loadpA lk3 (hga hn rfl) LawShowShows_tk0_3 rfl) pt40<|d_do gt35<|?_
  refine d_callp (mp1 lk39 (mp1 lk40 mp0)) (fun hE hX=>rsameSource_a (s:=s) (t:=t)) pt41 ?_
  refine d_do gt35<|D' (v_eqbT lk38 lk41) pt42<|D' (v_pickT lk35 lk42) pt43<|D' (v_mv lk43) pt44<|?_
  refine d_known gt44 (b:=true) (by simp) pt44 ?_
  refine d_do gt44<|D' (v_loadpA lk2 (hga hn rfl) LawShowShows_tk0_3 rfl) pt45<|d_do gt44<|D' (v_loadpA lk2 (hga hn rfl) LawShowShows_tk0_3 rfl) pt46<|d_do gt44<|?_
  refine d_callp (mp1 lk45 (mp1 lk46 mp0)) (fun hE hX=>same_a (s:=s) (t:=s)) pt47 ?_
  refine D' (v_pickT lk44 lk47) pt48<|D' (v_mv lk48) pt4<|d_nil<|?_
  refine e_nil ?_
  refine sn'<|w_rets<|w_ret (rs1 (rr_t gt4))<|rT'<|?_
  refine bvx ?_;exact decide_eq_true rfl
 have hV:showV s=(⟨#[]⟩,checkE s):=if_pos hc1
 refine w_skip<|n_seq<|w_seq<|w_drwE<|?_
 refine d_callp mp0 (fun hE hX=>shbegun_a) pt24 ?_
 refine D' (v_mv lk24) pt25 ?_
 refine d_known gt25 (b:=true) (by rfl) pt25 ?_
 refine d_do gt25<|D' (v_mv lk6) pt26<|d_do gt25<|D' (v_mv lk7) pt27<|d_do gt25<|D' (v_eql lk26 lk27) pt28<|D' (v_pickT lk25 lk28) pt29<|D' (v_mv lk29) pt30<|?_
 refine d_known gt30 (b:=true) (by exact decide_eq_true (by rw [hV])) pt30 ?_
 refine d_do gt30<|D' (v_mv lk5) pt31<|d_do gt30<|D' (v_mv lk8) pt32<|d_do gt30<|D' (v_eqlS lk31 lk32) pt33<|D' (v_pickT lk30 lk33) pt34<|D' (v_mv lk34) pt35<|?_
 refine d_known gt35 (b:=true) (by exact decide_eq_true (by rw [hV])) pt35 ?_
 refine d_do gt35<|D' (v_loadpA lk2 (hga hn rfl) LawShowShows_tk0_3 rfl) pt36<|d_do gt35<|D' (v_loadpA lk3 (hga hn rfl) LawShowShows_tk0_3 rfl) pt37<|d_do gt35<|?_
 refine d_callp (mp1 lk36 (mp1 lk37 mp0)) (fun hE hX=>same_a (s:=s) (t:=t)) pt38 ?_
 refine d_do gt35<|D' (v_loadpA lk2 (hga hn rfl) LawShowShows_tk0_3 rfl) pt39<|d_do gt35<|D' (v_loadpA lk3 (hga hn rfl) LawShowShows_tk0_3 rfl) pt40<|d_do gt35<|?_
 refine d_callp (mp1 lk39 (mp1 lk40 mp0)) (fun hE hX=>rsameSource_a (s:=s) (t:=t)) pt41 ?_
 refine d_do gt35<|D' (v_eqbT lk38 lk41) pt42<|D' (v_pickT lk35 lk42) pt43<|D' (v_mv lk43) pt44<|?_
 refine d_known gt44 (b:=true) (by simp) pt44 ?_
 refine d_do gt44<|D' (v_loadpA lk2 (hga hn rfl) LawShowShows_tk0_3 rfl) pt45<|d_do gt44<|D' (v_loadpA lk2 (hga hn rfl) LawShowShows_tk0_3 rfl) pt46<|d_do gt44<|?_
 refine d_callp (mp1 lk45 (mp1 lk46 mp0)) (fun hE hX=>same_a (s:=s) (t:=s)) pt47 ?_
 refine D' (v_pickT lk44 lk47) pt48<|D' (v_mv lk48) pt4<|d_nil<|?_
 refine e_nil ?_
 refine sn'<|w_rets<|w_ret (rs1 (rr_t gt4))<|rT'<|?_
 refine bvx ?_;exact decide_eq_true rfl
set_option maxRecDepth 100000 in
theorem lifted (os:Os) (started:os.Started) (H:Type) (enc:TypeId×Value→H) :
  ReturnsInHanded {} Tryz.checked os 3 .any (fun w args=>(Rows.showShowsSpec.pre enc Tryz.prog Tryz.f3 [] false w args∧laidMetH Tryz.prog Rows.showShowsRow.laid w)∧sizedMet enc Tryz.prog Tryz.f3 (OpenSpec.ofChange Rows.showShowsSpec) false w args) (Rows.showShowsSpec.post enc Tryz.prog Tryz.f3 false true false false):=by
 refine handed_tied (C:=Tryz.checked) own started (by kernel_rfl) Tryz.func3
  (ChangeSpec.witness_shaped (enc:=enc) (C:=Tryz.checked) (os:=os) (X:=fun w _=>laidMetH Tryz.prog Rows.showShowsRow.laid w) false (World.laidAll Tryz.prog os Rows.showShowsRow.laid) #[.agg #[.slice none 0 0,.slice none 0 0,.slice none 0 0],.agg #[.slice none 0 0,.slice none 0 0,.slice none 0 0]] 8 (World.laidAll_os _ _ _)
   (World.shaped_of_ZipB (by kernel_rfl) (by kernel_rfl)) (by kernel_rfl) (by kernel_rfl) (by kernel_rfl)
   (by rw [MakeChecks.laidMetH_plain _ _ _ (by kernel_rfl)];exact laidMet_laidAll _ (by kernel_rfl) (by kernel_rfl))) ?_
 intro W base args ds gs before hval0 hW0 hsz hL hsh
 have hval : ∀ (j:Nat) t v,Tryz.f3.params[j]?=some t→args[j]?=some v→Value.okWide Tryz.prog W .any base t v:=hval0
 have hW:=hW0
 obtain ⟨p,q,hA0,_,_,_,_⟩:=hW
 have hA:DataW.TrodAll enc Tryz.prog W 0 (fun _=>true) true Tryz.f3.params.toList args.toList ds p:=hA0
 have hG:GlobW W:=globW hsh hL (by unfold LaidOk;kernel_rfl)
 have hfin : ∀ W',Below W.heap.size W W'→(∃ d,ds=d)→Rows.showShowsSpec.fn H ds={ results:=[.lit (.bool true)],args:=ds }→Rows.showShowsSpec.post enc Tryz.prog Tryz.f3 false true false false W args (.bool true) W' :=
  fun W' hb _ hs=>law_post laidOut (by kernel_rfl) rfl Tryz.underlying4 rfl hs hW0 hb
 obtain ⟨v0,vs0,d0,ds0,p0,q0,hargs,rfl,rfl,h0,r0⟩:=trodAll_cons hA
 obtain ⟨v1,vs1,d1,ds1,p1,q1,rfl,rfl,rfl,h1,r1⟩:=trodAll_cons r0
 obtain ⟨rfl,rfl,rfl⟩:=trodAll_nil r1
 obtain rfl:args = #[v0,v1]:=by cases args;simp_all
 obtain ⟨s,hs,k0⟩:=arg_struct SrcDs Tryz.underlying26 (by kernel_rfl) (hval 0 26 _ rfl rfl) h0
 obtain ⟨t,ht,k1⟩:=arg_struct SrcDs Tryz.underlying26 (by kernel_rfl) (hval 1 26 _ rfl rfl) h1
 refine (law_calls (walk (s:=s) (t:=t) (okSrc_of hs)) hG (repL1 k0 (repL1 k1 repL0))).mono fun e W' ⟨he,hb⟩=>?_
 subst he
 exact ⟨_,rfl,hfin W' hb ⟨_,rfl⟩ rfl⟩
theorem row:Rows.ShowShowsSaid :=
 OpenClaim.holds_of_wide 3 Tryz.f3 rfl rfl rfl rfl rfl rfl rfl ⟨rfl,rfl,rfl,rfl,rfl⟩ rfl rfl rfl rfl rfl (by kernel_rfl) Tryz.func3 (by kernel_rfl)
  (of_decide_eq_true (by kernel_rfl)) (by unfold Func.isWrapper;first | (rw [if_pos (by decide +kernel)];kernel_rfl) | (rw [if_neg (by decide +kernel)];exact ⟨rfl,rfl⟩))
  (fun os started H enc _=>lifted os started H enc)
theorem proved:Rows.ShowShowsCardSaid :=
 Claim7.holds_tied_plain_at .later [] Rows.showShowsCard.laidKinds Rows.showShowsCard.laidTests Rows.showShowsCard.stood.harness Rows.showShowsCard.stood.looks
  row (fun _ h=>by cases h) (by kernel_rfl) (fun _ h=>by cases h) showShows_row_tie rfl ⟨rfl,rfl⟩ (by kernel_rfl) rfl
  (fun f fn hf hfn=>by
   obtain rfl:f=3:=Option.some.inj ((show Tryz.prog.funcNamed "dateline/datelinelaw.ShowShows" = some 3 by kernel_rfl).symm.trans hf) |>.symm
   obtain rfl:fn=Tryz.f3:=(Option.some.inj (Tryz.func3.symm.trans hfn)).symm
   exact ⟨by kernel_rfl,fun j t ht=>by
    have hm:t∈Tryz.f3.params.toList:=Array.mem_toList_iff.2 (Array.mem_of_getElem? ht)
    have hall:(Tryz.f3.params.toList.all fun u=>!Tryz.prog.wantsStandIn u)=true:=by kernel_rfl
    exact (show Tryz.prog.wantsStandIn t=false by simpa using List.all_eq_true.1 hall t hm)⟩)
  (by kernel_rfl)
end Go.Proofs.YtgjchdhdopgkkaaGreatDoor.showShows
end
