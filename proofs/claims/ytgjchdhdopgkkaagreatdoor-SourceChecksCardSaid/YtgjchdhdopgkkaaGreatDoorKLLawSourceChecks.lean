/-
  The law LawSourceChecks answers true; own lemmas and contracts lie in the parts ahead. No condition beyond those that each lemma states.
-/
import Derived.Test.YtgjchdhdopgkkaaGreatDoorK5
set_option linter.all false
set_option maxRecDepth 100000
section
namespace Go.Proofs.YtgjchdhdopgkkaaGreatDoor.sourceChecks
open Go.ChangeShapes Go.WideShapes Go.ChangeAt Go.RowKit Go.Ab
attribute [local simp] rul_lt era_lt zon_lt lnk_lt str_lt
section
theorem LawSourceChecks_sc0_3 {a0 a1 a2 c0 c1 c2:AV}{l:List AV}:setCells (a0::a1::a2::l) 0 [c0,c1,c2]=c0::c1::c2::l:=rfl
theorem LawSourceChecks_tk0_3 {a0 a1 a2:AV}{l:List AV}:((a0::a1::a2::l).drop 0).take 3=[a0,a1,a2]:=rfl
end
def c6:AC:=(.seq (.reg [Oo 2 (.box 26 3 (.tmp 0)),Oo 4 (.mv (.const (.bool false)))]) (.seq (.reg [Mv 9 1,Oo 10 (.call (.func 16) [(.tmp 9)]),Mv 8 10,Ex 11 8 0,Ex 12 8 1,Ex 13 8 2,Oo 5 (.new 26 3 [(.sl 0 0 true []),(.sl 0 0 true []),(.sl 0 0 true [])]),⟨none,none,(.store 3 (.tmp 5) (.tmp 11))⟩,Mv 6 12,Mv 7 13]) (.seq (.drw [Oo 14 (.call (.func 15) []),Mv 15 14,Ot 16 15 (.load true 3 (.tmp 2)),Ot 17 15 (.call (.func 17) [(.tmp 16)]),Ot 18 15 (.load true 3 (.tmp 2)),Ot 19 15 (.call (.func 9) [(.tmp 18)]),Ot 20 15 (.bin .eql (.tmp 17) (.tmp 19)),Oo 21 (.pick (.tmp 15) (.tmp 20) (.const (.bool false))),Mv 22 21,Ot 23 22 (.mv (.tmp 7)),Ot 24 22 (.bin .neq (.tmp 23) (Ci 0)),Ot 25 22 (.mv (.tmp 24)),Of 26 25 (.load true 3 (.tmp 5)),Of 27 25 (.call (.func 17) [(.tmp 26)]),Of 28 25 (.bin .eql (.tmp 27) (Ci 0)),Ot 29 22 (.pick (.tmp 25) (.const (.bool true)) (.tmp 28)),Oo 30 (.pick (.tmp 22) (.tmp 29) (.const (.bool false))),Mv 4 30] [] []) .ret)))
theorem k6:compF Tryz.prog 6=some ⟨c6,[(.tmp 4)],31⟩:=by kernel_rfl
theorem walk {s:Src}{t:ByteArray}(hok:okSrc s):ACalls Tryz.prog 6 [.agg (srcC s),sv t] [] fun x h'=>h'=[]∧x = .ret (bv true):=by
 refine tI' k6 fun N hn hlt hlA hbd=>?_
 simp only [tA',AV.bdL,AV.bd,and_true,true_and] at hbd ⊢
 refine wr'<|E' (e_box (cvl lk0 rfl) rfl (hl0 hn) ha0) pt2<|mv' lkb pt4<|sn'<|wr'<|mv' lk1 pt9<|s_callp (mp1 lk9 mp0) (sparse_a (s:=t)) pt10<|mv' lk10 pt8<|V' (v_ext lk8 gt0) pt11<|V' (v_ext lk8 gt1) pt12<|V' (v_ext lk8 gt2) pt13<|?_
 refine E' (e_new (hl1 hn) ha1) pt5<|E' (e_store lk5 (cvl lk11 rfl) (hga hn rfl) rfl (nb' rfl) rfl LawSourceChecks_sc0_3 (hs1 hn)) ptn<|mv' lk12 pt6<|mv' lk13 pt7<|sn'<|w_seq<|w_drwE<|?_
 refine d_callp mp0 (fun hE hX=>sbegun_a) pt14 ?_
 refine D' (v_mv lk14) pt15 ?_
 refine d_known gt15 (b:=true) (by rfl) pt15 ?_
 refine d_do gt15<|D' (v_loadpA lk2 (hga hn rfl) LawSourceChecks_tk0_3 rfl) pt16<|d_do gt15<|?_
 refine d_callp (mp1 lk16 mp0) (fun hE hX=>scheck_b (a:=s.1) (z:=s.2.1) (l:=s.2.2) hok) pt17 ?_
 refine d_do gt15<|D' (v_loadpA lk2 (hga hn rfl) LawSourceChecks_tk0_3 rfl) pt18<|d_do gt15<|?_
 refine d_callp (mp1 lk18 mp0) (fun hE hX=>rcheckS_b (a:=s.1) (z:=s.2.1) (l:=s.2.2) hok) pt19 ?_
 refine d_do gt15<|D' (v_eql lk17 lk19) pt20<|D' (v_pickT lk15 lk20) pt21<|D' (v_mv lk21) pt22<|?_
 refine d_known gt22 (b:=true) (by exact decide_eq_true rfl) pt22 ?_
 refine d_do gt22<|D' (v_mv lk7) pt23<|d_do gt22<|D' (v_neq lk23 lki) pt24<|d_do gt22<|D' (v_mv lk24) pt25<|?_
 refine dq' gt25 pt25 pt25 (fun hg25=>?_) (fun hg25=>?_)
 ·refine d_no gt25 pt26<|d_no gt25 pt27<|d_no gt25 pt28<|d_do gt22<|D' (v_pickT lk25 lkb) pt29<|D' (v_pickT lk22 lk29) pt30<|D' (v_mv lk30) pt4<|d_nil<|?_
  refine e_nil ?_
  exact sn'<|w_rets<|w_ret (rs1 (rr_t gt4))<|rT' rfl
 refine d_do gt25<|D' (v_loadpA lk5 (hga hn rfl) LawSourceChecks_tk0_3 rfl) pt26<|d_do gt25<|?_
 refine d_callp (mp1 lk26 mp0) (fun hE hX=>scheck_b (a:=(parseV t).1.1) (z:=(parseV t).1.2.1) (l:=(parseV t).1.2.2) parse_okS) pt27 ?_
 refine d_do gt25<|D' (v_eql lk27 lki) pt28<|d_do gt22<|D' (v_pickF lk25 lk28) pt29<|D' (v_pickT lk22 lk29) pt30<|D' (v_mv lk30) pt4<|d_nil<|?_
 refine e_nil ?_
 refine sn'<|w_rets<|w_ret (rs1 (rr_t gt4))<|rT'<|?_
 refine bvx ?_;exact decide_eq_true (parse_check (by simpa using hg25))
set_option maxRecDepth 100000 in
theorem lifted (os:Os) (started:os.Started) (H:Type) (enc:TypeId×Value→H) :
  ReturnsInHanded {} Tryz.checked os 6 .any (fun w args=>(Rows.sourceChecksSpec.pre enc Tryz.prog Tryz.f6 [] false w args∧laidMetH Tryz.prog Rows.sourceChecksRow.laid w)∧sizedMet enc Tryz.prog Tryz.f6 (OpenSpec.ofChange Rows.sourceChecksSpec) false w args) (Rows.sourceChecksSpec.post enc Tryz.prog Tryz.f6 false true false false):=by
 refine handed_tied (C:=Tryz.checked) own started (by kernel_rfl) Tryz.func6
  (ChangeSpec.witness_shaped (enc:=enc) (C:=Tryz.checked) (os:=os) (X:=fun w _=>laidMetH Tryz.prog Rows.sourceChecksRow.laid w) false (World.laidAll Tryz.prog os Rows.sourceChecksRow.laid) #[.agg #[.slice none 0 0,.slice none 0 0,.slice none 0 0],.string ⟨#[]⟩] 8 (World.laidAll_os _ _ _)
   (World.shaped_of_ZipB (by kernel_rfl) (by kernel_rfl)) (by kernel_rfl) (by kernel_rfl) (by kernel_rfl)
   (by rw [MakeChecks.laidMetH_plain _ _ _ (by kernel_rfl)];exact laidMet_laidAll _ (by kernel_rfl) (by kernel_rfl))) ?_
 intro W base args ds gs before hval0 hW0 hsz hL hsh
 have hval : ∀ (j:Nat) t v,Tryz.f6.params[j]?=some t→args[j]?=some v→Value.okWide Tryz.prog W .any base t v:=hval0
 have hW:=hW0
 obtain ⟨p,q,hA0,_,_,_,_⟩:=hW
 have hA:DataW.TrodAll enc Tryz.prog W 0 (fun _=>true) true Tryz.f6.params.toList args.toList ds p:=hA0
 have hG:GlobW W:=globW hsh hL (by unfold LaidOk;kernel_rfl)
 have hfin : ∀ W',Below W.heap.size W W'→(∃ d,ds=d)→Rows.sourceChecksSpec.fn H ds={ results:=[.lit (.bool true)],args:=ds }→Rows.sourceChecksSpec.post enc Tryz.prog Tryz.f6 false true false false W args (.bool true) W' :=
  fun W' hb _ hs=>law_post laidOut (by kernel_rfl) rfl Tryz.underlying4 rfl hs hW0 hb
 obtain ⟨v0,vs0,d0,ds0,p0,q0,hargs,rfl,rfl,h0,r0⟩:=trodAll_cons hA
 obtain ⟨v1,vs1,d1,ds1,p1,q1,rfl,rfl,rfl,h1,r1⟩:=trodAll_cons r0
 obtain ⟨rfl,rfl,rfl⟩:=trodAll_nil r1
 obtain rfl:args = #[v0,v1]:=by cases args;simp_all
 obtain ⟨s,hs,k0⟩:=arg_struct SrcDs Tryz.underlying26 (by kernel_rfl) (hval 0 26 _ rfl rfl) h0
 obtain ⟨t,ht,k1⟩:=arg_str Tryz.underlying9 (hval 1 9 _ rfl rfl) h1
 refine (law_calls (walk (s:=s) (t:=t) (okSrc_of hs)) hG (repL1 k0 (repL1 k1 repL0))).mono fun e W' ⟨he,hb⟩=>?_
 subst he
 exact ⟨_,rfl,hfin W' hb ⟨_,rfl⟩ rfl⟩
theorem row:Rows.SourceChecksSaid :=
 OpenClaim.holds_of_wide 6 Tryz.f6 rfl rfl rfl rfl rfl rfl rfl ⟨rfl,rfl,rfl,rfl,rfl⟩ rfl rfl rfl rfl rfl (by kernel_rfl) Tryz.func6 (by kernel_rfl)
  (of_decide_eq_true (by kernel_rfl)) (by unfold Func.isWrapper;first | (rw [if_pos (by decide +kernel)];kernel_rfl) | (rw [if_neg (by decide +kernel)];exact ⟨rfl,rfl⟩))
  (fun os started H enc _=>lifted os started H enc)
theorem proved:Rows.SourceChecksCardSaid :=
 Claim7.holds_tied_plain_at .later [] Rows.sourceChecksCard.laidKinds Rows.sourceChecksCard.laidTests Rows.sourceChecksCard.stood.harness Rows.sourceChecksCard.stood.looks
  row (fun _ h=>by cases h) (by kernel_rfl) (fun _ h=>by cases h) sourceChecks_row_tie rfl ⟨rfl,rfl⟩ (by kernel_rfl) rfl
  (fun f fn hf hfn=>by
   obtain rfl:f=6:=Option.some.inj ((show Tryz.prog.funcNamed "dateline/datelinelaw.SourceChecks" = some 6 by kernel_rfl).symm.trans hf) |>.symm
   obtain rfl:fn=Tryz.f6:=(Option.some.inj (Tryz.func6.symm.trans hfn)).symm
   exact ⟨by kernel_rfl,fun j t ht=>by
    have hm:t∈Tryz.f6.params.toList:=Array.mem_toList_iff.2 (Array.mem_of_getElem? ht)
    have hall:(Tryz.f6.params.toList.all fun u=>!Tryz.prog.wantsStandIn u)=true:=by kernel_rfl
    exact (show Tryz.prog.wantsStandIn t=false by simpa using List.all_eq_true.1 hall t hm)⟩)
  (by kernel_rfl)
end Go.Proofs.YtgjchdhdopgkkaaGreatDoor.sourceChecks
end
