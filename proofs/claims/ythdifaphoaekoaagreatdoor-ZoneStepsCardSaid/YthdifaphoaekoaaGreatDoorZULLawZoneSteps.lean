/-
  The law LawZoneSteps answers true; own lemmas and contracts lie in the parts ahead. No condition beyond those that each lemma states.
-/
import Derived.Test.YthdifaphoaekoaaGreatDoorZU4
set_option linter.all false
set_option maxRecDepth 1000000
set_option maxHeartbeats 4000000
section
namespace Go.Proofs.YthdifaphoaekoaaGreatDoor.zoneSteps
open Go.ChangeShapes Go.WideShapes Go.ChangeAt Go.RowKit Go.Ab Civ
set_option maxRecDepth 100000 in
theorem lifted (os:Os) (started:os.Started) (H:Type) (enc:TypeId×Value→H) :
  ReturnsInHanded {} Tryz.checked os 7 .any (fun w args=>(Rows.zoneStepsSpec.pre enc Tryz.prog Tryz.f7 [] false w args∧laidMetH Tryz.prog Rows.zoneStepsRow.laid w)∧sizedMet enc Tryz.prog Tryz.f7 (OpenSpec.ofChange Rows.zoneStepsSpec) false w args) (Rows.zoneStepsSpec.post enc Tryz.prog Tryz.f7 false true false false):=by
 refine ZhN (C:=Tryz.checked) own started (by kernel_rfl) Tryz.func7
  (ChangeSpec.witness_shaped (enc:=enc) (C:=Tryz.checked) (os:=os) (X:=fun w _=>laidMetH Tryz.prog Rows.zoneStepsRow.laid w) false (World.laidAll Tryz.prog os Rows.zoneStepsRow.laid) #[.agg #[.slice none 0 0,.slice none 0 0,.slice none 0 0],.string ⟨#[]⟩,.int .i64 0,.int .i64 0] 8 (World.laidAll_os _ _ _)
   (World.shaped_of_ZipB (by kernel_rfl) (by kernel_rfl)) (by kernel_rfl) (by kernel_rfl) (by kernel_rfl)
   (by rw [MakeChecks.laidMetH_plain _ _ _ (by kernel_rfl)];exact laidMet_laidAll _ (by kernel_rfl) (by kernel_rfl))) ?_
 intro W base args ds gs before hval0 hW0 hsz hL hsh
 have hval : ∀ (j:Nat) t v,Tryz.f7.params[j]?=some t→args[j]?=some v→Value.okWide Tryz.prog W .any base t v:=hval0
 have hW:=hW0
 obtain ⟨p,q,hA0,_,_,_,_⟩:=hW
 have hA:DataW.TrodAll enc Tryz.prog W 0 (fun _=>true) true Tryz.f7.params.toList args.toList ds p:=hA0
 have hG:GlobW W:=globW hsh hL (by unfold Zro;kernel_rfl)
 have hfin : ∀ W',Below W.heap.size W W'→(∃ d,ds=d)→Rows.zoneStepsSpec.fn H ds={ results:=[.lit (.bool true)],args:=ds }→Rows.zoneStepsSpec.post enc Tryz.prog Tryz.f7 false true false false W args (.bool true) W' :=
  fun W' hb _ hs=>Znn Zqt (by kernel_rfl) rfl Tryz.underlying4 rfl hs hW0 hb
 obtain ⟨v0,vs0,d0,ds0,p0,q0,hargs,rfl,rfl,h0,r0⟩:=trodAll_cons hA
 obtain ⟨v1,vs1,d1,ds1,p1,q1,rfl,rfl,rfl,h1,r1⟩:=trodAll_cons r0
 obtain ⟨v2,vs2,d2,ds2,p2,q2,rfl,rfl,rfl,h2,r2⟩:=trodAll_cons r1
 obtain ⟨v3,vs3,d3,ds3,p3,q3,rfl,rfl,rfl,h3,r3⟩:=trodAll_cons r2
 obtain ⟨rfl,rfl,rfl⟩:=trodAll_nil r3
 obtain rfl:args = #[v0,v1,v2,v3]:=by cases args;simp_all
 obtain ⟨s,hs,k0⟩:=ZiX SrcDs Tryz.underlying26 (by kernel_rfl) (hval 0 26 _ rfl rfl) h0
 obtain ⟨t,ht,k1⟩:=arg_str Tryz.underlying9 (hval 1 9 _ rfl rfl) h1
 obtain ⟨n,hn,k2⟩:=Zmu Tryz.underlying3 (hval 2 3 _ rfl rfl) h2
 obtain ⟨m,hm,k3⟩:=Zmu Tryz.underlying3 (hval 3 3 _ rfl rfl) h3
 refine (ZkZ (walk (s:=s) (nm:=t) (n:=n) (m:=m) (Zne hs)) hG (Zn4 k0 (Zn4 k1 (Zn4 k2 (Zn4 k3 repL0))))).mono fun e W' ⟨he,hb⟩=>?_
 subst he
 exact ⟨_,rfl,hfin W' hb ⟨_,rfl⟩ rfl⟩
theorem row:Rows.ZoneStepsSaid :=
 OpenClaim.holds_of_wide 7 Tryz.f7 rfl rfl rfl rfl rfl rfl rfl ⟨rfl,rfl,rfl,rfl,rfl⟩ rfl rfl rfl rfl rfl (by kernel_rfl) Tryz.func7 (by kernel_rfl)
  (of_decide_eq_true (by kernel_rfl)) (by unfold Func.isWrapper;first | (rw [if_pos (by decide +kernel)];kernel_rfl) | (rw [if_neg (by decide +kernel)];exact ⟨rfl,rfl⟩))
  (fun os started H enc _=>lifted os started H enc)
theorem proved:Rows.ZoneStepsCardSaid :=
 Claim7.holds_tied_plain_at .later [] Rows.zoneStepsCard.laidKinds Rows.zoneStepsCard.laidTests Rows.zoneStepsCard.stood.harness Rows.zoneStepsCard.stood.looks
  row (fun _ h=>by cases h) (by kernel_rfl) (fun _ h=>by cases h) zoneSteps_row_tie rfl ⟨rfl,rfl⟩ (by kernel_rfl) rfl
  (fun f fn hf hfn=>by
   obtain rfl:f=7:=Option.some.inj ((show Tryz.prog.funcNamed "dateline/datelinelaw.ZoneSteps" = some 7 by kernel_rfl).symm.trans hf) |>.symm
   obtain rfl:fn=Tryz.f7:=(Option.some.inj (Tryz.func7.symm.trans hfn)).symm
   exact ⟨by kernel_rfl,fun j t ht=>by
    have hm:t∈Tryz.f7.params.toList:=Array.mem_toList_iff.2 (Array.mem_of_getElem? ht)
    have hall:(Tryz.f7.params.toList.all fun u=>!Tryz.prog.wantsStandIn u)=true:=by kernel_rfl
    exact (show Tryz.prog.wantsStandIn t=false by simpa using List.all_eq_true.1 hall t hm)⟩)
  (by kernel_rfl)
end Go.Proofs.YthdifaphoaekoaaGreatDoor.zoneSteps
end
