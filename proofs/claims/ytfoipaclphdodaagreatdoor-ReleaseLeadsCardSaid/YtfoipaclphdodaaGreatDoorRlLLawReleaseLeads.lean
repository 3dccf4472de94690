/-
  The law LawReleaseLeads answers true; own lemmas and contracts lie in the parts ahead. No condition beyond those that each lemma states.
-/
import Derived.Test.YtfoipaclphdodaaGreatDoorRl5
set_option linter.all false
set_option maxRecDepth 1000000
set_option maxHeartbeats 4000000
namespace Go.Proofs.YtfoipaclphdodaaGreatDoor.releaseLeads
section
open Go.ChangeShapes Go.WideShapes Go.ChangeAt Go.RowKit Go.Ab Civ
abbrev RelDs:Ds:=.pair (.slice (.pair .str TabD)) (.slice LnkD)
theorem ZpC {r:Rel}(h:okD RelDs r):Zgb r:=by
 obtain⟨h1,h2⟩:=h
 refine⟨fun n hn=>?_,fun l hl=>?_⟩
 ·obtain⟨i,hi,rfl⟩:=List.getElem_of_mem hn
  exact⟨(h1 i hi).1,okT_of (h1 i hi).2⟩
 ·obtain⟨i,hi,rfl⟩:=List.getElem_of_mem hl
  exact h2 i hi
set_option maxRecDepth 100000 in
theorem lifted (os:Os) (started:os.Started) (H:Type) (enc:TypeId×Value→H) :
  ReturnsInHanded {} Tryz.checked os 6 .any (fun w args=>(Rows.releaseLeadsSpec.pre enc Tryz.prog Tryz.f6 [] false w args∧laidMetH Tryz.prog Rows.releaseLeadsRow.laid w)∧sizedMet enc Tryz.prog Tryz.f6 (OpenSpec.ofChange Rows.releaseLeadsSpec) false w args) (Rows.releaseLeadsSpec.post enc Tryz.prog Tryz.f6 false true false false):=by
 refine ZnU (C:=Tryz.checked) own started (by kernel_rfl) Tryz.func6
  (ChangeSpec.witness_shaped (enc:=enc) (C:=Tryz.checked) (os:=os) (X:=fun w _=>laidMetH Tryz.prog Rows.releaseLeadsRow.laid w) false (World.laidAll Tryz.prog os Rows.releaseLeadsRow.laid) #[.agg #[.slice none 0 0,.slice none 0 0],.agg #[.slice none 0 0,.slice none 0 0]] 8 (World.laidAll_os _ _ _)
   (World.shaped_of_ZipB (by kernel_rfl) (by kernel_rfl)) (by kernel_rfl) (by kernel_rfl) (by kernel_rfl)
   (by rw[MakeChecks.laidMetH_plain _ _ _ (by kernel_rfl)];exact laidMet_laidAll _ (by kernel_rfl) (by kernel_rfl))) ?_
 intro W base args ds gs before hval0 hW0 hsz hL hsh
 have hval : ∀ (j:Nat) t v,Tryz.f6.params[j]?=some t→args[j]?=some v→Value.okWide Tryz.prog W .any base t v:=hval0
 have hW:=hW0
 obtain⟨p,q,hA0,_,_,_,_⟩:=hW
 have hA:DataW.TrodAll enc Tryz.prog W 0 (fun _=>true) true Tryz.f6.params.toList args.toList ds p:=hA0
 have hG:GlobW W:=globW hsh hL (by unfold LaidOk;kernel_rfl)
 have hfin : ∀ W',Below W.heap.size W W'→(∃ d,ds=d)→Rows.releaseLeadsSpec.fn H ds={ results:=[.lit (.bool true)],args:=ds }→Rows.releaseLeadsSpec.post enc Tryz.prog Tryz.f6 false true false false W args (.bool true) W' :=
  fun W' hb _ hs=>law_post laidOut (by kernel_rfl) rfl Tryz.underlying4 rfl hs hW0 hb
 obtain⟨v0,vs0,d0,ds0,p0,q0,hargs,rfl,rfl,h0,r0⟩:=trodAll_cons hA
 obtain⟨v1,vs1,d1,ds1,p1,q1,rfl,rfl,rfl,h1,r1⟩:=trodAll_cons r0
 obtain⟨rfl,rfl,rfl⟩:=trodAll_nil r1
 obtain rfl:args = #[v0,v1]:=by cases args;simp_all
 obtain⟨s,hs,k0⟩:=ZjX RelDs Tryz.underlying25 (by kernel_rfl) (hval 0 25 _ rfl rfl) h0
 obtain⟨t,ht,k1⟩:=ZjX RelDs Tryz.underlying25 (by kernel_rfl) (hval 1 25 _ rfl rfl) h1
 refine (Zus (leads_w (r:=s) (s:=t) (ZpC hs) (ZpC ht)) hG (repL1 k0 (repL1 k1 repL0))).mono fun e W' ⟨he,hb⟩=>?_
 subst he
 exact⟨_,rfl,hfin W' hb ⟨_,rfl⟩ rfl⟩
end
end Go.Proofs.YtfoipaclphdodaaGreatDoor.releaseLeads
