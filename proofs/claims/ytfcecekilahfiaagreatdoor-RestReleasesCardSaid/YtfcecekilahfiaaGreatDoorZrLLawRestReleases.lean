/-
  The law LawRestReleases answers true; own lemmas and contracts lie in the parts ahead. No condition beyond those that each lemma states.
-/
import Derived.Test.YtfcecekilahfiaaGreatDoorZr5
set_option linter.all false
set_option maxRecDepth 1000000
set_option maxHeartbeats 4000000
namespace Go.Proofs.YtfcecekilahfiaaGreatDoor.restReleases
section
open Go.ChangeShapes Go.WideShapes Go.ChangeAt Go.RowKit Go.Ab Civ
abbrev NamsD:Ds:=.slice (.pair .str TabD)
abbrev RelDs:Ds:=.pair NamsD (.slice LnkD)
def okNam_of {l:List Nam}(h:okD NamsD l) : ∀ n∈l,Ur n:=λn hn=>by
 obtain⟨i,hi,rfl⟩:=List.getElem_of_mem hn;exact⟨(h i hi).1,okT_of (h i hi).2⟩
def okLnk_of {l:List Lnk}(h:okD (.slice LnkD) l) : ∀ x∈l,x.1.size<=maxLen/\x.2.size<=maxLen:=λn hn=>by
 obtain⟨i,hi,rfl⟩:=List.getElem_of_mem hn;exact h i hi
def gL {r:Rel}(hz:r.1.length*72<=Go.reachBytes/\r.2.length*32<=Go.reachBytes /\ ∀ n∈r.1,n.2.2.length*40<=Go.reachBytes):Xo r:=by
 obtain⟨z1,z2,z3⟩:=hz;unfold Go.reachBytes at z1 z2 z3;exact⟨by omega,by omega,λn hn=>by have:=z3 n hn;omega⟩
set_option maxRecDepth 100000 in
theorem lifted (os:Os) (started:os.Started) (H:Type) (enc:TypeId×Value->H) :
  ReturnsInHanded {} Tryz.checked os 3 .any (λw args=>(Rows.restReleasesSpec.pre enc Tryz.prog Tryz.f3 [] false w args/\laidMetH Tryz.prog Rows.restReleasesRow.laid w)/\sizedMet enc Tryz.prog Tryz.f3 (OpenSpec.ofChange Rows.restReleasesSpec) false w args) (Rows.restReleasesSpec.post enc Tryz.prog Tryz.f3 false true false false):=by
 refine iR (C:=Tryz.checked) own started (by kernel_rfl) Tryz.func3
  (ChangeSpec.witness_shaped (enc:=enc) (C:=Tryz.checked) (os:=os) (X:=λw _=>laidMetH Tryz.prog Rows.restReleasesRow.laid w) false (World.laidAll Tryz.prog os Rows.restReleasesRow.laid) #[.agg #[.slice none 0 0,.slice none 0 0],.agg #[.slice none 0 0,.slice none 0 0],.agg #[.int .i64 0,.int .i64 0,.string ⟨#[]⟩,.slice none 0 0],.string ⟨#[]⟩] 8 (World.laidAll_os _ _ _)
   (World.shaped_of_ZipB (by kernel_rfl) (by kernel_rfl)) (by kernel_rfl) (by kernel_rfl) (by kernel_rfl)
   (by rw[MakeChecks.laidMetH_plain _ _ _ (by kernel_rfl)];exact laidMet_laidAll _ (by kernel_rfl) (by kernel_rfl))) ?_
 intro W base args ds gs before hval0 hW0 hsz hL hsh;have hval : ∀ (j:Nat) t v,Tryz.f3.params[j]?=some t->args[j]?=some v->Value.okWide Tryz.prog W .any base t v:=hval0;have hW:=hW0;obtain⟨p,q,hA0,_,_,_,_⟩:=hW;have hA:DataW.TrodAll enc Tryz.prog W 0 (λ_=>true) true Tryz.f3.params.toList args.toList ds p:=hA0;have hG:GlobW W:=globW hsh hL (by unfold LaidOk;kernel_rfl)
 have hfin : ∀ W',Below W.heap.size W W'->(∃ d,ds=d)->Rows.restReleasesSpec.fn H ds={ results:=[.lit (.bool true)],args:=ds }->Rows.restReleasesSpec.post enc Tryz.prog Tryz.f3 false true false false W args (.bool true) W' :=
  λW' hb _ hs=>law_post laidOut (by kernel_rfl) rfl Tryz.underlying4 rfl hs hW0 hb
 obtain⟨v0,vs0,d0,ds0,p0,q0,hargs,rfl,rfl,h0,r0⟩:=trodAll_cons hA;obtain⟨v1,vs1,d1,ds1,p1,q1,rfl,rfl,rfl,h1,r1⟩:=trodAll_cons r0;obtain⟨v2,vs2,d2,ds2,p2,q2,rfl,rfl,rfl,h2,r2⟩:=trodAll_cons r1;obtain⟨v3,vs3,d3,ds3,p3,q3,rfl,rfl,rfl,h3,r3⟩:=trodAll_cons r2;obtain⟨rfl,rfl,rfl⟩:=trodAll_nil r3;obtain rfl:args = #[v0,v1,v2,v3]:=by cases args;simp_all
 obtain⟨s,hs,k0⟩:=Rf RelDs Tryz.underlying25 (by kernel_rfl) (hval 0 25 _ rfl rfl) h0;obtain⟨t,ht,k1⟩:=Rf RelDs Tryz.underlying25 (by kernel_rfl) (hval 1 25 _ rfl rfl) h1;obtain⟨u,hu,k2⟩:=Rf TabD Tryz.underlying30 (by kernel_rfl) (hval 2 30 _ rfl rfl) h2;obtain⟨m,hm,k3⟩:=arg_str Tryz.underlying9 (hval 3 9 _ rfl rfl) h3;have okR : ∀ {r:Rel},okD RelDs r->F9 r:=λh=>⟨okNam_of h.1,okLnk_of h.2⟩;have hz:=tab_len hsz (j:=2) rfl rfl h2 k2;unfold Go.reachBytes at hz;refine (tQ (rest_w (r:=s) (s:=t) (t:=u) (nm:=m) (okR hs) (okR ht) (okT_of hu) (gL (fV hsz (j:=0) rfl rfl h0 k0)) (gL (fV hsz (j:=1) rfl rfl h1 k1)) om) hG (repL1 k0 (repL1 k1 (repL1 k2 (repL1 k3 repL0))))).mono λe W' ⟨he,hb⟩=>?_;subst he;exact⟨_,rfl,hfin W' hb ⟨_,rfl⟩ rfl⟩
end
end Go.Proofs.YtfcecekilahfiaaGreatDoor.restReleases
