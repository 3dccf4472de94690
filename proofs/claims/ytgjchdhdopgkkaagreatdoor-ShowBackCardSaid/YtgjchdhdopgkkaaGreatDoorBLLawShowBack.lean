/-
  The law LawShowBack answers true; own lemmas and contracts lie in the parts ahead. No condition beyond those that each lemma states.
-/
import Derived.Test.YtgjchdhdopgkkaaGreatDoorB4
set_option linter.all false
set_option maxRecDepth 1000000
set_option maxHeartbeats 4000000
section
namespace Go.Proofs.YtgjchdhdopgkkaaGreatDoor.showBack
open Go.ChangeShapes Go.WideShapes Go.ChangeAt Go.RowKit Go.Ab
attribute [local simp] Za4 Zbj Zca Za5 Zbd
section
theorem Zb5 {a0 a1 a2:AV}{l:List AV}:((a0::a1::a2::l).drop 0).take 3=[a0,a1,a2]:=rfl
theorem Zdp {a0 a1 a2 c0 c1 c2:AV}{l:List AV}:setCells (a0::a1::a2::l) 0 [c0,c1,c2]=c0::c1::c2::l:=rfl
end
def c7:AC:=(Sr [Oo 2 (.box 26 3 (.tmp 0)),Mb 4 false] (.seq (Sr [Cl 14 12 [],Oo 15 (.un .not (.tmp 14)),Mv 16 15,Of 17 16 (.call (.func 15) []),Of 18 16 (.un .not (.tmp 17)),Oo 19 (.pick (.tmp 16) (.const (.bool true)) (.tmp 18))] (Cd 19 (Sr [Mb 4 false] .ret) .skip)) (Sr [Oo 21 (.load true 3 (.tmp 2)),Cl 22 8 [(.tmp 21)],Mv 20 22,Ex 23 20 0,Ex 24 20 1,Mv 5 23,Mv 6 24] (.seq (Sr [Mv 25 6,Bc 26 .eql 25 0] (Cd 26 (Sr [Mv 28 5,Cl 29 16 [(.tmp 28)],Mv 27 29,Ex 30 27 0,Ex 31 27 1,Ex 32 27 2,Oo 7 (.new 26 3 [(.sl 0 0 true []),(.sl 0 0 true []),(.sl 0 0 true [])]),⟨none,none,(.store 3 (.tmp 7) (.tmp 30))⟩,Mv 8 31,Mv 9 32] (Sr [Mv 33 9,Bc 34 .neq 33 0,Mv 35 34,Of 36 35 (.load true 3 (.tmp 2)),Of 37 35 (.load true 3 (.tmp 7)),Of 38 35 (.call (.func 13) [(.tmp 36),(.tmp 37)]),Of 39 35 (.un .not (.tmp 38)),Oo 40 (.pick (.tmp 35) (.const (.bool true)) (.tmp 39))] (Cd 40 (Sr [Mb 4 false] .ret) .skip))) .skip)) (Sr [Mv 42 1,Cl 43 16 [(.tmp 42)],Mv 41 43,Ex 44 41 0,Ex 45 41 1,Ex 46 41 2,Oo 10 (.new 26 3 [(.sl 0 0 true []),(.sl 0 0 true []),(.sl 0 0 true [])]),⟨none,none,(.store 3 (.tmp 10) (.tmp 44))⟩,Mv 11 45,Mv 6 46] (.seq (Sr [Mv 47 6,Bc 48 .neq 47 0] (Cd 48 (Sr [Fa 49 0 10,Ld 50 49,Oo 51 (.len false (.tmp 50)),Fa 52 1 10,Ld 53 52,Oo 54 (.len false (.tmp 53)),Bn 55 .add 51 54,Fa 56 2 10,Ld 57 56,Oo 58 (.len false (.tmp 57)),Bn 59 .add 55 58,Bc 60 .eql 59 0,Mv 4 60] .ret) .skip)) (Sr [Oo 62 (.load true 3 (.tmp 10)),Cl 63 8 [(.tmp 62)],Mv 61 63,Ex 64 61 0,Ex 65 61 1,Mv 5 64,Mv 6 65] (.seq (Sr [Mv 66 6,Bc 67 .neq 66 0] (Cd 67 (Sr [Mv 68 6,Bc 69 .eql 68 2,Mv 4 69] .ret) .skip)) (Sr [Mv 71 5,Cl 72 16 [(.tmp 71)],Mv 70 72,Ex 73 70 0,Ex 74 70 1,Ex 75 70 2,Oo 12 (.new 26 3 [(.sl 0 0 true []),(.sl 0 0 true []),(.sl 0 0 true [])]),⟨none,none,(.store 3 (.tmp 12) (.tmp 73))⟩,Mv 13 74,Mv 6 75] (Sr [Mv 76 6,Bc 77 .eql 76 0,Mv 78 77,Ot 79 78 (.load true 3 (.tmp 10)),Ot 80 78 (.load true 3 (.tmp 12)),Ot 81 78 (.call (.func 13) [(.tmp 79),(.tmp 80)]),Oo 82 (.pick (.tmp 78) (.tmp 81) (.const (.bool false))),Mv 4 82] .ret))))))))))
theorem k7:ZaH Tryz.prog 7=some ⟨c7,[(.tmp 4)],83⟩:=by kernel_rfl
theorem sp_of {t:ByteArray}{S:Src}(e:ZaV t=(S,0,0)) {h:AH}:Ac 16 [sv t] h (.tup [.agg (srcC S),iv 0,iv 0]):=by
 have:=Zh1 (s:=t) (h:=h)
 rw [e] at this
 exact this
theorem Zsq {s:Src}(h:(ZhU s).2=0):ZbT s=0∧ZaV (ZhU s).1=(s,0,0):=by
 unfold ZhU at h ⊢
 split at h
 ·rename_i h1;exact absurd h h1
 rename_i h1
 have h1':=Decidable.of_not_not h1
 rw [if_neg h1]
 exact ⟨h1',Zss h1' h⟩
theorem walk {s:Src}{t:ByteArray}{h:AH}(hok:ZeJ s):Ac 7 [.agg (srcC s),sv t] h (bv true):=by
 refine tI' k7 fun N hn hlt hlA hbd=>?_
 simp only [tb'] at hbd ⊢
 refine wr'<|E' (Zcm (cvl lk rfl) rfl (hl0 hn) ha0) pt<|mv' lkb pt<|sn'<|Zam<|wr'<|Zae mp0 (Zsv) pt<|?_
 refine V' ((by first | exact Zju lk | exact Zav lk)) pt ?_
 refine mv' lk pt ?_
 refine Zhk (t:=16) gt (b:=false) (by rfl) pt ?_
 refine s_do gt<|Zae mp0 (sbegun_a) pt<|s_do gt<|?_
 refine V' ((by first | exact Zju lk | exact Zav lk)) pt ?_
 refine V' (Zah lk lk) pt<|sn'<|?_
 refine ZcD lk (by rfl) ?_
 refine Zaf<|Zai<|wr'<|V' (Zau lk (hga hn rfl) Zb5 rfl) pt<|Zae mp (Zst (s:=s) hok) pt<|mv' lk pt<|V' (Zbb lk gt) pt<|V' (Zbb lk gt) pt<|mv' lk pt<|mv' lk pt<|sn'<|?_
 refine Zfq (ι:=Unit) (fun (u_:Unit)=>[(4,.any)]++rn' 7 3++rn' 25 16) (fun (u_:Unit)=>[]) (fun (u_:Unit)=>True) ?_ ?_
 ·try simp only [sm',Nat.reduceAdd]
  refine wr'<|mv' lk pt<|V' (ZaX lk lki) pt<|sn'<|?_
  refine cd' lk (fun hc2=>?_) (fun hc2=>?_)
  ·obtain ⟨hcs,hP⟩:=Zsq hc2
   refine wr'<|mv' lk pt<|Zae mp (sp_of hP) pt<|mv' lk pt<|V' (Zbb lk gt) pt<|V' (Zbb lk gt) pt<|V' (Zbb lk gt) pt<|E' (Zbq (hl1 hn) ha1) pt<|E' (Zal lk (cvl lk rfl) (hga hn rfl) rfl (nb' rfl) rfl Zdp (hs1 hn)) ptn<|mv' lk pt<|mv' lk pt<|sn'<|?_
   refine wr'<|mv' lk pt<|V' (Za6 lk lki) pt<|mv' lk pt<|?_
   refine Zhk (t:=35) gt (b:=false) (by rfl) pt ?_
   refine s_do gt<|V' (Zau lk (hga hn rfl) Zb5 rfl) pt<|s_do gt<|V' (Zau lk (hga hn rfl) Zb5 rfl) pt<|s_do gt<|Zae mp (ZpE (s:=s) (t:=s)) pt<|s_do gt<|?_
   refine V' ((by first | exact Zju lk | exact Zav lk)) pt ?_
   refine V' (Zah lk lk) pt<|sn'<|?_
   refine ZcD lk (by simp) ?_
   refine Zaf<|ZaI<|?_
   exact cT' (()) (by trivial) (by (try dsimp only);(try simp only [sm',Nat.reduceAdd]);exact bk' 1 hn hlt)
  refine Zaf<|ZaI<|?_
  exact cT' (()) (by trivial)
 rintro u_ hq10
 try simp only [sm',Nat.reduceAdd]
 refine wr'<|mv' lk pt<|Zae mp (Zh1 (s:=t)) pt<|mv' lk pt<|V' (Zbb lk gt) pt<|V' (Zbb lk gt) pt<|V' (Zbb lk gt) pt<|E' (Zbq (hl1 hn) ha1) pt<|E' (Zal lk (cvl lk rfl) (hga hn rfl) rfl (nb' rfl) rfl Zdp (hs1 hn)) ptn<|mv' lk pt<|mv' lk pt<|sn'<|?_
 refine Zam<|wr'<|mv' lk pt<|V' (Za6 lk lki) pt<|sn'<|?_
 refine cd' lk (fun hc4=>?_) (fun hc4=>?_)
 ·have hZ:=Zj3 (s:=t) hc4
  rw [hZ]
  refine wr'<|V' (Zaa lk) pt<|V' (Zac lk (hga hn rfl) gt0) pt<|V' (ZaK lk) pt<|V' (Zaa lk) pt<|V' (Zac lk (hga hn rfl) gt1) pt<|V' (ZaK lk) pt<|?_
  refine V' (ZaE lk lk (by decide) (by decide)) pt ?_
  refine V' (Zaa lk) pt<|V' (Zac lk (hga hn rfl) gt2) pt<|V' (ZaK lk) pt<|?_
  refine V' (ZaE lk lk (by decide) (by decide)) pt ?_
  exact V' (ZaX lk lki) pt<|mv' lk pt<|sn'<|Zab<|Zak<|Zag rz<|rT' rfl
 have hA:=Zn5 (s:=t) (Decidable.of_not_not hc4)
 have hV2:ZhU (ZaV t).1=Zfo (Zec (ZaV t).1):=if_neg (fun e=>e hA)
 refine Zaf<|Zai<|wr'<|V' (Zau lk (hga hn rfl) Zb5 rfl) pt<|Zae mp (Zst (s:=(ZaV t).1) ZmH) pt<|mv' lk pt<|V' (Zbb lk gt) pt<|V' (Zbb lk gt) pt<|mv' lk pt<|mv' lk pt<|sn'<|Zam<|?_
 refine wr'<|mv' lk pt<|V' (Za6 lk lki) pt<|sn'<|?_
 refine cd' lk (fun hc5=>?_) (fun hc5=>?_)
 ·have hM:=Zsr hA (by rw [←hV2];exact hc5)
  refine wr'<|mv' lk pt<|V' (ZaX lk lki) pt<|mv' lk pt<|sn'<|Zab<|Zak<|Zag rz<|rT'<|?_
  refine bvx ?_;refine decide_eq_true ?_;rw [hV2];exact hM
 have hP2:=(Zsq (s:=(ZaV t).1) (Decidable.of_not_not hc5)).2
 refine Zaf<|Zai<|wr'<|mv' lk pt<|Zae mp (sp_of hP2) pt<|mv' lk pt<|V' (Zbb lk gt) pt<|V' (Zbb lk gt) pt<|V' (Zbb lk gt) pt<|E' (Zbq (hl2 hn) ha2) pt<|E' (Zal lk (cvl lk rfl) (hga hn rfl) rfl (nb' rfl) rfl Zdp (hs2 hn)) ptn<|mv' lk pt<|mv' lk pt<|?_
 refine sn'<|wr'<|mv' lk pt<|V' (ZaX lk lki) pt<|mv' lk pt<|?_
 refine Zhk (t:=78) gt (b:=true) (by rfl) pt ?_
 refine s_do gt<|V' (Zau lk (hga hn rfl) Zb5 rfl) pt<|s_do gt<|V' (Zau lk (hga hn rfl) Zb5 rfl) pt<|s_do gt<|Zae mp (ZpE (s:=(ZaV t).1) (t:=(ZaV t).1)) pt<|V' (Zaj lk lk) pt<|mv' lk pt<|sn'<|Zab<|Zag rz<|rT'<|?_
 refine bvx ?_;exact decide_eq_true rfl
set_option maxRecDepth 100000 in
theorem lifted (os:Os) (started:os.Started) (H:Type) (enc:TypeId×Value→H) :
  ReturnsInHanded {} Tryz.checked os 7 .any (fun w args=>(Rows.showBackSpec.pre enc Tryz.prog Tryz.f7 [] false w args∧laidMetH Tryz.prog Rows.showBackRow.laid w)∧sizedMet enc Tryz.prog Tryz.f7 (OpenSpec.ofChange Rows.showBackSpec) false w args) (Rows.showBackSpec.post enc Tryz.prog Tryz.f7 false true false false):=by
 refine Zok (C:=Tryz.checked) own started (by kernel_rfl) Tryz.func7
  (ChangeSpec.witness_shaped (enc:=enc) (C:=Tryz.checked) (os:=os) (X:=fun w _=>laidMetH Tryz.prog Rows.showBackRow.laid w) false (World.laidAll Tryz.prog os Rows.showBackRow.laid) #[.agg #[.slice none 0 0,.slice none 0 0,.slice none 0 0],.string ⟨#[]⟩] 8 (World.laidAll_os _ _ _)
   (World.shaped_of_ZipB (by kernel_rfl) (by kernel_rfl)) (by kernel_rfl) (by kernel_rfl) (by kernel_rfl)
   (by rw [MakeChecks.laidMetH_plain _ _ _ (by kernel_rfl)];exact laidMet_laidAll _ (by kernel_rfl) (by kernel_rfl))) ?_
 intro W base args ds gs before hval0 hW0 hsz hL hsh
 have hval : ∀ (j:Nat) t v,Tryz.f7.params[j]?=some t→args[j]?=some v→Value.okWide Tryz.prog W .any base t v:=hval0
 have hW:=hW0
 obtain ⟨p,q,hA0,_,_,_,_⟩:=hW
 have hA:DataW.TrodAll enc Tryz.prog W 0 (fun _=>true) true Tryz.f7.params.toList args.toList ds p:=hA0
 have hG:GlobW W:=globW hsh hL (by unfold Zt7;kernel_rfl)
 have hfin : ∀ W',Below W.heap.size W W'→(∃ d,ds=d)→Rows.showBackSpec.fn H ds={ results:=[.lit (.bool true)],args:=ds }→Rows.showBackSpec.post enc Tryz.prog Tryz.f7 false true false false W args (.bool true) W' :=
  fun W' hb _ hs=>law_post laidOut (by kernel_rfl) rfl Tryz.underlying4 rfl hs hW0 hb
 obtain ⟨v0,vs0,d0,ds0,p0,q0,hargs,rfl,rfl,h0,r0⟩:=trodAll_cons hA
 obtain ⟨v1,vs1,d1,ds1,p1,q1,rfl,rfl,rfl,h1,r1⟩:=trodAll_cons r0
 obtain ⟨rfl,rfl,rfl⟩:=trodAll_nil r1
 obtain rfl:args = #[v0,v1]:=by cases args;simp_all
 obtain ⟨s,hs,k0⟩:=Zq2 SrcDs Tryz.underlying26 (by kernel_rfl) (hval 0 26 _ rfl rfl) h0
 obtain ⟨t,ht,k1⟩:=arg_str Tryz.underlying9 (hval 1 9 _ rfl rfl) h1
 refine (Ztf (walk (s:=s) (t:=t) (h:=[]) (okSrc_of hs)) hG (repL1 k0 (repL1 k1 repL0))).mono fun e W' ⟨he,hb⟩=>?_
 subst he
 exact ⟨_,rfl,hfin W' hb ⟨_,rfl⟩ rfl⟩
theorem row:Rows.ShowBackSaid :=
 OpenClaim.holds_of_wide 7 Tryz.f7 rfl rfl rfl rfl rfl rfl rfl ⟨rfl,rfl,rfl,rfl,rfl⟩ rfl rfl rfl rfl rfl (by kernel_rfl) Tryz.func7 (by kernel_rfl)
  (of_decide_eq_true (by kernel_rfl)) (by unfold Func.isWrapper;first | (rw [if_pos (by decide +kernel)];kernel_rfl) | (rw [if_neg (by decide +kernel)];exact ⟨rfl,rfl⟩))
  (fun os started H enc _=>lifted os started H enc)
theorem proved:Rows.ShowBackCardSaid :=
 Claim7.holds_tied_plain_at .later [] Rows.showBackCard.laidKinds Rows.showBackCard.laidTests Rows.showBackCard.stood.harness Rows.showBackCard.stood.looks
  row (fun _ h=>by cases h) (by kernel_rfl) (fun _ h=>by cases h) showBack_row_tie rfl ⟨rfl,rfl⟩ (by kernel_rfl) rfl
  (fun f fn hf hfn=>by
   obtain rfl:f=7:=Option.some.inj ((show Tryz.prog.funcNamed "dateline/datelinelaw.ShowBack" = some 7 by kernel_rfl).symm.trans hf) |>.symm
   obtain rfl:fn=Tryz.f7:=(Option.some.inj (Tryz.func7.symm.trans hfn)).symm
   exact ⟨by kernel_rfl,fun j t ht=>by
    have hm:t∈Tryz.f7.params.toList:=Array.mem_toList_iff.2 (Array.mem_of_getElem? ht)
    have hall:(Tryz.f7.params.toList.all fun u=>!Tryz.prog.wantsStandIn u)=true:=by kernel_rfl
    exact (show Tryz.prog.wantsStandIn t=false by simpa using List.all_eq_true.1 hall t hm)⟩)
  (by kernel_rfl)
end Go.Proofs.YtgjchdhdopgkkaaGreatDoor.showBack
end
