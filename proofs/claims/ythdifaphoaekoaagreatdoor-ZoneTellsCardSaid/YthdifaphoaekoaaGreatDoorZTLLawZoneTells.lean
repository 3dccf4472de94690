/-
  The law LawZoneTells answers true; own lemmas and contracts lie in the parts ahead. No condition beyond those that each lemma states.
-/
import Derived.Test.YthdifaphoaekoaaGreatDoorZT4
set_option linter.all false
set_option maxRecDepth 1000000
set_option maxHeartbeats 4000000
section
namespace Go.Proofs.YthdifaphoaekoaaGreatDoor.zoneTells
open Go.ChangeShapes Go.WideShapes Go.ChangeAt Go.RowKit Go.Ab
attribute [local simp] Zby ZbO ZbD ZbK Zb7 Zd5
section
theorem Zbq {a0 a1 a2:AV}{l:List AV}:((a0::a1::a2::l).drop 0).take 3=[a0,a1,a2]:=rfl
theorem Zd8 {a0 a1 c0 c1:AV}{l:List AV}:setCells (a0::a1::l) 0 [c0,c1]=c0::c1::l:=rfl
theorem ZbC {a0 a1:AV}{l:List AV}:((a0::a1::l).drop 0).take 2=[a0,a1]:=rfl
theorem Zes {a0 a1:AV}{l:List AV}:(a0::a1::l).take 2=[a0,a1]:=rfl
end
def c5:AC:=(Sr [Oo 2 (.box 26 3 (.tmp 0)),Mb 4 false] (Sr [Oo 15 (.load true 3 (.tmp 2)),Mv 16 1,Cl 17 16 [(.tmp 15),(.tmp 16)],Mv 14 17,Ex 18 14 0,Ex 19 14 1,Oo 5 (.new 44 2 [Ss,(.sl 0 0 true [])]),⟨none,none,(.store 2 (.tmp 5) (.tmp 18))⟩,Mv 6 19] (Sr [Oo 21 (.load true 3 (.tmp 2)),Mv 22 1,Cl 23 17 [(.tmp 21),(.tmp 22)],Mv 20 23,Ex 24 20 0,Ex 25 20 1,Mv 7 24,Mv 8 25] (Sr [Oo 26 (.load true 3 (.tmp 2)),Cl 27 18 [(.tmp 26)],Mv 9 27] (Sr [Mv 28 9,Mv 10 28] (Sr [Oo 11 (.mv (.const (.int .i64 (-1))))] (.seq (Sr [Mv 29 9,Bc 30 .eql 29 0] (Cd 30 (Sr [Oo 31 (.load true 3 (.tmp 2)),Mv 32 1,Cl 33 19 [(.tmp 31),(.tmp 32)],Mv 11 33] (Sr [Mv 34 11,Bc 35 .lss 34 0] (Cd 35 (.reg [Mc 10 5]) .skip))) .skip)) (Sr [Oo 12 (.new 44 2 [Ss,(.sl 0 0 true [])])] (Sr [Oo 13 (.mv (.const (.slice none 0 0)))] (.seq (Sr [Mv 36 10,Bc 37 .eql 36 0] (Cd 37 (.drw [Fa 38 1 2,Ld 39 38,Mv 40 11,Oo 41 (.ia 2 (.tmp 39) (.tmp 40)),Oo 42 (.load true 2 (.tmp 41)),Fa 43 1 2,Ld 44 43,Mv 45 11,Oo 46 (.ia 2 (.tmp 44) (.tmp 45)),Oo 47 (.load true 2 (.tmp 46)),Cl 48 20 [(.tmp 47)]] [false,false] [⟨none,none,(.store 2 (.tmp 12) (.tmp 42))⟩,Mv 13 48]) .skip)) (Sr [Cl 49 13 [],Mv 50 49,Ot 51 50 (.load true 3 (.tmp 2)),Ot 52 50 (.call (.func 14) [(.tmp 51)]),Ot 53 50 (mt 9),Ot 54 50 (.bin .eql (.tmp 52) (.tmp 53)),Oo 55 (.pick (.tmp 50) (.tmp 54) (.const (.bool false))),Mv 56 55,Ot 57 56 (mt 6),Ot 58 56 (mt 10),Ot 59 56 (.bin .eql (.tmp 57) (.tmp 58)),Oo 60 (.pick (.tmp 56) (.tmp 59) (.const (.bool false))),Mv 61 60,Ot 62 61 (.load true 2 (.tmp 5)),Ot 63 61 (.load true 2 (.tmp 12)),Ot 64 61 (.call (.func 21) [(.tmp 62),(.tmp 63)]),Oo 65 (.pick (.tmp 61) (.tmp 64) (.const (.bool false))),Mv 66 65,Ot 67 66 (mt 8),Ot 68 66 (mt 10),Ot 69 66 (.bin .eql (.tmp 67) (.tmp 68)),Oo 70 (.pick (.tmp 66) (.tmp 69) (.const (.bool false))),Mv 71 70,Ot 72 71 (mt 7),Ot 73 71 (mt 13),Ot 74 71 (.call (.func 22) [(.tmp 72),(.tmp 73)]),Oo 75 (.pick (.tmp 71) (.tmp 74) (.const (.bool false))),Mv 4 75] .ret)))))))))))
theorem k5:ZaD Tryz.prog 5=some ⟨c5,[(.tmp 4)],76⟩:=by kernel_rfl
theorem ZkP {s:Src}{nm:ByteArray}(h:ZeA s nm<0):¬s.2.1.findIdx (fun z=>decide (z.1=tgtV s nm))<s.2.1.length:=fun hh=>by
 have:ZeA s nm=((s.2.1.findIdx fun y:Zon=>decide (y.1=tgtV s nm):Nat):Int):=if_pos hh
 omega
theorem ZkO {s:Src}{nm:ByteArray}(h:¬ZeA s nm<0) : ∃ hh:s.2.1.findIdx (fun z=>decide (z.1=tgtV s nm))<s.2.1.length,ZeA s nm=((s.2.1.findIdx fun y:Zon=>decide (y.1=tgtV s nm):Nat):Int):=by
 have hh:s.2.1.findIdx (fun z=>decide (z.1=tgtV s nm))<s.2.1.length:=Decidable.byContradiction fun hh=>by have:ZeA s nm = -1:=if_neg hh;omega
 exact ⟨hh,if_pos hh⟩
theorem walk0 {a:List Rul}{z:List Zon}{k:List Lnk}{nm:ByteArray}(hok:Zeb (a,z,k)):Ac 5 [.agg (srcB a z k),sv nm] [] (bv true):=by
 have hfl:=Zl4 (s:=(a,z,k)) (nm:=nm)
 refine tI' k5 fun N hn hlt hlA hbd=>?_
 simp only [tb'] at hbd ⊢
 refine wr'<|E' (Zbi (cvl lk rfl) rfl (hl0 hn) ha0) pt<|mv' lkb pt<|sn'<|wr'<|V' (Zap lk (hga hn rfl) Zbq rfl) pt<|mv' lk pt<|Zae mp (Zqr hok) pt<|mv' lk pt<|V' (Za7 lk gt) pt<|V' (Za7 lk gt) pt<|?_
 refine E' (Za6 (hl1 hn) ha1) pt<|E' (Zal lk (cvl lk rfl) (hga hn rfl) rfl (nb' rfl) rfl Zd8 (hs1 hn)) ptn<|mv' lk pt<|sn'<|wr'<|V' (Zap lk (hga hn rfl) Zbq rfl) pt<|mv' lk pt<|Zae mp (Zqs hok) pt<|mv' lk pt<|V' (Za7 lk gt) pt<|V' (Za7 lk gt) pt<|mv' lk pt<|?_
 refine mv' lk pt<|sn'<|wr'<|V' (Zap lk (hga hn rfl) Zbq rfl) pt<|Zae mp (ZlH hok) pt<|mv' lk pt<|sn'<|wr'<|mv' lk pt<|mv' lk pt<|?_
 refine sn'<|wr'<|mv' lki pt<|sn'<|Zah<|wr'<|mv' lk pt<|V' (ZaN lk lki) pt<|sn'<|?_
 refine cd' lk (fun hc1=>?_) (fun hc1=>?_)
 ·have hz0:ZbE (a,z,k)=0:=hc1
  have hE:=Zfu hz0
  obtain ⟨q1,q2,q3,q4,q5,q6,q7⟩:=Zc0 hE
  simp only at q1 q2 q3 q4 q5 q6 q7
  refine wr'<|V' (Zap lk (hga hn rfl) Zbq rfl) pt<|mv' lk pt<|?_
  refine Zae mp (Zra (by omega) (by omega)) pt ?_
  refine mv' lk pt<|sn'<|wr'<|mv' lk pt<|V' (ZaZ lk lki) pt<|sn'<|?_
  refine cd' lk (fun hc2=>?_) (fun hc2=>?_)
  ·have hF:=Zg7 hz0 (ZkP hc2)
   refine Zat<|mv' lki pt<|sn'<|wr'<|E' (Za6 (hl2 hn) ha2) pt<|sn'<|wr'<|mv' lkn pt<|sn'<|?_
   refine Zah<|wr'<|mv' lk pt<|V' (ZaN lk lki) pt<|sn'<|?_
   refine Zcr lk (by rfl) ?_
   refine Zad<|Zaf<|wr'<|Zae mp0 (ZdY) pt<|mv' lk pt<|s_do gt<|V' (Zap lk (hga hn rfl) Zbq rfl) pt<|s_do gt<|Zae mp (Zf8 hok) pt<|s_do gt<|mv' lk pt<|s_do gt<|V' (ZaN lk lk) pt<|?_
   refine V' (Zai lk lk) pt<|mv' lk pt<|?_
   refine Zbl (t:=56) gt (b:=true) (by exact decide_eq_true rfl) pt ?_
   refine s_do gt<|mv' lk pt<|s_do gt<|mv' lk pt<|s_do gt<|V' (ZaN lk lk) pt<|V' (Zai lk lk) pt<|mv' lk pt<|?_
   refine Zbl (t:=61) gt (b:=true) (by exact decide_eq_true (by rw [hF])) pt ?_
   refine s_do gt<|V' (Zap lk (hga hn rfl) ZbC rfl) pt<|s_do gt<|V' (Zap lk (hga hn rfl) ZbC rfl) pt<|s_do gt<|?_
   refine Zae mp (ACalls.wk (wk1 rfl (wkw (Wk.agg (wk1 rfl (wkw Wk.nilF wk0))) wk0))<|ZfT (na:=(ZbT (a,z,k) nm).1.1) (a:=(ZbT (a,z,k) nm).1.2) (nb:=⟨#[]⟩) (b:=[])) pt ?_
   refine V' (Zai lk lk) pt<|mv' lk pt<|?_
   refine Zbl (t:=66) gt (b:=true) (by exact decide_eq_true (by rw [hF];rfl)) pt ?_
   refine s_do gt<|mv' lk pt<|s_do gt<|mv' lk pt<|s_do gt<|V' (ZaN lk lk) pt<|V' (Zai lk lk) pt<|mv' lk pt<|?_
   refine Zbl (t:=71) gt (b:=true) (by exact decide_eq_true (by rw [hF])) pt ?_
   refine s_do gt<|mv' lk pt<|s_do gt<|mv' lk pt<|s_do gt<|?_
   refine Zae mp (ACalls.wk (wk1 rfl (wkw Wk.nil wk0))<|ZgZ (l:=ZaO (ZbT (a,z,k) nm).1.2) (m:=[]) (f2:=true)) pt ?_
   refine V' (Zai lk lk) pt<|mv' lk pt<|sn'<|Zaa<|Zag rz<|rT'<|?_
   exact bvx (decide_eq_true (by rw [hF];rfl))
  obtain ⟨hix,hlk⟩:=ZkO hc2
  have hF:=Zg6 hz0 hix
  simp only at hix hF
  have hzo:=Zdd hE (List.getElem_mem hix)
  refine Zad<|Zaf<|wr'<|E' (Za6 (hl2 hn) ha2) pt<|sn'<|wr'<|mv' lkn pt<|sn'<|Zah<|Zah<|?_
  refine Zat<|mv' lk pt<|V' (ZaN lk lki) pt<|sn'<|?_
  refine Zc4 lk (by exact decide_eq_true hz0) ?_
  refine Zbf<|D' (Zac lk) pt<|D' (Zab lk (hga hn rfl) gt1) pt<|D' (v_mv lk) pt<|?_
  refine D' (ZaJ (k:=z.findIdx fun y:Zon=>decide (y.1=tgtV (a,z,k) nm)) lk lk Zbs (nb' rfl) ro (by omega) ro rfl) pt ?_
  refine D' (ZaF lk Zes rfl) pt<|D' (Zac lk) pt<|D' (Zab lk (hga hn rfl) gt1) pt<|D' (v_mv lk) pt<|?_
  refine D' (ZaJ (k:=z.findIdx fun y:Zon=>decide (y.1=tgtV (a,z,k) nm)) lk lk Zbs (nb' rfl) ro (by omega) ro rfl) pt ?_
  refine D' (ZaF lk Zes rfl) pt ?_
  refine Za2 mp (fun hE hX=>ZmT hzo) pt ?_
  refine Zbj ?_
  refine ZbH ?_
  refine E' (Zal lk (cvl lk rfl) (hga hn rfl) rfl (nb' rfl) rfl Zd8 (hs2 hn)) ptn<|mv' lk pt<|sn'<|wr'<|Zae mp0 (ZdY) pt<|mv' lk pt<|s_do gt<|V' (Zap lk (hga hn rfl) Zbq rfl) pt<|s_do gt<|Zae mp (Zf8 hok) pt<|s_do gt<|mv' lk pt<|?_
  refine s_do gt<|V' (ZaN lk lk) pt<|V' (Zai lk lk) pt<|mv' lk pt<|?_
  refine Zbl (t:=56) gt (b:=true) (by exact decide_eq_true rfl) pt ?_
  refine s_do gt<|mv' lk pt<|s_do gt<|mv' lk pt<|s_do gt<|V' (ZaN lk lk) pt<|V' (Zai lk lk) pt<|mv' lk pt<|?_
  refine Zbl (t:=61) gt (b:=true) (by exact decide_eq_true (by rw [hF,hz0])) pt ?_
  refine s_do gt<|V' (Zap lk (hga hn rfl) ZbC rfl) pt<|s_do gt<|V' (Zap lk (hga hn rfl) ZbC rfl) pt<|s_do gt<|?_
  refine Zae mp (ACalls.wk (wk1 rfl (wk1 rfl wk0))<|ZmP (a:=(ZbT (a,z,k) nm).1) (b:=z[z.findIdx fun y:Zon=>decide (y.1=tgtV (a,z,k) nm)])) pt ?_
  refine V' (Zai lk lk) pt<|mv' lk pt<|?_
  refine Zbl (t:=66) gt (b:=true) (by exact decide_eq_true (by rw [hF])) pt ?_
  refine s_do gt<|mv' lk pt<|s_do gt<|mv' lk pt<|s_do gt<|V' (ZaN lk lk) pt<|V' (Zai lk lk) pt<|mv' lk pt<|?_
  refine Zbl (t:=71) gt (b:=true) (by exact decide_eq_true (by rw [hF,hz0])) pt ?_
  refine s_do gt<|mv' lk pt<|s_do gt<|mv' lk pt<|s_do gt<|?_
  refine Zae mp (ACalls.wk (wk1 rfl (wk1 rfl wk0))<|ZgZ (l:=ZaO (ZbT (a,z,k) nm).1.2) (m:=ZaO z[z.findIdx fun y:Zon=>decide (y.1=tgtV (a,z,k) nm)].2)) pt ?_
  refine V' (Zai lk lk) pt<|mv' lk pt<|sn'<|Zaa<|Zag rz<|rT'<|?_
  exact bvx (decide_eq_true (by rw [hF]))
 have hF:ZbT (a,z,k) nm=(zonO,ZbE (a,z,k)):=if_pos hc1
 refine Zad<|Zaf<|wr'<|E' (Za6 (hl2 hn) ha2) pt<|sn'<|wr'<|mv' lkn pt<|sn'<|Zah<|Zah<|?_
 refine Zat<|mv' lk pt<|V' (ZaN lk lki) pt<|sn'<|?_
 refine Zcr lk (by exact decide_eq_false hc1) ?_
 refine Zad<|Zaf<|wr'<|Zae mp0 (ZdY) pt<|mv' lk pt<|s_do gt<|V' (Zap lk (hga hn rfl) Zbq rfl) pt<|s_do gt<|Zae mp (Zf8 hok) pt<|s_do gt<|mv' lk pt<|s_do gt<|V' (ZaN lk lk) pt<|?_
 refine V' (Zai lk lk) pt<|mv' lk pt<|?_
 refine Zbl (t:=56) gt (b:=true) (by exact decide_eq_true rfl) pt ?_
 refine s_do gt<|mv' lk pt<|s_do gt<|mv' lk pt<|s_do gt<|V' (ZaN lk lk) pt<|V' (Zai lk lk) pt<|mv' lk pt<|?_
 refine Zbl (t:=61) gt (b:=true) (by exact decide_eq_true (by rw [hF])) pt ?_
 refine s_do gt<|V' (Zap lk (hga hn rfl) ZbC rfl) pt<|s_do gt<|V' (Zap lk (hga hn rfl) ZbC rfl) pt<|s_do gt<|?_
 refine Zae mp (ACalls.wk (wk1 rfl (wkw (Wk.agg (wk1 rfl (wkw Wk.nilF wk0))) wk0))<|ZfT (na:=(ZbT (a,z,k) nm).1.1) (a:=(ZbT (a,z,k) nm).1.2) (nb:=⟨#[]⟩) (b:=[])) pt ?_
 refine V' (Zai lk lk) pt<|mv' lk pt<|?_
 refine Zbl (t:=66) gt (b:=true) (by exact decide_eq_true (by rw [hF];rfl)) pt ?_
 refine s_do gt<|mv' lk pt<|s_do gt<|mv' lk pt<|s_do gt<|V' (ZaN lk lk) pt<|V' (Zai lk lk) pt<|mv' lk pt<|?_
 refine Zbl (t:=71) gt (b:=true) (by exact decide_eq_true (by rw [hF])) pt ?_
 refine s_do gt<|mv' lk pt<|s_do gt<|mv' lk pt<|s_do gt<|?_
 refine Zae mp (ACalls.wk (wk1 rfl (wkw Wk.nil wk0))<|ZgZ (l:=ZaO (ZbT (a,z,k) nm).1.2) (m:=[]) (f2:=true)) pt ?_
 refine V' (Zai lk lk) pt<|mv' lk pt<|sn'<|Zaa<|Zag rz<|rT'<|?_
 exact bvx (decide_eq_true (by rw [hF];rfl))
theorem walk {s:Src}{nm:ByteArray}(hok:Zeb s):Ac 5 [.agg (srcC s),sv nm] [] (bv true):=walk0 hok
set_option maxRecDepth 100000 in
theorem lifted (os:Os) (started:os.Started) (H:Type) (enc:TypeId×Value→H) :
  ReturnsInHanded {} Tryz.checked os 5 .any (fun w args=>(Rows.zoneTellsSpec.pre enc Tryz.prog Tryz.f5 [] false w args∧laidMetH Tryz.prog Rows.zoneTellsRow.laid w)∧sizedMet enc Tryz.prog Tryz.f5 (OpenSpec.ofChange Rows.zoneTellsSpec) false w args) (Rows.zoneTellsSpec.post enc Tryz.prog Tryz.f5 false true false false):=by
 refine Ziu (C:=Tryz.checked) own started (by kernel_rfl) Tryz.func5
  (ChangeSpec.witness_shaped (enc:=enc) (C:=Tryz.checked) (os:=os) (X:=fun w _=>laidMetH Tryz.prog Rows.zoneTellsRow.laid w) false (World.laidAll Tryz.prog os Rows.zoneTellsRow.laid) #[.agg #[.slice none 0 0,.slice none 0 0,.slice none 0 0],.string ⟨#[]⟩] 8 (World.laidAll_os _ _ _)
   (World.shaped_of_ZipB (by kernel_rfl) (by kernel_rfl)) (by kernel_rfl) (by kernel_rfl) (by kernel_rfl)
   (by rw [MakeChecks.laidMetH_plain _ _ _ (by kernel_rfl)];exact laidMet_laidAll _ (by kernel_rfl) (by kernel_rfl))) ?_
 intro W base args ds gs before hval0 hW0 hsz hL hsh
 have hval : ∀ (j:Nat) t v,Tryz.f5.params[j]?=some t→args[j]?=some v→Value.okWide Tryz.prog W .any base t v:=hval0
 have hW:=hW0
 obtain ⟨p,q,hA0,_,_,_,_⟩:=hW
 have hA:DataW.TrodAll enc Tryz.prog W 0 (fun _=>true) true Tryz.f5.params.toList args.toList ds p:=hA0
 have hG:GlobW W:=globW hsh hL (by unfold ZsM;kernel_rfl)
 have hfin : ∀ W',Below W.heap.size W W'→(∃ d,ds=d)→Rows.zoneTellsSpec.fn H ds={ results:=[.lit (.bool true)],args:=ds }→Rows.zoneTellsSpec.post enc Tryz.prog Tryz.f5 false true false false W args (.bool true) W' :=
  fun W' hb _ hs=>Zoq ZrP (by kernel_rfl) rfl Tryz.underlying4 rfl hs hW0 hb
 obtain ⟨v0,vs0,d0,ds0,p0,q0,hargs,rfl,rfl,h0,r0⟩:=trodAll_cons hA
 obtain ⟨v1,vs1,d1,ds1,p1,q1,rfl,rfl,rfl,h1,r1⟩:=trodAll_cons r0
 obtain ⟨rfl,rfl,rfl⟩:=trodAll_nil r1
 obtain rfl:args = #[v0,v1]:=by cases args;simp_all
 obtain ⟨s,hs,k0⟩:=ZjN SrcDs Tryz.underlying26 (by kernel_rfl) (hval 0 26 _ rfl rfl) h0
 obtain ⟨t,ht,k1⟩:=Zst Tryz.underlying9 (hval 1 9 _ rfl rfl) h1
 refine (ZlX (walk (s:=s) (nm:=t) (Zoh hs)) hG (Zrf k0 (Zrf k1 repL0))).mono fun e W' ⟨he,hb⟩=>?_
 subst he
 exact ⟨_,rfl,hfin W' hb ⟨_,rfl⟩ rfl⟩
theorem row:Rows.ZoneTellsSaid :=
 OpenClaim.holds_of_wide 5 Tryz.f5 rfl rfl rfl rfl rfl rfl rfl ⟨rfl,rfl,rfl,rfl,rfl⟩ rfl rfl rfl rfl rfl (by kernel_rfl) Tryz.func5 (by kernel_rfl)
  (of_decide_eq_true (by kernel_rfl)) (by unfold Func.isWrapper;first | (rw [if_pos (by decide +kernel)];kernel_rfl) | (rw [if_neg (by decide +kernel)];exact ⟨rfl,rfl⟩))
  (fun os started H enc _=>lifted os started H enc)
theorem proved:Rows.ZoneTellsCardSaid :=
 Claim7.holds_tied_plain_at .later [] Rows.zoneTellsCard.laidKinds Rows.zoneTellsCard.laidTests Rows.zoneTellsCard.stood.harness Rows.zoneTellsCard.stood.looks
  row (fun _ h=>by cases h) (by kernel_rfl) (fun _ h=>by cases h) zoneTells_row_tie rfl ⟨rfl,rfl⟩ (by kernel_rfl) rfl
  (fun f fn hf hfn=>by
   obtain rfl:f=5:=Option.some.inj ((show Tryz.prog.funcNamed "dateline/datelinelaw.ZoneTells" = some 5 by kernel_rfl).symm.trans hf) |>.symm
   obtain rfl:fn=Tryz.f5:=(Option.some.inj (Tryz.func5.symm.trans hfn)).symm
   exact ⟨by kernel_rfl,fun j t ht=>by
    have hm:t∈Tryz.f5.params.toList:=Array.mem_toList_iff.2 (Array.mem_of_getElem? ht)
    have hall:(Tryz.f5.params.toList.all fun u=>!Tryz.prog.wantsStandIn u)=true:=by kernel_rfl
    exact (show Tryz.prog.wantsStandIn t=false by simpa using List.all_eq_true.1 hall t hm)⟩)
  (by kernel_rfl)
end Go.Proofs.YthdifaphoaekoaaGreatDoor.zoneTells
end
