/-
  The law LawZoneAts answers true; own lemmas and contracts lie in the parts ahead. No condition beyond those that each lemma states.
-/
import Derived.Test.YthdifaphoaekoaaGreatDoorZT4
set_option linter.all false
set_option maxRecDepth 1000000
set_option maxHeartbeats 4000000
section
namespace Go.Proofs.YthdifaphoaekoaaGreatDoor.zoneAts
open Go.ChangeShapes Go.WideShapes Go.ChangeAt Go.RowKit Go.Ab
attribute [local simp] Zby ZbO ZbD ZbK Zb7 Zd5 tms_lt
section
theorem ZaV {a0 a1 a2:AV}{l:List AV}:((a0::a1::a2::l).drop 0).take 3=[a0,a1,a2]:=rfl
theorem ZeX {a0 a1 a2 c0 c1 c2:AV}{l:List AV}:setCells (a0::a1::a2::l) 0 [c0,c1,c2]=c0::c1::c2::l:=rfl
theorem Zcg {a0 b0:Int}{a1 b1:Int}{a2 b2:ByteArray}:Zb3 [.int,.int,.str] [iv a0,iv a1,sv a2] [iv b0,iv b1,sv b2]=some (decide (a0=b0∧a1=b1∧a2=b2)):=by
 simp only [Zb3,Zfa,if_true,Zem,Option.some.injEq]
 simp only [Bool.decide_and,Bool.and_true]
 try (congr 1 <;> simp)
 try rfl
theorem Zi4 {a0 a1:AV}{l:List AV}:(a0::a1::l).take 2=[a0,a1]:=rfl
end
def c6:AC:=(Sr [Oo 3 (.box 26 3 (.tmp 0)),Mb 6 false] (Sr [Oo 13 (.load true 3 (.tmp 3)),Mv 14 1,Mv 15 2,Cl 16 15 [(.tmp 13),(.tmp 14),(.tmp 15)],Mv 12 16,Ex 17 12 0,Ex 18 12 1,Oo 7 (.new 31 3 [(iv 0),(iv 0),Ss]),⟨none,none,(.store 3 (.tmp 7) (.tmp 17))⟩,Mv 8 18] (Sr [Oo 19 (.load true 3 (.tmp 3)),Cl 20 18 [(.tmp 19)],Mv 9 20] (Sr [Oo 10 (.mv (.const (.int .i64 (-1))))] (.seq (Sr [Mv 21 9,Bc 22 .eql 21 0] (Cd 22 (Sr [Oo 23 (.load true 3 (.tmp 3)),Mv 24 1,Cl 25 19 [(.tmp 23),(.tmp 24)],Mv 10 25] (Sr [Mv 26 10,Bc 27 .lss 26 0] (Cd 27 (.reg [Mc 9 5]) .skip))) .skip)) (.seq (Sr [Mv 28 9,Bc 29 .eql 28 0,Mv 30 29,Ot 31 30 (mt 2),Ot 32 30 (.call (.func 23) []),Ot 33 30 (.bin .lss (.tmp 31) (.tmp 32)),Ot 34 30 (mt 33),Of 35 34 (mt 2),Of 36 34 (.call (.func 24) []),Of 37 34 (.bin .gtr (.tmp 35) (.tmp 36)),Ot 38 30 (.pick (.tmp 34) (.const (.bool true)) (.tmp 37)),Oo 39 (.pick (.tmp 30) (.tmp 38) (.const (.bool false)))] (Cd 39 (.reg [Mc 9 3]) .skip)) (Sr [Oo 11 (.new 31 3 [(iv 0),(iv 0),Ss])] (.seq (Sr [Mv 40 9,Bc 41 .eql 40 0] (Cd 41 (.drw [Oo 42 (.load true 3 (.tmp 3)),Fa 43 1 3,Ld 44 43,Mv 45 10,Oo 46 (.ia 2 (.tmp 44) (.tmp 45)),Oo 47 (.load true 2 (.tmp 46)),Cl 48 25 [(.tmp 42),(.tmp 47)],Mv 49 2,Cl 50 26 [(.tmp 48),(.tmp 49)]] [false] [⟨none,none,(.store 3 (.tmp 11) (.tmp 50))⟩]) .skip)) (Sr [Cl 51 13 [],Mv 52 51,Ot 53 52 (mt 8),Ot 54 52 (mt 9),Ot 55 52 (.bin .eql (.tmp 53) (.tmp 54)),Oo 56 (.pick (.tmp 52) (.tmp 55) (.const (.bool false))),Mv 57 56,Ot 58 57 (.load true 3 (.tmp 7)),Ot 59 57 (.load true 3 (.tmp 11)),Ot 60 57 (.eqs false [.int,.int,.str] (.tmp 58) (.tmp 59)),Oo 61 (.pick (.tmp 57) (.tmp 60) (.const (.bool false))),Mv 6 61] .ret)))))))))
theorem k6:ZaD Tryz.prog 6=some ⟨c6,[(.tmp 6)],62⟩:=by kernel_rfl
def c23:AC:=(Sr [Mc 0 0] (Sr [Cl 1 60 [],Bc 2 .mul 1 86400,Mv 0 2] .ret))
theorem k23:ZaD Tryz.prog 23=some ⟨c23,[(.tmp 0)],3⟩:=by kernel_rfl
def c24:AC:=(Sr [Mc 0 0] (Sr [Cl 1 61 [],Bc 2 .mul 1 86400,Bc 3 .add 2 86399,Mv 0 3] .ret))
theorem k24:ZaD Tryz.prog 24=some ⟨c24,[(.tmp 0)],4⟩:=by kernel_rfl
theorem Zo8 {h:AH}:Ac 23 [] h (iv (-62135596800)):=by
 refine tI' k23 fun N hn hlt hlA hbd=>?_
 simp only [tb'] at hbd ⊢
 refine wr'<|mv' lki pt<|sn'<|wr'<|Zae mp0 (Zoa) pt<|?_
 refine V' (Zee lk lki (by omega) (by omega)) pt ?_
 exact mv' lk pt<|sn'<|Zaa<|Zag rz<|rT' rfl
theorem Zq9 {h:AH}:Ac 24 [] h (iv 253402300799):=by
 refine tI' k24 fun N hn hlt hlA hbd=>?_
 simp only [tb'] at hbd ⊢
 refine wr'<|mv' lki pt<|sn'<|wr'<|Zae mp0 (Zrb) pt<|?_
 refine V' (Zee lk lki (by omega) (by omega)) pt ?_
 refine V' (Zav lk lki (by omega) (by omega)) pt ?_
 exact mv' lk pt<|sn'<|Zaa<|Zag rz<|rT' rfl
theorem ZkP {s:Src}{nm:ByteArray}(h:ZeA s nm<0):¬s.2.1.findIdx (fun z=>decide (z.1=tgtV s nm))<s.2.1.length:=fun hh=>by
 have:ZeA s nm=((s.2.1.findIdx fun y:Zon=>decide (y.1=tgtV s nm):Nat):Int):=if_pos hh
 omega
theorem ZkO {s:Src}{nm:ByteArray}(h:¬ZeA s nm<0) : ∃ hh:s.2.1.findIdx (fun z=>decide (z.1=tgtV s nm))<s.2.1.length,ZeA s nm=((s.2.1.findIdx fun y:Zon=>decide (y.1=tgtV s nm):Nat):Int):=by
 have hh:s.2.1.findIdx (fun z=>decide (z.1=tgtV s nm))<s.2.1.length:=Decidable.byContradiction fun hh=>by have:ZeA s nm = -1:=if_neg hh;omega
 exact ⟨hh,if_pos hh⟩
theorem walk0 {a:List Rul}{z:List Zon}{k:List Lnk}{nm:ByteArray}{n:Int}(hok:Zeb (a,z,k)):Ac 6 [.agg (srcB a z k),sv nm,iv n] [] (bv true):=by
 refine tI' k6 fun N hn hlt hlA hbd=>?_
 simp only [tb'] at hbd ⊢
 refine wr'<|E' (Zbi (cvl lk rfl) rfl (hl0 hn) ha0) pt<|mv' lkb pt<|sn'<|wr'<|V' (Zap lk (hga hn rfl) ZaV rfl) pt<|mv' lk pt<|mv' lk pt<|Zae mp (at_a hok) pt<|mv' lk pt<|V' (Za7 lk gt) pt<|?_
 refine V' (Za7 lk gt) pt<|E' (Za6 (hl1 hn) ha1) pt<|E' (Zal lk (cvl lk rfl) (hga hn rfl) rfl (nb' rfl) rfl ZeX (hs1 hn)) ptn<|mv' lk pt<|sn'<|wr'<|V' (Zap lk (hga hn rfl) ZaV rfl) pt<|Zae mp (ZlH hok) pt<|mv' lk pt<|sn'<|Zah<|?_
 refine Zat<|mv' lki pt<|sn'<|Zah<|wr'<|mv' lk pt<|V' (ZaN lk lki) pt<|sn'<|?_
 refine cd' lk (fun hc1=>?_) (fun hc1=>?_)
 ·have hz0:ZbE (a,z,k)=0:=hc1
  have hE:=Zfu hz0
  obtain ⟨q1,q2,q3,q4,q5,q6,q7⟩:=Zc0 hE
  simp only at q1 q2 q3 q4 q5 q6 q7
  refine wr'<|V' (Zap lk (hga hn rfl) ZaV rfl) pt<|mv' lk pt<|?_
  refine Zae mp (Zra (by omega) (by omega)) pt ?_
  refine mv' lk pt<|sn'<|wr'<|mv' lk pt<|V' (ZaZ lk lki) pt<|sn'<|?_
  refine cd' lk (fun hc2=>?_) (fun hc2=>?_)
  ·have hF:=Zg7 hz0 (ZkP hc2)
   have hA:atV (a,z,k) nm n=(locZ,5):=by unfold atV;rw [hF];rfl
   refine Zat<|mv' lki pt<|sn'<|Zah<|wr'<|mv' lk pt<|V' (ZaN lk lki) pt<|mv' lk pt<|?_
   refine Zbl (t:=30) gt (b:=false) (by rfl) pt ?_
   refine s_no gt pt<|s_no gt pt<|s_no gt pt<|s_no gt pt<|s_nu gt pt<|s_nu gt pt<|s_nu gt pt<|s_no gt pt<|V' (Zak lk lkb) pt<|sn'<|ZaR lk<|Zad<|Zaf<|?_
   refine wr'<|E' (Za6 (hl2 hn) ha2) pt<|sn'<|Zah<|wr'<|mv' lk pt<|V' (ZaN lk lki) pt<|sn'<|?_
   refine Zcr lk (by rfl) ?_
   refine Zad<|Zaf<|wr'<|Zae mp0 (ZdY) pt<|mv' lk pt<|s_do gt<|mv' lk pt<|s_do gt<|mv' lk pt<|s_do gt<|V' (ZaN lk lk) pt<|V' (Zai lk lk) pt<|mv' lk pt<|?_
   refine Zbl (t:=57) gt (b:=true) (by exact decide_eq_true (by rw [hA])) pt ?_
   refine s_do gt<|V' (Zap lk (hga hn rfl) ZaV rfl) pt<|s_do gt<|V' (Zap lk (hga hn rfl) ZaV rfl) pt<|s_do gt<|V' (Zhn lk lk Zcg) pt<|V' (Zai lk lk) pt<|mv' lk pt<|sn'<|Zaa<|Zag rz<|rT'<|?_
   exact bvx (decide_eq_true (by rw [hA];exact ⟨rfl,rfl,rfl⟩))
  obtain ⟨hix,hlk⟩:=ZkO hc2
  have hF:=Zg6 hz0 hix
  simp only at hix hF
  have hzo:=Zdd hE (List.getElem_mem hix)
  refine Zad<|Zaf<|Zah<|wr'<|mv' lk pt<|V' (ZaN lk lki) pt<|mv' lk pt<|?_
  refine Zbl (t:=30) gt (b:=true) (by exact decide_eq_true hz0) pt ?_
  refine s_do gt<|mv' lk pt<|s_do gt<|Zae mp0 (Zo8) pt<|s_do gt<|V' (ZaZ lk lk) pt<|s_do gt<|mv' lk pt<|?_
  refine sp' (t:=34) gt pt pt (fun hg34=>?_) (fun hg34=>?_)
  ·have hA:atV (a,z,k) nm n=(locZ,3):=by unfold atV;rw [hF];simp only [ne_eq,not_true_eq_false,if_false];rw [if_pos (.inl (by simp only [tMin];omega))]
   refine s_no gt pt<|s_no gt pt<|s_no gt pt<|s_do gt<|V' (Zai lk lkb) pt<|V' (Zai lk lk) pt<|sn'<|ZaG lk<|Zat<|mv' lki pt<|sn'<|Zah<|?_
   refine Zat<|E' (Za6 (hl2 hn) ha2) pt<|sn'<|Zah<|wr'<|mv' lk pt<|V' (ZaN lk lki) pt<|sn'<|?_
   refine Zcr lk (by rfl) ?_
   refine Zad<|Zaf<|wr'<|Zae mp0 (ZdY) pt<|mv' lk pt<|s_do gt<|mv' lk pt<|s_do gt<|mv' lk pt<|s_do gt<|V' (ZaN lk lk) pt<|V' (Zai lk lk) pt<|mv' lk pt<|?_
   refine Zbl (t:=57) gt (b:=true) (by exact decide_eq_true (by rw [hA])) pt ?_
   refine s_do gt<|V' (Zap lk (hga hn rfl) ZaV rfl) pt<|s_do gt<|V' (Zap lk (hga hn rfl) ZaV rfl) pt<|s_do gt<|V' (Zhn lk lk Zcg) pt<|V' (Zai lk lk) pt<|mv' lk pt<|sn'<|Zaa<|Zag rz<|rT'<|?_
   exact bvx (decide_eq_true (by rw [hA];exact ⟨rfl,rfl,rfl⟩))
  refine s_do gt<|mv' lk pt<|s_do gt<|Zae mp0 (Zq9) pt<|s_do gt<|V' (ZbW lk lk) pt<|s_do gt<|V' (Zak lk lk) pt<|V' (Zai lk lk) pt<|sn'<|?_
  refine cd' lk (fun hc3=>?_) (fun hc3=>?_)
  ·have hA:atV (a,z,k) nm n=(locZ,3):=by unfold atV;rw [hF];simp only [ne_eq,not_true_eq_false,if_false];rw [if_pos (.inr (by simp only [tMax];omega))]
   refine Zat<|mv' lki pt<|sn'<|wr'<|E' (Za6 (hl2 hn) ha2) pt<|sn'<|Zah<|wr'<|mv' lk pt<|V' (ZaN lk lki) pt<|?_
   refine sn' ?_
   refine Zcr lk (by rfl) ?_
   refine Zad<|Zaf<|wr'<|Zae mp0 (ZdY) pt<|mv' lk pt<|s_do gt<|mv' lk pt<|s_do gt<|mv' lk pt<|s_do gt<|V' (ZaN lk lk) pt<|V' (Zai lk lk) pt<|mv' lk pt<|?_
   refine Zbl (t:=57) gt (b:=true) (by exact decide_eq_true (by rw [hA])) pt ?_
   refine s_do gt<|V' (Zap lk (hga hn rfl) ZaV rfl) pt<|s_do gt<|V' (Zap lk (hga hn rfl) ZaV rfl) pt<|s_do gt<|V' (Zhn lk lk Zcg) pt<|V' (Zai lk lk) pt<|mv' lk pt<|sn'<|Zaa<|Zag rz<|rT'<|?_
   exact bvx (decide_eq_true (by rw [hA];exact ⟨rfl,rfl,rfl⟩))
  have hA:atV (a,z,k) nm n=(ZcX a z[z.findIdx fun y:Zon=>decide (y.1=tgtV (a,z,k) nm)].2 n,0):=by unfold atV;rw [hF];simp only [ne_eq,not_true_eq_false,if_false];rw [if_neg (by simp only [tMin,tMax];omega)]
  refine Zad<|Zaf<|wr'<|E' (Za6 (hl2 hn) ha2) pt<|sn'<|Zah<|wr'<|mv' lk pt<|V' (ZaN lk lki) pt<|sn'<|?_
  refine Zc4 lk (by exact decide_eq_true hz0) ?_
  refine Zbf<|D' (Zap lk (hga hn rfl) ZaV rfl) pt<|D' (Zac lk) pt<|D' (Zab lk (hga hn rfl) gt1) pt<|D' (v_mv lk) pt<|?_
  refine D' (ZaJ (k:=z.findIdx fun y:Zon=>decide (y.1=tgtV (a,z,k) nm)) lk lk Zbs (nb' rfl) ro (by omega) ro rfl) pt ?_
  refine D' (ZaF lk Zi4 rfl) pt ?_
  refine Za2 mp (fun hE hX=>rtell_a (ZkL hok) (by omega) hzo) pt ?_
  refine D' (v_mv lk) pt ?_
  refine Za2 mp (fun hE hX=>rtold_a hzo) pt ?_
  refine Zbj ?_
  refine ZbH ?_
  refine E' (Zal lk (cvl lk rfl) (hga hn rfl) rfl (nb' rfl) rfl ZeX (hs2 hn)) ptn<|sn'<|wr'<|Zae mp0 (ZdY) pt<|mv' lk pt<|s_do gt<|mv' lk pt<|s_do gt<|mv' lk pt<|s_do gt<|V' (ZaN lk lk) pt<|V' (Zai lk lk) pt<|?_
  refine mv' lk pt ?_
  refine Zbl (t:=57) gt (b:=true) (by exact decide_eq_true (by rw [hA,hz0])) pt ?_
  refine s_do gt<|V' (Zap lk (hga hn rfl) ZaV rfl) pt<|s_do gt<|V' (Zap lk (hga hn rfl) ZaV rfl) pt<|s_do gt<|V' (Zhn lk lk Zcg) pt<|V' (Zai lk lk) pt<|mv' lk pt<|sn'<|Zaa<|Zag rz<|rT'<|?_
  exact bvx (decide_eq_true (by rw [hA];exact ⟨rfl,rfl,rfl⟩))
 have hF:ZbT (a,z,k) nm=(zonO,ZbE (a,z,k)):=if_pos hc1
 have hA:atV (a,z,k) nm n=(locZ,ZbE (a,z,k)):=by unfold atV;rw [hF,if_pos hc1]
 refine Zad<|Zaf<|Zah<|wr'<|mv' lk pt<|V' (ZaN lk lki) pt<|mv' lk pt<|?_
 refine Zbl (t:=30) gt (b:=false) (by exact decide_eq_false hc1) pt ?_
 refine s_no gt pt<|s_no gt pt<|s_no gt pt<|s_no gt pt<|s_nu gt pt<|s_nu gt pt<|s_nu gt pt<|s_no gt pt<|V' (Zak lk lkb) pt<|sn'<|ZaR lk<|Zad<|Zaf<|?_
 refine wr'<|E' (Za6 (hl2 hn) ha2) pt<|sn'<|Zah<|wr'<|mv' lk pt<|V' (ZaN lk lki) pt<|sn'<|?_
 refine Zcr lk (by exact decide_eq_false hc1) ?_
 refine Zad<|Zaf<|wr'<|Zae mp0 (ZdY) pt<|mv' lk pt<|s_do gt<|mv' lk pt<|s_do gt<|mv' lk pt<|s_do gt<|V' (ZaN lk lk) pt<|V' (Zai lk lk) pt<|mv' lk pt<|?_
 refine Zbl (t:=57) gt (b:=true) (by exact decide_eq_true (by rw [hA])) pt ?_
 refine s_do gt<|V' (Zap lk (hga hn rfl) ZaV rfl) pt<|s_do gt<|V' (Zap lk (hga hn rfl) ZaV rfl) pt<|s_do gt<|V' (Zhn lk lk Zcg) pt<|V' (Zai lk lk) pt<|mv' lk pt<|sn'<|Zaa<|Zag rz<|rT'<|?_
 exact bvx (decide_eq_true (by rw [hA];exact ⟨rfl,rfl,rfl⟩))
theorem walk {s:Src}{nm:ByteArray}{n:Int}(hok:Zeb s):Ac 6 [.agg (srcC s),sv nm,iv n] [] (bv true):=walk0 hok
set_option maxRecDepth 100000 in
theorem lifted (os:Os) (started:os.Started) (H:Type) (enc:TypeId×Value→H) :
  ReturnsInHanded {} Tryz.checked os 6 .any (fun w args=>(Rows.zoneAtsSpec.pre enc Tryz.prog Tryz.f6 [] false w args∧laidMetH Tryz.prog Rows.zoneAtsRow.laid w)∧sizedMet enc Tryz.prog Tryz.f6 (OpenSpec.ofChange Rows.zoneAtsSpec) false w args) (Rows.zoneAtsSpec.post enc Tryz.prog Tryz.f6 false true false false):=by
 refine Ziu (C:=Tryz.checked) own started (by kernel_rfl) Tryz.func6
  (ChangeSpec.witness_shaped (enc:=enc) (C:=Tryz.checked) (os:=os) (X:=fun w _=>laidMetH Tryz.prog Rows.zoneAtsRow.laid w) false (World.laidAll Tryz.prog os Rows.zoneAtsRow.laid) #[.agg #[.slice none 0 0,.slice none 0 0,.slice none 0 0],.string ⟨#[]⟩,.int .i64 0] 8 (World.laidAll_os _ _ _)
   (World.shaped_of_ZipB (by kernel_rfl) (by kernel_rfl)) (by kernel_rfl) (by kernel_rfl) (by kernel_rfl)
   (by rw [MakeChecks.laidMetH_plain _ _ _ (by kernel_rfl)];exact laidMet_laidAll _ (by kernel_rfl) (by kernel_rfl))) ?_
 intro W base args ds gs before hval0 hW0 hsz hL hsh
 have hval : ∀ (j:Nat) t v,Tryz.f6.params[j]?=some t→args[j]?=some v→Value.okWide Tryz.prog W .any base t v:=hval0
 have hW:=hW0
 obtain ⟨p,q,hA0,_,_,_,_⟩:=hW
 have hA:DataW.TrodAll enc Tryz.prog W 0 (fun _=>true) true Tryz.f6.params.toList args.toList ds p:=hA0
 have hG:GlobW W:=globW hsh hL (by unfold ZsM;kernel_rfl)
 have hfin : ∀ W',Below W.heap.size W W'→(∃ d,ds=d)→Rows.zoneAtsSpec.fn H ds={ results:=[.lit (.bool true)],args:=ds }→Rows.zoneAtsSpec.post enc Tryz.prog Tryz.f6 false true false false W args (.bool true) W' :=
  fun W' hb _ hs=>Zoq ZrP (by kernel_rfl) rfl Tryz.underlying4 rfl hs hW0 hb
 obtain ⟨v0,vs0,d0,ds0,p0,q0,hargs,rfl,rfl,h0,r0⟩:=trodAll_cons hA
 obtain ⟨v1,vs1,d1,ds1,p1,q1,rfl,rfl,rfl,h1,r1⟩:=trodAll_cons r0
 obtain ⟨v2,vs2,d2,ds2,p2,q2,rfl,rfl,rfl,h2,r2⟩:=trodAll_cons r1
 obtain ⟨rfl,rfl,rfl⟩:=trodAll_nil r2
 obtain rfl:args = #[v0,v1,v2]:=by cases args;simp_all
 obtain ⟨s,hs,k0⟩:=ZjN SrcDs Tryz.underlying26 (by kernel_rfl) (hval 0 26 _ rfl rfl) h0
 obtain ⟨t,ht,k1⟩:=Zst Tryz.underlying9 (hval 1 9 _ rfl rfl) h1
 obtain ⟨n,hn,k2⟩:=arg_int Tryz.underlying3 (hval 2 3 _ rfl rfl) h2
 refine (ZlX (walk (s:=s) (nm:=t) (n:=n) (Zoh hs)) hG (Zrf k0 (Zrf k1 (Zrf k2 repL0)))).mono fun e W' ⟨he,hb⟩=>?_
 subst he
 exact ⟨_,rfl,hfin W' hb ⟨_,rfl⟩ rfl⟩
theorem row:Rows.ZoneAtsSaid :=
 OpenClaim.holds_of_wide 6 Tryz.f6 rfl rfl rfl rfl rfl rfl rfl ⟨rfl,rfl,rfl,rfl,rfl⟩ rfl rfl rfl rfl rfl (by kernel_rfl) Tryz.func6 (by kernel_rfl)
  (of_decide_eq_true (by kernel_rfl)) (by unfold Func.isWrapper;first | (rw [if_pos (by decide +kernel)];kernel_rfl) | (rw [if_neg (by decide +kernel)];exact ⟨rfl,rfl⟩))
  (fun os started H enc _=>lifted os started H enc)
theorem proved:Rows.ZoneAtsCardSaid :=
 Claim7.holds_tied_plain_at .later [] Rows.zoneAtsCard.laidKinds Rows.zoneAtsCard.laidTests Rows.zoneAtsCard.stood.harness Rows.zoneAtsCard.stood.looks
  row (fun _ h=>by cases h) (by kernel_rfl) (fun _ h=>by cases h) zoneAts_row_tie rfl ⟨rfl,rfl⟩ (by kernel_rfl) rfl
  (fun f fn hf hfn=>by
   obtain rfl:f=6:=Option.some.inj ((show Tryz.prog.funcNamed "dateline/datelinelaw.ZoneAts" = some 6 by kernel_rfl).symm.trans hf) |>.symm
   obtain rfl:fn=Tryz.f6:=(Option.some.inj (Tryz.func6.symm.trans hfn)).symm
   exact ⟨by kernel_rfl,fun j t ht=>by
    have hm:t∈Tryz.f6.params.toList:=Array.mem_toList_iff.2 (Array.mem_of_getElem? ht)
    have hall:(Tryz.f6.params.toList.all fun u=>!Tryz.prog.wantsStandIn u)=true:=by kernel_rfl
    exact (show Tryz.prog.wantsStandIn t=false by simpa using List.all_eq_true.1 hall t hm)⟩)
  (by kernel_rfl)
end Go.Proofs.YthdifaphoaekoaaGreatDoor.zoneAts
end
