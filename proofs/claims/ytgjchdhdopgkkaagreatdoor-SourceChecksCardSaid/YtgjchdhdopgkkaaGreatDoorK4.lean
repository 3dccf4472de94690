/-
  Part 4 of the proof: own lemmas and contracts on plain data. No condition beyond those that each lemma states.
-/
import Derived.Test.YtgjchdhdopgkkaaGreatDoorK3
import Derived.ProofKit
import Derived.Carry
import Derived.Lib.SmallJoins
import Derived.Deep.Slices
set_option linter.all false
set_option maxRecDepth 100000
section
namespace Go.Proofs.YtgjchdhdopgkkaaGreatDoor
open Go.Ab Go.RowKit Go.Maps Civ
def kindD:DataW Unit:=(((DataW.map []).put (.int .u8 119) (.lit (.int .i64 1))).put (.int .u8 115) (.lit (.int .i64 2))).put (.int .u8 117) (.lit (.int .i64 3))
theorem kindD_look (c:Int):has kindD (.int .u8 c)=(wsuK c).isSome∧(kindD.atKey (.int .u8 c) (.lit (.int .i64 0))) = .lit (.int .i64 ((wsuK c).getD 0)):=by
 unfold kindD wsuK
 by_cases h1:c=119
 ·subst h1;exact ⟨rfl,rfl⟩
 ·by_cases h2:c=115
  ·subst h2;exact ⟨rfl,rfl⟩
  ·by_cases h3:c=117
   ·subst h3;exact ⟨rfl,rfl⟩
   ·rw [if_neg h1,if_neg h2,if_neg h3]
    have e1:¬119=c:=Ne.symm h1
    have e2:¬115=c:=Ne.symm h2
    have e3:¬117=c:=Ne.symm h3
    rw [show (((DataW.map []).put (.int .u8 119) (.lit (.int .i64 1))).put (.int .u8 115) (.lit (.int .i64 2))).put (.int .u8 117) (.lit (.int .i64 3))=(DataW.map [(.int .u8 115,.lit (.int .i64 2)),(.int .u8 117,.lit (.int .i64 3)),(.int .u8 119,.lit (.int .i64 1))]:DataW Unit) from rfl]
    constructor
    ·simp [has,Lit.sameKey,e1,e2,e3]
    ·simp [DataW.atKey,Lit.sameKey,e1,e2,e3]
def GoodW (g:Gh) (h:AH) (w w2:World):Prop := ∃ g2,SimH w2 g2 h∧g.le g2∧Fr w (Ow g h) w2 ∧ ∀ k,Ow g2 h k→Ow g h k∨w.heap.size≤k
theorem span_some {w w1:World}{g:Gh}{h:AH}(hs:SimH w g h) (hb:Below w.heap.size w w1) {x:ByteArray}(hz:x.size≤24) {n:Int}(hv:spanV x=some n) :
  Calls Tryz.prog 147 #[.string x] w1 fun e w2=>e = .returned (.int .i64 n)∧GoodW g h w w2:=by
 have hold : ∀ k,k<w.heap.size→w1.heap[k]?=w.heap[k]?:=fun k hk=>hb.block k hk
 have hs1:SimH w1 g h:=hs.world (fun k hk=>hold k (hk.elim (hs.lt k) (fun ho=>(hs.own_not_D ho).2))) hb.size
 have f1:Fr w (Ow g h) w1:=⟨hb.os,hb.tape,hb.output,hb.size,fun k hk _=>hold k hk⟩
 refine ((sspan_any (h:=h) hz).2 w1 g #[.string x] hs1 ?_).mono ?_
 ·simp only [RepL,Rep];exact ⟨_,_,rfl,rfl,rfl⟩
 ·rintro e w2 ⟨y,h2,g2,q1,q2,q3,q4,q5,rfl,rfl⟩
  rw [hv] at q1
  cases e <;> simp only [EndR,res,Option.map_some,Rep] at q1
  subst q1
  exact ⟨rfl,g2,q2,q3,f1.trans q4 (fun i hi _=>hi),fun k hk=>(q5 k hk).elim .inl (fun h=>.inr (Nat.le_trans hb.size h))⟩
theorem span_none {w w1:World}{g:Gh}{h:AH}(hs:SimH w g h) (hb:Below w.heap.size w w1) {x:ByteArray}(hz:x.size≤24) (hv:spanV x=none) :
  Calls Tryz.prog 147 #[.string x] w1 fun e w2=>e = .panicked [{ v:=.iface 121 (.agg #[]),recovered:=false }]∧GoodW g h w w2:=by
 have hold : ∀ k,k<w.heap.size→w1.heap[k]?=w.heap[k]?:=fun k hk=>hb.block k hk
 have hs1:SimH w1 g h:=hs.world (fun k hk=>hold k (hk.elim (hs.lt k) (fun ho=>(hs.own_not_D ho).2))) hb.size
 have f1:Fr w (Ow g h) w1:=⟨hb.os,hb.tape,hb.output,hb.size,fun k hk _=>hold k hk⟩
 refine ((sspan_any (h:=h) hz).2 w1 g #[.string x] hs1 ?_).mono ?_
 ·simp only [RepL,Rep];exact ⟨_,_,rfl,rfl,rfl⟩
 ·rintro e w2 ⟨y,h2,g2,q1,q2,q3,q4,q5,rfl,rfl⟩
  rw [hv] at q1
  cases e <;> simp only [EndR,res,Option.map_none,Rep] at q1
  obtain ⟨v,rfl,rfl⟩:=q1
  exact ⟨rfl,g2,q2,q3,f1.trans q4 (fun i hi _=>hi),fun k hk=>(q5 k hk).elim .inl (fun h=>.inr (Nat.le_trans hb.size h))⟩
theorem kinds_made (w:World) : ∃ w1 w2 w3:World,
  (Instr.mapUpdate 181 (.map (some w.heap.size)) (.int .u8 119) (.int .i64 1)).run Tryz.prog (w.alloc (.map #[] 0)) = .ok () w1 ∧
  (Instr.mapUpdate 181 (.map (some w.heap.size)) (.int .u8 115) (.int .i64 2)).run Tryz.prog w1 = .ok () w2 ∧
  (Instr.mapUpdate 181 (.map (some w.heap.size)) (.int .u8 117) (.int .i64 3)).run Tryz.prog w2 = .ok () w3 ∧
  w3.ownsMap Tryz.prog 5 (plainElem Tryz.prog 3) w.heap.size 3 kindD∧Below w.heap.size w w3:=by
 have hm0:=World.ownsMap_made (H:=Unit) w Tryz.prog 5 (plainElem Tryz.prog 3)
 obtain ⟨w1,hrun1,hown1,hgrow1⟩:=hm0.update (t:=181) (key:=.int .u8 119) (val:=.int .i64 1) lawU Tryz.underlying181 (by decide) (keyOf_int_mk Tryz.underlying5 (show (Lit.int .u8 119).wf=true by decide)) (plainElem_int Tryz.underlying3 (show (Lit.int .i64 1).wf=true by decide))
 have hb1:Below w.heap.size w w1:=((Below.refl _ w).alloc (Nat.le_refl _) _).grown hgrow1 (by simp) (fun j hj=>by cases hj;exact Nat.le_refl _)
 obtain ⟨w2,hrun2,hown2,hgrow2⟩:=hown1.update (t:=181) (key:=.int .u8 115) (val:=.int .i64 2) lawU Tryz.underlying181 (by decide) (keyOf_int_mk Tryz.underlying5 (show (Lit.int .u8 115).wf=true by decide)) (plainElem_int Tryz.underlying3 (show (Lit.int .i64 2).wf=true by decide))
 have hb2:Below w.heap.size w w2:=hb1.grown hgrow2 hb1.size (fun j hj=>by cases hj;exact Nat.le_refl _)
 obtain ⟨w3,hrun3,hown3,hgrow3⟩:=hown2.update (t:=181) (key:=.int .u8 117) (val:=.int .i64 3) lawU Tryz.underlying181 (by decide) (keyOf_int_mk Tryz.underlying5 (show (Lit.int .u8 117).wf=true by decide)) (plainElem_int Tryz.underlying3 (show (Lit.int .i64 3).wf=true by decide))
 have hb3:Below w.heap.size w w3:=hb2.grown hgrow3 hb2.size (fun j hj=>by cases hj;exact Nat.le_refl _)
 exact ⟨w1,w2,w3,hrun1,hrun2,hrun3,hown3,hb3⟩
abbrev wrP:Ending:=.panicked [{ v:=.iface 121 (.agg #[]),recovered:=false }]
theorem clock_e {w:World}{g:Gh}{h:AH}(hs:SimH w g h) {s:ByteArray}{d:Int}(hz:s.size≤24) (h0:s.size=0) (hv:spanV s=none) :
  Calls Tryz.prog 146 #[.string s,.int .i64 d] w fun e w2=>e=wrP∧GoodW g h w w2:=by
 obtain ⟨w1,w2,w3,hrun1,hrun2,hrun3,hown,hb3⟩:=kinds_made w
 have hmm := @run_makeMap Tryz.prog
 have hc:=span_none hs hb3 hz hv
 go_enter Tryz.func146,Tryz.ntmps146
 go_wp2_with fail
 refine hc.mono ?_
 rintro e w' ⟨rfl,hg⟩
 exact ⟨rfl,rfl,hg⟩
set_option maxHeartbeats 1000000 in
theorem clock_ts {w:World}{g:Gh}{h:AH}(hs:SimH w g h) {s:ByteArray}{d k n:Int}(hz:s.size≤24) (h0:s.size≠0) (hk:wsuK (lastI s)=some k) (hv:spanV (s.extract 0 (s.size-1))=some n) :
  Calls Tryz.prog 146 #[.string s,.int .i64 d] w fun e w2=>e = .returned (.tuple #[.int .i64 n,.int .i64 k])∧GoodW g h w w2:=by
 obtain ⟨w1,w2,w3,hrun1,hrun2,hrun3,hown,hb3⟩:=kinds_made w
 have hmm := @run_makeMap Tryz.prog
 have hc:=span_some hs hb3 (x:=(s.extract 0 (s.size-1))) (by rw [ByteArray.size_extract];omega) hv
 have hl:lastI s=((s[s.size-1]'(by omega)).toNat:Int):=by unfold lastI byteI;rw [byteAt_get (by omega)]
 obtain ⟨d1,d2⟩:=kindD_look (lastI s)
 rw [hk] at d1 d2
 have hwf:(Lit.int .u8 (lastI s)).wf=true:=by have:=byte_bd s (s.size-1);unfold lastI byteI;simp [Lit.wf,IntKind.min,IntKind.max,IntKind.signed,IntKind.bits];omega
 rw [hl] at d1 d2 hwf
 go_enter Tryz.func146,Tryz.ntmps146
 go_wp2_with (first | (at_lookup;refine wpList_lookup_own_ok_int _ rfl _ _ 181 rfl 5 3 .i64 lawU Tryz.underlying181 Tryz.underlying3 (zeroI _) w.heap.size 3 _ rfl hown _ _ rfl (keyOf_int_mk Tryz.underlying5 hwf) ?_;intro cc hat hwc) | fail)
 refine hc.mono ?_
 rintro e w' ⟨rfl,hg⟩
 go_wp2_with fail
 go_ret2
 have hcc:cc=k:=by rw [d2] at hat;simpa using hat.symm
 subst hcc
 exact ⟨rfl,hg⟩
set_option maxHeartbeats 1000000 in
theorem clock_tn {w:World}{g:Gh}{h:AH}(hs:SimH w g h) {s:ByteArray}{d k:Int}(hz:s.size≤24) (h0:s.size≠0) (hk:wsuK (lastI s)=some k) (hv:spanV (s.extract 0 (s.size-1))=none) :
  Calls Tryz.prog 146 #[.string s,.int .i64 d] w fun e w2=>e=wrP∧GoodW g h w w2:=by
 obtain ⟨w1,w2,w3,hrun1,hrun2,hrun3,hown,hb3⟩:=kinds_made w
 have hmm := @run_makeMap Tryz.prog
 have hc:=span_none hs hb3 (x:=(s.extract 0 (s.size-1))) (by rw [ByteArray.size_extract];omega) hv
 have hl:lastI s=((s[s.size-1]'(by omega)).toNat:Int):=by unfold lastI byteI;rw [byteAt_get (by omega)]
 obtain ⟨d1,d2⟩:=kindD_look (lastI s)
 rw [hk] at d1 d2
 have hwf:(Lit.int .u8 (lastI s)).wf=true:=by have:=byte_bd s (s.size-1);unfold lastI byteI;simp [Lit.wf,IntKind.min,IntKind.max,IntKind.signed,IntKind.bits];omega
 rw [hl] at d1 d2 hwf
 go_enter Tryz.func146,Tryz.ntmps146
 go_wp2_with (first | (at_lookup;refine wpList_lookup_own_ok_int _ rfl _ _ 181 rfl 5 3 .i64 lawU Tryz.underlying181 Tryz.underlying3 (zeroI _) w.heap.size 3 _ rfl hown _ _ rfl (keyOf_int_mk Tryz.underlying5 hwf) ?_;intro cc hat hwc) | fail)
 refine hc.mono ?_
 rintro e w' ⟨rfl,hg⟩
 exact ⟨rfl,rfl,hg⟩
set_option maxHeartbeats 1000000 in
theorem clock_fs {w:World}{g:Gh}{h:AH}(hs:SimH w g h) {s:ByteArray}{d n:Int}(hz:s.size≤24) (h0:s.size≠0) (hk:wsuK (lastI s)=none) (hv:spanV s=some n) :
  Calls Tryz.prog 146 #[.string s,.int .i64 d] w fun e w2=>e = .returned (.tuple #[.int .i64 n,.int .i64 d])∧GoodW g h w w2:=by
 obtain ⟨w1,w2,w3,hrun1,hrun2,hrun3,hown,hb3⟩:=kinds_made w
 have hmm := @run_makeMap Tryz.prog
 have hc:=span_some hs hb3 (x:=s) hz hv
 have hl:lastI s=((s[s.size-1]'(by omega)).toNat:Int):=by unfold lastI byteI;rw [byteAt_get (by omega)]
 obtain ⟨d1,d2⟩:=kindD_look (lastI s)
 rw [hk] at d1 d2
 have hwf:(Lit.int .u8 (lastI s)).wf=true:=by have:=byte_bd s (s.size-1);unfold lastI byteI;simp [Lit.wf,IntKind.min,IntKind.max,IntKind.signed,IntKind.bits];omega
 rw [hl] at d1 d2 hwf
 go_enter Tryz.func146,Tryz.ntmps146
 go_wp2_with (first | (at_lookup;refine wpList_lookup_own_ok_int _ rfl _ _ 181 rfl 5 3 .i64 lawU Tryz.underlying181 Tryz.underlying3 (zeroI _) w.heap.size 3 _ rfl hown _ _ rfl (keyOf_int_mk Tryz.underlying5 hwf) ?_;intro cc hat hwc) | fail)
 refine hc.mono ?_
 rintro e w' ⟨rfl,hg⟩
 go_wp2_with fail
 go_ret2
 exact ⟨rfl,hg⟩
set_option maxHeartbeats 1000000 in
theorem clock_fn {w:World}{g:Gh}{h:AH}(hs:SimH w g h) {s:ByteArray}{d:Int}(hz:s.size≤24) (h0:s.size≠0) (hk:wsuK (lastI s)=none) (hv:spanV s=none) :
  Calls Tryz.prog 146 #[.string s,.int .i64 d] w fun e w2=>e=wrP∧GoodW g h w w2:=by
 obtain ⟨w1,w2,w3,hrun1,hrun2,hrun3,hown,hb3⟩:=kinds_made w
 have hmm := @run_makeMap Tryz.prog
 have hc:=span_none hs hb3 (x:=s) hz hv
 have hl:lastI s=((s[s.size-1]'(by omega)).toNat:Int):=by unfold lastI byteI;rw [byteAt_get (by omega)]
 obtain ⟨d1,d2⟩:=kindD_look (lastI s)
 rw [hk] at d1 d2
 have hwf:(Lit.int .u8 (lastI s)).wf=true:=by have:=byte_bd s (s.size-1);unfold lastI byteI;simp [Lit.wf,IntKind.min,IntKind.max,IntKind.signed,IntKind.bits];omega
 rw [hl] at d1 d2 hwf
 go_enter Tryz.func146,Tryz.ntmps146
 go_wp2_with (first | (at_lookup;refine wpList_lookup_own_ok_int _ rfl _ _ 181 rfl 5 3 .i64 lawU Tryz.underlying181 Tryz.underlying3 (zeroI _) w.heap.size 3 _ rfl hown _ _ rfl (keyOf_int_mk Tryz.underlying5 hwf) ?_;intro cc hat hwc) | fail)
 refine hc.mono ?_
 rintro e w' ⟨rfl,hg⟩
 exact ⟨rfl,rfl,hg⟩
theorem sclock_any {s:ByteArray}{d:Int}{h:AH}(hz:s.size≤24):ACalls Tryz.prog 146 [sv s,iv d] h fun x h'=>h'=h∧x=res ((clockV d s).map fun p=>.tup [iv p.1,iv p.2]):=by
  refine ⟨by kernel_rfl,fun w g vs hs ha=>?_⟩
  simp only [RepL,Rep] at ha
  obtain ⟨u1,us1,e1,rfl,u2,us2,rfl,rfl,rfl⟩:=ha
  obtain rfl:vs = #[.string s,.int .i64 d]:=by cases vs;simp_all
  have good : ∀ {e : Ending} {w2 : World} {n k : Int}, e = .returned (.tuple #[.int .i64 n, .int .i64 k]) ∧ GoodW g h w w2 → clockV d s = some (n, k) →
      ∃ x h' g',EndR w2 g' e x∧SimH w2 g' h'∧g.le g'∧Fr w (Ow g h) w2∧(∀ k,Ow g' h' k→Ow g h k∨w.heap.size≤k)∧h'=h∧x=res ((clockV d s).map fun p=>.tup [iv p.1,iv p.2]):=by
    rintro e w2 n k ⟨rfl,g2,q1,q2,q3,q4⟩ hc
    refine ⟨_,h,g2,?_,q1,q2,q3,q4,rfl,rfl⟩
    rw [hc]
    simp only [EndR,res,Option.map_some,Rep,RepL]
    exact ⟨_,rfl,_,_,rfl,rfl,_,_,rfl,rfl,rfl⟩
  have panic : ∀ {e : Ending} {w2 : World}, e = wrP ∧ GoodW g h w w2 → clockV d s = none →
      ∃ x h' g',EndR w2 g' e x∧SimH w2 g' h'∧g.le g'∧Fr w (Ow g h) w2∧(∀ k,Ow g' h' k→Ow g h k∨w.heap.size≤k)∧h'=h∧x=res ((clockV d s).map fun p=>.tup [iv p.1,iv p.2]):=by
    rintro e w2 ⟨rfl,g2,q1,q2,q3,q4⟩ hc
    refine ⟨_,h,g2,?_,q1,q2,q3,q4,rfl,rfl⟩
    rw [hc]
    simp only [EndR,res,Option.map_none,Rep]
    exact ⟨_,rfl,rfl⟩
  by_cases h0:s.size=0
  · have hv:spanV s=none:=by
      cases hv:spanV s with
      | none=>rfl
      | some n=>exact absurd h0 (span_last hv).1
    exact (clock_e (d:=d) hs hz h0 hv).mono fun e w2 hp=>panic hp (by unfold clockV;rw [if_pos h0,hv])
  · cases hk:wsuK (lastI s) with
    | none =>
      cases hv:spanV s with
      | none=>exact (clock_fn (d:=d) hs hz h0 hk hv).mono fun e w2 hp=>panic hp (by unfold clockV;rw [if_neg h0,hk,hv])
      | some n=>exact (clock_fs (d:=d) hs hz h0 hk hv).mono fun e w2 hp=>good hp (by unfold clockV;rw [if_neg h0,hk,hv])
    | some k =>
      cases hv:spanV (s.extract 0 (s.size-1)) with
      | none=>exact (clock_tn (d:=d) hs hz h0 hk hv).mono fun e w2 hp=>panic hp (by unfold clockV;rw [if_neg h0,hk];simp only;rw [hv])
      | some n=>exact (clock_ts (d:=d) hs hz h0 hk hv).mono fun e w2 hp=>good hp (by unfold clockV;rw [if_neg h0,hk];simp only;rw [hv])
end Go.Proofs.YtgjchdhdopgkkaaGreatDoor
end
section
namespace Go.Proofs.YtgjchdhdopgkkaaGreatDoor
open Go.Ab Go.RowKit Civ
attribute [local simp] str_lt
section
theorem SrcRe_rule_4 {τ:Operand→AV}{y0:Operand}{x0_0:AV}(h0:cellsV (τ y0)=some [x0_0]) (l0:[x0_0].all leaf=true):fillAV τ [(0,1,y0)] [(.v (.string ⟨#[]⟩)),(.v (.int .i64 0)),(.v (.int .i64 0)),(.v (.int .i64 0)),(.v (.int .i64 0)),(.v (.int .i64 0)),(.v (.int .i64 0)),(.v (.int .i64 0)),(.v (.int .i64 0)),(.v (.int .i64 0)),(.v (.string ⟨#[]⟩))]=some [x0_0,(.v (.int .i64 0)),(.v (.int .i64 0)),(.v (.int .i64 0)),(.v (.int .i64 0)),(.v (.int .i64 0)),(.v (.int .i64 0)),(.v (.int .i64 0)),(.v (.int .i64 0)),(.v (.int .i64 0)),(.v (.string ⟨#[]⟩))]:=by
 simp only [fillAV,h0,l0]
 rfl
theorem SrcRe_sc0_11 {a0 a1 a2 a3 a4 a5 a6 a7 a8 a9 a10 c0 c1 c2 c3 c4 c5 c6 c7 c8 c9 c10:AV}{l:List AV}:setCells (a0::a1::a2::a3::a4::a5::a6::a7::a8::a9::a10::l) 0 [c0,c1,c2,c3,c4,c5,c6,c7,c8,c9,c10]=c0::c1::c2::c3::c4::c5::c6::c7::c8::c9::c10::l:=rfl
theorem SrcRe_sc1_1 {a0 a1 c0:AV}{l:List AV}:setCells (a0::a1::l) 1 [c0]=a0::c0::l:=rfl
theorem SrcRe_sc2_1 {a0 a1 a2 c0:AV}{l:List AV}:setCells (a0::a1::a2::l) 2 [c0]=a0::a1::c0::l:=rfl
theorem SrcRe_sc3_1 {a0 a1 a2 a3 c0:AV}{l:List AV}:setCells (a0::a1::a2::a3::l) 3 [c0]=a0::a1::a2::c0::l:=rfl
theorem SrcRe_sc4_3 {a0 a1 a2 a3 a4 a5 a6 c0 c1 c2:AV}{l:List AV}:setCells (a0::a1::a2::a3::a4::a5::a6::l) 4 [c0,c1,c2]=a0::a1::a2::a3::c0::c1::c2::l:=rfl
theorem SrcRe_sc7_1 {a0 a1 a2 a3 a4 a5 a6 a7 c0:AV}{l:List AV}:setCells (a0::a1::a2::a3::a4::a5::a6::a7::l) 7 [c0]=a0::a1::a2::a3::a4::a5::a6::c0::l:=rfl
theorem SrcRe_sc8_1 {a0 a1 a2 a3 a4 a5 a6 a7 a8 c0:AV}{l:List AV}:setCells (a0::a1::a2::a3::a4::a5::a6::a7::a8::l) 8 [c0]=a0::a1::a2::a3::a4::a5::a6::a7::c0::l:=rfl
theorem SrcRe_sc9_1 {a0 a1 a2 a3 a4 a5 a6 a7 a8 a9 c0:AV}{l:List AV}:setCells (a0::a1::a2::a3::a4::a5::a6::a7::a8::a9::l) 9 [c0]=a0::a1::a2::a3::a4::a5::a6::a7::a8::c0::l:=rfl
theorem SrcRe_sc10_1 {a0 a1 a2 a3 a4 a5 a6 a7 a8 a9 a10 c0:AV}{l:List AV}:setCells (a0::a1::a2::a3::a4::a5::a6::a7::a8::a9::a10::l) 10 [c0]=a0::a1::a2::a3::a4::a5::a6::a7::a8::a9::c0::l:=rfl
theorem SrcRe_tk0_11 {a0 a1 a2 a3 a4 a5 a6 a7 a8 a9 a10:AV}{l:List AV}:((a0::a1::a2::a3::a4::a5::a6::a7::a8::a9::a10::l).drop 0).take 11=[a0,a1,a2,a3,a4,a5,a6,a7,a8,a9,a10]:=rfl
end
def c114:AC:=(.seq (.reg [Oo 2 (.new 48 11 [Ss,(iv 0),(iv 0),(iv 0),(iv 0),(iv 0),(iv 0),(iv 0),(iv 0),(iv 0),Ss])]) (.seq (.reg [Mv 6 0,Oo 7 (.call (.func 115) [(.tmp 6)]),Oo 8 (.build [Ss,(iv 0),(iv 0),(iv 0),(iv 0),(iv 0),(iv 0),(iv 0),(iv 0),(iv 0),Ss] [(0,(1,(.tmp 7)))]),Oo 3 (.new 48 11 [Ss,(iv 0),(iv 0),(iv 0),(iv 0),(iv 0),(iv 0),(iv 0),(iv 0),(iv 0),Ss]),⟨none,none,(.store 11 (.tmp 3) (.tmp 8))⟩]) (.seq (.reg [Mv 9 0,Oo 10 (.call (.func 112) [(.tmp 9)]),Oo 11 (.call (.func 143) [(.tmp 10),(Ci 4),(Ci 4)]),Fa 12 1 3,⟨none,none,(.store 1 (.tmp 12) (.tmp 11))⟩]) (.seq (.seq (.reg [Mv 13 0,Oo 14 (.call (.func 112) [(.tmp 13)]),Mv 4 14]) (.seq (.reg [Mv 15 4]) (.block 0 (.seq (.reg [Oo 20 (.bin .eql (.tmp 15) (.const (.string ⟨#[111,110,108,121]⟩))),Mv 19 20]) (.cond (.tmp 19) (.reg [Fa 21 1 3,Ld 22 21,Fa 23 2 3,⟨none,none,(.store 1 (.tmp 23) (.tmp 22))⟩]) (.seq (.reg [Oo 25 (.bin .eql (.tmp 15) (.const (.string ⟨#[109,97,120]⟩))),Mv 24 25]) (.cond (.tmp 24) (.reg [Fa 26 2 3,⟨none,none,(.store 1 (.tmp 26) (Ci 2100))⟩]) (.reg [Mv 16 4,Oo 17 (.call (.func 143) [(.tmp 16),(Ci 4),(Ci 4)]),Fa 18 2 3,⟨none,none,(.store 1 (.tmp 18) (.tmp 17))⟩])))))))) (.seq (.reg [Mv 27 0,Oo 28 (.call (.func 144) [(.tmp 27)]),Fa 29 3 3,⟨none,none,(.store 1 (.tmp 29) (.tmp 28))⟩]) (.seq (.reg [Mv 30 0,Oo 31 (.call (.func 145) [(.tmp 30)]),Fa 32 4 3,⟨none,none,(.store 3 (.tmp 32) (.tmp 31))⟩]) (.seq (.reg [Mv 34 0,Oo 35 (.call (.func 112) [(.tmp 34)]),Oo 36 (.call (.func 146) [(.tmp 35),(Ci 1)]),Mv 33 36,Ex 37 33 0,Ex 38 33 1,Fa 39 7 3,⟨none,none,(.store 1 (.tmp 39) (.tmp 37))⟩,Fa 40 8 3,⟨none,none,(.store 1 (.tmp 40) (.tmp 38))⟩]) (.seq (.reg [Mv 41 0,Oo 42 (.call (.func 112) [(.tmp 41)]),Oo 43 (.call (.func 147) [(.tmp 42)]),Fa 44 9 3,⟨none,none,(.store 1 (.tmp 44) (.tmp 43))⟩]) (.seq (.seq (.reg [Mv 45 0,Oo 46 (.call (.func 112) [(.tmp 45)]),Mv 5 46]) (.seq (.reg [Mv 47 5,Oo 48 (.bin .neq (.tmp 47) (.const (.string ⟨#[45]⟩)))]) (.cond (.tmp 48) (.seq (.reg [Mv 49 5,Fa 50 10 3,⟨none,none,(.store 1 (.tmp 50) (.tmp 49))⟩]) (.seq (.reg [Mv 51 5,Oo 52 (.bin .eql (.tmp 51) (.const (.string ⟨#[]⟩))),Mv 53 52,Of 54 53 (.mv (.tmp 5)),Of 55 53 (.call (.func 81) [(.tmp 54)]),Of 56 53 (.un .not (.tmp 55)),Oo 57 (.pick (.tmp 53) (.const (.bool true)) (.tmp 56))]) (.cond (.tmp 57) (.reg [Oo 58 (.call (.func 111) [])]) .skip))) .skip))) (.seq (.reg [Oo 59 (.load true 11 (.tmp 3)),⟨none,none,(.store 11 (.tmp 2) (.tmp 59))⟩]) .ret))))))))))
theorem k114:compF Tryz.prog 114=some ⟨c114,[(.cell 2 true 11)],60⟩:=by kernel_rfl
theorem form_step {β:Type}{k:Frm→RM β}{l l':List ByteArray}{a:Frm}(e:rForm l=some (a,l')):bindR rNext (fun s=>bindR (liftR (formV s)) k) l=k a l':=by
 have:bindR rNext (fun s=>bindR (liftR (formV s)) k)=bindR rForm k:=bindR_assoc.symm
 rw [this];exact bindR_step e
theorem form_fail {β:Type}{k:Frm→RM β}{l:List ByteArray}(e:rForm l=none):bindR rNext (fun s=>bindR (liftR (formV s)) k) l=none:=by
 have:bindR rNext (fun s=>bindR (liftR (formV s)) k)=bindR rForm k:=bindR_assoc.symm
 rw [this];exact bindR_fail e
theorem okL_form {l l':List ByteArray}{k:Frm}(ho:okL l) (e:rForm l=some (k,l')):okL l':=by
 unfold rForm bindR at e
 cases hn:rNext l with
 | none=>rw [hn] at e;cases e
 | some p =>
  rw [hn] at e
  obtain ⟨h1,h2⟩:=okL_next ho hn
  simp only [liftR] at e
  cases hi:formV p.1 with
  | none=>rw [hi] at e;cases e
  | some n=>rw [hi] at e;cases e;exact h2
theorem sform_e {l l':List ByteArray}{k:Frm}{id:Nat}{h:AH}(ho:okL l) (e:rForm l=some (k,l')) (h1:h[id]?=some (rdE l)):ACalls Tryz.prog 145 [.ptr id 0 0] h fun x h'=>x = .ret (frmC k)∧h'=h.set id (rdE l'):=RS.a (p:=(frmC k,l')) (sform_any ho h1) (by rw [e];rfl)
theorem sform_p {l:List ByteArray}{id:Nat}{h:AH}(ho:okL l) (e:rForm l=none) (h1:h[id]?=some (rdE l)):ACalls Tryz.prog 145 [.ptr id 0 0] h fun x h'=>x = .pan wrA ∧ ∃ l',h'=h.set id (rdE l'):=RS.p (sform_any ho h1) (by rw [e];rfl)
theorem sspan_e {s:ByteArray}{n:Int}{h:AH}(hz:s.size≤24) (e:spanV s=some n):ACalls Tryz.prog 147 [sv s] h fun x h'=>h'=h∧x = .ret (iv n):=res_a (sspan_any hz) (by rw [e];rfl)
theorem sspan_p {s:ByteArray}{h:AH}(hz:s.size≤24) (e:spanV s=none):ACalls Tryz.prog 147 [sv s] h fun x h'=>h'=h∧x = .pan wrA:=res_p (sspan_any hz) (by rw [e];rfl)
theorem sclock_e {s:ByteArray}{d:Int}{p:Int×Int}{h:AH}(hz:s.size≤24) (e:clockV d s=some p):ACalls Tryz.prog 146 [sv s,iv d] h fun x h'=>h'=h∧x = .ret (.tup [iv p.1,iv p.2]):=res_a (sclock_any hz) (by rw [e];rfl)
theorem sclock_p {s:ByteArray}{d:Int}{h:AH}(hz:s.size≤24) (e:clockV d s=none):ACalls Tryz.prog 146 [sv s,iv d] h fun x h'=>h'=h∧x = .pan wrA:=res_p (sclock_any hz) (by rw [e];rfl)
def rRule2 (nm:ByteArray) (f t2:Int):RM Rul :=
 bindR rMonth fun m=>bindR (bindR rNext fun s=>liftR (formV s)) fun k =>
  bindR (bindR rNext fun s=>liftR (clockV 1 s)) fun c=>bindR (bindR rNext fun s=>liftR (spanV s)) fun sv=>bindR (bindR rNext fun s=>liftR (letterV s)) fun l=>retR (nm,f,t2,m,k,c.1,c.2,sv,l)
set_option maxHeartbeats 4000000 in
theorem srule_any {l:List ByteArray}{id:Nat}{h:AH}(ho:okL l) (h1:h[id]?=some (rdE l)):ACalls Tryz.prog 114 [.ptr id 0 0] h (RS id h ((rRule l).map fun p=>(.agg (rulC p.1),p.2))):=by
 have hid:id<h.length:=(List.getElem?_eq_some_iff.1 h1).1
 obtain ⟨X,hX⟩ : ∃ X,rRule l=X:=⟨_,rfl⟩
 have hX2:=hX
 unfold rRule at hX2
 simp only [bindR_assoc] at hX2
 refine tJ' k114 fun N hn hlt hlA hbd=>?_
 simp only [tA',AV.bdL,AV.bd,and_true,true_and] at hbd ⊢
 refine aw_heap (h1:=h.set id (rdE l)++[]) (by rw [hx_self h1]) ?_
 refine wr'<|E' (e_new (hl0 (hx_len hn)) ha0) pt2<|sn'<|wr'<|mv' lk0 pt6<|?_
 by_cases hs3 : ∃ p,rName l=some p
 ·obtain ⟨⟨nm,l1⟩,e1⟩:=hs3
  obtain ⟨z1,o1⟩:=okL_name ho e1
  rw [bindR_step e1] at hX2
  refine s_calls (mp1 lk6 mp0) (sname_e ho e1 (hx_at hid)) (hx_set hid) pt7<|V' (v_build (SrcRe_rule_4 (cvl lk7 rfl) rfl)) pt8<|E' (e_new (hl1 (hx_len hn)) ha1) pt3<|E' (e_store lk3 (cvl lk8 rfl) (hga (hx_len hn) rfl) rfl (nb' rfl) rfl SrcRe_sc0_11 (hs1 (hx_len hn))) ptn<|sn'<|wr'<|mv' lk0 pt9<|?_
  by_cases hs8 : ∃ p,rNext l1=some p
  ·obtain ⟨⟨s2,l2⟩,e2⟩:=hs8
   obtain ⟨z2,o2⟩:=okL_next o1 e2
   rw [bindR_step e2] at hX2
   refine s_calls (mp1 lk9 mp0) (rnext_e e2 (hx_at hid)) (hx_set hid) pt10 ?_
   by_cases hs9 : ∃ n,numV s2 4 4=some n
   ·obtain ⟨f,e3⟩:=hs9
    rw [lift_step e3] at hX2
    refine s_callp (mp1 lk10 (mp1 lki (mp1 lki mp0))) (sdig_e z2 (by omega) (by omega) e3) pt11 ?_
    refine V' (v_fap0 lk3) pt12<|E' (e_store lk12 (cvl lk11 rfl) (hga (hx_len hn) rfl) rfl (nb' rfl) rfl SrcRe_sc1_1 (hs1 (hx_len hn))) ptn<|sn'<|?_
    refine w_seqH (ι:=ByteArray×Int×Int×List ByteArray) (fun (x_:ByteArray×Int×Int×List ByteArray)=>match x_ with | ⟨nm,f,yr,l4⟩=>[(4,.any)]++rn' 13 14) (fun (x_:ByteArray×Int×Int×List ByteArray)=>match x_ with | ⟨nm,f,yr,l4⟩=>h.set id (rdE l4)++[.mk 0 48 11 [sv ⟨#[]⟩,iv 0,iv 0,iv 0,iv 0,iv 0,iv 0,iv 0,iv 0,iv 0,sv ⟨#[]⟩],.mk 0 48 11 [sv nm,iv f,iv yr,iv 0,iv 0,iv 0,iv 0,iv 0,iv 0,iv 0,sv ⟨#[]⟩]]) (fun (x_:ByteArray×Int×Int×List ByteArray)=>match x_ with | ⟨nm,f,yr,l4⟩=>okL l4∧rRule2 nm f yr l4=X) ?_ ?_
    ·try simp only [setsT,setsE,z',s',rn',la',ln',Nat.reduceAdd]
     refine wr'<|mv' lk0 pt13<|?_
     by_cases hs13 : ∃ p,rNext l2=some p
     ·obtain ⟨⟨s4,l4⟩,e4⟩:=hs13
      obtain ⟨z4,o4⟩:=okL_next o2 e4
      rw [bindR_step e4] at hX2
      refine s_calls (mp1 lk13 mp0) (rnext_e e4 (hx_at hid)) (hx_set hid) pt14<|mv' lk14 pt4<|sn'<|wr'<|mv' lk4 pt15<|sn'<|w_block<|wr'<|V' (v_eqlS lk15 lks) pt20<|mv' lk20 pt19<|?_
      refine sn' ?_
      refine cd' lk19 (fun hc1=>?_) (fun hc1=>?_)
      ·have e5:toV f s4=some f:=if_pos (show s4=onlyA from hc1)
       refine w_reg<|V' (v_fap0 lk3) pt21<|V' (v_loadp lk21 (hga (hx_len hn) rfl) gt1) pt22<|V' (v_fap0 lk3) pt23<|E' (e_store lk23 (cvl lk22 rfl) (hga (hx_len hn) rfl) rfl (nb' rfl) rfl SrcRe_sc2_1 (hs1 (hx_len hn))) ptn<|s_nil<|n_blk<|n_thn<|?_
       exact cT' (⟨nm,f,f,l4⟩) (by refine ⟨o4,?_⟩;rw [lift_step e5] at hX2;unfold rRule2;simp only [bindR_assoc];exact hX2)
      refine wr'<|V' (v_eqlS lk15 lks) pt25<|mv' lk25 pt24<|sn'<|?_
      refine cd' lk24 (fun hc2=>?_) (fun hc2=>?_)
      ·have e5:toV f s4=some 2100:=by unfold toV;rw [if_neg (show ¬s4=onlyA from hc1),if_pos (show s4=maxA from hc2)]
       refine w_reg<|V' (v_fap0 lk3) pt26<|E' (e_store lk26 (cvl lki rfl) (hga (hx_len hn) rfl) rfl (nb' rfl) rfl SrcRe_sc2_1 (hs1 (hx_len hn))) ptn<|s_nil<|n_blk<|n_thn<|?_
       exact cT' (⟨nm,f,2100,l4⟩) (by refine ⟨o4,?_⟩;rw [lift_step e5] at hX2;unfold rRule2;simp only [bindR_assoc];exact hX2)
      have e5':toV f s4=numV s4 4 4:=by unfold toV;rw [if_neg (show ¬s4=onlyA from hc1),if_neg (show ¬s4=maxA from hc2)]
      refine w_reg<|mv' lk4 pt16<|?_
      by_cases hs27 : ∃ n,numV s4 4 4=some n
      ·obtain ⟨y0,e50⟩:=hs27
       have e5:toV f s4=some y0:=e5'.trans e50
       refine s_callp (mp1 lk16 (mp1 lki (mp1 lki mp0))) (sdig_e z4 (by omega) (by omega) e50) pt17 ?_
       refine V' (v_fap0 lk3) pt18<|E' (e_store lk18 (cvl lk17 rfl) (hga (hx_len hn) rfl) rfl (nb' rfl) rfl SrcRe_sc2_1 (hs1 (hx_len hn))) ptn<|s_nil<|n_blk<|n_thn<|?_
       exact cT' (⟨nm,f,y0,l4⟩) (by refine ⟨o4,?_⟩;rw [lift_step e5] at hX2;unfold rRule2;simp only [bindR_assoc];exact hX2)
      have e50:=no_some hs27
      rw [lift_fail (e5'.trans e50)] at hX2
      refine s_callPan' (mp1 lk16 (mp1 lki (mp1 lki mp0))) (sdig_p z4 (by omega) (by omega) e50) ?_
      refine p_blk<|p_thn<|w_pan<|?_
      exact ⟨_,_,rfl,hx_len hn,hx_lt hlt rdE_ltb,rfl,by rw [hX,←hX2];exact ⟨rfl,_,rfl⟩⟩
     have e4:=no_some hs13
     rw [bindR_fail e4] at hX2
     refine s_callPanX (mp1 lk13 mp0) (rnext_p e4 (hx_at hid)) (fun hP_ hPp_=>?_)
     refine p_thn<|p_thn<|w_pan<|?_
     obtain ⟨l',rfl⟩:=hPp_
     rw [hx_set hid]
     exact ⟨_,_,rfl,hx_len hn,hx_lt hlt rdE_ltb,rfl,by rw [hX,←hX2];exact ⟨rfl,l',rfl⟩⟩
    rintro ⟨nm,f,yr,l4⟩ hq8
    try simp only [setsT,setsE,z',s',rn',la',ln',Nat.reduceAdd]
    clear hX2
    obtain ⟨o4,hX2⟩:=hq8
    unfold rRule2 at hX2
    simp only [bindR_assoc] at hX2
    refine wr'<|mv' lk0 pt27<|?_
    by_cases hs31 : ∃ p,rMonth l4=some p
    ·obtain ⟨⟨m,l6⟩,e6⟩:=hs31
     have o6:=okL_month o4 e6
     rw [bindR_step e6] at hX2
     refine s_calls (mp1 lk27 mp0) (smonth_e e6 (hx_at hid)) (hx_set hid) pt28<|V' (v_fap0 lk3) pt29<|E' (e_store lk29 (cvl lk28 rfl) (hga (hx_len hn) rfl) rfl (nb' rfl) rfl SrcRe_sc3_1 (hs1 (hx_len hn))) ptn<|sn'<|wr'<|mv' lk0 pt30<|?_
     by_cases hs35 : ∃ p,rForm l6=some p
     ·obtain ⟨⟨k,l7⟩,e7⟩:=hs35
      have o7:=okL_form o6 e7
      rw [form_step e7] at hX2
      refine s_calls (mp1 lk30 mp0) (sform_e o6 e7 (hx_at hid)) (hx_set hid) pt31<|V' (v_fap0 lk3) pt32<|E' (e_store lk32 (cvl lk31 rfl) (hga (hx_len hn) rfl) rfl (nb' rfl) rfl SrcRe_sc4_3 (hs1 (hx_len hn))) ptn<|sn'<|wr'<|mv' lk0 pt34<|?_
      by_cases hs39 : ∃ p,rNext l7=some p
      ·obtain ⟨⟨s8,l8⟩,e8⟩:=hs39
       obtain ⟨z8,o8⟩:=okL_next o7 e8
       rw [bindR_step e8] at hX2
       refine s_calls (mp1 lk34 mp0) (rnext_e e8 (hx_at hid)) (hx_set hid) pt35 ?_
       by_cases hs40 : ∃ p,clockV 1 s8=some p
       ·obtain ⟨c,e9⟩:=hs40
        rw [lift_step e9] at hX2
        refine s_callp (mp1 lk35 (mp1 lki mp0)) (sclock_e z8 e9) pt36<|mv' lk36 pt33<|V' (v_ext lk33 gt0) pt37<|V' (v_ext lk33 gt1) pt38<|V' (v_fap0 lk3) pt39<|E' (e_store lk39 (cvl lk37 rfl) (hga (hx_len hn) rfl) rfl (nb' rfl) rfl SrcRe_sc7_1 (hs1 (hx_len hn))) ptn<|V' (v_fap0 lk3) pt40<|E' (e_store lk40 (cvl lk38 rfl) (hga (hx_len hn) rfl) rfl (nb' rfl) rfl SrcRe_sc8_1 (hs1 (hx_len hn))) ptn<|sn'<|wr'<|mv' lk0 pt41<|?_
        by_cases hs49 : ∃ p,rNext l8=some p
        ·obtain ⟨⟨s10,l10⟩,e10⟩:=hs49
         obtain ⟨z10,o10⟩:=okL_next o8 e10
         rw [bindR_step e10] at hX2
         refine s_calls (mp1 lk41 mp0) (rnext_e e10 (hx_at hid)) (hx_set hid) pt42 ?_
         by_cases hs50 : ∃ p,spanV s10=some p
         ·obtain ⟨svd,e11⟩:=hs50
          rw [lift_step e11] at hX2
          refine s_callp (mp1 lk42 mp0) (sspan_e z10 e11) pt43<|V' (v_fap0 lk3) pt44<|E' (e_store lk44 (cvl lk43 rfl) (hga (hx_len hn) rfl) rfl (nb' rfl) rfl SrcRe_sc9_1 (hs1 (hx_len hn))) ptn<|sn'<|w_seq<|wr'<|mv' lk0 pt45<|?_
          by_cases hs54 : ∃ p,rNext l10=some p
          ·obtain ⟨⟨s12,l12⟩,e12⟩:=hs54
           obtain ⟨z12,o12⟩:=okL_next o10 e12
           rw [bindR_step e12] at hX2
           refine s_calls (mp1 lk45 mp0) (rnext_e e12 (hx_at hid)) (hx_set hid) pt46<|mv' lk46 pt5<|sn'<|wr'<|mv' lk5 pt47<|V' (v_neqS lk47 lks) pt48<|sn'<|?_
           refine cd' lk48 (fun hc3=>?_) (fun hc3=>?_)
           ·refine wr'<|mv' lk5 pt49<|V' (v_fap0 lk3) pt50<|E' (e_store lk50 (cvl lk49 rfl) (hga (hx_len hn) rfl) rfl (nb' rfl) rfl SrcRe_sc10_1 (hs1 (hx_len hn))) ptn<|sn'<|wr'<|mv' lk5 pt51<|V' (v_eqlS lk51 lks) pt52<|mv' lk52 pt53<|?_
            refine sp' gt53 pt53 pt53 (fun hg53=>?_) (fun hg53=>?_)
            ·have h9:letterV s12=none:=by unfold letterV letterB;rw [if_neg];simp;intro h;exact absurd hg53 h
             rw [lift_fail h9] at hX2
             refine s_no gt53 pt54<|s_no gt53 pt55<|s_no gt53 pt56<|V' (v_pickT lk53 lkb) pt57<|sn'<|w_condT lk57<|w_reg<|s_callPan' mp0 (sfail_a)<|p_thn<|w_pan<|?_
             exact ⟨_,_,rfl,hx_len hn,hx_lt hlt rdE_ltb,rfl,by rw [hX,←hX2];exact ⟨rfl,_,rfl⟩⟩
            refine s_do gt53<|mv' lk5 pt54<|s_do gt53<|?_
            refine s_callp (mp1 lk54 mp0) (letters_a (by unfold maxLen;omega)) pt55 ?_
            refine s_do gt53<|V' (v_notB lk55) pt56<|V' (v_pickF lk53 lk56) pt57<|sn'<|?_
            refine w_condB lk57 (fun hc4=>?_) (fun hc4=>?_)
            ·have h9:letterV s12=none:=by unfold letterV letterB;rw [if_neg];simp only [Bool.not_eq_true'] at hc4;rw [hc4,decide_eq_false (show ¬s12=bA [45] from hc3)];simp
             rw [lift_fail h9] at hX2
             refine w_reg<|s_callPan' mp0 (sfail_a)<|p_thn<|w_pan<|?_
             exact ⟨_,_,rfl,hx_len hn,hx_lt hlt rdE_ltb,rfl,by rw [hX,←hX2];exact ⟨rfl,_,rfl⟩⟩
            have hlt9:lettersB s12=true:=by simpa using hc4
            have h9:letterV s12=some s12:=by unfold letterV letterB;rw [if_pos (by rw [hlt9,decide_eq_true hg53];simp),if_neg (show ¬s12=bA [45] from hc3)]
            rw [lift_step h9] at hX2
            refine w_skip<|n_seq<|wr'<|V' (v_loadpA lk3 (hga (hx_len hn) rfl) SrcRe_tk0_11 rfl) pt59<|E' (e_store lk2 (cvl lk59 rfl) (hga (hx_len hn) rfl) rfl (nb' rfl) rfl SrcRe_sc0_11 (hs0 (hx_len hn))) ptn<|sn'<|w_rets<|w_ret (rs1 (rr_c gt2 (hga (hx_len hn) rfl) (ld1 SrcRe_tk0_11 rfl)))<|?_
            exact ⟨_,_,rfl,hx_len hn,hx_lt hlt rdE_ltb,rfl,by rw [hX,←hX2];exact ⟨rfl,rfl⟩⟩
           have hc3':s12=bA [45]:=Decidable.of_not_not hc3
           have h9:letterV s12=some ⟨#[]⟩:=by rw [hc3'];rfl
           rw [lift_step h9] at hX2
           refine w_skip<|n_seq<|wr'<|V' (v_loadpA lk3 (hga (hx_len hn) rfl) SrcRe_tk0_11 rfl) pt59<|E' (e_store lk2 (cvl lk59 rfl) (hga (hx_len hn) rfl) rfl (nb' rfl) rfl SrcRe_sc0_11 (hs0 (hx_len hn))) ptn<|sn'<|w_rets<|w_ret (rs1 (rr_c gt2 (hga (hx_len hn) rfl) (ld1 SrcRe_tk0_11 rfl)))<|?_
           exact ⟨_,_,rfl,hx_len hn,hx_lt hlt rdE_ltb,rfl,by rw [hX,←hX2];exact ⟨rfl,rfl⟩⟩
          have e12:=no_some hs54
          rw [bindR_fail e12] at hX2
          refine s_callPanX (mp1 lk45 mp0) (rnext_p e12 (hx_at hid)) (fun hP_ hPp_=>?_)
          refine p_thn<|p_thn<|w_pan<|?_
          obtain ⟨l',rfl⟩:=hPp_
          rw [hx_set hid]
          exact ⟨_,_,rfl,hx_len hn,hx_lt hlt rdE_ltb,rfl,by rw [hX,←hX2];exact ⟨rfl,l',rfl⟩⟩
         have e11:=no_some hs50
         rw [lift_fail e11] at hX2
         refine s_callPan' (mp1 lk42 mp0) (sspan_p z10 e11)<|p_thn<|w_pan<|?_
         exact ⟨_,_,rfl,hx_len hn,hx_lt hlt rdE_ltb,rfl,by rw [hX,←hX2];exact ⟨rfl,_,rfl⟩⟩
        have e10:=no_some hs49
        rw [bindR_fail e10] at hX2
        refine s_callPanX (mp1 lk41 mp0) (rnext_p e10 (hx_at hid)) (fun hP_ hPp_=>?_)
        refine p_thn<|w_pan<|?_
        obtain ⟨l',rfl⟩:=hPp_
        rw [hx_set hid]
        exact ⟨_,_,rfl,hx_len hn,hx_lt hlt rdE_ltb,rfl,by rw [hX,←hX2];exact ⟨rfl,l',rfl⟩⟩
       have e9:=no_some hs40
       rw [lift_fail e9] at hX2
       refine s_callPan' (mp1 lk35 (mp1 lki mp0)) (sclock_p z8 e9)<|p_thn<|w_pan<|?_
       exact ⟨_,_,rfl,hx_len hn,hx_lt hlt rdE_ltb,rfl,by rw [hX,←hX2];exact ⟨rfl,_,rfl⟩⟩
      have e8:=no_some hs39
      rw [bindR_fail e8] at hX2
      refine s_callPanX (mp1 lk34 mp0) (rnext_p e8 (hx_at hid)) (fun hP_ hPp_=>?_)
      refine p_thn<|w_pan<|?_
      obtain ⟨l',rfl⟩:=hPp_
      rw [hx_set hid]
      exact ⟨_,_,rfl,hx_len hn,hx_lt hlt rdE_ltb,rfl,by rw [hX,←hX2];exact ⟨rfl,l',rfl⟩⟩
     have e7:=no_some hs35
     rw [form_fail e7] at hX2
     refine s_callPanX (mp1 lk30 mp0) (sform_p o6 e7 (hx_at hid)) (fun hP_ hPp_=>?_)
     refine p_thn<|w_pan<|?_
     obtain ⟨l',rfl⟩:=hPp_
     rw [hx_set hid]
     exact ⟨_,_,rfl,hx_len hn,hx_lt hlt rdE_ltb,rfl,by rw [hX,←hX2];exact ⟨rfl,l',rfl⟩⟩
    have e6:=no_some hs31
    rw [bindR_fail e6] at hX2
    refine s_callPanX (mp1 lk27 mp0) (smonth_p e6 (hx_at hid)) (fun hP_ hPp_=>?_)
    refine p_thn<|w_pan<|?_
    obtain ⟨l',rfl⟩:=hPp_
    rw [hx_set hid]
    exact ⟨_,_,rfl,hx_len hn,hx_lt hlt rdE_ltb,rfl,by rw [hX,←hX2];exact ⟨rfl,l',rfl⟩⟩
   have e3:=no_some hs9
   rw [lift_fail e3] at hX2
   refine s_callPan' (mp1 lk10 (mp1 lki (mp1 lki mp0))) (sdig_p z2 (by omega) (by omega) e3) ?_
   refine p_thn<|w_pan<|?_
   exact ⟨_,_,rfl,hx_len hn,hx_lt hlt rdE_ltb,rfl,by rw [hX,←hX2];exact ⟨rfl,_,rfl⟩⟩
  have e2:=no_some hs8
  rw [bindR_fail e2] at hX2
  refine s_callPanX (mp1 lk9 mp0) (rnext_p e2 (hx_at hid)) (fun hP_ hPp_=>?_)
  refine p_thn<|w_pan<|?_
  obtain ⟨l',rfl⟩:=hPp_
  rw [hx_set hid]
  exact ⟨_,_,rfl,hx_len hn,hx_lt hlt rdE_ltb,rfl,by rw [hX,←hX2];exact ⟨rfl,l',rfl⟩⟩
 have e1:=no_some hs3
 rw [bindR_fail e1] at hX2
 refine s_callPanX (mp1 lk6 mp0) (sname_p ho e1 (hx_at hid)) (fun hP_ hPp_=>?_)
 refine p_thn<|w_pan<|?_
 obtain ⟨l',rfl⟩:=hPp_
 rw [hx_set hid]
 exact ⟨_,_,rfl,hx_len hn,hx_lt hlt rdE_ltb,rfl,by rw [hX,←hX2];exact ⟨rfl,l',rfl⟩⟩
end Go.Proofs.YtgjchdhdopgkkaaGreatDoor
end
section
namespace Go.Proofs.YtgjchdhdopgkkaaGreatDoor
open Go.Ab Go.RowKit Civ
attribute [local simp] str_lt
section
theorem SrcRf_until_14 {τ:Operand→AV}{y0 y1 y2:Operand}{x0_0 x1_0 x2_0:AV}(h0:cellsV (τ y0)=some [x0_0]) (l0:[x0_0].all leaf=true) (h1:cellsV (τ y1)=some [x1_0]) (l1:[x1_0].all leaf=true) (h2:cellsV (τ y2)=some [x2_0]) (l2:[x2_0].all leaf=true):fillAV τ [(0,1,y0),(1,1,y1),(2,1,y2)] [(.v (.int .i64 0)),(.v (.int .i64 0)),(.v (.int .i64 0))]=some [x0_0,x1_0,x2_0]:=by
 simp only [fillAV,h0,l0,h1,l1,h2,l2]
 rfl
theorem SrcRf_until_15 {τ:Operand→AV}{y0:Operand}{x0_0 x0_1 x0_2:AV}(h0:cellsV (τ y0)=some [x0_0,x0_1,x0_2]) (l0:[x0_0,x0_1,x0_2].all leaf=true):fillAV τ [(0,3,y0)] [(.v (.int .i64 0)),(.v (.int .i64 0)),(.v (.int .i64 0)),(.v (.int .i64 0)),(.v (.int .i64 0))]=some [x0_0,x0_1,x0_2,(.v (.int .i64 0)),(.v (.int .i64 0))]:=by
 simp only [fillAV,h0,l0]
 rfl
theorem SrcRf_sc0_5 {a0 a1 a2 a3 a4 c0 c1 c2 c3 c4:AV}{l:List AV}:setCells (a0::a1::a2::a3::a4::l) 0 [c0,c1,c2,c3,c4]=c0::c1::c2::c3::c4::l:=rfl
theorem SrcRf_sc3_1 {a0 a1 a2 a3 c0:AV}{l:List AV}:setCells (a0::a1::a2::a3::l) 3 [c0]=a0::a1::a2::c0::l:=rfl
theorem SrcRf_sc4_1 {a0 a1 a2 a3 a4 c0:AV}{l:List AV}:setCells (a0::a1::a2::a3::a4::l) 4 [c0]=a0::a1::a2::a3::c0::l:=rfl
theorem SrcRf_tk0_5 {a0 a1 a2 a3 a4:AV}{l:List AV}:((a0::a1::a2::a3::a4::l).drop 0).take 5=[a0,a1,a2,a3,a4]:=rfl
theorem SrcRf_sc2_1 {a0 a1 a2 c0:AV}{l:List AV}:setCells (a0::a1::a2::l) 2 [c0]=a0::a1::c0::l:=rfl
theorem SrcRf_sc1_1 {a0 a1 c0:AV}{l:List AV}:setCells (a0::a1::l) 1 [c0]=a0::c0::l:=rfl
end
def c173:AC:=(.seq (.reg [Mv 5 0,Oo 6 (.call (.func 112) [(.tmp 5)]),Mv 4 6]) (.block 0 (.seq (.reg [Mv 16 4,Oo 17 (.bin .eql (.tmp 16) (.const (.string ⟨#[45]⟩))),Mv 15 17]) (.cond (.tmp 15) .skip (.seq (.reg [Mv 19 4,Oo 20 (.bin .neq (.tmp 19) (.const (.string ⟨#[]⟩))),Mv 21 20,Ot 22 21 (.mv (.tmp 4)),Ot 23 21 (.ix (.tmp 22) (Ci 0)),Ot 24 21 (.call (.func 119) [(.tmp 23)]),Oo 25 (.pick (.tmp 21) (.tmp 24) (.const (.bool false))),Mv 26 25,Ot 27 26 (.mv (.tmp 4)),Ot 28 26 (.bin .neq (.tmp 27) (.const (.string ⟨#[48]⟩))),Oo 29 (.pick (.tmp 26) (.tmp 28) (.const (.bool false))),Mv 18 29]) (.cond (.tmp 18) (.reg [Mv 30 1,Mv 31 4,Oo 32 (.call (.func 147) [(.tmp 31)]),Nk 33 30,Fa 34 2 33,⟨none,none,(.store 1 (.tmp 34) (.tmp 32))⟩]) (.seq (.reg [Mv 7 1,Mv 8 4,Nk 9 7,Fa 10 1 9,⟨none,none,(.store 1 (.tmp 10) (.tmp 8))⟩]) (.seq (.reg [Mv 11 4,Oo 12 (.call (.func 80) [(.tmp 11)]),Oo 13 (.un .not (.tmp 12))]) (.cond (.tmp 13) (.reg [Oo 14 (.call (.func 111) [])]) .skip)))))))))
theorem k173:compF Tryz.prog 173=some ⟨c173,[],35⟩:=by kernel_rfl
def c174:AC:=(.seq (.reg [Oo 2 (.new 62 5 [(iv 0),(iv 0),(iv 0),(iv 0),(iv 0)])]) (.seq (.reg [Mv 6 0,Oo 7 (.call (.func 112) [(.tmp 6)]),Oo 8 (.call (.func 143) [(.tmp 7),(Ci 4),(Ci 4)]),Mv 3 8]) (.seq (.reg [Mv 9 0,Oo 10 (.call (.func 144) [(.tmp 9)]),Mv 4 10]) (.seq (.reg [Mv 11 3,Mv 12 4,Mv 13 0,Oo 14 (.call (.func 112) [(.tmp 13)]),Oo 15 (.call (.func 143) [(.tmp 14),(Ci 1),(Ci 2)]),Oo 16 (.build [(iv 0),(iv 0),(iv 0)] [(0,(1,(.tmp 11))),(1,(1,(.tmp 12))),(2,(1,(.tmp 15)))]),Oo 17 (.build [(iv 0),(iv 0),(iv 0),(iv 0),(iv 0)] [(0,(3,(.tmp 16)))]),Oo 5 (.new 62 5 [(iv 0),(iv 0),(iv 0),(iv 0),(iv 0)]),⟨none,none,(.store 5 (.tmp 5) (.tmp 17))⟩]) (.seq (.reg [Mv 19 0,Oo 20 (.call (.func 112) [(.tmp 19)]),Oo 21 (.call (.func 146) [(.tmp 20),(Ci 2)]),Mv 18 21,Ex 22 18 0,Ex 23 18 1,Fa 24 3 5,⟨none,none,(.store 1 (.tmp 24) (.tmp 22))⟩,Fa 25 4 5,⟨none,none,(.store 1 (.tmp 25) (.tmp 23))⟩]) (.seq (.seq (.reg [Fa 26 4 5,Ld 27 26,Oo 28 (.bin .eql (.tmp 27) (Ci 1))]) (.cond (.tmp 28) (.reg [Oo 29 (.call (.func 111) [])]) .skip)) (.seq (.reg [Oo 30 (.load true 5 (.tmp 5)),⟨none,none,(.store 5 (.tmp 2) (.tmp 30))⟩]) .ret)))))))
theorem k174:compF Tryz.prog 174=some ⟨c174,[(.cell 2 true 5)],31⟩:=by kernel_rfl
def c142:AC:=(.seq (.reg [Oo 2 (.new 64 10 [(iv 0),Ss,(iv 0),Ss,(.v (.bool false)),(iv 0),(iv 0),(iv 0),(iv 0),(iv 0)])]) (.seq (.reg [Mv 7 0,Oo 8 (.call (.func 112) [(.tmp 7)]),Mv 3 8]) (.seq (.reg [Mv 10 3,Oo 11 (.call (.func 172) [(.tmp 10),(.const (.string ⟨#[45]⟩))]),Mv 9 11,Ex 12 9 0,Ex 13 9 1,Mv 4 12,Mv 5 13]) (.seq (.reg [Mv 14 4,Oo 15 (.call (.func 147) [(.tmp 14)]),Oo 16 (.build [(iv 0),Ss,(iv 0),Ss,(.v (.bool false)),(iv 0),(iv 0),(iv 0),(iv 0),(iv 0)] [(0,(1,(.tmp 15)))]),Oo 6 (.new 64 10 [(iv 0),Ss,(iv 0),Ss,(.v (.bool false)),(iv 0),(iv 0),(iv 0),(iv 0),(iv 0)]),⟨none,none,(.store 10 (.tmp 6) (.tmp 16))⟩]) (.seq (.seq (.reg [Mv 17 5]) (.cond (.tmp 17) (.reg [Fa 18 0 6,Ld 19 18,Oo 20 (.un .neg (.tmp 19)),Fa 21 0 6,⟨none,none,(.store 1 (.tmp 21) (.tmp 20))⟩]) .skip)) (.seq (.reg [Mv 22 0,Oo 23 (.call (.func 173) [(.tmp 22),(.tmp 6)])]) (.seq (.reg [Mv 24 0,Oo 25 (.call (.func 112) [(.tmp 24)]),Fa 26 3 6,⟨none,none,(.store 1 (.tmp 26) (.tmp 25))⟩]) (.seq (.seq (.reg [Fa 27 3 6,Ld 28 27,Oo 29 (.call (.func 126) [(.tmp 28)]),Oo 30 (.un .not (.tmp 29))]) (.cond (.tmp 30) (.reg [Oo 31 (.call (.func 111) [])]) .skip)) (.seq (.reg [Mv 32 0,Nk 33 32,Fa 34 0 33,Ld 35 34,Oo 36 (.len false (.tmp 35)),Oo 37 (.bin .eql (.tmp 36) (Ci 0)),Fa 38 4 6,⟨none,none,(.store 1 (.tmp 38) (.tmp 37))⟩]) (.seq (.seq (.reg [Fa 39 4 6,Ld 40 39,Oo 41 (.un .not (.tmp 40))]) (.cond (.tmp 41) (.reg [Mv 42 0,Oo 43 (.call (.func 174) [(.tmp 42)]),Fa 44 5 6,⟨none,none,(.store 5 (.tmp 44) (.tmp 43))⟩]) .skip)) (.seq (.reg [Oo 45 (.load true 10 (.tmp 6)),⟨none,none,(.store 10 (.tmp 2) (.tmp 45))⟩]) .ret)))))))))))
theorem k142:compF Tryz.prog 142=some ⟨c142,[(.cell 2 true 10)],46⟩:=by kernel_rfl
set_option maxHeartbeats 2000000 in
theorem suntil_any {l:List ByteArray}{id:Nat}{h:AH}(ho:okL l) (h1:h[id]?=some (rdE l)):ACalls Tryz.prog 174 [.ptr id 0 0] h (RS id h ((rUntil l).map fun p=>(.agg (untC p.1),p.2))):=by
 have hid:id<h.length:=(List.getElem?_eq_some_iff.1 h1).1
 obtain ⟨X,hX⟩ : ∃ X,rUntil l=X:=⟨_,rfl⟩
 have hX2:=hX
 unfold rUntil at hX2
 simp only [bindR_assoc] at hX2
 refine tJ' k174 fun N hn hlt hlA hbd=>?_
 simp only [tA',AV.bdL,AV.bd,and_true,true_and] at hbd ⊢
 refine aw_heap (h1:=h.set id (rdE l)++[]) (by rw [hx_self h1]) ?_
 refine wr'<|E' (e_new (hl0 (hx_len hn)) ha0) pt2<|sn'<|wr'<|mv' lk0 pt6<|?_
 by_cases hs3 : ∃ p,rNext l=some p
 ·obtain ⟨⟨s1,l1⟩,e3⟩:=hs3
  obtain ⟨z1,o1⟩:=okL_next ho e3
  rw [bindR_step e3] at hX2
  refine s_calls (mp1 lk6 mp0) (rnext_e e3 (hx_at hid)) (hx_set hid) pt7 ?_
  by_cases hs4 : ∃ p,numV s1 4 4=some p
  ·obtain ⟨y,e4⟩:=hs4
   rw [lift_step e4] at hX2
   refine s_callp (mp1 lk7 (mp1 lki (mp1 lki mp0))) (sdig_e z1 (by omega) (by omega) e4) pt8 ?_
   refine mv' lk8 pt3<|sn'<|wr'<|mv' lk0 pt9<|?_
   by_cases hs7 : ∃ p,rMonth l1=some p
   ·obtain ⟨⟨m,l2⟩,e7⟩:=hs7
    have o2:=okL_month o1 e7
    rw [bindR_step e7] at hX2
    refine s_calls (mp1 lk9 mp0) (smonth_e e7 (hx_at hid)) (hx_set hid) pt10<|mv' lk10 pt4<|sn'<|wr'<|mv' lk3 pt11<|mv' lk4 pt12<|mv' lk0 pt13<|?_
    by_cases hs12 : ∃ p,rNext l2=some p
    ·obtain ⟨⟨s3,l3⟩,e12⟩:=hs12
     obtain ⟨z3,o3⟩:=okL_next o2 e12
     rw [bindR_step e12] at hX2
     refine s_calls (mp1 lk13 mp0) (rnext_e e12 (hx_at hid)) (hx_set hid) pt14 ?_
     by_cases hs13 : ∃ p,numV s3 1 2=some p
     ·obtain ⟨d,e13⟩:=hs13
      rw [lift_step e13] at hX2
      refine s_callp (mp1 lk14 (mp1 lki (mp1 lki mp0))) (sdig_e z3 (by omega) (by omega) e13) pt15 ?_
      refine V' (v_build (SrcRf_until_14 (cvl lk11 rfl) rfl (cvl lk12 rfl) rfl (cvl lk15 rfl) rfl)) pt16<|V' (v_build (SrcRf_until_15 (cvl lk16 rfl) rfl)) pt17<|E' (e_new (hl1 (hx_len hn)) ha1) pt5<|E' (e_store lk5 (cvl lk17 rfl) (hga (hx_len hn) rfl) rfl (nb' rfl) rfl SrcRf_sc0_5 (hs1 (hx_len hn))) ptn<|sn'<|wr'<|mv' lk0 pt19<|?_
      by_cases hs19 : ∃ p,rNext l3=some p
      ·obtain ⟨⟨s4,l4⟩,e19⟩:=hs19
       obtain ⟨z4,o4⟩:=okL_next o3 e19
       rw [bindR_step e19] at hX2
       refine s_calls (mp1 lk19 mp0) (rnext_e e19 (hx_at hid)) (hx_set hid) pt20 ?_
       by_cases hs20 : ∃ p,clockV 2 s4=some p
       ·obtain ⟨c,e20⟩:=hs20
        rw [lift_step e20] at hX2
        refine s_callp (mp1 lk20 (mp1 lki mp0)) (sclock_e z4 e20) pt21<|mv' lk21 pt18<|V' (v_ext lk18 gt0) pt22<|V' (v_ext lk18 gt1) pt23<|V' (v_fap0 lk5) pt24<|E' (e_store lk24 (cvl lk22 rfl) (hga (hx_len hn) rfl) rfl (nb' rfl) rfl SrcRf_sc3_1 (hs1 (hx_len hn))) ptn<|V' (v_fap0 lk5) pt25<|E' (e_store lk25 (cvl lk23 rfl) (hga (hx_len hn) rfl) rfl (nb' rfl) rfl SrcRf_sc4_1 (hs1 (hx_len hn))) ptn<|sn'<|w_seq<|wr'<|V' (v_fap0 lk5) pt26<|?_
        refine V' (v_loadp lk26 (hga (hx_len hn) rfl) gt4) pt27<|V' (v_eql lk27 lki) pt28<|sn'<|?_
        refine cd' lk28 (fun hc1=>?_) (fun hc1=>?_)
        ·rw [lift_fail (if_pos hc1)] at hX2
         refine w_reg<|s_callPan' mp0 (sfail_a)<|p_thn<|w_pan<|?_
         exact ⟨_,_,rfl,hx_len hn,hx_lt hlt rdE_ltb,rfl,by rw [hX,←hX2];exact ⟨rfl,_,rfl⟩⟩
        rw [lift_step (if_neg hc1)] at hX2
        refine w_skip<|n_seq<|wr'<|V' (v_loadpA lk5 (hga (hx_len hn) rfl) SrcRf_tk0_5 rfl) pt30<|E' (e_store lk2 (cvl lk30 rfl) (hga (hx_len hn) rfl) rfl (nb' rfl) rfl SrcRf_sc0_5 (hs0 (hx_len hn))) ptn<|sn'<|w_rets<|w_ret (rs1 (rr_c gt2 (hga (hx_len hn) rfl) (ld1 SrcRf_tk0_5 rfl)))<|?_
        exact ⟨_,_,rfl,hx_len hn,hx_lt hlt rdE_ltb,rfl,by rw [hX,←hX2];exact ⟨rfl,rfl⟩⟩
       have e20:=no_some hs20
       rw [lift_fail e20] at hX2
       refine s_callPan' (mp1 lk20 (mp1 lki mp0)) (sclock_p z4 e20)<|p_thn<|w_pan<|?_
       exact ⟨_,_,rfl,hx_len hn,hx_lt hlt rdE_ltb,rfl,by rw [hX,←hX2];exact ⟨rfl,_,rfl⟩⟩
      have e19:=no_some hs19
      rw [bindR_fail e19] at hX2
      refine s_callPanX (mp1 lk19 mp0) (rnext_p e19 (hx_at hid)) (fun hP_ hPp_=>?_)
      refine p_thn<|w_pan<|?_
      obtain ⟨l',rfl⟩:=hPp_
      rw [hx_set hid]
      exact ⟨_,_,rfl,hx_len hn,hx_lt hlt rdE_ltb,rfl,by rw [hX,←hX2];exact ⟨rfl,l',rfl⟩⟩
     have e13:=no_some hs13
     rw [lift_fail e13] at hX2
     refine s_callPan' (mp1 lk14 (mp1 lki (mp1 lki mp0))) (sdig_p z3 (by omega) (by omega) e13) ?_
     refine p_thn<|w_pan<|?_
     exact ⟨_,_,rfl,hx_len hn,hx_lt hlt rdE_ltb,rfl,by rw [hX,←hX2];exact ⟨rfl,_,rfl⟩⟩
    have e12:=no_some hs12
    rw [bindR_fail e12] at hX2
    refine s_callPanX (mp1 lk13 mp0) (rnext_p e12 (hx_at hid)) (fun hP_ hPp_=>?_)
    refine p_thn<|w_pan<|?_
    obtain ⟨l',rfl⟩:=hPp_
    rw [hx_set hid]
    exact ⟨_,_,rfl,hx_len hn,hx_lt hlt rdE_ltb,rfl,by rw [hX,←hX2];exact ⟨rfl,l',rfl⟩⟩
   have e7:=no_some hs7
   rw [bindR_fail e7] at hX2
   refine s_callPanX (mp1 lk9 mp0) (smonth_p e7 (hx_at hid)) (fun hP_ hPp_=>?_)
   refine p_thn<|w_pan<|?_
   obtain ⟨l',rfl⟩:=hPp_
   rw [hx_set hid]
   exact ⟨_,_,rfl,hx_len hn,hx_lt hlt rdE_ltb,rfl,by rw [hX,←hX2];exact ⟨rfl,l',rfl⟩⟩
  have e4:=no_some hs4
  rw [lift_fail e4] at hX2
  refine s_callPan' (mp1 lk7 (mp1 lki (mp1 lki mp0))) (sdig_p z1 (by omega) (by omega) e4) ?_
  refine p_thn<|w_pan<|?_
  exact ⟨_,_,rfl,hx_len hn,hx_lt hlt rdE_ltb,rfl,by rw [hX,←hX2];exact ⟨rfl,_,rfl⟩⟩
 have e3:=no_some hs3
 rw [bindR_fail e3] at hX2
 refine s_callPanX (mp1 lk6 mp0) (rnext_p e3 (hx_at hid)) (fun hP_ hPp_=>?_)
 refine p_thn<|w_pan<|?_
 obtain ⟨l',rfl⟩:=hPp_
 rw [hx_set hid]
 exact ⟨_,_,rfl,hx_len hn,hx_lt hlt rdE_ltb,rfl,by rw [hX,←hX2];exact ⟨rfl,l',rfl⟩⟩
theorem suntil_e {l l':List ByteArray}{u:Unt}{id:Nat}{h:AH}(ho:okL l) (e:rUntil l=some (u,l')) (h1:h[id]?=some (rdE l)):ACalls Tryz.prog 174 [.ptr id 0 0] h fun x h'=>x = .ret (.agg (untC u))∧h'=h.set id (rdE l'):=RS.a (p:=(.agg (untC u),l')) (suntil_any ho h1) (by rw [e];rfl)
theorem suntil_p {l:List ByteArray}{id:Nat}{h:AH}(ho:okL l) (e:rUntil l=none) (h1:h[id]?=some (rdE l)):ACalls Tryz.prog 174 [.ptr id 0 0] h fun x h'=>x = .pan wrA ∧ ∃ l',h'=h.set id (rdE l'):=RS.p (suntil_any ho h1) (by rw [e];rfl)
theorem spanV_bd {s:ByteArray}{n:Int}(h:spanV s=some n):0≤n∧n<1000000000:=by
 have hS:=agr_at (agr_span s) []
 rw [h] at hS
 have:=tSpan_bd (s:=s) (t:=([],false))
 rw [show tSpan s ([],false)=(n,[],false) from hS] at this
 exact this
abbrev eraR (sh:Int) (r:ByteArray) (a:Int):Ent:=.mk 0 64 10 [iv sh,sv r,iv a,sv ⟨#[]⟩,bv false,iv 0,iv 0,iv 0,iv 0,iv 0]
def rRules:RM (Int×ByteArray):=bindR rNext fun s=>liftR (rulesV s)
def RU (ir ie:Nat) (h:AH) (sh:Int) (o:Option ((Int×ByteArray)×List ByteArray)) (x:AE) (h':AH):Prop:=match o with
 | none=>x = .pan wrA ∧ ∃ l' r,h'=(h.set ir (rdE l')).set ie (eraR sh r 0)
 | some p=>x = .ret (.tup [])∧h'=(h.set ir (rdE p.2)).set ie (eraR sh p.1.2 p.1.1)
set_option maxHeartbeats 1000000 in
theorem srules_any {l:List ByteArray}{sh:Int}{ir ie:Nat}{h:AH}(ho:okL l) (h1:h[ir]?=some (rdE l)) (h2:h[ie]?=some (eraR sh ⟨#[]⟩ 0)) (hne:ir≠ie):ACalls Tryz.prog 173 [.ptr ir 0 0,.ptr ie 0 0] h (RU ir ie h sh (rRules l)):=by
  have hir:ir<h.length:=(List.getElem?_eq_some_iff.1 h1).1
  have hie:ie<h.length:=(List.getElem?_eq_some_iff.1 h2).1
  refine tJ' k173 fun N hn hlt hlA hbd=>?_
  simp only [tA',AV.bdL,AV.bd,and_true,true_and] at hbd ⊢
  refine aw_heap (h1:=(h.set ir (rdE l)).set ie (eraR sh ⟨#[]⟩ 0)++[]) (by rw [hx2_self h1 h2,List.append_nil]) ?_
  refine wr'<|mv' lk0 pt5<|?_
  by_cases hs2 : ∃ p,rNext l=some p
  · obtain ⟨⟨s,l1⟩,e1⟩:=hs2
    obtain ⟨hz,o1⟩:=okL_next ho e1
    have hem:=emp_size (f:=s)
    have hF:rRules l=liftR (rulesV s) l1:=bindR_step e1
    refine s_calls (mp1 lk5 mp0) (rnext_e e1 (hx2_at1 hne hir)) (hx2_set1 hne hir) pt6<|mv' lk6 pt4<|sn'<|w_block<|wr'<|mv' lk4 pt16<|V' (v_eqlS lk16 lks) pt17<|mv' lk17 pt15<|sn'<|?_
    refine cd' lk15 (fun hc1=>?_) (fun hc1=>?_)
    · have hV:rulesV s=some (0,⟨#[]⟩):=if_pos (show s=bA [45] from hc1)
      refine w_skip<|n_blk<|w_end (rs0)<|?_
      exact ⟨_,_,rfl,hx2_len hn,hx2_lt hlt rdE_ltb rfl,rfl,by rw [hF,hV];exact ⟨rfl,rfl⟩⟩
    have hV0 : rulesV s = if s.size ≠ 0 ∧ digB (headI s) = true ∧ s ≠ bA [48] then (match spanV s with
        | some n=>some (n,⟨#[]⟩)
        | none=>none) else if nameB s=true then some (0,s) else none:=if_neg (show ¬s=bA [45] from hc1)
    refine wr'<|mv' lk4 pt19<|V' (v_neqS lk19 lks) pt20<|mv' lk20 pt21<|?_
    refine sp' gt21 pt21 pt21 (fun hg21=>?_) (fun hg21=>?_)
    · have hn0:s.size≠0:=fun e=>hg21 (hem.2 e)
      refine s_do gt21<|mv' lk4 pt22<|s_do gt21<|?_
      refine V' (v_ix lk22 lki (by omega) (by omega)) pt23 ?_
      refine s_do gt21<|s_callp (mp1 lk23 mp0) (digit_a) pt24<|V' (v_pickT lk21 lk24) pt25<|mv' lk25 pt26<|?_
      refine s_splitB gt26 pt26 pt26 (fun hg26=>?_) (fun hg26=>?_)
      · refine s_do gt26<|mv' lk4 pt27<|s_do gt26<|V' (v_neqS lk27 lks) pt28<|V' (v_pickT lk26 lk28) pt29<|mv' lk29 pt18<|sn'<|?_
        refine cd' lk18 (fun hc2=>?_) (fun hc2=>?_)
        · rw [if_pos ⟨hn0,hg26,hc2⟩] at hV0
          refine w_reg<|mv' lk1 pt30<|mv' lk4 pt31<|?_
          by_cases hs21 : ∃ n,spanV s=some n
          · obtain ⟨n,e2⟩:=hs21
            rw [e2] at hV0
            have hV:=hV0
            refine s_callp (mp1 lk31 mp0) (sspan_e hz e2) pt32<|V' (v_nckp lk30) pt33<|V' (v_fap0 lk33) pt34<|E' (e_store lk34 (cvl lk32 rfl) (hx2_at2 hie) rfl (nb' rfl) rfl SrcRf_sc2_1 (hx2_set2 hie)) ptn<|s_nil<|n_blk<|w_end (rs0)<|?_
            exact ⟨_,_,rfl,hx2_len hn,hx2_lt hlt rdE_ltb rfl,rfl,by rw [hF,hV];exact ⟨rfl,rfl⟩⟩
          have e2:=no_some hs21
          rw [e2] at hV0
          have hN:rRules l=none:=by rw [hF,hV0];rfl
          refine s_callPan' (mp1 lk31 mp0) (sspan_p hz e2)<|p_blk<|w_pan<|?_
          exact ⟨_,_,rfl,hx2_len hn,hx2_lt hlt rdE_ltb rfl,rfl,by rw [hN];exact ⟨rfl,l1,_,rfl⟩⟩
        have hq:¬(s.size≠0∧digB (headI s)=true∧s≠bA [48]):=fun e=>e.2.2 (Decidable.of_not_not hc2)
        rw [if_neg hq] at hV0
        refine wr'<|mv' lk1 pt7<|mv' lk4 pt8<|V' (v_nckp lk7) pt9<|V' (v_fap0 lk9) pt10<|E' (e_store lk10 (cvl lk8 rfl) (hx2_at2 hie) rfl (nb' rfl) rfl SrcRf_sc1_1 (hx2_set2 hie)) ptn<|sn'<|wr'<|mv' lk4 pt11<|?_
        refine s_callp (mp1 lk11 mp0) (name_a (by unfold maxLen;omega)) pt12 ?_
        refine V' (v_notB lk12) pt13<|sn'<|?_
        refine w_condB lk13 (fun hc3=>?_) (fun hc3=>?_)
        · rw [if_neg (show ¬nameB s=true by simpa using hc3)] at hV0
          have hN:rRules l=none:=by rw [hF,hV0];rfl
          refine w_reg<|s_callPan' mp0 (sfail_a)<|p_blk<|w_pan<|?_
          exact ⟨_,_,rfl,hx2_len hn,hx2_lt hlt rdE_ltb rfl,rfl,by rw [hN];exact ⟨rfl,l1,_,rfl⟩⟩
        rw [if_pos (show nameB s=true by simpa using hc3)] at hV0
        have hV:=hV0
        refine w_skip<|n_blk<|w_end (rs0)<|?_
        exact ⟨_,_,rfl,hx2_len hn,hx2_lt hlt rdE_ltb rfl,rfl,by rw [hF,hV];exact ⟨rfl,rfl⟩⟩
      have hq:¬(s.size≠0∧digB (headI s)=true∧s≠bA [48]):=fun e=>by have:=e.2.1;rw [show digB (headI s)=false from hg26] at this;cases this
      rw [if_neg hq] at hV0
      refine s_no gt26 pt27<|s_no gt26 pt28<|V' (v_pickF lk26 lkb) pt29<|mv' lk29 pt18<|sn'<|w_condF lk18<|wr'<|mv' lk1 pt7<|mv' lk4 pt8<|V' (v_nckp lk7) pt9<|V' (v_fap0 lk9) pt10<|E' (e_store lk10 (cvl lk8 rfl) (hx2_at2 hie) rfl (nb' rfl) rfl SrcRf_sc1_1 (hx2_set2 hie)) ptn<|?_
      refine sn'<|wr'<|mv' lk4 pt11<|?_
      refine s_callp (mp1 lk11 mp0) (name_a (by unfold maxLen;omega)) pt12 ?_
      refine V' (v_notB lk12) pt13<|sn'<|?_
      refine w_condB lk13 (fun hc3=>?_) (fun hc3=>?_)
      · rw [if_neg (show ¬nameB s=true by simpa using hc3)] at hV0
        have hN:rRules l=none:=by rw [hF,hV0];rfl
        refine w_reg<|s_callPan' mp0 (sfail_a)<|p_blk<|w_pan<|?_
        exact ⟨_,_,rfl,hx2_len hn,hx2_lt hlt rdE_ltb rfl,rfl,by rw [hN];exact ⟨rfl,l1,_,rfl⟩⟩
      rw [if_pos (show nameB s=true by simpa using hc3)] at hV0
      have hV:=hV0
      refine w_skip<|n_blk<|w_end (rs0)<|?_
      exact ⟨_,_,rfl,hx2_len hn,hx2_lt hlt rdE_ltb rfl,rfl,by rw [hF,hV];exact ⟨rfl,rfl⟩⟩
    have hq:¬(s.size≠0∧digB (headI s)=true∧s≠bA [48]):=fun e=>e.1 (hem.1 (Decidable.of_not_not hg21))
    rw [if_neg hq] at hV0
    refine s_no gt21 pt22<|s_no gt21 pt23<|s_no gt21 pt24<|V' (v_pickF lk21 lkb) pt25<|mv' lk25 pt26<|s_no gt26 pt27<|s_no gt26 pt28<|V' (v_pickF lk26 lkb) pt29<|mv' lk29 pt18<|sn'<|w_condF lk18<|wr'<|?_
    refine mv' lk1 pt7<|mv' lk4 pt8<|V' (v_nckp lk7) pt9<|V' (v_fap0 lk9) pt10<|E' (e_store lk10 (cvl lk8 rfl) (hx2_at2 hie) rfl (nb' rfl) rfl SrcRf_sc1_1 (hx2_set2 hie)) ptn<|sn'<|wr'<|mv' lk4 pt11<|?_
    refine s_callp (mp1 lk11 mp0) (name_a (by unfold maxLen;omega)) pt12 ?_
    refine V' (v_notB lk12) pt13<|sn'<|?_
    refine w_condB lk13 (fun hc3=>?_) (fun hc3=>?_)
    · rw [if_neg (show ¬nameB s=true by simpa using hc3)] at hV0
      have hN:rRules l=none:=by rw [hF,hV0];rfl
      refine w_reg<|s_callPan' mp0 (sfail_a)<|p_blk<|w_pan<|?_
      exact ⟨_,_,rfl,hx2_len hn,hx2_lt hlt rdE_ltb rfl,rfl,by rw [hN];exact ⟨rfl,l1,_,rfl⟩⟩
    rw [if_pos (show nameB s=true by simpa using hc3)] at hV0
    have hV:=hV0
    refine w_skip<|n_blk<|w_end (rs0)<|?_
    exact ⟨_,_,rfl,hx2_len hn,hx2_lt hlt rdE_ltb rfl,rfl,by rw [hF,hV];exact ⟨rfl,rfl⟩⟩
  have e1:=no_some hs2
  have hN:rRules l=none:=bindR_fail e1
  refine s_callPanX (mp1 lk5 mp0) (rnext_p e1 (hx2_at1 hne hir)) (fun hP_ hPp_=>?_)
  refine p_thn<|w_pan<|?_
  obtain ⟨l',rfl⟩:=hPp_
  rw [hx2_set1 hne hir]
  exact ⟨_,_,rfl,hx2_len hn,hx2_lt hlt rdE_ltb rfl,rfl,by rw [hN];exact ⟨rfl,l',_,rfl⟩⟩
end Go.Proofs.YtgjchdhdopgkkaaGreatDoor
end
section
namespace Go.Proofs.YtgjchdhdopgkkaaGreatDoor
open Go.Ab Go.RowKit Civ
attribute [local simp] str_lt
section
theorem SrcRg_era_14 {τ:Operand→AV}{y0:Operand}{x0_0:AV}(h0:cellsV (τ y0)=some [x0_0]) (l0:[x0_0].all leaf=true):fillAV τ [(0,1,y0)] [(.v (.int .i64 0)),(.v (.string ⟨#[]⟩)),(.v (.int .i64 0)),(.v (.string ⟨#[]⟩)),(.v (.bool false)),(.v (.int .i64 0)),(.v (.int .i64 0)),(.v (.int .i64 0)),(.v (.int .i64 0)),(.v (.int .i64 0))]=some [x0_0,(.v (.string ⟨#[]⟩)),(.v (.int .i64 0)),(.v (.string ⟨#[]⟩)),(.v (.bool false)),(.v (.int .i64 0)),(.v (.int .i64 0)),(.v (.int .i64 0)),(.v (.int .i64 0)),(.v (.int .i64 0))]:=by
 simp only [fillAV,h0,l0]
 rfl
theorem SrcRg_sc0_10 {a0 a1 a2 a3 a4 a5 a6 a7 a8 a9 c0 c1 c2 c3 c4 c5 c6 c7 c8 c9:AV}{l:List AV}:setCells (a0::a1::a2::a3::a4::a5::a6::a7::a8::a9::l) 0 [c0,c1,c2,c3,c4,c5,c6,c7,c8,c9]=c0::c1::c2::c3::c4::c5::c6::c7::c8::c9::l:=rfl
theorem SrcRg_sc0_1 {a0 c0:AV}{l:List AV}:setCells (a0::l) 0 [c0]=c0::l:=rfl
theorem SrcRg_sc3_1 {a0 a1 a2 a3 c0:AV}{l:List AV}:setCells (a0::a1::a2::a3::l) 3 [c0]=a0::a1::a2::c0::l:=rfl
theorem SrcRg_sc4_1 {a0 a1 a2 a3 a4 c0:AV}{l:List AV}:setCells (a0::a1::a2::a3::a4::l) 4 [c0]=a0::a1::a2::a3::c0::l:=rfl
theorem SrcRg_tk0_10 {a0 a1 a2 a3 a4 a5 a6 a7 a8 a9:AV}{l:List AV}:((a0::a1::a2::a3::a4::a5::a6::a7::a8::a9::l).drop 0).take 10=[a0,a1,a2,a3,a4,a5,a6,a7,a8,a9]:=rfl
theorem SrcRg_sc5_5 {a0 a1 a2 a3 a4 a5 a6 a7 a8 a9 c0 c1 c2 c3 c4:AV}{l:List AV}:setCells (a0::a1::a2::a3::a4::a5::a6::a7::a8::a9::l) 5 [c0,c1,c2,c3,c4]=a0::a1::a2::a3::a4::c0::c1::c2::c3::c4::l:=rfl
end
theorem rules_step {β:Type}{k:Int×ByteArray→RM β}{l l':List ByteArray}{a:Int×ByteArray}(e:rRules l=some (a,l')):bindR rNext (fun s=>bindR (liftR (rulesV s)) k) l=k a l':=by
 have:bindR rNext (fun s=>bindR (liftR (rulesV s)) k)=bindR rRules k:=bindR_assoc.symm
 rw [this];exact bindR_step e
theorem rules_fail {β:Type}{k:Int×ByteArray→RM β}{l:List ByteArray}(e:rRules l=none):bindR rNext (fun s=>bindR (liftR (rulesV s)) k) l=none:=by
 have:bindR rNext (fun s=>bindR (liftR (rulesV s)) k)=bindR rRules k:=bindR_assoc.symm
 rw [this];exact bindR_fail e
theorem okL_rules {l l':List ByteArray}{k:Int×ByteArray}(ho:okL l) (e:rRules l=some (k,l')):okL l':=by
 unfold rRules bindR at e
 cases hn:rNext l with
 | none=>rw [hn] at e;cases e
 | some p =>
  rw [hn] at e
  obtain ⟨h1,h2⟩:=okL_next ho hn
  simp only [liftR] at e
  cases hi:rulesV p.1 with
  | none=>rw [hi] at e;cases e
  | some n=>rw [hi] at e;cases e;exact h2
theorem srules_e {l l':List ByteArray}{sh:Int}{p:Int×ByteArray}{ir ie:Nat}{h:AH}(ho:okL l) (e:rRules l=some (p,l')) (h1:h[ir]?=some (rdE l)) (h2:h[ie]?=some (eraR sh ⟨#[]⟩ 0)) (hne:ir≠ie):ACalls Tryz.prog 173 [.ptr ir 0 0,.ptr ie 0 0] h fun x h'=>x = .ret (.tup [])∧h'=(h.set ir (rdE l')).set ie (eraR sh p.2 p.1):=by
 have:=srules_any ho h1 h2 hne
 rw [e] at this
 exact this
theorem srules_p {l:List ByteArray}{sh:Int}{ir ie:Nat}{h:AH}(ho:okL l) (e:rRules l=none) (h1:h[ir]?=some (rdE l)) (h2:h[ie]?=some (eraR sh ⟨#[]⟩ 0)) (hne:ir≠ie):ACalls Tryz.prog 173 [.ptr ir 0 0,.ptr ie 0 0] h fun x h'=>x = .pan wrA ∧ ∃ l' r,h'=(h.set ir (rdE l')).set ie (eraR sh r 0):=by
 have:=srules_any ho h1 h2 hne
 rw [e] at this
 exact this
def minA (s:ByteArray):ByteArray:=bA (Lib.trimPrefix (aB s) [45])
theorem minA_size {s:ByteArray}:(minA s).size≤s.size:=by
 unfold minA Lib.trimPrefix
 rw [bA_size]
 split
 ·rw [List.length_drop,aB_len];omega
 rw [aB_len];exact Nat.le_refl _
theorem shift_pre {s:ByteArray}:shiftV s=if Lib.hasPrefix (aB s) [45]=true then (match spanV (minA s) with
  | some n=>some (-n)
  | none=>none) else spanV (minA s):=by
 unfold shiftV minA Lib.trimPrefix
 cases hs:aB s with
 | nil =>
  have h0:s.size=0:=by rw [←aB_len,hs];rfl
  rw [if_neg (fun e=>e.1 h0),if_neg (by simp [Lib.hasPrefix]),if_neg (by simp [Lib.hasPrefix]),←hs,bA_aB]
 | cons c l =>
  have h0:0<s.size:=by rw [←aB_len,hs];simp
  have hh:headI s=(c.toNat:Int):=by
   have:=aB_at h0
   rw [List.drop_zero,hs] at this
   simp only [List.cons.injEq] at this
   unfold headI byteI;rw [←this.1]
  by_cases hc:c=45
  ·subst hc
   rw [if_pos ⟨by omega,hh⟩,if_pos (by simp [Lib.hasPrefix,List.isPrefixOf]),if_pos (by simp [Lib.hasPrefix,List.isPrefixOf])]
   rw [bA_ext,hs]
   rw [show ((45::l:Bs).drop 1).take (s.size-1)=(45::l:Bs).drop [45].length from List.take_of_length_le (by rw [List.length_drop,←aB_len,hs];exact Nat.le_refl _)]
   cases spanV (bA (List.drop [45].length (45::l))) <;> rfl
  have hc2:¬headI s=45:=fun e=>hc (UInt8.toNat_inj.1 (by rw [hh] at e;have:((45:UInt8).toNat:Int)=45:=rfl;omega))
  have hp:Lib.hasPrefix (c::l) [45]=false:=by simp [Lib.hasPrefix,List.isPrefixOf];exact fun e=>hc e.symm
  rw [if_neg (fun e=>hc2 e.2),hp,if_neg (by simp),if_neg (by simp),←hs,bA_aB]
theorem cutMin_a {s:ByteArray}{h:AH}:ACalls Tryz.prog 172 [sv s,sv (bA [45])] h fun x h'=>h'=h∧x = .ret (.tup [sv (minA s),bv (Lib.hasPrefix (aB s) [45])]):=cutPrefix_a
set_option maxHeartbeats 4000000 in
theorem sera_any {l:List ByteArray}{id:Nat}{h:AH}(ho:okL l) (h1:h[id]?=some (rdE l)):ACalls Tryz.prog 142 [.ptr id 0 0] h (RS id h ((rEra l).map fun p=>(.agg (eraC p.1),p.2))):=by
 have hid:id<h.length:=(List.getElem?_eq_some_iff.1 h1).1
 obtain ⟨X,hX⟩ : ∃ X,rEra l=X:=⟨_,rfl⟩
 have hX2:=hX
 unfold rEra at hX2
 simp only [bindR_assoc] at hX2
 refine tJ' k142 fun N hn hlt hlA hbd=>?_
 simp only [tA',AV.bdL,AV.bd,and_true,true_and] at hbd ⊢
 refine aw_heap (h1:=h.set id (rdE l)++[]) (by rw [hx_self h1]) ?_
 refine wr'<|E' (e_new (hl0 (hx_len hn)) ha0) pt2<|sn'<|wr'<|mv' lk0 pt7<|?_
 by_cases hs3 : ∃ p,rNext l=some p
 ·obtain ⟨⟨s,l1⟩,e3⟩:=hs3
  obtain ⟨hz,o1⟩:=okL_next ho e3
  rw [bindR_step e3] at hX2
  refine s_calls (mp1 lk7 mp0) (rnext_e e3 (hx_at hid)) (hx_set hid) pt8<|mv' lk8 pt3<|sn'<|wr'<|mv' lk3 pt10<|s_callp (mp1 lk10 (mp1 lks mp0)) (cutMin_a) pt11<|?_
  have hsp:=shift_pre (s:=s)
  have hmz:=minA_size (s:=s)
  refine mv' lk11 pt9<|V' (v_ext lk9 gt0) pt12<|V' (v_ext lk9 gt1) pt13<|mv' lk12 pt4<|mv' lk13 pt5<|sn'<|wr'<|mv' lk4 pt14<|?_
  by_cases hs13 : ∃ n,spanV (minA s)=some n
  ·obtain ⟨n,e13⟩:=hs13
   have hnb:=spanV_bd e13
   rw [e13] at hsp
   refine s_callp (mp1 lk14 mp0) (sspan_e (by omega) e13) pt15 ?_
   refine V' (v_build (SrcRg_era_14 (cvl lk15 rfl) rfl)) pt16<|E' (e_new (hl1 (hx_len hn)) ha1) pt6<|E' (e_store lk6 (cvl lk16 rfl) (hga (hx_len hn) rfl) rfl (nb' rfl) rfl SrcRg_sc0_10 (hs1 (hx_len hn))) ptn<|sn'<|w_seq<|wr'<|mv' lk5 pt17<|sn'<|?_
   refine w_condB lk17 (fun hc1=>?_) (fun hc1=>?_)
   ·have hV:shiftV s=some (-n):=by rw [hsp];exact if_pos hc1
    rw [lift_step hV] at hX2
    refine w_reg<|V' (v_fap0 lk6) pt18<|V' (v_loadp lk18 (hga (hx_len hn) rfl) gt0) pt19<|?_
    refine V' (v_neg lk19 (by omega) (by omega)) pt20 ?_
    refine V' (v_fap0 lk6) pt21<|E' (e_store lk21 (cvl lk20 rfl) (hga (hx_len hn) rfl) rfl (nb' rfl) rfl SrcRg_sc0_1 (hs1 (hx_len hn))) ptn<|sn'<|wr'<|mv' lk0 pt22<|?_
    by_cases hs24 : ∃ p,rRules l1=some p
    ·obtain ⟨⟨⟨sa,rl⟩,l2⟩,e24⟩:=hs24
     have o2:=okL_rules o1 e24
     rw [rules_step e24] at hX2
     refine s_callh (mp1 lk22 (mp1 lk6 mp0)) (ACalls.mono (srules_e o1 e24 (hx_at hid) (hga (hx_len hn) rfl) (by omega)) (fun _ _ q=>⟨q.1,q.2.trans (show _=h.set id (rdE l2)++[.mk 0 64 10 eraZ,eraR (-n) rl sa] from (by rw [hx_set hid];exact hs1 (hx_len hn)))⟩)) pt23 ?_
     refine sn'<|wr'<|mv' lk0 pt24<|?_
     by_cases hs26 : ∃ p,rNext l2=some p
     ·obtain ⟨⟨s3,l3⟩,e26⟩:=hs26
      obtain ⟨z3,o3⟩:=okL_next o2 e26
      rw [bindR_step e26] at hX2
      refine s_calls (mp1 lk24 mp0) (rnext_e e26 (hx_at hid)) (hx_set hid) pt25<|V' (v_fap0 lk6) pt26<|E' (e_store lk26 (cvl lk25 rfl) (hga (hx_len hn) rfl) rfl (nb' rfl) rfl SrcRg_sc3_1 (hs1 (hx_len hn))) ptn<|sn'<|w_seq<|wr'<|V' (v_fap0 lk6) pt27<|V' (v_loadp lk27 (hga (hx_len hn) rfl) gt3) pt28<|?_
      refine s_callp (mp1 lk28 mp0) (format_a (by unfold maxLen;omega)) pt29 ?_
      refine V' (v_notB lk29) pt30<|sn'<|?_
      refine w_condB lk30 (fun hc2=>?_) (fun hc2=>?_)
      ·rw [lift_fail (if_neg (show ¬formatB s3=true by simpa using hc2))] at hX2
       refine w_reg<|s_callPan' mp0 (sfail_a)<|p_thn<|w_pan<|?_
       exact ⟨_,_,rfl,hx_len hn,hx_lt hlt rdE_ltb,rfl,by rw [hX,←hX2];exact ⟨rfl,_,rfl⟩⟩
      rw [lift_step (if_pos (show formatB s3=true by simpa using hc2))] at hX2
      refine w_skip<|n_seq<|wr'<|?_
      by_cases hs34:l3=[]
      ·have hd34:decide ((l3.length:Int)=0)=true:=by rw [hs34];rfl
       have hE:rEnd l3=some ((true,untZ),l3):=if_pos hs34
       rw [bindR_step hE] at hX2
       refine mv' lk0 pt32<|V' (v_nckp lk32) pt33<|V' (v_fap0 lk33) pt34<|V' (v_loadp lk34 (hx_at hid) gt0) pt35<|V' (v_lenL lk35) pt36<|V' (v_eql lk36 lki) pt37<|?_
       rw [hd34]
       refine V' (v_fap0 lk6) pt38<|E' (e_store lk38 (cvl lk37 rfl) (hga (hx_len hn) rfl) rfl (nb' rfl) rfl SrcRg_sc4_1 (hs1 (hx_len hn))) ptn<|sn'<|w_seq<|wr'<|V' (v_fap0 lk6) pt39<|V' (v_loadp lk39 (hga (hx_len hn) rfl) gt4) pt40<|?_
       refine V' ((by first | exact v_not lk40 | exact v_notB lk40)) pt41 ?_
       refine sn' ?_
       refine w_condKF lk41 (by rfl) ?_
       refine w_skip<|n_seq<|wr'<|V' (v_loadpA lk6 (hga (hx_len hn) rfl) SrcRg_tk0_10 rfl) pt45<|E' (e_store lk2 (cvl lk45 rfl) (hga (hx_len hn) rfl) rfl (nb' rfl) rfl SrcRg_sc0_10 (hs0 (hx_len hn))) ptn<|sn'<|w_rets<|w_ret (rs1 (rr_c gt2 (hga (hx_len hn) rfl) (ld1 SrcRg_tk0_10 rfl)))<|?_
       exact ⟨_,_,rfl,hx_len hn,hx_lt hlt rdE_ltb,rfl,by rw [hX,←hX2];exact ⟨rfl,rfl⟩⟩
      have hd34:decide ((l3.length:Int)=0)=false:=decide_eq_false (fun e=>hs34 (List.eq_nil_of_length_eq_zero (by omega)))
      refine mv' lk0 pt32<|V' (v_nckp lk32) pt33<|V' (v_fap0 lk33) pt34<|V' (v_loadp lk34 (hx_at hid) gt0) pt35<|V' (v_lenL lk35) pt36<|V' (v_eql lk36 lki) pt37<|?_
      rw [hd34]
      refine V' (v_fap0 lk6) pt38<|E' (e_store lk38 (cvl lk37 rfl) (hga (hx_len hn) rfl) rfl (nb' rfl) rfl SrcRg_sc4_1 (hs1 (hx_len hn))) ptn<|sn'<|w_seq<|wr'<|V' (v_fap0 lk6) pt39<|V' (v_loadp lk39 (hga (hx_len hn) rfl) gt4) pt40<|?_
      refine V' ((by first | exact v_not lk40 | exact v_notB lk40)) pt41 ?_
      refine sn' ?_
      refine w_condK lk41 (by rfl) ?_
      refine w_reg<|mv' lk0 pt42<|?_
      by_cases hs46 : ∃ p,rUntil l3=some p
      ·obtain ⟨⟨u,l4⟩,e46⟩:=hs46
       have hE:rEnd l3=some ((false,u),l4):=by unfold rEnd;rw [if_neg hs34,e46]
       rw [bindR_step hE] at hX2
       refine s_calls (mp1 lk42 mp0) (suntil_e o3 e46 (hx_at hid)) (hx_set hid) pt43<|V' (v_fap0 lk6) pt44<|E' (e_store lk44 (cvl lk43 rfl) (hga (hx_len hn) rfl) rfl (nb' rfl) rfl SrcRg_sc5_5 (hs1 (hx_len hn))) ptn<|sn'<|wr'<|V' (v_loadpA lk6 (hga (hx_len hn) rfl) SrcRg_tk0_10 rfl) pt45<|E' (e_store lk2 (cvl lk45 rfl) (hga (hx_len hn) rfl) rfl (nb' rfl) rfl SrcRg_sc0_10 (hs0 (hx_len hn))) ptn<|sn'<|w_rets<|w_ret (rs1 (rr_c gt2 (hga (hx_len hn) rfl) (ld1 SrcRg_tk0_10 rfl)))<|?_
       exact ⟨_,_,rfl,hx_len hn,hx_lt hlt rdE_ltb,rfl,by rw [hX,←hX2];exact ⟨rfl,rfl⟩⟩
      have e46:=no_some hs46
      have hE:rEnd l3=none:=by unfold rEnd;rw [if_neg hs34,e46]
      rw [bindR_fail hE] at hX2
      refine s_callPanX (mp1 lk42 mp0) (suntil_p o3 e46 (hx_at hid)) (fun hP_ hPp_=>?_)
      refine p_thn<|w_pan<|?_
      obtain ⟨l',rfl⟩:=hPp_
      rw [hx_set hid]
      exact ⟨_,_,rfl,hx_len hn,hx_lt hlt rdE_ltb,rfl,by rw [hX,←hX2];exact ⟨rfl,l',rfl⟩⟩
     have e26:=no_some hs26
     rw [bindR_fail e26] at hX2
     refine s_callPanX (mp1 lk24 mp0) (rnext_p e26 (hx_at hid)) (fun hP_ hPp_=>?_)
     refine p_thn<|w_pan<|?_
     obtain ⟨l',rfl⟩:=hPp_
     rw [hx_set hid]
     exact ⟨_,_,rfl,hx_len hn,hx_lt hlt rdE_ltb,rfl,by rw [hX,←hX2];exact ⟨rfl,l',rfl⟩⟩
    have e24:=no_some hs24
    rw [rules_fail e24] at hX2
    refine s_callPanX (mp1 lk22 (mp1 lk6 mp0)) (srules_p o1 e24 (hx_at hid) (hga (hx_len hn) rfl) (by omega)) (fun hP_ hPp_=>?_)
    refine p_thn<|w_pan<|?_
    obtain ⟨l',r',rfl⟩:=hPp_
    rw [hx_set hid,hs1 (hx_len hn)]
    exact ⟨_,_,rfl,hx_len hn,hx_lt hlt rdE_ltb,rfl,by rw [hX,←hX2];exact ⟨rfl,l',rfl⟩⟩
   have hV:shiftV s=some n:=by rw [hsp];exact if_neg (by rw [show Lib.hasPrefix (aB s) [45]=false from hc1];simp)
   rw [lift_step hV] at hX2
   refine w_skip<|n_seq<|wr'<|mv' lk0 pt22<|?_
   by_cases hs24 : ∃ p,rRules l1=some p
   ·obtain ⟨⟨⟨sa,rl⟩,l2⟩,e24⟩:=hs24
    have o2:=okL_rules o1 e24
    rw [rules_step e24] at hX2
    refine s_callh (mp1 lk22 (mp1 lk6 mp0)) (ACalls.mono (srules_e o1 e24 (hx_at hid) (hga (hx_len hn) rfl) (by omega)) (fun _ _ q=>⟨q.1,q.2.trans (show _=h.set id (rdE l2)++[.mk 0 64 10 eraZ,eraR (n) rl sa] from (by rw [hx_set hid];exact hs1 (hx_len hn)))⟩)) pt23 ?_
    refine sn'<|wr'<|mv' lk0 pt24<|?_
    by_cases hs26 : ∃ p,rNext l2=some p
    ·obtain ⟨⟨s3,l3⟩,e26⟩:=hs26
     obtain ⟨z3,o3⟩:=okL_next o2 e26
     rw [bindR_step e26] at hX2
     refine s_calls (mp1 lk24 mp0) (rnext_e e26 (hx_at hid)) (hx_set hid) pt25<|V' (v_fap0 lk6) pt26<|E' (e_store lk26 (cvl lk25 rfl) (hga (hx_len hn) rfl) rfl (nb' rfl) rfl SrcRg_sc3_1 (hs1 (hx_len hn))) ptn<|sn'<|w_seq<|wr'<|V' (v_fap0 lk6) pt27<|V' (v_loadp lk27 (hga (hx_len hn) rfl) gt3) pt28<|?_
     refine s_callp (mp1 lk28 mp0) (format_a (by unfold maxLen;omega)) pt29 ?_
     refine V' (v_notB lk29) pt30<|sn'<|?_
     refine w_condB lk30 (fun hc2=>?_) (fun hc2=>?_)
     ·rw [lift_fail (if_neg (show ¬formatB s3=true by simpa using hc2))] at hX2
      refine w_reg<|s_callPan' mp0 (sfail_a)<|p_thn<|w_pan<|?_
      exact ⟨_,_,rfl,hx_len hn,hx_lt hlt rdE_ltb,rfl,by rw [hX,←hX2];exact ⟨rfl,_,rfl⟩⟩
     rw [lift_step (if_pos (show formatB s3=true by simpa using hc2))] at hX2
     refine w_skip<|n_seq<|wr'<|?_
     by_cases hs34:l3=[]
     ·have hd34:decide ((l3.length:Int)=0)=true:=by rw [hs34];rfl
      have hE:rEnd l3=some ((true,untZ),l3):=if_pos hs34
      rw [bindR_step hE] at hX2
      refine mv' lk0 pt32<|V' (v_nckp lk32) pt33<|V' (v_fap0 lk33) pt34<|V' (v_loadp lk34 (hx_at hid) gt0) pt35<|V' (v_lenL lk35) pt36<|V' (v_eql lk36 lki) pt37<|?_
      rw [hd34]
      refine V' (v_fap0 lk6) pt38<|E' (e_store lk38 (cvl lk37 rfl) (hga (hx_len hn) rfl) rfl (nb' rfl) rfl SrcRg_sc4_1 (hs1 (hx_len hn))) ptn<|sn'<|w_seq<|wr'<|V' (v_fap0 lk6) pt39<|V' (v_loadp lk39 (hga (hx_len hn) rfl) gt4) pt40<|?_
      refine V' ((by first | exact v_not lk40 | exact v_notB lk40)) pt41 ?_
      refine sn' ?_
      refine w_condKF lk41 (by rfl) ?_
      refine w_skip<|n_seq<|wr'<|V' (v_loadpA lk6 (hga (hx_len hn) rfl) SrcRg_tk0_10 rfl) pt45<|E' (e_store lk2 (cvl lk45 rfl) (hga (hx_len hn) rfl) rfl (nb' rfl) rfl SrcRg_sc0_10 (hs0 (hx_len hn))) ptn<|sn'<|w_rets<|w_ret (rs1 (rr_c gt2 (hga (hx_len hn) rfl) (ld1 SrcRg_tk0_10 rfl)))<|?_
      exact ⟨_,_,rfl,hx_len hn,hx_lt hlt rdE_ltb,rfl,by rw [hX,←hX2];exact ⟨rfl,rfl⟩⟩
     have hd34:decide ((l3.length:Int)=0)=false:=decide_eq_false (fun e=>hs34 (List.eq_nil_of_length_eq_zero (by omega)))
     refine mv' lk0 pt32<|V' (v_nckp lk32) pt33<|V' (v_fap0 lk33) pt34<|V' (v_loadp lk34 (hx_at hid) gt0) pt35<|V' (v_lenL lk35) pt36<|V' (v_eql lk36 lki) pt37<|?_
     rw [hd34]
     refine V' (v_fap0 lk6) pt38<|E' (e_store lk38 (cvl lk37 rfl) (hga (hx_len hn) rfl) rfl (nb' rfl) rfl SrcRg_sc4_1 (hs1 (hx_len hn))) ptn<|sn'<|w_seq<|wr'<|V' (v_fap0 lk6) pt39<|V' (v_loadp lk39 (hga (hx_len hn) rfl) gt4) pt40<|?_
     refine V' ((by first | exact v_not lk40 | exact v_notB lk40)) pt41 ?_
     refine sn' ?_
     refine w_condK lk41 (by rfl) ?_
     refine w_reg<|mv' lk0 pt42<|?_
     by_cases hs46 : ∃ p,rUntil l3=some p
     ·obtain ⟨⟨u,l4⟩,e46⟩:=hs46
      have hE:rEnd l3=some ((false,u),l4):=by unfold rEnd;rw [if_neg hs34,e46]
      rw [bindR_step hE] at hX2
      refine s_calls (mp1 lk42 mp0) (suntil_e o3 e46 (hx_at hid)) (hx_set hid) pt43<|V' (v_fap0 lk6) pt44<|E' (e_store lk44 (cvl lk43 rfl) (hga (hx_len hn) rfl) rfl (nb' rfl) rfl SrcRg_sc5_5 (hs1 (hx_len hn))) ptn<|sn'<|wr'<|V' (v_loadpA lk6 (hga (hx_len hn) rfl) SrcRg_tk0_10 rfl) pt45<|E' (e_store lk2 (cvl lk45 rfl) (hga (hx_len hn) rfl) rfl (nb' rfl) rfl SrcRg_sc0_10 (hs0 (hx_len hn))) ptn<|sn'<|w_rets<|w_ret (rs1 (rr_c gt2 (hga (hx_len hn) rfl) (ld1 SrcRg_tk0_10 rfl)))<|?_
      exact ⟨_,_,rfl,hx_len hn,hx_lt hlt rdE_ltb,rfl,by rw [hX,←hX2];exact ⟨rfl,rfl⟩⟩
     have e46:=no_some hs46
     have hE:rEnd l3=none:=by unfold rEnd;rw [if_neg hs34,e46]
     rw [bindR_fail hE] at hX2
     refine s_callPanX (mp1 lk42 mp0) (suntil_p o3 e46 (hx_at hid)) (fun hP_ hPp_=>?_)
     refine p_thn<|w_pan<|?_
     obtain ⟨l',rfl⟩:=hPp_
     rw [hx_set hid]
     exact ⟨_,_,rfl,hx_len hn,hx_lt hlt rdE_ltb,rfl,by rw [hX,←hX2];exact ⟨rfl,l',rfl⟩⟩
    have e26:=no_some hs26
    rw [bindR_fail e26] at hX2
    refine s_callPanX (mp1 lk24 mp0) (rnext_p e26 (hx_at hid)) (fun hP_ hPp_=>?_)
    refine p_thn<|w_pan<|?_
    obtain ⟨l',rfl⟩:=hPp_
    rw [hx_set hid]
    exact ⟨_,_,rfl,hx_len hn,hx_lt hlt rdE_ltb,rfl,by rw [hX,←hX2];exact ⟨rfl,l',rfl⟩⟩
   have e24:=no_some hs24
   rw [rules_fail e24] at hX2
   refine s_callPanX (mp1 lk22 (mp1 lk6 mp0)) (srules_p o1 e24 (hx_at hid) (hga (hx_len hn) rfl) (by omega)) (fun hP_ hPp_=>?_)
   refine p_thn<|w_pan<|?_
   obtain ⟨l',r',rfl⟩:=hPp_
   rw [hx_set hid,hs1 (hx_len hn)]
   exact ⟨_,_,rfl,hx_len hn,hx_lt hlt rdE_ltb,rfl,by rw [hX,←hX2];exact ⟨rfl,l',rfl⟩⟩
  have e13:=no_some hs13
  have hV:shiftV s=none:=by rw [hsp,e13];split <;> rfl
  rw [lift_fail hV] at hX2
  refine s_callPan' (mp1 lk14 mp0) (sspan_p (by omega) e13) ?_
  refine p_thn<|w_pan<|?_
  exact ⟨_,_,rfl,hx_len hn,hx_lt hlt rdE_ltb,rfl,by rw [hX,←hX2];exact ⟨rfl,_,rfl⟩⟩
 have e3:=no_some hs3
 rw [bindR_fail e3] at hX2
 refine s_callPanX (mp1 lk7 mp0) (rnext_p e3 (hx_at hid)) (fun hP_ hPp_=>?_)
 refine p_thn<|w_pan<|?_
 obtain ⟨l',rfl⟩:=hPp_
 rw [hx_set hid]
 exact ⟨_,_,rfl,hx_len hn,hx_lt hlt rdE_ltb,rfl,by rw [hX,←hX2];exact ⟨rfl,l',rfl⟩⟩
theorem sera_e {l l':List ByteArray}{u:Era}{id:Nat}{h:AH}(ho:okL l) (e:rEra l=some (u,l')) (h1:h[id]?=some (rdE l)):ACalls Tryz.prog 142 [.ptr id 0 0] h fun x h'=>x = .ret (.agg (eraC u))∧h'=h.set id (rdE l'):=RS.a (p:=(.agg (eraC u),l')) (sera_any ho h1) (by rw [e];rfl)
theorem sera_p {l:List ByteArray}{id:Nat}{h:AH}(ho:okL l) (e:rEra l=none) (h1:h[id]?=some (rdE l)):ACalls Tryz.prog 142 [.ptr id 0 0] h fun x h'=>x = .pan wrA ∧ ∃ l',h'=h.set id (rdE l'):=RS.p (sera_any ho h1) (by rw [e];rfl)
theorem srule_e {l l':List ByteArray}{u:Rul}{id:Nat}{h:AH}(ho:okL l) (e:rRule l=some (u,l')) (h1:h[id]?=some (rdE l)):ACalls Tryz.prog 114 [.ptr id 0 0] h fun x h'=>x = .ret (.agg (rulC u))∧h'=h.set id (rdE l'):=RS.a (p:=(.agg (rulC u),l')) (srule_any ho h1) (by rw [e];rfl)
theorem srule_p {l:List ByteArray}{id:Nat}{h:AH}(ho:okL l) (e:rRule l=none) (h1:h[id]?=some (rdE l)):ACalls Tryz.prog 114 [.ptr id 0 0] h fun x h'=>x = .pan wrA ∧ ∃ l',h'=h.set id (rdE l'):=RS.p (srule_any ho h1) (by rw [e];rfl)
end Go.Proofs.YtgjchdhdopgkkaaGreatDoor
end
section
namespace Go.Proofs.YtgjchdhdopgkkaaGreatDoor
open Go.Ab Go.RowKit
structure Turn1 (b:Nat) (w w':World):Prop where
 os:w'.os=w.os
 tape:w'.tape=w.tape
 output:w'.output=w.output
 size:w.heap.size≤w'.heap.size
 block : ∀ k,k<w.heap.size→k≠b→w'.heap[k]?=w.heap[k]?
end Go.Proofs.YtgjchdhdopgkkaaGreatDoor
end
section
namespace Go.Proofs.YtgjchdhdopgkkaaGreatDoor
open Go.Ab Go.RowKit
attribute [local simp] str_lt
def badN (n:Int):Bool:=!plnN n||decide (n=34)
def fieldE (f:ByteArray):Int:=if (aB f).any (fun c=>badN c.toNat)=true then 1 else if 24<f.size then 2 else 0
def firstE:List ByteArray→Int
 | []=>0
 | f::fs=>if fieldE f≠0 then fieldE f else firstE fs
def lineE (fs:List ByteArray):Int:=if fs.length=0 then 1 else if 12<fs.length then 2 else firstE fs
end Go.Proofs.YtgjchdhdopgkkaaGreatDoor
end
section
namespace Go.Proofs.YtgjchdhdopgkkaaGreatDoor
open Go.Ab Go.RowKit
attribute [local simp] str_lt ln_lt
def c10:AC:=(.seq (.reg [Oo 2 (.mv (.const (.string ⟨#[]⟩))),Oo 3 (.mv (Ci 0))]) (.seq (.seq (.reg [Mv 10 0,Oo 11 (.len false (.tmp 10)),Oo 12 (.bin .gtr (.tmp 11) (Ci 200))]) (.cond (.tmp 12) (.seq (.reg [Oo 2 (.mv (.const (.string ⟨#[]⟩))),Oo 3 (.mv (Ci 2))]) .ret) .skip)) (.seq (.reg [Oo 4 (.mv (.const (.string ⟨#[]⟩)))]) (.seq (.seq (.reg [Oo 5 (.mv (Ci 0))]) (.block 0 (.loop (.seq (.seq (.reg [Mv 13 5,Mv 14 0,Oo 15 (.len false (.tmp 14)),Oo 16 (.bin .lss (.tmp 13) (.tmp 15))]) (.cond (.tmp 16) .skip (.exit 0))) (.seq (.block 1 (.seq (.seq (.reg [Mv 19 0,Mv 20 5,Oo 21 (.ia 3 (.tmp 19) (.tmp 20)),Fa 22 2 21,Ld 23 22,Oo 24 (.len false (.tmp 23)),Oo 25 (.bin .eql (.tmp 24) (Ci 0))]) (.cond (.tmp 25) (.seq (.reg [Oo 2 (.mv (.const (.string ⟨#[]⟩))),Oo 3 (.mv (Ci 1))]) .ret) .skip)) (.seq (.seq (.reg [Mv 26 0,Mv 27 5,Oo 28 (.ia 3 (.tmp 26) (.tmp 27)),Fa 29 2 28,Ld 30 29,Oo 31 (.len false (.tmp 30)),Oo 32 (.bin .gtr (.tmp 31) (Ci 12))]) (.cond (.tmp 32) (.seq (.reg [Oo 2 (.mv (.const (.string ⟨#[]⟩))),Oo 3 (.mv (Ci 2))]) .ret) .skip)) (.seq (.seq (.reg [Mv 33 0,Mv 34 5,Oo 35 (.ia 3 (.tmp 33) (.tmp 34)),Fa 36 1 35,Ld 37 36]) (.cond (.tmp 37) (.reg [Mv 38 4,Oo 39 (.bin .add (.tmp 38) (.const (.string ⟨#[32]⟩))),Mv 4 39]) .skip)) (.seq (.seq (.reg [Oo 6 (.mv (Ci 0))]) (.block 2 (.loop (.seq (.seq (.reg [Mv 40 6,Mv 41 0,Mv 42 5,Oo 43 (.ia 3 (.tmp 41) (.tmp 42)),Fa 44 2 43,Ld 45 44,Oo 46 (.len false (.tmp 45)),Oo 47 (.bin .lss (.tmp 40) (.tmp 46))]) (.cond (.tmp 47) .skip (.exit 2))) (.seq (.block 3 (.seq (.reg [Mv 50 0,Mv 51 5,Oo 52 (.ia 3 (.tmp 50) (.tmp 51)),Fa 53 2 52,Ld 54 53,Mv 55 6,Oo 56 (.ia 1 (.tmp 54) (.tmp 55)),Ld 57 56,Mv 7 57]) (.seq (.reg [Mv 58 7,Oo 59 (.bin .eql (.tmp 58) (.const (.string ⟨#[]⟩))),Mv 8 59]) (.seq (.seq (.reg [Oo 9 (.mv (Ci 0))]) (.block 4 (.loop (.seq (.seq (.reg [Mv 60 9,Mv 61 7,Oo 62 (.len true (.tmp 61)),Oo 63 (.bin .lss (.tmp 60) (.tmp 62))]) (.cond (.tmp 63) .skip (.exit 4))) (.seq (.block 5 (.seq (.seq (.reg [Mv 66 7,Mv 67 9,Oo 68 (.ix (.tmp 66) (.tmp 67)),Oo 69 (.call (.func 27) [(.tmp 68)]),Oo 70 (.un .not (.tmp 69)),Mv 71 70,Of 72 71 (.mv (.tmp 7)),Of 73 71 (.mv (.tmp 9)),Of 74 71 (.ix (.tmp 72) (.tmp 73)),Of 75 71 (.bin .eql (.tmp 74) (.const (.int .u8 34))),Oo 76 (.pick (.tmp 71) (.const (.bool true)) (.tmp 75))]) (.cond (.tmp 76) (.seq (.reg [Oo 2 (.mv (.const (.string ⟨#[]⟩))),Oo 3 (.mv (Ci 1))]) .ret) .skip)) (.reg [Mv 77 8,Mv 78 77,Of 79 78 (.mv (.tmp 7)),Of 80 78 (.mv (.tmp 9)),Of 81 78 (.ix (.tmp 79) (.tmp 80)),Of 82 78 (.call (.func 28) [(.tmp 81)]),Oo 83 (.pick (.tmp 78) (.const (.bool true)) (.tmp 82)),Mv 84 83,Of 85 84 (.mv (.tmp 7)),Of 86 84 (.mv (.tmp 9)),Of 87 84 (.ix (.tmp 85) (.tmp 86)),Of 88 84 (.bin .eql (.tmp 87) (.const (.int .u8 35))),Oo 89 (.pick (.tmp 84) (.const (.bool true)) (.tmp 88)),Mv 8 89]))) (.reg [Mv 64 9,Oo 65 (.bin .add (.tmp 64) (Ci 1)),Mv 9 65])))))) (.seq (.seq (.reg [Mv 90 7,Oo 91 (.len true (.tmp 90)),Oo 92 (.bin .gtr (.tmp 91) (Ci 24))]) (.cond (.tmp 92) (.seq (.reg [Oo 2 (.mv (.const (.string ⟨#[]⟩))),Oo 3 (.mv (Ci 2))]) .ret) .skip)) (.seq (.seq (.reg [Mv 93 6,Oo 94 (.bin .gtr (.tmp 93) (Ci 0))]) (.cond (.tmp 94) (.reg [Mv 95 4,Oo 96 (.bin .add (.tmp 95) (.const (.string ⟨#[32]⟩))),Mv 4 96]) .skip)) (.seq (.seq (.reg [Mv 97 8]) (.cond (.tmp 97) (.reg [Mv 98 7,Oo 99 (.bin .add (.const (.string ⟨#[34]⟩)) (.tmp 98)),Oo 100 (.bin .add (.tmp 99) (.const (.string ⟨#[34]⟩))),Mv 7 100]) .skip)) (.reg [Mv 101 4,Mv 102 7,Oo 103 (.bin .add (.tmp 101) (.tmp 102)),Mv 4 103])))))))) (.reg [Mv 48 6,Oo 49 (.bin .add (.tmp 48) (Ci 1)),Mv 6 49])))))) (.reg [Mv 104 4,Oo 105 (.bin .add (.tmp 104) (.const (.string ⟨#[10]⟩))),Mv 4 105])))))) (.reg [Mv 17 5,Oo 18 (.bin .add (.tmp 17) (Ci 1)),Mv 5 18])))))) (.seq (.seq (.reg [Mv 106 4,Oo 107 (.len true (.tmp 106)),Oo 108 (.bin .gtr (.tmp 107) (Ci 8000))]) (.cond (.tmp 108) (.seq (.reg [Oo 2 (.mv (.const (.string ⟨#[]⟩))),Oo 3 (.mv (Ci 2))]) .ret) .skip)) (.seq (.reg [Mv 109 4,Mv 2 109,Oo 3 (.mv (Ci 0))]) .ret))))))
end Go.Proofs.YtgjchdhdopgkkaaGreatDoor
end
section
namespace Go.Proofs.YtgjchdhdopgkkaaGreatDoor
open Go.ChangeShapes Go.WideShapes Go.ChangeAt Go.RowKit
theorem own:ownKnob Tryz.prog.godebug=none:=by kernel_rfl
theorem laidOut:laidOutB Tryz.prog=true:=by kernel_rfl
theorem trodAll_below {H:Type}{enc:TypeId×Value→H}{P:Program}(hl:laidOutB P=true) {W W':World}(hb:Below W.heap.size W W') :
  ∀ (ts:List TypeId) (vs:List Value) (ds:List (DataW H)) (ps:List MemPlace),(ts.all fun t=>P.readableRec t&&decide (t<P.types.size))=true→(∀ x∈ps,x.block<W.heap.size) →
   DataW.TrodAll enc P W 0 (fun _=>true) true ts vs ds ps→DataW.TrodAll enc P W' 0 (fun b=>decide (b<W.heap.size)) true ts vs ds ps
 | [],[],[],ps,_,_,h=>h
 | t::ts,v::vs,d::ds,ps,hr,hlt,h=>by
  obtain ⟨p,q,h1,h2,rfl⟩:=h
  simp only [List.all_cons,Bool.and_eq_true,decide_eq_true_eq] at hr
  exact ⟨p,q,Below.trod hl hr.1.1 hr.1.2 h1 hb (fun x hx=>hlt x (List.mem_append.2 (.inl hx))),
   trodAll_below hl hb ts vs ds q hr.2 (fun x hx=>hlt x (List.mem_append.2 (.inr hx))) h2,rfl⟩
 | [],_::_,_,_,_,_,h=>by simp [DataW.TrodAll] at h
 | [],[],_::_,_,_,_,h=>by simp [DataW.TrodAll] at h
 | _::_,[],_,_,_,_,h=>by simp [DataW.TrodAll] at h
 | _::_,_::_,[],_,_,_,h=>by simp [DataW.TrodAll] at h
theorem law_post {H:Type}{enc:TypeId×Value→H}{P:Program}{f:Func}{s:ChangeSpec}{handsOn fresh:Bool}{W W':World}{args:Array Value}{ds gs:List (DataW H)}{before:List MemPlace}{tb:TypeId}
  (hl:laidOutB P=true) (hts:(f.params.toList.all fun t=>P.readableRec t&&decide (t<P.types.size))=true)
  (hrt:f.resultTypes = #[tb]) (htb:P.underlying tb=some .bool) (hvars:s.vars=[])
  (hs:s.fn H ds={ results:=[.lit (.bool true)],args:=ds })
  (hW:DataW.Whole enc P f.params.toList s.vars false W args.toList ds gs before) (hb:Below W.heap.size W W') :
  s.post enc P f false fresh handsOn false W args (.bool true) W':=by
 have hW':=hW
 obtain ⟨p,q,hA,hV,rfl,_,_⟩:=hW
 rw [hvars] at hV
 obtain ⟨rfl,rfl⟩:=trodVars_none hV
 have hlt : ∀ x∈p,x.block<W.heap.size:=fun x hx=>by simpa using hW'.lt x (List.mem_append.2 (.inl hx))
 have e1:s.fn H (ds++[])={ results:=[.lit (.bool true)],args:=ds }:=by simpa using hs
 refine ⟨ds,[],p++[],[],p,[],hW',?_,?_,?_,hb.frame _,fun h=>by cases h⟩
 ·rw [e1,hrt];exact trodAll_mk1 (shut_bool htb _)
 ·rw [e1];exact trodAll_below hl hb _ _ _ _ hts hlt hA
 ·rw [e1,hvars];exact rfl
end Go.Proofs.YtgjchdhdopgkkaaGreatDoor
end
section
namespace Go.Proofs.YtgjchdhdopgkkaaGreatDoor
open Go.ChangeShapes Go.WideShapes Go.ChangeAt Go.RowKit Go.Deep Go.Ab
inductive Ds where
 | int | str | bool
 | pair (a b:Ds)
 | slice (a:Ds)
@[reducible] def El:Ds→Type
 | .int=>Int
 | .str=>ByteArray
 | .bool=>Bool
 | .pair a b=>El a×El b
 | .slice a=>List (El a)
def Ds.size:Ds→Nat
 | .pair a b=>a.size+b.size
 | _=>1
theorem Ds.size_pos (d:Ds):0<d.size:=by
 induction d with
 | pair a b iha ihb=>simp only [Ds.size];omega
 | _=>simp [Ds.size]
def Rd (w:World) (B:Nat):(d:Ds)→List Value→El d→Prop
  | .int,cs,n=>cs=[.int .i64 n] ∧ -9223372036854775808≤n∧n≤9223372036854775807
  | .str,cs,s=>cs=[.string s]∧s.size≤maxLen
  | .bool,cs,b=>cs=[.bool b]
  | .pair a b,cs,p => ∃ c1 c2,cs=c1++c2∧Rd w B a c1 p.1∧Rd w B b c2 p.2
  | .slice a, cs, l => ∃ A c, cs = [.slice A l.length c] ∧ l.length ≤ c ∧ c ≤ maxLen ∧ (A = none → c = 0) ∧
      (0<l.length → ∃ b off,A=some ⟨b,off,none⟩∧b<B ∧ ∀ k (h:k<l.length),∃ r,(∀ j v,r[j]?=some v→w.cell? ⟨b,off+k*a.size+j,none⟩=some v)∧Rd w B a r l[k])
theorem Rd.length {w:World}{B:Nat} : ∀ {d:Ds}{cs:List Value}{x:El d},Rd w B d cs x→cs.length=d.size
 | .int,cs,x,h=>by rw [h.1];rfl
 | .str,cs,x,h=>by rw [h.1];rfl
 | .bool,cs,x,h=>by rw [show cs=_ from h];rfl
 | .pair a b,cs,x,⟨c1,c2,e,h1,h2⟩=>by rw [e,List.length_append,Rd.length h1,Rd.length h2];rfl
 | .slice a,cs,x,⟨A,c,e,_⟩=>by rw [e];rfl
theorem Rd.keep {w w':World}{B B':Nat}(hk : ∀ p:Addr,p.block<B→w'.cell? p=w.cell? p) (hB:B≤B') : ∀ {d:Ds}{cs:List Value}{x:El d},Rd w B d cs x→Rd w' B' d cs x
  | .int,cs,x,h=>h
  | .str,cs,x,h=>h
  | .bool,cs,x,h=>h
  | .pair a b,cs,x,⟨c1,c2,e,h1,h2⟩=>⟨c1,c2,e,Rd.keep hk hB h1,Rd.keep hk hB h2⟩
  | .slice a, cs, x, ⟨A, c, e, hl, hm, hA0, h⟩ => ⟨A, c, e, hl, hm, hA0, fun h0 => by
      obtain ⟨b,off,hA,hb,hi⟩:=h h0
      refine ⟨b,off,hA,by omega,fun k hk'=>?_⟩
      obtain ⟨r,hc,hr⟩:=hi k hk'
      exact ⟨r,fun j v hv=>(hk _ hb).trans (hc j v hv),Rd.keep hk hB hr⟩⟩
theorem Rd.below {w w':World}{B:Nat}{d:Ds}{cs:List Value}{x:El d}(h:Rd w B d cs x) (hb:Below B w w'):Rd w' B d cs x:=h.keep (fun p hp=>hb.cell hp) (Nat.le_refl _)
theorem Rd.more {w:World}{B B':Nat}{d:Ds}{cs:List Value}{x:El d}(h:Rd w B d cs x) (hB:B≤B'):Rd w B' d cs x:=h.keep (fun p hp=>rfl) hB
def fitsG (P:Program) (f:TypeId→Ds→Bool):List Field→Nat→Ds→Bool
 | [],_,_=>false
 | fd::fs,off,d=>match fs with
  | []=>fd.offset==off&&P.cellsOf fd.type==d.size&&f fd.type d
  | _::_=>match d with
   | .pair a b=>fd.offset==off&&P.cellsOf fd.type==a.size&&f fd.type a&&fitsG P f fs (off+a.size) b
   | _=>false
def fits (P:Program):Nat→TypeId→Ds→Bool
 | 0,_,_=>false
 | n+1,t,d =>
  match P.underlying t with
  | some (.int .i64)=>match d with
   | .int=>true
   | _=>false
  | some .string=>match d with
   | .str=>true
   | _=>false
  | some .bool=>match d with
   | .bool=>true
   | _=>false
  | some (.slice e)=>match d with
   | .slice a=>P.cellsOf e==a.size&&fits P n e a
   | _=>false
  | some (.struct fs)=>P.cellsOf t==d.size&&fitsG P (fits P n) fs.toList 0 d
  | _=>false
section
variable {H : Type} {enc : TypeId × Value → H} {P : Program} {w : World} {base : Nat} {spare : Nat → Bool} {held : Bool}
theorem spot_of_cell {w:World}{a:Addr}{v:Value}(h:w.cell? a=some v):a.spot=none:=by
 unfold World.cell? at h
 split at h
 ·split at h
  ·cases h
  ·rename_i hs;simpa using hs
 ·cases h
theorem list_of {α β:Type}{Q:Nat→β→α→Prop} : ∀ (n:Nat),(∀ i,i<n → ∃ r y,Q i r y) → ∃ l:List α,l.length=n ∧ ∀ i (h:i<l.length),∃ r,Q i r l[i]
 | 0,_=>⟨[],rfl,fun i h=>absurd h (by simp)⟩
 | n+1,h=>by
  obtain ⟨l,hl,hq⟩:=list_of n (fun i hi=>h i (by omega))
  obtain ⟨r,y,hy⟩:=h n (by omega)
  refine ⟨l++[y],by simp [hl],fun i hi=>?_⟩
  by_cases hin:i<l.length
  ·obtain ⟨r',h'⟩:=hq i hin
   exact ⟨r',by rw [List.getElem_append_left hin];exact h'⟩
  ·obtain rfl:i=n:=by simp at hi;omega
   exact ⟨r,by rw [List.getElem_append_right (by omega)];simpa [hl] using hy⟩
theorem rd_of_trod : ∀ (n:Nat) (t:TypeId) (d:Ds) (fuel:Nat) (cs:List Value) (x:DataW H×List MemPlace),fits P n t d=true→DataW.trod enc P w base spare held fuel t cs=some x → ∃ e:El d,Rd w w.heap.size d cs e
  | 0,t,d,fuel,cs,x,hf,h=>by simp [fits] at hf
  | n+1,t,d,fuel,cs,x,hf,h=>by
    unfold fits at hf
    split at hf
    · rename_i hu
      split at hf <;> try (cases hf;done)
      obtain ⟨m,rfl,_,hw⟩:=DataW.trod_int hu h
      exact ⟨m,rfl,by simpa [Lit.wf,IntKind.min,IntKind.max,IntKind.signed,IntKind.bits] using hw⟩
    · rename_i hu
      split at hf <;> try (cases hf;done)
      obtain ⟨s,rfl,_,hw⟩:=DataW.trod_string hu h
      exact ⟨s,rfl,hw⟩
    · rename_i hu
      split at hf <;> try (cases hf;done)
      obtain ⟨b,rfl,_⟩:=DataW.trod_bool hu h
      exact ⟨b,rfl⟩
    · rename_i e hu
      split at hf <;> try (cases hf;done)
      rename_i a
      simp only [Bool.and_eq_true,beq_iff_eq] at hf
      rcases open_slice hu h with ⟨rfl,_⟩ | ⟨ad,len,cap,m,k,D,Pl,rfl,hb,hl,hm,hmm,_,hi⟩
      · exact ⟨([]:List (El a)),none,0,rfl,Nat.le_refl _,by unfold maxLen;omega,fun _=>rfl,fun h0=>absurd h0 (by simp)⟩
      · have hlm:len≤m:=by rw [hmm];split <;> omega
        have hex : ∀ i,i<len → ∃ (r:List Value) (y:El a),(∀ j v,r[j]?=some v→w.cell? ((ad.add (i*a.size)).add j)=some v)∧r.length=a.size∧Rd w w.heap.size a r y:=by
          intro i hil
          obtain ⟨cs',hc,ht⟩:=hi i (by omega)
          rw [hf.1] at hc
          obtain ⟨_,hcl,hat⟩:=World.cells?_some hc
          obtain ⟨y,hy⟩:=rd_of_trod n e a k cs' _ hf.2 ht
          exact ⟨cs',y,fun j v hv=>by rw [hat j (by have:=(List.getElem?_eq_some_iff.1 hv).1;omega)];exact hv,hcl,hy⟩
        obtain ⟨l,hll,hl2⟩:=list_of len hex
        refine ⟨l,some ad,cap,by rw [hll],by omega,hm,fun h=>(by cases h),fun h0=>?_⟩
        obtain ⟨r0,hr0,hl0,_⟩:=hl2 0 h0
        have hp:=a.size_pos
        have hc0:=hr0 0 r0[0] (List.getElem?_eq_getElem (by omega))
        have hsp:ad.spot=none:=by
          have:=spot_of_cell hc0
          simpa [Addr.add] using this
        obtain ⟨b,off,sp⟩:=ad
        simp only at hsp
        subst hsp
        refine ⟨b,off,rfl,?_,fun k' hk'=>?_⟩
        · have:=block_lt_of_cell hc0
          simpa [Addr.add] using this
        · obtain ⟨r,hr1,_,hr2⟩:=hl2 k' hk'
          exact ⟨r,fun j v hv=>by have:=hr1 j v hv;simpa [Addr.add_lit] using this,hr2⟩
    · rename_i fs hu
      simp only [Bool.and_eq_true,beq_iff_eq] at hf
      obtain ⟨xs,m,_,_,hcl,hxl,hat⟩:=DataW.trod_struct hu h
      have key : ∀ (l : List Field) (off i : Nat) (d : Ds) (cs' : List Value), fitsG P (fits P n) l off d = true → cs'.length = d.size → cs.drop off = cs' → (∀ (j : Nat) (f : Field), l[j]? = some f → fs.toList[i + j]? = some f) →
          ∃ e:El d,Rd w w.heap.size d cs' e:=by
        intro l
        induction l with
        | nil=>intro off i d cs' hg;simp [fitsG] at hg
        | cons f l ih =>
          intro off i d cs' hg hcl' hd hj
          have hfi:fs[i]?=some f:=by have:=hj 0 f rfl;simpa using this
          have hlt:i<xs.length:=by rw [hxl];exact (Array.getElem?_eq_some_iff.1 hfi).1
          have ht:=hat i f hfi
          rw [List.getElem?_eq_getElem hlt] at ht
          cases l with
          | nil =>
            simp only [fitsG,Bool.and_eq_true,beq_iff_eq] at hg
            rw [hg.1.1,hg.1.2,hd,List.take_of_length_le (by omega)] at ht
            exact rd_of_trod n f.type d m cs' _ hg.2 ht
          | cons g l =>
            cases d with
            | pair a b =>
              simp only [fitsG,Bool.and_eq_true,beq_iff_eq] at hg
              obtain ⟨⟨⟨g1,g2⟩,g3⟩,g4⟩:=hg
              rw [g1,g2,hd] at ht
              obtain ⟨e1,he1⟩:=rd_of_trod n f.type a m _ _ g3 ht
              obtain ⟨e2,he2⟩:=ih (off+a.size) (i+1) b (cs'.drop a.size) g4 (by rw [List.length_drop,hcl'];simp [Ds.size]) (by rw [←hd,List.drop_drop]) (fun j f' hf'=>by have:=hj (j+1) f' (by simpa using hf');rw [←this];congr 1;omega)
              exact ⟨(e1,e2),cs'.take a.size,cs'.drop a.size,(List.take_append_drop _ _).symm,he1,he2⟩
            | _=>simp [fitsG] at hg
      exact key fs.toList 0 0 _ cs hf.2 (by rw [hcl,hf.1]) (by simp) (fun j f' hf'=>by simpa using hf')
    · cases hf
theorem rd_arg {d:Ds}{t:TypeId}{v:Value}{x:DataW H}{p:List MemPlace}(hf:fits P 20 t d=true) (h:DataW.Trod enc P w base spare held t v x p) : ∃ e:El d,Rd w w.heap.size d v.cells.toList e:=by
 obtain ⟨fuel,hf'⟩:=h
 exact rd_of_trod 20 t d fuel _ _ hf hf'
end
def avs:(d:Ds)→El d→List AV
 | .int,n=>[iv n]
 | .str,s=>[sv s]
 | .bool,b=>[bv b]
 | .pair a b,p=>avs a p.1++avs b p.2
 | .slice a,l=>[.sl (List.length l) a.size false (rows (avs a) l)]
theorem avs_len : ∀ (d:Ds) (x:El d),(avs d x).length=d.size
 | .int,_=>rfl
 | .str,_=>rfl
 | .bool,_=>rfl
 | .pair a b,p=>by simp only [avs,List.length_append,avs_len a,avs_len b,Ds.size]
 | .slice a,l=>rfl
def okD:(d:Ds)→El d→Prop
 | .int,n => -9223372036854775808≤n∧n≤9223372036854775807
 | .str,s=>ByteArray.size s≤maxLen
 | .bool,_=>True
 | .pair a b,p=>okD a p.1∧okD b p.2
 | .slice a,l => ∀ (k:Nat) (h:k<List.length l),okD a (l[k])
theorem Rd.ok {w:World}{B:Nat} : ∀ {d:Ds}{cs:List Value}{x:El d},Rd w B d cs x→okD d x
 | .int,cs,x,h=>h.2
 | .str,cs,x,h=>h.2
 | .bool,cs,x,h=>trivial
 | .pair a b,cs,x,⟨c1,c2,e,h1,h2⟩=>⟨Rd.ok h1,Rd.ok h2⟩
 | .slice a,cs,x,⟨A,c,e,hl,hm,h0,h⟩=>fun k hk=>by
  obtain ⟨b,off,_,_,hi⟩:=h (by omega)
  obtain ⟨r,_,hr⟩:=hi k hk
  exact Rd.ok hr
theorem RepC.append {w:World}{g:Gh} : ∀ {cs ds:List AV}{b off:Nat},RepC w g cs b off→RepC w g ds b (off+cs.length)→RepC w g (cs++ds) b off
 | [],ds,b,off,_,h=>by simpa using h
 | c::cs,ds,b,off,h,k=>by
  simp only [RepC,List.cons_append] at h ⊢
  refine ⟨h.1,RepC.append h.2 ?_⟩
  rw [show off+1+cs.length=off+(c::cs).length by simp;omega]
  exact k
theorem RepC.of_list {w:World}{g:Gh}{b:Nat} : ∀ {cs:List AV}{us:List Value}{off:Nat},RepL w g cs us→(∀ j v,us[j]?=some v→w.cell? ⟨b,off+j,none⟩=some v)→RepC w g cs b off
 | [],us,off,_,_=>by simp only [RepC]
 | c::cs,us,off,h,k=>by
  simp only [RepL] at h
  obtain ⟨u,us',rfl,h1,h2⟩:=h
  simp only [RepC]
  refine ⟨⟨u,k 0 u rfl,h1⟩,RepC.of_list h2 fun j v hv=>?_⟩
  have:=k (j+1) v (by simpa using hv)
  rw [show off+1+j=off+(j+1) by omega]
  exact this
theorem rep_rd {w:World}{B:Nat}{g:Gh}(hg : ∀ k,k<B→g.D k) : ∀ (d:Ds) (cs:List Value) (x:El d),Rd w B d cs x→RepL w g (avs d x) cs
 | .int,cs,x,h=>by rw [h.1];simp only [avs,RepL];exact ⟨_,[],rfl,by simp only [Rep],rfl⟩
 | .str,cs,x,h=>by rw [h.1];simp only [avs,RepL];exact ⟨_,[],rfl,by simp only [Rep],rfl⟩
 | .bool,cs,x,h=>by rw [show cs=_ from h];simp only [avs,RepL];exact ⟨_,[],rfl,by simp only [Rep],rfl⟩
 | .pair a b,cs,x,⟨c1,c2,e,h1,h2⟩=>by rw [e];simp only [avs];exact (rep_rd hg a c1 x.1 h1).append (rep_rd hg b c2 x.2 h2)
 | .slice a,cs,l,⟨A,c,e,hl,hm,h0,h⟩=>by
  rw [e]
  simp only [avs,RepL]
  refine ⟨_,[],rfl,?_,rfl⟩
  simp only [Rep]
  refine ⟨rows_len (avs_len a) l,A,c,rfl,hl,hm,fun h=>(by cases h),h0,fun hne=>?_⟩
  have hpos:0<List.length l:=by
   rcases Nat.eq_zero_or_pos (List.length l) with h' | h'
   ·have:l=[]:=List.eq_nil_of_length_eq_zero h'
    subst this;exact absurd rfl hne
   ·exact h'
  obtain ⟨b,off,eA,hb,hi⟩:=h hpos
  refine ⟨b,off,eA,hg b hb,?_⟩
  have key : ∀ (m:List (El a)) (o:Nat),(∀ k (hk:k<m.length),∃ r,(∀ j v,r[j]?=some v→w.cell? ⟨b,o+k*a.size+j,none⟩=some v)∧RepL w g (avs a m[k]) r)→RepC w g (rows (avs a) m) b o:=by
   intro m
   induction m with
   | nil=>intro o _;simp only [rows,List.flatMap_nil,RepC]
   | cons x m ih =>
    intro o hm'
    simp only [rows,List.flatMap_cons]
    obtain ⟨r,hr1,hr2⟩:=hm' 0 (by simp)
    refine RepC.append (RepC.of_list hr2 fun j v hv=>by have:=hr1 j v hv;simpa using this) ?_
    rw [avs_len]
    refine ih (o+a.size) fun k hk=>?_
    obtain ⟨r,hr1,hr2⟩:=hm' (k+1) (by simpa using hk)
    refine ⟨r,fun j v hv=>?_,by simpa using hr2⟩
    have:=hr1 j v hv
    rw [show o+a.size+k*a.size+j=o+(k+1)*a.size+j by rw [Nat.add_mul];omega]
    exact this
  exact key l off fun k hk=>by
   obtain ⟨r,hr1,hr2⟩:=hi k hk
   exact ⟨r,hr1,rep_rd hg a r _ hr2⟩
def g0 (w:World):Gh:=⟨fun k=>k<w.heap.size,fun _ _=>none,[]⟩
theorem sim0 (w:World) (hG:GlobW w):SimH w (g0 w) [] :=
 ⟨fun id ver ty s c h=>(by simp at h),fun i j k hi _=>by obtain ⟨_,_,_,_,_,_,h,_⟩:=hi;simp at h,fun k hk=>hk,fun id ver l h=>(by simp [g0] at h),fun id ver l h=>(by simp [g0] at h),⟨hG,hG.lt⟩⟩
theorem law_calls {P:Program}{f:FuncId}{args:List AV}(hc:ACalls P f args [] fun x h'=>h'=[]∧x = .ret (bv true)) {w:World}(hG:GlobW w) {vs:Array Value}(hr:RepL w (g0 w) args vs.toList) :
  Calls P f vs w fun e w'=>e = .returned (.bool true)∧Below w.heap.size w w':=by
 refine (hc.2 w (g0 w) vs (sim0 w hG) hr).mono ?_
 rintro e w' ⟨x,h',g',h1,h2,h3,h4,h5,rfl,rfl⟩
 cases e <;> simp only [EndR] at h1
 simp only [Rep] at h1
 refine ⟨by rw [h1],h4.os,h4.tape,h4.output,h4.size,fun k hk=>h4.block k hk ?_⟩
 rintro ⟨i,_,_,_,_,_,_,h,_⟩
 simp at h
section
variable {H : Type} {enc : TypeId × Value → H} {P : Program} {w : World} {base : Nat} {spare : Nat → Bool} {held : Bool}
theorem arg_struct (d:Ds) {t:TypeId}{v:Value}{x:DataW H}{p:List MemPlace}{fs:Array Field}{r:Reach}{b:Nat}(ht:P.underlying t=some (.struct fs)) (hf:fits P 20 t d=true) (hv:Value.okWide P w r b t v) (h:DataW.Trod enc P w base spare held t v x p) :
  ∃ e:El d,okD d e∧Rep w (g0 w) (.agg (avs d e)) v:=by
 obtain ⟨e,he⟩:=rd_arg hf h
 obtain ⟨cs,rfl,_⟩:=okWide_struct ht hv
 refine ⟨e,he.ok,?_⟩
 simp only [Rep]
 exact ⟨cs,rfl,rep_rd (fun k hk=>hk) d _ e he⟩
theorem arg_cell (d:Ds) {t:TypeId}{v:Value}{x:DataW H}{p:List MemPlace}(hf:fits P 20 t d=true) (hv:v.cells = #[v]) (h:DataW.Trod enc P w base spare held t v x p) :
  ∃ e:El d,okD d e∧RepL w (g0 w) (avs d e) [v]:=by
 obtain ⟨e,he⟩:=rd_arg hf h
 refine ⟨e,he.ok,?_⟩
 have:=rep_rd (g:=g0 w) (fun k hk=>hk) d _ e he
 rwa [hv] at this
theorem arg_str {t:TypeId}{v:Value}{x:DataW H}{p:List MemPlace}{r:Reach}{b:Nat}(ht:P.underlying t=some .string) (hv:Value.okWide P w r b t v) (h:DataW.Trod enc P w base spare held t v x p) :
  ∃ e:ByteArray,e.size≤maxLen∧Rep w (g0 w) (sv e) v:=by
 obtain ⟨n,rfl⟩:=okWide_string ht hv
 obtain ⟨e,he,hr⟩:=arg_cell .str (by simp [fits,ht]) rfl h
 simp only [avs,RepL] at hr
 obtain ⟨u,us,h1,h2,rfl⟩:=hr
 cases h1
 exact ⟨e,he,h2⟩
end
theorem repL1 {w:World}{g:Gh}{c:AV}{v:Value}{cs:List AV}{vs:List Value}(h:Rep w g c v) (hs:RepL w g cs vs):RepL w g (c::cs) (v::vs):=by simp only [RepL];exact ⟨v,vs,rfl,h,hs⟩
theorem repL0 {w:World}{g:Gh}:RepL w g [] []:=by simp only [RepL]
end Go.Proofs.YtgjchdhdopgkkaaGreatDoor
end
section
namespace Go.Proofs.YtgjchdhdopgkkaaGreatDoor
open Go.Ab
theorem runL_all {p:Int→Bool} : ∀ {l:Bs}{n:Nat},runL p l=some n → ∀ c∈l.take n,p c.toNat=true∧plnN c.toNat=true
 | [],n,h,c,hc=>by simp at hc
 | x::l,n,h,c,hc=>by
  unfold runL at h
  split at h
  ·rename_i hp
   split at h
   ·rename_i hq
    rw [Option.map_eq_some_iff] at h
    obtain ⟨m,hm,rfl⟩:=h
    rw [List.take_succ_cons] at hc
    rcases List.mem_cons.1 hc with rfl | hc
    ·exact ⟨hp,hq⟩
    ·exact runL_all hm c hc
   ·cases h
  ·cases h;simp at hc
theorem badN_iff {n:Int}:badN n=false↔plnN n=true∧n≠34:=by
 unfold badN;simp
theorem fieldL_good {l:Bs}{x:Nat×Nat×Nat}(h:fieldL l=some x) : ∀ c∈(l.drop x.1).take x.2.1,badN c.toNat=false:=by
 cases l with
 | nil=>cases h
 | cons c l =>
  by_cases hc:(c.toNat:Int)=34
  ·rw [fieldL,if_pos hc] at h
   cases hr:runL quoP l with
   | none=>rw [hr] at h;cases h
   | some n =>
    have:=runL_all hr
    rw [hr] at h
    simp only at h
    split at h
    ·cases h
    ·split at h
     ·cases h
     ·cases h
      intro y hy
      have:=this y (by simpa using hy)
      exact badN_iff.2 ⟨this.2,by have:=this.1;unfold quoP at this;simpa using this⟩
  ·rw [fieldL,if_neg hc] at h
   cases hr:runL fldP (c::l) with
   | none=>rw [hr] at h;cases h
   | some n =>
    have:=runL_all hr
    rw [hr] at h
    simp only at h
    split at h
    ·cases h
    ·cases h
     intro y hy
     have:=this y (by simpa using hy)
     exact badN_iff.2 ⟨this.2,by have:=this.1;unfold fldP at this;simp at this;exact this.2⟩
theorem fieldE_zero {f:ByteArray}(h1 : ∀ c∈aB f,badN c.toNat=false) (h2:f.size≤24):fieldE f=0:=by
 unfold fieldE
 rw [if_neg,if_neg (by omega)]
 rw [List.any_eq_true]
 rintro ⟨c,hc,hb⟩
 rw [h1 c hc] at hb;cases hb
theorem fieldE_all {f:ByteArray}(h:fieldE f=0):(∀ c∈aB f,badN c.toNat=false)∧f.size≤24:=by
 unfold fieldE at h
 split at h
 ·cases h
 ·rename_i h1
  split at h
  ·cases h
  ·refine ⟨fun c hc=>?_,by omega⟩
   cases hb:badN c.toNat
   ·rfl
   ·exact absurd (List.any_eq_true.2 ⟨c,hc,hb⟩) h1
theorem fldsL_good : ∀ {k:Nat}{acc:List ByteArray}{l:Bs},(∀ f∈acc,fieldE f=0)→acc.length≤12→(fldsL k acc l).2=0→(∀ f∈(fldsL k acc l).1,fieldE f=0)∧(fldsL k acc l).1.length≤12
 | 0,acc,l,h1,h2,_=>⟨h1,h2⟩
 | k+1,acc,l,h1,h2,h3=>by
  rw [fldsL] at h3 ⊢
  split at h3
  ·rename_i hm
   rw [if_pos hm]
   split at h3
   ·cases h3
   ·rename_i x hx
    split at h3
    ·cases h3
    ·rename_i hn
     rw [if_neg hn]
     refine fldsL_good (fun f hf=>?_) (by simp;omega) h3
     rcases List.mem_append.1 hf with hf | hf
     ·exact h1 f hf
     ·rw [List.mem_singleton] at hf
      subst hf
      refine fieldE_zero (fun c hc=>fieldL_good hx c hc) ?_
      unfold cutF
      rw [bA_size,List.length_take];omega
  ·rename_i hm
   rw [if_neg hm]
   exact ⟨h1,h2⟩
theorem lineL_good {x:Bs}(h:(lineL x).2=0) (hne:(lineL x).1≠[]):lineE (lineL x).1=0:=by
 obtain ⟨h1,h2⟩:=fldsL_good (k:=13) (acc:=[]) (l:=x) (fun f hf=>by simp at hf) (by simp) h
 unfold lineE
 have:0<(lineL x).1.length:=List.length_pos_iff.2 hne
 rw [if_neg (by omega),if_neg (by show ¬12<(fldsL 13 [] x).1.length;omega)]
 have : ∀ {fs:List ByteArray},(∀ f∈fs,fieldE f=0)→firstE fs=0:=by
  intro fs
  induction fs with
  | nil=>intro _;rfl
  | cons f fs ih =>
   intro h
   rw [firstE,if_neg (by rw [h f (by simp)];simp)]
   exact ih fun g hg=>h g (by simp [hg])
 exact this h1
theorem linesL_bad : ∀ {n:Int}{l:List Bs}{acc:List Ln},(linesL n l acc).2.2≠0→(linesL n l acc).1=[]
 | n,[],acc,h=>absurd rfl h
 | n,x::xs,acc,h=>by
  rw [linesL] at h ⊢
  split at h
  ·rename_i h1;rw [if_pos h1]
  ·rename_i h1;rw [if_neg h1];exact linesL_bad h
theorem linesL_good : ∀ {n:Int}{l:List Bs}{acc:List Ln},(∀ x∈acc,lineE x.2.2=0) → ∀ x∈(linesL n l acc).1,lineE x.2.2=0
 | n,[],acc,h=>h
 | n,y::ys,acc,h=>by
  rw [linesL]
  split
  ·intro x hx;simp at hx
  ·rename_i h1
   refine linesL_good fun x hx=>?_
   split at hx
   ·exact h x hx
   ·rename_i h2
    rcases List.mem_append.1 hx with hx | hx
    ·exact h x hx
    ·rw [List.mem_singleton] at hx
     subst hx
     exact lineL_good (Decidable.of_not_not h1) h2
theorem splitL_good {s:ByteArray} : ∀ x∈(splitL s).1,lineE x.2.2=0:=by
 have:=linesL_good (n:=1) (l:=cutC 10 (aB s)) (acc:=[]) (fun x hx=>by simp at hx)
 unfold splitL
 split
 ·intro x hx;simp at hx
 ·split
  ·exact this
  ·split
   ·intro x hx;simp at hx
   ·exact this
theorem cut_app (b:Bs) : ∀ a:Bs,cutC 10 (a++10::b)=cutC 10 a++cutC 10 b
 | []=>by simp [cutC]
 | c::a=>by
  have ih:=cut_app b a
  rw [List.cons_append,cutC,cutC]
  split
  ·rw [ih];rfl
  ·rw [ih]
   cases he:cutC 10 a with
   | nil=>exact absurd he (cutC_ne 10 a)
   | cons x xs=>rfl
theorem linesL_app : ∀ {xs ys:List Bs}{n:Int}{acc la:List Ln},linesL n xs acc=(la,0,0)→linesL n (xs++ys) acc=linesL (n+xs.length) ys la
 | [],ys,n,acc,la,h=>by
  simp only [linesL,Prod.mk.injEq] at h
  rw [h.1];simp
 | x::xs,ys,n,acc,la,h=>by
  rw [linesL] at h
  rw [List.cons_append,linesL]
  split at h
  ·rename_i h1;simp only [Prod.mk.injEq] at h;exact absurd h.2.2 h1
  ·rename_i h1
   rw [if_neg h1,linesL_app h]
   congr 1
   simp;omega
def upBy (k:Int) (l:List Ln):List Ln:=l.map fun x=>(x.1+k,x.2)
theorem linesL_up {k:Int}{la:List Ln} : ∀ {ys:List Bs}{n:Int}{acc:List Ln},linesL (n+k) ys (la++upBy k acc)=if (linesL n ys acc).2.2≠0 then ([],(linesL n ys acc).2.1+k,(linesL n ys acc).2.2) else (la++upBy k (linesL n ys acc).1,0,0)
 | [],n,acc=>by simp [linesL]
 | y::ys,n,acc=>by
  by_cases h1:(lineL y).2=0
  ·rw [linesL,if_neg (by rw [h1];simp)]
   have hr:linesL n (y::ys) acc=linesL (n+1) ys (if (lineL y).1=[] then acc else acc++[(n,blkN (headN y),(lineL y).1)]):=by
    rw [linesL,if_neg (by rw [h1];simp)]
   rw [hr,←linesL_up (k:=k) (la:=la)]
   rw [show n+k+1=n+1+k by omega]
   congr 1
   split
   ·rfl
   ·simp [upBy]
  ·rw [linesL,if_pos h1]
   have hr:linesL n (y::ys) acc=([],n,(lineL y).2):=by rw [linesL,if_pos h1]
   rw [hr]
   simp only
   rw [if_pos h1]
theorem linesL_no : ∀ {ys:List Bs}{n:Int}{acc:List Ln},(linesL n ys acc).2.2=0→(linesL n ys acc).2.1=0
 | [],n,acc,_=>rfl
 | y::ys,n,acc,h=>by
  rw [linesL] at h ⊢
  split at h
  ·rename_i h1;exact absurd h h1
  ·rename_i h1;rw [if_neg h1];exact linesL_no h
theorem linesL_num : ∀ {ys:List Bs}{n:Int}{acc:List Ln},(linesL n ys acc).2.2≠0→n≤(linesL n ys acc).2.1
 | [],n,acc,h=>absurd rfl h
 | y::ys,n,acc,h=>by
  rw [linesL] at h ⊢
  split at h
  ·rename_i h1;rw [if_pos h1];exact Int.le_refl _
  ·rename_i h1
   rw [if_neg h1]
   have:=linesL_num h
   omega
theorem split_parts {s t:ByteArray}(hz:s.size+t.size<8000) (hs:(splitL s).2.2=0) :
  splitL (s++bA [10]++t)=if (splitL t).2.2≠0 then ([],if (splitL t).2.1=0 then 0 else (splitL t).2.1+(cutC 10 (aB s)).length,(splitL t).2.2)
   else if 200<(splitL s).1.length+(splitL t).1.length then ([],0,2) else ((splitL s).1++upBy (cutC 10 (aB s)).length (splitL t).1,0,0):=by
 obtain ⟨X,hX⟩ : ∃ X,X=linesL 1 (cutC 10 (aB s)) []:=⟨_,rfl⟩
 obtain ⟨Y,hY⟩ : ∃ Y,Y=linesL 1 (cutC 10 (aB t)) []:=⟨_,rfl⟩
 have es:splitL s=if X.2.2≠0 then X else if 200<X.1.length then ([],0,2) else X:=by
  unfold splitL;rw [if_neg (by omega),←hX]
 have et:splitL t=if Y.2.2≠0 then Y else if 200<Y.1.length then ([],0,2) else Y:=by
  unfold splitL;rw [if_neg (by omega),←hY]
 have hX0:X.2.2=0:=by
  rw [es] at hs
  split at hs
  ·rename_i h;exact absurd hs h
  ·rename_i h;exact Decidable.of_not_not h
 have hXn:X.2.1=0:=by rw [hX] at hX0 ⊢;exact linesL_no hX0
 have hXe:linesL 1 (cutC 10 (aB s)) []=(X.1,0,0):=by rw [←hX];exact Prod.ext rfl (Prod.ext hXn hX0)
 rw [if_neg (by rw [hX0];simp)] at es
 have hXl:¬200<X.1.length:=by
  intro h
  rw [es,if_pos h] at hs;cases hs
 rw [if_neg hXl] at es
 have hu:linesL 1 (cutC 10 (aB (s++bA [10]++t))) []=if Y.2.2≠0 then ([],Y.2.1+(cutC 10 (aB s)).length,Y.2.2) else (X.1++upBy (cutC 10 (aB s)).length Y.1,0,0):=by
  rw [show aB (s++bA [10]++t)=aB s++10::aB t by rw [aB_app,aB_app,aB_bA];simp,cut_app,linesL_app hXe]
  have:=linesL_up (k:=((cutC 10 (aB s)).length:Int)) (la:=X.1) (ys:=cutC 10 (aB t)) (n:=1) (acc:=[])
  rw [←hY] at this
  simpa [upBy] using this
 have hsz:¬8000<(s++bA [10]++t).size:=by rw [ByteArray.size_append,ByteArray.size_append,bA_size,List.length_singleton];omega
 have hup:(upBy (cutC 10 (aB s)).length Y.1).length=Y.1.length:=by unfold upBy;rw [List.length_map]
 by_cases hY0:Y.2.2=0
 ·rw [if_neg (show ¬Y.2.2≠0 by rw [hY0];simp)] at hu et
  rw [splitL,if_neg hsz,hu,es,if_neg (show ¬(0:Int)≠0 by simp)]
  simp only [List.length_append,hup]
  by_cases h2:200<Y.1.length
  ·rw [if_pos h2] at et
   rw [et,if_pos (by omega),if_pos (by simp),if_pos rfl]
  ·rw [if_neg h2] at et
   rw [et,if_neg (show ¬Y.2.2≠0 by rw [hY0];simp)]
 ·rw [if_pos hY0] at hu et
  have:=linesL_num (n:=1) (ys:=cutC 10 (aB t)) (acc:=[]) (by rw [←hY];exact hY0)
  rw [←hY] at this
  rw [splitL,if_neg hsz,hu,if_pos hY0,et,if_pos hY0,if_neg (by omega)]
end Go.Proofs.YtgjchdhdopgkkaaGreatDoor
end
section
namespace Go.Proofs.YtgjchdhdopgkkaaGreatDoor
open Go.Ab
theorem parseV_bad {s:ByteArray}(h:(parseV s).2.2≠0):(parseV s).1=srcZ:=by
 unfold parseV at h ⊢
 split
 ·rfl
 ·rename_i h1
  rw [if_neg h1] at h
  unfold outP at h ⊢
  split
  ·rfl
  ·rename_i p hp
   rw [hp] at h
   simp only at h
   unfold endP at h ⊢
   split
   ·rfl
   ·rename_i h2
    rw [if_neg h2] at h
    split
    ·rfl
    ·rename_i h3;rw [if_neg h3] at h;exact absurd rfl h
theorem parseV_ok {s:ByteArray}(h:(parseV s).2.2=0):(splitL s).2.2=0∧runR (srcZ,false) (splitL s).1 = .inl ((parseV s).1,false)∧checkE (parseV s).1=0∧(parseV s).2.1=0:=by
 unfold parseV at h ⊢
 split
 ·rename_i h1;rw [if_pos h1] at h;exact absurd h h1
 ·rename_i h1
  rw [if_neg h1] at h
  unfold outP at h ⊢
  split
  ·rename_i n hp;rw [hp] at h;cases h
  ·rename_i p hp
   rw [hp] at h
   simp only at h
   unfold endP at h ⊢
   split
   ·rename_i h2;rw [if_pos h2] at h;cases h
   ·rename_i h2
    rw [if_neg h2] at h
    split
    ·rename_i h3;rw [if_pos h3] at h;exact absurd h h3
    ·rename_i h3
     exact ⟨Decidable.of_not_not h1,by rw [hp];simp only [Sum.inl.injEq];exact Prod.ext rfl (by simpa using h2),Decidable.of_not_not h3,rfl⟩
def catS (a b:Src):Src:=(a.1++b.1,a.2.1++b.2.1,a.2.2++b.2.2)
theorem addEra_app : ∀ {a b:List Zon}{x:Era},b≠[]→addEra (a++b) x=a++addEra b x
 | [],b,x,h=>rfl
 | [z],b,x,h=>by
  cases b with
  | nil=>exact absurd rfl h
  | cons y b=>rfl
 | z::y::a,b,x,h=>congrArg (z :: ·) (addEra_app (a:=y::a) h)
theorem addEra_ne {a:List Zon}{x:Era}(h:a≠[]):addEra a x≠[]:=by
 cases a with
 | nil=>exact absurd rfl h
 | cons z a=>cases a <;> simp [addEra]
theorem bindR_map {α β γ:Type}{f:RM α}{k:α→RM β}{m:α→RM γ}{g:β→γ}(h : ∀ a l,m a l=(k a l).map fun p=>(g p.1,p.2)) {l:List ByteArray}:bindR f m l=(bindR f k l).map fun p=>(g p.1,p.2):=by
 unfold bindR
 cases f l with
 | none=>rfl
 | some p=>exact h p.1 p.2
def upP (a:Src) (p:PS):PS:=(catS a p.1,p.2)
theorem bodyR_t {s:Src}:bodyR (s,true)=bindR rEra fun x=>retR (withEra s x):=by unfold bodyR;rw [if_pos rfl]
theorem bodyR_f {s:Src}:bodyR (s,false)=bindR rNext fun w =>
  if w=ruleA then bindR rRule fun r=>retR ((s.1++[r],s.2.1,s.2.2),false)
  else if w=zoneA then bindR rName fun n=>bindR rEra fun x=>retR (withEra (s.1,s.2.1++[(n,[])],s.2.2) x)
  else if w=linkA then bindR rName fun a=>bindR rName fun b=>retR ((s.1,s.2.1,s.2.2++[(a,b)]),false)
  else liftR none:=by unfold bodyR;rw [if_neg (by simp)]
theorem bodyR_cat {a:Src}{p:PS}(hz:p.2=true→p.1.2.1≠[]) (l:List ByteArray):bodyR (upP a p) l=(bodyR p l).map fun q=>(upP a q.1,q.2):=by
 obtain ⟨⟨r,z,k⟩,m⟩:=p
 cases m with
 | true =>
  show bodyR (catS a (r,z,k),true) l=_
  rw [bodyR_t,bodyR_t]
  refine bindR_map (g:=upP a) (fun x l=>?_)
  simp only [retR,Option.map_some,upP,withEra,catS]
  rw [addEra_app (hz rfl)]
 | false =>
  show bodyR (catS a (r,z,k),false) l=_
  rw [bodyR_f,bodyR_f]
  refine bindR_map (g:=upP a) (fun w l=>?_)
  by_cases h1:w=ruleA
  ·simp only [if_pos h1]
   refine bindR_map (g:=upP a) (fun x l=>?_)
   simp only [retR,Option.map_some,upP,catS,List.append_assoc]
  ·simp only [if_neg h1]
   by_cases h2:w=zoneA
   ·simp only [if_pos h2]
    refine bindR_map (g:=upP a) (fun n l=>?_)
    refine bindR_map (g:=upP a) (fun x l=>?_)
    simp only [retR,Option.map_some,upP,withEra,catS]
    rw [List.append_assoc,addEra_app (by simp)]
   ·simp only [if_neg h2]
    by_cases h3:w=linkA
    ·simp only [if_pos h3]
     refine bindR_map (g:=upP a) (fun n l=>?_)
     refine bindR_map (g:=upP a) (fun x l=>?_)
     simp only [retR,Option.map_some,upP,catS,List.append_assoc]
    ·simp only [if_neg h3];rfl
theorem lineR_cat {a:Src}{p:PS}(hz:p.2=true→p.1.2.1≠[]) (x:Ln):lineR (upP a p) x=(lineR p x).map (upP a):=by
 unfold lineR
 rw [bodyR_cat hz]
 show (if x.2.1≠p.2 then none else _)=_
 split
 ·rfl
 ·cases bodyR p x.2.2 with
  | none=>rfl
  | some q =>
   obtain ⟨q,l⟩:=q
   cases l <;> rfl
theorem bindR_some {α β:Type}{f:RM α}{k:α→RM β}{l:List ByteArray}{q:β×List ByteArray}(h:bindR f k l=some q) : ∃ p,f l=some p∧k p.1 p.2=some q:=by
 unfold bindR at h
 cases hf:f l with
 | none=>rw [hf] at h;cases h
 | some p=>rw [hf] at h;exact ⟨p,rfl,h⟩
theorem bodyR_ne {p q:PS}{l l':List ByteArray}(hz:p.2=true→p.1.2.1≠[]) (h:bodyR p l=some (q,l')):q.2=true→q.1.2.1≠[]:=by
 obtain ⟨s,m⟩:=p
 cases m with
 | true =>
  rw [bodyR_t] at h
  obtain ⟨y,_,h⟩:=bindR_some h
  cases h
  intro _
  exact addEra_ne (hz rfl)
 | false =>
  rw [bodyR_f] at h
  obtain ⟨y,_,h⟩:=bindR_some h
  by_cases h1:y.1=ruleA
  ·simp only [if_pos h1] at h
   obtain ⟨r,_,h⟩:=bindR_some h
   cases h;intro e;cases e
  ·simp only [if_neg h1] at h
   by_cases h2:y.1=zoneA
   ·simp only [if_pos h2] at h
    obtain ⟨r,_,h⟩:=bindR_some h
    obtain ⟨x,_,h⟩:=bindR_some h
    cases h;intro _;exact addEra_ne (by simp)
   ·simp only [if_neg h2] at h
    by_cases h3:y.1=linkA
    ·simp only [if_pos h3] at h
     obtain ⟨r,_,h⟩:=bindR_some h
     obtain ⟨x,_,h⟩:=bindR_some h
     cases h;intro e;cases e
    ·simp only [if_neg h3] at h;cases h
theorem lineR_ne {p q:PS}{x:Ln}(hz:p.2=true→p.1.2.1≠[]) (h:lineR p x=some q):q.2=true→q.1.2.1≠[]:=by
 unfold lineR at h
 split at h
 ·cases h
 ·split at h
  ·rename_i q' hb;cases h;exact bodyR_ne hz hb
  ·cases h
theorem runR_cat {a:Src} : ∀ {l:List Ln}{p q:PS},(p.2=true→p.1.2.1≠[])→runR p l = .inl q→runR (upP a p) l = .inl (upP a q)
 | [],p,q,hz,h=>by
  unfold runR at h ⊢
  cases h;rfl
 | x::l,p,q,hz,h=>by
  unfold runR at h ⊢
  rw [lineR_cat hz]
  cases hl:lineR p x with
  | none=>rw [hl] at h;cases h
  | some p' =>
   rw [hl] at h
   exact runR_cat (lineR_ne hz hl) h
theorem lineR_num {p:PS}{x y:Ln}(h:x.2=y.2):lineR p x=lineR p y:=by unfold lineR;rw [h]
theorem runR_num {k:Int} : ∀ {l:List Ln}{p q:PS},runR p l = .inl q→runR p (upBy k l) = .inl q
 | [],p,q,h=>h
 | x::l,p,q,h=>by
  unfold upBy
  rw [List.map_cons,runR,lineR_num (p:=p) (x:=(x.1+k,x.2)) (y:=x) rfl]
  unfold runR at h
  cases hl:lineR p x with
  | none=>rw [hl] at h;cases h
  | some p'=>rw [hl] at h;exact runR_num h
theorem runR_app : ∀ {l m:List Ln}{p q:PS},runR p l = .inl q→runR p (l++m)=runR q m
 | [],m,p,q,h=>by unfold runR at h;cases h;rfl
 | x::l,m,p,q,h=>by
  rw [List.cons_append,runR]
  unfold runR at h
  cases hl:lineR p x with
  | none=>rw [hl] at h;cases h
  | some p'=>rw [hl] at h;exact runR_app h
theorem firstX_app {α:Type}{p:α→Int} : ∀ {a b:List α},firstX p a=0→firstX p b=0→firstX p (a++b)=0
 | [],b,ha,hb=>hb
 | x::a,b,ha,hb=>by
  unfold firstX at ha
  rw [List.cons_append,firstX]
  split at ha
  ·rename_i h;exact absurd ha h
  ·rename_i h;rw [if_neg h];exact firstX_app ha hb
theorem checkE_cat {a b:Src}(ha:checkE a=0) (hb:checkE b=0):checkE (catS a b)=if manyB (catS a b)=true then 2 else 0:=by
 have key : ∀ {x:Src},checkE x=0→firstX ruleE x.1=0∧firstX zoneE x.2.1=0∧firstX linkE x.2.2=0:=by
  intro x h
  unfold checkE at h
  split at h
  ·cases h
  ·split at h
   ·rename_i h1;exact absurd h h1
   ·rename_i h1
    split at h
    ·rename_i h2;exact absurd h h2
    ·rename_i h2;exact ⟨Decidable.of_not_not h1,Decidable.of_not_not h2,h⟩
 obtain ⟨a1,a2,a3⟩:=key ha
 obtain ⟨b1,b2,b3⟩:=key hb
 unfold checkE
 have e1:firstX ruleE (catS a b).1=0:=firstX_app a1 b1
 have e2:firstX zoneE (catS a b).2.1=0:=firstX_app a2 b2
 have e3:firstX linkE (catS a b).2.2=0:=firstX_app a3 b3
 split
 ·rfl
 ·rw [e1,e2,e3];rfl
theorem parseV_eq (s:ByteArray):parseV s=if (splitL s).2.2≠0 then (srcZ,(splitL s).2.1,(splitL s).2.2) else outP (splitL s).1:=rfl
theorem parse_parts {s t:ByteArray}(hs:(parseV s).2.2=0) (ht:(parseV t).2.2=0) :
  parseV (s++bA [10]++t)=if 8000≤s.size+t.size∨200<(splitL s).1.length+(splitL t).1.length∨checkE (catS (parseV s).1 (parseV t).1)≠0 then (srcZ,0,2) else (catS (parseV s).1 (parseV t).1,0,0):=by
 obtain ⟨s1,s2,s3,_⟩:=parseV_ok hs
 obtain ⟨t1,t2,t3,_⟩:=parseV_ok ht
 by_cases hz:8000≤s.size+t.size
 ·rw [if_pos (.inl hz)]
  have e:splitL (s++bA [10]++t)=([],0,2):=by
   unfold splitL
   rw [if_pos (by rw [ByteArray.size_append,ByteArray.size_append,bA_size,List.length_singleton];omega)]
  rw [parseV_eq (s++bA [10]++t),e];rfl
 ·have hP:=split_parts (s:=s) (t:=t) (by omega) s1
  rw [if_neg (show ¬(splitL t).2.2≠0 by rw [t1];simp)] at hP
  by_cases hl:200<(splitL s).1.length+(splitL t).1.length
  ·rw [if_pos hl] at hP
   rw [if_pos (.inr (.inl hl))]
   rw [parseV_eq (s++bA [10]++t),hP];rfl
  ·rw [if_neg hl] at hP
   have hr:runR (srcZ,false) ((splitL s).1++upBy (cutC 10 (aB s)).length (splitL t).1) = .inl (catS (parseV s).1 (parseV t).1,false):=by
    rw [runR_app s2]
    have e:=runR_cat (a:=(parseV s).1) (p:=(srcZ,false)) (by simp) t2
    have e0:upP (parseV s).1 (srcZ,false)=((parseV s).1,false):=by simp [upP,catS,srcZ]
    rw [e0] at e
    exact runR_num e
   have hc:=checkE_cat s3 t3
   rw [parseV_eq (s++bA [10]++t),hP,if_neg (by simp),outP,hr]
   simp only [endP]
   rw [if_neg (by simp)]
   by_cases hcc:checkE (catS (parseV s).1 (parseV t).1)=0
   ·rw [if_neg (by simp [hcc]),if_neg]
    ·rintro (h | h | h)
     ·exact hz h
     ·exact hl h
     ·exact h hcc
   ·rw [if_pos hcc,if_pos (.inr (.inr hcc))]
    rw [hc]
    rw [hc] at hcc
    split
    ·rfl
    ·rename_i h;rw [if_neg h] at hcc;exact absurd rfl hcc
end Go.Proofs.YtgjchdhdopgkkaaGreatDoor
end
section
namespace Go.Proofs.YtgjchdhdopgkkaaGreatDoor
open Go.Ab Go.RowKit Civ
def PT {α:Type}(f:TS→α×TS) (P:α→Prop):Prop := ∀ t,okT t→P (f t).1∧okT (f t).2
theorem PT.bind {α β:Type}{f:TS→α×TS}{k:α→TS→β×TS}{P:α→Prop}{Q:β→Prop}(h:PT f P) (hk : ∀ a,P a→PT (k a) Q):PT (bind2 f k) Q:=fun t ho=>hk _ (h t ho).1 _ (h t ho).2
theorem PT.ret {α:Type}{P:α→Prop}{a:α}(h:P a):PT (ret2 a) P:=fun t ho=>⟨h,ho⟩
theorem pt_next:PT tNext (fun s=>s.size≤24):=fun t ho=>okT_next ho rfl
theorem pt_name:PT tName (fun s=>s.size≤24):=fun t ho=>⟨(okT_next ho (s:=(tNext t).1) (u:=(tNext t).2) rfl).1,okT_name ho rfl⟩
theorem pt_num (s:ByteArray) (a b:Int):PT (tNum s a b) (fun _=>True):=fun t ho=>⟨trivial,okT_num ho rfl⟩
theorem pt_year:PT tYear (fun _=>True):=pt_next.bind (k:=fun s=>tNum s 4 4) fun s _=>pt_num s 4 4
theorem pt_day:PT tDay (fun _=>True):=pt_next.bind (k:=fun s=>tNum s 1 2) fun s _=>pt_num s 1 2
theorem pt_to (f:Int):PT (tToN f) (fun _=>True):=pt_next.bind (k:=tTo f) fun s _=>fun t ho=>⟨trivial,okT_to ho rfl⟩
theorem pt_month:PT tMonth (fun _=>True):=fun t ho=>⟨trivial,okT_month ho rfl⟩
theorem pt_form:PT tForm (fun _=>True):=fun t ho=>⟨trivial,okT_form ho rfl⟩
theorem pt_clock (d:Int):PT (tClock d) (fun _=>True):=fun t ho=>⟨trivial,okT_clock ho rfl⟩
theorem pt_span:PT tSpanN (fun _=>True):=pt_next.bind (k:=tSpan) fun s _=>fun t ho=>⟨trivial,okT_span ho rfl⟩
theorem pt_letter:PT tLetter (fun s=>s.size≤24):=by
 intro t ho
 have h:=okT_next ho (s:=(tNext t).1) (u:=(tNext t).2) rfl
 unfold tLetter
 refine ⟨?_,?_⟩
 ·dsimp only;split
  ·decide
  ·exact h.1
 ·dsimp only;split
  ·exact h.2
  ·exact h.2
def okRul (r:Rul):Prop:=r.1.size≤maxLen∧r.2.2.2.2.2.2.2.2.size≤maxLen
theorem le_max {n:Nat}(h:n≤24):n≤maxLen:=by unfold maxLen;omega
theorem pt_rule:PT tRule okRul :=
 pt_name.bind fun nm h1=>pt_year.bind fun f _=>(pt_to f).bind fun _ _=>pt_month.bind fun m _=>pt_form.bind fun k _=>(pt_clock 1).bind fun c _=>pt_span.bind fun sv _=>pt_letter.bind fun l h2=>PT.ret ⟨le_max h1,le_max h2⟩
theorem pt_shift:PT tShift (fun _=>True):=fun t ho=>⟨trivial,okT_shift ho rfl⟩
theorem pt_rules:PT tRules (fun p=>p.2.size≤24):=by
 refine pt_next.bind (k:=tRulesS) fun s hs t ho=>⟨?_,okT_rules ho rfl⟩
 unfold tRulesS
 split
 ·exact Nat.zero_le 24
 ·split
  ·exact Nat.zero_le 24
  ·exact hs
theorem pt_format:PT tFormat (fun s=>s.size≤24):=by
 intro t ho
 have h:=okT_next ho (s:=(tNext t).1) (u:=(tNext t).2) rfl
 unfold tFormat
 refine ⟨h.1,?_⟩
 dsimp only;split
 ·exact h.2
 ·exact h.2
theorem pt_until:PT tUntil (fun _=>True) :=
 pt_year.bind fun y _=>pt_month.bind fun m _=>pt_day.bind fun d _=>(pt_clock 2).bind fun c _=>PT.bind (P:=fun _=>True) (fun t ho=>⟨trivial,by unfold tWall;dsimp only;split <;> exact ho⟩) fun _ _=>PT.ret trivial
theorem pt_end:PT tEnd (fun _=>True):=by
 intro t ho
 refine ⟨trivial,?_⟩
 unfold tEnd
 split
 ·exact ho
 ·exact (pt_until t ho).2
theorem pt_era:PT tEra okEra :=
 pt_shift.bind fun sh _=>pt_rules.bind fun r h1=>pt_format.bind fun f h2=>pt_end.bind fun u _=>PT.ret ⟨le_max h1,le_max h2⟩
theorem okSrc_era {s:Src}{x:Era}(h:okSrc s) (hx:okEra x):okSrc (withEra s x).1:=by
 refine ⟨h.1,?_,h.2.2⟩
 show ∀ z∈addEra s.2.1 x,_
 obtain ⟨a,z,l⟩:=s
 have h2:=h.2.1
 simp only at h2 ⊢
 rcases List.eq_nil_or_concat z with rfl | ⟨i,y,rfl⟩
 ·intro z hz;cases hz
 ·rw [List.concat_eq_append,addEra_snoc]
  intro z hz
  rcases List.mem_append.1 hz with hz | hz
  ·exact h2 z (by rw [List.concat_eq_append];exact List.mem_append_left _ hz)
  ·rw [List.mem_singleton] at hz
   subst hz
   have hy:=h2 y (by rw [List.concat_eq_append];simp)
   refine ⟨hy.1,fun e he=>?_⟩
   rcases List.mem_append.1 he with he | he
   ·exact hy.2 e he
   ·rw [List.mem_singleton] at he;subst he;exact hx
theorem pt_body {p:PS}(h:okSrc p.1):PT (bodyT p) (fun q=>okSrc q.1):=by
 unfold bodyT
 split
 ·exact pt_era.bind fun x hx=>PT.ret (okSrc_era h hx)
 ·refine pt_next.bind fun w _=>?_
  split
  ·refine pt_rule.bind fun r hr=>PT.ret ⟨fun y hy=>?_,h.2.1,h.2.2⟩
   rcases List.mem_append.1 hy with hy | hy
   ·exact h.1 y hy
   ·rw [List.mem_singleton] at hy;subst hy;exact hr
  ·split
   ·refine pt_name.bind fun n hn=>pt_era.bind fun x hx=>PT.ret (okSrc_era ⟨h.1,fun y hy=>?_,h.2.2⟩ hx)
    rcases List.mem_append.1 hy with hy | hy
    ·exact h.2.1 y hy
    ·rw [List.mem_singleton] at hy;subst hy;exact ⟨le_max hn,fun e he=>by cases he⟩
   ·split
    ·refine pt_name.bind fun a ha=>pt_name.bind fun b hb=>PT.ret ⟨h.1,h.2.1,fun y hy=>?_⟩
     rcases List.mem_append.1 hy with hy | hy
     ·exact h.2.2 y hy
     ·rw [List.mem_singleton] at hy;subst hy;exact ⟨le_max ha,le_max hb⟩
    ·exact fun t ho=>⟨h,ho⟩
theorem lineR_none {p q:PS}{x:Ln}{u:TS}(hB:bodyT p (x.2.2,false)=(q,u)) (h:u.2=true∨u.1≠[]∨x.2.1≠p.2):lineR p x=none:=lineR_bad (by unfold badT;rw [hB];exact h)
theorem lineR_some {p q:PS}{x:Ln}{u:TS}(hB:bodyT p (x.2.2,false)=(q,u)) (h1:u.2=false) (h2:u.1=[]) (h3:x.2.1=p.2):lineR p x=some q:=by
 have:=lineR_ok (p:=p) (x:=x) (by unfold badT;rw [hB];simp [h1,h2,h3])
 rw [this,hB]
def curS (s:Src) (o:Option Zon):Src:=(s.1,s.2.1++o.toList,s.2.2)
theorem curS_none {s:Src}:curS s none=s:=by unfold curS;simp
def zC (N v:Nat):Option Zon→List AV
 | none=>[]
 | some z=>[sv z.1,.own (N+5) v z.2.length]
def eC:Option Zon→List Era
 | none=>[]
 | some z=>z.2
theorem ltL_app {n:Nat}{b:List AV}(hb:AV.ltL n b=true) : ∀ {a:List AV},AV.ltL n a=true→AV.ltL n (a++b)=true
 | [],_=>hb
 | x::a,h=>by
  simp only [List.cons_append,AV.ltL,Bool.and_eq_true] at h ⊢
  exact ⟨h.1,ltL_app hb h.2⟩
theorem zc_lt {N v:Nat}{l:List Zon}{o:Option Zon}:AV.ltL (N+6) (rows zonC l++zC N v o)=true:=by
 refine ltL_app ?_ (zon_lt l)
 cases o <;> simp [zC,AV.ltL,AV.lt]
theorem zc_len {N v:Nat}{l:List Zon}{o:Option Zon}:(rows zonC l++zC N v o).length=(l.length+o.toList.length)*2:=by
 rw [List.length_append,zon_len]
 cases o <;> simp [zC] <;> omega
theorem zc_at {l:List Zon}{a b:AV}{off:Nat}(h:off=l.length*2+1):(rows zonC l++[a,b])[off]?=some b:=by
 subst h
 rw [List.getElem?_append_right (by rw [zon_len];omega),zon_len,Nat.add_sub_cancel_left];rfl
theorem zc_set {l:List Zon}{a b c:AV}{off:Nat}(h:off=l.length*2+1):setCells (rows zonC l++[a,b]) off [c]=rows zonC l++[a,c]:=by
 subst h
 simp only [setCells]
 rw [List.set_append_right _ _ (by rw [zon_len];omega),zon_len,Nat.add_sub_cancel_left];rfl
theorem zc_put {l:List Zon}{a b c:AV}:aPut (rows zonC l++[a,b]) (some (l.length*2+1)) c=rows zonC l++[a,c]:=zc_set rfl
theorem zc_at2 {l:List Zon}{N v:Nat}{a b:AV}{off:Nat}(h:off=l.length*2+1):(rows zonC l++zC N v none++[a,b])[off]?=some b:=by
 rw [show rows zonC l++zC N v none=rows zonC l from List.append_nil _];exact zc_at h
theorem zc_put2 {l:List Zon}{N v:Nat}{a b c:AV}:aPut (rows zonC l++zC N v none++[a,b]) (some (l.length*2+1)) c=rows zonC l++[a,c]:=by
 rw [show rows zonC l++zC N v none=rows zonC l from List.append_nil _];exact zc_put
theorem split_fields {s:ByteArray} : ∀ x∈(splitL s).1,∀ f∈x.2.2,f.size≤24:=by
 intro x hx f hf
 have h:=splitL_good x hx
 unfold lineE at h
 split at h
 ·cases h
 ·split at h
  ·cases h
  ·have : ∀ {fs:List ByteArray},firstE fs=0 → ∀ f∈fs,fieldE f=0:=by
    intro fs
    induction fs with
    | nil=>intro _ f hf;cases hf
    | cons g fs ih =>
     intro h f hf
     rw [firstE] at h
     split at h
     ·rename_i h1;exact absurd h h1
     ·rename_i h1
      rcases List.mem_cons.1 hf with rfl | hf
      ·exact Decidable.of_not_not h1
      ·exact ih h f hf
   exact (fieldE_all (this h f hf)).2
theorem split_len {s:ByteArray}:(splitL s).1.length≤200:=by
 unfold splitL
 split
 ·simp
 ·split
  ·rename_i h2;rw [linesL_bad h2];simp
  ·split
   ·simp
   ·omega
end Go.Proofs.YtgjchdhdopgkkaaGreatDoor
end
section
namespace Go.Proofs.YtgjchdhdopgkkaaGreatDoor
open Go.Ab Go.RowKit Civ
attribute [local simp] str_lt rul_lt era_lt zon_lt lnk_lt
section
theorem SrcPa_hl10 {h:AH}{n:Nat}(hn:h.length=n) {e0 e1 e2 e3 e4 e5 e6 e7 e8 e9:Ent}:(h++[e0,e1,e2,e3,e4,e5,e6,e7,e8,e9]).length=n+10:=by subst hn;simp
theorem SrcPa_ha10 {h:AH}{e0 e1 e2 e3 e4 e5 e6 e7 e8 e9 e:Ent}:(h++[e0,e1,e2,e3,e4,e5,e6,e7,e8,e9])++[e]=h++[e0,e1,e2,e3,e4,e5,e6,e7,e8,e9,e]:=by simp
theorem SrcPa_sc0_10 {a0 a1 a2 a3 a4 a5 a6 a7 a8 a9 c0 c1 c2 c3 c4 c5 c6 c7 c8 c9:AV}{l:List AV}:setCells (a0::a1::a2::a3::a4::a5::a6::a7::a8::a9::l) 0 [c0,c1,c2,c3,c4,c5,c6,c7,c8,c9]=c0::c1::c2::c3::c4::c5::c6::c7::c8::c9::l:=rfl
theorem SrcPa_hs10 {h:AH}{n:Nat}(hn:h.length=n) {e0 e1 e2 e3 e4 e5 e6 e7 e8 e9 e0_ e:Ent}{l:AH}:(h++(e0::e1::e2::e3::e4::e5::e6::e7::e8::e9::e0_::l)).set (n+10) e=h++(e0::e1::e2::e3::e4::e5::e6::e7::e8::e9::e::l):=by subst hn;simp
theorem SrcPa_tk0_10 {a0 a1 a2 a3 a4 a5 a6 a7 a8 a9:AV}{l:List AV}:((a0::a1::a2::a3::a4::a5::a6::a7::a8::a9::l).drop 0).take 10=[a0,a1,a2,a3,a4,a5,a6,a7,a8,a9]:=rfl
theorem SrcPa_era_25 {τ:Operand→AV}{y0:Operand}{x0_0 x0_1 x0_2 x0_3 x0_4 x0_5 x0_6 x0_7 x0_8 x0_9:AV}(h0:cellsV (τ y0)=some [x0_0,x0_1,x0_2,x0_3,x0_4,x0_5,x0_6,x0_7,x0_8,x0_9]) (l0:[x0_0,x0_1,x0_2,x0_3,x0_4,x0_5,x0_6,x0_7,x0_8,x0_9].all leaf=true):fillAV τ [(0,10,y0)] [(.v (.int .i64 0)),(.v (.string ⟨#[]⟩)),(.v (.int .i64 0)),(.v (.string ⟨#[]⟩)),(.v (.bool false)),(.v (.int .i64 0)),(.v (.int .i64 0)),(.v (.int .i64 0)),(.v (.int .i64 0)),(.v (.int .i64 0))]=some [x0_0,x0_1,x0_2,x0_3,x0_4,x0_5,x0_6,x0_7,x0_8,x0_9]:=by
 simp only [fillAV,h0,l0]
 rfl
theorem SrcPa_lap0 { e:Ent}:([]:AH)++[e]=[e]:=rfl
theorem SrcPa_lj11_1 {e0 e1 e2 e3 e4 e5 e6 e7 e8 e9 e10 d0:Ent}:([e0,e1,e2,e3,e4,e5,e6,e7,e8,e9,e10]:AH)++[d0]=[e0,e1,e2,e3,e4,e5,e6,e7,e8,e9,e10,d0]:=rfl
theorem SrcPa_tk_10 {a0 a1 a2 a3 a4 a5 a6 a7 a8 a9:AV}{l:List AV}:(a0::a1::a2::a3::a4::a5::a6::a7::a8::a9::l).take 10=[a0,a1,a2,a3,a4,a5,a6,a7,a8,a9]:=rfl
theorem SrcPa_sc3_1 {a0 a1 a2 a3 c0:AV}{l:List AV}:setCells (a0::a1::a2::a3::l) 3 [c0]=a0::a1::a2::c0::l:=rfl
theorem SrcPa_hl11 {h:AH}{n:Nat}(hn:h.length=n) {e0 e1 e2 e3 e4 e5 e6 e7 e8 e9 e10:Ent}:(h++[e0,e1,e2,e3,e4,e5,e6,e7,e8,e9,e10]).length=n+11:=by subst hn;simp
theorem SrcPa_ha11 {h:AH}{e0 e1 e2 e3 e4 e5 e6 e7 e8 e9 e10 e:Ent}:(h++[e0,e1,e2,e3,e4,e5,e6,e7,e8,e9,e10])++[e]=h++[e0,e1,e2,e3,e4,e5,e6,e7,e8,e9,e10,e]:=by simp
theorem SrcPa_hs11 {h:AH}{n:Nat}(hn:h.length=n) {e0 e1 e2 e3 e4 e5 e6 e7 e8 e9 e10 e0_ e:Ent}{l:AH}:(h++(e0::e1::e2::e3::e4::e5::e6::e7::e8::e9::e10::e0_::l)).set (n+11) e=h++(e0::e1::e2::e3::e4::e5::e6::e7::e8::e9::e10::e::l):=by subst hn;simp
theorem SrcPa_lj12_1 {e0 e1 e2 e3 e4 e5 e6 e7 e8 e9 e10 e11 d0:Ent}:([e0,e1,e2,e3,e4,e5,e6,e7,e8,e9,e10,e11]:AH)++[d0]=[e0,e1,e2,e3,e4,e5,e6,e7,e8,e9,e10,e11,d0]:=rfl
end
def c113:AC:=(.seq (.drw [Mv 6 0,Nk 7 6,Fa 8 0 7,Fa 9 1 8,Ld 10 9,Mv 11 0,Nk 12 11,Fa 13 0 12,Fa 14 1 13,Ld 15 14,Oo 16 (.len false (.tmp 15)),Oo 17 (.bin .sub (.tmp 16) (Ci 1)),Oo 18 (.ia 2 (.tmp 10) (.tmp 17)),Mv 4 18] [] []) (.seq (.reg [Mv 19 1,Oo 20 (.call (.func 142) [(.tmp 19)]),Oo 5 (.new 64 10 [(iv 0),Ss,(iv 0),Ss,(.v (.bool false)),(iv 0),(iv 0),(iv 0),(iv 0),(iv 0)]),⟨none,none,(.store 10 (.tmp 5) (.tmp 20))⟩]) (.seq (.drw [Mv 21 4,Mv 22 4,Nk 23 22,Fa 24 1 23,Ld 25 24,Oo 26 (.load true 10 (.tmp 5)),Oo 27 (.lit 64 10 1 [(iv 0),Ss,(iv 0),Ss,(.v (.bool false)),(iv 0),(iv 0),(iv 0),(iv 0),(iv 0)] [(0,(10,(.tmp 26)))])] [false,false,false,false] [Oo 28 (.app 64 10 96 (.tmp 25) (.tmp 27)),Nk 29 21,Fa 30 1 29,⟨none,none,(.store 1 (.tmp 30) (.tmp 28))⟩]) (.reg [Mv 31 0,Fa 32 4 5,Ld 33 32,Oo 34 (.un .not (.tmp 33)),Nk 35 31,Fa 36 3 35,⟨none,none,(.store 1 (.tmp 36) (.tmp 34))⟩]))))
theorem k113:compF Tryz.prog 113=some ⟨c113,[],37⟩:=by kernel_rfl
abbrev parE (M v1 v2 v3 n1 m n3:Nat) (must:Bool):Ent:=.mk 0 81 4 [.own (M+1) v1 n1,.own (M+2) v2 m,.own (M+3) v3 n3,bv must]
theorem zoD_lt {n v k:Nat}{l:List Zon}{nm:ByteArray}{m id:Nat}(h:id<n):(Ent.mk v 52 2 (rows zonC l++[sv nm,.own id k m])).lt n=true:=by
 show AV.ltL n _=true
 refine ltL_app ?_ (zon_lt l)
 simp [AV.ltL,AV.lt,h]
theorem lt_upd {h0 l l':AH}{n:Nat}(hlt : ∀ e∈h0++l,e.lt n=true) (hl : ∀ e∈l',e∈l∨e.lt n=true) : ∀ e∈h0++l',e.lt n=true:=by
 intro e he
 rcases List.mem_append.1 he with he | he
 ·exact hlt e (List.mem_append_left _ he)
 rcases hl e he with h | h
 ·exact hlt e (List.mem_append_right _ h)
 exact h
set_option maxHeartbeats 2000000 in
theorem pera10 {h0:AH}{M:Nat}(hM:h0.length=M) {R K a b c d:Ent}{v1 v2 v3 v4 n1 n3:Nat}{zs:List Zon}{nm:ByteArray}{es:List Era}{must:Bool}{l:List ByteArray}(ho:okL l) (hz2:zs.length≤200) (he2:es.length≤200) :
  ACalls Tryz.prog 113 [.ptr (M+0) 0 0,.ptr (M+9) 0 0] (h0++[parE M v1 v2 v3 n1 (zs.length+1) n3 must,R,.mk v2 52 2 (rows zonC zs++[sv nm,.own (M+4) v4 es.length]),K,.mk v4 64 10 (rows eraC es),a,b,c,d,rdE l]) fun y h'=>match rEra l with
   | none=>y = .pan wrA ∧ ∃ l',h'=h0++[parE M v1 v2 v3 n1 (zs.length+1) n3 must,R,.mk v2 52 2 (rows zonC zs++[sv nm,.own (M+4) v4 es.length]),K,.mk v4 64 10 (rows eraC es),a,b,c,d,rdE l']
   | some p=>y = .ret (.tup [])∧h'=h0++[parE M v1 v2 v3 n1 (zs.length+1) n3 (!openE p.1),R,.mk v2 52 2 (rows zonC zs++[sv nm,.own (M+4) (v4+1) (es.length+1)]),K,.mk (v4+1) 64 10 (rows eraC (es++[p.1])),a,b,c,d,rdE p.2]:=by
 refine tJ' k113 fun N hn hlt hlA hbd=>?_
 simp only [tA',AV.bdL,AV.bd,and_true,true_and] at hbd ⊢
 obtain rfl:N=M+10:=by rw [←hn,←hM];simp
 rw [List.append_nil]
 refine w_seq<|w_drwE<|D' (v_mv lk0) pt6<|D' (v_nckp lk6) pt7<|D' (v_fap0 lk7) pt8<|D' (v_fap0 lk8) pt9<|D' (v_loadp lk9 (hga hM rfl) gt1) pt10<|D' (v_mv lk0) pt11<|D' (v_nckp lk11) pt12<|D' (v_fap0 lk12) pt13<|D' (v_fap0 lk13) pt14<|D' (v_loadp lk14 (hga hM rfl) gt1) pt15<|D' (v_lenO lk15) pt16<|?_
 refine D' (v_sub lk16 lki (by omega) (by omega)) pt17 ?_
 refine D' (v_iaO lk10 lk17 (hga hM rfl) (nb' rfl) (by omega) (by omega) (by rw [List.length_append,zon_len];simp <;> omega)) pt18 ?_
 refine D' (v_mv lk18) pt4<|d_nil<|?_
 refine e_nil ?_
 refine sn'<|wr'<|mv' lk1 pt19<|?_
 by_cases hs16 : ∃ p,rEra l=some p
 ·obtain ⟨⟨x,l1⟩,e1⟩:=hs16
  refine s_calls (mp1 lk19 mp0) (sera_e ho e1 (hga hM rfl)) (hs9 hM) pt20<|E' (e_new (SrcPa_hl10 hM) SrcPa_ha10) pt5<|E' (e_store lk5 (cvl lk20 rfl) (hga hM rfl) rfl (nb' rfl) rfl SrcPa_sc0_10 (SrcPa_hs10 hM)) ptn<|sn'<|w_seq<|w_drwE<|D' (v_mv lk4) pt21<|D' (v_mv lk4) pt22<|D' (v_nckp lk22) pt23<|D' (v_fap lk23) pt24<|?_
  refine D' (v_loadp lk24 (hga hM rfl) (zc_at (by omega))) pt25 ?_
  refine D' (v_loadpA lk5 (hga hM rfl) SrcPa_tk0_10 rfl) pt26<|d_eff rfl rfl (hlk hM rfl) (l_lit (SrcPa_era_25 (cvl lk26 rfl) rfl)) pt27 SrcPa_lap0<|d_nil<|?_
  refine e_ent SrcPa_lj11_1 ?_
  refine E' (e_app (sc_own lk27 (hga hM rfl) rfl SrcPa_tk_10 (nb' rfl)) lk25 (hga hM rfl) (era_len _) (by omega) rfl (hs4 hM)) pt28 ?_
  refine V' (v_nckp lk21) pt29<|V' (v_fap lk29) pt30<|?_
  refine E' (e_store lk30 (cvl lk28 rfl) (hga hM rfl) rfl (by rw [List.length_append,zon_len];simp <;> omega) rfl (zc_set (by omega)) (hs2 hM)) ptn ?_
  refine sn'<|w_reg<|mv' lk0 pt31<|V' (v_fap0 lk5) pt32<|V' (v_loadp lk32 (hga hM rfl) gt4) pt33<|V' (v_notB lk33) pt34<|V' (v_nckp lk31) pt35<|V' (v_fap0 lk35) pt36<|E' (e_store lk36 (cvl lk34 rfl) (hga hM rfl) rfl (nb' rfl) rfl SrcPa_sc3_1 (hs0 hM)) ptn<|s_nil<|w_end (rs0)<|?_
  refine ⟨h0++[parE M v1 v2 v3 n1 (zs.length+1) n3 (!openE x),R,.mk v2 52 2 (rows zonC zs++[sv nm,.own (M+4) (v4+1) (es.length+1)]),K,.mk (v4+1) 64 10 (rows eraC (es++[x])),a,b,c,d,rdE l1],?z9,?h9,by simp [hM],(lt_upd hlt (by intro e he;simp only [List.mem_cons,List.not_mem_nil,or_false] at he;rcases he with rfl | rfl | rfl | rfl | rfl | rfl | rfl | rfl | rfl | rfl <;> first | (left;simp;done) | (right;simp [Ent.lt,AV.lt,AV.ltL,str_lt,era_lt];done) | (right;exact zoD_lt (by omega)))),rfl,by rw [e1];exact ⟨rfl,rfl⟩⟩
  case h9 =>
   rw [rows_app,rows_one,List.append_assoc]
   rfl
 have e1:=no_some hs16
 refine s_callPanX (mp1 lk19 mp0) (sera_p ho e1 (hga hM rfl)) (fun hP_ hPp_=>?_)
 refine p_thn<|w_pan<|?_
 obtain ⟨l',rfl⟩:=hPp_
 rw [hs9 hM]
 exact ⟨h0++[parE M v1 v2 v3 n1 (zs.length+1) n3 must,R,.mk v2 52 2 (rows zonC zs++[sv nm,.own (M+4) v4 es.length]),K,.mk v4 64 10 (rows eraC es),a,b,c,d,rdE l'],[],by simp,by simp [hM],(lt_upd hlt (by intro e he;simp only [List.mem_cons,List.not_mem_nil,or_false] at he;rcases he with rfl | rfl | rfl | rfl | rfl | rfl | rfl | rfl | rfl | rfl <;> first | (left;simp;done) | (right;simp [Ent.lt,AV.lt,AV.ltL,str_lt,era_lt];done) | (right;exact zoD_lt (by omega)))),rfl,by rw [e1];exact ⟨rfl,l',rfl⟩⟩
set_option maxHeartbeats 2000000 in
theorem pera11 {h0:AH}{M:Nat}(hM:h0.length=M) {R K a b c d e0:Ent}{v1 v2 v3 v4 n1 n3:Nat}{zs:List Zon}{nm:ByteArray}{es:List Era}{must:Bool}{l:List ByteArray}(ho:okL l) (hz2:zs.length≤200) (he2:es.length≤200) :
  ACalls Tryz.prog 113 [.ptr (M+0) 0 0,.ptr (M+9) 0 0] (h0++[parE M v1 v2 v3 n1 (zs.length+1) n3 must,R,.mk v2 52 2 (rows zonC zs++[sv nm,.own (M+4) v4 es.length]),K,.mk v4 64 10 (rows eraC es),a,b,c,d,rdE l,e0]) fun y h'=>match rEra l with
   | none=>y = .pan wrA ∧ ∃ l',h'=h0++[parE M v1 v2 v3 n1 (zs.length+1) n3 must,R,.mk v2 52 2 (rows zonC zs++[sv nm,.own (M+4) v4 es.length]),K,.mk v4 64 10 (rows eraC es),a,b,c,d,rdE l',e0]
   | some p=>y = .ret (.tup [])∧h'=h0++[parE M v1 v2 v3 n1 (zs.length+1) n3 (!openE p.1),R,.mk v2 52 2 (rows zonC zs++[sv nm,.own (M+4) (v4+1) (es.length+1)]),K,.mk (v4+1) 64 10 (rows eraC (es++[p.1])),a,b,c,d,rdE p.2,e0]:=by
 refine tJ' k113 fun N hn hlt hlA hbd=>?_
 simp only [tA',AV.bdL,AV.bd,and_true,true_and] at hbd ⊢
 obtain rfl:N=M+11:=by rw [←hn,←hM];simp
 rw [List.append_nil]
 refine w_seq<|w_drwE<|D' (v_mv lk0) pt6<|D' (v_nckp lk6) pt7<|D' (v_fap0 lk7) pt8<|D' (v_fap0 lk8) pt9<|D' (v_loadp lk9 (hga hM rfl) gt1) pt10<|D' (v_mv lk0) pt11<|D' (v_nckp lk11) pt12<|D' (v_fap0 lk12) pt13<|D' (v_fap0 lk13) pt14<|D' (v_loadp lk14 (hga hM rfl) gt1) pt15<|D' (v_lenO lk15) pt16<|?_
 refine D' (v_sub lk16 lki (by omega) (by omega)) pt17 ?_
 refine D' (v_iaO lk10 lk17 (hga hM rfl) (nb' rfl) (by omega) (by omega) (by rw [List.length_append,zon_len];simp <;> omega)) pt18 ?_
 refine D' (v_mv lk18) pt4<|d_nil<|?_
 refine e_nil ?_
 refine sn'<|wr'<|mv' lk1 pt19<|?_
 by_cases hs16 : ∃ p,rEra l=some p
 ·obtain ⟨⟨x,l1⟩,e1⟩:=hs16
  refine s_calls (mp1 lk19 mp0) (sera_e ho e1 (hga hM rfl)) (hs9 hM) pt20<|E' (e_new (SrcPa_hl11 hM) SrcPa_ha11) pt5<|E' (e_store lk5 (cvl lk20 rfl) (hga hM rfl) rfl (nb' rfl) rfl SrcPa_sc0_10 (SrcPa_hs11 hM)) ptn<|sn'<|w_seq<|w_drwE<|D' (v_mv lk4) pt21<|D' (v_mv lk4) pt22<|D' (v_nckp lk22) pt23<|D' (v_fap lk23) pt24<|?_
  refine D' (v_loadp lk24 (hga hM rfl) (zc_at (by omega))) pt25 ?_
  refine D' (v_loadpA lk5 (hga hM rfl) SrcPa_tk0_10 rfl) pt26<|d_eff rfl rfl (hlk hM rfl) (l_lit (SrcPa_era_25 (cvl lk26 rfl) rfl)) pt27 SrcPa_lap0<|d_nil<|?_
  refine e_ent SrcPa_lj12_1 ?_
  refine E' (e_app (sc_own lk27 (hga hM rfl) rfl SrcPa_tk_10 (nb' rfl)) lk25 (hga hM rfl) (era_len _) (by omega) rfl (hs4 hM)) pt28 ?_
  refine V' (v_nckp lk21) pt29<|V' (v_fap lk29) pt30<|?_
  refine E' (e_store lk30 (cvl lk28 rfl) (hga hM rfl) rfl (by rw [List.length_append,zon_len];simp <;> omega) rfl (zc_set (by omega)) (hs2 hM)) ptn ?_
  refine sn'<|w_reg<|mv' lk0 pt31<|V' (v_fap0 lk5) pt32<|V' (v_loadp lk32 (hga hM rfl) gt4) pt33<|V' (v_notB lk33) pt34<|V' (v_nckp lk31) pt35<|V' (v_fap0 lk35) pt36<|E' (e_store lk36 (cvl lk34 rfl) (hga hM rfl) rfl (nb' rfl) rfl SrcPa_sc3_1 (hs0 hM)) ptn<|s_nil<|w_end (rs0)<|?_
  refine ⟨h0++[parE M v1 v2 v3 n1 (zs.length+1) n3 (!openE x),R,.mk v2 52 2 (rows zonC zs++[sv nm,.own (M+4) (v4+1) (es.length+1)]),K,.mk (v4+1) 64 10 (rows eraC (es++[x])),a,b,c,d,rdE l1,e0],?z9,?h9,by simp [hM],(lt_upd hlt (by intro e he;simp only [List.mem_cons,List.not_mem_nil,or_false] at he;rcases he with rfl | rfl | rfl | rfl | rfl | rfl | rfl | rfl | rfl | rfl | rfl <;> first | (left;simp;done) | (right;simp [Ent.lt,AV.lt,AV.ltL,str_lt,era_lt];done) | (right;exact zoD_lt (by omega)))),rfl,by rw [e1];exact ⟨rfl,rfl⟩⟩
  case h9 =>
   rw [rows_app,rows_one,List.append_assoc]
   rfl
 have e1:=no_some hs16
 refine s_callPanX (mp1 lk19 mp0) (sera_p ho e1 (hga hM rfl)) (fun hP_ hPp_=>?_)
 refine p_thn<|w_pan<|?_
 obtain ⟨l',rfl⟩:=hPp_
 rw [hs9 hM]
 exact ⟨h0++[parE M v1 v2 v3 n1 (zs.length+1) n3 must,R,.mk v2 52 2 (rows zonC zs++[sv nm,.own (M+4) v4 es.length]),K,.mk v4 64 10 (rows eraC es),a,b,c,d,rdE l',e0],[],by simp,by simp [hM],(lt_upd hlt (by intro e he;simp only [List.mem_cons,List.not_mem_nil,or_false] at he;rcases he with rfl | rfl | rfl | rfl | rfl | rfl | rfl | rfl | rfl | rfl | rfl <;> first | (left;simp;done) | (right;simp [Ent.lt,AV.lt,AV.ltL,str_lt,era_lt];done) | (right;exact zoD_lt (by omega)))),rfl,by rw [e1];exact ⟨rfl,l',rfl⟩⟩
end Go.Proofs.YtgjchdhdopgkkaaGreatDoor
end
section
namespace Go.Proofs.YtgjchdhdopgkkaaGreatDoor
open Go.Ab Go.RowKit Civ
section
theorem SrcPb_line_4 {τ:Operand→AV}{y0:Operand}{x0_0:AV}(h0:cellsV (τ y0)=some [x0_0]) (l0:[x0_0].all leaf=true):fillAV τ [(0,1,y0)] [(.sl 0 0 true [])]=some [x0_0]:=by
 simp only [fillAV,h0,l0]
 rfl
theorem SrcPb_hl10 {h:AH}{n:Nat}(hn:h.length=n) {e0 e1 e2 e3 e4 e5 e6 e7 e8 e9:Ent}:(h++[e0,e1,e2,e3,e4,e5,e6,e7,e8,e9]).length=n+10:=by subst hn;simp
theorem SrcPb_ha10 {h:AH}{e0 e1 e2 e3 e4 e5 e6 e7 e8 e9 e:Ent}:(h++[e0,e1,e2,e3,e4,e5,e6,e7,e8,e9])++[e]=h++[e0,e1,e2,e3,e4,e5,e6,e7,e8,e9,e]:=by simp
theorem SrcPb_sc0_11 {a0 a1 a2 a3 a4 a5 a6 a7 a8 a9 a10 c0 c1 c2 c3 c4 c5 c6 c7 c8 c9 c10:AV}{l:List AV}:setCells (a0::a1::a2::a3::a4::a5::a6::a7::a8::a9::a10::l) 0 [c0,c1,c2,c3,c4,c5,c6,c7,c8,c9,c10]=c0::c1::c2::c3::c4::c5::c6::c7::c8::c9::c10::l:=rfl
theorem SrcPb_hs10 {h:AH}{n:Nat}(hn:h.length=n) {e0 e1 e2 e3 e4 e5 e6 e7 e8 e9 e0_ e:Ent}{l:AH}:(h++(e0::e1::e2::e3::e4::e5::e6::e7::e8::e9::e0_::l)).set (n+10) e=h++(e0::e1::e2::e3::e4::e5::e6::e7::e8::e9::e::l):=by subst hn;simp
theorem SrcPb_tk0_11 {a0 a1 a2 a3 a4 a5 a6 a7 a8 a9 a10:AV}{l:List AV}:((a0::a1::a2::a3::a4::a5::a6::a7::a8::a9::a10::l).drop 0).take 11=[a0,a1,a2,a3,a4,a5,a6,a7,a8,a9,a10]:=rfl
theorem SrcPb_line_46 {τ:Operand→AV}{y0:Operand}{x0_0 x0_1 x0_2 x0_3 x0_4 x0_5 x0_6 x0_7 x0_8 x0_9 x0_10:AV}(h0:cellsV (τ y0)=some [x0_0,x0_1,x0_2,x0_3,x0_4,x0_5,x0_6,x0_7,x0_8,x0_9,x0_10]) (l0:[x0_0,x0_1,x0_2,x0_3,x0_4,x0_5,x0_6,x0_7,x0_8,x0_9,x0_10].all leaf=true):fillAV τ [(0,11,y0)] [(.v (.string ⟨#[]⟩)),(.v (.int .i64 0)),(.v (.int .i64 0)),(.v (.int .i64 0)),(.v (.int .i64 0)),(.v (.int .i64 0)),(.v (.int .i64 0)),(.v (.int .i64 0)),(.v (.int .i64 0)),(.v (.int .i64 0)),(.v (.string ⟨#[]⟩))]=some [x0_0,x0_1,x0_2,x0_3,x0_4,x0_5,x0_6,x0_7,x0_8,x0_9,x0_10]:=by
 simp only [fillAV,h0,l0]
 rfl
theorem SrcPb_lap0 { e:Ent}:([]:AH)++[e]=[e]:=rfl
theorem SrcPb_lj11_1 {e0 e1 e2 e3 e4 e5 e6 e7 e8 e9 e10 d0:Ent}:([e0,e1,e2,e3,e4,e5,e6,e7,e8,e9,e10]:AH)++[d0]=[e0,e1,e2,e3,e4,e5,e6,e7,e8,e9,e10,d0]:=rfl
theorem SrcPb_tk_11 {a0 a1 a2 a3 a4 a5 a6 a7 a8 a9 a10:AV}{l:List AV}:(a0::a1::a2::a3::a4::a5::a6::a7::a8::a9::a10::l).take 11=[a0,a1,a2,a3,a4,a5,a6,a7,a8,a9,a10]:=rfl
theorem SrcPb_sc0_1 {a0 c0:AV}{l:List AV}:setCells (a0::l) 0 [c0]=c0::l:=rfl
theorem SrcPb_line_65 {τ:Operand→AV}{y0:Operand}{x0_0:AV}(h0:cellsV (τ y0)=some [x0_0]) (l0:[x0_0].all leaf=true):fillAV τ [(0,1,y0)] [(.v (.string ⟨#[]⟩)),(.sl 0 0 true [])]=some [x0_0,(.sl 0 0 true [])]:=by
 simp only [fillAV,h0,l0]
 rfl
theorem SrcPb_line_66 {τ:Operand→AV}{y0:Operand}{x0_0 x0_1:AV}(h0:cellsV (τ y0)=some [x0_0,x0_1]) (l0:[x0_0,x0_1].all leaf=true):fillAV τ [(0,2,y0)] [(.v (.string ⟨#[]⟩)),(.sl 0 0 true [])]=some [x0_0,x0_1]:=by
 simp only [fillAV,h0,l0]
 rfl
theorem SrcPb_tk_2 {a0 a1:AV}{l:List AV}:(a0::a1::l).take 2=[a0,a1]:=rfl
theorem SrcPb_sc1_1 {a0 a1 c0:AV}{l:List AV}:setCells (a0::a1::l) 1 [c0]=a0::c0::l:=rfl
theorem SrcPb_line_90 {τ:Operand→AV}{y0 y1:Operand}{x0_0 x1_0:AV}(h0:cellsV (τ y0)=some [x0_0]) (l0:[x0_0].all leaf=true) (h1:cellsV (τ y1)=some [x1_0]) (l1:[x1_0].all leaf=true):fillAV τ [(0,1,y0),(1,1,y1)] [(.v (.string ⟨#[]⟩)),(.v (.string ⟨#[]⟩))]=some [x0_0,x1_0]:=by
 simp only [fillAV,h0,l0,h1,l1]
 rfl
theorem SrcPb_line_91 {τ:Operand→AV}{y0:Operand}{x0_0 x0_1:AV}(h0:cellsV (τ y0)=some [x0_0,x0_1]) (l0:[x0_0,x0_1].all leaf=true):fillAV τ [(0,2,y0)] [(.v (.string ⟨#[]⟩)),(.v (.string ⟨#[]⟩))]=some [x0_0,x0_1]:=by
 simp only [fillAV,h0,l0]
 rfl
theorem SrcPb_sc2_1 {a0 a1 a2 c0:AV}{l:List AV}:setCells (a0::a1::a2::l) 2 [c0]=a0::a1::c0::l:=rfl
end
def c79:AC:=(.seq (.reg [Oo 3 (.box 67 3 (.tmp 1))]) (.seq (.reg [Fa 9 2 3,Ld 10 9,Oo 11 (.build [(.sl 0 0 true [])] [(0,(1,(.tmp 10)))]),Oo 12 (.box 146 1 (.tmp 11)),Mv 4 12]) (.seq (.seq (.drw [Fa 13 1 3,Ld 14 13,Mv 15 0,Nk 16 15,Fa 17 3 16,Ld 18 17,Oo 19 (.eqb true (.tmp 14) (.tmp 18))] [] []) (.cond (.tmp 19) (.reg [Oo 20 (.call (.func 111) [])]) .skip)) (.seq (.reg [Oo 5 (.mv (.const (.string ⟨#[]⟩)))]) (.seq (.seq (.reg [Mv 21 0,Nk 22 21,Fa 23 3 22,Ld 24 23,Oo 25 (.un .not (.tmp 24))]) (.cond (.tmp 25) (.reg [Mv 26 4,Oo 27 (.call (.func 112) [(.tmp 26)]),Mv 5 27]) .skip)) (.seq (.block 0 (.seq (.reg [Mv 30 0,Nk 31 30,Fa 32 3 31,Ld 33 32,Mv 29 33]) (.cond (.tmp 29) (.reg [Mv 34 0,Mv 35 4,Oo 36 (.call (.func 113) [(.tmp 34),(.tmp 35)])]) (.seq (.reg [Mv 38 5,Oo 39 (.bin .eql (.tmp 38) (.const (.string ⟨#[82,117,108,101]⟩))),Mv 37 39]) (.cond (.tmp 37) (.seq (.reg [Mv 40 4,Oo 41 (.call (.func 114) [(.tmp 40)]),Oo 6 (.new 48 11 [Ss,(iv 0),(iv 0),(iv 0),(iv 0),(iv 0),(iv 0),(iv 0),(iv 0),(iv 0),Ss]),⟨none,none,(.store 11 (.tmp 6) (.tmp 41))⟩]) (.drw [Mv 42 0,Mv 43 0,Nk 44 43,Fa 45 0 44,Fa 46 0 45,Ld 47 46,Oo 48 (.load true 11 (.tmp 6)),Oo 49 (.lit 48 11 1 [Ss,(iv 0),(iv 0),(iv 0),(iv 0),(iv 0),(iv 0),(iv 0),(iv 0),(iv 0),Ss] [(0,(11,(.tmp 48)))])] [false,false,false,false,false] [Oo 50 (.app 48 11 104 (.tmp 47) (.tmp 49)),Nk 51 42,Fa 52 0 51,Fa 53 0 52,⟨none,none,(.store 1 (.tmp 53) (.tmp 50))⟩])) (.seq (.reg [Mv 55 5,Oo 56 (.bin .eql (.tmp 55) (.const (.string ⟨#[90,111,110,101]⟩))),Mv 54 56]) (.cond (.tmp 54) (.seq (.reg [Mv 57 4,Oo 58 (.call (.func 115) [(.tmp 57)]),Mv 7 58]) (.seq (.reg [Mv 59 0,Mv 60 0,Nk 61 60,Fa 62 0 61,Fa 63 1 62,Ld 64 63,Mv 65 7,Oo 66 (.build [Ss,(.sl 0 0 true [])] [(0,(1,(.tmp 65)))]),Oo 67 (.lit 52 2 1 [Ss,(.sl 0 0 true [])] [(0,(2,(.tmp 66)))]),Oo 68 (.app 52 2 40 (.tmp 64) (.tmp 67)),Nk 69 59,Fa 70 0 69,Fa 71 1 70,⟨none,none,(.store 1 (.tmp 71) (.tmp 68))⟩]) (.reg [Mv 72 0,Mv 73 4,Oo 74 (.call (.func 113) [(.tmp 72),(.tmp 73)])]))) (.seq (.reg [Mv 76 5,Oo 77 (.bin .eql (.tmp 76) (.const (.string ⟨#[76,105,110,107]⟩))),Mv 75 77]) (.cond (.tmp 75) (.seq (.reg [Mv 78 4,Oo 79 (.call (.func 115) [(.tmp 78)]),Mv 8 79]) (.orPan (.drw [Mv 80 0,Mv 81 0,Nk 82 81,Fa 83 0 82,Fa 84 2 83,Oo 85 (.loadR false 1 (.tmp 84)),Mv 86 8,Mv 87 4] [true,true,true,false,false,false,false,false] [Oo 88 (.call (.func 115) [(.tmp 87)]),Oo 89 (.build [Ss,Ss] [(0,(1,(.tmp 86))),(1,(1,(.tmp 88)))]),Oo 90 (.lit 55 2 1 [Ss,Ss] [(0,(2,(.tmp 89)))]),Oo 91 (.app 55 2 32 (.tmp 85) (.tmp 90)),Nk 92 80,Fa 93 0 92,Fa 94 2 93,⟨none,none,(.store 1 (.tmp 94) (.tmp 91))⟩]) (.tmp 87) 115 [Mv 80 0,Mv 81 0,Nk 82 81,Fa 83 0 82,Fa 84 2 83,Ld 85 84,Mv 86 8,Mv 87 4,Mv 88 87,Oo 89 (.mv (.const (.bool false))),Oo 90 (.mv (.const (.bool false))),Oo 91 (.mv (.const (.bool false))),Oo 92 (.mv (.const (.bool false))),Oo 93 (.mv (.const (.bool false))),Oo 94 (.mv (.const (.bool false))),⟨none,none,(.mv (.const (.bool false)))⟩] 88)) (.reg [Oo 28 (.call (.func 111) [])])))))))))) (.seq (.reg [Mv 95 4,Nk 96 95,Fa 97 0 96,Ld 98 97,Oo 99 (.len false (.tmp 98)),Oo 100 (.bin .gtr (.tmp 99) (Ci 0))]) (.cond (.tmp 100) (.reg [Oo 101 (.call (.func 111) [])]) .skip))))))))
theorem k79:compF Tryz.prog 79=some ⟨c79,[],102⟩:=by kernel_rfl
def zP (M v:Nat):Option Zon→List AV
 | none=>[]
 | some z=>[sv z.1,.own (M+4) v z.2.length]
theorem zp_lt {M v:Nat}{l:List Zon}{o:Option Zon}:AV.ltL (M+5) (rows zonC l++zP M v o)=true:=by
 refine ltL_app ?_ (zon_lt l)
 cases o <;> simp [zP,AV.ltL,AV.lt]
theorem zoS_lt {n v:Nat}{l:List Zon}{nm:ByteArray}{k m:Nat}{f:Bool}{es:List Era}:(Ent.mk v 52 2 (rows zonC l++[sv nm,.sl k m f (rows eraC es)])).lt n=true:=by
 show AV.ltL n _=true
 refine ltL_app ?_ (zon_lt l)
 simp [AV.ltL,AV.lt,era_lt]
theorem parE_lt {M v1 v2 v3 n1 m n3:Nat}{b:Bool}:(parE M v1 v2 v3 n1 m n3 b).lt (M+5)=true:=by simp [Ent.lt,AV.lt,AV.ltL]
theorem zp_len {M v:Nat}{l:List Zon}{o:Option Zon}:(rows zonC l++zP M v o).length=(l.length+o.toList.length)*2:=by
 rw [List.length_append,zon_len]
 cases o <;> simp [zP] <;> omega
theorem zp_at2 {l:List Zon}{N v:Nat}{a b:AV}{off:Nat}(h:off=l.length*2+1):(rows zonC l++zP N v none++[a,b])[off]?=some b:=by
 rw [show rows zonC l++zP N v none=rows zonC l from List.append_nil _];exact zc_at h
theorem zp_put2 {l:List Zon}{N v:Nat}{a b c:AV}:aPut (rows zonC l++zP N v none++[a,b]) (some (l.length*2+1)) c=rows zonC l++[a,c]:=by
 rw [show rows zonC l++zP N v none=rows zonC l from List.append_nil _];exact zc_put
abbrev stE (M:Nat) (sr:Src) (o:Option Zon) (m v1 v2 v3 v4:Nat) (a b c:Ent):AH:=[parE M v1 v2 v3 sr.1.length m sr.2.2.length o.isSome,.mk v1 48 11 (rows rulC sr.1),.mk v2 52 2 (rows zonC sr.2.1++zP M v4 o),.mk v3 55 2 (rows lnkC sr.2.2),.mk v4 64 10 (rows eraC (eC o)),a,b,c]
def LP (M:Nat) (h0:AH) (sr:Src) (o:Option Zon) (a b c:Ent) (r:Option PS) (y:AE) (h':AH):Prop:=match r with
 | none=>y = .pan wrA ∧ ∃ p1 p2 p3 p4 p5:Ent,(∀ e∈[p1,p2,p3,p4,p5],e.lt (M+5)=true)∧h'=h0++[p1,p2,p3,p4,p5,a,b,c]
 | some q=>y = .ret (.tup []) ∧ ∃ (sr':Src) (o':Option Zon) (m' v1' v2' v3' v4':Nat),h'=h0++stE M sr' o' m' v1' v2' v3' v4' a b c∧curS sr' o'=q.1∧o'.isSome=q.2∧m'=sr'.2.1.length+o'.toList.length∧sr'.1.length≤sr.1.length+1∧m'≤sr.2.1.length+o.toList.length+1∧sr'.2.2.length≤sr.2.2.length+1∧(eC o').length≤(eC o).length+1
theorem lp_lt {M:Nat}{h0:AH}{l5 l5':AH}{a b c:Ent}(hlt : ∀ e∈h0++(l5++[a,b,c]),e.lt (M+8)=true) (hl : ∀ e∈l5',e.lt (M+5)=true) : ∀ e∈h0++(l5'++[a,b,c]),e.lt (M+8)=true:=by
 intro e he
 rcases List.mem_append.1 he with he | he
 ·exact hlt e (List.mem_append_left _ he)
 rcases List.mem_append.1 he with he | he
 ·exact Ent.lt_mono (by omega) (hl e he)
 exact hlt e (List.mem_append_right _ (List.mem_append_right _ he))
theorem lp_pan {M:Nat}{h0 h'':AH}{q1 q2 q3 q4 q5 p1 p2 p3 p4 p5 a b c:Ent}{zs:AH}{sr:Src}{o:Option Zon}{r:Option PS}(hM:h0.length=M) (he:h''=h0++(p1::p2::p3::p4::p5::a::b::c::zs)) (hlt : ∀ e∈h0++[q1,q2,q3,q4,q5,a,b,c],e.lt (M+8)=true) (hl : ∀ e∈[p1,p2,p3,p4,p5],e.lt (M+5)=true) (hN:r=none) :
  ∃ y z,h''=y++z∧y.length=M+8∧(∀ e∈y,e.lt (M+8)=true)∧(AE.pan wrA).lt (M+8)=true∧LP M h0 sr o a b c r (.pan wrA) y:=by
 subst hN
 exact ⟨h0++[p1,p2,p3,p4,p5,a,b,c],zs,by rw [he];simp,by simp [hM],lp_lt (l5:=[q1,q2,q3,q4,q5]) (l5':=[p1,p2,p3,p4,p5]) hlt hl,rfl,rfl,_,_,_,_,_,hl,rfl⟩
theorem lp_ok {M:Nat}{h0 h'':AH}{q1 q2 q3 q4 q5 a b c:Ent}{zs:AH}{sr sr':Src}{o:Option Zon}(o':Option Zon) {r:Option PS}{q:PS}{m' v1' v2' v3' v4':Nat}(hM:h0.length=M) (he:h''=h0++(stE M sr' o' m' v1' v2' v3' v4' a b c++zs)) (hlt : ∀ e∈h0++[q1,q2,q3,q4,q5,a,b,c],e.lt (M+8)=true) (hS:r=some q)
  (hq1:curS sr' o'=q.1) (hq2:o'.isSome=q.2) (hm:m'=sr'.2.1.length+o'.toList.length) (k1:sr'.1.length≤sr.1.length+1) (k2:m'≤sr.2.1.length+o.toList.length+1) (k3:sr'.2.2.length≤sr.2.2.length+1) (k4:(eC o').length≤(eC o).length+1) :
  ∃ y z,h''=y++z∧y.length=M+8∧(∀ e∈y,e.lt (M+8)=true)∧(AE.ret (.tup [])).lt (M+8)=true∧LP M h0 sr o a b c r (.ret (.tup [])) y:=by
 subst hS
 refine ⟨h0++stE M sr' o' m' v1' v2' v3' v4' a b c,zs,by rw [he];simp,by simp [hM],lp_lt (l5:=[q1,q2,q3,q4,q5]) (l5':=[_,_,_,_,_]) hlt ?_,rfl,rfl,_,_,_,_,_,_,_,rfl,hq1,hq2,hm,k1,k2,k3,k4⟩
 intro e he
 simp only [List.mem_cons,List.not_mem_nil,or_false] at he
 rcases he with rfl | rfl | rfl | rfl | rfl
 ·exact parE_lt
 ·exact rul_lt _
 ·exact zp_lt
 ·exact lnk_lt _
 exact era_lt _
theorem lineR_off {p:PS}{x:Ln}(h:x.2.1≠p.2):lineR p x=none:=by unfold lineR;rw [if_pos h]
theorem lineR_no {p:PS}{x:Ln}(h:bodyR p x.2.2=none):lineR p x=none:=by
 unfold lineR
 split
 ·rfl
 rw [h]
theorem lineR_rest {p q:PS}{x:Ln}{l:List ByteArray}(h:bodyR p x.2.2=some (q,l)) (hl:l≠[]):lineR p x=none:=by
 unfold lineR
 split
 ·rfl
 rw [h]
 cases l with
 | nil=>exact absurd rfl hl
 | cons a l=>rfl
theorem lineR_yes {p q:PS}{x:Ln}(hi:x.2.1=p.2) (h:bodyR p x.2.2=some (q,[])):lineR p x=some q:=by
 unfold lineR
 rw [if_neg (by simp [hi]),h]
theorem bd_era {s:Src}{l l':List ByteArray}{x:Era}(e:rEra l=some (x,l')):bodyR (s,true) l=some (withEra s x,l'):=by rw [bodyR_t];simp only [bindR,e,retR]
theorem bd_era0 {s:Src}{l:List ByteArray}(e:rEra l=none):bodyR (s,true) l=none:=by rw [bodyR_t];simp only [bindR,e]
theorem bd_next0 {s:Src}{l:List ByteArray}(e:rNext l=none):bodyR (s,false) l=none:=by rw [bodyR_f];simp only [bindR,e]
theorem bd_rule {s:Src}{l l1 l2:List ByteArray}{w:ByteArray}{r:Rul}(e1:rNext l=some (w,l1)) (hw:w=ruleA) (e2:rRule l1=some (r,l2)):bodyR (s,false) l=some (((s.1++[r],s.2.1,s.2.2),false),l2):=by rw [bodyR_f];simp only [bindR,e1,if_pos hw,e2,retR]
theorem bd_rule0 {s:Src}{l l1:List ByteArray}{w:ByteArray}(e1:rNext l=some (w,l1)) (hw:w=ruleA) (e2:rRule l1=none):bodyR (s,false) l=none:=by rw [bodyR_f];simp only [bindR,e1,if_pos hw,e2]
theorem bd_zone {s:Src}{l l1 l2 l3:List ByteArray}{w nm:ByteArray}{x:Era}(e1:rNext l=some (w,l1)) (hr:¬w=ruleA) (hw:w=zoneA) (e2:rName l1=some (nm,l2)) (e3:rEra l2=some (x,l3)):bodyR (s,false) l=some (((s.1,s.2.1++[(nm,[x])],s.2.2),!openE x),l3):=by
 rw [bodyR_f];simp only [bindR,e1,if_neg hr,if_pos hw,e2,e3,retR]
 unfold withEra;rw [addEra_snoc];rfl
theorem bd_zone0 {s:Src}{l l1:List ByteArray}{w:ByteArray}(e1:rNext l=some (w,l1)) (hr:¬w=ruleA) (hw:w=zoneA) (e2:rName l1=none):bodyR (s,false) l=none:=by rw [bodyR_f];simp only [bindR,e1,if_neg hr,if_pos hw,e2]
theorem bd_zone1 {s:Src}{l l1 l2:List ByteArray}{w nm:ByteArray}(e1:rNext l=some (w,l1)) (hr:¬w=ruleA) (hw:w=zoneA) (e2:rName l1=some (nm,l2)) (e3:rEra l2=none):bodyR (s,false) l=none:=by rw [bodyR_f];simp only [bindR,e1,if_neg hr,if_pos hw,e2,e3]
theorem bd_link {s:Src}{l l1 l2 l3:List ByteArray}{w a b:ByteArray}(e1:rNext l=some (w,l1)) (hr:¬w=ruleA) (hz:¬w=zoneA) (hw:w=linkA) (e2:rName l1=some (a,l2)) (e3:rName l2=some (b,l3)):bodyR (s,false) l=some (((s.1,s.2.1,s.2.2++[(a,b)]),false),l3):=by rw [bodyR_f];simp only [bindR,e1,if_neg hr,if_neg hz,if_pos hw,e2,e3,retR]
theorem bd_link0 {s:Src}{l l1:List ByteArray}{w:ByteArray}(e1:rNext l=some (w,l1)) (hr:¬w=ruleA) (hz:¬w=zoneA) (hw:w=linkA) (e2:rName l1=none):bodyR (s,false) l=none:=by rw [bodyR_f];simp only [bindR,e1,if_neg hr,if_neg hz,if_pos hw,e2]
theorem bd_link1 {s:Src}{l l1 l2:List ByteArray}{w a:ByteArray}(e1:rNext l=some (w,l1)) (hr:¬w=ruleA) (hz:¬w=zoneA) (hw:w=linkA) (e2:rName l1=some (a,l2)) (e3:rName l2=none):bodyR (s,false) l=none:=by rw [bodyR_f];simp only [bindR,e1,if_neg hr,if_neg hz,if_pos hw,e2,e3]
theorem bd_none {s:Src}{l l1:List ByteArray}{w:ByteArray}(e1:rNext l=some (w,l1)) (hr:¬w=ruleA) (hz:¬w=zoneA) (hw:¬w=linkA):bodyR (s,false) l=none:=by rw [bodyR_f];simp only [bindR,e1,if_neg hr,if_neg hz,if_neg hw,liftR]
theorem pera10_e {h0:AH}{M:Nat}(hM:h0.length=M) {R K a b c d:Ent}{v1 v2 v3 v4 n1 n3:Nat}{zs:List Zon}{nm:ByteArray}{es:List Era}{must:Bool}{l:List ByteArray}(ho:okL l) (hz2:zs.length≤200) (he2:es.length≤200) {x:Era}{l':List ByteArray}(e:rEra l=some (x,l')):ACalls Tryz.prog 113 [.ptr (M+0) 0 0,.ptr (M+9) 0 0] (h0++[parE M v1 v2 v3 n1 (zs.length+1) n3 must,R,.mk v2 52 2 (rows zonC zs++[sv nm,.own (M+4) v4 es.length]),K,.mk v4 64 10 (rows eraC es),a,b,c,d,rdE l]) fun y h'=>y = .ret (.tup [])∧h'=h0++[parE M v1 v2 v3 n1 (zs.length+1) n3 (!openE x),R,.mk v2 52 2 (rows zonC zs++[sv nm,.own (M+4) (v4+1) (es.length+1)]),K,.mk (v4+1) 64 10 (rows eraC (es++[x])),a,b,c,d,rdE l']:=by
 have:=pera10 (R:=R) (K:=K) (a:=a) (b:=b) (c:=c) (d:=d) hM (v1:=v1) (v2:=v2) (v3:=v3) (v4:=v4) (n1:=n1) (n3:=n3) (nm:=nm) (must:=must) ho hz2 he2
 rw [e] at this
 exact this
theorem pera10_p {h0:AH}{M:Nat}(hM:h0.length=M) {R K a b c d:Ent}{v1 v2 v3 v4 n1 n3:Nat}{zs:List Zon}{nm:ByteArray}{es:List Era}{must:Bool}{l:List ByteArray}(ho:okL l) (hz2:zs.length≤200) (he2:es.length≤200) (e:rEra l=none):ACalls Tryz.prog 113 [.ptr (M+0) 0 0,.ptr (M+9) 0 0] (h0++[parE M v1 v2 v3 n1 (zs.length+1) n3 must,R,.mk v2 52 2 (rows zonC zs++[sv nm,.own (M+4) v4 es.length]),K,.mk v4 64 10 (rows eraC es),a,b,c,d,rdE l]) fun y h'=>y = .pan wrA ∧ ∃ l',h'=h0++[parE M v1 v2 v3 n1 (zs.length+1) n3 must,R,.mk v2 52 2 (rows zonC zs++[sv nm,.own (M+4) v4 es.length]),K,.mk v4 64 10 (rows eraC es),a,b,c,d,rdE l']:=by
 have:=pera10 (R:=R) (K:=K) (a:=a) (b:=b) (c:=c) (d:=d) hM (v1:=v1) (v2:=v2) (v3:=v3) (v4:=v4) (n1:=n1) (n3:=n3) (nm:=nm) (must:=must) ho hz2 he2
 rw [e] at this
 exact this
theorem pera11_e {h0:AH}{M:Nat}(hM:h0.length=M) {R K a b c d e0:Ent}{v1 v2 v3 v4 n1 n3:Nat}{zs:List Zon}{nm:ByteArray}{es:List Era}{must:Bool}{l:List ByteArray}(ho:okL l) (hz2:zs.length≤200) (he2:es.length≤200) {x:Era}{l':List ByteArray}(e:rEra l=some (x,l')):ACalls Tryz.prog 113 [.ptr (M+0) 0 0,.ptr (M+9) 0 0] (h0++[parE M v1 v2 v3 n1 (zs.length+1) n3 must,R,.mk v2 52 2 (rows zonC zs++[sv nm,.own (M+4) v4 es.length]),K,.mk v4 64 10 (rows eraC es),a,b,c,d,rdE l,e0]) fun y h'=>y = .ret (.tup [])∧h'=h0++[parE M v1 v2 v3 n1 (zs.length+1) n3 (!openE x),R,.mk v2 52 2 (rows zonC zs++[sv nm,.own (M+4) (v4+1) (es.length+1)]),K,.mk (v4+1) 64 10 (rows eraC (es++[x])),a,b,c,d,rdE l',e0]:=by
 have:=pera11 (R:=R) (K:=K) (a:=a) (b:=b) (c:=c) (d:=d) (e0:=e0) hM (v1:=v1) (v2:=v2) (v3:=v3) (v4:=v4) (n1:=n1) (n3:=n3) (nm:=nm) (must:=must) ho hz2 he2
 rw [e] at this
 exact this
theorem pera11_p {h0:AH}{M:Nat}(hM:h0.length=M) {R K a b c d e0:Ent}{v1 v2 v3 v4 n1 n3:Nat}{zs:List Zon}{nm:ByteArray}{es:List Era}{must:Bool}{l:List ByteArray}(ho:okL l) (hz2:zs.length≤200) (he2:es.length≤200) (e:rEra l=none):ACalls Tryz.prog 113 [.ptr (M+0) 0 0,.ptr (M+9) 0 0] (h0++[parE M v1 v2 v3 n1 (zs.length+1) n3 must,R,.mk v2 52 2 (rows zonC zs++[sv nm,.own (M+4) v4 es.length]),K,.mk v4 64 10 (rows eraC es),a,b,c,d,rdE l,e0]) fun y h'=>y = .pan wrA ∧ ∃ l',h'=h0++[parE M v1 v2 v3 n1 (zs.length+1) n3 must,R,.mk v2 52 2 (rows zonC zs++[sv nm,.own (M+4) v4 es.length]),K,.mk v4 64 10 (rows eraC es),a,b,c,d,rdE l',e0]:=by
 have:=pera11 (R:=R) (K:=K) (a:=a) (b:=b) (c:=c) (d:=d) (e0:=e0) hM (v1:=v1) (v2:=v2) (v3:=v3) (v4:=v4) (n1:=n1) (n3:=n3) (nm:=nm) (must:=must) ho hz2 he2
 rw [e] at this
 exact this
set_option maxHeartbeats 8000000 in
theorem pline_lit {h0:AH}{M:Nat}(hM:h0.length=M) {a b c:Ent}{sr:Src}{o:Option Zon}{m v1 v2 v3 v4:Nat}{x:Ln}(hm:m=sr.2.1.length+o.toList.length) (ho:okL x.2.2) (hb1:sr.1.length≤200) (hb2:m≤200) (hb3:sr.2.2.length≤200) (hb4:(eC o).length≤200) (hb5:x.2.2.length≤100000) :
  ACalls Tryz.prog 79 [.ptr (M+0) 0 0,.agg (lnC x)] (h0++[parE M v1 v2 v3 sr.1.length m sr.2.2.length o.isSome,.mk v1 48 11 (rows rulC sr.1),.mk v2 52 2 (rows zonC sr.2.1++zP M v4 o),.mk v3 55 2 (rows lnkC sr.2.2),.mk v4 64 10 (rows eraC (eC o)),a,b,c]) (LP M h0 sr o a b c (lineR (curS sr o,o.isSome) x)):=by
 refine tJ' k79 fun N hn hlt hlA hbd=>?_
 simp only [tA',AV.bdL,AV.bd,and_true,true_and] at hbd ⊢
 obtain rfl:N=M+8:=by rw [←hn,←hM];simp
 rw [List.append_nil]
 refine wr'<|E' (e_box (cvl lk1 rfl) rfl (hl8 hM) ha8) pt3<|sn'<|wr'<|V' (v_fap0 lk3) pt9<|V' (v_loadp lk9 (hga hM rfl) gt2) pt10<|V' (v_build (SrcPb_line_4 (cvl lk10 rfl) rfl)) pt11<|E' (e_box (cvl lk11 rfl) rfl (hl9 hM) ha9) pt12<|mv' lk12 pt4<|sn'<|?_
 refine w_seq<|w_seq<|w_drwE<|D' (v_fap0 lk3) pt13<|D' (v_loadp lk13 (hga hM rfl) gt1) pt14<|D' (v_mv lk0) pt15<|D' (v_nckp lk15) pt16<|D' (v_fap0 lk16) pt17<|D' (v_loadp lk17 (hga hM rfl) gt3) pt18<|D' (v_eqbN lk14 lk18) pt19<|d_nil<|?_
 refine e_nil ?_
 refine sn' ?_
 refine cd' lk19 (fun hc1=>?_) (fun hc1=>?_)
 ·have hin:x.2.1≠o.isSome:=by simpa using hc1
  refine w_reg<|s_callPan' mp0 (sfail_a)<|p_thn<|w_pan<|?_
  exact lp_pan hM rfl hlt (by intro e he;simp only [List.mem_cons,List.not_mem_nil,or_false] at he;rcases he with rfl | rfl | rfl | rfl | rfl <;> first | exact parE_lt | exact rul_lt _ | exact lnk_lt _ | exact era_lt _ | exact zp_lt | exact zoD_lt (by omega) | exact ltL_app (by simp [AV.ltL,AV.lt]) (rul_lt _) | exact ltL_app (by simp [AV.ltL,AV.lt]) (lnk_lt _) | exact ltL_app (by simp [AV.ltL,AV.lt]) zp_lt | exact zoS_lt | rfl) (lineR_off hin)
 have hin:x.2.1=o.isSome:=by simpa using hc1
 refine w_skip<|n_seq<|wr'<|mv' lks pt5<|sn'<|w_seq<|wr'<|?_
 by_cases hs16:o=none
 ·subst hs16
  obtain rfl:m=sr.2.1.length:=by simpa using hm
  refine mv' lk0 pt21<|V' (v_nckp lk21) pt22<|V' (v_fap0 lk22) pt23<|V' (v_loadp lk23 (hga hM rfl) gt3) pt24<|V' (v_notB lk24) pt25<|sn'<|?_
  refine w_condK lk25 (by rfl) ?_
  refine w_reg<|mv' lk4 pt26<|?_
  by_cases hs22 : ∃ p,rNext x.2.2=some p
  ·obtain ⟨⟨w,l1⟩,e1⟩:=hs22
   obtain ⟨z1,o1⟩:=okL_next ho e1
   refine s_calls (mp1 lk26 mp0) (rnext_e e1 (hga hM rfl)) (hs9 hM) pt27<|mv' lk27 pt5<|sn'<|w_seq<|w_block<|wr'<|mv' lk0 pt30<|V' (v_nckp lk30) pt31<|V' (v_fap0 lk31) pt32<|V' (v_loadp lk32 (hga hM rfl) gt3) pt33<|mv' lk33 pt29<|s_nil<|?_
   refine n_seq ?_
   refine w_condKF lk29 (by rfl) ?_
   refine wr'<|mv' lk5 pt38<|V' (v_eqlS lk38 lks) pt39<|mv' lk39 pt37<|sn'<|?_
   refine cd' lk37 (fun hc4=>?_) (fun hc4=>?_)
   ·have hwR:w=ruleA:=hc4
    refine wr'<|mv' lk4 pt40<|?_
    by_cases hs36 : ∃ p,rRule l1=some p
    ·obtain ⟨⟨u,l9⟩,e9⟩:=hs36
     have hB:=bd_rule (s:=curS sr none) e1 hwR e9
     refine s_calls (mp1 lk40 mp0) (srule_e o1 e9 (hga hM rfl)) (hs9 hM) pt41<|E' (e_new (SrcPb_hl10 hM) SrcPb_ha10) pt6<|E' (e_store lk6 (cvl lk41 rfl) (hga hM rfl) rfl (nb' rfl) rfl SrcPb_sc0_11 (SrcPb_hs10 hM)) ptn<|sn'<|w_drwE<|D' (v_mv lk0) pt42<|D' (v_mv lk0) pt43<|D' (v_nckp lk43) pt44<|D' (v_fap0 lk44) pt45<|D' (v_fap0 lk45) pt46<|D' (v_loadp lk46 (hga hM rfl) gt0) pt47<|D' (v_loadpA lk6 (hga hM rfl) SrcPb_tk0_11 rfl) pt48<|d_eff rfl rfl (hlk hM rfl) (l_lit (SrcPb_line_46 (cvl lk48 rfl) rfl)) pt49 SrcPb_lap0<|?_
     refine d_nil ?_
     refine e_ent SrcPb_lj11_1 ?_
     refine E' (e_app (sc_own lk49 (hga hM rfl) rfl SrcPb_tk_11 (nb' rfl)) lk47 (hga hM rfl) (rul_len _) (by omega) rfl (hs1 hM)) pt50 ?_
     refine V' (v_nckp lk42) pt51<|V' (v_fap0 lk51) pt52<|V' (v_fap0 lk52) pt53<|E' (e_store lk53 (cvl lk50 rfl) (hga hM rfl) rfl (nb' rfl) rfl SrcPb_sc0_1 (hs0 hM)) ptn<|s_nil<|n_blk<|n_seq<|wr'<|mv' lk4 (ptS pt25)<|V' (v_nckp (lkS lk25)) (ptS pt26)<|V' (v_fap0 (lkS lk26)) (ptS pt27)<|V' (v_loadp (lkS lk27) (hga hM rfl) gt0) (ptS pt28)<|V' (v_lenL (lkS lk28)) (ptS pt29)<|?_
     refine V' (v_gtr (lkS lk29) lki) (ptS pt30)<|sn'<|?_
     refine cd' (lkS lk30) (fun hc7=>?_) (fun hc7=>?_)
     ·have hN:=lineR_rest hB (by intro e;rw [e] at hc7;exact absurd hc7 (by decide))
      refine w_reg<|s_callPan' mp0 (sfail_a)<|w_pan<|?_
      exact lp_pan hM rfl hlt (by intro e he;simp only [List.mem_cons,List.not_mem_nil,or_false] at he;rcases he with rfl | rfl | rfl | rfl | rfl <;> first | exact parE_lt | exact rul_lt _ | exact lnk_lt _ | exact era_lt _ | exact zp_lt | exact zoD_lt (by omega) | exact ltL_app (by simp [AV.ltL,AV.lt]) (rul_lt _) | exact ltL_app (by simp [AV.ltL,AV.lt]) (lnk_lt _) | exact ltL_app (by simp [AV.ltL,AV.lt]) zp_lt | exact zoS_lt | rfl) hN
     obtain rfl:l9=[]:=List.eq_nil_of_length_eq_zero (by omega)
     have hS:=lineR_yes hin hB
     refine w_skip<|w_end (rs0)<|?_
     exact lp_ok none (sr':=(sr.1++[u],sr.2.1,sr.2.2)) (m':=sr.2.1.length) (v1':=v1+1) (v2':=v2) (v3':=v3) (v4':=v4) (zs:=_) hM (by (try simp only [stE,rows_app,rows_one,zP,eC,List.append_nil,List.length_append,List.length_singleton]);rfl) hlt hS (by rfl) (by rfl) (by simp) (by simp) (by simp) (by simp) (by simp [eC])
    have e9:=no_some hs36
    refine s_callPanX (mp1 lk40 mp0) (srule_p o1 e9 (hga hM rfl)) (fun hP_ hPp_=>?_)
    refine p_thn<|p_blk<|p_thn<|w_pan<|?_
    obtain ⟨l9,rfl⟩:=hPp_
    exact lp_pan hM (hs9 hM) hlt (by intro e he;simp only [List.mem_cons,List.not_mem_nil,or_false] at he;rcases he with rfl | rfl | rfl | rfl | rfl <;> first | exact parE_lt | exact rul_lt _ | exact lnk_lt _ | exact era_lt _ | exact zp_lt | exact zoD_lt (by omega) | exact ltL_app (by simp [AV.ltL,AV.lt]) (rul_lt _) | exact ltL_app (by simp [AV.ltL,AV.lt]) (lnk_lt _) | exact ltL_app (by simp [AV.ltL,AV.lt]) zp_lt | exact zoS_lt | rfl) (lineR_no (bd_rule0 e1 hwR e9))
   have hwR:¬w=ruleA:=hc4
   refine wr'<|mv' lk5 pt55<|V' (v_eqlS lk55 lks) pt56<|mv' lk56 pt54<|sn'<|?_
   refine cd' lk54 (fun hc5=>?_) (fun hc5=>?_)
   ·have hwZ:w=zoneA:=hc5
    refine wr'<|mv' lk4 pt57<|?_
    by_cases hs56 : ∃ p,rName l1=some p
    ·obtain ⟨⟨nm,l2⟩,e2⟩:=hs56
     obtain ⟨z2,o2⟩:=okL_name o1 e2
     refine s_calls (mp1 lk57 mp0) (sname_e o1 e2 (hga hM rfl)) (hs9 hM) pt58<|mv' lk58 pt7<|sn'<|wr'<|mv' lk0 pt59<|mv' lk0 pt60<|V' (v_nckp lk60) pt61<|V' (v_fap0 lk61) pt62<|V' (v_fap0 lk62) pt63<|V' (v_loadp lk63 (hga hM rfl) gt1) pt64<|mv' lk7 pt65<|V' (v_build (SrcPb_line_65 (cvl lk65 rfl) rfl)) pt66<|?_
     refine E' (e_lit (SrcPb_line_66 (cvl lk66 rfl) rfl) (SrcPb_hl10 hM) SrcPb_ha10) pt67 ?_
     refine E' (e_app (sc_own lk67 (hga hM rfl) rfl SrcPb_tk_2 (nb' rfl)) lk64 (hga hM rfl) zp_len (by omega) rfl (hs2 hM)) pt68 ?_
     refine V' (v_nckp lk59) pt69<|V' (v_fap0 lk69) (ptS pt0)<|V' (v_fap0 (lkS lk0)) (ptS pt1)<|E' (e_store (lkS lk1) (cvl lk68 rfl) (hga hM rfl) rfl (nb' rfl) rfl SrcPb_sc1_1 (hs0 hM)) ptn<|s_nil<|?_
     refine n_seqw ((ALe.own0CellRe (k:=sr.2.1.length*2+1) (ty2:=64) (st2:=10) (hga hM rfl) (hga hM rfl) (by omega) (zp_at2 rfl) zp_put2 (Eq.trans (congrArg (fun z=>List.set z _ _) (hs4 hM)) (hs2 hM)))) ?_
     refine w_reg<|mv' lk0 (ptS pt2)<|mv' lk4 (ptS pt3)<|?_
     by_cases hs74 : ∃ p,rEra l2=some p
     ·obtain ⟨⟨u,l9⟩,e9⟩:=hs74
      have hB:=bd_zone (s:=curS sr none) e1 hwR hwZ e2 e9
      refine s_callh (mp1 (lkS lk2) (mp1 (lkS lk3) mp0)) (pera11_e hM (zs:=sr.2.1) (es:=[]) (nm:=nm) o2 (by omega) (by simp) e9) (ptS pt4) ?_
      refine s_nil<|n_blk<|n_seq<|wr'<|mv' lk4 (ptS pt25)<|?_
      by_cases hs99:openE u=true
      ·refine V' (v_nckp (lkS lk25)) (ptS pt26)<|V' (v_fap0 (lkS lk26)) (ptS pt27)<|V' (v_loadp (lkS lk27) (hga hM rfl) gt0) (ptS pt28)<|V' (v_lenL (lkS lk28)) (ptS pt29)<|V' (v_gtr (lkS lk29) lki) (ptS pt30)<|s_nil<|?_
       refine n_seqw ((ALe.iceCellNew (ds:=rows eraC _) (k:=sr.2.1.length*2+1) (ty2:=64) (st2:=10) (hga hM rfl) (hga hM rfl) (by omega) (zc_at rfl) (List.take_of_length_le (by rw [era_len];simp)) (by rw [era_len];simp) zc_put (hs4 hM) (hs2 hM))) ?_
       refine cd' (lkS lk30) (fun hc7=>?_) (fun hc7=>?_)
       ·have hN:=lineR_rest hB (by intro e;rw [e] at hc7;exact absurd hc7 (by decide))
        refine w_reg<|s_callPan' mp0 (sfail_a)<|w_pan<|?_
        exact lp_pan hM rfl hlt (by intro e he;simp only [List.mem_cons,List.not_mem_nil,or_false] at he;rcases he with rfl | rfl | rfl | rfl | rfl <;> first | exact parE_lt | exact rul_lt _ | exact lnk_lt _ | exact era_lt _ | exact zp_lt | exact zoD_lt (by omega) | exact ltL_app (by simp [AV.ltL,AV.lt]) (rul_lt _) | exact ltL_app (by simp [AV.ltL,AV.lt]) (lnk_lt _) | exact ltL_app (by simp [AV.ltL,AV.lt]) zp_lt | exact zoS_lt | rfl) hN
       obtain rfl:l9=[]:=List.eq_nil_of_length_eq_zero (by omega)
       have hS:=lineR_yes hin hB
       refine w_skip<|w_end (rs0)<|?_
       exact lp_ok none (sr':=(sr.1,sr.2.1++[(nm,[u])],sr.2.2)) (m':=(sr.2.1.length+1)) (v1':=v1) (v2':=v2+1) (v3':=v3) (v4':=v4+3) (zs:=_) hM (by rw [hs99];simp only [stE,zonC,rows_app,rows_one,zP,eC,List.append_nil,List.nil_append,List.length_append,List.length_singleton];rfl) hlt hS (by rw [curS_none,curS_none]) (by rw [hs99];rfl) (by simp) (by simp) (by simp) (by simp) (by simp [eC])
      refine V' (v_nckp (lkS lk25)) (ptS pt26)<|V' (v_fap0 (lkS lk26)) (ptS pt27)<|V' (v_loadp (lkS lk27) (hga hM rfl) gt0) (ptS pt28)<|V' (v_lenL (lkS lk28)) (ptS pt29)<|V' (v_gtr (lkS lk29) lki) (ptS pt30)<|sn'<|?_
      refine cd' (lkS lk30) (fun hc7=>?_) (fun hc7=>?_)
      ·have hN:=lineR_rest hB (by intro e;rw [e] at hc7;exact absurd hc7 (by decide))
       refine w_reg<|s_callPan' mp0 (sfail_a)<|w_pan<|?_
       exact lp_pan hM rfl hlt (by intro e he;simp only [List.mem_cons,List.not_mem_nil,or_false] at he;rcases he with rfl | rfl | rfl | rfl | rfl <;> first | exact parE_lt | exact rul_lt _ | exact lnk_lt _ | exact era_lt _ | exact zp_lt | exact zoD_lt (by omega) | exact ltL_app (by simp [AV.ltL,AV.lt]) (rul_lt _) | exact ltL_app (by simp [AV.ltL,AV.lt]) (lnk_lt _) | exact ltL_app (by simp [AV.ltL,AV.lt]) zp_lt | exact zoS_lt | rfl) hN
      obtain rfl:l9=[]:=List.eq_nil_of_length_eq_zero (by omega)
      have hS:=lineR_yes hin hB
      refine w_skip<|w_end (rs0)<|?_
      exact lp_ok (some (nm,[u])) (sr':=sr) (m':=(sr.2.1.length+1)) (v1':=v1) (v2':=v2+1) (v3':=v3) (v4':=v4+2) (zs:=_) hM (by rw [show openE u=false by simpa using hs99];simp only [stE,rows_app,rows_one,zP,eC,List.nil_append];rfl) hlt hS (by rw [curS_none];rfl) (by rw [show openE u=false by simpa using hs99];rfl) (by simp) (by simp) (by simp) (by simp) (by simp [eC])
     have e9:=no_some hs74
     refine s_callPanX (mp1 (lkS lk2) (mp1 (lkS lk3) mp0)) (pera11_p hM (zs:=sr.2.1) (es:=[]) (nm:=nm) o2 (by omega) (by simp) e9) (fun hP_ hPp_=>?_)
     refine p_blk<|p_thn<|w_pan<|?_
     obtain ⟨l9,rfl⟩:=hPp_
     exact lp_pan hM rfl hlt (by intro e he;simp only [List.mem_cons,List.not_mem_nil,or_false] at he;rcases he with rfl | rfl | rfl | rfl | rfl <;> first | exact parE_lt | exact rul_lt _ | exact lnk_lt _ | exact era_lt _ | exact zp_lt | exact zoD_lt (by omega) | exact ltL_app (by simp [AV.ltL,AV.lt]) (rul_lt _) | exact ltL_app (by simp [AV.ltL,AV.lt]) (lnk_lt _) | exact ltL_app (by simp [AV.ltL,AV.lt]) zp_lt | exact zoS_lt | rfl) (lineR_no (bd_zone1 e1 hwR hwZ e2 e9))
    have e2:=no_some hs56
    refine s_callPanX (mp1 lk57 mp0) (sname_p o1 e2 (hga hM rfl)) (fun hP_ hPp_=>?_)
    refine p_thn<|p_blk<|p_thn<|w_pan<|?_
    obtain ⟨l9,rfl⟩:=hPp_
    exact lp_pan hM (hs9 hM) hlt (by intro e he;simp only [List.mem_cons,List.not_mem_nil,or_false] at he;rcases he with rfl | rfl | rfl | rfl | rfl <;> first | exact parE_lt | exact rul_lt _ | exact lnk_lt _ | exact era_lt _ | exact zp_lt | exact zoD_lt (by omega) | exact ltL_app (by simp [AV.ltL,AV.lt]) (rul_lt _) | exact ltL_app (by simp [AV.ltL,AV.lt]) (lnk_lt _) | exact ltL_app (by simp [AV.ltL,AV.lt]) zp_lt | exact zoS_lt | rfl) (lineR_no (bd_zone0 e1 hwR hwZ e2))
   have hwZ:¬w=zoneA:=hc5
   refine wr'<|mv' lk5 (ptS pt6)<|V' (v_eqlS (lkS lk6) lks) (ptS pt7)<|mv' (lkS lk7) (ptS pt5)<|sn'<|?_
   refine cd' (lkS lk5) (fun hc6=>?_) (fun hc6=>?_)
   ·have hwL:w=linkA:=hc6
    refine wr'<|mv' lk4 (ptS pt8)<|?_
    by_cases hs79 : ∃ p,rName l1=some p
    ·obtain ⟨⟨n1,l2⟩,e2⟩:=hs79
     obtain ⟨z2,o2⟩:=okL_name o1 e2
     refine s_calls (mp1 (lkS lk8) mp0) (sname_e o1 e2 (hga hM rfl)) (hs9 hM) (ptS pt9)<|mv' (lkS lk9) pt8<|sn'<|?_
     by_cases hs81 : ∃ p,rName l2=some p
     ·obtain ⟨⟨n2,l9⟩,e9⟩:=hs81
      have hB:=bd_link (s:=curS sr none) e1 hwR hwZ hwL e2 e9
      refine w_orl<|w_drwR [M+0]<|D' (v_mv lk0) (ptS pt10)<|D' (v_mv lk0) (ptS pt11)<|D' (v_nckp (lkS lk11)) (ptS pt12)<|D' (v_fap0 (lkS lk12)) (ptS pt13)<|D' (v_fap0 (lkS lk13)) (ptS pt14)<|?_
      refine d_ldP (lkS lk14) (hga hM rfl) (ld0 gt2) (by simp) (ptS pt15) ?_
      refine D' (v_mv lk8) (ptS pt16)<|D' (v_mv lk4) (ptS pt17)<|d_nil<|k_e_nil<|?_
      refine k_calls (mp1 (lkS lk17) mp0) (sname_e o2 e9 (hga hM rfl)) (hs9 hM) (by intro i hi;obtain rfl:i=M+0:=(by simpa using hi);first | rfl | exact (hga (k:=0) hM rfl).trans (hga (k:=0) hM rfl).symm) (ptS pt18) ?_
      refine k_val rfl (v_build (SrcPb_line_90 (cvl (lkS lk16) rfl) rfl (cvl (lkS lk18) rfl) rfl)) (ptS pt19) ?_
      refine k_eff rfl rfl (e_lit (SrcPb_line_91 (cvl (lkS lk19) rfl) rfl) (SrcPb_hl10 hM) SrcPb_ha10) (by intro i hi;obtain rfl:i=M+0:=(by simpa using hi);first | rfl | exact (hga (k:=0) hM rfl).trans (hga (k:=0) hM rfl).symm) (ptS pt20) ?_
      refine k_eff rfl rfl (e_app (sc_own (lkS lk20) (hga hM rfl) rfl SrcPb_tk_2 (nb' rfl)) (lkS lk15) (hga hM rfl) (lnk_len _) (by omega) rfl (hs3 hM)) (by intro i hi;simp at hi) (ptS pt21) ?_
      refine k_val rfl (v_nckp (lkS lk10)) (ptS pt22)<|k_val rfl (v_fap0 (lkS lk22)) (ptS pt23)<|k_val rfl (v_fap0 (lkS lk23)) (ptS pt24)<|?_
      refine k_eff rfl rfl (e_store (lkS lk24) (cvl (lkS lk21) rfl) (hga hM rfl) rfl (nb' rfl) rfl SrcPb_sc2_1 (hs0 hM)) (by intro i hi;simp at hi) ptn ?_
      refine k_nil<|n_blk<|n_seq<|wr'<|mv' lk4 (ptS pt25)<|V' (v_nckp (lkS lk25)) (ptS pt26)<|V' (v_fap0 (lkS lk26)) (ptS pt27)<|V' (v_loadp (lkS lk27) (hga hM rfl) gt0) (ptS pt28)<|V' (v_lenL (lkS lk28)) (ptS pt29)<|V' (v_gtr (lkS lk29) lki) (ptS pt30)<|sn'<|?_
      refine cd' (lkS lk30) (fun hc7=>?_) (fun hc7=>?_)
      ·have hN:=lineR_rest hB (by intro e;rw [e] at hc7;exact absurd hc7 (by decide))
       refine w_reg<|s_callPan' mp0 (sfail_a)<|w_pan<|?_
       exact lp_pan hM rfl hlt (by intro e he;simp only [List.mem_cons,List.not_mem_nil,or_false] at he;rcases he with rfl | rfl | rfl | rfl | rfl <;> first | exact parE_lt | exact rul_lt _ | exact lnk_lt _ | exact era_lt _ | exact zp_lt | exact zoD_lt (by omega) | exact ltL_app (by simp [AV.ltL,AV.lt]) (rul_lt _) | exact ltL_app (by simp [AV.ltL,AV.lt]) (lnk_lt _) | exact ltL_app (by simp [AV.ltL,AV.lt]) zp_lt | exact zoS_lt | rfl) hN
      obtain rfl:l9=[]:=List.eq_nil_of_length_eq_zero (by omega)
      have hS:=lineR_yes hin hB
      refine w_skip<|w_end (rs0)<|?_
      exact lp_ok none (sr':=(sr.1,sr.2.1,sr.2.2++[(n1,n2)])) (m':=sr.2.1.length) (v1':=v1) (v2':=v2) (v3':=v3+1) (v4':=v4) (zs:=_) hM (by (try simp only [stE,rows_app,rows_one,zP,eC,List.append_nil,List.length_append,List.length_singleton]);rfl) hlt hS (by rfl) (by rfl) (by simp) (by simp) (by simp) (by simp) (by simp [eC])
     have e9:=no_some hs81
     refine w_orp (sname_p (id:=M+9) o2 e9 (hga hM rfl)) ?_ (fun _ hP_ hPp_=>?_)
     ·refine D' (v_mv lk0) (ptS pt10)<|D' (v_mv lk0) (ptS pt11)<|D' (v_nckp (lkS lk11)) (ptS pt12)<|D' (v_fap0 (lkS lk12)) (ptS pt13)<|D' (v_fap0 (lkS lk13)) (ptS pt14)<|D' (v_loadp (lkS lk14) (hga hM rfl) gt2) (ptS pt15)<|D' (v_mv lk8) (ptS pt16)<|D' (v_mv lk4) (ptS pt17)<|D' (v_mv (lkS lk17)) (ptS pt18)<|D' (v_mv lkb) (ptS pt19)<|D' (v_mv lkb) (ptS pt20)<|D' (v_mv lkb) (ptS pt21)<|D' (v_mv lkb) (ptS pt22)<|D' (v_mv lkb) (ptS pt23)<|?_
      refine D' (v_mv lkb) (ptS pt24)<|D' (v_mv lkb) ptn<|d_nil<|?_
      exact ⟨rfl,(gtS gt18)⟩
     refine p_blk<|p_thn<|w_pan<|?_
     obtain ⟨l9,rfl⟩:=hPp_
     exact lp_pan hM (hs9 hM) hlt (by intro e he;simp only [List.mem_cons,List.not_mem_nil,or_false] at he;rcases he with rfl | rfl | rfl | rfl | rfl <;> first | exact parE_lt | exact rul_lt _ | exact lnk_lt _ | exact era_lt _ | exact zp_lt | exact zoD_lt (by omega) | exact ltL_app (by simp [AV.ltL,AV.lt]) (rul_lt _) | exact ltL_app (by simp [AV.ltL,AV.lt]) (lnk_lt _) | exact ltL_app (by simp [AV.ltL,AV.lt]) zp_lt | exact zoS_lt | rfl) (lineR_no (bd_link1 e1 hwR hwZ hwL e2 e9))
    have e2:=no_some hs79
    refine s_callPanX (mp1 (lkS lk8) mp0) (sname_p o1 e2 (hga hM rfl)) (fun hP_ hPp_=>?_)
    refine p_thn<|p_blk<|p_thn<|w_pan<|?_
    obtain ⟨l9,rfl⟩:=hPp_
    exact lp_pan hM (hs9 hM) hlt (by intro e he;simp only [List.mem_cons,List.not_mem_nil,or_false] at he;rcases he with rfl | rfl | rfl | rfl | rfl <;> first | exact parE_lt | exact rul_lt _ | exact lnk_lt _ | exact era_lt _ | exact zp_lt | exact zoD_lt (by omega) | exact ltL_app (by simp [AV.ltL,AV.lt]) (rul_lt _) | exact ltL_app (by simp [AV.ltL,AV.lt]) (lnk_lt _) | exact ltL_app (by simp [AV.ltL,AV.lt]) zp_lt | exact zoS_lt | rfl) (lineR_no (bd_link0 e1 hwR hwZ hwL e2))
   have hwL:¬w=linkA:=hc6
   refine w_reg<|s_callPan' mp0 (sfail_a)<|p_blk<|p_thn<|w_pan<|?_
   exact lp_pan hM rfl hlt (by intro e he;simp only [List.mem_cons,List.not_mem_nil,or_false] at he;rcases he with rfl | rfl | rfl | rfl | rfl <;> first | exact parE_lt | exact rul_lt _ | exact lnk_lt _ | exact era_lt _ | exact zp_lt | exact zoD_lt (by omega) | exact ltL_app (by simp [AV.ltL,AV.lt]) (rul_lt _) | exact ltL_app (by simp [AV.ltL,AV.lt]) (lnk_lt _) | exact ltL_app (by simp [AV.ltL,AV.lt]) zp_lt | exact zoS_lt | rfl) (lineR_no (bd_none e1 hwR hwZ hwL))
  have e1:=no_some hs22
  refine s_callPanX (mp1 lk26 mp0) (rnext_p e1 (hga hM rfl)) (fun hP_ hPp_=>?_)
  refine p_thn<|w_pan<|?_
  obtain ⟨l9,rfl⟩:=hPp_
  exact lp_pan hM (hs9 hM) hlt (by intro e he;simp only [List.mem_cons,List.not_mem_nil,or_false] at he;rcases he with rfl | rfl | rfl | rfl | rfl <;> first | exact parE_lt | exact rul_lt _ | exact lnk_lt _ | exact era_lt _ | exact zp_lt | exact zoD_lt (by omega) | exact ltL_app (by simp [AV.ltL,AV.lt]) (rul_lt _) | exact ltL_app (by simp [AV.ltL,AV.lt]) (lnk_lt _) | exact ltL_app (by simp [AV.ltL,AV.lt]) zp_lt | exact zoS_lt | rfl) (lineR_no (bd_next0 e1))
 obtain ⟨z,rfl⟩:=Option.ne_none_iff_exists'.1 hs16
 obtain rfl:m=sr.2.1.length+1:=by simpa using hm
 have hb4':z.2.length≤200:=hb4
 refine mv' lk0 pt21<|V' (v_nckp lk21) pt22<|V' (v_fap0 lk22) pt23<|V' (v_loadp lk23 (hga hM rfl) gt3) pt24<|V' (v_notB lk24) pt25<|sn'<|?_
 refine w_condKF lk25 (by rfl) ?_
 refine w_skip<|n_seq<|w_seq<|w_block<|wr'<|mv' lk0 pt30<|V' (v_nckp lk30) pt31<|V' (v_fap0 lk31) pt32<|V' (v_loadp lk32 (hga hM rfl) gt3) pt33<|mv' lk33 pt29<|sn'<|?_
 refine w_condK lk29 (by rfl) ?_
 refine w_reg<|mv' lk0 pt34<|mv' lk4 pt35<|?_
 by_cases hs31 : ∃ p,rEra x.2.2=some p
 ·obtain ⟨⟨u,l9⟩,e9⟩:=hs31
  have hB:=bd_era (s:=curS sr (some z)) e9
  have hw:withEra (curS sr (some z)) u=((sr.1,sr.2.1++[(z.1,z.2++[u])],sr.2.2),!openE u):=by unfold withEra curS;rw [show sr.2.1++(some z).toList=sr.2.1++[z] from rfl,addEra_snoc]
  refine s_callh (mp1 lk34 (mp1 lk35 mp0)) (pera10_e hM (zs:=sr.2.1) (es:=z.2) (nm:=z.1) ho (by omega) hb4' e9) pt36 ?_
  refine s_nil<|n_blk<|n_seq<|wr'<|?_
  by_cases hs98:openE u=true
  ·refine mv' lk4 (ptS pt25)<|V' (v_nckp (lkS lk25)) (ptS pt26)<|V' (v_fap0 (lkS lk26)) (ptS pt27)<|V' (v_loadp (lkS lk27) (hga hM rfl) gt0) (ptS pt28)<|V' (v_lenL (lkS lk28)) (ptS pt29)<|V' (v_gtr (lkS lk29) lki) (ptS pt30)<|s_nil<|?_
   refine n_seqw ((ALe.iceCellNew (ds:=rows eraC _) (k:=sr.2.1.length*2+1) (ty2:=64) (st2:=10) (hga hM rfl) (hga hM rfl) (by omega) (zc_at rfl) (List.take_of_length_le (by rw [era_len];simp)) (by rw [era_len];simp) zc_put (hs4 hM) (hs2 hM))) ?_
   refine cd' (lkS lk30) (fun hc7=>?_) (fun hc7=>?_)
   ·have hN:=lineR_rest hB (by intro e;rw [e] at hc7;exact absurd hc7 (by decide))
    refine w_reg<|s_callPan' mp0 (sfail_a)<|w_pan<|?_
    exact lp_pan hM rfl hlt (by intro e he;simp only [List.mem_cons,List.not_mem_nil,or_false] at he;rcases he with rfl | rfl | rfl | rfl | rfl <;> first | exact parE_lt | exact rul_lt _ | exact lnk_lt _ | exact era_lt _ | exact zp_lt | exact zoD_lt (by omega) | exact ltL_app (by simp [AV.ltL,AV.lt]) (rul_lt _) | exact ltL_app (by simp [AV.ltL,AV.lt]) (lnk_lt _) | exact ltL_app (by simp [AV.ltL,AV.lt]) zp_lt | exact zoS_lt | rfl) hN
   obtain rfl:l9=[]:=List.eq_nil_of_length_eq_zero (by omega)
   have hS:=lineR_yes hin hB
   refine w_skip<|w_end (rs0)<|?_
   exact lp_ok none (sr':=(sr.1,sr.2.1++[(z.1,z.2++[u])],sr.2.2)) (m':=(sr.2.1.length+1)) (v1':=v1) (v2':=v2) (v3':=v3) (v4':=v4+2) (zs:=_) hM (by rw [hs98];simp only [stE,zonC,rows_app,rows_one,zP,eC,List.append_nil,List.length_append,List.length_singleton];rfl) hlt hS (by rw [hw,curS_none]) (by rw [hw,hs98];rfl) (by simp) (by simp) (by simp) (by simp) (by simp [eC])
  refine mv' lk4 (ptS pt25)<|V' (v_nckp (lkS lk25)) (ptS pt26)<|V' (v_fap0 (lkS lk26)) (ptS pt27)<|V' (v_loadp (lkS lk27) (hga hM rfl) gt0) (ptS pt28)<|V' (v_lenL (lkS lk28)) (ptS pt29)<|V' (v_gtr (lkS lk29) lki) (ptS pt30)<|sn'<|?_
  refine cd' (lkS lk30) (fun hc7=>?_) (fun hc7=>?_)
  ·have hN:=lineR_rest hB (by intro e;rw [e] at hc7;exact absurd hc7 (by decide))
   refine w_reg<|s_callPan' mp0 (sfail_a)<|w_pan<|?_
   exact lp_pan hM rfl hlt (by intro e he;simp only [List.mem_cons,List.not_mem_nil,or_false] at he;rcases he with rfl | rfl | rfl | rfl | rfl <;> first | exact parE_lt | exact rul_lt _ | exact lnk_lt _ | exact era_lt _ | exact zp_lt | exact zoD_lt (by omega) | exact ltL_app (by simp [AV.ltL,AV.lt]) (rul_lt _) | exact ltL_app (by simp [AV.ltL,AV.lt]) (lnk_lt _) | exact ltL_app (by simp [AV.ltL,AV.lt]) zp_lt | exact zoS_lt | rfl) hN
  obtain rfl:l9=[]:=List.eq_nil_of_length_eq_zero (by omega)
  have hS:=lineR_yes hin hB
  refine w_skip<|w_end (rs0)<|?_
  exact lp_ok (some (z.1,z.2++[u])) (sr':=sr) (m':=(sr.2.1.length+1)) (v1':=v1) (v2':=v2) (v3':=v3) (v4':=v4+1) (zs:=_) hM (by rw [show openE u=false by simpa using hs98];simp only [stE,rows_app,rows_one,zP,eC,List.length_append,List.length_singleton];rfl) hlt hS (by rw [hw];rfl) (by rw [hw,show openE u=false by simpa using hs98];rfl) (by simp) (by simp) (by simp) (by simp) (by simp [eC])
 have e9:=no_some hs31
 refine s_callPanX (mp1 lk34 (mp1 lk35 mp0)) (pera10_p hM (zs:=sr.2.1) (es:=z.2) (nm:=z.1) ho (by omega) hb4' e9) (fun hP_ hPp_=>?_)
 refine p_blk<|p_thn<|w_pan<|?_
 obtain ⟨l9,rfl⟩:=hPp_
 exact lp_pan hM rfl hlt (by intro e he;simp only [List.mem_cons,List.not_mem_nil,or_false] at he;rcases he with rfl | rfl | rfl | rfl | rfl <;> first | exact parE_lt | exact rul_lt _ | exact lnk_lt _ | exact era_lt _ | exact zp_lt | exact zoD_lt (by omega) | exact ltL_app (by simp [AV.ltL,AV.lt]) (rul_lt _) | exact ltL_app (by simp [AV.ltL,AV.lt]) (lnk_lt _) | exact ltL_app (by simp [AV.ltL,AV.lt]) zp_lt | exact zoS_lt | rfl) (lineR_no (bd_era0 e9))
end Go.Proofs.YtgjchdhdopgkkaaGreatDoor
end
section
namespace Go.Ab
section
variable {P : Program} {T T' : List AV} {h : AH} {c : AV} {d : Option Nat} {rest : List AOper} {K : List AV → AH → Prop} {Kp : AV → List AV → AH → Prop}
theorem s_callE {ι:Type}{H:ι→AH}{J:ι→Prop}{f:FuncId}{xs:List Operand}{as1:List AV}(hx:xs.map (aEval T)=as1) (hc:ACalls P f as1 h fun r h''=>r = .ret c ∧ ∃ i,J i∧h''=H i) (hp:aPut T d c=T') (hk : ∀ i,J i→arun P Kp rest T' (H i) K):arun P Kp (⟨d,none,.call (.func f) xs⟩::rest) T h K:=by
 subst hp
 refine s_call hx hc ?_
 rintro r h'' ⟨rfl,i,h1,rfl⟩
 exact hk i h1
end
end Go.Ab
namespace Go.Proofs.YtgjchdhdopgkkaaGreatDoor
open Go.Ab Go.RowKit Civ
section
theorem SrcPc_tk0_3 {a0 a1 a2:AV}{l:List AV}:((a0::a1::a2::l).drop 0).take 3=[a0,a1,a2]:=rfl
theorem SrcPc_sc0_1 {a0 c0:AV}{l:List AV}:setCells (a0::l) 0 [c0]=c0::l:=rfl
end
def c40:AC:=(.seq (.reg [Mv 6 0,Oo 7 (.load true 3 (.tmp 3)),Oo 8 (.call (.func 79) [(.tmp 6),(.tmp 7)])]) (.seq (.reg [⟨none,none,(.store 1 (.tmp 4) (.const (.bool true)))⟩]) .ret))
abbrev fd40:AFD:=⟨[⟨(some 3),none,(.box 67 3 (.tmp 1))⟩,⟨(some 4),none,(.new 4 1 [(.v (.bool false))])⟩],5,78,[(.tmp 4)],⟨c40,[(.cell 4 false 1)],9⟩⟩
theorem k40:compFD Tryz.prog 40=some fd40:=by kernel_rfl
theorem d40 {a0 a1:AV}{h:AH}{R:AE→AH→Prop}(hw : ∀ n,h.length=n→(∀ e∈h,e.lt n=true)→AV.ltL n [a0,a1]=true→AV.bdL [a0,a1]→arun Tryz.prog (fun c T h=>afterR0 Tryz.prog fd40 R (.pan c) T h) [⟨(some 3),none,(.box 67 3 (.tmp 1))⟩,⟨(some 4),none,(.new 4 1 [(.v (.bool false))])⟩] [a0,a1,.any,.any,.any,.any,.any,.any,.any] (h++[]) (fun T1 h1=>afterR0 Tryz.prog fd40 R .normal T1 h1)):ACalls Tryz.prog 40 [a0,a1] h R:=ACalls.intoD k40 (by kernel_rfl) rfl hw
theorem taWrong (v:Value) (t:TypeId) (w:World):(Instr.typeAssert (.iface 121 v) t 121 true).run Tryz.prog w = .ok (.tuple #[v,.bool true]) w:=by
 simp [Instr.typeAssert,run_underlying Tryz.underlying121]
theorem catchR_p (pj:Addr) (y:Value) (w:World) (h3:w.cell? pj=some y) (h4:w.frozen? pj=false) (hb:pj.block<w.heap.size) :
  CallsD Tryz.prog 78 #[.pointer (some pj)] (.panicking [{ v:=.iface 121 (.agg #[]),recovered:=false }]) w fun e' u' w' =>
   e' = .returned (.tuple #[])∧u' = .panicking [{ v:=.iface 121 (.agg #[]),recovered:=true }] ∧ ∃ bl,w'=(w.alloc bl).setCell pj (.bool false):=by
 refine callsD_of_wpS Tryz.func78 rfl fun c₀ cs hu=>?_
 apply wpS_seq
 apply wpS_region
 simp [wpOpsS,go_sem,recoverD,hu,Tryz.ntmps78,Exit.thenS]
 apply wpS_seq
 apply wpS_region
 simp [wpOpsS,go_sem,Exit.thenS]
 refine wpS_cond (t:=true) (by simp [Act.eval,Array.replicate]) ?_
 simp only [if_true]
 apply wpS_seq
 apply wpS_seq
 apply wpS_region
 simp [wpOpsS,go_sem,Exit.thenS,taWrong]
 apply wpS_seq
 apply wpS_region
 simp [wpOpsS,go_sem,Exit.thenS]
 refine wpS_cond (t:=false) (by simp [Act.eval,Act.put,Array.replicate]) ?_
 simp only [if_false,Bool.false_eq_true]
 refine wpS_of_wp (wp_skip ?_)
 show Code.wpS _ _ _ _ _ _
 apply wpS_region
 have c1:(w.alloc (Obj.cells #[] 121)).cell? pj=some y:=by rw [World.cell?_alloc_lt _ _ _ hb];exact h3
 have c2:(w.alloc (Obj.cells #[] 121)).frozen? pj=false:=by rw [frozen?_alloc_cells];exact h4
 simp [wpOpsS,go_sem,c1,c2,bodyPostS,results,Tryz.results78]
 exact ⟨_,rfl⟩
theorem catchR_r (pj:Addr) (w:World) :
  CallsD Tryz.prog 78 #[.pointer (some pj)] .returning w fun e' u' w'=>e' = .returned (.tuple #[])∧u' = .returning∧w'=w:=by
 refine callsD_of_wpS Tryz.func78 rfl fun c₀ cs hu=>?_
 apply wpS_seq
 apply wpS_region
 simp [wpOpsS,go_sem,recoverD,hu,Tryz.ntmps78,Exit.thenS]
 apply wpS_seq
 apply wpS_region
 simp [wpOpsS,go_sem,Exit.thenS]
 refine wpS_cond (t:=false) (by simp [Act.eval,Array.replicate]) ?_
 simp only [if_false,Bool.false_eq_true]
 refine wpS_of_wp (wp_skip ?_)
 cases c₀
 simp_all [bodyPostS,results,Tryz.results78]
theorem adefR_r {j:Nat}{h:AH}{R:AH→Prop}(hR:R h):ADef Tryz.prog 78 [.ptr j 0 0] none h R:=by
 intro w g vs hs hr
 simp only [RepL,Rep] at hr
 obtain ⟨u1,us1,e1,⟨b1,c1,l1,rfl⟩,rfl⟩:=hr
 obtain rfl:vs = #[.pointer (some ⟨b1,0,none⟩)]:=by cases vs;simp_all
 refine (catchR_r _ w).mono ?_
 rintro e u' w' ⟨rfl,rfl,rfl⟩
 exact ⟨⟨_,rfl⟩,rfl,h,g,hs,Gh.le.refl g,Fr.refl _ _,fun k hk=>.inl hk,hR⟩
theorem ha_old (w:World) (o:Obj) {k:Nat}(h:k<w.heap.size):(w.alloc o).heap[k]?=w.heap[k]?:=by
 show (w.heap.push o)[k]?=_
 rw [Array.getElem?_push_lt h,Array.getElem?_eq_getElem h]
theorem ha_size (w:World) (o:Obj):w.heap.size≤(w.alloc o).heap.size:=by
 show _≤(w.heap.push o).size
 simp
theorem hset_size (w:World) (a:Addr) (v:Value):(w.setCell a v).heap.size=w.heap.size:=by simp [World.setCell]
theorem adefR_p {j tj:Nat}{cj:AV}{h:AH}{R:AH→Prop}(hj:h[j]?=some (.mk 0 tj 1 [cj])) (hR:R (h.set j (.mk 0 tj 1 [bv false]))):ADef Tryz.prog 78 [.ptr j 0 0] (some wrA) h R:=by
 intro w g vs hs hr v hv
 simp only [RepL,Rep] at hr hv
 subst hv
 obtain ⟨u1,us1,e1,⟨b2,c2,l2,rfl⟩,rfl⟩:=hr
 obtain rfl:vs = #[.pointer (some ⟨b2,0,none⟩)]:=by cases vs;simp_all
 obtain ⟨_,n2,f2,o2⟩:=hs.store hj l2 (k:=0) (c:=bv false) (u:=.bool false) (by simp) (by simp only [Rep])
 obtain ⟨x2,hx2⟩:=Option.ne_none_iff_exists'.1 n2
 have hb:=(hs.own_not_D ⟨j,o2⟩).2
 refine (catchR_p ⟨b2,0,none⟩ x2 w hx2 f2 hb).mono ?_
 rintro e' u' w' ⟨rfl,rfl,bl,rfl⟩
 have hold : ∀ k,k<w.heap.size→(w.alloc bl).heap[k]?=w.heap[k]?:=fun k hk=>ha_old w _ hk
 have hs1:SimH (w.alloc bl) g h:=hs.world (fun k hk=>hold k (by
  rcases hk with hk | hk
  ·exact hs.lt k hk
  exact (hs.own_not_D hk).2)) (ha_size w bl)
 obtain ⟨s2,_,_,_⟩:=hs1.store hj l2 (k:=0) (c:=bv false) (u:=.bool false) (by simp) (by simp only [Rep])
 refine ⟨⟨_,rfl⟩,⟨_,rfl⟩,_,g,s2,Gh.le.refl g,⟨rfl,rfl,rfl,by rw [hset_size];exact ha_size w bl,?_⟩,?_,hR⟩
 ·intro k hk ho
  rw [heap_setCell_other _ _ _ _ (fun e=>ho ⟨j,by simpa [e] using o2⟩)]
  exact hold k hk
 rintro k ⟨m,v,ty,s,c,b,cap,q1,q2,q3,q4⟩
 refine .inl ?_
 by_cases hm:m=j
 ·subst hm
  rw [List.getElem?_set_self (List.getElem?_eq_some_iff.1 hj).1] at q1
  cases q1
  exact ⟨m,_,_,_,_,b,cap,hj,q2,q3,q4⟩
 rw [List.getElem?_set_ne (Ne.symm hm)] at q1
 exact ⟨m,v,ty,s,c,b,cap,q1,q2,q3,q4⟩
abbrev SI:=Src×Option Zon×Nat×Nat×Nat×Nat×Nat
def JP (sr:Src) (o:Option Zon) (q:PS) (i:SI):Prop:=curS i.1 i.2.1=q.1∧i.2.1.isSome=q.2∧i.2.2.1=i.1.2.1.length+i.2.1.toList.length∧i.1.1.length≤sr.1.length+1∧i.2.2.1≤sr.2.1.length+o.toList.length+1∧i.1.2.2.length≤sr.2.2.length+1∧(eC i.2.1).length≤(eC o).length+1
theorem pline_e {h0:AH}{M:Nat}(hM:h0.length=M) {a b c:Ent}{sr:Src}{o:Option Zon}{m v1 v2 v3 v4:Nat}{x:Ln}{q:PS}(hm:m=sr.2.1.length+o.toList.length) (ho:okL x.2.2) (hb1:sr.1.length≤200) (hb2:m≤200) (hb3:sr.2.2.length≤200) (hb4:(eC o).length≤200) (hb5:x.2.2.length≤100000) (e:lineR (curS sr o,o.isSome) x=some q) :
  ACalls Tryz.prog 79 [.ptr (M+0) 0 0,.agg (lnC x)] (h0++stE M sr o m v1 v2 v3 v4 a b c) fun y h'=>y = .ret (.tup []) ∧ ∃ i:SI,JP sr o q i∧h'=h0++stE M i.1 i.2.1 i.2.2.1 i.2.2.2.1 i.2.2.2.2.1 i.2.2.2.2.2.1 i.2.2.2.2.2.2 a b c:=by
 have:=pline_lit (a:=a) (b:=b) (c:=c) (v1:=v1) (v2:=v2) (v3:=v3) (v4:=v4) hM hm ho hb1 hb2 hb3 hb4 hb5
 rw [e] at this
 refine this.mono ?_
 rintro y h' ⟨rfl,sr',o',m',w1,w2,w3,w4,k1,k2⟩
 exact ⟨rfl,⟨sr',o',m',w1,w2,w3,w4⟩,k2,k1⟩
theorem pline_p {h0:AH}{M:Nat}(hM:h0.length=M) {a b c:Ent}{sr:Src}{o:Option Zon}{m v1 v2 v3 v4:Nat}{x:Ln}(hm:m=sr.2.1.length+o.toList.length) (ho:okL x.2.2) (hb1:sr.1.length≤200) (hb2:m≤200) (hb3:sr.2.2.length≤200) (hb4:(eC o).length≤200) (hb5:x.2.2.length≤100000) (e:lineR (curS sr o,o.isSome) x=none) :
  ACalls Tryz.prog 79 [.ptr (M+0) 0 0,.agg (lnC x)] (h0++stE M sr o m v1 v2 v3 v4 a b c) fun y h'=>y = .pan wrA ∧ ∃ p1 p2 p3 p4 p5:Ent,(∀ e∈[p1,p2,p3,p4,p5],e.lt (M+5)=true)∧h'=h0++[p1,p2,p3,p4,p5,a,b,c]:=by
 have:=pline_lit (a:=a) (b:=b) (c:=c) (v1:=v1) (v2:=v2) (v3:=v3) (v4:=v4) hM hm ho hb1 hb2 hb3 hb4 hb5
 rw [e] at this
 exact this
abbrev stR (M:Nat) (sr:Src) (o:Option Zon) (m v1 v2 v3 v4:Nat) (a:Ent):AH:=[parE M v1 v2 v3 sr.1.length m sr.2.2.length o.isSome,.mk v1 48 11 (rows rulC sr.1),.mk v2 52 2 (rows zonC sr.2.1++zP M v4 o),.mk v3 55 2 (rows lnkC sr.2.2),.mk v4 64 10 (rows eraC (eC o)),a]
def RP (M:Nat) (h0:AH) (sr:Src) (o:Option Zon) (a:Ent) (r:Option PS) (y:AE) (h':AH):Prop:=match r with
 | none=>y = .ret (bv false) ∧ ∃ p:Ent×Ent×Ent×Ent×Ent,(∀ e∈[p.1,p.2.1,p.2.2.1,p.2.2.2.1,p.2.2.2.2],e.lt (M+5)=true)∧h'=h0++[p.1,p.2.1,p.2.2.1,p.2.2.2.1,p.2.2.2.2,a]
 | some q=>y = .ret (bv true) ∧ ∃ i:SI,JP sr o q i∧h'=h0++stR M i.1 i.2.1 i.2.2.1 i.2.2.2.1 i.2.2.2.2.1 i.2.2.2.2.2.1 i.2.2.2.2.2.2 a
theorem rp_lt {M L:Nat}{h0:AH}{l5 l5':AH}{a:Ent}(hL:L=M+6) (hlt : ∀ e∈h0++(l5++[a]),e.lt (M+6)=true) (hl : ∀ e∈l5',e.lt (M+5)=true) : ∀ e∈h0++(l5'++[a]),e.lt L=true:=by
 subst hL
 intro e he
 rcases List.mem_append.1 he with he | he
 ·exact hlt e (List.mem_append_left _ he)
 rcases List.mem_append.1 he with he | he
 ·exact Ent.lt_mono (by omega) (hl e he)
 exact hlt e (List.mem_append_right _ (List.mem_append_right _ he))
theorem rp_pan {M L:Nat}{h0 h'':AH}{q1 q2 q3 q4 q5 p1 p2 p3 p4 p5 a:Ent}{zs:AH}{sr:Src}{o:Option Zon}{r:Option PS}(hM:h0.length=M) (hL:L=M+6) (he:h''=h0++(p1::p2::p3::p4::p5::a::zs)) (hlt : ∀ e∈h0++[q1,q2,q3,q4,q5,a],e.lt (M+6)=true) (hl : ∀ e∈[p1,p2,p3,p4,p5],e.lt (M+5)=true) (hN:r=none) :
  ∃ y z,h''=y++z∧y.length=L∧(∀ e∈y,e.lt L=true)∧(AE.ret (bv false)).lt L=true∧RP M h0 sr o a r (.ret (bv false)) y:=by
 subst hN
 exact ⟨h0++[p1,p2,p3,p4,p5,a],zs,by rw [he];simp,by simp [hM,hL],rp_lt (l5:=[q1,q2,q3,q4,q5]) (l5':=[p1,p2,p3,p4,p5]) hL hlt hl,rfl,rfl,(p1,p2,p3,p4,p5),hl,rfl⟩
theorem rp_ok {M L:Nat}{h0 h'':AH}{q1 q2 q3 q4 q5 a:Ent}{zs:AH}{sr sr':Src}{o o':Option Zon}{r:Option PS}{q:PS}{m' v1' v2' v3' v4':Nat}(hM:h0.length=M) (hL:L=M+6) (he:h''=h0++(stR M sr' o' m' v1' v2' v3' v4' a++zs)) (hlt : ∀ e∈h0++[q1,q2,q3,q4,q5,a],e.lt (M+6)=true) (hS:r=some q) (hJ:JP sr o q (sr',o',m',v1',v2',v3',v4')) :
  ∃ y z,h''=y++z∧y.length=L∧(∀ e∈y,e.lt L=true)∧(AE.ret (bv true)).lt L=true∧RP M h0 sr o a r (.ret (bv true)) y:=by
 subst hS
 refine ⟨h0++stR M sr' o' m' v1' v2' v3' v4' a,zs,by rw [he];simp,by simp [hM,hL],rp_lt (l5:=[q1,q2,q3,q4,q5]) (l5':=[_,_,_,_,_]) hL hlt ?_,rfl,rfl,_,hJ,rfl⟩
 intro e he
 simp only [List.mem_cons,List.not_mem_nil,or_false] at he
 rcases he with rfl | rfl | rfl | rfl | rfl
 ·exact parE_lt
 ·exact rul_lt _
 ·exact zp_lt
 ·exact lnk_lt _
 exact era_lt _
set_option maxHeartbeats 2000000 in
theorem pread_lit {h0:AH}{M:Nat}(hM:h0.length=M) {a:Ent}{sr:Src}{o:Option Zon}{m v1 v2 v3 v4:Nat}{x:Ln}(hm:m=sr.2.1.length+o.toList.length) (ho:okL x.2.2) (hb1:sr.1.length≤200) (hb2:m≤200) (hb3:sr.2.2.length≤200) (hb4:(eC o).length≤200) (hb5:x.2.2.length≤100000) :
  ACalls Tryz.prog 40 [.ptr (M+0) 0 0,.agg (lnC x)] (h0++[parE M v1 v2 v3 sr.1.length m sr.2.2.length o.isSome,.mk v1 48 11 (rows rulC sr.1),.mk v2 52 2 (rows zonC sr.2.1++zP M v4 o),.mk v3 55 2 (rows lnkC sr.2.2),.mk v4 64 10 (rows eraC (eC o)),a]) (RP M h0 sr o a (lineR (curS sr o,o.isSome) x)):=by
 refine ACalls.gc (d40 ?_)
 intro N hn hlt hlA hbd
 try simp only [AV.bdL,AV.bd,and_true,true_and] at hbd
 obtain rfl:N=M+6:=by rw [←hn,←hM];simp
 rw [List.append_nil]
 refine E' (e_box (cvl lk1 rfl) rfl (hl6 hM) ha6) pt3<|E' (e_new (hl7 hM) ha7) pt4<|s_nil<|?_
 refine afterR0.mk (nb' rfl) pt5 (mp1 lk4 mp0) (hl8 hM) (fun M hM=>?_)
 subst hM
 refine wr'<|mv' lk0 pt6<|V' (v_loadpA lk3 (hga hM rfl) SrcPc_tk0_3 rfl) pt7<|?_
 by_cases hs3 : ∃ q,lineR (curS sr o,o.isSome) x=some q
 ·obtain ⟨q,eq⟩:=hs3
  refine s_callE (mp1 lk6 (mp1 lk7 mp0)) (pline_e hM hm ho hb1 hb2 hb3 hb4 hb5 eq) pt8 ?_
  rintro ⟨sr',o',m',w1,w2,w3,w4⟩ hJ
  dsimp only [stE]
  refine sn'<|wr'<|E' (e_store lk4 (cvl lkb rfl) (hga hM rfl) rfl (nb' rfl) rfl SrcPc_sc0_1 (hs7 hM)) ptn<|sn'<|w_rets<|?_
  refine door_ret (adefR_r ⟨_,rs1 (rr_c gt4 (hga hM rfl) (ld0 gt0)),?_⟩)
  exact rp_ok hM (by simp [hM]) rfl hlt eq hJ
 have eq:lineR (curS sr o,o.isSome) x=none:=by cases h9:lineR (curS sr o,o.isSome) x with | none=>rfl | some q=>exact absurd ⟨q,h9⟩ hs3
 refine s_callPanX (mp1 lk6 (mp1 lk7 mp0)) (pline_p hM hm ho hb1 hb2 hb3 hb4 hb5 eq) (fun hP_ hPp_=>?_)
 refine p_thn ?_
 obtain ⟨p1,p2,p3,p4,p5,hpl,rfl⟩:=hPp_
 refine door_pan (adefR_p (hga hM rfl) ?_)
 rw [hs7 hM]
 exact ⟨_,rs1 (rr_c gt4 (hga hM rfl) (ld0 gt0)),rp_pan hM (by simp [hM]) rfl hlt hpl eq⟩
end Go.Proofs.YtgjchdhdopgkkaaGreatDoor
end
section
namespace Go.Proofs.YtgjchdhdopgkkaaGreatDoor
open Go.Ab Go.RowKit Civ
attribute [local simp] rul_lt era_lt zon_lt lnk_lt str_lt ln_lt zc_lt
section
theorem SrcY_ParseOf_15 {τ:Operand→AV}:fillAV τ [] [(.sl 0 0 true []),(.sl 0 0 true []),(.sl 0 0 true [])]=some [(.sl 0 0 true []),(.sl 0 0 true []),(.sl 0 0 true [])]:=rfl
theorem SrcY_sc0_3 {a0 a1 a2 c0 c1 c2:AV}{l:List AV}:setCells (a0::a1::a2::l) 0 [c0,c1,c2]=c0::c1::c2::l:=rfl
theorem SrcY_tk0_3 {a0 a1 a2:AV}{l:List AV}:((a0::a1::a2::l).drop 0).take 3=[a0,a1,a2]:=rfl
theorem SrcY_ParseOf_33 {τ:Operand→AV}{y0:Operand}{x0_0:AV}(h0:cellsV (τ y0)=some [x0_0]) (l0:[x0_0].all leaf=true):fillAV τ [(0,1,y0)] [(.sl 0 0 true []),(.v (.bool false))]=some [x0_0,(.v (.bool false))]:=by
 simp only [fillAV,h0,l0]
 rfl
theorem SrcY_sc0_2 {a0 a1 c0 c1:AV}{l:List AV}:setCells (a0::a1::l) 0 [c0,c1]=c0::c1::l:=rfl
theorem SrcY_ParseOf_78 {τ:Operand→AV}{y0:Operand}{x0_0 x0_1 x0_2 x0_3 x0_4 x0_5 x0_6 x0_7 x0_8 x0_9 x0_10:AV}(h0:cellsV (τ y0)=some [x0_0,x0_1,x0_2,x0_3,x0_4,x0_5,x0_6,x0_7,x0_8,x0_9,x0_10]) (l0:[x0_0,x0_1,x0_2,x0_3,x0_4,x0_5,x0_6,x0_7,x0_8,x0_9,x0_10].all leaf=true):fillAV τ [(0,11,y0)] [(.v (.string ⟨#[]⟩)),(.v (.int .i64 0)),(.v (.int .i64 0)),(.v (.int .i64 0)),(.v (.int .i64 0)),(.v (.int .i64 0)),(.v (.int .i64 0)),(.v (.int .i64 0)),(.v (.int .i64 0)),(.v (.int .i64 0)),(.v (.string ⟨#[]⟩))]=some [x0_0,x0_1,x0_2,x0_3,x0_4,x0_5,x0_6,x0_7,x0_8,x0_9,x0_10]:=by
 simp only [fillAV,h0,l0]
 rfl
theorem SrcY_tk_11 {a0 a1 a2 a3 a4 a5 a6 a7 a8 a9 a10:AV}{l:List AV}:(a0::a1::a2::a3::a4::a5::a6::a7::a8::a9::a10::l).take 11=[a0,a1,a2,a3,a4,a5,a6,a7,a8,a9,a10]:=rfl
theorem SrcY_sc0_1 {a0 c0:AV}{l:List AV}:setCells (a0::l) 0 [c0]=c0::l:=rfl
theorem SrcY_ParseOf_146 {τ:Operand→AV}:fillAV τ [] [(.sl 0 0 true []),(.sl 0 0 true []),(.sl 0 0 true [])]=some [(.sl 0 0 true []),(.sl 0 0 true []),(.sl 0 0 true [])]:=rfl
theorem SrcY_ParseOf_86 {τ:Operand→AV}{y0:Operand}{x0_0:AV}(h0:cellsV (τ y0)=some [x0_0]) (l0:[x0_0].all leaf=true):fillAV τ [(0,1,y0)] [(.v (.string ⟨#[]⟩)),(.sl 0 0 true [])]=some [x0_0,(.sl 0 0 true [])]:=by
 simp only [fillAV,h0,l0]
 rfl
theorem SrcY_sc0_10 {a0 a1 a2 a3 a4 a5 a6 a7 a8 a9 c0 c1 c2 c3 c4 c5 c6 c7 c8 c9:AV}{l:List AV}:setCells (a0::a1::a2::a3::a4::a5::a6::a7::a8::a9::l) 0 [c0,c1,c2,c3,c4,c5,c6,c7,c8,c9]=c0::c1::c2::c3::c4::c5::c6::c7::c8::c9::l:=rfl
theorem SrcY_tk0_10 {a0 a1 a2 a3 a4 a5 a6 a7 a8 a9:AV}{l:List AV}:((a0::a1::a2::a3::a4::a5::a6::a7::a8::a9::l).drop 0).take 10=[a0,a1,a2,a3,a4,a5,a6,a7,a8,a9]:=rfl
theorem SrcY_ParseOf_95 {τ:Operand→AV}{y0:Operand}{x0_0 x0_1 x0_2 x0_3 x0_4 x0_5 x0_6 x0_7 x0_8 x0_9:AV}(h0:cellsV (τ y0)=some [x0_0,x0_1,x0_2,x0_3,x0_4,x0_5,x0_6,x0_7,x0_8,x0_9]) (l0:[x0_0,x0_1,x0_2,x0_3,x0_4,x0_5,x0_6,x0_7,x0_8,x0_9].all leaf=true):fillAV τ [(0,10,y0)] [(.v (.int .i64 0)),(.v (.string ⟨#[]⟩)),(.v (.int .i64 0)),(.v (.string ⟨#[]⟩)),(.v (.bool false)),(.v (.int .i64 0)),(.v (.int .i64 0)),(.v (.int .i64 0)),(.v (.int .i64 0)),(.v (.int .i64 0))]=some [x0_0,x0_1,x0_2,x0_3,x0_4,x0_5,x0_6,x0_7,x0_8,x0_9]:=by
 simp only [fillAV,h0,l0]
 rfl
theorem SrcY_tk_10 {a0 a1 a2 a3 a4 a5 a6 a7 a8 a9:AV}{l:List AV}:(a0::a1::a2::a3::a4::a5::a6::a7::a8::a9::l).take 10=[a0,a1,a2,a3,a4,a5,a6,a7,a8,a9]:=rfl
theorem SrcY_sc1_1 {a0 a1 c0:AV}{l:List AV}:setCells (a0::a1::l) 1 [c0]=a0::c0::l:=rfl
theorem SrcY_tk0_2 {a0 a1:AV}{l:List AV}:((a0::a1::l).drop 0).take 2=[a0,a1]:=rfl
theorem SrcY_ParseOf_102 {τ:Operand→AV}{y0:Operand}{x0_0 x0_1:AV}(h0:cellsV (τ y0)=some [x0_0,x0_1]) (l0:[x0_0,x0_1].all leaf=true):fillAV τ [(0,2,y0)] [(.v (.string ⟨#[]⟩)),(.sl 0 0 true [])]=some [x0_0,x0_1]:=by
 simp only [fillAV,h0,l0]
 rfl
theorem SrcY_hl10 {h:AH}{n:Nat}(hn:h.length=n) {e0 e1 e2 e3 e4 e5 e6 e7 e8 e9:Ent}:(h++[e0,e1,e2,e3,e4,e5,e6,e7,e8,e9]).length=n+10:=by subst hn;simp
theorem SrcY_ha10 {h:AH}{e0 e1 e2 e3 e4 e5 e6 e7 e8 e9 e:Ent}:(h++[e0,e1,e2,e3,e4,e5,e6,e7,e8,e9])++[e]=h++[e0,e1,e2,e3,e4,e5,e6,e7,e8,e9,e]:=by simp
theorem SrcY_tk_2 {a0 a1:AV}{l:List AV}:(a0::a1::l).take 2=[a0,a1]:=rfl
theorem SrcY_ParseOf_123 {τ:Operand→AV}{y0:Operand}{x0_0 x0_1:AV}(h0:cellsV (τ y0)=some [x0_0,x0_1]) (l0:[x0_0,x0_1].all leaf=true):fillAV τ [(0,2,y0)] [(.v (.string ⟨#[]⟩)),(.v (.string ⟨#[]⟩))]=some [x0_0,x0_1]:=by
 simp only [fillAV,h0,l0]
 rfl
theorem SrcY_sc2_1 {a0 a1 a2 c0:AV}{l:List AV}:setCells (a0::a1::a2::l) 2 [c0]=a0::a1::c0::l:=rfl
theorem SrcY_ParseOf_63 {τ:Operand→AV}{y0:Operand}{x0_0 x0_1 x0_2 x0_3 x0_4 x0_5 x0_6 x0_7 x0_8 x0_9:AV}(h0:cellsV (τ y0)=some [x0_0,x0_1,x0_2,x0_3,x0_4,x0_5,x0_6,x0_7,x0_8,x0_9]) (l0:[x0_0,x0_1,x0_2,x0_3,x0_4,x0_5,x0_6,x0_7,x0_8,x0_9].all leaf=true):fillAV τ [(0,10,y0)] [(.v (.int .i64 0)),(.v (.string ⟨#[]⟩)),(.v (.int .i64 0)),(.v (.string ⟨#[]⟩)),(.v (.bool false)),(.v (.int .i64 0)),(.v (.int .i64 0)),(.v (.int .i64 0)),(.v (.int .i64 0)),(.v (.int .i64 0))]=some [x0_0,x0_1,x0_2,x0_3,x0_4,x0_5,x0_6,x0_7,x0_8,x0_9]:=by
 simp only [fillAV,h0,l0]
 rfl
theorem SrcY_lap0 { e:Ent}:([]:AH)++[e]=[e]:=rfl
theorem SrcY_lj8_1 {e0 e1 e2 e3 e4 e5 e6 e7 d0:Ent}:([e0,e1,e2,e3,e4,e5,e6,e7]:AH)++[d0]=[e0,e1,e2,e3,e4,e5,e6,e7,d0]:=rfl
theorem SrcY_ParseOf_159 {τ:Operand→AV}:fillAV τ [] [(.sl 0 0 true []),(.sl 0 0 true []),(.sl 0 0 true [])]=some [(.sl 0 0 true []),(.sl 0 0 true []),(.sl 0 0 true [])]:=rfl
theorem SrcY_ParseOf_168 {τ:Operand→AV}:fillAV τ [] [(.sl 0 0 true []),(.sl 0 0 true []),(.sl 0 0 true [])]=some [(.sl 0 0 true []),(.sl 0 0 true []),(.sl 0 0 true [])]:=rfl
end
def c19:AC:=(.seq (.reg [Oo 2 (.new 26 3 [(.sl 0 0 true []),(.sl 0 0 true []),(.sl 0 0 true [])]),Oo 3 (.mv (Ci 0)),Oo 4 (.mv (Ci 0))]) (.seq (.reg [Mv 20 0,Oo 21 (.call (.func 48) [(.tmp 20)]),Mv 19 21,Ex 22 19 0,Ex 23 19 1,Ex 24 19 2,Mv 5 22,Mv 6 23,Mv 7 24]) (.seq (.seq (.reg [Mv 25 7,Oo 26 (.bin .neq (.tmp 25) (Ci 0))]) (.cond (.tmp 26) (.seq (.reg [Oo 27 (.build [(.sl 0 0 true []),(.sl 0 0 true []),(.sl 0 0 true [])] []),Mv 28 6,Mv 29 7,⟨none,none,(.store 3 (.tmp 2) (.tmp 27))⟩,Mv 3 28,Mv 4 29]) .ret) .skip)) (.seq (.reg [Oo 8 (.new 26 3 [(.sl 0 0 true []),(.sl 0 0 true []),(.sl 0 0 true [])])]) (.seq (.reg [Oo 9 (.mv (.const (.bool false)))]) (.seq (.seq (.reg [Oo 10 (.mv (Ci 0))]) (.block 0 (.loop (.seq (.seq (.reg [Mv 30 10,Mv 31 5,Oo 32 (.len false (.tmp 31)),Oo 33 (.bin .lss (.tmp 30) (.tmp 32))]) (.cond (.tmp 33) .skip (.exit 0))) (.seq (.block 1 (.seq (.reg [Mv 36 5,Mv 37 10,Oo 38 (.ia 3 (.tmp 36) (.tmp 37)),Fa 39 2 38,Ld 40 39,Oo 41 (.build [(.sl 0 0 true []),(.v (.bool false))] [(0,(1,(.tmp 40)))]),Oo 11 (.new 90 2 [(.sl 0 0 true []),(.v (.bool false))]),⟨none,none,(.store 2 (.tmp 11) (.tmp 41))⟩]) (.seq (.reg [Mv 42 9,Mv 12 42]) (.seq (.reg [Oo 13 (.mv (.const (.string ⟨#[]⟩)))]) (.seq (.seq (.reg [Mv 43 9,Oo 44 (.un .not (.tmp 43))]) (.cond (.tmp 44) (.reg [Oo 45 (.call (.func 49) [(.tmp 11)]),Mv 13 45]) .skip)) (.seq (.block 2 (.seq (.reg [Mv 48 9,Mv 47 48]) (.cond (.tmp 47) (.seq (.reg [Fa 49 1 8,Ld 50 49,Oo 51 (.len false (.tmp 50)),Oo 52 (.bin .sub (.tmp 51) (Ci 1)),Mv 14 52]) (.seq (.reg [Oo 53 (.call (.func 50) [(.tmp 11)]),Oo 15 (.new 64 10 [(iv 0),Ss,(iv 0),Ss,(.v (.bool false)),(iv 0),(iv 0),(iv 0),(iv 0),(iv 0)]),⟨none,none,(.store 10 (.tmp 15) (.tmp 53))⟩]) (.seq (.drw [Fa 54 1 8,Oo 55 (.loadR false 1 (.tmp 54)),Mv 56 14,Fa 57 1 8,Ld 58 57,Mv 59 14,Oo 60 (.ia 2 (.tmp 58) (.tmp 59)),Fa 61 1 60,Ld 62 61,Oo 63 (.load true 10 (.tmp 15)),Oo 64 (.lit 64 10 1 [(iv 0),Ss,(iv 0),Ss,(.v (.bool false)),(iv 0),(iv 0),(iv 0),(iv 0),(iv 0)] [(0,(10,(.tmp 63)))])] [true,false,false,false] [Oo 65 (.app 64 10 96 (.tmp 62) (.tmp 64)),Oo 66 (.ia 2 (.tmp 55) (.tmp 56)),Fa 67 1 66,⟨none,none,(.store 1 (.tmp 67) (.tmp 65))⟩]) (.reg [Fa 68 4 15,Ld 69 68,Oo 70 (.un .not (.tmp 69)),Mv 9 70])))) (.seq (.reg [Mv 72 13,Oo 73 (.bin .eql (.tmp 72) (.const (.string ⟨#[82,117,108,101]⟩))),Mv 71 73]) (.cond (.tmp 71) (.orPan (.drw [Fa 74 0 8,Oo 75 (.loadR false 1 (.tmp 74))] [true,true,false,false,false] [Oo 76 (.call (.func 51) [(.tmp 11)]),Oo 77 (.lit 48 11 1 [Ss,(iv 0),(iv 0),(iv 0),(iv 0),(iv 0),(iv 0),(iv 0),(iv 0),(iv 0),Ss] [(0,(11,(.tmp 76)))]),Oo 78 (.app 48 11 104 (.tmp 75) (.tmp 77)),Fa 79 0 8,⟨none,none,(.store 1 (.tmp 79) (.tmp 78))⟩]) (.tmp 11) 51 [Fa 74 0 8,Ld 75 74,Mv 76 11,Oo 77 (.mv (.const (.bool false))),Oo 78 (.mv (.const (.bool false))),Oo 79 (.mv (.const (.bool false))),⟨none,none,(.mv (.const (.bool false)))⟩] 76) (.seq (.reg [Mv 81 13,Oo 82 (.bin .eql (.tmp 81) (.const (.string ⟨#[90,111,110,101]⟩))),Mv 80 82]) (.cond (.tmp 80) (.seq (.reg [Oo 83 (.call (.func 52) [(.tmp 11)]),Oo 84 (.build [Ss,(.sl 0 0 true [])] [(0,(1,(.tmp 83)))]),Oo 16 (.new 52 2 [Ss,(.sl 0 0 true [])]),⟨none,none,(.store 2 (.tmp 16) (.tmp 84))⟩]) (.seq (.reg [Oo 85 (.call (.func 50) [(.tmp 11)]),Oo 17 (.new 64 10 [(iv 0),Ss,(iv 0),Ss,(.v (.bool false)),(iv 0),(iv 0),(iv 0),(iv 0),(iv 0)]),⟨none,none,(.store 10 (.tmp 17) (.tmp 85))⟩]) (.seq (.reg [Fa 86 1 16,Ld 87 86,Oo 88 (.load true 10 (.tmp 17)),Oo 89 (.lit 64 10 1 [(iv 0),Ss,(iv 0),Ss,(.v (.bool false)),(iv 0),(iv 0),(iv 0),(iv 0),(iv 0)] [(0,(10,(.tmp 88)))]),Oo 90 (.app 64 10 96 (.tmp 87) (.tmp 89)),Fa 91 1 16,⟨none,none,(.store 1 (.tmp 91) (.tmp 90))⟩]) (.seq (.reg [Fa 92 1 8,Ld 93 92,Oo 94 (.load true 2 (.tmp 16)),Oo 95 (.lit 52 2 1 [Ss,(.sl 0 0 true [])] [(0,(2,(.tmp 94)))]),Oo 96 (.app 52 2 40 (.tmp 93) (.tmp 95)),Fa 97 1 8,⟨none,none,(.store 1 (.tmp 97) (.tmp 96))⟩]) (.reg [Fa 98 4 17,Ld 99 98,Oo 100 (.un .not (.tmp 99)),Mv 9 100]))))) (.seq (.reg [Mv 102 13,Oo 103 (.bin .eql (.tmp 102) (.const (.string ⟨#[76,105,110,107]⟩))),Mv 101 103]) (.cond (.tmp 101) (.seq (.reg [Oo 18 (.new 55 2 [Ss,Ss])]) (.seq (.reg [Oo 104 (.call (.func 52) [(.tmp 11)]),Fa 105 0 18,⟨none,none,(.store 1 (.tmp 105) (.tmp 104))⟩]) (.seq (.reg [Oo 106 (.call (.func 52) [(.tmp 11)]),Fa 107 1 18,⟨none,none,(.store 1 (.tmp 107) (.tmp 106))⟩]) (.reg [Fa 108 2 8,Ld 109 108,Oo 110 (.load true 2 (.tmp 18)),Oo 111 (.lit 55 2 1 [Ss,Ss] [(0,(2,(.tmp 110)))]),Oo 112 (.app 55 2 32 (.tmp 109) (.tmp 111)),Fa 113 2 8,⟨none,none,(.store 1 (.tmp 113) (.tmp 112))⟩])))) (.reg [Fa 46 1 11,⟨none,none,(.store 1 (.tmp 46) (.const (.bool true)))⟩])))))))))) (.seq (.reg [Fa 114 1 11,Ld 115 114,Mv 116 115,Of 117 116 (.fa 0 (.tmp 11)),Of 118 116 (.load false 1 (.tmp 117)),Of 119 116 (.len false (.tmp 118)),Of 120 116 (.bin .gtr (.tmp 119) (Ci 0)),Oo 121 (.pick (.tmp 116) (.const (.bool true)) (.tmp 120)),Mv 122 121,Of 123 122 (.mv (.tmp 5)),Of 124 122 (.mv (.tmp 10)),Of 125 122 (.ia 3 (.tmp 123) (.tmp 124)),Of 126 122 (.fa 1 (.tmp 125)),Of 127 122 (.load false 1 (.tmp 126)),Of 128 122 (.mv (.tmp 12)),Of 129 122 (.eqb true (.tmp 127) (.tmp 128)),Oo 130 (.pick (.tmp 122) (.const (.bool true)) (.tmp 129))]) (.cond (.tmp 130) (.seq (.drwU [[],[0],[0,1],[0],[0],[0],[1,2,3,4,5],[],[]] [Oo 131 (.build [(.sl 0 0 true []),(.sl 0 0 true []),(.sl 0 0 true [])] []),Mv 132 5,Mv 133 10,Oo 134 (.ia 3 (.tmp 132) (.tmp 133)),Fa 135 0 134,Ld 136 135,⟨none,none,(.store 3 (.tmp 2) (.tmp 131))⟩,Mv 3 136,Oo 4 (.mv (Ci 1))]) .ret) .skip)))))))) (.reg [Mv 34 10,Oo 35 (.bin .add (.tmp 34) (Ci 1)),Mv 10 35])))))) (.seq (.seq (.reg [Mv 137 9]) (.cond (.tmp 137) (.seq (.reg [Oo 138 (.build [(.sl 0 0 true []),(.sl 0 0 true []),(.sl 0 0 true [])] []),⟨none,none,(.store 3 (.tmp 2) (.tmp 138))⟩,Oo 3 (.mv (Ci 0)),Oo 4 (.mv (Ci 1))]) .ret) .skip)) (.seq (.reg [Oo 139 (.load true 3 (.tmp 8)),Oo 140 (.call (.func 9) [(.tmp 139)]),Mv 7 140]) (.seq (.seq (.reg [Mv 141 7,Oo 142 (.bin .neq (.tmp 141) (Ci 0))]) (.cond (.tmp 142) (.seq (.reg [Oo 143 (.build [(.sl 0 0 true []),(.sl 0 0 true []),(.sl 0 0 true [])] []),Mv 144 7,⟨none,none,(.store 3 (.tmp 2) (.tmp 143))⟩,Oo 3 (.mv (Ci 0)),Mv 4 144]) .ret) .skip)) (.seq (.reg [Oo 145 (.load true 3 (.tmp 8)),Mv 146 7,⟨none,none,(.store 3 (.tmp 2) (.tmp 145))⟩,Oo 3 (.mv (Ci 0)),Mv 4 146]) .ret))))))))))
theorem k19:compF Tryz.prog 19=some ⟨c19,[(.cell 2 true 3),(.tmp 3),(.tmp 4)],147⟩:=by kernel_rfl
theorem trule_e {t t1:TS}{r:Rul}{id:Nat}{h:AH}(ho:okT t) (he:tRule t=(r,t1)) (h1:h[id]?=some (takE t)):ACalls Tryz.prog 51 [.ptr id 0 0] h fun x h'=>x = .ret (.agg (rulC r))∧h'=h.set id (takE t1):=by
 have:=trule_a ho h1
 rw [he] at this
 exact this
theorem tera_e {t t1:TS}{r:Era}{id:Nat}{h:AH}(ho:okT t) (he:tEra t=(r,t1)) (h1:h[id]?=some (takE t)):ACalls Tryz.prog 50 [.ptr id 0 0] h fun x h'=>x = .ret (.agg (eraC r))∧h'=h.set id (takE t1):=by
 have:=tera_a ho h1
 rw [he] at this
 exact this
theorem wk_srcZ {n e:AV}:Wk (.tup [.agg [.sl 0 0 true [],.sl 0 0 true [],.sl 0 0 true []],n,e]) (.tup [.agg (srcC srcZ),n,e]) :=
 Wk.tup (wkw (Wk.agg (wkw Wk.nilF (wkw Wk.nilF (wkw Wk.nilF wk0)))) (wk1 rfl (wk1 rfl wk0)))
theorem okSrc_Z:okSrc (curS srcZ none):=by rw [curS_none];exact ⟨fun _ h=>(by cases h),fun _ h=>(by cases h),fun _ h=>(by cases h)⟩
theorem lt26 {N:Nat}:decide (N+2<N+6)=true:=by simp
attribute [local simp] lt26
theorem lt36 {N:Nat}:decide (N+3<N+6)=true:=by simp
attribute [local simp] lt36
theorem lt46 {N:Nat}:decide (N+4<N+6)=true:=by simp
attribute [local simp] lt46
theorem lt56 {N:Nat}:decide (N+5<N+6)=true:=by simp
attribute [local simp] lt56
set_option maxHeartbeats 8000000 in
theorem rparse_a {s:ByteArray}{h:AH}:ACalls Tryz.prog 19 [sv s] h fun x h'=>h'=h∧x = .ret (.tup [.agg (srcC (parseV s).1),iv (parseV s).2.1,iv (parseV s).2.2]):=by
 obtain ⟨L,hL⟩ : ∃ L,L=(splitL s).1:=⟨_,rfl⟩
 have hf24:=split_fields (s:=s)
 have hL200:=split_len (s:=s)
 rw [←hL] at hf24 hL200
 have hV0:=parseV_eq s
 rw [←hL] at hV0
 refine tW' k19 fun N hn hlt hlA hbd=>?_
 simp only [tA',AV.bdL,AV.bd,and_true,true_and] at hbd ⊢
 refine wr'<|E' (e_new (hl0 hn) ha0) pt2<|mv' lki pt3<|mv' lki pt4<|sn'<|wr'<|mv' lk0 pt20<|s_callp (mp1 lk20 mp0) (rsplitOf_a) pt21<|?_
 rw [←hL]
 refine mv' lk21 pt19<|V' (v_ext lk19 gt0) pt22<|V' (v_ext lk19 gt1) pt23<|V' (v_ext lk19 gt2) pt24<|mv' lk22 pt5<|mv' lk23 pt6<|mv' lk24 pt7<|sn'<|w_seq<|wr'<|mv' lk7 pt25<|V' (v_neq lk25 lki) pt26<|?_
 refine sn' ?_
 refine cd' lk26 (fun hc1=>?_) (fun hc1=>?_)
 ·have hV:parseV s=(srcZ,(splitL s).2.1,(splitL s).2.2):=by rw [hV0];exact if_pos hc1
  refine wr'<|V' (v_build SrcY_ParseOf_15) pt27<|mv' lk6 pt28<|mv' lk7 pt29<|E' (e_store lk2 (cvl lk27 rfl) (hga hn rfl) rfl (nb' rfl) rfl SrcY_sc0_3 (hs0 hn)) ptn<|mv' lk28 pt3<|mv' lk29 pt4<|sn'<|w_rets<|r_thn<|w_ret (rsn (rm1 (rr_c gt2 (hga hn rfl) (ld1 SrcY_tk0_3 rfl)) (rm1 (rr_t gt3) (rm1 (rr_t gt4) rm0))))<|rtW'<|?_
  rw [hV];exact wk_srcZ
 have hV:parseV s=outP L:=by rw [hV0];exact if_neg hc1
 clear hV0
 refine w_skip<|n_seq<|wr'<|E' (e_new (hl1 hn) ha1) pt8<|s_nil<|?_
 refine n_seqw (ALe.trans (ALe.own0Cell (st':=11) (ty:=48) (hga hn rfl) gt0 (hl2 hn) pt0 (Eq.trans (congrArg (fun z=>List.set z _ _) ha2) (hs1 hn))) (ALe.trans (ALe.own0Cell (st':=2) (ty:=52) (hga hn rfl) gt1 (hl3 hn) pt1 (Eq.trans (congrArg (fun z=>List.set z _ _) ha3) (hs1 hn))) (ALe.own0Cell (st':=2) (ty:=55) (hga hn rfl) gt2 (hl4 hn) pt2 (Eq.trans (congrArg (fun z=>List.set z _ _) ha4) (hs1 hn))))) ?_
 refine wr'<|mv' lkb pt9<|s_nil<|n_seqw ((ALe.newEnt (ty:=64) (st:=10) ha5))<|w_seq<|wr'<|mv' lki pt10<|sn'<|w_block<|?_
 refine w_lp (ι:=Nat×Src×Option Zon×Nat×Nat×Nat×Nat×Nat) (fun (x_:Nat×Src×Option Zon×Nat×Nat×Nat×Nat×Nat)=>match x_ with | ⟨k,sr,o,m,v1,v2,v3,v4⟩=>[(9,bv o.isSome),(10,iv (k:Int)),(3,.any),(4,.any)]++rn' 11 8++rn' 30 107) (fun (x_:Nat×Src×Option Zon×Nat×Nat×Nat×Nat×Nat)=>match x_ with | ⟨k,sr,o,m,v1,v2,v3,v4⟩=>[(1,.mk 0 26 3 [.own (N+2) v1 sr.1.length,.own (N+3) v2 m,.own (N+4) v3 sr.2.2.length]),(2,.mk v1 48 11 (rows rulC sr.1)),(3,.mk v2 52 2 (rows zonC sr.2.1++zC N v4 o)),(4,.mk v3 55 2 (rows lnkC sr.2.2)),(5,.mk v4 64 10 (rows eraC (eC o)))]) (fun (x_:Nat×Src×Option Zon×Nat×Nat×Nat×Nat×Nat)=>match x_ with | ⟨k,sr,o,m,v1,v2,v3,v4⟩=>k≤L.length∧m=sr.2.1.length+o.toList.length∧sr.1.length≤k∧m≤k∧sr.2.2.length≤k∧(eC o).length≤k∧okSrc (curS sr o)∧runR (srcZ,false) L=runR (curS sr o,o.isSome) (L.drop k)) (fun (x_:Nat×Src×Option Zon×Nat×Nat×Nat×Nat×Nat)=>match x_ with | ⟨k,sr,o,m,v1,v2,v3,v4⟩=>L.length-k) (⟨0,srcZ,none,0,0,0,0,0⟩) (by exact ⟨Nat.zero_le _,rfl,Nat.le_refl _,Nat.le_refl _,Nat.le_refl _,Nat.le_refl _,okSrc_Z,rfl⟩) ?_
 rintro ⟨k,sr,o,m,v1,v2,v3,v4⟩ hi1
 try simp only [setsT,setsE,z',s',rn',la',ln',Nat.reduceAdd]
 obtain ⟨hk1,hm,hk2,hk3,hk4,hk5,hok,hrun⟩:=hi1
 refine w_seq<|wr'<|mv' lk10 pt30<|mv' lk5 pt31<|V' (v_lenL lk31) pt32<|V' (v_lss lk30 lk32) pt33<|sn'<|?_
 refine cd' lk33 (fun hc2=>?_) (fun hc2=>?_)
 ·have hk:k<L.length:=by omega
  have hfs:=hf24 _ (List.getElem_mem hk)
  have hokt:okT (L[k].2.2,false):=hfs
  rw [runR_at hk] at hrun
  have hPT:=pt_body (p:=(curS sr o,o.isSome)) hok (L[k].2.2,false) hokt
  refine w_skip<|n_seq<|w_seq<|w_block<|wr'<|mv' lk5 pt36<|mv' lk10 pt37<|?_
  refine V' (v_iaR lk36 lk37 ln_len1 (nb' rfl) (by first | rfl | omega) (by omega) (by first | rfl | omega) rfl) pt38 ?_
  refine V' (v_far lk38 dp2) pt39<|V' (v_loadr lk39 gt0) pt40<|V' (v_build (SrcY_ParseOf_33 (cvl lk40 rfl) rfl)) pt41<|E' (e_new (hl6 hn) ha6) pt11<|E' (e_store lk11 (cvl lk41 rfl) (hga hn rfl) rfl (nb' rfl) rfl SrcY_sc0_2 (hs6 hn)) ptn<|s_nil<|n_seqw ((ALe.same (WkL.refl _) rfl))<|wr'<|?_
  by_cases hs36:o=none
  ·subst hs36
   simp only [Option.isSome_none] at hrun hPT
   have hm':m=sr.2.1.length:=by simpa using hm
   subst hm'
   obtain ⟨w,t1,e1⟩ : ∃ a b,tNext (L[k].2.2,false)=(a,b):=⟨_,_,rfl⟩
   obtain ⟨z1,o1⟩:=okT_next hokt e1
   refine mv' lk9 pt42<|mv' lk42 pt12<|sn'<|wr'<|mv' lks pt13<|sn'<|w_seq<|wr'<|mv' lk9 pt43<|?_
   refine V' ((by first | exact v_not lk43 | exact v_notB lk43)) pt44 ?_
   refine sn' ?_
   refine w_condK lk44 (by rfl) ?_
   refine w_reg<|s_calls (mp1 lk11 mp0) (tnext_e e1 (hga hn rfl)) (hs6 hn) pt45<|mv' lk45 pt13<|sn'<|w_seq<|w_block<|wr'<|mv' lk9 pt48<|mv' lk48 pt47<|sn'<|?_
   refine w_condKF lk47 (by rfl) ?_
   refine wr'<|mv' lk13 (ptS pt2)<|V' (v_eqlS (lkS lk2) lks) (ptS pt3)<|mv' (lkS lk3) (ptS pt1)<|sn'<|?_
   refine cd' (lkS lk1) (fun hc5=>?_) (fun hc5=>?_)
   ·have hwR:w=ruleA:=hc5
    obtain ⟨r,u,eR⟩ : ∃ a b,tRule t1=(a,b):=⟨_,_,rfl⟩
    have hB:bodyT (curS sr none,false) (L[k].2.2,false)=((curS (sr.1++[r],sr.2.1,sr.2.2) none,false),u):=by unfold bodyT;rw [if_neg (by simp)];simp only [bind2,e1,if_pos hwR,ret2,eR];rfl
    have hq:True:=trivial
    refine w_orl<|w_drwR [N+1]<|D' (v_fap0 lk8) (ptS pt4)<|?_
    refine d_ldP (lkS lk4) (hga hn rfl) (ld0 gt0) (by simp) (ptS pt5) ?_
    refine d_nil<|k_e_nil<|?_
    refine k_calls (mp1 lk11 mp0) (trule_e o1 eR (hga hn rfl)) (hs6 hn) (by intro i hi;simp only [cond_true,List.mem_cons,List.not_mem_nil,or_false] at hi;subst hi;first | rfl | exact (hga hn rfl).trans (hga hn rfl).symm) (ptS pt6) ?_
    refine k_eff rfl rfl (e_lit (SrcY_ParseOf_78 (cvl (lkS lk6) rfl) rfl) (hl7 hn) ha7) (by intro i hi;simp only [cond_true,List.mem_cons,List.not_mem_nil,or_false] at hi;subst hi;first | rfl | exact (hga hn rfl).trans (hga hn rfl).symm) (ptS pt7) ?_
    refine k_eff rfl rfl (e_app (sc_own (lkS lk7) (hga hn rfl) rfl SrcY_tk_11 (nb' rfl)) (lkS lk5) (hga hn rfl) (rul_len _) (by omega) rfl (hs2 hn)) (by intro i hi;simp at hi) (ptS pt8) ?_
    refine k_val rfl (v_fap0 lk8) (ptS pt9) ?_
    refine k_eff rfl rfl (e_store (lkS lk9) (cvl (lkS lk8) rfl) (hga hn rfl) rfl (nb' rfl) rfl SrcY_sc0_1 (hs1 hn)) (by intro i hi;simp at hi) ptn ?_
    refine k_nil<|n_blk<|n_seq<|wr'<|V' (v_fap0 lk11) (ptS pt44)<|V' (v_loadp (lkS lk44) (hga hn rfl) gt1) (ptS pt45)<|mv' (lkS lk45) (ptS pt46)<|?_
    refine s_splitB (gtS gt46) (ptS pt46) (ptS pt46) (fun hg116=>?_) (fun hg116=>?_)
    ·have hN:=lineR_none hB (.inl hg116)
     refine s_no (gtS gt46) (ptS pt47)<|s_no (gtS gt46) (ptS pt48)<|s_no (gtS gt46) (ptS pt49)<|s_no (gtS gt46) (ptS pt50)<|V' (v_pickT (lkS lk46) lkb) (ptS pt51)<|mv' (lkS lk51) (ptS pt52)<|s_no (gtS gt52) (ptS pt53)<|s_no (gtS gt52) (ptS pt54)<|s_no (gtS gt52) (ptS pt55)<|s_no (gtS gt52) (ptS pt56)<|s_no (gtS gt52) (ptS pt57)<|s_no (gtS gt52) (ptS pt58)<|s_no (gtS gt52) (ptS pt59)<|V' (v_pickT (lkS lk52) lkb) (ptS pt60)<|?_
     refine sn'<|w_condT (lkS lk60)<|w_seq<|w_drwU<|u_fr rfl (v_build SrcY_ParseOf_146) (ptS pt61)<|u_fr rfl (v_mv lk5) (ptS pt62)<|u_fr rfl (v_mv lk10) (ptS pt63)<|?_
     refine u_fr rfl (v_iaR (lkS lk62) (lkS lk63) ln_len1 (nb' rfl) (by first | rfl | omega) (by omega) (by first | rfl | omega) rfl) (ptS pt64) ?_
     refine u_fr rfl (v_far (lkS lk64) dp0) (ptS pt65)<|u_fr rfl (v_loadr (lkS lk65) gt0) (ptS pt66)<|?_
     refine u_st (e_store lk2 (cvl (lkS lk61) rfl) (hga hn rfl) rfl (nb' rfl) rfl SrcY_sc0_3 (hs0 hn)) lk2 (by first | (simp [noHit];done) | (simp [noHit];omega) | (simp [noHit] <;> (try intros) <;> omega)) ptn ?_
     refine u_fr rfl (v_mv (lkS lk66)) pt3<|u_fr rfl (v_mv lki) pt4<|u_nil<|n_seq<|w_rets<|r_blk<|r_thn<|r_thn<|r_blk<|r_thn<|w_ret (rsn (rm1 (rr_c gt2 (hga hn rfl) (ld1 SrcY_tk0_3 rfl)) (rm1 (rr_t gt3) (rm1 (rr_t gt4) rm0))))<|rtW'<|?_
     have hP:parseV s=(srcZ,L[k].1,1):=by rw [hV,outP,hrun,hN]
     rw [hP];exact wk_srcZ
    refine s_do (gtS gt46)<|V' (v_fap0 lk11) (ptS pt47)<|s_do (gtS gt46)<|V' (v_loadp (lkS lk47) (hga hn rfl) gt0) (ptS pt48)<|s_do (gtS gt46)<|V' (v_lenL (lkS lk48)) (ptS pt49)<|s_do (gtS gt46)<|V' (v_gtr (lkS lk49) lki) (ptS pt50)<|V' (v_pickF (lkS lk46) (lkS lk50)) (ptS pt51)<|mv' (lkS lk51) (ptS pt52)<|?_
    refine sp' (gtS gt52) (ptS pt52) (ptS pt52) (fun hg122=>?_) (fun hg122=>?_)
    ·have hN:=lineR_none hB (.inr (.inl (by intro e;rw [e] at hg122;exact absurd hg122 (by decide))))
     refine s_no (gtS gt52) (ptS pt53)<|s_no (gtS gt52) (ptS pt54)<|s_no (gtS gt52) (ptS pt55)<|s_no (gtS gt52) (ptS pt56)<|s_no (gtS gt52) (ptS pt57)<|s_no (gtS gt52) (ptS pt58)<|s_no (gtS gt52) (ptS pt59)<|V' (v_pickT (lkS lk52) lkb) (ptS pt60)<|sn'<|w_condT (lkS lk60)<|w_seq<|w_drwU<|u_fr rfl (v_build SrcY_ParseOf_146) (ptS pt61)<|?_
     refine u_fr rfl (v_mv lk5) (ptS pt62)<|u_fr rfl (v_mv lk10) (ptS pt63)<|?_
     refine u_fr rfl (v_iaR (lkS lk62) (lkS lk63) ln_len1 (nb' rfl) (by first | rfl | omega) (by omega) (by first | rfl | omega) rfl) (ptS pt64) ?_
     refine u_fr rfl (v_far (lkS lk64) dp0) (ptS pt65)<|u_fr rfl (v_loadr (lkS lk65) gt0) (ptS pt66)<|?_
     refine u_st (e_store lk2 (cvl (lkS lk61) rfl) (hga hn rfl) rfl (nb' rfl) rfl SrcY_sc0_3 (hs0 hn)) lk2 (by first | (simp [noHit];done) | (simp [noHit];omega) | (simp [noHit] <;> (try intros) <;> omega)) ptn ?_
     refine u_fr rfl (v_mv (lkS lk66)) pt3<|u_fr rfl (v_mv lki) pt4<|u_nil<|n_seq<|w_rets<|r_blk<|r_thn<|r_thn<|r_blk<|r_thn<|w_ret (rsn (rm1 (rr_c gt2 (hga hn rfl) (ld1 SrcY_tk0_3 rfl)) (rm1 (rr_t gt3) (rm1 (rr_t gt4) rm0))))<|rtW'<|?_
     have hP:parseV s=(srcZ,L[k].1,1):=by rw [hV,outP,hrun,hN]
     rw [hP];exact wk_srcZ
    refine s_do (gtS gt52)<|mv' lk5 (ptS pt53)<|s_do (gtS gt52)<|mv' lk10 (ptS pt54)<|s_do (gtS gt52)<|?_
    refine V' (v_iaR (lkS lk53) (lkS lk54) ln_len1 (nb' rfl) (by first | rfl | omega) (by omega) (by first | rfl | omega) rfl) (ptS pt55) ?_
    refine s_do (gtS gt52)<|V' (v_far (lkS lk55) dp1) (ptS pt56)<|s_do (gtS gt52)<|V' (v_loadr (lkS lk56) gt0) (ptS pt57)<|s_do (gtS gt52)<|mv' lk12 (ptS pt58)<|s_do (gtS gt52)<|V' (v_eqbN (lkS lk57) (lkS lk58)) (ptS pt59)<|V' (v_pickF (lkS lk52) (lkS lk59)) (ptS pt60)<|sn'<|?_
    refine cd' (lkS lk60) (fun hc8=>?_) (fun hc8=>?_)
    ·have hN:=lineR_none hB (.inr (.inr (by simpa using hc8)))
     refine w_seq<|w_drwU<|u_fr rfl (v_build SrcY_ParseOf_146) (ptS pt61)<|u_fr rfl (v_mv lk5) (ptS pt62)<|u_fr rfl (v_mv lk10) (ptS pt63)<|?_
     refine u_fr rfl (v_iaR (lkS lk62) (lkS lk63) ln_len1 (nb' rfl) (by first | rfl | omega) (by omega) (by first | rfl | omega) rfl) (ptS pt64) ?_
     refine u_fr rfl (v_far (lkS lk64) dp0) (ptS pt65)<|u_fr rfl (v_loadr (lkS lk65) gt0) (ptS pt66)<|?_
     refine u_st (e_store lk2 (cvl (lkS lk61) rfl) (hga hn rfl) rfl (nb' rfl) rfl SrcY_sc0_3 (hs0 hn)) lk2 (by first | (simp [noHit];done) | (simp [noHit];omega) | (simp [noHit] <;> (try intros) <;> omega)) ptn ?_
     refine u_fr rfl (v_mv (lkS lk66)) pt3<|u_fr rfl (v_mv lki) pt4<|u_nil<|n_seq<|w_rets<|r_blk<|r_thn<|r_thn<|r_blk<|r_thn<|w_ret (rsn (rm1 (rr_c gt2 (hga hn rfl) (ld1 SrcY_tk0_3 rfl)) (rm1 (rr_t gt3) (rm1 (rr_t gt4) rm0))))<|rtW'<|?_
     have hP:parseV s=(srcZ,L[k].1,1):=by rw [hV,outP,hrun,hN]
     rw [hP];exact wk_srcZ
    have hu1:u.2=false:=by simpa using hg116
    have hu2:u.1=[]:=List.eq_nil_of_length_eq_zero (by omega)
    have hS:=lineR_some hB hu1 hu2 (by simpa using hc8)
    rw [hS] at hrun
    have hokq:=hPT.1
    rw [hB] at hokq
    refine w_skip<|n_blk<|n_seq<|w_reg<|mv' lk10 pt34<|?_
    refine V' (v_add lk34 lki (by omega) (by omega)) pt35 ?_
    refine mv' lk35 pt10<|s_nil<|n_thn<|?_
    refine lU' (⟨k+1,(sr.1++[r],sr.2.1,sr.2.2),none,sr.2.1.length,v1+1,v2,v3,v4⟩) (by (try dsimp only);exact ⟨by omega,by simp,by simp;omega,by omega,by omega,by simp [eC],hokq,hrun⟩) (by (try dsimp only);(try simp only [setsT,setsE,z',s',rn',la',ln',Nat.reduceAdd]);exact bkE' 6 hn hlt (by repeat (first | exact wk0 | refine wka ?_ | refine wk1 rfl ?_ | refine wk1 (by first | rfl | exact ivx (by omega) | (simp;done) | exact bvx (by have h9:=hs68;unfold openE at h9;rw [h9];rfl) | exact bvx (by have h9:=hs106;unfold openE at h9;rw [h9];rfl) | exact bvx (by have h9:=hs68;unfold openE at h9;rw [Bool.not_eq_true] at h9;rw [h9];rfl) | exact bvx (by have h9:=hs106;unfold openE at h9;rw [Bool.not_eq_true] at h9;rw [h9];rfl)) ?_)) (by simp only [zonC,rows_app,rows_one,zC,eC,List.append_nil,List.length_append,List.length_singleton];rfl) (hT:=by first | rfl | (simp only [AV.lt,AV.ltL,Ent.lt,List.all_cons,List.all_nil,Bool.and_true,Bool.and_self,decide_true,rul_lt,era_lt,zon_lt,lnk_lt,str_lt,ln_lt,zc_lt,lt26,lt36,lt46,lt56];done) | exact lt') (hE:=by first | rfl | (simp only [AV.lt,AV.ltL,Ent.lt,List.all_cons,List.all_nil,Bool.and_true,Bool.and_self,decide_true,rul_lt,era_lt,zon_lt,lnk_lt,str_lt,ln_lt,zc_lt,lt26,lt36,lt46,lt56];done) | exact lt'))
   have hwR:¬w=ruleA:=hc5
   refine wr'<|mv' lk13 (ptS pt11)<|V' (v_eqlS (lkS lk11) lks) (ptS pt12)<|mv' (lkS lk12) (ptS pt10)<|sn'<|?_
   refine cd' (lkS lk10) (fun hc6=>?_) (fun hc6=>?_)
   ·have hwZ:w=zoneA:=hc6
    obtain ⟨nm,t2,e2⟩ : ∃ a b,tName t1=(a,b):=⟨_,_,rfl⟩
    have o2:=okT_name o1 e2
    obtain ⟨x,u,eE⟩ : ∃ a b,tEra t2=(a,b):=⟨_,_,rfl⟩
    have hB:bodyT (curS sr none,false) (L[k].2.2,false)=(withEra (sr.1,sr.2.1++[(nm,[])],sr.2.2) x,u):=by unfold bodyT;rw [if_neg (by simp)];simp only [bind2,e1,if_neg hwR,if_pos hwZ,ret2,e2,eE,curS_none]
    have hw:withEra (sr.1,sr.2.1++[(nm,[])],sr.2.2) x=((sr.1,sr.2.1++[(nm,[x])],sr.2.2),!openE x):=by unfold withEra;rw [addEra_snoc];rfl
    refine wr'<|s_calls (mp1 lk11 mp0) (tname_e o1 e2 (hga hn rfl)) (hs6 hn) (ptS pt13)<|V' (v_build (SrcY_ParseOf_86 (cvl (lkS lk13) rfl) rfl)) (ptS pt14)<|E' (e_new (hl7 hn) ha7) pt16<|E' (e_store lk16 (cvl (lkS lk14) rfl) (hga hn rfl) rfl (nb' rfl) rfl SrcY_sc0_2 (hs7 hn)) ptn<|sn'<|wr'<|s_calls (mp1 lk11 mp0) (tera_e o2 eE (hga hn rfl)) (hs6 hn) (ptS pt15)<|E' (e_new (hl8 hn) ha8) pt17<|E' (e_store lk17 (cvl (lkS lk15) rfl) (hga hn rfl) rfl (nb' rfl) rfl SrcY_sc0_10 (hs8 hn)) ptn<|s_nil<|?_
    refine n_seqw ((ALe.own0CellRe (ty2:=64) (st2:=10) (hga hn rfl) (hga hn rfl) (by omega) gt1 pt1 (Eq.trans (congrArg (fun z=>List.set z _ _) (hs5 hn)) (hs7 hn)))) ?_
    refine wr'<|V' (v_fap0 lk16) (ptS pt16)<|V' (v_loadp (lkS lk16) (hga hn rfl) gt1) (ptS pt17)<|V' (v_loadpA lk17 (hga hn rfl) SrcY_tk0_10 rfl) (ptS pt18)<|E' (e_lit (SrcY_ParseOf_95 (cvl (lkS lk18) rfl) rfl) (hl9 hn) ha9) (ptS pt19)<|?_
    refine E' (e_app (sc_own (lkS lk19) (hga hn rfl) rfl SrcY_tk_10 (nb' rfl)) (lkS lk17) (hga hn rfl) rfl (by omega) rfl (hs5 hn)) (ptS pt20) ?_
    refine V' (v_fap0 lk16) (ptS pt21)<|E' (e_store (lkS lk21) (cvl (lkS lk20) rfl) (hga hn rfl) rfl (nb' rfl) rfl SrcY_sc1_1 (hs7 hn)) ptn<|sn'<|wr'<|V' (v_fap0 lk8) (ptS pt22)<|V' (v_loadp (lkS lk22) (hga hn rfl) gt1) (ptS pt23)<|V' (v_loadpA lk16 (hga hn rfl) SrcY_tk0_2 rfl) (ptS pt24)<|E' (e_lit (SrcY_ParseOf_102 (cvl (lkS lk24) rfl) rfl) (SrcY_hl10 hn) SrcY_ha10) (ptS pt25)<|?_
    refine E' (e_app (sc_own (lkS lk25) (hga hn rfl) rfl SrcY_tk_2 (nb' rfl)) (lkS lk23) (hga hn rfl) zc_len (by omega) rfl (hs3 hn)) (ptS pt26) ?_
    refine V' (v_fap0 lk8) (ptS pt27)<|E' (e_store (lkS lk27) (cvl (lkS lk26) rfl) (hga hn rfl) rfl (nb' rfl) rfl SrcY_sc1_1 (hs1 hn)) ptn<|sn'<|w_reg<|?_
    by_cases hs106:openE x=true
    ·have hq:withEra (sr.1,sr.2.1++[(nm,[])],sr.2.2) x=(curS (sr.1,sr.2.1++[(nm,[x])],sr.2.2) none,false):=by rw [hw,hs106,curS_none];rfl
     refine V' (v_fap0 lk17) (ptS pt28)<|V' (v_loadp (lkS lk28) (hga hn rfl) gt4) (ptS pt29)<|V' (v_notB (lkS lk29)) (ptS pt30)<|mv' (lkS lk30) pt9<|s_nil<|n_blk<|n_seq<|wr'<|V' (v_fap0 lk11) (ptS pt44)<|V' (v_loadp (lkS lk44) (hga hn rfl) gt1) (ptS pt45)<|mv' (lkS lk45) (ptS pt46)<|?_
     refine s_splitB (gtS gt46) (ptS pt46) (ptS pt46) (fun hg116=>?_) (fun hg116=>?_)
     ·have hN:=lineR_none hB (.inl hg116)
      refine s_no (gtS gt46) (ptS pt47)<|s_no (gtS gt46) (ptS pt48)<|s_no (gtS gt46) (ptS pt49)<|s_no (gtS gt46) (ptS pt50)<|V' (v_pickT (lkS lk46) lkb) (ptS pt51)<|mv' (lkS lk51) (ptS pt52)<|s_no (gtS gt52) (ptS pt53)<|s_no (gtS gt52) (ptS pt54)<|s_no (gtS gt52) (ptS pt55)<|s_no (gtS gt52) (ptS pt56)<|s_no (gtS gt52) (ptS pt57)<|s_no (gtS gt52) (ptS pt58)<|s_no (gtS gt52) (ptS pt59)<|V' (v_pickT (lkS lk52) lkb) (ptS pt60)<|?_
      refine sn'<|w_condT (lkS lk60)<|w_seq<|w_drwU<|u_fr rfl (v_build SrcY_ParseOf_146) (ptS pt61)<|u_fr rfl (v_mv lk5) (ptS pt62)<|u_fr rfl (v_mv lk10) (ptS pt63)<|?_
      refine u_fr rfl (v_iaR (lkS lk62) (lkS lk63) ln_len1 (nb' rfl) (by first | rfl | omega) (by omega) (by first | rfl | omega) rfl) (ptS pt64) ?_
      refine u_fr rfl (v_far (lkS lk64) dp0) (ptS pt65)<|u_fr rfl (v_loadr (lkS lk65) gt0) (ptS pt66)<|?_
      refine u_st (e_store lk2 (cvl (lkS lk61) rfl) (hga hn rfl) rfl (nb' rfl) rfl SrcY_sc0_3 (hs0 hn)) lk2 (by first | (simp [noHit];done) | (simp [noHit];omega) | (simp [noHit] <;> (try intros) <;> omega)) ptn ?_
      refine u_fr rfl (v_mv (lkS lk66)) pt3<|u_fr rfl (v_mv lki) pt4<|u_nil<|n_seq<|w_rets<|r_blk<|r_thn<|r_thn<|r_blk<|r_thn<|w_ret (rsn (rm1 (rr_c gt2 (hga hn rfl) (ld1 SrcY_tk0_3 rfl)) (rm1 (rr_t gt3) (rm1 (rr_t gt4) rm0))))<|rtW'<|?_
      have hP:parseV s=(srcZ,L[k].1,1):=by rw [hV,outP,hrun,hN]
      rw [hP];exact wk_srcZ
     refine s_do (gtS gt46)<|V' (v_fap0 lk11) (ptS pt47)<|s_do (gtS gt46)<|V' (v_loadp (lkS lk47) (hga hn rfl) gt0) (ptS pt48)<|s_do (gtS gt46)<|V' (v_lenL (lkS lk48)) (ptS pt49)<|s_do (gtS gt46)<|V' (v_gtr (lkS lk49) lki) (ptS pt50)<|V' (v_pickF (lkS lk46) (lkS lk50)) (ptS pt51)<|mv' (lkS lk51) (ptS pt52)<|?_
     refine sp' (gtS gt52) (ptS pt52) (ptS pt52) (fun hg122=>?_) (fun hg122=>?_)
     ·have hN:=lineR_none hB (.inr (.inl (by intro e;rw [e] at hg122;exact absurd hg122 (by decide))))
      refine s_no (gtS gt52) (ptS pt53)<|s_no (gtS gt52) (ptS pt54)<|s_no (gtS gt52) (ptS pt55)<|s_no (gtS gt52) (ptS pt56)<|s_no (gtS gt52) (ptS pt57)<|s_no (gtS gt52) (ptS pt58)<|s_no (gtS gt52) (ptS pt59)<|V' (v_pickT (lkS lk52) lkb) (ptS pt60)<|sn'<|w_condT (lkS lk60)<|w_seq<|w_drwU<|u_fr rfl (v_build SrcY_ParseOf_146) (ptS pt61)<|?_
      refine u_fr rfl (v_mv lk5) (ptS pt62)<|u_fr rfl (v_mv lk10) (ptS pt63)<|?_
      refine u_fr rfl (v_iaR (lkS lk62) (lkS lk63) ln_len1 (nb' rfl) (by first | rfl | omega) (by omega) (by first | rfl | omega) rfl) (ptS pt64) ?_
      refine u_fr rfl (v_far (lkS lk64) dp0) (ptS pt65)<|u_fr rfl (v_loadr (lkS lk65) gt0) (ptS pt66)<|?_
      refine u_st (e_store lk2 (cvl (lkS lk61) rfl) (hga hn rfl) rfl (nb' rfl) rfl SrcY_sc0_3 (hs0 hn)) lk2 (by first | (simp [noHit];done) | (simp [noHit];omega) | (simp [noHit] <;> (try intros) <;> omega)) ptn ?_
      refine u_fr rfl (v_mv (lkS lk66)) pt3<|u_fr rfl (v_mv lki) pt4<|u_nil<|n_seq<|w_rets<|r_blk<|r_thn<|r_thn<|r_blk<|r_thn<|w_ret (rsn (rm1 (rr_c gt2 (hga hn rfl) (ld1 SrcY_tk0_3 rfl)) (rm1 (rr_t gt3) (rm1 (rr_t gt4) rm0))))<|rtW'<|?_
      have hP:parseV s=(srcZ,L[k].1,1):=by rw [hV,outP,hrun,hN]
      rw [hP];exact wk_srcZ
     refine s_do (gtS gt52)<|mv' lk5 (ptS pt53)<|s_do (gtS gt52)<|mv' lk10 (ptS pt54)<|s_do (gtS gt52)<|?_
     refine V' (v_iaR (lkS lk53) (lkS lk54) ln_len1 (nb' rfl) (by first | rfl | omega) (by omega) (by first | rfl | omega) rfl) (ptS pt55) ?_
     refine s_do (gtS gt52)<|V' (v_far (lkS lk55) dp1) (ptS pt56)<|s_do (gtS gt52)<|V' (v_loadr (lkS lk56) gt0) (ptS pt57)<|s_do (gtS gt52)<|mv' lk12 (ptS pt58)<|s_do (gtS gt52)<|V' (v_eqbN (lkS lk57) (lkS lk58)) (ptS pt59)<|V' (v_pickF (lkS lk52) (lkS lk59)) (ptS pt60)<|sn'<|?_
     refine cd' (lkS lk60) (fun hc8=>?_) (fun hc8=>?_)
     ·have hN:=lineR_none hB (.inr (.inr (by simpa using hc8)))
      refine w_seq<|w_drwU<|u_fr rfl (v_build SrcY_ParseOf_146) (ptS pt61)<|u_fr rfl (v_mv lk5) (ptS pt62)<|u_fr rfl (v_mv lk10) (ptS pt63)<|?_
      refine u_fr rfl (v_iaR (lkS lk62) (lkS lk63) ln_len1 (nb' rfl) (by first | rfl | omega) (by omega) (by first | rfl | omega) rfl) (ptS pt64) ?_
      refine u_fr rfl (v_far (lkS lk64) dp0) (ptS pt65)<|u_fr rfl (v_loadr (lkS lk65) gt0) (ptS pt66)<|?_
      refine u_st (e_store lk2 (cvl (lkS lk61) rfl) (hga hn rfl) rfl (nb' rfl) rfl SrcY_sc0_3 (hs0 hn)) lk2 (by first | (simp [noHit];done) | (simp [noHit];omega) | (simp [noHit] <;> (try intros) <;> omega)) ptn ?_
      refine u_fr rfl (v_mv (lkS lk66)) pt3<|u_fr rfl (v_mv lki) pt4<|u_nil<|n_seq<|w_rets<|r_blk<|r_thn<|r_thn<|r_blk<|r_thn<|w_ret (rsn (rm1 (rr_c gt2 (hga hn rfl) (ld1 SrcY_tk0_3 rfl)) (rm1 (rr_t gt3) (rm1 (rr_t gt4) rm0))))<|rtW'<|?_
      have hP:parseV s=(srcZ,L[k].1,1):=by rw [hV,outP,hrun,hN]
      rw [hP];exact wk_srcZ
     have hu1:u.2=false:=by simpa using hg116
     have hu2:u.1=[]:=List.eq_nil_of_length_eq_zero (by omega)
     have hS:=lineR_some hB hu1 hu2 (by simpa using hc8)
     rw [hS] at hrun
     have hokq:=hPT.1
     rw [hB] at hokq
     refine w_skip<|n_blk<|?_
     refine n_seqw ((ALe.iceCellNew (ds:=rows eraC [x]) (k:=sr.2.1.length*2+1) (ty2:=64) (st2:=10) (hga hn rfl) (hga hn rfl) (by omega) (zc_at2 rfl) rfl (Nat.le_refl _) zc_put2 (hs5 hn) (hs3 hn))) ?_
     refine w_reg<|mv' lk10 pt34<|?_
     refine V' (v_add lk34 lki (by omega) (by omega)) pt35 ?_
     refine mv' lk35 pt10<|s_nil<|n_thn<|?_
     refine lU' (⟨k+1,(sr.1,sr.2.1++[(nm,[x])],sr.2.2),none,sr.2.1.length+1,v1,v2+1,v3,v4+3⟩) (by (try dsimp only);rw [hq] at hrun hokq;exact ⟨by omega,by simp,by omega,by omega,by omega,by simp [eC],hokq,hrun⟩) (by (try dsimp only);(try simp only [setsT,setsE,z',s',rn',la',ln',Nat.reduceAdd]);exact bkE' 6 hn hlt (by repeat (first | exact wk0 | refine wka ?_ | refine wk1 rfl ?_ | refine wk1 (by first | rfl | exact ivx (by omega) | (simp;done) | exact bvx (by have h9:=hs68;unfold openE at h9;rw [h9];rfl) | exact bvx (by have h9:=hs106;unfold openE at h9;rw [h9];rfl) | exact bvx (by have h9:=hs68;unfold openE at h9;rw [Bool.not_eq_true] at h9;rw [h9];rfl) | exact bvx (by have h9:=hs106;unfold openE at h9;rw [Bool.not_eq_true] at h9;rw [h9];rfl)) ?_)) (by simp only [zonC,rows_app,rows_one,zC,eC,List.append_nil,List.length_append,List.length_singleton];rfl) (hT:=by first | rfl | (simp only [AV.lt,AV.ltL,Ent.lt,List.all_cons,List.all_nil,Bool.and_true,Bool.and_self,decide_true,rul_lt,era_lt,zon_lt,lnk_lt,str_lt,ln_lt,zc_lt,lt26,lt36,lt46,lt56];done) | exact lt') (hE:=by first | rfl | (simp only [AV.lt,AV.ltL,Ent.lt,List.all_cons,List.all_nil,Bool.and_true,Bool.and_self,decide_true,rul_lt,era_lt,zon_lt,lnk_lt,str_lt,ln_lt,zc_lt,lt26,lt36,lt46,lt56];done) | exact lt'))
    have hq:withEra (sr.1,sr.2.1++[(nm,[])],sr.2.2) x=(curS sr (some (nm,[x])),true):=by rw [hw,show openE x=false by simpa using hs106];rfl
    refine V' (v_fap0 lk17) (ptS pt28)<|V' (v_loadp (lkS lk28) (hga hn rfl) gt4) (ptS pt29)<|V' (v_notB (lkS lk29)) (ptS pt30)<|mv' (lkS lk30) pt9<|s_nil<|n_blk<|n_seq<|wr'<|V' (v_fap0 lk11) (ptS pt44)<|V' (v_loadp (lkS lk44) (hga hn rfl) gt1) (ptS pt45)<|mv' (lkS lk45) (ptS pt46)<|?_
    refine s_splitB (gtS gt46) (ptS pt46) (ptS pt46) (fun hg116=>?_) (fun hg116=>?_)
    ·have hN:=lineR_none hB (.inl hg116)
     refine s_no (gtS gt46) (ptS pt47)<|s_no (gtS gt46) (ptS pt48)<|s_no (gtS gt46) (ptS pt49)<|s_no (gtS gt46) (ptS pt50)<|V' (v_pickT (lkS lk46) lkb) (ptS pt51)<|mv' (lkS lk51) (ptS pt52)<|s_no (gtS gt52) (ptS pt53)<|s_no (gtS gt52) (ptS pt54)<|s_no (gtS gt52) (ptS pt55)<|s_no (gtS gt52) (ptS pt56)<|s_no (gtS gt52) (ptS pt57)<|s_no (gtS gt52) (ptS pt58)<|s_no (gtS gt52) (ptS pt59)<|V' (v_pickT (lkS lk52) lkb) (ptS pt60)<|?_
     refine sn'<|w_condT (lkS lk60)<|w_seq<|w_drwU<|u_fr rfl (v_build SrcY_ParseOf_146) (ptS pt61)<|u_fr rfl (v_mv lk5) (ptS pt62)<|u_fr rfl (v_mv lk10) (ptS pt63)<|?_
     refine u_fr rfl (v_iaR (lkS lk62) (lkS lk63) ln_len1 (nb' rfl) (by first | rfl | omega) (by omega) (by first | rfl | omega) rfl) (ptS pt64) ?_
     refine u_fr rfl (v_far (lkS lk64) dp0) (ptS pt65)<|u_fr rfl (v_loadr (lkS lk65) gt0) (ptS pt66)<|?_
     refine u_st (e_store lk2 (cvl (lkS lk61) rfl) (hga hn rfl) rfl (nb' rfl) rfl SrcY_sc0_3 (hs0 hn)) lk2 (by first | (simp [noHit];done) | (simp [noHit];omega) | (simp [noHit] <;> (try intros) <;> omega)) ptn ?_
     refine u_fr rfl (v_mv (lkS lk66)) pt3<|u_fr rfl (v_mv lki) pt4<|u_nil<|n_seq<|w_rets<|r_blk<|r_thn<|r_thn<|r_blk<|r_thn<|w_ret (rsn (rm1 (rr_c gt2 (hga hn rfl) (ld1 SrcY_tk0_3 rfl)) (rm1 (rr_t gt3) (rm1 (rr_t gt4) rm0))))<|rtW'<|?_
     have hP:parseV s=(srcZ,L[k].1,1):=by rw [hV,outP,hrun,hN]
     rw [hP];exact wk_srcZ
    refine s_do (gtS gt46)<|V' (v_fap0 lk11) (ptS pt47)<|s_do (gtS gt46)<|V' (v_loadp (lkS lk47) (hga hn rfl) gt0) (ptS pt48)<|s_do (gtS gt46)<|V' (v_lenL (lkS lk48)) (ptS pt49)<|s_do (gtS gt46)<|V' (v_gtr (lkS lk49) lki) (ptS pt50)<|V' (v_pickF (lkS lk46) (lkS lk50)) (ptS pt51)<|mv' (lkS lk51) (ptS pt52)<|?_
    refine sp' (gtS gt52) (ptS pt52) (ptS pt52) (fun hg122=>?_) (fun hg122=>?_)
    ·have hN:=lineR_none hB (.inr (.inl (by intro e;rw [e] at hg122;exact absurd hg122 (by decide))))
     refine s_no (gtS gt52) (ptS pt53)<|s_no (gtS gt52) (ptS pt54)<|s_no (gtS gt52) (ptS pt55)<|s_no (gtS gt52) (ptS pt56)<|s_no (gtS gt52) (ptS pt57)<|s_no (gtS gt52) (ptS pt58)<|s_no (gtS gt52) (ptS pt59)<|V' (v_pickT (lkS lk52) lkb) (ptS pt60)<|sn'<|w_condT (lkS lk60)<|w_seq<|w_drwU<|u_fr rfl (v_build SrcY_ParseOf_146) (ptS pt61)<|?_
     refine u_fr rfl (v_mv lk5) (ptS pt62)<|u_fr rfl (v_mv lk10) (ptS pt63)<|?_
     refine u_fr rfl (v_iaR (lkS lk62) (lkS lk63) ln_len1 (nb' rfl) (by first | rfl | omega) (by omega) (by first | rfl | omega) rfl) (ptS pt64) ?_
     refine u_fr rfl (v_far (lkS lk64) dp0) (ptS pt65)<|u_fr rfl (v_loadr (lkS lk65) gt0) (ptS pt66)<|?_
     refine u_st (e_store lk2 (cvl (lkS lk61) rfl) (hga hn rfl) rfl (nb' rfl) rfl SrcY_sc0_3 (hs0 hn)) lk2 (by first | (simp [noHit];done) | (simp [noHit];omega) | (simp [noHit] <;> (try intros) <;> omega)) ptn ?_
     refine u_fr rfl (v_mv (lkS lk66)) pt3<|u_fr rfl (v_mv lki) pt4<|u_nil<|n_seq<|w_rets<|r_blk<|r_thn<|r_thn<|r_blk<|r_thn<|w_ret (rsn (rm1 (rr_c gt2 (hga hn rfl) (ld1 SrcY_tk0_3 rfl)) (rm1 (rr_t gt3) (rm1 (rr_t gt4) rm0))))<|rtW'<|?_
     have hP:parseV s=(srcZ,L[k].1,1):=by rw [hV,outP,hrun,hN]
     rw [hP];exact wk_srcZ
    refine s_do (gtS gt52)<|mv' lk5 (ptS pt53)<|s_do (gtS gt52)<|mv' lk10 (ptS pt54)<|s_do (gtS gt52)<|?_
    refine V' (v_iaR (lkS lk53) (lkS lk54) ln_len1 (nb' rfl) (by first | rfl | omega) (by omega) (by first | rfl | omega) rfl) (ptS pt55) ?_
    refine s_do (gtS gt52)<|V' (v_far (lkS lk55) dp1) (ptS pt56)<|s_do (gtS gt52)<|V' (v_loadr (lkS lk56) gt0) (ptS pt57)<|s_do (gtS gt52)<|mv' lk12 (ptS pt58)<|s_do (gtS gt52)<|V' (v_eqbN (lkS lk57) (lkS lk58)) (ptS pt59)<|V' (v_pickF (lkS lk52) (lkS lk59)) (ptS pt60)<|sn'<|?_
    refine cd' (lkS lk60) (fun hc8=>?_) (fun hc8=>?_)
    ·have hN:=lineR_none hB (.inr (.inr (by simpa using hc8)))
     refine w_seq<|w_drwU<|u_fr rfl (v_build SrcY_ParseOf_146) (ptS pt61)<|u_fr rfl (v_mv lk5) (ptS pt62)<|u_fr rfl (v_mv lk10) (ptS pt63)<|?_
     refine u_fr rfl (v_iaR (lkS lk62) (lkS lk63) ln_len1 (nb' rfl) (by first | rfl | omega) (by omega) (by first | rfl | omega) rfl) (ptS pt64) ?_
     refine u_fr rfl (v_far (lkS lk64) dp0) (ptS pt65)<|u_fr rfl (v_loadr (lkS lk65) gt0) (ptS pt66)<|?_
     refine u_st (e_store lk2 (cvl (lkS lk61) rfl) (hga hn rfl) rfl (nb' rfl) rfl SrcY_sc0_3 (hs0 hn)) lk2 (by first | (simp [noHit];done) | (simp [noHit];omega) | (simp [noHit] <;> (try intros) <;> omega)) ptn ?_
     refine u_fr rfl (v_mv (lkS lk66)) pt3<|u_fr rfl (v_mv lki) pt4<|u_nil<|n_seq<|w_rets<|r_blk<|r_thn<|r_thn<|r_blk<|r_thn<|w_ret (rsn (rm1 (rr_c gt2 (hga hn rfl) (ld1 SrcY_tk0_3 rfl)) (rm1 (rr_t gt3) (rm1 (rr_t gt4) rm0))))<|rtW'<|?_
     have hP:parseV s=(srcZ,L[k].1,1):=by rw [hV,outP,hrun,hN]
     rw [hP];exact wk_srcZ
    have hu1:u.2=false:=by simpa using hg116
    have hu2:u.1=[]:=List.eq_nil_of_length_eq_zero (by omega)
    have hS:=lineR_some hB hu1 hu2 (by simpa using hc8)
    rw [hS] at hrun
    have hokq:=hPT.1
    rw [hB] at hokq
    refine w_skip<|n_blk<|n_seq<|w_reg<|mv' lk10 pt34<|?_
    refine V' (v_add lk34 lki (by omega) (by omega)) pt35 ?_
    refine mv' lk35 pt10<|s_nil<|n_thn<|?_
    refine lU' (⟨k+1,sr,some (nm,[x]),sr.2.1.length+1,v1,v2+1,v3,v4+2⟩) (by (try dsimp only);rw [hq] at hrun hokq;exact ⟨by omega,by simp,by omega,by omega,by omega,by simp [eC],hokq,hrun⟩) (by (try dsimp only);(try simp only [setsT,setsE,z',s',rn',la',ln',Nat.reduceAdd]);exact bkE' 6 hn hlt (by repeat (first | exact wk0 | refine wka ?_ | refine wk1 rfl ?_ | refine wk1 (by first | rfl | exact ivx (by omega) | (simp;done) | exact bvx (by have h9:=hs68;unfold openE at h9;rw [h9];rfl) | exact bvx (by have h9:=hs106;unfold openE at h9;rw [h9];rfl) | exact bvx (by have h9:=hs68;unfold openE at h9;rw [Bool.not_eq_true] at h9;rw [h9];rfl) | exact bvx (by have h9:=hs106;unfold openE at h9;rw [Bool.not_eq_true] at h9;rw [h9];rfl)) ?_)) (by simp only [zonC,rows_app,rows_one,zC,eC,List.append_nil,List.length_append,List.length_singleton];rfl) (hT:=by first | rfl | (simp only [AV.lt,AV.ltL,Ent.lt,List.all_cons,List.all_nil,Bool.and_true,Bool.and_self,decide_true,rul_lt,era_lt,zon_lt,lnk_lt,str_lt,ln_lt,zc_lt,lt26,lt36,lt46,lt56];done) | exact lt') (hE:=by first | rfl | (simp only [AV.lt,AV.ltL,Ent.lt,List.all_cons,List.all_nil,Bool.and_true,Bool.and_self,decide_true,rul_lt,era_lt,zon_lt,lnk_lt,str_lt,ln_lt,zc_lt,lt26,lt36,lt46,lt56];done) | exact lt'))
   have hwZ:¬w=zoneA:=hc6
   refine wr'<|mv' lk13 (ptS pt32)<|V' (v_eqlS (lkS lk32) lks) (ptS pt33)<|mv' (lkS lk33) (ptS pt31)<|sn'<|?_
   refine cd' (lkS lk31) (fun hc7=>?_) (fun hc7=>?_)
   ·have hwL:w=linkA:=hc7
    obtain ⟨n1,t2,e2⟩ : ∃ a b,tName t1=(a,b):=⟨_,_,rfl⟩
    have o2:=okT_name o1 e2
    obtain ⟨n2,u,e3⟩ : ∃ a b,tName t2=(a,b):=⟨_,_,rfl⟩
    have hB:bodyT (curS sr none,false) (L[k].2.2,false)=((curS (sr.1,sr.2.1,sr.2.2++[(n1,n2)]) none,false),u):=by unfold bodyT;rw [if_neg (by simp)];simp only [bind2,e1,if_neg hwR,if_neg hwZ,if_pos hwL,ret2,e2,e3];rfl
    refine wr'<|E' (e_new (hl7 hn) ha7) pt18<|sn'<|wr'<|s_calls (mp1 lk11 mp0) (tname_e o1 e2 (hga hn rfl)) (hs6 hn) (ptS pt34)<|V' (v_fap0 lk18) (ptS pt35)<|E' (e_store (lkS lk35) (cvl (lkS lk34) rfl) (hga hn rfl) rfl (nb' rfl) rfl SrcY_sc0_1 (hs7 hn)) ptn<|sn'<|wr'<|?_
    refine s_calls (mp1 lk11 mp0) (tname_e o2 e3 (hga hn rfl)) (hs6 hn) (ptS pt36)<|V' (v_fap0 lk18) (ptS pt37)<|E' (e_store (lkS lk37) (cvl (lkS lk36) rfl) (hga hn rfl) rfl (nb' rfl) rfl SrcY_sc1_1 (hs7 hn)) ptn<|sn'<|w_reg<|V' (v_fap0 lk8) (ptS pt38)<|V' (v_loadp (lkS lk38) (hga hn rfl) gt2) (ptS pt39)<|V' (v_loadpA lk18 (hga hn rfl) SrcY_tk0_2 rfl) (ptS pt40)<|E' (e_lit (SrcY_ParseOf_123 (cvl (lkS lk40) rfl) rfl) (hl8 hn) ha8) (ptS pt41)<|?_
    refine E' (e_app (sc_own (lkS lk41) (hga hn rfl) rfl SrcY_tk_2 (nb' rfl)) (lkS lk39) (hga hn rfl) (lnk_len _) (by omega) rfl (hs4 hn)) (ptS pt42) ?_
    refine V' (v_fap0 lk8) (ptS pt43)<|E' (e_store (lkS lk43) (cvl (lkS lk42) rfl) (hga hn rfl) rfl (nb' rfl) rfl SrcY_sc2_1 (hs1 hn)) ptn<|s_nil<|n_blk<|n_seq<|wr'<|V' (v_fap0 lk11) (ptS pt44)<|V' (v_loadp (lkS lk44) (hga hn rfl) gt1) (ptS pt45)<|mv' (lkS lk45) (ptS pt46)<|?_
    refine s_splitB (gtS gt46) (ptS pt46) (ptS pt46) (fun hg116=>?_) (fun hg116=>?_)
    ·have hN:=lineR_none hB (.inl hg116)
     refine s_no (gtS gt46) (ptS pt47)<|s_no (gtS gt46) (ptS pt48)<|s_no (gtS gt46) (ptS pt49)<|s_no (gtS gt46) (ptS pt50)<|V' (v_pickT (lkS lk46) lkb) (ptS pt51)<|mv' (lkS lk51) (ptS pt52)<|s_no (gtS gt52) (ptS pt53)<|s_no (gtS gt52) (ptS pt54)<|s_no (gtS gt52) (ptS pt55)<|s_no (gtS gt52) (ptS pt56)<|s_no (gtS gt52) (ptS pt57)<|s_no (gtS gt52) (ptS pt58)<|s_no (gtS gt52) (ptS pt59)<|V' (v_pickT (lkS lk52) lkb) (ptS pt60)<|?_
     refine sn'<|w_condT (lkS lk60)<|w_seq<|w_drwU<|u_fr rfl (v_build SrcY_ParseOf_146) (ptS pt61)<|u_fr rfl (v_mv lk5) (ptS pt62)<|u_fr rfl (v_mv lk10) (ptS pt63)<|?_
     refine u_fr rfl (v_iaR (lkS lk62) (lkS lk63) ln_len1 (nb' rfl) (by first | rfl | omega) (by omega) (by first | rfl | omega) rfl) (ptS pt64) ?_
     refine u_fr rfl (v_far (lkS lk64) dp0) (ptS pt65)<|u_fr rfl (v_loadr (lkS lk65) gt0) (ptS pt66)<|?_
     refine u_st (e_store lk2 (cvl (lkS lk61) rfl) (hga hn rfl) rfl (nb' rfl) rfl SrcY_sc0_3 (hs0 hn)) lk2 (by first | (simp [noHit];done) | (simp [noHit];omega) | (simp [noHit] <;> (try intros) <;> omega)) ptn ?_
     refine u_fr rfl (v_mv (lkS lk66)) pt3<|u_fr rfl (v_mv lki) pt4<|u_nil<|n_seq<|w_rets<|r_blk<|r_thn<|r_thn<|r_blk<|r_thn<|w_ret (rsn (rm1 (rr_c gt2 (hga hn rfl) (ld1 SrcY_tk0_3 rfl)) (rm1 (rr_t gt3) (rm1 (rr_t gt4) rm0))))<|rtW'<|?_
     have hP:parseV s=(srcZ,L[k].1,1):=by rw [hV,outP,hrun,hN]
     rw [hP];exact wk_srcZ
    refine s_do (gtS gt46)<|V' (v_fap0 lk11) (ptS pt47)<|s_do (gtS gt46)<|V' (v_loadp (lkS lk47) (hga hn rfl) gt0) (ptS pt48)<|s_do (gtS gt46)<|V' (v_lenL (lkS lk48)) (ptS pt49)<|s_do (gtS gt46)<|V' (v_gtr (lkS lk49) lki) (ptS pt50)<|V' (v_pickF (lkS lk46) (lkS lk50)) (ptS pt51)<|mv' (lkS lk51) (ptS pt52)<|?_
    refine sp' (gtS gt52) (ptS pt52) (ptS pt52) (fun hg122=>?_) (fun hg122=>?_)
    ·have hN:=lineR_none hB (.inr (.inl (by intro e;rw [e] at hg122;exact absurd hg122 (by decide))))
     refine s_no (gtS gt52) (ptS pt53)<|s_no (gtS gt52) (ptS pt54)<|s_no (gtS gt52) (ptS pt55)<|s_no (gtS gt52) (ptS pt56)<|s_no (gtS gt52) (ptS pt57)<|s_no (gtS gt52) (ptS pt58)<|s_no (gtS gt52) (ptS pt59)<|V' (v_pickT (lkS lk52) lkb) (ptS pt60)<|sn'<|w_condT (lkS lk60)<|w_seq<|w_drwU<|u_fr rfl (v_build SrcY_ParseOf_146) (ptS pt61)<|?_
     refine u_fr rfl (v_mv lk5) (ptS pt62)<|u_fr rfl (v_mv lk10) (ptS pt63)<|?_
     refine u_fr rfl (v_iaR (lkS lk62) (lkS lk63) ln_len1 (nb' rfl) (by first | rfl | omega) (by omega) (by first | rfl | omega) rfl) (ptS pt64) ?_
     refine u_fr rfl (v_far (lkS lk64) dp0) (ptS pt65)<|u_fr rfl (v_loadr (lkS lk65) gt0) (ptS pt66)<|?_
     refine u_st (e_store lk2 (cvl (lkS lk61) rfl) (hga hn rfl) rfl (nb' rfl) rfl SrcY_sc0_3 (hs0 hn)) lk2 (by first | (simp [noHit];done) | (simp [noHit];omega) | (simp [noHit] <;> (try intros) <;> omega)) ptn ?_
     refine u_fr rfl (v_mv (lkS lk66)) pt3<|u_fr rfl (v_mv lki) pt4<|u_nil<|n_seq<|w_rets<|r_blk<|r_thn<|r_thn<|r_blk<|r_thn<|w_ret (rsn (rm1 (rr_c gt2 (hga hn rfl) (ld1 SrcY_tk0_3 rfl)) (rm1 (rr_t gt3) (rm1 (rr_t gt4) rm0))))<|rtW'<|?_
     have hP:parseV s=(srcZ,L[k].1,1):=by rw [hV,outP,hrun,hN]
     rw [hP];exact wk_srcZ
    refine s_do (gtS gt52)<|mv' lk5 (ptS pt53)<|s_do (gtS gt52)<|mv' lk10 (ptS pt54)<|s_do (gtS gt52)<|?_
    refine V' (v_iaR (lkS lk53) (lkS lk54) ln_len1 (nb' rfl) (by first | rfl | omega) (by omega) (by first | rfl | omega) rfl) (ptS pt55) ?_
    refine s_do (gtS gt52)<|V' (v_far (lkS lk55) dp1) (ptS pt56)<|s_do (gtS gt52)<|V' (v_loadr (lkS lk56) gt0) (ptS pt57)<|s_do (gtS gt52)<|mv' lk12 (ptS pt58)<|s_do (gtS gt52)<|V' (v_eqbN (lkS lk57) (lkS lk58)) (ptS pt59)<|V' (v_pickF (lkS lk52) (lkS lk59)) (ptS pt60)<|sn'<|?_
    refine cd' (lkS lk60) (fun hc8=>?_) (fun hc8=>?_)
    ·have hN:=lineR_none hB (.inr (.inr (by simpa using hc8)))
     refine w_seq<|w_drwU<|u_fr rfl (v_build SrcY_ParseOf_146) (ptS pt61)<|u_fr rfl (v_mv lk5) (ptS pt62)<|u_fr rfl (v_mv lk10) (ptS pt63)<|?_
     refine u_fr rfl (v_iaR (lkS lk62) (lkS lk63) ln_len1 (nb' rfl) (by first | rfl | omega) (by omega) (by first | rfl | omega) rfl) (ptS pt64) ?_
     refine u_fr rfl (v_far (lkS lk64) dp0) (ptS pt65)<|u_fr rfl (v_loadr (lkS lk65) gt0) (ptS pt66)<|?_
     refine u_st (e_store lk2 (cvl (lkS lk61) rfl) (hga hn rfl) rfl (nb' rfl) rfl SrcY_sc0_3 (hs0 hn)) lk2 (by first | (simp [noHit];done) | (simp [noHit];omega) | (simp [noHit] <;> (try intros) <;> omega)) ptn ?_
     refine u_fr rfl (v_mv (lkS lk66)) pt3<|u_fr rfl (v_mv lki) pt4<|u_nil<|n_seq<|w_rets<|r_blk<|r_thn<|r_thn<|r_blk<|r_thn<|w_ret (rsn (rm1 (rr_c gt2 (hga hn rfl) (ld1 SrcY_tk0_3 rfl)) (rm1 (rr_t gt3) (rm1 (rr_t gt4) rm0))))<|rtW'<|?_
     have hP:parseV s=(srcZ,L[k].1,1):=by rw [hV,outP,hrun,hN]
     rw [hP];exact wk_srcZ
    have hu1:u.2=false:=by simpa using hg116
    have hu2:u.1=[]:=List.eq_nil_of_length_eq_zero (by omega)
    have hS:=lineR_some hB hu1 hu2 (by simpa using hc8)
    rw [hS] at hrun
    have hokq:=hPT.1
    rw [hB] at hokq
    refine w_skip<|n_blk<|n_seq<|w_reg<|mv' lk10 pt34<|?_
    refine V' (v_add lk34 lki (by omega) (by omega)) pt35 ?_
    refine mv' lk35 pt10<|s_nil<|n_thn<|?_
    refine lU' (⟨k+1,(sr.1,sr.2.1,sr.2.2++[(n1,n2)]),none,sr.2.1.length,v1,v2,v3+1,v4⟩) (by (try dsimp only);exact ⟨by omega,by simp,by omega,by omega,by simp;omega,by simp [eC],hokq,hrun⟩) (by (try dsimp only);(try simp only [setsT,setsE,z',s',rn',la',ln',Nat.reduceAdd]);exact bkE' 6 hn hlt (by repeat (first | exact wk0 | refine wka ?_ | refine wk1 rfl ?_ | refine wk1 (by first | rfl | exact ivx (by omega) | (simp;done) | exact bvx (by have h9:=hs68;unfold openE at h9;rw [h9];rfl) | exact bvx (by have h9:=hs106;unfold openE at h9;rw [h9];rfl) | exact bvx (by have h9:=hs68;unfold openE at h9;rw [Bool.not_eq_true] at h9;rw [h9];rfl) | exact bvx (by have h9:=hs106;unfold openE at h9;rw [Bool.not_eq_true] at h9;rw [h9];rfl)) ?_)) (by simp only [zonC,rows_app,rows_one,zC,eC,List.append_nil,List.length_append,List.length_singleton];rfl) (hT:=by first | rfl | (simp only [AV.lt,AV.ltL,Ent.lt,List.all_cons,List.all_nil,Bool.and_true,Bool.and_self,decide_true,rul_lt,era_lt,zon_lt,lnk_lt,str_lt,ln_lt,zc_lt,lt26,lt36,lt46,lt56];done) | exact lt') (hE:=by first | rfl | (simp only [AV.lt,AV.ltL,Ent.lt,List.all_cons,List.all_nil,Bool.and_true,Bool.and_self,decide_true,rul_lt,era_lt,zon_lt,lnk_lt,str_lt,ln_lt,zc_lt,lt26,lt36,lt46,lt56];done) | exact lt'))
   have hwL:¬w=linkA:=hc7
   have hB:bodyT (curS sr none,false) (L[k].2.2,false)=((curS sr none,false),bad t1):=by unfold bodyT;rw [if_neg (by simp)];simp only [bind2,e1,if_neg hwR,if_neg hwZ,if_neg hwL]
   have hN:=lineR_none hB (.inl rfl)
   refine w_reg<|V' (v_fap0 lk11) pt46<|E' (e_store lk46 (cvl lkb rfl) (hga hn rfl) rfl (nb' rfl) rfl SrcY_sc1_1 (hs6 hn)) ptn<|s_nil<|n_blk<|n_seq<|wr'<|V' (v_fap0 lk11) (ptS pt44)<|V' (v_loadp (lkS lk44) (hga hn rfl) gt1) (ptS pt45)<|mv' (lkS lk45) (ptS pt46)<|s_no (gtS gt46) (ptS pt47)<|s_no (gtS gt46) (ptS pt48)<|s_no (gtS gt46) (ptS pt49)<|?_
   refine s_no (gtS gt46) (ptS pt50)<|V' (v_pickT (lkS lk46) lkb) (ptS pt51)<|mv' (lkS lk51) (ptS pt52)<|s_no (gtS gt52) (ptS pt53)<|s_no (gtS gt52) (ptS pt54)<|s_no (gtS gt52) (ptS pt55)<|s_no (gtS gt52) (ptS pt56)<|s_no (gtS gt52) (ptS pt57)<|s_no (gtS gt52) (ptS pt58)<|s_no (gtS gt52) (ptS pt59)<|V' (v_pickT (lkS lk52) lkb) (ptS pt60)<|sn'<|w_condT (lkS lk60)<|?_
   refine w_seq<|w_drwU<|u_fr rfl (v_build SrcY_ParseOf_146) (ptS pt61)<|u_fr rfl (v_mv lk5) (ptS pt62)<|u_fr rfl (v_mv lk10) (ptS pt63)<|?_
   refine u_fr rfl (v_iaR (lkS lk62) (lkS lk63) ln_len1 (nb' rfl) (by first | rfl | omega) (by omega) (by first | rfl | omega) rfl) (ptS pt64) ?_
   refine u_fr rfl (v_far (lkS lk64) dp0) (ptS pt65)<|u_fr rfl (v_loadr (lkS lk65) gt0) (ptS pt66)<|?_
   refine u_st (e_store lk2 (cvl (lkS lk61) rfl) (hga hn rfl) rfl (nb' rfl) rfl SrcY_sc0_3 (hs0 hn)) lk2 (by first | (simp [noHit];done) | (simp [noHit];omega) | (simp [noHit] <;> (try intros) <;> omega)) ptn ?_
   refine u_fr rfl (v_mv (lkS lk66)) pt3<|u_fr rfl (v_mv lki) pt4<|u_nil<|n_seq<|w_rets<|r_blk<|r_thn<|r_thn<|r_blk<|r_thn<|w_ret (rsn (rm1 (rr_c gt2 (hga hn rfl) (ld1 SrcY_tk0_3 rfl)) (rm1 (rr_t gt3) (rm1 (rr_t gt4) rm0))))<|rtW'<|?_
   have hP:parseV s=(srcZ,L[k].1,1):=by rw [hV,outP,hrun,hN]
   rw [hP];exact wk_srcZ
  obtain ⟨z,rfl⟩:=Option.ne_none_iff_exists'.1 hs36
  simp only [Option.isSome_some] at hrun hPT
  have hm':m=sr.2.1.length+1:=by simpa using hm
  have hk5':z.2.length≤k:=hk5
  obtain ⟨x,u,eE⟩ : ∃ a b,tEra (L[k].2.2,false)=(a,b):=⟨_,_,rfl⟩
  have hB:bodyT (curS sr (some z),true) (L[k].2.2,false)=(withEra (curS sr (some z)) x,u):=by unfold bodyT;rw [if_pos rfl];simp only [bind2,ret2,eE]
  have hw:withEra (curS sr (some z)) x=((sr.1,sr.2.1++[(z.1,z.2++[x])],sr.2.2),!openE x):=by unfold withEra curS;rw [show sr.2.1++(some z).toList=sr.2.1++[z] from rfl,addEra_snoc]
  refine mv' lk9 pt42<|mv' lk42 pt12<|sn'<|wr'<|mv' lks pt13<|sn'<|w_seq<|wr'<|mv' lk9 pt43<|?_
  refine V' ((by first | exact v_not lk43 | exact v_notB lk43)) pt44 ?_
  refine sn' ?_
  refine w_condKF lk44 (by rfl) ?_
  refine w_skip<|n_seq<|w_seq<|w_block<|wr'<|mv' lk9 pt48<|mv' lk48 pt47<|sn'<|?_
  refine w_condK lk47 (by rfl) ?_
  refine wr'<|V' (v_fap0 lk8) pt49<|V' (v_loadp lk49 (hga hn rfl) gt1) pt50<|V' (v_lenO lk50) pt51<|?_
  refine V' (v_sub lk51 lki (by omega) (by omega)) pt52 ?_
  refine mv' lk52 pt14<|sn'<|wr'<|s_calls (mp1 lk11 mp0) (tera_e hokt eE (hga hn rfl)) (hs6 hn) pt53<|E' (e_new (hl7 hn) ha7) pt15<|E' (e_store lk15 (cvl lk53 rfl) (hga hn rfl) rfl (nb' rfl) rfl SrcY_sc0_10 (hs7 hn)) ptn<|sn'<|w_seq<|w_drwR [N+1]<|D' (v_fap0 lk8) pt54<|?_
  refine d_ldP lk54 (hga hn rfl) (ld0 gt1) (by simp) pt55 ?_
  refine D' (v_mv lk14) pt56<|D' (v_fap0 lk8) pt57<|D' (v_loadp lk57 (hga hn rfl) gt1) pt58<|D' (v_mv lk14) pt59<|?_
  refine D' (v_iaO lk58 lk59 (hga hn rfl) (nb' rfl) (by omega) (by omega) (by rw [zc_len];simp;omega)) pt60 ?_
  refine D' (v_fap lk60) pt61 ?_
  refine D' (v_loadp lk61 (hga hn rfl) (zc_at (by omega))) pt62 ?_
  refine D' (v_loadpA lk15 (hga hn rfl) SrcY_tk0_10 rfl) pt63<|d_eff rfl rfl (hlk hn rfl) (l_lit (SrcY_ParseOf_63 (cvl lk63 rfl) rfl)) pt64 SrcY_lap0<|d_nil<|k_e_ent SrcY_lj8_1<|?_
  refine k_eff rfl rfl (e_app (sc_own lk64 (hga hn rfl) rfl SrcY_tk_10 (nb' rfl)) lk62 (hga hn rfl) (era_len _) (by omega) rfl (hs5 hn)) (by intro i hi;simp only [cond_true,List.mem_cons,List.not_mem_nil,or_false] at hi;subst hi;first | rfl | exact (hga hn rfl).trans (hga hn rfl).symm) pt65 ?_
  refine k_val rfl (v_iaO lk55 lk56 (hga hn rfl) (nb' rfl) (by omega) (by omega) (by rw [zc_len];simp;omega)) pt66 ?_
  refine k_val rfl (v_fap lk66) pt67 ?_
  refine k_eff rfl rfl (e_store lk67 (cvl lk65 rfl) (hga hn rfl) rfl (by rw [zc_len];simp;omega) rfl (zc_set (by omega)) (hs3 hn)) (by intro i hi;simp at hi) ptn ?_
  refine k_nil<|n_seq<|w_reg<|?_
  by_cases hs68:openE x=true
  ·have hq:withEra (curS sr (some z)) x=(curS (sr.1,sr.2.1++[(z.1,z.2++[x])],sr.2.2) none,false):=by rw [hw,hs68,curS_none];rfl
   refine V' (v_fap0 lk15) pt68<|V' (v_loadp lk68 (hga hn rfl) gt4) pt69<|V' (v_notB lk69) (ptS pt0)<|mv' (lkS lk0) pt9<|s_nil<|n_blk<|n_seq<|wr'<|V' (v_fap0 lk11) (ptS pt44)<|V' (v_loadp (lkS lk44) (hga hn rfl) gt1) (ptS pt45)<|mv' (lkS lk45) (ptS pt46)<|?_
   refine s_splitB (gtS gt46) (ptS pt46) (ptS pt46) (fun hg116=>?_) (fun hg116=>?_)
   ·have hN:=lineR_none hB (.inl hg116)
    refine s_no (gtS gt46) (ptS pt47)<|s_no (gtS gt46) (ptS pt48)<|s_no (gtS gt46) (ptS pt49)<|s_no (gtS gt46) (ptS pt50)<|V' (v_pickT (lkS lk46) lkb) (ptS pt51)<|mv' (lkS lk51) (ptS pt52)<|s_no (gtS gt52) (ptS pt53)<|s_no (gtS gt52) (ptS pt54)<|s_no (gtS gt52) (ptS pt55)<|s_no (gtS gt52) (ptS pt56)<|s_no (gtS gt52) (ptS pt57)<|s_no (gtS gt52) (ptS pt58)<|s_no (gtS gt52) (ptS pt59)<|V' (v_pickT (lkS lk52) lkb) (ptS pt60)<|?_
    refine sn'<|w_condT (lkS lk60)<|w_seq<|w_drwU<|u_fr rfl (v_build SrcY_ParseOf_146) (ptS pt61)<|u_fr rfl (v_mv lk5) (ptS pt62)<|u_fr rfl (v_mv lk10) (ptS pt63)<|?_
    refine u_fr rfl (v_iaR (lkS lk62) (lkS lk63) ln_len1 (nb' rfl) (by first | rfl | omega) (by omega) (by first | rfl | omega) rfl) (ptS pt64) ?_
    refine u_fr rfl (v_far (lkS lk64) dp0) (ptS pt65)<|u_fr rfl (v_loadr (lkS lk65) gt0) (ptS pt66)<|?_
    refine u_st (e_store lk2 (cvl (lkS lk61) rfl) (hga hn rfl) rfl (nb' rfl) rfl SrcY_sc0_3 (hs0 hn)) lk2 (by first | (simp [noHit];done) | (simp [noHit];omega) | (simp [noHit] <;> (try intros) <;> omega)) ptn ?_
    refine u_fr rfl (v_mv (lkS lk66)) pt3<|u_fr rfl (v_mv lki) pt4<|u_nil<|n_seq<|w_rets<|r_blk<|r_thn<|r_thn<|r_blk<|r_thn<|w_ret (rsn (rm1 (rr_c gt2 (hga hn rfl) (ld1 SrcY_tk0_3 rfl)) (rm1 (rr_t gt3) (rm1 (rr_t gt4) rm0))))<|rtW'<|?_
    have hP:parseV s=(srcZ,L[k].1,1):=by rw [hV,outP,hrun,hN]
    rw [hP];exact wk_srcZ
   refine s_do (gtS gt46)<|V' (v_fap0 lk11) (ptS pt47)<|s_do (gtS gt46)<|V' (v_loadp (lkS lk47) (hga hn rfl) gt0) (ptS pt48)<|s_do (gtS gt46)<|V' (v_lenL (lkS lk48)) (ptS pt49)<|s_do (gtS gt46)<|V' (v_gtr (lkS lk49) lki) (ptS pt50)<|V' (v_pickF (lkS lk46) (lkS lk50)) (ptS pt51)<|mv' (lkS lk51) (ptS pt52)<|?_
   refine sp' (gtS gt52) (ptS pt52) (ptS pt52) (fun hg122=>?_) (fun hg122=>?_)
   ·have hN:=lineR_none hB (.inr (.inl (by intro e;rw [e] at hg122;exact absurd hg122 (by decide))))
    refine s_no (gtS gt52) (ptS pt53)<|s_no (gtS gt52) (ptS pt54)<|s_no (gtS gt52) (ptS pt55)<|s_no (gtS gt52) (ptS pt56)<|s_no (gtS gt52) (ptS pt57)<|s_no (gtS gt52) (ptS pt58)<|s_no (gtS gt52) (ptS pt59)<|V' (v_pickT (lkS lk52) lkb) (ptS pt60)<|sn'<|w_condT (lkS lk60)<|w_seq<|w_drwU<|u_fr rfl (v_build SrcY_ParseOf_146) (ptS pt61)<|?_
    refine u_fr rfl (v_mv lk5) (ptS pt62)<|u_fr rfl (v_mv lk10) (ptS pt63)<|?_
    refine u_fr rfl (v_iaR (lkS lk62) (lkS lk63) ln_len1 (nb' rfl) (by first | rfl | omega) (by omega) (by first | rfl | omega) rfl) (ptS pt64) ?_
    refine u_fr rfl (v_far (lkS lk64) dp0) (ptS pt65)<|u_fr rfl (v_loadr (lkS lk65) gt0) (ptS pt66)<|?_
    refine u_st (e_store lk2 (cvl (lkS lk61) rfl) (hga hn rfl) rfl (nb' rfl) rfl SrcY_sc0_3 (hs0 hn)) lk2 (by first | (simp [noHit];done) | (simp [noHit];omega) | (simp [noHit] <;> (try intros) <;> omega)) ptn ?_
    refine u_fr rfl (v_mv (lkS lk66)) pt3<|u_fr rfl (v_mv lki) pt4<|u_nil<|n_seq<|w_rets<|r_blk<|r_thn<|r_thn<|r_blk<|r_thn<|w_ret (rsn (rm1 (rr_c gt2 (hga hn rfl) (ld1 SrcY_tk0_3 rfl)) (rm1 (rr_t gt3) (rm1 (rr_t gt4) rm0))))<|rtW'<|?_
    have hP:parseV s=(srcZ,L[k].1,1):=by rw [hV,outP,hrun,hN]
    rw [hP];exact wk_srcZ
   refine s_do (gtS gt52)<|mv' lk5 (ptS pt53)<|s_do (gtS gt52)<|mv' lk10 (ptS pt54)<|s_do (gtS gt52)<|?_
   refine V' (v_iaR (lkS lk53) (lkS lk54) ln_len1 (nb' rfl) (by first | rfl | omega) (by omega) (by first | rfl | omega) rfl) (ptS pt55) ?_
   refine s_do (gtS gt52)<|V' (v_far (lkS lk55) dp1) (ptS pt56)<|s_do (gtS gt52)<|V' (v_loadr (lkS lk56) gt0) (ptS pt57)<|s_do (gtS gt52)<|mv' lk12 (ptS pt58)<|s_do (gtS gt52)<|V' (v_eqbN (lkS lk57) (lkS lk58)) (ptS pt59)<|V' (v_pickF (lkS lk52) (lkS lk59)) (ptS pt60)<|sn'<|?_
   refine cd' (lkS lk60) (fun hc8=>?_) (fun hc8=>?_)
   ·have hN:=lineR_none hB (.inr (.inr (by simpa using hc8)))
    refine w_seq<|w_drwU<|u_fr rfl (v_build SrcY_ParseOf_146) (ptS pt61)<|u_fr rfl (v_mv lk5) (ptS pt62)<|u_fr rfl (v_mv lk10) (ptS pt63)<|?_
    refine u_fr rfl (v_iaR (lkS lk62) (lkS lk63) ln_len1 (nb' rfl) (by first | rfl | omega) (by omega) (by first | rfl | omega) rfl) (ptS pt64) ?_
    refine u_fr rfl (v_far (lkS lk64) dp0) (ptS pt65)<|u_fr rfl (v_loadr (lkS lk65) gt0) (ptS pt66)<|?_
    refine u_st (e_store lk2 (cvl (lkS lk61) rfl) (hga hn rfl) rfl (nb' rfl) rfl SrcY_sc0_3 (hs0 hn)) lk2 (by first | (simp [noHit];done) | (simp [noHit];omega) | (simp [noHit] <;> (try intros) <;> omega)) ptn ?_
    refine u_fr rfl (v_mv (lkS lk66)) pt3<|u_fr rfl (v_mv lki) pt4<|u_nil<|n_seq<|w_rets<|r_blk<|r_thn<|r_thn<|r_blk<|r_thn<|w_ret (rsn (rm1 (rr_c gt2 (hga hn rfl) (ld1 SrcY_tk0_3 rfl)) (rm1 (rr_t gt3) (rm1 (rr_t gt4) rm0))))<|rtW'<|?_
    have hP:parseV s=(srcZ,L[k].1,1):=by rw [hV,outP,hrun,hN]
    rw [hP];exact wk_srcZ
   have hu1:u.2=false:=by simpa using hg116
   have hu2:u.1=[]:=List.eq_nil_of_length_eq_zero (by omega)
   have hS:=lineR_some hB hu1 hu2 (by simpa using hc8)
   rw [hS] at hrun
   have hokq:=hPT.1
   rw [hB] at hokq
   refine w_skip<|n_blk<|?_
   refine n_seqw ((ALe.iceCellNew (ds:=rows eraC (z.2++[x])) (k:=sr.2.1.length*2+1) (ty2:=64) (st2:=10) (hga hn rfl) (hga hn rfl) (by omega) (zc_at rfl) (by rw [rows_app,rows_one];exact List.take_of_length_le (by simp [era_len,eC];omega)) (by simp [era_len,eC];omega) zc_put (hs5 hn) (hs3 hn))) ?_
   refine w_reg<|mv' lk10 pt34<|?_
   refine V' (v_add lk34 lki (by omega) (by omega)) pt35 ?_
   refine mv' lk35 pt10<|s_nil<|n_thn<|?_
   refine lU' (⟨k+1,(sr.1,sr.2.1++[(z.1,z.2++[x])],sr.2.2),none,m,v1,v2,v3,v4+2⟩) (by (try dsimp only);rw [hq] at hrun hokq;exact ⟨by omega,by simp;omega,by omega,by omega,by omega,by simp [eC],hokq,hrun⟩) (by (try dsimp only);(try simp only [setsT,setsE,z',s',rn',la',ln',Nat.reduceAdd]);exact bkE' 6 hn hlt (by repeat (first | exact wk0 | refine wka ?_ | refine wk1 rfl ?_ | refine wk1 (by first | rfl | exact ivx (by omega) | (simp;done) | exact bvx (by have h9:=hs68;unfold openE at h9;rw [h9];rfl) | exact bvx (by have h9:=hs106;unfold openE at h9;rw [h9];rfl) | exact bvx (by have h9:=hs68;unfold openE at h9;rw [Bool.not_eq_true] at h9;rw [h9];rfl) | exact bvx (by have h9:=hs106;unfold openE at h9;rw [Bool.not_eq_true] at h9;rw [h9];rfl)) ?_)) (by simp only [zonC,rows_app,rows_one,zC,eC,List.append_nil,List.length_append,List.length_singleton];rfl) (hT:=by first | rfl | (simp only [AV.lt,AV.ltL,Ent.lt,List.all_cons,List.all_nil,Bool.and_true,Bool.and_self,decide_true,rul_lt,era_lt,zon_lt,lnk_lt,str_lt,ln_lt,zc_lt,lt26,lt36,lt46,lt56];done) | exact lt') (hE:=by first | rfl | (simp only [AV.lt,AV.ltL,Ent.lt,List.all_cons,List.all_nil,Bool.and_true,Bool.and_self,decide_true,rul_lt,era_lt,zon_lt,lnk_lt,str_lt,ln_lt,zc_lt,lt26,lt36,lt46,lt56];done) | exact lt'))
  have hq:withEra (curS sr (some z)) x=(curS sr (some (z.1,z.2++[x])),true):=by rw [hw,show openE x=false by simpa using hs68];rfl
  refine V' (v_fap0 lk15) pt68<|V' (v_loadp lk68 (hga hn rfl) gt4) pt69<|V' (v_notB lk69) (ptS pt0)<|mv' (lkS lk0) pt9<|s_nil<|n_blk<|n_seq<|wr'<|V' (v_fap0 lk11) (ptS pt44)<|V' (v_loadp (lkS lk44) (hga hn rfl) gt1) (ptS pt45)<|mv' (lkS lk45) (ptS pt46)<|?_
  refine s_splitB (gtS gt46) (ptS pt46) (ptS pt46) (fun hg116=>?_) (fun hg116=>?_)
  ·have hN:=lineR_none hB (.inl hg116)
   refine s_no (gtS gt46) (ptS pt47)<|s_no (gtS gt46) (ptS pt48)<|s_no (gtS gt46) (ptS pt49)<|s_no (gtS gt46) (ptS pt50)<|V' (v_pickT (lkS lk46) lkb) (ptS pt51)<|mv' (lkS lk51) (ptS pt52)<|s_no (gtS gt52) (ptS pt53)<|s_no (gtS gt52) (ptS pt54)<|s_no (gtS gt52) (ptS pt55)<|s_no (gtS gt52) (ptS pt56)<|s_no (gtS gt52) (ptS pt57)<|s_no (gtS gt52) (ptS pt58)<|s_no (gtS gt52) (ptS pt59)<|V' (v_pickT (lkS lk52) lkb) (ptS pt60)<|?_
   refine sn'<|w_condT (lkS lk60)<|w_seq<|w_drwU<|u_fr rfl (v_build SrcY_ParseOf_146) (ptS pt61)<|u_fr rfl (v_mv lk5) (ptS pt62)<|u_fr rfl (v_mv lk10) (ptS pt63)<|?_
   refine u_fr rfl (v_iaR (lkS lk62) (lkS lk63) ln_len1 (nb' rfl) (by first | rfl | omega) (by omega) (by first | rfl | omega) rfl) (ptS pt64) ?_
   refine u_fr rfl (v_far (lkS lk64) dp0) (ptS pt65)<|u_fr rfl (v_loadr (lkS lk65) gt0) (ptS pt66)<|?_
   refine u_st (e_store lk2 (cvl (lkS lk61) rfl) (hga hn rfl) rfl (nb' rfl) rfl SrcY_sc0_3 (hs0 hn)) lk2 (by first | (simp [noHit];done) | (simp [noHit];omega) | (simp [noHit] <;> (try intros) <;> omega)) ptn ?_
   refine u_fr rfl (v_mv (lkS lk66)) pt3<|u_fr rfl (v_mv lki) pt4<|u_nil<|n_seq<|w_rets<|r_blk<|r_thn<|r_thn<|r_blk<|r_thn<|w_ret (rsn (rm1 (rr_c gt2 (hga hn rfl) (ld1 SrcY_tk0_3 rfl)) (rm1 (rr_t gt3) (rm1 (rr_t gt4) rm0))))<|rtW'<|?_
   have hP:parseV s=(srcZ,L[k].1,1):=by rw [hV,outP,hrun,hN]
   rw [hP];exact wk_srcZ
  refine s_do (gtS gt46)<|V' (v_fap0 lk11) (ptS pt47)<|s_do (gtS gt46)<|V' (v_loadp (lkS lk47) (hga hn rfl) gt0) (ptS pt48)<|s_do (gtS gt46)<|V' (v_lenL (lkS lk48)) (ptS pt49)<|s_do (gtS gt46)<|V' (v_gtr (lkS lk49) lki) (ptS pt50)<|V' (v_pickF (lkS lk46) (lkS lk50)) (ptS pt51)<|mv' (lkS lk51) (ptS pt52)<|?_
  refine sp' (gtS gt52) (ptS pt52) (ptS pt52) (fun hg122=>?_) (fun hg122=>?_)
  ·have hN:=lineR_none hB (.inr (.inl (by intro e;rw [e] at hg122;exact absurd hg122 (by decide))))
   refine s_no (gtS gt52) (ptS pt53)<|s_no (gtS gt52) (ptS pt54)<|s_no (gtS gt52) (ptS pt55)<|s_no (gtS gt52) (ptS pt56)<|s_no (gtS gt52) (ptS pt57)<|s_no (gtS gt52) (ptS pt58)<|s_no (gtS gt52) (ptS pt59)<|V' (v_pickT (lkS lk52) lkb) (ptS pt60)<|sn'<|w_condT (lkS lk60)<|w_seq<|w_drwU<|u_fr rfl (v_build SrcY_ParseOf_146) (ptS pt61)<|?_
   refine u_fr rfl (v_mv lk5) (ptS pt62)<|u_fr rfl (v_mv lk10) (ptS pt63)<|?_
   refine u_fr rfl (v_iaR (lkS lk62) (lkS lk63) ln_len1 (nb' rfl) (by first | rfl | omega) (by omega) (by first | rfl | omega) rfl) (ptS pt64) ?_
   refine u_fr rfl (v_far (lkS lk64) dp0) (ptS pt65)<|u_fr rfl (v_loadr (lkS lk65) gt0) (ptS pt66)<|?_
   refine u_st (e_store lk2 (cvl (lkS lk61) rfl) (hga hn rfl) rfl (nb' rfl) rfl SrcY_sc0_3 (hs0 hn)) lk2 (by first | (simp [noHit];done) | (simp [noHit];omega) | (simp [noHit] <;> (try intros) <;> omega)) ptn ?_
   refine u_fr rfl (v_mv (lkS lk66)) pt3<|u_fr rfl (v_mv lki) pt4<|u_nil<|n_seq<|w_rets<|r_blk<|r_thn<|r_thn<|r_blk<|r_thn<|w_ret (rsn (rm1 (rr_c gt2 (hga hn rfl) (ld1 SrcY_tk0_3 rfl)) (rm1 (rr_t gt3) (rm1 (rr_t gt4) rm0))))<|rtW'<|?_
   have hP:parseV s=(srcZ,L[k].1,1):=by rw [hV,outP,hrun,hN]
   rw [hP];exact wk_srcZ
  refine s_do (gtS gt52)<|mv' lk5 (ptS pt53)<|s_do (gtS gt52)<|mv' lk10 (ptS pt54)<|s_do (gtS gt52)<|?_
  refine V' (v_iaR (lkS lk53) (lkS lk54) ln_len1 (nb' rfl) (by first | rfl | omega) (by omega) (by first | rfl | omega) rfl) (ptS pt55) ?_
  refine s_do (gtS gt52)<|V' (v_far (lkS lk55) dp1) (ptS pt56)<|s_do (gtS gt52)<|V' (v_loadr (lkS lk56) gt0) (ptS pt57)<|s_do (gtS gt52)<|mv' lk12 (ptS pt58)<|s_do (gtS gt52)<|V' (v_eqbN (lkS lk57) (lkS lk58)) (ptS pt59)<|V' (v_pickF (lkS lk52) (lkS lk59)) (ptS pt60)<|sn'<|?_
  refine cd' (lkS lk60) (fun hc8=>?_) (fun hc8=>?_)
  ·have hN:=lineR_none hB (.inr (.inr (by simpa using hc8)))
   refine w_seq<|w_drwU<|u_fr rfl (v_build SrcY_ParseOf_146) (ptS pt61)<|u_fr rfl (v_mv lk5) (ptS pt62)<|u_fr rfl (v_mv lk10) (ptS pt63)<|?_
   refine u_fr rfl (v_iaR (lkS lk62) (lkS lk63) ln_len1 (nb' rfl) (by first | rfl | omega) (by omega) (by first | rfl | omega) rfl) (ptS pt64) ?_
   refine u_fr rfl (v_far (lkS lk64) dp0) (ptS pt65)<|u_fr rfl (v_loadr (lkS lk65) gt0) (ptS pt66)<|?_
   refine u_st (e_store lk2 (cvl (lkS lk61) rfl) (hga hn rfl) rfl (nb' rfl) rfl SrcY_sc0_3 (hs0 hn)) lk2 (by first | (simp [noHit];done) | (simp [noHit];omega) | (simp [noHit] <;> (try intros) <;> omega)) ptn ?_
   refine u_fr rfl (v_mv (lkS lk66)) pt3<|u_fr rfl (v_mv lki) pt4<|u_nil<|n_seq<|w_rets<|r_blk<|r_thn<|r_thn<|r_blk<|r_thn<|w_ret (rsn (rm1 (rr_c gt2 (hga hn rfl) (ld1 SrcY_tk0_3 rfl)) (rm1 (rr_t gt3) (rm1 (rr_t gt4) rm0))))<|rtW'<|?_
   have hP:parseV s=(srcZ,L[k].1,1):=by rw [hV,outP,hrun,hN]
   rw [hP];exact wk_srcZ
  have hu1:u.2=false:=by simpa using hg116
  have hu2:u.1=[]:=List.eq_nil_of_length_eq_zero (by omega)
  have hS:=lineR_some hB hu1 hu2 (by simpa using hc8)
  rw [hS] at hrun
  have hokq:=hPT.1
  rw [hB] at hokq
  refine w_skip<|n_blk<|n_seq<|w_reg<|mv' lk10 pt34<|?_
  refine V' (v_add lk34 lki (by omega) (by omega)) pt35 ?_
  refine mv' lk35 pt10<|s_nil<|n_thn<|?_
  refine lU' (⟨k+1,sr,some (z.1,z.2++[x]),m,v1,v2,v3,v4+1⟩) (by (try dsimp only);rw [hq] at hrun hokq;exact ⟨by omega,by simp;omega,by omega,by omega,by omega,by simp [eC] at hk5 ⊢;omega,hokq,hrun⟩) (by (try dsimp only);(try simp only [setsT,setsE,z',s',rn',la',ln',Nat.reduceAdd]);exact bkE' 6 hn hlt (by repeat (first | exact wk0 | refine wka ?_ | refine wk1 rfl ?_ | refine wk1 (by first | rfl | exact ivx (by omega) | (simp;done) | exact bvx (by have h9:=hs68;unfold openE at h9;rw [h9];rfl) | exact bvx (by have h9:=hs106;unfold openE at h9;rw [h9];rfl) | exact bvx (by have h9:=hs68;unfold openE at h9;rw [Bool.not_eq_true] at h9;rw [h9];rfl) | exact bvx (by have h9:=hs106;unfold openE at h9;rw [Bool.not_eq_true] at h9;rw [h9];rfl)) ?_)) (by simp only [zonC,rows_app,rows_one,zC,eC,List.append_nil,List.length_append,List.length_singleton];rfl) (hT:=by first | rfl | (simp only [AV.lt,AV.ltL,Ent.lt,List.all_cons,List.all_nil,Bool.and_true,Bool.and_self,decide_true,rul_lt,era_lt,zon_lt,lnk_lt,str_lt,ln_lt,zc_lt,lt26,lt36,lt46,lt56];done) | exact lt') (hE:=by first | rfl | (simp only [AV.lt,AV.ltL,Ent.lt,List.all_cons,List.all_nil,Bool.and_true,Bool.and_self,decide_true,rul_lt,era_lt,zon_lt,lnk_lt,str_lt,ln_lt,zc_lt,lt26,lt36,lt46,lt56];done) | exact lt'))
 have hke:k=L.length:=by omega
 rw [List.drop_of_length_le (by omega),runR] at hrun
 have hV2:parseV s=endP (curS sr o,o.isSome):=by rw [hV,outP,hrun]
 refine w_exit<|x_thn<|x_thn<|x_blk<|n_seq<|w_seq<|wr'<|mv' lk9 (ptS pt67)<|sn'<|?_
 refine cd' (lkS lk67) (fun hc9=>?_) (fun hc9=>?_)
 ·have hP:parseV s=(srcZ,0,1):=by rw [hV2];exact if_pos hc9
  refine wr'<|V' (v_build SrcY_ParseOf_159) (ptS pt68)<|E' (e_store lk2 (cvl (lkS lk68) rfl) (hga hn rfl) rfl (nb' rfl) rfl SrcY_sc0_3 (hs0 hn)) ptn<|mv' lki pt3<|mv' lki pt4<|sn'<|w_rets<|r_thn<|w_ret (rsn (rm1 (rr_c gt2 (hga hn rfl) (ld1 SrcY_tk0_3 rfl)) (rm1 (rr_t gt3) (rm1 (rr_t gt4) rm0))))<|rtW'<|?_
  rw [hP];exact wk_srcZ
 obtain rfl:o=none:=by cases o;rfl;cases hc9
 have hm':m=sr.2.1.length:=by simpa using hm
 subst hm'
 rw [curS_none] at hok hV2
 refine w_skip ?_
 refine n_seqw ((ALe.trans (ALe.iceCellR (ds:=rows rulC sr.1) (hga hn rfl) (hga hn rfl) (by omega) gt0 (List.take_of_length_le (by rw [rul_len];exact Nat.le_refl _)) (by rw [rul_len];exact Nat.le_refl _) pt0 (hs2 hn) (hs1 hn)) (ALe.trans (ALe.iceCellR (ds:=rows zonC sr.2.1) (hga hn rfl) (hga hn rfl) (by omega) gt1 (by rw [show rows zonC sr.2.1++zC N v4 none=rows zonC sr.2.1 from List.append_nil _];exact List.take_of_length_le (by rw [zon_len];exact Nat.le_refl _)) (by rw [zc_len];simp) pt1 (hs3 hn) (hs1 hn)) (ALe.iceCellR (ds:=rows lnkC sr.2.2) (hga hn rfl) (hga hn rfl) (by omega) gt2 (List.take_of_length_le (by rw [lnk_len];exact Nat.le_refl _)) (by rw [lnk_len];exact Nat.le_refl _) pt2 (hs4 hn) (hs1 hn))))) ?_
 refine wr'<|V' (v_loadpA lk8 (hga hn rfl) SrcY_tk0_3 rfl) (ptS pt69)<|s_callp (mp1 (lkS lk69) mp0) (rcheckS_b (a:=sr.1) (z:=sr.2.1) (l:=sr.2.2) hok) (ptS (ptS pt0))<|mv' (lkS (lkS lk0)) pt7<|sn'<|w_seq<|wr'<|mv' lk7 (ptS (ptS pt1))<|V' (v_neq (lkS (lkS lk1)) lki) (ptS (ptS pt2))<|sn'<|?_
 refine cd' (lkS (lkS lk2)) (fun hc10=>?_) (fun hc10=>?_)
 ·have hP:parseV s=(srcZ,0,checkE sr):=by rw [hV2,endP,if_neg (by simp)];exact if_pos hc10
  refine wr'<|V' (v_build SrcY_ParseOf_168) (ptS (ptS pt3))<|mv' lk7 (ptS (ptS pt4))<|E' (e_store lk2 (cvl (lkS (lkS lk3)) rfl) (hga hn rfl) rfl (nb' rfl) rfl SrcY_sc0_3 (hs0 hn)) ptn<|mv' lki pt3<|mv' (lkS (lkS lk4)) pt4<|sn'<|w_rets<|r_thn<|w_ret (rsn (rm1 (rr_c gt2 (hga hn rfl) (ld1 SrcY_tk0_3 rfl)) (rm1 (rr_t gt3) (rm1 (rr_t gt4) rm0))))<|rtW'<|?_
  rw [hP];exact wk_srcZ
 have h0:checkE sr=0:=Decidable.of_not_not hc10
 have hP:parseV s=(sr,0,0):=by rw [hV2,endP,if_neg (by simp)];exact if_neg hc10
 refine w_skip<|n_seq<|wr'<|V' (v_loadpA lk8 (hga hn rfl) SrcY_tk0_3 rfl) (ptS (ptS pt5))<|mv' lk7 (ptS (ptS pt6))<|E' (e_store lk2 (cvl (lkS (lkS lk5)) rfl) (hga hn rfl) rfl (nb' rfl) rfl SrcY_sc0_3 (hs0 hn)) ptn<|mv' lki pt3<|mv' (lkS (lkS lk6)) pt4<|sn'<|w_rets<|w_ret (rsn (rm1 (rr_c gt2 (hga hn rfl) (ld1 SrcY_tk0_3 rfl)) (rm1 (rr_t gt3) (rm1 (rr_t gt4) rm0))))<|rtW'<|?_
 rw [hP];exact Wk.tup (wk1 rfl (wk1 rfl (wk1 (ivx h0.symm) wk0)))
end Go.Proofs.YtgjchdhdopgkkaaGreatDoor
end
section
namespace Go.Proofs.YtgjchdhdopgkkaaGreatDoor
open Go.Ab Go.RowKit Civ
attribute [local simp] rul_lt era_lt zon_lt lnk_lt str_lt ln_lt lt26 lt36 lt46 lt56
section
theorem SrcPd_Parse_15 {τ:Operand→AV}:fillAV τ [] [(.sl 0 0 true []),(.sl 0 0 true []),(.sl 0 0 true [])]=some [(.sl 0 0 true []),(.sl 0 0 true []),(.sl 0 0 true [])]:=rfl
theorem SrcPd_sc0_3 {a0 a1 a2 c0 c1 c2:AV}{l:List AV}:setCells (a0::a1::a2::l) 0 [c0,c1,c2]=c0::c1::c2::l:=rfl
theorem SrcPd_tk0_3 {a0 a1 a2:AV}{l:List AV}:((a0::a1::a2::l).drop 0).take 3=[a0,a1,a2]:=rfl
theorem SrcPd_Parse_21 {τ:Operand→AV}:fillAV τ [] [(.sl 0 0 true []),(.sl 0 0 true []),(.sl 0 0 true []),(.v (.bool false))]=some [(.sl 0 0 true []),(.sl 0 0 true []),(.sl 0 0 true []),(.v (.bool false))]:=rfl
theorem SrcPd_tk_3 {a0 a1 a2:AV}{l:List AV}:(a0::a1::a2::l).take 3=[a0,a1,a2]:=rfl
theorem SrcPd_Parse_36 {τ:Operand→AV}:fillAV τ [] [(.sl 0 0 true []),(.sl 0 0 true []),(.sl 0 0 true [])]=some [(.sl 0 0 true []),(.sl 0 0 true []),(.sl 0 0 true [])]:=rfl
theorem SrcPd_Parse_58 {τ:Operand→AV}:fillAV τ [] [(.sl 0 0 true []),(.sl 0 0 true []),(.sl 0 0 true [])]=some [(.sl 0 0 true []),(.sl 0 0 true []),(.sl 0 0 true [])]:=rfl
end
def c16:AC:=(.seq (.reg [Oo 2 (.new 26 3 [(.sl 0 0 true []),(.sl 0 0 true []),(.sl 0 0 true [])]),Oo 3 (.mv (Ci 0)),Oo 4 (.mv (Ci 0))]) (.seq (.reg [Mv 12 0,Oo 13 (.call (.func 39) [(.tmp 12)]),Mv 11 13,Ex 14 11 0,Ex 15 11 1,Ex 16 11 2,Mv 5 14,Mv 6 15,Mv 7 16]) (.seq (.seq (.reg [Mv 17 7,Oo 18 (.bin .neq (.tmp 17) (Ci 0))]) (.cond (.tmp 18) (.seq (.reg [Oo 19 (.build [(.sl 0 0 true []),(.sl 0 0 true []),(.sl 0 0 true [])] []),Mv 20 6,Mv 21 7,⟨none,none,(.store 3 (.tmp 2) (.tmp 19))⟩,Mv 3 20,Mv 4 21]) .ret) .skip)) (.seq (.reg [Oo 22 (.build [(.sl 0 0 true []),(.sl 0 0 true []),(.sl 0 0 true []),(.v (.bool false))] []),Oo 23 (.box 81 4 (.tmp 22)),Mv 8 23]) (.seq (.seq (.reg [Mv 24 5,Oo 25 (.len false (.tmp 24)),Oo 26 (.mv (Ci 0))]) (.block 0 (.loop (.seq (.reg [Oo 27 (.bin .lss (.tmp 26) (.tmp 25))]) (.seq (.cond (.tmp 27) .skip (.exit 0)) (.seq (.block 1 (.seq (.reg [Oo 28 (.ia 3 (.tmp 24) (.tmp 26)),Oo 29 (.load true 3 (.tmp 28)),Oo 10 (.new 67 3 [(iv 0),(.v (.bool false)),(.sl 0 0 true [])]),⟨none,none,(.store 3 (.tmp 10) (.tmp 29))⟩]) (.seq (.reg [Mv 30 8,Oo 31 (.load true 3 (.tmp 10)),Oo 32 (.call (.func 40) [(.tmp 30),(.tmp 31)]),Oo 33 (.un .not (.tmp 32))]) (.cond (.tmp 33) (.seq (.drw [Oo 34 (.build [(.sl 0 0 true []),(.sl 0 0 true []),(.sl 0 0 true [])] []),Fa 35 0 10,Oo 36 (.loadR false 1 (.tmp 35))] [true,false,false] [⟨none,none,(.store 3 (.tmp 2) (.tmp 34))⟩,Mv 3 36,Oo 4 (.mv (Ci 1))]) .ret) .skip)))) (.reg [Oo 37 (.bin .add (.tmp 26) (Ci 1)),Mv 26 37]))))))) (.seq (.reg [Oo 7 (.mv (Ci 1))]) (.seq (.seq (.reg [Mv 38 8,Nk 39 38,Fa 40 3 39,Ld 41 40,Oo 42 (.un .not (.tmp 41))]) (.cond (.tmp 42) (.reg [Mv 43 8,Nk 44 43,Fa 45 0 44,Oo 46 (.load true 3 (.tmp 45)),Oo 47 (.call (.func 17) [(.tmp 46)]),Mv 7 47]) .skip)) (.seq (.seq (.reg [Mv 48 7,Oo 49 (.bin .neq (.tmp 48) (Ci 0))]) (.cond (.tmp 49) (.seq (.reg [Oo 50 (.build [(.sl 0 0 true []),(.sl 0 0 true []),(.sl 0 0 true [])] []),Mv 51 7,⟨none,none,(.store 3 (.tmp 2) (.tmp 50))⟩,Oo 3 (.mv (Ci 0)),Mv 4 51]) .ret) .skip)) (.seq (.reg [Mv 52 8,Nk 53 52,Fa 54 0 53,Oo 55 (.load true 3 (.tmp 54)),⟨none,none,(.store 3 (.tmp 2) (.tmp 55))⟩,Oo 3 (.mv (Ci 0)),Oo 4 (.mv (Ci 0))]) .ret)))))))))
theorem k16:compF Tryz.prog 16=some ⟨c16,[(.cell 2 true 3),(.tmp 3),(.tmp 4)],56⟩:=by kernel_rfl
theorem pread_e {h:AH}{N:Nat}(hn:h.length=N) {e0 a:Ent}{sr:Src}{o:Option Zon}{m v1 v2 v3 v4:Nat}{x:Ln}{q:PS}(hm:m=sr.2.1.length+o.toList.length) (ho:okL x.2.2) (hb1:sr.1.length≤200) (hb2:m≤200) (hb3:sr.2.2.length≤200) (hb4:(eC o).length≤200) (hb5:x.2.2.length≤100000) (e:lineR (curS sr o,o.isSome) x=some q) :
  ACalls Tryz.prog 40 [.ptr (N+1) 0 0,.agg (lnC x)] (h++[e0,.mk 0 81 4 [.own (N+2) v1 sr.1.length,.own (N+3) v2 m,.own (N+4) v3 sr.2.2.length,bv o.isSome],.mk v1 48 11 (rows rulC sr.1),.mk v2 52 2 (rows zonC sr.2.1++zP (N+1) v4 o),.mk v3 55 2 (rows lnkC sr.2.2),.mk v4 64 10 (rows eraC (eC o)),a]) fun y h'=>y = .ret (bv true) ∧ ∃ i:SI,JP sr o q i∧h'=h++[e0,.mk 0 81 4 [.own (N+2) i.2.2.2.1 i.1.1.length,.own (N+3) i.2.2.2.2.1 i.2.2.1,.own (N+4) i.2.2.2.2.2.1 i.1.2.2.length,bv i.2.1.isSome],.mk i.2.2.2.1 48 11 (rows rulC i.1.1),.mk i.2.2.2.2.1 52 2 (rows zonC i.1.2.1++zP (N+1) i.2.2.2.2.2.2 i.2.1),.mk i.2.2.2.2.2.1 55 2 (rows lnkC i.1.2.2),.mk i.2.2.2.2.2.2 64 10 (rows eraC (eC i.2.1)),a]:=by
 have:=pread_lit (h0:=h++[e0]) (M:=N+1) (a:=a) (v1:=v1) (v2:=v2) (v3:=v3) (v4:=v4) (by simp [hn]) hm ho hb1 hb2 hb3 hb4 hb5
 rw [e,List.append_assoc] at this
 refine this.mono ?_
 rintro y h' ⟨rfl,i,hJ,rfl⟩
 exact ⟨rfl,i,hJ,List.append_assoc _ _ _⟩
theorem pread_n {h:AH}{N:Nat}(hn:h.length=N) {e0 a:Ent}{sr:Src}{o:Option Zon}{m v1 v2 v3 v4:Nat}{x:Ln}(hm:m=sr.2.1.length+o.toList.length) (ho:okL x.2.2) (hb1:sr.1.length≤200) (hb2:m≤200) (hb3:sr.2.2.length≤200) (hb4:(eC o).length≤200) (hb5:x.2.2.length≤100000) (e:lineR (curS sr o,o.isSome) x=none) :
  ACalls Tryz.prog 40 [.ptr (N+1) 0 0,.agg (lnC x)] (h++[e0,.mk 0 81 4 [.own (N+2) v1 sr.1.length,.own (N+3) v2 m,.own (N+4) v3 sr.2.2.length,bv o.isSome],.mk v1 48 11 (rows rulC sr.1),.mk v2 52 2 (rows zonC sr.2.1++zP (N+1) v4 o),.mk v3 55 2 (rows lnkC sr.2.2),.mk v4 64 10 (rows eraC (eC o)),a]) fun y h'=>y = .ret (bv false) ∧ ∃ p:Ent×Ent×Ent×Ent×Ent,(∀ e∈[p.1,p.2.1,p.2.2.1,p.2.2.2.1,p.2.2.2.2],e.lt (N+1+5)=true)∧h'=h++[e0,p.1,p.2.1,p.2.2.1,p.2.2.2.1,p.2.2.2.2,a]:=by
 have:=pread_lit (h0:=h++[e0]) (M:=N+1) (a:=a) (v1:=v1) (v2:=v2) (v3:=v3) (v4:=v4) (by simp [hn]) hm ho hb1 hb2 hb3 hb4 hb5
 rw [e,List.append_assoc] at this
 refine this.mono ?_
 rintro y h' ⟨rfl,i,hJ,rfl⟩
 exact ⟨rfl,i,hJ,List.append_assoc _ _ _⟩
theorem split_many {s:ByteArray} : ∀ x∈(splitL s).1,x.2.2.length≤12:=by
 intro x hx
 have h:=splitL_good x hx
 unfold lineE at h
 split at h
 ·cases h
 split at h
 ·cases h
 omega
theorem lineR_okS {p q:PS}{x:Ln}(hok:okSrc p.1) (ho:okL x.2.2) (e:lineR p x=some q):okSrc q.1:=by
 by_cases hb:badT p x
 ·rw [lineR_bad hb] at e;cases e
 rw [lineR_ok hb] at e
 cases e
 exact (pt_body hok (x.2.2,false) ho).1
theorem zp_ltN {N v:Nat}{l:List Zon}{o:Option Zon}:AV.ltL (N+6) (rows zonC l++zP (N+1) v o)=true:=by
 have:=zp_lt (M:=N+1) (v:=v) (l:=l) (o:=o)
 exact this
attribute [local simp] zp_ltN
set_option maxHeartbeats 4000000 in
theorem sparse_a {s:ByteArray}{h:AH}:ACalls Tryz.prog 16 [sv s] h fun x h'=>h'=h∧x = .ret (.tup [.agg (srcC (parseV s).1),iv (parseV s).2.1,iv (parseV s).2.2]):=by
 obtain ⟨L,hL⟩ : ∃ L,L=(splitL s).1:=⟨_,rfl⟩
 have hf24:=split_fields (s:=s)
 have hmany:=split_many (s:=s)
 have hL200:=split_len (s:=s)
 rw [←hL] at hf24 hL200 hmany
 have hV0:=parseV_eq s
 rw [←hL] at hV0
 refine tW' k16 fun N hn hlt hlA hbd=>?_
 simp only [tA',AV.bdL,AV.bd,and_true,true_and] at hbd ⊢
 refine wr'<|E' (e_new (hl0 hn) ha0) pt2<|mv' lki pt3<|mv' lki pt4<|sn'<|wr'<|mv' lk0 pt12<|s_callp (mp1 lk12 mp0) (lnSplit_a) pt13<|?_
 rw [←hL]
 refine mv' lk13 pt11<|V' (v_ext lk11 gt0) pt14<|V' (v_ext lk11 gt1) pt15<|V' (v_ext lk11 gt2) pt16<|mv' lk14 pt5<|mv' lk15 pt6<|mv' lk16 pt7<|sn'<|w_seq<|wr'<|mv' lk7 pt17<|V' (v_neq lk17 lki) pt18<|?_
 refine sn' ?_
 refine cd' lk18 (fun hc1=>?_) (fun hc1=>?_)
 ·have hV:parseV s=(srcZ,(splitL s).2.1,(splitL s).2.2):=by rw [hV0];exact if_pos hc1
  refine wr'<|V' (v_build SrcPd_Parse_15) pt19<|mv' lk6 pt20<|mv' lk7 pt21<|E' (e_store lk2 (cvl lk19 rfl) (hga hn rfl) rfl (nb' rfl) rfl SrcPd_sc0_3 (hs0 hn)) ptn<|mv' lk20 pt3<|mv' lk21 pt4<|sn'<|w_rets<|r_thn<|w_ret (rsn (rm1 (rr_c gt2 (hga hn rfl) (ld1 SrcPd_tk0_3 rfl)) (rm1 (rr_t gt3) (rm1 (rr_t gt4) rm0))))<|rtW'<|?_
  rw [hV];exact wk_srcZ
 have hV:parseV s=outP L:=by rw [hV0];exact if_neg hc1
 clear hV0
 refine w_skip<|n_seq<|wr'<|V' (v_build SrcPd_Parse_21) pt22<|E' (e_box (cvl lk22 rfl) rfl (hl1 hn) ha1) pt23<|mv' lk23 pt8<|s_nil<|?_
 refine n_seqw (ALe.trans (ALe.own0Cell (st':=11) (ty:=48) (hga hn rfl) gt0 (hl2 hn) pt0 (Eq.trans (congrArg (fun z=>List.set z _ _) ha2) (hs1 hn))) (ALe.trans (ALe.own0Cell (st':=2) (ty:=52) (hga hn rfl) gt1 (hl3 hn) pt1 (Eq.trans (congrArg (fun z=>List.set z _ _) ha3) (hs1 hn))) (ALe.own0Cell (st':=2) (ty:=55) (hga hn rfl) gt2 (hl4 hn) pt2 (Eq.trans (congrArg (fun z=>List.set z _ _) ha4) (hs1 hn))))) ?_
 refine w_seq<|wr'<|mv' lk5 pt24<|V' (v_lenL lk24) pt25<|mv' lki pt26<|s_nil<|n_seqw ((ALe.newEnt (ty:=64) (st:=10) ha5))<|w_block<|?_
 refine w_lp (ι:=Nat×Src×Option Zon×Nat×Nat×Nat×Nat×Nat) (fun (x_:Nat×Src×Option Zon×Nat×Nat×Nat×Nat×Nat)=>match x_ with | ⟨k,sr,o,m,v1,v2,v3,v4⟩=>[(26,iv (k:Int)),(3,.any),(4,.any),(10,.any)]++rn' 27 11) (fun (x_:Nat×Src×Option Zon×Nat×Nat×Nat×Nat×Nat)=>match x_ with | ⟨k,sr,o,m,v1,v2,v3,v4⟩=>[(1,.mk 0 81 4 [.own (N+2) v1 sr.1.length,.own (N+3) v2 m,.own (N+4) v3 sr.2.2.length,bv o.isSome]),(2,.mk v1 48 11 (rows rulC sr.1)),(3,.mk v2 52 2 (rows zonC sr.2.1++zP (N+1) v4 o)),(4,.mk v3 55 2 (rows lnkC sr.2.2)),(5,.mk v4 64 10 (rows eraC (eC o)))]) (fun (x_:Nat×Src×Option Zon×Nat×Nat×Nat×Nat×Nat)=>match x_ with | ⟨k,sr,o,m,v1,v2,v3,v4⟩=>k≤L.length∧m=sr.2.1.length+o.toList.length∧sr.1.length≤k∧m≤k∧sr.2.2.length≤k∧(eC o).length≤k∧okSrc (curS sr o)∧runR (srcZ,false) L=runR (curS sr o,o.isSome) (L.drop k)) (fun (x_:Nat×Src×Option Zon×Nat×Nat×Nat×Nat×Nat)=>match x_ with | ⟨k,sr,o,m,v1,v2,v3,v4⟩=>L.length-k) (⟨0,srcZ,none,0,0,0,0,0⟩) (by exact ⟨Nat.zero_le _,rfl,Nat.le_refl _,Nat.le_refl _,Nat.le_refl _,Nat.le_refl _,okSrc_Z,rfl⟩) ?_
 rintro ⟨k,sr,o,m,v1,v2,v3,v4⟩ hi1
 try simp only [setsT,setsE,z',s',rn',la',ln',Nat.reduceAdd]
 obtain ⟨hk1,hm,hk2,hk3,hk4,hk5,hok,hrun⟩:=hi1
 refine wr'<|V' (v_lss lk26 lk25) pt27<|sn'<|w_seq<|?_
 refine cd' lk27 (fun hc2=>?_) (fun hc2=>?_)
 ·have hk:k<L.length:=by omega
  have hfs:okL L[k].2.2:=hf24 _ (List.getElem_mem hk)
  have hmk:L[k].2.2.length≤12:=hmany _ (List.getElem_mem hk)
  rw [runR_at hk] at hrun
  refine w_skip<|n_seq<|w_seq<|w_block<|wr'<|?_
  refine V' (v_iaR lk24 lk26 ln_len1 (nb' rfl) (by first | rfl | omega) (by omega) (by first | rfl | omega) rfl) pt28 ?_
  refine V' (v_loadrA lk28 SrcPd_tk_3 rfl) pt29<|E' (e_new (hl6 hn) ha6) pt10<|E' (e_store lk10 (cvl lk29 rfl) (hga hn rfl) rfl (nb' rfl) rfl SrcPd_sc0_3 (hs6 hn)) ptn<|sn'<|wr'<|mv' lk8 pt30<|V' (v_loadpA lk10 (hga hn rfl) SrcPd_tk0_3 rfl) pt31<|?_
  by_cases hs34 : ∃ q,lineR (curS sr o,o.isSome) L[k]=some q
  ·obtain ⟨q,eq⟩:=hs34
   rw [eq] at hrun
   have hokq:=lineR_okS (p:=(curS sr o,o.isSome)) hok hfs eq
   refine s_callE (mp1 lk30 (mp1 lk31 mp0)) (pread_e hn hm hfs (by omega) (by omega) (by omega) (by omega) (by omega) eq) pt32 ?_
   rintro ⟨sr',o',m',w1,w2,w3,w4⟩ hJ
   obtain ⟨j1,j2,j3,j4,j5,j6,j7⟩:=hJ
   dsimp only at j1 j2 j3 j4 j5 j6 j7
   dsimp only
   refine V' (v_notB lk32) pt33<|sn'<|w_condF lk33<|w_skip<|n_blk<|n_seq<|w_reg<|?_
   refine V' (v_add lk26 lki (by omega) (by omega)) pt37 ?_
   refine mv' lk37 pt26<|s_nil<|n_thn<|?_
   refine lU' (⟨k+1,sr',o',m',w1,w2,w3,w4⟩) (by (try dsimp only);have hq:curS sr' o'=q.1:=j1;rw [show q=(curS sr' o',o'.isSome) from by rw [j1,j2]] at hrun;rw [←j1] at hokq;exact ⟨by omega,j3,by omega,by omega,by omega,by omega,hokq,hrun⟩) (by (try dsimp only);(try simp only [setsT,setsE,z',s',rn',la',ln',Nat.reduceAdd]);exact bk' 6 hn hlt (hT:=by first | rfl | (simp only [AV.lt,AV.ltL,Ent.lt,List.all_cons,List.all_nil,Bool.and_true,Bool.and_self,decide_true,rul_lt,era_lt,zon_lt,lnk_lt,str_lt,ln_lt,zp_ltN,lt26,lt36,lt46,lt56];done) | exact lt') (hE:=by first | rfl | (simp only [AV.lt,AV.ltL,Ent.lt,List.all_cons,List.all_nil,Bool.and_true,Bool.and_self,decide_true,rul_lt,era_lt,zon_lt,lnk_lt,str_lt,ln_lt,zp_ltN,lt26,lt36,lt46,lt56];done) | exact lt'))
  have eq:lineR (curS sr o,o.isSome) L[k]=none:=by cases h9:lineR (curS sr o,o.isSome) L[k] with | none=>rfl | some q=>exact absurd ⟨q,h9⟩ hs34
  rw [eq] at hrun
  have hP:parseV s=(srcZ,L[k].1,1):=by rw [hV,outP,hrun]
  refine s_callE (mp1 lk30 (mp1 lk31 mp0)) (pread_n hn hm hfs (by omega) (by omega) (by omega) (by omega) (by omega) eq) pt32 ?_
  rintro ⟨p1,p2,p3,p4,p5⟩ hJ
  dsimp only
  refine V' (v_notB lk32) pt33<|sn'<|w_condT lk33<|w_seq<|w_drwR [N+6]<|D' (v_build SrcPd_Parse_36) pt34<|D' (v_fap0 lk10) pt35<|?_
  refine d_ldP lk35 (hga hn rfl) (ld0 gt0) (by simp) pt36 ?_
  refine d_nil<|k_e_nil<|?_
  refine k_eff rfl rfl (e_store lk2 (cvl lk34 rfl) (hga hn rfl) rfl (nb' rfl) rfl SrcPd_sc0_3 (hs0 hn)) (by intro i hi;simp only [cond_true,List.mem_cons,List.not_mem_nil,or_false] at hi;subst hi;first | rfl | exact (hga hn rfl).trans (hga hn rfl).symm) ptn ?_
  refine k_val rfl (v_mv lk36) pt3<|k_val rfl (v_mv lki) pt4<|k_nil<|n_seq<|w_rets<|r_blk<|r_thn<|r_thn<|r_blk<|r_thn<|w_ret (rsn (rm1 (rr_c gt2 (hga hn rfl) (ld1 SrcPd_tk0_3 rfl)) (rm1 (rr_t gt3) (rm1 (rr_t gt4) rm0))))<|rtW'<|?_
  rw [hP];exact wk_srcZ
 have hke:k=L.length:=by omega
 rw [List.drop_of_length_le (by omega),runR] at hrun
 have hV2:parseV s=endP (curS sr o,o.isSome):=by rw [hV,outP,hrun]
 refine w_exit<|x_thn<|x_thn<|x_blk<|n_seq<|wr'<|mv' lki pt7<|sn'<|w_seq<|wr'<|?_
 by_cases hs45:o=none
 ·subst hs45
  have hm':m=sr.2.1.length:=by simpa using hm
  subst hm'
  rw [curS_none] at hok hV2
  refine mv' lk8 pt38<|V' (v_nckp lk38) pt39<|V' (v_fap0 lk39) pt40<|V' (v_loadp lk40 (hga hn rfl) gt3) pt41<|V' (v_notB lk41) pt42<|s_nil<|?_
  refine n_seqw ((ALe.trans (ALe.iceCellR (ds:=rows rulC sr.1) (hga hn rfl) (hga hn rfl) (by omega) gt0 (List.take_of_length_le (by rw [rul_len];exact Nat.le_refl _)) (by rw [rul_len];exact Nat.le_refl _) pt0 (hs2 hn) (hs1 hn)) (ALe.trans (ALe.iceCellR (ds:=rows zonC sr.2.1) (hga hn rfl) (hga hn rfl) (by omega) gt1 (by rw [show rows zonC sr.2.1++zP (N+1) v4 none=rows zonC sr.2.1 from List.append_nil _];exact List.take_of_length_le (by rw [zon_len];exact Nat.le_refl _)) (by rw [zp_len];simp) pt1 (hs3 hn) (hs1 hn)) (ALe.iceCellR (ds:=rows lnkC sr.2.2) (hga hn rfl) (hga hn rfl) (by omega) gt2 (List.take_of_length_le (by rw [lnk_len];exact Nat.le_refl _)) (by rw [lnk_len];exact Nat.le_refl _) pt2 (hs4 hn) (hs1 hn))))) ?_
  refine w_condK lk42 (by rfl) ?_
  refine w_reg<|mv' lk8 pt43<|V' (v_nckp lk43) pt44<|V' (v_fap0 lk44) pt45<|V' (v_loadpA lk45 (hga hn rfl) SrcPd_tk0_3 rfl) pt46<|s_callp (mp1 lk46 mp0) (scheck_b (a:=sr.1) (z:=sr.2.1) (l:=sr.2.2) hok) pt47<|mv' lk47 pt7<|sn'<|w_seq<|wr'<|mv' lk7 pt48<|V' (v_neq lk48 lki) pt49<|?_
  refine sn' ?_
  refine cd' lk49 (fun hc5=>?_) (fun hc5=>?_)
  ·have hP:parseV s=(srcZ,0,checkE sr):=by rw [hV2,endP,if_neg (by simp)];exact if_pos hc5
   refine wr'<|V' (v_build SrcPd_Parse_58) pt50<|mv' lk7 pt51<|E' (e_store lk2 (cvl lk50 rfl) (hga hn rfl) rfl (nb' rfl) rfl SrcPd_sc0_3 (hs0 hn)) ptn<|mv' lki pt3<|mv' lk51 pt4<|sn'<|w_rets<|r_thn<|w_ret (rsn (rm1 (rr_c gt2 (hga hn rfl) (ld1 SrcPd_tk0_3 rfl)) (rm1 (rr_t gt3) (rm1 (rr_t gt4) rm0))))<|rtW'<|?_
   rw [hP];exact wk_srcZ
  have h0:checkE sr=0:=Decidable.of_not_not hc5
  have hP:parseV s=(sr,0,0):=by rw [hV2,endP,if_neg (by simp)];exact if_neg hc5
  refine w_skip<|n_seq<|wr'<|mv' lk8 pt52<|V' (v_nckp lk52) pt53<|V' (v_fap0 lk53) pt54<|V' (v_loadpA lk54 (hga hn rfl) SrcPd_tk0_3 rfl) pt55<|E' (e_store lk2 (cvl lk55 rfl) (hga hn rfl) rfl (nb' rfl) rfl SrcPd_sc0_3 (hs0 hn)) ptn<|mv' lki pt3<|mv' lki pt4<|sn'<|w_rets<|?_
  refine w_ret (rsn (rm1 (rr_c gt2 (hga hn rfl) (ld1 SrcPd_tk0_3 rfl)) (rm1 (rr_t gt3) (rm1 (rr_t gt4) rm0))))<|rtW'<|?_
  rw [hP];exact Wk.tup (wk1 rfl (wk1 rfl (wk1 rfl wk0)))
 obtain ⟨z,rfl⟩:=Option.ne_none_iff_exists'.1 hs45
 refine mv' lk8 pt38<|V' (v_nckp lk38) pt39<|V' (v_fap0 lk39) pt40<|V' (v_loadp lk40 (hga hn rfl) gt3) pt41<|V' (v_notB lk41) pt42<|sn'<|?_
 refine w_condKF lk42 (by rfl) ?_
 refine w_skip<|n_seq<|w_seq<|wr'<|mv' lk7 pt48<|V' (v_neq lk48 lki) pt49<|sn'<|?_
 refine w_condK lk49 (by rfl) ?_
 refine wr'<|V' (v_build SrcPd_Parse_58) pt50<|mv' lk7 pt51<|E' (e_store lk2 (cvl lk50 rfl) (hga hn rfl) rfl (nb' rfl) rfl SrcPd_sc0_3 (hs0 hn)) ptn<|mv' lki pt3<|mv' lk51 pt4<|sn'<|w_rets<|r_thn<|w_ret (rsn (rm1 (rr_c gt2 (hga hn rfl) (ld1 SrcPd_tk0_3 rfl)) (rm1 (rr_t gt3) (rm1 (rr_t gt4) rm0))))<|rtW'<|?_
 have hP:parseV s=(srcZ,0,1):=by rw [hV2];exact if_pos rfl
 rw [hP];exact wk_srcZ
end Go.Proofs.YtgjchdhdopgkkaaGreatDoor
end
section
namespace Go.Proofs.YtgjchdhdopgkkaaGreatDoor
open Go.Ab Go.RowKit Civ
attribute [local simp] rul_lt era_lt zon_lt lnk_lt str_lt
section
theorem SrcBeg_sc0_3 {a0 a1 a2 c0 c1 c2:AV}{l:List AV}:setCells (a0::a1::a2::l) 0 [c0,c1,c2]=c0::c1::c2::l:=rfl
theorem SrcBeg_tk0_3 {a0 a1 a2:AV}{l:List AV}:((a0::a1::a2::l).drop 0).take 3=[a0,a1,a2]:=rfl
end
def c32:AC:=(.seq (.reg [Oo 0 (.new 26 3 [(.sl 0 0 true []),(.sl 0 0 true []),(.sl 0 0 true [])])]) (.seq (.reg [Oo 5 (.call (.func 19) [(.const (.string ⟨#[82,117,108,101,32,101,117,32,49,57,56,49,32,109,97,120,32,77,97,114,32,108,97,115,116,83,117,110,32,49,58,48,48,117,32,49,58,48,48,32,83,10,82,117,108,101,32,101,117,32,49,57,57,54,32,109,97,120,32,79,99,116,32,108,97,115,116,83,117,110,32,49,58,48,48,117,32,48,32,45,10,90,111,110,101,32,72,101,114,101,47,84,111,119,110,32,48,58,49,48,32,45,32,76,77,84,32,49,56,56,48,32,74,97,110,32,49,32,48,10,32,32,49,58,48,48,32,101,117,32,67,69,37,115,84,10,76,105,110,107,32,72,101,114,101,47,84,111,119,110,32,79,108,100,10]⟩))]),Mv 4 5,Ex 6 4 0,Ex 7 4 1,Ex 8 4 2,Oo 1 (.new 26 3 [(.sl 0 0 true []),(.sl 0 0 true []),(.sl 0 0 true [])]),⟨none,none,(.store 3 (.tmp 1) (.tmp 6))⟩,Mv 2 7,Mv 3 8]) (.seq (.reg [Oo 9 (.load true 3 (.tmp 1)),⟨none,none,(.store 3 (.tmp 0) (.tmp 9))⟩]) .ret)))
theorem k32:compF Tryz.prog 32=some ⟨c32,[(.cell 0 true 3)],10⟩:=by kernel_rfl
def c15:AC:=(.seq (.reg [Oo 0 (.mv (.const (.bool false)))]) (.seq (.reg [Oo 8 (.call (.func 16) [(.const (.string ⟨#[82,117,108,101,32,101,117,32,49,57,56,49,32,109,97,120,32,77,97,114,32,108,97,115,116,83,117,110,32,49,58,48,48,117,32,49,58,48,48,32,83,10,82,117,108,101,32,101,117,32,49,57,57,54,32,109,97,120,32,79,99,116,32,108,97,115,116,83,117,110,32,49,58,48,48,117,32,48,32,45,10,90,111,110,101,32,72,101,114,101,47,84,111,119,110,32,48,58,49,48,32,45,32,76,77,84,32,49,56,56,48,32,74,97,110,32,49,32,48,10,32,32,49,58,48,48,32,101,117,32,67,69,37,115,84,10,76,105,110,107,32,72,101,114,101,47,84,111,119,110,32,79,108,100,10]⟩))]),Mv 7 8,Ex 9 7 0,Ex 10 7 1,Ex 11 7 2,Oo 1 (.new 26 3 [(.sl 0 0 true []),(.sl 0 0 true []),(.sl 0 0 true [])]),⟨none,none,(.store 3 (.tmp 1) (.tmp 9))⟩,Mv 2 10,Mv 3 11]) (.seq (.reg [Oo 13 (.call (.func 16) [(.const (.string ⟨#[82,117,108,101,32,120,10]⟩))]),Mv 12 13,Ex 14 12 0,Ex 15 12 1,Ex 16 12 2,Oo 4 (.new 26 3 [(.sl 0 0 true []),(.sl 0 0 true []),(.sl 0 0 true [])]),⟨none,none,(.store 3 (.tmp 4) (.tmp 14))⟩,Mv 5 15,Mv 6 16]) (.seq (.drw [Mv 17 3,Oo 18 (.bin .eql (.tmp 17) (Ci 0)),Mv 19 18,Ot 20 19 (.mv (.tmp 2)),Ot 21 19 (.bin .eql (.tmp 20) (Ci 0)),Oo 22 (.pick (.tmp 19) (.tmp 21) (.const (.bool false))),Mv 23 22,Ot 24 23 (.load true 3 (.tmp 1)),Ot 25 23 (.call (.func 32) []),Ot 26 23 (.call (.func 14) [(.tmp 24),(.tmp 25)]),Oo 27 (.pick (.tmp 23) (.tmp 26) (.const (.bool false))),Mv 28 27,Ot 29 28 (.load true 3 (.tmp 1)),Ot 30 28 (.call (.func 17) [(.tmp 29)]),Ot 31 28 (.bin .eql (.tmp 30) (Ci 0)),Oo 32 (.pick (.tmp 28) (.tmp 31) (.const (.bool false))),Mv 33 32,Ot 34 33 (.mv (.tmp 6)),Ot 35 33 (.bin .eql (.tmp 34) (Ci 1)),Oo 36 (.pick (.tmp 33) (.tmp 35) (.const (.bool false))),Mv 37 36,Ot 38 37 (.mv (.tmp 5)),Ot 39 37 (.bin .eql (.tmp 38) (Ci 1)),Oo 40 (.pick (.tmp 37) (.tmp 39) (.const (.bool false))),Mv 0 40] [] []) .ret))))
theorem k15:compF Tryz.prog 15=some ⟨c15,[(.tmp 0)],41⟩:=by kernel_rfl
def txtS:Bs:=[82,117,108,101,32,101,117,32,49,57,56,49,32,109,97,120,32,77,97,114,32,108,97,115,116,83,117,110,32,49,58,48,48,117,32,49,58,48,48,32,83,10,82,117,108,101,32,101,117,32,49,57,57,54,32,109,97,120,32,79,99,116,32,108,97,115,116,83,117,110,32,49,58,48,48,117,32,48,32,45,10,90,111,110,101,32,72,101,114,101,47,84,111,119,110,32,48,58,49,48,32,45,32,76,77,84,32,49,56,56,48,32,74,97,110,32,49,32,48,10,32,32,49,58,48,48,32,101,117,32,67,69,37,115,84,10,76,105,110,107,32,72,101,114,101,47,84,111,119,110,32,79,108,100,10]
def txtR:Bs:=[82,117,108,101,32,120,10]
theorem runR_okS : ∀ {l:List Ln}{p q:PS},okSrc p.1→(∀ x∈l,okL x.2.2)→runR p l = .inl q→okSrc q.1
 | [],p,q,hok,_,e=>by rw [runR] at e;cases e;exact hok
 | x::l,p,q,hok,hl,e=>by
  rw [runR] at e
  cases hx:lineR p x with
  | none=>rw [hx] at e;cases e
  | some q1 =>
   rw [hx] at e
   exact runR_okS (lineR_okS hok (hl x (by simp)) hx) (fun y hy=>hl y (by simp [hy])) e
theorem okSrc_0:okSrc srcZ:=by have:=okSrc_Z;rwa [curS_none] at this
theorem parse_okS {s:ByteArray}:okSrc (parseV s).1:=by
 by_cases h:(parseV s).2.2=0
 ·obtain ⟨_,s2,_⟩:=parseV_ok h
  exact runR_okS (p:=(srcZ,false)) okSrc_0 (fun x hx=>split_fields x hx) s2
 rw [parseV_bad h];exact okSrc_0
theorem parse_check {s:ByteArray}(h:(parseV s).2.2=0):checkE (parseV s).1=0:=(parseV_ok h).2.2.1
theorem triple_eq {α:Type}{p:α×Int×Int}(h1:p.2.1=0) (h2:p.2.2=0):p=(p.1,0,0):=by
 obtain ⟨a,b,c⟩:=p
 simp only at h1 h2
 subst h1 h2
 rfl
theorem prs_txt : ∃ S:Src,parseV (bA txtS)=(S,0,0)∧checkE S=0∧okSrc S:=by
 have h:(parseV (bA txtS)).2.2=0:=by kernel_rfl
 obtain ⟨_,_,h3,h4⟩:=parseV_ok h
 exact ⟨(parseV (bA txtS)).1,triple_eq h4 h,h3,parse_okS⟩
theorem prs_r:parseV (bA txtR)=(srcZ,1,1):=by kernel_rfl
theorem sp_txt {S:Src}(e:parseV (bA txtS)=(S,0,0)) {h:AH}:ACalls Tryz.prog 16 [sv (bA txtS)] h fun x h'=>h'=h∧x = .ret (.tup [.agg (srcC S),iv 0,iv 0]):=by
 have:=sparse_a (s:=bA txtS) (h:=h)
 rw [e] at this
 exact this
theorem rp_txt {S:Src}(e:parseV (bA txtS)=(S,0,0)) {h:AH}:ACalls Tryz.prog 19 [sv (bA txtS)] h fun x h'=>h'=h∧x = .ret (.tup [.agg (srcC S),iv 0,iv 0]):=by
 have:=rparse_a (s:=bA txtS) (h:=h)
 rw [e] at this
 exact this
theorem sp_r {h:AH}:ACalls Tryz.prog 16 [sv (bA txtR)] h fun x h'=>h'=h∧x = .ret (.tup [.agg (srcC srcZ),iv 1,iv 1]):=by
 have:=sparse_a (s:=bA txtR) (h:=h)
 rw [prs_r] at this
 exact this
theorem parsed_a {S:Src}(e:parseV (bA txtS)=(S,0,0)) {h:AH}:ACalls Tryz.prog 32 [] h fun x h'=>h'=h∧x = .ret (.agg (srcC S)):=by
 refine tI' k32 fun N hn hlt hlA hbd=>?_
 simp only [tA',AV.bdL,AV.bd,and_true,true_and] at hbd ⊢
 refine wr'<|E' (e_new (hl0 hn) ha0) pt0<|sn'<|wr'<|s_callp (mp1 lks mp0) (rp_txt e) pt5<|mv' lk5 pt4<|V' (v_ext lk4 gt0) pt6<|V' (v_ext lk4 gt1) pt7<|V' (v_ext lk4 gt2) pt8<|E' (e_new (hl1 hn) ha1) pt1<|E' (e_store lk1 (cvl lk6 rfl) (hga hn rfl) rfl (nb' rfl) rfl SrcBeg_sc0_3 (hs1 hn)) ptn<|?_
 exact mv' lk7 pt2<|mv' lk8 pt3<|sn'<|wr'<|V' (v_loadpA lk1 (hga hn rfl) SrcBeg_tk0_3 rfl) pt9<|E' (e_store lk0 (cvl lk9 rfl) (hga hn rfl) rfl (nb' rfl) rfl SrcBeg_sc0_3 (hs0 hn)) ptn<|sn'<|w_rets<|w_ret (rs1 (rr_c gt0 (hga hn rfl) (ld1 SrcBeg_tk0_3 rfl)))<|rT' rfl
end Go.Proofs.YtgjchdhdopgkkaaGreatDoor
end
