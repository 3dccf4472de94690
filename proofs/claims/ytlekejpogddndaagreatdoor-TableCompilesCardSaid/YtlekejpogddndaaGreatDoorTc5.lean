/-
  Part 5 of the proof: own lemmas and contracts on plain data. No condition beyond those that each lemma states.
-/
import Derived.Test.YtlekejpogddndaaGreatDoorTc4
import Derived.Test.YtlekejpogddndaaGreatDoorCards
import Derived.Test.YtlekejpogddndaaGreatDoorTie
import Derived.Lay
import Derived.Handed
import Derived.SizedLaws
import Derived.Shelf.Vars
import Derived.SevenTiedAt
import Derived.LaidSub
import Derived.MakeChecks
set_option linter.all false
set_option maxRecDepth 1000000
set_option maxHeartbeats 4000000
section
namespace Go.Proofs.YtlekejpogddndaaGreatDoor.tableCompiles
open Go.Ab Go.RowKit Civ
theorem walk0 {a:List Rul}{z:List Zon}{k:List Lnk}{nm:ByteArray}{h:AH}(hok:Zft (a,z,k)):Ac 5 [.agg (srcB a z k),sv nm] h (bv true):=by
 refine tI' k5 fun N hn hlt hlA hbd=>?_
 simp only[tb'] at hbd ⊢
 refine wr'<|E' (Zbc cv rfl (hl0 hn) ha0) pt<|mw<|sn'<|wr'<|Vw (Zao lk gx Ze6 rfl)<|mw<|Zaf mp (comp_a hok) pt<|mw<|Vw (Zbi lk gt)<|Vw (Zbi lk gt)<|?_
 refine E' (Za7 (hl1 hn) ha1) pt<|E' (Zaj lk cv gx rfl (nb' rfl) rfl Zjs (hs1 hn)) ptn<|mw<|sn'<|wr'<|Vw (Zao lk gx Ze6 rfl)<|Zaf mp (Ztn hok) pt<|mw<|sn'<|wr'<|?_
 refine mw<|sn'<|Zag<|wr'<|mw<|Vw (ZaX lk lki)<|sn'<|?_
 refine cd' lk (fun hc1=>?_) (fun hc1=>?_)
 ·have hz0:ZbO (a,z,k)=0:=hc1
  have hE:=Ziv hz0
  obtain⟨q1,q2,q3,q4,q5,q6,q7⟩:=Zdv hE
  simp only at q1 q2 q3 q4 q5 q6 q7
  refine wr'<|Vw (Zao lk gx Ze6 rfl)<|mw<|?_
  refine Zaf mp (rlook_a om om) pt ?_
  refine mw<|sn'<|wr'<|mw<|Vw (ZaZ lk lki)<|sn'<|?_
  refine cd' lk (fun hc2=>?_) (fun hc2=>?_)
  ·have hF:=ZkA hz0 (ZtV hc2)
   have hC:Zf9 (a,z,k) nm=(Zi2,5):=by unfold Zf9;rw[hF];rfl
   refine Zat<|mw<|sn'<|wr'<|E' (Za7 (hl2 hn) ha2) pt<|sn'<|Zag<|wr'<|mw<|Vw (ZaX lk lki)<|?_
   refine sn' ?_
   refine Zc5 lk (by rfl) ?_
   refine Zad<|Zae<|wr'<|Zaf mp0 (Zlo) pt<|mw<|s_do gt<|Vw (Zao lk gx Zdl rfl)<|s_do gt<|mw<|s_do gt<|mw<|s_do gt<|Vw (Zao lk gx Zdl rfl)<|?_
   refine s_do gt ?_
   refine Zaf mp (ACalls.wk (wkw (Wk.refl _) (wkw (Wk.refl _) (wkw (Wk.refl _) (wkw (Wk.agg (wk1 rfl (wk1 rfl (wk1 rfl (wkw Wk.nilF wk0))))) wk0))))<|ZiD (t:=(Zf9 (a,z,k) nm).1) (u:=Zi2) (f2:=false)) pt ?_
   refine Vw (Zal lk lk)<|mw<|sn'<|Zaa<|Zah rz<|rT'<|?_
   refine bvx ?_;rw[hC,Bool.and_eq_true,decide_eq_true_iff,decide_eq_true_iff];exact⟨rfl,by split <;> rfl⟩
  obtain⟨hix,hlk⟩:=ZtU hc2
  have hF:=Zkz hz0 hix
  simp only at hix hF
  have hzo:=ZeA hE (List.getElem_mem hix)
  have hC:Zf9 (a,z,k) nm=tabR (Zdp a z[z.findIdx fun y:Zon=>decide (y.1=tgtV (a,z,k) nm)].2):=by unfold Zf9;rw[hF];rfl
  refine Zad<|Zae<|wr'<|E' (Za7 (hl2 hn) ha2) pt<|sn'<|Zag<|wr'<|mw<|Vw (ZaX lk lki)<|sn'<|?_
  refine Zc6 lk (by exact decide_eq_true hz0) ?_
  refine Za2<|Dw (Zao lk gx Ze6 rfl)<|Dw (Zac lk)<|Dw (Zab lk gx gt1)<|Dw (v_mv lk)<|?_
  refine D' (ZaJ (k:=z.findIdx fun y:Zon=>decide (y.1=tgtV (a,z,k) nm)) lk lk ZbI (nb' rfl) ro om ro rfl) pt ?_
  refine D' (ZaF lk ZrI rfl) pt ?_
  refine ZaV mp (fun hE hX=>ZqO (ZlG hok) om hzo) pt ?_
  refine Dw (v_mv lk)<|Dw (Zbi lk gt)<|Dw (Zbi lk gt)<|Za8<|?_
  refine Zby ?_
  refine E' (Zaj lk cv gx rfl (nb' rfl) rfl Zjs (hs2 hn)) ptn<|mw<|sn'<|wr'<|Zaf mp0 (Zlo) pt<|mw<|s_do gt<|Vw (Zao lk gx Zdl rfl)<|s_do gt<|mw<|s_do gt<|mw<|?_
  refine s_do gt<|Vw (Zao lk gx Zdl rfl)<|s_do gt<|?_
  refine Zaf mp (ZiD (t:=(Zf9 (a,z,k) nm).1) (u:=(tabR (Zdp a z[z.findIdx fun y:Zon=>decide (y.1=tgtV (a,z,k) nm)].2)).1)) pt ?_
  refine Vw (Zal lk lk)<|mw<|sn'<|Zaa<|Zah rz<|rT'<|?_
  refine bvx ?_;rw[hC,Bool.and_eq_true,decide_eq_true_iff,decide_eq_true_iff];exact⟨rfl,by split;(rename_i hh;exact tabR_bad hh);rfl⟩
 have hF:ZcS (a,z,k) nm=(zonO,ZbO (a,z,k)):=if_pos hc1
 have hC:Zf9 (a,z,k) nm=(Zi2,ZbO (a,z,k)):=by unfold Zf9;rw[hF,if_pos hc1]
 refine Zad<|Zae<|wr'<|E' (Za7 (hl2 hn) ha2) pt<|sn'<|Zag<|wr'<|mw<|Vw (ZaX lk lki)<|sn'<|?_
 refine Zc5 lk (by exact decide_eq_false hc1) ?_
 refine Zad<|Zae<|wr'<|Zaf mp0 (Zlo) pt<|mw<|s_do gt<|Vw (Zao lk gx Zdl rfl)<|s_do gt<|mw<|s_do gt<|mw<|s_do gt<|Vw (Zao lk gx Zdl rfl)<|?_
 refine s_do gt ?_
 refine Zaf mp (ACalls.wk (wkw (Wk.refl _) (wkw (Wk.refl _) (wkw (Wk.refl _) (wkw (Wk.agg (wk1 rfl (wk1 rfl (wk1 rfl (wkw Wk.nilF wk0))))) wk0))))<|ZiD (t:=(Zf9 (a,z,k) nm).1) (u:=Zi2) (f2:=false)) pt ?_
 refine Vw (Zal lk lk)<|mw<|sn'<|Zaa<|Zah rz<|rT'<|?_
 refine bvx ?_;rw[hC,Bool.and_eq_true,decide_eq_true_iff,decide_eq_true_iff];exact⟨rfl,by split <;> rfl⟩
end Go.Proofs.YtlekejpogddndaaGreatDoor.tableCompiles
end
section
namespace Go.Proofs.YtlekejpogddndaaGreatDoor
open Go.Ab Go.RowKit Civ
abbrev RulD:Ds:=.pair .str (.pair .int (.pair .int (.pair .int (.pair (.pair .int (.pair .int .int)) (.pair .int (.pair .int (.pair .int .str)))))))
abbrev EraD:Ds:=.pair .int (.pair .str (.pair .int (.pair .str (.pair .bool (.pair (.pair .int (.pair .int .int)) (.pair .int .int))))))
abbrev ZonD:Ds:=.pair .str (.slice EraD)
abbrev LnkD:Ds:=.pair .str .str
abbrev SrcDs:Ds:=.pair (.slice RulD) (.pair (.slice ZonD) (.slice LnkD))
theorem okSrc_of {s:Src}(h:okD SrcDs s):Zft s:=by
 obtain⟨h1,h2,h3⟩:=h
 refine⟨fun r hr=>?_,fun z hz=>?_,fun l hl=>?_⟩
 ·obtain⟨i,hi,rfl⟩:=List.getElem_of_mem hr
  have:=h1 i hi
  exact⟨this.1,this.2.2.2.2.2.2.2.2⟩
 ·obtain⟨i,hi,rfl⟩:=List.getElem_of_mem hz
  have:=h2 i hi
  refine⟨this.1,fun x hx=>?_⟩
  obtain⟨j,hj,rfl⟩:=List.getElem_of_mem hx
  have:=this.2 j hj
  exact⟨this.2.1,this.2.2.2.1⟩
 ·obtain⟨i,hi,rfl⟩:=List.getElem_of_mem hl
  exact h3 i hi
end Go.Proofs.YtlekejpogddndaaGreatDoor
end
section
namespace Go
variable {H : Type} {enc : TypeId × Value → H}
theorem Zow {a:Assume}{C:Checked}{os:Os}{f:FuncId}{fn:Func}{s:ChangeSpec}{apart fresh handsOn again:Bool}{laid:List (String×DataW Unit)}
  (own:ownKnob C.prog.godebug=none) (started:os.Started) (noInit:C.prog.inits.idxOf? f=none) (hfn:C.prog.funcs[f]?=some fn)
  (witness : ∃ (w:World) (tape:Tape) (i:Input),w.os=os∧(w.forCall tape i).Shaped C.prog∧i.vars=[]∧Input.okWide C.prog (w.forCall tape i) .any w.heap.size f i ∧
   ((s.pre enc C.prog fn [] apart (w.forCall tape i).memory i.args∧laidMetH C.prog laid (w.forCall tape i).memory)∧sizedMet enc C.prog fn (OpenSpec.ofChange s) apart (w.forCall tape i).memory i.args)∧a.holds C.prog (lone (Frame.enter C.prog f i.args .normal) [] (w.forCall tape i)))
  (contract : ∀ (W:World) (base:Nat) (args:Array Value) (ds gs:List (DataW H)) (before:List MemPlace),
   (∀ (j:Nat) t v,fn.params[j]?=some t→args[j]?=some v→Value.okWide C.prog W .any base t v) →
   DataW.Whole enc C.prog fn.params.toList s.vars apart W args.toList ds gs before →
   (DataW.weightsEach C.prog (fn.params.toList++s.plain.varTypes C.prog) (ds++gs)).all (· ≤ reachBytes)=true →
   laidMetH C.prog laid W→W.ShapedOpen C.prog →
   Calls C.prog f args W fun e W' => ∃ v,e=.returned v∧s.post enc C.prog fn apart fresh handsOn again W args v W') :
  ReturnsInHanded a C os f .any (fun w args=>(s.pre enc C.prog fn [] apart w args∧laidMetH C.prog laid w)∧sizedMet enc C.prog fn (OpenSpec.ofChange s) apart w args) (s.post enc C.prog fn apart fresh handsOn again):=by
 refine returnsInHanded_of_calls own started noInit witness ?_
 intro w tape i _ hsh _ hok hpre hholds
 obtain⟨_,_,_,fn',hfn',_,_,_,_,hval⟩:=hok
 have e:fn'=fn:=Option.some.inj (hfn'.symm.trans hfn)
 subst e
 obtain⟨⟨⟨ds,gs,before,hw,hc⟩,hx⟩,hz⟩:=hpre
 have hw':=DataW.Whole.of_heap (w':=w.forCall tape i) (by rfl) hw
 refine (contract (w.forCall tape i) w.heap.size i.args ds gs before hval hw' (hz.weights hw) (hx.of_heap (by rfl)) hsh).mono fun e W' ⟨v,he,hp⟩=>?_
 subst he
 exact ChangeSpec.post_blind hp
end Go
namespace Go.Proofs.YtlekejpogddndaaGreatDoor
open Go.ChangeShapes Go.WideShapes Go.ChangeAt Go.RowKit Go.Ab
def LaidOk (l:List (String×DataW Unit)):Prop:=l.length=l.length
theorem globW {W:World}{l:List (String×DataW Unit)}(hsh:W.ShapedOpen Tryz.prog) (hL:laidMetH Tryz.prog l W) (hl:LaidOk l):GlobW W where
 tt:=trivial
 maxLen:=cell_of_shapedOpen_int (t:=3) (zero := #[.int .i64 0]) hsh (of_decide_eq_true (by kernel_rfl)) (by kernel_rfl) rfl (by kernel_rfl) (by kernel_rfl) Tryz.underlying3
end Go.Proofs.YtlekejpogddndaaGreatDoor
end
