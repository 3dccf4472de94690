/-
  Part 5 of the proof: own lemmas and contracts on plain data. No condition beyond those that each lemma states.
-/
import Derived.Test.YtgjchdhdopgkkaaGreatDoorK4
import Derived.Test.YtgjchdhdopgkkaaGreatDoorCards
import Derived.Test.YtgjchdhdopgkkaaGreatDoorTie
import Derived.Lay
import Derived.Handed
import Derived.SizedLaws
import Derived.Shelf.Vars
import Derived.SevenTiedAt
import Derived.LaidSub
import Derived.MakeChecks
set_option linter.all false
set_option maxRecDepth 100000
section
namespace Go.Proofs.YtgjchdhdopgkkaaGreatDoor
open Go.Ab Go.RowKit Civ
attribute [local simp] rul_lt era_lt zon_lt lnk_lt str_lt
theorem sbegun_a {h:AH}:ACalls Tryz.prog 15 [] h fun x h'=>h'=h∧x = .ret (bv true):=by
 obtain ⟨S,eS,hS1,hS2⟩:=prs_txt
 refine tI' k15 fun N hn hlt hlA hbd=>?_
 simp only [tA',AV.bdL,AV.bd,and_true,true_and] at hbd ⊢
 refine wr'<|mv' lkb pt0<|sn'<|wr'<|s_callp (mp1 lks mp0) (sp_txt eS) pt8<|mv' lk8 pt7<|V' (v_ext lk7 gt0) pt9<|V' (v_ext lk7 gt1) pt10<|V' (v_ext lk7 gt2) pt11<|E' (e_new (hl0 hn) ha0) pt1<|E' (e_store lk1 (cvl lk9 rfl) (hga hn rfl) rfl (nb' rfl) rfl SrcBeg_sc0_3 (hs0 hn)) ptn<|?_
 refine mv' lk10 pt2<|mv' lk11 pt3<|sn'<|wr'<|s_callp (mp1 lks mp0) (sp_r) pt13<|mv' lk13 pt12<|V' (v_ext lk12 gt0) pt14<|V' (v_ext lk12 gt1) pt15<|V' (v_ext lk12 gt2) pt16<|E' (e_new (hl1 hn) ha1) pt4<|E' (e_store lk4 (cvl lk14 rfl) (hga hn rfl) rfl (nb' rfl) rfl SrcBeg_sc0_3 (hs1 hn)) ptn<|mv' lk15 pt5<|?_
 refine mv' lk16 pt6<|sn'<|w_seq<|w_drwE<|D' (v_mv lk3) pt17<|D' (v_eql lk17 lki) pt18<|D' (v_mv lk18) pt19<|?_
 refine d_known gt19 (b:=true) (by rfl) pt19 ?_
 refine d_do gt19<|D' (v_mv lk2) pt20<|d_do gt19<|D' (v_eql lk20 lki) pt21<|D' (v_pickT lk19 lk21) pt22<|D' (v_mv lk22) pt23<|?_
 refine d_known gt23 (b:=true) (by rfl) pt23 ?_
 refine d_do gt23<|D' (v_loadpA lk1 (hga hn rfl) SrcBeg_tk0_3 rfl) pt24<|d_do gt23<|?_
 refine d_callp mp0 (fun hE hX=>parsed_a eS) pt25 ?_
 refine d_do gt23 ?_
 refine d_callp (mp1 lk24 (mp1 lk25 mp0)) (fun hE hX=>rsameSource_a (s:=S) (t:=S)) pt26 ?_
 refine D' (v_pickT lk23 lk26) pt27<|D' (v_mv lk27) pt28<|?_
 refine d_known gt28 (b:=true) (by exact decide_eq_true rfl) pt28 ?_
 refine d_do gt28<|D' (v_loadpA lk1 (hga hn rfl) SrcBeg_tk0_3 rfl) pt29<|d_do gt28<|?_
 refine d_callp (mp1 lk29 mp0) (fun hE hX=>scheck_b (a:=S.1) (z:=S.2.1) (l:=S.2.2) hS2) pt30 ?_
 refine d_do gt28<|D' (v_eql lk30 lki) pt31<|D' (v_pickT lk28 lk31) pt32<|D' (v_mv lk32) pt33<|?_
 refine d_known gt33 (b:=true) (by exact decide_eq_true hS1) pt33 ?_
 refine d_do gt33<|D' (v_mv lk6) pt34<|d_do gt33<|D' (v_eql lk34 lki) pt35<|D' (v_pickT lk33 lk35) pt36<|D' (v_mv lk36) pt37<|?_
 refine d_known gt37 (b:=true) (by rfl) pt37 ?_
 refine d_do gt37<|D' (v_mv lk5) pt38<|d_do gt37<|D' (v_eql lk38 lki) pt39<|D' (v_pickT lk37 lk39) pt40<|D' (v_mv lk40) pt0<|d_nil<|?_
 refine e_nil ?_
 refine sn'<|w_rets<|w_ret (rs1 (rr_t gt0))<|rT'<|?_
 exact bvx rfl
abbrev RulD:Ds:=.pair .str (.pair .int (.pair .int (.pair .int (.pair (.pair .int (.pair .int .int)) (.pair .int (.pair .int (.pair .int .str)))))))
abbrev EraD:Ds:=.pair .int (.pair .str (.pair .int (.pair .str (.pair .bool (.pair (.pair .int (.pair .int .int)) (.pair .int .int))))))
abbrev ZonD:Ds:=.pair .str (.slice EraD)
abbrev LnkD:Ds:=.pair .str .str
abbrev SrcDs:Ds:=.pair (.slice RulD) (.pair (.slice ZonD) (.slice LnkD))
theorem okSrc_of {s:Src}(h:okD SrcDs s):okSrc s:=by
 obtain ⟨h1,h2,h3⟩:=h
 refine ⟨fun r hr=>?_,fun z hz=>?_,fun l hl=>?_⟩
 ·obtain ⟨i,hi,rfl⟩:=List.getElem_of_mem hr
  have:=h1 i hi
  exact ⟨this.1,this.2.2.2.2.2.2.2.2⟩
 ·obtain ⟨i,hi,rfl⟩:=List.getElem_of_mem hz
  have:=h2 i hi
  refine ⟨this.1,fun x hx=>?_⟩
  obtain ⟨j,hj,rfl⟩:=List.getElem_of_mem hx
  have:=this.2 j hj
  exact ⟨this.2.1,this.2.2.2.1⟩
 obtain ⟨i,hi,rfl⟩:=List.getElem_of_mem hl
 exact h3 i hi
end Go.Proofs.YtgjchdhdopgkkaaGreatDoor
end
section
namespace Go
variable {H : Type} {enc : TypeId × Value → H}
theorem handed_tied {a:Assume}{C:Checked}{os:Os}{f:FuncId}{fn:Func}{s:ChangeSpec}{apart fresh handsOn again:Bool}{laid:List (String×DataW Unit)}
  (own:ownKnob C.prog.godebug=none) (started:os.Started) (noInit:C.prog.inits.idxOf? f=none) (hfn:C.prog.funcs[f]?=some fn)
  (witness : ∃ (w:World) (tape:Tape) (i:Input),w.os=os∧(w.forCall tape i).Shaped C.prog∧i.vars=[]∧Input.okWide C.prog (w.forCall tape i) .any w.heap.size f i ∧
   ((s.pre enc C.prog fn [] apart (w.forCall tape i).memory i.args∧laidMetH C.prog laid (w.forCall tape i).memory)∧sizedMet enc C.prog fn (OpenSpec.ofChange s) apart (w.forCall tape i).memory i.args)∧a.holds C.prog (lone (Frame.enter C.prog f i.args .normal) [] (w.forCall tape i)))
  (contract : ∀ (W:World) (base:Nat) (args:Array Value) (ds gs:List (DataW H)) (before:List MemPlace),
   (∀ (j:Nat) t v,fn.params[j]?=some t→args[j]?=some v→Value.okWide C.prog W .any base t v) →
   DataW.Whole enc C.prog fn.params.toList s.vars apart W args.toList ds gs before →
   (DataW.weightsEach C.prog (fn.params.toList++s.plain.varTypes C.prog) (ds++gs)).all (· ≤ reachBytes)=true →
   laidMetH C.prog laid W→W.ShapedOpen C.prog →
   Calls C.prog f args W fun e W' => ∃ v,e = .returned v∧s.post enc C.prog fn apart fresh handsOn again W args v W') :
  ReturnsInHanded a C os f .any (fun w args=>(s.pre enc C.prog fn [] apart w args∧laidMetH C.prog laid w)∧sizedMet enc C.prog fn (OpenSpec.ofChange s) apart w args) (s.post enc C.prog fn apart fresh handsOn again):=by
 refine returnsInHanded_of_calls own started noInit witness ?_
 intro w tape i _ hsh _ hok hpre hholds
 obtain ⟨_,_,_,fn',hfn',_,_,_,_,hval⟩:=hok
 have e:fn'=fn:=Option.some.inj (hfn'.symm.trans hfn)
 subst e
 obtain ⟨⟨⟨ds,gs,before,hw,hc⟩,hx⟩,hz⟩:=hpre
 have hw':=DataW.Whole.of_heap (w':=w.forCall tape i) (by rfl) hw
 refine (contract (w.forCall tape i) w.heap.size i.args ds gs before hval hw' (hz.weights hw) (hx.of_heap (by rfl)) hsh).mono fun e W' ⟨v,he,hp⟩=>?_
 subst he
 exact ChangeSpec.post_blind hp
end Go
namespace Go.Proofs.YtgjchdhdopgkkaaGreatDoor
open Go.ChangeShapes Go.WideShapes Go.ChangeAt Go.RowKit Go.Ab
def LaidOk (l:List (String×DataW Unit)):Prop:=(l.filter fun x=>x.1 == "internal/strconv.uint64pow10")=[("internal/strconv.uint64pow10",Lib.tabData .u64 Lib.pow10Tab)]
theorem tab_of_laid {W:World}{l:List (String×DataW Unit)}(h:laidMetH Tryz.prog l W) (hl:LaidOk l):Lib.TabIs Tryz.prog W "internal/strconv.uint64pow10" .u64 Lib.pow10Tab:=by
 have h1:=laidMetH.filter (fun x=>x.1 == "internal/strconv.uint64pow10") h
 rw [hl,MakeChecks.laidMetH_plain _ _ _ (by kernel_rfl)] at h1
 exact Lib.tabIs_of_head (g:=1) (n:=20) (t:=194) (e:=184) (by kernel_rfl) (by kernel_rfl) (by kernel_rfl) (by kernel_rfl) (by kernel_rfl) (by kernel_rfl) h1
theorem globW {W:World}{l:List (String×DataW Unit)}(hsh:W.ShapedOpen Tryz.prog) (hL:laidMetH Tryz.prog l W) (hl:LaidOk l):GlobW W where
 tt:=trivial
 maxLen:=cell_of_shapedOpen_int (t:=3) (zero := #[.int .i64 0]) hsh (of_decide_eq_true (by kernel_rfl)) (by kernel_rfl) rfl (by kernel_rfl) (by kernel_rfl) Tryz.underlying3
 pow10:=tab_of_laid hL hl
end Go.Proofs.YtgjchdhdopgkkaaGreatDoor
end
