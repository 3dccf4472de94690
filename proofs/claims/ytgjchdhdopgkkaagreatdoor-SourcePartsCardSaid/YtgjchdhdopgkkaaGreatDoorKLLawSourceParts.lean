/-
  The law LawSourceParts answers true; own lemmas and contracts lie in the parts ahead. No condition beyond those that each lemma states.
-/
import Derived.Test.YtgjchdhdopgkkaaGreatDoorK5
set_option linter.all false
set_option maxRecDepth 100000
section
namespace Go.Proofs.YtgjchdhdopgkkaaGreatDoor.sourceParts
open Go.ChangeShapes Go.WideShapes Go.ChangeAt Go.RowKit Go.Ab
attribute [local simp] rul_lt era_lt zon_lt lnk_lt str_lt
section
theorem LawSourceParts_sc0_3 {a0 a1 a2 c0 c1 c2:AV}{l:List AV}:setCells (a0::a1::a2::l) 0 [c0,c1,c2]=c0::c1::c2::l:=rfl
theorem LawSourceParts_SourceParts_53 {τ:Operand→AV}:fillAV τ [] []=some []:=rfl
theorem LawSourceParts_SourceParts_60 {τ:Operand→AV}:fillAV τ [] []=some []:=rfl
theorem LawSourceParts_SourceParts_67 {τ:Operand→AV}:fillAV τ [] []=some []:=rfl
theorem LawSourceParts_SourceParts_74 {τ:Operand→AV}{y0 y1 y2:Operand}{x0_0 x1_0 x2_0:AV}(h0:cellsV (τ y0)=some [x0_0]) (l0:[x0_0].all leaf=true) (h1:cellsV (τ y1)=some [x1_0]) (l1:[x1_0].all leaf=true) (h2:cellsV (τ y2)=some [x2_0]) (l2:[x2_0].all leaf=true):fillAV τ [(0,1,y0),(1,1,y1),(2,1,y2)] [(.sl 0 0 true []),(.sl 0 0 true []),(.sl 0 0 true [])]=some [x0_0,x1_0,x2_0]:=by
 simp only [fillAV,h0,l0,h1,l1,h2,l2]
 rfl
theorem LawSourceParts_tk0_3 {a0 a1 a2:AV}{l:List AV}:((a0::a1::a2::l).drop 0).take 3=[a0,a1,a2]:=rfl
end
def c18:AC:=(.seq (.reg [Oo 2 (.mv (Ci 0))]) (.seq (.reg [Mv 7 0,Oo 8 (.call (.func 48) [(.tmp 7)]),Mv 6 8,Ex 9 6 0,Ex 10 6 1,Ex 11 6 2,Mv 3 9,Mv 4 10,Mv 5 11]) (.seq (.reg [Mv 12 3,Oo 13 (.len false (.tmp 12)),Mv 2 13]) .ret)))
theorem k18:compF Tryz.prog 18=some ⟨c18,[(.tmp 2)],14⟩:=by kernel_rfl
def c4:AC:=(.seq (.reg [Oo 4 (.mv (.const (.bool false)))]) (.seq (.seq (.reg [Oo 15 (.call (.func 15) []),Oo 16 (.un .not (.tmp 15))]) (.cond (.tmp 16) (.seq (.reg [Oo 4 (.mv (.const (.bool false)))]) .ret) .skip)) (.seq (.reg [Mv 18 0,Oo 19 (.call (.func 16) [(.tmp 18)]),Mv 17 19,Ex 20 17 0,Ex 21 17 1,Ex 22 17 2,Oo 5 (.new 26 3 [(.sl 0 0 true []),(.sl 0 0 true []),(.sl 0 0 true [])]),⟨none,none,(.store 3 (.tmp 5) (.tmp 20))⟩,Mv 6 21,Mv 7 22]) (.seq (.reg [Mv 24 1,Oo 25 (.call (.func 16) [(.tmp 24)]),Mv 23 25,Ex 26 23 0,Ex 27 23 1,Ex 28 23 2,Oo 8 (.new 26 3 [(.sl 0 0 true []),(.sl 0 0 true []),(.sl 0 0 true [])]),⟨none,none,(.store 3 (.tmp 8) (.tmp 26))⟩,Mv 9 27,Mv 10 28]) (.seq (.reg [Mv 30 0,Oo 31 (.bin .add (.tmp 30) (.const (.string ⟨#[10]⟩))),Mv 32 1,Oo 33 (.bin .add (.tmp 31) (.tmp 32)),Oo 34 (.call (.func 16) [(.tmp 33)]),Mv 29 34,Ex 35 29 0,Ex 36 29 1,Ex 37 29 2,Oo 11 (.new 26 3 [(.sl 0 0 true []),(.sl 0 0 true []),(.sl 0 0 true [])]),⟨none,none,(.store 3 (.tmp 11) (.tmp 35))⟩,Mv 12 36,Mv 13 37]) (.seq (.seq (.reg [Mv 38 7,Oo 39 (.bin .neq (.tmp 38) (Ci 0)),Mv 40 39,Of 41 40 (.mv (.tmp 10)),Of 42 40 (.bin .neq (.tmp 41) (Ci 0)),Oo 43 (.pick (.tmp 40) (.const (.bool true)) (.tmp 42))]) (.cond (.tmp 43) (.seq (.reg [Mv 44 7,Oo 45 (.bin .eql (.tmp 44) (Ci 0)),Mv 46 45,Of 47 46 (.fa 1 (.tmp 5)),Of 48 46 (.load false 1 (.tmp 47)),Of 49 46 (.len false (.tmp 48)),Of 50 46 (.bin .eql (.tmp 49) (Ci 0)),Oo 51 (.pick (.tmp 46) (.const (.bool true)) (.tmp 50)),Mv 4 51]) .ret) .skip)) (.seq (.drwU [[],[0],[0],[],[0,1,2,3],[0,1,2,3],[],[0,1,2,3,4,5,6],[0,1,2,3,4,5,6,7],[0,1,2,3,4,5,6,7],[],[0,1,2,3,4,5,6,7,8,9,10],[0,1,2,3,4,5,6,7,8,9,10],[],[0,1,2,3,4,5,6,7,8,9,10,11,12,13],[0,1,2,3,4,5,6,7,8,9,10,11,12,13,14],[0,1,2,3,4,5,6,7,8,9,10,11,12,13,14],[],[0,1,2,3,4,5,6,7,8,9,10,11,12,13,14,15,16,17],[0,1,2,3,4,5,6,7,8,9,10,11,12,13,14,15,16,17],[],[],[0,1,2,3,4,5,6,7,8,9,10,11,12,13,14,15,16,17,18,19,20,21],[]] [Oo 52 (.lit 48 11 0 [] []),Fa 53 0 5,Ld 54 53,Oo 55 (.app 48 11 104 (.tmp 52) (.tmp 54)),Fa 56 0 8,Ld 57 56,Oo 58 (.app 48 11 104 (.tmp 55) (.tmp 57)),Oo 59 (.lit 52 2 0 [] []),Fa 60 1 5,Ld 61 60,Oo 62 (.app 52 2 40 (.tmp 59) (.tmp 61)),Fa 63 1 8,Ld 64 63,Oo 65 (.app 52 2 40 (.tmp 62) (.tmp 64)),Oo 66 (.lit 55 2 0 [] []),Fa 67 2 5,Ld 68 67,Oo 69 (.app 55 2 32 (.tmp 66) (.tmp 68)),Fa 70 2 8,Ld 71 70,Oo 72 (.app 55 2 32 (.tmp 69) (.tmp 71)),Oo 73 (.build [(.sl 0 0 true []),(.sl 0 0 true []),(.sl 0 0 true [])] [(0,(1,(.tmp 58))),(1,(1,(.tmp 65))),(2,(1,(.tmp 72)))]),Oo 14 (.new 26 3 [(.sl 0 0 true []),(.sl 0 0 true []),(.sl 0 0 true [])]),⟨none,none,(.store 3 (.tmp 14) (.tmp 73))⟩]) (.seq (.seq (.reg [Mv 74 13,Oo 75 (.bin .neq (.tmp 74) (Ci 0))]) (.cond (.tmp 75) (.seq (.reg [Mv 76 13,Oo 77 (.bin .eql (.tmp 76) (Ci 2)),Mv 78 77,Ot 79 78 (.load true 3 (.tmp 14)),Ot 80 78 (.call (.func 17) [(.tmp 79)]),Ot 81 78 (.mv (.tmp 13)),Ot 82 78 (.bin .eql (.tmp 80) (.tmp 81)),Ot 83 78 (.mv (.tmp 82)),Of 84 83 (.mv (.tmp 0)),Of 85 83 (.len true (.tmp 84)),Of 86 83 (.mv (.tmp 1)),Of 87 83 (.len true (.tmp 86)),Of 88 83 (.bin .add (.tmp 85) (.tmp 87)),Of 89 83 (.bin .geq (.tmp 88) (Ci 8000)),Ot 90 78 (.pick (.tmp 83) (.const (.bool true)) (.tmp 89)),Ot 91 78 (.mv (.tmp 90)),Of 92 91 (.mv (.tmp 0)),Of 93 91 (.call (.func 18) [(.tmp 92)]),Of 94 91 (.mv (.tmp 1)),Of 95 91 (.call (.func 18) [(.tmp 94)]),Of 96 91 (.bin .add (.tmp 93) (.tmp 95)),Of 97 91 (.bin .gtr (.tmp 96) (Ci 200)),Ot 98 78 (.pick (.tmp 91) (.const (.bool true)) (.tmp 97)),Oo 99 (.pick (.tmp 78) (.tmp 98) (.const (.bool false))),Mv 4 99]) .ret) .skip)) (.seq (.reg [Oo 100 (.load true 3 (.tmp 11)),Oo 101 (.load true 3 (.tmp 14)),Oo 102 (.call (.func 14) [(.tmp 100),(.tmp 101)]),Mv 4 102]) .ret)))))))))
theorem k4:compF Tryz.prog 4=some ⟨c4,[(.tmp 4)],103⟩:=by kernel_rfl
theorem cat_take {α:Type}{f:α→List AV}{k:Nat}(hf : ∀ x,(f x).length=k) {a b:List α}{n:Nat}{c:List AV}(hn:n=a.length+b.length) (hc:c=rows f (a++b)):c.take (n*k)=rows f (a++b):=by
 subst hc
 exact List.take_of_length_le (by rw [rows_len hf,List.length_append,hn];exact Nat.le_refl _)
theorem cat_le {α:Type}{f:α→List AV}{k:Nat}(hf : ∀ x,(f x).length=k) {a b:List α}{n:Nat}{c:List AV}(hn:n=a.length+b.length) (hc:c=rows f (a++b)):n*k≤c.length:=by
 subst hc
 rw [rows_len hf,List.length_append,hn];exact Nat.le_refl _
theorem lines_a {s:ByteArray}{h:AH}:ACalls Tryz.prog 18 [sv s] h fun x h'=>h'=h∧x = .ret (iv ((splitL s).1.length:Int)):=by
 refine tI' k18 fun N hn hlt hlA hbd=>?_
 simp only [tA',AV.bdL,AV.bd,and_true,true_and] at hbd ⊢
 refine wr'<|mv' lki pt2<|sn'<|wr'<|mv' lk0 pt7<|s_callp (mp1 lk7 mp0) (rsplitOf_a (s:=s)) pt8<|mv' lk8 pt6<|V' (v_ext lk6 gt0) pt9<|V' (v_ext lk6 gt1) pt10<|V' (v_ext lk6 gt2) pt11<|mv' lk9 pt3<|?_
 exact mv' lk10 pt4<|mv' lk11 pt5<|sn'<|wr'<|mv' lk3 pt12<|V' (v_lenL lk12) pt13<|mv' lk13 pt2<|sn'<|w_rets<|w_ret (rs1 (rr_t gt2))<|rT' rfl
theorem splitL_len {t:ByteArray}:(splitL t).1.length≤200:=by
 unfold splitL
 split
 ·simp
 split
 ·rename_i h2;rw [linesL_bad h2];simp
 split
 ·simp
 omega
theorem ok_cat {a b:Src}(ha:okSrc a) (hb:okSrc b):okSrc (catS a b):=by
 obtain ⟨a1,a2,a3⟩:=ha
 obtain ⟨b1,b2,b3⟩:=hb
 refine ⟨fun x hx=>?_,fun x hx=>?_,fun x hx=>?_⟩
 ·exact (List.mem_append.1 hx).elim (a1 x) (b1 x)
 ·exact (List.mem_append.1 hx).elim (a2 x) (b2 x)
 exact (List.mem_append.1 hx).elim (a3 x) (b3 x)
theorem few_of {a:Src}(h:checkE a=0):a.1.length≤40∧a.2.1.length≤20∧a.2.2.length≤20:=by
 unfold checkE at h
 split at h
 ·cases h
 rename_i h1
 unfold manyB at h1
 simp only [Bool.or_eq_true,decide_eq_true_eq,not_or] at h1
 omega
set_option maxHeartbeats 1000000 in
theorem walk {s t:ByteArray}(hs':s.size≤140737488355328) (ht':t.size≤140737488355328):ACalls Tryz.prog 4 [sv s,sv t] [] fun x h'=>h'=[]∧x = .ret (bv true):=by
 have hLs:=splitL_len (t:=s)
 have hLt:=splitL_len (t:=t)
 refine tI' k4 fun N hn hlt hlA hbd=>?_
 simp only [tA',AV.bdL,AV.bd,and_true,true_and] at hbd ⊢
 refine wr'<|mv' lkb pt4<|sn'<|w_seq<|wr'<|s_callp mp0 (sbegun_a) pt15<|?_
 refine V' ((by first | exact v_not lk15 | exact v_notB lk15)) pt16 ?_
 refine sn' ?_
 refine w_condKF lk16 (by rfl) ?_
 refine w_skip<|n_seq<|wr'<|mv' lk0 pt18<|s_callp (mp1 lk18 mp0) (sparse_a (s:=s)) pt19<|mv' lk19 pt17<|V' (v_ext lk17 gt0) pt20<|V' (v_ext lk17 gt1) pt21<|V' (v_ext lk17 gt2) pt22<|E' (e_new (hl0 hn) ha0) pt5<|E' (e_store lk5 (cvl lk20 rfl) (hga hn rfl) rfl (nb' rfl) rfl LawSourceParts_sc0_3 (hs0 hn)) ptn<|mv' lk21 pt6<|mv' lk22 pt7<|?_
 refine sn'<|wr'<|mv' lk1 pt24<|s_callp (mp1 lk24 mp0) (sparse_a (s:=t)) pt25<|mv' lk25 pt23<|V' (v_ext lk23 gt0) pt26<|V' (v_ext lk23 gt1) pt27<|V' (v_ext lk23 gt2) pt28<|E' (e_new (hl1 hn) ha1) pt8<|E' (e_store lk8 (cvl lk26 rfl) (hga hn rfl) rfl (nb' rfl) rfl LawSourceParts_sc0_3 (hs1 hn)) ptn<|mv' lk27 pt9<|mv' lk28 pt10<|?_
 refine sn'<|wr'<|mv' lk0 pt30<|?_
 refine V' (v_addS lk30 lks (by rw [show (⟨#[10]⟩:ByteArray).size=1 from rfl];omega)) pt31 ?_
 refine mv' lk1 pt32 ?_
 refine V' (v_addS lk31 lk32 (by rw [ByteArray.size_append,show (⟨#[10]⟩:ByteArray).size=1 from rfl];omega)) pt33 ?_
 refine s_callp (mp1 lk33 mp0) (sparse_a (s:=s++bA [10]++t)) pt34<|mv' lk34 pt29<|V' (v_ext lk29 gt0) pt35<|V' (v_ext lk29 gt1) pt36<|V' (v_ext lk29 gt2) pt37<|E' (e_new (hl2 hn) ha2) pt11<|E' (e_store lk11 (cvl lk35 rfl) (hga hn rfl) rfl (nb' rfl) rfl LawSourceParts_sc0_3 (hs2 hn)) ptn<|mv' lk36 pt12<|mv' lk37 pt13<|sn'<|w_seq<|wr'<|?_
 refine mv' lk7 pt38<|V' (v_neq lk38 lki) pt39<|mv' lk39 pt40<|?_
 refine sp' gt40 pt40 pt40 (fun hg40=>?_) (fun hg40=>?_)
 ·refine s_no gt40 pt41<|s_no gt40 pt42<|V' (v_pickT lk40 lkb) pt43<|sn'<|w_condT lk43<|wr'<|mv' lk7 pt44<|V' (v_eql lk44 lki) pt45<|mv' lk45 pt46<|?_
  refine s_known gt46 (b:=false) (by exact decide_eq_false hg40) pt46 ?_
  refine s_do gt46<|V' (v_fap0 lk5) pt47<|s_do gt46<|V' (v_loadp lk47 (hga hn rfl) gt1) pt48<|s_do gt46<|V' (v_lenL lk48) pt49<|s_do gt46<|V' (v_eql lk49 lki) pt50<|V' (v_pickF lk46 lk50) pt51<|mv' lk51 pt4<|sn'<|w_rets<|r_thn<|?_
  refine w_ret (rs1 (rr_t gt4))<|rT'<|?_
  refine bvx ?_;rw [parseV_bad (s:=s) (by simpa using hg40)];rfl
 refine s_do gt40<|mv' lk10 pt41<|s_do gt40<|V' (v_neq lk41 lki) pt42<|V' (v_pickF lk40 lk42) pt43<|sn'<|?_
 refine cd' lk43 (fun hc2=>?_) (fun hc2=>?_)
 ·refine wr'<|mv' lk7 pt44<|V' (v_eql lk44 lki) pt45<|mv' lk45 pt46<|?_
  refine s_known gt46 (b:=true) (by exact decide_eq_true (by simpa using hg40)) pt46 ?_
  exact s_no gt46 pt47<|s_no gt46 pt48<|s_no gt46 pt49<|s_no gt46 pt50<|V' (v_pickT lk46 lkb) pt51<|mv' lk51 pt4<|sn'<|w_rets<|r_thn<|w_ret (rs1 (rr_t gt4))<|rT' rfl
 have hse:(parseV s).2.2=0:=by simpa using hg40
 have hte:(parseV t).2.2=0:=by simpa using hc2
 have hP:=parse_parts hse hte
 have hA:=(parseV_ok hse).2.2.1
 have hB:=(parseV_ok hte).2.2.1
 have hQ:=checkE_cat hA hB
 obtain ⟨fa1,fa2,fa3⟩:=few_of hA
 obtain ⟨fb1,fb2,fb3⟩:=few_of hB
 refine w_skip<|n_seq<|w_seq<|w_drwU<|?_
 refine u_al rfl (e_lit LawSourceParts_SourceParts_53 (hl3 hn) ha3) (hl3 hn) (by first | (simp [noHit];done) | (simp [noHit];omega) | (simp [noHit] <;> (try intros) <;> omega)) pt52 ?_
 refine u_fr rfl (v_fap0 lk5) pt53 ?_
 refine u_rdn rfl (v_loadp lk53 (hga hn rfl) gt0) (hx_l rfl) (hl3 hn) (by first | (simp [noHit];done) | (simp [noHit];omega) | (simp [noHit] <;> (try intros) <;> omega)) pt54 ?_
 refine u_apS (e_app (sc_sl lk54 (rul_len _)) lk52 (hga hn rfl) rfl (by omega) (rul_leaf _) (hs3 hn)) lk52 lk54 (by first | (simp [noHit];done) | (simp [noHit];omega) | (simp [noHit] <;> (try intros) <;> omega)) pt55 ?_
 refine u_fr rfl (v_fap0 lk8) pt56 ?_
 refine u_rdn rfl (v_loadp lk56 (hga hn rfl) gt0) (hx_l rfl) (hl3 hn) (by first | (simp [noHit];done) | (simp [noHit];omega) | (simp [noHit] <;> (try intros) <;> omega)) pt57 ?_
 refine u_apS (e_app (sc_sl lk57 (rul_len _)) lk55 (hga hn rfl) (by simp [rul_len]) (by omega) (rul_leaf _) (hs3 hn)) lk55 lk57 (by first | (simp [noHit];done) | (simp [noHit];omega) | (simp [noHit] <;> (try intros) <;> omega)) pt58 ?_
 refine u_al rfl (e_lit LawSourceParts_SourceParts_60 (hl4 hn) ha4) (hl4 hn) (by first | (simp [noHit];done) | (simp [noHit];omega) | (simp [noHit] <;> (try intros) <;> omega)) pt59 ?_
 refine u_fr rfl (v_fap0 lk5) pt60 ?_
 refine u_rdn rfl (v_loadp lk60 (hga hn rfl) gt1) (hx_l rfl) (hl3 hn) (by first | (simp [noHit];done) | (simp [noHit];omega) | (simp [noHit] <;> (try intros) <;> omega)) pt61 ?_
 refine u_apS (e_app (sc_sl lk61 (zon_len _)) lk59 (hga hn rfl) rfl (by omega) (zon_leaf _) (hs4 hn)) lk59 lk61 (by first | (simp [noHit];done) | (simp [noHit];omega) | (simp [noHit] <;> (try intros) <;> omega)) pt62 ?_
 refine u_fr rfl (v_fap0 lk8) pt63 ?_
 refine u_rdn rfl (v_loadp lk63 (hga hn rfl) gt1) (hx_l rfl) (hl3 hn) (by first | (simp [noHit];done) | (simp [noHit];omega) | (simp [noHit] <;> (try intros) <;> omega)) pt64 ?_
 refine u_apS (e_app (sc_sl lk64 (zon_len _)) lk62 (hga hn rfl) (by simp [zon_len]) (by omega) (zon_leaf _) (hs4 hn)) lk62 lk64 (by first | (simp [noHit];done) | (simp [noHit];omega) | (simp [noHit] <;> (try intros) <;> omega)) pt65 ?_
 refine u_al rfl (e_lit LawSourceParts_SourceParts_67 (hl5 hn) ha5) (hl5 hn) (by first | (simp [noHit];done) | (simp [noHit];omega) | (simp [noHit] <;> (try intros) <;> omega)) pt66 ?_
 refine u_fr rfl (v_fap0 lk5) pt67 ?_
 refine u_rdn rfl (v_loadp lk67 (hga hn rfl) gt2) (hx_l rfl) (hl3 hn) (by first | (simp [noHit];done) | (simp [noHit];omega) | (simp [noHit] <;> (try intros) <;> omega)) pt68 ?_
 refine u_apS (e_app (sc_sl lk68 (lnk_len _)) lk66 (hga hn rfl) rfl (by omega) (lnk_leaf _) (hs5 hn)) lk66 lk68 (by first | (simp [noHit];done) | (simp [noHit];omega) | (simp [noHit] <;> (try intros) <;> omega)) pt69 ?_
 refine u_fr rfl (v_fap0 lk8) (ptS pt0) ?_
 refine u_rdn rfl (v_loadp (lkS lk0) (hga hn rfl) gt2) (hx_l rfl) (hl3 hn) (by first | (simp [noHit];done) | (simp [noHit];omega) | (simp [noHit] <;> (try intros) <;> omega)) (ptS pt1) ?_
 refine u_apS (e_app (sc_sl (lkS lk1) (lnk_len _)) lk69 (hga hn rfl) (by simp [lnk_len]) (by omega) (lnk_leaf _) (hs5 hn)) lk69 (lkS lk1) (by first | (simp [noHit];done) | (simp [noHit];omega) | (simp [noHit] <;> (try intros) <;> omega)) (ptS pt2) ?_
 refine u_fr rfl (v_build (LawSourceParts_SourceParts_74 (cvl lk58 rfl) rfl (cvl lk65 rfl) rfl (cvl (lkS lk2) rfl) rfl)) (ptS pt3) ?_
 refine u_al rfl (e_new (hl6 hn) ha6) (hl6 hn) (by first | (simp [noHit];done) | (simp [noHit];omega) | (simp [noHit] <;> (try intros) <;> omega)) pt14 ?_
 refine u_st (e_store lk14 (cvl (lkS lk3) rfl) (hga hn rfl) rfl (nb' rfl) rfl LawSourceParts_sc0_3 (hs6 hn)) lk14 (by first | (simp [noHit];done) | (simp [noHit];omega) | (simp [noHit] <;> (try intros) <;> omega)) ptn ?_
 refine u_nil ?_
 refine n_seqw (ALe.trans (ALe.iceCellN (hga hn rfl) (hga hn rfl) (by omega) gt0 (cat_take rul_len1 (a:=(parseV s).1.1) (b:=(parseV t).1.1) (n:=0+(parseV s).1.1.length+(parseV t).1.1.length) (c:=[]++rows rulC (parseV s).1.1++rows rulC (parseV t).1.1) (by simp) (by rw [rows_app];rfl)) (cat_le rul_len1 (a:=(parseV s).1.1) (b:=(parseV t).1.1) (n:=0+(parseV s).1.1.length+(parseV t).1.1.length) (c:=[]++rows rulC (parseV s).1.1++rows rulC (parseV t).1.1) (by simp) (by rw [rows_app];rfl)) (by exact (show 0+(parseV s).1.1.length+(parseV t).1.1.length=((parseV s).1.1++(parseV t).1.1).length from by simp)) pt0 (hs3 hn) (hs6 hn)) (ALe.trans (ALe.iceCellN (hga hn rfl) (hga hn rfl) (by omega) gt1 (cat_take zon_len1 (a:=(parseV s).1.2.1) (b:=(parseV t).1.2.1) (n:=0+(parseV s).1.2.1.length+(parseV t).1.2.1.length) (c:=[]++rows zonC (parseV s).1.2.1++rows zonC (parseV t).1.2.1) (by simp) (by rw [rows_app];rfl)) (cat_le zon_len1 (a:=(parseV s).1.2.1) (b:=(parseV t).1.2.1) (n:=0+(parseV s).1.2.1.length+(parseV t).1.2.1.length) (c:=[]++rows zonC (parseV s).1.2.1++rows zonC (parseV t).1.2.1) (by simp) (by rw [rows_app];rfl)) (by exact (show 0+(parseV s).1.2.1.length+(parseV t).1.2.1.length=((parseV s).1.2.1++(parseV t).1.2.1).length from by simp)) pt1 (hs4 hn) (hs6 hn)) (ALe.iceCellN (hga hn rfl) (hga hn rfl) (by omega) gt2 (cat_take lnk_len1 (a:=(parseV s).1.2.2) (b:=(parseV t).1.2.2) (n:=0+(parseV s).1.2.2.length+(parseV t).1.2.2.length) (c:=[]++rows lnkC (parseV s).1.2.2++rows lnkC (parseV t).1.2.2) (by simp) (by rw [rows_app];rfl)) (cat_le lnk_len1 (a:=(parseV s).1.2.2) (b:=(parseV t).1.2.2) (n:=0+(parseV s).1.2.2.length+(parseV t).1.2.2.length) (c:=[]++rows lnkC (parseV s).1.2.2++rows lnkC (parseV t).1.2.2) (by simp) (by rw [rows_app];rfl)) (by exact (show 0+(parseV s).1.2.2.length+(parseV t).1.2.2.length=((parseV s).1.2.2++(parseV t).1.2.2).length from by simp)) pt2 (hs5 hn) (hs6 hn)))) ?_
 refine w_seq<|wr'<|mv' lk13 (ptS pt4)<|V' (v_neq (lkS lk4) lki) (ptS pt5)<|sn'<|?_
 refine cd' (lkS lk5) (fun hc3=>?_) (fun hc3=>?_)
 ·have hcd:8000≤s.size+t.size∨200<(splitL s).1.length+(splitL t).1.length∨checkE (catS (parseV s).1 (parseV t).1)≠0:=by
   apply Classical.byContradiction;intro hcn;rw [if_neg hcn] at hP;rw [hP] at hc3;exact hc3 rfl
  rw [if_pos hcd] at hP
  rw [hP]
  refine wr'<|mv' lk13 (ptS pt6)<|V' (v_eql (lkS lk6) lki) (ptS pt7)<|mv' (lkS lk7) (ptS pt8)<|?_
  refine s_known (gtS gt8) (b:=true) (by exact decide_eq_true rfl) (ptS pt8) ?_
  refine s_do (gtS gt8)<|V' (v_loadpA lk14 (hga hn rfl) LawSourceParts_tk0_3 rfl) (ptS pt9)<|s_do (gtS gt8)<|s_callp (mp1 (lkS lk9) mp0) (scheck_b (a:=(catS (parseV s).1 (parseV t).1).1) (z:=(catS (parseV s).1 (parseV t).1).2.1) (l:=(catS (parseV s).1 (parseV t).1).2.2) (ok_cat parse_okS parse_okS)) (ptS pt10)<|s_do (gtS gt8)<|mv' lk13 (ptS pt11)<|s_do (gtS gt8)<|V' (v_eql (lkS lk10) (lkS lk11)) (ptS pt12)<|s_do (gtS gt8)<|mv' (lkS lk12) (ptS pt13)<|?_
  refine sp' (gtS gt13) (ptS pt13) (ptS pt13) (fun hg83=>?_) (fun hg83=>?_)
  ·refine s_no (gtS gt13) (ptS pt14)<|s_no (gtS gt13) (ptS pt15)<|s_no (gtS gt13) (ptS pt16)<|s_no (gtS gt13) (ptS pt17)<|s_no (gtS gt13) (ptS pt18)<|s_no (gtS gt13) (ptS pt19)<|s_do (gtS gt8)<|V' (v_pickT (lkS lk13) lkb) (ptS pt20)<|s_do (gtS gt8)<|mv' (lkS lk20) (ptS pt21)<|s_no (gtS gt21) (ptS pt22)<|s_no (gtS gt21) (ptS pt23)<|s_no (gtS gt21) (ptS pt24)<|s_no (gtS gt21) (ptS pt25)<|?_
   exact s_no (gtS gt21) (ptS pt26)<|s_no (gtS gt21) (ptS pt27)<|s_do (gtS gt8)<|V' (v_pickT (lkS lk21) lkb) (ptS pt28)<|V' (v_pickT (lkS lk8) (lkS lk28)) (ptS pt29)<|mv' (lkS lk29) pt4<|sn'<|w_rets<|r_thn<|w_ret (rs1 (rr_t gt4))<|rT' rfl
  refine s_do (gtS gt13)<|mv' lk0 (ptS pt14)<|s_do (gtS gt13)<|V' (v_lenS (lkS lk14)) (ptS pt15)<|s_do (gtS gt13)<|mv' lk1 (ptS pt16)<|s_do (gtS gt13)<|V' (v_lenS (lkS lk16)) (ptS pt17)<|s_do (gtS gt13)<|?_
  refine V' (v_add (lkS lk15) (lkS lk17) (by omega) (by omega)) (ptS pt18) ?_
  refine s_do (gtS gt13)<|V' (v_geq (lkS lk18) lki) (ptS pt19)<|s_do (gtS gt8)<|V' (v_pickF (lkS lk13) (lkS lk19)) (ptS pt20)<|s_do (gtS gt8)<|mv' (lkS lk20) (ptS pt21)<|?_
  refine sp' (gtS gt21) (ptS pt21) (ptS pt21) (fun hg91=>?_) (fun hg91=>?_)
  ·refine s_no (gtS gt21) (ptS pt22)<|s_no (gtS gt21) (ptS pt23)<|s_no (gtS gt21) (ptS pt24)<|s_no (gtS gt21) (ptS pt25)<|s_no (gtS gt21) (ptS pt26)<|s_no (gtS gt21) (ptS pt27)<|s_do (gtS gt8)<|V' (v_pickT (lkS lk21) lkb) (ptS pt28)<|V' (v_pickT (lkS lk8) (lkS lk28)) (ptS pt29)<|mv' (lkS lk29) pt4<|sn'<|w_rets<|r_thn<|?_
   refine w_ret (rs1 (rr_t gt4)) ?_
   exact rT' rfl
  refine s_do (gtS gt21)<|mv' lk0 (ptS pt22)<|s_do (gtS gt21)<|s_callp (mp1 (lkS lk22) mp0) (lines_a (s:=s)) (ptS pt23)<|s_do (gtS gt21)<|mv' lk1 (ptS pt24)<|s_do (gtS gt21)<|s_callp (mp1 (lkS lk24) mp0) (lines_a (s:=t)) (ptS pt25)<|s_do (gtS gt21)<|?_
  refine V' (v_add (lkS lk23) (lkS lk25) (by omega) (by omega)) (ptS pt26) ?_
  refine s_do (gtS gt21)<|V' (v_gtr (lkS lk26) lki) (ptS pt27)<|s_do (gtS gt8)<|V' (v_pickF (lkS lk21) (lkS lk27)) (ptS pt28)<|V' (v_pickT (lkS lk8) (lkS lk28)) (ptS pt29)<|mv' (lkS lk29) pt4<|sn'<|w_rets<|r_thn<|w_ret (rs1 (rr_t gt4))<|rT'<|?_
  refine bvx ?_;refine decide_eq_true ?_
  rcases hcd with h | h | h
  ·omega
  ·omega
  exact absurd (show checkE (catS (parseV s).1 (parseV t).1)=2 by rw [hQ] at h ⊢;split at h;(rename_i h5;exact if_pos h5);exact absurd rfl h) hg83
 have hcd:¬(8000≤s.size+t.size∨200<(splitL s).1.length+(splitL t).1.length∨checkE (catS (parseV s).1 (parseV t).1)≠0):=fun hh=>hc3 (by rw [hP,if_pos hh];decide)
 rw [if_neg hcd] at hP
 rw [hP]
 refine w_skip<|n_seq<|wr'<|V' (v_loadpA lk11 (hga hn rfl) LawSourceParts_tk0_3 rfl) (ptS pt30)<|V' (v_loadpA lk14 (hga hn rfl) LawSourceParts_tk0_3 rfl) (ptS pt31)<|s_callp (mp1 (lkS lk30) (mp1 (lkS lk31) mp0)) (rsameSource_a (s:=catS (parseV s).1 (parseV t).1) (t:=catS (parseV s).1 (parseV t).1)) (ptS pt32)<|mv' (lkS lk32) pt4<|sn'<|w_rets<|w_ret (rs1 (rr_t gt4))<|rT'<|?_
 refine bvx ?_;exact decide_eq_true rfl
set_option maxRecDepth 100000 in
theorem lifted (os:Os) (started:os.Started) (H:Type) (enc:TypeId×Value→H) :
  ReturnsInHanded {} Tryz.checked os 4 .any (fun w args=>(Rows.sourcePartsSpec.pre enc Tryz.prog Tryz.f4 [] false w args∧laidMetH Tryz.prog Rows.sourcePartsRow.laid w)∧sizedMet enc Tryz.prog Tryz.f4 (OpenSpec.ofChange Rows.sourcePartsSpec) false w args) (Rows.sourcePartsSpec.post enc Tryz.prog Tryz.f4 false true false false):=by
 refine handed_tied (C:=Tryz.checked) own started (by kernel_rfl) Tryz.func4
  (ChangeSpec.witness_shaped (enc:=enc) (C:=Tryz.checked) (os:=os) (X:=fun w _=>laidMetH Tryz.prog Rows.sourcePartsRow.laid w) false (World.laidAll Tryz.prog os Rows.sourcePartsRow.laid) #[.string ⟨#[]⟩,.string ⟨#[]⟩] 8 (World.laidAll_os _ _ _)
   (World.shaped_of_ZipB (by kernel_rfl) (by kernel_rfl)) (by kernel_rfl) (by kernel_rfl) (by kernel_rfl)
   (by rw [MakeChecks.laidMetH_plain _ _ _ (by kernel_rfl)];exact laidMet_laidAll _ (by kernel_rfl) (by kernel_rfl))) ?_
 intro W base args ds gs before hval0 hW0 hsz hL hsh
 have hval : ∀ (j:Nat) t v,Tryz.f4.params[j]?=some t→args[j]?=some v→Value.okWide Tryz.prog W .any base t v:=hval0
 have hW:=hW0
 obtain ⟨p,q,hA0,_,_,_,_⟩:=hW
 have hA:DataW.TrodAll enc Tryz.prog W 0 (fun _=>true) true Tryz.f4.params.toList args.toList ds p:=hA0
 have hG:GlobW W:=globW hsh hL (by unfold LaidOk;kernel_rfl)
 have hfin : ∀ W',Below W.heap.size W W'→(∃ d,ds=d)→Rows.sourcePartsSpec.fn H ds={ results:=[.lit (.bool true)],args:=ds }→Rows.sourcePartsSpec.post enc Tryz.prog Tryz.f4 false true false false W args (.bool true) W' :=
  fun W' hb _ hs=>law_post laidOut (by kernel_rfl) rfl Tryz.underlying4 rfl hs hW0 hb
 obtain ⟨v0,vs0,d0,ds0,p0,q0,hargs,rfl,rfl,h0,r0⟩:=trodAll_cons hA
 obtain ⟨v1,vs1,d1,ds1,p1,q1,rfl,rfl,rfl,h1,r1⟩:=trodAll_cons r0
 obtain ⟨rfl,rfl,rfl⟩:=trodAll_nil r1
 obtain rfl:args = #[v0,v1]:=by cases args;simp_all
 obtain ⟨s,rfl,rfl,rfl,hs⟩:=ChangeMaps.open_string Tryz.underlying9 (hval 0 9 _ rfl rfl) h0
 obtain ⟨t,rfl,rfl,rfl,ht⟩:=ChangeMaps.open_string Tryz.underlying9 (hval 1 9 _ rfl rfl) h1
 have zs:s.size≤140737488355328:=Nat.le_trans (sized_string hsz (j:=0) (t:=9) rfl rfl) (by decide)
 have zt:t.size≤140737488355328:=Nat.le_trans (sized_string hsz (j:=1) (t:=9) rfl rfl) (by decide)
 have k0:Rep W (g0 W) (sv s) (.string s):=by simp only [Rep]
 have k1:Rep W (g0 W) (sv t) (.string t):=by simp only [Rep]
 refine (law_calls (walk zs zt) hG (repL1 k0 (repL1 k1 repL0))).mono fun e W' ⟨he,hb⟩=>?_
 subst he
 exact ⟨_,rfl,hfin W' hb ⟨_,rfl⟩ rfl⟩
theorem row:Rows.SourcePartsSaid :=
 OpenClaim.holds_of_wide 4 Tryz.f4 rfl rfl rfl rfl rfl rfl rfl ⟨rfl,rfl,rfl,rfl,rfl⟩ rfl rfl rfl rfl rfl (by kernel_rfl) Tryz.func4 (by kernel_rfl)
  (of_decide_eq_true (by kernel_rfl)) (by unfold Func.isWrapper;first | (rw [if_pos (by decide +kernel)];kernel_rfl) | (rw [if_neg (by decide +kernel)];exact ⟨rfl,rfl⟩))
  (fun os started H enc _=>lifted os started H enc)
theorem proved:Rows.SourcePartsCardSaid :=
 Claim7.holds_tied_plain_at .later [] Rows.sourcePartsCard.laidKinds Rows.sourcePartsCard.laidTests Rows.sourcePartsCard.stood.harness Rows.sourcePartsCard.stood.looks
  row (fun _ h=>by cases h) (by kernel_rfl) (fun _ h=>by cases h) sourceParts_row_tie rfl ⟨rfl,rfl⟩ (by kernel_rfl) rfl
  (fun f fn hf hfn=>by
   obtain rfl:f=4:=Option.some.inj ((show Tryz.prog.funcNamed "dateline/datelinelaw.SourceParts" = some 4 by kernel_rfl).symm.trans hf) |>.symm
   obtain rfl:fn=Tryz.f4:=(Option.some.inj (Tryz.func4.symm.trans hfn)).symm
   exact ⟨by kernel_rfl,fun j t ht=>by
    have hm:t∈Tryz.f4.params.toList:=Array.mem_toList_iff.2 (Array.mem_of_getElem? ht)
    have hall:(Tryz.f4.params.toList.all fun u=>!Tryz.prog.wantsStandIn u)=true:=by kernel_rfl
    exact (show Tryz.prog.wantsStandIn t=false by simpa using List.all_eq_true.1 hall t hm)⟩)
  (by kernel_rfl)
end Go.Proofs.YtgjchdhdopgkkaaGreatDoor.sourceParts
end
