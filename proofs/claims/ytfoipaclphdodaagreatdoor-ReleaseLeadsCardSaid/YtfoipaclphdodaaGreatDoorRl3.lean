/-
  Part 3 of the proof: own lemmas and contracts on plain data. No condition beyond those that each lemma states.
-/
import Derived.Test.YtfoipaclphdodaaGreatDoorRl2
import Derived.Shelf.SlSortCmp.WholeK
import Derived.Lib.ReplaceLaws
import Derived.Sort.OwnSorted
import Derived.Lib.RowBridge
set_option linter.all false
set_option maxRecDepth 1000000
set_option maxHeartbeats 4000000
namespace Go.Proofs.YtfoipaclphdodaaGreatDoor
section
open Go.Ab Civ
attribute [local simp] ZbL Zlz ZdH
section
theorem ZrX {a0 a1 a2:AV}{l:List AV}:((a0::a1::a2::l).drop 0).take 3=[a0,a1,a2]:=rfl
theorem Zjg {τ:Operand→AV}{y0 y1:Operand}{x0_0 x1_0 x1_1 x1_2 x1_3 x1_4 x1_5 x1_6 x1_7 x1_8 x1_9 x1_10:AV}(h0:Zao (τ y0)=some [x0_0]) (l0:[x0_0].all leaf=true) (h1:Zao (τ y1)=some [x1_0,x1_1,x1_2,x1_3,x1_4,x1_5,x1_6,x1_7,x1_8,x1_9,x1_10]) (l1:[x1_0,x1_1,x1_2,x1_3,x1_4,x1_5,x1_6,x1_7,x1_8,x1_9,x1_10].all leaf=true):Zak τ [(0,1,y0),(1,11,y1)] [(iv 0),(.v (.string ⟨#[]⟩)),(iv 0),(iv 0),(iv 0),(iv 0),(iv 0),(iv 0),(iv 0),(iv 0),(iv 0),(.v (.string ⟨#[]⟩))]=some [x0_0,x1_0,x1_1,x1_2,x1_3,x1_4,x1_5,x1_6,x1_7,x1_8,x1_9,x1_10]:=by
 simp only[Zak,h0,l0,h1,l1]
 rfl
end
def c240:AC:=(Sr [Oo 2 (.box 168 11 (t 0)),Mb 3 false] (Sr [Fa 4 0 2,Ld 5 4,Ld 6 1,Bn 7 .eql 5 6,Mv 3 7] .ret))
theorem k240:Zaw Tryz.prog 240=some ⟨c240,[(.tmp 3)],8⟩:=by kernel_rfl
def c168:AC:=(Sr [Oo 4 (.box 9 1 (t 1)),Mc 6 0] (.seq (Sr [Mv 10 0,Oo 11 (.len false (t 10)),Bc 12 .gtr 11 40] (Cd 12 (Sr [Mc 6 2] .ret) .skip)) (.seq (Sr [Mv 13 0,Oo 14 (.len false (t 13)),Mc 15 0] (.block 0 (.loop (Sr [Bn 16 .lss 15 14] (.seq (Cd 16 .skip (.exit 0)) (.seq (.block 1 (Sr [Oo 17 (.ia 11 (t 13) (t 15)),Oo 18 (.load true 11 (t 17)),Oo 8 (.new 168 11 [Ss,(iv 0),(iv 0),(iv 0),(iv 0),(iv 0),(iv 0),(iv 0),(iv 0),(iv 0),Ss]),⟨none,none,(.store 11 (t 8) (t 18))⟩] (Sr [Oo 19 (.load true 11 (t 8)),Cl 20 154 [(t 19)],Mv 9 20] (Sr [Mv 21 9,Bc 22 .neq 21 0] (Cd 22 (Sr [Mv 23 9,Mv 6 23] .ret) .skip))))) (.reg [Bc 24 .add 15 1,Mv 15 24]))))))) (.seq (.block 2 (Sr [Mv 26 2,Oo 27 (.bin .lss (t 26) (.const (.int .i64 (-64800)))),Mv 28 27,Of 29 28 (mt 2),Of 30 28 (.bin .gtr (t 29) (Ci 64800)),Oo 31 (.pick (t 28) (.const (.bool true)) (t 30)),Mv 25 31] (Cd 25 (Sr [Mc 6 3] .ret) (Sr [Mv 33 0,Oo 34 (.mkfn 240 [(t 4)]),Cl 35 165 [(t 33),(t 34)],Oo 36 (.un .not (t 35)),Mv 32 36] (Cd 32 (Sr [Mc 6 5] .ret) .skip))))) (Sr [Mc 6 0] .ret)))))
theorem k168:Zaw Tryz.prog 168=some ⟨c168,[(.tmp 6)],37⟩:=by kernel_rfl
def c173:AC:=(Sr [Oo 3 (.box 168 11 (t 0)),Mc 6 0] (.seq (Sr [Fa 7 8 3,Ld 8 7] (.block 0 (Sr [Bc 10 .eql 8 1,Mv 9 10] (Cd 9 (Sr [Mv 11 1,Mv 12 2,Bn 13 .add 11 12,Mv 6 13] .ret) (Sr [Bc 15 .eql 8 2,Mv 14 15] (Cd 14 (Sr [Mv 16 1,Mv 6 16] .ret) .skip)))))) (Sr [Mc 6 0] .ret)))
theorem k173:Zaw Tryz.prog 173=some ⟨c173,[(.tmp 6)],17⟩:=by kernel_rfl
def c169:AC:=(Sr [Oo 2 (.box 50 1 (t 0)),Oo 3 (.box 9 1 (t 1)),Oo 4 (.mv (.const .nilFunc))] (Sr [Oo 5 (.mkfn 241 [(t 2),(t 3)]),Mv 4 5] .ret))
theorem k169:Zaw Tryz.prog 169=some ⟨c169,[(.tmp 4)],6⟩:=by kernel_rfl
def c241:AC:=(Sr [Ld 9 1,Oo 10 (.len false (t 9)),Mc 11 0] (.block 0 (.loop (Sr [Bn 12 .lss 11 10] (.seq (Cd 12 .skip (.exit 0)) (.seq (.block 1 (Sr [Oo 13 (.ia 11 (t 9) (t 11)),Oo 14 (.load true 11 (t 13)),Oo 5 (.new 168 11 [Ss,(iv 0),(iv 0),(iv 0),(iv 0),(iv 0),(iv 0),(iv 0),(iv 0),(iv 0),Ss]),⟨none,none,(.store 11 (t 5) (t 14))⟩] (.seq (Sr [Fa 15 0 5,Ld 16 15,Ld 17 2,Bn 18 .neq 16 17] (Cd 18 (.exit 1) .skip)) (Sr [Fa 19 1 5,Ld 20 19,Mv 6 20] (.block 2 (.loop (.seq (Sr [Mv 21 6,Fa 22 2 5,Ld 23 22,Bn 24 .leq 21 23] (Cd 24 .skip (.exit 2))) (.seq (.block 3 (Sr [Mv 28 6,Fa 29 3 5,Ld 30 29,Fa 31 4 5,Oo 32 (.load true 3 (t 31)),Cl 33 234 [(t 28),(t 30),(t 32)],Mv 27 33,Ex 34 27 0,Ex 35 27 1,Oo 7 (.new 79 3 [(iv 0),(iv 0),(iv 0)]),⟨none,none,(.store 3 (t 7) (t 34))⟩,Mv 8 35] (.seq (.drw [Mv 36 0,Oo 37 (.load true 3 (t 7)),Cl 38 143 [(t 37)],Bc 39 .mul 38 86400,Fa 40 7 5,Ld 41 40,Bn 42 .add 39 41,Oo 43 (.load true 11 (t 5)),Oo 44 (.build [(iv 0),Ss,(iv 0),(iv 0),(iv 0),(iv 0),(iv 0),(iv 0),(iv 0),(iv 0),(iv 0),Ss] [(0,(1,(t 42))),(1,(11,(t 43)))])] [false,false] [Oo 45 (.call (t 36) [(t 44)]),Oo 46 (.un .not (t 45))]) (Cd 46 .ret .skip)))) (.reg [Mv 25 6,Bc 26 .add 25 1,Mv 6 26]))))))))) (.reg [Bc 47 .add 11 1,Mv 11 47])))))))
theorem k241:Zaw Tryz.prog 241=some ⟨c241,[],48⟩:=by kernel_rfl
def okRs (l:List Rul):Prop := ∀ r∈l,r.1.size≤maxLen∧r.2.2.2.2.2.2.2.2.size≤maxLen
theorem ready1_a {nm:ByteArray}{r:Rul}{h:AH}:Ac 240 [.agg (rulC r),.rp [sv nm]] h (bv (decide (r.1=nm))):=by
 obtain⟨n,f,t,m,⟨k,w,d⟩,a,c,s,lt⟩:=r
 refine tI' k240 fun N hn _ _ hbd=>?_
 simp only[tb'] at hbd ⊢
 refine wr'<|E' (ZaR cv rfl hl0 ha0) pt<|ms<|wr'<|fq<|Vw (Zaa lk gx gt0)<|Vw (Zax lk gt)<|Vw (ZfX lk lk)<|mw<|Zam<|?_
 exact Zan<|Zbe<|Zae rz<|rT' rfl
theorem ready_a {l:List Rul}{nm:ByteArray}{sh:Int}{h:AH}(hok:okRs l) (hl:l.length≤9223372036854775807):Ac 168 [.sl l.length 11 false (rows rulC l),sv nm,iv sh] h (iv (Zdj l nm sh)):=by
 have hll:=hl
 refine tI' k168 fun N hn hlt _ hbd=>?_
 simp only[tb'] at hbd ⊢
 refine wr'<|E' (ZaR cv rfl hl0 ha0) pt<|mw<|Zam<|?_
 refine ZaP (ALe.icePtr gx gt4 (by simp) pt4 hs0) ?_
 refine Zac<|wm<|Vw (ZaA lk)<|Vw (ZbE lk lki)<|sn'<|?_
 refine cd' lk (fun hc1=>?_) (fun hc1=>?_)
 ·have hR:Zdj l nm sh=2:=if_pos om
  refine wo<|Zah<|Zae rz<|rT'<|?_
  rw[hR]
 have hR:Zdj l nm sh=if Zbc Zbo l≠0 then Zbc Zbo l else if sh < -64800∨sh>64800 then 3 else if l.any (fun r=>decide (r.1=nm))=false then 5 else 0:=if_neg om
 refine za<|Zac<|wm<|Vw (ZaA lk)<|ms<|Zaf<|?_
 refine w_lp (ι:=Nat) (fun (k:Nat)=>[(15,iv (k:Int)),(6,.any),(8,.any),(9,.any)]++rn' 16 9) (fun (k:Nat)=>[]) (fun (k:Nat)=>k≤l.length∧Zbc Zbo l=Zbc Zbo (l.drop k)) (fun (k:Nat)=>l.length-k) (0) (by exact⟨Nat.zero_le _,rfl⟩) ?_
 rintro k hi1
 try simp only[sm',Nat.reduceAdd]
 obtain⟨hk1,hk2⟩:=hi1
 refine wr'<|Vw (ZaO lk lk)<|sn'<|Zac<|?_
 refine cd' lk (fun hc2=>?_) (fun hc2=>?_)
 ·have hk:k<l.length:=by omega
  have ho:=hok _ (List.getElem_mem hk)
  rw[ZdC hk] at hk2
  refine za<|Zac<|Zaf<|wr'<|?_
  refine V' (ZaJ lk lk Zcq nb ro om ro rfl) pt ?_
  refine Vw (Zas lk Zkh rfl)<|E' (ZaV hl1 ha1) pt<|E' (Zai lk cv gx rfl nb rfl ZiU hs1) ptn<|sn'<|wr'<|Vw (Zag lk gx ZiT rfl)<|Zad mp (rule_b ho.1 ho.2) pt<|ms<|wr'<|?_
  refine mw<|Vw (Zba lk lki)<|sn'<|?_
  refine cd' lk (fun hc3=>?_) (fun hc3=>?_)
  ·have hc3':Zbo l[k]≠0:=hc3
   rw[if_pos hc3'] at hk2
   rw[if_pos (by rw[hk2];exact hc3'),hk2] at hR
   refine wm<|mr<|Zaq<|Zah<|Zah<|Zaq<|Zah<|Zae rz<|rT'<|?_
   rw[hR]
  have hc3':¬Zbo l[k]≠0:=hc3
  rw[if_neg hc3'] at hk2
  refine ZaB<|Zau<|Zan<|Zap<|?_
  refine ad<|mw<|Zam<|Zaz<|?_
  refine lU' (k+1) (by (try dsimp only);exact⟨by omega,hk2⟩) (by refine zz ?_;exact bk' 1 hn hlt)
 rw[List.drop_of_length_le om] at hk2
 rw[if_neg (by rw[hk2];simp[Zbc])] at hR
 refine Zay<|Zar<|Zar<|ZaN<|Zan<|Zac<|Zaf<|wm<|Vw (ZaO lk lki)<|mw<|?_
 refine sp' (t:=28) gt pt pt (fun hg28=>?_) (fun hg28=>?_)
 ·rw[if_pos (.inl om)] at hR
  refine so<|so<|Vw (Zal lk lkb)<|ms<|Zbb lk<|wo<|Zaq<|?_
  refine Zah<|Zae rz<|rT'<|?_
  rw[hR]
 refine sd<|mw<|sd<|Vw (ZbE lk lki)<|Vw (Zaj lk lk)<|ms<|?_
 refine cd' lk (fun hc4=>?_) (fun hc4=>?_)
 ·rw[if_pos (.inr om)] at hR
  refine wo<|Zaq<|Zah<|Zae rz<|rT'<|?_
  rw[hR]
 rw[if_neg om] at hR
 refine wm<|Vw (Zhf mp)<|?_
 refine Zad mp (Zmi (p:=fun r=>decide (r.1=nm)) (fun c _ _=>ready1_a) hll) pt ?_
 refine Vw (ZaE lk)<|ms<|?_
 refine Zav lk (fun hc5=>?_) (fun hc5=>?_)
 ·rw[if_pos (by simpa using hc5)] at hR
  refine wo<|Zaq<|Zah<|Zae rz<|rT'<|?_
  rw[hR]
 rw[if_neg (by simpa using hc5)] at hR
 refine ZaB<|Zau<|Zan<|wo<|Zae rz<|rT'<|?_
 rw[hR]
theorem off_a {r:Rul}{sh sa:Int}{h:AH}(h1 : -64800≤sh∧sh≤64800) (h2:0≤sa∧sa≤10800):Ac 173 [.agg (rulC r),iv sh,iv sa] h (iv (offV r sh sa)):=by
 obtain⟨n,f,t,m,⟨k,w,d⟩,a,c,s,lt⟩:=r
 refine tI' k173 fun N hn _ _ hbd=>?_
 simp only[tb'] at hbd ⊢
 refine wr'<|E' (ZaR cv rfl hl0 ha0) pt<|ms<|Zac<|wr'<|fq<|Vw (Zaa lk gx gt8)<|sn'<|Zaf<|?_
 refine wr'<|Vw (Za7 lk lki)<|ms<|?_
 refine cd' lk (fun hc1=>?_) (fun hc1=>?_)
 ·refine wm<|mw<|?_
  refine V' (ZbM lk lk om om) pt ?_
  refine mr<|Zaq<|Zah<|Zae rz<|rT'<|?_
  refine ivx ?_;unfold offV;rw[if_pos (by assumption)]
 refine wr'<|Vw (Za7 lk lki)<|ms<|?_
 refine cd' lk (fun hc2=>?_) (fun hc2=>?_)
 ·refine wm<|mr<|Zaq<|Zah<|Zae rz<|rT'<|?_
  refine ivx ?_;unfold offV;rw[if_neg (by assumption),if_pos (by assumption)]
 refine ZaB<|Zau<|Zan<|wo<|Zae rz<|rT'<|?_
 refine ivx ?_;unfold offV;rw[if_neg (by assumption),if_neg (by assumption)]
theorem turns_a {l:List Rul}{nm:ByteArray}{h:AH}:Ac 169 [.sl l.length 11 false (rows rulC l),sv nm] h (.clo (.func 241) [.rp [.sl l.length 11 false (rows rulC l)],.rp [sv nm]]):=by
 refine tI' k169 fun N hn _ _ hbd=>?_
 simp only[tb'] at hbd ⊢
 refine wr'<|E' (ZaR cv rfl hl0 ha0) pt<|E' (ZaR cv rfl hl1 ha1) pt<|mv' rfl pt<|Zam<|?_
 refine ZaP (ALe.trans (ALe.icePtr gx gt2 (by simp) pt2 hs0) (ALe.icePtr gx gt3 (by simp) pt3 hs1)) ?_
 exact wr'<|Vw (Zhf mp)<|mr<|Zae rz<|rT' rfl
theorem on_r {r:Rul}{y:Int}{h:AH}(hr:Zbo r=0) (hy:1900≤y∧y≤2100):Ac 234 [iv y,iv r.2.2.2.1,.agg [iv r.2.2.2.2.1.1,iv r.2.2.2.2.1.2.1,iv r.2.2.2.2.1.2.2]] h (.tup [.agg [iv (Zbg (rDy r y)).1,iv (Zbg (rDy r y)).2.1,iv (Zbg (rDy r y)).2.2],iv 0]):=by
 have:=on_a (y:=y) (m:=r.2.2.2.1) (k:=r.2.2.2.2.1.1) (wk:=r.2.2.2.2.1.2.1) (n:=r.2.2.2.2.1.2.2) (h:=h)
 rw[(Zh9 hr hy).1] at this
 exact this
theorem num_r {k:Int}{h:AH}(hk : -30000≤k∧k≤50000):Ac 143 [.agg [iv (Zbg k).1,iv (Zbg k).2.1,iv (Zbg k).2.2]] h (iv k):=by
 obtain⟨h1,h2⟩:=ZfL (days:=k) om om
 have hd:=ZbQ.1 h1
 have hm:=Zdc (Zbg k).1 (Zbg k).2.1
 have:=ZhL (y:=(Zbg k).1) (m:=(Zbg k).2.1) (d:=(Zbg k).2.2) (h:=h) om om om om om om
 rwa [h2] at this
theorem Znb {r:Rul}{j:Nat}(hj:(j:Int)<r.2.2.1+1-r.2.1):(ZcK r).take (j+1)=(ZcK r).take j++[(Zdi r (r.2.1+(j:Int)),r)]:=by
 have hl:j<(ZcK r).length:=by unfold ZcK;rw[List.length_map,ZcA];show j<(r.2.2.1+1-r.2.1).toNat;omega
 rw[List.take_succ_eq_append_getElem hl]
 congr 2
 simp[ZcK,ZbI]
theorem Zna {l:List Rul}{nm:ByteArray}{k:Nat}(hk:k<l.length) (hn:l[k].1=nm) : ∃ m,Za9 l nm=Za9 (l.take k) nm++(ZcK l[k]++m):=by
 refine⟨Za9 (l.drop (k+1)) nm,?_⟩
 have e:l=l.take k++l[k]::l.drop (k+1):=by rw[←List.drop_eq_getElem_cons hk,List.take_append_drop]
 have:Za9 l nm=Za9 (l.take k++l[k]::l.drop (k+1)) nm:=by rw[←e]
 rw[this]
 unfold Za9
 rw[List.flatMap_append,List.flatMap_cons,if_pos hn]
theorem turns1_a {l:List Rul}{nm:ByteArray}{lp M0:Nat}{H:List Trn→AH}(hok : ∀ r∈l,Zbo r=0) (hz:l.length≤40) (hH : ∀ d,(H d).length=M0) (hHlt : ∀ d,∀ e∈H d,e.lt M0=true)
  (hY : ∀ (d:List Trn) (t:Trn) (e f:Ent),d.length<(Za9 l nm).length→AYield Tryz.prog lp [.agg (trnC t)] (H d++[e,f]) fun r h''=>r=.ret (.v (.bool true))∧h''=H (d++[t])++[e,f]) :
  ACalls Tryz.prog 241 [.v (.func (.yield lp) #[] #[]),.rp [.sl l.length 11 false (rows rulC l)],.rp [sv nm]] (H []) fun x h'=>x=.ret (.tup [])∧h'=H (Za9 l nm):=by
 refine tJ' k241 fun N hn _ _ hbd=>?_
 simp only[tb'] at hbd ⊢
 have hMN:M0=N:=(hH []).symm.trans hn
 simp only[hMN] at hH hHlt
 refine wr'<|Vw (Zax lk gt)<|Vw (ZaA lk)<|ms<|Zaf<|?_
 refine ZgD (ι:=Nat) (fun (k:Nat)=>[(11,iv (k:Int))]++rn' 5 4++rn' 12 36) (fun (k:Nat)=>H (Za9 (l.take k) nm)++[]) (fun (k:Nat)=>k≤l.length) (fun (k:Nat)=>l.length-k) (0) (by exact Nat.zero_le _) (by try simp only[sm',Nat.reduceAdd];exact ALe.same wA' rfl) ?_
 rintro k hi1
 try simp only[sm',Nat.reduceAdd]
 replace hi1:k≤l.length:=hi1
 refine wr'<|Vw (ZaO lk lk)<|sn'<|Zac<|?_
 refine cd' lk (fun hc1=>?_) (fun hc1=>?_)
 ·have hk:k<l.length:=by omega
  have hr:=hok _ (List.getElem_mem hk)
  obtain⟨hr1,hr2,hr3⟩:1900≤l[k].2.1∧l[k].2.1≤l[k].2.2.1∧l[k].2.2.1≤2100:=⟨(ZbA hr).1,(ZbA hr).2.1,(ZbA hr).2.2.1⟩
  obtain⟨hr4,hr5⟩:(ZcK l[k]).length≤201∧((ZcK l[k]).length:Int)=l[k].2.2.1-l[k].2.1+1:=ZgF hr
  refine za<|Zac<|Zaf<|wr'<|?_
  refine V' (ZaJ lk lk Zcq nb ro om ro rfl) pt ?_
  refine Vw (Zas lk Zkh rfl)<|E' (ZaV (hl0 (hH _)) ha0) pt<|E' (Zai lk cv (hga (hH _) rfl) rfl nb rfl ZiU (hs0 (hH _))) ptn<|sn'<|Zac<|wr'<|fq<|Vw (Zaa lk (hga (hH _) rfl) gt0)<|Vw (Zax lk gt)<|Vw (ZeC lk lk)<|sn'<|?_
  refine cd' lk (fun hc2=>?_) (fun hc2=>?_)
  ·refine Zay<|Zar<|ZaN<|Zan<|Zap<|?_
   refine ad<|mw<|Zam<|Zaz<|?_
   refine lU' (k+1) (by (try dsimp only);omega) (by refine zz ?_;exact ALe.trans (ALe.back wA' rfl (E1:=[]) (k:=N+0) (by simp only[List.length_cons,List.length_nil,(hH _)]) om (by exact lt') (ltw om (hHlt _)) (by rfl)) (ALe.same (WkL.refl _) (by rw[Zjt hk,if_neg hc2,List.append_nil (Za9 _ _)])))
  have hnm:l[k].1=nm:=Decidable.of_not_not hc2
  obtain⟨mm,hmm⟩:=Zna hk hnm
  refine za<|wr'<|fq<|Vw (Zaa lk (hga (hH _) rfl) gt1)<|ms<|Zaf<|?_
  refine ZgD (ι:=Nat) (fun (j:Nat)=>[(6,iv (l[k].2.1+(j:Int))),(7,.any),(8,.any)]++rn' 21 26) (fun (j:Nat)=>H (Za9 (l.take k) nm++(ZcK l[k]).take j)++[Ent.mk 0 168 11 (rulC l[k])]) (fun (j:Nat)=>(j:Int)≤l[k].2.2.1-l[k].2.1+1) (fun (j:Nat)=>(ZcK l[k]).length-j) (0) (by show (0:Int)≤_;omega) (by try simp only[sm',Nat.reduceAdd];exact ALe.same wA' (by rw[List.take_zero,List.append_nil])) ?_
  rintro j hi2
  try simp only[sm',Nat.reduceAdd]
  replace hi2:(j:Int)≤l[k].2.2.1-l[k].2.1+1:=hi2
  refine Zac<|wm<|fq<|Vw (Zaa lk (hga (hH _) rfl) gt2)<|Vw (ZdF lk lk)<|sn'<|?_
  refine cd' lk (fun hc3=>?_) (fun hc3=>?_)
  ·have hy:1900≤l[k].2.1+(j:Int)∧l[k].2.1+(j:Int)≤2100:=by omega
   obtain⟨hd1,hd2⟩:=Zh9 hr hy
   have ha6:0≤l[k].2.2.2.2.2.1∧l[k].2.2.2.2.2.1≤172800:=(ZbA hr).2.2.2.2.2.1
   have hd3 : -30000≤rDy l[k] (l[k].2.1+(j:Int))∧rDy l[k] (l[k].2.1+(j:Int))≤50000:=hd2
   refine za<|Zac<|Zaf<|wm<|fq<|Vw (Zaa lk (hga (hH _) rfl) gt3)<|fq<|Vw (Zag lk (hga (hH _) rfl) ZrW rfl)<|Zad mp (on_r hr hy) pt<|mw<|Vw (ZaQ lk gt)<|?_
   refine Vw (ZaQ lk gt)<|E' (ZaV (hl1 (hH _)) ha1) pt<|E' (Zai lk cv (hga (hH _) rfl) rfl nb rfl ZrY (hs1 (hH _))) ptn<|ms<|Zac<|ZsH []<|Dw vm<|Dw (Zag lk (hga (hH _) rfl) ZrX rfl)<|?_
   refine ZaC mp (fun hE hX=>num_r hd2) pt ?_
   refine D' (ZfB lk lki om om) pt ?_
   refine dg<|Dw (Zaa lk (hga (hH _) rfl) gt7)<|?_
   refine D' (ZbM lk lk om om) pt ?_
   refine Dw (Zag lk (hga (hH _) rfl) ZiT rfl)<|Dw (Zat (Zjg cv rfl cv rfl))<|ZaM<|ZnM<|?_
   refine k_callY lk mp (hY _ (Zdi l[k] (l[k].2.1+(j:Int)),l[k]) _ _ (by rw[hmm,List.length_append,List.length_append,List.length_append,List.length_take];omega)) (by intro i hi;simp at hi) pt ?_
   refine k_val rfl (ZaE lk) pt<|k_nil<|Zan<|Za8 lk<|ZaB<|Zau<|Zan<|Zap<|mw<|?_
   refine ad<|mw<|Zam<|Zaz<|?_
   refine lU' (j+1) (by (try dsimp only);omega) (by refine zz ?_;exact ALe.trans (ALe.back wA' rfl (E1:=[Ent.mk 0 168 11 (rulC l[k])]) (k:=N+1) (by simp only[List.length_cons,List.length_nil,(hH _)]) om (by exact lt') (ltw om (hHlt _)) (by exact lt')) (ALe.same (WkL.refl _) (by rw[Znb om,List.append_assoc])))
  refine Zay<|Zar<|Zar<|ZaN<|Zau<|Zan<|Zap<|?_
  refine ad<|mw<|Zam<|Zaz<|?_
  refine lU' (k+1) (by (try dsimp only);omega) (by refine zz ?_;exact ALe.trans (ALe.back wA' rfl (E1:=[]) (k:=N+0) (by simp only[List.length_cons,List.length_nil,(hH _)]) om (by exact lt') (ltw om (hHlt _)) (by rfl)) (ALe.same (WkL.refl _) (by rw[Zjt hk,if_pos hnm,List.take_of_length_le (l:=ZcK l[k]) om])))
 refine Zay<|Zar<|Zar<|ZaN<|w_end (rs0)<|?_
 exact⟨_,_,rfl,hH _,hHlt _,rfl,rfl,by rw[List.take_of_length_le om]⟩
end
end Go.Proofs.YtfoipaclphdodaaGreatDoor
namespace Go.Ab
section
open Go.RowKit Go.Sort
section
variable {P : Program}
theorem Znv (w:World) (g:Gh) : ∀ {vs us:List Value},RepL w g (vs.map .v) us↔us=vs
 | [],us=>by simp only[List.map_nil,RepL]
 | v::vs,us=>by
  simp only[List.map_cons,RepL,Rep,Znv w g (vs:=vs)]
  constructor
  ·rintro⟨u,us',rfl,rfl,rfl⟩;rfl
  ·rintro rfl;exact⟨_,_,rfl,rfl,rfl⟩
theorem ACalls.of_turn {f:FuncId}{args:List AV}{h:AH}{id ver ty st:Nat}{cells:List AV}{R':List AV→Prop}(he:enters P f=true) (hi:h[id]?=some (.mk ver ty st cells)) (hne:cells≠[])
  (hc : ∀ w g (vs:Array Value) b cap arr,SimH w g h→RepL w g args vs.toList→g.loc id ver=some (some ⟨b,0,none⟩,cap)→w.heap[b]?=some (.cells arr ty (0,0))→arr.size=cap*st→cells.length≤arr.size→RepL w g cells (arr.toList.take cells.length) →
   Calls P f vs w fun e w'=>e=.returned (.tuple #[]) ∧ ∃ (vs':List Value) (arr':Array Value),R' (vs'.map .v)∧w'.heap[b]?=some (.cells arr' ty (0,0))∧arr'.size=arr.size∧vs'.length=cells.length∧arr'.toList.take cells.length=vs' ∧
    w'.os=w.os∧w'.tape=w.tape∧w'.output=w.output∧w.heap.size≤w'.heap.size ∧ ∀ k,k<w.heap.size→k≠b→w'.heap[k]?=w.heap[k]?) :
  ACalls P f args h fun x h'=>x=.ret (.tup []) ∧ ∃ cells',R' cells'∧h'=h.set id (.mk ver ty st cells'):=by
 refine⟨he,fun w g vs hs ha=>?_⟩
 obtain⟨A,cap,f1,fm,f3⟩:=hs.ent _ _ _ _ _ hi
 rcases f3 with ⟨e,_⟩ | ⟨b,arr,rfl,hc0,hd,hb,hsz,hle,hrl⟩
 ·exact absurd e hne
 have hid:id<h.length:=(List.getElem?_eq_some_iff.1 hi).1
 have how:OwAt g h id b:=⟨ver,ty,st,cells,_,cap,hi,f1,hc0,rfl⟩
 refine (hc w g vs b cap arr hs ha f1 hb hsz hle hrl).mono ?_
 rintro e w' ⟨rfl,vs',arr',hR,h1,h2,h3,h4,h5,h6,h7,h8,h9⟩
 have hother : ∀ j,g.D j∨(∃ i,i≠id∧OwAt g h i j)∨(∃ i,RwAt h i j)→w'.heap[j]?=w.heap[j]?:=by
  rintro j (hj | ⟨i,hne',hj⟩ | ⟨i,hj⟩)
  rotate_left 2
  ·exact h9 j (hs.own_not_D (.inr ⟨i,hj⟩)).2 (fun e=>by subst e;exact hs.own_ne_raw how hj)
  ·exact h9 j (hs.lt j hj) (fun e=>hd (e ▸ hj))
  ·exact h9 j (hs.own_not_D (.inl ⟨i,hj⟩)).2 (fun e=>hne' (hs.inj i id j hj (e ▸ how)))
 obtain⟨k1,k2,k3⟩:=hs.put (w':=w') (g':=g) (h':=h.set id (.mk ver ty st (vs'.map .v))) id ver ty st (vs'.map .v) (some ⟨b,0,none⟩) cap
  (fun i hne'=>by rw[List.getElem?_set_ne (Ne.symm hne')]) (by rw[List.getElem?_set_self hid]) (by simp) rfl (fun _ _ _ h=>h) (fun _ _ _ h=>.inl h) f1 (fun v l hv=>(hs.fresh _ _ _ hv).2 _ _ _ _ hi) hother h8 fm
  (.inr ⟨b,arr',rfl,hc0,hd,h1,by rw[h2,hsz],by rw[List.length_map,h3,h2];exact hle,by rw[List.length_map,h3,h4];exact (Znv w' g).2 rfl⟩)
  (fun j hj _ i hne' ho=>by
   simp at hj
   subst hj
   exact hne' (hs.inj i id _ ho how)) (fun k hk _ _=>by simp at hk;subst hk;exact .inl ⟨id,how⟩)
 refine⟨.ret (.tup []),_,g,?_,k1,k2,⟨h5,h6,h7,h8,fun k hk hn=>h9 k hk (fun e=>hn (.inl ⟨id,e ▸ how⟩))⟩,fun k hk=>?_,rfl,_,hR,rfl⟩
 ·simp only[EndR,Rep];exact⟨#[],rfl,by simp only[RepL]⟩
 ·rcases k3 k hk with ho | ⟨ho,_⟩
  ·exact .inl ho
  ·simp at ho;subst ho;exact .inl (.inl ⟨id,how⟩)
end
section
variable {P : Program} {α : Type}
theorem ZuB {enc:α→List Value}{k:Nat}(hk : ∀ x,(enc x).length=k) : ∀ (l:List α) (i j:Nat) (h:i<l.length),j<k→(l.flatMap enc)[i*k+j]?=(enc l[i])[j]?
 | [],i,j,h,_=>by simp at h
 | x::l,0,j,h,hj=>by
  rw[List.flatMap_cons,Nat.zero_mul,Nat.zero_add,List.getElem?_append_left (by rw[hk];exact hj)];rfl
 | x::l,i+1,j,h,hj=>by
  have ih:=ZuB hk l i j (by simpa using h) hj
  rw[List.flatMap_cons,List.getElem?_append_right (by rw[hk,Nat.succ_mul];omega),hk,show (i+1)*k+j-k=i*k+j by rw[Nat.succ_mul];omega,ih];rfl
theorem ZcM {enc:α→List Value}{k:Nat}(hk : ∀ x,(enc x).length=k) : ∀ (l:List α),(l.flatMap enc).length=l.length*k
 | []=>by simp
 | x::l=>by rw[List.flatMap_cons,List.length_append,hk,ZcM hk l,List.length_cons,Nat.succ_mul];omega
theorem Zfc [Inhabited α] {enc:α→List Value}{k:Nat}(hk0:0<k) (hk : ∀ x,(enc x).length=k) (d:Array α):(Go.Sort.flatK enc k d).toList=d.toList.flatMap enc:=by
 apply List.ext_getElem?
 intro t
 by_cases ht:t<d.size*k
 ·have h1:t/k<d.size:=Nat.div_lt_of_lt_mul (by rw[Nat.mul_comm];exact ht)
  have h2:t%k<k:=Nat.mod_lt _ hk0
  have h3:=ZuB hk d.toList (t/k) (t%k) (by simpa using h1) h2
  rw[Nat.mul_comm (t/k) k,Nat.div_add_mod] at h3
  rw[h3]
  have hs:t<(Go.Sort.flatK enc k d).size:=by simpa using ht
  have h4:=Go.Sort.get_flatK enc k d t ht
  rw[getElem!_pos _ t hs,getElem!_pos _ (t/k) h1,getElem!_pos _ (t%k) (by rw[hk];exact h2)] at h4
  rw[Array.getElem?_toList,Array.getElem?_eq_getElem hs,h4,Array.getElem_toList,List.getElem?_eq_getElem (by rw[hk];exact h2)]
  rfl
 ·rw[List.getElem?_eq_none (by simpa using ht),List.getElem?_eq_none (by rw[ZcM hk];simpa using ht)]
theorem rows_v {enc:α→List Value}(l:List α):rows (fun x=>(enc x).map .v) l=(l.flatMap enc).map .v:=by
 unfold rows
 rw[List.map_flatMap]
theorem sort_a [Inhabited α] {ρ:Go.Shelf.Ren}(L:Go.Proofs.SlLaysF0.n6 P ρ) {k:Nat}(hk0:0<k) (aE : ∀ w,(isAgg (ρ.t 24)).run P w=.ok true w) (zE : ∀ w,(Go.sizeOf (ρ.t 24)).run P w=.ok k w) {enc:α→List Value}(hk : ∀ x,(enc x).length=k) (h1 : ∀ x,∀ v∈enc x,v.oneCell'=true) {cf:α→α→Int}(hO:SWO (Go.Proofs.ltOf cf)) {g0:Nat}
  (eg : ∀ args w,(callFunc g0 args).run P w=.ok (.enter g0 args) w) (hcmp : ∀ blk off size w,Go.Proofs.CmpLays P g0 #[] enc k cf blk off size w) {h:AH} {id ver ty:Nat} {l:List α} (hi:h[id]?=some (.mk ver ty k (rows (fun x=>(enc x).map .v) l))) (hl:l≠[]) (hz:l.length<4611686018427387904) (he:enters P (ρ.f 6)=true) :
  ACalls P (ρ.f 6) [.own id ver l.length,.v (.func (.func g0) #[] #[])] h fun x h'=>x=.ret (.tup []) ∧ ∃ l':List α,l'.Perm l∧(∀ i j (hi:i<l'.length) (hj:j<l'.length),i<j→Go.Proofs.ltOf cf l'[j] l'[i]=false)∧h'=h.set id (.mk ver ty k (rows (fun x=>(enc x).map .v) l')):=by
 have hlen:=Zbk (f:=fun x=>(enc x).map .v) (st:=k) (fun x=>by rw[List.length_map,hk]) l
 have hpos:0<l.length:=List.length_pos_iff.2 hl
 refine (ACalls.of_turn (R':=fun cs => ∃ l':List α,l'.Perm l∧(∀ i j (hi:i<l'.length) (hj:j<l'.length),i<j→Go.Proofs.ltOf cf l'[j] l'[i]=false)∧cs=rows (fun x=>(enc x).map .v) l') he hi ?_ ?_).mono ?_
 ·intro e
  have:=congrArg List.length e
  rw[hlen] at this
  have h0:0<l.length*k:=Nat.mul_pos hpos hk0
  simp at this;omega
 ·intro w g vs b cap arr hs ha hloc hb hsz hle hr
  simp only[RepL,Rep,hloc] at ha
  obtain⟨u1,us1,e1,⟨A,c,e2,hn1,hn2,rfl⟩,u2,us2,rfl,rfl,rfl⟩:=ha
  simp only[Option.some.injEq,Prod.mk.injEq] at e2
  obtain⟨rfl,rfl⟩:=e2
  obtain rfl:vs = #[.slice (some ⟨b,0,none⟩) l.length cap,.func (.func g0) #[] #[]]:=by cases vs;simp_all
  have hr':arr.toList.take (l.length*k)=l.flatMap enc:=by
   rw[hlen,rows_v] at hr
   exact (Znv w g).1 hr
  have hblk:b<w.heap.size:=(Array.getElem?_eq_some_iff.1 hb).1
  have hflat:=Zfc hk0 hk l.toArray
  have hgetF : ∀ (d:Array α) (t:Nat),t<d.size*k→(Go.Sort.flatK enc k d).toList[t]?=some (Go.Sort.flatK enc k d)[t]!:=by
   intro d t ht
   have hs:t<(Go.Sort.flatK enc k d).size:=by simpa using ht
   rw[getElem!_pos _ t hs,Array.getElem?_toList,Array.getElem?_eq_getElem hs]
  have hH:Go.Sort.HoldsK enc k w b 0 l.toArray:=by
   intro j hj
   have hj':j<l.length*k:=by simpa using hj
   rw[Nat.zero_add]
   refine⟨?_,frozen_of_row w b j arr ty hb⟩
   rw[cell_of_row w b j arr ty (0,0) hb,←Array.getElem?_toList]
   have h5:arr.toList[j]?=(l.flatMap enc)[j]?:=by rw[←hr',List.getElem?_take_of_lt hj']
   rw[h5,show l.flatMap enc=(Go.Sort.flatK enc k l.toArray).toList from hflat.symm,hgetF _ _ (by simpa using hj')];rfl
  refine (Go.Proofs.AnyQ.slices_SortFunc L k aE zE enc hk h1 cf hO g0 #[] b 0 cap l.toArray w eg (hcmp b 0 l.toArray.size w) hH hblk (by simpa using hz)).mono ?_
  rintro e w' ⟨rfl,d',n,os,⟨p1,_,p3⟩,hso,rfl⟩
  have hds:d'.size=l.length:=by simpa using p1
  have hw' : ∀ j,j<w.heap.size→(Go.Proofs.sortWorldK enc k w b 0 n d' os).heap[j]?=(w.heap.modify b (onCells (putCells _root_.id 0 (Go.Sort.flatK enc k d'))))[j]?:=by
   intro j hj
   show ((w.heap.modify b (onCells (putCells _root_.id 0 (Go.Sort.flatK enc k d'))))++os)[j]?=_
   rw[Array.getElem?_append_left (by simpa using hj)]
  have hsz2:arr.size=(putCells _root_.id 0 (Go.Sort.flatK enc k d') arr).size:=by simp[putCells]
  refine⟨rfl,d'.toList.flatMap enc,putCells _root_.id 0 (Go.Sort.flatK enc k d') arr,⟨d'.toList,?_,?_,(rows_v _).symm⟩,?_,hsz2.symm,?_,?_,rfl,rfl,rfl,?_,?_⟩
  ·have e1:d'.extract 0 l.toArray.size=d':=by rw[←p1];simp
   have e2:l.toArray.extract 0 l.toArray.size=l.toArray:=by simp
   rw[e1,e2] at p3
   simpa using p3
  ·intro i j hi hj hij
   have:=hso i j (Nat.zero_le _) hij (by simpa [hds] using hj)
   rw[getElem!_pos d' j (by simpa using hj),getElem!_pos d' i (by simpa using hi)] at this
   simpa using this
  ·rw[hw' b hblk,Array.getElem?_modify,if_pos rfl,hb];rfl
  ·rw[ZcM hk,hlen,Array.length_toList,hds]
  ·rw[hlen]
   apply List.ext_getElem?
   intro t
   by_cases ht:t<l.length*k
   ·have ht2:t<d'.size*k:=by rw[hds];exact ht
    have hta:t<arr.size:=by rw[hlen] at hle;omega
    rw[List.getElem?_take_of_lt ht,←Zfc hk0 hk d',hgetF d' t ht2]
    unfold putCells
    rw[Array.getElem?_toList,Array.getElem?_mapIdx,Array.getElem?_eq_getElem hta,Option.map_some,if_pos ⟨Nat.zero_le _,by simpa using ht2⟩]
    rfl
   ·rw[List.getElem?_eq_none (by simp;omega),List.getElem?_eq_none (by rw[ZcM hk,Array.length_toList,hds];omega)]
  ·show w.heap.size≤((w.heap.modify b (onCells (putCells _root_.id 0 (Go.Sort.flatK enc k d'))))++os).size
   simp
  ·intro j hj hjb
   rw[hw' j hj,Array.getElem?_modify,if_neg (Ne.symm hjb)]
 ·rintro x h' ⟨rfl,cs,⟨l',hp,hs,rfl⟩,rfl⟩
  exact⟨rfl,l',hp,hs,rfl⟩
end
end
end Go.Ab
namespace Go.Proofs
section
open Go.Shelf
def Tryz.sl9z_ren:Go.Shelf.Ren:=⟨fun | 6=>48 | 15=>100 | 14=>99 | 28=>183 | 29=>184 | 20=>175 | 21=>176 | 22=>177 | 23=>178 | 24=>179 | 25=>180 | 26=>181 | 27=>182 | 46=>244 | 47=>245 | 48=>246 | 49=>247 | 50=>248 | 57=>301 | n=>n,fun | 22=>51 | 24=>94 | 25=>100 | 3=>3 | 39=>154 | 0=>0 | 53=>250 | 55=>252 | 4=>4 | 46=>244 | 45=>243 | 50=>108 | 5=>5 | 9=>9 | 66=>292 | 70=>296 | 76=>326 | 77=>284 | n=>n,fun | n=>n⟩
theorem Tryz.sl9z:Go.Proofs.SlLaysF0.n6 Tryz.prog Tryz.sl9z_ren:={
 mixed:=by kernel_rfl
 f6:=⟨Tryz.f48.name,by decide,Tryz.func48.trans (congrArg some (by kernel_rfl))⟩
 f14:=⟨Tryz.f99.name,by decide,Tryz.func99.trans (congrArg some (by kernel_rfl))⟩
 f15:=Tryz.func100.trans (congrArg some (by kernel_rfl))
 f20:=⟨Tryz.f175.name,by decide,Tryz.func175.trans (congrArg some (by kernel_rfl))⟩
 f21:=⟨Tryz.f176.name,by decide,Tryz.func176.trans (congrArg some (by kernel_rfl))⟩
 f22:=⟨Tryz.f177.name,by decide,Tryz.func177.trans (congrArg some (by kernel_rfl))⟩
 f23:=⟨Tryz.f178.name,by decide,Tryz.func178.trans (congrArg some (by kernel_rfl))⟩
 f24:=⟨Tryz.f179.name,by decide,Tryz.func179.trans (congrArg some (by kernel_rfl))⟩
 f25:=⟨Tryz.f180.name,by decide,Tryz.func180.trans (congrArg some (by kernel_rfl))⟩
 f26:=⟨Tryz.f181.name,by decide,Tryz.func181.trans (congrArg some (by kernel_rfl))⟩
 f27:=⟨Tryz.f182.name,by decide,Tryz.func182.trans (congrArg some (by kernel_rfl))⟩
 f28:=Tryz.func183.trans (congrArg some (by kernel_rfl))
 f29:=Tryz.func184.trans (congrArg some (by kernel_rfl))
 f46:=⟨Tryz.f244.name,by decide,Tryz.func244.trans (congrArg some (by kernel_rfl))⟩
 f47:=Tryz.func245.trans (congrArg some (by kernel_rfl))
 f48:=Tryz.func246.trans (congrArg some (by kernel_rfl))
 f49:=⟨Tryz.f247.name,by decide,Tryz.func247.trans (congrArg some (by kernel_rfl))⟩
 f50:=⟨Tryz.f248.name,by decide,Tryz.func248.trans (congrArg some (by kernel_rfl))⟩
 f57:=⟨Tryz.f301.name,by decide,Tryz.func301.trans (congrArg some (by kernel_rfl))⟩
 t0:=Tryz.underlying0
 a0:=Tryz.isAgg0
 z0:=Tryz.sizeOf0
 v0:=Tryz.zeroValue0
 t3:=Tryz.underlying3
 a3:=Tryz.isAgg3
 z3:=Tryz.sizeOf3
 v3:=Tryz.zeroValue3
 t4:=Tryz.underlying4
 a4:=Tryz.isAgg4
 z4:=Tryz.sizeOf4
 v4:=Tryz.zeroValue4
 t5:=Tryz.underlying5
 a5:=Tryz.isAgg5
 z5:=Tryz.sizeOf5
 v5:=Tryz.zeroValue5
 t9:=Tryz.underlying9
 a9:=Tryz.isAgg9
 z9:=Tryz.sizeOf9
 v9:=Tryz.zeroValue9
 t22:=Tryz.underlying51
 a22:=Tryz.isAgg51
 z22:=Tryz.sizeOf51
 v22:=Tryz.zeroValue51
 t25:=Tryz.underlying100
 a25:=Tryz.isAgg100
 z25:=Tryz.sizeOf100
 v25:=Tryz.zeroValue100
 t39:=Tryz.underlying154
 a39:=Tryz.isAgg154
 z39:=Tryz.sizeOf154
 v39:=Tryz.zeroValue154
 t45:=Tryz.underlying243
 a45:=Tryz.isAgg243
 z45:=Tryz.sizeOf243
 v45:=Tryz.zeroValue243
 t46:=Tryz.underlying244
 a46:=Tryz.isAgg244
 z46:=Tryz.sizeOf244
 v46:=Tryz.zeroValue244
 t50:=Tryz.underlying108
 a50:=Tryz.isAgg108
 z50:=Tryz.sizeOf108
 v50:=Tryz.zeroValue108
 t53:=Tryz.underlying250
 a53:=Tryz.isAgg250
 z53:=Tryz.sizeOf250
 v53:=Tryz.zeroValue250
 t55:=Tryz.underlying252
 a55:=Tryz.isAgg252
 z55:=Tryz.sizeOf252
 v55:=Tryz.zeroValue252
 t66:=Tryz.underlying292
 a66:=Tryz.isAgg292
 z66:=Tryz.sizeOf292
 v66:=Tryz.zeroValue292
 t70:=Tryz.underlying296
 a70:=Tryz.isAgg296
 z70:=Tryz.sizeOf296
 v70:=Tryz.zeroValue296
 t76:=Tryz.underlying326
 a76:=Tryz.isAgg326
 z76:=Tryz.sizeOf326
 v76:=Tryz.zeroValue326
 t77:=Tryz.underlying284
 a77:=Tryz.isAgg284
 z77:=Tryz.sizeOf284
 v77:=Tryz.zeroValue284 }
def Tryz.sl9l_ren:Go.Shelf.Ren:=⟨fun | 6=>51 | 15=>100 | 14=>102 | 28=>183 | 29=>184 | 20=>185 | 21=>186 | 22=>187 | 23=>188 | 24=>189 | 25=>190 | 26=>191 | 27=>192 | 46=>249 | 47=>245 | 48=>246 | 49=>250 | 50=>251 | 57=>302 | n=>n,fun | 22=>23 | 24=>97 | 25=>102 | 3=>3 | 39=>154 | 0=>0 | 53=>250 | 55=>252 | 4=>4 | 46=>244 | 45=>243 | 50=>108 | 5=>5 | 9=>9 | 66=>292 | 70=>296 | 76=>326 | 77=>284 | n=>n,fun | n=>n⟩
theorem Tryz.sl9l:Go.Proofs.SlLaysF0.n6 Tryz.prog Tryz.sl9l_ren:={
 mixed:=by kernel_rfl
 f6:=⟨Tryz.f51.name,by decide,Tryz.func51.trans (congrArg some (by kernel_rfl))⟩
 f14:=⟨Tryz.f102.name,by decide,Tryz.func102.trans (congrArg some (by kernel_rfl))⟩
 f15:=Tryz.func100.trans (congrArg some (by kernel_rfl))
 f20:=⟨Tryz.f185.name,by decide,Tryz.func185.trans (congrArg some (by kernel_rfl))⟩
 f21:=⟨Tryz.f186.name,by decide,Tryz.func186.trans (congrArg some (by kernel_rfl))⟩
 f22:=⟨Tryz.f187.name,by decide,Tryz.func187.trans (congrArg some (by kernel_rfl))⟩
 f23:=⟨Tryz.f188.name,by decide,Tryz.func188.trans (congrArg some (by kernel_rfl))⟩
 f24:=⟨Tryz.f189.name,by decide,Tryz.func189.trans (congrArg some (by kernel_rfl))⟩
 f25:=⟨Tryz.f190.name,by decide,Tryz.func190.trans (congrArg some (by kernel_rfl))⟩
 f26:=⟨Tryz.f191.name,by decide,Tryz.func191.trans (congrArg some (by kernel_rfl))⟩
 f27:=⟨Tryz.f192.name,by decide,Tryz.func192.trans (congrArg some (by kernel_rfl))⟩
 f28:=Tryz.func183.trans (congrArg some (by kernel_rfl))
 f29:=Tryz.func184.trans (congrArg some (by kernel_rfl))
 f46:=⟨Tryz.f249.name,by decide,Tryz.func249.trans (congrArg some (by kernel_rfl))⟩
 f47:=Tryz.func245.trans (congrArg some (by kernel_rfl))
 f48:=Tryz.func246.trans (congrArg some (by kernel_rfl))
 f49:=⟨Tryz.f250.name,by decide,Tryz.func250.trans (congrArg some (by kernel_rfl))⟩
 f50:=⟨Tryz.f251.name,by decide,Tryz.func251.trans (congrArg some (by kernel_rfl))⟩
 f57:=⟨Tryz.f302.name,by decide,Tryz.func302.trans (congrArg some (by kernel_rfl))⟩
 t0:=Tryz.underlying0
 a0:=Tryz.isAgg0
 z0:=Tryz.sizeOf0
 v0:=Tryz.zeroValue0
 t3:=Tryz.underlying3
 a3:=Tryz.isAgg3
 z3:=Tryz.sizeOf3
 v3:=Tryz.zeroValue3
 t4:=Tryz.underlying4
 a4:=Tryz.isAgg4
 z4:=Tryz.sizeOf4
 v4:=Tryz.zeroValue4
 t5:=Tryz.underlying5
 a5:=Tryz.isAgg5
 z5:=Tryz.sizeOf5
 v5:=Tryz.zeroValue5
 t9:=Tryz.underlying9
 a9:=Tryz.isAgg9
 z9:=Tryz.sizeOf9
 v9:=Tryz.zeroValue9
 t22:=Tryz.underlying23
 a22:=Tryz.isAgg23
 z22:=Tryz.sizeOf23
 v22:=Tryz.zeroValue23
 t25:=Tryz.underlying102
 a25:=Tryz.isAgg102
 z25:=Tryz.sizeOf102
 v25:=Tryz.zeroValue102
 t39:=Tryz.underlying154
 a39:=Tryz.isAgg154
 z39:=Tryz.sizeOf154
 v39:=Tryz.zeroValue154
 t45:=Tryz.underlying243
 a45:=Tryz.isAgg243
 z45:=Tryz.sizeOf243
 v45:=Tryz.zeroValue243
 t46:=Tryz.underlying244
 a46:=Tryz.isAgg244
 z46:=Tryz.sizeOf244
 v46:=Tryz.zeroValue244
 t50:=Tryz.underlying108
 a50:=Tryz.isAgg108
 z50:=Tryz.sizeOf108
 v50:=Tryz.zeroValue108
 t53:=Tryz.underlying250
 a53:=Tryz.isAgg250
 z53:=Tryz.sizeOf250
 v53:=Tryz.zeroValue250
 t55:=Tryz.underlying252
 a55:=Tryz.isAgg252
 z55:=Tryz.sizeOf252
 v55:=Tryz.zeroValue252
 t66:=Tryz.underlying292
 a66:=Tryz.isAgg292
 z66:=Tryz.sizeOf292
 v66:=Tryz.zeroValue292
 t70:=Tryz.underlying296
 a70:=Tryz.isAgg296
 z70:=Tryz.sizeOf296
 v70:=Tryz.zeroValue296
 t76:=Tryz.underlying326
 a76:=Tryz.isAgg326
 z76:=Tryz.sizeOf326
 v76:=Tryz.zeroValue326
 t77:=Tryz.underlying284
 a77:=Tryz.isAgg284
 z77:=Tryz.sizeOf284
 v77:=Tryz.zeroValue284 }
def Tryz.sl9_ren:Go.Shelf.Ren:=⟨fun | 6=>170 | 15=>100 | 14=>242 | 28=>183 | 29=>184 | 20=>293 | 21=>294 | 22=>295 | 23=>296 | 24=>297 | 25=>298 | 26=>299 | 27=>300 | 46=>314 | 47=>245 | 48=>246 | 49=>315 | 50=>316 | 57=>322 | n=>n,fun | 22=>232 | 24=>236 | 25=>239 | 3=>3 | 39=>154 | 0=>0 | 53=>250 | 55=>252 | 4=>4 | 46=>244 | 45=>243 | 50=>108 | 5=>5 | 9=>9 | 66=>292 | 70=>296 | 76=>326 | 77=>284 | n=>n,fun | n=>n⟩
theorem Tryz.sl9:Go.Proofs.SlLaysF0.n6 Tryz.prog Tryz.sl9_ren:={
 mixed:=by kernel_rfl
 f6:=⟨Tryz.f170.name,by decide,Tryz.func170.trans (congrArg some (by kernel_rfl))⟩
 f14:=⟨Tryz.f242.name,by decide,Tryz.func242.trans (congrArg some (by kernel_rfl))⟩
 f15:=Tryz.func100.trans (congrArg some (by kernel_rfl))
 f20:=⟨Tryz.f293.name,by decide,Tryz.func293.trans (congrArg some (by kernel_rfl))⟩
 f21:=⟨Tryz.f294.name,by decide,Tryz.func294.trans (congrArg some (by kernel_rfl))⟩
 f22:=⟨Tryz.f295.name,by decide,Tryz.func295.trans (congrArg some (by kernel_rfl))⟩
 f23:=⟨Tryz.f296.name,by decide,Tryz.func296.trans (congrArg some (by kernel_rfl))⟩
 f24:=⟨Tryz.f297.name,by decide,Tryz.func297.trans (congrArg some (by kernel_rfl))⟩
 f25:=⟨Tryz.f298.name,by decide,Tryz.func298.trans (congrArg some (by kernel_rfl))⟩
 f26:=⟨Tryz.f299.name,by decide,Tryz.func299.trans (congrArg some (by kernel_rfl))⟩
 f27:=⟨Tryz.f300.name,by decide,Tryz.func300.trans (congrArg some (by kernel_rfl))⟩
 f28:=Tryz.func183.trans (congrArg some (by kernel_rfl))
 f29:=Tryz.func184.trans (congrArg some (by kernel_rfl))
 f46:=⟨Tryz.f314.name,by decide,Tryz.func314.trans (congrArg some (by kernel_rfl))⟩
 f47:=Tryz.func245.trans (congrArg some (by kernel_rfl))
 f48:=Tryz.func246.trans (congrArg some (by kernel_rfl))
 f49:=⟨Tryz.f315.name,by decide,Tryz.func315.trans (congrArg some (by kernel_rfl))⟩
 f50:=⟨Tryz.f316.name,by decide,Tryz.func316.trans (congrArg some (by kernel_rfl))⟩
 f57:=⟨Tryz.f322.name,by decide,Tryz.func322.trans (congrArg some (by kernel_rfl))⟩
 t0:=Tryz.underlying0
 a0:=Tryz.isAgg0
 z0:=Tryz.sizeOf0
 v0:=Tryz.zeroValue0
 t3:=Tryz.underlying3
 a3:=Tryz.isAgg3
 z3:=Tryz.sizeOf3
 v3:=Tryz.zeroValue3
 t4:=Tryz.underlying4
 a4:=Tryz.isAgg4
 z4:=Tryz.sizeOf4
 v4:=Tryz.zeroValue4
 t5:=Tryz.underlying5
 a5:=Tryz.isAgg5
 z5:=Tryz.sizeOf5
 v5:=Tryz.zeroValue5
 t9:=Tryz.underlying9
 a9:=Tryz.isAgg9
 z9:=Tryz.sizeOf9
 v9:=Tryz.zeroValue9
 t22:=Tryz.underlying232
 a22:=Tryz.isAgg232
 z22:=Tryz.sizeOf232
 v22:=Tryz.zeroValue232
 t25:=Tryz.underlying239
 a25:=Tryz.isAgg239
 z25:=Tryz.sizeOf239
 v25:=Tryz.zeroValue239
 t39:=Tryz.underlying154
 a39:=Tryz.isAgg154
 z39:=Tryz.sizeOf154
 v39:=Tryz.zeroValue154
 t45:=Tryz.underlying243
 a45:=Tryz.isAgg243
 z45:=Tryz.sizeOf243
 v45:=Tryz.zeroValue243
 t46:=Tryz.underlying244
 a46:=Tryz.isAgg244
 z46:=Tryz.sizeOf244
 v46:=Tryz.zeroValue244
 t50:=Tryz.underlying108
 a50:=Tryz.isAgg108
 z50:=Tryz.sizeOf108
 v50:=Tryz.zeroValue108
 t53:=Tryz.underlying250
 a53:=Tryz.isAgg250
 z53:=Tryz.sizeOf250
 v53:=Tryz.zeroValue250
 t55:=Tryz.underlying252
 a55:=Tryz.isAgg252
 z55:=Tryz.sizeOf252
 v55:=Tryz.zeroValue252
 t66:=Tryz.underlying292
 a66:=Tryz.isAgg292
 z66:=Tryz.sizeOf292
 v66:=Tryz.zeroValue292
 t70:=Tryz.underlying296
 a70:=Tryz.isAgg296
 z70:=Tryz.sizeOf296
 v70:=Tryz.zeroValue296
 t76:=Tryz.underlying326
 a76:=Tryz.isAgg326
 z76:=Tryz.sizeOf326
 v76:=Tryz.zeroValue326
 t77:=Tryz.underlying284
 a77:=Tryz.isAgg284
 z77:=Tryz.sizeOf284
 v77:=Tryz.zeroValue284 }
end
section
open Go.Shelf
def Tryz.lays122_ren:Go.Shelf.Ren:=⟨fun | 122=>172 | 215=>243 | n=>n,fun | 3=>3 | 4=>4 | n=>n,fun | n=>n⟩
theorem Tryz.lays122:Go.Proofs.Lays.n122 Tryz.prog Tryz.lays122_ren:={
 mixed:=by kernel_rfl
 f122:=Tryz.func172.trans (congrArg some (by kernel_rfl))
 f215:=Tryz.func243.trans (congrArg some (by kernel_rfl))
 t3:=Tryz.underlying3
 a3:=Tryz.isAgg3
 z3:=Tryz.sizeOf3
 v3:=Tryz.zeroValue3
 t4:=Tryz.underlying4
 a4:=Tryz.isAgg4
 z4:=Tryz.sizeOf4
 v4:=Tryz.zeroValue4 }
open Go.RowKit in
theorem Tryz.cmp_Compare_int (x y:Int) (w:World) :
  Calls Tryz.prog 172 #[.int .i64 x,.int .i64 y] w fun e w'=>e=.returned (.int .i64 (Lib.compareInt x y))∧w'=w:=Any.cmp_Compare_int Tryz.lays122 x y w
end
end Go.Proofs
namespace Go.Proofs.YtfoipaclphdodaaGreatDoor
section
open Go.Ab Go.RowKit Civ Go.Sort
def trnV (t:Trn):List Value:=[.int .i64 t.1,.string t.2.1,.int .i64 t.2.2.1,.int .i64 t.2.2.2.1,.int .i64 t.2.2.2.2.1,.int .i64 t.2.2.2.2.2.1.1,.int .i64 t.2.2.2.2.2.1.2.1,.int .i64 t.2.2.2.2.2.1.2.2,.int .i64 t.2.2.2.2.2.2.1,.int .i64 t.2.2.2.2.2.2.2.1,.int .i64 t.2.2.2.2.2.2.2.2.1,.string t.2.2.2.2.2.2.2.2.2]
def cmpT (a b:Trn):Int:=Lib.compareInt a.1 b.1
theorem Zu5 (a b:Trn):Go.Proofs.ltOf cmpT a b=decide (a.1<b.1):=by
 unfold Go.Proofs.ltOf cmpT Lib.compareInt
 rw[Bool.eq_iff_iff]
 simp only[decide_eq_true_eq]
 repeat' split
 all_goals omega
theorem cmpT_swo:SWO (Go.Proofs.ltOf cmpT):=by
 refine⟨fun x=>?_,fun x y z=>?_,fun x y z=>?_⟩ <;> simp only[Zu5,decide_eq_true_eq,decide_eq_false_iff_not] <;> omega
theorem cmp_walk (x y:Trn) (w:World):Calls Tryz.prog 171 #[.agg (trnV x).toArray,.agg (trnV y).toArray] w fun e w'=>e=.returned (.int .i64 (cmpT x y)) ∧ ∃ q os,w'=grow (w.drewN q) os:=by
 obtain⟨a,n,f,t,m,⟨k,v,d⟩,c,e,s,l⟩:=x
 obtain⟨a2,n2,f2,t2,m2,⟨k2,v2,d2⟩,c2,e2,s2,l2⟩:=y
 simp only[trnV]
 go_enter Tryz.func171,Tryz.ntmps171
 go_wp2_with (go_at_call 172;refine (Tryz.cmp_Compare_int _ _ _).mono ?_;rintro e w' ⟨rfl,rfl⟩)
 go_ret
 refine⟨rfl,?_⟩
 rw[alloc_eq_grow,alloc_eq_grow,grow_grow]
 exact⟨0,_,rfl⟩
def ordT (l l':List Trn):Prop:=l'.Perm l∧l'.Pairwise fun a b=>a.1≤b.1
theorem sortT_a {h:AH}{id ver ty:Nat}{l:List Trn}(hi:h[id]?=some (.mk ver ty 12 (rows trnC l))) (hl:l≠[]) (hz:l.length<4611686018427387904) :
  ACalls Tryz.prog 170 [.own id ver l.length,.v (.func (.func 171) #[] #[])] h fun x h'=>x=.ret (.tup []) ∧ ∃ l',ordT l l'∧h'=h.set id (.mk ver ty 12 (rows trnC l')):=by
 refine (sort_a (P:=Tryz.prog) Tryz.sl9 (k:=12) om (fun w=>by kernel_rfl) (fun w=>by kernel_rfl) (enc:=trnV) (fun _=>rfl) (fun t v hv=>?_) cmpT_swo (g0:=171) (fun args w=>?_) (fun blk off size w m os dk hd x y=>cmp_walk x y _) hi hl hz (by kernel_rfl)).mono ?_
 ·unfold trnV at hv
  simp only[List.mem_cons,List.not_mem_nil,or_false] at hv
  rcases hv with rfl | rfl | rfl | rfl | rfl | rfl | rfl | rfl | rfl | rfl | rfl | rfl <;> rfl
 ·exact Zeu (by kernel_rfl) args w
 ·rintro x h' ⟨rfl,l',hp,hs,rfl⟩
  refine⟨rfl,l',⟨hp,List.pairwise_iff_getElem.2 fun i j hi hj hij=>?_⟩,rfl⟩
  have:=hs i j hi hj hij
  rw[Zu5] at this
  simp only[decide_eq_false_iff_not] at this
  omega
end
section
open Go.Ab Go.RowKit Civ
attribute [local simp] ZbL Zlz ZdH
section
theorem ZiS {a0 a1 a2 a3 a4 a5 a6 a7 a8 a9 a10 a11 c0 c1 c2 c3 c4 c5 c6 c7 c8 c9 c10 c11:AV}{l:List AV}:setCells (a0::a1::a2::a3::a4::a5::a6::a7::a8::a9::a10::a11::l) 0 [c0,c1,c2,c3,c4,c5,c6,c7,c8,c9,c10,c11]=c0::c1::c2::c3::c4::c5::c6::c7::c8::c9::c10::c11::l:=rfl
theorem ZoI {a0 a1 a2 a3 a4 a5 a6 a7 a8 a9 a10 a11:AV}{l:List AV}:((a0::a1::a2::a3::a4::a5::a6::a7::a8::a9::a10::a11::l).drop 0).take 12=[a0,a1,a2,a3,a4,a5,a6,a7,a8,a9,a10,a11]:=rfl
theorem ZmK {τ:Operand→AV}{y0:Operand}{x0_0 x0_1 x0_2 x0_3 x0_4 x0_5 x0_6 x0_7 x0_8 x0_9 x0_10 x0_11:AV}(h0:Zao (τ y0)=some [x0_0,x0_1,x0_2,x0_3,x0_4,x0_5,x0_6,x0_7,x0_8,x0_9,x0_10,x0_11]) (l0:[x0_0,x0_1,x0_2,x0_3,x0_4,x0_5,x0_6,x0_7,x0_8,x0_9,x0_10,x0_11].all leaf=true):Zak τ [(0,12,y0)] [(iv 0),(.v (.string ⟨#[]⟩)),(iv 0),(iv 0),(iv 0),(iv 0),(iv 0),(iv 0),(iv 0),(iv 0),(iv 0),(.v (.string ⟨#[]⟩))]=some [x0_0,x0_1,x0_2,x0_3,x0_4,x0_5,x0_6,x0_7,x0_8,x0_9,x0_10,x0_11]:=by
 simp only[Zak,h0,l0]
 rfl
theorem ZrU {a0 a1 a2 a3 a4 a5 a6 a7 a8 a9 a10 a11:AV}{l:List AV}:(a0::a1::a2::a3::a4::a5::a6::a7::a8::a9::a10::a11::l).take 12=[a0,a1,a2,a3,a4,a5,a6,a7,a8,a9,a10,a11]:=rfl
theorem ZrV {a0 c0:AV}{l:List AV}:setCells (a0::l) 0 [c0]=c0::l:=rfl
theorem ZiR {a0 a1 a2 a3 a4 a5 a6 a7 a8 a9 a10 a11:AV}{l:List AV}:((a0::a1::a2::a3::a4::a5::a6::a7::a8::a9::a10::a11::l).drop 1).take 11=[a1,a2,a3,a4,a5,a6,a7,a8,a9,a10,a11]:=rfl
theorem ZgA {τ:Operand→AV}{y0 y1 y2:Operand}{x0_0 x1_0 x2_0:AV}(h0:Zao (τ y0)=some [x0_0]) (l0:[x0_0].all leaf=true) (h1:Zao (τ y1)=some [x1_0]) (l1:[x1_0].all leaf=true) (h2:Zao (τ y2)=some [x2_0]) (l2:[x2_0].all leaf=true):Zak τ [(0,1,y0),(1,1,y1),(2,1,y2)] [(iv 0),(iv 0),(.v (.string ⟨#[]⟩))]=some [x0_0,x1_0,x2_0]:=by
 simp only[Zak,h0,l0,h1,l1,h2,l2]
 rfl
theorem Zgz {τ:Operand→AV}{y0:Operand}{x0_0 x0_1 x0_2:AV}(h0:Zao (τ y0)=some [x0_0,x0_1,x0_2]) (l0:[x0_0,x0_1,x0_2].all leaf=true):Zak τ [(0,3,y0)] [(iv 0),(iv 0),(.v (.string ⟨#[]⟩))]=some [x0_0,x0_1,x0_2]:=by
 simp only[Zak,h0,l0]
 rfl
theorem ZmJ { e:Ent}:([]:AH)++[e]=[e]:=rfl
theorem Zkg {e0 e1 e2 e3 e4 e5 d0:Ent}:([e0,e1,e2,e3,e4,e5]:AH)++[d0]=[e0,e1,e2,e3,e4,e5,d0]:=rfl
theorem ZmI {a0 a1 a2:AV}{l:List AV}:(a0::a1::a2::l).take 3=[a0,a1,a2]:=rfl
end
def c94p:AC:=(.seq (.reg [⟨(some 6),none,(.mv (.const (.slice none 0 0)))⟩,⟨(some 7),none,(.mv (.const (.int .i64 0)))⟩]) (.seq (.reg [⟨(some 15),none,(.mv (.tmp 0))⟩,⟨(some 16),none,(.mv (.tmp 1))⟩,⟨(some 17),none,(.mv (.tmp 2))⟩,⟨(some 18),none,(.call (.func 168) [(.tmp 15),(.tmp 16),(.tmp 17)])⟩,⟨(some 8),none,(.mv (.tmp 18))⟩]) (.seq (.reg [⟨(some 19),none,(.mv (.tmp 8))⟩,⟨(some 20),none,(.bin .neq (.tmp 19) (.const (.int .i64 0)))⟩]) (.seq (.cond (.tmp 20) (.seq (.reg [⟨(some 21),none,(.mv (.tmp 8))⟩,⟨(some 6),none,(.mv (.const (.slice none 0 0)))⟩,⟨(some 7),none,(.mv (.tmp 21))⟩]) .ret) .skip) (.seq (.reg [⟨(some 9),none,(.new 232 1 [(.sl 0 0 true [])])⟩]) (.seq (.reg [⟨(some 22),none,(.mv (.tmp 0))⟩,⟨(some 23),none,(.mv (.tmp 1))⟩,⟨(some 24),none,(.call (.func 169) [(.tmp 22),(.tmp 23)])⟩]) .skip))))))
def c94a:AC:=(.reg [⟨(some 10),none,(.new 236 12 [(iv 0),(.v (.string ⟨#[]⟩)),(iv 0),(iv 0),(iv 0),(iv 0),(iv 0),(iv 0),(iv 0),(iv 0),(iv 0),(.v (.string ⟨#[]⟩))])⟩,⟨none,none,(.store 12 (.tmp 10) (.tmp 25))⟩])
def c94b:AC:=(.block 1 (.reg [⟨(some 26),none,(.load false 1 (.tmp 9))⟩,⟨(some 27),none,(.load true 12 (.tmp 10))⟩,⟨(some 28),none,(.lit 236 12 1 [(iv 0),(.v (.string ⟨#[]⟩)),(iv 0),(iv 0),(iv 0),(iv 0),(iv 0),(iv 0),(iv 0),(iv 0),(iv 0),(.v (.string ⟨#[]⟩))] [(0,(12,(.tmp 27)))])⟩,⟨(some 29),none,(.app 236 12 112 (.tmp 26) (.tmp 28))⟩,⟨none,none,(.store 1 (.tmp 9) (.tmp 29))⟩]))
def c94q:AC:=(.seq (.reg [⟨(some 30),none,(.load false 1 (.tmp 9))⟩,⟨(some 31),none,(.call (.func 170) [(.tmp 30),(.func 171)])⟩]) (.seq (.reg [⟨(some 11),none,(.mv (.const (.slice none 0 0)))⟩]) (.seq (.reg [⟨(some 12),none,(.mv (.const (.int .i64 0)))⟩]) (.seq (.reg [⟨(some 32),none,(.load false 1 (.tmp 9))⟩,⟨(some 33),none,(.len false (.tmp 32))⟩,⟨(some 34),none,(.mv (.const (.int .i64 0)))⟩]) (.seq (.block 2 (.loop (.seq (.reg [⟨(some 35),none,(.bin .lss (.tmp 34) (.tmp 33))⟩]) (.seq (.cond (.tmp 35) .skip (.exit 2)) (.seq (.block 3 (.seq (.reg [⟨(some 36),none,(.mv (.tmp 34))⟩,⟨(some 37),none,(.ia 12 (.tmp 32) (.tmp 34))⟩,⟨(some 38),none,(.load true 12 (.tmp 37))⟩,⟨(some 14),none,(.new 236 12 [(iv 0),(.v (.string ⟨#[]⟩)),(iv 0),(iv 0),(iv 0),(iv 0),(iv 0),(iv 0),(iv 0),(iv 0),(iv 0),(.v (.string ⟨#[]⟩))])⟩,⟨(some 13),none,(.mv (.tmp 36))⟩,⟨none,none,(.store 12 (.tmp 14) (.tmp 38))⟩]) (.seq (.seq (.drw [⟨(some 39),none,(.mv (.tmp 13))⟩,⟨(some 40),none,(.bin .gtr (.tmp 39) (.const (.int .i64 0)))⟩,⟨(some 41),none,(.mv (.tmp 40))⟩,⟨(some 42),(some (41,true)),(.fa 0 (.tmp 14))⟩,⟨(some 43),(some (41,true)),(.load false 1 (.tmp 42))⟩,⟨(some 44),(some (41,true)),(.load false 1 (.tmp 9))⟩,⟨(some 45),(some (41,true)),(.mv (.tmp 13))⟩,⟨(some 46),(some (41,true)),(.bin .sub (.tmp 45) (.const (.int .i64 1)))⟩,⟨(some 47),(some (41,true)),(.ia 12 (.tmp 44) (.tmp 46))⟩,⟨(some 48),(some (41,true)),(.fa 0 (.tmp 47))⟩,⟨(some 49),(some (41,true)),(.load false 1 (.tmp 48))⟩,⟨(some 50),(some (41,true)),(.bin .sub (.tmp 43) (.tmp 49))⟩,⟨(some 51),(some (41,true)),(.bin .lss (.tmp 50) (.const (.int .i64 172800)))⟩,⟨(some 52),none,(.pick (.tmp 41) (.tmp 51) (.const (.bool false)))⟩] [] []) (.cond (.tmp 52) (.seq (.reg [⟨(some 6),none,(.mv (.const (.slice none 0 0)))⟩,⟨(some 7),none,(.mv (.const (.int .i64 4)))⟩]) .ret) .skip)) (.seq (.drw [⟨(some 53),none,(.mv (.tmp 11))⟩,⟨(some 54),none,(.fa 0 (.tmp 14))⟩,⟨(some 55),none,(.load false 1 (.tmp 54))⟩,⟨(some 56),none,(.fa 1 (.tmp 14))⟩,⟨(some 57),none,(.load true 11 (.tmp 56))⟩,⟨(some 58),none,(.mv (.tmp 2))⟩,⟨(some 59),none,(.mv (.tmp 12))⟩,⟨(some 60),none,(.call (.func 173) [(.tmp 57),(.tmp 58),(.tmp 59)])⟩,⟨(some 61),none,(.bin .sub (.tmp 55) (.tmp 60))⟩,⟨(some 62),none,(.fa 1 (.tmp 14))⟩,⟨(some 63),none,(.fa 9 (.tmp 62))⟩,⟨(some 64),none,(.load false 1 (.tmp 63))⟩,⟨(some 65),none,(.fa 1 (.tmp 14))⟩,⟨(some 66),none,(.fa 10 (.tmp 65))⟩,⟨(some 67),none,(.load false 1 (.tmp 66))⟩,⟨(some 68),none,(.build [(iv 0),(iv 0),(.v (.string ⟨#[]⟩))] [(0,(1,(.tmp 61))),(1,(1,(.tmp 64))),(2,(1,(.tmp 67)))])⟩,⟨(some 69),none,(.lit 174 3 1 [(iv 0),(iv 0),(.v (.string ⟨#[]⟩))] [(0,(3,(.tmp 68)))])⟩] [false,false] [⟨(some 70),none,(.app 174 3 32 (.tmp 53) (.tmp 69))⟩,⟨(some 11),none,(.mv (.tmp 70))⟩]) (.reg [⟨(some 71),none,(.fa 1 (.tmp 14))⟩,⟨(some 72),none,(.fa 9 (.tmp 71))⟩,⟨(some 73),none,(.load false 1 (.tmp 72))⟩,⟨(some 12),none,(.mv (.tmp 73))⟩]))))) (.reg [⟨(some 74),none,(.bin .add (.tmp 34) (.const (.int .i64 1)))⟩,⟨(some 34),none,(.mv (.tmp 74))⟩])))))) (.seq (.reg [⟨(some 75),none,(.mv (.tmp 11))⟩,⟨(some 76),none,(.len false (.tmp 75))⟩,⟨(some 77),none,(.bin .gtr (.tmp 76) (.const (.int .i64 1000)))⟩]) (.seq (.cond (.tmp 77) (.seq (.reg [⟨(some 6),none,(.mv (.const (.slice none 0 0)))⟩,⟨(some 7),none,(.mv (.const (.int .i64 2)))⟩]) .ret) .skip) (.seq (.reg [⟨(some 78),none,(.mv (.tmp 11))⟩,⟨(some 6),none,(.mv (.tmp 78))⟩,⟨(some 7),none,(.mv (.const (.int .i64 0)))⟩]) (.seq .ret .skip)))))))))
abbrev fr94:AFR:=⟨[(.reg [⟨(some 6),none,(.mv (.const (.slice none 0 0)))⟩,⟨(some 7),none,(.mv (.const (.int .i64 0)))⟩]),(.reg [⟨(some 15),none,(.mv (.tmp 0))⟩,⟨(some 16),none,(.mv (.tmp 1))⟩,⟨(some 17),none,(.mv (.tmp 2))⟩,⟨(some 18),none,(.call (.func 168) [(.tmp 15),(.tmp 16),(.tmp 17)])⟩,⟨(some 8),none,(.mv (.tmp 18))⟩]),(.reg [⟨(some 19),none,(.mv (.tmp 8))⟩,⟨(some 20),none,(.bin .neq (.tmp 19) (.const (.int .i64 0)))⟩]),(.cond (.tmp 20) (.seq (.reg [⟨(some 21),none,(.mv (.tmp 8))⟩,⟨(some 6),none,(.mv (.const (.slice none 0 0)))⟩,⟨(some 7),none,(.mv (.tmp 21))⟩]) .ret) .skip),(.reg [⟨(some 9),none,(.new 232 1 [(.sl 0 0 true [])])⟩]),(.reg [⟨(some 22),none,(.mv (.tmp 0))⟩,⟨(some 23),none,(.mv (.tmp 1))⟩,⟨(some 24),none,(.call (.func 169) [(.tmp 22),(.tmp 23)])⟩])],(.tmp 24),#[25],c94a,c94b,c94q,[(.tmp 6),(.tmp 7)],79⟩
theorem k94:Zhs Tryz.prog 94=some fr94:=by kernel_rfl
theorem turns_ne {l:List Rul}{nm:ByteArray}(h : ∀ r∈l,Zbo r=0) (hn : ∃ r∈l,r.1=nm):Za9 l nm≠[]:=by
 obtain⟨r,hr,e⟩:=hn
 have h1:=ZgF (h r hr)
 obtain⟨_,q2,_⟩:=ZbA (h r hr)
 intro hE
 have:ZcK r=[]:=by
  unfold Za9 at hE
  rw[List.flatMap_eq_nil_iff] at hE
  have:=hE r hr
  rwa [if_pos e] at this
 rw[this] at h1
 simp at h1
 have q2:r.2.1≤r.2.2.1:=q2
 have h2:(0:Int)=r.2.2.1-r.2.1+1:=h1
 omega
abbrev timT (N:Nat) (l:List Rul) (nm:ByteArray) (sh:Int) (x:AV):List AV:=[.sl l.length 11 false (rows rulC l),sv nm,iv sh,.any,.any,.any,.any,.any,.any,.ptr (N+0) 0 0,.any,.any,.any,.any,.any,.any,.any,.any,.any,.any,.any,.any,.any,.any,.clo (.func 241) [.rp [.sl l.length 11 false (rows rulC l)],.rp [sv nm]],x,.any,.any,.any,.any,.any,.any,.any,.any,.any,.any,.any,.any,.any,.any,.any,.any,.any,.any,.any,.any,.any,.any,.any,.any,.any,.any,.any,.any,.any,.any,.any,.any,.any,.any,.any,.any,.any,.any,.any,.any,.any,.any,.any,.any,.any,.any,.any,.any,.any,.any,.any,.any,.any]
abbrev timH (h:AH) (D l N:Nat) (o:Obj) (T:List AV) (vs:List Value) (d:List Trn):AH:=h++[.mk 0 232 1 [.own (N+1) d.length d.length],.mk d.length 236 12 (rows trnC d),mkD D,.raw l o T vs]
abbrev timJ (h:AH) (D l N:Nat) (o:Obj) (T:List AV) (vs:List Value) (d:List Trn) (e f:Ent):AH:=h++[.mk 0 232 1 [.own (N+1) d.length d.length],.mk d.length 236 12 (rows trnC d),mkD D,.raw l o T vs,e,f]
theorem ZpL {n:Nat} : ∀ {a b:List AV},AV.ltL n (a++b)=(AV.ltL n a&&AV.ltL n b)
 | [],b=>by simp[AV.ltL]
 | c::a,b=>by simp[AV.ltL,ZpL (a:=a) (b:=b),Bool.and_assoc]
theorem ZsY {h:AH}{D l N:Nat}{o:Obj}{T:List AV}{vs:List Value}{d:List Trn}{e f:Ent}:timH h D l N o T vs d++[e,f]=timJ h D l N o T vs d e f:=by simp
abbrev timK (P:Program) (lp N D:Nat) (rdy bsy fin:Obj) (l:List Rul) (nm:ByteArray) (sh:Int) (vs:List Value):Prop:=Zll P fr94 (N+2+1) lp rdy bsy fin (timT N l nm sh .any) vs
theorem timT_lt {N:Nat}{l:List Rul}{nm:ByteArray}{sh:Int}:AV.ltL (N+4) (timT N l nm sh .any)=true:=by simp[AV.ltL,AV.lt,ZbL]
theorem timH_lt {h:AH}{D lp N:Nat}{o:Obj}{l:List Rul}{nm:ByteArray}{sh:Int}{vs:List Value}(hlt : ∀ e∈h,e.lt N=true) (d:List Trn) : ∀ e∈timH h D lp N o (timT N l nm sh .any) vs d,e.lt (N+4)=true:=by
 intro e he
 rcases List.mem_append.1 he with he | he
 ·exact ltw om hlt e he
 simp only[List.mem_cons,List.not_mem_nil,or_false] at he
 rcases he with rfl | rfl | rfl | rfl
 ·simp[Ent.lt,AV.ltL,AV.lt]
 ·simp[Ent.lt,Zlz]
 ·simp[Ent.lt,AV.ltL]
 simpa [Ent.lt] using timT_lt
theorem app62 {h:AH}{a b c d e f p q:Ent}:h++[a,b,c,d,e,f,p,q]=(h++[a,b,c,d,e,f])++[p,q]:=by simp
theorem Znf {h:AH}{lp N D:Nat}{rdy bsy fin:Obj}{l:List Rul}{nm:ByteArray}{sh:Int}{vs:List Value}(hn:h.length=N) (hlt : ∀ e∈h,e.lt N=true) (hY:timK Tryz.prog lp N D rdy bsy fin l nm sh vs) {d:List Trn}{t:Trn}{e f:Ent}(hd:d.length<10000) :
  AYield Tryz.prog lp [.agg (trnC t)] (timJ h D lp N rdy (timT N l nm sh .any) vs d e f) fun r h''=>r=.ret (.v (.bool true))∧h''=timJ h D lp N rdy (timT N l nm sh .any) vs (d++[t]) e f:=by
 refine y_go hY (hga (k:=3) hn rfl) rfl fun n0 hn0 hlt0 q1 q2 q3=>?_
 obtain⟨a,n,fr,tt,m,⟨kd,wk,dn⟩,at_,ck,sv_,lt⟩:=t
 show aw _ _ c94a _ _ _
 show aw _ _ _ _ (timT N l nm sh (.agg (trnC (a,n,fr,tt,m,(kd,wk,dn),at_,ck,sv_,lt)))) (h++[.mk 0 232 1 [.own (N+1) d.length d.length],.mk d.length 236 12 (rows trnC d),mkD D,.raw lp rdy (timT N l nm sh .any) vs,e,f])
 refine Zap<|E' (ZaV hl6 ha6) pt<|E' (Zai lk cv gx rfl nb rfl ZiS hs6) ptn<|Zam<|?_
 refine ZvA (i:=N+3) gx hs3 fun n1 hn1 hlt1=>?_
 show aw _ _ c94b _ _ _
 refine Zaf<|Zap<|Vw (Zaa lk gx gt0)<|Vw (Zag lk gx ZoI rfl)<|E' (Zcz (ZmK cv rfl) hl7 ha7) pt<|?_
 refine E' (ZbK (Zbp lk gx rfl ZrU nb) lk gx (ZsQ _) om rfl hs1) pt ?_
 refine E' (Zai lk cv gx rfl nb rfl ZrV hs0) ptn<|Zam<|Zau<|?_
 refine ZiF (i:=N+3) gx hs3 ?_
 refine⟨_,_,app62,?_,fun x hx=>?_,rfl,rfl,?_⟩
 ·rw[←hn0];simp
 ·have hm:n0=N+6:=by rw[←hn0];simp[hn]
  subst hm
  rcases List.mem_append.1 hx with hx | hx
  ·exact ltw om hlt x hx
  simp only[List.mem_cons,List.not_mem_nil,or_false] at hx
  rcases hx with rfl | rfl | rfl | rfl | rfl | rfl
  ·simp[Ent.lt,AV.ltL,AV.lt]
  ·simp[Ent.lt,Zlz,ZpL,AV.ltL,AV.lt]
  ·simp[Ent.lt,AV.ltL]
  ·exact hlt0 _ (by simp)
  ·exact hlt0 _ (by simp)
  exact hlt0 _ (by simp)
 unfold timJ;rw[ZaF,Zbu,List.length_append];rfl
theorem sortT_b {h:AH}{N:Nat}{a:Ent}{l:AH}{v ty:Nat}{S:List Trn}(hn:h.length=N) (hl:S≠[]) (hz:S.length<4611686018427387904) :
  ACalls Tryz.prog 170 [.own (N+1) v S.length,.v (.func (.func 171) #[] #[])] (h++(a::.mk v ty 12 (rows trnC S)::l)) fun x h'=>x=.ret (.tup []) ∧ ∃ S',ordT S S'∧h'=h++(a::.mk v ty 12 (rows trnC S')::l):=by
 refine (sortT_a (hga (k:=1) hn rfl) hl hz).mono ?_
 rintro x h' ⟨rfl,S',h1,rfl⟩
 exact⟨rfl,S',h1,hs1 hn⟩
theorem gapB_pre {l:List Trn}{i:Nat}(h:i<l.length) (h0:0<i) (hg:l[i].1-(l[i-1]'(by omega)).1<172800):gapB l=true:=by
 obtain⟨i,rfl⟩ : ∃ i0,i=i0+1:=⟨i-1,by omega⟩
 exact Zmk h hg
theorem gap_ok {S:List Trn}{i:Nat}(hi : ∀ j (h:j+1<S.length),j+1<i→172800≤S[j+1].1-S[j].1) (hl:S.length≤i):gapB S=false:=(ZhO S).2 fun j h=>hi j h om
theorem ZqA {h:AH}{lp N D n0:Nat}{o:Obj}{l:List Rul}{nm:ByteArray}{sh:Int}{vs:List Value}(hn:h.length=N) (hlt : ∀ e∈h,e.lt N=true) (hr0:Zdj l nm sh=0) (hn0:N+4=n0) :
  aw Tryz.prog n0 c94q (ZeR fr94.res (N+2) D fun x h' => ∃ z,h'=h++z∧x.lt N=true ∧ ∃ c,x=.ret c∧Wk c (.tup [.sl (Za0 l nm sh).1.length 3 false (rows timC (Za0 l nm sh).1),iv (Za0 l nm sh).2])) (timT N l nm sh .any)
   (h++[.mk 0 232 1 [.own (N+1) (Za9 l nm).length (Za9 l nm).length],.mk (Za9 l nm).length 236 12 (rows trnC (Za9 l nm)),mkD D,.gone]):=by
 obtain⟨g1,g2,g3,g4⟩:=Zf9 hr0
 have hne:=turns_ne g2 g4
 have htl:=ZfY (nm:=nm) g2
 have htO : ∀ t∈Za9 l nm,Zbo t.2=0 ∧ -2592000000≤t.1∧t.1≤4320172800:=fun t ht=>ZhF g2 ht
 subst hn0
 show aw _ _ c94q _ _ _
 refine wr'<|Vw (Zaa lk gx gt0)<|?_
 refine s_callE mp (sortT_b hn hne om) pt ?_
 rintro S hS
 have hSl:=hS.1.length_eq
 have hSO : ∀ t∈S,Zbo t.2=0 ∧ -2592000000≤t.1∧t.1≤4320172800:=fun t ht=>htO t (hS.1.mem_iff.1 ht)
 have hTV:=Zky (sh:=sh) hr0 hS.1 hS.2
 rw[←hSl]
 refine sn'<|wr'<|mv' lkn pt11<|Zam<|ZaP (ALe.own0' (st':=3) (ty:=174) gt11 hl4 pt11 ha4)<|wr'<|mv' lki pt12<|sn'<|wr'<|?_
 refine Vw (Zaa lk gx gt0)<|Vw (Zcm lk)<|ms<|Zac<|Zaf<|?_
 refine w_lp (ι:=Nat) (fun (i:Nat)=>[(11,.own (N+4) i (outV sh 0 (S.take i)).length),(12,iv (svAt S i)),(34,iv (i:Int)),(6,.any),(7,.any),(13,.any),(14,.any)]++rn' 35 40) (fun (i:Nat)=>[(4,.mk i 174 3 (rows timC (outV sh 0 (S.take i))))]) (fun (i:Nat)=>i≤S.length ∧ ∀ j (h:j+1<S.length),j+1<i→172800≤S[j+1].1-S[j].1) (fun (i:Nat)=>S.length-i) (0) (by exact⟨Nat.zero_le _,fun j _ h=>by omega⟩) ?_
 rintro i hi1
 try simp only[sm',Nat.reduceAdd]
 obtain⟨hi1,hi2⟩:=hi1
 refine wr'<|Vw (ZaO lk lk)<|sn'<|Zac<|?_
 refine cd' lk (fun hc1=>?_) (fun hc1=>?_)
 ·have hi:i<S.length:=by omega
  obtain⟨hb0,hb1⟩:=hSO _ (List.getElem_mem hi)
  have hsv:=Zs6 (i:=i) fun t ht=>(hSO t ht).1
  have hoff:=Zt7 (r:=S[i].2) g3 hsv
  have hol2:(outV sh 0 (S.take (i+1))).length=i+1:=by rw[ZdM,List.length_take];omega
  have hol:(outV sh 0 (S.take i)).length=i:=by rw[ZdM,List.length_take];omega
  refine za<|Zac<|Zaf<|wm<|?_
  refine V' (ZaT lk lk gx ZaD nb ro om (by first | rfl | (simp;done) | omega)) pt ?_
  refine V' (ZeN lk gx ZaD om rfl) pt ?_
  refine E' (ZaV hl5 ha5) pt<|mw<|E' (Zai lk cv gx rfl nb rfl ZiS hs5) ptn<|sn'<|Zac<|Zac<|ZaH<|Dw vm<|Dw (ZbE lk lki)<|Dw vm<|?_
  refine dq' (t:=41) gt pt pt (fun hg41=>?_) (fun hg41=>?_)
  ·obtain⟨hb3,hb4⟩:=hSO _ (List.getElem_mem (show i-1<S.length by omega))
   refine dO<|dg<|dO<|Dw (Zaa lk gx gt0)<|dO<|Dw (Zaa lk gx gt0)<|dO<|Dw vm<|dO<|?_
   refine D' (Za3 lk lki om om) pt ?_
   refine d_do gt ?_
   refine D' (ZaT (k:=i-1) lk lk gx ZaD nb ro om (by first | rfl | (simp;done) | omega)) pt ?_
   refine dO<|Dw (Zbs lk)<|dO<|?_
   refine D' (Zcb lk gx ZaD om nb gt0) pt ?_
   refine d_do gt ?_
   refine D' (Za3 lk lk om om) pt ?_
   refine dO<|Dw (ZaO lk lki)<|Dw (Zal lk lk)<|ZaM<|?_
   refine Za5 ?_
   refine sn' ?_
   refine cd' lk (fun hc2=>?_) (fun hc2=>?_)
   ·have hG:gapB S=true:=gapB_pre hi om hc2
    refine wm<|mr<|Zah<|Zaq<|Zah<|Zah<|Zaq<|Zah<|?_
    refine ZdL gx hs2 ry ?_
    refine rtW' ?_
    rw[hTV,if_pos hG];exact Wk.tup (wkw Wk.nilF (wk1 rfl wk0))
   refine za<|Zac<|ZaH<|Dw vm<|dg<|Dw (Zaa lk gx gt0)<|dg<|Dw (Zag lk gx ZiR rfl)<|Dw vm<|Dw vm<|?_
   refine ZaC mp (fun hE hX=>off_a g3 hsv) pt ?_
   refine D' (Za3 lk lk om om) pt ?_
   refine dg<|Dw (Zbs lk)<|Dw (Zaa lk gx gt10)<|dg<|Dw (Zbs lk)<|Dw (Zaa lk gx gt11)<|Dw (Zat (ZgA cv rfl cv rfl cv rfl))<|Zc5 rfl rfl (hlk hn rfl) (ZfJ (Zgz cv rfl)) pt ZmJ<|ZaM<|?_
   refine Zc4 Zkg ?_
   refine E' (ZbK (Zbp lk gx rfl ZmI nb) lk gx (Zda _) om rfl hs4) pt ?_
   refine ms<|Zap<|fq<|Vw (Zbs lk)<|Vw (Zaa lk gx gt10)<|mw<|Zam<|Zau<|Zan<|Zap<|?_
   refine ad<|mw<|Zam<|Zaz<|?_
   refine lU' (i+1) (by (try dsimp only);exact⟨by omega,fun j hj h=>by by_cases e:j+1=i;(subst e;(try simp only[Nat.add_sub_cancel] at hc2);omega);exact hi2 j hj om⟩) (by refine zz ?_;exact bkE' 5 hn hlt (by repeat (first | exact wk0 | refine wka ?_ | refine wk1 rfl ?_ | refine wk1 (by first | rfl | exact ivx om | (rw[hol2,hol];done) | (rw[hol2,hol]) | (rw[Zf1 hi])) ?_)) (by rw[ZcZ hi,ZaF,Zbu];rfl))
  refine dn<|dn<|dn<|dn<|dn<|dn<|dn<|dn<|dn<|dn<|Dw (Zaj lk lkb)<|ZaM<|?_
  refine Za5 ?_
  refine sn'<|Za8 lk<|za<|Zac<|ZaH<|Dw vm<|dg<|Dw (Zaa lk gx gt0)<|dg<|Dw (Zag lk gx ZiR rfl)<|Dw vm<|Dw vm<|?_
  refine ZaC mp (fun hE hX=>off_a g3 hsv) pt ?_
  refine D' (Za3 lk lk om om) pt ?_
  refine dg<|Dw (Zbs lk)<|Dw (Zaa lk gx gt10)<|dg<|Dw (Zbs lk)<|Dw (Zaa lk gx gt11)<|Dw (Zat (ZgA cv rfl cv rfl cv rfl))<|Zc5 rfl rfl (hlk hn rfl) (ZfJ (Zgz cv rfl)) pt ZmJ<|ZaM<|?_
  refine Zc4 Zkg ?_
  refine E' (ZbK (Zbp lk gx rfl ZmI nb) lk gx (Zda _) om rfl hs4) pt ?_
  refine ms<|Zap<|fq<|Vw (Zbs lk)<|Vw (Zaa lk gx gt10)<|mw<|Zam<|Zau<|Zan<|Zap<|?_
  refine ad<|mw<|Zam<|Zaz<|?_
  refine lU' (i+1) (by (try dsimp only);exact⟨by omega,fun j hj h=>by by_cases e:j+1=i;(subst e;(try simp only[Nat.add_sub_cancel] at hc2);omega);exact hi2 j hj om⟩) (by refine zz ?_;exact bkE' 5 hn hlt (by repeat (first | exact wk0 | refine wka ?_ | refine wk1 rfl ?_ | refine wk1 (by first | rfl | exact ivx om | (rw[hol2,hol];done) | (rw[hol2,hol]) | (rw[Zf1 hi])) ?_)) (by rw[ZcZ hi,ZaF,Zbu];rfl))
 have hie:i=S.length:=by omega
 subst hie
 rw[List.take_length]
 have hG:gapB S=false:=gap_ok hi2 (Nat.le_refl _)
 rw[if_neg (by rw[hG];simp)] at hTV
 have hol:=ZdM S sh 0
 refine Zay<|Zar<|Zar<|ZaN<|Zan<|wm<|Vw (Zcm lk)<|Vw (ZbE lk lki)<|sn'<|Zac<|?_
 refine cd' lk (fun hc3=>?_) (fun hc3=>?_)
 ·refine wm<|mr<|Zah<|?_
  refine ZdL gx hs2 ry ?_
  refine rtW' ?_
  rw[hTV,if_pos om];exact Wk.tup (wkw Wk.nilF (wk1 rfl wk0))
 refine ZaB ?_
 refine ZaP (ALe.iceR (hga hn rfl) gt11 (List.take_of_length_le (by rw[Zda];exact Nat.le_refl _)) (by rw[Zda];exact Nat.le_refl _) pt11 hs4) ?_
 refine wm<|mw<|ms<|Zac<|Zbe<|Zah<|?_
 refine ZdL gx hs2 ry ?_
 refine rtW' ?_
 rw[hTV,if_neg om];exact Wk.tup (wkw Wk.full (wk1 rfl wk0))
theorem ZqB {h:AH}{lp N D:Nat}{rdy bsy fin:Obj}{l:List Rul}{nm:ByteArray}{sh:Int}{vs:List Value}(hn:h.length=N) (hlt : ∀ e∈h,e.lt N=true) (hr0:Zdj l nm sh=0) (hY:timK Tryz.prog lp N D rdy bsy fin l nm sh vs) {R:AE→AH→Prop}
    (hR:R=fun x h' => ∃ z,h'=h++z∧x.lt N=true ∧ ∃ c,x=.ret c∧Wk c (.tup [.sl (Za0 l nm sh).1.length 3 false (rows timC (Za0 l nm sh).1),iv (Za0 l nm sh).2])) :
    ACalls Tryz.prog 241 (.v (.func (.yield lp) #[] #[])::[.rp [.sl l.length 11 false (rows rulC l)],.rp [sv nm]]) (timH h D lp N rdy (timT N l nm sh .any) vs []) fun r h3=>(∃ c,r=.ret c) ∧
      ((h3[N+2+1]?=some (.raw lp rdy (timT N l nm sh .any) vs) ∧ ∀ n0,(h3.set (N+2+1) .gone).length=n0→(∀ e∈h3.set (N+2+1) .gone,e.lt n0=true)→aw Tryz.prog n0 fr94.post (ZeR fr94.res (N+2) D R) (timT N l nm sh .any) (h3.set (N+2+1) .gone)) ∨
       (h3[N+2+1]?=some (.raw lp fin (timT N l nm sh .any) vs)∧ZeR fr94.res (N+2) D R .ret (timT N l nm sh .any) (h3.set (N+2+1) .gone))):=by
  obtain⟨g1,g2,g3,g4⟩:=Zf9 hr0
  have htl:=ZfY (nm:=nm) g2
  refine (turns1_a (H:=timH h D lp N rdy (timT N l nm sh .any) vs) g2 g1 (fun d=>hl4 hn) (timH_lt hlt) (fun d t e f hd=>?_)).mono ?_
  · rw[ZsY,ZsY]
    exact Znf hn hlt hY om
  rintro x h3 ⟨rfl,rfl⟩
  refine⟨⟨_,rfl⟩,.inl ⟨hga (k:=3) hn rfl,fun n0 hn0 _=>?_⟩⟩
  have hs:(timH h D lp N rdy (timT N l nm sh .any) vs (Za9 l nm)).set (N+2+1) .gone=h++[.mk 0 232 1 [.own (N+1) (Za9 l nm).length (Za9 l nm).length],.mk (Za9 l nm).length 236 12 (rows trnC (Za9 l nm)),mkD D,.gone]:=hs3 hn
  rw[hs] at hn0 ⊢
  subst hR
  exact ZqA (o:=rdy) (lp:=lp) (vs:=vs) hn hlt hr0 ((hl4 hn).symm.trans hn0)
theorem ZsW {l:List Rul}{nm:ByteArray}{sh:Int}{h:AH}(hok:okRs l) (hl:l.length≤9223372036854775807) :
  Ac 94 [.sl l.length 11 false (rows rulC l),sv nm,iv sh] h (.tup [.sl (Za0 l nm sh).1.length 3 false (rows timC (Za0 l nm sh).1),iv (Za0 l nm sh).2]):=by
 refine ACalls.weak (tR' k94 fun N hn hlt _ hbd=>?_)
 show aw _ _ c94p _ _ _
 show aw _ _ _ _ [.sl l.length 11 false (rows rulC l),sv nm,iv sh,.any,.any,.any,.any,.any,.any,.any,.any,.any,.any,.any,.any,.any,.any,.any,.any,.any,.any,.any,.any,.any,.any,.any,.any,.any,.any,.any,.any,.any,.any,.any,.any,.any,.any,.any,.any,.any,.any,.any,.any,.any,.any,.any,.any,.any,.any,.any,.any,.any,.any,.any,.any,.any,.any,.any,.any,.any,.any,.any,.any,.any,.any,.any,.any,.any,.any,.any,.any,.any,.any,.any,.any,.any,.any,.any,.any] _
 refine wm<|ms<|wm<|mw<|mw<|Zad mp (ready_a hok hl) pt<|mw<|Zam<|?_
 refine Zan<|wm<|Vw (Zba lk lki)<|sn'<|Zac<|?_
 refine cd' lk (fun hc1=>?_) (fun hc1=>?_)
 ·refine wm<|mw<|mr<|Zah<|?_
  refine Zh6 ry ?_
  refine rtW' ?_
  rw[ZdU hc1];exact Wk.tup (wkw Wk.nilF (wk1 rfl wk0))
 refine za<|wr'<|E' (ZaV hl0 ha0) pt<|Zam<|?_
 refine ZaP (ALe.own0Cell (st':=12) (ty:=236) gx gt0 hl1 pt0 (Eq.trans (congrArg (fun z=>List.set z _ _) ha1) hs0)) ?_
 refine wm<|mw<|Zad mp (turns_a) pt<|sn'<|ZaB<|?_
 refine ZtP (T1:=timT N l nm sh .any) (ALe.same wA' rfl) rfl hl2 fun lp D rdy bsy fin vs hle hlT hY=>?_
 have hgo:=ZqB (D:=D) hn hlt (Decidable.of_not_not hc1) hY rfl
 rw[show (h++[Ent.mk 0 232 1 [.own (N+1) 0 0],Ent.mk 0 236 12 []]++[mkD D,Ent.raw lp rdy (timT N l nm sh .any) vs]:AH)=timH h D lp N rdy (timT N l nm sh .any) vs [] by simp[rows]]
 exact hgo
end
section
open Go.Ab
abbrev intC (n:Int):List AV:=[iv n]
theorem ZdB {n:Nat}(l:List Int):AV.ltL n (rows intC l)=true:=ZcB (fun _ _=>rfl) l
theorem int_leaf (l:List Int):(rows intC l).all leaf=true:=ZdZ (fun _=>rfl) l
theorem ZaW : ∀ x,(intC x).length=1:=fun _=>rfl
theorem ZdT (l:List Int):(rows intC l).length=l.length*1:=Zbk ZaW l
end
section
open Go.Ab Go.RowKit Civ
attribute [local simp] ZbL Zce ZbZ Zbv Zbi ZdB
section
theorem ZvO {a0 a1 a2:AV}{l:List AV}:(a0::a1::a2::l).take 3=[a0,a1,a2]:=rfl
theorem Zrx {a0 a1 a2 a3 a4 a5 a6 a7 a8 a9:AV}{l:List AV}:(a0::a1::a2::a3::a4::a5::a6::a7::a8::a9::l).take 10=[a0,a1,a2,a3,a4,a5,a6,a7,a8,a9]:=rfl
theorem Zoy {a0 a1 a2 a3 a4 a5 a6 a7 a8 a9 c0 c1 c2 c3 c4 c5 c6 c7 c8 c9:AV}{l:List AV}:setCells (a0::a1::a2::a3::a4::a5::a6::a7::a8::a9::l) 0 [c0,c1,c2,c3,c4,c5,c6,c7,c8,c9]=c0::c1::c2::c3::c4::c5::c6::c7::c8::c9::l:=rfl
theorem Zry {a0 a1 a2 a3 a4 a5 a6 a7:AV}{l:List AV}:((a0::a1::a2::a3::a4::a5::a6::a7::l).drop 5).take 3=[a5,a6,a7]:=rfl
theorem Zhu {τ:Operand→AV}{y0:Operand}{x0_0:AV}(h0:Zao (τ y0)=some [x0_0]) (l0:[x0_0].all leaf=true):Zak τ [(0,1,y0)] [(iv 0)]=some [x0_0]:=by
 simp only[Zak,h0,l0]
 rfl
theorem ZmD {a0:AV}{l:List AV}:(a0::l).take 1=[a0]:=rfl
theorem ZrA {a0 a1:AV}{l:List AV}:((a0::a1::l).drop 0).take 2=[a0,a1]:=rfl
theorem Zrz {a0 a1 a2:AV}{l:List AV}:((a0::a1::a2::l).drop 0).take 3=[a0,a1,a2]:=rfl
theorem Zlk {τ:Operand→AV}{y0 y1 y2:Operand}{x0_0 x1_0 x2_0:AV}(h0:Zao (τ y0)=some [x0_0]) (l0:[x0_0].all leaf=true) (h1:Zao (τ y1)=some [x1_0]) (l1:[x1_0].all leaf=true) (h2:Zao (τ y2)=some [x2_0]) (l2:[x2_0].all leaf=true):Zak τ [(0,1,y0),(1,1,y1),(2,1,y2)] [(iv 0),(iv 0),(.v (.string ⟨#[]⟩))]=some [x0_0,x1_0,x2_0]:=by
 simp only[Zak,h0,l0,h1,l1,h2,l2]
 rfl
theorem ZrB {a0 a1 a2 c0 c1 c2:AV}{l:List AV}:setCells (a0::a1::a2::l) 0 [c0,c1,c2]=c0::c1::c2::l:=rfl
end
def c238:AC:=(Sr [Oo 2 (.box 94 2 (t 0)),Mb 3 false] (Sr [Fa 4 0 2,Ld 5 4,Ld 6 1,Bn 7 .eql 5 6,Mv 3 7] .ret))
theorem k238:Zaw Tryz.prog 238=some ⟨c238,[(.tmp 3)],8⟩:=by kernel_rfl
def c164:AC:=(Sr [Oo 2 (.box 53 3 (t 0)),Oo 3 (.box 9 1 (t 1)),Mc 4 0] (Sr [Fa 5 1 2,Ld 6 5,Oo 7 (.mkfn 238 [(t 3)]),Cl 8 174 [(t 6),(t 7)],Mv 4 8] .ret))
theorem k164:Zaw Tryz.prog 164=some ⟨c164,[(.tmp 4)],9⟩:=by kernel_rfl
def c163:AC:=(Sr [Oo 2 (.box 97 2 (t 0)),Mb 3 false] (Sr [Oo 4 (.load true 3 (t 1)),Fa 5 0 2,Ld 6 5,Cl 7 164 [(t 4),(t 6)],Bc 8 .lss 7 0,Mv 3 8] .ret))
theorem k163:Zaw Tryz.prog 163=some ⟨c163,[(.tmp 3)],9⟩:=by kernel_rfl
def c166:AC:=(Sr [Oo 2 (.box 168 11 (t 0)),Mb 3 false] (Sr [Fa 4 0 2,Ld 5 4,Fa 6 1 1,Ld 7 6,Bn 8 .eql 5 7,Mv 3 8] .ret))
theorem k166:Zaw Tryz.prog 166=some ⟨c166,[(.tmp 3)],9⟩:=by kernel_rfl
def c98:AC:=(Sr [Oo 1 (.box 94 2 (t 0)),Oo 2 (.mv (.const (.slice none 0 0)))] (Sr [Oo 3 (.mv (.const (.slice none 0 0)))] (.seq (Sr [Fa 7 1 1,Ld 8 7,Oo 9 (.len false (t 8)),Mc 10 0] (.block 0 (.loop (Sr [Bn 11 .lss 10 9] (.seq (Cd 11 .skip (.exit 0)) (.seq (.block 1 (Sr [Oo 12 (.ia 10 (t 8) (t 10)),Oo 13 (.load true 10 (t 12)),Oo 5 (.new 144 10 [(iv 0),Ss,(iv 0),Ss,(.v (.bool false)),(iv 0),(iv 0),(iv 0),(iv 0),(iv 0)]),⟨none,none,(.store 10 (t 5) (t 13))⟩] (.seq (Sr [Fa 14 4 5,Ld 15 14] (Cd 15 (.exit 0) .skip)) (Sd [Fa 16 5 5,Fa 17 0 16,Oo 18 (.load true 3 (t 17)),Cl 19 143 [(t 18)],Bc 20 .mul 19 86400,Fa 21 5 5,Fa 22 3 21,Ld 23 22,Bn 24 .add 20 23,Mv 6 24] (.seq (Sr [Fa 25 5 5,Fa 26 4 25,Ld 27 26,Bc 28 .eql 27 2] (Cd 28 (.reg [Mv 29 6,Fa 30 0 5,Ld 31 30,Bn 32 .sub 29 31,Mv 6 32]) .skip)) (.reg [Mv 33 3,Mv 34 6,Oo 35 (.lit 3 1 1 [(iv 0)] [(0,(1,(t 34)))]),Oo 36 (.app 3 1 8 (t 33) (t 35)),Mv 3 36])))))) (.reg [Bc 37 .add 10 1,Mv 10 37]))))))) (Sr [Mv 38 3,Mv 2 38] .ret))))
theorem k98:Zaw Tryz.prog 98=some ⟨c98,[(.tmp 2)],39⟩:=by kernel_rfl
def c97:AC:=(Sr [Mb 2 false] (.seq (Sr [Mc 3 1] (.block 0 (.loop (.seq (Sr [Mv 4 3,Mv 5 0,Oo 6 (.len false (t 5)),Bn 7 .lss 4 6] (Cd 7 .skip (.exit 0))) (.seq (.block 1 (Sd [Mv 10 0,Mv 11 3,Oo 12 (.ia 1 (t 10) (t 11)),Ld 13 12,Mv 14 0,Mv 15 3,Bc 16 .sub 15 1,Oo 17 (.ia 1 (t 14) (t 16)),Ld 18 17,Bn 19 .leq 13 18] (Cd 19 (Sr [Mb 2 false] .ret) .skip))) (.reg [Mv 8 3,Bc 9 .add 8 1,Mv 3 9])))))) (Sr [Mb 2 true] .ret)))
theorem k97:Zaw Tryz.prog 97=some ⟨c97,[(.tmp 2)],20⟩:=by kernel_rfl
def c96:AC:=(Sr [Oo 1 (.box 94 2 (t 0)),Mb 2 false] (Sr [Oo 3 (.load true 2 (t 1)),Cl 4 98 [(t 3)],Cl 5 97 [(t 4)],Oo 6 (.un .not (t 5)),Mv 2 6] .ret))
theorem k96:Zaw Tryz.prog 96=some ⟨c96,[(.tmp 2)],7⟩:=by kernel_rfl
def c93:AC:=(Sr [Oo 1 (.box 53 3 (t 0)),Oo 2 (.mv (.const .nilFunc))] (Sr [Oo 3 (.mkfn 167 [(t 1)]),Mv 2 3] .ret))
theorem k93:Zaw Tryz.prog 93=some ⟨c93,[(.tmp 2)],4⟩:=by kernel_rfl
def c303:AC:=(Sr [Ms 6] (Sr [Mv 11 0,Oo 12 (.call (.func 310) [(t 11),(.const (.string ⟨#[47]⟩))]),Mv 10 12,Ex 13 10 0,Ex 14 10 1,Ex 15 10 2,Mv 7 13,Mv 8 14,Mv 9 15] (.seq (.block 0 (Sr [Mv 17 9,Oo 18 (.un .not (t 17)),Mv 16 18] (Cd 16 (Sr [Mv 19 0,Mv 20 1,Oo 21 (.call (.func 317) [(t 19),(.const (.string ⟨#[37,115]⟩)),(t 20),(Ci 1)]),Mv 6 21] .ret) (Sr [Mv 23 2,Bc 24 .gtr 23 0,Mv 22 24] (Cd 22 (Sr [Mv 25 8,Mv 6 25] .ret) .skip))))) (Sr [Mv 26 7,Mv 6 26] .ret))))
theorem k303:Zaw Tryz.prog 303=some ⟨c303,[(.tmp 6)],27⟩:=by kernel_rfl
def c252:AC:=(Sr [Oo 2 (.box 144 10 (t 0)),Oo 3 (.box 174 3 (t 1)),Oo 4 (.new 35 3 [(iv 0),(iv 0),Ss])] (.seq (.drw [Fa 5 0 2,Ld 6 5,Fa 7 1 3,Ld 8 7,Bn 9 .add 6 8,Fa 10 1 3,Ld 11 10,Fa 12 3 2,Ld 13 12,Fa 14 2 3,Ld 15 14,Fa 16 1 3,Ld 17 16,Cl 18 303 [(t 13),(t 15),(t 17)],Oo 19 (.build [(iv 0),(iv 0),Ss] [(0,(1,(t 9))),(1,(1,(t 11))),(2,(1,(t 18)))])] [false] [⟨none,none,(.store 3 (t 4) (t 19))⟩]) .ret))
theorem k252:Zaw Tryz.prog 252=some ⟨c252,[(.cell 4 true 3)],20⟩:=by kernel_rfl
def c254:AC:=(Sr [Oo 2 (.box 163 4 (t 0)),Mb 3 false] (Sr [Fa 4 0 2,Ld 5 4,Ld 6 1,Bn 7 .geq 5 6,Mv 3 7] .ret))
theorem k254:Zaw Tryz.prog 254=some ⟨c254,[(.tmp 3)],8⟩:=by kernel_rfl
def c194:AC:=(Sr [Oo 3 (.box 3 1 (t 1)),Oo 4 (.mv (.const (.slice none 0 0)))] (Sr [Mv 6 0,Oo 7 (.mkfn 254 [(t 3)]),Cl 8 253 [(t 6),(t 7)],Mv 5 8] (.seq (Sr [Mv 9 5,Bc 10 .lss 9 0] (Cd 10 (Sr [Mv 11 0,Mv 4 11] .ret) .skip)) (Sr [Mv 12 0,Mv 13 5,Oo 14 (.slc 4 (t 12) none (some (t 13)) none),Mv 4 14] .ret))))
theorem k194:Zaw Tryz.prog 194=some ⟨c194,[(.tmp 4)],15⟩:=by kernel_rfl
theorem place1_a {nm:ByteArray}{z:Zon}{h:AH}:Ac 238 [.agg (zonC z),.rp [sv nm]] h (bv (decide (z.1=nm))):=by
 refine tI' k238 fun N hn _ _ hbd=>?_
 simp only[tb'] at hbd ⊢
 refine wr'<|E' (ZaR cv rfl hl0 ha0) pt<|ms<|wr'<|fq<|Vw (Zaa lk gx gt0)<|Vw (Zax lk gt)<|Vw (ZfX lk lk)<|mw<|Zam<|?_
 exact Zan<|Zbe<|Zae rz<|rT' rfl
def Zd1 (zs:List Zon) (nm:ByteArray):Int:=idxV (fun z:Zon=>decide (z.1=nm)) zs
theorem place_a {a:List Rul}{z:List Zon}{k:List Lnk}{nm:ByteArray}{h:AH}(hz:z.length≤9223372036854775807):Ac 164 [.agg [.sl a.length 11 false (rows rulC a),.sl z.length 2 false (rows zonC z),.sl k.length 2 false (rows lnkC k)],sv nm] h (iv (Zd1 z nm)):=by
 refine tI' k164 fun N hn _ _ hbd=>?_
 simp only[tb'] at hbd ⊢
 refine wr'<|E' (ZaR cv rfl hl0 ha0) pt<|E' (ZaR cv rfl hl1 ha1) pt<|mw<|Zam<|?_
 refine ZaP (ALe.icePtr gx gt3 (by simp) pt3 hs1) ?_
 refine wr'<|fq<|Vw (Zaa lk gx gt1)<|Vw (Zhf mp)<|?_
 refine Zad mp (ixZonC_a (p:=fun z=>decide (z.1=nm)) (fun c _ _=>place1_a) hz) pt ?_
 exact mr<|Zae rz<|rT' rfl
theorem miss1_a {a:List Rul}{z:List Zon}{k:List Lnk}{l:Lnk}{h:AH}(hz:z.length≤9223372036854775807):Ac 163 [.agg (lnkC l),.rp [.sl a.length 11 false (rows rulC a),.sl z.length 2 false (rows zonC z),.sl k.length 2 false (rows lnkC k)]] h (bv (decide (Zd1 z l.1<0))):=by
 refine tI' k163 fun N hn _ _ hbd=>?_
 simp only[tb'] at hbd ⊢
 refine wr'<|E' (ZaR cv rfl hl0 ha0) pt<|ms<|wr'<|Vw (Zas lk ZvO rfl)<|fq<|Vw (Zaa lk gx gt0)<|Zad mp (place_a hz) pt<|Vw (ZaO lk lki)<|mw<|?_
 exact sr<|Zae rz<|rT' rfl
theorem Zn1 {x:Era}{last:Bool}(h:eraX x last=0):(xRl x≠⟨#[]⟩→ZcD (xRl x)=true)∧ZbX (xFm x)=true∧(-64800≤xSh x∧xSh x≤64800)∧(0≤xSv x∧xSv x≤10800)∧(xRl x≠⟨#[]⟩→xSv x=0)∧xOp x=last ∧
  (xOp x=false→Zbq x.2.2.2.2.2.1.1 x.2.2.2.2.2.1.2.1 x.2.2.2.2.2.1.2.2=true∧0≤x.2.2.2.2.2.2.1∧x.2.2.2.2.2.2.1≤172800):=by
 unfold eraX eraE at h
 split at h
 ·cases h
 rename_i h1
 split at h
 ·cases h
 rename_i h2
 split at h
 ·cases h
 rename_i h3
 split at h
 ·cases h
 rename_i h4
 have p1:xRl x≠⟨#[]⟩→ZcD (xRl x)=true:=fun hn=>Decidable.of_not_not fun e=>h1 (.inl ⟨hn,e⟩)
 have p2:ZbX (xFm x)=true:=Decidable.of_not_not fun e=>h1 (.inr e)
 have p3:=Zbt.1 (Decidable.of_not_not fun e=>h2 (.inl e))
 have p4:=Zbt.1 (Decidable.of_not_not fun e=>h2 (.inr e))
 have p5:xRl x≠⟨#[]⟩→xSv x=0:=fun hn=>Decidable.of_not_not fun e=>h3 ⟨hn,e⟩
 refine⟨p1,p2,p3,p4,p5,Decidable.of_not_not h4,fun ho=>?_⟩
 rw[if_neg (by rw[show x.2.2.2.2.1=false from ho];simp)] at h
 split at h
 ·cases h
 rename_i h5
 split at h
 ·cases h
 rename_i h6
 exact⟨Decidable.of_not_not h5,Zbt.1 (Decidable.of_not_not h6)⟩
theorem Zmq : ∀ {l:List Era},Zjd l=0 → ∀ k (h:k<l.length),eraX l[k] (decide (k+1=l.length))=0
 | [],_,k,h=>by simp at h
 | x::l,he,k,h=>by
  rw[Zjd] at he
  split at he
  ·rename_i h1;exact absurd he h1
  rename_i h1
  cases k with
  | zero =>
   have h2:=Decidable.of_not_not h1
   have e:l.isEmpty=decide (0+1=(x::l).length):=by rw[Bool.eq_iff_iff,List.isEmpty_iff,decide_eq_true_iff,List.length_cons];cases l <;> simp
   rw[←e];exact h2
  | succ k =>
   have:=Zmq he k (by simpa using h)
   simpa using this
structure okZ (es:List Era):Prop where
 ne:es≠[]
 fm : ∀ x∈es,ZbX (xFm x)=true∧(-64800≤xSh x∧xSh x≤64800)∧(0≤xSv x∧xSv x≤10800)∧(xRl x≠⟨#[]⟩→xSv x=0)
 op : ∀ k (h:k<es.length),xOp es[k]=decide (k+1=es.length)
 un : ∀ k (h:k<es.length),k+1<es.length→Zbq es[k].2.2.2.2.2.1.1 es[k].2.2.2.2.2.1.2.1 es[k].2.2.2.2.2.1.2.2=true∧0≤es[k].2.2.2.2.2.2.1∧es[k].2.2.2.2.2.2.1≤172800
 len:es.length≤8
theorem okZ_of {z:Zon}(h:ZhT z=0) (hl:z.2.length≤8):okZ z.2:=by
 unfold ZhT at h
 split at h
 ·cases h
 rename_i h1
 have hne:z.2≠[]:=fun e=>h1 (.inr (by rw[e];rfl))
 have hg:=Zmq h
 refine⟨hne,fun x hx=>?_,fun k hk=>(Zn1 (hg k hk)).2.2.2.2.2.1,fun k hk hk2=>?_,hl⟩
 ·obtain⟨k,hk,rfl⟩:=List.getElem_of_mem hx
  obtain⟨_,q2,q3,q4,q5,_⟩:=Zn1 (hg k hk)
  exact⟨q2,q3,q4,q5⟩
 obtain⟨_,_,_,_,_,q6,q7⟩:=Zn1 (hg k hk)
 exact q7 (by rw[q6];simp;omega)
theorem endV_bd {x:Era}(h1:Zbq x.2.2.2.2.2.1.1 x.2.2.2.2.2.1.2.1 x.2.2.2.2.2.1.2.2=true) (h2:0≤x.2.2.2.2.2.2.1∧x.2.2.2.2.2.2.1≤172800) (h3 : -64800≤xSh x∧xSh x≤64800) : -100000000000≤endV x∧endV x≤300000000000:=by
 have:=Zl4 h1
 unfold endV
 split <;> omega
theorem Zk9 {α:Type}{l:List α}{k:Nat}(h:k+1<l.length):l.dropLast.take (k+1)=l.dropLast.take k++[l[k]]:=by
 have hk:k<l.dropLast.length:=by simp;omega
 rw[List.take_succ_eq_append_getElem hk]
 congr 2
 simp
theorem Ziu {es:List Era}{k:Nat}(h:k+1<es.length):(ZaI es).take (k+1)=(ZaI es).take k++[endV es[k]]:=by
 unfold ZaI
 rw[←List.map_take,←List.map_take,Zk9 h,List.map_append,List.map_cons,List.map_nil]
theorem ends_a {nm:ByteArray}{es:List Era}{h:AH}(hz:okZ es):Ac 98 [.agg [sv nm,.sl es.length 10 false (rows eraC es)]] h (.sl (ZaI es).length 1 false (rows intC (ZaI es))):=by
 have hlen:=hz.len
 have hne:=List.length_pos_iff.2 hz.ne
 have hel:=ZcW es
 refine tW' k98 fun N hn hlt _ hbd=>?_
 simp only[tb'] at hbd ⊢
 refine wr'<|E' (ZaR (cvl lk0 rfl) rfl hl0 ha0) pt1<|mv' lkn pt2<|sn'<|wr'<|mv' lkn pt3<|Zam<|ZaP (ALe.own0' (st':=1) (ty:=3) gt3 hl1 pt3 ha1)<|Zac<|wr'<|?_
 refine fq<|Vw (Zaa lk gx gt1)<|Vw (ZaA lk)<|ms<|Zaf<|?_
 refine w_lp (ι:=Nat) (fun (k:Nat)=>[(3,.own (N+1) k k),(10,iv (k:Int)),(5,.any),(6,.any)]++rn' 11 27) (fun (k:Nat)=>[(1,.mk k 3 1 (rows intC ((ZaI es).take k)))]) (fun (k:Nat)=>k<es.length) (fun (k:Nat)=>es.length-k) (0) (by exact hne) ?_
 rintro k hi1
 try simp only[sm',Nat.reduceAdd]
 replace hi1:k<es.length:=hi1
 refine wr'<|Vw (ZaO lk lk)<|sn'<|Zac<|?_
 refine ZeM lk (by exact decide_eq_true om) ?_
 refine za<|Zac<|Zaf<|wr'<|?_
 refine V' (ZaJ lk lk ZcV nb ro om ro rfl) pt ?_
 refine Vw (Zas lk Zrx rfl)<|E' (ZaV hl2 ha2) pt<|E' (Zai lk cv gx rfl nb rfl Zoy hs2) ptn<|sn'<|Zac<|wr'<|fq<|Vw (Zaa lk gx gt4)<|sn'<|?_
 have hop:=hz.op k hi1
 have htl:((ZaI es).take k).length=k:=by rw[List.length_take,hel];omega
 refine cd' lk (fun hc2=>?_) (fun hc2=>?_)
 ·rw[show es[k].2.2.2.2.1=decide (k+1=es.length) from hop] at hc2
  have hke:k+1=es.length:=of_decide_eq_true hc2
  refine Zay<|Zar<|x_pas (Nat.ne_of_beq_eq_false rfl)<|Zar<|Zar<|ZaN<|?_
  refine ZaP (ALe.iceR (hga hn rfl) gt3 (List.take_of_length_le (by rw[ZdT,htl];omega)) (by rw[ZdT,htl];omega) pt3 hs1) ?_
  refine wm<|mr<|Zae rz<|rtW'<|?_
  rw[show k=(ZaI es).length by omega,List.take_length];exact Wk.full
 rw[show es[k].2.2.2.2.1=decide (k+1=es.length) from hop] at hc2
 have hke:k+1<es.length:=by have:=of_decide_eq_false hc2;omega
 obtain⟨hd,ha1,ha2⟩:=hz.un k hi1 hke
 have hsh : -64800≤es[k].1∧es[k].1≤64800:=(hz.fm _ (List.getElem_mem hi1)).2.1
 have hnb:=Zl4 hd
 have hdi:=ZbQ.1 hd
 have hml:=Zdc es[k].2.2.2.2.2.1.1 es[k].2.2.2.2.2.1.2.1
 refine za<|Zac<|ZaH<|dg<|Dw (Zbs lk)<|Dw (Zag lk gx Zry rfl)<|?_
 refine ZaC mp (fun hE hX=>ZhL om om om om om om) pt ?_
 refine D' (ZfB lk lki om om) pt ?_
 refine dg<|Dw (Zbs lk)<|Dw (Zaa lk gx gt8)<|?_
 refine D' (ZbM lk lk om om) pt ?_
 refine Dw vm<|ZaM<|?_
 refine Za5 ?_
 refine sn'<|Zac<|wr'<|fq<|Vw (Zbs lk)<|Vw (Zaa lk gx gt9)<|Vw (Za7 lk lki)<|sn'<|?_
 refine cd' lk (fun hc3=>?_) (fun hc3=>?_)
 ·have hev:endV es[k]=num es[k].2.2.2.2.2.1.1 es[k].2.2.2.2.2.1.2.1 es[k].2.2.2.2.2.1.2.2*86400+es[k].2.2.2.2.2.2.1-es[k].1:=by unfold endV;rw[if_pos hc3]
  refine Zap<|mw<|fq<|Vw (Zaa lk gx gt0)<|?_
  refine V' (Za3 lk lk om om) pt ?_
  refine ms<|Zap<|mw<|mw<|E' (Zcz (Zhu cv rfl) hl3 ha3) pt<|?_
  refine E' (ZbK (Zbp lk (hga hn rfl) rfl ZmD nb) lk (hga hn rfl) ((ZdT _).trans (by rw[htl])) om rfl hs1) pt ?_
  refine mw<|Zam<|Zau<|Zan<|Zap<|?_
  refine ad<|mw<|Zam<|Zaz<|?_
  refine lU' (k+1) (by (try dsimp only);omega) (by refine zz ?_;exact bk' 2 hn hlt (by rw[Ziu hke,hev,ZaF,Zbu];rfl))
 have hev:endV es[k]=num es[k].2.2.2.2.2.1.1 es[k].2.2.2.2.2.1.2.1 es[k].2.2.2.2.2.1.2.2*86400+es[k].2.2.2.2.2.2.1:=by unfold endV;rw[if_neg hc3,Int.sub_zero]
 refine za<|Zap<|mw<|mw<|E' (Zcz (Zhu cv rfl) hl3 ha3) pt<|?_
 refine E' (ZbK (Zbp lk (hga hn rfl) rfl ZmD nb) lk (hga hn rfl) ((ZdT _).trans (by rw[htl])) om rfl hs1) pt ?_
 refine mw<|Zam<|Zau<|Zan<|Zap<|?_
 refine ad<|mw<|Zam<|Zaz<|?_
 refine lU' (k+1) (by (try dsimp only);omega) (by refine zz ?_;exact bk' 2 hn hlt (by rw[Ziu hke,hev,ZaF,Zbu];rfl))
theorem rising_a {l:List Int}{full:Bool}{h:AH}(hl:l.length≤9223372036854775807):Ac 97 [.sl l.length 1 full (rows intC l)] h (bv (risL l)):=by
 refine tI' k97 fun N hn _ _ hbd=>?_
 simp only[tb'] at hbd ⊢
 refine wk'<|Zac<|wk'<|Zaf<|?_
 refine w_lp (ι:=Nat) (fun (k:Nat)=>[(3,iv ((k:Int)+1)),(2,.any)]++rn' 4 16) (fun (k:Nat)=>[]) (fun (k:Nat)=>(k+1≤l.length∨k=0) ∧ ∀ i (h:i+1<l.length),i<k→l[i]<l[i+1]) (fun (k:Nat)=>l.length-k) (0) (by exact⟨.inr rfl,fun i _ h=>by omega⟩) ?_
 rintro k hi1
 try simp only[sm',Nat.reduceAdd]
 obtain⟨hk1,hk2⟩:=hi1
 refine Zac<|wm<|mw<|Vw (ZaA lk)<|Vw (ZaO lk lk)<|sn'<|?_
 refine cd' lk (fun hc1=>?_) (fun hc1=>?_)
 ·have hk:k+1<l.length:=by omega
  refine za<|Zac<|Zaf<|Zac<|ZaH<|Dw vm<|Dw vm<|?_
  refine D' (ZaJ (k:=k+1) lk lk ZaW nb ro om ro rfl) pt ?_
  refine Dw (Zax lk gt)<|Dw vm<|Dw vm<|?_
  refine D' (Za3 lk lki om om) pt ?_
  refine D' (ZaJ (k:=k) lk lk ZaW nb ro om ro rfl) pt ?_
  refine Dw (Zax lk gt)<|Dw (ZdF lk lk)<|ZaM<|?_
  refine Za5 ?_
  refine sn' ?_
  refine cd' lk (fun hc2=>?_) (fun hc2=>?_)
  ·have hR:risL l=false:=ZqL hk om
   refine wo<|Zaq<|Zah<|Zah<|Zaq<|Zah<|Zae rz<|rT'<|?_
   rw[hR]
  refine ZaB<|Zau<|Zan<|Zap<|mw<|?_
  refine ad<|mw<|Zam<|Zaz<|?_
  refine lU' (k+1) (by (try dsimp only);exact⟨by omega,fun i hi h=>by by_cases e:i=k;(subst e;omega);exact hk2 i hi om⟩) (by refine zz ?_;exact ALe.same (by repeat (first | exact wk0 | refine wka ?_ | refine wk1 rfl ?_ | refine wk1 (by first | rfl | exact ivx om) ?_)) rfl)
 refine Zay<|Zar<|Zar<|ZaN<|Zan<|wo<|Zae rz<|rT'<|?_
 exact bvx (ZlR fun i hi=>hk2 i hi om).symm
theorem check1_a {z:Zon}{h:AH}(hz:okZ z.2):Ac 96 [.agg (zonC z)] h (bv (!risL (ZaI z.2))):=by
 obtain⟨nm,es⟩:=z
 have hel:(ZaI es).length=es.length-1:=ZcW es
 have hlen:es.length≤8:=hz.len
 refine tI' k96 fun N hn _ _ hbd=>?_
 simp only[tb'] at hbd ⊢
 refine wr'<|E' (ZaR cv rfl hl0 ha0) pt<|ms<|wr'<|Vw (Zag lk gx ZrA rfl)<|Zad mp (ends_a hz) pt<|?_
 refine Zad mp (rising_a (show (ZaI es).length≤9223372036854775807 by omega)) pt ?_
 exact Vw (ZaE lk)<|mr<|Zae rz<|rT' rfl
theorem eras_a {a:List Rul}{z:List Zon}{k:List Lnk}{h:AH}:Ac 93 [.agg [.sl a.length 11 false (rows rulC a),.sl z.length 2 false (rows zonC z),.sl k.length 2 false (rows lnkC k)]] h (.clo (.func 167) [.rp [.sl a.length 11 false (rows rulC a),.sl z.length 2 false (rows zonC z),.sl k.length 2 false (rows lnkC k)]]):=by
 refine tI' k93 fun N hn _ _ hbd=>?_
 simp only[tb'] at hbd ⊢
 refine wr'<|E' (ZaR cv rfl hl0 ha0) pt<|mv' rfl pt<|Zam<|?_
 refine ZaP (ALe.icePtr gx gt1 (by simp) pt1 hs0) ?_
 exact wr'<|Vw (Zhf mp)<|mr<|Zae rz<|rT' rfl
theorem repl_one {s lt:Bs}:Lib.replace s [37,115] lt 1=if (Lib.cut s [37,115]).2.2=true then (Lib.cut s [37,115]).1++lt++(Lib.cut s [37,115]).2.1 else s:=by
 have hge:=Lib.index_ge s [37,115]
 unfold Lib.cut
 by_cases h0:0≤Lib.index s [37,115]
 ·rw[if_pos h0]
  obtain⟨i,hi⟩ : ∃ i:Nat,Lib.index s [37,115]=i:=⟨(Lib.index s [37,115]).toNat,by omega⟩
  simp only[if_true,hi,Int.toNat_natCast,List.length_cons,List.length_nil]
  unfold Lib.replace
  split
  ·rename_i e
   have e:[37,115]=lt:=by simpa using e
   subst e
   rcases Lib.index_spec s [37,115] with ⟨h1,_⟩ | ⟨j,h1,h2,h3,_⟩
   ·omega
   obtain rfl:i=j:=by omega
   have h4:[37,115] <+: s.drop i:=by simpa [Lib.occAt] using h3
   obtain⟨t,ht⟩:=h4
   have e2:s.drop (i+2)=t:=by rw[←List.drop_drop,←ht];rfl
   rw[e2,List.append_assoc,ht,List.take_append_drop]
  have hc:0<Lib.count s [37,115]:=by rw[Lib.count_hit (by simp) hi];omega
  unfold Lib.replaceNum
  rw[if_neg om]
  rw[show (1:Int).toNat=0+1 from rfl,Lib.replaceK_hit _ _ _ _ _ hi]
  rfl
 rw[if_neg h0]
 simp only[Bool.false_eq_true,if_false]
 unfold Lib.replace
 split
 ·rfl
 have hm:Lib.index s [37,115] = -1:=by omega
 unfold Lib.replaceNum
 rw[if_pos (.inr (by rw[Lib.count_miss hm];simp)),Lib.count_miss hm];rfl
theorem Zty {s lt:ByteArray}{h:AH}(h1:s.size≤24) (h2:lt.size≤24):Ac 317 [sv s,sv (bA [37,115]),sv lt,iv 1] h (sv (if (cutL s [37,115]).2.2=true then bA ((cutL s [37,115]).1++aB lt++(cutL s [37,115]).2.1) else s)):=by
 refine ACalls.of_below (by kernel_rfl) fun w g vs hs ha=>?_
 simp only[RepL,Rep] at ha
 obtain⟨u1,us1,e1,rfl,u2,us2,rfl,rfl,u3,us3,rfl,rfl,u4,us4,rfl,rfl,rfl⟩:=ha
 obtain rfl:vs = #[.string s,.string (bA [37,115]),.string lt,.int .i64 1]:=by cases vs;simp_all
 obtain⟨m,hm⟩:=hs.glob.w.maxLen
 have hc:=Lib.countB_le (bA [37,115]) (by decide) s.size s (Nat.le_refl _)
 have hc2:Lib.countB s (bA [37,115])*lt.size≤24*24:=Nat.mul_le_mul om h2
 refine (Tryz.strings_Replace s (bA [37,115]) lt 1 m w om hm (by decide) om).mono ?_
 rintro e w' ⟨rfl,hb⟩
 refine⟨_,rfl,hb,?_⟩
 simp only[Rep]
 have:=repl_one (s:=aB s) (lt:=aB lt)
 show Value.string (bA (Lib.replace (aB s) [37,115] (aB lt) 1))=_
 rw[this]
 unfold cutL
 split <;> rfl
theorem named_a {fm lt:ByteArray}{sa:Int}{h:AH}(h1:fm.size≤24) (h2:lt.size≤24):Ac 303 [sv fm,sv lt,iv sa] h (sv (Zfs fm lt sa)):=by
 refine tI' k303 fun N hn _ _ hbd=>?_
 simp only[tb'] at hbd ⊢
 refine wk'<|wm<|Zad mp (cut1_a h1) pt<|mw<|Vw (ZaQ lk gt)<|Vw (ZaQ lk gt)<|Vw (ZaQ lk gt)<|mw<|?_
 refine mw<|ms<|Zac<|Zaf<|wm<|Vw (ZaE lk)<|ms<|?_
 refine Zav lk (fun hc1=>?_) (fun hc1=>?_)
 ·refine wm<|mw<|Zad mp (Zty h1 h2) pt<|mr<|Zaq<|Zah<|Zae rz<|rT'<|?_
  unfold Zfs;exact congrArg (fun z=>sv z) (if_neg (by have:=hc1;rw[Bool.not_eq_true'] at this;rw[this];simp)).symm
 refine wm<|Vw (ZbE lk lki)<|ms<|?_
 refine cd' lk (fun hc2=>?_) (fun hc2=>?_)
 ·refine wm<|mr<|Zaq<|Zah<|Zae rz<|rT'<|?_
  unfold Zfs;rw[if_pos (by have:=hc1;rwa [Bool.not_eq_false'] at this),if_pos hc2]
 refine ZaB<|Zau<|Zan<|wm<|mr<|Zae rz<|rT'<|?_
 unfold Zfs;rw[if_pos (by have:=hc1;rwa [Bool.not_eq_false'] at this),if_neg hc2]
theorem ZnI {x:Era}{t:Tim}{h:AH}(h1:(xFm x).size≤24) (h2:t.2.2.size≤24) (h3 : -64800≤xSh x∧xSh x≤64800) (h4:0≤t.2.1∧t.2.1≤10800):ACalls Tryz.prog 252 [.agg (eraC x),.agg (timC t)] h fun y h'=>h'=h∧y=.ret (.agg [iv (locV x t.2.1 t.2.2).1,iv (locV x t.2.1 t.2.2).2.1,sv (locV x t.2.1 t.2.2).2.2]):=by
 obtain⟨sh,rl,sa,fm,op,⟨⟨y,m,d⟩,a,c⟩⟩:=x
 obtain⟨at_,sv_,lt⟩:=t
 simp only[xFm,xSh] at h1 h3
 simp only at h2 h4
 show ACalls _ _ [.agg [iv sh,sv rl,iv sa,sv fm,bv op,iv y,iv m,iv d,iv a,iv c],.agg [iv at_,iv sv_,sv lt]] h _
 refine tI' k252 fun N hn _ _ hbd=>?_
 simp only[tb'] at hbd ⊢
 refine wr'<|E' (ZaR cv rfl hl0 ha0) pt<|E' (ZaR cv rfl hl1 ha1) pt<|E' (ZaV hl2 ha2) pt<|sn'<|Zac<|ZaH<|dg<|Dw (Zaa lk gx gt0)<|dg<|Dw (Zaa lk gx gt1)<|?_
 refine D' (ZbM lk lk om om) pt ?_
 refine dg<|Dw (Zaa lk gx gt1)<|dg<|Dw (Zaa lk gx gt3)<|dg<|Dw (Zaa lk gx gt2)<|dg<|Dw (Zaa lk gx gt1)<|?_
 refine ZaC mp (fun hE hX=>named_a h1 h2) pt ?_
 refine Dw (Zat (Zlk cv rfl cv rfl cv rfl))<|ZaM<|?_
 refine Za5 ?_
 exact E' (Zai lk cv gx rfl nb rfl ZrB hs2) ptn<|sr<|Zae (rs1 (rr_c gt gx (ld1 Zrz rfl)))<|rT' rfl
theorem cut1p_a {c:Chg}{e:Int}{h:AH}:ACalls Tryz.prog 254 [.agg (chgC c),.rp [iv e]] h fun y h'=>h'=h∧y=.ret (bv (decide (e≤c.1))):=by
 obtain⟨c1,c2,c3,c4⟩:=c
 refine tI' k254 fun N hn _ _ hbd=>?_
 simp only[tb'] at hbd ⊢
 refine wr'<|E' (ZaR cv rfl hl0 ha0) pt<|ms<|wr'<|fq<|Vw (Zaa lk gx gt0)<|Vw (Zax lk gt)<|Vw (ZfC lk lk)<|mw<|Zam<|?_
 refine Zan<|Zbe<|Zae rz<|rT'<|?_
 exact bvx (by first | rfl | (rw[Bool.eq_iff_iff];simp))
theorem ZuX {l:List Chg}{e:Int}:cutV l e=l.take (l.findIdx fun c=>decide (e≤c.1)):=by
 unfold cutV
 induction l with
 | nil=>rfl
 | cons c l ih =>
  rw[List.takeWhile_cons,List.findIdx_cons]
  by_cases h:c.1<e
  ·rw[if_pos (by simpa using h),ih,show decide (e≤c.1)=false by simp;omega];rfl
  rw[if_neg (by simpa using h),show decide (e≤c.1)=true by simp;omega];rfl
theorem zcut_a {l:List Chg}{e:Int}{full:Bool}{h:AH}(hl:l.length≤9223372036854775807):ACalls Tryz.prog 194 [.sl l.length 4 full (rows chgC l),iv e] h fun y h'=>h'=h∧y=.ret (.sl (cutV l e).length 4 false (rows chgC (cutV l e))):=by
 have hll:=hl
 refine tW' k194 fun N hn _ _ hbd=>?_
 simp only[tb'] at hbd ⊢
 refine wr'<|E' (ZaR cv rfl hl0 ha0) pt<|mw<|Zam<|?_
 refine ZaP (ALe.icePtr gx gt3 (by simp) pt3 hs0) ?_
 refine wm<|Vw (Zhf mp)<|?_
 refine Zad mp (ixPrtC_a (p:=fun c:Chg=>decide (e≤c.1)) (fun c _ _=>cut1p_a) hll) pt ?_
 refine ms<|Zac<|wm<|Vw (ZaO lk lki)<|sn'<|?_
 refine cd' lk (fun hc1=>?_) (fun hc1=>?_)
 ·have hi:¬l.findIdx (fun c:Chg=>decide (e≤c.1))<l.length:=by unfold idxV at hc1;split at hc1;omega;assumption
  refine wm<|mr<|Zah<|Zae rz<|rtW'<|?_
  rw[ZuX,List.take_of_length_le om];exact Wk.full
 have hi:l.findIdx (fun c:Chg=>decide (e≤c.1))<l.length:=by unfold idxV at hc1;split at hc1;assumption;omega
 have hix:idxV (fun c:Chg=>decide (e≤c.1)) l=((l.findIdx fun c:Chg=>decide (e≤c.1):Nat):Int):=if_pos hi
 refine za<|wm<|mw<|?_
 refine V' (v_hi (k:=l.findIdx fun c:Chg=>decide (e≤c.1)) lk lk Za1 ro om ro) pt ?_
 refine mr<|Zae rz<|rtW'<|?_
 rw[ZuX,List.length_take,Nat.min_eq_left (Nat.le_of_lt hi)];exact Wk.full
end
section
open Go.Ab Go.RowKit Civ
attribute [local simp] ZbL Zce ZbZ Zbv Zbi ZdB
section
theorem ZvN {a0 a1:AV}{l:List AV}:(a0::a1::l).take 2=[a0,a1]:=rfl
theorem Zrw {a0 a1 c0 c1:AV}{l:List AV}:setCells (a0::a1::l) 0 [c0,c1]=c0::c1::l:=rfl
theorem Zrv {a0 a1 a2 a3 a4 a5 a6 a7 a8 a9:AV}{l:List AV}:(a0::a1::a2::a3::a4::a5::a6::a7::a8::a9::l).take 10=[a0,a1,a2,a3,a4,a5,a6,a7,a8,a9]:=rfl
theorem ZiL {a0 a1 a2 a3 a4 a5 a6 a7 a8 a9 c0 c1 c2 c3 c4 c5 c6 c7 c8 c9:AV}{l:List AV}:setCells (a0::a1::a2::a3::a4::a5::a6::a7::a8::a9::l) 0 [c0,c1,c2,c3,c4,c5,c6,c7,c8,c9]=c0::c1::c2::c3::c4::c5::c6::c7::c8::c9::l:=rfl
theorem Zox {a0 a1 a2 a3 a4 a5 a6 a7 a8 a9:AV}{l:List AV}:((a0::a1::a2::a3::a4::a5::a6::a7::a8::a9::l).drop 0).take 10=[a0,a1,a2,a3,a4,a5,a6,a7,a8,a9]:=rfl
theorem Zg3 {a0 c0:AV}{l:List AV}:setCells (a0::l) 0 [c0]=c0::l:=rfl
theorem ZvM {a0 a1 a2:AV}{l:List AV}:(a0::a1::a2::l).take 3=[a0,a1,a2]:=rfl
end
def c167:AC:=(Sr [Fa 7 1 1,Ld 8 7,Oo 9 (.len false (t 8)),Mc 10 0] (.block 0 (.loop (Sr [Bn 11 .lss 10 9] (.seq (Cd 11 .skip (.exit 0)) (.seq (.block 1 (Sr [Oo 12 (.ia 2 (t 8) (t 10)),Oo 13 (.load true 2 (t 12)),Oo 4 (.new 94 2 [Ss,nl]),⟨none,none,(.store 2 (t 4) (t 13))⟩] (Sr [Fa 14 1 4,Ld 15 14,Oo 16 (.len false (t 15)),Mc 17 0] (.block 2 (.loop (Sr [Bn 18 .lss 17 16] (.seq (Cd 18 .skip (.exit 2)) (.seq (.block 3 (Sr [Oo 19 (.ia 10 (t 15) (t 17)),Oo 20 (.load true 10 (t 19)),Oo 6 (.new 144 10 [(iv 0),Ss,(iv 0),Ss,(.v (.bool false)),(iv 0),(iv 0),(iv 0),(iv 0),(iv 0)]),⟨none,none,(.store 10 (t 6) (t 20))⟩] (Sr [Mv 21 0,Oo 22 (.load true 10 (t 6)),Oo 23 (.call (t 21) [(t 22)]),Oo 24 (.un .not (t 23))] (Cd 24 .ret .skip)))) (.reg [Bc 25 .add 17 1,Mv 17 25]))))))))) (.reg [Bc 26 .add 10 1,Mv 10 26])))))))
theorem k167:Zaw Tryz.prog 167=some ⟨c167,[],27⟩:=by kernel_rfl
def c92p:AC:=(.seq (.reg [⟨(some 1),none,(.box 53 3 (.tmp 0))⟩,⟨(some 2),none,(.new 4 1 [(.v (.bool false))])⟩]) (.seq (.reg [⟨(some 4),none,(.fa 2 (.tmp 1))⟩,⟨(some 5),none,(.load false 1 (.tmp 4))⟩,⟨(some 6),none,(.mkfn 163 [(.tmp 1)])⟩,⟨(some 7),none,(.call (.func 162) [(.tmp 5),(.tmp 6)])⟩]) (.seq (.cond (.tmp 7) (.seq (.reg [⟨none,none,(.store 1 (.tmp 2) (.const (.bool true)))⟩]) .ret) .skip) (.seq (.reg [⟨(some 8),none,(.load true 3 (.tmp 1))⟩,⟨(some 9),none,(.call (.func 93) [(.tmp 8)])⟩]) .skip))))
def c92a:AC:=(.reg [⟨(some 3),none,(.new 144 10 [(iv 0),(.v (.string ⟨#[]⟩)),(iv 0),(.v (.string ⟨#[]⟩)),(.v (.bool false)),(iv 0),(iv 0),(iv 0),(iv 0),(iv 0)])⟩,⟨none,none,(.store 10 (.tmp 3) (.tmp 10))⟩])
def c92b:AC:=(.block 1 (.seq (.reg [⟨(some 11),none,(.fa 1 (.tmp 3))⟩,⟨(some 12),none,(.load false 1 (.tmp 11))⟩,⟨(some 13),none,(.bin .neq (.tmp 12) (.const (.string ⟨#[]⟩)))⟩,⟨(some 14),none,(.mv (.tmp 13))⟩,⟨(some 15),(some (14,true)),(.fa 0 (.tmp 1))⟩,⟨(some 16),(some (14,true)),(.load false 1 (.tmp 15))⟩,⟨(some 17),(some (14,true)),(.mkfn 166 [(.tmp 3)])⟩,⟨(some 18),(some (14,true)),(.call (.func 165) [(.tmp 16),(.tmp 17)])⟩,⟨(some 19),(some (14,true)),(.un .not (.tmp 18))⟩,⟨(some 20),none,(.pick (.tmp 14) (.tmp 19) (.const (.bool false)))⟩]) (.cond (.tmp 20) (.seq (.reg [⟨none,none,(.store 1 (.tmp 2) (.const (.bool true)))⟩]) .ret) .skip)))
def c92q:AC:=(.seq (.reg [⟨none,none,(.store 1 (.tmp 2) (.const (.bool false)))⟩]) (.seq .ret .skip))
abbrev fr92:AFR:=⟨[(.reg [⟨(some 1),none,(.box 53 3 (.tmp 0))⟩,⟨(some 2),none,(.new 4 1 [(.v (.bool false))])⟩]),(.reg [⟨(some 4),none,(.fa 2 (.tmp 1))⟩,⟨(some 5),none,(.load false 1 (.tmp 4))⟩,⟨(some 6),none,(.mkfn 163 [(.tmp 1)])⟩,⟨(some 7),none,(.call (.func 162) [(.tmp 5),(.tmp 6)])⟩]),(.cond (.tmp 7) (.seq (.reg [⟨none,none,(.store 1 (.tmp 2) (.const (.bool true)))⟩]) .ret) .skip),(.reg [⟨(some 8),none,(.load true 3 (.tmp 1))⟩,⟨(some 9),none,(.call (.func 93) [(.tmp 8)])⟩])],(.tmp 9),#[10],c92a,c92b,c92q,[(.cell 2 false 1)],21⟩
theorem k92:Zhs Tryz.prog 92=some fr92:=by kernel_rfl
def Zdg (z:List Zon):List Era:=z.flatMap (·.2)
theorem Zn0 {z:List Zon}{i j:Nat}(hi:i<z.length) (hj:j<z[i].2.length) : ∃ r,Zdg z=Zdg (z.take i)++(z[i].2.take j++z[i].2[j]::r):=by
 refine⟨z[i].2.drop (j+1)++Zdg (z.drop (i+1)),?_⟩
 have e:z=z.take i++z[i]::z.drop (i+1):=by rw[←List.drop_eq_getElem_cons hi,List.take_append_drop]
 have e2:z[i].2=z[i].2.take j++z[i].2[j]::z[i].2.drop (j+1):=by rw[←List.drop_eq_getElem_cons hj,List.take_append_drop]
 have h1:Zdg z=Zdg (z.take i++z[i]::z.drop (i+1)):=by rw[←e]
 rw[h1]
 unfold Zdg
 rw[List.flatMap_append,List.flatMap_cons]
 have h2:z[i].2++(z.drop (i+1)).flatMap (·.2)=z[i].2.take j++z[i].2[j]::(z[i].2.drop (j+1)++(z.drop (i+1)).flatMap (·.2)):=by
  conv=>lhs;rw[e2]
  rw[List.append_assoc];rfl
 rw[h2]
theorem Zq7 {z:List Zon}{i:Nat}(hi:i<z.length):Zdg (z.take (i+1))=Zdg (z.take i)++z[i].2:=by
 unfold Zdg
 rw[List.take_succ_eq_append_getElem hi,List.flatMap_append,List.flatMap_cons,List.flatMap_nil,List.append_nil]
theorem ZuE {p:Era→Bool}{l m r:List Era}{x:Era}(hl : ∀ y∈l,p y=false) (hm : ∀ y∈m,p y=false) (hx:p x=true):(l++(m++x::r)).find? p=some x:=by
 rw[List.find?_append,List.find?_eq_none.2 (fun y hy=>by rw[hl y hy];simp),Option.none_or,List.find?_append,List.find?_eq_none.2 (fun y hy=>by rw[hm y hy];simp),Option.none_or,List.find?_cons,hx]
def stopH (h:AH) (hS:Era→AH):Option Era→AH
 | none=>h
 | some x=>hS x
theorem ZuP {a:List Rul}{z:List Zon}{k:List Lnk}{lp:Nat}{h:AH}{p:Era→Bool}{hS:Era→AH}(hz:z.length≤20) (hz2 : ∀ y∈z,y.2.length≤8) (hSl : ∀ x,(hS x).length=h.length) (hSlt : ∀ x,∀ e∈hS x,e.lt h.length=true)
  (hY : ∀ x∈Zdg z,∀ e f:Ent,p x=false→AYield Tryz.prog lp [.agg (eraC x)] (h++[e,f]) fun r h''=>r=.ret (.v (.bool true))∧h''=h++[e,f])
  (hN : ∀ x∈Zdg z,∀ e f:Ent,p x=true→AYield Tryz.prog lp [.agg (eraC x)] (h++[e,f]) fun r h''=>r=.ret (.v (.bool false))∧h''=hS x++[e,f]) :
  ACalls Tryz.prog 167 [.v (.func (.yield lp) #[] #[]),.rp [.sl a.length 11 false (rows rulC a),.sl z.length 2 false (rows zonC z),.sl k.length 2 false (rows lnkC k)]] h fun y h'=>y=.ret (.tup [])∧h'=stopH h hS ((Zdg z).find? p):=by
 refine tJ' k167 fun N hn hlt _ hbd=>?_
 simp only[tb'] at hbd ⊢
 refine wr'<|Vw (Zbl lk dp1)<|Vw (Zax lk gt)<|Vw (ZaA lk)<|ms<|Zaf<|?_
 refine w_lp (ι:=Nat) (fun (i:Nat)=>[(10,iv (i:Int)),(4,.any),(6,.any)]++rn' 11 16) (fun (i:Nat)=>[]) (fun (i:Nat)=>i≤z.length ∧ ∀ x∈Zdg (z.take i),p x=false) (fun (i:Nat)=>z.length-i) (0) (by exact⟨Nat.zero_le _,fun x hx=>by cases hx⟩) ?_
 rintro i hi1
 try simp only[sm',Nat.reduceAdd]
 obtain⟨hk1,hk2⟩:=hi1
 refine wr'<|Vw (ZaO lk lk)<|sn'<|Zac<|?_
 refine cd' lk (fun hc1=>?_) (fun hc1=>?_)
 ·have hi:i<z.length:=by omega
  have hz3:=hz2 _ (List.getElem_mem hi)
  refine za<|Zac<|Zaf<|wr'<|?_
  refine V' (ZaJ lk lk Zcp nb ro om ro rfl) pt ?_
  refine Vw (Zas lk ZvN rfl)<|E' (ZaV hl0 ha0) pt<|E' (Zai lk cv gx rfl nb rfl Zrw hs0) ptn<|sn'<|wr'<|fq<|Vw (Zaa lk gx gt1)<|?_
  refine V' ((by first | exact ZaA lk | exact Zcm lk)) pt ?_
  refine ms<|Zaf<|?_
  refine w_lp (ι:=Nat) (fun (j:Nat)=>[(17,iv (j:Int)),(6,.any)]++rn' 18 8) (fun (j:Nat)=>[]) (fun (j:Nat)=>j≤z[i].2.length ∧ ∀ x∈z[i].2.take j,p x=false) (fun (j:Nat)=>z[i].2.length-j) (0) (by exact⟨Nat.zero_le _,fun x hx=>by cases hx⟩) ?_
  rintro j hi2
  try simp only[sm',Nat.reduceAdd]
  obtain⟨hj1,hj2⟩:=hi2
  refine wr'<|Vw (ZaO lk lk)<|sn'<|Zac<|?_
  refine cd' lk (fun hc2=>?_) (fun hc2=>?_)
  ·have hj:j<z[i].2.length:=by omega
   obtain⟨rr,hrr⟩:=Zn0 hi hj
   have hmem:z[i].2[j]∈Zdg z:=by rw[hrr];simp
   refine za<|Zac<|Zaf<|wr'<|?_
   refine V' (ZaJ lk lk ZcV nb ro om ro rfl) pt ?_
   refine Vw (Zas lk Zrv rfl)<|E' (ZaV hl1 ha1) pt<|E' (Zai lk cv gx rfl nb rfl ZiL hs1) ptn<|sn'<|wm<|Vw (Zag lk gx Zox rfl)<|?_
   by_cases hs21:p z[i].2[j]=true
   ·refine Zto lk mp (hN _ hmem _ _ hs21) pt<|Vw (ZaE lk)<|sn'<|Zbb lk<|Zbe<|Zaq<|Zah<|Zah<|Zaq<|Zaq<|Zah<|Zah<|Zaq<|?_
    refine Zae (rs0) ?_
    exact⟨_,_,rfl,(hSl _).trans hn,by rw[←hn];exact hSlt _,rfl,rfl,by rw[hrr,ZuE hk2 hj2 hs21];rfl⟩
   refine Zto lk mp (hY _ hmem _ _ (by simpa using hs21)) pt ?_
   refine Vw (ZaE lk)<|sn'<|Za8 lk<|ZaB<|Zau<|Zan<|Zap<|?_
   refine ad<|mw<|Zam<|Zaz<|?_
   refine lU' (j+1) (by (try dsimp only);refine⟨by omega,fun x hx=>?_⟩;rw[List.take_succ_eq_append_getElem hj] at hx;rcases List.mem_append.1 hx with hx | hx;exact hj2 x hx;simp only[List.mem_singleton] at hx;subst hx;simpa using hs21) (by refine zz ?_;exact bk' 1 hn hlt)
  have hje:z[i].2.length≤j:=by omega
  rw[List.take_of_length_le hje] at hj2
  refine Zay<|Zar<|Zar<|ZaN<|Zau<|Zan<|Zap<|?_
  refine ad<|mw<|Zam<|Zaz<|?_
  refine lU' (i+1) (by (try dsimp only);refine⟨by omega,fun x hx=>?_⟩;rw[Zq7 hi] at hx;rcases List.mem_append.1 hx with hx | hx;exact hk2 x hx;exact hj2 x hx) (by refine zz ?_;exact bk' 0 hn hlt)
 rw[List.take_of_length_le om] at hk2
 refine Zay<|Zar<|Zar<|ZaN<|w_end (rs0)<|?_
 exact⟨_,_,rfl,hn,hlt,rfl,rfl,by rw[List.find?_eq_none.2 (fun y hy=>by rw[hk2 y hy];simp)];rfl⟩
theorem miss2p_a {r:Rul}{x:Era}{id:Nat}{h:AH}(he:h[id]?=some (.mk 0 144 10 (eraC x))):ACalls Tryz.prog 166 [.agg (rulC r),.ptr id 0 0] h fun x' h'=>h'=h∧x'=.ret (bv (decide (r.1=xRl x))):=by
 obtain⟨n,f,t,m,⟨k,w,d⟩,a,c,s,lt⟩:=r
 refine tI' k166 fun N hn _ _ hbd=>?_
 simp only[tb'] at hbd ⊢
 refine wr'<|E' (ZaR cv rfl hl0 ha0) pt<|ms<|wr'<|fq<|Vw (Zaa lk gx gt0)<|fq<|Vw (Zaa lk (Zc2 he) gt1)<|Vw (ZfX lk lk)<|mw<|?_
 exact sr<|Zae rz<|rT' rfl
abbrev srcB (a:List Rul) (z:List Zon) (k:List Lnk):List AV:=[.sl a.length 11 false (rows rulC a),.sl z.length 2 false (rows zonC z),.sl k.length 2 false (rows lnkC k)]
abbrev ergH (h:AH) (D l ty:Nat) (o:Obj) (T:List AV) (vs:List Value) (c:AV):AH:=h++[.gone,.mk 0 ty 1 [c],mkD D,.raw l o T vs]
abbrev ergJ (h:AH) (D l ty:Nat) (o:Obj) (T:List AV) (vs:List Value) (c:AV) (e f:Ent):AH:=h++[.gone,.mk 0 ty 1 [c],mkD D,.raw l o T vs,e,f]
theorem ZgX {h:AH}{D l ty:Nat}{o:Obj}{T:List AV}{vs:List Value}{c:AV}{e f:Ent}:ergH h D l ty o T vs c++[e,f]=ergJ h D l ty o T vs c e f:=by simp
theorem ZuO {h:AH}{D l ty N:Nat}{o:Obj}{T:List AV}{vs:List Value}{c:AV}(hlt : ∀ e∈h,e.lt N=true) (hT:AV.ltL (N+4) T=true) (hc:c.lt (N+4)=true) : ∀ e∈ergH h D l ty o T vs c,e.lt (N+4)=true:=by
 intro e he
 rcases List.mem_append.1 he with he | he
 ·exact ltw om hlt e he
 simp only[List.mem_cons,List.not_mem_nil,or_false] at he
 rcases he with rfl | rfl | rfl | rfl
 ·simp[Ent.lt]
 ·simp[Ent.lt,AV.ltL,hc]
 ·simp[Ent.lt,AV.ltL]
 simpa [Ent.lt] using hT
def misP (a:List Rul) (x:Era):Bool:=decide (xRl x≠⟨#[]⟩)&&!a.any fun r=>decide (r.1=xRl x)
def Zid (s:Src):Bool:=(s.2.2.any fun l=>decide (Zd1 s.2.1 l.1<0))||(Zdg s.2.1).any (misP s.1)
abbrev misT (N:Nat) (a:List Rul) (z:List Zon) (k:List Lnk) (x:AV):List AV:=[.any,.rp (srcB a z k),.ptr (N+1) 0 0,.any,.any,.any,.any,.any,.any,.clo (.func 167) [.rp (srcB a z k)],x,.any,.any,.any,.any,.any,.any,.any,.any,.any,.any]
theorem Zuf {N:Nat}{a:List Rul}{z:List Zon}{k:List Lnk}:AV.ltL (N+4) (misT N a z k .any)=true:=by simp[AV.ltL,AV.lt,ZbL,ZbZ,Zbv]
theorem app61 {h:AH}{a b c d e f p:Ent}:h++[a,b,c,d,e,f,p]=(h++[a,b,c,d,e,f])++[p]:=by simp
theorem ZjJ {h:AH}{lp N D:Nat}{rdy bsy fin:Obj}{a:List Rul}{z:List Zon}{k:List Lnk}{vs:List Value}(hn:h.length=N) (hlt : ∀ e∈h,e.lt N=true) (ha:a.length≤9223372036854775807)
  (hY:Zll Tryz.prog fr92 (N+2+1) lp rdy bsy fin (misT N a z k .any) vs) {x:Era} {e f:Ent} :
  AYield Tryz.prog lp [.agg (eraC x)] (ergJ h D lp 4 rdy (misT N a z k .any) vs (bv false) e f) fun r h''=>r=.ret (.v (.bool (!misP a x)))∧h''=ergJ h D lp 4 (if misP a x=true then fin else rdy) (misT N a z k .any) vs (bv (misP a x)) e f:=by
 refine y_go hY (hga (k:=3) hn rfl) rfl fun n0 hn0 hlt0 q1 q2 q3=>?_
 have hm:n0=N+6:=by rw[←hn0];simp[hn]
 have hT0:=Zuf (N:=N) (a:=a) (z:=z) (k:=k)
 have hE:=hlt0 e (by simp)
 have hF:=hlt0 f (by simp)
 have hR:=hlt0 (.raw lp rdy (misT N a z k .any) vs) (by simp)
 show aw _ _ c92a _ _ _
 show aw _ _ _ _ (misT N a z k (.agg (eraC x))) (h++[.gone,.mk 0 4 1 [bv false],mkD D,.raw lp rdy (misT N a z k .any) vs,e,f])
 refine Zap<|E' (ZaV hl6 ha6) pt<|E' (Zai lk cv gx rfl nb rfl ZiL hs6) ptn<|Zam<|?_
 refine ZvA (i:=N+3) gx hs3 fun n1 hn1 hlt1=>?_
 have fin2 : ∀ (b:Bool) (o:Obj) (E:Ent),b=misP a x→o=(if misP a x=true then fin else rdy)→o.isCells=o.isCells→Ent.lt n0 (.raw lp o (misT N a z k .any) vs)=true → ∃ y z',h++[.gone,.mk 0 4 1 [bv b],mkD D,.raw lp o (misT N a z k .any) vs,e,f,E]=y++z'∧y.length=n0∧(∀ e∈y,e.lt n0=true)∧(AE.ret (.v (.bool (!b)))).lt n0=true∧AE.ret (.v (.bool (!b)))=.ret (.v (.bool (!misP a x)))∧y=ergJ h D lp 4 (if misP a x=true then fin else rdy) (misT N a z k .any) vs (bv (misP a x)) e f:=by
  rintro b o E rfl rfl _ hro
  refine⟨_,_,app61,by rw[←hn0];simp,fun y hy=>?_,rfl,rfl,rfl⟩
  rcases List.mem_append.1 hy with hy | hy
  ·exact ltw om hlt y hy
  simp only[List.mem_cons,List.not_mem_nil,or_false] at hy
  rcases hy with rfl | rfl | rfl | rfl | rfl | rfl
  ·simp[Ent.lt]
  ·simp[Ent.lt,AV.ltL,AV.lt]
  ·simp[Ent.lt,AV.ltL]
  ·exact hro
  ·exact hE
  exact hF
 have hro : ∀ o:Obj,Ent.lt n0 (.raw lp o (misT N a z k .any) vs)=true:=fun o=>by simpa [Ent.lt] using hR
 show aw _ _ c92b _ _ _
 refine Zaf<|wr'<|fq<|Vw (Zaa lk gx gt1)<|Vw (ZeC lk lks)<|mw<|?_
 refine sp' (t:=14) gt pt pt (fun hg14=>?_) (fun hg14=>?_)
 ·refine sd<|Vw (Zbl lk dp0)<|sd<|Vw (Zax lk gt)<|sd<|Vw (Zhf mp)<|sd<|?_
  refine Zad mp (Zmi (p:=fun r:Rul=>decide (r.1=xRl x)) (fun c _ E=>miss2p_a (Zc2 gx)) ha) pt ?_
  refine sd<|Vw (ZaE lk)<|Vw (Zal lk lk)<|sn'<|?_
  refine Zav lk (fun hc1=>?_) (fun hc1=>?_)
  ·have hP:misP a x=true:=by unfold misP;rw[Bool.and_eq_true];exact⟨decide_eq_true hg14,hc1⟩
   refine wr'<|E' (Zai lk (cvl lkb rfl) gx rfl nb rfl Zg3 hs1) ptn<|sr<|Zaq<|?_
   refine Zqr (i:=N+3) (hga hn rfl) hs3 (fin2 true fin _ hP.symm (by rw[if_pos hP]) rfl (hro _))
  have hP:misP a x=false:=by unfold misP;rw[Bool.and_eq_false_iff];exact .inr hc1
  refine ZaB<|Zau<|?_
  exact ZiF (i:=N+3) (hga hn rfl) hs3 (fin2 false rdy _ hP.symm (by rw[hP];rfl) rfl (hro _))
 have hP:misP a x=false:=by unfold misP;rw[Bool.and_eq_false_iff];exact .inl (decide_eq_false hg14)
 refine so<|so<|so<|so<|so<|Vw (Zaj lk lkb)<|sn'<|Za8 lk<|ZaB<|Zau<|?_
 exact ZiF (i:=N+3) (hga hn rfl) hs3 (fin2 false rdy _ hP.symm (by rw[hP];rfl) rfl (hro _))
theorem any_find {p:Era→Bool} {l:List Era}:(match l.find? p with | none=>false | some _=>true)=l.any p:=by
 induction l with
 | nil=>rfl
 | cons x l ih=>rw[List.find?_cons,List.any_cons];cases p x <;> simp[ih]
theorem Zue {h:AH}{lp N D:Nat}{rdy bsy fin:Obj}{a:List Rul}{z:List Zon}{k:List Lnk}{vs:List Value}(hn:h.length=N) (hlt : ∀ e∈h,e.lt N=true) (ha:a.length≤9223372036854775807) (hz:z.length≤20) (hz2 : ∀ y∈z,y.2.length≤8)
    (hY:Zll Tryz.prog fr92 (N+2+1) lp rdy bsy fin (misT N a z k .any) vs) (hl0:(k.any fun l=>decide (Zd1 z l.1<0))=false) {R:AE→AH→Prop} (hR:R=fun x h' => ∃ z',h'=h++z'∧x.lt N=true∧x=.ret (bv (Zid (a,z,k)))) :
    ACalls Tryz.prog 167 (.v (.func (.yield lp) #[] #[])::[.rp (srcB a z k)]) (ergH h D lp 4 rdy (misT N a z k .any) vs (bv false)) fun r h3=>(∃ c,r=.ret c) ∧
      ((h3[N+2+1]?=some (.raw lp rdy (misT N a z k .any) vs) ∧ ∀ n0,(h3.set (N+2+1) .gone).length=n0→(∀ e∈h3.set (N+2+1) .gone,e.lt n0=true)→aw Tryz.prog n0 fr92.post (ZeR fr92.res (N+2) D R) (misT N a z k .any) (h3.set (N+2+1) .gone)) ∨
       (h3[N+2+1]?=some (.raw lp fin (misT N a z k .any) vs)∧ZeR fr92.res (N+2) D R .ret (misT N a z k .any) (h3.set (N+2+1) .gone))):=by
  have hmis:Zid (a,z,k)=(Zdg z).any (misP a):=by unfold Zid;rw[hl0,Bool.false_or]
  refine (ZuP (h:=ergH h D lp 4 rdy (misT N a z k .any) vs (bv false)) (p:=misP a) (hS:=fun _=>ergH h D lp 4 fin (misT N a z k .any) vs (bv true)) hz hz2 (fun _=>(hl4 hn).trans (hl4 hn).symm) (fun _=>by rw[hl4 hn];exact ZuO hlt Zuf rfl) (fun x _ e f hp=>?_) (fun x _ e f hp=>?_)).mono ?_
  · have:=ZjJ (e:=e) (f:=f) (D:=D) (x:=x) hn hlt ha hY
    rw[hp] at this
    rw[ZgX]
    exact this
  · have:=ZjJ (e:=e) (f:=f) (D:=D) (x:=x) hn hlt ha hY
    rw[hp] at this
    rw[ZgX,ZgX]
    exact this
  rintro x h3 ⟨rfl,rfl⟩
  refine⟨⟨_,rfl⟩,?_⟩
  rw[←any_find] at hmis
  subst hR
  cases hf:(Zdg z).find? (misP a) with
  | none =>
    rw[hf] at hmis
    refine .inl ⟨hga (k:=3) hn rfl,fun n0 hn0 _=>?_⟩
    have hs:(ergH h D lp 4 rdy (misT N a z k .any) vs (bv false)).set (N+2+1) .gone=h++[.gone,.mk 0 4 1 [bv false],mkD D,.gone]:=hs3 hn
    show aw _ _ _ _ _ ((ergH h D lp 4 rdy (misT N a z k .any) vs (bv false)).set (N+2+1) .gone)
    rw[hs]
    show aw _ _ c92q _ _ _
    refine wr'<|E' (Zai lk (cvl lkb rfl) gx rfl nb rfl Zg3 hs1) ptn<|sn'<|Zac<|Zbe<|Zah<|?_
    refine ZdL gx hs2 (rs1 (rr_c gt gx (ld0 gt))) ?_
    refine rT' ?_
    rw[hmis]
  | some x =>
    rw[hf] at hmis
    refine .inr ⟨hga (k:=3) hn rfl,?_⟩
    have hs:(ergH h D lp 4 fin (misT N a z k .any) vs (bv true)).set (N+2+1) .gone=h++[.gone,.mk 0 4 1 [bv true],mkD D,.gone]:=hs3 hn
    show ZeR _ _ _ _ _ _ ((ergH h D lp 4 fin (misT N a z k .any) vs (bv true)).set (N+2+1) .gone)
    rw[hs]
    exact ZdL (hga (k:=2) hn rfl) hs2 (rs1 (rr_c gt (hga (k:=1) hn rfl) (ld0 gt))) (rT' (by rw[hmis]))
theorem Zud {a:List Rul}{z:List Zon}{k:List Lnk}{h:AH}(ha:a.length≤9223372036854775807) (hz:z.length≤20) (hz2 : ∀ y∈z,y.2.length≤8) (hk:k.length≤9223372036854775807):Ac 92 [.agg (srcB a z k)] h (bv (Zid (a,z,k))):=by
 have hkk:=hk
 refine tR' k92 fun N hn hlt _ hbd=>?_
 show aw _ _ c92p _ _ _
 show aw _ _ _ _ [.agg (srcB a z k),.any,.any,.any,.any,.any,.any,.any,.any,.any,.any,.any,.any,.any,.any,.any,.any,.any,.any,.any,.any] _
 refine wr'<|E' (ZaR cv rfl hl0 ha0) pt<|E' (ZaV hl1 ha1) pt<|Zam<|?_
 refine ZaP (ALe.icePtr gx gt1 (by simp) pt1 hs0) ?_
 refine wr'<|Vw (Zbl lk dp2)<|Vw (Zax lk gt)<|Vw (Zhf mp)<|?_
 refine Zad mp (Zuz (p:=fun l:Lnk=>decide (Zd1 z l.1<0)) (fun c _ _=>miss1_a om) hkk) pt ?_
 refine sn'<|Zac<|?_
 refine Zav lk (fun hc1=>?_) (fun hc1=>?_)
 ·have hm:Zid (a,z,k)=true:=by unfold Zid;rw[show (k.any fun l=>decide (Zd1 z l.1<0))=true from hc1];rfl
  refine wr'<|E' (Zai lk (cvl lkb rfl) gx rfl nb rfl Zg3 hs1) ptn<|sr<|Zah<|?_
  refine Zh6 (rs1 (rr_c gt gx (ld0 gt))) ?_
  refine rT' ?_
  rw[hm]
 refine za<|wr'<|Vw (Zas lk ZvM rfl)<|Zad mp (eras_a) pt<|sn'<|ZaB<|?_
 refine ZtP (T1:=misT N a z k .any) (ALe.same wA' rfl) rfl hl2 fun lp D rdy bsy fin vs hle hlT hY=>?_
 have hgo:=Zue (D:=D) hn hlt ha hz hz2 hY hc1 rfl
 rw[show (h++[Ent.gone,Ent.mk 0 4 1 [bv false]]++[mkD D,Ent.raw lp rdy (misT N a z k .any) vs]:AH)=ergH h D lp 4 rdy (misT N a z k .any) vs (bv false) by simp]
 exact hgo
end
section
open Go.Ab Go.Sort
def bsL (l:List ByteArray):List Bs:=l.map aB
def sbL (l:List Bs):List ByteArray:=l.map bA
theorem sb_bs (l:List ByteArray):sbL (bsL l)=l:=by
 unfold sbL bsL;rw[List.map_map]
 have:(bA ∘ aB)=id:=by funext z;rfl
 rw[this,List.map_id]
theorem ZkN (l:List Bs):rows strC (sbL l)=(l.map encStr).map .v:=by
 unfold sbL
 induction l with
 | nil=>rfl
 | cons x l ih=>rw[List.map_cons,List.map_cons,List.map_cons,←ih];rfl
theorem ZdY (l:List ByteArray):rows strC l=((bsL l).map encStr).map .v:=by rw[←ZkN,sb_bs]
def Zei (l:List ByteArray):List ByteArray:=sbL ((bsL l).mergeSort fun x y=>decide (x≤y))
def Zfu (l:List ByteArray):List Bs:=Lib.compact (bsL l)
theorem Ztd (l:List ByteArray):(Zei l).length=l.length:=by simp[Zei,sbL,bsL]
theorem Ztc {l:List ByteArray}{id v ty:Nat}{h:AH}(he:h[id]?=some (.mk v ty 1 (rows strC l))) (h0:l≠[]) (hl:l.length<4611686018427387904) :
  ACalls Tryz.prog 160 [.own id v l.length] h fun r h'=>r=.ret (.tup [])∧h'=h.set id (.mk v ty 1 (rows strC (Zei l))):=by
 refine ACalls.of_turnR (by kernel_rfl) he ?_ ?_
 ·rw[ZdY];simpa [bsL] using h0
 ·intro w g vs b cap arr hs ha hloc hb hsz hle hr
  simp only[RepL,Rep,hloc] at ha
  obtain⟨u1,us1,e1,⟨A,c,e2,hn1,hn2,rfl⟩,rfl⟩:=ha
  simp only[Option.some.injEq,Prod.mk.injEq] at e2
  obtain⟨rfl,rfl⟩:=e2
  obtain rfl:vs = #[.slice (some ⟨b,0,none⟩) l.length cap]:=by cases vs;simp_all
  have hlen:(rows strC l).length=(bsL l).length:=by rw[ZdY];simp
  have hbl:(bsL l).length=l.length:=by simp[bsL]
  rw[hlen] at hr hle
  rw[ZdY] at hr
  have hr2:=ZkR.1 hr
  have hb':b<w.heap.size:=(Array.getElem?_eq_some_iff.1 hb).1
  have:=Tryz.slices_Sort_string b 0 cap (bsL l) w (holds_of_block hb hr2) hb' (by rw[hbl];exact hl)
  rw[hbl] at this
  refine this.mono ?_
  rintro e w' ⟨rfl,n,os,rfl⟩
  obtain⟨q1,q2,q3,q4,q5⟩:=grownBy_sorted (w:=w) (g:=b) (n:=n) (os:=os) ((bsL l).mergeSort fun x y=>decide (x≤y)).toArray
  have hml:((bsL l).mergeSort fun x y=>decide (x≤y)).length=(bsL l).length:=List.length_mergeSort _
  refine⟨_,((bsL l).mergeSort fun x y=>decide (x≤y)).map encStr,_,rfl,by unfold Zei;rw[ZkN],heap_sorted _ hb,by simp[putCells],by rw[hlen];simp,?_,q1,q2,q3,q4,fun k hk hne=>q5 k hk (by simpa using hne),?_⟩
  ·rw[hlen,←hml]
   exact take_putCells arr _ (by rw[hml];exact hle)
  ·simp only[Rep];exact⟨#[],rfl,by simp only[RepL]⟩
theorem Zu1 {l:List ByteArray}{id v ty:Nat}{h:AH}(he:h[id]?=some (.mk v ty 1 (rows strC l))) (h0:l≠[]) (hl:l.length≤9223372036854775807) :
  ACalls Tryz.prog 161 [.own id v l.length] h fun r h'=>r=.ret (.own id v (Zfu l).length)∧h'=h.set id (.mk v ty 1 (rows strC (sbL (Zfu l++List.replicate ((bsL l).length-(Zfu l).length) [])))):=by
 refine ACalls.of_turnR (by kernel_rfl) he ?_ ?_
 ·rw[ZdY];simpa [bsL] using h0
 ·intro w g vs b cap arr hs ha hloc hb hsz hle hr
  simp only[RepL,Rep,hloc] at ha
  obtain⟨u1,us1,e1,⟨A,c,e2,hn1,hn2,rfl⟩,rfl⟩:=ha
  simp only[Option.some.injEq,Prod.mk.injEq] at e2
  obtain⟨rfl,rfl⟩:=e2
  obtain rfl:vs = #[.slice (some ⟨b,0,none⟩) l.length cap]:=by cases vs;simp_all
  have hlen:(rows strC l).length=(bsL l).length:=by rw[ZdY];simp
  have hbl:(bsL l).length=l.length:=by simp[bsL]
  rw[hlen] at hr hle
  rw[ZdY] at hr
  have hr2:=ZkR.1 hr
  have hcl:(Zfu l).length≤(bsL l).length:=Lib.compact_length_le _
  have:=Tryz.slices_Compact_string b 0 cap (bsL l) w (holds_of_block hb hr2) (by rw[hbl];exact hl) (by rw[hbl];omega)
  rw[hbl] at this
  refine this.mono ?_
  rintro e w' ⟨rfl,q,rfl⟩
  have e0:putRow encStr (Sort.ahead w q) b 0 (Lib.compact (bsL l)++List.replicate (l.length-(Lib.compact (bsL l)).length) []).toArray=grow (putRow encStr (Sort.ahead w q) b 0 (Zfu l++List.replicate ((bsL l).length-(Zfu l).length) []).toArray) #[]:=by rw[grow_empty,hbl];rfl
  rw[e0]
  obtain⟨q1,q2,q3,q4,q5⟩:=grownBy_sorted (w:=w) (g:=b) (n:=q) (os := #[]) (Zfu l++List.replicate ((bsL l).length-(Zfu l).length) []).toArray
  have hml:(Zfu l++List.replicate ((bsL l).length-(Zfu l).length) []).length=(bsL l).length:=by rw[List.length_append,List.length_replicate];omega
  refine⟨_,(Zfu l++List.replicate ((bsL l).length-(Zfu l).length) []).map encStr,_,rfl,by rw[ZkN],heap_sorted _ hb,by simp[putCells],by rw[hlen,List.length_map,hml],?_,q1,q2,q3,q4,fun k hk hne=>q5 k hk (by simpa using hne),?_⟩
  ·rw[hlen]
   exact (congrArg (fun n=>List.take n _) hml.symm).trans (take_putCells arr _ (by rw[hml];exact hle))
  ·simp only[Rep];exact⟨_,_,hloc,by omega,hn2,rfl⟩
theorem Znm {l:List ByteArray}{id v ty:Nat}{h:AH}(he:h[id]?=some (.mk v ty 1 (rows strC l))) (hl:l.length<4611686018427387904) :
  ACalls Tryz.prog 160 [.own id v l.length] h fun r h'=>r=.ret (.tup [])∧h'=h.set id (.mk v ty 1 (rows strC (Zei l))):=by
 by_cases h0:l=[]
 ·subst h0
  refine⟨by kernel_rfl,fun w g vs hs ha=>?_⟩
  simp only[RepL,Rep] at ha
  obtain⟨val,us,e,⟨A,cap,e1,e2,e3,rfl⟩,rfl⟩:=ha
  obtain rfl:vs = #[.slice A 0 cap]:=by cases vs;simp_all
  refine (Tryz.slices_Sort_string_none A cap w).mono ?_
  rintro e w' ⟨rfl,rfl⟩
  refine⟨.ret (.tup []),h,g,?_,hs,Gh.le.refl g,Fr.refl _ _,fun k hk=>.inl hk,rfl,?_⟩
  ·exact (by simp only[EndR,Rep];exact⟨#[],rfl,by simp[RepL]⟩)
  ·rw[show Zei []=[] by simp[Zei,bsL,sbL]]
   exact (ZgU he).symm
 ·exact Ztc he h0 hl
theorem Zn8 {l:List ByteArray}{id v ty:Nat}{h:AH}(he:h[id]?=some (.mk v ty 1 (rows strC l))) (hl:l.length≤9223372036854775807) :
  ACalls Tryz.prog 161 [.own id v l.length] h fun r h'=>r=.ret (.own id v (Zfu l).length)∧h'=h.set id (.mk v ty 1 (rows strC (sbL (Zfu l++List.replicate ((bsL l).length-(Zfu l).length) [])))):=by
 by_cases h0:l=[]
 ·subst h0
  refine⟨by kernel_rfl,fun w g vs hs ha=>?_⟩
  simp only[RepL,Rep] at ha
  obtain⟨val,us,e,⟨A,cap,e1,e2,e3,rfl⟩,rfl⟩:=ha
  obtain rfl:vs = #[.slice A 0 cap]:=by cases vs;simp_all
  refine (Tryz.slices_Compact_string_empty A cap w).mono ?_
  rintro e w' ⟨rfl,rfl⟩
  refine⟨.ret (.own id v 0),h,g,?_,hs,Gh.le.refl g,Fr.refl _ _,fun k hk=>.inl hk,rfl,?_⟩
  ·exact (by simp only[EndR,Rep];exact⟨A,cap,e1,Nat.zero_le _,e3,rfl⟩)
  ·exact (ZgU he).symm
 ·exact Zu1 he h0 hl
theorem le_tr (a b c:Bs):a≤b→b≤c→a≤c:=fun h1 h2=>List.le_trans h1 h2
theorem ZsO {l:List ByteArray}:decide ((Zfu (Zei l)).length<l.length)=decide (¬l.Nodup):=by
 have hperm:(bsL (Zei l)).Perm (bsL l):=by
  have:bsL (Zei l)=(bsL l).mergeSort fun x y=>decide (x≤y):=by
   unfold Zei sbL bsL
   rw[List.map_map]
   have:(aB ∘ bA)=id:=by funext z;simp[aB,bA]
   rw[this,List.map_id]
  rw[this];exact List.mergeSort_perm _ _
 have hsort:(bsL (Zei l)).Pairwise (· ≤ ·):=by
  have e:bsL (Zei l)=(bsL l).mergeSort fun x y=>decide (x≤y):=by
   unfold Zei sbL bsL
   rw[List.map_map]
   have:(aB ∘ bA)=id:=by funext z;simp[aB,bA]
   rw[this,List.map_id]
  rw[e]
  have h:=List.pairwise_mergeSort (le:=fun a b:Bs=>decide (a≤b)) (fun a b c h1 h2=>by simp only[decide_eq_true_eq] at *;exact le_tr _ _ _ h1 h2) (fun a b=>by simp only[Bool.or_eq_true,decide_eq_true_eq];exact List.le_total a b) (bsL l)
  exact h.imp fun h=>by simpa using h
 have hnd:l.Nodup↔(bsL (Zei l)).Nodup:=by
  rw[hperm.nodup_iff]
  unfold bsL
  constructor
  ·intro h
   exact List.pairwise_map.2 (h.imp fun hne e=>hne (by have:=congrArg bA e;exact this))
  ·intro h
   exact (List.pairwise_map.1 h).imp fun hne e=>hne (by rw[e])
 have hlen:(bsL (Zei l)).length=l.length:=by rw[hperm.length_eq];simp[bsL]
 rw[Bool.eq_iff_iff,decide_eq_true_iff,decide_eq_true_iff,hnd,←hlen]
 show (Lib.compact (bsL (Zei l))).length<_↔_
 generalize bsL (Zei l)=L at hsort
 have e:(Lib.compact L).length=((List.range L.length).filter (Lib.keeps L.toArray)).length:=by unfold Lib.compact Lib.compactUpTo;rw[List.length_map]
 rw[e]
 have hr:L.length=(List.range L.length).length:=by simp
 conv=>lhs;rhs;rw[hr]
 rw[List.length_filter_lt_length_iff_exists]
 have hget : ∀ j (h:j<L.length),L.toArray[j]! = L[j]:=fun j h=>by simp[h]
 constructor
 ·rintro⟨j,hj,hk⟩ hnd
  have hj:=List.mem_range.1 hj
  unfold Lib.keeps at hk
  simp only[decide_eq_true_eq,not_or,Decidable.not_not] at hk
  obtain⟨h0,h1⟩:=hk
  rw[hget j hj,hget (j-1) om] at h1
  exact List.pairwise_iff_getElem.1 hnd (j-1) j om hj om h1.symm
 ·intro hnd
  refine Decidable.byContradiction fun hne=>hnd (List.pairwise_iff_getElem.2 fun i j hi hj hij e=>hne ⟨j,List.mem_range.2 hj,?_⟩)
  unfold Lib.keeps
  simp only[decide_eq_true_eq,not_or,Decidable.not_not]
  refine⟨by omega,?_⟩
  rw[hget j hj,hget (j-1) om]
  have h1:L[j-1]≤L[j]:=List.pairwise_iff_getElem.1 hsort (j-1) j om hj om
  have h2:L[i]≤L[j-1]:=by
   by_cases hh:i=j-1
   ·subst hh;exact List.le_refl _
   ·exact List.pairwise_iff_getElem.1 hsort i (j-1) hi om om
  rw[←e] at h1
  rw[←e]
  exact List.le_antisymm h2 h1
end
section
open Go.Ab Go.RowKit Civ
attribute [local simp] ZbL Zce ZbZ Zbv Zbi ZdB ZcL
section
theorem Zgu {a0 a1:AV}{l:List AV}:(a0::a1::l).take 2=[a0,a1]:=rfl
theorem Zfk {a0 a1 c0 c1:AV}{l:List AV}:setCells (a0::a1::l) 0 [c0,c1]=c0::c1::l:=rfl
theorem Zgx {τ:Operand→AV}{y0:Operand}{x0_0:AV}(h0:Zao (τ y0)=some [x0_0]) (l0:[x0_0].all leaf=true):Zak τ [(0,1,y0)] [(.v (.string ⟨#[]⟩))]=some [x0_0]:=by
 simp only[Zak,h0,l0]
 rfl
theorem Zgv {a0:AV}{l:List AV}:(a0::l).take 1=[a0]:=rfl
theorem Zgw {τ:Operand→AV}{y0:Operand}{x0_0:AV}(h0:Zao (τ y0)=some [x0_0]) (l0:[x0_0].all leaf=true):Zak τ [(0,1,y0)] [(.v (.string ⟨#[]⟩))]=some [x0_0]:=by
 simp only[Zak,h0,l0]
 rfl
theorem ZmC {a0 a1 a2:AV}{l:List AV}:(a0::a1::a2::l).take 3=[a0,a1,a2]:=rfl
end
def c159:AC:=(Sr [Oo 1 (.box 53 3 (t 0)),Oo 2 (.mv (.const (.slice none 0 0)))] (Sr [Oo 3 (.mv (.const (.slice none 0 0)))] (.seq (Sr [Fa 8 1 1,Ld 9 8,Oo 10 (.len false (t 9)),Mc 11 0] (.block 0 (.loop (Sr [Bn 12 .lss 11 10] (.seq (Cd 12 .skip (.exit 0)) (.seq (.block 1 (Sr [Oo 13 (.ia 2 (t 9) (t 11)),Oo 14 (.load true 2 (t 13)),Oo 5 (.new 94 2 [Ss,nl]),⟨none,none,(.store 2 (t 5) (t 14))⟩] (.reg [Mv 15 3,Fa 16 0 5,Ld 17 16,Oo 18 (.lit 9 1 1 [Ss] [(0,(1,(t 17)))]),Oo 19 (.app 9 1 16 (t 15) (t 18)),Mv 3 19]))) (.reg [Bc 20 .add 11 1,Mv 11 20]))))))) (.seq (Sr [Fa 21 2 1,Ld 22 21,Oo 23 (.len false (t 22)),Mc 24 0] (.block 2 (.loop (Sr [Bn 25 .lss 24 23] (.seq (Cd 25 .skip (.exit 2)) (.seq (.block 3 (Sr [Oo 26 (.ia 2 (t 22) (t 24)),Oo 27 (.load true 2 (t 26)),Oo 7 (.new 97 2 [Ss,Ss]),⟨none,none,(.store 2 (t 7) (t 27))⟩] (.reg [Mv 28 3,Fa 29 1 7,Ld 30 29,Oo 31 (.lit 9 1 1 [Ss] [(0,(1,(t 30)))]),Oo 32 (.app 9 1 16 (t 28) (t 31)),Mv 3 32]))) (.reg [Bc 33 .add 24 1,Mv 24 33]))))))) (Sr [Mv 34 3,Mv 2 34] .ret)))))
theorem k159:Zaw Tryz.prog 159=some ⟨c159,[(.tmp 2)],35⟩:=by kernel_rfl
def c91:AC:=(Sr [Oo 1 (.box 53 3 (t 0)),Mb 2 false] (Sr [Oo 4 (.load true 3 (t 1)),Cl 5 159 [(t 4)],Mv 3 5] (Sr [Mv 6 3,Cl 7 160 [(t 6)]] (.seq (.drwU [[],[],[],[0,1,2],[2],[2],[],[]] [Mv 8 3,Cl 9 161 [(t 8)],Oo 10 (.len false (t 9)),Oo 11 (.load true 3 (t 1)),Cl 12 159 [(t 11)],Oo 13 (.len false (t 12)),Bn 14 .lss 10 13,Mv 2 14]) .ret))))
theorem k91:Zd4 Tryz.prog (none) 91=some ⟨c91,[(.tmp 2)],15⟩:=by kernel_rfl
def Zc0 (z:List Zon) (k:List Lnk):List ByteArray:=z.map (·.1)++k.map (·.2)
theorem ZgO (z:List Zon) (k:List Lnk):(Zc0 z k).length=z.length+k.length:=by simp[Zc0]
theorem ZkC (x:ByteArray):rows strC [x]=[sv x]:=rfl
theorem names_o {a:List Rul}{z:List Zon}{k:List Lnk}{h:AH}{q:Nat}(hq:h.length+1=q) (hz:z.length≤20) (hk:k.length≤20):ACalls Tryz.prog 159 [.agg (srcB a z k)] h fun x h'=>x=.ret (.own q (Zc0 z k).length (Zc0 z k).length)∧h'=h++[.mk 0 53 3 (srcB a z k),.mk (Zc0 z k).length 9 1 (rows strC (Zc0 z k))]:=by
 have hnl:=ZgO z k
 have hkk:=hk
 refine tN' k159 fun N hn hlt _ hbd=>?_
 simp only[tb'] at hbd ⊢
 refine wr'<|E' (ZaR (cvl lk0 rfl) rfl hl0 ha0) pt1<|mv' lkn pt2<|sn'<|wr'<|mv' lkn pt3<|Zam<|ZaP (ALe.own0' (st':=1) (ty:=9) gt3 hl1 pt3 ha1)<|Zac<|wr'<|?_
 refine fq<|Vw (Zaa lk gx gt1)<|Vw (ZaA lk)<|ms<|Zaf<|?_
 refine w_lp (ι:=Nat) (fun (i:Nat)=>[(3,.own (N+1) i i),(11,iv (i:Int)),(5,.any)]++rn' 12 9) (fun (i:Nat)=>[(1,.mk i 9 1 (rows strC ((z.map (·.1)).take i)))]) (fun (i:Nat)=>i≤z.length) (fun (i:Nat)=>z.length-i) (0) (by exact Nat.zero_le _) ?_
 rintro i hi1
 try simp only[sm',Nat.reduceAdd]
 replace hi1:i≤z.length:=hi1
 have htl:((z.map (·.1)).take i).length=i:=by rw[List.length_take,List.length_map];omega
 refine wr'<|Vw (ZaO lk lk)<|sn'<|Zac<|?_
 refine cd' lk (fun hc1=>?_) (fun hc1=>?_)
 ·have hi:i<z.length:=by omega
  have htk:(z.map (·.1)).take (i+1)=(z.map (·.1)).take i++[z[i].1]:=by rw[List.take_succ_eq_append_getElem (by simpa using hi)];simp
  refine za<|Zac<|Zaf<|wr'<|?_
  refine V' (ZaJ lk lk Zcp nb ro om ro rfl) pt ?_
  refine Vw (Zas lk Zgu rfl)<|E' (ZaV hl2 ha2) pt<|E' (Zai lk cv gx rfl nb rfl Zfk hs2) ptn<|sn'<|Zap<|mw<|fq<|Vw (Zaa lk gx gt0)<|E' (Zcz (Zgx cv rfl) hl3 ha3) pt<|?_
  refine E' (ZbK (Zbp lk (hga hn rfl) rfl Zgv nb) lk (hga hn rfl) ((Zeh _).trans (by rw[htl])) om rfl hs1) pt ?_
  refine mw<|Zam<|Zau<|Zan<|Zap<|?_
  refine ad<|mw<|Zam<|Zaz<|?_
  refine lU' (i+1) (by (try dsimp only);omega) (by refine zz ?_;exact bk' 2 hn hlt (by rw[htk,ZaF,ZkC];rfl))
 have hie:i=z.length:=by omega
 subst hie
 rw[show (z.map (·.1)).take z.length=z.map (·.1) from List.take_of_length_le (by simp)]
 refine Zay<|Zar<|Zar<|ZaN<|Zan<|Zac<|wr'<|fq<|Vw (Zaa lk gx gt2)<|Vw (ZaA lk)<|ms<|?_
 refine Zaf ?_
 refine ZeB (ι:=Nat) (fun (j:Nat)=>[(3,.own (N+1) (z.length+j) (z.length+j)),(24,iv (j:Int)),(7,.any)]++rn' 25 9) (fun (j:Nat)=>[(1,.mk (z.length+j) 9 1 (rows strC (z.map (·.1)++(k.map (·.2)).take j)))]) (fun (j:Nat)=>j≤k.length) (fun (j:Nat)=>k.length-j) (0) (by exact Nat.zero_le _) (by try simp only[sm',Nat.reduceAdd];exact ALe.same wA' (by rw[List.take_zero,List.append_nil];rfl)) ?_
 rintro j hi2
 try simp only[sm',Nat.reduceAdd]
 replace hi2:j≤k.length:=hi2
 have htl2:(z.map (·.1)++(k.map (·.2)).take j).length=z.length+j:=by rw[List.length_append,List.length_map,List.length_take,List.length_map];omega
 refine wr'<|Vw (ZaO lk lk)<|sn'<|Zac<|?_
 refine cd' lk (fun hc2=>?_) (fun hc2=>?_)
 ·have hj:j<k.length:=by omega
  have htk2:(k.map (·.2)).take (j+1)=(k.map (·.2)).take j++[k[j].2]:=by rw[List.take_succ_eq_append_getElem (by simpa using hj)];simp
  refine za<|Zac<|Zaf<|wr'<|?_
  refine V' (ZaJ lk lk Zbf nb ro om ro rfl) pt ?_
  refine Vw (Zas lk Zgu rfl)<|E' (ZaV hl2 ha2) pt<|E' (Zai lk cv gx rfl nb rfl Zfk hs2) ptn<|sn'<|Zap<|mw<|fq<|Vw (Zaa lk gx gt1)<|E' (Zcz (Zgw cv rfl) hl3 ha3) pt<|?_
  refine E' (ZbK (Zbp lk (hga hn rfl) rfl Zgv nb) lk (hga hn rfl) ((Zeh _).trans (by rw[htl2])) om rfl hs1) pt ?_
  refine mw<|Zam<|Zau<|Zan<|Zap<|?_
  refine ad<|mw<|Zam<|Zaz<|?_
  refine lU' (j+1) (by (try dsimp only);omega) (by refine zz ?_;exact bk' 2 hn hlt (by simp only[htk2,ZaF,ZkC,List.append_assoc];rfl))
 have hje:j=k.length:=by omega
 subst hje
 rw[show (k.map (·.2)).take k.length=k.map (·.2) from List.take_of_length_le (by simp)]
 refine Zay<|Zar<|Zar<|ZaN<|Zan<|wm<|mr<|Zae rz<|?_
 rw[←hq,hnl,hn];exact⟨rfl,rfl⟩
theorem names_q {a:List Rul}{z:List Zon}{k:List Lnk}{h:AH}(hz:z.length≤20) (hk:k.length≤20):Ac 159 [.agg (srcB a z k)] h (.sl (Zc0 z k).length 1 false (rows strC (Zc0 z k))):=by
 have hnl:=ZgO z k
 have hkk:=hk
 refine tW' k159 fun N hn hlt _ hbd=>?_
 simp only[tb'] at hbd ⊢
 refine wr'<|E' (ZaR (cvl lk0 rfl) rfl hl0 ha0) pt1<|mv' lkn pt2<|sn'<|wr'<|mv' lkn pt3<|Zam<|ZaP (ALe.own0' (st':=1) (ty:=9) gt3 hl1 pt3 ha1)<|Zac<|wr'<|?_
 refine fq<|Vw (Zaa lk gx gt1)<|Vw (ZaA lk)<|ms<|Zaf<|?_
 refine w_lp (ι:=Nat) (fun (i:Nat)=>[(3,.own (N+1) i i),(11,iv (i:Int)),(5,.any)]++rn' 12 9) (fun (i:Nat)=>[(1,.mk i 9 1 (rows strC ((z.map (·.1)).take i)))]) (fun (i:Nat)=>i≤z.length) (fun (i:Nat)=>z.length-i) (0) (by exact Nat.zero_le _) ?_
 rintro i hi1
 try simp only[sm',Nat.reduceAdd]
 replace hi1:i≤z.length:=hi1
 have htl:((z.map (·.1)).take i).length=i:=by rw[List.length_take,List.length_map];omega
 refine wr'<|Vw (ZaO lk lk)<|sn'<|Zac<|?_
 refine cd' lk (fun hc1=>?_) (fun hc1=>?_)
 ·have hi:i<z.length:=by omega
  have htk:(z.map (·.1)).take (i+1)=(z.map (·.1)).take i++[z[i].1]:=by rw[List.take_succ_eq_append_getElem (by simpa using hi)];simp
  refine za<|Zac<|Zaf<|wr'<|?_
  refine V' (ZaJ lk lk Zcp nb ro om ro rfl) pt ?_
  refine Vw (Zas lk Zgu rfl)<|E' (ZaV hl2 ha2) pt<|E' (Zai lk cv gx rfl nb rfl Zfk hs2) ptn<|sn'<|Zap<|mw<|fq<|Vw (Zaa lk gx gt0)<|E' (Zcz (Zgx cv rfl) hl3 ha3) pt<|?_
  refine E' (ZbK (Zbp lk (hga hn rfl) rfl Zgv nb) lk (hga hn rfl) ((Zeh _).trans (by rw[htl])) om rfl hs1) pt ?_
  refine mw<|Zam<|Zau<|Zan<|Zap<|?_
  refine ad<|mw<|Zam<|Zaz<|?_
  refine lU' (i+1) (by (try dsimp only);omega) (by refine zz ?_;exact bk' 2 hn hlt (by rw[htk,ZaF,ZkC];rfl))
 have hie:i=z.length:=by omega
 subst hie
 rw[show (z.map (·.1)).take z.length=z.map (·.1) from List.take_of_length_le (by simp)]
 refine Zay<|Zar<|Zar<|ZaN<|Zan<|Zac<|wr'<|fq<|Vw (Zaa lk gx gt2)<|Vw (ZaA lk)<|ms<|?_
 refine Zaf ?_
 refine ZeB (ι:=Nat) (fun (j:Nat)=>[(3,.own (N+1) (z.length+j) (z.length+j)),(24,iv (j:Int)),(7,.any)]++rn' 25 9) (fun (j:Nat)=>[(1,.mk (z.length+j) 9 1 (rows strC (z.map (·.1)++(k.map (·.2)).take j)))]) (fun (j:Nat)=>j≤k.length) (fun (j:Nat)=>k.length-j) (0) (by exact Nat.zero_le _) (by try simp only[sm',Nat.reduceAdd];exact ALe.same wA' (by rw[List.take_zero,List.append_nil];rfl)) ?_
 rintro j hi2
 try simp only[sm',Nat.reduceAdd]
 replace hi2:j≤k.length:=hi2
 have htl2:(z.map (·.1)++(k.map (·.2)).take j).length=z.length+j:=by rw[List.length_append,List.length_map,List.length_take,List.length_map];omega
 refine wr'<|Vw (ZaO lk lk)<|sn'<|Zac<|?_
 refine cd' lk (fun hc2=>?_) (fun hc2=>?_)
 ·have hj:j<k.length:=by omega
  have htk2:(k.map (·.2)).take (j+1)=(k.map (·.2)).take j++[k[j].2]:=by rw[List.take_succ_eq_append_getElem (by simpa using hj)];simp
  refine za<|Zac<|Zaf<|wr'<|?_
  refine V' (ZaJ lk lk Zbf nb ro om ro rfl) pt ?_
  refine Vw (Zas lk Zgu rfl)<|E' (ZaV hl2 ha2) pt<|E' (Zai lk cv gx rfl nb rfl Zfk hs2) ptn<|sn'<|Zap<|mw<|fq<|Vw (Zaa lk gx gt1)<|E' (Zcz (Zgw cv rfl) hl3 ha3) pt<|?_
  refine E' (ZbK (Zbp lk (hga hn rfl) rfl Zgv nb) lk (hga hn rfl) ((Zeh _).trans (by rw[htl2])) om rfl hs1) pt ?_
  refine mw<|Zam<|Zau<|Zan<|Zap<|?_
  refine ad<|mw<|Zam<|Zaz<|?_
  refine lU' (j+1) (by (try dsimp only);omega) (by refine zz ?_;exact bk' 2 hn hlt (by simp only[htk2,ZaF,ZkC,List.append_assoc];rfl))
 have hje:j=k.length:=by omega
 subst hje
 rw[show (k.map (·.2)).take k.length=k.map (·.2) from List.take_of_length_le (by simp)]
 refine Zay<|Zar<|Zar<|ZaN<|?_
 refine ZaP (ALe.iceR (hga hn rfl) gt3 (List.take_of_length_le (by rw[Zeh];simp)) (by rw[Zeh];simp) pt3 hs1) ?_
 refine wm<|mr<|Zae rz<|rtW'<|?_
 rw[hnl];exact Wk.full
theorem twice_a {a:List Rul}{z:List Zon}{k:List Lnk}{h:AH}(hz:z.length≤20) (hk:k.length≤20):Ac 91 [.agg (srcB a z k)] h (bv (decide (¬(Zc0 z k).Nodup))):=by
 have hnl:=ZgO z k
 have hsl:=Ztd (Zc0 z k)
 refine tU' k91 fun N hn _ _ hbd=>?_
 simp only[tb'] at hbd ⊢
 refine wr'<|E' (ZaR cv rfl hl0 ha0) pt<|mw<|Zam<|?_
 refine ZaP (ALe.icePtr gx gt1 (by simp) pt1 hs0) ?_
 refine wr'<|Vw (Zas lk ZmC rfl)<|?_
 refine s_callh mp ((names_o (q:=N+2) (by rw[hl1 hn]) hz hk).mono (fun x h' hh=>⟨hh.1,hh.2.trans (show _=h++[_,_,_] from List.append_assoc _ _ _)⟩)) pt ?_
 refine ms<|wm<|?_
 refine Zh3 mp (Znm gx om) hs2 pt ?_
 refine sn'<|Zac<|Zly<|uf vm<|?_
 refine ZhW mp gx (fun hU hUe=>(by have:=Zn8 (h:=hU) (l:=Zei (Zc0 z k)) hUe om;rwa [hsl] at this)) nh hs2 pt ?_
 refine uf (Zcm lk)<|uf (Zas lk ZmC rfl)<|?_
 refine ZsN mp (fun hU=>names_q hz hk) pt ?_
 refine uf (ZaA lk)<|uf (ZaO lk lk)<|uf vm<|ZsM<|Zan<|Zbe<|Zae rz<|rT'<|?_
 exact bvx (by rw[←ZsO];simp)
end
section
open Go.Ab Go.RowKit Civ
attribute [local simp] ZbL Zce ZbZ Zbv Zbi ZdB ZdH
section
theorem Zow {a0 a1 a2 a3 a4 a5 a6 a7 a8 a9 c0 c1 c2 c3 c4 c5 c6 c7 c8 c9:AV}{l:List AV}:setCells (a0::a1::a2::a3::a4::a5::a6::a7::a8::a9::l) 0 [c0,c1,c2,c3,c4,c5,c6,c7,c8,c9]=c0::c1::c2::c3::c4::c5::c6::c7::c8::c9::l:=rfl
theorem Zdq {a0 c0:AV}{l:List AV}:setCells (a0::l) 0 [c0]=c0::l:=rfl
theorem Zgt {a0 a1 a2:AV}{l:List AV}:(a0::a1::a2::l).take 3=[a0,a1,a2]:=rfl
end
def c45p:AC:=(.seq (.reg [⟨(some 1),none,(.box 53 3 (.tmp 0))⟩,⟨(some 2),none,(.new 31 1 [(iv 0)])⟩]) (.seq (.reg [⟨(some 7),none,(.load true 3 (.tmp 1))⟩,⟨(some 8),none,(.call (.func 90) [(.tmp 7)])⟩,⟨(some 3),none,(.mv (.tmp 8))⟩]) (.seq (.block 0 (.seq (.reg [⟨(some 10),none,(.mv (.tmp 3))⟩,⟨(some 11),none,(.bin .neq (.tmp 10) (.const (.int .i64 0)))⟩,⟨(some 9),none,(.mv (.tmp 11))⟩]) (.cond (.tmp 9) (.seq (.reg [⟨(some 12),none,(.mv (.tmp 3))⟩,⟨none,none,(.store 1 (.tmp 2) (.tmp 12))⟩]) .ret) (.seq (.reg [⟨(some 14),none,(.load true 3 (.tmp 1))⟩,⟨(some 15),none,(.call (.func 91) [(.tmp 14)])⟩,⟨(some 13),none,(.mv (.tmp 15))⟩]) (.cond (.tmp 13) (.seq (.reg [⟨none,none,(.store 1 (.tmp 2) (.const (.int .i64 6)))⟩]) .ret) (.seq (.reg [⟨(some 17),none,(.load true 3 (.tmp 1))⟩,⟨(some 18),none,(.call (.func 92) [(.tmp 17)])⟩,⟨(some 16),none,(.mv (.tmp 18))⟩]) (.cond (.tmp 16) (.seq (.reg [⟨none,none,(.store 1 (.tmp 2) (.const (.int .i64 5)))⟩]) .ret) .skip))))))) (.seq (.reg [⟨(some 19),none,(.load true 3 (.tmp 1))⟩,⟨(some 20),none,(.call (.func 93) [(.tmp 19)])⟩]) .skip))))
def c45a:AC:=(.reg [⟨(some 4),none,(.new 144 10 [(iv 0),(.v (.string ⟨#[]⟩)),(iv 0),(.v (.string ⟨#[]⟩)),(.v (.bool false)),(iv 0),(iv 0),(iv 0),(iv 0),(iv 0)])⟩,⟨none,none,(.store 10 (.tmp 4) (.tmp 21))⟩])
def c45b:AC:=(.block 2 (.seq (.seq (.reg [⟨(some 22),none,(.fa 1 (.tmp 4))⟩,⟨(some 23),none,(.load false 1 (.tmp 22))⟩,⟨(some 24),none,(.bin .eql (.tmp 23) (.const (.string ⟨#[]⟩)))⟩]) (.cond (.tmp 24) (.exit 2) .skip)) (.seq (.reg [⟨(some 26),none,(.fa 0 (.tmp 1))⟩,⟨(some 27),none,(.load false 1 (.tmp 26))⟩,⟨(some 28),none,(.fa 1 (.tmp 4))⟩,⟨(some 29),none,(.load false 1 (.tmp 28))⟩,⟨(some 30),none,(.fa 0 (.tmp 4))⟩,⟨(some 31),none,(.load false 1 (.tmp 30))⟩,⟨(some 32),none,(.call (.func 94) [(.tmp 27),(.tmp 29),(.tmp 31)])⟩,⟨(some 25),none,(.mv (.tmp 32))⟩,⟨(some 33),none,(.ext (.tmp 25) 0)⟩,⟨(some 34),none,(.ext (.tmp 25) 1)⟩,⟨(some 5),none,(.mv (.tmp 33))⟩,⟨(some 6),none,(.mv (.tmp 34))⟩]) (.seq (.reg [⟨(some 35),none,(.mv (.tmp 6))⟩,⟨(some 36),none,(.bin .neq (.tmp 35) (.const (.int .i64 0)))⟩]) (.cond (.tmp 36) (.seq (.reg [⟨(some 37),none,(.mv (.tmp 6))⟩,⟨none,none,(.store 1 (.tmp 2) (.tmp 37))⟩]) .ret) .skip)))))
def c45q:AC:=(.seq (.reg [⟨(some 38),none,(.fa 1 (.tmp 1))⟩,⟨(some 39),none,(.load false 1 (.tmp 38))⟩,⟨(some 40),none,(.call (.func 95) [(.tmp 39),(.func 96)])⟩]) (.seq (.cond (.tmp 40) (.seq (.reg [⟨none,none,(.store 1 (.tmp 2) (.const (.int .i64 4)))⟩]) .ret) .skip) (.seq (.reg [⟨none,none,(.store 1 (.tmp 2) (.const (.int .i64 0)))⟩]) (.seq .ret .skip))))
abbrev fr45:AFR:=⟨[(.reg [⟨(some 1),none,(.box 53 3 (.tmp 0))⟩,⟨(some 2),none,(.new 31 1 [(iv 0)])⟩]),(.reg [⟨(some 7),none,(.load true 3 (.tmp 1))⟩,⟨(some 8),none,(.call (.func 90) [(.tmp 7)])⟩,⟨(some 3),none,(.mv (.tmp 8))⟩]),(.block 0 (.seq (.reg [⟨(some 10),none,(.mv (.tmp 3))⟩,⟨(some 11),none,(.bin .neq (.tmp 10) (.const (.int .i64 0)))⟩,⟨(some 9),none,(.mv (.tmp 11))⟩]) (.cond (.tmp 9) (.seq (.reg [⟨(some 12),none,(.mv (.tmp 3))⟩,⟨none,none,(.store 1 (.tmp 2) (.tmp 12))⟩]) .ret) (.seq (.reg [⟨(some 14),none,(.load true 3 (.tmp 1))⟩,⟨(some 15),none,(.call (.func 91) [(.tmp 14)])⟩,⟨(some 13),none,(.mv (.tmp 15))⟩]) (.cond (.tmp 13) (.seq (.reg [⟨none,none,(.store 1 (.tmp 2) (.const (.int .i64 6)))⟩]) .ret) (.seq (.reg [⟨(some 17),none,(.load true 3 (.tmp 1))⟩,⟨(some 18),none,(.call (.func 92) [(.tmp 17)])⟩,⟨(some 16),none,(.mv (.tmp 18))⟩]) (.cond (.tmp 16) (.seq (.reg [⟨none,none,(.store 1 (.tmp 2) (.const (.int .i64 5)))⟩]) .ret) .skip))))))),(.reg [⟨(some 19),none,(.load true 3 (.tmp 1))⟩,⟨(some 20),none,(.call (.func 93) [(.tmp 19)])⟩])],(.tmp 20),#[21],c45a,c45b,c45q,[(.cell 2 false 1)],41⟩
theorem k45:Zhs Tryz.prog 45=some fr45:=by kernel_rfl
def errX (a:List Rul) (x:Era):Int:=if xRl x=⟨#[]⟩ then 0 else (Za0 a (xRl x) (xSh x)).2
def ZbC (s:Src):Int :=
 if Zc6 s≠0 then Zc6 s else if ¬(Zc0 s.2.1 s.2.2).Nodup then 6 else if Zid s=true then 5
 else if Zbc (errX s.1) (Zdg s.2.1)≠0 then Zbc (errX s.1) (Zdg s.2.1)
 else if (s.2.1.any fun z=>!risL (ZaI z.2))=true then 4 else 0
theorem Ziq {p:Era→Int}{l:List Era}:Zbc p l=match l.find? (fun x=>decide (p x≠0)) with
  | none=>0
  | some x=>p x:=by
 induction l with
 | nil=>rfl
 | cons x l ih =>
  rw[Zbc,List.find?_cons]
  by_cases h:p x≠0
  ·rw[if_pos h,decide_eq_true h]
  rw[if_neg h,decide_eq_false h];exact ih
theorem ZdD {s:Src}(h:Zc6 s=0):s.1.length≤40∧s.2.1.length≤20∧s.2.2.length≤20∧(∀ z∈s.2.1,z.2.length≤8)∧(∀ r∈s.1,Zbo r=0)∧(∀ z∈s.2.1,ZhT z=0) ∧ ∀ l∈s.2.2,Zii l=0:=by
 unfold Zc6 at h
 split at h
 ·cases h
 rename_i h1
 split at h
 ·rename_i h2;exact absurd h h2
 rename_i h2
 split at h
 ·rename_i h3;exact absurd h h3
 rename_i h3
 have h1:Zl9 s=false:=by simpa using h1
 unfold Zl9 at h1
 simp only[Bool.or_eq_false_iff,decide_eq_false_iff_not,List.any_eq_false,decide_eq_true_eq] at h1
 exact⟨by omega,by omega,by omega,fun z hz=>by have:=h1.1.1.1 z hz;omega,Zcw (Decidable.of_not_not h2),Zcw (Decidable.of_not_not h3),Zcw h⟩
theorem Zfg {s:Src}(h:Zc6 s=0) {z:Zon}(hz:z∈s.2.1):okZ z.2:=by
 obtain⟨_,_,_,h4,_,h6,_⟩:=ZdD h
 exact okZ_of (h6 z hz) (h4 z hz)
abbrev chkT (N:Nat) (a:List Rul) (z:List Zon) (k:List Lnk) (x:AV):List AV:=[.any,.rp (srcB a z k),.ptr (N+1) 0 0,.any,.any,.any,.any,.any,.any,.any,.any,.any,.any,.any,.any,.any,.any,.any,.any,.any,.clo (.func 167) [.rp (srcB a z k)],x,.any,.any,.any,.any,.any,.any,.any,.any,.any,.any,.any,.any,.any,.any,.any,.any,.any,.any,.any]
theorem chkT_lt {N:Nat}{a:List Rul}{z:List Zon}{k:List Lnk}:AV.ltL (N+4) (chkT N a z k .any)=true:=by simp[AV.ltL,AV.lt,ZbL,ZbZ,Zbv]
theorem ZiB {h:AH}{lp N D:Nat}{rdy bsy fin:Obj}{a:List Rul}{z:List Zon}{k:List Lnk}{vs:List Value}(hn:h.length=N) (hlt : ∀ e∈h,e.lt N=true) (ha:a.length≤9223372036854775807) (hok:okRs a)
  (hY:Zll Tryz.prog fr45 (N+2+1) lp rdy bsy fin (chkT N a z k .any) vs) {x:Era} {e f:Ent} :
  AYield Tryz.prog lp [.agg (eraC x)] (ergJ h D lp 31 rdy (chkT N a z k .any) vs (iv 0) e f) fun r h''=>r=.ret (.v (.bool (!decide (errX a x≠0))))∧h''=ergJ h D lp 31 (if errX a x≠0 then fin else rdy) (chkT N a z k .any) vs (iv (errX a x)) e f:=by
 refine y_go hY (hga (k:=3) hn rfl) rfl fun n0 hn0 hlt0 q1 q2 q3=>?_
 have hm:n0=N+6:=by rw[←hn0];simp[hn]
 have hE:=hlt0 e (by simp)
 have hF:=hlt0 f (by simp)
 have hR:=hlt0 (.raw lp rdy (chkT N a z k .any) vs) (by simp)
 show aw _ _ c45a _ _ _
 show aw _ _ _ _ (chkT N a z k (.agg (eraC x))) (h++[.gone,.mk 0 31 1 [iv 0],mkD D,.raw lp rdy (chkT N a z k .any) vs,e,f])
 refine Zap<|E' (ZaV hl6 ha6) pt<|E' (Zai lk cv gx rfl nb rfl Zow hs6) ptn<|Zam<|?_
 refine ZvA (i:=N+3) gx hs3 fun n1 hn1 hlt1=>?_
 have hro : ∀ o:Obj,Ent.lt n0 (.raw lp o (chkT N a z k .any) vs)=true:=fun o=>by simpa [Ent.lt] using hR
 have fin2 : ∀ (n:Int) (b:Bool) (o:Obj) (E:Ent),n=errX a x→b=!decide (errX a x≠0)→o=(if errX a x≠0 then fin else rdy) → ∃ y z',h++[.gone,.mk 0 31 1 [iv n],mkD D,.raw lp o (chkT N a z k .any) vs,e,f,E]=y++z'∧y.length=n0∧(∀ e∈y,e.lt n0=true)∧(AE.ret (.v (.bool b))).lt n0=true∧AE.ret (.v (.bool b))=.ret (.v (.bool (!decide (errX a x≠0))))∧y=ergJ h D lp 31 (if errX a x≠0 then fin else rdy) (chkT N a z k .any) vs (iv (errX a x)) e f:=by
  rintro n b o E rfl rfl rfl
  refine⟨_,_,app61,by rw[←hn0];simp,fun y hy=>?_,rfl,rfl,rfl⟩
  rcases List.mem_append.1 hy with hy | hy
  ·exact ltw om hlt y hy
  simp only[List.mem_cons,List.not_mem_nil,or_false] at hy
  rcases hy with rfl | rfl | rfl | rfl | rfl | rfl
  ·simp[Ent.lt]
  ·simp[Ent.lt,AV.ltL,AV.lt]
  ·simp[Ent.lt,AV.ltL]
  ·exact hro _
  ·exact hE
  exact hF
 show aw _ _ c45b _ _ _
 refine Zaf<|Zac<|wr'<|fq<|Vw (Zaa lk gx gt1)<|Vw (ZfX lk lks)<|sn'<|?_
 refine cd' lk (fun hc1=>?_) (fun hc1=>?_)
 ·have hP:errX a x=0:=if_pos hc1
  refine Zay<|Zar<|ZaN<|?_
  exact ZiF (i:=N+3) (hga hn rfl) hs3 (fin2 0 true rdy _ hP.symm (by rw[hP];rfl) (by rw[hP];rfl))
 have hP:errX a x=(Za0 a (xRl x) (xSh x)).2:=if_neg hc1
 refine za<|wr'<|Vw (Zbl lk dp0)<|Vw (Zax lk gt)<|fq<|Vw (Zaa lk gx gt1)<|fq<|Vw (Zaa lk gx gt0)<|Zad mp (ZsW hok ha) pt<|mw<|Vw (ZaQ lk gt)<|Vw (ZaQ lk gt)<|?_
 refine mw<|ms<|wm<|Vw (Zba lk lki)<|sn'<|?_
 refine cd' lk (fun hc2=>?_) (fun hc2=>?_)
 ·have hP2:errX a x≠0:=by rw[hP];exact hc2
  refine wm<|E' (Zai lk cv gx rfl nb rfl Zdq hs1) ptn<|sr<|Zaq<|?_
  refine Zqr (i:=N+3) (hga hn rfl) hs3 (fin2 _ false fin _ hP.symm (by rw[decide_eq_true hP2];rfl) (by rw[if_pos hP2]))
 have hP2:errX a x=0:=by rw[hP];exact Decidable.of_not_not hc2
 refine ZaB<|Zau<|?_
 exact ZiF (i:=N+3) (hga hn rfl) hs3 (fin2 0 true rdy _ hP2.symm (by rw[hP2];rfl) (by rw[hP2];rfl))
theorem Zrj {h:AH}{lp N D:Nat}{rdy bsy fin:Obj}{a:List Rul}{z:List Zon}{k:List Lnk}{vs:List Value}(hn:h.length=N) (hlt : ∀ e∈h,e.lt N=true) (hok:okRs a) (hc:Zc6 (a,z,k)=0)
    (hY:Zll Tryz.prog fr45 (N+2+1) lp rdy bsy fin (chkT N a z k .any) vs) (hnd:(Zc0 z k).Nodup) (hms:Zid (a,z,k)=false) {R:AE→AH→Prop} (hR:R=fun x h' => ∃ z',h'=h++z'∧x.lt N=true∧x=.ret (iv (ZbC (a,z,k)))) :
    ACalls Tryz.prog 167 (.v (.func (.yield lp) #[] #[])::[.rp (srcB a z k)]) (ergH h D lp 31 rdy (chkT N a z k .any) vs (iv 0)) fun r h3=>(∃ c,r=.ret c) ∧
      ((h3[N+2+1]?=some (.raw lp rdy (chkT N a z k .any) vs) ∧ ∀ n0,(h3.set (N+2+1) .gone).length=n0→(∀ e∈h3.set (N+2+1) .gone,e.lt n0=true)→aw Tryz.prog n0 fr45.post (ZeR fr45.res (N+2) D R) (chkT N a z k .any) (h3.set (N+2+1) .gone)) ∨
       (h3[N+2+1]?=some (.raw lp fin (chkT N a z k .any) vs)∧ZeR fr45.res (N+2) D R .ret (chkT N a z k .any) (h3.set (N+2+1) .gone))):=by
  obtain⟨q1,q2,q3,q4,q5,q6,q7⟩:=ZdD hc
  simp only at q1 q2 q3 q4 q5 q6 q7
  have hZ:ZbC (a,z,k)=if Zbc (errX a) (Zdg z)≠0 then Zbc (errX a) (Zdg z) else if (z.any fun z=>!risL (ZaI z.2))=true then 4 else 0:=by
    unfold ZbC
    rw[if_neg (by rw[hc];simp),if_neg (by simpa using hnd),if_neg (by rw[hms];simp)]
  refine (ZuP (h:=ergH h D lp 31 rdy (chkT N a z k .any) vs (iv 0)) (p:=fun x=>decide (errX a x≠0)) (hS:=fun x=>ergH h D lp 31 fin (chkT N a z k .any) vs (iv (errX a x))) q2 q4 (fun _=>(hl4 hn).trans (hl4 hn).symm) (fun _=>by rw[hl4 hn];exact ZuO hlt chkT_lt rfl) (fun x _ e f hp=>?_) (fun x _ e f hp=>?_)).mono ?_
  · have hp':errX a x=0:=by simpa using hp
    have:=ZiB (e:=e) (f:=f) (D:=D) (x:=x) hn hlt om hok hY
    rw[hp'] at this
    rw[ZgX]
    exact this
  · have hp':errX a x≠0:=by simpa using hp
    have:=ZiB (e:=e) (f:=f) (D:=D) (x:=x) hn hlt om hok hY
    rw[if_pos hp',decide_eq_true hp'] at this
    rw[ZgX,ZgX]
    exact this
  rintro x h3 ⟨rfl,rfl⟩
  refine⟨⟨_,rfl⟩,?_⟩
  rw[Ziq] at hZ
  subst hR
  cases hf:(Zdg z).find? (fun x=>decide (errX a x≠0)) with
  | none =>
    rw[hf] at hZ
    simp only[ne_eq,not_true_eq_false,if_false] at hZ
    refine .inl ⟨hga (k:=3) hn rfl,fun n0 hn0 _=>?_⟩
    have hs:(ergH h D lp 31 rdy (chkT N a z k .any) vs (iv 0)).set (N+2+1) .gone=h++[.gone,.mk 0 31 1 [iv 0],mkD D,.gone]:=hs3 hn
    show aw _ _ _ _ _ ((ergH h D lp 31 rdy (chkT N a z k .any) vs (iv 0)).set (N+2+1) .gone)
    rw[hs]
    show aw _ _ c45q _ _ _
    refine wr'<|Vw (Zbl lk dp1)<|Vw (Zax lk gt)<|?_
    refine Zad mp (Zuy (p:=fun z:Zon=>!risL (ZaI z.2)) (fun c hc' _=>check1_a (Zfg (s:=(a,z,k)) hc hc')) om) pt ?_
    refine sn'<|Zac<|?_
    refine Zav lk (fun hc1=>?_) (fun hc1=>?_)
    · rw[if_pos hc1] at hZ
      refine wr'<|E' (Zai lk (cvl lki rfl) gx rfl nb rfl Zdq hs1) ptn<|sr<|Zah<|?_
      refine ZdL gx hs2 (rs1 (rr_c gt gx (ld0 gt))) ?_
      refine rT' ?_
      rw[hZ]
    rw[if_neg (by rw[hc1];simp)] at hZ
    refine za<|wr'<|E' (Zai lk (cvl lki rfl) gx rfl nb rfl Zdq hs1) ptn<|sn'<|Zac<|Zbe<|Zah<|?_
    refine ZdL gx hs2 (rs1 (rr_c gt gx (ld0 gt))) ?_
    refine rT' ?_
    rw[hZ]
  | some x =>
    rw[hf] at hZ
    have hx:errX a x≠0:=by have:=List.find?_some hf;simpa using this
    simp only at hZ
    rw[if_pos hx] at hZ
    refine .inr ⟨hga (k:=3) hn rfl,?_⟩
    have hs:(ergH h D lp 31 fin (chkT N a z k .any) vs (iv (errX a x))).set (N+2+1) .gone=h++[.gone,.mk 0 31 1 [iv (errX a x)],mkD D,.gone]:=hs3 hn
    show ZeR _ _ _ _ _ _ ((ergH h D lp 31 fin (chkT N a z k .any) vs (iv (errX a x))).set (N+2+1) .gone)
    rw[hs]
    exact ZdL (hga (k:=2) hn rfl) hs2 (rs1 (rr_c gt (hga (k:=1) hn rfl) (ld0 gt))) (rT' (by rw[hZ]))
theorem Znz {s:Src}(h:Zny s):okRs s.1:=fun r hr=>h.1 r hr
theorem zcheck_a {a:List Rul}{z:List Zon}{k:List Lnk}{h:AH}(hok:Zny (a,z,k)):Ac 45 [.agg (srcB a z k)] h (iv (ZbC (a,z,k))):=by
 refine tR' k45 fun N hn hlt _ hbd=>?_
 show aw _ _ c45p _ _ _
 show aw _ _ _ _ [.agg (srcB a z k),.any,.any,.any,.any,.any,.any,.any,.any,.any,.any,.any,.any,.any,.any,.any,.any,.any,.any,.any,.any,.any,.any,.any,.any,.any,.any,.any,.any,.any,.any,.any,.any,.any,.any,.any,.any,.any,.any,.any,.any] _
 refine wr'<|E' (ZaR cv rfl hl0 ha0) pt<|E' (ZaV hl1 ha1) pt<|Zam<|?_
 refine ZaP (ALe.icePtr gx gt1 (by simp) pt1 hs0) ?_
 refine wr'<|Vw (Zas lk Zgt rfl)<|Zad mp (scheck_b hok) pt<|ms<|Zac<|Zaf<|wm<|Vw (Zba lk lki)<|mw<|?_
 refine sn' ?_
 refine cd' lk (fun hc1=>?_) (fun hc1=>?_)
 ·have hZ:ZbC (a,z,k)=Zc6 (a,z,k):=if_pos hc1
  refine wm<|E' (Zai lk cv gx rfl nb rfl Zdq hs1) ptn<|sr<|Zaq<|Zah<|?_
  refine Zh6 (rs1 (rr_c gt gx (ld0 gt))) ?_
  refine rT' ?_
  rw[hZ]
 have hc:Zc6 (a,z,k)=0:=Decidable.of_not_not hc1
 obtain⟨q1,q2,q3,q4,q5,q6,q7⟩:=ZdD hc
 simp only at q1 q2 q3 q4 q5 q6 q7
 refine wr'<|Vw (Zas lk Zgt rfl)<|Zad mp (twice_a q2 q3) pt<|ms<|?_
 refine Zav lk (fun hc2=>?_) (fun hc2=>?_)
 ·have hZ:ZbC (a,z,k)=6:=by unfold ZbC;rw[if_neg hc1,if_pos (of_decide_eq_true hc2)]
  refine wr'<|E' (Zai lk (cvl lki rfl) gx rfl nb rfl Zdq hs1) ptn<|sr<|Zaq<|Zah<|?_
  refine Zh6 (rs1 (rr_c gt gx (ld0 gt))) ?_
  refine rT' ?_
  rw[hZ]
 have hnd:(Zc0 z k).Nodup:=Decidable.of_not_not (of_decide_eq_false hc2)
 refine wr'<|Vw (Zas lk Zgt rfl)<|?_
 refine Zad mp (Zud om q2 q4 om) pt ?_
 refine ms<|?_
 refine Zav lk (fun hc3=>?_) (fun hc3=>?_)
 ·have hZ:ZbC (a,z,k)=5:=by unfold ZbC;rw[if_neg hc1,if_neg (by simpa using hnd),if_pos hc3]
  refine wr'<|E' (Zai lk (cvl lki rfl) gx rfl nb rfl Zdq hs1) ptn<|sr<|Zaq<|Zah<|?_
  refine Zh6 (rs1 (rr_c gt gx (ld0 gt))) ?_
  refine rT' ?_
  rw[hZ]
 refine ZaB<|Zau<|Zan<|wr'<|Vw (Zas lk Zgt rfl)<|Zad mp (eras_a) pt<|sn'<|ZaB<|?_
 refine ZtP (T1:=chkT N a z k .any) (ALe.same wA' rfl) rfl hl2 fun lp D rdy bsy fin vs hle hlT hY=>?_
 have hgo:=Zrj (D:=D) hn hlt (Znz hok) hc hY hnd hc3 rfl
 rw[show (h++[Ent.gone,Ent.mk 0 31 1 [iv 0]]++[mkD D,Ent.raw lp rdy (chkT N a z k .any) vs]:AH)=ergH h D lp 31 rdy (chkT N a z k .any) vs (iv 0) by simp]
 exact hgo
end
section
open Go.Ab Go.RowKit Civ
attribute [local simp] ZbL Zce ZbZ Zbv Zbi ZdB ZdH
theorem ZhR {s:Src}(h:ZbC s=0):Zc6 s=0:=by
 unfold ZbC at h
 split at h
 ·rename_i hh;exact absurd h hh
 rename_i hh;exact Decidable.of_not_not hh
theorem ZgZ {s:Src}(h:ZbC s=0):Zc6 s=0∧(Zc0 s.2.1 s.2.2).Nodup∧Zid s=false∧(∀ x∈Zdg s.2.1,errX s.1 x=0) ∧ ∀ z∈s.2.1,risL (ZaI z.2)=true:=by
 have hE:=ZhR h
 unfold ZbC at h
 rw[if_neg (by simp[hE])] at h
 split at h
 ·cases h
 rename_i h1
 split at h
 ·cases h
 rename_i h2
 split at h
 ·rename_i h3;exact absurd h h3
 rename_i h3
 split at h
 ·cases h
 rename_i h4
 refine⟨hE,Decidable.of_not_not h1,by simpa using h2,Zcw (Decidable.of_not_not h3),fun z hz=>?_⟩
 simp only[List.any_eq_true,not_exists,not_and,Bool.not_eq_true',Bool.not_eq_false] at h4
 exact h4 z hz
theorem Zt1 : ∀ {l:List Trn}{sh sa:Int}{t:Tim},t∈outV sh sa l→(0≤sa∧sa≤10800)→(∀ u∈l,Zbo u.2=0) → ∃ u∈l,∃ sa',(0≤sa'∧sa'≤10800)∧t=timV sh sa' u
 | u::l,sh,sa,t,ht,hs,hr=>by
  rw[outV] at ht
  rcases List.mem_cons.1 ht with rfl | ht
  ·exact⟨u,by simp,sa,hs,rfl⟩
  have h8:=(ZbA (hr u (by simp))).2.2.2.2.2.2.2
  obtain⟨v,hv,sa',h1,h2⟩:=Zt1 ht h8 fun x hx=>hr x (by simp[hx])
  exact⟨v,by simp[hv],sa',h1,h2⟩
theorem ruleE_lt {r:Rul}(h:Zbo r=0):(rLt r).size≤24:=by
 unfold Zbo at h
 split at h
 ·cases h
 rename_i h1
 have:=(Decidable.of_not_not h1).2
 unfold Zfa at this
 simp only[Bool.and_eq_true,decide_eq_true_eq] at this
 exact this.1
theorem ZlB {l:List Rul}{nm:ByteArray}{sh:Int}{t:Tim}(ht:t∈(Za0 l nm sh).1):(-2600000000≤t.1∧t.1≤4330172800)∧(0≤t.2.1∧t.2.1≤10800)∧t.2.2.size≤24:=by
 unfold Za0 at ht
 split at ht
 ·cases ht
 rename_i h1
 split at ht
 ·cases ht
 split at ht
 ·cases ht
 obtain⟨g1,g2,g3,_⟩:=Zf9 (Decidable.of_not_not h1)
 have hm : ∀ u∈srtT (Za9 l nm),Zbo u.2=0 ∧ -2592000000≤u.1∧u.1≤4320172800:=fun u hu=>ZhF g2 ((ZkE _).mem_iff.1 hu)
 obtain⟨u,hu,sa',hs,rfl⟩:=Zt1 ht om fun u hu=>(hm u hu).1
 obtain⟨hr,hb1,hb2⟩:=hm u hu
 have ho:=Zt7 (r:=u.2) g3 hs
 obtain⟨_,_,_,_,_,_,_,h8⟩:=ZbA hr
 exact⟨⟨by show -2600000000≤u.1-offV u.2 sh sa';omega,by show u.1-offV u.2 sh sa'≤4330172800;omega⟩,h8,ruleE_lt hr⟩
theorem ZhY {l:List Rul}{nm:ByteArray}{sh:Int}:(Za0 l nm sh).1.length≤1000:=by
 unfold Za0
 split
 ·simp
 split
 ·simp
 split
 ·simp
 rw[ZdM,srt_len];omega
theorem Zt0 : ∀ {l:List Trn}{sh sa:Int},(-64800≤sh∧sh≤64800)→(0≤sa∧sa≤10800)→(∀ u∈l,Zbo u.2=0)→gapB l=false→(outV sh sa l).Pairwise fun a b=>a.1<b.1
 | [],_,_,_,_,_,_=>.nil
 | [u],_,_,_,_,_,_=>by simp[outV]
 | u::v::l,sh,sa,h1,h2,hr,hg=>by
  rw[Zgg,Bool.or_eq_false_iff] at hg
  have hu8:=(ZbA (hr u (by simp))).2.2.2.2.2.2.2
  have ih:=Zt0 (l:=v::l) (sh:=sh) (sa:=rSv u.2) h1 hu8 (fun x hx=>hr x (by simp[hx])) hg.2
  rw[outV,List.pairwise_cons]
  refine⟨fun t ht=>?_,ih⟩
  have hgap:172800≤v.1-u.1:=by have:=hg.1;simp only[decide_eq_false_iff_not] at this;omega
  have hfirst:(timV sh sa u).1<(timV sh (rSv u.2) v).1:=by
   show u.1-offV u.2 sh sa<v.1-offV v.2 sh (rSv u.2)
   unfold offV
   split <;> split <;> (try split) <;> (try split) <;> omega
  rw[outV] at ht
  rcases List.mem_cons.1 ht with rfl | ht
  ·exact hfirst
  rw[outV,List.pairwise_cons] at ih
  have:=ih.1 t ht
  omega
theorem ZsV {l:List Rul}{nm:ByteArray}{sh:Int}:(Za0 l nm sh).1.Pairwise fun a b=>a.1<b.1:=by
 unfold Za0
 split
 ·exact .nil
 rename_i h1
 split
 ·exact .nil
 rename_i h2
 split
 ·exact .nil
 obtain⟨g1,g2,g3,_⟩:=Zf9 (Decidable.of_not_not h1)
 exact Zt0 g3 om (fun u hu=>(ZhF g2 ((ZkE _).mem_iff.1 hu)).1) (by simpa using h2)
theorem risT_all (rl:List Rul) (x:Era):risT rl x:=by
 unfold risT ZaG
 split
 ·exact .nil
 exact ZsV
theorem Ze6 {rl:List Rul}{x:Era}{t:Tim}(ht:t∈ZaG rl x):(-2600000000≤t.1∧t.1≤4330172800)∧(0≤t.2.1∧t.2.1≤10800)∧t.2.2.size≤24:=by
 unfold ZaG at ht
 split at ht
 ·cases ht
 exact ZlB ht
theorem Zcu {rl:List Rul}{x:Era}:(ZaG rl x).length≤1000:=by
 unfold ZaG
 split
 ·simp
 exact ZhY
theorem ZfK {fm:ByteArray}(h:ZbX fm=true):fm.size≤24:=by
 unfold ZbX at h
 split at h
 ·cases h
 rename_i h1;omega
end
section
open Go.Ab Go.RowKit Civ
attribute [local simp] ZbL Zce ZbZ Zbv Zbi ZdB ZdH
section
theorem Zfj {a0 a1 a2 a3 a4 a5 a6 a7 a8 a9:AV}{l:List AV}:(a0::a1::a2::a3::a4::a5::a6::a7::a8::a9::l).take 10=[a0,a1,a2,a3,a4,a5,a6,a7,a8,a9]:=rfl
theorem Zov {τ:Operand→AV}{y0:Operand}{x0_0:AV}(h0:Zao (τ y0)=some [x0_0]) (l0:[x0_0].all leaf=true):Zak τ [(1,1,y0)] [(iv 0),(iv 0),(.v (.string ⟨#[]⟩))]=some [(iv 0),x0_0,(.v (.string ⟨#[]⟩))]:=by
 simp only[Zak,h0,l0]
 rfl
theorem Zou {τ:Operand→AV}{y0 y1:Operand}{x0_0 x1_0 x1_1 x1_2:AV}(h0:Zao (τ y0)=some [x0_0]) (l0:[x0_0].all leaf=true) (h1:Zao (τ y1)=some [x1_0,x1_1,x1_2]) (l1:[x1_0,x1_1,x1_2].all leaf=true):Zak τ [(0,1,y0),(1,3,y1)] [(iv 0),(iv 0),(iv 0),(.v (.string ⟨#[]⟩))]=some [x0_0,x1_0,x1_1,x1_2]:=by
 simp only[Zak,h0,l0,h1,l1]
 rfl
theorem Zot {τ:Operand→AV}{y0:Operand}{x0_0 x0_1 x0_2 x0_3:AV}(h0:Zao (τ y0)=some [x0_0,x0_1,x0_2,x0_3]) (l0:[x0_0,x0_1,x0_2,x0_3].all leaf=true):Zak τ [(0,4,y0)] [(iv 0),(iv 0),(iv 0),(.v (.string ⟨#[]⟩))]=some [x0_0,x0_1,x0_2,x0_3]:=by
 simp only[Zak,h0,l0]
 rfl
theorem Zos {τ:Operand→AV}:Zak τ [] [(iv 0),(iv 0),(.v (.string ⟨#[]⟩))]=some [(iv 0),(iv 0),(.v (.string ⟨#[]⟩))]:=rfl
theorem Zor {τ:Operand→AV}{y0 y1:Operand}{x0_0 x1_0 x1_1 x1_2:AV}(h0:Zao (τ y0)=some [x0_0]) (l0:[x0_0].all leaf=true) (h1:Zao (τ y1)=some [x1_0,x1_1,x1_2]) (l1:[x1_0,x1_1,x1_2].all leaf=true):Zak τ [(0,1,y0),(1,3,y1)] [(iv 0),(iv 0),(iv 0),(.v (.string ⟨#[]⟩))]=some [x0_0,x1_0,x1_1,x1_2]:=by
 simp only[Zak,h0,l0,h1,l1]
 rfl
theorem Zoq {τ:Operand→AV}{y0:Operand}{x0_0 x0_1 x0_2 x0_3:AV}(h0:Zao (τ y0)=some [x0_0,x0_1,x0_2,x0_3]) (l0:[x0_0,x0_1,x0_2,x0_3].all leaf=true):Zak τ [(0,4,y0)] [(iv 0),(iv 0),(iv 0),(.v (.string ⟨#[]⟩))]=some [x0_0,x0_1,x0_2,x0_3]:=by
 simp only[Zak,h0,l0]
 rfl
theorem ZiJ {a0 a1 a2:AV}{l:List AV}:(a0::a1::a2::l).take 3=[a0,a1,a2]:=rfl
theorem Zrt {a0 a1 a2 c0 c1 c2:AV}{l:List AV}:setCells (a0::a1::a2::l) 0 [c0,c1,c2]=c0::c1::c2::l:=rfl
theorem Zrr {a0 a1 a2:AV}{l:List AV}:((a0::a1::a2::l).drop 0).take 3=[a0,a1,a2]:=rfl
theorem Zop {τ:Operand→AV}{y0 y1:Operand}{x0_0 x1_0 x1_1 x1_2:AV}(h0:Zao (τ y0)=some [x0_0]) (l0:[x0_0].all leaf=true) (h1:Zao (τ y1)=some [x1_0,x1_1,x1_2]) (l1:[x1_0,x1_1,x1_2].all leaf=true):Zak τ [(0,1,y0),(1,3,y1)] [(iv 0),(iv 0),(iv 0),(.v (.string ⟨#[]⟩))]=some [x0_0,x1_0,x1_1,x1_2]:=by
 simp only[Zak,h0,l0,h1,l1]
 rfl
theorem ZvL { e:Ent}:([]:AH)++[e]=[e]:=rfl
theorem Zru {e0 e1 e2 e3 d0:Ent}:([e0,e1,e2,e3]:AH)++[d0]=[e0,e1,e2,e3,d0]:=rfl
theorem Zrs {a0 a1 a2 a3 c0 c1 c2 c3:AV}{l:List AV}:setCells (a0::a1::a2::a3::l) 0 [c0,c1,c2,c3]=c0::c1::c2::c3::l:=rfl
theorem Zj9 {a0 a1 a2 a3:AV}{l:List AV}:((a0::a1::a2::a3::l).drop 0).take 4=[a0,a1,a2,a3]:=rfl
theorem Zoo {τ:Operand→AV}{y0:Operand}{x0_0 x0_1 x0_2 x0_3:AV}(h0:Zao (τ y0)=some [x0_0,x0_1,x0_2,x0_3]) (l0:[x0_0,x0_1,x0_2,x0_3].all leaf=true):Zak τ [(0,4,y0)] [(iv 0),(iv 0),(iv 0),(.v (.string ⟨#[]⟩))]=some [x0_0,x0_1,x0_2,x0_3]:=by
 simp only[Zak,h0,l0]
 rfl
theorem ZvJ {a0 a1 a2 a3:AV}{l:List AV}:(a0::a1::a2::a3::l).take 4=[a0,a1,a2,a3]:=rfl
theorem ZvK {a0 a1:AV}{l:List AV}:(a0::a1::l).take 2=[a0,a1]:=rfl
theorem Zom {a0 a1 a2 a3 a4 a5 a6 a7 a8 a9 c0 c1 c2 c3 c4 c5 c6 c7 c8 c9:AV}{l:List AV}:setCells (a0::a1::a2::a3::a4::a5::a6::a7::a8::a9::l) 0 [c0,c1,c2,c3,c4,c5,c6,c7,c8,c9]=c0::c1::c2::c3::c4::c5::c6::c7::c8::c9::l:=rfl
theorem ZiK {a0 a1 a2 a3 a4 a5 a6 a7 a8 a9:AV}{l:List AV}:((a0::a1::a2::a3::a4::a5::a6::a7::a8::a9::l).drop 0).take 10=[a0,a1,a2,a3,a4,a5,a6,a7,a8,a9]:=rfl
end
def c193:AC:=(Sr [Oo 3 (.box 53 3 (t 0)),Oo 4 (.box 144 10 (t 1)),Oo 6 (.mv (.const (.slice none 0 0)))] (.seq (Sr [Fa 13 1 4,Ld 14 13,Oo 15 (.bin .eql (t 14) (.const (.string ⟨#[]⟩)))] (Cd 15 (Sr [Mv 16 2,Oo 17 (.load true 10 (t 4)),Fa 18 2 4,Ld 19 18,Oo 20 (.build [(iv 0),(iv 0),Ss] [(1,(1,(t 19)))]),Cl 21 252 [(t 17),(t 20)],Oo 22 (.build [(iv 0),(iv 0),(iv 0),Ss] [(0,(1,(t 16))),(1,(3,(t 21)))]),Oo 23 (.lit 163 4 1 [(iv 0),(iv 0),(iv 0),Ss] [(0,(4,(t 22)))]),Mv 6 23] .ret) .skip)) (Sr [Fa 25 0 3,Ld 26 25,Fa 27 1 4,Ld 28 27,Fa 29 0 4,Ld 30 29,Cl 31 94 [(t 26),(t 28),(t 30)],Mv 24 31,Ex 32 24 0,Ex 33 24 1,Mv 7 32,Mv 8 33] (Sr [Mv 34 2,Oo 35 (.load true 10 (t 4)),Oo 36 (.build [(iv 0),(iv 0),Ss] []),Cl 37 252 [(t 35),(t 36)],Oo 38 (.build [(iv 0),(iv 0),(iv 0),Ss] [(0,(1,(t 34))),(1,(3,(t 37)))]),Oo 39 (.lit 163 4 1 [(iv 0),(iv 0),(iv 0),Ss] [(0,(4,(t 38)))]),Mv 9 39] (.seq (Sr [Mv 40 7,Oo 41 (.len false (t 40)),Mc 42 0] (.block 0 (.loop (Sr [Bn 43 .lss 42 41] (.seq (Cd 43 .skip (.exit 0)) (.seq (.block 1 (Sr [Oo 44 (.ia 3 (t 40) (t 42)),Oo 45 (.load true 3 (t 44)),Oo 11 (.new 174 3 [(iv 0),(iv 0),Ss]),⟨none,none,(.store 3 (t 11) (t 45))⟩] (.seq (.drw [Mv 46 2,Fa 47 0 11,Ld 48 47,Oo 49 (.mm true (t 46) (t 48)),Oo 50 (.load true 10 (t 4)),Oo 51 (.load true 3 (t 11)),Cl 52 252 [(t 50),(t 51)],Oo 53 (.build [(iv 0),(iv 0),(iv 0),Ss] [(0,(1,(t 49))),(1,(3,(t 52)))]),Oo 12 (.new 163 4 [(iv 0),(iv 0),(iv 0),Ss])] [false] [⟨none,none,(.store 4 (t 12) (t 53))⟩]) (Sr [Fa 54 0 11,Ld 55 54,Mv 56 2,Bn 57 .leq 55 56] (Cd 57 (.reg [Mv 58 9,Oo 59 (.load true 4 (t 12)),Oo 60 (.ia 4 (t 58) (Ci 0)),⟨none,none,(.store 4 (t 60) (t 59))⟩]) (.reg [Mv 61 9,Oo 62 (.load true 4 (t 12)),Oo 63 (.lit 163 4 1 [(iv 0),(iv 0),(iv 0),Ss] [(0,(4,(t 62)))]),Oo 64 (.app 163 4 40 (t 61) (t 63)),Mv 9 64])))))) (.reg [Bc 65 .add 42 1,Mv 42 65]))))))) (Sr [Mv 66 9,Mv 6 66] .ret))))))
theorem k193:Zaw Tryz.prog 193=some ⟨c193,[(.tmp 6)],67⟩:=by kernel_rfl
def c103:AC:=(Sr [Oo 3 (.box 53 3 (t 0)),Oo 4 (.box 94 2 (t 1)),Oo 6 (.mv (.const (.slice none 0 0)))] (Sr [Oo 7 (.mv (.const (.slice none 0 0)))] (Sr [Oo 13 (.load true 2 (t 4)),Cl 14 98 [(t 13)],Mv 8 14] (.seq (Sr [Fa 15 1 4,Ld 16 15,Oo 17 (.len false (t 16)),Mc 18 0] (.block 0 (.loop (Sr [Bn 19 .lss 18 17] (.seq (Cd 19 .skip (.exit 0)) (.seq (.block 1 (Sr [Mv 20 18,Oo 21 (.ia 10 (t 16) (t 18)),Oo 22 (.load true 10 (t 21)),Oo 10 (.new 144 10 [(iv 0),Ss,(iv 0),Ss,(.v (.bool false)),(iv 0),(iv 0),(iv 0),(iv 0),(iv 0)]),Mv 9 20,⟨none,none,(.store 10 (t 10) (t 22))⟩] (.seq (Sr [Mv 23 9,Mv 24 8,Oo 25 (.len false (t 24)),Bn 26 .lss 23 25,Mv 27 26,Ot 28 27 (mt 8),Ot 29 27 (mt 9),Ot 30 27 (.ia 1 (t 28) (t 29)),Ot 31 27 (.load false 1 (t 30)),Ot 32 27 (mt 2),Ot 33 27 (.bin .leq (t 31) (t 32)),Oo 34 (.pick (t 27) (t 33) (.const (.bool false)))] (Cd 34 (.exit 1) .skip)) (Sr [Mv 35 2,Mv 11 35] (.seq (Sr [Mv 36 9,Bc 37 .gtr 36 0] (Cd 37 (.reg [Mv 38 2,Mv 39 8,Mv 40 9,Bc 41 .sub 40 1,Oo 42 (.ia 1 (t 39) (t 41)),Ld 43 42,Oo 44 (.mm true (t 38) (t 43)),Mv 11 44]) .skip)) (Sr [Oo 45 (.load true 3 (t 3)),Oo 46 (.load true 10 (t 10)),Mv 47 11,Cl 48 193 [(t 45),(t 46),(t 47)],Mv 12 48] (.seq (Sr [Mv 49 9,Mv 50 8,Oo 51 (.len false (t 50)),Bn 52 .lss 49 51] (Cd 52 (.reg [Mv 53 12,Mv 54 8,Mv 55 9,Oo 56 (.ia 1 (t 54) (t 55)),Ld 57 56,Cl 58 194 [(t 53),(t 57)],Mv 12 58]) .skip)) (.reg [Mv 59 7,Mv 60 12,Oo 61 (.app 163 4 40 (t 59) (t 60)),Mv 7 61])))))))) (.reg [Bc 62 .add 18 1,Mv 18 62]))))))) (Sr [Mv 63 7,Mv 6 63] .ret)))))
theorem k103:Zaw Tryz.prog 103=some ⟨c103,[(.tmp 6)],64⟩:=by kernel_rfl
structure okX (x:Era):Prop where
 fm:ZbX (xFm x)=true
 sh : -64800≤xSh x∧xSh x≤64800
 sv:0≤xSv x∧xSv x≤10800
 no:xRl x≠⟨#[]⟩→xSv x=0
theorem Zt4 {es:List Era}(h:okZ es) {x:Era}(hx:x∈es):okX x:=by
 obtain⟨h1,h2,h3,h4⟩:=h.fm x hx
 exact⟨h1,h2,h3,h4⟩
theorem Zgh {x:Era}{b:Int}(ts:List Tim):(eraG x b ts).length≤ts.length+1:=by
 unfold eraG
 rw[List.length_cons,List.length_map]
 have:=List.length_filter_le (fun t:Tim=>decide (b<t.1)) ts
 omega
theorem Zqd {x:Era}{b:Int}:eraG x b []=[(b,locV x (xSv x) ⟨#[]⟩)]:=rfl
theorem eraG_set {x:Era}{b:Int}{ts:List Tim}{t:Tim}(h:t.1≤b):eraG x b (ts++[t])=(eraG x b ts).set 0 (b,locV x t.2.1 t.2.2):=by
 rw[eraG_low h];rfl
theorem eraG_pos {x:Era}{b:Int}{ts:List Tim}:0<(eraG x b ts).length:=by unfold eraG;simp
theorem era_z {a:List Rul}{z:List Zon}{k:List Lnk}{x:Era}{b:Int}{h:AH}(hok:okRs a) (ha:a.length≤9223372036854775807) (hx:okX x) (hb : -9000000000000000000≤b∧b≤9000000000000000000) :
  ACalls Tryz.prog 193 [.agg (srcB a z k),.agg (eraC x),iv b] h fun y h'=>h'=h∧y=.ret (.sl (eraG x b (ZaG a x)).length 4 false (rows chgC (eraG x b (ZaG a x)))):=by
 obtain⟨hx1,hx2,hx3,hx4⟩:=hx
 have hfl:=ZfK hx1
 refine tW' k193 fun N hn hlt _ hbd=>?_
 simp only[tb'] at hbd ⊢
 refine wr'<|E' (ZaR cv rfl hl0 ha0) pt<|E' (ZaR cv rfl hl1 ha1) pt<|mw<|Zam<|?_
 refine ZaP (ALe.trans (ALe.icePtr gx gt3 (by simp) pt3 hs0) (ALe.icePtr gx gt4 (by simp) pt4 hs1)) ?_
 refine Zac<|wr'<|Vw (Zbl lk dp1)<|Vw (Zax lk gt)<|Vw (ZfX lk lks)<|sn'<|?_
 refine cd' lk (fun hc1=>?_) (fun hc1=>?_)
 ·have hT:ZaG a x=[]:=if_pos hc1
  refine wm<|Vw (Zas lk Zfj rfl)<|Vw (Zbl lk dp2)<|Vw (Zax lk gt)<|Vw (Zat (Zov cv rfl))<|?_
  refine Zad mp (ZnI (x:=x) (t:=(0,xSv x,⟨#[]⟩)) hfl (show (0:Nat)≤24 by decide) hx2 hx3) pt ?_
  refine V' (Zat (Zou (cvl lk16 rfl) rfl (cvl lk21 rfl) rfl)) pt22<|E' (Zcz (Zot (cvl lk22 rfl) rfl) hl2 ha2) pt23<|mv' lk23 pt6<|Zam<|ZaP (ALe.iceR gx gt6 rfl nb pt6 hs2)<|Zbe<|Zah<|Zae (rs1 (rr_t gt6))<|rtW'<|?_
  rw[hT,Zqd];exact Wk.full
 have hT:ZaG a x=(Za0 a x.2.1 x.1).1:=if_neg hc1
 have hsv0:xSv x=0:=hx4 hc1
 have hTl:(Za0 a x.2.1 x.1).1.length≤1000:=ZhY
 refine za<|wr'<|Vw (Zbl lk dp0)<|Vw (Zax lk gt)<|Vw (Zbl lk dp1)<|Vw (Zax lk gt)<|Vw (Zbl lk dp0)<|Vw (Zax lk gt)<|Zad mp (ZsW hok ha) pt<|mw<|Vw (ZaQ lk gt)<|Vw (ZaQ lk gt)<|?_
 refine mw<|ms<|wm<|Vw (Zas lk Zfj rfl)<|Vw (Zat Zos)<|?_
 refine Zad mp (ZnI (x:=x) (t:=(0,0,⟨#[]⟩)) hfl (by decide) hx2 (by decide)) pt ?_
 refine Vw (Zat (Zor cv rfl cv rfl))<|E' (Zcz (Zoq cv rfl) hl2 ha2) pt<|ms<|Zac<|wm<|Vw (ZaA lk)<|ms<|Zaf<|?_
 refine ZeB (ι:=Nat×Nat) (fun (x_:Nat×Nat)=>match x_ with | ⟨i,v⟩=>[(9,.own (N+2) v (eraG x b ((Za0 a x.2.1 x.1).1.take i)).length),(42,iv (i:Int)),(11,.any),(12,.any)]++rn' 43 23) (fun (x_:Nat×Nat)=>match x_ with | ⟨i,v⟩=>[(2,.mk v 163 4 (rows chgC (eraG x b ((Za0 a x.2.1 x.1).1.take i))))]) (fun (x_:Nat×Nat)=>match x_ with | ⟨i,v⟩=>i≤(Za0 a x.2.1 x.1).1.length) (fun (x_:Nat×Nat)=>match x_ with | ⟨i,v⟩=>(Za0 a x.2.1 x.1).1.length-i) (⟨0,0⟩) (by exact Nat.zero_le _) (by try simp only[sm',Nat.reduceAdd];exact ALe.same wA' (by rw[List.take_zero,Zqd,hsv0];rfl)) ?_
 rintro⟨i,v⟩ hi1
 try simp only[sm',Nat.reduceAdd]
 replace hi1:i≤(Za0 a x.2.1 x.1).1.length:=hi1
 refine wr'<|Vw (ZaO lk lk)<|sn'<|Zac<|?_
 refine cd' lk (fun hc2=>?_) (fun hc2=>?_)
 ·have hi:i<(Za0 a x.2.1 x.1).1.length:=by omega
  obtain⟨hm1,hm2,hm3⟩:=ZlB (List.getElem_mem hi)
  have hel:=Zgh (x:=x) (b:=b) ((Za0 a x.2.1 x.1).1.take i)
  rw[List.length_take] at hel
  have htk:=List.take_succ_eq_append_getElem hi
  refine za<|Zac<|Zaf<|wr'<|?_
  refine V' (ZaJ lk lk Zdl nb ro om ro rfl) pt ?_
  refine Vw (Zas lk ZiJ rfl)<|E' (ZaV hl3 ha3) pt<|E' (Zai lk cv gx rfl nb rfl Zrt hs3) ptn<|sn'<|Zac<|ZaH<|Dw vm<|dg<|Dw (Zaa lk gx gt0)<|Dw (v_mm lk lk)<|Dw (Zas lk Zfj rfl)<|Dw (Zag lk gx Zrr rfl)<|?_
  refine ZaC mp (fun hE hX=>ZnI (x:=x) (t:=(Za0 a x.2.1 x.1).1[i]) hfl hm3 hx2 hm2) pt ?_
  refine Dw (Zat (Zop cv rfl cv rfl))<|Zc5 rfl rfl (hlk hn rfl) (Zil) pt ZvL<|ZaM<|?_
  refine Zc4 Zru ?_
  refine E' (Zai lk cv gx rfl nb rfl Zrs hs4) ptn<|sn'<|wr'<|fq<|Vw (Zaa lk gx gt0)<|mw<|Vw (ZdF lk lk)<|sn'<|?_
  refine cd' lk (fun hc3=>?_) (fun hc3=>?_)
  ·have hmx:(if (Za0 a x.2.1 x.1).1[i].1>b then (Za0 a x.2.1 x.1).1[i].1 else b)=b:=if_neg om
   simp only[cond_true,hmx]
   have hE:=eraG_set (x:=x) (ts:=(Za0 a x.2.1 x.1).1.take i) hc3
   have hep:=eraG_pos (x:=x) (b:=b) (ts:=(Za0 a x.2.1 x.1).1.take i)
   rw[←htk] at hE
   refine Zap<|mw<|Vw (Zag lk gx Zj9 rfl)<|?_
   refine V' (ZaT (k:=0) lk lki gx Za1 nb ro om (by first | rfl | (simp;done) | omega)) pt ?_
   refine E' (Zgj (z:=(b,locV x (Za0 a x.2.1 x.1).1[i].2.1 (Za0 a x.2.1 x.1).1[i].2.2)) lk cv gx Za1 rfl om hs2) ptn ?_
   refine Zam<|Zau<|Zan<|Zap<|?_
   refine ad<|mw<|Zam<|Zaz<|?_
   refine lU' (⟨i+1,v⟩) (by (try dsimp only);omega) (by refine zz ?_;exact bkE' 3 hn hlt (by repeat (first | exact wk0 | refine wka ?_ | refine wk1 rfl ?_ | refine wk1 (by first | rfl | exact ivx om | (rw[hE,List.length_set];done) | (rw[hE,List.length_append];rfl) | (rw[hE,List.length_set])) ?_)) (by rw[hE];rfl) (hT:=by simp[AV.lt,AV.ltL,Ent.lt]) (hE:=by simp[AV.lt,AV.ltL,Ent.lt]))
  have hmx:(if (Za0 a x.2.1 x.1).1[i].1>b then (Za0 a x.2.1 x.1).1[i].1 else b)=(Za0 a x.2.1 x.1).1[i].1:=if_pos om
  simp only[cond_true,hmx]
  have hE:=ZuQ (x:=x) (ts:=(Za0 a x.2.1 x.1).1.take i) hc3
  rw[←htk] at hE
  refine Zap<|mw<|Vw (Zag lk gx Zj9 rfl)<|E' (Zcz (Zoo cv rfl) hl5 ha5) pt<|?_
  refine E' (ZbK (Zbp lk gx rfl ZvJ nb) lk gx (Zbj _) om rfl hs2) pt ?_
  refine mw<|Zam<|Zau<|Zan<|Zap<|?_
  refine ad<|mw<|Zam<|Zaz<|?_
  refine lU' (⟨i+1,v+1⟩) (by (try dsimp only);omega) (by refine zz ?_;exact bkE' 3 hn hlt (by repeat (first | exact wk0 | refine wka ?_ | refine wk1 rfl ?_ | refine wk1 (by first | rfl | exact ivx om | (rw[hE,List.length_set];done) | (rw[hE,List.length_append];rfl) | (rw[hE,List.length_set])) ?_)) (by rw[hE,ZaF,Zbu];rfl) (hT:=by simp[AV.lt,AV.ltL,Ent.lt]) (hE:=by simp[AV.lt,AV.ltL,Ent.lt]))
 refine Zay<|Zar<|Zar<|ZaN<|?_
 refine ZaP (ALe.iceR (hga hn rfl) gt9 (List.take_of_length_le (by rw[Zbj];exact Nat.le_refl _)) (by rw[Zbj];exact Nat.le_refl _) pt9 hs2) ?_
 refine wm<|mr<|Zae rz<|rtW'<|?_
 rw[hT,List.take_of_length_le om];exact Wk.full
def Zen (es:List Era):Nat→Option Int
 | 0=>none
 | j+1=>(es[j]?).map endV
theorem Ze9 {es:List Era}{i:Nat}(h:i<es.length):Zen es (i+1)=some (endV es[i]):=by
 show (es[i]?).map endV=_
 rw[List.getElem?_eq_getElem h];rfl
theorem ZqS {rl:List Rul}{f:Int}{es:List Era}{prev:Option Int}{i:Nat}(h:i<es.length) (hl:es.length≤i+1):ZaX rl f prev (es.drop i)=eraG es[i] (ZbD prev f) (ZaG rl es[i]):=by
 rw[List.drop_eq_getElem_cons h,List.drop_of_length_le hl];rfl
theorem ZqR {rl:List Rul}{f:Int}{es:List Era}{prev:Option Int}{i:Nat}(h:i+1<es.length) (hc:endV es[i]≤f):ZaX rl f prev (es.drop i)=ZaX rl f (Zen es (i+1)) (es.drop (i+1)):=by
 rw[Ze9 om,List.drop_eq_getElem_cons (show i<es.length by omega),List.drop_eq_getElem_cons h,ZaX,if_pos hc,List.nil_append]
theorem ZqQ {rl:List Rul}{f:Int}{es:List Era}{prev:Option Int}{i:Nat}(h:i+1<es.length) (hc:¬endV es[i]≤f):ZaX rl f prev (es.drop i)=cutV (eraG es[i] (ZbD prev f) (ZaG rl es[i])) (endV es[i])++ZaX rl f (Zen es (i+1)) (es.drop (i+1)):=by
 rw[Ze9 om,List.drop_eq_getElem_cons (show i<es.length by omega),List.drop_eq_getElem_cons h,ZaX,if_neg hc]
theorem Zqk (l:List Chg) (e:Int):(cutV l e).length≤l.length:=(List.takeWhile_sublist _).length_le
theorem Zn3 {es:List Era}(hz:okZ es) {i:Nat}(h:i+1<es.length) : -100000000000≤endV es[i]∧endV es[i]≤300000000000:=by
 obtain⟨h1,h2,h3⟩:=hz.un i om h
 exact endV_bd h1 ⟨h2,h3⟩ (hz.fm _ (List.getElem_mem _)).2.1
theorem parts_a {a:List Rul}{z:List Zon}{k:List Lnk}{nm:ByteArray}{es:List Era}{f:Int}{h:AH}(hok:okRs a) (ha:a.length≤9223372036854775807) (hz:okZ es) (hf : -1000000000000≤f∧f≤1000000000000) :
  ACalls Tryz.prog 103 [.agg (srcB a z k),.agg [sv nm,.sl es.length 10 false (rows eraC es)],iv f] h fun y h'=>h'=h∧y=.ret (.sl (ZaX a f none es).length 4 false (rows chgC (ZaX a f none es))):=by
 have hel:=ZcW es
 have hlen:=hz.len
 refine tW' k103 fun N hn hlt _ hbd=>?_
 simp only[tb'] at hbd ⊢
 refine wr'<|E' (ZaR cv rfl hl0 ha0) pt<|E' (ZaR cv rfl hl1 ha1) pt<|mw<|Zam<|?_
 refine ZaP (ALe.trans (ALe.icePtr gx gt3 (by simp) pt3 hs0) (ALe.icePtr gx gt4 (by simp) pt4 hs1)) ?_
 refine wr'<|mv' lkn pt7<|Zam<|ZaP (ALe.own0' (st':=4) (ty:=163) gt7 hl2 pt7 ha2)<|wr'<|V' (Zas lk4 ZvK rfl) pt13<|Zad (mp1 lk13 mp0) (ends_a hz) pt14<|mv' lk14 pt8<|sn'<|Zac<|Zac<|?_
 refine Zap<|Vw (Zbl lk dp1)<|Vw (Zax lk gt)<|Vw (ZaA lk)<|ms<|Zaf<|?_
 refine w_lp (ι:=Nat×List Chg×Nat) (fun (x_:Nat×List Chg×Nat)=>match x_ with | ⟨i,O,v⟩=>[(7,.own (N+2) v O.length),(18,iv (i:Int))]++rn' 9 4++rn' 19 44) (fun (x_:Nat×List Chg×Nat)=>match x_ with | ⟨i,O,v⟩=>[(2,.mk v 163 4 (rows chgC O))]) (fun (x_:Nat×List Chg×Nat)=>match x_ with | ⟨i,O,v⟩=>i≤es.length∧ZaX a f none es=O++ZaX a f (Zen es i) (es.drop i)∧O.length≤1001*i) (fun (x_:Nat×List Chg×Nat)=>match x_ with | ⟨i,O,v⟩=>es.length-i) (⟨0,[],0⟩) (by exact⟨Nat.zero_le _,rfl,Nat.zero_le _⟩) ?_
 rintro⟨i,O,v⟩ hi1
 try simp only[sm',Nat.reduceAdd]
 obtain⟨hi1,hi2,hi3⟩:=hi1
 refine wr'<|Vw (ZaO lk lk)<|sn'<|Zac<|?_
 refine cd' lk (fun hc1=>?_) (fun hc1=>?_)
 ·have hi:i<es.length:=by omega
  have hxo:=Zt4 hz (List.getElem_mem hi)
  refine za<|Zac<|Zaf<|wm<|?_
  refine V' (ZaJ lk lk ZcV nb ro om ro rfl) pt ?_
  refine Vw (Zas lk Zfj rfl)<|E' (ZaV hl3 ha3) pt<|mw<|E' (Zai lk cv gx rfl nb rfl Zom hs3) ptn<|sn'<|Zac<|wm<|mw<|Vw (ZaA lk)<|Vw (ZaO lk lk)<|mw<|?_
  refine sp' (t:=27) gt pt pt (fun hg27=>?_) (fun hg27=>?_)
  ·have hn1:i+1<es.length:=by omega
   have hen:(ZaI es)[i]'(by omega)=endV es[i]:=Zk8 om hi
   have heb:=Zn3 hz hn1
   refine sd<|mw<|sd<|mw<|sd<|?_
   refine V' (ZaJ lk lk ZaW nb ro om ro rfl) pt ?_
   refine sd<|Vw (Zax lk gt)<|sd<|mw<|sd<|Vw (ZdF lk lk)<|Vw (Zal lk lk)<|sn'<|?_
   refine cd' lk (fun hc2=>?_) (fun hc2=>?_)
   ·have hsk:=ZqR (rl:=a) (f:=f) (prev:=Zen es i) hn1 (by rw[←hen];exact hc2)
    refine Zay<|Zar<|ZaN<|Zan<|Zap<|?_
    refine ad<|mw<|Zam<|Zaz<|?_
    refine lU' (⟨i+1,O,v⟩) (by (try dsimp only);exact⟨by omega,by rw[hi2,hsk],by omega⟩) (by refine zz ?_;exact bkE' 3 hn hlt (by repeat (first | exact wk0 | refine wka ?_ | refine wk1 rfl ?_ | refine wk1 (by first | rfl | exact ivx om | (rw[List.length_append])) ?_)) (hT:=by simp[AV.lt,AV.ltL,Ent.lt]) (hE:=by simp[AV.lt,AV.ltL,Ent.lt]))
   have hnc:¬endV es[i]≤f:=by rw[←hen];exact hc2
   refine za<|wm<|ms<|?_
   refine Zhe (ι:=Int) (fun (B:Int)=>[(11,iv B)]++rn' 36 9) (fun (B:Int)=>[]) (fun (B:Int)=>ZbD (Zen es i) f=B ∧ -9000000000000000000≤B∧B≤9000000000000000000) ?_ ?_
   ·try simp only[sm',Nat.reduceAdd]
    refine wm<|Vw (ZbE lk lki)<|sn'<|?_
    refine cd' lk (fun hc3=>?_) (fun hc3=>?_)
    ·have hi0:i-1+1<es.length:=by omega
     have hen0:(ZaI es)[i-1]'(by omega)=endV (es[i-1]'(by omega)):=Zk8 om om
     have heb0:=Zn3 hz hi0
     have hB:(if (ZaI es)[i-1]'(by omega)>f then (ZaI es)[i-1]'(by omega) else f)=ZbD (Zen es i) f:=by rw[hen0,show Zen es i=some (endV (es[i-1]'(by omega))) from by have:=Ze9 (es:=es) (i:=i-1) om;rwa [show i-1+1=i by omega] at this];show _=max f _;omega
     have hBb : -9000000000000000000≤ZbD (Zen es i) f∧ZbD (Zen es i) f≤9000000000000000000:=by rw[←hB,hen0];split <;> omega
     refine Zap<|mw<|mw<|mw<|?_
     refine V' (Za3 lk lki om om) pt ?_
     refine V' (ZaJ (k:=i-1) lk lk ZaW nb ro om ro rfl) pt ?_
     refine Vw (Zax lk gt)<|Vw (v_mm lk lk)<|?_
     simp only[cond_true,hB]
     refine mw<|Zam<|Zaz<|?_
     exact cT' (ZbD (Zen es i) f) (by exact⟨rfl,hBb.1,hBb.2⟩)
    refine ZaB<|Zaz<|?_
    exact cT' (f) (by exact⟨by rw[show i=0 by omega];rfl,by omega,by omega⟩)
   rintro B hq12
   try simp only[sm',Nat.reduceAdd]
   obtain⟨hBd,hB1,hB2⟩:=hq12
   refine wr'<|Vw (Zas lk ZiJ rfl)<|Vw (Zag lk gx ZiK rfl)<|mw<|Zad mp (era_z hok ha hxo ⟨hB1,hB2⟩) pt<|ms<|Zac<|wm<|mw<|?_
   refine Vw (ZaA lk)<|Vw (ZaO lk lk)<|sn'<|?_
   have hgl:=Zgh (x:=es[i]) (b:=B) (ZaG a es[i])
   have htl:=Zcu (rl:=a) (x:=es[i])
   refine ZeM lk (by exact decide_eq_true om) ?_
   refine Zap<|mw<|mw<|mw<|?_
   refine V' (ZaJ lk lk ZaW nb ro om ro rfl) pt ?_
   refine V' (Zax lk gt) pt ?_
   refine Zad mp (zcut_a om) pt ?_
   have hcl:=Zqk (eraG es[i] B (ZaG a es[i])) ((ZaI es)[i]'(by omega))
   have hT:=ZqQ (rl:=a) (f:=f) (prev:=Zen es i) hn1 hnc
   rw[hBd,←hen] at hT
   refine ms<|Zap<|mw<|mw<|?_
   refine E' (ZbK (ZkH lk (Zbj _)) lk gx (Zbj _) om (Zgo _) hs2) pt ?_
   refine mw<|Zam<|Zau<|Zan<|Zap<|?_
   refine ad<|mw<|Zam<|Zaz<|?_
   refine lU' (⟨i+1,O++cutV (eraG es[i] B (ZaG a es[i])) ((ZaI es)[i]'(by omega)),v+1⟩) (by (try dsimp only);exact⟨by omega,by rw[hi2,hT,List.append_assoc],by rw[List.length_append];omega⟩) (by refine zz ?_;exact bkE' 3 hn hlt (by repeat (first | exact wk0 | refine wka ?_ | refine wk1 rfl ?_ | refine wk1 (by first | rfl | exact ivx om | (rw[List.length_append])) ?_)) (by rw[ZaF];rfl) (hT:=by simp[AV.lt,AV.ltL,Ent.lt]) (hE:=by simp[AV.lt,AV.ltL,Ent.lt]))
  have hn1:es.length≤i+1:=by omega
  refine so<|so<|so<|so<|so<|so<|Vw (Zaj lk lkb)<|sn'<|Za8 lk<|za<|wr'<|?_
  refine mw<|ms<|?_
  refine Zhe (ι:=Int) (fun (B:Int)=>[(11,iv B)]++rn' 36 9) (fun (B:Int)=>[]) (fun (B:Int)=>ZbD (Zen es i) f=B ∧ -9000000000000000000≤B∧B≤9000000000000000000) ?_ ?_
  ·try simp only[sm',Nat.reduceAdd]
   refine wm<|Vw (ZbE lk lki)<|sn'<|?_
   refine cd' lk (fun hc3=>?_) (fun hc3=>?_)
   ·have hi0:i-1+1<es.length:=by omega
    have hen0:(ZaI es)[i-1]'(by omega)=endV (es[i-1]'(by omega)):=Zk8 om om
    have heb0:=Zn3 hz hi0
    have hB:(if (ZaI es)[i-1]'(by omega)>f then (ZaI es)[i-1]'(by omega) else f)=ZbD (Zen es i) f:=by rw[hen0,show Zen es i=some (endV (es[i-1]'(by omega))) from by have:=Ze9 (es:=es) (i:=i-1) om;rwa [show i-1+1=i by omega] at this];show _=max f _;omega
    have hBb : -9000000000000000000≤ZbD (Zen es i) f∧ZbD (Zen es i) f≤9000000000000000000:=by rw[←hB,hen0];split <;> omega
    refine Zap<|mw<|mw<|mw<|?_
    refine V' (Za3 lk lki om om) pt ?_
    refine V' (ZaJ (k:=i-1) lk lk ZaW nb ro om ro rfl) pt ?_
    refine Vw (Zax lk gt)<|Vw (v_mm lk lk)<|?_
    simp only[cond_true,hB]
    refine mw<|Zam<|Zaz<|?_
    exact cT' (ZbD (Zen es i) f) (by exact⟨rfl,hBb.1,hBb.2⟩)
   refine ZaB<|Zaz<|?_
   exact cT' (f) (by exact⟨by rw[show i=0 by omega];rfl,by omega,by omega⟩)
  rintro B hq12
  try simp only[sm',Nat.reduceAdd]
  obtain⟨hBd,hB1,hB2⟩:=hq12
  refine wr'<|Vw (Zas lk ZiJ rfl)<|Vw (Zag lk gx ZiK rfl)<|mw<|Zad mp (era_z hok ha hxo ⟨hB1,hB2⟩) pt<|ms<|Zac<|wm<|mw<|?_
  refine Vw (ZaA lk)<|Vw (ZaO lk lk)<|sn'<|?_
  have hgl:=Zgh (x:=es[i]) (b:=B) (ZaG a es[i])
  have htl:=Zcu (rl:=a) (x:=es[i])
  have hT:=ZqS (rl:=a) (f:=f) (prev:=Zen es i) hi hn1
  rw[hBd] at hT
  refine ZdG lk (by exact decide_eq_false om) ?_
  refine za<|Zap<|mw<|mw<|?_
  refine E' (ZbK (ZkH lk (Zbj _)) lk gx (Zbj _) om (Zgo _) hs2) pt ?_
  refine mw<|Zam<|Zau<|Zan<|Zap<|?_
  refine ad<|mw<|Zam<|Zaz<|?_
  refine lU' (⟨i+1,O++eraG es[i] B (ZaG a es[i]),v+1⟩) (by (try dsimp only);exact⟨by omega,by rw[hi2,hT,List.drop_of_length_le hn1];exact (List.append_nil _).symm,by rw[List.length_append];omega⟩) (by refine zz ?_;exact bkE' 3 hn hlt (by repeat (first | exact wk0 | refine wka ?_ | refine wk1 rfl ?_ | refine wk1 (by first | rfl | exact ivx om | (rw[List.length_append])) ?_)) (by rw[ZaF];rfl) (hT:=by simp[AV.lt,AV.ltL,Ent.lt]) (hE:=by simp[AV.lt,AV.ltL,Ent.lt]))
 rw[List.drop_of_length_le om] at hi2
 have hPO:ZaX a f none es=O:=hi2.trans (List.append_nil _)
 refine Zay<|Zar<|Zar<|ZaN<|?_
 refine ZaP (ALe.iceR (hga hn rfl) gt7 (List.take_of_length_le (by rw[Zbj];exact Nat.le_refl _)) (by rw[Zbj];exact Nat.le_refl _) pt7 hs2) ?_
 refine wm<|mr<|Zae rz<|rtW'<|?_
 rw[hPO];exact Wk.full
theorem Zpw {s:Src}{z:Zon}(h:ZbC s=0) (hm:z∈s.2.1) (f:Int):(∃ l,ZaX s.1 f none z.2=(f,ZaY s.1 z.2 f)::l)∧(ZaX s.1 f none z.2).Pairwise (fun a b=>a.1<b.1)∧(∀ c∈ZaX s.1 f none z.2,f≤c.1∧c.2=ZaY s.1 z.2 c.1) ∧
  ∀ u v,f≤u→u≤v→(∀ c∈ZaX s.1 f none z.2,¬(u<c.1∧c.1≤v))→ZaY s.1 z.2 u=ZaY s.1 z.2 v:=by
 obtain⟨hE,_,_,_,h5⟩:=ZgZ h
 exact Zl1 (f:=f) (prev:=none) (Zfg hE hm).ne (fun x _=>risT_all _ x) ((ZkQ _).1 (h5 z hm)) trivial
abbrev locC3 (l:Loc):List AV:=[iv l.1,iv l.2.1,sv l.2.2]
end
section
open Go.Ab Civ
def chgs (g:Int→Loc) (L:List Int):List Chg:=dd (g tMin) (pts g (L.filter inT))
theorem chgs_nil {g:Int→Loc}:chgs g []=[]:=rfl
theorem Zqp {g:Int→Loc}{L:List Int}{x:Int}(h:inT x=false):chgs g (L++[x])=chgs g L:=by
 unfold chgs;rw[List.filter_append,show [x].filter inT=[] from by simp[h],List.append_nil]
theorem Zvj {g:Int→Loc}{L:List Int}{x:Int}(h:inT x=true):chgs g (L++[x])=chgs g L++(if g x=Zep (g tMin) (chgs g L) then [] else [(x,g x)]):=by
 unfold chgs
 rw[List.filter_append,show [x].filter inT=[x] from by simp[h],show pts g (L.filter inT++[x])=pts g (L.filter inT)++[(x,g x)] from by unfold pts;rw[List.map_append];rfl,Zqj]
 rfl
theorem Zvi {g:Int→Loc}{L:List Int}{x:Int}(h:inT x=true) (he:g x=Zep (g tMin) (chgs g L)):chgs g (L++[x])=chgs g L:=by
 rw[Zvj h,if_pos he,List.append_nil]
theorem chgs_new {g:Int→Loc}{L:List Int}{x:Int}(h:inT x=true) (he:¬g x=Zep (g tMin) (chgs g L)):chgs g (L++[x])=chgs g L++[(x,g x)]:=by
 rw[Zvj h,if_neg he]
theorem chgs_len {g:Int→Loc}(L:List Int):(chgs g L).length≤L.length:=by
 refine Nat.le_trans (Zqi _ _) ?_
 unfold pts
 rw[List.length_map]
 exact List.length_filter_le _ _
theorem Zq0 (F:Loc) (l:List Chg) (c:Chg):Zep F (l++[c])=c.2:=by unfold Zep;simp
def rbad (F:Loc) (l:List Chg):Int:=if locE F≠0 then locE F else ZbW l
theorem Zpm (F:Loc):rbad F []=locE F:=by unfold rbad;split <;> simp_all [ZbW]
theorem ZtF (F:Loc) (l:List Chg) (c:Chg):rbad F (l++[c])=if rbad F l=0 then locE c.2 else rbad F l:=by
 unfold rbad
 by_cases h:locE F=0
 ·have h':¬locE F≠0:=fun e=>e h
  simp only[if_neg h']
  by_cases h2:ZbW l=0
  ·rw[if_pos h2,Zgd h2]
  ·rw[if_neg h2,Zih h2]
 ·have h':locE F≠0:=h
  simp only[if_pos h',if_neg h]
theorem Zs2 (t:Tab):tabR t=if rbad t.1 t.2≠0 then (Zfr,rbad t.1 t.2) else if 1000<t.2.length then (Zfr,2) else (t,0):=by
 unfold tabR rbad
 by_cases h:locE t.1=0
 ·rw[if_neg (by simpa using h),if_neg (by simpa using h:¬locE t.1≠0)];rfl
 ·rw[if_pos h,if_pos h,if_pos h];rfl
theorem ZtB {rl:List Rul}{es:List Era}{L:List Int}(hp:L.Perm (ZdI rl es)) (hs:L.Pairwise (· ≤ ·)):ZeK (ZaY rl es) L=Zdx rl es :=
 Zpd hs fun u v _ h hn=>ZfD h fun p hp'=>hn p (hp.mem_iff.2 hp')
theorem ZlG {s:Src}{z:Zon}(h:ZbC s=0) (hm:z∈s.2.1):stV (inP (ZaX s.1 tMin none z.2))=Zdx s.1 z.2:=by
 obtain⟨⟨l,h1⟩,h2,h3,h4⟩:=Zpw h hm tMin
 have hp:=ZtX (rl:=s.1) (f:=tMin) (es:=z.2) fun c hc=>(h3 c hc).2
 have hs:((ZaX s.1 tMin none z.2).map (·.1)).Pairwise (· < ·):=by rw[List.pairwise_map];exact h2
 have hL:(ZaX s.1 tMin none z.2).map (·.1)=tMin::l.map (·.1):=by rw[h1];rfl
 rw[hp,hL]
 rw[hL] at hs
 rw[stV_tab hs]
 refine Zpd (hs.imp fun h=>Int.le_of_lt h) fun u v h5 h6 h7=>h4 u v h5 h6 fun c hc hh=>h7 c.1 ?_ hh
 rw[←hL]
 exact List.mem_map.2 ⟨c,hc,rfl⟩
def ofV (s:Src) (z:Zon):Tab×Int:=tabR (Zdx s.1 z.2)
theorem Znj {rl:List Rul}{es:List Era}:((ZdI rl es).mergeSort fun a b=>decide (a≤b)).Pairwise (· ≤ ·):=by
 have h:=List.pairwise_mergeSort (le:=fun a b:Int=>decide (a≤b)) (fun a b c h1 h2=>by simp at *;omega) (fun a b=>by simp;omega) (ZdI rl es)
 exact h.imp fun h=>by simpa using h
theorem Zhg {rl:List Rul}{es:List Era}(h:(tabR (Zdx rl es)).2=0):Zbd (Zdx rl es)=0:=ZqD Znj h
theorem Zs1 {s:Src}{z:Zon}(h:(ofV s z).2=0):Zbd (ofV s z).1=0:=by
 unfold ofV at h ⊢
 rw[(Zs3 h).1];exact Zhg h
def cntV (rl:List Rul):List Era→Nat
 | []=>0
 | x::es=>(ZaG rl x).length+cntV rl es
theorem Zoa (rl:List Rul) : ∀ es:List Era,cntV rl es≤1000*es.length
 | []=>by simp[cntV]
 | y::es=>by have:=Zoa rl es;have:=Zcu (rl:=rl) (x:=y);rw[cntV,List.length_cons];omega
theorem Zta (rl:List Rul) (es:List Era):(ZdI rl es).length=cntV rl es+(es.length-1):=by
 unfold ZdI
 rw[List.length_append,ZcW]
 congr 1
 induction es with
 | nil=>rfl
 | cons x es ih=>rw[List.flatMap_cons,List.length_append,List.length_map,ih,cntV]
end
section
section
variable {α : Type} {r : α → α → Prop}
def insR (r:α→α→Prop) (i k:Nat) (L:List α):Prop := ∃ A x B C,L=A++x::(B++C)∧A.length=k∧A.length+B.length=i∧(A++B).Pairwise r ∧ ∀ b∈B,r x b
theorem ZgT {i:Nat}{L:List α}(h:i<L.length) (hp:(L.take i).Pairwise r):insR r i i L :=
 ⟨L.take i,L[i],[],L.drop (i+1),by simp,by simp;omega,by simp;omega,by simpa using hp,by simp⟩
theorem ZgS {i:Nat}{L:List α}(h:insR r i 0 L):(L.take (i+1)).Pairwise r:=by
 obtain⟨A,x,B,C,rfl,h1,h2,h3,h4⟩:=h
 obtain rfl:=List.eq_nil_of_length_eq_zero h1
 simp only[List.length_nil,Nat.zero_add] at h2
 subst h2
 rw[List.nil_append,List.take_succ_cons,List.take_left]
 exact List.pairwise_cons.2 ⟨h4,by simpa using h3⟩
theorem ZgR (ht : ∀ a b c,r a b→r b c→r a c) {i k:Nat}{L:List α}(h:insR r i (k+1) L) (hk:k+1<L.length) (hc:r L[k] L[k+1]):(L.take (i+1)).Pairwise r:=by
 obtain⟨A,x,B,C,rfl,h1,h2,h3,h4⟩:=h
 obtain⟨A,y,rfl⟩ : ∃ A' y,A=A'++[y]:=⟨A.dropLast,A.getLast (by intro e;subst e;cases h1),(List.dropLast_concat_getLast _).symm⟩
 simp only[List.length_append,List.length_singleton] at h1
 obtain rfl:A.length=k:=by omega
 have e1:((A++[y])++x::(B++C))[A.length+1]'hk=x:=by simp
 have e2:((A++[y])++x::(B++C))[A.length]'(by omega)=y:=by simp
 rw[e1,e2] at hc
 have e3:((A++[y])++x::(B++C)).take (i+1)=(A++[y])++x::B:=by
  rw[show (A++[y])++x::(B++C)=((A++[y])++x::B)++C by simp,List.take_left' (by simp at h2 ⊢;omega)]
 rw[e3]
 rw[List.pairwise_append] at h3 ⊢
 obtain⟨p1,p2,p3⟩:=h3
 refine⟨p1,List.pairwise_cons.2 ⟨h4,p2⟩,fun a ha b hb=>?_⟩
 have hax:r a x:=by
  rcases List.mem_append.1 ha with h | h
  ·exact ht _ _ _ ((List.pairwise_append.1 p1).2.2 a h y (by simp)) hc
  ·simp only[List.mem_singleton] at h;subst h;exact hc
 rcases List.mem_cons.1 hb with rfl | h
 ·exact hax
 ·exact p3 a ha b h
theorem Zin (htot : ∀ a b,r a b∨r b a) {i k:Nat}{L:List α}(h:insR r i (k+1) L) (hk:k+1<L.length) (hc:¬r L[k] L[k+1]) :
  insR r i k ((L.set (k+1) L[k]).set k L[k+1])∧((L.set (k+1) L[k]).set k L[k+1]).Perm L:=by
 obtain⟨A,x,B,C,rfl,h1,h2,h3,h4⟩:=h
 obtain⟨A,y,rfl⟩ : ∃ A' y,A=A'++[y]:=⟨A.dropLast,A.getLast (by intro e;subst e;cases h1),(List.dropLast_concat_getLast _).symm⟩
 simp only[List.length_append,List.length_singleton] at h1
 obtain rfl:A.length=k:=by omega
 have e1:((A++[y])++x::(B++C))[A.length+1]'hk=x:=by simp
 have e2:((A++[y])++x::(B++C))[A.length]'(by omega)=y:=by simp
 rw[e1,e2] at hc ⊢
 have e3:(((A++[y])++x::(B++C)).set (A.length+1) y).set A.length x=A++x::y::(B++C):=by
  simp
 rw[e3]
 refine⟨⟨A,x,y::B,C,by simp,rfl,by simp at h2 ⊢;omega,by simpa using h3,fun b hb=>?_⟩,?_⟩
 ·rcases List.mem_cons.1 hb with rfl | h
  ·exact (htot _ _).resolve_left hc
  ·exact h4 b h
 ·simp only[List.append_assoc,List.singleton_append]
  exact (List.Perm.swap y x _).append_left A
end
end
section
open Go.Ab Go.RowKit Civ
attribute [local simp] ZbL Zlz ZdH
section
theorem Zkf {a0 a1 a2 a3 a4 a5 a6 a7 a8 a9 a10:AV}{l:List AV}:(a0::a1::a2::a3::a4::a5::a6::a7::a8::a9::a10::l).take 11=[a0,a1,a2,a3,a4,a5,a6,a7,a8,a9,a10]:=rfl
theorem ZdE {a0 a1 a2:AV}{l:List AV}:(a0::a1::a2::l).take 3=[a0,a1,a2]:=rfl
theorem Zc8 { e:Ent}:([]:AH)++[e]=[e]:=rfl
theorem ZrT {e0 d0:Ent}:([e0]:AH)++[d0]=[e0,d0]:=rfl
theorem ZrS {a0 a1 a2 c0 c1 c2:AV}{l:List AV}:setCells (a0::a1::a2::l) 0 [c0,c1,c2]=c0::c1::c2::l:=rfl
theorem ZrR {a0 a1 a2:AV}{l:List AV}:((a0::a1::a2::l).drop 0).take 3=[a0,a1,a2]:=rfl
theorem ZiQ {τ:Operand→AV}{y0 y1:Operand}{x0_0 x1_0 x1_1 x1_2 x1_3 x1_4 x1_5 x1_6 x1_7 x1_8 x1_9 x1_10:AV}(h0:Zao (τ y0)=some [x0_0]) (l0:[x0_0].all leaf=true) (h1:Zao (τ y1)=some [x1_0,x1_1,x1_2,x1_3,x1_4,x1_5,x1_6,x1_7,x1_8,x1_9,x1_10]) (l1:[x1_0,x1_1,x1_2,x1_3,x1_4,x1_5,x1_6,x1_7,x1_8,x1_9,x1_10].all leaf=true):Zak τ [(0,1,y0),(1,11,y1)] [(iv 0),(.v (.string ⟨#[]⟩)),(iv 0),(iv 0),(iv 0),(iv 0),(iv 0),(iv 0),(iv 0),(iv 0),(iv 0),(.v (.string ⟨#[]⟩))]=some [x0_0,x1_0,x1_1,x1_2,x1_3,x1_4,x1_5,x1_6,x1_7,x1_8,x1_9,x1_10]:=by
 simp only[Zak,h0,l0,h1,l1]
 rfl
theorem ZcR {e0 e1 d0:Ent}:([e0,e1]:AH)++[d0]=[e0,e1,d0]:=rfl
theorem ZoH {a0 a1 a2 a3 a4 a5 a6 a7 a8 a9 a10 a11 c0 c1 c2 c3 c4 c5 c6 c7 c8 c9 c10 c11:AV}{l:List AV}:setCells (a0::a1::a2::a3::a4::a5::a6::a7::a8::a9::a10::a11::l) 0 [c0,c1,c2,c3,c4,c5,c6,c7,c8,c9,c10,c11]=c0::c1::c2::c3::c4::c5::c6::c7::c8::c9::c10::c11::l:=rfl
theorem ZoG {a0 a1 a2 a3 a4 a5 a6 a7 a8 a9 a10 a11:AV}{l:List AV}:((a0::a1::a2::a3::a4::a5::a6::a7::a8::a9::a10::a11::l).drop 0).take 12=[a0,a1,a2,a3,a4,a5,a6,a7,a8,a9,a10,a11]:=rfl
theorem ZiP {τ:Operand→AV}{y0:Operand}{x0_0 x0_1 x0_2 x0_3 x0_4 x0_5 x0_6 x0_7 x0_8 x0_9 x0_10 x0_11:AV}(h0:Zao (τ y0)=some [x0_0,x0_1,x0_2,x0_3,x0_4,x0_5,x0_6,x0_7,x0_8,x0_9,x0_10,x0_11]) (l0:[x0_0,x0_1,x0_2,x0_3,x0_4,x0_5,x0_6,x0_7,x0_8,x0_9,x0_10,x0_11].all leaf=true):Zak τ [(0,12,y0)] [(iv 0),(.v (.string ⟨#[]⟩)),(iv 0),(iv 0),(iv 0),(iv 0),(iv 0),(iv 0),(iv 0),(iv 0),(iv 0),(.v (.string ⟨#[]⟩))]=some [x0_0,x0_1,x0_2,x0_3,x0_4,x0_5,x0_6,x0_7,x0_8,x0_9,x0_10,x0_11]:=by
 simp only[Zak,h0,l0]
 rfl
theorem ZrQ {a0 a1 a2 a3 a4 a5 a6 a7 a8 a9 a10 a11:AV}{l:List AV}:(a0::a1::a2::a3::a4::a5::a6::a7::a8::a9::a10::a11::l).take 12=[a0,a1,a2,a3,a4,a5,a6,a7,a8,a9,a10,a11]:=rfl
theorem ZbH {τ:Operand→AV}{y0 y1 y2:Operand}{x0_0 x1_0 x2_0:AV}(h0:Zao (τ y0)=some [x0_0]) (l0:[x0_0].all leaf=true) (h1:Zao (τ y1)=some [x1_0]) (l1:[x1_0].all leaf=true) (h2:Zao (τ y2)=some [x2_0]) (l2:[x2_0].all leaf=true):Zak τ [(0,1,y0),(1,1,y1),(2,1,y2)] [(iv 0),(iv 0),(.v (.string ⟨#[]⟩))]=some [x0_0,x1_0,x2_0]:=by
 simp only[Zak,h0,l0,h1,l1,h2,l2]
 rfl
theorem ZbG {τ:Operand→AV}{y0:Operand}{x0_0 x0_1 x0_2:AV}(h0:Zao (τ y0)=some [x0_0,x0_1,x0_2]) (l0:[x0_0,x0_1,x0_2].all leaf=true):Zak τ [(0,3,y0)] [(iv 0),(iv 0),(.v (.string ⟨#[]⟩))]=some [x0_0,x0_1,x0_2]:=by
 simp only[Zak,h0,l0]
 rfl
end
def c109:AC:=(Sr [Oo 6 (.mv (.const (.slice none 0 0))),Mc 7 0] (.seq (Sr [Mv 22 0,Oo 23 (.len false (t 22)),Bc 24 .gtr 23 40] (Cd 24 (Sr [Oo 6 (.mv (.const (.slice none 0 0))),Mc 7 2] .ret) .skip)) (.seq (Sr [Mc 8 0] (.block 0 (.loop (.seq (Sr [Mv 25 8,Mv 26 0,Oo 27 (.len false (t 26)),Bn 28 .lss 25 27] (Cd 28 .skip (.exit 0))) (.seq (.block 1 (Sr [Mv 31 0,Mv 32 8,Oo 33 (.ia 11 (t 31) (t 32)),Oo 34 (.load true 11 (t 33)),Cl 35 199 [(t 34)],Mv 9 35] (Sr [Mv 36 9,Bc 37 .neq 36 0] (Cd 37 (Sr [Mv 38 9,Oo 6 (.mv (.const (.slice none 0 0))),Mv 7 38] .ret) .skip)))) (.reg [Mv 29 8,Bc 30 .add 29 1,Mv 8 30])))))) (.seq (Sr [Mv 39 2,Cl 40 132 [(t 39),(.const (.int .i64 (-64800))),(Ci 64800)],Oo 41 (.un .not (t 40))] (Cd 41 (Sr [Oo 6 (.mv (.const (.slice none 0 0))),Mc 7 3] .ret) .skip)) (Sr [Mb 10 false] (Sr [Oo 11 (.mv (.const (.slice none 0 0)))] (.seq (Sr [Mc 12 1900] (.block 2 (.loop (.seq (Sr [Mv 42 12,Bc 43 .leq 42 2100] (Cd 43 .skip (.exit 2))) (.seq (.block 3 (Sr [Mc 13 0] (.block 4 (.loop (.seq (Sr [Mv 46 13,Mv 47 0,Oo 48 (.len false (t 47)),Bn 49 .lss 46 48] (Cd 49 .skip (.exit 4))) (.seq (.block 5 (.seq (Sr [Mv 52 0,Mv 53 13,Oo 54 (.ia 11 (t 52) (t 53)),Fa 55 0 54,Ld 56 55,Mv 57 1,Bn 58 .neq 56 57] (Cd 58 (.exit 5) .skip)) (Sr [Mb 10 true] (.seq (Sd [Mv 59 12,Mv 60 0,Mv 61 13,Oo 62 (.ia 11 (t 60) (t 61)),Fa 63 1 62,Ld 64 63,Mv 65 0,Mv 66 13,Oo 67 (.ia 11 (t 65) (t 66)),Fa 68 2 67,Ld 69 68,Cl 70 132 [(t 59),(t 64),(t 69)],Oo 71 (.un .not (t 70))] (Cd 71 (.exit 5) .skip)) (.seq (.drw [Mv 73 12,Mv 74 0,Mv 75 13,Oo 76 (.ia 11 (t 74) (t 75)),Fa 77 3 76,Ld 78 77,Mv 79 0,Mv 80 13,Oo 81 (.ia 11 (t 79) (t 80)),Fa 82 4 81,Oo 83 (.load true 3 (t 82)),Cl 84 201 [(t 73),(t 78),(t 83)],Mv 72 84,Ex 85 72 0,Ex 86 72 1,Oo 14 (.new 79 3 [(iv 0),(iv 0),(iv 0)])] [false,false] [⟨none,none,(.store 3 (t 14) (t 85))⟩,Mv 15 86]) (.seq (.drw [Oo 87 (.load true 3 (t 14)),Cl 88 202 [(t 87)],Bc 89 .mul 88 86400,Mv 90 0,Mv 91 13,Oo 92 (.ia 11 (t 90) (t 91)),Fa 93 7 92,Ld 94 93,Bn 95 .add 89 94,Mv 96 0,Mv 97 13,Oo 98 (.ia 11 (t 96) (t 97)),Oo 99 (.load true 11 (t 98)),Oo 100 (.build [(iv 0),Ss,(iv 0),(iv 0),(iv 0),(iv 0),(iv 0),(iv 0),(iv 0),(iv 0),(iv 0),Ss] [(0,(1,(t 95))),(1,(11,(t 99)))]),Oo 16 (.new 265 12 [(iv 0),Ss,(iv 0),(iv 0),(iv 0),(iv 0),(iv 0),(iv 0),(iv 0),(iv 0),(iv 0),Ss])] [false] [⟨none,none,(.store 12 (t 16) (t 100))⟩]) (Sr [Mv 101 11,Oo 102 (.load true 12 (t 16)),Oo 103 (.lit 265 12 1 [(iv 0),Ss,(iv 0),(iv 0),(iv 0),(iv 0),(iv 0),(iv 0),(iv 0),(iv 0),(iv 0),Ss] [(0,(12,(t 102)))]),Oo 104 (.app 265 12 112 (t 101) (t 103)),Mv 11 104] (Sr [Mv 105 11,Oo 106 (.len false (t 105)),Bc 107 .sub 106 1,Mv 17 107] (.block 6 (.loop (.seq (Sd [Mv 108 17,Bc 109 .gtr 108 0,Mv 110 109,Ot 111 110 (mt 11),Ot 112 110 (mt 17),Ot 113 110 (.bin .sub (t 112) (Ci 1)),Ot 114 110 (.ia 12 (t 111) (t 113)),Ot 115 110 (.fa 0 (t 114)),Ot 116 110 (.load false 1 (t 115)),Ot 117 110 (.fa 0 (t 16)),Ot 118 110 (.load false 1 (t 117)),Ot 119 110 (.bin .gtr (t 116) (t 118)),Oo 120 (.pick (t 110) (t 119) (.const (.bool false)))] (Cd 120 .skip (.exit 6))) (.seq (.block 7 (.drw [Mv 123 11,Mv 124 17,Mv 125 11,Mv 126 17,Bc 127 .sub 126 1,Mv 128 11,Mv 129 17,Bc 130 .sub 129 1,Oo 131 (.ia 12 (t 128) (t 130)),Oo 132 (.load true 12 (t 131)),Mv 133 11,Mv 134 17,Oo 135 (.ia 12 (t 133) (t 134)),Oo 136 (.load true 12 (t 135)),Oo 137 (.ia 12 (t 123) (t 124))] [false,false,false] [⟨none,none,(.store 12 (t 137) (t 132))⟩,Oo 138 (.ia 12 (t 125) (t 127)),⟨none,none,(.store 12 (t 138) (t 136))⟩])) (.reg [Mv 121 17,Bc 122 .sub 121 1,Mv 17 122]))))))))))))) (.reg [Mv 50 13,Bc 51 .add 50 1,Mv 13 51]))))))) (.reg [Mv 44 12,Bc 45 .add 44 1,Mv 12 45])))))) (.seq (Sr [Mv 139 10,Oo 140 (.un .not (t 139))] (Cd 140 (Sr [Oo 6 (.mv (.const (.slice none 0 0))),Mc 7 5] .ret) .skip)) (Sr [Oo 18 (.mv (.const (.slice none 0 0)))] (.seq (Sr [Mc 19 0] (.block 8 (.loop (.seq (Sr [Mv 141 19,Mv 142 11,Oo 143 (.len false (t 142)),Bn 144 .lss 141 143] (Cd 144 .skip (.exit 8))) (.seq (.block 9 (Sr [Mv 147 11,Mv 148 19,Oo 149 (.ia 12 (t 147) (t 148)),Fa 150 0 149,Ld 151 150,Mv 20 151,Mc 21 0] (.seq (Sr [Mv 152 19,Bc 153 .gtr 152 0] (Cd 153 (.seq (Sr [Mv 154 20,Mv 155 11,Mv 156 19,Bc 157 .sub 156 1,Oo 158 (.ia 12 (t 155) (t 157)),Fa 159 0 158,Ld 160 159,Bn 161 .sub 154 160,Bc 162 .lss 161 172800] (Cd 162 (Sr [Oo 6 (.mv (.const (.slice none 0 0))),Mc 7 4] .ret) .skip)) (.reg [Mv 163 11,Mv 164 19,Bc 165 .sub 164 1,Oo 166 (.ia 12 (t 163) (t 165)),Fa 167 1 166,Fa 168 9 167,Ld 169 168,Mv 21 169])) .skip)) (.seq (Sr [Mv 170 11,Mv 171 19,Oo 172 (.ia 12 (t 170) (t 171)),Fa 173 1 172,Fa 174 8 173,Ld 175 174] (.block 10 (Sr [Bc 177 .eql 175 1,Mv 176 177] (Cd 176 (.reg [Mv 178 20,Mv 179 2,Mv 180 21,Bn 181 .add 179 180,Bn 182 .sub 178 181,Mv 20 182]) (Sr [Bc 184 .eql 175 2,Mv 183 184] (Cd 183 (.reg [Mv 185 20,Mv 186 2,Bn 187 .sub 185 186,Mv 20 187]) .skip)))))) (.drw [Mv 188 18,Mv 189 20,Mv 190 11,Mv 191 19,Oo 192 (.ia 12 (t 190) (t 191)),Fa 193 1 192,Fa 194 9 193,Ld 195 194,Mv 196 11,Mv 197 19,Oo 198 (.ia 12 (t 196) (t 197)),Fa 199 1 198,Fa 200 10 199,Ld 201 200,Oo 202 (.build [(iv 0),(iv 0),Ss] [(0,(1,(t 189))),(1,(1,(t 195))),(2,(1,(t 201)))]),Oo 203 (.lit 174 3 1 [(iv 0),(iv 0),Ss] [(0,(3,(t 202)))])] [false,false] [Oo 204 (.app 174 3 32 (t 188) (t 203)),Mv 18 204]))))) (.reg [Mv 145 19,Bc 146 .add 145 1,Mv 19 146])))))) (.seq (Sr [Mv 205 18,Oo 206 (.len false (t 205)),Bc 207 .gtr 206 1000] (Cd 207 (Sr [Oo 6 (.mv (.const (.slice none 0 0))),Mc 7 2] .ret) .skip)) (Sr [Mv 208 18,Mv 6 208,Mc 7 0] .ret))))))))))))
theorem k109:Zaw Tryz.prog 109=some ⟨c109,[(.tmp 6),(.tmp 7)],209⟩:=by kernel_rfl
theorem ron_r {r:Rul}{y:Int}{h:AH}(hr:Zbo r=0) (hy:1900≤y∧y≤2100):Ac 201 [iv y,iv r.2.2.2.1,.agg [iv r.2.2.2.2.1.1,iv r.2.2.2.2.1.2.1,iv r.2.2.2.2.1.2.2]] h (.tup [.agg [iv (Zbg (rDy r y)).1,iv (Zbg (rDy r y)).2.1,iv (Zbg (rDy r y)).2.2],iv 0]):=by
 have:=ron_a (y:=y) (m:=r.2.2.2.1) (k:=r.2.2.2.2.1.1) (wk:=r.2.2.2.2.1.2.1) (n:=r.2.2.2.2.1.2.2) (h:=h)
 rw[(Zh9 hr hy).1] at this
 exact this
theorem rnum_r {k:Int}{h:AH}(hk : -30000≤k∧k≤50000):Ac 202 [.agg [iv (Zbg k).1,iv (Zbg k).2.1,iv (Zbg k).2.2]] h (iv k):=by
 obtain⟨h1,h2⟩:=ZfL (days:=k) om om
 have hd:=ZbQ.1 h1
 have hm:=Zdc (Zbg k).1 (Zbg k).2.1
 have:=ZcY (y:=(Zbg k).1) (m:=(Zbg k).2.1) (d:=(Zbg k).2.2) (h:=h) om om om om om om
 rwa [h2] at this
def refT (l:List Rul) (nm:ByteArray) (Y i:Nat):List Trn:=((ZbI 1900 2100).take Y).flatMap (yrT l nm)++yrT (l.take i) nm (1900+(Y:Int))
def thB (l:List Rul) (nm:ByteArray) (Y i:Nat):Bool:=(decide (0<Y)&&l.any fun r=>decide (r.1=nm))||(l.take i).any fun r=>decide (r.1=nm)
theorem Zo0 {l:List Rul}{i:Nat}(hi:i<l.length) (nm:ByteArray) (y:Int):yrT (l.take (i+1)) nm y=yrT (l.take i) nm y++(if l[i].1=nm∧wi y (rFr l[i]) (rTo l[i])=true then [(Zdi l[i] y,l[i])] else []):=by
 unfold yrT
 rw[List.take_succ_eq_append_getElem hi,List.flatMap_append,List.flatMap_cons,List.flatMap_nil,List.append_nil]
theorem ZtD {l:List Rul}{nm:ByteArray}{Y i:Nat}(hi:i<l.length) (h:¬(l[i].1=nm∧wi (1900+(Y:Int)) (rFr l[i]) (rTo l[i])=true)):refT l nm Y (i+1)=refT l nm Y i:=by
 unfold refT;rw[Zo0 hi,if_neg h,List.append_nil]
theorem refT_yes {l:List Rul}{nm:ByteArray}{Y i:Nat}(hi:i<l.length) (h:l[i].1=nm∧wi (1900+(Y:Int)) (rFr l[i]) (rTo l[i])=true):refT l nm Y (i+1)=refT l nm Y i++[(Zdi l[i] (1900+(Y:Int)),l[i])]:=by
 unfold refT;rw[Zo0 hi,if_pos h,List.append_assoc]
theorem ZtC {l:List Rul}{nm:ByteArray}{Y i:Nat}(hY:Y<201) (hi:l.length≤i):refT l nm Y i=refT l nm (Y+1) 0:=by
 unfold refT
 have hl:Y<(ZbI 1900 2100).length:=by rw[ZcA];omega
 rw[List.take_of_length_le hi,List.take_succ_eq_append_getElem hl,List.flatMap_append]
 simp[ZbI,yrT]
theorem refT_all {l:List Rul}{nm:ByteArray}:refT l nm 201 0=(ZbI 1900 2100).flatMap (yrT l nm):=by
 unfold refT
 rw[List.take_of_length_le (by rw[ZcA];omega)]
 simp[yrT]
theorem ZqP {l:List Rul}{nm:ByteArray}:refT l nm 0 0=[]:=by simp[refT,yrT]
theorem thB_no {l:List Rul}{nm:ByteArray}{Y i:Nat}(hi:i<l.length) (h:l[i].1≠nm):thB l nm Y (i+1)=thB l nm Y i:=by
 unfold thB;rw[List.take_succ_eq_append_getElem hi,List.any_append];simp[h]
theorem Znh {l:List Rul}{nm:ByteArray}{Y i:Nat}(hi:i<l.length) (h:l[i].1=nm):thB l nm Y (i+1)=true:=by
 unfold thB;rw[List.take_succ_eq_append_getElem hi,List.any_append];simp[h]
theorem thB_year {l:List Rul}{nm:ByteArray}{Y i:Nat}(hi:l.length≤i):thB l nm Y i=thB l nm (Y+1) 0:=by
 unfold thB
 rw[List.take_of_length_le hi]
 cases l.any fun r=>decide (r.1=nm) <;> simp
theorem ZsZ {l:List Rul}{nm:ByteArray}:thB l nm 201 0=l.any fun r=>decide (r.1=nm):=by simp[thB]
theorem refT_len {l:List Rul}{nm:ByteArray}{Y i:Nat}(hl:l.length≤40) (hY:Y≤201):(refT l nm Y i).length≤10000:=by
 have h1 : ∀ (l:List Rul) (y:Int),(yrT l nm y).length≤l.length:=by
  intro l y
  induction l with
  | nil=>simp[yrT]
  | cons r l ih =>
   unfold yrT at ih ⊢
   rw[List.flatMap_cons,List.length_append,List.length_cons]
   split
   ·simp only[List.length_singleton];omega
   simp only[List.length_nil];omega
 have h2 : ∀ (ys:List Int),(ys.flatMap (yrT l nm)).length≤40*ys.length:=by
  intro ys
  induction ys with
  | nil=>simp
  | cons y ys ih =>
   rw[List.flatMap_cons,List.length_append,List.length_cons]
   have:=h1 l y
   omega
 unfold refT
 rw[List.length_append]
 have a:=h2 ((ZbI 1900 2100).take Y)
 have b:=h1 (l.take i) (1900+(Y:Int))
 rw[List.length_take] at a b
 omega
def leT (a b:Trn):Prop:=a.1≤b.1
theorem leT_tot (a b:Trn):leT a b∨leT b a:=by unfold leT;omega
theorem leT_tr (a b c:Trn):leT a b→leT b c→leT a c:=by unfold leT;omega
theorem svAt_pre {l:List Trn}{i:Nat}(h0:0<i) (h:i-1<l.length):svAt l i=(l[i-1]).2.2.2.2.2.2.2.2.1:=by
 obtain⟨j,rfl⟩ : ∃ j,i=j+1:=⟨i-1,by omega⟩
 exact Zf1 h
theorem gapB_pr2 {l:List Trn}{i:Nat}(h:i<l.length) (h0:0<i) (hg:l[i].1-(l[i-1]'(by omega)).1<172800):gapB l=true:=by
 obtain⟨i,rfl⟩ : ∃ i0,i=i0+1:=⟨i-1,by omega⟩
 exact Zmk h hg
theorem gap_ok2 {S:List Trn}{i:Nat}(hi : ∀ j (h:j+1<S.length),j+1<i→172800≤S[j+1].1-S[j].1) (hl:S.length≤i):gapB S=false:=(ZhO S).2 fun j h=>hi j h om
theorem Zpi {l:List Rul}{nm:ByteArray}{sh:Int}{h:AH}(hck : ∀ r∈l,∀ h,Ac 199 [.agg (rulC r)] h (iv (Zbo r))) (hok:okRs l) (hl:l.length≤9223372036854775807) :
  Ac 109 [.sl l.length 11 false (rows rulC l),sv nm,iv sh] h (.tup [.sl (Za0 l nm sh).1.length 3 false (rows timC (Za0 l nm sh).1),iv (Za0 l nm sh).2]):=by
 have hll:=hl
 have hE:Zdj l nm sh=if 40<l.length then 2 else if Zbc Zbo l≠0 then Zbc Zbo l else if sh < -64800∨sh>64800 then 3 else if l.any (fun r=>decide (r.1=nm))=false then 5 else 0:=rfl
 refine tW' k109 fun N hn hlt _ hbd=>?_
 simp only[tb'] at hbd ⊢
 refine wm<|ms<|Zac<|wm<|Vw (ZaA lk)<|Vw (ZbE lk lki)<|sn'<|?_
 refine cd' lk (fun hc1=>?_) (fun hc1=>?_)
 ·rw[if_pos om] at hE
  refine wm<|mr<|Zah<|Zae ry<|rtW'<|?_
  rw[ZdU (by rw[hE];decide),hE];exact Wk.tup (wkw Wk.nilF (wk1 rfl wk0))
 rw[if_neg om] at hE
 refine za<|Zac<|wk'<|Zaf<|?_
 refine w_lp (ι:=Nat) (fun (k:Nat)=>[(8,iv (k:Int)),(6,.any),(7,.any),(9,.any)]++rn' 25 14) (fun (k:Nat)=>[]) (fun (k:Nat)=>k≤l.length∧Zbc Zbo l=Zbc Zbo (l.drop k)) (fun (k:Nat)=>l.length-k) (0) (by exact⟨Nat.zero_le _,rfl⟩) ?_
 rintro k hi1
 try simp only[sm',Nat.reduceAdd]
 obtain⟨hk1,hk2⟩:=hi1
 refine Zac<|wm<|mw<|Vw (ZaA lk)<|Vw (ZaO lk lk)<|sn'<|?_
 refine cd' lk (fun hc2=>?_) (fun hc2=>?_)
 ·have hk:k<l.length:=by omega
  have ho:=hok _ (List.getElem_mem hk)
  rw[ZdC hk] at hk2
  refine za<|Zac<|Zaf<|wm<|mw<|?_
  refine V' (ZaJ lk lk Zcq nb ro om ro rfl) pt ?_
  refine V' (Zas lk Zkf rfl) pt ?_
  refine Zad mp (hck _ (List.getElem_mem (show k<l.length by omega)) _) pt ?_
  refine ms<|wm<|Vw (Zba lk lki)<|sn'<|?_
  refine cd' lk (fun hc3=>?_) (fun hc3=>?_)
  ·have hc3':Zbo l[k]≠0:=hc3
   rw[if_pos hc3'] at hk2
   rw[if_pos (by rw[hk2];exact hc3'),hk2] at hE
   refine wm<|mw<|mr<|Zaq<|Zah<|Zah<|Zaq<|Zah<|Zae ry<|?_
   refine rtW' ?_
   rw[ZdU (by rw[hE];exact hc3'),hE];exact Wk.tup (wkw Wk.nilF (wk1 rfl wk0))
  have hc3':¬Zbo l[k]≠0:=hc3
  rw[if_neg hc3'] at hk2
  refine ZaB<|Zau<|Zan<|Zap<|mw<|?_
  refine ad<|mw<|Zam<|Zaz<|?_
  refine lT' (k+1) (by (try dsimp only);exact⟨by omega,hk2⟩)
 rw[List.drop_of_length_le om] at hk2
 have hfr:Zbc Zbo l=0:=by rw[hk2];rfl
 rw[if_neg (by rw[hfr];simp)] at hE
 have hok2:=Zcw hfr
 refine Zay<|Zar<|Zar<|ZaN<|Zan<|Zac<|wm<|Zad mp (ZbO) pt<|Vw (ZaE lk)<|sn'<|?_
 refine Zav lk (fun hc4=>?_) (fun hc4=>?_)
 ·rw[if_pos (by have:=hc4;simp only[Bool.not_eq_true',Zb8] at this;omega)] at hE
  refine wm<|mr<|Zah<|Zae ry<|rtW'<|?_
  rw[ZdU (by rw[hE];decide),hE];exact Wk.tup (wkw Wk.nilF (wk1 rfl wk0))
 have hsh : -64800≤sh∧sh≤64800:=by have:=hc4;simp only[Bool.not_eq_false',Zbt] at this;exact this
 rw[if_neg om] at hE
 refine za<|wr'<|mv' lkb pt10<|sn'<|wr'<|mv' lkn pt11<|Zam<|ZaP (ALe.own0' (st':=12) (ty:=265) gt11 hl0 pt11 ha0)<|Zac<|Zac<|?_
 refine Zap<|ms<|Zaf<|?_
 refine w_lp (ι:=Nat×List Trn×Nat) (fun (x_:Nat×List Trn×Nat)=>match x_ with | ⟨Y,S,v⟩=>[(10,bv (thB l nm Y 0)),(11,.own (N+0) v S.length),(12,iv (1900+(Y:Int)))]++rn' 13 5++rn' 42 97) (fun (x_:Nat×List Trn×Nat)=>match x_ with | ⟨Y,S,v⟩=>[(0,.mk v 265 12 (rows trnC S))]) (fun (x_:Nat×List Trn×Nat)=>match x_ with | ⟨Y,S,v⟩=>Y≤201∧S.Perm (refT l nm Y 0)∧S.Pairwise leT) (fun (x_:Nat×List Trn×Nat)=>match x_ with | ⟨Y,S,v⟩=>201-Y) (⟨0,[],0⟩) (by exact⟨by omega,by rw[ZqP],.nil⟩) ?_
 rintro⟨Y,S,v⟩ hi2
 try simp only[sm',Nat.reduceAdd]
 obtain⟨hY1,hY2,hY3⟩:=hi2
 refine Zac<|wm<|Vw (ZdF lk lki)<|sn'<|?_
 refine cd' lk (fun hc5=>?_) (fun hc5=>?_)
 ·have hY:Y<201:=by omega
  refine za<|Zac<|Zaf<|wk'<|Zaf<|?_
  refine w_lp (ι:=Nat×List Trn×Nat) (fun (x_:Nat×List Trn×Nat)=>match x_ with | ⟨i,S,v⟩=>[(10,bv (thB l nm Y i)),(11,.own (N+0) v S.length),(13,iv (i:Int))]++rn' 14 4++rn' 46 93) (fun (x_:Nat×List Trn×Nat)=>match x_ with | ⟨i,S,v⟩=>[(0,.mk v 265 12 (rows trnC S))]) (fun (x_:Nat×List Trn×Nat)=>match x_ with | ⟨i,S,v⟩=>i≤l.length∧S.Perm (refT l nm Y i)∧S.Pairwise leT) (fun (x_:Nat×List Trn×Nat)=>match x_ with | ⟨i,S,v⟩=>l.length-i) (⟨0,S,v⟩) (by exact⟨Nat.zero_le _,hY2,hY3⟩) ?_
  rintro⟨i,S,v⟩ hi3
  try simp only[sm',Nat.reduceAdd]
  obtain⟨hj1,hj2,hj3⟩:=hi3
  refine Zac<|wm<|mw<|Vw (ZaA lk)<|Vw (ZaO lk lk)<|sn'<|?_
  refine cd' lk (fun hc6=>?_) (fun hc6=>?_)
  ·have hi:i<l.length:=by omega
   have hr:=hok2 _ (List.getElem_mem hi)
   refine za<|Zac<|Zaf<|Zac<|wm<|mw<|?_
   refine V' (ZaJ lk lk Zcq nb ro om ro rfl) pt ?_
   refine Vw (Zbl lk dp0)<|Vw (Zax lk gt)<|mw<|Vw (ZeC lk lk)<|sn'<|?_
   refine cd' lk (fun hc7=>?_) (fun hc7=>?_)
   ·refine Zay<|Zar<|ZaN<|Zan<|Zap<|mw<|?_
    refine ad<|mw<|Zam<|Zaz<|?_
    refine lU' (⟨i+1,S,v⟩) (by (try dsimp only);exact⟨by omega,by rw[ZtD hi (fun h=>hc7 h.1)];exact hj2,hj3⟩) (by refine zz ?_;exact ALe.same (by repeat (first | exact wk0 | refine wka ?_ | refine wk1 rfl ?_ | refine wk1 (by first | rfl | exact ivx om | (rw[thB_no hi hc7])) ?_)) rfl)
   have hnm:l[i].1=nm:=Decidable.of_not_not hc7
   refine za<|wk'<|Zac<|Zac<|ZaH<|Dw vm<|Dw vm<|Dw vm<|?_
   refine D' (ZaJ lk lk Zcq nb ro om ro rfl) pt ?_
   refine Dw (Zbl lk dp1)<|Dw (Zax lk gt)<|Dw vm<|Dw vm<|?_
   refine D' (ZaJ lk lk Zcq nb ro om ro rfl) pt ?_
   refine Dw (Zbl lk dp2)<|Dw (Zax lk gt)<|?_
   refine ZaC mp (fun hE hX=>ZbO) pt ?_
   refine Dw (ZaE lk)<|ZaM<|?_
   refine Za5 ?_
   refine sn' ?_
   refine Zav lk (fun hc8=>?_) (fun hc8=>?_)
   ·have hw:¬wi (1900+(Y:Int)) l[i].2.1 l[i].2.2.1=true:=by have:=hc8;rw[Bool.not_eq_true'] at this;rw[this];simp
    refine Zay<|Zar<|ZaN<|Zan<|Zap<|mw<|?_
    refine ad<|mw<|Zam<|Zaz<|?_
    refine lU' (⟨i+1,S,v⟩) (by (try dsimp only);exact⟨by omega,by rw[ZtD hi (fun h=>hw h.2)];exact hj2,hj3⟩) (by refine zz ?_;exact ALe.same (by repeat (first | exact wk0 | refine wka ?_ | refine wk1 rfl ?_ | refine wk1 (by first | rfl | exact ivx om | (rw[Znh hi hnm]) | (simp;done)) ?_)) rfl)
   have hw:wi (1900+(Y:Int)) l[i].2.1 l[i].2.2.1=true:=by have:=hc8;rwa [Bool.not_eq_false'] at this
   obtain⟨hr1,hr2,hr3⟩:1900≤l[i].2.1∧l[i].2.1≤l[i].2.2.1∧l[i].2.2.1≤2100:=⟨(ZbA hr).1,(ZbA hr).2.1,(ZbA hr).2.2.1⟩
   have hwb:=Zbt.1 hw
   have hy:1900≤1900+(Y:Int)∧1900+(Y:Int)≤2100:=by omega
   obtain⟨hd1,hd2⟩:=Zh9 hr hy
   have ha6:0≤l[i].2.2.2.2.2.1∧l[i].2.2.2.2.2.1≤172800:=(ZbA hr).2.2.2.2.2.1
   have hlenS:=hj2.length_eq
   have hlen2:=refT_len (nm:=nm) (Y:=Y) (i:=i) (show l.length≤40 by omega) (show Y≤201 by omega)
   have hpS:(S++[((Zdi l[i] (1900+(Y:Int)),l[i]):Trn)]).Perm (refT l nm Y (i+1)):=by rw[refT_yes hi ⟨hnm,hw⟩];exact hj2.append_right _
   refine za<|Zac<|ZaH<|Dw vm<|Dw vm<|Dw vm<|?_
   refine D' (ZaJ lk lk Zcq nb ro om ro rfl) pt ?_
   refine Dw (Zbl lk dp3)<|Dw (Zax lk gt)<|Dw vm<|Dw vm<|?_
   refine D' (ZaJ lk lk Zcq nb ro om ro rfl) pt ?_
   refine Dw (Zbl lk dp4)<|Dw (Zas lk ZdE rfl)<|?_
   refine ZaC mp (fun hE hX=>ron_r hr hy) pt ?_
   refine Dw vm<|Dw (ZaQ lk gt)<|Dw (ZaQ lk gt)<|Zc5 rfl rfl (hlk hn rfl) (Zil) pt Zc8<|ZaM<|?_
   refine Zc4 ZrT ?_
   refine E' (Zai lk cv gx rfl nb rfl ZrS hs1) ptn<|ms<|Zac<|ZaH<|Dw (Zag lk gx ZrR rfl)<|?_
   refine ZaC mp (fun hE hX=>rnum_r hd2) pt ?_
   refine D' (ZfB lk lki om om) pt ?_
   refine Dw vm<|Dw vm<|?_
   refine D' (ZaJ lk lk Zcq nb ro om ro rfl) pt ?_
   refine Dw (Zbl lk dp7)<|Dw (Zax lk gt)<|?_
   refine D' (ZbM lk lk om om) pt ?_
   refine Dw vm<|Dw vm<|?_
   refine D' (ZaJ lk lk Zcq nb ro om ro rfl) pt ?_
   refine Dw (Zas lk Zkf rfl)<|Dw (Zat (ZiQ cv rfl cv rfl))<|Zc5 rfl rfl (hlk hn rfl) (Zil) pt Zc8<|ZaM<|?_
   refine Zc4 ZcR ?_
   refine E' (Zai lk cv gx rfl nb rfl ZoH hs2) ptn<|sn'<|wm<|Vw (Zag lk gx ZoG rfl)<|E' (Zcz (ZiP cv rfl) hl3 ha3) pt<|?_
   refine E' (ZbK (Zbp lk gx rfl ZrQ nb) lk gx (ZsQ _) om rfl hs0) pt ?_
   refine ms<|wm<|Vw (Zcm lk)<|?_
   refine V' (Za3 lk lki om om) pt ?_
   refine ms<|Zaf<|?_
   refine ZeB (ι:=Nat×List Trn) (fun (x_:Nat×List Trn)=>match x_ with | ⟨k,M⟩=>[(11,.own (N+0) (v+1) M.length),(17,iv (k:Int))]++rn' 108 31) (fun (x_:Nat×List Trn)=>match x_ with | ⟨k,M⟩=>[(0,.mk (v+1) 265 12 (rows trnC M))]) (fun (x_:Nat×List Trn)=>match x_ with | ⟨k,M⟩=>k≤S.length∧M.Perm (S++[((Zdi l[i] (1900+(Y:Int)),l[i]):Trn)])∧insR leT S.length k M∧M[k]?=some ((Zdi l[i] (1900+(Y:Int)),l[i]):Trn)) (fun (x_:Nat×List Trn)=>match x_ with | ⟨k,M⟩=>k) (⟨S.length,S++[((Zdi l[i] (1900+(Y:Int)),l[i]):Trn)]⟩) (by exact⟨Nat.le_refl _,List.Perm.refl _,ZgT (by simp) (by simpa using hj3),by simp⟩) (by try simp only[sm',Nat.reduceAdd];exact ALe.same (by repeat (first | exact wk0 | refine wka ?_ | refine wk1 rfl ?_ | refine wk1 (by first | rfl | exact ivx (by simp) | exact ivx (by simp;omega) | (simp;done)) ?_)) (by simp only[ZaF,Zbu];rfl)) ?_
   rintro⟨k,M⟩ hi4
   try simp only[sm',Nat.reduceAdd]
   obtain⟨hk1,hk2,hk3,hk4⟩:=hi4
   have hkl:=hk2.length_eq
   simp only[List.length_append,List.length_singleton] at hkl
   refine Zac<|Zac<|ZaH<|Dw vm<|Dw (ZbE lk lki)<|Dw vm<|?_
   refine dq' (t:=110) gt pt pt (fun hg110=>?_) (fun hg110=>?_)
   ·obtain⟨j,rfl⟩ : ∃ j,k=j+1:=⟨k-1,by omega⟩
    have hz3:j+1<M.length:=by omega
    have hMk:M[j+1]=((Zdi l[i] (1900+(Y:Int)),l[i]):Trn):=by rw[List.getElem?_eq_getElem hz3] at hk4;exact Option.some.inj hk4
    refine dO<|Dw vm<|dO<|Dw vm<|dO<|?_
    refine D' (Za3 lk lki om om) pt ?_
    refine d_do gt ?_
    refine D' (ZaT (k:=j) lk lk gx ZaD nb ro om (by first | rfl | (simp;done) | omega)) pt ?_
    refine dO<|Dw (Zbs lk)<|dO<|?_
    refine D' (Zcb lk gx ZaD om nb gt0) pt ?_
    refine dO<|dg<|dO<|Dw (Zaa lk gx gt0)<|dO<|Dw (ZbE lk lk)<|Dw (Zal lk lk)<|ZaM<|?_
    refine Za5 ?_
    refine sn' ?_
    refine cd' lk (fun hc9=>?_) (fun hc9=>?_)
    ·have hz6:¬leT M[j] M[j+1]:=by rw[hMk];intro hle;have hle:(M[j]).1≤rDy l[i] (1900+(Y:Int))*86400+l[i].2.2.2.2.2.1:=hle;omega
     obtain⟨hz4,hz5⟩:=Zin leT_tot hk3 hz3 hz6
     refine za<|Zac<|Zaf<|ZaH<|Dw vm<|Dw vm<|Dw vm<|Dw vm<|?_
     refine D' (Za3 lk lki om om) pt ?_
     refine Dw vm<|Dw vm<|?_
     refine D' (Za3 lk lki om om) pt ?_
     refine D' (ZaT (k:=j) lk lk gx ZaD nb ro om (by first | rfl | (simp;done) | omega)) pt ?_
     refine D' (ZeN lk gx ZaD om rfl) pt ?_
     refine Dw vm<|Dw vm<|?_
     refine D' (ZaT (k:=j+1) lk lk gx ZaD nb ro om (by first | rfl | (simp;done) | omega)) pt ?_
     refine D' (ZeN lk gx ZaD om rfl) pt ?_
     refine D' (ZaT (k:=j+1) lk lk gx ZaD nb ro om (by first | rfl | (simp;done) | omega)) pt ?_
     refine ZaM ?_
     refine Za5 ?_
     refine E' (Zgj (z:=M[j]) lk cv gx ZaD rfl om hs0) ptn ?_
     refine V' (ZaT (k:=j) lk lk gx ZaD nb (by first | rfl | first | omega | (rw[List.length_set];omega)) (by first | omega | (rw[List.length_set];omega)) (by first | rfl | (simp;done) | first | omega | (rw[List.length_set];omega))) pt ?_
     refine E' (Zgj (z:=M[j+1]) lk cv gx ZaD rfl (by first | omega | (rw[List.length_set];omega)) hs0) ptn ?_
     refine Zam<|Zau<|Zan<|Zap<|mw<|?_
     refine V' (Za3 lk lki om om) pt ?_
     refine mw<|Zam<|Zaz<|?_
     refine lU' (⟨j,(M.set (j+1) M[j]).set j M[j+1]⟩) (by (try dsimp only);exact⟨by omega,hz5.trans hk2,hz4,by simp[hMk,show j<M.length by omega]⟩) (by refine zz ?_;exact ALe.same (by repeat (first | exact wk0 | refine wka ?_ | refine wk1 rfl ?_ | refine wk1 (by first | rfl | exact ivx om | (simp;done)) ?_)) rfl)
    have hz7:leT M[j] M[j+1]:=by rw[hMk];show (M[j]).1≤rDy l[i] (1900+(Y:Int))*86400+l[i].2.2.2.2.2.1;omega
    have hz6:=ZgR leT_tr hk3 hz3 hz7
    rw[List.take_of_length_le om] at hz6
    refine Zay<|Zar<|Zar<|ZaN<|Zau<|Zan<|Zap<|mw<|?_
    refine ad<|mw<|Zam<|Zaz<|?_
    refine lU' (⟨i+1,M,v+1⟩) (by (try dsimp only);exact⟨by omega,hk2.trans hpS,hz6⟩) (by refine zz ?_;exact bkE' 1 hn hlt (by repeat (first | exact wk0 | refine wka ?_ | refine wk1 rfl ?_ | refine wk1 (by first | rfl | exact ivx om | (rw[Znh hi hnm]) | (simp;done)) ?_)))
   obtain rfl:k=0:=by omega
   have hz6:=ZgS hk3
   rw[List.take_of_length_le om] at hz6
   refine dn<|dn<|dn<|dn<|dn<|dn<|dn<|dn<|dn<|Dw (Zaj lk lkb)<|ZaM<|?_
   refine Za5 ?_
   refine sn'<|Za8 lk<|Zay<|Zar<|Zar<|ZaN<|Zau<|Zan<|Zap<|mw<|?_
   refine ad<|mw<|Zam<|Zaz<|?_
   refine lU' (⟨i+1,M,v+1⟩) (by (try dsimp only);exact⟨by omega,hk2.trans hpS,hz6⟩) (by refine zz ?_;exact bkE' 1 hn hlt (by repeat (first | exact wk0 | refine wka ?_ | refine wk1 rfl ?_ | refine wk1 (by first | rfl | exact ivx om | (rw[Znh hi hnm]) | (simp;done)) ?_)))
  have hje:l.length≤i:=by omega
  refine Zay<|Zar<|Zar<|ZaN<|Zau<|Zan<|Zap<|mw<|?_
  refine ad<|mw<|Zam<|Zaz<|?_
  refine lU' (⟨Y+1,S,v⟩) (by (try dsimp only);exact⟨by omega,by rw[←ZtC hY hje];exact hj2,hj3⟩) (by refine zz ?_;exact ALe.same (by repeat (first | exact wk0 | refine wka ?_ | refine wk1 rfl ?_ | refine wk1 (by first | rfl | exact ivx om | (rw[thB_year hje])) ?_)) rfl)
 have hY9:Y=201:=by omega
 subst hY9
 rw[refT_all] at hY2
 have hP:=hY2.trans (Zo1 hok2)
 refine Zay<|Zar<|Zar<|ZaN<|Zan<|Zac<|wm<|?_
 refine V' ((by first | exact v_not lk | exact ZaE lk)) pt ?_
 refine sn' ?_
 refine cd' lk (fun hc10=>?_) (fun hc10=>?_)
 ·rw[if_pos (by have:=hc10;rw[ZsZ,Bool.not_eq_true'] at this;exact this)] at hE
  refine wm<|mr<|Zah<|Zae ry<|rtW'<|?_
  rw[ZdU (by rw[hE];decide),hE];exact Wk.tup (wkw Wk.nilF (wk1 rfl wk0))
 rw[if_neg (by have:=hc10;rw[ZsZ,Bool.not_eq_false'] at this;rw[this];simp)] at hE
 have hTV:=Zky (sh:=sh) hE hP hY3
 have hSO : ∀ t∈S,Zbo t.2=0 ∧ -2592000000≤t.1∧t.1≤4320172800:=fun t ht=>ZhF hok2 (hP.mem_iff.1 ht)
 have hSlen:=hP.length_eq
 have hSl2:=ZfY (nm:=nm) hok2
 refine za<|wr'<|mv' lkn pt18<|Zam<|ZaP (ALe.own0' (st':=3) (ty:=174) gt18 hl1 pt18 ha1)<|Zac<|wr'<|mv' lki pt19<|sn'<|Zaf<|?_
 refine w_lp (ι:=Nat) (fun (a:Nat)=>[(18,.own (N+1) a (outV sh 0 (S.take a)).length),(19,iv (a:Int)),(6,.any),(7,.any),(20,.any),(21,.any)]++rn' 141 64) (fun (a:Nat)=>[(1,.mk a 174 3 (rows timC (outV sh 0 (S.take a))))]) (fun (a:Nat)=>a≤S.length ∧ ∀ j (h:j+1<S.length),j+1<a→172800≤S[j+1].1-S[j].1) (fun (a:Nat)=>S.length-a) (0) (by exact⟨Nat.zero_le _,fun j _ h=>by omega⟩) ?_
 rintro a hi5
 try simp only[sm',Nat.reduceAdd]
 obtain⟨hm1,hm2⟩:=hi5
 refine Zac<|wm<|mw<|Vw (Zcm lk)<|Vw (ZaO lk lk)<|sn'<|?_
 refine cd' lk (fun hc11=>?_) (fun hc11=>?_)
 ·have ha:a<S.length:=by omega
  obtain⟨hb0,hb1⟩:=hSO _ (List.getElem_mem ha)
  have hsb:=Zs6 (i:=a) fun t ht=>(hSO t ht).1
  have hol:(outV sh 0 (S.take a)).length=a:=by rw[ZdM,List.length_take];omega
  have hol2:(outV sh 0 (S.take (a+1))).length=a+1:=by rw[ZdM,List.length_take];omega
  refine za<|Zac<|Zaf<|wm<|mw<|?_
  refine V' (ZaT lk lk gx ZaD nb ro om (by first | rfl | (simp;done) | omega)) pt ?_
  refine V' (Zbs lk) pt ?_
  refine V' (Zcb lk gx ZaD om nb gt0) pt ?_
  refine mw<|ms<|Zac<|wm<|Vw (ZbE lk lki)<|sn'<|?_
  refine cd' lk (fun hc12=>?_) (fun hc12=>?_)
  ·obtain⟨hb3,hb4⟩:=hSO _ (List.getElem_mem (show a-1<S.length by omega))
   have hsv:=svAt_pre (l:=S) (show 0<a by omega) om
   rw[hsv] at hsb
   refine Zac<|wm<|mw<|mw<|?_
   refine V' (Za3 lk lki om om) pt ?_
   refine V' (ZaT (k:=a-1) lk lk gx ZaD nb ro om (by first | rfl | (simp;done) | omega)) pt ?_
   refine V' (Zbs lk) pt ?_
   refine V' (Zcb lk gx ZaD om nb gt0) pt ?_
   refine V' (Za3 lk lk om om) pt ?_
   refine Vw (ZaO lk lki)<|sn'<|?_
   refine cd' lk (fun hc13=>?_) (fun hc13=>?_)
   ·have hG:gapB S=true:=gapB_pr2 ha om hc13
    refine wm<|mr<|Zah<|Zah<|Zaq<|Zah<|Zah<|Zaq<|Zah<|?_
    refine Zae ry<|rtW'<|?_
    rw[hTV,if_pos hG];exact Wk.tup (wkw Wk.nilF (wk1 rfl wk0))
   refine za<|Zap<|mw<|mw<|?_
   refine V' (Za3 lk lki om om) pt ?_
   refine V' (ZaT (k:=a-1) lk lk gx ZaD nb ro om (by first | rfl | (simp;done) | omega)) pt ?_
   refine Vw (Zbs lk)<|Vw (Zdu lk)<|?_
   refine V' (Zcb lk gx ZaD om nb gt10) pt ?_
   refine ms<|Zac<|wm<|mw<|?_
   refine V' (ZaT lk lk gx ZaD nb ro om (by first | rfl | (simp;done) | omega)) pt ?_
   refine Vw (Zbs lk)<|Vw (Zdu lk)<|?_
   refine V' (Zcb lk gx ZaD om nb gt9) pt ?_
   refine sn'<|Zaf<|wr'<|Vw (Za7 lk lki)<|ms<|?_
   refine cd' lk (fun hc14=>?_) (fun hc14=>?_)
   ·have hT:timV sh (svAt S a) S[a]=(S[a].1-(sh+svAt S a),rSv S[a].2,rLt S[a].2):=by unfold timV offV;rw[if_pos hc14]
    refine Zap<|mw<|mw<|mw<|?_
    refine V' (ZbM lk lk om om) pt ?_
    refine V' (Za3 lk lk om om) pt ?_
    refine mw<|Zam<|Zau<|Zan<|ZaH<|Dw vm<|Dw vm<|Dw vm<|Dw vm<|?_
    refine D' (ZaT lk lk gx ZaD nb ro om (by first | rfl | (simp;done) | omega)) pt ?_
    refine Dw (Zbs lk)<|Dw (Zdu lk)<|?_
    refine D' (Zcb lk gx ZaD om nb gt10) pt ?_
    refine Dw vm<|Dw vm<|?_
    refine D' (ZaT lk lk gx ZaD nb ro om (by first | rfl | (simp;done) | omega)) pt ?_
    refine Dw (Zbs lk)<|Dw (Zdu lk)<|?_
    refine D' (Zcb lk gx ZaD om nb gt11) pt ?_
    refine Dw (Zat (ZbH cv rfl cv rfl cv rfl))<|Zc5 rfl rfl (hlk hn rfl) (ZfJ (ZbG cv rfl)) pt Zc8<|ZaM<|?_
    refine Zc4 ZcR ?_
    refine E' (ZbK (Zbp lk gx rfl ZdE nb) lk gx (Zda _) om rfl hs1) pt ?_
    refine mw<|Zam<|Zau<|Zan<|Zap<|mw<|?_
    refine ad<|mw<|Zam<|Zaz<|?_
    refine lU' (a+1) (by (try dsimp only);exact⟨by omega,fun j hj h=>by by_cases e:j+1=a;(subst e;(try simp only[Nat.add_sub_cancel] at hc13);omega);exact hm2 j hj om⟩) (by refine zz ?_;exact bkE' 2 hn hlt (by repeat (first | exact wk0 | refine wka ?_ | refine wk1 rfl ?_ | refine wk1 (by first | rfl | exact ivx om | (rw[hol2,hol];done) | (rw[hol2,hol])) ?_)) (by rw[ZcZ ha,hT,ZaF,Zbu];(try rw[hsv]);rfl))
   have hc14':¬rCk S[a].2=1:=hc14
   refine wr'<|Vw (Za7 lk lki)<|ms<|?_
   refine cd' lk (fun hc15=>?_) (fun hc15=>?_)
   ·have hT:timV sh (svAt S a) S[a]=(S[a].1-sh,rSv S[a].2,rLt S[a].2):=by unfold timV offV;rw[if_neg hc14',if_pos hc15]
    refine Zap<|mw<|mw<|?_
    refine V' (Za3 lk lk om om) pt ?_
    refine mw<|Zam<|Zau<|Zan<|ZaH<|Dw vm<|Dw vm<|Dw vm<|Dw vm<|?_
    refine D' (ZaT lk lk gx ZaD nb ro om (by first | rfl | (simp;done) | omega)) pt ?_
    refine Dw (Zbs lk)<|Dw (Zdu lk)<|?_
    refine D' (Zcb lk gx ZaD om nb gt10) pt ?_
    refine Dw vm<|Dw vm<|?_
    refine D' (ZaT lk lk gx ZaD nb ro om (by first | rfl | (simp;done) | omega)) pt ?_
    refine Dw (Zbs lk)<|Dw (Zdu lk)<|?_
    refine D' (Zcb lk gx ZaD om nb gt11) pt ?_
    refine Dw (Zat (ZbH cv rfl cv rfl cv rfl))<|Zc5 rfl rfl (hlk hn rfl) (ZfJ (ZbG cv rfl)) pt Zc8<|ZaM<|?_
    refine Zc4 ZcR ?_
    refine E' (ZbK (Zbp lk gx rfl ZdE nb) lk gx (Zda _) om rfl hs1) pt ?_
    refine mw<|Zam<|Zau<|Zan<|Zap<|mw<|?_
    refine ad<|mw<|Zam<|Zaz<|?_
    refine lU' (a+1) (by (try dsimp only);exact⟨by omega,fun j hj h=>by by_cases e:j+1=a;(subst e;(try simp only[Nat.add_sub_cancel] at hc13);omega);exact hm2 j hj om⟩) (by refine zz ?_;exact bkE' 2 hn hlt (by repeat (first | exact wk0 | refine wka ?_ | refine wk1 rfl ?_ | refine wk1 (by first | rfl | exact ivx om | (rw[hol2,hol];done) | (rw[hol2,hol])) ?_)) (by rw[ZcZ ha,hT,ZaF,Zbu];(try rw[hsv]);rfl))
   have hT:timV sh (svAt S a) S[a]=(S[a].1,rSv S[a].2,rLt S[a].2):=by unfold timV offV;rw[if_neg hc14',if_neg hc15,Int.sub_zero]
   refine ZaB<|Zau<|Zan<|ZaH<|Dw vm<|Dw vm<|Dw vm<|Dw vm<|?_
   refine D' (ZaT lk lk gx ZaD nb ro om (by first | rfl | (simp;done) | omega)) pt ?_
   refine Dw (Zbs lk)<|Dw (Zdu lk)<|?_
   refine D' (Zcb lk gx ZaD om nb gt10) pt ?_
   refine Dw vm<|Dw vm<|?_
   refine D' (ZaT lk lk gx ZaD nb ro om (by first | rfl | (simp;done) | omega)) pt ?_
   refine Dw (Zbs lk)<|Dw (Zdu lk)<|?_
   refine D' (Zcb lk gx ZaD om nb gt11) pt ?_
   refine Dw (Zat (ZbH cv rfl cv rfl cv rfl))<|Zc5 rfl rfl (hlk hn rfl) (ZfJ (ZbG cv rfl)) pt Zc8<|ZaM<|?_
   refine Zc4 ZcR ?_
   refine E' (ZbK (Zbp lk gx rfl ZdE nb) lk gx (Zda _) om rfl hs1) pt ?_
   refine mw<|Zam<|Zau<|Zan<|Zap<|mw<|?_
   refine ad<|mw<|Zam<|Zaz<|?_
   refine lU' (a+1) (by (try dsimp only);exact⟨by omega,fun j hj h=>by by_cases e:j+1=a;(subst e;(try simp only[Nat.add_sub_cancel] at hc13);omega);exact hm2 j hj om⟩) (by refine zz ?_;exact bkE' 2 hn hlt (by repeat (first | exact wk0 | refine wka ?_ | refine wk1 rfl ?_ | refine wk1 (by first | rfl | exact ivx om | (rw[hol2,hol];done) | (rw[hol2,hol])) ?_)) (by rw[ZcZ ha,hT,ZaF,Zbu];(try rw[hsv]);rfl))
  have hsv:svAt S a=0:=by rw[show a=0 by omega];rfl
  refine za<|Zac<|wm<|mw<|?_
  refine V' (ZaT lk lk gx ZaD nb ro om (by first | rfl | (simp;done) | omega)) pt ?_
  refine Vw (Zbs lk)<|Vw (Zdu lk)<|?_
  refine V' (Zcb lk gx ZaD om nb gt9) pt ?_
  refine sn'<|Zaf<|wr'<|Vw (Za7 lk lki)<|ms<|?_
  refine cd' lk (fun hc14=>?_) (fun hc14=>?_)
  ·have hT:timV sh (svAt S a) S[a]=(S[a].1-(sh+svAt S a),rSv S[a].2,rLt S[a].2):=by unfold timV offV;rw[if_pos hc14]
   refine Zap<|mw<|mw<|mw<|?_
   refine V' (ZbM lk lk om om) pt ?_
   refine V' (Za3 lk lk om om) pt ?_
   refine mw<|Zam<|Zau<|Zan<|ZaH<|Dw vm<|Dw vm<|Dw vm<|Dw vm<|?_
   refine D' (ZaT lk lk gx ZaD nb ro om (by first | rfl | (simp;done) | omega)) pt ?_
   refine Dw (Zbs lk)<|Dw (Zdu lk)<|?_
   refine D' (Zcb lk gx ZaD om nb gt10) pt ?_
   refine Dw vm<|Dw vm<|?_
   refine D' (ZaT lk lk gx ZaD nb ro om (by first | rfl | (simp;done) | omega)) pt ?_
   refine Dw (Zbs lk)<|Dw (Zdu lk)<|?_
   refine D' (Zcb lk gx ZaD om nb gt11) pt ?_
   refine Dw (Zat (ZbH cv rfl cv rfl cv rfl))<|Zc5 rfl rfl (hlk hn rfl) (ZfJ (ZbG cv rfl)) pt Zc8<|ZaM<|?_
   refine Zc4 ZcR ?_
   refine E' (ZbK (Zbp lk gx rfl ZdE nb) lk gx (Zda _) om rfl hs1) pt ?_
   refine mw<|Zam<|Zau<|Zan<|Zap<|mw<|?_
   refine ad<|mw<|Zam<|Zaz<|?_
   refine lU' (a+1) (by (try dsimp only);exact⟨by omega,fun j hj h=>by by_cases e:j+1=a;(subst e;(try simp only[Nat.add_sub_cancel] at hc13);omega);exact hm2 j hj om⟩) (by refine zz ?_;exact bkE' 2 hn hlt (by repeat (first | exact wk0 | refine wka ?_ | refine wk1 rfl ?_ | refine wk1 (by first | rfl | exact ivx om | (rw[hol2,hol];done) | (rw[hol2,hol])) ?_)) (by rw[ZcZ ha,hT,ZaF,Zbu];(try rw[hsv]);rfl))
  have hc14':¬rCk S[a].2=1:=hc14
  refine wr'<|Vw (Za7 lk lki)<|ms<|?_
  refine cd' lk (fun hc15=>?_) (fun hc15=>?_)
  ·have hT:timV sh (svAt S a) S[a]=(S[a].1-sh,rSv S[a].2,rLt S[a].2):=by unfold timV offV;rw[if_neg hc14',if_pos hc15]
   refine Zap<|mw<|mw<|?_
   refine V' (Za3 lk lk om om) pt ?_
   refine mw<|Zam<|Zau<|Zan<|ZaH<|Dw vm<|Dw vm<|Dw vm<|Dw vm<|?_
   refine D' (ZaT lk lk gx ZaD nb ro om (by first | rfl | (simp;done) | omega)) pt ?_
   refine Dw (Zbs lk)<|Dw (Zdu lk)<|?_
   refine D' (Zcb lk gx ZaD om nb gt10) pt ?_
   refine Dw vm<|Dw vm<|?_
   refine D' (ZaT lk lk gx ZaD nb ro om (by first | rfl | (simp;done) | omega)) pt ?_
   refine Dw (Zbs lk)<|Dw (Zdu lk)<|?_
   refine D' (Zcb lk gx ZaD om nb gt11) pt ?_
   refine Dw (Zat (ZbH cv rfl cv rfl cv rfl))<|Zc5 rfl rfl (hlk hn rfl) (ZfJ (ZbG cv rfl)) pt Zc8<|ZaM<|?_
   refine Zc4 ZcR ?_
   refine E' (ZbK (Zbp lk gx rfl ZdE nb) lk gx (Zda _) om rfl hs1) pt ?_
   refine mw<|Zam<|Zau<|Zan<|Zap<|mw<|?_
   refine ad<|mw<|Zam<|Zaz<|?_
   refine lU' (a+1) (by (try dsimp only);exact⟨by omega,fun j hj h=>by by_cases e:j+1=a;(subst e;(try simp only[Nat.add_sub_cancel] at hc13);omega);exact hm2 j hj om⟩) (by refine zz ?_;exact bkE' 2 hn hlt (by repeat (first | exact wk0 | refine wka ?_ | refine wk1 rfl ?_ | refine wk1 (by first | rfl | exact ivx om | (rw[hol2,hol];done) | (rw[hol2,hol])) ?_)) (by rw[ZcZ ha,hT,ZaF,Zbu];(try rw[hsv]);rfl))
  have hT:timV sh (svAt S a) S[a]=(S[a].1,rSv S[a].2,rLt S[a].2):=by unfold timV offV;rw[if_neg hc14',if_neg hc15,Int.sub_zero]
  refine ZaB<|Zau<|Zan<|ZaH<|Dw vm<|Dw vm<|Dw vm<|Dw vm<|?_
  refine D' (ZaT lk lk gx ZaD nb ro om (by first | rfl | (simp;done) | omega)) pt ?_
  refine Dw (Zbs lk)<|Dw (Zdu lk)<|?_
  refine D' (Zcb lk gx ZaD om nb gt10) pt ?_
  refine Dw vm<|Dw vm<|?_
  refine D' (ZaT lk lk gx ZaD nb ro om (by first | rfl | (simp;done) | omega)) pt ?_
  refine Dw (Zbs lk)<|Dw (Zdu lk)<|?_
  refine D' (Zcb lk gx ZaD om nb gt11) pt ?_
  refine Dw (Zat (ZbH cv rfl cv rfl cv rfl))<|Zc5 rfl rfl (hlk hn rfl) (ZfJ (ZbG cv rfl)) pt Zc8<|ZaM<|?_
  refine Zc4 ZcR ?_
  refine E' (ZbK (Zbp lk gx rfl ZdE nb) lk gx (Zda _) om rfl hs1) pt ?_
  refine mw<|Zam<|Zau<|Zan<|Zap<|mw<|?_
  refine ad<|mw<|Zam<|Zaz<|?_
  refine lU' (a+1) (by (try dsimp only);exact⟨by omega,fun j hj h=>by by_cases e:j+1=a;(subst e;(try simp only[Nat.add_sub_cancel] at hc13);omega);exact hm2 j hj om⟩) (by refine zz ?_;exact bkE' 2 hn hlt (by repeat (first | exact wk0 | refine wka ?_ | refine wk1 rfl ?_ | refine wk1 (by first | rfl | exact ivx om | (rw[hol2,hol];done) | (rw[hol2,hol])) ?_)) (by rw[ZcZ ha,hT,ZaF,Zbu];(try rw[hsv]);rfl))
 obtain rfl:a=S.length:=by omega
 rw[List.take_length]
 have hG:gapB S=false:=gap_ok2 hm2 (Nat.le_refl _)
 rw[if_neg (by rw[hG];simp)] at hTV
 have hol:=ZdM S sh 0
 refine Zay<|Zar<|Zar<|ZaN<|Zan<|Zac<|wm<|Vw (Zcm lk)<|Vw (ZbE lk lki)<|sn'<|?_
 refine cd' lk (fun hc16=>?_) (fun hc16=>?_)
 ·refine wm<|mr<|Zah<|Zae ry<|rtW'<|?_
  rw[hTV,if_pos om];exact Wk.tup (wkw Wk.nilF (wk1 rfl wk0))
 refine ZaB ?_
 refine ZaP (ALe.iceR (hga hn rfl) gt18 (List.take_of_length_le (by rw[Zda];exact Nat.le_refl _)) (by rw[Zda];exact Nat.le_refl _) pt18 hs1) ?_
 refine wm<|mw<|mr<|Zae ry<|rtW'<|?_
 rw[hTV,if_neg om];exact Wk.tup (wkw Wk.full (wk1 rfl wk0))
end
section
open Go.Ab Go.RowKit Civ
attribute [local simp] ZbL Zce ZbZ Zbv Zbi ZdB ZdH
section
theorem Zrq {a0 a1 a2 a3 a4 a5 a6 a7:AV}{l:List AV}:((a0::a1::a2::a3::a4::a5::a6::a7::l).drop 5).take 3=[a5,a6,a7]:=rfl
theorem Zrp {a0 a1 a2 a3 a4 a5 a6 a7 a8 a9:AV}{l:List AV}:(a0::a1::a2::a3::a4::a5::a6::a7::a8::a9::l).take 10=[a0,a1,a2,a3,a4,a5,a6,a7,a8,a9]:=rfl
theorem Zjf {τ:Operand→AV}{y0:Operand}{x0_0:AV}(h0:Zao (τ y0)=some [x0_0]) (l0:[x0_0].all leaf=true):Zak τ [(0,1,y0)] [(iv 0)]=some [x0_0]:=by
 simp only[Zak,h0,l0]
 rfl
theorem ZvI {a0:AV}{l:List AV}:(a0::l).take 1=[a0]:=rfl
end
def c57:AC:=(Sr [Oo 2 (.box 53 3 (t 0)),Mc 4 0] (.seq (Sr [Mc 5 0] (.block 0 (.loop (.seq (Sr [Mv 6 5,Fa 7 1 2,Ld 8 7,Oo 9 (.len false (t 8)),Bn 10 .lss 6 9] (Cd 10 .skip (.exit 0))) (.seq (.block 1 (Sr [Fa 13 1 2,Ld 14 13,Mv 15 5,Oo 16 (.ia 2 (t 14) (t 15)),Fa 17 0 16,Ld 18 17,Mv 19 1,Bn 20 .eql 18 19] (Cd 20 (Sr [Mv 21 5,Mv 4 21] .ret) .skip))) (.reg [Mv 11 5,Bc 12 .add 11 1,Mv 5 12])))))) (Sr [Oo 4 (.mv (.const (.int .i64 (-1))))] .ret)))
theorem k57:Zaw Tryz.prog 57=some ⟨c57,[(.tmp 4)],22⟩:=by kernel_rfl
def c203:AC:=(Sr [Oo 1 (.box 144 10 (t 0)),Mc 2 0] (Sd [Fa 4 5 1,Fa 5 0 4,Oo 6 (.load true 3 (t 5)),Cl 7 202 [(t 6)],Bc 8 .mul 7 86400,Fa 9 5 1,Fa 10 3 9,Ld 11 10,Bn 12 .add 8 11,Mv 3 12] (.seq (Sr [Fa 13 5 1,Fa 14 4 13,Ld 15 14,Bc 16 .eql 15 2] (Cd 16 (.reg [Mv 17 3,Fa 18 0 1,Ld 19 18,Bn 20 .sub 17 19,Mv 3 20]) .skip)) (Sr [Mv 21 3,Mv 2 21] .ret))))
theorem k203:Zaw Tryz.prog 203=some ⟨c203,[(.tmp 2)],22⟩:=by kernel_rfl
def c110:AC:=(Sr [Oo 1 (.box 94 2 (t 0)),Oo 2 (.mv (.const (.slice none 0 0)))] (Sr [Oo 3 (.mv (.const (.slice none 0 0)))] (.seq (Sr [Mc 4 0] (.block 0 (.loop (.seq (Sr [Mv 5 4,Fa 6 1 1,Ld 7 6,Oo 8 (.len false (t 7)),Bc 9 .sub 8 1,Bn 10 .lss 5 9] (Cd 10 .skip (.exit 0))) (.seq (.block 1 (.reg [Mv 13 3,Fa 14 1 1,Ld 15 14,Mv 16 4,Oo 17 (.ia 10 (t 15) (t 16)),Oo 18 (.load true 10 (t 17)),Cl 19 203 [(t 18)],Oo 20 (.lit 3 1 1 [(iv 0)] [(0,(1,(t 19)))]),Oo 21 (.app 3 1 8 (t 13) (t 20)),Mv 3 21])) (.reg [Mv 11 4,Bc 12 .add 11 1,Mv 4 12])))))) (Sr [Mv 22 3,Mv 2 22] .ret))))
theorem k110:Zaw Tryz.prog 110=some ⟨c110,[(.tmp 2)],23⟩:=by kernel_rfl
def c204:AC:=(Sr [Ms 6] (.seq (Sr [Mc 7 0] (.block 0 (.loop (.seq (Sr [Mv 8 7,Mv 9 0,Oo 10 (.len true (t 9)),Bn 11 .lss 8 10] (Cd 11 .skip (.exit 0))) (.seq (.block 1 (.seq (Sr [Mv 14 0,Mv 15 7,Oo 16 (.ix (t 14) (t 15)),Oo 17 (.bin .eql (t 16) (.const (.int .u8 47))),Mv 18 17,Ot 19 18 (mt 2),Ot 20 18 (.bin .eql (t 19) (Ci 0)),Oo 21 (.pick (t 18) (t 20) (.const (.bool false)))] (Cd 21 (Sr [Mv 22 0,Mv 23 7,Oo 24 (.sls (t 22) none (some (t 23))),Mv 6 24] .ret) .skip)) (.seq (Sr [Mv 25 0,Mv 26 7,Oo 27 (.ix (t 25) (t 26)),Oo 28 (.bin .eql (t 27) (.const (.int .u8 47)))] (Cd 28 (Sr [Mv 29 0,Mv 30 7,Bc 31 .add 30 1,Oo 32 (.sls (t 29) (some (t 31)) none),Mv 6 32] .ret) .skip)) (Sr [Mv 33 0,Mv 34 7,Oo 35 (.ix (t 33) (t 34)),Oo 36 (.bin .eql (t 35) (.const (.int .u8 37)))] (Cd 36 (Sd [Mv 37 0,Mv 38 7,Oo 39 (.sls (t 37) none (some (t 38))),Mv 40 1,Bn 41 .add 39 40,Mv 42 0,Mv 43 7,Bc 44 .add 43 2,Oo 45 (.sls (t 42) (some (t 44)) none),Bn 46 .add 41 45,Mv 6 46] .ret) .skip))))) (.reg [Mv 12 7,Bc 13 .add 12 1,Mv 7 13])))))) (Sr [Mv 47 0,Mv 6 47] .ret)))
theorem k204:Zaw Tryz.prog 204=some ⟨c204,[(.tmp 6)],48⟩:=by kernel_rfl
theorem Ztp {a:List Rul}{z:List Zon}{k:List Lnk}{nm:ByteArray}{h:AH}(hz:z.length≤9000000000000000000):Ac 57 [.agg (srcB a z k),sv nm] h (iv (Zd1 z nm)):=by
 refine tI' k57 fun N hn _ _ hbd=>?_
 simp only[tb'] at hbd ⊢
 refine wr'<|E' (ZaR cv rfl hl0 ha0) pt<|ms<|Zac<|wk'<|Zaf<|?_
 refine w_lp (ι:=Nat) (fun (i:Nat)=>[(5,iv (i:Int)),(4,.any)]++rn' 6 16) (fun (i:Nat)=>[]) (fun (i:Nat)=>i≤z.length ∧ ∀ j (hj:j<z.length),j<i→decide (z[j].1=nm)=false) (fun (i:Nat)=>z.length-i) (0) (by exact⟨by omega,fun j hj h0=>absurd h0 om⟩) ?_
 rintro i hi1
 try simp only[sm',Nat.reduceAdd]
 obtain⟨hk1,hk2⟩:=hi1
 refine Zac<|wm<|fq<|Vw (Zaa lk gx gt1)<|Vw (ZaA lk)<|Vw (ZaO lk lk)<|sn'<|?_
 refine cd' lk (fun hc1=>?_) (fun hc1=>?_)
 ·have hi:i<z.length:=by omega
  refine za<|Zac<|Zaf<|wr'<|fq<|Vw (Zaa lk gx gt1)<|mw<|?_
  refine V' (ZaJ lk lk Zcp nb ro om ro rfl) pt ?_
  refine Vw (Zbl lk dp0)<|Vw (Zax lk gt)<|mw<|Vw (ZfX lk lk)<|sn'<|?_
  refine cd' lk (fun hc2=>?_) (fun hc2=>?_)
  ·refine wm<|mr<|Zaq<|Zah<|Zah<|Zaq<|Zah<|Zae rz<|rT'<|?_
   refine ivx ?_
   have hf:z.findIdx (fun y:Zon=>decide (y.1=nm))=i:=Zfd hi (decide_eq_true hc2) (fun j hj=>hk2 j om hj)
   rw[Zd1,idxV,hf,if_pos hi]
  refine ZaB<|Zau<|Zan<|Zap<|mw<|?_
  refine ad<|mw<|Zam<|Zaz<|?_
  refine lT' (i+1) (by (try dsimp only);refine⟨by omega,fun j hj h0=>?_⟩;by_cases e:j=i;(subst e;exact decide_eq_false hc2);exact hk2 j hj om)
 refine Zay<|Zar<|Zar<|ZaN<|Zan<|wo<|Zae rz<|rT'<|?_
 refine ivx ?_
 have hf:z.findIdx (fun y:Zon=>decide (y.1=nm))=z.length:=List.findIdx_eq_length.2 (fun x hx=>by obtain⟨j,hj,rfl⟩:=List.getElem_of_mem hx;exact hk2 j hj om)
 rw[Zd1,idxV,hf,if_neg om]
theorem rendOf_a {x:Era}{h:AH}(hd:Zbq x.2.2.2.2.2.1.1 x.2.2.2.2.2.1.2.1 x.2.2.2.2.2.1.2.2=true) (ha:0≤x.2.2.2.2.2.2.1∧x.2.2.2.2.2.2.1≤172800) (hs : -64800≤x.1∧x.1≤64800) :
  ACalls Tryz.prog 203 [.agg (eraC x)] h fun y h'=>h'=h∧y=.ret (iv (endV x)):=by
 have hnb:=Zl4 hd
 have hdi:=ZbQ.1 hd
 have hml:=Zdc x.2.2.2.2.2.1.1 x.2.2.2.2.2.1.2.1
 refine tI' k203 fun N hn _ _ hbd=>?_
 simp only[tb'] at hbd ⊢
 refine wr'<|E' (ZaR cv rfl hl0 ha0) pt<|ms<|Zac<|ZaH<|dg<|Dw (Zbs lk)<|Dw (Zag lk gx Zrq rfl)<|?_
 refine ZaC mp (fun hE hX=>ZcY om om om om om om) pt ?_
 refine D' (ZfB lk lki om om) pt ?_
 refine dg<|Dw (Zbs lk)<|Dw (Zaa lk gx gt8)<|?_
 refine D' (ZbM lk lk om om) pt ?_
 refine Dw vm<|ZaM<|?_
 refine Za5 ?_
 refine sn'<|Zac<|wr'<|fq<|Vw (Zbs lk)<|Vw (Zaa lk gx gt9)<|Vw (Za7 lk lki)<|sn'<|?_
 refine cd' lk (fun hc1=>?_) (fun hc1=>?_)
 ·refine Zap<|mw<|fq<|Vw (Zaa lk gx gt0)<|?_
  refine V' (Za3 lk lk om om) pt ?_
  refine ms<|wm<|mr<|Zae rz<|rT'<|?_
  refine ivx ?_;unfold endV;rw[if_pos hc1]
 refine za<|wm<|mr<|Zae rz<|rT'<|?_
 refine ivx ?_;unfold endV;rw[if_neg hc1,Int.sub_zero]
theorem rends_a {nm:ByteArray}{es:List Era}{h:AH}(hz:okZ es):Ac 110 [.agg [sv nm,.sl es.length 10 false (rows eraC es)]] h (.sl (ZaI es).length 1 false (rows intC (ZaI es))):=by
 have hlen:=hz.len
 have hne:=List.length_pos_iff.2 hz.ne
 have hel:=ZcW es
 refine tW' k110 fun N hn hlt _ hbd=>?_
 simp only[tb'] at hbd ⊢
 refine wr'<|E' (ZaR (cvl lk0 rfl) rfl hl0 ha0) pt1<|mv' lkn pt2<|sn'<|wr'<|mv' lkn pt3<|Zam<|ZaP (ALe.own0' (st':=1) (ty:=3) gt3 hl1 pt3 ha1)<|Zac<|wr'<|?_
 refine ms<|Zaf<|?_
 refine w_lp (ι:=Nat) (fun (k:Nat)=>[(3,.own (N+1) k k),(4,iv (k:Int))]++rn' 5 17) (fun (k:Nat)=>[(1,.mk k 3 1 (rows intC ((ZaI es).take k)))]) (fun (k:Nat)=>k+1≤es.length) (fun (k:Nat)=>es.length-k) (0) (by exact hne) ?_
 rintro k hi1
 try simp only[sm',Nat.reduceAdd]
 replace hi1:k+1≤es.length:=hi1
 have htl:((ZaI es).take k).length=k:=by rw[List.length_take,hel];omega
 refine Zac<|wm<|fq<|Vw (Zaa lk gx gt1)<|Vw (ZaA lk)<|?_
 refine V' (Za3 lk lki om om) pt ?_
 refine Vw (ZaO lk lk)<|sn'<|?_
 refine cd' lk (fun hc1=>?_) (fun hc1=>?_)
 ·have hke:k+1<es.length:=by omega
  obtain⟨hd,ha⟩:=hz.un k om hke
  have hsh : -64800≤es[k].1∧es[k].1≤64800:=(hz.fm _ (List.getElem_mem om)).2.1
  refine za<|Zac<|Zaf<|Zap<|mw<|fq<|Vw (Zaa lk gx gt1)<|mw<|?_
  refine V' (ZaJ lk lk ZcV nb ro om ro rfl) pt ?_
  refine Vw (Zas lk Zrp rfl)<|Zad mp (rendOf_a (x:=es[k]) hd ha hsh) pt<|E' (Zcz (Zjf cv rfl) hl2 ha2) pt<|?_
  refine E' (ZbK (Zbp lk (hga hn rfl) rfl ZvI nb) lk (hga hn rfl) ((ZdT _).trans (by rw[htl])) om rfl hs1) pt ?_
  refine mw<|Zam<|Zau<|Zan<|Zap<|mw<|?_
  refine ad<|mw<|Zam<|Zaz<|?_
  refine lU' (k+1) (by (try dsimp only);omega) (by refine zz ?_;exact bk' 2 hn hlt (by rw[Ziu hke,ZaF,Zbu];rfl))
 refine Zay<|Zar<|Zar<|ZaN<|?_
 refine ZaP (ALe.iceR (hga hn rfl) gt3 (List.take_of_length_le (by rw[ZdT,htl];omega)) (by rw[ZdT,htl];omega) pt3 hs1) ?_
 refine wm<|mr<|Zae rz<|rtW'<|?_
 rw[show k=(ZaI es).length by omega,List.take_length];exact Wk.full
theorem occ1 {l:Bs}{x:UInt8}{j:Nat}(h:j<l.length):Lib.occAt l [x] j=(x==l[j]):=by
 unfold Lib.occAt;rw[List.drop_eq_getElem_cons h];simp[List.isPrefixOf]
theorem Zuw {l:Bs}{x:UInt8}{i:Nat}(hi:i<l.length) (hx:l[i]=x) (hb : ∀ j (hj:j<l.length),j<i→l[j]≠x):Lib.index l [x]=i:=by
 refine Lib.index_hit (fun j hj=>?_) (Nat.le_of_lt hi) (by rw[occ1 hi,hx];simp)
 rw[occ1 om]
 simpa using fun e=>hb j om hj e.symm
theorem ZnR {l:Bs}{x:UInt8}(hb : ∀ j (hj:j<l.length),l[j]≠x):Lib.index l [x] = -1:=by
 rcases Lib.index_spec l [x] with ⟨h,_⟩ | ⟨i,_,h2,h3,_⟩
 ·exact h
 exfalso
 rcases Nat.lt_or_ge i l.length with hi | hi
 ·rw[occ1 hi] at h3;exact hb i hi (by simpa using h3:x=l[i]).symm
 rw[Lib.occAt,List.drop_of_length_le hi] at h3;simp[List.isPrefixOf] at h3
theorem Zio {l:Bs}{p:Nat}(h:Lib.index l [37,115]=p) : ∃ h1:p<l.length,l[p]=37:=by
 rcases Lib.index_spec l [37,115] with ⟨h1,_⟩ | ⟨i,h1,h2,h3,_⟩
 ·omega
 obtain rfl:p=i:=by omega
 rcases Nat.lt_or_ge p l.length with hi | hi
 ·refine⟨hi,?_⟩
  rw[Lib.occAt,List.drop_eq_getElem_cons hi] at h3
  simp[List.isPrefixOf] at h3
  exact h3.1.symm
 rw[Lib.occAt,List.drop_of_length_le hi] at h3;simp[List.isPrefixOf] at h3
theorem ZkU {s:ByteArray}(h:allB ZbP s=true) {j:Nat}(hj:j<(aB s).length):(aB s)[j]≠37∧(aB s)[j]≠47:=by
 unfold allB at h
 rw[List.all_eq_true] at h
 have:=h (aB s)[j] (List.getElem_mem hj)
 constructor <;> (intro e;rw[e] at this;revert this;decide)
def Zpn (fm:ByteArray) (i:Nat):Prop := ∀ j (hj:j<(aB fm).length),j<i→(aB fm)[j]≠47∧(aB fm)[j]≠37
theorem Zhn {fm lt:ByteArray}{sa:Int}{i:Nat}(hq:Zpn fm i) (hi:i<(aB fm).length) (hx:(aB fm)[i]=47):Zfs fm lt sa=if 0<sa then bA ((aB fm).drop (i+1)) else bA ((aB fm).take i):=by
 have he:Lib.index (aB fm) [47]=i:=Zuw hi hx fun j hj h=>(hq j hj h).1
 unfold Zfs cutL Lib.cut
 rw[he]
 simp
theorem cut47_no {fm:ByteArray}(hq : ∀ j (hj:j<(aB fm).length),(aB fm)[j]≠47):(cutL fm [47]).2.2=false:=by
 unfold cutL Lib.cut;rw[ZnR hq];rfl
theorem ZqV {fm lt:ByteArray}{sa:Int}{i:Nat}(hf:ZbX fm=true) (hq:Zpn fm i) (hi:i<(aB fm).length) (hx:(aB fm)[i]=37) :
  i+2≤(aB fm).length∧Zfs fm lt sa=bA ((aB fm).take i++aB lt++(aB fm).drop (i+2)):=by
 have h47:(cutL fm [47]).2.2=false:=by
  cases hc:(cutL fm [47]).2.2 with
  | false=>rfl
  | true =>
   exfalso
   unfold ZbX at hf
   split at hf
   ·cases hf
   try rw[if_pos hc] at hf
   simp only[Bool.and_eq_true] at hf
   have hp:=hf.1.2
   unfold cutL Lib.cut at hc hp
   split at hc
   ·rename_i h0
    obtain⟨p,hp0⟩ : ∃ p:Nat,Lib.index (aB fm) [47]=p:=⟨(Lib.index (aB fm) [47]).toNat,by omega⟩
    rw[if_pos h0,hp0] at hp
    obtain⟨_,hpl,hp47⟩:=Zge hp0
    have hp47':(aB fm)[p]=47:=by rw[List.getElem?_eq_getElem hpl] at hp47;exact Option.some.inj hp47
    have hip:i<p:=by
     rcases Nat.lt_trichotomy i p with h | h | h
     ·exact h
     ·subst h;rw[hx] at hp47';cases hp47'
     exact absurd hp47' (hq p hpl h).1
    have:=(ZkU hp (j:=i) (by have hi':i<fm.size:=hi;simp[aB,bA];omega)).1
    apply this
    simpa [aB,bA] using hx
   cases hc
 have hf2:=hf
 unfold ZbX at hf2
 split at hf2
 ·cases hf2
 rw[if_neg (by rw[h47];simp)] at hf2
 simp only[Bool.and_eq_true] at hf2
 have hp:=hf2.1
 have he:Lib.index (aB fm) [37,115]=i:=by
  unfold cutL Lib.cut at hp
  split at hp
  ·rename_i h0
   obtain⟨p,hp0⟩ : ∃ p:Nat,Lib.index (aB fm) [37,115]=p:=⟨(Lib.index (aB fm) [37,115]).toNat,by omega⟩
   rw[hp0] at hp
   obtain⟨hpl,hp37⟩:=Zio hp0
   rcases Nat.lt_trichotomy i p with h | h | h
   ·exfalso
    have:=(ZkU hp (j:=i) (by have hi':i<fm.size:=hi;simp[aB,bA];omega)).1
    apply this
    simpa [aB,bA] using hx
   ·rw[hp0,h]
   exact absurd hp37 (hq p hpl h).2
  exfalso
  have:=(ZkU (s:=bA (aB fm)) hp (j:=i) hi).1
  exact this hx
 refine⟨?_,?_⟩
 ·rcases Lib.index_spec (aB fm) [37,115] with ⟨h1,_⟩ | ⟨p,h1,h2,h3,_⟩
  ·omega
  obtain rfl:i=p:=by omega
  have h4:[37,115] <+: (aB fm).drop i:=by simpa [Lib.occAt] using h3
  have:=h4.length_le
  simp at this;omega
 unfold Zfs
 rw[if_neg (by rw[h47];simp)]
 unfold cutL Lib.cut
 rw[he]
 simp
theorem ZnD {fm lt:ByteArray}{sa:Int}(hq:Zpn fm (aB fm).length):Zfs fm lt sa=fm:=by
 unfold Zfs
 rw[if_neg (by rw[cut47_no fun j hj=>(hq j hj hj).1];simp)]
 unfold cutL Lib.cut
 split
 ·rename_i h0
  obtain⟨p,hp0⟩ : ∃ p:Nat,Lib.index (aB fm) [37,115]=p:=⟨(Lib.index (aB fm) [37,115]).toNat,by omega⟩
  obtain⟨hpl,hp37⟩:=Zio hp0
  exact absurd hp37 (hq p hpl hpl).2
 rfl
theorem Zqq {fm:ByteArray}{i:Nat}(hi:i<fm.size) (c:UInt8):((ZbU fm i).toNat:Int)=(c.toNat:Int)↔(aB fm)[i]'hi=c:=by
 rw[Zd5 hi]
 have e:(aB fm)[i]'hi=fm[i]:=rfl
 rw[e]
 constructor
 ·intro h;exact UInt8.toNat_inj.1 om
 intro h;rw[h]
theorem ZlP {fm lt:ByteArray}{sa:Int}{h:AH}(hf:ZbX fm=true) (hl:lt.size≤24) (hs:0≤sa):Ac 204 [sv fm,sv lt,iv sa] h (sv (Zfs fm lt sa)):=by
 have hfl:=ZfK hf
 have hsz:(aB fm).length=fm.size:=rfl
 refine tI' k204 fun N hn _ _ hbd=>?_
 simp only[tb'] at hbd ⊢
 refine wk'<|Zac<|wk'<|Zaf<|?_
 refine w_lp (ι:=Nat) (fun (i:Nat)=>[(7,iv (i:Int)),(6,.any)]++rn' 8 39) (fun (i:Nat)=>[]) (fun (i:Nat)=>i≤fm.size∧Zpn fm i) (fun (i:Nat)=>fm.size-i) (0) (by exact⟨Nat.zero_le _,fun j _ h=>by omega⟩) ?_
 rintro i hi1
 try simp only[sm',Nat.reduceAdd]
 obtain⟨hk1,hk2⟩:=hi1
 refine Zac<|wm<|mw<|Vw (ZcJ lk)<|Vw (ZaO lk lk)<|sn'<|?_
 refine cd' lk (fun hc1=>?_) (fun hc1=>?_)
 ·have hi:i<fm.size:=by omega
  refine za<|Zac<|Zaf<|Zac<|wm<|mw<|?_
  refine V' (v_ix lk lk om om) pt ?_
  refine Vw (Za7 lk lki)<|mw<|?_
  refine sp' (t:=18) gt pt pt (fun hg18=>?_) (fun hg18=>?_)
  ·have hx:(aB fm)[i]'hi=47:=(Zqq hi 47).1 hg18
   refine sd<|mw<|sd<|Vw (Za7 lk lki)<|Vw (Zal lk lk)<|sn'<|?_
   refine cd' lk (fun hc2=>?_) (fun hc2=>?_)
   ·refine wm<|mw<|?_
    refine V' (v_sls lk on_ (oi lk) om om om) pt ?_
    refine mr<|Zah<|Zaq<|Zah<|Zah<|Zaq<|Zah<|Zae rz<|rT'<|?_
    rw[Zhn hk2 hi hx,if_neg om,Zqt];simp
   refine za<|Zac<|wm<|mw<|?_
   refine V' (v_ix lk lk om om) pt ?_
   refine Vw (Za7 lk lki)<|sn'<|?_
   refine ZeM lk (by exact decide_eq_true hg18) ?_
   refine wm<|mw<|?_
   refine ad<|V' (v_sls lk (oi lk) on_ om om om) pt ?_
   refine mr<|Zah<|Zaq<|Zah<|Zah<|Zaq<|Zah<|Zae rz<|rT'<|?_
   rw[Zhn hk2 hi hx,if_pos om,Zqt,List.take_of_length_le (by rw[List.length_drop,hsz];omega)];rfl
  have hx:(aB fm)[i]'hi≠47:=fun e=>hg18 ((Zqq hi 47).2 e)
  refine so<|so<|Vw (Zaj lk lkb)<|sn'<|Za8 lk<|za<|Zac<|wm<|mw<|?_
  refine V' (v_ix lk lk om om) pt ?_
  refine Vw (Za7 lk lki)<|sn'<|?_
  refine ZdG lk (by exact decide_eq_false hg18) ?_
  refine za<|wm<|mw<|?_
  refine V' (v_ix lk lk om om) pt ?_
  refine Vw (Za7 lk lki)<|sn'<|?_
  refine cd' lk (fun hc4=>?_) (fun hc4=>?_)
  ·have hx2:(aB fm)[i]'hi=37:=(Zqq hi 37).1 hc4
   obtain⟨hi2,hN⟩:=ZqV (lt:=lt) (sa:=sa) hf hk2 hi hx2
   rw[hsz] at hi2
   refine Zac<|ZaH<|Dw vm<|Dw vm<|?_
   refine D' (v_sls lk on_ (oi lk) om om om) pt ?_
   refine D' vm pt ?_
   refine D' (v_addS lk lk (by first | omega | (rw[ByteArray.size_extract];omega))) pt ?_
   refine Dw vm<|Dw vm<|?_
   refine D' (ZbM lk lki om om) pt ?_
   refine D' (v_sls lk (oi lk) on_ om om om) pt ?_
   refine D' (v_addS lk lk (by first | omega | (rw[ByteArray.size_append,ByteArray.size_extract,ByteArray.size_extract];omega))) pt ?_
   refine Dw vm<|ZaM<|?_
   refine Za5 ?_
   refine sr<|Zaq<|Zah<|Zah<|Zaq<|Zah<|Zae rz<|rT'<|?_
   rw[hN,Zqt,Zqt];refine congrArg _ ?_;apply ByteArray.ext;simp[bA,aB];rw[show ((i:Int)+2).toNat=i+2 by omega];exact List.take_of_length_le (by simp)
  have hx2:(aB fm)[i]'hi≠37:=fun e=>hc4 ((Zqq hi 37).2 e)
  refine ZaB<|Zau<|Zan<|Zap<|mw<|?_
  refine ad<|mw<|Zam<|Zaz<|?_
  refine lT' (i+1) (by (try dsimp only);refine⟨by omega,fun j hj h=>?_⟩;by_cases e:j=i;(subst e;exact⟨hx,hx2⟩);exact hk2 j hj om)
 refine Zay<|Zar<|Zar<|ZaN<|Zan<|wm<|mr<|Zae rz<|rT'<|?_
 rw[ZnD (by rw[hsz,show fm.size=i by omega];exact hk2)]
end
end Go.Proofs.YtfoipaclphdodaaGreatDoor
section
namespace Go.Ab
theorem ALe.wkAt {n0 d:Nat}{T T':List AV}{h:AH}{c c':AV}(hd:T[d]?=some c) (hw:Wk c c') (hp:aPut T (some d) c'=T'):ALe n0 T h T' h:=by
 subst hp
 refine ALe.same ?_ rfl
 show WkL T (T.set d c')
 have : ∀ (T:List AV) (d:Nat),T[d]?=some c→WkL T (T.set d c'):=by
  intro T
  induction T with
  | nil=>intro d hd;simp at hd
  | cons t T ih =>
   intro d hd
   cases d with
   | zero=>simp at hd;subst hd;exact wkw hw (WkL.refl _)
   | succ d=>exact wk1 rfl (ih d (by simpa using hd))
 exact this T d hd
end Go.Ab
namespace Go.Proofs.YtfoipaclphdodaaGreatDoor
open Go.Ab Go.RowKit Civ
attribute [local simp] ZbL Zce ZbZ Zbv Zbi ZdB ZdH
section
theorem Zj4 {a0 a1:AV}{l:List AV}:((a0::a1::l).drop 0).take 2=[a0,a1]:=rfl
theorem Zlj {τ:Operand→AV}{y0 y1:Operand}{x0_0 x0_1 x1_0:AV}(h0:Zao (τ y0)=some [x0_0,x0_1]) (l0:[x0_0,x0_1].all leaf=true) (h1:Zao (τ y1)=some [x1_0]) (l1:[x1_0].all leaf=true):Zak τ [(0,2,y0),(2,1,y1)] [(.v (.string ⟨#[]⟩)),(.sl 0 0 true []),(.sl 0 0 true []),(.sl 0 0 true [])]=some [x0_0,x0_1,x1_0,(.sl 0 0 true [])]:=by
 simp only[Zak,h0,l0,h1,l1]
 rfl
theorem ZvH { e:Ent}:([]:AH)++[e]=[e]:=rfl
theorem Zro {e0 e1 e2 d0:Ent}:([e0,e1,e2]:AH)++[d0]=[e0,e1,e2,d0]:=rfl
theorem Zj6 {a0 a1 a2 a3 c0 c1 c2 c3:AV}{l:List AV}:setCells (a0::a1::a2::a3::l) 0 [c0,c1,c2,c3]=c0::c1::c2::c3::l:=rfl
theorem ZfA {τ:Operand→AV}{y0:Operand}{x0_0:AV}(h0:Zao (τ y0)=some [x0_0]) (l0:[x0_0].all leaf=true):Zak τ [(0,1,y0)] [(.sl 0 0 true [])]=some [x0_0]:=by
 simp only[Zak,h0,l0]
 rfl
theorem ZmB {a0:AV}{l:List AV}:(a0::l).take 1=[a0]:=rfl
theorem Zj5 {a0 a1 a2 a3 c0:AV}{l:List AV}:setCells (a0::a1::a2::a3::l) 3 [c0]=a0::a1::a2::c0::l:=rfl
theorem Zj2 {a0 a1 a2 a3:AV}{l:List AV}:((a0::a1::a2::a3::l).drop 0).take 4=[a0,a1,a2,a3]:=rfl
theorem Zj1 {a0 a1 a2 a3 a4 a5 a6 a7 a8 a9:AV}{l:List AV}:(a0::a1::a2::a3::a4::a5::a6::a7::a8::a9::l).take 10=[a0,a1,a2,a3,a4,a5,a6,a7,a8,a9]:=rfl
theorem ZiI {a0 a1 a2 a3 a4 a5 a6 a7 a8 a9 c0 c1 c2 c3 c4 c5 c6 c7 c8 c9:AV}{l:List AV}:setCells (a0::a1::a2::a3::a4::a5::a6::a7::a8::a9::l) 0 [c0,c1,c2,c3,c4,c5,c6,c7,c8,c9]=c0::c1::c2::c3::c4::c5::c6::c7::c8::c9::l:=rfl
theorem Zj8 {τ:Operand→AV}{y0 y1 y2:Operand}{x0_0 x1_0 x2_0:AV}(h0:Zao (τ y0)=some [x0_0]) (l0:[x0_0].all leaf=true) (h1:Zao (τ y1)=some [x1_0]) (l1:[x1_0].all leaf=true) (h2:Zao (τ y2)=some [x2_0]) (l2:[x2_0].all leaf=true):Zak τ [(0,1,y0),(1,1,y1),(2,1,y2)] [(iv 0),(iv 0),(.v (.string ⟨#[]⟩))]=some [x0_0,x1_0,x2_0]:=by
 simp only[Zak,h0,l0,h1,l1,h2,l2]
 rfl
theorem Zj7 {a0 a1 a2 c0 c1 c2:AV}{l:List AV}:setCells (a0::a1::a2::l) 0 [c0,c1,c2]=c0::c1::c2::l:=rfl
theorem Zj3 {a0 a1 a2:AV}{l:List AV}:((a0::a1::a2::l).drop 0).take 3=[a0,a1,a2]:=rfl
end
def c111:AC:=(Sr [Oo 2 (.box 53 3 (t 0)),Oo 3 (.box 94 2 (t 1)),Oo 4 (.new 171 4 [Ss,nl,nl,nl])] (.seq (.drw [Oo 10 (.load true 2 (t 3)),Oo 11 (.load true 2 (t 3)),Cl 12 110 [(t 11)],Oo 13 (.build [Ss,nl,nl,nl] [(0,(2,(t 10))),(2,(1,(t 12)))]),Oo 5 (.new 171 4 [Ss,nl,nl,nl])] [false] [⟨none,none,(.store 4 (t 5) (t 13))⟩]) (.seq (Sr [Mc 6 0] (.block 0 (.loop (.seq (Sr [Mv 14 6,Fa 15 1 3,Ld 16 15,Oo 17 (.len false (t 16)),Bn 18 .lss 14 17] (Cd 18 .skip (.exit 0))) (.seq (.block 1 (Sr [Oo 7 (.mv (.const (.slice none 0 0)))] (.seq (Sr [Fa 21 1 3,Ld 22 21,Mv 23 6,Oo 24 (.ia 10 (t 22) (t 23)),Fa 25 1 24,Ld 26 25,Oo 27 (.bin .neq (t 26) (.const (.string ⟨#[]⟩)))] (Cd 27 (Sd [Fa 29 0 2,Ld 30 29,Fa 31 1 3,Ld 32 31,Mv 33 6,Oo 34 (.ia 10 (t 32) (t 33)),Fa 35 1 34,Ld 36 35,Fa 37 1 3,Ld 38 37,Mv 39 6,Oo 40 (.ia 10 (t 38) (t 39)),Fa 41 0 40,Ld 42 41,Cl 43 109 [(t 30),(t 36),(t 42)],Mv 28 43,Ex 44 28 0,Ex 45 28 1,Mv 8 44,Mv 9 45] (.reg [Mv 46 8,Mv 7 46])) .skip)) (.reg [Fa 47 3 5,Ld 48 47,Mv 49 7,Oo 50 (.lit 145 1 1 [nl] [(0,(1,(t 49)))]),Oo 51 (.app 145 1 24 (t 48) (t 50)),Fa 52 3 5,Sc 52 51])))) (.reg [Mv 19 6,Bc 20 .add 19 1,Mv 6 20])))))) (Sr [Oo 53 (.load true 4 (t 5)),⟨none,none,(.store 4 (t 4) (t 53))⟩] .ret))))
theorem k111:Zaw Tryz.prog 111=some ⟨c111,[(.cell 4 true 4)],54⟩:=by kernel_rfl
def c112:AC:=(Sr [Oo 2 (.box 171 4 (t 0)),Oo 4 (.new 35 3 [(iv 0),(iv 0),Ss])] (Sr [Mc 5 0] (.seq (.block 0 (.loop (.seq (Sr [Mv 10 5,Fa 11 2 2,Ld 12 11,Oo 13 (.len false (t 12)),Bn 14 .lss 10 13,Mv 15 14,Ot 16 15 (.fa 2 (t 2)),Ot 17 15 (.load false 1 (t 16)),Ot 18 15 (mt 5),Ot 19 15 (.ia 1 (t 17) (t 18)),Ot 20 15 (.load false 1 (t 19)),Ot 21 15 (mt 1),Ot 22 15 (.bin .leq (t 20) (t 21)),Oo 23 (.pick (t 15) (t 22) (.const (.bool false)))] (Cd 23 .skip (.exit 0))) (.block 1 (.reg [Mv 24 5,Bc 25 .add 24 1,Mv 5 25]))))) (Sr [Fa 26 0 2,Fa 27 1 26,Ld 28 27,Mv 29 5,Oo 30 (.ia 10 (t 28) (t 29)),Oo 31 (.load true 10 (t 30)),Oo 6 (.new 144 10 [(iv 0),Ss,(iv 0),Ss,(.v (.bool false)),(iv 0),(iv 0),(iv 0),(iv 0),(iv 0)]),⟨none,none,(.store 10 (t 6) (t 31))⟩] (Sr [Fa 32 2 6,Ld 33 32,Mv 7 33,Ms 8] (.seq (Sr [Mc 9 0] (.block 2 (.loop (.seq (Sr [Mv 34 9,Fa 35 3 2,Ld 36 35,Mv 37 5,Oo 38 (.ia 1 (t 36) (t 37)),Ld 39 38,Oo 40 (.len false (t 39)),Bn 41 .lss 34 40] (Cd 41 .skip (.exit 2))) (.seq (.block 3 (Sr [Fa 44 3 2,Ld 45 44,Mv 46 5,Oo 47 (.ia 1 (t 45) (t 46)),Ld 48 47,Mv 49 9,Oo 50 (.ia 3 (t 48) (t 49)),Fa 51 0 50,Ld 52 51,Mv 53 1,Bn 54 .leq 52 53] (Cd 54 (.drw [Fa 55 3 2,Ld 56 55,Mv 57 5,Oo 58 (.ia 1 (t 56) (t 57)),Ld 59 58,Mv 60 9,Oo 61 (.ia 3 (t 59) (t 60)),Fa 62 1 61,Ld 63 62,Fa 64 3 2,Ld 65 64,Mv 66 5,Oo 67 (.ia 1 (t 65) (t 66)),Ld 68 67,Mv 69 9,Oo 70 (.ia 3 (t 68) (t 69)),Fa 71 2 70,Ld 72 71,Mv 7 63,Mv 8 72] [] []) .skip))) (.reg [Mv 42 9,Bc 43 .add 42 1,Mv 9 43])))))) (.seq (.drw [Fa 73 0 6,Ld 74 73,Mv 75 7,Bn 76 .add 74 75,Mv 77 7,Fa 78 3 6,Ld 79 78,Mv 80 8,Mv 81 7,Cl 82 204 [(t 79),(t 80),(t 81)],Oo 83 (.build [(iv 0),(iv 0),Ss] [(0,(1,(t 76))),(1,(1,(t 77))),(2,(1,(t 82)))])] [false] [⟨none,none,(.store 3 (t 4) (t 83))⟩]) .ret)))))))
theorem k112:Zaw Tryz.prog 112=some ⟨c112,[(.cell 4 true 3)],84⟩:=by kernel_rfl
abbrev tmsE (a:List Rul) (x:Era):List AV:=[.sl (ZaG a x).length 3 false (rows timC (ZaG a x))]
theorem Zeg {a:List Rul} : ∀ x,(tmsE a x).length=1:=fun _=>rfl
theorem Zkx {a:List Rul}(l:List Era):(rows (tmsE a) l).length=l.length*1:=Zbk Zeg l
theorem tms_lt {a:List Rul}{n:Nat}(l:List Era):AV.ltL n (rows (tmsE a) l)=true:=ZcB (fun n x=>by simp[AV.ltL,AV.lt,ZdH]) l
attribute [local simp] tms_lt
theorem rtell_g {a:List Rul}{z:List Zon}{k:List Lnk}{nm:ByteArray}{es:List Era}{h:AH}(hck : ∀ r∈a,∀ h,Ac 199 [.agg (rulC r)] h (iv (Zbo r))) (hok:okRs a) (ha:a.length≤9223372036854775807) (hz:okZ es):Ac 111 [.agg (srcB a z k),.agg [sv nm,.sl es.length 10 false (rows eraC es)]] h (.agg [sv nm,.sl es.length 10 false (rows eraC es),.sl (ZaI es).length 1 false (rows intC (ZaI es)),.sl es.length 1 false (rows (tmsE a) es)]):=by
 have hlen:=hz.len
 have hel:=ZcW es
 refine tW' k111 fun N hn hlt _ hbd=>?_
 simp only[tb'] at hbd ⊢
 refine wr'<|E' (ZaR cv rfl hl0 ha0) pt<|E' (ZaR cv rfl hl1 ha1) pt<|E' (ZaV hl2 ha2) pt<|sn'<|Zac<|ZaH<|Dw (Zag lk gx Zj4 rfl)<|Dw (Zag lk gx Zj4 rfl)<|?_
 refine ZaC mp (fun hE hX=>rends_a hz) pt ?_
 refine Dw (Zat (Zlj cv rfl cv rfl))<|Zc5 rfl rfl (hlk hn rfl) (Zil) pt ZvH<|ZaM<|?_
 refine Zc4 Zro ?_
 refine E' (Zai lk cv gx rfl nb rfl Zj6 hs3) ptn<|Zam<|?_
 refine ZaP (ALe.own0Cell (st':=1) (ty:=145) gx gt3 hl4 pt3 (Eq.trans (congrArg (fun z=>List.set z _ _) ha4) hs3)) ?_
 refine Zac<|wk'<|Zaf<|?_
 refine w_lp (ι:=Nat) (fun (j:Nat)=>[(6,iv (j:Int))]++rn' 7 3++rn' 14 39) (fun (j:Nat)=>[(3,.mk 0 171 4 [sv nm,.sl es.length 10 false (rows eraC es),.sl (ZaI es).length 1 false (rows intC (ZaI es)),.own (N+4) j j]),(4,.mk j 145 1 (rows (tmsE a) (es.take j)))]) (fun (j:Nat)=>j≤es.length) (fun (j:Nat)=>es.length-j) (0) (by exact Nat.zero_le _) ?_
 rintro j hi1
 try simp only[sm',Nat.reduceAdd]
 replace hi1:j≤es.length:=hi1
 have htl:(es.take j).length=j:=by rw[List.length_take];omega
 refine Zac<|wm<|fq<|Vw (Zaa lk gx gt1)<|Vw (ZaA lk)<|Vw (ZaO lk lk)<|sn'<|?_
 refine cd' lk (fun hc1=>?_) (fun hc1=>?_)
 ·have hj:j<es.length:=by omega
  refine za<|Zac<|Zaf<|wr'<|mv' lkn pt7<|Zam<|ZaP (ALe.wkAt gt7 (Wk.nilF (st':=3)) pt7)<|Zac<|wr'<|V' (Zdv lk3) pt21<|V' (Zaa lk21 gx gt1) pt22<|?_
  refine mv' lk pt ?_
  refine V' (ZaJ lk lk ZcV nb ro om ro rfl) pt ?_
  refine Vw (Zbl lk dp1)<|Vw (Zax lk gt)<|Vw (ZeC lk lks)<|sn'<|?_
  refine cd' lk (fun hc2=>?_) (fun hc2=>?_)
  ·have hT:ZaG a es[j]=(Za0 a es[j].2.1 es[j].1).1:=if_neg hc2
   refine Zac<|ZaH<|dg<|Dw (Zaa lk gx gt0)<|dg<|Dw (Zaa lk gx gt1)<|Dw vm<|?_
   refine D' (ZaJ lk lk ZcV nb ro om ro rfl) pt ?_
   refine Dw (Zbl lk dp1)<|Dw (Zax lk gt)<|dg<|Dw (Zaa lk gx gt1)<|Dw vm<|?_
   refine D' (ZaJ lk lk ZcV nb ro om ro rfl) pt ?_
   refine Dw (Zbl lk dp0)<|Dw (Zax lk gt)<|?_
   refine ZaC mp (fun hE hX=>Zpi hck hok ha) pt ?_
   refine Dw vm<|Dw (ZaQ lk gt)<|Dw (ZaQ lk gt)<|Dw vm<|Dw vm<|ZaM<|?_
   refine Za5 ?_
   refine sn'<|Zap<|mw<|ms<|Zap<|fq<|Vw (Zaa lk gx gt3)<|mw<|E' (Zcz (ZfA cv rfl) hl5 ha5) pt<|?_
   refine E' (ZbK (Zbp lk (hga hn rfl) rfl ZmB nb) lk (hga hn rfl) ((Zkx _).trans (by rw[htl])) om rfl hs4) pt ?_
   refine fq<|E' (Zai lk cv gx rfl nb rfl Zj5 hs3) ptn<|Zam<|Zau<|Zan<|Zap<|mw<|?_
   refine ad<|mw<|Zam<|Zaz<|?_
   refine lU' (j+1) (by (try dsimp only);omega) (by refine zz ?_;exact bk' 5 hn hlt (by rw[List.take_succ_eq_append_getElem hj,ZaF,Zbu];unfold tmsE;rw[hT];rfl))
  have hT:ZaG a es[j]=[]:=if_pos (Decidable.of_not_not hc2)
  refine za<|Zap<|fq<|Vw (Zaa lk gx gt3)<|mw<|E' (Zcz (ZfA cv rfl) hl5 ha5) pt<|?_
  refine E' (ZbK (Zbp lk (hga hn rfl) rfl ZmB nb) lk (hga hn rfl) ((Zkx _).trans (by rw[htl])) om rfl hs4) pt ?_
  refine fq<|E' (Zai lk cv gx rfl nb rfl Zj5 hs3) ptn<|Zam<|Zau<|Zan<|Zap<|mw<|?_
  refine ad<|mw<|Zam<|Zaz<|?_
  refine lU' (j+1) (by (try dsimp only);omega) (by refine zz ?_;exact bk' 5 hn hlt (by rw[List.take_succ_eq_append_getElem hj,ZaF,Zbu];unfold tmsE;rw[hT];rfl))
 have hje:j=es.length:=by omega
 subst hje
 rw[List.take_length] at htl ⊢
 refine Zay<|Zar<|Zar<|ZaN<|?_
 refine ZaP (ALe.iceCellR (hga hn rfl) (hga hn rfl) om gt3 (List.take_of_length_le (by rw[Zkx,htl];omega)) (by rw[Zkx,htl];omega) pt3 hs4 hs3) ?_
 refine wr'<|Vw (Zag lk gx Zj2 rfl)<|E' (Zai lk cv gx rfl nb rfl Zj6 hs2) ptn<|sr<|Zae (rs1 (rr_c gt gx (ld1 Zj2 rfl)))<|rtW'<|?_
 exact Wk.agg (wk1 rfl (wk1 rfl (wk1 rfl (wkw Wk.full wk0))))
theorem ZhJ : ∀ {l:List Tim}{sa:Int}{lt:ByteArray}{at_:Int},(∀ t∈l,(0≤t.2.1∧t.2.1≤10800)∧t.2.2.size≤24)→(0≤sa∧sa≤10800)→lt.size≤24→(0≤(Zcy sa lt l at_).1∧(Zcy sa lt l at_).1≤10800)∧(Zcy sa lt l at_).2.size≤24
 | [],sa,lt,at_,_,h2,h3=>⟨h2,h3⟩
 | t::l,sa,lt,at_,h1,h2,h3=>by
  rw[Zcy]
  have ht:=h1 t (by simp)
  split
  ·exact ZhJ (fun x hx=>h1 x (by simp[hx])) ht.1 ht.2
  exact ZhJ (fun x hx=>h1 x (by simp[hx])) h2 h3
theorem Ztt {a:List Rul}{nm:ByteArray}{es:List Era}{n:Int}{h:AH}(hz:okZ es):Ac 112 [.agg [sv nm,.sl es.length 10 false (rows eraC es),.sl (ZaI es).length 1 false (rows intC (ZaI es)),.sl es.length 1 false (rows (tmsE a) es)],iv n] h (.agg (locC3 (ZaY a es n))):=by
 have hlen:=hz.len
 have hel:=ZcW es
 have hkl:=kAt_lt hz.ne n
 have hke:=ZpW (ZaI es) n
 refine tI' k112 fun N hn _ _ hbd=>?_
 simp only[tb'] at hbd ⊢
 refine wr'<|E' (ZaR cv rfl hl0 ha0) pt<|E' (ZaV hl1 ha1) pt<|Zam<|?_
 refine ZaP (ALe.icePtr gx gt2 (by simp) pt2 hs0) ?_
 refine wk'<|Zac<|Zaf<|?_
 refine w_lp (ι:=Nat) (fun (i:Nat)=>[(5,iv (i:Int))]++rn' 10 16) (fun (i:Nat)=>[]) (fun (i:Nat)=>i≤kAt (ZaI es) n) (fun (i:Nat)=>kAt (ZaI es) n-i) (0) (by exact Nat.zero_le _) ?_
 rintro i hi1
 try simp only[sm',Nat.reduceAdd]
 replace hi1:i≤kAt (ZaI es) n:=hi1
 refine Zac<|wm<|Vw (Zbl lk dp2)<|Vw (Zax lk gt)<|Vw (ZaA lk)<|Vw (ZaO lk lk)<|mw<|?_
 refine sp' (t:=15) gt pt pt (fun hg15=>?_) (fun hg15=>?_)
 ·have hst:=ZpV (a:=n) (show i<(ZaI es).length by omega) hi1
  refine sd<|Vw (Zbl lk dp2)<|sd<|Vw (Zax lk gt)<|sd<|mw<|sd<|?_
  refine V' (ZaJ lk lk ZaW nb ro om ro rfl) pt ?_
  refine sd<|Vw (Zax lk gt)<|sd<|mw<|sd<|Vw (ZdF lk lk)<|Vw (Zal lk lk)<|sn'<|?_
  refine cd' lk (fun hc1=>?_) (fun hc1=>?_)
  ·have hi2:=hst.1 hc1
   refine za<|Zaf<|Zap<|mw<|?_
   refine ad<|mw<|Zam<|Zau<|Zaz<|?_
   refine lT' (i+1) (by (try dsimp only);omega)
  have hie:i=kAt (ZaI es) n:=by have:¬i+1≤kAt (ZaI es) n:=fun h=>hc1 (hst.2 h);omega
  have hx:=Zt4 hz (List.getElem_mem hkl)
  subst hie
  refine Zay<|Zar<|Zar<|ZaN<|Zan<|wr'<|Vw (Zbl lk dp0)<|Vw (Zbl lk dp1)<|Vw (Zax lk gt)<|mw<|?_
  refine V' (ZaJ (k:=kAt (ZaI es) n) lk lk ZcV nb ro om ro rfl) pt ?_
  refine Vw (Zas lk Zj1 rfl)<|E' (ZaV hl2 ha2) pt<|E' (Zai lk cv gx rfl nb rfl ZiI hs2) ptn<|sn'<|wr'<|fq<|Vw (Zaa lk gx gt2)<|mw<|ms<|Zac<|?_
  refine wk'<|Zaf<|?_
  refine w_lp (ι:=Nat) (fun (j:Nat)=>[(7,iv (Zcy (xSv es[kAt (ZaI es) n]) ⟨#[]⟩ ((ZaG a es[kAt (ZaI es) n]).take j) n).1),(8,sv (Zcy (xSv es[kAt (ZaI es) n]) ⟨#[]⟩ ((ZaG a es[kAt (ZaI es) n]).take j) n).2),(9,iv (j:Int))]++rn' 34 39) (fun (j:Nat)=>[]) (fun (j:Nat)=>j≤(ZaG a es[kAt (ZaI es) n]).length) (fun (j:Nat)=>(ZaG a es[kAt (ZaI es) n]).length-j) (0) (by exact Nat.zero_le _) ?_
  rintro j hi2
  try simp only[sm',Nat.reduceAdd]
  replace hi2:j≤(ZaG a es[kAt (ZaI es) n]).length:=hi2
  have hxl:=Zcu (rl:=a) (x:=es[kAt (ZaI es) n])
  refine Zac<|wm<|Vw (Zbl lk dp3)<|Vw (Zax lk gt)<|mw<|?_
  refine V' (ZaJ (k:=kAt (ZaI es) n) lk lk Zeg nb ro om ro rfl) pt ?_
  refine V' (Zax lk gt) pt ?_
  refine V' ((by first | exact ZaA lk | exact Zcm lk)) pt ?_
  refine Vw (ZaO lk lk)<|sn'<|?_
  refine cd' lk (fun hc2=>?_) (fun hc2=>?_)
  ·have hj:j<(ZaG a es[kAt (ZaI es) n]).length:=by omega
   have hpk:=Zd2 ((ZaG a es[kAt (ZaI es) n]).take j) (ZaG a es[kAt (ZaI es) n])[j] (xSv es[kAt (ZaI es) n]) ⟨#[]⟩ n
   rw[←List.take_succ_eq_append_getElem hj] at hpk
   refine za<|Zac<|Zaf<|wr'<|Vw (Zbl lk dp3)<|Vw (Zax lk gt)<|mw<|?_
   refine V' (ZaJ (k:=kAt (ZaI es) n) lk lk Zeg nb ro om ro rfl) pt ?_
   refine Vw (Zax lk gt)<|mw<|?_
   refine V' (ZaJ lk lk Zdl nb ro om ro rfl) pt ?_
   refine Vw (Zbl lk dp0)<|Vw (Zax lk gt)<|mw<|Vw (ZdF lk lk)<|sn'<|?_
   refine cd' lk (fun hc3=>?_) (fun hc3=>?_)
   ·rw[if_pos hc3] at hpk
    refine ZaH<|Dw (Zbl lk dp3)<|Dw (Zax lk gt)<|Dw vm<|?_
    refine D' (ZaJ lk lk (fun _=>rfl) nb ro om ro rfl) pt ?_
    refine Dw (Zax lk gt)<|Dw vm<|?_
    refine D' (ZaJ lk lk Zdl nb ro om ro rfl) pt ?_
    refine Dw (Zbl lk dp1)<|Dw (Zax lk gt)<|Dw (Zbl lk dp3)<|Dw (Zax lk gt)<|Dw vm<|?_
    refine D' (ZaJ lk lk (fun _=>rfl) nb ro om ro rfl) pt ?_
    refine Dw (Zax lk gt)<|Dw vm<|?_
    refine D' (ZaJ lk lk Zdl nb ro om ro rfl) pt ?_
    refine Dw (Zbl lk dp2)<|Dw (Zax lk gt)<|Dw vm<|Dw vm<|ZaM<|?_
    refine Za5 ?_
    refine Zam<|Zau<|Zan<|Zap<|mw<|?_
    refine ad<|mw<|Zam<|Zaz<|?_
    refine lU' (j+1) (by (try dsimp only);omega) (by refine zz ?_;exact ALe.same (by repeat (first | exact wk0 | refine wka ?_ | refine wk1 rfl ?_ | refine wk1 (by first | rfl | exact ivx om | (rw[hpk])) ?_)) rfl)
   rw[if_neg hc3] at hpk
   refine ZaB<|Zau<|Zan<|Zap<|mw<|?_
   refine ad<|mw<|Zam<|Zaz<|?_
   refine lU' (j+1) (by (try dsimp only);omega) (by refine zz ?_;exact ALe.same (by repeat (first | exact wk0 | refine wka ?_ | refine wk1 rfl ?_ | refine wk1 (by first | rfl | exact ivx om | (rw[hpk])) ?_)) rfl)
  rw[List.take_of_length_le (show (ZaG a es[kAt (ZaI es) n]).length≤j by omega)]
  have hpb:=ZhJ (l:=ZaG a es[kAt (ZaI es) n]) (at_:=n) (fun t ht=>(Ze6 ht).2) hx.sv (show (⟨#[]⟩:ByteArray).size≤24 by decide)
  have hsh : -64800≤es[kAt (ZaI es) n].1∧es[kAt (ZaI es) n].1≤64800:=hx.sh
  have hTG:=Zne (rl:=a) (a:=n) hkl
  refine Zay<|Zar<|Zar<|ZaN<|Zan<|Zac<|ZaH<|dg<|Dw (Zaa lk gx gt0)<|Dw vm<|?_
  refine D' (ZbM lk lk om om) pt ?_
  refine Dw vm<|dg<|Dw (Zaa lk gx gt3)<|Dw vm<|Dw vm<|?_
  refine ZaC mp (fun hE hX=>ZlP hx.fm hpb.2 hpb.1.1) pt ?_
  refine Dw (Zat (Zj8 cv rfl cv rfl cv rfl))<|ZaM<|?_
  refine Za5 ?_
  refine E' (Zai lk cv gx rfl nb rfl Zj7 hs1) ptn<|sr<|Zae (rs1 (rr_c gt gx (ld1 Zj3 rfl)))<|rT'<|?_
  rw[hTG];rfl
 have hie:i=kAt (ZaI es) n:=by omega
 have hx:=Zt4 hz (List.getElem_mem hkl)
 subst hie
 refine so<|so<|so<|so<|so<|so<|so<|Vw (Zaj lk lkb)<|sn'<|Za8 lk<|Zay<|Zar<|Zar<|?_
 refine ZaN<|Zan<|wr'<|Vw (Zbl lk dp0)<|Vw (Zbl lk dp1)<|Vw (Zax lk gt)<|mw<|?_
 refine V' (ZaJ (k:=kAt (ZaI es) n) lk lk ZcV nb ro om ro rfl) pt ?_
 refine Vw (Zas lk Zj1 rfl)<|E' (ZaV hl2 ha2) pt<|E' (Zai lk cv gx rfl nb rfl ZiI hs2) ptn<|sn'<|wr'<|fq<|Vw (Zaa lk gx gt2)<|mw<|ms<|Zac<|?_
 refine wk'<|Zaf<|?_
 refine w_lp (ι:=Nat) (fun (j:Nat)=>[(7,iv (Zcy (xSv es[kAt (ZaI es) n]) ⟨#[]⟩ ((ZaG a es[kAt (ZaI es) n]).take j) n).1),(8,sv (Zcy (xSv es[kAt (ZaI es) n]) ⟨#[]⟩ ((ZaG a es[kAt (ZaI es) n]).take j) n).2),(9,iv (j:Int))]++rn' 34 39) (fun (j:Nat)=>[]) (fun (j:Nat)=>j≤(ZaG a es[kAt (ZaI es) n]).length) (fun (j:Nat)=>(ZaG a es[kAt (ZaI es) n]).length-j) (0) (by exact Nat.zero_le _) ?_
 rintro j hi2
 try simp only[sm',Nat.reduceAdd]
 replace hi2:j≤(ZaG a es[kAt (ZaI es) n]).length:=hi2
 have hxl:=Zcu (rl:=a) (x:=es[kAt (ZaI es) n])
 refine Zac<|wm<|Vw (Zbl lk dp3)<|Vw (Zax lk gt)<|mw<|?_
 refine V' (ZaJ (k:=kAt (ZaI es) n) lk lk Zeg nb ro om ro rfl) pt ?_
 refine V' (Zax lk gt) pt ?_
 refine V' ((by first | exact ZaA lk | exact Zcm lk)) pt ?_
 refine Vw (ZaO lk lk)<|sn'<|?_
 refine cd' lk (fun hc2=>?_) (fun hc2=>?_)
 ·have hj:j<(ZaG a es[kAt (ZaI es) n]).length:=by omega
  have hpk:=Zd2 ((ZaG a es[kAt (ZaI es) n]).take j) (ZaG a es[kAt (ZaI es) n])[j] (xSv es[kAt (ZaI es) n]) ⟨#[]⟩ n
  rw[←List.take_succ_eq_append_getElem hj] at hpk
  refine za<|Zac<|Zaf<|wr'<|Vw (Zbl lk dp3)<|Vw (Zax lk gt)<|mw<|?_
  refine V' (ZaJ (k:=kAt (ZaI es) n) lk lk Zeg nb ro om ro rfl) pt ?_
  refine Vw (Zax lk gt)<|mw<|?_
  refine V' (ZaJ lk lk Zdl nb ro om ro rfl) pt ?_
  refine Vw (Zbl lk dp0)<|Vw (Zax lk gt)<|mw<|Vw (ZdF lk lk)<|sn'<|?_
  refine cd' lk (fun hc3=>?_) (fun hc3=>?_)
  ·rw[if_pos hc3] at hpk
   refine ZaH<|Dw (Zbl lk dp3)<|Dw (Zax lk gt)<|Dw vm<|?_
   refine D' (ZaJ lk lk (fun _=>rfl) nb ro om ro rfl) pt ?_
   refine Dw (Zax lk gt)<|Dw vm<|?_
   refine D' (ZaJ lk lk Zdl nb ro om ro rfl) pt ?_
   refine Dw (Zbl lk dp1)<|Dw (Zax lk gt)<|Dw (Zbl lk dp3)<|Dw (Zax lk gt)<|Dw vm<|?_
   refine D' (ZaJ lk lk (fun _=>rfl) nb ro om ro rfl) pt ?_
   refine Dw (Zax lk gt)<|Dw vm<|?_
   refine D' (ZaJ lk lk Zdl nb ro om ro rfl) pt ?_
   refine Dw (Zbl lk dp2)<|Dw (Zax lk gt)<|Dw vm<|Dw vm<|ZaM<|?_
   refine Za5 ?_
   refine Zam<|Zau<|Zan<|Zap<|mw<|?_
   refine ad<|mw<|Zam<|Zaz<|?_
   refine lU' (j+1) (by (try dsimp only);omega) (by refine zz ?_;exact ALe.same (by repeat (first | exact wk0 | refine wka ?_ | refine wk1 rfl ?_ | refine wk1 (by first | rfl | exact ivx om | (rw[hpk])) ?_)) rfl)
  rw[if_neg hc3] at hpk
  refine ZaB<|Zau<|Zan<|Zap<|mw<|?_
  refine ad<|mw<|Zam<|Zaz<|?_
  refine lU' (j+1) (by (try dsimp only);omega) (by refine zz ?_;exact ALe.same (by repeat (first | exact wk0 | refine wka ?_ | refine wk1 rfl ?_ | refine wk1 (by first | rfl | exact ivx om | (rw[hpk])) ?_)) rfl)
 rw[List.take_of_length_le (show (ZaG a es[kAt (ZaI es) n]).length≤j by omega)]
 have hpb:=ZhJ (l:=ZaG a es[kAt (ZaI es) n]) (at_:=n) (fun t ht=>(Ze6 ht).2) hx.sv (show (⟨#[]⟩:ByteArray).size≤24 by decide)
 have hsh : -64800≤es[kAt (ZaI es) n].1∧es[kAt (ZaI es) n].1≤64800:=hx.sh
 have hTG:=Zne (rl:=a) (a:=n) hkl
 refine Zay<|Zar<|Zar<|ZaN<|Zan<|Zac<|ZaH<|dg<|Dw (Zaa lk gx gt0)<|Dw vm<|?_
 refine D' (ZbM lk lk om om) pt ?_
 refine Dw vm<|dg<|Dw (Zaa lk gx gt3)<|Dw vm<|Dw vm<|?_
 refine ZaC mp (fun hE hX=>ZlP hx.fm hpb.2 hpb.1.1) pt ?_
 refine Dw (Zat (Zj8 cv rfl cv rfl cv rfl))<|ZaM<|?_
 refine Za5 ?_
 refine E' (Zai lk cv gx rfl nb rfl Zj7 hs1) ptn<|sr<|Zae (rs1 (rr_c gt gx (ld1 Zj3 rfl)))<|rT'<|?_
 rw[hTG];rfl
end Go.Proofs.YtfoipaclphdodaaGreatDoor
end
namespace Go.Proofs.YtfoipaclphdodaaGreatDoor
section
open Go.Ab Go.RowKit Civ
attribute [local simp] ZbL Zce ZbZ Zbv Zbi ZdB ZdH ZcL
theorem ZnW {p:Era→Int}{l:List Era}(h : ∀ y∈l,p y=0):Zbc p l=0:=by
 rw[Ziq,List.find?_eq_none.2 (fun y hy=>by simp[h y hy])]
end
section
open Go.Ab Go.RowKit Civ
def txtS:Bs:=[82,117,108,101,32,101,117,32,49,57,56,49,32,109,97,120,32,77,97,114,32,108,97,115,116,83,117,110,32,49,58,48,48,117,32,49,58,48,48,32,83,10,82,117,108,101,32,101,117,32,49,57,57,54,32,109,97,120,32,79,99,116,32,108,97,115,116,83,117,110,32,49,58,48,48,117,32,48,32,45,10,90,111,110,101,32,72,101,114,101,47,84,111,119,110,32,48,58,49,48,32,45,32,76,77,84,32,49,56,56,48,32,74,97,110,32,49,32,48,10,32,32,49,58,48,48,32,101,117,32,67,69,37,115,84,10,76,105,110,107,32,72,101,114,101,47,84,111,119,110,32,79,108,100,10]
def nEu:ByteArray:=bA [101,117]
def nHt:ByteArray:=bA [72,101,114,101,47,84,111,119,110]
def nOld:ByteArray:=bA [79,108,100]
def rul0:List Rul:=[(nEu,1981,2100,3,(2,0,0),3600,3,3600,bA [83]),(nEu,1996,2100,10,(2,0,0),3600,3,0,bA [])]
def era0:Era:=(600,bA [],0,bA [76,77,84],false,((1880,1,1),0,2))
def era1:Era:=(3600,nEu,0,bA [67,69,37,115,84],true,((0,0,0),0,0))
def src0:Src:=(rul0,[(nHt,[era0,era1])],[(nHt,nOld)])
def Zlw (l:List Bs):AV:=.sl l.length 1 false (l.map fun b=>sv (bA b))
def splV:AV:=.tup [.sl 5 3 false [iv 1,bv false,Zlw [[82,117,108,101],[101,117],[49,57,56,49],[109,97,120],[77,97,114],[108,97,115,116,83,117,110],[49,58,48,48,117],[49,58,48,48],[83]],iv 2,bv false,Zlw [[82,117,108,101],[101,117],[49,57,57,54],[109,97,120],[79,99,116],[108,97,115,116,83,117,110],[49,58,48,48,117],[48],[45]],iv 3,bv false,Zlw [[90,111,110,101],[72,101,114,101,47,84,111,119,110],[48,58,49,48],[45],[76,77,84],[49,56,56,48],[74,97,110],[49],[48]],iv 4,bv true,Zlw [[49,58,48,48],[101,117],[67,69,37,115,84]],iv 5,bv false,Zlw [[76,105,110,107],[72,101,114,101,47,84,111,119,110],[79,108,100]]],iv 0,iv 0]
theorem spl_ev:evF Tryz.prog noO 1000 20 146 [sv (bA txtS)] []=some (.ret splV,[]):=by kernel_rfl
theorem prs_ev:evF Tryz.prog (orc 146 [sv (bA txtS)] splV) 1000 20 85 [sv (bA txtS)] []=some (.ret (.tup [.agg (srcC src0),iv 0,iv 0]),[]):=by kernel_rfl
theorem rp_txt {h:AH}:Ac 85 [sv (bA txtS)] h (.tup [.agg (srcC src0),iv 0,iv 0]) :=
 ACalls.ev 1000 20 (orc_ok fun h=>ACalls.ev 1000 20 noO_ok spl_ev) prs_ev
end
section
open Go.Ab Go.RowKit Civ
attribute [local simp] ZbL Zce ZbZ Zbv Zbi ZdB ZdH ZcL
section
theorem Zj0 {a0 a1 a2 c0 c1 c2:AV}{l:List AV}:setCells (a0::a1::a2::l) 0 [c0,c1,c2]=c0::c1::c2::l:=rfl
theorem ZjZ {a0 a1 a2:AV}{l:List AV}:((a0::a1::a2::l).drop 0).take 3=[a0,a1,a2]:=rfl
end
def c40:AC:=(Sr [Oo 0 (.new 53 3 [nl,nl,nl])] (Sr [Oo 5 (.call (.func 85) [(.const (.string ⟨#[82,117,108,101,32,101,117,32,49,57,56,49,32,109,97,120,32,77,97,114,32,108,97,115,116,83,117,110,32,49,58,48,48,117,32,49,58,48,48,32,83,10,82,117,108,101,32,101,117,32,49,57,57,54,32,109,97,120,32,79,99,116,32,108,97,115,116,83,117,110,32,49,58,48,48,117,32,48,32,45,10,90,111,110,101,32,72,101,114,101,47,84,111,119,110,32,48,58,49,48,32,45,32,76,77,84,32,49,56,56,48,32,74,97,110,32,49,32,48,10,32,32,49,58,48,48,32,101,117,32,67,69,37,115,84,10,76,105,110,107,32,72,101,114,101,47,84,111,119,110,32,79,108,100,10]⟩))]),Mv 4 5,Ex 6 4 0,Ex 7 4 1,Ex 8 4 2,Oo 1 (.new 53 3 [nl,nl,nl]),⟨none,none,(.store 3 (t 1) (t 6))⟩,Mv 2 7,Mv 3 8] (Sr [Oo 9 (.load true 3 (t 1)),⟨none,none,(.store 3 (t 0) (t 9))⟩] .ret)))
theorem k40:Zaw Tryz.prog 40=some ⟨c40,[(.cell 0 true 3)],10⟩:=by kernel_rfl
theorem Znk:Zny src0:=by
 refine⟨fun r hr=>?_,fun z hz=>?_,fun l hl=>?_⟩
 ·simp only[src0,rul0,List.mem_cons,List.not_mem_nil,or_false] at hr
  rcases hr with rfl | rfl <;> exact⟨by decide,by decide⟩
 ·simp only[src0,List.mem_cons,List.not_mem_nil,or_false] at hz
  subst hz
  refine⟨by decide,fun x hx=>?_⟩
  simp only[List.mem_cons,List.not_mem_nil,or_false] at hx
  rcases hx with rfl | rfl <;> exact⟨by decide,by decide⟩
 simp only[src0,List.mem_cons,List.not_mem_nil,or_false] at hl
 subst hl;exact⟨by decide,by decide⟩
theorem Zpy {h:AH}:Ac 40 [] h (.agg (srcC src0)):=by
 refine tI' k40 fun N hn _ _ hbd=>?_
 simp only[tb'] at hbd ⊢
 refine wr'<|E' (ZaV hl0 ha0) pt<|sn'<|wr'<|Zad mp (rp_txt) pt<|mw<|Vw (ZaQ lk gt)<|Vw (ZaQ lk gt)<|Vw (ZaQ lk gt)<|E' (ZaV hl1 ha1) pt<|E' (Zai lk cv gx rfl nb rfl Zj0 hs1) ptn<|?_
 exact mw<|ms<|wr'<|Vw (Zag lk gx ZjZ rfl)<|E' (Zai lk cv gx rfl nb rfl Zj0 hs0) ptn<|sr<|Zae (rs1 (rr_c gt gx (ld1 ZjZ rfl)))<|rT' rfl
def insT (t:Trn):List Trn→List Trn
 | []=>[t]
 | u::l=>if t.1≤u.1 then t::u::l else u::insT t l
def insS:List Trn→List Trn
 | []=>[]
 | t::l=>insT t (insS l)
theorem Zim (t:Trn) : ∀ l:List Trn,(insT t l).Perm (t::l)
 | []=>.refl _
 | u::l=>by
  rw[insT]
  split
  ·exact .refl _
  exact ((Zim t l).cons u).trans (List.Perm.swap t u l)
theorem Zmg : ∀ l:List Trn,(insS l).Perm l
 | []=>.refl _
 | t::l=>(Zim t _).trans ((Zmg l).cons t)
theorem ZpZ {t:Trn} : ∀ {l:List Trn},l.Pairwise (fun a b=>a.1≤b.1)→(insT t l).Pairwise fun a b=>a.1≤b.1
 | [],_=>by simp[insT]
 | u::l,h=>by
  rw[insT]
  rw[List.pairwise_cons] at h
  split
  ·rename_i hle
   refine List.pairwise_cons.2 ⟨fun x hx=>?_,List.pairwise_cons.2 h⟩
   rcases List.mem_cons.1 hx with rfl | hx
   ·exact hle
   have:=h.1 x hx;omega
  rename_i hle
  refine List.pairwise_cons.2 ⟨fun x hx=>?_,ZpZ h.2⟩
  rcases List.mem_cons.1 ((Zim t l).mem_iff.1 hx) with rfl | hx
  ·omega
  exact h.1 x hx
theorem Zp0 : ∀ l:List Trn,(insS l).Pairwise fun a b=>a.1≤b.1
 | []=>.nil
 | t::l=>ZpZ (Zp0 l)
def ZeO (l:List Rul) (nm:ByteArray) (sh:Int):List Tim×Int :=
 if Zdj l nm sh≠0 then ([],Zdj l nm sh) else if gapB (insS (Za9 l nm))=true then ([],4) else if 1000<(insS (Za9 l nm)).length then ([],2) else (outV sh 0 (insS (Za9 l nm)),0)
theorem Zng (l:List Rul) (nm:ByteArray) (sh:Int):Za0 l nm sh=ZeO l nm sh:=by
 unfold ZeO
 by_cases h:Zdj l nm sh=0
 ·rw[if_neg (by simp[h]),Zky h (Zmg _) (Zp0 _)]
 rw[if_pos h,ZdU h]
theorem tim0_err:(ZeO rul0 nEu 3600).2=0:=by kernel_rfl
theorem chk0:ZbC src0=0:=by
 have h1:Zc6 src0=0:=by kernel_rfl
 have h2:(Zc0 src0.2.1 src0.2.2).Nodup:=by decide
 have h3:Zid src0=false:=by kernel_rfl
 have h4:Zbc (errX src0.1) (Zdg src0.2.1)=0:=by
  refine ZnW fun y hy=>?_
  simp only[src0,Zdg,List.flatMap_cons,List.flatMap_nil,List.append_nil,List.mem_cons,List.not_mem_nil,or_false] at hy
  rcases hy with rfl | rfl
  ·rfl
  show (if nEu=⟨#[]⟩ then 0 else (Za0 rul0 nEu 3600).2)=0
  rw[Zng,tim0_err];split <;> rfl
 have h5:(src0.2.1.any fun z=>!risL (ZaI z.2))=false:=by kernel_rfl
 unfold ZbC
 rw[if_neg (by simp[h1]),if_neg (by simpa using h2),if_neg (by simp[h3]),if_neg (by simp[h4]),if_neg (by simp[h5])]
end
section
open Go.Ab Civ
def ZtZ:List Chg:=cutV (eraG era0 tMin []) (endV era0)++eraG era1 (endV era0) (ZeO rul0 nEu 3600).1
theorem ZtY:ZaX rul0 tMin none [era0,era1]=ZtZ:=by
 have e0:ZaG rul0 era0=[]:=if_pos (by decide)
 have e1:ZaG rul0 era1=(ZeO rul0 nEu 3600).1:=by
  unfold ZaG
  rw[if_neg (by decide),Zng];rfl
 rw[ZaX,ZaX,e0,e1,if_neg (by decide)]
 unfold ZtZ
 rw[show ZbD none tMin=tMin from rfl,show ZbD (some (endV era0)) tMin=endV era0 from by decide]
def tab0:Tab:=stV (inP ZtZ)
theorem tab0_len:tab0.2.length=211:=by kernel_rfl
theorem tab0_ok1:locE tab0.1=0:=by kernel_rfl
theorem tab0_ok2:ZbW tab0.2=0:=by kernel_rfl
theorem table0:Zdx rul0 [era0,era1]=tab0:=by
 have:=ZlG (s:=src0) (z:=(nHt,[era0,era1])) chk0 (by simp[src0])
 have e:stV (inP (ZaX rul0 tMin none [era0,era1]))=Zdx rul0 [era0,era1]:=this
 rw[←e,ZtY];rfl
theorem of0:ofV src0 (nHt,[era0,era1])=(tab0,0):=by
 unfold ofV
 show tabR (Zdx rul0 [era0,era1])=_
 rw[table0]
 unfold tabR
 rw[if_neg (by rw[tab0_ok1];simp),if_neg (by rw[tab0_ok2];simp),if_neg (by rw[tab0_len];decide)]
theorem chkT0:Zbd tab0=0:=by
 have h:=Zhg (rl:=rul0) (es:=[era0,era1]) (by
  have:=congrArg Prod.snd of0
  exact this)
 rwa [table0] at h
end
section
open Go.Ab Civ
attribute [local simp] ZbL Zce ZbZ Zbv ZcL ZdB Zbi
section
theorem Zd9 {a0 a1 a2 a3:AV}{l:List AV}:((a0::a1::a2::a3::l).drop 1).take 3=[a1,a2,a3]:=rfl
theorem Zg4 {a0 a1 a2 c0 c1 c2:AV}{l:List AV}:setCells (a0::a1::a2::l) 0 [c0,c1,c2]=c0::c1::c2::l:=rfl
theorem Zfm {a0 a1 a2:AV}{l:List AV}:((a0::a1::a2::l).drop 0).take 3=[a0,a1,a2]:=rfl
theorem ZvR {τ:Operand→AV}:Zak τ [] [(iv 0),(iv 0),(.v (.string ⟨#[]⟩)),(.sl 0 0 true [])]=some [(iv 0),(iv 0),(.v (.string ⟨#[]⟩)),(.sl 0 0 true [])]:=rfl
theorem ZrF {a0 a1:AV}{l:List AV}:((a0::a1::l).drop 0).take 2=[a0,a1]:=rfl
theorem ZmH {a0 a1 a2 a3:AV}{l:List AV}:(a0::a1::a2::a3::l).take 4=[a0,a1,a2,a3]:=rfl
theorem Zds {a0 a1 a2 a3 c0 c1 c2 c3:AV}{l:List AV}:setCells (a0::a1::a2::a3::l) 0 [c0,c1,c2,c3]=c0::c1::c2::c3::l:=rfl
theorem Zkd {τ:Operand→AV}:Zak τ [] [(iv 0),(iv 0),(.v (.string ⟨#[]⟩)),(.sl 0 0 true [])]=some [(iv 0),(iv 0),(.v (.string ⟨#[]⟩)),(.sl 0 0 true [])]:=rfl
theorem ZcQ {a0 a1 a2 a3:AV}{l:List AV}:((a0::a1::a2::a3::l).drop 0).take 4=[a0,a1,a2,a3]:=rfl
theorem ZrK {τ:Operand→AV}:Zak τ [] [(iv 0),(iv 0),(.v (.string ⟨#[]⟩)),(.sl 0 0 true [])]=some [(iv 0),(iv 0),(.v (.string ⟨#[]⟩)),(.sl 0 0 true [])]:=rfl
theorem ZoB {a0 b0:Int}{a1 b1:Int}{a2 b2:ByteArray}:Za4 [.int,.int,.str] [iv a0,iv a1,sv a2] [iv b0,iv b1,sv b2]=some (decide (a0=b0∧a1=b1∧a2=b2)):=by
 simp only[Za4,Zc3,if_true,Zb3,Option.some.injEq]
 simp only[Bool.decide_and,Bool.and_true]
 try (congr 1 <;> simp)
 try rfl
theorem ZrJ {τ:Operand→AV}{y0 y1:Operand}{x0_0 x1_0 x1_1 x1_2:AV}(h0:Zao (τ y0)=some [x0_0]) (l0:[x0_0].all leaf=true) (h1:Zao (τ y1)=some [x1_0,x1_1,x1_2]) (l1:[x1_0,x1_1,x1_2].all leaf=true):Zak τ [(0,1,y0),(1,3,y1)] [(iv 0),(iv 0),(iv 0),(.v (.string ⟨#[]⟩))]=some [x0_0,x1_0,x1_1,x1_2]:=by
 simp only[Zak,h0,l0,h1,l1]
 rfl
theorem ZrI {τ:Operand→AV}{y0:Operand}{x0_0 x0_1 x0_2 x0_3:AV}(h0:Zao (τ y0)=some [x0_0,x0_1,x0_2,x0_3]) (l0:[x0_0,x0_1,x0_2,x0_3].all leaf=true):Zak τ [(0,4,y0)] [(iv 0),(iv 0),(iv 0),(.v (.string ⟨#[]⟩))]=some [x0_0,x0_1,x0_2,x0_3]:=by
 simp only[Zak,h0,l0]
 rfl
theorem ZvQ { e:Ent}:([]:AH)++[e]=[e]:=rfl
theorem ZrH {e0 e1 e2 e3 e4 e5 d0:Ent}:([e0,e1,e2,e3,e4,e5]:AH)++[d0]=[e0,e1,e2,e3,e4,e5,d0]:=rfl
theorem ZrG {a0 a1 a2 a3 c0:AV}{l:List AV}:setCells (a0::a1::a2::a3::l) 3 [c0]=a0::a1::a2::c0::l:=rfl
end
def c53:AC:=(Sr [Oo 2 (.box 53 3 (t 0)),Oo 3 (.box 94 2 (t 1)),Oo 4 (.new 38 4 [(iv 0),(iv 0),Ss,nl]),Mc 5 0] (Sr [Oo 10 (.build [(iv 0),(iv 0),Ss,nl] []),Oo 11 (.box 158 4 (t 10)),Mv 6 11] (.seq (Sd [Oo 12 (.load true 3 (t 2)),Oo 13 (.load true 2 (t 3)),Cl 14 104 [],Cl 15 103 [(t 12),(t 13),(t 14)],Oo 16 (.len false (t 15)),Mc 17 0] (.block 0 (.loop (Sr [Bn 18 .lss 17 16] (.seq (Cd 18 .skip (.exit 0)) (.seq (.block 1 (Sr [Mv 19 17,Oo 20 (.ia 4 (t 15) (t 17)),Oo 21 (.load true 4 (t 20)),Oo 8 (.new 163 4 [(iv 0),(iv 0),(iv 0),Ss]),Mv 7 19,⟨none,none,(.store 4 (t 8) (t 21))⟩] (.seq (Sd [Fa 22 0 8,Ld 23 22,Cl 24 105 [],Bn 25 .gtr 23 24] (Cd 25 (.exit 0) .skip)) (.seq (Sr [Fa 26 1 8,Oo 27 (.load true 3 (t 26)),Cl 28 106 [(t 27)],Mv 9 28] (Sr [Mv 29 9,Bc 30 .neq 29 0] (Cd 30 (Sr [Oo 31 (.build [(iv 0),(iv 0),Ss,nl] []),Mv 32 9,⟨none,none,(.store 4 (t 4) (t 31))⟩,Mv 5 32] .ret) .skip))) (.block 2 (Sr [Mv 34 7,Bc 35 .eql 34 0,Mv 33 35] (Cd 33 (.reg [Mv 36 6,Fa 37 1 8,Oo 38 (.load true 3 (t 37)),Nk 39 36,Fa 40 0 39,Fa 41 0 40,⟨none,none,(.store 3 (t 41) (t 38))⟩]) (.seq (.orPan (.drw [Fa 43 1 8,Oo 44 (.loadR true 3 (t 43)),Mv 45 6] [true,false,false] [Cl 46 107 [(t 45)],Oo 47 (.eqs true [.int,.int,.str] (t 44) (t 46)),Mv 42 47]) (t 45) 107 [Fa 43 1 8,Oo 44 (.load true 3 (t 43)),Mv 45 6,Mv 46 45,Mb 47 false,Mb 42 false] 46) (Cd 42 (.drw [Mv 48 6,Mv 49 6,Nk 50 49,Fa 51 0 50,Fa 52 3 51,Ld 53 52,Fa 54 0 8,Ld 55 54,Fa 56 1 8,Oo 57 (.load true 3 (t 56)),Oo 58 (.build [(iv 0),(iv 0),(iv 0),Ss] [(0,(1,(t 55))),(1,(3,(t 57)))]),Oo 59 (.lit 89 4 1 [(iv 0),(iv 0),(iv 0),Ss] [(0,(4,(t 58)))])] [false,false,false,false,false] [Oo 60 (.app 89 4 40 (t 53) (t 59)),Nk 61 48,Fa 62 0 61,Fa 63 3 62,Sc 63 60]) .skip))))))))) (.reg [Bc 64 .add 17 1,Mv 17 64]))))))) (.seq (Sr [Mv 65 6,Nk 66 65,Fa 67 0 66,Fa 68 3 67,Ld 69 68,Oo 70 (.len false (t 69)),Bc 71 .gtr 70 1000] (Cd 71 (Sr [Oo 72 (.build [(iv 0),(iv 0),Ss,nl] []),⟨none,none,(.store 4 (t 4) (t 72))⟩,Mc 5 2] .ret) .skip)) (Sr [Mv 73 6,Nk 74 73,Fa 75 0 74,Oo 76 (.load true 4 (t 75)),⟨none,none,(.store 4 (t 4) (t 76))⟩,Mc 5 0] .ret)))))
theorem k53:Zaw Tryz.prog 53=some ⟨c53,[(.cell 4 true 4),(.tmp 5)],77⟩:=by kernel_rfl
theorem last_eq : ∀ (F:Loc) (l:List Chg),Zep F l=lastL F l
 | F,[]=>rfl
 | F,c::l=>by
  rw[Zik (l:=c::l) (by simp)]
  unfold Zep
  rw[List.getLast?_eq_getElem?,List.getElem?_eq_getElem (by simp)]
  rfl
theorem Zun {ps:List Chg}{i:Nat}(hi:i<ps.length) (h1 : ∀ c∈ps.take i,c.1≤tMax) (h2:ps[i].1≤tMax) (h3:ZbW (ps.take i)=0) (h4:locE ps[i].2≠0):ZbW (inP ps)=locE ps[i].2:=by
 have e:inP ps=(ps.take i++[ps[i]])++inP (ps.drop (i+1)):=by
  conv=>lhs;rw[←List.take_append_drop i ps]
  unfold inP
  rw[List.takeWhile_append_of_pos (fun c hc=>by have:=h1 c hc;simpa using this),List.drop_eq_getElem_cons hi,List.takeWhile_cons,if_pos (by simpa using h2),List.append_assoc]
  rfl
 have h5:=Zgd (c:=ps[i]) h3
 rw[e,Zih (by rw[h5];exact h4),h5]
theorem mlast_o {F:Loc}{l:List Chg}{id q v0 ver ty ty2:Nat}{h:AH}(h1:h[id]?=some (.mk v0 ty 4 [iv F.1,iv F.2.1,sv F.2.2,.own q ver l.length])) (h2:h[q]?=some (.mk ver ty2 4 (rows chgC l))) (hl:l.length≤9223372036854775807) :
  Ac 107 [.ptr id v0 0] h (.agg [iv (Zep F l).1,iv (Zep F l).2.1,sv (Zep F l).2.2]):=by
 have hid:id<h.length:=(List.getElem?_eq_some_iff.1 h1).1
 rw[last_eq]
 refine tI' k107 fun N hn _ _ hbd=>?_
 simp only[tb'] at hbd ⊢
 refine wr'<|E' (ZaV hl0 ha0) pt<|sn'<|Zac<|wm<|Vw (Zca lk)<|fq<|fq<|Vw (Zaa lk (Zc2 h1) gt3)<|Vw (Zcm lk)<|?_
 refine ms<|wm<|Vw (ZbE lk lki)<|sn'<|?_
 refine cd' lk (fun hc1=>?_) (fun hc1=>?_)
 ·have hl0:0<l.length:=by omega
  refine wm<|Vw (Zca lk)<|fq<|fq<|Vw (Zaa lk (Zc2 h1) gt3)<|mw<|?_
  refine V' (Za3 lk lki om om) pt ?_
  refine V' (ZaT (k:=l.length-1) lk lk (Zc2 h2) Za1 nb ro om (by first | rfl | (simp;done) | omega)) pt ?_
  refine V' (Zbs lk) pt ?_
  refine V' (ZsL lk (Zc2 h2) Za1 om nb Zd9 rfl) pt ?_
  refine E' (Zai lk cv gx rfl nb rfl Zg4 hs0) ptn<|sr<|Zah<|Zae (rs1 (rr_c gt gx (ld1 Zfm rfl)))<|rT'<|?_
  rw[Zik hl0]
 have hl0:l=[]:=List.eq_nil_of_length_eq_zero om
 refine za<|wm<|Vw (Zca lk)<|fq<|fq<|Vw (Zag lk (Zc2 h1) Zfm rfl)<|E' (Zai lk cv gx rfl nb rfl Zg4 hs0) ptn<|sr<|Zae (rs1 (rr_c gt gx (ld1 Zfm rfl)))<|?_
 refine rT' ?_
 subst hl0;rfl
theorem mlast_r {F:Loc}{l:List Chg}{id q v0 ver ty ty2:Nat}{h:AH}(h1:h[id]?=some (.mk v0 ty 4 [iv F.1,iv F.2.1,sv F.2.2,.own q ver l.length])) (h2:h[q]?=some (.mk ver ty2 4 (rows chgC l))) (hl:l.length≤9223372036854775807) :
  ACalls Tryz.prog 107 [.ptr id v0 0] h fun x h'=>x=.ret (.agg [iv (Zep F l).1,iv (Zep F l).2.1,sv (Zep F l).2.2])∧h'=h:=(mlast_o h1 h2 hl).mono fun _ _ e=>⟨e.2,e.1⟩
theorem Zl5 (fm lt:ByteArray) (sa:Int):(Zfs fm lt sa).size≤2*fm.size+lt.size:=by
 unfold Zfs
 have h1:=ZhQ (s:=fm) (p:=[47])
 have h2:=ZhQ (s:=fm) (p:=[37,115])
 have e:(aB lt).length=lt.size:=rfl
 split
 ·split <;> (rw[Zg0];omega)
 split
 ·rw[Zg0,List.length_append,List.length_append,e];omega
 omega
theorem Zl0 {rl:List Rul}{f:Int} : ∀ (es:List Era) (prev:Option Int),(ZaX rl f prev es).length≤1001*es.length
 | [],_=>by simp[ZaX]
 | [x],prev=>by
  have h1:=Zgh (x:=x) (b:=ZbD prev f) (ZaG rl x)
  have h2:=Zcu (rl:=rl) (x:=x)
  rw[ZaX,List.length_singleton];omega
 | x::y::es,prev=>by
  have h1:=Zgh (x:=x) (b:=ZbD prev f) (ZaG rl x)
  have h2:=Zcu (rl:=rl) (x:=x)
  have h3:=Zqk (eraG x (ZbD prev f) (ZaG rl x)) (endV x)
  have h4:=Zl0 (rl:=rl) (f:=f) (y::es) (some (endV x))
  rw[ZaX,List.length_append,List.length_cons]
  split
  ·rw[List.length_nil];omega
  omega
theorem Zn2 {rl:List Rul}{x:Era}{b:Int}(hx:ZbX (xFm x)=true) : ∀ c∈eraG x b (ZaG rl x),c.2.2.2.size≤72:=by
 have hf:=ZfK hx
 intro c hc
 rcases List.mem_cons.1 hc with rfl | hc
 ·have key : ∀ (l:List Tim) (sa:Int) (lt:ByteArray),(∀ t∈l,t.2.2.size≤24)→lt.size≤24→(Zcy sa lt l b).2.size≤24:=by
   intro l
   induction l with
   | nil=>intro _ _ _ h;exact h
   | cons t l ih =>
    intro sa lt hl h
    rw[Zcy]
    split
    ·exact ih _ _ (fun u hu=>hl u (by simp[hu])) (hl t (by simp))
    exact ih _ _ (fun u hu=>hl u (by simp[hu])) h
  have:=key (ZaG rl x) (xSv x) ⟨#[]⟩ (fun t ht=>(Ze6 ht).2.2) (by decide)
  have h2:=Zl5 (xFm x) (Zcy (xSv x) ⟨#[]⟩ (ZaG rl x) b).2 (Zcy (xSv x) ⟨#[]⟩ (ZaG rl x) b).1
  show (Zfs _ _ _).size≤72
  omega
 obtain⟨t,ht,rfl⟩:=List.mem_map.1 hc
 have h3:=(Ze6 (List.mem_filter.1 ht).1).2.2
 have h2:=Zl5 (xFm x) t.2.2 t.2.1
 show (Zfs _ _ _).size≤72
 omega
theorem Zpv {rl:List Rul}{f:Int} : ∀ {es:List Era}{prev:Option Int},(∀ x∈es,ZbX (xFm x)=true) → ∀ c∈ZaX rl f prev es,c.2.2.2.size≤72
 | [],_,_,c,h=>by cases h
 | [x],prev,hx,c,h=>Zn2 (hx x (by simp)) c h
 | x::y::es,prev,hx,c,h=>by
  rw[ZaX] at h
  rcases List.mem_append.1 h with h | h
  ·split at h
   ·cases h
   exact Zn2 (hx x (by simp)) c ((List.takeWhile_sublist _).subset h)
  exact Zpv (fun z hz=>hx z (by simp[hz])) c h
def ofP (a:List Rul) (es:List Era):Tab×Int:=tabR (stV (inP (ZaX a tMin none es)))
theorem ZfU {e:AV}:Wk (.tup [.agg [.v (.int .i64 0),.v (.int .i64 0),.v (.string ⟨#[]⟩),.sl 0 0 true []],e]) (.tup [tabA Zfr,e]):=Wk.tup (wkw (Wk.agg (wk1 rfl (wk1 rfl (wk1 rfl (wkw Wk.nilF wk0))))) (wk1 rfl wk0))
theorem tof_a {a:List Rul}{z:List Zon}{k:List Lnk}{nm:ByteArray}{es:List Era}{h:AH}(hok:okRs a) (ha:a.length≤9223372036854775807) (hz:okZ es) (hne:inP (ZaX a tMin none es)≠[]) :
  Ac 53 [.agg (srcB a z k),.agg [sv nm,.sl es.length 10 false (rows eraC es)]] h (.tup [tabA (ofP a es).1,iv (ofP a es).2]):=by
 have hlen:=hz.len
 have hpl:=Zl0 (rl:=a) (f:=tMin) es none
 have hps:=Zpv (rl:=a) (f:=tMin) (prev:=none) (es:=es) (fun x hx=>(hz.fm x hx).1)
 have hO:ofP a es=_:=tabR_st (.inr hne)
 have hparts : ∀ h:AH,ACalls Tryz.prog 103 [.agg (srcB a z k),.agg [sv nm,.sl es.length 10 false (rows eraC es)],iv tMin] h fun y h'=>h'=h∧y=.ret (.sl (ZaX a tMin none es).length 4 false (rows chgC (ZaX a tMin none es))):=fun h=>parts_a hok ha hz (by decide)
 generalize ZaX a tMin none es=ps at hpl hps hne hO hparts
 refine tW' k53 fun N hn hlt _ hbd=>?_
 simp only[tb'] at hbd ⊢
 refine wr'<|E' (ZaR cv rfl hl0 ha0) pt<|E' (ZaR cv rfl hl1 ha1) pt<|E' (ZaV hl2 ha2) pt<|ms<|wr'<|Vw (Zat ZvR)<|E' (ZaR cv rfl hl3 ha3) pt<|mw<|Zam<|?_
 refine Zan<|Zac<|Zac<|ZaH<|Dw (Zag lk gx Zfm rfl)<|Dw (Zag lk gx ZrF rfl)<|?_
 refine ZaC mp0 (fun hE hX=>ZnL) pt ?_
 refine ZaC mp (fun hE hX=>hparts _) pt ?_
 refine Dw (ZaA lk)<|Dw (v_mv lki)<|ZaM<|?_
 refine Za5 ?_
 refine Zam ?_
 refine ZaP (ALe.own0Cell (st':=4) (ty:=89) gx gt3 hl4 pt3 (Eq.trans (congrArg (fun z=>List.set z _ _) ha4) hs3)) ?_
 refine Zaf ?_
 refine w_lp (ι:=Nat×Nat) (fun (x_:Nat×Nat)=>match x_ with | ⟨i,v⟩=>[(17,iv (i:Int)),(5,.any)]++rn' 7 3++rn' 18 47) (fun (x_:Nat×Nat)=>match x_ with | ⟨i,v⟩=>[(3,.mk 0 158 4 [iv (stV (ps.take i)).1.1,iv (stV (ps.take i)).1.2.1,sv (stV (ps.take i)).1.2.2,.own (N+4) v (stV (ps.take i)).2.length]),(4,.mk v 89 4 (rows chgC (stV (ps.take i)).2))]) (fun (x_:Nat×Nat)=>match x_ with | ⟨i,v⟩=>i≤ps.length∧(∀ c∈ps.take i,c.1≤tMax)∧ZbW (ps.take i)=0) (fun (x_:Nat×Nat)=>match x_ with | ⟨i,v⟩=>ps.length-i) (⟨0,0⟩) (by exact⟨Nat.zero_le _,⟨fun c hc=>(by cases hc),rfl⟩⟩) ?_
 rintro⟨i,v⟩ hi1
 try simp only[sm',Nat.reduceAdd]
 obtain⟨hi1,hi2,hi3⟩:=hi1
 refine wr'<|Vw (ZaO lk lk)<|sn'<|Zac<|?_
 refine cd' lk (fun hc1=>?_) (fun hc1=>?_)
 ·have hi:i<ps.length:=by omega
  have hsz:=hps _ (List.getElem_mem hi)
  have hsl:=Zs7 (ps.take i)
  rw[List.length_take] at hsl
  have htk:=List.take_succ_eq_append_getElem hi
  refine za<|Zac<|Zaf<|wm<|?_
  refine V' (ZaJ lk lk Za1 nb ro om ro rfl) pt ?_
  refine Vw (Zas lk ZmH rfl)<|E' (ZaV hl5 ha5) pt<|mw<|E' (Zai lk cv gx rfl nb rfl Zds hs5) ptn<|sn'<|Zac<|Zac<|ZaH<|dg<|Dw (Zaa lk gx gt0)<|?_
  refine ZaC mp0 (fun hE hX=>most_a) pt ?_
  refine Dw (ZbE lk lk)<|ZaM<|?_
  refine Za5 ?_
  refine sn' ?_
  refine cd' lk (fun hc2=>?_) (fun hc2=>?_)
  ·have hP:inP ps=ps.take i:=Zp1 hi2 (fun hh=>by simp only[tMax];omega)
   refine Zay<|Zar<|x_pas (Nat.ne_of_beq_eq_false rfl)<|Zar<|Zar<|ZaN<|Zan<|Zac<|wm<|Vw (Zca lk)<|fq<|fq<|?_
   refine Vw (Zaa lk gx gt3)<|Vw (Zcm lk)<|Vw (ZbE lk lki)<|sn'<|?_
   refine cd' lk (fun hc6=>?_) (fun hc6=>?_)
   ·rw[hP,hi3,if_neg (by simp),if_pos om] at hO
    refine wr'<|Vw (Zat Zkd)<|E' (Zai lk cv gx rfl nb rfl Zds hs2) ptn<|mr<|Zah<|Zae (rsn (rm1 (rr_c gt gx (ld1 ZcQ rfl)) (rm1 (rr_t gt) rm0)))<|rtW'<|?_
    rw[hO];exact ZfU
   rw[hP,hi3,if_neg (by simp),if_neg om] at hO
   refine ZaB ?_
   refine ZaP (ALe.iceCellR (hga hn rfl) (hga hn rfl) om gt3 (List.take_of_length_le (by rw[Zbj];exact Nat.le_refl _)) (by rw[Zbj];exact Nat.le_refl _) pt3 hs4 hs3) ?_
   refine wm<|Vw (Zca lk)<|fq<|Vw (Zag lk gx ZcQ rfl)<|E' (Zai lk cv gx rfl nb rfl Zds hs2) ptn<|mr<|Zae (rsn (rm1 (rr_c gt gx (ld1 ZcQ rfl)) (rm1 (rr_t gt) rm0)))<|rtW'<|?_
   rw[hO];exact Wk.tup (wkw (Wk.agg (wk1 rfl (wk1 rfl (wk1 rfl (wkw Wk.full wk0))))) (wk1 rfl wk0))
  refine za<|Zac<|wr'<|fq<|Vw (Zag lk gx Zd9 rfl)<|?_
  refine Zad mp (ZnJ (by simp only[maxLen];omega)) pt ?_
  refine ms<|wm<|Vw (Zba lk lki)<|sn'<|?_
  refine cd' lk (fun hc3=>?_) (fun hc3=>?_)
  ·have hlE:locE ps[i].2≠0:=hc3
   have hE:=Zun hi hi2 (by simp only[tMax];omega) hi3 hlE
   rw[hE,if_pos hlE] at hO
   refine wr'<|Vw (Zat ZrK)<|mw<|E' (Zai lk cv gx rfl nb rfl Zds hs2) ptn<|mr<|Zah<|Zaq<|Zah<|Zah<|Zaq<|?_
   refine Zah<|Zae (rsn (rm1 (rr_c gt gx (ld1 ZcQ rfl)) (rm1 (rr_t gt) rm0)))<|rtW'<|?_
   rw[hO];exact ZfU
  have hlE:locE ps[i].2=0:=Decidable.of_not_not hc3
  have hlE2:ZbW (ps.take (i+1))=0:=by rw[htk,Zgd hi3];exact hlE
  have hle2 : ∀ c∈ps.take (i+1),c.1≤tMax:=fun c hc=>by rw[htk] at hc;rcases List.mem_append.1 hc with hc | hc;exact hi2 c hc;simp only[List.mem_singleton] at hc;subst hc;simp only[tMax];omega
  refine za<|Zaf<|wm<|Vw (Za7 lk lki)<|ms<|?_
  refine cd' lk (fun hc4=>?_) (fun hc4=>?_)
  ·obtain rfl:i=0:=by omega
   have hS:stV (ps.take (0+1))=(ps[0].2,[]):=by rw[htk];rfl
   refine Zap<|mw<|fq<|Vw (Zag lk gx Zd9 rfl)<|Vw (Zca lk)<|fq<|fq<|E' (Zai lk cv gx rfl nb rfl Zg4 hs3) ptn<|Zam<|Zau<|Zau<|Zan<|Zap<|?_
   refine ad<|mw<|Zam<|Zaz<|?_
   refine lU' (⟨0+1,v⟩) (by (try dsimp only);exact⟨by omega,hle2,hlE2⟩) (by refine zz ?_;exact bk' 5 hn hlt (by rw[hS];rfl) (hT:=by simp[AV.lt,AV.ltL,Ent.lt]) (hE:=by simp[AV.lt,AV.ltL,Ent.lt]))
  have hnt:ps.take i≠[]:=List.ne_nil_of_length_pos (by rw[List.length_take];omega)
  have hS:=stV_snoc (c:=ps[i]) hnt
  rw[←htk] at hS
  refine Zac<|w_orl<|ZsH [N+5]<|dg<|?_
  refine d_ldP lk gx (ld1 Zd9 rfl) (by simp) pt ?_
  refine Dw vm<|ZaM<|ZnM<|?_
  refine k_call mp (mlast_r (F:=(stV (ps.take i)).1) (l:=(stV (ps.take i)).2) gx gx om) (by intro i hi;simp only[cond_true,List.mem_cons,List.not_mem_nil,or_false] at hi;subst hi;first | rfl | exact (hga hn rfl).trans (hga hn rfl).symm) pt ?_
  refine k_val rfl (ZfW lk lk ZoB) pt<|k_val rfl vm pt<|k_nil<|Zan<|?_
  refine cd' lk (fun hc5=>?_) (fun hc5=>?_)
  ·have hne5:¬ps[i].2=Zep (stV (ps.take i)).1 (stV (ps.take i)).2:=fun e=>hc5 (by rw[e];exact⟨rfl,rfl,rfl⟩)
   rw[if_neg hne5] at hS
   refine ZaH<|Dw vm<|Dw vm<|Dw (Zca lk)<|dg<|dg<|Dw (Zaa lk gx gt3)<|dg<|Dw (Zaa lk gx gt0)<|dg<|Dw (Zag lk gx Zd9 rfl)<|Dw (Zat (ZrJ cv rfl cv rfl))<|Zc5 rfl rfl (hlk hn rfl) (ZfJ (ZrI cv rfl)) pt ZvQ<|ZaM<|?_
   refine Zc4 ZrH ?_
   refine E' (ZbK (Zbp lk gx rfl ZmH nb) lk gx (Zbj _) om rfl hs4) pt ?_
   refine Vw (Zca lk)<|fq<|fq<|E' (Zai lk cv gx rfl nb rfl ZrG hs3) ptn<|Zam<|Zau<|Zau<|Zan<|Zap<|?_
   refine ad<|mw<|Zam<|Zaz<|?_
   refine lU' (⟨i+1,v+1⟩) (by (try dsimp only);exact⟨by omega,hle2,hlE2⟩) (by refine zz ?_;exact bk' 5 hn hlt (by rw[hS,List.length_append,ZaF,Zbu];rfl) (hT:=by simp[AV.lt,AV.ltL,Ent.lt]) (hE:=by simp[AV.lt,AV.ltL,Ent.lt]))
  have hne5:ps[i].2=Zep (stV (ps.take i)).1 (stV (ps.take i)).2:=by obtain⟨x1,x2,x3⟩:=Decidable.of_not_not hc5;exact Prod.ext x1 (Prod.ext x2 x3)
  rw[if_pos hne5,List.append_nil] at hS
  refine ZaB<|Zau<|Zau<|Zan<|Zap<|?_
  refine ad<|mw<|Zam<|Zaz<|?_
  refine lU' (⟨i+1,v⟩) (by (try dsimp only);exact⟨by omega,hle2,hlE2⟩) (by refine zz ?_;exact bk' 5 hn hlt (by rw[hS];rfl) (hT:=by simp[AV.lt,AV.ltL,Ent.lt]) (hE:=by simp[AV.lt,AV.ltL,Ent.lt]))
 have hP:inP ps=ps.take i:=Zp1 hi2 (fun hh=>absurd hh om)
 have hsl:=Zs7 (ps.take i)
 rw[List.length_take] at hsl
 refine Zay<|Zar<|Zar<|ZaN<|Zan<|Zac<|wm<|Vw (Zca lk)<|fq<|fq<|Vw (Zaa lk gx gt3)<|Vw (Zcm lk)<|?_
 refine Vw (ZbE lk lki)<|sn'<|?_
 refine cd' lk (fun hc6=>?_) (fun hc6=>?_)
 ·rw[hP,hi3,if_neg (by simp),if_pos om] at hO
  refine wr'<|Vw (Zat Zkd)<|E' (Zai lk cv gx rfl nb rfl Zds hs2) ptn<|mr<|Zah<|Zae (rsn (rm1 (rr_c gt gx (ld1 ZcQ rfl)) (rm1 (rr_t gt) rm0)))<|rtW'<|?_
  rw[hO];exact ZfU
 rw[hP,hi3,if_neg (by simp),if_neg om] at hO
 refine ZaB ?_
 refine ZaP (ALe.iceCellR (hga hn rfl) (hga hn rfl) om gt3 (List.take_of_length_le (by rw[Zbj];exact Nat.le_refl _)) (by rw[Zbj];exact Nat.le_refl _) pt3 hs4 hs3) ?_
 refine wm<|Vw (Zca lk)<|fq<|Vw (Zag lk gx ZcQ rfl)<|E' (Zai lk cv gx rfl nb rfl Zds hs2) ptn<|mr<|Zae (rsn (rm1 (rr_c gt gx (ld1 ZcQ rfl)) (rm1 (rr_t gt) rm0)))<|rtW'<|?_
 rw[hO];exact Wk.tup (wkw (Wk.agg (wk1 rfl (wk1 rfl (wk1 rfl (wkw Wk.full wk0))))) (wk1 rfl wk0))
end
section
open Go.Ab Go.RowKit Civ
attribute [local simp] ZbL Zce ZbZ Zbv Zbi ZdB ZdH tms_lt
section
theorem Zb7 {a0 a1 a2:AV}{l:List AV}:((a0::a1::a2::l).drop 0).take 3=[a0,a1,a2]:=rfl
theorem ZrC {a0 a1:AV}{l:List AV}:((a0::a1::l).drop 0).take 2=[a0,a1]:=rfl
theorem Zd8 {a0 a1 a2 a3 c0 c1 c2 c3:AV}{l:List AV}:setCells (a0::a1::a2::a3::l) 0 [c0,c1,c2,c3]=c0::c1::c2::c3::l:=rfl
theorem ZiN {τ:Operand→AV}{y0:Operand}{x0_0:AV}(h0:Zao (τ y0)=some [x0_0]) (l0:[x0_0].all leaf=true):Zak τ [(0,1,y0)] [(iv 0)]=some [x0_0]:=by
 simp only[Zak,h0,l0]
 rfl
theorem ZvP {a0:AV}{l:List AV}:(a0::l).take 1=[a0]:=rfl
theorem Zdr {a0 a1 a2 a3:AV}{l:List AV}:((a0::a1::a2::a3::l).drop 0).take 4=[a0,a1,a2,a3]:=rfl
theorem ZiM {τ:Operand→AV}{y0:Operand}{x0_0 x0_1 x0_2:AV}(h0:Zao (τ y0)=some [x0_0,x0_1,x0_2]) (l0:[x0_0,x0_1,x0_2].all leaf=true):Zak τ [(0,3,y0)] [(iv 0),(iv 0),(.v (.string ⟨#[]⟩)),(.sl 0 0 true [])]=some [x0_0,x0_1,x0_2,(.sl 0 0 true [])]:=by
 simp only[Zak,h0,l0]
 rfl
theorem Zgy { e:Ent}:([]:AH)++[e]=[e]:=rfl
theorem ZrE {e0 e1 e2 e3 e4 d0:Ent}:([e0,e1,e2,e3,e4]:AH)++[d0]=[e0,e1,e2,e3,e4,d0]:=rfl
theorem Zfl {a0 a1 a2 c0 c1 c2:AV}{l:List AV}:setCells (a0::a1::a2::l) 0 [c0,c1,c2]=c0::c1::c2::l:=rfl
theorem ZrD {e0 e1 e2 e3 e4 e5 e6 e7 d0:Ent}:([e0,e1,e2,e3,e4,e5,e6,e7]:AH)++[d0]=[e0,e1,e2,e3,e4,e5,e6,e7,d0]:=rfl
theorem Zoz {a0 b0:Int}{a1 b1:Int}{a2 b2:ByteArray}:Za4 [.int,.int,.str] [iv a0,iv a1,sv a2] [iv b0,iv b1,sv b2]=some (decide (a0=b0∧a1=b1∧a2=b2)):=by
 simp only[Za4,Zc3,if_true,Zb3,Option.some.injEq]
 simp only[Bool.decide_and,Bool.and_true]
 try (congr 1 <;> simp)
 try rfl
theorem ZeJ {τ:Operand→AV}{y0 y1:Operand}{x0_0 x1_0 x1_1 x1_2:AV}(h0:Zao (τ y0)=some [x0_0]) (l0:[x0_0].all leaf=true) (h1:Zao (τ y1)=some [x1_0,x1_1,x1_2]) (l1:[x1_0,x1_1,x1_2].all leaf=true):Zak τ [(0,1,y0),(1,3,y1)] [(iv 0),(iv 0),(iv 0),(.v (.string ⟨#[]⟩))]=some [x0_0,x1_0,x1_1,x1_2]:=by
 simp only[Zak,h0,l0,h1,l1]
 rfl
theorem ZeI {τ:Operand→AV}{y0:Operand}{x0_0 x0_1 x0_2 x0_3:AV}(h0:Zao (τ y0)=some [x0_0,x0_1,x0_2,x0_3]) (l0:[x0_0,x0_1,x0_2,x0_3].all leaf=true):Zak τ [(0,4,y0)] [(iv 0),(iv 0),(iv 0),(.v (.string ⟨#[]⟩))]=some [x0_0,x0_1,x0_2,x0_3]:=by
 simp only[Zak,h0,l0]
 rfl
theorem Zkb {e0 e1 e2 e3 e4 e5 e6 e7 e8 d0:Ent}:([e0,e1,e2,e3,e4,e5,e6,e7,e8]:AH)++[d0]=[e0,e1,e2,e3,e4,e5,e6,e7,e8,d0]:=rfl
theorem ZmE {a0 a1 a2 a3:AV}{l:List AV}:(a0::a1::a2::a3::l).take 4=[a0,a1,a2,a3]:=rfl
theorem Zka {a0 a1 a2 a3 c0:AV}{l:List AV}:setCells (a0::a1::a2::a3::l) 3 [c0]=a0::a1::a2::c0::l:=rfl
theorem ZeH {τ:Operand→AV}:Zak τ [] [(iv 0),(iv 0),(.v (.string ⟨#[]⟩)),(.sl 0 0 true [])]=some [(iv 0),(iv 0),(.v (.string ⟨#[]⟩)),(.sl 0 0 true [])]:=rfl
end
def c56:AC:=(Sr [Oo 2 (.box 53 3 (t 0)),Oo 3 (.box 94 2 (t 1)),Oo 4 (.new 38 4 [(iv 0),(iv 0),Ss,nl]),Mc 5 0] (Sr [Oo 17 (.load true 3 (t 2)),Oo 18 (.load true 2 (t 3)),Cl 19 111 [(t 17),(t 18)],Oo 6 (.new 171 4 [Ss,nl,nl,nl]),⟨none,none,(.store 4 (t 6) (t 19))⟩] (Sr [Oo 7 (.mv (.const (.slice none 0 0)))] (.seq (Sr [Mc 8 0] (.block 0 (.loop (.seq (Sr [Mv 20 8,Fa 21 3 6,Ld 22 21,Oo 23 (.len false (t 22)),Bn 24 .lss 20 23] (Cd 24 .skip (.exit 0))) (.seq (.block 1 (Sr [Mc 9 0] (.block 2 (.loop (.seq (Sr [Mv 27 9,Fa 28 3 6,Ld 29 28,Mv 30 8,Oo 31 (.ia 1 (t 29) (t 30)),Ld 32 31,Oo 33 (.len false (t 32)),Bn 34 .lss 27 33] (Cd 34 .skip (.exit 2))) (.seq (.block 3 (.reg [Mv 37 7,Fa 38 3 6,Ld 39 38,Mv 40 8,Oo 41 (.ia 1 (t 39) (t 40)),Ld 42 41,Mv 43 9,Oo 44 (.ia 3 (t 42) (t 43)),Fa 45 0 44,Ld 46 45,Oo 47 (.lit 3 1 1 [(iv 0)] [(0,(1,(t 46)))]),Oo 48 (.app 3 1 8 (t 37) (t 47)),Mv 7 48])) (.reg [Mv 35 9,Bc 36 .add 35 1,Mv 9 36]))))))) (.reg [Mv 25 8,Bc 26 .add 25 1,Mv 8 26])))))) (Sr [Mv 49 7,Fa 50 2 6,Ld 51 50,Oo 52 (.app 3 1 8 (t 49) (t 51)),Mv 7 52] (.seq (Sr [Mc 10 1] (.block 4 (.loop (.seq (Sr [Mv 53 10,Mv 54 7,Oo 55 (.len false (t 54)),Bn 56 .lss 53 55] (Cd 56 .skip (.exit 4))) (.seq (.block 5 (Sr [Mv 59 10,Mv 11 59] (.block 6 (.loop (.seq (Sd [Mv 60 11,Bc 61 .gtr 60 0,Mv 62 61,Ot 63 62 (mt 7),Ot 64 62 (mt 11),Ot 65 62 (.ia 1 (t 63) (t 64)),Ot 66 62 (.load false 1 (t 65)),Ot 67 62 (mt 7),Ot 68 62 (mt 11),Ot 69 62 (.bin .sub (t 68) (Ci 1)),Ot 70 62 (.ia 1 (t 67) (t 69)),Ot 71 62 (.load false 1 (t 70)),Ot 72 62 (.bin .lss (t 66) (t 71)),Oo 73 (.pick (t 62) (t 72) (.const (.bool false)))] (Cd 73 .skip (.exit 6))) (.seq (.block 7 (.drw [Mv 76 7,Mv 77 11,Mv 78 7,Mv 79 11,Bc 80 .sub 79 1,Mv 81 7,Mv 82 11,Bc 83 .sub 82 1,Oo 84 (.ia 1 (t 81) (t 83)),Ld 85 84,Mv 86 7,Mv 87 11,Oo 88 (.ia 1 (t 86) (t 87)),Ld 89 88,Oo 90 (.ia 1 (t 76) (t 77))] [false,false,false] [Sc 90 85,Oo 91 (.ia 1 (t 78) (t 80)),Sc 91 89])) (.reg [Mv 74 11,Bc 75 .sub 74 1,Mv 11 75]))))))) (.reg [Mv 57 10,Bc 58 .add 57 1,Mv 10 58])))))) (.seq (.drw [Oo 92 (.load true 4 (t 6)),Cl 93 113 [],Cl 94 112 [(t 92),(t 93)],Oo 95 (.build [(iv 0),(iv 0),Ss,nl] [(0,(3,(t 94)))]),Oo 12 (.new 38 4 [(iv 0),(iv 0),Ss,nl])] [false] [⟨none,none,(.store 4 (t 12) (t 95))⟩]) (Sr [Fa 96 0 12,Oo 97 (.load true 3 (t 96)),Oo 13 (.new 35 3 [(iv 0),(iv 0),Ss]),⟨none,none,(.store 3 (t 13) (t 97))⟩] (Sr [Oo 98 (.load true 3 (t 13)),Cl 99 114 [(t 98)],Mv 14 99] (.seq (Sr [Mc 15 0] (.block 8 (.loop (.seq (Sr [Mv 100 15,Mv 101 7,Oo 102 (.len false (t 101)),Bn 103 .lss 100 102] (Cd 103 .skip (.exit 8))) (.seq (.block 9 (.seq (Sd [Mv 106 7,Mv 107 15,Oo 108 (.ia 1 (t 106) (t 107)),Ld 109 108,Cl 110 113 [],Bn 111 .leq 109 110,Mv 112 111,Of 113 112 (mt 7),Of 114 112 (mt 15),Of 115 112 (.ia 1 (t 113) (t 114)),Of 116 112 (.load false 1 (t 115)),Of 117 112 (.call (.func 115) []),Of 118 112 (.bin .gtr (t 116) (t 117)),Oo 119 (.pick (t 112) (.const (.bool true)) (t 118))] (Cd 119 (.exit 9) .skip)) (.seq (.drw [Oo 120 (.load true 4 (t 6)),Mv 121 7,Mv 122 15,Oo 123 (.ia 1 (t 121) (t 122)),Ld 124 123,Cl 125 112 [(t 120),(t 124)],Oo 16 (.new 35 3 [(iv 0),(iv 0),Ss])] [false] [⟨none,none,(.store 3 (t 16) (t 125))⟩]) (.seq (Sr [Oo 126 (.load true 3 (t 16)),Oo 127 (.load true 3 (t 13)),Oo 128 (.eqs false [.int,.int,.str] (t 126) (t 127))] (Cd 128 (.exit 9) .skip)) (.seq (Sr [Mv 129 14,Bc 130 .eql 129 0] (Cd 130 (.reg [Oo 131 (.load true 3 (t 16)),Cl 132 114 [(t 131)],Mv 14 132]) .skip)) (.seq (.drw [Fa 133 3 12,Ld 134 133,Mv 135 7,Mv 136 15,Oo 137 (.ia 1 (t 135) (t 136)),Ld 138 137,Oo 139 (.load true 3 (t 16)),Oo 140 (.build [(iv 0),(iv 0),(iv 0),Ss] [(0,(1,(t 138))),(1,(3,(t 139)))]),Oo 141 (.lit 89 4 1 [(iv 0),(iv 0),(iv 0),Ss] [(0,(4,(t 140)))])] [false,false,false] [Oo 142 (.app 89 4 40 (t 134) (t 141)),Fa 143 3 12,Sc 143 142]) (.reg [Oo 144 (.load true 3 (t 16)),⟨none,none,(.store 3 (t 13) (t 144))⟩]))))))) (.reg [Mv 104 15,Bc 105 .add 104 1,Mv 15 105])))))) (.seq (Sr [Mv 145 14,Bc 146 .eql 145 0,Mv 147 146,Ot 148 147 (.fa 3 (t 12)),Ot 149 147 (.load false 1 (t 148)),Ot 150 147 (.len false (t 149)),Ot 151 147 (.bin .gtr (t 150) (Ci 1000)),Oo 152 (.pick (t 147) (t 151) (.const (.bool false)))] (Cd 152 (.reg [Mc 14 2]) .skip)) (.seq (Sr [Mv 153 14,Bc 154 .neq 153 0] (Cd 154 (Sr [Oo 155 (.build [(iv 0),(iv 0),Ss,nl] []),Mv 156 14,⟨none,none,(.store 4 (t 4) (t 155))⟩,Mv 5 156] .ret) .skip)) (Sr [Oo 157 (.load true 4 (t 12)),⟨none,none,(.store 4 (t 4) (t 157))⟩,Mc 5 0] .ret)))))))))))))
theorem k56:Zaw Tryz.prog 56=some ⟨c56,[(.cell 4 true 4),(.tmp 5)],158⟩:=by kernel_rfl
theorem Zqf {rl:List Rul}{x:Era}{b:Int}(hx:ZbX (xFm x)=true):(Zft rl x b).2.2.size≤72 :=
 Zn2 (rl:=rl) (b:=b) hx (b,Zft rl x b) List.mem_cons_self
theorem ZsU {rl:List Rul}{n:Int} : ∀ {es:List Era},(∀ x∈es,ZbX (xFm x)=true)→(ZaY rl es n).2.2.size≤72
 | [],_=>by show (0:Nat)≤72;omega
 | [x],h=>Zqf (h x (by simp))
 | x::y::es,h=>by
  rw[ZaY]
  split
  ·exact ZsU fun z hz=>h z (by simp[hz])
  exact Zqf (h x (by simp))
def Znl (a:List Rul) (es:List Era):List Int:=es.flatMap fun x=>(ZaG a x).map (·.1)
theorem ZlJ (a:List Rul) : ∀ es:List Era,(Znl a es).length=cntV a es
 | []=>rfl
 | x::es=>by unfold Znl;rw[List.flatMap_cons,List.length_append,List.length_map,cntV];exact congrArg _ (ZlJ a es)
theorem ZqG (a:List Rul) (es:List Era) (x:Era):Znl a (es++[x])=Znl a es++(ZaG a x).map (·.1):=by
 unfold Znl;rw[List.flatMap_append,List.flatMap_cons,List.flatMap_nil,List.append_nil]
theorem inT_no1 {x:Int}(h:x≤tMin):inT x=false:=decide_eq_false om
theorem inT_no2 {x:Int}(h:tMax<x):inT x=false:=decide_eq_false om
theorem inT_yes {x:Int}(h1:¬x≤tMin) (h2:¬tMax<x):inT x=true:=decide_eq_true om
theorem take1_pw {r:Int→Int→Prop}(l:List Int):(l.take 1).Pairwise r:=by cases l <;> simp
end
end Go.Proofs.YtfoipaclphdodaaGreatDoor
