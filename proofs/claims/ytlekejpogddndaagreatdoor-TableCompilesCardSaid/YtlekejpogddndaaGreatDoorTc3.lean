/-
  Part 3 of the proof: own lemmas and contracts on plain data. No condition beyond those that each lemma states.
-/
import Derived.Test.YtlekejpogddndaaGreatDoorTc2
import Derived.Shelf.SlSortCmp.WholeK
import Derived.Lib.ReplaceLaws
import Derived.Sort.OwnSorted
import Derived.Lib.RowBridge
set_option linter.all false
set_option maxRecDepth 1000000
set_option maxHeartbeats 4000000
section
namespace Go.Proofs.YtlekejpogddndaaGreatDoor
open Go.Ab Civ
attribute [local simp] Zbw Zmk Zeb
def c86:AC:=(Sr [Oo 4 (.box 9 1 (.tmp 1)),Mc 6 0] (.seq (Sr [Mv 10 0,Oo 11 (.len false (.tmp 10)),Bc 12 .gtr 11 40] (Cd 12 (Sr [Mc 6 2] .ret) .skip)) (.seq (Sr [Mv 13 0,Oo 14 (.len false (.tmp 13)),Mc 15 0] (.block 0 (.loop (Sr [Bn 16 .lss 15 14] (.seq (Cd 16 .skip (.exit 0)) (.seq (.block 1 (Sr [Oo 17 (.ia 11 (.tmp 13) (.tmp 15)),Oo 18 (.load true 11 (.tmp 17)),Oo 8 (.new 36 11 [Ss,(iv 0),(iv 0),(iv 0),(iv 0),(iv 0),(iv 0),(iv 0),(iv 0),(iv 0),Ss]),⟨none,none,(.store 11 (.tmp 8) (.tmp 18))⟩] (Sr [Oo 19 (.load true 11 (.tmp 8)),Cl 20 156 [(.tmp 19)],Mv 9 20] (Sr [Mv 21 9,Bc 22 .neq 21 0] (Cd 22 (Sr [Mv 23 9,Mv 6 23] .ret) .skip))))) (.reg [Bc 24 .add 15 1,Mv 15 24]))))))) (.seq (.block 2 (Sr [Mv 26 2,Oo 27 (.bin .lss (.tmp 26) (.const (.int .i64 (-64800)))),Mv 28 27,Of 29 28 (mt 2),Of 30 28 (.bin .gtr (.tmp 29) (Ci 64800)),Oo 31 (.pick (.tmp 28) (.const (.bool true)) (.tmp 30)),Mv 25 31] (Cd 25 (Sr [Mc 6 3] .ret) (Sr [Mv 33 0,Oo 34 (.mkfn 158 [(.tmp 4)]),Cl 35 157 [(.tmp 33),(.tmp 34)],Oo 36 (.un .not (.tmp 35)),Mv 32 36] (Cd 32 (Sr [Mc 6 5] .ret) .skip))))) (Sr [Mc 6 0] .ret)))))
theorem k86:ZaE Tryz.prog 86=some ⟨c86,[(.tmp 6)],37⟩:=by kernel_rfl
def c91:AC:=(Sr [Oo 3 (.box 36 11 (.tmp 0)),Mc 6 0] (.seq (Sr [Fa 7 8 3,Ld 8 7] (.block 0 (Sr [Bc 10 .eql 8 1,Mv 9 10] (Cd 9 (Sr [Mv 11 1,Mv 12 2,Bn 13 .add 11 12,Mv 6 13] .ret) (Sr [Bc 15 .eql 8 2,Mv 14 15] (Cd 14 (Sr [Mv 16 1,Mv 6 16] .ret) .skip)))))) (Sr [Mc 6 0] .ret)))
theorem k91:ZaE Tryz.prog 91=some ⟨c91,[(.tmp 6)],17⟩:=by kernel_rfl
def c87:AC:=(Sr [Oo 2 (.box 22 1 (.tmp 0)),Oo 3 (.box 9 1 (.tmp 1)),Oo 4 (.mv (.const .nilFunc))] (Sr [Oo 5 (.mkfn 159 [(.tmp 2),(.tmp 3)]),Mv 4 5] .ret))
theorem k87:ZaE Tryz.prog 87=some ⟨c87,[(.tmp 4)],6⟩:=by kernel_rfl
def c159:AC:=(Sr [Ld 9 1,Oo 10 (.len false (.tmp 9)),Mc 11 0] (.block 0 (.loop (Sr [Bn 12 .lss 11 10] (.seq (Cd 12 .skip (.exit 0)) (.seq (.block 1 (Sr [Oo 13 (.ia 11 (.tmp 9) (.tmp 11)),Oo 14 (.load true 11 (.tmp 13)),Oo 5 (.new 36 11 [Ss,(iv 0),(iv 0),(iv 0),(iv 0),(iv 0),(iv 0),(iv 0),(iv 0),(iv 0),Ss]),⟨none,none,(.store 11 (.tmp 5) (.tmp 14))⟩] (.seq (Sr [Fa 15 0 5,Ld 16 15,Ld 17 2,Bn 18 .neq 16 17] (Cd 18 (.exit 1) .skip)) (Sr [Fa 19 1 5,Ld 20 19,Mv 6 20] (.block 2 (.loop (.seq (Sr [Mv 21 6,Fa 22 2 5,Ld 23 22,Bn 24 .leq 21 23] (Cd 24 .skip (.exit 2))) (.seq (.block 3 (Sr [Mv 28 6,Fa 29 3 5,Ld 30 29,Fa 31 4 5,Oo 32 (.load true 3 (.tmp 31)),Cl 33 94 [(.tmp 28),(.tmp 30),(.tmp 32)],Mv 27 33,Ex 34 27 0,Ex 35 27 1,Oo 7 (.new 59 3 [(iv 0),(iv 0),(iv 0)]),⟨none,none,(.store 3 (.tmp 7) (.tmp 34))⟩,Mv 8 35] (.seq (.drw [Mv 36 0,Oo 37 (.load true 3 (.tmp 7)),Cl 38 98 [(.tmp 37)],Bc 39 .mul 38 86400,Fa 40 7 5,Ld 41 40,Bn 42 .add 39 41,Oo 43 (.load true 11 (.tmp 5)),Oo 44 (.build [(iv 0),Ss,(iv 0),(iv 0),(iv 0),(iv 0),(iv 0),(iv 0),(iv 0),(iv 0),(iv 0),Ss] [(0,(1,(.tmp 42))),(1,(11,(.tmp 43)))])] [false,false] [Oo 45 (.call (.tmp 36) [(.tmp 44)]),Oo 46 (.un .not (.tmp 45))]) (Cd 46 .ret .skip)))) (.reg [Mv 25 6,Bc 26 .add 25 1,Mv 6 26]))))))))) (.reg [Bc 47 .add 11 1,Mv 11 47])))))))
theorem k159:ZaE Tryz.prog 159=some ⟨c159,[],48⟩:=by kernel_rfl
def okRs (l:List Rul):Prop := ∀ r∈l,r.1.size≤maxLen∧r.2.2.2.2.2.2.2.2.size≤maxLen
theorem ready1_a {nm:ByteArray}{r:Rul}{h:AH}:Ac 158 [.agg (rulC r),.rp [sv nm]] h (bv (decide (r.1=nm))):=by
 obtain⟨n,f,t,m,⟨k,w,d⟩,a,c,s,lt⟩:=r
 refine tI' k158 fun N hn hlt hlA hbd=>?_
 simp only[tb'] at hbd ⊢
 refine wr'<|E' (Zbc cv rfl (hl0 hn) ha0) pt<|mw<|sn'<|wr'<|Vw (Zac lk)<|Vw (Zab lk gx gt0)<|Vw (Zar lk gt)<|Vw (Zch lk lk)<|mw<|Zaq<|?_
 exact Zae<|Zaa<|Zah rz<|rT' rfl
theorem ready_a {l:List Rul}{nm:ByteArray}{sh:Int}{h:AH}(hok:okRs l) (hl:l.length≤9223372036854775807):Ac 86 [.sl l.length 11 false (rows rulC l),sv nm,iv sh] h (iv (ZdI l nm sh)):=by
 have hll:=hl
 refine tI' k86 fun N hn hlt hlA hbd=>?_
 simp only[tb'] at hbd ⊢
 refine wr'<|E' (Zbc cv rfl (hl0 hn) ha0) pt<|mw<|Zaq<|?_
 refine Za1 (ALe.icePtr gx gt4 (by simp) pt4 (hs0 hn)) ?_
 refine Zag<|wr'<|mw<|Vw (ZaG lk)<|Vw (Zbz lk lki)<|sn'<|?_
 refine cd' lk (fun hc1=>?_) (fun hc1=>?_)
 ·have hR:ZdI l nm sh=2:=if_pos om
  refine wr'<|mw<|sn'<|Zaa<|Zai<|Zah rz<|rT'<|?_
  rw[hR]
 have hR:ZdI l nm sh=if Za3 Zbr l≠0 then Za3 Zbr l else if sh < -64800∨sh>64800 then 3 else if l.any (fun r=>decide (r.1=nm))=false then 5 else 0:=if_neg om
 refine Zad<|Zae<|Zag<|wr'<|mw<|Vw (ZaG lk)<|mw<|sn'<|Zam<|?_
 refine w_lp (ι:=Nat) (fun (k:Nat)=>[(15,iv (k:Int)),(6,.any),(8,.any),(9,.any)]++rn' 16 9) (fun (k:Nat)=>[]) (fun (k:Nat)=>k≤l.length∧Za3 Zbr l=Za3 Zbr (l.drop k)) (fun (k:Nat)=>l.length-k) (0) (by exact⟨Nat.zero_le _,rfl⟩) ?_
 rintro k hi1
 try simp only[sm',Nat.reduceAdd]
 obtain⟨hk1,hk2⟩:=hi1
 refine wr'<|Vw (ZaZ lk lk)<|sn'<|Zag<|?_
 refine cd' lk (fun hc2=>?_) (fun hc2=>?_)
 ·have hk:k<l.length:=by omega
  have ho:=hok _ (List.getElem_mem hk)
  rw[Zdu hk] at hk2
  refine Zad<|Zae<|Zag<|Zam<|wr'<|?_
  refine V' (ZaJ lk lk Zck (nb' rfl) ro om ro rfl) pt ?_
  refine Vw (ZaF lk Zlf rfl)<|E' (Za7 (hl1 hn) ha1) pt<|E' (Zaj lk cv gx rfl (nb' rfl) rfl ZjL (hs1 hn)) ptn<|sn'<|wr'<|Vw (Zao lk gx ZjK rfl)<|Zaf mp (rule_b ho.1 ho.2) pt<|mw<|sn'<|wr'<|?_
  refine mw<|Vw (Za9 lk lki)<|sn'<|?_
  refine cd' lk (fun hc3=>?_) (fun hc3=>?_)
  ·have hc3':Zbr l[k]≠0:=hc3
   rw[if_pos hc3'] at hk2
   rw[if_pos (by rw[hk2];exact hc3'),hk2] at hR
   refine wr'<|mw<|mw<|sn'<|Zaa<|Zas<|Zai<|Zai<|Zas<|Zai<|Zah rz<|rT'<|?_
   rw[hR]
  have hc3':¬Zbr l[k]≠0:=hc3
  rw[if_neg hc3'] at hk2
  refine Zad<|ZaA<|Zae<|Zat<|?_
  refine V' (Zax lk lki om om) pt ?_
  refine mw<|Zaq<|ZaB<|?_
  refine lU' (k+1) (by (try dsimp only);exact⟨by omega,hk2⟩) (by (try dsimp only);(try simp only[sm',Nat.reduceAdd]);exact bk' 1 hn hlt)
 rw[List.drop_of_length_le om] at hk2
 rw[if_neg (by rw[hk2];simp[Za3])] at hR
 refine ZaD<|Zay<|Zay<|ZaU<|Zae<|Zag<|Zam<|wr'<|mw<|Vw (ZaZ lk lki)<|mw<|?_
 refine sp' (t:=28) gt pt pt (fun hg28=>?_) (fun hg28=>?_)
 ·rw[if_pos (.inl om)] at hR
  refine s_no gt pt<|s_no gt pt<|Vw (Zal lk lkb)<|mw<|sn'<|ZaH lk<|wr'<|mw<|sn'<|Zaa<|Zas<|?_
  refine Zai<|Zah rz<|rT'<|?_
  rw[hR]
 refine s_do gt<|mw<|s_do gt<|Vw (Zbz lk lki)<|Vw (Zak lk lk)<|mw<|sn'<|?_
 refine cd' lk (fun hc4=>?_) (fun hc4=>?_)
 ·rw[if_pos (.inr om)] at hR
  refine wr'<|mw<|sn'<|Zaa<|Zas<|Zai<|Zah rz<|rT'<|?_
  rw[hR]
 rw[if_neg om] at hR
 refine wr'<|mw<|Vw (ZgG mp)<|?_
 refine Zaf mp (Zm8 (p:=fun r=>decide (r.1=nm)) (fun c _ _=>ready1_a) hll) pt ?_
 refine Vw (ZaC lk)<|mw<|sn'<|?_
 refine Zaz lk (fun hc5=>?_) (fun hc5=>?_)
 ·rw[if_pos (by simpa using hc5)] at hR
  refine wr'<|mw<|sn'<|Zaa<|Zas<|Zai<|Zah rz<|rT'<|?_
  rw[hR]
 rw[if_neg (by simpa using hc5)] at hR
 refine Zad<|ZaA<|Zae<|wr'<|mw<|sn'<|Zaa<|Zah rz<|rT'<|?_
 rw[hR]
theorem off_a {r:Rul}{sh sa:Int}{h:AH}(h1 : -64800≤sh∧sh≤64800) (h2:0≤sa∧sa≤10800):Ac 91 [.agg (rulC r),iv sh,iv sa] h (iv (offV r sh sa)):=by
 obtain⟨n,f,t,m,⟨k,w,d⟩,a,c,s,lt⟩:=r
 refine tI' k91 fun N hn hlt hlA hbd=>?_
 simp only[tb'] at hbd ⊢
 refine wr'<|E' (Zbc cv rfl (hl0 hn) ha0) pt<|mw<|sn'<|Zag<|wr'<|Vw (Zac lk)<|Vw (Zab lk gx gt8)<|sn'<|Zam<|?_
 refine wr'<|Vw (ZaX lk lki)<|mw<|sn'<|?_
 refine cd' lk (fun hc1=>?_) (fun hc1=>?_)
 ·refine wr'<|mw<|mw<|?_
  refine V' (Zax lk lk om om) pt ?_
  refine mw<|sn'<|Zaa<|Zas<|Zai<|Zah rz<|rT'<|?_
  refine ivx ?_;unfold offV;rw[if_pos (by assumption)]
 refine wr'<|Vw (ZaX lk lki)<|mw<|sn'<|?_
 refine cd' lk (fun hc2=>?_) (fun hc2=>?_)
 ·refine wr'<|mw<|mw<|sn'<|Zaa<|Zas<|Zai<|Zah rz<|rT'<|?_
  refine ivx ?_;unfold offV;rw[if_neg (by assumption),if_pos (by assumption)]
 refine Zad<|ZaA<|Zae<|wr'<|mw<|sn'<|Zaa<|Zah rz<|rT'<|?_
 refine ivx ?_;unfold offV;rw[if_neg (by assumption),if_neg (by assumption)]
theorem turns_a {l:List Rul}{nm:ByteArray}{h:AH}:Ac 87 [.sl l.length 11 false (rows rulC l),sv nm] h (.clo (.func 159) [.rp [.sl l.length 11 false (rows rulC l)],.rp [sv nm]]):=by
 refine tI' k87 fun N hn hlt hlA hbd=>?_
 simp only[tb'] at hbd ⊢
 refine wr'<|E' (Zbc cv rfl (hl0 hn) ha0) pt<|E' (Zbc cv rfl (hl1 hn) ha1) pt<|mv' rfl pt<|Zaq<|?_
 refine Za1 (ALe.trans (ALe.icePtr gx gt2 (by simp) pt2 (hs0 hn)) (ALe.icePtr gx gt3 (by simp) pt3 (hs1 hn))) ?_
 exact wr'<|Vw (ZgG mp)<|mw<|sn'<|Zaa<|Zah rz<|rT' rfl
theorem on_r {r:Rul}{y:Int}{h:AH}(hr:Zbr r=0) (hy:1900≤y∧y≤2100):Ac 94 [iv y,iv r.2.2.2.1,.agg [iv r.2.2.2.2.1.1,iv r.2.2.2.2.1.2.1,iv r.2.2.2.2.1.2.2]] h (.tup [.agg [iv (Zbu (rDy r y)).1,iv (Zbu (rDy r y)).2.1,iv (Zbu (rDy r y)).2.2],iv 0]):=by
 have:=on_a (y:=y) (m:=r.2.2.2.1) (k:=r.2.2.2.2.1.1) (wk:=r.2.2.2.2.1.2.1) (n:=r.2.2.2.2.1.2.2) (h:=h)
 rw[(ZiY hr hy).1] at this
 exact this
theorem num_r {k:Int}{h:AH}(hk : -30000≤k∧k≤50000):Ac 98 [.agg [iv (Zbu k).1,iv (Zbu k).2.1,iv (Zbu k).2.2]] h (iv k):=by
 obtain⟨h1,h2⟩:=Zgs (days:=k) om om
 have hd:=Zcd.1 h1
 have hm:=ZdE (Zbu k).1 (Zbu k).2.1
 have:=Zio (y:=(Zbu k).1) (m:=(Zbu k).2.1) (d:=(Zbu k).2.2) (h:=h) om om om om om om
 rwa [h2] at this
theorem ZnU {r:Rul}{j:Nat}(hj:(j:Int)<r.2.2.1+1-r.2.1):(Zdc r).take (j+1)=(Zdc r).take j++[(ZdH r (r.2.1+(j:Int)),r)]:=by
 have hl:j<(Zdc r).length:=by unfold Zdc;rw[List.length_map,Zc4];show j<(r.2.2.1+1-r.2.1).toNat;omega
 rw[List.take_succ_eq_append_getElem hl]
 congr 2
 simp[Zdc,Zb3]
theorem ZnT {l:List Rul}{nm:ByteArray}{k:Nat}(hk:k<l.length) (hn:l[k].1=nm) : ∃ m,Zbn l nm=Zbn (l.take k) nm++(Zdc l[k]++m):=by
 refine⟨Zbn (l.drop (k+1)) nm,?_⟩
 have e:l=l.take k++l[k]::l.drop (k+1):=by rw[←List.drop_eq_getElem_cons hk,List.take_append_drop]
 have:Zbn l nm=Zbn (l.take k++l[k]::l.drop (k+1)) nm:=by rw[←e]
 rw[this]
 unfold Zbn
 rw[List.flatMap_append,List.flatMap_cons,if_pos hn]
theorem turns1_a {l:List Rul}{nm:ByteArray}{lp M0:Nat}{H:List Trn→AH}(hok : ∀ r∈l,Zbr r=0) (hz:l.length≤40) (hH : ∀ d,(H d).length=M0) (hHlt : ∀ d,∀ e∈H d,e.lt M0=true)
  (hY : ∀ (d:List Trn) (t:Trn) (e f:Ent),d.length<(Zbn l nm).length→AYield Tryz.prog lp [.agg (trnC t)] (H d++[e,f]) fun r h''=>r=.ret (.v (.bool true))∧h''=H (d++[t])++[e,f]) :
  ACalls Tryz.prog 159 [.v (.func (.yield lp) #[] #[]),.rp [.sl l.length 11 false (rows rulC l)],.rp [sv nm]] (H []) fun x h'=>x=.ret (.tup [])∧h'=H (Zbn l nm):=by
 refine tJ' k159 fun N hn hlt hlA hbd=>?_
 simp only[tb'] at hbd ⊢
 have hMN:M0=N:=(hH []).symm.trans hn
 simp only[hMN] at hH hHlt
 refine wr'<|Vw (Zar lk gt)<|Vw (ZaG lk)<|mw<|sn'<|Zam<|?_
 refine Zsv (ι:=Nat) (fun (k:Nat)=>[(11,iv (k:Int))]++rn' 5 4++rn' 12 36) (fun (k:Nat)=>H (Zbn (l.take k) nm)++[]) (fun (k:Nat)=>k≤l.length) (fun (k:Nat)=>l.length-k) (0) (by exact Nat.zero_le _) (by try simp only[sm',Nat.reduceAdd];exact ALe.same wA' rfl) ?_
 rintro k hi1
 try simp only[sm',Nat.reduceAdd]
 replace hi1:k≤l.length:=hi1
 refine wr'<|Vw (ZaZ lk lk)<|sn'<|Zag<|?_
 refine cd' lk (fun hc1=>?_) (fun hc1=>?_)
 ·have hk:k<l.length:=by omega
  have hr:=hok _ (List.getElem_mem hk)
  obtain⟨hr1,hr2,hr3⟩:1900≤l[k].2.1∧l[k].2.1≤l[k].2.2.1∧l[k].2.2.1≤2100:=⟨(ZbV hr).1,(ZbV hr).2.1,(ZbV hr).2.2.1⟩
  obtain⟨hr4,hr5⟩:(Zdc l[k]).length≤201∧((Zdc l[k]).length:Int)=l[k].2.2.1-l[k].2.1+1:=Zhu hr
  refine Zad<|Zae<|Zag<|Zam<|wr'<|?_
  refine V' (ZaJ lk lk Zck (nb' rfl) ro om ro rfl) pt ?_
  refine Vw (ZaF lk Zlf rfl)<|E' (Za7 (hl0 (hH _)) ha0) pt<|E' (Zaj lk cv (hga (hH _) rfl) rfl (nb' rfl) rfl ZjL (hs0 (hH _))) ptn<|sn'<|Zag<|wr'<|Vw (Zac lk)<|Vw (Zab lk (hga (hH _) rfl) gt0)<|Vw (Zar lk gt)<|Vw (ZcF lk lk)<|sn'<|?_
  refine cd' lk (fun hc2=>?_) (fun hc2=>?_)
  ·refine ZaD<|Zay<|ZaU<|Zae<|Zat<|?_
   refine V' (Zax lk lki om om) pt ?_
   refine mw<|Zaq<|ZaB<|?_
   refine lU' (k+1) (by (try dsimp only);omega) (by (try dsimp only);(try simp only[sm',Nat.reduceAdd]);exact ALe.trans (ALe.back wA' rfl (E1:=[]) (k:=N+0) (by simp only[List.length_cons,List.length_nil,(hH _)]) om (by exact lt') (ltw om (hHlt _)) (by rfl)) (ALe.same (WkL.refl _) (by rw[Zj4 hk,if_neg hc2,List.append_nil (Zbn _ _)])))
  have hnm:l[k].1=nm:=Decidable.of_not_not hc2
  obtain⟨mm,hmm⟩:=ZnT hk hnm
  refine Zad<|Zae<|wr'<|Vw (Zac lk)<|Vw (Zab lk (hga (hH _) rfl) gt1)<|mw<|sn'<|Zam<|?_
  refine Zsv (ι:=Nat) (fun (j:Nat)=>[(6,iv (l[k].2.1+(j:Int))),(7,.any),(8,.any)]++rn' 21 26) (fun (j:Nat)=>H (Zbn (l.take k) nm++(Zdc l[k]).take j)++[Ent.mk 0 36 11 (rulC l[k])]) (fun (j:Nat)=>(j:Int)≤l[k].2.2.1-l[k].2.1+1) (fun (j:Nat)=>(Zdc l[k]).length-j) (0) (by show (0:Int)≤_;omega) (by try simp only[sm',Nat.reduceAdd];exact ALe.same wA' (by rw[List.take_zero,List.append_nil])) ?_
  rintro j hi2
  try simp only[sm',Nat.reduceAdd]
  replace hi2:(j:Int)≤l[k].2.2.1-l[k].2.1+1:=hi2
  refine Zag<|wr'<|mw<|Vw (Zac lk)<|Vw (Zab lk (hga (hH _) rfl) gt2)<|Vw (Zc0 lk lk)<|sn'<|?_
  refine cd' lk (fun hc3=>?_) (fun hc3=>?_)
  ·have hy:1900≤l[k].2.1+(j:Int)∧l[k].2.1+(j:Int)≤2100:=by omega
   obtain⟨hd1,hd2⟩:=ZiY hr hy
   have ha6:0≤l[k].2.2.2.2.2.1∧l[k].2.2.2.2.2.1≤172800:=(ZbV hr).2.2.2.2.2.1
   have hd3 : -30000≤rDy l[k] (l[k].2.1+(j:Int))∧rDy l[k] (l[k].2.1+(j:Int))≤50000:=hd2
   refine Zad<|Zae<|Zag<|Zam<|wr'<|mw<|Vw (Zac lk)<|Vw (Zab lk (hga (hH _) rfl) gt3)<|Vw (Zac lk)<|Vw (Zao lk (hga (hH _) rfl) Zsg rfl)<|Zaf mp (on_r hr hy) pt<|mw<|Vw (Zbi lk gt)<|?_
   refine Vw (Zbi lk gt)<|E' (Za7 (hl1 (hH _)) ha1) pt<|E' (Zaj lk cv (hga (hH _) rfl) rfl (nb' rfl) rfl Zsi (hs1 (hH _))) ptn<|mw<|sn'<|Zag<|Zpr []<|Dw (v_mv lk)<|Dw (Zao lk (hga (hH _) rfl) Zsh rfl)<|?_
   refine ZaV mp (fun hE hX=>num_r hd2) pt ?_
   refine D' (Zer lk lki om om) pt ?_
   refine Dw (Zac lk)<|Dw (Zab lk (hga (hH _) rfl) gt7)<|?_
   refine D' (Zax lk lk om om) pt ?_
   refine Dw (Zao lk (hga (hH _) rfl) ZjK rfl)<|Dw (Zaw (ZjW cv rfl cv rfl))<|Za8<|Zor<|?_
   refine k_callY lk mp (hY _ (ZdH l[k] (l[k].2.1+(j:Int)),l[k]) _ _ (by rw[hmm,List.length_append,List.length_append,List.length_append,List.length_take];omega)) (by intro i hi;simp at hi) pt ?_
   refine Zq4 rfl (ZaC lk) pt<|Zt4<|Zae<|ZaT lk<|Zad<|ZaA<|Zae<|Zat<|mw<|?_
   refine V' (Zax lk lki om om) pt ?_
   refine mw<|Zaq<|ZaB<|?_
   refine lU' (j+1) (by (try dsimp only);omega) (by (try dsimp only);(try simp only[sm',Nat.reduceAdd]);exact ALe.trans (ALe.back wA' rfl (E1:=[Ent.mk 0 36 11 (rulC l[k])]) (k:=N+1) (by simp only[List.length_cons,List.length_nil,(hH _)]) om (by exact lt') (ltw om (hHlt _)) (by exact lt')) (ALe.same (WkL.refl _) (by rw[ZnU om,List.append_assoc])))
  refine ZaD<|Zay<|Zay<|ZaU<|ZaA<|Zae<|Zat<|?_
  refine V' (Zax lk lki om om) pt ?_
  refine mw<|Zaq<|ZaB<|?_
  refine lU' (k+1) (by (try dsimp only);omega) (by (try dsimp only);(try simp only[sm',Nat.reduceAdd]);exact ALe.trans (ALe.back wA' rfl (E1:=[]) (k:=N+0) (by simp only[List.length_cons,List.length_nil,(hH _)]) om (by exact lt') (ltw om (hHlt _)) (by rfl)) (ALe.same (WkL.refl _) (by rw[Zj4 hk,if_pos hnm,List.take_of_length_le (l:=Zdc l[k]) om])))
 refine ZaD<|Zay<|Zay<|ZaU<|w_end (rs0)<|?_
 exact⟨_,_,rfl,hH _,hHlt _,rfl,rfl,by rw[List.take_of_length_le om]⟩
end Go.Proofs.YtlekejpogddndaaGreatDoor
end
section
namespace Go.Ab
open Go.RowKit Go.Sort
section
variable {P : Program}
theorem Zn9 (w:World) (g:Gh) : ∀ {vs us:List Value},RepL w g (vs.map .v) us↔us=vs
 | [],us=>by simp only[List.map_nil,RepL]
 | v::vs,us=>by
  simp only[List.map_cons,RepL,Rep,Zn9 w g (vs:=vs)]
  constructor
  ·rintro⟨u,us',rfl,rfl,rfl⟩;rfl
  ·rintro rfl;exact⟨_,_,rfl,rfl,rfl⟩
theorem ACalls.of_turn {f:FuncId}{args:List AV}{h:AH}{id ver ty st:Nat}{cells:List AV}{R':List AV→Prop}(he:enters P f=true) (hi:h[id]?=some (.mk ver ty st cells)) (hne:cells≠[])
  (hc : ∀ w g (vs:Array Value) b cap arr,SimH w g h→RepL w g args vs.toList→g.loc id ver=some (some ⟨b,0,none⟩,cap)→w.heap[b]?=some (.cells arr ty (0,0))→arr.size=cap*st→cells.length≤arr.size→RepL w g cells (arr.toList.take cells.length) →
   Calls P f vs w fun e w'=>e=.returned (.tuple #[]) ∧ ∃ (vs':List Value) (arr':Array Value),R' (vs'.map .v)∧w'.heap[b]?=some (.cells arr' ty (0,0))∧arr'.size=arr.size∧vs'.length=cells.length∧arr'.toList.take cells.length=vs' ∧
    w'.os=w.os∧w'.tape=w.tape∧w'.output=w.output∧w.heap.size≤w'.heap.size ∧ ∀ k,k<w.heap.size→k≠b→w'.heap[k]?=w.heap[k]?) :
  ACalls P f args h fun x h'=>x=.ret (.tup []) ∧ ∃ cells',R' cells'∧h'=h.set id (.mk ver ty st cells'):=by
 refine⟨he,fun w g vs hs ha=>?_⟩
 obtain⟨A,cap,f1,fm,f3⟩:=hs.ent _ _ _ _ _ hi
 rcases f3 with ⟨e,_⟩ | ⟨b,arr,rfl,hc0,hd,hb,hsz,hle,hrl⟩
 ·exact absurd e hne
 have hid:id<h.length:=(List.getElem?_eq_some_iff.1 hi).1
 have how:OwAt g h id b:=⟨ver,ty,st,cells,_,cap,hi,f1,hc0,rfl⟩
 refine (hc w g vs b cap arr hs ha f1 hb hsz hle hrl).mono ?_
 rintro e w' ⟨rfl,vs',arr',hR,h1,h2,h3,h4,h5,h6,h7,h8,h9⟩
 have hother : ∀ j,g.D j∨(∃ i,i≠id∧OwAt g h i j)∨(∃ i,RwAt h i j)→w'.heap[j]?=w.heap[j]?:=by
  rintro j (hj | ⟨i,hne',hj⟩ | ⟨i,hj⟩)
  rotate_left 2
  ·exact h9 j (hs.own_not_D (.inr ⟨i,hj⟩)).2 (fun e=>by subst e;exact hs.own_ne_raw how hj)
  ·exact h9 j (hs.lt j hj) (fun e=>hd (e ▸ hj))
  ·exact h9 j (hs.own_not_D (.inl ⟨i,hj⟩)).2 (fun e=>hne' (hs.inj i id j hj (e ▸ how)))
 obtain⟨k1,k2,k3⟩:=hs.put (w':=w') (g':=g) (h':=h.set id (.mk ver ty st (vs'.map .v))) id ver ty st (vs'.map .v) (some ⟨b,0,none⟩) cap
  (fun i hne'=>by rw[List.getElem?_set_ne (Ne.symm hne')]) (by rw[List.getElem?_set_self hid]) (by simp) rfl (fun _ _ _ h=>h) (fun _ _ _ h=>.inl h) f1 (fun v l hv=>(hs.fresh _ _ _ hv).2 _ _ _ _ hi) hother h8 fm
  (.inr ⟨b,arr',rfl,hc0,hd,h1,by rw[h2,hsz],by rw[List.length_map,h3,h2];exact hle,by rw[List.length_map,h3,h4];exact (Zn9 w' g).2 rfl⟩)
  (fun j hj _ i hne' ho=>by
   simp at hj
   subst hj
   exact hne' (hs.inj i id _ ho how))
 refine⟨.ret (.tup []),_,g,?_,k1,k2,⟨h5,h6,h7,h8,fun k hk hn=>h9 k hk (fun e=>hn (.inl ⟨id,e ▸ how⟩))⟩,fun k hk=>?_,rfl,_,hR,rfl⟩
 ·simp only[EndR,Rep];exact⟨#[],rfl,by simp only[RepL]⟩
 ·rcases k3 k hk with ho | ⟨ho,_⟩
  ·exact .inl ho
  ·simp at ho;subst ho;exact .inl (.inl ⟨id,how⟩)
end
section
variable {P : Program} {α : Type}
theorem Zug {enc:α→List Value}{k:Nat}(hk : ∀ x,(enc x).length=k) : ∀ (l:List α) (i j:Nat) (h:i<l.length),j<k→(l.flatMap enc)[i*k+j]?=(enc l[i])[j]?
 | [],i,j,h,_=>by simp at h
 | x::l,0,j,h,hj=>by
  rw[List.flatMap_cons,Nat.zero_mul,Nat.zero_add,List.getElem?_append_left (by rw[hk];exact hj)];rfl
 | x::l,i+1,j,h,hj=>by
  have ih:=Zug hk l i j (by simpa using h) hj
  rw[List.flatMap_cons,List.getElem?_append_right (by rw[hk,Nat.succ_mul];omega),hk,show (i+1)*k+j-k=i*k+j by rw[Nat.succ_mul];omega,ih];rfl
theorem ZeY {enc:α→List Value}{k:Nat}(hk : ∀ x,(enc x).length=k) : ∀ (l:List α),(l.flatMap enc).length=l.length*k
 | []=>by simp
 | x::l=>by rw[List.flatMap_cons,List.length_append,hk,ZeY hk l,List.length_cons,Nat.succ_mul];omega
theorem Zkw [Inhabited α] {enc:α→List Value}{k:Nat}(hk0:0<k) (hk : ∀ x,(enc x).length=k) (d:Array α):(Go.Sort.flatK enc k d).toList=d.toList.flatMap enc:=by
 apply List.ext_getElem?
 intro t
 by_cases ht:t<d.size*k
 ·have h1:t/k<d.size:=Nat.div_lt_of_lt_mul (by rw[Nat.mul_comm];exact ht)
  have h2:t%k<k:=Nat.mod_lt _ hk0
  have h3:=Zug hk d.toList (t/k) (t%k) (by simpa using h1) h2
  rw[Nat.mul_comm (t/k) k,Nat.div_add_mod] at h3
  rw[h3]
  have hs:t<(Go.Sort.flatK enc k d).size:=by simpa using ht
  have h4:=Go.Sort.get_flatK enc k d t ht
  rw[getElem!_pos _ t hs,getElem!_pos _ (t/k) h1,getElem!_pos _ (t%k) (by rw[hk];exact h2)] at h4
  rw[Array.getElem?_toList,Array.getElem?_eq_getElem hs,h4,Array.getElem_toList,List.getElem?_eq_getElem (by rw[hk];exact h2)]
  rfl
 ·rw[List.getElem?_eq_none (by simpa using ht),List.getElem?_eq_none (by rw[ZeY hk];simpa using ht)]
theorem rows_v {enc:α→List Value}(l:List α):rows (fun x=>(enc x).map .v) l=(l.flatMap enc).map .v:=by
 unfold rows
 rw[List.map_flatMap]
theorem sort_a [Inhabited α] {ρ:Go.Shelf.Ren}(L:Go.Proofs.SlLaysF0.n6 P ρ) {k:Nat}(hk0:0<k) (aE : ∀ w,(isAgg (ρ.t 24)).run P w=.ok true w) (zE : ∀ w,(Go.sizeOf (ρ.t 24)).run P w=.ok k w) {enc:α→List Value}(hk : ∀ x,(enc x).length=k) (h1 : ∀ x,∀ v∈enc x,v.oneCell'=true) {cf:α→α→Int}(hO:SWO (Go.Proofs.ltOf cf)) {g0:Nat}
  (eg : ∀ args w,(callFunc g0 args).run P w=.ok (.enter g0 args) w) (hcmp : ∀ blk off size w,Go.Proofs.CmpLays P g0 #[] enc k cf blk off size w) {h:AH} {id ver ty:Nat} {l:List α} (hi:h[id]?=some (.mk ver ty k (rows (fun x=>(enc x).map .v) l))) (hl:l≠[]) (hz:l.length<4611686018427387904) (he:enters P (ρ.f 6)=true) :
  ACalls P (ρ.f 6) [.own id ver l.length,.v (.func (.func g0) #[] #[])] h fun x h'=>x=.ret (.tup []) ∧ ∃ l':List α,l'.Perm l∧(∀ i j (hi:i<l'.length) (hj:j<l'.length),i<j→Go.Proofs.ltOf cf l'[j] l'[i]=false)∧h'=h.set id (.mk ver ty k (rows (fun x=>(enc x).map .v) l')):=by
 have hlen:=Zbh (f:=fun x=>(enc x).map .v) (st:=k) (fun x=>by rw[List.length_map,hk]) l
 have hpos:0<l.length:=List.length_pos_iff.2 hl
 refine (ACalls.of_turn (R':=fun cs => ∃ l':List α,l'.Perm l∧(∀ i j (hi:i<l'.length) (hj:j<l'.length),i<j→Go.Proofs.ltOf cf l'[j] l'[i]=false)∧cs=rows (fun x=>(enc x).map .v) l') he hi ?_ ?_).mono ?_
 ·intro e
  have:=congrArg List.length e
  rw[hlen] at this
  have h0:0<l.length*k:=Nat.mul_pos hpos hk0
  simp at this;omega
 ·intro w g vs b cap arr hs ha hloc hb hsz hle hr
  simp only[RepL,Rep,hloc] at ha
  obtain⟨u1,us1,e1,⟨A,c,e2,hn1,hn2,rfl⟩,u2,us2,rfl,rfl,rfl⟩:=ha
  simp only[Option.some.injEq,Prod.mk.injEq] at e2
  obtain⟨rfl,rfl⟩:=e2
  obtain rfl:vs = #[.slice (some ⟨b,0,none⟩) l.length cap,.func (.func g0) #[] #[]]:=by cases vs;simp_all
  have hr':arr.toList.take (l.length*k)=l.flatMap enc:=by
   rw[hlen,rows_v] at hr
   exact (Zn9 w g).1 hr
  have hblk:b<w.heap.size:=(Array.getElem?_eq_some_iff.1 hb).1
  have hflat:=Zkw hk0 hk l.toArray
  have hgetF : ∀ (d:Array α) (t:Nat),t<d.size*k→(Go.Sort.flatK enc k d).toList[t]?=some (Go.Sort.flatK enc k d)[t]!:=by
   intro d t ht
   have hs:t<(Go.Sort.flatK enc k d).size:=by simpa using ht
   rw[getElem!_pos _ t hs,Array.getElem?_toList,Array.getElem?_eq_getElem hs]
  have hH:Go.Sort.HoldsK enc k w b 0 l.toArray:=by
   intro j hj
   have hj':j<l.length*k:=by simpa using hj
   rw[Nat.zero_add]
   refine⟨?_,frozen_of_row w b j arr ty hb⟩
   rw[cell_of_row w b j arr ty (0,0) hb,←Array.getElem?_toList]
   have h5:arr.toList[j]?=(l.flatMap enc)[j]?:=by rw[←hr',List.getElem?_take_of_lt hj']
   rw[h5,show l.flatMap enc=(Go.Sort.flatK enc k l.toArray).toList from hflat.symm,hgetF _ _ (by simpa using hj')];rfl
  refine (Go.Proofs.AnyQ.slices_SortFunc L k aE zE enc hk h1 cf hO g0 #[] b 0 cap l.toArray w eg (hcmp b 0 l.toArray.size w) hH hblk (by simpa using hz)).mono ?_
  rintro e w' ⟨rfl,d',n,os,⟨p1,_,p3⟩,hso,rfl⟩
  have hds:d'.size=l.length:=by simpa using p1
  have hw' : ∀ j,j<w.heap.size→(Go.Proofs.sortWorldK enc k w b 0 n d' os).heap[j]?=(w.heap.modify b (onCells (putCells _root_.id 0 (Go.Sort.flatK enc k d'))))[j]?:=by
   intro j hj
   show ((w.heap.modify b (onCells (putCells _root_.id 0 (Go.Sort.flatK enc k d'))))++os)[j]?=_
   rw[Array.getElem?_append_left (by simpa using hj)]
  have hsz2:arr.size=(putCells _root_.id 0 (Go.Sort.flatK enc k d') arr).size:=by simp[putCells]
  refine⟨rfl,d'.toList.flatMap enc,putCells _root_.id 0 (Go.Sort.flatK enc k d') arr,⟨d'.toList,?_,?_,(rows_v _).symm⟩,?_,hsz2.symm,?_,?_,rfl,rfl,rfl,?_,?_⟩
  ·have e1:d'.extract 0 l.toArray.size=d':=by rw[←p1];simp
   have e2:l.toArray.extract 0 l.toArray.size=l.toArray:=by simp
   rw[e1,e2] at p3
   simpa using p3
  ·intro i j hi hj hij
   have:=hso i j (Nat.zero_le _) hij (by simpa [hds] using hj)
   rw[getElem!_pos d' j (by simpa using hj),getElem!_pos d' i (by simpa using hi)] at this
   simpa using this
  ·rw[hw' b hblk,Array.getElem?_modify,if_pos rfl,hb];rfl
  ·rw[ZeY hk,hlen,Array.length_toList,hds]
  ·rw[hlen]
   apply List.ext_getElem?
   intro t
   by_cases ht:t<l.length*k
   ·have ht2:t<d'.size*k:=by rw[hds];exact ht
    have hta:t<arr.size:=by rw[hlen] at hle;omega
    rw[List.getElem?_take_of_lt ht,←Zkw hk0 hk d',hgetF d' t ht2]
    unfold putCells
    rw[Array.getElem?_toList,Array.getElem?_mapIdx,Array.getElem?_eq_getElem hta,Option.map_some,if_pos ⟨Nat.zero_le _,by simpa using ht2⟩]
    rfl
   ·rw[List.getElem?_eq_none (by simp;omega),List.getElem?_eq_none (by rw[ZeY hk,Array.length_toList,hds];omega)]
  ·show w.heap.size≤((w.heap.modify b (onCells (putCells _root_.id 0 (Go.Sort.flatK enc k d'))))++os).size
   simp
  ·intro j hj hjb
   rw[hw' j hj,Array.getElem?_modify,if_neg (Ne.symm hjb)]
 ·rintro x h' ⟨rfl,cs,⟨l',hp,hs,rfl⟩,rfl⟩
  exact⟨rfl,l',hp,hs,rfl⟩
end
end Go.Ab
end
section
namespace Go.Proofs
open Go.Shelf
def Tryz.sl9_ren:Go.Shelf.Ren:=⟨fun | 6=>88 | 15=>161 | 14=>160 | 28=>243 | 29=>244 | 20=>235 | 21=>236 | 22=>237 | 23=>238 | 24=>239 | 25=>240 | 26=>241 | 27=>242 | 46=>283 | 47=>284 | 48=>285 | 49=>286 | 50=>287 | 57=>322 | n=>n,fun | 22=>140 | 24=>144 | 25=>147 | 3=>3 | 39=>211 | 0=>0 | 53=>279 | 55=>281 | 4=>4 | 46=>273 | 45=>272 | 50=>170 | 5=>5 | 9=>9 | 66=>311 | 70=>315 | 76=>337 | 77=>307 | n=>n,fun | n=>n⟩
theorem Tryz.sl9:Go.Proofs.SlLaysF0.n6 Tryz.prog Tryz.sl9_ren:={
 mixed:=by kernel_rfl
 f6:=⟨Tryz.f88.name,by decide,Tryz.func88.trans (congrArg some (by kernel_rfl))⟩
 f14:=⟨Tryz.f160.name,by decide,Tryz.func160.trans (congrArg some (by kernel_rfl))⟩
 f15:=Tryz.func161.trans (congrArg some (by kernel_rfl))
 f20:=⟨Tryz.f235.name,by decide,Tryz.func235.trans (congrArg some (by kernel_rfl))⟩
 f21:=⟨Tryz.f236.name,by decide,Tryz.func236.trans (congrArg some (by kernel_rfl))⟩
 f22:=⟨Tryz.f237.name,by decide,Tryz.func237.trans (congrArg some (by kernel_rfl))⟩
 f23:=⟨Tryz.f238.name,by decide,Tryz.func238.trans (congrArg some (by kernel_rfl))⟩
 f24:=⟨Tryz.f239.name,by decide,Tryz.func239.trans (congrArg some (by kernel_rfl))⟩
 f25:=⟨Tryz.f240.name,by decide,Tryz.func240.trans (congrArg some (by kernel_rfl))⟩
 f26:=⟨Tryz.f241.name,by decide,Tryz.func241.trans (congrArg some (by kernel_rfl))⟩
 f27:=⟨Tryz.f242.name,by decide,Tryz.func242.trans (congrArg some (by kernel_rfl))⟩
 f28:=Tryz.func243.trans (congrArg some (by kernel_rfl))
 f29:=Tryz.func244.trans (congrArg some (by kernel_rfl))
 f46:=⟨Tryz.f283.name,by decide,Tryz.func283.trans (congrArg some (by kernel_rfl))⟩
 f47:=Tryz.func284.trans (congrArg some (by kernel_rfl))
 f48:=Tryz.func285.trans (congrArg some (by kernel_rfl))
 f49:=⟨Tryz.f286.name,by decide,Tryz.func286.trans (congrArg some (by kernel_rfl))⟩
 f50:=⟨Tryz.f287.name,by decide,Tryz.func287.trans (congrArg some (by kernel_rfl))⟩
 f57:=⟨Tryz.f322.name,by decide,Tryz.func322.trans (congrArg some (by kernel_rfl))⟩
 t0:=Tryz.underlying0
 a0:=Tryz.isAgg0
 z0:=Tryz.sizeOf0
 v0:=Tryz.zeroValue0
 t3:=Tryz.underlying3
 a3:=Tryz.isAgg3
 z3:=Tryz.sizeOf3
 v3:=Tryz.zeroValue3
 t4:=Tryz.underlying4
 a4:=Tryz.isAgg4
 z4:=Tryz.sizeOf4
 v4:=Tryz.zeroValue4
 t5:=Tryz.underlying5
 a5:=Tryz.isAgg5
 z5:=Tryz.sizeOf5
 v5:=Tryz.zeroValue5
 t9:=Tryz.underlying9
 a9:=Tryz.isAgg9
 z9:=Tryz.sizeOf9
 v9:=Tryz.zeroValue9
 t22:=Tryz.underlying140
 a22:=Tryz.isAgg140
 z22:=Tryz.sizeOf140
 v22:=Tryz.zeroValue140
 t25:=Tryz.underlying147
 a25:=Tryz.isAgg147
 z25:=Tryz.sizeOf147
 v25:=Tryz.zeroValue147
 t39:=Tryz.underlying211
 a39:=Tryz.isAgg211
 z39:=Tryz.sizeOf211
 v39:=Tryz.zeroValue211
 t45:=Tryz.underlying272
 a45:=Tryz.isAgg272
 z45:=Tryz.sizeOf272
 v45:=Tryz.zeroValue272
 t46:=Tryz.underlying273
 a46:=Tryz.isAgg273
 z46:=Tryz.sizeOf273
 v46:=Tryz.zeroValue273
 t50:=Tryz.underlying170
 a50:=Tryz.isAgg170
 z50:=Tryz.sizeOf170
 v50:=Tryz.zeroValue170
 t53:=Tryz.underlying279
 a53:=Tryz.isAgg279
 z53:=Tryz.sizeOf279
 v53:=Tryz.zeroValue279
 t55:=Tryz.underlying281
 a55:=Tryz.isAgg281
 z55:=Tryz.sizeOf281
 v55:=Tryz.zeroValue281
 t66:=Tryz.underlying311
 a66:=Tryz.isAgg311
 z66:=Tryz.sizeOf311
 v66:=Tryz.zeroValue311
 t70:=Tryz.underlying315
 a70:=Tryz.isAgg315
 z70:=Tryz.sizeOf315
 v70:=Tryz.zeroValue315
 t76:=Tryz.underlying337
 a76:=Tryz.isAgg337
 z76:=Tryz.sizeOf337
 v76:=Tryz.zeroValue337
 t77:=Tryz.underlying307
 a77:=Tryz.isAgg307
 z77:=Tryz.sizeOf307
 v77:=Tryz.zeroValue307 }
end Go.Proofs
end
section
namespace Go.Proofs
open Go.Shelf
def Tryz.lays122_ren:Go.Shelf.Ren:=⟨fun | 122=>90 | 215=>162 | n=>n,fun | 3=>3 | 4=>4 | n=>n,fun | n=>n⟩
theorem Tryz.lays122:Go.Proofs.Lays.n122 Tryz.prog Tryz.lays122_ren:={
 mixed:=by kernel_rfl
 f122:=Tryz.func90.trans (congrArg some (by kernel_rfl))
 f215:=Tryz.func162.trans (congrArg some (by kernel_rfl))
 t3:=Tryz.underlying3
 a3:=Tryz.isAgg3
 z3:=Tryz.sizeOf3
 v3:=Tryz.zeroValue3
 t4:=Tryz.underlying4
 a4:=Tryz.isAgg4
 z4:=Tryz.sizeOf4
 v4:=Tryz.zeroValue4 }
open Go.RowKit in
theorem Tryz.cmp_Compare_int (x y:Int) (w:World) :
  Calls Tryz.prog 90 #[.int .i64 x,.int .i64 y] w fun e w'=>e=.returned (.int .i64 (Lib.compareInt x y))∧w'=w:=Any.cmp_Compare_int Tryz.lays122 x y w
end Go.Proofs
end
section
namespace Go.Proofs.YtlekejpogddndaaGreatDoor
open Go.Ab Go.RowKit Civ Go.Sort
def trnV (t:Trn):List Value:=[.int .i64 t.1,.string t.2.1,.int .i64 t.2.2.1,.int .i64 t.2.2.2.1,.int .i64 t.2.2.2.2.1,.int .i64 t.2.2.2.2.2.1.1,.int .i64 t.2.2.2.2.2.1.2.1,.int .i64 t.2.2.2.2.2.1.2.2,.int .i64 t.2.2.2.2.2.2.1,.int .i64 t.2.2.2.2.2.2.2.1,.int .i64 t.2.2.2.2.2.2.2.2.1,.string t.2.2.2.2.2.2.2.2.2]
def cmpT (a b:Trn):Int:=Lib.compareInt a.1 b.1
theorem Zux (a b:Trn):Go.Proofs.ltOf cmpT a b=decide (a.1<b.1):=by
 unfold Go.Proofs.ltOf cmpT Lib.compareInt
 rw[Bool.eq_iff_iff]
 simp only[decide_eq_true_eq]
 repeat' split
 all_goals omega
theorem cmpT_swo:SWO (Go.Proofs.ltOf cmpT):=by
 refine⟨fun x=>?_,fun x y z=>?_,fun x y z=>?_⟩ <;> simp only[Zux,decide_eq_true_eq,decide_eq_false_iff_not] <;> omega
theorem cmp_walk (x y:Trn) (w:World):Calls Tryz.prog 89 #[.agg (trnV x).toArray,.agg (trnV y).toArray] w fun e w'=>e=.returned (.int .i64 (cmpT x y)) ∧ ∃ q os,w'=grow (w.drewN q) os:=by
 obtain⟨a,n,f,t,m,⟨k,v,d⟩,c,e,s,l⟩:=x
 obtain⟨a2,n2,f2,t2,m2,⟨k2,v2,d2⟩,c2,e2,s2,l2⟩:=y
 simp only[trnV]
 go_enter Tryz.func89,Tryz.ntmps89
 go_wp2_with (go_at_call 90;refine (Tryz.cmp_Compare_int _ _ _).mono ?_;rintro e w' ⟨rfl,rfl⟩)
 go_ret
 refine⟨rfl,?_⟩
 rw[alloc_eq_grow,alloc_eq_grow,grow_grow]
 exact⟨0,_,rfl⟩
def ordT (l l':List Trn):Prop:=l'.Perm l∧l'.Pairwise fun a b=>a.1≤b.1
theorem sortT_a {h:AH}{id ver ty:Nat}{l:List Trn}(hi:h[id]?=some (.mk ver ty 12 (rows trnC l))) (hl:l≠[]) (hz:l.length<4611686018427387904) :
  ACalls Tryz.prog 88 [.own id ver l.length,.v (.func (.func 89) #[] #[])] h fun x h'=>x=.ret (.tup []) ∧ ∃ l',ordT l l'∧h'=h.set id (.mk ver ty 12 (rows trnC l')):=by
 refine (sort_a (P:=Tryz.prog) Tryz.sl9 (k:=12) om (fun w=>by kernel_rfl) (fun w=>by kernel_rfl) (enc:=trnV) (fun _=>rfl) (fun t v hv=>?_) cmpT_swo (g0:=89) (fun args w=>?_) (fun blk off size w m os dk hd x y=>cmp_walk x y _) hi hl hz (by kernel_rfl)).mono ?_
 ·unfold trnV at hv
  simp only[List.mem_cons,List.not_mem_nil,or_false] at hv
  rcases hv with rfl | rfl | rfl | rfl | rfl | rfl | rfl | rfl | rfl | rfl | rfl | rfl <;> rfl
 ·exact Zjb (by kernel_rfl) args w
 ·rintro x h' ⟨rfl,l',hp,hs,rfl⟩
  refine⟨rfl,l',⟨hp,List.pairwise_iff_getElem.2 fun i j hi hj hij=>?_⟩,rfl⟩
  have:=hs i j hi hj hij
  rw[Zux] at this
  simp only[decide_eq_false_iff_not] at this
  omega
end Go.Proofs.YtlekejpogddndaaGreatDoor
end
section
namespace Go.Proofs.YtlekejpogddndaaGreatDoor
open Go.Ab Go.RowKit Civ
attribute [local simp] Zbw Zmk Zeb
section
theorem ZjJ {a0 a1 a2 a3 a4 a5 a6 a7 a8 a9 a10 a11 c0 c1 c2 c3 c4 c5 c6 c7 c8 c9 c10 c11:AV}{l:List AV}:setCells (a0::a1::a2::a3::a4::a5::a6::a7::a8::a9::a10::a11::l) 0 [c0,c1,c2,c3,c4,c5,c6,c7,c8,c9,c10,c11]=c0::c1::c2::c3::c4::c5::c6::c7::c8::c9::c10::c11::l:=rfl
theorem Zpk {a0 a1 a2 a3 a4 a5 a6 a7 a8 a9 a10 a11:AV}{l:List AV}:((a0::a1::a2::a3::a4::a5::a6::a7::a8::a9::a10::a11::l).drop 0).take 12=[a0,a1,a2,a3,a4,a5,a6,a7,a8,a9,a10,a11]:=rfl
theorem ZnJ {τ:Operand→AV}{y0:Operand}{x0_0 x0_1 x0_2 x0_3 x0_4 x0_5 x0_6 x0_7 x0_8 x0_9 x0_10 x0_11:AV}(h0:Zav (τ y0)=some [x0_0,x0_1,x0_2,x0_3,x0_4,x0_5,x0_6,x0_7,x0_8,x0_9,x0_10,x0_11]) (l0:[x0_0,x0_1,x0_2,x0_3,x0_4,x0_5,x0_6,x0_7,x0_8,x0_9,x0_10,x0_11].all leaf=true):Zau τ [(0,12,y0)] [(.v (.int .i64 0)),(.v (.string ⟨#[]⟩)),(.v (.int .i64 0)),(.v (.int .i64 0)),(.v (.int .i64 0)),(.v (.int .i64 0)),(.v (.int .i64 0)),(.v (.int .i64 0)),(.v (.int .i64 0)),(.v (.int .i64 0)),(.v (.int .i64 0)),(.v (.string ⟨#[]⟩))]=some [x0_0,x0_1,x0_2,x0_3,x0_4,x0_5,x0_6,x0_7,x0_8,x0_9,x0_10,x0_11]:=by
 simp only[Zau,h0,l0]
 rfl
theorem Zse {a0 a1 a2 a3 a4 a5 a6 a7 a8 a9 a10 a11:AV}{l:List AV}:(a0::a1::a2::a3::a4::a5::a6::a7::a8::a9::a10::a11::l).take 12=[a0,a1,a2,a3,a4,a5,a6,a7,a8,a9,a10,a11]:=rfl
theorem Zsf {a0 c0:AV}{l:List AV}:setCells (a0::l) 0 [c0]=c0::l:=rfl
theorem ZjI {a0 a1 a2 a3 a4 a5 a6 a7 a8 a9 a10 a11:AV}{l:List AV}:((a0::a1::a2::a3::a4::a5::a6::a7::a8::a9::a10::a11::l).drop 1).take 11=[a1,a2,a3,a4,a5,a6,a7,a8,a9,a10,a11]:=rfl
theorem Zho {τ:Operand→AV}{y0 y1 y2:Operand}{x0_0 x1_0 x2_0:AV}(h0:Zav (τ y0)=some [x0_0]) (l0:[x0_0].all leaf=true) (h1:Zav (τ y1)=some [x1_0]) (l1:[x1_0].all leaf=true) (h2:Zav (τ y2)=some [x2_0]) (l2:[x2_0].all leaf=true):Zau τ [(0,1,y0),(1,1,y1),(2,1,y2)] [(.v (.int .i64 0)),(.v (.int .i64 0)),(.v (.string ⟨#[]⟩))]=some [x0_0,x1_0,x2_0]:=by
 simp only[Zau,h0,l0,h1,l1,h2,l2]
 rfl
theorem Zhn {τ:Operand→AV}{y0:Operand}{x0_0 x0_1 x0_2:AV}(h0:Zav (τ y0)=some [x0_0,x0_1,x0_2]) (l0:[x0_0,x0_1,x0_2].all leaf=true):Zau τ [(0,3,y0)] [(.v (.int .i64 0)),(.v (.int .i64 0)),(.v (.string ⟨#[]⟩))]=some [x0_0,x0_1,x0_2]:=by
 simp only[Zau,h0,l0]
 rfl
theorem ZnI { e:Ent}:([]:AH)++[e]=[e]:=rfl
theorem Zle {e0 e1 e2 e3 e4 e5 d0:Ent}:([e0,e1,e2,e3,e4,e5]:AH)++[d0]=[e0,e1,e2,e3,e4,e5,d0]:=rfl
theorem ZnH {a0 a1 a2:AV}{l:List AV}:(a0::a1::a2::l).take 3=[a0,a1,a2]:=rfl
end
def c31p:AC:=(.seq (.reg [⟨(some 6),none,(.mv (.const (.slice none 0 0)))⟩,⟨(some 7),none,(.mv (.const (.int .i64 0)))⟩]) (.seq (.reg [⟨(some 15),none,(.mv (.tmp 0))⟩,⟨(some 16),none,(.mv (.tmp 1))⟩,⟨(some 17),none,(.mv (.tmp 2))⟩,⟨(some 18),none,(.call (.func 86) [(.tmp 15),(.tmp 16),(.tmp 17)])⟩,⟨(some 8),none,(.mv (.tmp 18))⟩]) (.seq (.reg [⟨(some 19),none,(.mv (.tmp 8))⟩,⟨(some 20),none,(.bin .neq (.tmp 19) (.const (.int .i64 0)))⟩]) (.seq (.cond (.tmp 20) (.seq (.reg [⟨(some 21),none,(.mv (.tmp 8))⟩,⟨(some 6),none,(.mv (.const (.slice none 0 0)))⟩,⟨(some 7),none,(.mv (.tmp 21))⟩]) .ret) .skip) (.seq (.reg [⟨(some 9),none,(.new 140 1 [(.sl 0 0 true [])])⟩]) (.seq (.reg [⟨(some 22),none,(.mv (.tmp 0))⟩,⟨(some 23),none,(.mv (.tmp 1))⟩,⟨(some 24),none,(.call (.func 87) [(.tmp 22),(.tmp 23)])⟩]) .skip))))))
def c31a:AC:=(.reg [⟨(some 10),none,(.new 144 12 [(.v (.int .i64 0)),(.v (.string ⟨#[]⟩)),(.v (.int .i64 0)),(.v (.int .i64 0)),(.v (.int .i64 0)),(.v (.int .i64 0)),(.v (.int .i64 0)),(.v (.int .i64 0)),(.v (.int .i64 0)),(.v (.int .i64 0)),(.v (.int .i64 0)),(.v (.string ⟨#[]⟩))])⟩,⟨none,none,(.store 12 (.tmp 10) (.tmp 25))⟩])
def c31b:AC:=(.block 1 (.reg [⟨(some 26),none,(.load false 1 (.tmp 9))⟩,⟨(some 27),none,(.load true 12 (.tmp 10))⟩,⟨(some 28),none,(.lit 144 12 1 [(.v (.int .i64 0)),(.v (.string ⟨#[]⟩)),(.v (.int .i64 0)),(.v (.int .i64 0)),(.v (.int .i64 0)),(.v (.int .i64 0)),(.v (.int .i64 0)),(.v (.int .i64 0)),(.v (.int .i64 0)),(.v (.int .i64 0)),(.v (.int .i64 0)),(.v (.string ⟨#[]⟩))] [(0,(12,(.tmp 27)))])⟩,⟨(some 29),none,(.app 144 12 112 (.tmp 26) (.tmp 28))⟩,⟨none,none,(.store 1 (.tmp 9) (.tmp 29))⟩]))
def c31q:AC:=(.seq (.reg [⟨(some 30),none,(.load false 1 (.tmp 9))⟩,⟨(some 31),none,(.call (.func 88) [(.tmp 30),(.func 89)])⟩]) (.seq (.reg [⟨(some 11),none,(.mv (.const (.slice none 0 0)))⟩]) (.seq (.reg [⟨(some 12),none,(.mv (.const (.int .i64 0)))⟩]) (.seq (.reg [⟨(some 32),none,(.load false 1 (.tmp 9))⟩,⟨(some 33),none,(.len false (.tmp 32))⟩,⟨(some 34),none,(.mv (.const (.int .i64 0)))⟩]) (.seq (.block 2 (.loop (.seq (.reg [⟨(some 35),none,(.bin .lss (.tmp 34) (.tmp 33))⟩]) (.seq (.cond (.tmp 35) .skip (.exit 2)) (.seq (.block 3 (.seq (.reg [⟨(some 36),none,(.mv (.tmp 34))⟩,⟨(some 37),none,(.ia 12 (.tmp 32) (.tmp 34))⟩,⟨(some 38),none,(.load true 12 (.tmp 37))⟩,⟨(some 14),none,(.new 144 12 [(.v (.int .i64 0)),(.v (.string ⟨#[]⟩)),(.v (.int .i64 0)),(.v (.int .i64 0)),(.v (.int .i64 0)),(.v (.int .i64 0)),(.v (.int .i64 0)),(.v (.int .i64 0)),(.v (.int .i64 0)),(.v (.int .i64 0)),(.v (.int .i64 0)),(.v (.string ⟨#[]⟩))])⟩,⟨(some 13),none,(.mv (.tmp 36))⟩,⟨none,none,(.store 12 (.tmp 14) (.tmp 38))⟩]) (.seq (.seq (.drw [⟨(some 39),none,(.mv (.tmp 13))⟩,⟨(some 40),none,(.bin .gtr (.tmp 39) (.const (.int .i64 0)))⟩,⟨(some 41),none,(.mv (.tmp 40))⟩,⟨(some 42),(some (41,true)),(.fa 0 (.tmp 14))⟩,⟨(some 43),(some (41,true)),(.load false 1 (.tmp 42))⟩,⟨(some 44),(some (41,true)),(.load false 1 (.tmp 9))⟩,⟨(some 45),(some (41,true)),(.mv (.tmp 13))⟩,⟨(some 46),(some (41,true)),(.bin .sub (.tmp 45) (.const (.int .i64 1)))⟩,⟨(some 47),(some (41,true)),(.ia 12 (.tmp 44) (.tmp 46))⟩,⟨(some 48),(some (41,true)),(.fa 0 (.tmp 47))⟩,⟨(some 49),(some (41,true)),(.load false 1 (.tmp 48))⟩,⟨(some 50),(some (41,true)),(.bin .sub (.tmp 43) (.tmp 49))⟩,⟨(some 51),(some (41,true)),(.bin .lss (.tmp 50) (.const (.int .i64 172800)))⟩,⟨(some 52),none,(.pick (.tmp 41) (.tmp 51) (.const (.bool false)))⟩] [] []) (.cond (.tmp 52) (.seq (.reg [⟨(some 6),none,(.mv (.const (.slice none 0 0)))⟩,⟨(some 7),none,(.mv (.const (.int .i64 4)))⟩]) .ret) .skip)) (.seq (.drw [⟨(some 53),none,(.mv (.tmp 11))⟩,⟨(some 54),none,(.fa 0 (.tmp 14))⟩,⟨(some 55),none,(.load false 1 (.tmp 54))⟩,⟨(some 56),none,(.fa 1 (.tmp 14))⟩,⟨(some 57),none,(.load true 11 (.tmp 56))⟩,⟨(some 58),none,(.mv (.tmp 2))⟩,⟨(some 59),none,(.mv (.tmp 12))⟩,⟨(some 60),none,(.call (.func 91) [(.tmp 57),(.tmp 58),(.tmp 59)])⟩,⟨(some 61),none,(.bin .sub (.tmp 55) (.tmp 60))⟩,⟨(some 62),none,(.fa 1 (.tmp 14))⟩,⟨(some 63),none,(.fa 9 (.tmp 62))⟩,⟨(some 64),none,(.load false 1 (.tmp 63))⟩,⟨(some 65),none,(.fa 1 (.tmp 14))⟩,⟨(some 66),none,(.fa 10 (.tmp 65))⟩,⟨(some 67),none,(.load false 1 (.tmp 66))⟩,⟨(some 68),none,(.build [(.v (.int .i64 0)),(.v (.int .i64 0)),(.v (.string ⟨#[]⟩))] [(0,(1,(.tmp 61))),(1,(1,(.tmp 64))),(2,(1,(.tmp 67)))])⟩,⟨(some 69),none,(.lit 136 3 1 [(.v (.int .i64 0)),(.v (.int .i64 0)),(.v (.string ⟨#[]⟩))] [(0,(3,(.tmp 68)))])⟩] [false,false] [⟨(some 70),none,(.app 136 3 32 (.tmp 53) (.tmp 69))⟩,⟨(some 11),none,(.mv (.tmp 70))⟩]) (.reg [⟨(some 71),none,(.fa 1 (.tmp 14))⟩,⟨(some 72),none,(.fa 9 (.tmp 71))⟩,⟨(some 73),none,(.load false 1 (.tmp 72))⟩,⟨(some 12),none,(.mv (.tmp 73))⟩]))))) (.reg [⟨(some 74),none,(.bin .add (.tmp 34) (.const (.int .i64 1)))⟩,⟨(some 34),none,(.mv (.tmp 74))⟩])))))) (.seq (.reg [⟨(some 75),none,(.mv (.tmp 11))⟩,⟨(some 76),none,(.len false (.tmp 75))⟩,⟨(some 77),none,(.bin .gtr (.tmp 76) (.const (.int .i64 1000)))⟩]) (.seq (.cond (.tmp 77) (.seq (.reg [⟨(some 6),none,(.mv (.const (.slice none 0 0)))⟩,⟨(some 7),none,(.mv (.const (.int .i64 2)))⟩]) .ret) .skip) (.seq (.reg [⟨(some 78),none,(.mv (.tmp 11))⟩,⟨(some 6),none,(.mv (.tmp 78))⟩,⟨(some 7),none,(.mv (.const (.int .i64 0)))⟩]) (.seq .ret .skip)))))))))
abbrev fr31:AFR:=⟨[(.reg [⟨(some 6),none,(.mv (.const (.slice none 0 0)))⟩,⟨(some 7),none,(.mv (.const (.int .i64 0)))⟩]),(.reg [⟨(some 15),none,(.mv (.tmp 0))⟩,⟨(some 16),none,(.mv (.tmp 1))⟩,⟨(some 17),none,(.mv (.tmp 2))⟩,⟨(some 18),none,(.call (.func 86) [(.tmp 15),(.tmp 16),(.tmp 17)])⟩,⟨(some 8),none,(.mv (.tmp 18))⟩]),(.reg [⟨(some 19),none,(.mv (.tmp 8))⟩,⟨(some 20),none,(.bin .neq (.tmp 19) (.const (.int .i64 0)))⟩]),(.cond (.tmp 20) (.seq (.reg [⟨(some 21),none,(.mv (.tmp 8))⟩,⟨(some 6),none,(.mv (.const (.slice none 0 0)))⟩,⟨(some 7),none,(.mv (.tmp 21))⟩]) .ret) .skip),(.reg [⟨(some 9),none,(.new 140 1 [(.sl 0 0 true [])])⟩]),(.reg [⟨(some 22),none,(.mv (.tmp 0))⟩,⟨(some 23),none,(.mv (.tmp 1))⟩,⟨(some 24),none,(.call (.func 87) [(.tmp 22),(.tmp 23)])⟩])],(.tmp 24),#[25],c31a,c31b,c31q,[(.tmp 6),(.tmp 7)],79⟩
theorem k31:Zh3 Tryz.prog 31=some fr31:=by kernel_rfl
theorem turns_ne {l:List Rul}{nm:ByteArray}(h : ∀ r∈l,Zbr r=0) (hn : ∃ r∈l,r.1=nm):Zbn l nm≠[]:=by
 obtain⟨r,hr,e⟩:=hn
 have h1:=Zhu (h r hr)
 obtain⟨_,q2,_⟩:=ZbV (h r hr)
 intro hE
 have:Zdc r=[]:=by
  unfold Zbn at hE
  rw[List.flatMap_eq_nil_iff] at hE
  have:=hE r hr
  rwa [if_pos e] at this
 rw[this] at h1
 simp at h1
 have q2:r.2.1≤r.2.2.1:=q2
 have h2:(0:Int)=r.2.2.1-r.2.1+1:=h1
 omega
abbrev timT (N:Nat) (l:List Rul) (nm:ByteArray) (sh:Int) (x:AV):List AV:=[.sl l.length 11 false (rows rulC l),sv nm,iv sh,.any,.any,.any,.any,.any,.any,.ptr (N+0) 0 0,.any,.any,.any,.any,.any,.any,.any,.any,.any,.any,.any,.any,.any,.any,.clo (.func 159) [.rp [.sl l.length 11 false (rows rulC l)],.rp [sv nm]],x,.any,.any,.any,.any,.any,.any,.any,.any,.any,.any,.any,.any,.any,.any,.any,.any,.any,.any,.any,.any,.any,.any,.any,.any,.any,.any,.any,.any,.any,.any,.any,.any,.any,.any,.any,.any,.any,.any,.any,.any,.any,.any,.any,.any,.any,.any,.any,.any,.any,.any,.any,.any,.any]
abbrev timH (h:AH) (D l N:Nat) (o:Obj) (T:List AV) (vs:List Value) (d:List Trn):AH:=h++[.mk 0 140 1 [.own (N+1) d.length d.length],.mk d.length 144 12 (rows trnC d),mkD D,.raw l o T vs]
abbrev timJ (h:AH) (D l N:Nat) (o:Obj) (T:List AV) (vs:List Value) (d:List Trn) (e f:Ent):AH:=h++[.mk 0 140 1 [.own (N+1) d.length d.length],.mk d.length 144 12 (rows trnC d),mkD D,.raw l o T vs,e,f]
theorem ZpW {n:Nat} : ∀ {a b:List AV},AV.ltL n (a++b)=(AV.ltL n a&&AV.ltL n b)
 | [],b=>by simp[AV.ltL]
 | c::a,b=>by simp[AV.ltL,ZpW (a:=a) (b:=b),Bool.and_assoc]
theorem ZsK {h:AH}{D l N:Nat}{o:Obj}{T:List AV}{vs:List Value}{d:List Trn}{e f:Ent}:timH h D l N o T vs d++[e,f]=timJ h D l N o T vs d e f:=by simp
abbrev timK (P:Program) (lp N D:Nat) (rdy bsy fin:Obj) (l:List Rul) (nm:ByteArray) (sh:Int) (vs:List Value):Prop:=Zl5 P fr31 (N+2+1) lp rdy bsy fin (timT N l nm sh .any) vs
theorem timT_lt {N:Nat}{l:List Rul}{nm:ByteArray}{sh:Int}:AV.ltL (N+4) (timT N l nm sh .any)=true:=by simp[AV.ltL,AV.lt,Zbw]
theorem timH_lt {h:AH}{D lp N:Nat}{o:Obj}{l:List Rul}{nm:ByteArray}{sh:Int}{vs:List Value}(hlt : ∀ e∈h,e.lt N=true) (d:List Trn) : ∀ e∈timH h D lp N o (timT N l nm sh .any) vs d,e.lt (N+4)=true:=by
 intro e he
 rcases List.mem_append.1 he with he | he
 ·exact ltw om hlt e he
 simp only[List.mem_cons,List.not_mem_nil,or_false] at he
 rcases he with rfl | rfl | rfl | rfl
 ·simp[Ent.lt,AV.ltL,AV.lt]
 ·simp[Ent.lt,Zmk]
 ·simp[Ent.lt,AV.ltL]
 simpa [Ent.lt] using timT_lt
theorem app62 {h:AH}{a b c d e f p q:Ent}:h++[a,b,c,d,e,f,p,q]=(h++[a,b,c,d,e,f])++[p,q]:=by simp
theorem ZnZ {h:AH}{lp N D:Nat}{rdy bsy fin:Obj}{l:List Rul}{nm:ByteArray}{sh:Int}{vs:List Value}(hn:h.length=N) (hlt : ∀ e∈h,e.lt N=true) (hY:timK Tryz.prog lp N D rdy bsy fin l nm sh vs) {d:List Trn}{t:Trn}{e f:Ent}(hd:d.length<10000) :
  AYield Tryz.prog lp [.agg (trnC t)] (timJ h D lp N rdy (timT N l nm sh .any) vs d e f) fun r h''=>r=.ret (.v (.bool true))∧h''=timJ h D lp N rdy (timT N l nm sh .any) vs (d++[t]) e f:=by
 refine y_go hY (hga (k:=3) hn rfl) rfl fun n0 hn0 hlt0 q1 q2 q3=>?_
 obtain⟨a,n,fr,tt,m,⟨kd,wk,dn⟩,at_,ck,sv_,lt⟩:=t
 show aw _ _ c31a _ _ _
 show aw _ _ _ _ (timT N l nm sh (.agg (trnC (a,n,fr,tt,m,(kd,wk,dn),at_,ck,sv_,lt)))) (h++[.mk 0 140 1 [.own (N+1) d.length d.length],.mk d.length 144 12 (rows trnC d),mkD D,.raw lp rdy (timT N l nm sh .any) vs,e,f])
 refine Zat<|E' (Za7 (hl6 hn) ha6) pt<|E' (Zaj lk cv gx rfl (nb' rfl) rfl ZjJ (hs6 hn)) ptn<|Zaq<|?_
 refine ZuL (i:=N+3) gx (hs3 hn) fun n1 hn1 hlt1=>?_
 show aw _ _ c31b _ _ _
 refine Zam<|Zat<|Vw (Zab lk gx gt0)<|Vw (Zao lk gx Zpk rfl)<|E' (Zda (ZnJ cv rfl) (hl7 hn) ha7) pt<|?_
 refine E' (Zce (ZbF lk gx rfl Zse (nb' rfl)) lk gx (ZsA _) om rfl (hs1 hn)) pt ?_
 refine E' (Zaj lk cv gx rfl (nb' rfl) rfl Zsf (hs0 hn)) ptn<|Zaq<|ZaA<|?_
 refine Zjk (i:=N+3) gx (hs3 hn) ?_
 refine⟨_,_,app62,?_,fun x hx=>?_,rfl,rfl,?_⟩
 ·rw[←hn0];simp
 ·have hm:n0=N+6:=by rw[←hn0];simp[hn]
  subst hm
  rcases List.mem_append.1 hx with hx | hx
  ·exact ltw om hlt x hx
  simp only[List.mem_cons,List.not_mem_nil,or_false] at hx
  rcases hx with rfl | rfl | rfl | rfl | rfl | rfl
  ·simp[Ent.lt,AV.ltL,AV.lt]
  ·simp[Ent.lt,Zmk,ZpW,AV.ltL,AV.lt]
  ·simp[Ent.lt,AV.ltL]
  ·exact hlt0 _ (by simp)
  ·exact hlt0 _ (by simp)
  exact hlt0 _ (by simp)
 unfold timJ;rw[ZaO,Za5,List.length_append];rfl
theorem sortT_b {h:AH}{N:Nat}{a:Ent}{l:AH}{v ty:Nat}{S:List Trn}(hn:h.length=N) (hl:S≠[]) (hz:S.length<4611686018427387904) :
  ACalls Tryz.prog 88 [.own (N+1) v S.length,.v (.func (.func 89) #[] #[])] (h++(a::.mk v ty 12 (rows trnC S)::l)) fun x h'=>x=.ret (.tup []) ∧ ∃ S',ordT S S'∧h'=h++(a::.mk v ty 12 (rows trnC S')::l):=by
 refine (sortT_a (hga (k:=1) hn rfl) hl hz).mono ?_
 rintro x h' ⟨rfl,S',h1,rfl⟩
 exact⟨rfl,S',h1,hs1 hn⟩
theorem gapB_pre {l:List Trn}{i:Nat}(h:i<l.length) (h0:0<i) (hg:l[i].1-(l[i-1]'(by omega)).1<172800):gapB l=true:=by
 obtain⟨i,rfl⟩ : ∃ i0,i=i0+1:=⟨i-1,by omega⟩
 exact Zm9 h hg
theorem gap_ok {S:List Trn}{i:Nat}(hi : ∀ j (h:j+1<S.length),j+1<i→172800≤S[j+1].1-S[j].1) (hl:S.length≤i):gapB S=false:=(Zir S).2 fun j h=>hi j h om
theorem ZqC {h:AH}{lp N D n0:Nat}{o:Obj}{l:List Rul}{nm:ByteArray}{sh:Int}{vs:List Value}(hn:h.length=N) (hlt : ∀ e∈h,e.lt N=true) (hr0:ZdI l nm sh=0) (hn0:N+4=n0) :
  aw Tryz.prog n0 c31q (Zfs fr31.res (N+2) D fun x h' => ∃ z,h'=h++z∧x.lt N=true ∧ ∃ c,x=.ret c∧Wk c (.tup [.sl (Zbe l nm sh).1.length 3 false (rows timC (Zbe l nm sh).1),iv (Zbe l nm sh).2])) (timT N l nm sh .any)
   (h++[.mk 0 140 1 [.own (N+1) (Zbn l nm).length (Zbn l nm).length],.mk (Zbn l nm).length 144 12 (rows trnC (Zbn l nm)),mkD D,.gone]):=by
 obtain⟨g1,g2,g3,g4⟩:=ZgU hr0
 have hne:=turns_ne g2 g4
 have htl:=ZgH (nm:=nm) g2
 have htO : ∀ t∈Zbn l nm,Zbr t.2=0 ∧ -2592000000≤t.1∧t.1≤4320172800:=fun t ht=>Zii g2 ht
 subst hn0
 show aw _ _ c31q _ _ _
 refine wr'<|Vw (Zab lk gx gt0)<|?_
 refine s_callE mp (sortT_b hn hne om) pt ?_
 rintro S hS
 have hSl:=hS.1.length_eq
 have hSO : ∀ t∈S,Zbr t.2=0 ∧ -2592000000≤t.1∧t.1≤4320172800:=fun t ht=>htO t (hS.1.mem_iff.1 ht)
 have hTV:=Zln (sh:=sh) hr0 hS.1 hS.2
 rw[←hSl]
 refine sn'<|wr'<|mv' lkn pt11<|Zaq<|Za1 (ALe.own0' (st':=3) (ty:=136) gt11 (hl4 hn) pt11 ha4)<|wr'<|mv' lki pt12<|sn'<|wr'<|?_
 refine Vw (Zab lk gx gt0)<|Vw (Zb7 lk)<|mw<|sn'<|Zag<|Zam<|?_
 refine w_lp (ι:=Nat) (fun (i:Nat)=>[(11,.own (N+4) i (outV sh 0 (S.take i)).length),(12,iv (svAt S i)),(34,iv (i:Int)),(6,.any),(7,.any),(13,.any),(14,.any)]++rn' 35 40) (fun (i:Nat)=>[(4,.mk i 136 3 (rows timC (outV sh 0 (S.take i))))]) (fun (i:Nat)=>i≤S.length ∧ ∀ j (h:j+1<S.length),j+1<i→172800≤S[j+1].1-S[j].1) (fun (i:Nat)=>S.length-i) (0) (by exact⟨Nat.zero_le _,fun j _ h=>by omega⟩) ?_
 rintro i hi1
 try simp only[sm',Nat.reduceAdd]
 obtain⟨hi1,hi2⟩:=hi1
 refine wr'<|Vw (ZaZ lk lk)<|sn'<|Zag<|?_
 refine cd' lk (fun hc1=>?_) (fun hc1=>?_)
 ·have hi:i<S.length:=by omega
  obtain⟨hb0,hb1⟩:=hSO _ (List.getElem_mem hi)
  have hsv:=ZsS (i:=i) fun t ht=>(hSO t ht).1
  have hoff:=ZtE (r:=S[i].2) g3 hsv
  have hol2:(outV sh 0 (S.take (i+1))).length=i+1:=by rw[Zeh,List.length_take];omega
  have hol:(outV sh 0 (S.take i)).length=i:=by rw[Zeh,List.length_take];omega
  refine Zad<|Zae<|Zag<|Zam<|wr'<|mw<|?_
  refine V' (Zbq lk lk gx ZaL (nb' rfl) ro om (by first | rfl | (simp;done) | omega)) pt ?_
  refine V' (Zsw lk gx ZaL om rfl) pt ?_
  refine E' (Za7 (hl5 hn) ha5) pt<|mw<|E' (Zaj lk cv gx rfl (nb' rfl) rfl ZjJ (hs5 hn)) ptn<|sn'<|Zag<|Zag<|Za2<|Dw (v_mv lk)<|Dw (Zbz lk lki)<|Dw (v_mv lk)<|?_
  refine dq' (t:=41) gt pt pt (fun hg41=>?_) (fun hg41=>?_)
  ·obtain⟨hb3,hb4⟩:=hSO _ (List.getElem_mem (show i-1<S.length by omega))
   refine d_do gt<|Dw (Zac lk)<|d_do gt<|Dw (Zab lk gx gt0)<|d_do gt<|Dw (Zab lk gx gt0)<|d_do gt<|Dw (v_mv lk)<|d_do gt<|?_
   refine D' (Zbm lk lki om om) pt ?_
   refine d_do gt ?_
   refine D' (Zbq (k:=i-1) lk lk gx ZaL (nb' rfl) ro om (by first | rfl | (simp;done) | omega)) pt ?_
   refine d_do gt<|Dw (Zbl lk)<|d_do gt<|?_
   refine D' (Zc7 lk gx ZaL om (nb' rfl) gt0) pt ?_
   refine d_do gt ?_
   refine D' (Zbm lk lk om om) pt ?_
   refine d_do gt<|Dw (ZaZ lk lki)<|Dw (Zal lk lk)<|Za8<|?_
   refine Zby ?_
   refine sn' ?_
   refine cd' lk (fun hc2=>?_) (fun hc2=>?_)
   ·have hG:gapB S=true:=gapB_pre hi om hc2
    refine wr'<|mw<|mw<|sn'<|Zaa<|Zai<|Zas<|Zai<|Zai<|Zas<|Zai<|?_
    refine Zeg gx (hs2 hn) ry ?_
    refine rtW' ?_
    rw[hTV,if_pos hG];exact Wk.tup (wkw Wk.nilF (wk1 rfl wk0))
   refine Zad<|Zae<|Zag<|Za2<|Dw (v_mv lk)<|Dw (Zac lk)<|Dw (Zab lk gx gt0)<|Dw (Zac lk)<|Dw (Zao lk gx ZjI rfl)<|Dw (v_mv lk)<|Dw (v_mv lk)<|?_
   refine ZaV mp (fun hE hX=>off_a g3 hsv) pt ?_
   refine D' (Zbm lk lk om om) pt ?_
   refine Dw (Zac lk)<|Dw (Zbl lk)<|Dw (Zab lk gx gt10)<|Dw (Zac lk)<|Dw (Zbl lk)<|Dw (Zab lk gx gt11)<|Dw (Zaw (Zho cv rfl cv rfl cv rfl))<|Zep rfl rfl (hlk hn rfl) (Zh9 (Zhn cv rfl)) pt ZnI<|Za8<|?_
   refine Zez Zle ?_
   refine E' (Zce (ZbF lk gx rfl ZnH (nb' rfl)) lk gx (ZdA _) om rfl (hs4 hn)) pt ?_
   refine mw<|sn'<|Zat<|Vw (Zac lk)<|Vw (Zbl lk)<|Vw (Zab lk gx gt10)<|mw<|Zaq<|ZaA<|Zae<|Zat<|?_
   refine V' (Zax lk lki om om) pt ?_
   refine mw<|Zaq<|ZaB<|?_
   refine lU' (i+1) (by (try dsimp only);exact⟨by omega,fun j hj h=>by by_cases e:j+1=i;(subst e;(try simp only[Nat.add_sub_cancel] at hc2);omega);exact hi2 j hj om⟩) (by (try dsimp only);(try simp only[sm',Nat.reduceAdd]);exact bkE' 5 hn hlt (by repeat (first | exact wk0 | refine wka ?_ | refine wk1 rfl ?_ | refine wk1 (by first | rfl | exact ivx om | (rw[hol2,hol];done) | (rw[hol2,hol]) | (rw[ZgL hi])) ?_)) (by rw[Zdt hi,ZaO,Za5];rfl))
  refine d_no gt pt<|d_no gt pt<|d_no gt pt<|d_no gt pt<|d_no gt pt<|d_no gt pt<|d_no gt pt<|d_no gt pt<|d_no gt pt<|d_no gt pt<|Dw (Zak lk lkb)<|Za8<|?_
  refine Zby ?_
  refine sn'<|ZaT lk<|Zad<|Zae<|Zag<|Za2<|Dw (v_mv lk)<|Dw (Zac lk)<|Dw (Zab lk gx gt0)<|Dw (Zac lk)<|Dw (Zao lk gx ZjI rfl)<|Dw (v_mv lk)<|Dw (v_mv lk)<|?_
  refine ZaV mp (fun hE hX=>off_a g3 hsv) pt ?_
  refine D' (Zbm lk lk om om) pt ?_
  refine Dw (Zac lk)<|Dw (Zbl lk)<|Dw (Zab lk gx gt10)<|Dw (Zac lk)<|Dw (Zbl lk)<|Dw (Zab lk gx gt11)<|Dw (Zaw (Zho cv rfl cv rfl cv rfl))<|Zep rfl rfl (hlk hn rfl) (Zh9 (Zhn cv rfl)) pt ZnI<|Za8<|?_
  refine Zez Zle ?_
  refine E' (Zce (ZbF lk gx rfl ZnH (nb' rfl)) lk gx (ZdA _) om rfl (hs4 hn)) pt ?_
  refine mw<|sn'<|Zat<|Vw (Zac lk)<|Vw (Zbl lk)<|Vw (Zab lk gx gt10)<|mw<|Zaq<|ZaA<|Zae<|Zat<|?_
  refine V' (Zax lk lki om om) pt ?_
  refine mw<|Zaq<|ZaB<|?_
  refine lU' (i+1) (by (try dsimp only);exact⟨by omega,fun j hj h=>by by_cases e:j+1=i;(subst e;(try simp only[Nat.add_sub_cancel] at hc2);omega);exact hi2 j hj om⟩) (by (try dsimp only);(try simp only[sm',Nat.reduceAdd]);exact bkE' 5 hn hlt (by repeat (first | exact wk0 | refine wka ?_ | refine wk1 rfl ?_ | refine wk1 (by first | rfl | exact ivx om | (rw[hol2,hol];done) | (rw[hol2,hol]) | (rw[ZgL hi])) ?_)) (by rw[Zdt hi,ZaO,Za5];rfl))
 have hie:i=S.length:=by omega
 subst hie
 rw[List.take_length]
 have hG:gapB S=false:=gap_ok hi2 (Nat.le_refl _)
 rw[if_neg (by rw[hG];simp)] at hTV
 have hol:=Zeh S sh 0
 refine ZaD<|Zay<|Zay<|ZaU<|Zae<|wr'<|mw<|Vw (Zb7 lk)<|Vw (Zbz lk lki)<|sn'<|Zag<|?_
 refine cd' lk (fun hc3=>?_) (fun hc3=>?_)
 ·refine wr'<|mw<|mw<|sn'<|Zaa<|Zai<|?_
  refine Zeg gx (hs2 hn) ry ?_
  refine rtW' ?_
  rw[hTV,if_pos om];exact Wk.tup (wkw Wk.nilF (wk1 rfl wk0))
 refine Zad ?_
 refine Za1 (ALe.iceR gx gt11 (List.take_of_length_le (by rw[ZdA];exact Nat.le_refl _)) (by rw[ZdA];exact Nat.le_refl _) pt11 (hs4 hn)) ?_
 refine wr'<|mw<|mw<|mw<|sn'<|Zag<|Zaa<|Zai<|?_
 refine Zeg gx (hs2 hn) ry ?_
 refine rtW' ?_
 rw[hTV,if_neg om];exact Wk.tup (wkw Wk.full (wk1 rfl wk0))
theorem ZqD {h:AH}{lp N D:Nat}{rdy bsy fin:Obj}{l:List Rul}{nm:ByteArray}{sh:Int}{vs:List Value}(hn:h.length=N) (hlt : ∀ e∈h,e.lt N=true) (hr0:ZdI l nm sh=0) (hY:timK Tryz.prog lp N D rdy bsy fin l nm sh vs) {R:AE→AH→Prop}
    (hR:R=fun x h' => ∃ z,h'=h++z∧x.lt N=true ∧ ∃ c,x=.ret c∧Wk c (.tup [.sl (Zbe l nm sh).1.length 3 false (rows timC (Zbe l nm sh).1),iv (Zbe l nm sh).2])) :
    ACalls Tryz.prog 159 (.v (.func (.yield lp) #[] #[])::[.rp [.sl l.length 11 false (rows rulC l)],.rp [sv nm]]) (timH h D lp N rdy (timT N l nm sh .any) vs []) fun r h3=>(∃ c,r=.ret c) ∧
      ((h3[N+2+1]?=some (.raw lp rdy (timT N l nm sh .any) vs) ∧ ∀ n0,(h3.set (N+2+1) .gone).length=n0→(∀ e∈h3.set (N+2+1) .gone,e.lt n0=true)→aw Tryz.prog n0 fr31.post (Zfs fr31.res (N+2) D R) (timT N l nm sh .any) (h3.set (N+2+1) .gone)) ∨
       (h3[N+2+1]?=some (.raw lp fin (timT N l nm sh .any) vs)∧Zfs fr31.res (N+2) D R .ret (timT N l nm sh .any) (h3.set (N+2+1) .gone))):=by
  obtain⟨g1,g2,g3,g4⟩:=ZgU hr0
  have htl:=ZgH (nm:=nm) g2
  refine (turns1_a (H:=timH h D lp N rdy (timT N l nm sh .any) vs) g2 g1 (fun d=>hl4 hn) (timH_lt hlt) (fun d t e f hd=>?_)).mono ?_
  · rw[ZsK,ZsK]
    exact ZnZ hn hlt hY om
  rintro x h3 ⟨rfl,rfl⟩
  refine⟨⟨_,rfl⟩,.inl ⟨hga (k:=3) hn rfl,fun n0 hn0 _=>?_⟩⟩
  have hs:(timH h D lp N rdy (timT N l nm sh .any) vs (Zbn l nm)).set (N+2+1) .gone=h++[.mk 0 140 1 [.own (N+1) (Zbn l nm).length (Zbn l nm).length],.mk (Zbn l nm).length 144 12 (rows trnC (Zbn l nm)),mkD D,.gone]:=hs3 hn
  rw[hs] at hn0 ⊢
  subst hR
  exact ZqC (o:=rdy) (lp:=lp) (vs:=vs) hn hlt hr0 ((hl4 hn).symm.trans hn0)
theorem ZsH {l:List Rul}{nm:ByteArray}{sh:Int}{h:AH}(hok:okRs l) (hl:l.length≤9223372036854775807) :
  Ac 31 [.sl l.length 11 false (rows rulC l),sv nm,iv sh] h (.tup [.sl (Zbe l nm sh).1.length 3 false (rows timC (Zbe l nm sh).1),iv (Zbe l nm sh).2]):=by
 refine ACalls.weak (tR' k31 fun N hn hlt hlA hbd=>?_)
 show aw _ _ c31p _ _ _
 show aw _ _ _ _ [.sl l.length 11 false (rows rulC l),sv nm,iv sh,.any,.any,.any,.any,.any,.any,.any,.any,.any,.any,.any,.any,.any,.any,.any,.any,.any,.any,.any,.any,.any,.any,.any,.any,.any,.any,.any,.any,.any,.any,.any,.any,.any,.any,.any,.any,.any,.any,.any,.any,.any,.any,.any,.any,.any,.any,.any,.any,.any,.any,.any,.any,.any,.any,.any,.any,.any,.any,.any,.any,.any,.any,.any,.any,.any,.any,.any,.any,.any,.any,.any,.any,.any,.any,.any,.any] _
 refine wr'<|mw<|mw<|sn'<|wr'<|mw<|mw<|mw<|Zaf mp (ready_a hok hl) pt<|mw<|Zaq<|?_
 refine Zae<|wr'<|mw<|Vw (Za9 lk lki)<|sn'<|Zag<|?_
 refine cd' lk (fun hc1=>?_) (fun hc1=>?_)
 ·refine wr'<|mw<|mw<|mw<|sn'<|Zaa<|Zai<|?_
  refine ZiV ry ?_
  refine rtW' ?_
  rw[Zes hc1];exact Wk.tup (wkw Wk.nilF (wk1 rfl wk0))
 refine Zad<|Zae<|wr'<|E' (Za7 (hl0 hn) ha0) pt<|Zaq<|?_
 refine Za1 (ALe.own0Cell (st':=12) (ty:=144) gx gt0 (hl1 hn) pt0 (Eq.trans (congrArg (fun z=>List.set z _ _) ha1) (hs0 hn))) ?_
 refine wr'<|mw<|mw<|Zaf mp (turns_a) pt<|sn'<|Zad<|?_
 refine Ztt (T1:=timT N l nm sh .any) (ALe.same wA' rfl) rfl (hl2 hn) fun lp D rdy bsy fin vs hle hlT hY=>?_
 have hgo:=ZqD (D:=D) hn hlt (Decidable.of_not_not hc1) hY rfl
 rw[show (h++[Ent.mk 0 140 1 [.own (N+1) 0 0],Ent.mk 0 144 12 []]++[mkD D,Ent.raw lp rdy (timT N l nm sh .any) vs]:AH)=timH h D lp N rdy (timT N l nm sh .any) vs [] by simp[rows]]
 exact hgo
end Go.Proofs.YtlekejpogddndaaGreatDoor
end
section
namespace Go.Proofs.YtlekejpogddndaaGreatDoor
open Go.Ab
abbrev intC (n:Int):List AV:=[iv n]
theorem Zd3 {n:Nat}(l:List Int):AV.ltL n (rows intC l)=true:=ZdC (fun _ _=>rfl) l
theorem int_leaf (l:List Int):(rows intC l).all leaf=true:=ZgQ (fun _=>rfl) l
theorem Za6 : ∀ x,(intC x).length=1:=fun _=>rfl
theorem Zen (l:List Int):(rows intC l).length=l.length*1:=Zbh Za6 l
end Go.Proofs.YtlekejpogddndaaGreatDoor
end
section
namespace Go.Proofs.YtlekejpogddndaaGreatDoor
open Go.Ab Go.RowKit Civ
attribute [local simp] Zbw ZbM ZbG ZbL Zcv Zd3
section
theorem Zu2 {a0 a1 a2:AV}{l:List AV}:(a0::a1::a2::l).take 3=[a0,a1,a2]:=rfl
theorem ZrD {a0 a1 a2 a3 a4 a5 a6 a7 a8 a9:AV}{l:List AV}:(a0::a1::a2::a3::a4::a5::a6::a7::a8::a9::l).take 10=[a0,a1,a2,a3,a4,a5,a6,a7,a8,a9]:=rfl
theorem Zo7 {a0 a1 a2 a3 a4 a5 a6 a7 a8 a9 c0 c1 c2 c3 c4 c5 c6 c7 c8 c9:AV}{l:List AV}:setCells (a0::a1::a2::a3::a4::a5::a6::a7::a8::a9::l) 0 [c0,c1,c2,c3,c4,c5,c6,c7,c8,c9]=c0::c1::c2::c3::c4::c5::c6::c7::c8::c9::l:=rfl
theorem ZrE {a0 a1 a2 a3 a4 a5 a6 a7:AV}{l:List AV}:((a0::a1::a2::a3::a4::a5::a6::a7::l).drop 5).take 3=[a5,a6,a7]:=rfl
theorem Zh5 {τ:Operand→AV}{y0:Operand}{x0_0:AV}(h0:Zav (τ y0)=some [x0_0]) (l0:[x0_0].all leaf=true):Zau τ [(0,1,y0)] [(.v (.int .i64 0))]=some [x0_0]:=by
 simp only[Zau,h0,l0]
 rfl
theorem Znx {a0:AV}{l:List AV}:(a0::l).take 1=[a0]:=rfl
theorem ZrF {a0 a1:AV}{l:List AV}:((a0::a1::l).drop 0).take 2=[a0,a1]:=rfl
theorem ZrH {a0 c0:AV}{l:List AV}:setCells (a0::l) 0 [c0]=c0::l:=rfl
theorem ZhN {a0 a1 a2:AV}{l:List AV}:((a0::a1::a2::l).drop 0).take 3=[a0,a1,a2]:=rfl
theorem Zl4 {τ:Operand→AV}{y0 y1 y2:Operand}{x0_0 x1_0 x2_0:AV}(h0:Zav (τ y0)=some [x0_0]) (l0:[x0_0].all leaf=true) (h1:Zav (τ y1)=some [x1_0]) (l1:[x1_0].all leaf=true) (h2:Zav (τ y2)=some [x2_0]) (l2:[x2_0].all leaf=true):Zau τ [(0,1,y0),(1,1,y1),(2,1,y2)] [(.v (.int .i64 0)),(.v (.int .i64 0)),(.v (.string ⟨#[]⟩))]=some [x0_0,x1_0,x2_0]:=by
 simp only[Zau,h0,l0,h1,l1,h2,l2]
 rfl
theorem ZrG {a0 a1 a2 c0 c1 c2:AV}{l:List AV}:setCells (a0::a1::a2::l) 0 [c0,c1,c2]=c0::c1::c2::l:=rfl
end
def c280:AC:=(Sr [Oo 2 (.box 53 2 (.tmp 0)),Mb 3 false] (Sr [Fa 4 0 2,Ld 5 4,Ld 6 1,Bn 7 .eql 5 6,Mv 3 7] .ret))
theorem k280:ZaE Tryz.prog 280=some ⟨c280,[(.tmp 3)],8⟩:=by kernel_rfl
def c215:AC:=(Sr [Oo 2 (.box 26 3 (.tmp 0)),Oo 3 (.box 9 1 (.tmp 1)),Mc 4 0] (Sr [Fa 5 1 2,Ld 6 5,Oo 7 (.mkfn 280 [(.tmp 3)]),Cl 8 218 [(.tmp 6),(.tmp 7)],Mv 4 8] .ret))
theorem k215:ZaE Tryz.prog 215=some ⟨c215,[(.tmp 4)],9⟩:=by kernel_rfl
def c219:AC:=(Sr [Oo 2 (.box 129 2 (.tmp 0)),Mb 3 false] (Sr [Fa 4 1 2,Ld 5 4,Ld 6 1,Bn 7 .eql 5 6,Mv 3 7] .ret))
theorem k219:ZaE Tryz.prog 219=some ⟨c219,[(.tmp 3)],8⟩:=by kernel_rfl
def c139:AC:=(Sr [Oo 2 (.box 26 3 (.tmp 0)),Oo 3 (.box 9 1 (.tmp 1)),Mc 4 0] (Sr [Fa 6 2 2,Ld 7 6,Oo 8 (.mkfn 219 [(.tmp 3)]),Cl 9 171 [(.tmp 7),(.tmp 8)],Mv 5 9] (.seq (Sr [Mv 10 5,Bc 11 .geq 10 0] (Cd 11 (.reg [Fa 12 2 2,Ld 13 12,Mv 14 5,Oo 15 (.ia 2 (.tmp 13) (.tmp 14)),Fa 16 0 15,Ld 17 16,Sc 3 17]) .skip)) (Sr [Oo 18 (.load true 3 (.tmp 2)),Ld 19 3,Cl 20 215 [(.tmp 18),(.tmp 19)],Mv 4 20] .ret))))
theorem k139:ZaE Tryz.prog 139=some ⟨c139,[(.tmp 4)],21⟩:=by kernel_rfl
def c214:AC:=(Sr [Oo 2 (.box 129 2 (.tmp 0)),Mb 3 false] (Sr [Oo 4 (.load true 3 (.tmp 1)),Fa 5 0 2,Ld 6 5,Cl 7 215 [(.tmp 4),(.tmp 6)],Bc 8 .lss 7 0,Mv 3 8] .ret))
theorem k214:ZaE Tryz.prog 214=some ⟨c214,[(.tmp 3)],9⟩:=by kernel_rfl
def c216:AC:=(Sr [Oo 2 (.box 36 11 (.tmp 0)),Mb 3 false] (Sr [Fa 4 0 2,Ld 5 4,Fa 6 1 1,Ld 7 6,Bn 8 .eql 5 7,Mv 3 8] .ret))
theorem k216:ZaE Tryz.prog 216=some ⟨c216,[(.tmp 3)],9⟩:=by kernel_rfl
def c131:AC:=(Sr [Oo 1 (.box 53 2 (.tmp 0)),Oo 2 (.mv (.const (.slice none 0 0)))] (Sr [Oo 3 (.mv (.const (.slice none 0 0)))] (.seq (Sr [Fa 7 1 1,Ld 8 7,Oo 9 (.len false (.tmp 8)),Mc 10 0] (.block 0 (.loop (Sr [Bn 11 .lss 10 9] (.seq (Cd 11 .skip (.exit 0)) (.seq (.block 1 (Sr [Oo 12 (.ia 10 (.tmp 8) (.tmp 10)),Oo 13 (.load true 10 (.tmp 12)),Oo 5 (.new 63 10 [(iv 0),Ss,(iv 0),Ss,(.v (.bool false)),(iv 0),(iv 0),(iv 0),(iv 0),(iv 0)]),⟨none,none,(.store 10 (.tmp 5) (.tmp 13))⟩] (.seq (Sr [Fa 14 4 5,Ld 15 14] (Cd 15 (.exit 0) .skip)) (Sd [Fa 16 5 5,Fa 17 0 16,Oo 18 (.load true 3 (.tmp 17)),Cl 19 98 [(.tmp 18)],Bc 20 .mul 19 86400,Fa 21 5 5,Fa 22 3 21,Ld 23 22,Bn 24 .add 20 23,Mv 6 24] (.seq (Sr [Fa 25 5 5,Fa 26 4 25,Ld 27 26,Bc 28 .eql 27 2] (Cd 28 (.reg [Mv 29 6,Fa 30 0 5,Ld 31 30,Bn 32 .sub 29 31,Mv 6 32]) .skip)) (.reg [Mv 33 3,Mv 34 6,Oo 35 (.lit 3 1 1 [(iv 0)] [(0,(1,(.tmp 34)))]),Oo 36 (.app 3 1 8 (.tmp 33) (.tmp 35)),Mv 3 36])))))) (.reg [Bc 37 .add 10 1,Mv 10 37]))))))) (Sr [Mv 38 3,Mv 2 38] .ret))))
theorem k131:ZaE Tryz.prog 131=some ⟨c131,[(.tmp 2)],39⟩:=by kernel_rfl
def c138:AC:=(Sr [Mb 2 false] (.seq (Sr [Mc 3 1] (.block 0 (.loop (.seq (Sr [Mv 4 3,Mv 5 0,Oo 6 (.len false (.tmp 5)),Bn 7 .lss 4 6] (Cd 7 .skip (.exit 0))) (.seq (.block 1 (Sd [Mv 10 0,Mv 11 3,Oo 12 (.ia 1 (.tmp 10) (.tmp 11)),Ld 13 12,Mv 14 0,Mv 15 3,Bc 16 .sub 15 1,Oo 17 (.ia 1 (.tmp 14) (.tmp 16)),Ld 18 17,Bn 19 .leq 13 18] (Cd 19 (Sr [Mb 2 false] .ret) .skip))) (.reg [Mv 8 3,Bc 9 .add 8 1,Mv 3 9])))))) (Sr [Mb 2 true] .ret)))
theorem k138:ZaE Tryz.prog 138=some ⟨c138,[(.tmp 2)],20⟩:=by kernel_rfl
def c137:AC:=(Sr [Oo 1 (.box 53 2 (.tmp 0)),Mb 2 false] (Sr [Oo 3 (.load true 2 (.tmp 1)),Cl 4 131 [(.tmp 3)],Cl 5 138 [(.tmp 4)],Oo 6 (.un .not (.tmp 5)),Mv 2 6] .ret))
theorem k137:ZaE Tryz.prog 137=some ⟨c137,[(.tmp 2)],7⟩:=by kernel_rfl
def c135:AC:=(Sr [Oo 1 (.box 26 3 (.tmp 0)),Oo 2 (.mv (.const .nilFunc))] (Sr [Oo 3 (.mkfn 217 [(.tmp 1)]),Mv 2 3] .ret))
theorem k135:ZaE Tryz.prog 135=some ⟨c135,[(.tmp 2)],4⟩:=by kernel_rfl
def c281:AC:=(Sr [Ms 6] (Sr [Mv 11 0,Oo 12 (.call (.func 320) [(.tmp 11),(.const (.string ⟨#[47]⟩))]),Mv 10 12,Ex 13 10 0,Ex 14 10 1,Ex 15 10 2,Mv 7 13,Mv 8 14,Mv 9 15] (.seq (.block 0 (Sr [Mv 17 9,Oo 18 (.un .not (.tmp 17)),Mv 16 18] (Cd 16 (Sr [Mv 19 0,Mv 20 1,Oo 21 (.call (.func 321) [(.tmp 19),(.const (.string ⟨#[37,115]⟩)),(.tmp 20),(Ci 1)]),Mv 6 21] .ret) (Sr [Mv 23 2,Bc 24 .gtr 23 0,Mv 22 24] (Cd 22 (Sr [Mv 25 8,Mv 6 25] .ret) .skip))))) (Sr [Mv 26 7,Mv 6 26] .ret))))
theorem k281:ZaE Tryz.prog 281=some ⟨c281,[(.tmp 6)],27⟩:=by kernel_rfl
def c220:AC:=(Sr [Oo 2 (.box 63 10 (.tmp 0)),Oo 3 (.box 136 3 (.tmp 1)),Oo 4 (.new 29 3 [(iv 0),(iv 0),Ss])] (.seq (.drw [Fa 5 0 2,Ld 6 5,Fa 7 1 3,Ld 8 7,Bn 9 .add 6 8,Fa 10 1 3,Ld 11 10,Fa 12 3 2,Ld 13 12,Fa 14 2 3,Ld 15 14,Fa 16 1 3,Ld 17 16,Cl 18 281 [(.tmp 13),(.tmp 15),(.tmp 17)],Oo 19 (.build [(iv 0),(iv 0),Ss] [(0,(1,(.tmp 9))),(1,(1,(.tmp 11))),(2,(1,(.tmp 18)))])] [false] [⟨none,none,(.store 3 (.tmp 4) (.tmp 19))⟩]) .ret))
theorem k220:ZaE Tryz.prog 220=some ⟨c220,[(.cell 4 true 3)],20⟩:=by kernel_rfl
def c222:AC:=(Sr [Oo 2 (.box 121 4 (.tmp 0)),Mb 3 false] (Sr [Fa 4 0 2,Ld 5 4,Ld 6 1,Bn 7 .geq 5 6,Mv 3 7] .ret))
theorem k222:ZaE Tryz.prog 222=some ⟨c222,[(.tmp 3)],8⟩:=by kernel_rfl
def c143:AC:=(Sr [Oo 3 (.box 3 1 (.tmp 1)),Oo 4 (.mv (.const (.slice none 0 0)))] (Sr [Mv 6 0,Oo 7 (.mkfn 222 [(.tmp 3)]),Cl 8 221 [(.tmp 6),(.tmp 7)],Mv 5 8] (.seq (Sr [Mv 9 5,Bc 10 .lss 9 0] (Cd 10 (Sr [Mv 11 0,Mv 4 11] .ret) .skip)) (Sr [Mv 12 0,Mv 13 5,Oo 14 (.slc 4 (.tmp 12) none (some (.tmp 13)) none),Mv 4 14] .ret))))
theorem k143:ZaE Tryz.prog 143=some ⟨c143,[(.tmp 4)],15⟩:=by kernel_rfl
theorem place1_a {nm:ByteArray}{z:Zon}{h:AH}:Ac 280 [.agg (zonC z),.rp [sv nm]] h (bv (decide (z.1=nm))):=by
 refine tI' k280 fun N hn hlt hlA hbd=>?_
 simp only[tb'] at hbd ⊢
 refine wr'<|E' (Zbc cv rfl (hl0 hn) ha0) pt<|mw<|sn'<|wr'<|Vw (Zac lk)<|Vw (Zab lk gx gt0)<|Vw (Zar lk gt)<|Vw (Zch lk lk)<|mw<|Zaq<|?_
 exact Zae<|Zaa<|Zah rz<|rT' rfl
def Zfb (zs:List Zon) (nm:ByteArray):Int:=idxV (fun z:Zon=>decide (z.1=nm)) zs
theorem Zod {a:List Rul}{z:List Zon}{k:List Lnk}{nm:ByteArray}{h:AH}(hz:z.length≤9223372036854775807):Ac 215 [.agg [.sl a.length 11 false (rows rulC a),.sl z.length 2 false (rows zonC z),.sl k.length 2 false (rows lnkC k)],sv nm] h (iv (Zfb z nm)):=by
 refine tI' k215 fun N hn hlt hlA hbd=>?_
 simp only[tb'] at hbd ⊢
 refine wr'<|E' (Zbc cv rfl (hl0 hn) ha0) pt<|E' (Zbc cv rfl (hl1 hn) ha1) pt<|mw<|Zaq<|?_
 refine Za1 (ALe.icePtr gx gt3 (by simp) pt3 (hs1 hn)) ?_
 refine wr'<|Vw (Zac lk)<|Vw (Zab lk gx gt1)<|Vw (ZgG mp)<|?_
 refine Zaf mp (ixZonC_a (p:=fun z=>decide (z.1=nm)) (fun c _ _=>place1_a) hz) pt ?_
 exact mw<|sn'<|Zaa<|Zah rz<|rT' rfl
theorem miss1_a {a:List Rul}{z:List Zon}{k:List Lnk}{l:Lnk}{h:AH}(hz:z.length≤9223372036854775807):Ac 214 [.agg (lnkC l),.rp [.sl a.length 11 false (rows rulC a),.sl z.length 2 false (rows zonC z),.sl k.length 2 false (rows lnkC k)]] h (bv (decide (Zfb z l.1<0))):=by
 refine tI' k214 fun N hn hlt hlA hbd=>?_
 simp only[tb'] at hbd ⊢
 refine wr'<|E' (Zbc cv rfl (hl0 hn) ha0) pt<|mw<|sn'<|wr'<|Vw (ZaF lk Zu2 rfl)<|Vw (Zac lk)<|Vw (Zab lk gx gt0)<|Zaf mp (Zod hz) pt<|Vw (ZaZ lk lki)<|mw<|?_
 exact sn'<|Zaa<|Zah rz<|rT' rfl
theorem ZoD {x:Era}{last:Bool}(h:eraX x last=0):(xRl x≠⟨#[]⟩→ZcI (xRl x)=true)∧Zbx (xFm x)=true∧(-64800≤xSh x∧xSh x≤64800)∧(0≤xSv x∧xSv x≤10800)∧(xRl x≠⟨#[]⟩→xSv x=0)∧xOp x=last ∧
  (xOp x=false→Zbp x.2.2.2.2.2.1.1 x.2.2.2.2.2.1.2.1 x.2.2.2.2.2.1.2.2=true∧0≤x.2.2.2.2.2.2.1∧x.2.2.2.2.2.2.1≤172800):=by
 unfold eraX eraE at h
 split at h
 ·cases h
 rename_i h1
 split at h
 ·cases h
 rename_i h2
 split at h
 ·cases h
 rename_i h3
 split at h
 ·cases h
 rename_i h4
 have p1:xRl x≠⟨#[]⟩→ZcI (xRl x)=true:=fun hn=>Decidable.of_not_not fun e=>h1 (.inl ⟨hn,e⟩)
 have p2:Zbx (xFm x)=true:=Decidable.of_not_not fun e=>h1 (.inr e)
 have p3:=ZbH.1 (Decidable.of_not_not fun e=>h2 (.inl e))
 have p4:=ZbH.1 (Decidable.of_not_not fun e=>h2 (.inr e))
 have p5:xRl x≠⟨#[]⟩→xSv x=0:=fun hn=>Decidable.of_not_not fun e=>h3 ⟨hn,e⟩
 refine⟨p1,p2,p3,p4,p5,Decidable.of_not_not h4,fun ho=>?_⟩
 rw[if_neg (by rw[show x.2.2.2.2.1=false from ho];simp)] at h
 split at h
 ·cases h
 rename_i h5
 split at h
 ·cases h
 rename_i h6
 exact⟨Decidable.of_not_not h5,ZbH.1 (Decidable.of_not_not h6)⟩
theorem Zne : ∀ {l:List Era},Zg2 l=0 → ∀ k (h:k<l.length),eraX l[k] (decide (k+1=l.length))=0
 | [],_,k,h=>by simp at h
 | x::l,he,k,h=>by
  rw[Zg2] at he
  split at he
  ·rename_i h1;exact absurd he h1
  rename_i h1
  cases k with
  | zero =>
   have h2:=Decidable.of_not_not h1
   have e:l.isEmpty=decide (0+1=(x::l).length):=by rw[Bool.eq_iff_iff,List.isEmpty_iff,decide_eq_true_iff,List.length_cons];cases l <;> simp
   rw[←e];exact h2
  | succ k =>
   have:=Zne he k (by simpa using h)
   simpa using this
structure okZ (es:List Era):Prop where
 ne:es≠[]
 fm : ∀ x∈es,Zbx (xFm x)=true∧(-64800≤xSh x∧xSh x≤64800)∧(0≤xSv x∧xSv x≤10800)∧(xRl x≠⟨#[]⟩→xSv x=0)
 op : ∀ k (h:k<es.length),xOp es[k]=decide (k+1=es.length)
 un : ∀ k (h:k<es.length),k+1<es.length→Zbp es[k].2.2.2.2.2.1.1 es[k].2.2.2.2.2.1.2.1 es[k].2.2.2.2.2.1.2.2=true∧0≤es[k].2.2.2.2.2.2.1∧es[k].2.2.2.2.2.2.1≤172800
 len:es.length≤8
theorem okZ_of {z:Zon}(h:Zfm z=0) (hl:z.2.length≤8):okZ z.2:=by
 unfold Zfm at h
 split at h
 ·cases h
 rename_i h1
 have hne:z.2≠[]:=fun e=>h1 (.inr (by rw[e];rfl))
 have hg:=Zne h
 refine⟨hne,fun x hx=>?_,fun k hk=>(ZoD (hg k hk)).2.2.2.2.2.1,fun k hk hk2=>?_,hl⟩
 ·obtain⟨k,hk,rfl⟩:=List.getElem_of_mem hx
  obtain⟨_,q2,q3,q4,q5,_⟩:=ZoD (hg k hk)
  exact⟨q2,q3,q4,q5⟩
 obtain⟨_,_,_,_,_,q6,q7⟩:=ZoD (hg k hk)
 exact q7 (by rw[q6];simp;omega)
theorem endV_bd {x:Era}(h1:Zbp x.2.2.2.2.2.1.1 x.2.2.2.2.2.1.2.1 x.2.2.2.2.2.1.2.2=true) (h2:0≤x.2.2.2.2.2.2.1∧x.2.2.2.2.2.2.1≤172800) (h3 : -64800≤xSh x∧xSh x≤64800) : -100000000000≤endV x∧endV x≤300000000000:=by
 have:=ZmT h1
 unfold endV
 split <;> omega
theorem ZlQ {α:Type}{l:List α}{k:Nat}(h:k+1<l.length):l.dropLast.take (k+1)=l.dropLast.take k++[l[k]]:=by
 have hk:k<l.dropLast.length:=by simp;omega
 rw[List.take_succ_eq_append_getElem hk]
 congr 2
 simp
theorem Zjc {es:List Era}{k:Nat}(h:k+1<es.length):(ZaN es).take (k+1)=(ZaN es).take k++[endV es[k]]:=by
 unfold ZaN
 rw[←List.map_take,←List.map_take,ZlQ h,List.map_append,List.map_cons,List.map_nil]
theorem ends_a {nm:ByteArray}{es:List Era}{h:AH}(hz:okZ es):Ac 131 [.agg [sv nm,.sl es.length 10 false (rows eraC es)]] h (.sl (ZaN es).length 1 false (rows intC (ZaN es))):=by
 have hlen:=hz.len
 have hne:=List.length_pos_iff.2 hz.ne
 have hel:=Zc9 es
 refine tW' k131 fun N hn hlt hlA hbd=>?_
 simp only[tb'] at hbd ⊢
 refine wr'<|E' (Zbc (cvl lk0 rfl) rfl (hl0 hn) ha0) pt1<|mv' lkn pt2<|sn'<|wr'<|mv' lkn pt3<|Zaq<|Za1 (ALe.own0' (st':=1) (ty:=3) gt3 (hl1 hn) pt3 ha1)<|Zag<|wr'<|?_
 refine Vw (Zac lk)<|Vw (Zab lk gx gt1)<|Vw (ZaG lk)<|mw<|sn'<|Zam<|?_
 refine w_lp (ι:=Nat) (fun (k:Nat)=>[(3,.own (N+1) k k),(10,iv (k:Int)),(5,.any),(6,.any)]++rn' 11 27) (fun (k:Nat)=>[(1,.mk k 3 1 (rows intC ((ZaN es).take k)))]) (fun (k:Nat)=>k<es.length) (fun (k:Nat)=>es.length-k) (0) (by exact hne) ?_
 rintro k hi1
 try simp only[sm',Nat.reduceAdd]
 replace hi1:k<es.length:=hi1
 refine wr'<|Vw (ZaZ lk lk)<|sn'<|Zag<|?_
 refine Zc6 lk (by exact decide_eq_true om) ?_
 refine Zad<|Zae<|Zag<|Zam<|wr'<|?_
 refine V' (ZaJ lk lk Zb5 (nb' rfl) ro om ro rfl) pt ?_
 refine Vw (ZaF lk ZrD rfl)<|E' (Za7 (hl2 hn) ha2) pt<|E' (Zaj lk cv gx rfl (nb' rfl) rfl Zo7 (hs2 hn)) ptn<|sn'<|Zag<|wr'<|Vw (Zac lk)<|Vw (Zab lk gx gt4)<|sn'<|?_
 have hop:=hz.op k hi1
 have htl:((ZaN es).take k).length=k:=by rw[List.length_take,hel];omega
 refine cd' lk (fun hc2=>?_) (fun hc2=>?_)
 ·rw[show es[k].2.2.2.2.1=decide (k+1=es.length) from hop] at hc2
  have hke:k+1=es.length:=of_decide_eq_true hc2
  refine ZaD<|Zay<|x_pas (Nat.ne_of_beq_eq_false rfl)<|Zay<|Zay<|ZaU<|?_
  refine Za1 (ALe.iceR gx gt3 (List.take_of_length_le (by rw[Zen,htl];omega)) (by rw[Zen,htl];omega) pt3 (hs1 hn)) ?_
  refine wr'<|mw<|mw<|sn'<|Zaa<|Zah rz<|rtW'<|?_
  rw[show k=(ZaN es).length by omega,List.take_length];exact Wk.full
 rw[show es[k].2.2.2.2.1=decide (k+1=es.length) from hop] at hc2
 have hke:k+1<es.length:=by have:=of_decide_eq_false hc2;omega
 obtain⟨hd,ha1,ha2⟩:=hz.un k hi1 hke
 have hsh : -64800≤es[k].1∧es[k].1≤64800:=(hz.fm _ (List.getElem_mem hi1)).2.1
 have hnb:=ZmT hd
 have hdi:=Zcd.1 hd
 have hml:=ZdE es[k].2.2.2.2.2.1.1 es[k].2.2.2.2.2.1.2.1
 refine Zad<|Zae<|Zag<|Za2<|Dw (Zac lk)<|Dw (Zbl lk)<|Dw (Zao lk gx ZrE rfl)<|?_
 refine ZaV mp (fun hE hX=>Zio om om om om om om) pt ?_
 refine D' (Zer lk lki om om) pt ?_
 refine Dw (Zac lk)<|Dw (Zbl lk)<|Dw (Zab lk gx gt8)<|?_
 refine D' (Zax lk lk om om) pt ?_
 refine Dw (v_mv lk)<|Za8<|?_
 refine Zby ?_
 refine sn'<|Zag<|wr'<|Vw (Zac lk)<|Vw (Zbl lk)<|Vw (Zab lk gx gt9)<|Vw (ZaX lk lki)<|sn'<|?_
 refine cd' lk (fun hc3=>?_) (fun hc3=>?_)
 ·have hev:endV es[k]=num es[k].2.2.2.2.2.1.1 es[k].2.2.2.2.2.1.2.1 es[k].2.2.2.2.2.1.2.2*86400+es[k].2.2.2.2.2.2.1-es[k].1:=by unfold endV;rw[if_pos hc3]
  refine Zat<|mw<|Vw (Zac lk)<|Vw (Zab lk gx gt0)<|?_
  refine V' (Zbm lk lk om om) pt ?_
  refine mw<|sn'<|Zat<|mw<|mw<|E' (Zda (Zh5 cv rfl) (hl3 hn) ha3) pt<|?_
  refine E' (Zce (ZbF lk gx rfl Znx (nb' rfl)) lk gx ((Zen _).trans (by rw[htl])) om rfl (hs1 hn)) pt ?_
  refine mw<|Zaq<|ZaA<|Zae<|Zat<|?_
  refine V' (Zax lk lki om om) pt ?_
  refine mw<|Zaq<|ZaB<|?_
  refine lU' (k+1) (by (try dsimp only);omega) (by (try dsimp only);(try simp only[sm',Nat.reduceAdd]);exact bk' 2 hn hlt (by rw[Zjc hke,hev,ZaO,Za5];rfl))
 have hev:endV es[k]=num es[k].2.2.2.2.2.1.1 es[k].2.2.2.2.2.1.2.1 es[k].2.2.2.2.2.1.2.2*86400+es[k].2.2.2.2.2.2.1:=by unfold endV;rw[if_neg hc3,Int.sub_zero]
 refine Zad<|Zae<|Zat<|mw<|mw<|E' (Zda (Zh5 cv rfl) (hl3 hn) ha3) pt<|?_
 refine E' (Zce (ZbF lk gx rfl Znx (nb' rfl)) lk gx ((Zen _).trans (by rw[htl])) om rfl (hs1 hn)) pt ?_
 refine mw<|Zaq<|ZaA<|Zae<|Zat<|?_
 refine V' (Zax lk lki om om) pt ?_
 refine mw<|Zaq<|ZaB<|?_
 refine lU' (k+1) (by (try dsimp only);omega) (by (try dsimp only);(try simp only[sm',Nat.reduceAdd]);exact bk' 2 hn hlt (by rw[Zjc hke,hev,ZaO,Za5];rfl))
theorem rising_a {l:List Int}{full:Bool}{h:AH}(hl:l.length≤9223372036854775807):Ac 138 [.sl l.length 1 full (rows intC l)] h (bv (risL l)):=by
 refine tI' k138 fun N hn hlt hlA hbd=>?_
 simp only[tb'] at hbd ⊢
 refine wr'<|mw<|sn'<|Zag<|wr'<|mw<|sn'<|Zam<|?_
 refine w_lp (ι:=Nat) (fun (k:Nat)=>[(3,iv ((k:Int)+1)),(2,.any)]++rn' 4 16) (fun (k:Nat)=>[]) (fun (k:Nat)=>(k+1≤l.length∨k=0) ∧ ∀ i (h:i+1<l.length),i<k→l[i]<l[i+1]) (fun (k:Nat)=>l.length-k) (0) (by exact⟨.inr rfl,fun i _ h=>by omega⟩) ?_
 rintro k hi1
 try simp only[sm',Nat.reduceAdd]
 obtain⟨hk1,hk2⟩:=hi1
 refine Zag<|wr'<|mw<|mw<|Vw (ZaG lk)<|Vw (ZaZ lk lk)<|sn'<|?_
 refine cd' lk (fun hc1=>?_) (fun hc1=>?_)
 ·have hk:k+1<l.length:=by omega
  refine Zad<|Zae<|Zag<|Zam<|Zag<|Za2<|Dw (v_mv lk)<|Dw (v_mv lk)<|?_
  refine D' (ZaJ (k:=k+1) lk lk Za6 (nb' rfl) ro om ro rfl) pt ?_
  refine Dw (Zar lk gt)<|Dw (v_mv lk)<|Dw (v_mv lk)<|?_
  refine D' (Zbm lk lki om om) pt ?_
  refine D' (ZaJ (k:=k) lk lk Za6 (nb' rfl) ro om ro rfl) pt ?_
  refine Dw (Zar lk gt)<|Dw (Zc0 lk lk)<|Za8<|?_
  refine Zby ?_
  refine sn' ?_
  refine cd' lk (fun hc2=>?_) (fun hc2=>?_)
  ·have hR:risL l=false:=Zkb hk om
   refine wr'<|mw<|sn'<|Zaa<|Zas<|Zai<|Zai<|Zas<|Zai<|Zah rz<|rT'<|?_
   rw[hR]
  refine Zad<|ZaA<|Zae<|Zat<|mw<|?_
  refine V' (Zax lk lki om om) pt ?_
  refine mw<|Zaq<|ZaB<|?_
  refine lU' (k+1) (by (try dsimp only);exact⟨by omega,fun i hi h=>by by_cases e:i=k;(subst e;omega);exact hk2 i hi om⟩) (by (try dsimp only);(try simp only[sm',Nat.reduceAdd]);exact ALe.same (by repeat (first | exact wk0 | refine wka ?_ | refine wk1 rfl ?_ | refine wk1 (by first | rfl | exact ivx om) ?_)) rfl)
 refine ZaD<|Zay<|Zay<|ZaU<|Zae<|wr'<|mw<|sn'<|Zaa<|Zah rz<|rT'<|?_
 exact bvx (ZiS fun i hi=>hk2 i hi om).symm
theorem check1_a {z:Zon}{h:AH}(hz:okZ z.2):Ac 137 [.agg (zonC z)] h (bv (!risL (ZaN z.2))):=by
 obtain⟨nm,es⟩:=z
 have hel:(ZaN es).length=es.length-1:=Zc9 es
 have hlen:es.length≤8:=hz.len
 refine tI' k137 fun N hn hlt hlA hbd=>?_
 simp only[tb'] at hbd ⊢
 refine wr'<|E' (Zbc cv rfl (hl0 hn) ha0) pt<|mw<|sn'<|wr'<|Vw (Zao lk gx ZrF rfl)<|Zaf mp (ends_a hz) pt<|?_
 refine Zaf mp (rising_a (show (ZaN es).length≤9223372036854775807 by omega)) pt ?_
 exact Vw (ZaC lk)<|mw<|sn'<|Zaa<|Zah rz<|rT' rfl
theorem eras_a {a:List Rul}{z:List Zon}{k:List Lnk}{h:AH}:Ac 135 [.agg [.sl a.length 11 false (rows rulC a),.sl z.length 2 false (rows zonC z),.sl k.length 2 false (rows lnkC k)]] h (.clo (.func 217) [.rp [.sl a.length 11 false (rows rulC a),.sl z.length 2 false (rows zonC z),.sl k.length 2 false (rows lnkC k)]]):=by
 refine tI' k135 fun N hn hlt hlA hbd=>?_
 simp only[tb'] at hbd ⊢
 refine wr'<|E' (Zbc cv rfl (hl0 hn) ha0) pt<|mv' rfl pt<|Zaq<|?_
 refine Za1 (ALe.icePtr gx gt1 (by simp) pt1 (hs0 hn)) ?_
 exact wr'<|Vw (ZgG mp)<|mw<|sn'<|Zaa<|Zah rz<|rT' rfl
theorem look1p_a {nm:ByteArray}{l:Lnk}{id:Nat}{h:AH}(he:h[id]?=some (.mk 0 9 1 [sv nm])):Ac 219 [.agg (lnkC l),.ptr id 0 0] h (bv (decide (l.2=nm))):=by
 refine tI' k219 fun N hn hlt hlA hbd=>?_
 simp only[tb'] at hbd ⊢
 refine wr'<|E' (Zbc cv rfl (hl0 hn) ha0) pt<|mw<|sn'<|wr'<|Vw (Zac lk)<|Vw (Zab lk gx gt1)<|Vw (Zab lk (Zfc he) gt0)<|Vw (Zch lk lk)<|mw<|Zaq<|?_
 exact Zae<|Zaa<|Zah rz<|rT' rfl
def ZgY (s:Src) (nm:ByteArray):Int:=Zfb s.2.1 (match s.2.2[s.2.2.findIdx fun l=>decide (l.2=nm)]? with
 | some l=>l.1
 | none=>nm)
theorem look_a {a:List Rul}{z:List Zon}{k:List Lnk}{nm:ByteArray}{h:AH}(hz:z.length≤9223372036854775807) (hk:k.length≤9223372036854775807):Ac 139 [.agg [.sl a.length 11 false (rows rulC a),.sl z.length 2 false (rows zonC z),.sl k.length 2 false (rows lnkC k)],sv nm] h (iv (ZgY (a,z,k) nm)):=by
 have hkk:=hk
 refine tI' k139 fun N hn hlt hlA hbd=>?_
 simp only[tb'] at hbd ⊢
 refine wr'<|E' (Zbc cv rfl (hl0 hn) ha0) pt<|E' (Zbc cv rfl (hl1 hn) ha1) pt<|mw<|sn'<|wr'<|Vw (Zac lk)<|Vw (Zab lk gx gt2)<|Vw (ZgG mp)<|?_
 refine Zaf mp (Zp6 (p:=fun l:Lnk=>decide (l.2=nm)) (fun c _ E=>look1p_a (Zfc gx)) hkk) pt ?_
 refine mw<|sn'<|Zag<|wr'<|mw<|Vw (Zf6 lk lki)<|sn'<|?_
 refine cd' lk (fun hc1=>?_) (fun hc1=>?_)
 ·have hlt':k.findIdx (fun l:Lnk=>decide (l.2=nm))<k.length:=by unfold idxV at hc1;split at hc1;assumption;omega
  have hix:idxV (fun l:Lnk=>decide (l.2=nm)) k=((k.findIdx fun l:Lnk=>decide (l.2=nm):Nat):Int):=if_pos hlt'
  refine Zat<|Vw (Zac lk)<|Vw (Zab lk gx gt2)<|mw<|?_
  refine V' (ZaJ (k:=k.findIdx fun l:Lnk=>decide (l.2=nm)) lk lk ZcM (nb' rfl) ro om ro rfl) pt ?_
  refine Vw (ZaR lk dp0)<|Vw (Zar lk gt)<|E' (Zaj lk cv gx rfl (nb' rfl) rfl ZrH (hs1 hn)) ptn<|sn'<|wr'<|Vw (Zao lk gx ZhN rfl)<|Vw (Zab lk gx gt0)<|Zaf mp (Zod hz) pt<|mw<|sn'<|Zaa<|?_
  refine Zah rz<|rT'<|?_
  refine ivx ?_;unfold ZgY;rw[show (a,z,k).2.2[(a,z,k).2.2.findIdx fun l=>decide (l.2=nm)]?=some k[k.findIdx fun l:Lnk=>decide (l.2=nm)] from List.getElem?_eq_getElem hlt']
 have hlt':¬k.findIdx (fun l:Lnk=>decide (l.2=nm))<k.length:=fun h=>hc1 (by unfold idxV;rw[if_pos h];omega)
 refine Zad<|Zae<|wr'<|Vw (Zao lk gx ZhN rfl)<|Vw (Zab lk gx gt0)<|Zaf mp (Zod hz) pt<|mw<|sn'<|Zaa<|Zah rz<|rT'<|?_
 refine ivx ?_;unfold ZgY;rw[show (a,z,k).2.2[(a,z,k).2.2.findIdx fun l=>decide (l.2=nm)]?=none from List.getElem?_eq_none (Nat.le_of_not_lt hlt')]
theorem repl_one {s lt:Bs}:Lib.replace s [37,115] lt 1=if (Lib.cut s [37,115]).2.2=true then (Lib.cut s [37,115]).1++lt++(Lib.cut s [37,115]).2.1 else s:=by
 have hge:=Lib.index_ge s [37,115]
 unfold Lib.cut
 by_cases h0:0≤Lib.index s [37,115]
 ·rw[if_pos h0]
  obtain⟨i,hi⟩ : ∃ i:Nat,Lib.index s [37,115]=i:=⟨(Lib.index s [37,115]).toNat,by omega⟩
  simp only[if_true,hi,Int.toNat_natCast,List.length_cons,List.length_nil]
  unfold Lib.replace
  split
  ·rename_i e
   have e:[37,115]=lt:=by simpa using e
   subst e
   rcases Lib.index_spec s [37,115] with ⟨h1,_⟩ | ⟨j,h1,h2,h3,_⟩
   ·omega
   obtain rfl:i=j:=by omega
   have h4:[37,115] <+: s.drop i:=by simpa [Lib.occAt] using h3
   obtain⟨t,ht⟩:=h4
   have e2:s.drop (i+2)=t:=by rw[←List.drop_drop,←ht];rfl
   rw[e2,List.append_assoc,ht,List.take_append_drop]
  have hc:0<Lib.count s [37,115]:=by rw[Lib.count_hit (by simp) hi];omega
  unfold Lib.replaceNum
  rw[if_neg om]
  rw[show (1:Int).toNat=0+1 from rfl,Lib.replaceK_hit _ _ _ _ _ hi]
  rfl
 rw[if_neg h0]
 simp only[Bool.false_eq_true,if_false]
 unfold Lib.replace
 split
 ·rfl
 have hm:Lib.index s [37,115] = -1:=by omega
 unfold Lib.replaceNum
 rw[if_pos (.inr (by rw[Lib.count_miss hm];simp)),Lib.count_miss hm];rfl
theorem Ztf {s lt:ByteArray}{h:AH}(h1:s.size≤24) (h2:lt.size≤24):Ac 321 [sv s,sv (bA [37,115]),sv lt,iv 1] h (sv (if (cutL s [37,115]).2.2=true then bA ((cutL s [37,115]).1++aB lt++(cutL s [37,115]).2.1) else s)):=by
 refine ACalls.of_below (by kernel_rfl) fun w g vs hs ha=>?_
 simp only[RepL,Rep] at ha
 obtain⟨u1,us1,e1,rfl,u2,us2,rfl,rfl,u3,us3,rfl,rfl,u4,us4,rfl,rfl,rfl⟩:=ha
 obtain rfl:vs = #[.string s,.string (bA [37,115]),.string lt,.int .i64 1]:=by cases vs;simp_all
 obtain⟨m,hm⟩:=hs.glob.w.maxLen
 have hc:=Lib.countB_le (bA [37,115]) (by decide) s.size s (Nat.le_refl _)
 have hc2:Lib.countB s (bA [37,115])*lt.size≤24*24:=Nat.mul_le_mul om h2
 refine (Tryz.strings_Replace s (bA [37,115]) lt 1 m w om hm (by decide) om).mono ?_
 rintro e w' ⟨rfl,hb⟩
 refine⟨_,rfl,hb,?_⟩
 simp only[Rep]
 have:=repl_one (s:=aB s) (lt:=aB lt)
 show Value.string (bA (Lib.replace (aB s) [37,115] (aB lt) 1))=_
 rw[this]
 unfold cutL
 split <;> rfl
theorem named_a {fm lt:ByteArray}{sa:Int}{h:AH}(h1:fm.size≤24) (h2:lt.size≤24):Ac 281 [sv fm,sv lt,iv sa] h (sv (Zf7 fm lt sa)):=by
 refine tI' k281 fun N hn hlt hlA hbd=>?_
 simp only[tb'] at hbd ⊢
 refine wr'<|mw<|sn'<|wr'<|mw<|Zaf mp (cut1_a h1) pt<|mw<|Vw (Zbi lk gt)<|Vw (Zbi lk gt)<|Vw (Zbi lk gt)<|mw<|?_
 refine mw<|mw<|sn'<|Zag<|Zam<|wr'<|mw<|Vw (ZaC lk)<|mw<|sn'<|?_
 refine Zaz lk (fun hc1=>?_) (fun hc1=>?_)
 ·refine wr'<|mw<|mw<|Zaf mp (Ztf h1 h2) pt<|mw<|sn'<|Zaa<|Zas<|Zai<|Zah rz<|rT'<|?_
  unfold Zf7;exact congrArg (fun z=>sv z) (if_neg (by have:=hc1;rw[Bool.not_eq_true'] at this;rw[this];simp)).symm
 refine wr'<|mw<|Vw (Zbz lk lki)<|mw<|sn'<|?_
 refine cd' lk (fun hc2=>?_) (fun hc2=>?_)
 ·refine wr'<|mw<|mw<|sn'<|Zaa<|Zas<|Zai<|Zah rz<|rT'<|?_
  unfold Zf7;rw[if_pos (by have:=hc1;rwa [Bool.not_eq_false'] at this),if_pos hc2]
 refine Zad<|ZaA<|Zae<|wr'<|mw<|mw<|sn'<|Zaa<|Zah rz<|rT'<|?_
 unfold Zf7;rw[if_pos (by have:=hc1;rwa [Bool.not_eq_false'] at this),if_neg hc2]
theorem Zoj {x:Era}{t:Tim}{h:AH}(h1:(xFm x).size≤24) (h2:t.2.2.size≤24) (h3 : -64800≤xSh x∧xSh x≤64800) (h4:0≤t.2.1∧t.2.1≤10800):ACalls Tryz.prog 220 [.agg (eraC x),.agg (timC t)] h fun y h'=>h'=h∧y=.ret (.agg [iv (locV x t.2.1 t.2.2).1,iv (locV x t.2.1 t.2.2).2.1,sv (locV x t.2.1 t.2.2).2.2]):=by
 obtain⟨sh,rl,sa,fm,op,⟨⟨y,m,d⟩,a,c⟩⟩:=x
 obtain⟨at_,sv_,lt⟩:=t
 simp only[xFm,xSh] at h1 h3
 simp only at h2 h4
 show ACalls _ _ [.agg [iv sh,sv rl,iv sa,sv fm,bv op,iv y,iv m,iv d,iv a,iv c],.agg [iv at_,iv sv_,sv lt]] h _
 refine tI' k220 fun N hn hlt hlA hbd=>?_
 simp only[tb'] at hbd ⊢
 refine wr'<|E' (Zbc cv rfl (hl0 hn) ha0) pt<|E' (Zbc cv rfl (hl1 hn) ha1) pt<|E' (Za7 (hl2 hn) ha2) pt<|sn'<|Zag<|Za2<|Dw (Zac lk)<|Dw (Zab lk gx gt0)<|Dw (Zac lk)<|Dw (Zab lk gx gt1)<|?_
 refine D' (Zax lk lk om om) pt ?_
 refine Dw (Zac lk)<|Dw (Zab lk gx gt1)<|Dw (Zac lk)<|Dw (Zab lk gx gt3)<|Dw (Zac lk)<|Dw (Zab lk gx gt2)<|Dw (Zac lk)<|Dw (Zab lk gx gt1)<|?_
 refine ZaV mp (fun hE hX=>named_a h1 h2) pt ?_
 refine Dw (Zaw (Zl4 cv rfl cv rfl cv rfl))<|Za8<|?_
 refine Zby ?_
 exact E' (Zaj lk cv gx rfl (nb' rfl) rfl ZrG (hs2 hn)) ptn<|sn'<|Zaa<|Zah (rs1 (rr_c gt gx (ld1 ZhN rfl)))<|rT' rfl
theorem cut1p_a {c:Chg}{e:Int}{h:AH}:ACalls Tryz.prog 222 [.agg (chgC c),.rp [iv e]] h fun y h'=>h'=h∧y=.ret (bv (decide (e≤c.1))):=by
 obtain⟨c1,c2,c3,c4⟩:=c
 refine tI' k222 fun N hn hlt hlA hbd=>?_
 simp only[tb'] at hbd ⊢
 refine wr'<|E' (Zbc cv rfl (hl0 hn) ha0) pt<|mw<|sn'<|wr'<|Vw (Zac lk)<|Vw (Zab lk gx gt0)<|Vw (Zar lk gt)<|Vw (Zf6 lk lk)<|mw<|Zaq<|?_
 refine Zae<|Zaa<|Zah rz<|rT'<|?_
 exact bvx (by first | rfl | (rw[Bool.eq_iff_iff];simp))
theorem Zus {l:List Chg}{e:Int}:cutV l e=l.take (l.findIdx fun c=>decide (e≤c.1)):=by
 unfold cutV
 induction l with
 | nil=>rfl
 | cons c l ih =>
  rw[List.takeWhile_cons,List.findIdx_cons]
  by_cases h:c.1<e
  ·rw[if_pos (by simpa using h),ih,show decide (e≤c.1)=false by simp;omega];rfl
  rw[if_neg (by simpa using h),show decide (e≤c.1)=true by simp;omega];rfl
theorem zcut_a {l:List Chg}{e:Int}{full:Bool}{h:AH}(hl:l.length≤9223372036854775807):ACalls Tryz.prog 143 [.sl l.length 4 full (rows chgC l),iv e] h fun y h'=>h'=h∧y=.ret (.sl (cutV l e).length 4 false (rows chgC (cutV l e))):=by
 have hll:=hl
 refine tW' k143 fun N hn hlt hlA hbd=>?_
 simp only[tb'] at hbd ⊢
 refine wr'<|E' (Zbc cv rfl (hl0 hn) ha0) pt<|mw<|Zaq<|?_
 refine Za1 (ALe.icePtr gx gt3 (by simp) pt3 (hs0 hn)) ?_
 refine wr'<|mw<|Vw (ZgG mp)<|?_
 refine Zaf mp (ixPrtC_a (p:=fun c:Chg=>decide (e≤c.1)) (fun c _ _=>cut1p_a) hll) pt ?_
 refine mw<|sn'<|Zag<|wr'<|mw<|Vw (ZaZ lk lki)<|sn'<|?_
 refine cd' lk (fun hc1=>?_) (fun hc1=>?_)
 ·have hi:¬l.findIdx (fun c:Chg=>decide (e≤c.1))<l.length:=by unfold idxV at hc1;split at hc1;omega;assumption
  refine wr'<|mw<|mw<|sn'<|Zaa<|Zai<|Zah rz<|rtW'<|?_
  rw[Zus,List.take_of_length_le om];exact Wk.full
 have hi:l.findIdx (fun c:Chg=>decide (e≤c.1))<l.length:=by unfold idxV at hc1;split at hc1;assumption;omega
 have hix:idxV (fun c:Chg=>decide (e≤c.1)) l=((l.findIdx fun c:Chg=>decide (e≤c.1):Nat):Int):=if_pos hi
 refine Zad<|Zae<|wr'<|mw<|mw<|?_
 refine V' (v_hi (k:=l.findIdx fun c:Chg=>decide (e≤c.1)) lk lk Zcn ro om ro) pt ?_
 refine mw<|sn'<|Zaa<|Zah rz<|rtW'<|?_
 rw[Zus,List.length_take,Nat.min_eq_left (Nat.le_of_lt hi)];exact Wk.full
end Go.Proofs.YtlekejpogddndaaGreatDoor
end
section
namespace Go.Proofs.YtlekejpogddndaaGreatDoor
open Go.Ab Go.RowKit Civ
attribute [local simp] Zbw ZbM ZbG ZbL Zcv Zd3
section
theorem Zu1 {a0 a1:AV}{l:List AV}:(a0::a1::l).take 2=[a0,a1]:=rfl
theorem ZrC {a0 a1 c0 c1:AV}{l:List AV}:setCells (a0::a1::l) 0 [c0,c1]=c0::c1::l:=rfl
theorem ZrB {a0 a1 a2 a3 a4 a5 a6 a7 a8 a9:AV}{l:List AV}:(a0::a1::a2::a3::a4::a5::a6::a7::a8::a9::l).take 10=[a0,a1,a2,a3,a4,a5,a6,a7,a8,a9]:=rfl
theorem Zjr {a0 a1 a2 a3 a4 a5 a6 a7 a8 a9 c0 c1 c2 c3 c4 c5 c6 c7 c8 c9:AV}{l:List AV}:setCells (a0::a1::a2::a3::a4::a5::a6::a7::a8::a9::l) 0 [c0,c1,c2,c3,c4,c5,c6,c7,c8,c9]=c0::c1::c2::c3::c4::c5::c6::c7::c8::c9::l:=rfl
theorem Zo6 {a0 a1 a2 a3 a4 a5 a6 a7 a8 a9:AV}{l:List AV}:((a0::a1::a2::a3::a4::a5::a6::a7::a8::a9::l).drop 0).take 10=[a0,a1,a2,a3,a4,a5,a6,a7,a8,a9]:=rfl
theorem ZhM {a0 c0:AV}{l:List AV}:setCells (a0::l) 0 [c0]=c0::l:=rfl
theorem Zu0 {a0 a1 a2:AV}{l:List AV}:(a0::a1::a2::l).take 3=[a0,a1,a2]:=rfl
end
def c217:AC:=(Sr [Fa 7 1 1,Ld 8 7,Oo 9 (.len false (.tmp 8)),Mc 10 0] (.block 0 (.loop (Sr [Bn 11 .lss 10 9] (.seq (Cd 11 .skip (.exit 0)) (.seq (.block 1 (Sr [Oo 12 (.ia 2 (.tmp 8) (.tmp 10)),Oo 13 (.load true 2 (.tmp 12)),Oo 4 (.new 53 2 [Ss,(.sl 0 0 true [])]),⟨none,none,(.store 2 (.tmp 4) (.tmp 13))⟩] (Sr [Fa 14 1 4,Ld 15 14,Oo 16 (.len false (.tmp 15)),Mc 17 0] (.block 2 (.loop (Sr [Bn 18 .lss 17 16] (.seq (Cd 18 .skip (.exit 2)) (.seq (.block 3 (Sr [Oo 19 (.ia 10 (.tmp 15) (.tmp 17)),Oo 20 (.load true 10 (.tmp 19)),Oo 6 (.new 63 10 [(iv 0),Ss,(iv 0),Ss,(.v (.bool false)),(iv 0),(iv 0),(iv 0),(iv 0),(iv 0)]),⟨none,none,(.store 10 (.tmp 6) (.tmp 20))⟩] (Sr [Mv 21 0,Oo 22 (.load true 10 (.tmp 6)),Oo 23 (.call (.tmp 21) [(.tmp 22)]),Oo 24 (.un .not (.tmp 23))] (Cd 24 .ret .skip)))) (.reg [Bc 25 .add 17 1,Mv 17 25]))))))))) (.reg [Bc 26 .add 10 1,Mv 10 26])))))))
theorem k217:ZaE Tryz.prog 217=some ⟨c217,[],27⟩:=by kernel_rfl
def c134p:AC:=(.seq (.reg [⟨(some 1),none,(.box 26 3 (.tmp 0))⟩,⟨(some 2),none,(.new 4 1 [(.v (.bool false))])⟩]) (.seq (.reg [⟨(some 4),none,(.fa 2 (.tmp 1))⟩,⟨(some 5),none,(.load false 1 (.tmp 4))⟩,⟨(some 6),none,(.mkfn 214 [(.tmp 1)])⟩,⟨(some 7),none,(.call (.func 213) [(.tmp 5),(.tmp 6)])⟩]) (.seq (.cond (.tmp 7) (.seq (.reg [⟨none,none,(.store 1 (.tmp 2) (.const (.bool true)))⟩]) .ret) .skip) (.seq (.reg [⟨(some 8),none,(.load true 3 (.tmp 1))⟩,⟨(some 9),none,(.call (.func 135) [(.tmp 8)])⟩]) .skip))))
def c134a:AC:=(.reg [⟨(some 3),none,(.new 63 10 [(.v (.int .i64 0)),(.v (.string ⟨#[]⟩)),(.v (.int .i64 0)),(.v (.string ⟨#[]⟩)),(.v (.bool false)),(.v (.int .i64 0)),(.v (.int .i64 0)),(.v (.int .i64 0)),(.v (.int .i64 0)),(.v (.int .i64 0))])⟩,⟨none,none,(.store 10 (.tmp 3) (.tmp 10))⟩])
def c134b:AC:=(.block 1 (.seq (.reg [⟨(some 11),none,(.fa 1 (.tmp 3))⟩,⟨(some 12),none,(.load false 1 (.tmp 11))⟩,⟨(some 13),none,(.bin .neq (.tmp 12) (.const (.string ⟨#[]⟩)))⟩,⟨(some 14),none,(.mv (.tmp 13))⟩,⟨(some 15),(some (14,true)),(.fa 0 (.tmp 1))⟩,⟨(some 16),(some (14,true)),(.load false 1 (.tmp 15))⟩,⟨(some 17),(some (14,true)),(.mkfn 216 [(.tmp 3)])⟩,⟨(some 18),(some (14,true)),(.call (.func 157) [(.tmp 16),(.tmp 17)])⟩,⟨(some 19),(some (14,true)),(.un .not (.tmp 18))⟩,⟨(some 20),none,(.pick (.tmp 14) (.tmp 19) (.const (.bool false)))⟩]) (.cond (.tmp 20) (.seq (.reg [⟨none,none,(.store 1 (.tmp 2) (.const (.bool true)))⟩]) .ret) .skip)))
def c134q:AC:=(.seq (.reg [⟨none,none,(.store 1 (.tmp 2) (.const (.bool false)))⟩]) (.seq .ret .skip))
abbrev fr134:AFR:=⟨[(.reg [⟨(some 1),none,(.box 26 3 (.tmp 0))⟩,⟨(some 2),none,(.new 4 1 [(.v (.bool false))])⟩]),(.reg [⟨(some 4),none,(.fa 2 (.tmp 1))⟩,⟨(some 5),none,(.load false 1 (.tmp 4))⟩,⟨(some 6),none,(.mkfn 214 [(.tmp 1)])⟩,⟨(some 7),none,(.call (.func 213) [(.tmp 5),(.tmp 6)])⟩]),(.cond (.tmp 7) (.seq (.reg [⟨none,none,(.store 1 (.tmp 2) (.const (.bool true)))⟩]) .ret) .skip),(.reg [⟨(some 8),none,(.load true 3 (.tmp 1))⟩,⟨(some 9),none,(.call (.func 135) [(.tmp 8)])⟩])],(.tmp 9),#[10],c134a,c134b,c134q,[(.cell 2 false 1)],21⟩
theorem k134:Zh3 Tryz.prog 134=some fr134:=by kernel_rfl
def ZcT (z:List Zon):List Era:=z.flatMap (·.2)
theorem Zgr {z:List Zon}{i j:Nat}(hi:i<z.length) (hj:j<z[i].2.length) : ∃ r,ZcT z=ZcT (z.take i)++(z[i].2.take j++z[i].2[j]::r):=by
 refine⟨z[i].2.drop (j+1)++ZcT (z.drop (i+1)),?_⟩
 have e:z=z.take i++z[i]::z.drop (i+1):=by rw[←List.drop_eq_getElem_cons hi,List.take_append_drop]
 have e2:z[i].2=z[i].2.take j++z[i].2[j]::z[i].2.drop (j+1):=by rw[←List.drop_eq_getElem_cons hj,List.take_append_drop]
 have h1:ZcT z=ZcT (z.take i++z[i]::z.drop (i+1)):=by rw[←e]
 rw[h1]
 unfold ZcT
 rw[List.flatMap_append,List.flatMap_cons]
 have h2:z[i].2++(z.drop (i+1)).flatMap (·.2)=z[i].2.take j++z[i].2[j]::(z[i].2.drop (j+1)++(z.drop (i+1)).flatMap (·.2)):=by
  conv=>lhs;rw[e2]
  rw[List.append_assoc];rfl
 rw[h2]
theorem ZhI {z:List Zon}{i:Nat}(hi:i<z.length):ZcT (z.take (i+1))=ZcT (z.take i)++z[i].2:=by
 unfold ZcT
 rw[List.take_succ_eq_append_getElem hi,List.flatMap_append,List.flatMap_cons,List.flatMap_nil,List.append_nil]
theorem Znb {p:Era→Bool}{l m r:List Era}{x:Era}(hl : ∀ y∈l,p y=false) (hm : ∀ y∈m,p y=false) (hx:p x=true):(l++(m++x::r)).find? p=some x:=by
 rw[List.find?_append,List.find?_eq_none.2 (fun y hy=>by rw[hl y hy];simp),Option.none_or,List.find?_append,List.find?_eq_none.2 (fun y hy=>by rw[hm y hy];simp),Option.none_or,List.find?_cons,hx]
def stopH (h:AH) (hS:Era→AH):Option Era→AH
 | none=>h
 | some x=>hS x
theorem Zum {a:List Rul}{z:List Zon}{k:List Lnk}{lp:Nat}{h:AH}{p:Era→Bool}{hS:Era→AH}(hz:z.length≤20) (hz2 : ∀ y∈z,y.2.length≤8) (hSl : ∀ x,(hS x).length=h.length) (hSlt : ∀ x,∀ e∈hS x,e.lt h.length=true)
  (hY : ∀ x∈ZcT z,∀ e f:Ent,p x=false→AYield Tryz.prog lp [.agg (eraC x)] (h++[e,f]) fun r h''=>r=.ret (.v (.bool true))∧h''=h++[e,f])
  (hN : ∀ x∈ZcT z,∀ e f:Ent,p x=true→AYield Tryz.prog lp [.agg (eraC x)] (h++[e,f]) fun r h''=>r=.ret (.v (.bool false))∧h''=hS x++[e,f]) :
  ACalls Tryz.prog 217 [.v (.func (.yield lp) #[] #[]),.rp [.sl a.length 11 false (rows rulC a),.sl z.length 2 false (rows zonC z),.sl k.length 2 false (rows lnkC k)]] h fun y h'=>y=.ret (.tup [])∧h'=stopH h hS ((ZcT z).find? p):=by
 refine tJ' k217 fun N hn hlt hlA hbd=>?_
 simp only[tb'] at hbd ⊢
 refine wr'<|Vw (ZaR lk dp1)<|Vw (Zar lk gt)<|Vw (ZaG lk)<|mw<|sn'<|Zam<|?_
 refine w_lp (ι:=Nat) (fun (i:Nat)=>[(10,iv (i:Int)),(4,.any),(6,.any)]++rn' 11 16) (fun (i:Nat)=>[]) (fun (i:Nat)=>i≤z.length ∧ ∀ x∈ZcT (z.take i),p x=false) (fun (i:Nat)=>z.length-i) (0) (by exact⟨Nat.zero_le _,fun x hx=>by cases hx⟩) ?_
 rintro i hi1
 try simp only[sm',Nat.reduceAdd]
 obtain⟨hk1,hk2⟩:=hi1
 refine wr'<|Vw (ZaZ lk lk)<|sn'<|Zag<|?_
 refine cd' lk (fun hc1=>?_) (fun hc1=>?_)
 ·have hi:i<z.length:=by omega
  have hz3:=hz2 _ (List.getElem_mem hi)
  refine Zad<|Zae<|Zag<|Zam<|wr'<|?_
  refine V' (ZaJ lk lk ZbI (nb' rfl) ro om ro rfl) pt ?_
  refine Vw (ZaF lk Zu1 rfl)<|E' (Za7 (hl0 hn) ha0) pt<|E' (Zaj lk cv gx rfl (nb' rfl) rfl ZrC (hs0 hn)) ptn<|sn'<|wr'<|Vw (Zac lk)<|Vw (Zab lk gx gt1)<|?_
  refine V' ((by first | exact ZaG lk | exact Zb7 lk)) pt ?_
  refine mw<|sn'<|Zam<|?_
  refine w_lp (ι:=Nat) (fun (j:Nat)=>[(17,iv (j:Int)),(6,.any)]++rn' 18 8) (fun (j:Nat)=>[]) (fun (j:Nat)=>j≤z[i].2.length ∧ ∀ x∈z[i].2.take j,p x=false) (fun (j:Nat)=>z[i].2.length-j) (0) (by exact⟨Nat.zero_le _,fun x hx=>by cases hx⟩) ?_
  rintro j hi2
  try simp only[sm',Nat.reduceAdd]
  obtain⟨hj1,hj2⟩:=hi2
  refine wr'<|Vw (ZaZ lk lk)<|sn'<|Zag<|?_
  refine cd' lk (fun hc2=>?_) (fun hc2=>?_)
  ·have hj:j<z[i].2.length:=by omega
   obtain⟨rr,hrr⟩:=Zgr hi hj
   have hmem:z[i].2[j]∈ZcT z:=by rw[hrr];simp
   refine Zad<|Zae<|Zag<|Zam<|wr'<|?_
   refine V' (ZaJ lk lk Zb5 (nb' rfl) ro om ro rfl) pt ?_
   refine Vw (ZaF lk ZrB rfl)<|E' (Za7 (hl1 hn) ha1) pt<|E' (Zaj lk cv gx rfl (nb' rfl) rfl Zjr (hs1 hn)) ptn<|sn'<|wr'<|mw<|Vw (Zao lk gx Zo6 rfl)<|?_
   by_cases hs21:p z[i].2[j]=true
   ·refine Zs9 lk mp (hN _ hmem _ _ hs21) pt<|Vw (ZaC lk)<|sn'<|ZaH lk<|Zaa<|Zas<|Zai<|Zai<|Zas<|Zas<|Zai<|Zai<|Zas<|?_
    refine Zah (rs0) ?_
    exact⟨_,_,rfl,(hSl _).trans hn,by rw[←hn];exact hSlt _,rfl,rfl,by rw[hrr,Znb hk2 hj2 hs21];rfl⟩
   refine Zs9 lk mp (hY _ hmem _ _ (by simpa using hs21)) pt ?_
   refine Vw (ZaC lk)<|sn'<|ZaT lk<|Zad<|ZaA<|Zae<|Zat<|?_
   refine V' (Zax lk lki om om) pt ?_
   refine mw<|Zaq<|ZaB<|?_
   refine lU' (j+1) (by (try dsimp only);refine⟨by omega,fun x hx=>?_⟩;rw[List.take_succ_eq_append_getElem hj] at hx;rcases List.mem_append.1 hx with hx | hx;exact hj2 x hx;simp only[List.mem_singleton] at hx;subst hx;simpa using hs21) (by (try dsimp only);(try simp only[sm',Nat.reduceAdd]);exact bk' 1 hn hlt)
  have hje:z[i].2.length≤j:=by omega
  rw[List.take_of_length_le hje] at hj2
  refine ZaD<|Zay<|Zay<|ZaU<|ZaA<|Zae<|Zat<|?_
  refine V' (Zax lk lki om om) pt ?_
  refine mw<|Zaq<|ZaB<|?_
  refine lU' (i+1) (by (try dsimp only);refine⟨by omega,fun x hx=>?_⟩;rw[ZhI hi] at hx;rcases List.mem_append.1 hx with hx | hx;exact hk2 x hx;exact hj2 x hx) (by (try dsimp only);(try simp only[sm',Nat.reduceAdd]);exact bk' 0 hn hlt)
 rw[List.take_of_length_le om] at hk2
 refine ZaD<|Zay<|Zay<|ZaU<|w_end (rs0)<|?_
 exact⟨_,_,rfl,hn,hlt,rfl,rfl,by rw[List.find?_eq_none.2 (fun y hy=>by rw[hk2 y hy];simp)];rfl⟩
theorem miss2p_a {r:Rul}{x:Era}{id:Nat}{h:AH}(he:h[id]?=some (.mk 0 63 10 (eraC x))):ACalls Tryz.prog 216 [.agg (rulC r),.ptr id 0 0] h fun x' h'=>h'=h∧x'=.ret (bv (decide (r.1=xRl x))):=by
 obtain⟨n,f,t,m,⟨k,w,d⟩,a,c,s,lt⟩:=r
 refine tI' k216 fun N hn hlt hlA hbd=>?_
 simp only[tb'] at hbd ⊢
 refine wr'<|E' (Zbc cv rfl (hl0 hn) ha0) pt<|mw<|sn'<|wr'<|Vw (Zac lk)<|Vw (Zab lk gx gt0)<|Vw (Zac lk)<|Vw (Zab lk (Zfc he) gt1)<|Vw (Zch lk lk)<|mw<|?_
 exact sn'<|Zaa<|Zah rz<|rT' rfl
abbrev srcB (a:List Rul) (z:List Zon) (k:List Lnk):List AV:=[.sl a.length 11 false (rows rulC a),.sl z.length 2 false (rows zonC z),.sl k.length 2 false (rows lnkC k)]
abbrev ergH (h:AH) (D l ty:Nat) (o:Obj) (T:List AV) (vs:List Value) (c:AV):AH:=h++[.gone,.mk 0 ty 1 [c],mkD D,.raw l o T vs]
abbrev ergJ (h:AH) (D l ty:Nat) (o:Obj) (T:List AV) (vs:List Value) (c:AV) (e f:Ent):AH:=h++[.gone,.mk 0 ty 1 [c],mkD D,.raw l o T vs,e,f]
theorem ZhH {h:AH}{D l ty:Nat}{o:Obj}{T:List AV}{vs:List Value}{c:AV}{e f:Ent}:ergH h D l ty o T vs c++[e,f]=ergJ h D l ty o T vs c e f:=by simp
theorem Zul {h:AH}{D l ty N:Nat}{o:Obj}{T:List AV}{vs:List Value}{c:AV}(hlt : ∀ e∈h,e.lt N=true) (hT:AV.ltL (N+4) T=true) (hc:c.lt (N+4)=true) : ∀ e∈ergH h D l ty o T vs c,e.lt (N+4)=true:=by
 intro e he
 rcases List.mem_append.1 he with he | he
 ·exact ltw om hlt e he
 simp only[List.mem_cons,List.not_mem_nil,or_false] at he
 rcases he with rfl | rfl | rfl | rfl
 ·simp[Ent.lt]
 ·simp[Ent.lt,AV.ltL,hc]
 ·simp[Ent.lt,AV.ltL]
 simpa [Ent.lt] using hT
def misP (a:List Rul) (x:Era):Bool:=decide (xRl x≠⟨#[]⟩)&&!a.any fun r=>decide (r.1=xRl x)
def Zfu (s:Src):Bool:=(s.2.2.any fun l=>decide (Zfb s.2.1 l.1<0))||(ZcT s.2.1).any (misP s.1)
abbrev misT (N:Nat) (a:List Rul) (z:List Zon) (k:List Lnk) (x:AV):List AV:=[.any,.rp (srcB a z k),.ptr (N+1) 0 0,.any,.any,.any,.any,.any,.any,.clo (.func 217) [.rp (srcB a z k)],x,.any,.any,.any,.any,.any,.any,.any,.any,.any,.any]
theorem ZtO {N:Nat}{a:List Rul}{z:List Zon}{k:List Lnk}:AV.ltL (N+4) (misT N a z k .any)=true:=by simp[AV.ltL,AV.lt,Zbw,ZbG,ZbL]
theorem app61 {h:AH}{a b c d e f p:Ent}:h++[a,b,c,d,e,f,p]=(h++[a,b,c,d,e,f])++[p]:=by simp
theorem Zkk {h:AH}{lp N D:Nat}{rdy bsy fin:Obj}{a:List Rul}{z:List Zon}{k:List Lnk}{vs:List Value}(hn:h.length=N) (hlt : ∀ e∈h,e.lt N=true) (ha:a.length≤9223372036854775807)
  (hY:Zl5 Tryz.prog fr134 (N+2+1) lp rdy bsy fin (misT N a z k .any) vs) {x:Era} {e f:Ent} :
  AYield Tryz.prog lp [.agg (eraC x)] (ergJ h D lp 4 rdy (misT N a z k .any) vs (bv false) e f) fun r h''=>r=.ret (.v (.bool (!misP a x)))∧h''=ergJ h D lp 4 (if misP a x=true then fin else rdy) (misT N a z k .any) vs (bv (misP a x)) e f:=by
 refine y_go hY (hga (k:=3) hn rfl) rfl fun n0 hn0 hlt0 q1 q2 q3=>?_
 have hm:n0=N+6:=by rw[←hn0];simp[hn]
 have hT0:=ZtO (N:=N) (a:=a) (z:=z) (k:=k)
 have hE:=hlt0 e (by simp)
 have hF:=hlt0 f (by simp)
 have hR:=hlt0 (.raw lp rdy (misT N a z k .any) vs) (by simp)
 show aw _ _ c134a _ _ _
 show aw _ _ _ _ (misT N a z k (.agg (eraC x))) (h++[.gone,.mk 0 4 1 [bv false],mkD D,.raw lp rdy (misT N a z k .any) vs,e,f])
 refine Zat<|E' (Za7 (hl6 hn) ha6) pt<|E' (Zaj lk cv gx rfl (nb' rfl) rfl Zjr (hs6 hn)) ptn<|Zaq<|?_
 refine ZuL (i:=N+3) gx (hs3 hn) fun n1 hn1 hlt1=>?_
 have fin2 : ∀ (b:Bool) (o:Obj) (E:Ent),b=misP a x→o=(if misP a x=true then fin else rdy)→o.isCells=o.isCells→Ent.lt n0 (.raw lp o (misT N a z k .any) vs)=true → ∃ y z',h++[.gone,.mk 0 4 1 [bv b],mkD D,.raw lp o (misT N a z k .any) vs,e,f,E]=y++z'∧y.length=n0∧(∀ e∈y,e.lt n0=true)∧(AE.ret (.v (.bool (!b)))).lt n0=true∧AE.ret (.v (.bool (!b)))=.ret (.v (.bool (!misP a x)))∧y=ergJ h D lp 4 (if misP a x=true then fin else rdy) (misT N a z k .any) vs (bv (misP a x)) e f:=by
  rintro b o E rfl rfl _ hro
  refine⟨_,_,app61,by rw[←hn0];simp,fun y hy=>?_,rfl,rfl,rfl⟩
  rcases List.mem_append.1 hy with hy | hy
  ·exact ltw om hlt y hy
  simp only[List.mem_cons,List.not_mem_nil,or_false] at hy
  rcases hy with rfl | rfl | rfl | rfl | rfl | rfl
  ·simp[Ent.lt]
  ·simp[Ent.lt,AV.ltL,AV.lt]
  ·simp[Ent.lt,AV.ltL]
  ·exact hro
  ·exact hE
  exact hF
 have hro : ∀ o:Obj,Ent.lt n0 (.raw lp o (misT N a z k .any) vs)=true:=fun o=>by simpa [Ent.lt] using hR
 show aw _ _ c134b _ _ _
 refine Zam<|wr'<|Vw (Zac lk)<|Vw (Zab lk gx gt1)<|Vw (ZcF lk lks)<|mw<|?_
 refine sp' (t:=14) gt pt pt (fun hg14=>?_) (fun hg14=>?_)
 ·refine s_do gt<|Vw (ZaR lk dp0)<|s_do gt<|Vw (Zar lk gt)<|s_do gt<|Vw (ZgG mp)<|s_do gt<|?_
  refine Zaf mp (Zm8 (p:=fun r:Rul=>decide (r.1=xRl x)) (fun c _ E=>miss2p_a (Zfc gx)) ha) pt ?_
  refine s_do gt<|Vw (ZaC lk)<|Vw (Zal lk lk)<|sn'<|?_
  refine Zaz lk (fun hc1=>?_) (fun hc1=>?_)
  ·have hP:misP a x=true:=by unfold misP;rw[Bool.and_eq_true];exact⟨decide_eq_true hg14,hc1⟩
   refine wr'<|E' (Zaj lk (cvl lkb rfl) gx rfl (nb' rfl) rfl ZhM (hs1 hn)) ptn<|sn'<|Zaa<|Zas<|?_
   refine Zqt (i:=N+3) gx (hs3 hn) (fin2 true fin _ hP.symm (by rw[if_pos hP]) rfl (hro _))
  have hP:misP a x=false:=by unfold misP;rw[Bool.and_eq_false_iff];exact .inr hc1
  refine Zad<|ZaA<|?_
  exact Zjk (i:=N+3) gx (hs3 hn) (fin2 false rdy _ hP.symm (by rw[hP];rfl) rfl (hro _))
 have hP:misP a x=false:=by unfold misP;rw[Bool.and_eq_false_iff];exact .inl (decide_eq_false hg14)
 refine s_no gt pt<|s_no gt pt<|s_no gt pt<|s_no gt pt<|s_no gt pt<|Vw (Zak lk lkb)<|sn'<|ZaT lk<|Zad<|ZaA<|?_
 exact Zjk (i:=N+3) gx (hs3 hn) (fin2 false rdy _ hP.symm (by rw[hP];rfl) rfl (hro _))
theorem any_find {p:Era→Bool} {l:List Era}:(match l.find? p with | none=>false | some _=>true)=l.any p:=by
 induction l with
 | nil=>rfl
 | cons x l ih=>rw[List.find?_cons,List.any_cons];cases p x <;> simp[ih]
theorem ZtN {h:AH}{lp N D:Nat}{rdy bsy fin:Obj}{a:List Rul}{z:List Zon}{k:List Lnk}{vs:List Value}(hn:h.length=N) (hlt : ∀ e∈h,e.lt N=true) (ha:a.length≤9223372036854775807) (hz:z.length≤20) (hz2 : ∀ y∈z,y.2.length≤8)
    (hY:Zl5 Tryz.prog fr134 (N+2+1) lp rdy bsy fin (misT N a z k .any) vs) (hl0:(k.any fun l=>decide (Zfb z l.1<0))=false) {R:AE→AH→Prop} (hR:R=fun x h' => ∃ z',h'=h++z'∧x.lt N=true∧x=.ret (bv (Zfu (a,z,k)))) :
    ACalls Tryz.prog 217 (.v (.func (.yield lp) #[] #[])::[.rp (srcB a z k)]) (ergH h D lp 4 rdy (misT N a z k .any) vs (bv false)) fun r h3=>(∃ c,r=.ret c) ∧
      ((h3[N+2+1]?=some (.raw lp rdy (misT N a z k .any) vs) ∧ ∀ n0,(h3.set (N+2+1) .gone).length=n0→(∀ e∈h3.set (N+2+1) .gone,e.lt n0=true)→aw Tryz.prog n0 fr134.post (Zfs fr134.res (N+2) D R) (misT N a z k .any) (h3.set (N+2+1) .gone)) ∨
       (h3[N+2+1]?=some (.raw lp fin (misT N a z k .any) vs)∧Zfs fr134.res (N+2) D R .ret (misT N a z k .any) (h3.set (N+2+1) .gone))):=by
  have hmis:Zfu (a,z,k)=(ZcT z).any (misP a):=by unfold Zfu;rw[hl0,Bool.false_or]
  refine (Zum (h:=ergH h D lp 4 rdy (misT N a z k .any) vs (bv false)) (p:=misP a) (hS:=fun _=>ergH h D lp 4 fin (misT N a z k .any) vs (bv true)) hz hz2 (fun _=>(hl4 hn).trans (hl4 hn).symm) (fun _=>by rw[hl4 hn];exact Zul hlt ZtO rfl) (fun x _ e f hp=>?_) (fun x _ e f hp=>?_)).mono ?_
  · have:=Zkk (e:=e) (f:=f) (D:=D) (x:=x) hn hlt ha hY
    rw[hp] at this
    rw[ZhH]
    exact this
  · have:=Zkk (e:=e) (f:=f) (D:=D) (x:=x) hn hlt ha hY
    rw[hp] at this
    rw[ZhH,ZhH]
    exact this
  rintro x h3 ⟨rfl,rfl⟩
  refine⟨⟨_,rfl⟩,?_⟩
  rw[←any_find] at hmis
  subst hR
  cases hf:(ZcT z).find? (misP a) with
  | none =>
    rw[hf] at hmis
    refine .inl ⟨hga (k:=3) hn rfl,fun n0 hn0 _=>?_⟩
    have hs:(ergH h D lp 4 rdy (misT N a z k .any) vs (bv false)).set (N+2+1) .gone=h++[.gone,.mk 0 4 1 [bv false],mkD D,.gone]:=hs3 hn
    show aw _ _ _ _ _ ((ergH h D lp 4 rdy (misT N a z k .any) vs (bv false)).set (N+2+1) .gone)
    rw[hs]
    show aw _ _ c134q _ _ _
    refine wr'<|E' (Zaj lk (cvl lkb rfl) gx rfl (nb' rfl) rfl ZhM (hs1 hn)) ptn<|sn'<|Zag<|Zaa<|Zai<|?_
    refine Zeg gx (hs2 hn) (rs1 (rr_c gt gx (ld0 gt))) ?_
    refine rT' ?_
    rw[hmis]
  | some x =>
    rw[hf] at hmis
    refine .inr ⟨hga (k:=3) hn rfl,?_⟩
    have hs:(ergH h D lp 4 fin (misT N a z k .any) vs (bv true)).set (N+2+1) .gone=h++[.gone,.mk 0 4 1 [bv true],mkD D,.gone]:=hs3 hn
    show Zfs _ _ _ _ _ _ ((ergH h D lp 4 fin (misT N a z k .any) vs (bv true)).set (N+2+1) .gone)
    rw[hs]
    exact Zeg (hga (k:=2) hn rfl) (hs2 hn) (rs1 (rr_c gt (hga (k:=1) hn rfl) (ld0 gt))) (rT' (by rw[hmis]))
theorem ZtM {a:List Rul}{z:List Zon}{k:List Lnk}{h:AH}(ha:a.length≤9223372036854775807) (hz:z.length≤20) (hz2 : ∀ y∈z,y.2.length≤8) (hk:k.length≤9223372036854775807):Ac 134 [.agg (srcB a z k)] h (bv (Zfu (a,z,k))):=by
 have hkk:=hk
 refine tR' k134 fun N hn hlt hlA hbd=>?_
 show aw _ _ c134p _ _ _
 show aw _ _ _ _ [.agg (srcB a z k),.any,.any,.any,.any,.any,.any,.any,.any,.any,.any,.any,.any,.any,.any,.any,.any,.any,.any,.any,.any] _
 refine wr'<|E' (Zbc cv rfl (hl0 hn) ha0) pt<|E' (Za7 (hl1 hn) ha1) pt<|Zaq<|?_
 refine Za1 (ALe.icePtr gx gt1 (by simp) pt1 (hs0 hn)) ?_
 refine wr'<|Vw (ZaR lk dp2)<|Vw (Zar lk gt)<|Vw (ZgG mp)<|?_
 refine Zaf mp (Zub (p:=fun l:Lnk=>decide (Zfb z l.1<0)) (fun c _ _=>miss1_a om) hkk) pt ?_
 refine sn'<|Zag<|?_
 refine Zaz lk (fun hc1=>?_) (fun hc1=>?_)
 ·have hm:Zfu (a,z,k)=true:=by unfold Zfu;rw[show (k.any fun l=>decide (Zfb z l.1<0))=true from hc1];rfl
  refine wr'<|E' (Zaj lk (cvl lkb rfl) gx rfl (nb' rfl) rfl ZhM (hs1 hn)) ptn<|sn'<|Zaa<|Zai<|?_
  refine ZiV (rs1 (rr_c gt gx (ld0 gt))) ?_
  refine rT' ?_
  rw[hm]
 refine Zad<|Zae<|wr'<|Vw (ZaF lk Zu0 rfl)<|Zaf mp (eras_a) pt<|sn'<|Zad<|?_
 refine Ztt (T1:=misT N a z k .any) (ALe.same wA' rfl) rfl (hl2 hn) fun lp D rdy bsy fin vs hle hlT hY=>?_
 have hgo:=ZtN (D:=D) hn hlt ha hz hz2 hY hc1 rfl
 rw[show (h++[Ent.gone,Ent.mk 0 4 1 [bv false]]++[mkD D,Ent.raw lp rdy (misT N a z k .any) vs]:AH)=ergH h D lp 4 rdy (misT N a z k .any) vs (bv false) by simp]
 exact hgo
end Go.Proofs.YtlekejpogddndaaGreatDoor
end
section
namespace Go.Ab
section
variable {P : Program} {n0 : Nat}
def Znn (P:Program):Code→Option AC
 | .skip=>some .skip
 | .region _ ops draw=>match ops.toList.mapM (ZbW P [] ops) with
  | some al=>if draw=false then some (.reg al) else ZkC P ops
  | none=>none
 | .seq a b=>match Znn P a,Znn P b with
  | some x,some y=>some (.seq x y)
  | _,_=>none
 | .block id a=>(Znn P a).map (.block id)
 | .exit id=>some (.exit id)
 | .ret=>some .ret
 | _=>none
theorem ZoK [Rd] : ∀ (c:Code) (ac:AC),Znn P c=some ac → ∀ {Q:AX→List AV→AH→Prop}{T:List AV}{h:AH},aw P n0 ac Q T h→AW P n0 c Q T h:=by
 intro c
 induction c with
 | skip=>intro ac hc Q T h hw;cases hc;exact Zva hw
 | region id ops draw =>
  intro ac hc Q T h hw
  simp only[Znn] at hc
  split at hc <;> try (cases hc;done)
  rename_i al hm
  split at hc
  ·rename_i hd;subst hd;cases hc;exact ZnP hm hw
  ·rename_i hd
   obtain rfl:draw=true:=by simpa using hd
   unfold ZkC at hc
   split at hc <;> try (cases hc;done)
   rename_i al2 hm2
   split at hc <;> try (cases hc;done)
   rename_i hcond
   cases hc
   exact ZjO hcond.1 hcond.2 hm2 hw
 | seq a b iha ihb =>
  intro ac hc Q T h hw
  simp only[Znn] at hc
  split at hc <;> try (cases hc;done)
  rename_i x y hx hy
  cases hc
  refine AW_seq ((iha x hx hw).mono ?_)
  intro z T' h' hq
  cases z <;> simp only[AX.thn] at hq ⊢ <;> first | exact hq | (obtain⟨T1,h1,hle,hq⟩:=hq;exact AW_le hle (ihb y hy hq))
 | cond c a b iha ihb=>intro ac hc;cases hc
 | block id a iha =>
  intro ac hc Q T h hw
  simp only[Znn,Option.map_eq_some_iff] at hc
  obtain⟨x,hx,rfl⟩:=hc
  exact Zqz (iha x hx hw)
 | loop a iha=>intro ac hc;cases hc
 | rangeFunc f ps x y iha ihb=>intro ac hc;cases hc
 | exit id=>intro ac hc Q T h hw;cases hc;exact Zvb hw
 | scope a iha=>intro ac hc;cases hc
 | label l=>intro ac hc;cases hc
 | goto l=>intro ac hc;cases hc
 | ret=>intro ac hc Q T h hw;cases hc;exact AW_ret hw
 | refuse w=>intro ac hc;cases hc
def ZkF (P:Program) (f:FuncId):Option AF :=
 match P.funcs[f]? with
 | some fn=>if fn.name == "runtime.NumGoroutine" then none else match fn.body with
  | some c=>match Znn P c,fn.results.toList.mapM (Zgu P) with
   | some ac,some rs=>some ⟨ac,rs,fn.ntmps⟩
   | _,_=>none
  | none=>none
 | none=>none
theorem ACalls.of_awU {f:FuncId}{af:AF}(hc:ZkF P f=some af) {args:List AV}{h:AH}{R:AE→AH→Prop}(hw:aw P h.length af.code (retA af.res R) (args++List.replicate (af.ntmps-args.length) .any) h):ACalls P f args h R:=by
 unfold ZkF at hc
 split at hc <;> try (cases hc;done)
 rename_i fn hfn
 split at hc <;> try (cases hc;done)
 rename_i hname
 split at hc <;> try (cases hc;done)
 rename_i c hb
 split at hc <;> try (cases hc;done)
 rename_i ac rs hac hrs
 cases hc
 letI:Rd:=rdN
 refine ACalls.of_AW hfn hb ?_ ((ZoK c ac hac hw).mono ?_)
 ·simp only[enters,hfn,hb]
  simp only[Bool.not_eq_true] at hname
  simp[bne,hname]
 ·intro x T' h' hq
  cases x <;> simp only[retA,RetQ] at hq ⊢
  ·split at hq <;> try (exact hq.elim)
   rename_i r hr
   exact⟨r,fun w g a hs ht=>Zd1 hrs hr hs ht,hq⟩
  ·split at hq <;> try (exact hq.elim)
   rename_i r hr
   exact⟨r,fun w g a hs ht=>Zd1 hrs hr hs ht,hq⟩
  ·exact hq
theorem Zib {f:FuncId}{af:AF}(hc:ZkF P f=some af):enters P f=true:=by
 unfold ZkF at hc
 split at hc <;> try (cases hc;done)
 rename_i fn hfn
 split at hc <;> try (cases hc;done)
 rename_i hname
 split at hc <;> try (cases hc;done)
 rename_i c hb
 simp only[enters,hfn,hb]
 simp only[Bool.not_eq_true] at hname
 simp[bne,hname]
theorem tU' {f:FuncId}{c:AC}{rs:List AR}{m:Nat}{args:List AV}{h:AH}{R:AE→Prop}(hc:ZkF P f=some ⟨c,rs,m⟩) (hw : ∀ n,h.length=n→(∀ e∈h,e.lt n=true)→AV.ltL n args=true→AV.bdL args→aw P n c (retA rs fun x h' => ∃ z,h'=h++z∧x.lt n=true∧R x) (tA' args m) (h++[])) (hl:Nat.ble args.length m=true:=by rfl):ACalls P f args h fun x h'=>h'=h∧R x:=by
 refine ACalls.gc_same ⟨Zib hc,fun w g vs hs ha=>(ACalls.of_awU hc ?_).2 w g vs hs ha⟩
 have:=hw h.length rfl hs.ltE (RepL.lt (fun i v l hl=>(hs.fresh i v l hl).1) _ _ ha) (RepL.bd _ _ ha)
 rw[List.append_nil] at this
 show aw P h.length c _ (args++List.replicate (m-args.length) .any) h
 rw[ZiJ _ _ (Nat.le_of_ble_eq_true hl)]
 exact this
theorem ZlD {w:World}{g:Gh} : ∀ {vs us:List Value},RepL w g (vs.map .v) us↔us=vs
 | [],us=>by simp only[List.map_nil,RepL]
 | v::vs,us=>by
  simp only[List.map_cons,RepL,Rep,ZlD (vs:=vs)]
  constructor
  ·rintro⟨u,us',rfl,rfl,rfl⟩;rfl
  ·rintro rfl;exact⟨_,_,rfl,rfl,rfl⟩
theorem ACalls.of_turnR {f:FuncId}{args:List AV}{h:AH}{id ver ty st:Nat}{cells cells':List AV}{c:AV}(he:enters P f=true) (hi:h[id]?=some (.mk ver ty st cells)) (hne:cells≠[])
  (hc : ∀ w g (vs:Array Value) b cap arr,SimH w g h→RepL w g args vs.toList→g.loc id ver=some (some ⟨b,0,none⟩,cap)→w.heap[b]?=some (.cells arr ty (0,0))→arr.size=cap*st→cells.length≤arr.size→RepL w g cells (arr.toList.take cells.length) →
   Calls P f vs w fun e w' => ∃ (v:Value) (vs':List Value) (arr':Array Value),e=.returned v∧cells'=vs'.map .v∧w'.heap[b]?=some (.cells arr' ty (0,0))∧arr'.size=arr.size∧vs'.length=cells.length∧arr'.toList.take cells.length=vs' ∧
    w'.os=w.os∧w'.tape=w.tape∧w'.output=w.output∧w.heap.size≤w'.heap.size∧(∀ k,k<w.heap.size→k≠b→w'.heap[k]?=w.heap[k]?)∧Rep w' g c v) :
  ACalls P f args h fun x h'=>x=.ret c∧h'=h.set id (.mk ver ty st cells'):=by
 refine⟨he,fun w g vs hs ha=>?_⟩
 obtain⟨A,cap,f1,fm,f3⟩:=hs.ent _ _ _ _ _ hi
 rcases f3 with ⟨e,_⟩ | ⟨b,arr,rfl,hc0,hd,hb,hsz,hle,hrl⟩
 ·exact absurd e hne
 have hid:id<h.length:=(List.getElem?_eq_some_iff.1 hi).1
 have how:OwAt g h id b:=⟨ver,ty,st,cells,_,cap,hi,f1,hc0,rfl⟩
 refine (hc w g vs b cap arr hs ha f1 hb hsz hle hrl).mono ?_
 rintro e w' ⟨v,vs',arr',rfl,rfl,h1,h2,h3,h4,h5,h6,h7,h8,h9,hv⟩
 have hother : ∀ j,g.D j∨(∃ i,i≠id∧OwAt g h i j)∨(∃ i,RwAt h i j)→w'.heap[j]?=w.heap[j]?:=by
  rintro j (hj | ⟨i,hne',hj⟩ | ⟨i,hj⟩)
  rotate_left 2
  ·exact h9 j (hs.own_not_D (.inr ⟨i,hj⟩)).2 (fun e=>by subst e;exact hs.own_ne_raw how hj)
  ·exact h9 j (hs.lt j hj) (fun e=>hd (e ▸ hj))
  ·exact h9 j (hs.own_not_D (.inl ⟨i,hj⟩)).2 (fun e=>hne' (hs.inj i id j hj (e ▸ how)))
 obtain⟨k1,k2,k3⟩:=hs.put (w':=w') (g':=g) (h':=h.set id (.mk ver ty st (vs'.map .v))) id ver ty st (vs'.map .v) (some ⟨b,0,none⟩) cap
  (fun i hne'=>by rw[List.getElem?_set_ne (Ne.symm hne')]) (by rw[List.getElem?_set_self hid]) (by simp) rfl (fun _ _ _ h=>h) (fun _ _ _ h=>.inl h) f1 (fun v l hv=>(hs.fresh _ _ _ hv).2 _ _ _ _ hi) hother h8 fm
  (.inr ⟨b,arr',rfl,hc0,hd,h1,by rw[h2,hsz],by rw[List.length_map,h3,h2];exact hle,by rw[List.length_map,h3,h4];exact ZlD.2 rfl⟩)
  (fun j hj _ i hne' ho=>by
   simp at hj
   subst hj
   exact hne' (hs.inj i id _ ho how))
 refine⟨.ret c,_,g,hv,k1,k2,⟨h5,h6,h7,h8,fun k hk hn=>h9 k hk (fun e=>hn (.inl ⟨id,e ▸ how⟩))⟩,fun k hk=>?_,rfl,rfl⟩
 ·rcases k3 k hk with ho | ⟨ho,_⟩
  ·exact .inl ho
  ·simp at ho;subst ho;exact .inl (.inl ⟨id,how⟩)
end
end Go.Ab
end
section
namespace Go.Proofs.YtlekejpogddndaaGreatDoor
open Go.Ab Go.Sort
def bsL (l:List ByteArray):List Bs:=l.map aB
def sbL (l:List Bs):List ByteArray:=l.map bA
theorem sb_bs (l:List ByteArray):sbL (bsL l)=l:=by
 unfold sbL bsL;rw[List.map_map]
 have:(bA ∘ aB)=id:=by funext z;rfl
 rw[this,List.map_id]
theorem ZlB (l:List Bs):rows strC (sbL l)=(l.map encStr).map .v:=by
 unfold sbL
 induction l with
 | nil=>rfl
 | cons x l ih=>rw[List.map_cons,List.map_cons,List.map_cons,←ih];rfl
theorem Zew (l:List ByteArray):rows strC l=((bsL l).map encStr).map .v:=by rw[←ZlB,sb_bs]
def ZeN (l:List ByteArray):List ByteArray:=sbL ((bsL l).mergeSort fun x y=>decide (x≤y))
def Zga (l:List ByteArray):List Bs:=Lib.compact (bsL l)
theorem ZsY (l:List ByteArray):(ZeN l).length=l.length:=by simp[ZeN,sbL,bsL]
theorem ZsX {l:List ByteArray}{id v ty:Nat}{h:AH}(he:h[id]?=some (.mk v ty 1 (rows strC l))) (h0:l≠[]) (hl:l.length<4611686018427387904) :
  ACalls Tryz.prog 211 [.own id v l.length] h fun r h'=>r=.ret (.tup [])∧h'=h.set id (.mk v ty 1 (rows strC (ZeN l))):=by
 refine ACalls.of_turnR (by kernel_rfl) he ?_ ?_
 ·rw[Zew];simpa [bsL] using h0
 ·intro w g vs b cap arr hs ha hloc hb hsz hle hr
  simp only[RepL,Rep,hloc] at ha
  obtain⟨u1,us1,e1,⟨A,c,e2,hn1,hn2,rfl⟩,rfl⟩:=ha
  simp only[Option.some.injEq,Prod.mk.injEq] at e2
  obtain⟨rfl,rfl⟩:=e2
  obtain rfl:vs = #[.slice (some ⟨b,0,none⟩) l.length cap]:=by cases vs;simp_all
  have hlen:(rows strC l).length=(bsL l).length:=by rw[Zew];simp
  have hbl:(bsL l).length=l.length:=by simp[bsL]
  rw[hlen] at hr hle
  rw[Zew] at hr
  have hr2:=ZlD.1 hr
  have hb':b<w.heap.size:=(Array.getElem?_eq_some_iff.1 hb).1
  have:=Tryz.slices_Sort_string b 0 cap (bsL l) w (holds_of_block hb hr2) hb' (by rw[hbl];exact hl)
  rw[hbl] at this
  refine this.mono ?_
  rintro e w' ⟨rfl,n,os,rfl⟩
  obtain⟨q1,q2,q3,q4,q5⟩:=grownBy_sorted (w:=w) (g:=b) (n:=n) (os:=os) ((bsL l).mergeSort fun x y=>decide (x≤y)).toArray
  have hml:((bsL l).mergeSort fun x y=>decide (x≤y)).length=(bsL l).length:=List.length_mergeSort _
  refine⟨_,((bsL l).mergeSort fun x y=>decide (x≤y)).map encStr,_,rfl,by unfold ZeN;rw[ZlB],heap_sorted _ hb,by simp[putCells],by rw[hlen];simp,?_,q1,q2,q3,q4,fun k hk hne=>q5 k hk (by simpa using hne),?_⟩
  ·rw[hlen,←hml]
   exact take_putCells arr _ (by rw[hml];exact hle)
  ·simp only[Rep];exact⟨#[],rfl,by simp only[RepL]⟩
theorem Zuw {l:List ByteArray}{id v ty:Nat}{h:AH}(he:h[id]?=some (.mk v ty 1 (rows strC l))) (h0:l≠[]) (hl:l.length≤9223372036854775807) :
  ACalls Tryz.prog 212 [.own id v l.length] h fun r h'=>r=.ret (.own id v (Zga l).length)∧h'=h.set id (.mk v ty 1 (rows strC (sbL (Zga l++List.replicate ((bsL l).length-(Zga l).length) [])))):=by
 refine ACalls.of_turnR (by kernel_rfl) he ?_ ?_
 ·rw[Zew];simpa [bsL] using h0
 ·intro w g vs b cap arr hs ha hloc hb hsz hle hr
  simp only[RepL,Rep,hloc] at ha
  obtain⟨u1,us1,e1,⟨A,c,e2,hn1,hn2,rfl⟩,rfl⟩:=ha
  simp only[Option.some.injEq,Prod.mk.injEq] at e2
  obtain⟨rfl,rfl⟩:=e2
  obtain rfl:vs = #[.slice (some ⟨b,0,none⟩) l.length cap]:=by cases vs;simp_all
  have hlen:(rows strC l).length=(bsL l).length:=by rw[Zew];simp
  have hbl:(bsL l).length=l.length:=by simp[bsL]
  rw[hlen] at hr hle
  rw[Zew] at hr
  have hr2:=ZlD.1 hr
  have hcl:(Zga l).length≤(bsL l).length:=Lib.compact_length_le _
  have:=Tryz.slices_Compact_string b 0 cap (bsL l) w (holds_of_block hb hr2) (by rw[hbl];exact hl) (by rw[hbl];omega)
  rw[hbl] at this
  refine this.mono ?_
  rintro e w' ⟨rfl,q,rfl⟩
  have e0:putRow encStr (Sort.ahead w q) b 0 (Lib.compact (bsL l)++List.replicate (l.length-(Lib.compact (bsL l)).length) []).toArray=grow (putRow encStr (Sort.ahead w q) b 0 (Zga l++List.replicate ((bsL l).length-(Zga l).length) []).toArray) #[]:=by rw[grow_empty,hbl];rfl
  rw[e0]
  obtain⟨q1,q2,q3,q4,q5⟩:=grownBy_sorted (w:=w) (g:=b) (n:=q) (os := #[]) (Zga l++List.replicate ((bsL l).length-(Zga l).length) []).toArray
  have hml:(Zga l++List.replicate ((bsL l).length-(Zga l).length) []).length=(bsL l).length:=by rw[List.length_append,List.length_replicate];omega
  refine⟨_,(Zga l++List.replicate ((bsL l).length-(Zga l).length) []).map encStr,_,rfl,by rw[ZlB],heap_sorted _ hb,by simp[putCells],by rw[hlen,List.length_map,hml],?_,q1,q2,q3,q4,fun k hk hne=>q5 k hk (by simpa using hne),?_⟩
  ·rw[hlen]
   exact (congrArg (fun n=>List.take n _) hml.symm).trans (take_putCells arr _ (by rw[hml];exact hle))
  ·simp only[Rep];exact⟨_,_,hloc,by omega,hn2,rfl⟩
theorem Zn6 {l:List ByteArray}{id v ty:Nat}{h:AH}(he:h[id]?=some (.mk v ty 1 (rows strC l))) (hl:l.length<4611686018427387904) :
  ACalls Tryz.prog 211 [.own id v l.length] h fun r h'=>r=.ret (.tup [])∧h'=h.set id (.mk v ty 1 (rows strC (ZeN l))):=by
 by_cases h0:l=[]
 ·subst h0
  refine⟨by kernel_rfl,fun w g vs hs ha=>?_⟩
  simp only[RepL,Rep] at ha
  obtain⟨val,us,e,⟨A,cap,e1,e2,e3,rfl⟩,rfl⟩:=ha
  obtain rfl:vs = #[.slice A 0 cap]:=by cases vs;simp_all
  refine (Tryz.slices_Sort_string_none A cap w).mono ?_
  rintro e w' ⟨rfl,rfl⟩
  refine⟨.ret (.tup []),h,g,?_,hs,Gh.le.refl g,Fr.refl _ _,fun k hk=>.inl hk,rfl,?_⟩
  ·exact (by simp only[EndR,Rep];exact⟨#[],rfl,by simp[RepL]⟩)
  ·rw[show ZeN []=[] by simp[ZeN,bsL,sbL]]
   exact (Zdg he).symm
 ·exact ZsX he h0 hl
theorem ZoL {l:List ByteArray}{id v ty:Nat}{h:AH}(he:h[id]?=some (.mk v ty 1 (rows strC l))) (hl:l.length≤9223372036854775807) :
  ACalls Tryz.prog 212 [.own id v l.length] h fun r h'=>r=.ret (.own id v (Zga l).length)∧h'=h.set id (.mk v ty 1 (rows strC (sbL (Zga l++List.replicate ((bsL l).length-(Zga l).length) [])))):=by
 by_cases h0:l=[]
 ·subst h0
  refine⟨by kernel_rfl,fun w g vs hs ha=>?_⟩
  simp only[RepL,Rep] at ha
  obtain⟨val,us,e,⟨A,cap,e1,e2,e3,rfl⟩,rfl⟩:=ha
  obtain rfl:vs = #[.slice A 0 cap]:=by cases vs;simp_all
  refine (Tryz.slices_Compact_string_empty A cap w).mono ?_
  rintro e w' ⟨rfl,rfl⟩
  refine⟨.ret (.own id v 0),h,g,?_,hs,Gh.le.refl g,Fr.refl _ _,fun k hk=>.inl hk,rfl,?_⟩
  ·exact (by simp only[EndR,Rep];exact⟨A,cap,e1,Nat.zero_le _,e3,rfl⟩)
  ·exact (Zdg he).symm
 ·exact Zuw he h0 hl
theorem le_tr (a b c:Bs):a≤b→b≤c→a≤c:=fun h1 h2=>List.le_trans h1 h2
theorem Zsx {l:List ByteArray}:decide ((Zga (ZeN l)).length<l.length)=decide (¬l.Nodup):=by
 have hperm:(bsL (ZeN l)).Perm (bsL l):=by
  have:bsL (ZeN l)=(bsL l).mergeSort fun x y=>decide (x≤y):=by
   unfold ZeN sbL bsL
   rw[List.map_map]
   have:(aB ∘ bA)=id:=by funext z;simp[aB,bA]
   rw[this,List.map_id]
  rw[this];exact List.mergeSort_perm _ _
 have hsort:(bsL (ZeN l)).Pairwise (· ≤ ·):=by
  have e:bsL (ZeN l)=(bsL l).mergeSort fun x y=>decide (x≤y):=by
   unfold ZeN sbL bsL
   rw[List.map_map]
   have:(aB ∘ bA)=id:=by funext z;simp[aB,bA]
   rw[this,List.map_id]
  rw[e]
  have h:=List.pairwise_mergeSort (le:=fun a b:Bs=>decide (a≤b)) (fun a b c h1 h2=>by simp only[decide_eq_true_eq] at *;exact le_tr _ _ _ h1 h2) (fun a b=>by simp only[Bool.or_eq_true,decide_eq_true_eq];exact List.le_total a b) (bsL l)
  exact h.imp fun h=>by simpa using h
 have hnd:l.Nodup↔(bsL (ZeN l)).Nodup:=by
  rw[hperm.nodup_iff]
  unfold bsL
  constructor
  ·intro h
   exact List.pairwise_map.2 (h.imp fun hne e=>hne (by have:=congrArg bA e;exact this))
  ·intro h
   exact (List.pairwise_map.1 h).imp fun hne e=>hne (by rw[e])
 have hlen:(bsL (ZeN l)).length=l.length:=by rw[hperm.length_eq];simp[bsL]
 rw[Bool.eq_iff_iff,decide_eq_true_iff,decide_eq_true_iff,hnd,←hlen]
 show (Lib.compact (bsL (ZeN l))).length<_↔_
 generalize bsL (ZeN l)=L at hsort
 have e:(Lib.compact L).length=((List.range L.length).filter (Lib.keeps L.toArray)).length:=by unfold Lib.compact Lib.compactUpTo;rw[List.length_map]
 rw[e]
 have hr:L.length=(List.range L.length).length:=by simp
 conv=>lhs;rhs;rw[hr]
 rw[List.length_filter_lt_length_iff_exists]
 have hget : ∀ j (h:j<L.length),L.toArray[j]! = L[j]:=fun j h=>by simp[h]
 constructor
 ·rintro⟨j,hj,hk⟩ hnd
  have hj:=List.mem_range.1 hj
  unfold Lib.keeps at hk
  simp only[decide_eq_true_eq,not_or,Decidable.not_not] at hk
  obtain⟨h0,h1⟩:=hk
  rw[hget j hj,hget (j-1) om] at h1
  exact List.pairwise_iff_getElem.1 hnd (j-1) j om hj om h1.symm
 ·intro hnd
  refine Decidable.byContradiction fun hne=>hnd (List.pairwise_iff_getElem.2 fun i j hi hj hij e=>hne ⟨j,List.mem_range.2 hj,?_⟩)
  unfold Lib.keeps
  simp only[decide_eq_true_eq,not_or,Decidable.not_not]
  refine⟨by omega,?_⟩
  rw[hget j hj,hget (j-1) om]
  have h1:L[j-1]≤L[j]:=List.pairwise_iff_getElem.1 hsort (j-1) j om hj om
  have h2:L[i]≤L[j-1]:=by
   by_cases hh:i=j-1
   ·subst hh;exact List.le_refl _
   ·exact List.pairwise_iff_getElem.1 hsort i (j-1) hi om om
  rw[←e] at h1
  rw[←e]
  exact List.le_antisymm h2 h1
end Go.Proofs.YtlekejpogddndaaGreatDoor
end
section
namespace Go.Proofs.YtlekejpogddndaaGreatDoor
open Go.Ab Go.RowKit Civ
attribute [local simp] Zbw ZbM ZbG ZbL Zcv Zd3 Zb9
section
theorem Zhi {a0 a1:AV}{l:List AV}:(a0::a1::l).take 2=[a0,a1]:=rfl
theorem ZfY {a0 a1 c0 c1:AV}{l:List AV}:setCells (a0::a1::l) 0 [c0,c1]=c0::c1::l:=rfl
theorem Zhl {τ:Operand→AV}{y0:Operand}{x0_0:AV}(h0:Zav (τ y0)=some [x0_0]) (l0:[x0_0].all leaf=true):Zau τ [(0,1,y0)] [(.v (.string ⟨#[]⟩))]=some [x0_0]:=by
 simp only[Zau,h0,l0]
 rfl
theorem Zhj {a0:AV}{l:List AV}:(a0::l).take 1=[a0]:=rfl
theorem Zhk {τ:Operand→AV}{y0:Operand}{x0_0:AV}(h0:Zav (τ y0)=some [x0_0]) (l0:[x0_0].all leaf=true):Zau τ [(0,1,y0)] [(.v (.string ⟨#[]⟩))]=some [x0_0]:=by
 simp only[Zau,h0,l0]
 rfl
theorem Znw {a0 a1 a2:AV}{l:List AV}:(a0::a1::a2::l).take 3=[a0,a1,a2]:=rfl
end
def c210:AC:=(Sr [Oo 1 (.box 26 3 (.tmp 0)),Oo 2 (.mv (.const (.slice none 0 0)))] (Sr [Oo 3 (.mv (.const (.slice none 0 0)))] (.seq (Sr [Fa 8 1 1,Ld 9 8,Oo 10 (.len false (.tmp 9)),Mc 11 0] (.block 0 (.loop (Sr [Bn 12 .lss 11 10] (.seq (Cd 12 .skip (.exit 0)) (.seq (.block 1 (Sr [Oo 13 (.ia 2 (.tmp 9) (.tmp 11)),Oo 14 (.load true 2 (.tmp 13)),Oo 5 (.new 53 2 [Ss,(.sl 0 0 true [])]),⟨none,none,(.store 2 (.tmp 5) (.tmp 14))⟩] (.reg [Mv 15 3,Fa 16 0 5,Ld 17 16,Oo 18 (.lit 9 1 1 [Ss] [(0,(1,(.tmp 17)))]),Oo 19 (.app 9 1 16 (.tmp 15) (.tmp 18)),Mv 3 19]))) (.reg [Bc 20 .add 11 1,Mv 11 20]))))))) (.seq (Sr [Fa 21 2 1,Ld 22 21,Oo 23 (.len false (.tmp 22)),Mc 24 0] (.block 2 (.loop (Sr [Bn 25 .lss 24 23] (.seq (Cd 25 .skip (.exit 2)) (.seq (.block 3 (Sr [Oo 26 (.ia 2 (.tmp 22) (.tmp 24)),Oo 27 (.load true 2 (.tmp 26)),Oo 7 (.new 129 2 [Ss,Ss]),⟨none,none,(.store 2 (.tmp 7) (.tmp 27))⟩] (.reg [Mv 28 3,Fa 29 1 7,Ld 30 29,Oo 31 (.lit 9 1 1 [Ss] [(0,(1,(.tmp 30)))]),Oo 32 (.app 9 1 16 (.tmp 28) (.tmp 31)),Mv 3 32]))) (.reg [Bc 33 .add 24 1,Mv 24 33]))))))) (Sr [Mv 34 3,Mv 2 34] .ret)))))
theorem k210:ZaE Tryz.prog 210=some ⟨c210,[(.tmp 2)],35⟩:=by kernel_rfl
def c133:AC:=(Sr [Oo 1 (.box 26 3 (.tmp 0)),Mb 2 false] (Sr [Oo 4 (.load true 3 (.tmp 1)),Cl 5 210 [(.tmp 4)],Mv 3 5] (Sr [Mv 6 3,Cl 7 211 [(.tmp 6)]] (.seq (.drwU [[],[],[],[0,1,2],[2],[2],[],[]] [Mv 8 3,Cl 9 212 [(.tmp 8)],Oo 10 (.len false (.tmp 9)),Oo 11 (.load true 3 (.tmp 1)),Cl 12 210 [(.tmp 11)],Oo 13 (.len false (.tmp 12)),Bn 14 .lss 10 13,Mv 2 14]) .ret))))
theorem k133:ZkF Tryz.prog 133=some ⟨c133,[(.tmp 2)],15⟩:=by kernel_rfl
def Zci (z:List Zon) (k:List Lnk):List ByteArray:=z.map (·.1)++k.map (·.2)
theorem ZfQ (z:List Zon) (k:List Lnk):(Zci z k).length=z.length+k.length:=by simp[Zci]
theorem Zhz (x:ByteArray):rows strC [x]=[sv x]:=rfl
theorem names_o {a:List Rul}{z:List Zon}{k:List Lnk}{h:AH}{q:Nat}(hq:h.length+1=q) (hz:z.length≤20) (hk:k.length≤20):ACalls Tryz.prog 210 [.agg (srcB a z k)] h fun x h'=>x=.ret (.own q (Zci z k).length (Zci z k).length)∧h'=h++[.mk 0 26 3 (srcB a z k),.mk (Zci z k).length 9 1 (rows strC (Zci z k))]:=by
 have hnl:=ZfQ z k
 have hkk:=hk
 refine tN' k210 fun N hn hlt hlA hbd=>?_
 simp only[tb'] at hbd ⊢
 refine wr'<|E' (Zbc (cvl lk0 rfl) rfl (hl0 hn) ha0) pt1<|mv' lkn pt2<|sn'<|wr'<|mv' lkn pt3<|Zaq<|Za1 (ALe.own0' (st':=1) (ty:=9) gt3 (hl1 hn) pt3 ha1)<|Zag<|wr'<|?_
 refine Vw (Zac lk)<|Vw (Zab lk gx gt1)<|Vw (ZaG lk)<|mw<|sn'<|Zam<|?_
 refine w_lp (ι:=Nat) (fun (i:Nat)=>[(3,.own (N+1) i i),(11,iv (i:Int)),(5,.any)]++rn' 12 9) (fun (i:Nat)=>[(1,.mk i 9 1 (rows strC ((z.map (·.1)).take i)))]) (fun (i:Nat)=>i≤z.length) (fun (i:Nat)=>z.length-i) (0) (by exact Nat.zero_le _) ?_
 rintro i hi1
 try simp only[sm',Nat.reduceAdd]
 replace hi1:i≤z.length:=hi1
 have htl:((z.map (·.1)).take i).length=i:=by rw[List.length_take,List.length_map];omega
 refine wr'<|Vw (ZaZ lk lk)<|sn'<|Zag<|?_
 refine cd' lk (fun hc1=>?_) (fun hc1=>?_)
 ·have hi:i<z.length:=by omega
  have htk:(z.map (·.1)).take (i+1)=(z.map (·.1)).take i++[z[i].1]:=by rw[List.take_succ_eq_append_getElem (by simpa using hi)];simp
  refine Zad<|Zae<|Zag<|Zam<|wr'<|?_
  refine V' (ZaJ lk lk ZbI (nb' rfl) ro om ro rfl) pt ?_
  refine Vw (ZaF lk Zhi rfl)<|E' (Za7 (hl2 hn) ha2) pt<|E' (Zaj lk cv gx rfl (nb' rfl) rfl ZfY (hs2 hn)) ptn<|sn'<|Zat<|mw<|Vw (Zac lk)<|Vw (Zab lk gx gt0)<|E' (Zda (Zhl cv rfl) (hl3 hn) ha3) pt<|?_
  refine E' (Zce (ZbF lk gx rfl Zhj (nb' rfl)) lk gx ((Zd0 _).trans (by rw[htl])) om rfl (hs1 hn)) pt ?_
  refine mw<|Zaq<|ZaA<|Zae<|Zat<|?_
  refine V' (Zax lk lki om om) pt ?_
  refine mw<|Zaq<|ZaB<|?_
  refine lU' (i+1) (by (try dsimp only);omega) (by (try dsimp only);(try simp only[sm',Nat.reduceAdd]);exact bk' 2 hn hlt (by rw[htk,ZaO,Zhz];rfl))
 have hie:i=z.length:=by omega
 subst hie
 rw[show (z.map (·.1)).take z.length=z.map (·.1) from List.take_of_length_le (by simp)]
 refine ZaD<|Zay<|Zay<|ZaU<|Zae<|Zag<|wr'<|Vw (Zac lk)<|Vw (Zab lk gx gt2)<|Vw (ZaG lk)<|mw<|sn'<|?_
 refine Zam ?_
 refine Zeq (ι:=Nat) (fun (j:Nat)=>[(3,.own (N+1) (z.length+j) (z.length+j)),(24,iv (j:Int)),(7,.any)]++rn' 25 9) (fun (j:Nat)=>[(1,.mk (z.length+j) 9 1 (rows strC (z.map (·.1)++(k.map (·.2)).take j)))]) (fun (j:Nat)=>j≤k.length) (fun (j:Nat)=>k.length-j) (0) (by exact Nat.zero_le _) (by try simp only[sm',Nat.reduceAdd];exact ALe.same wA' (by rw[List.take_zero,List.append_nil];rfl)) ?_
 rintro j hi2
 try simp only[sm',Nat.reduceAdd]
 replace hi2:j≤k.length:=hi2
 have htl2:(z.map (·.1)++(k.map (·.2)).take j).length=z.length+j:=by rw[List.length_append,List.length_map,List.length_take,List.length_map];omega
 refine wr'<|Vw (ZaZ lk lk)<|sn'<|Zag<|?_
 refine cd' lk (fun hc2=>?_) (fun hc2=>?_)
 ·have hj:j<k.length:=by omega
  have htk2:(k.map (·.2)).take (j+1)=(k.map (·.2)).take j++[k[j].2]:=by rw[List.take_succ_eq_append_getElem (by simpa using hj)];simp
  refine Zad<|Zae<|Zag<|Zam<|wr'<|?_
  refine V' (ZaJ lk lk ZcM (nb' rfl) ro om ro rfl) pt ?_
  refine Vw (ZaF lk Zhi rfl)<|E' (Za7 (hl2 hn) ha2) pt<|E' (Zaj lk cv gx rfl (nb' rfl) rfl ZfY (hs2 hn)) ptn<|sn'<|Zat<|mw<|Vw (Zac lk)<|Vw (Zab lk gx gt1)<|E' (Zda (Zhk cv rfl) (hl3 hn) ha3) pt<|?_
  refine E' (Zce (ZbF lk gx rfl Zhj (nb' rfl)) lk gx ((Zd0 _).trans (by rw[htl2])) om rfl (hs1 hn)) pt ?_
  refine mw<|Zaq<|ZaA<|Zae<|Zat<|?_
  refine V' (Zax lk lki om om) pt ?_
  refine mw<|Zaq<|ZaB<|?_
  refine lU' (j+1) (by (try dsimp only);omega) (by (try dsimp only);(try simp only[sm',Nat.reduceAdd]);exact bk' 2 hn hlt (by simp only[htk2,ZaO,Zhz,List.append_assoc];rfl))
 have hje:j=k.length:=by omega
 subst hje
 rw[show (k.map (·.2)).take k.length=k.map (·.2) from List.take_of_length_le (by simp)]
 refine ZaD<|Zay<|Zay<|ZaU<|Zae<|wr'<|mw<|mw<|sn'<|Zaa<|Zah rz<|?_
 rw[←hq,hnl,hn];exact⟨rfl,rfl⟩
theorem names_q {a:List Rul}{z:List Zon}{k:List Lnk}{h:AH}(hz:z.length≤20) (hk:k.length≤20):Ac 210 [.agg (srcB a z k)] h (.sl (Zci z k).length 1 false (rows strC (Zci z k))):=by
 have hnl:=ZfQ z k
 have hkk:=hk
 refine tW' k210 fun N hn hlt hlA hbd=>?_
 simp only[tb'] at hbd ⊢
 refine wr'<|E' (Zbc (cvl lk0 rfl) rfl (hl0 hn) ha0) pt1<|mv' lkn pt2<|sn'<|wr'<|mv' lkn pt3<|Zaq<|Za1 (ALe.own0' (st':=1) (ty:=9) gt3 (hl1 hn) pt3 ha1)<|Zag<|wr'<|?_
 refine Vw (Zac lk)<|Vw (Zab lk gx gt1)<|Vw (ZaG lk)<|mw<|sn'<|Zam<|?_
 refine w_lp (ι:=Nat) (fun (i:Nat)=>[(3,.own (N+1) i i),(11,iv (i:Int)),(5,.any)]++rn' 12 9) (fun (i:Nat)=>[(1,.mk i 9 1 (rows strC ((z.map (·.1)).take i)))]) (fun (i:Nat)=>i≤z.length) (fun (i:Nat)=>z.length-i) (0) (by exact Nat.zero_le _) ?_
 rintro i hi1
 try simp only[sm',Nat.reduceAdd]
 replace hi1:i≤z.length:=hi1
 have htl:((z.map (·.1)).take i).length=i:=by rw[List.length_take,List.length_map];omega
 refine wr'<|Vw (ZaZ lk lk)<|sn'<|Zag<|?_
 refine cd' lk (fun hc1=>?_) (fun hc1=>?_)
 ·have hi:i<z.length:=by omega
  have htk:(z.map (·.1)).take (i+1)=(z.map (·.1)).take i++[z[i].1]:=by rw[List.take_succ_eq_append_getElem (by simpa using hi)];simp
  refine Zad<|Zae<|Zag<|Zam<|wr'<|?_
  refine V' (ZaJ lk lk ZbI (nb' rfl) ro om ro rfl) pt ?_
  refine Vw (ZaF lk Zhi rfl)<|E' (Za7 (hl2 hn) ha2) pt<|E' (Zaj lk cv gx rfl (nb' rfl) rfl ZfY (hs2 hn)) ptn<|sn'<|Zat<|mw<|Vw (Zac lk)<|Vw (Zab lk gx gt0)<|E' (Zda (Zhl cv rfl) (hl3 hn) ha3) pt<|?_
  refine E' (Zce (ZbF lk gx rfl Zhj (nb' rfl)) lk gx ((Zd0 _).trans (by rw[htl])) om rfl (hs1 hn)) pt ?_
  refine mw<|Zaq<|ZaA<|Zae<|Zat<|?_
  refine V' (Zax lk lki om om) pt ?_
  refine mw<|Zaq<|ZaB<|?_
  refine lU' (i+1) (by (try dsimp only);omega) (by (try dsimp only);(try simp only[sm',Nat.reduceAdd]);exact bk' 2 hn hlt (by rw[htk,ZaO,Zhz];rfl))
 have hie:i=z.length:=by omega
 subst hie
 rw[show (z.map (·.1)).take z.length=z.map (·.1) from List.take_of_length_le (by simp)]
 refine ZaD<|Zay<|Zay<|ZaU<|Zae<|Zag<|wr'<|Vw (Zac lk)<|Vw (Zab lk gx gt2)<|Vw (ZaG lk)<|mw<|sn'<|?_
 refine Zam ?_
 refine Zeq (ι:=Nat) (fun (j:Nat)=>[(3,.own (N+1) (z.length+j) (z.length+j)),(24,iv (j:Int)),(7,.any)]++rn' 25 9) (fun (j:Nat)=>[(1,.mk (z.length+j) 9 1 (rows strC (z.map (·.1)++(k.map (·.2)).take j)))]) (fun (j:Nat)=>j≤k.length) (fun (j:Nat)=>k.length-j) (0) (by exact Nat.zero_le _) (by try simp only[sm',Nat.reduceAdd];exact ALe.same wA' (by rw[List.take_zero,List.append_nil];rfl)) ?_
 rintro j hi2
 try simp only[sm',Nat.reduceAdd]
 replace hi2:j≤k.length:=hi2
 have htl2:(z.map (·.1)++(k.map (·.2)).take j).length=z.length+j:=by rw[List.length_append,List.length_map,List.length_take,List.length_map];omega
 refine wr'<|Vw (ZaZ lk lk)<|sn'<|Zag<|?_
 refine cd' lk (fun hc2=>?_) (fun hc2=>?_)
 ·have hj:j<k.length:=by omega
  have htk2:(k.map (·.2)).take (j+1)=(k.map (·.2)).take j++[k[j].2]:=by rw[List.take_succ_eq_append_getElem (by simpa using hj)];simp
  refine Zad<|Zae<|Zag<|Zam<|wr'<|?_
  refine V' (ZaJ lk lk ZcM (nb' rfl) ro om ro rfl) pt ?_
  refine Vw (ZaF lk Zhi rfl)<|E' (Za7 (hl2 hn) ha2) pt<|E' (Zaj lk cv gx rfl (nb' rfl) rfl ZfY (hs2 hn)) ptn<|sn'<|Zat<|mw<|Vw (Zac lk)<|Vw (Zab lk gx gt1)<|E' (Zda (Zhk cv rfl) (hl3 hn) ha3) pt<|?_
  refine E' (Zce (ZbF lk gx rfl Zhj (nb' rfl)) lk gx ((Zd0 _).trans (by rw[htl2])) om rfl (hs1 hn)) pt ?_
  refine mw<|Zaq<|ZaA<|Zae<|Zat<|?_
  refine V' (Zax lk lki om om) pt ?_
  refine mw<|Zaq<|ZaB<|?_
  refine lU' (j+1) (by (try dsimp only);omega) (by (try dsimp only);(try simp only[sm',Nat.reduceAdd]);exact bk' 2 hn hlt (by simp only[htk2,ZaO,Zhz,List.append_assoc];rfl))
 have hje:j=k.length:=by omega
 subst hje
 rw[show (k.map (·.2)).take k.length=k.map (·.2) from List.take_of_length_le (by simp)]
 refine ZaD<|Zay<|Zay<|ZaU<|?_
 refine Za1 (ALe.iceR gx gt3 (List.take_of_length_le (by rw[Zd0];simp)) (by rw[Zd0];simp) pt3 (hs1 hn)) ?_
 refine wr'<|mw<|mw<|sn'<|Zaa<|Zah rz<|rtW'<|?_
 rw[hnl];exact Wk.full
theorem twice_a {a:List Rul}{z:List Zon}{k:List Lnk}{h:AH}(hz:z.length≤20) (hk:k.length≤20):Ac 133 [.agg (srcB a z k)] h (bv (decide (¬(Zci z k).Nodup))):=by
 have hnl:=ZfQ z k
 have hsl:=ZsY (Zci z k)
 refine tU' k133 fun N hn hlt hlA hbd=>?_
 simp only[tb'] at hbd ⊢
 refine wr'<|E' (Zbc cv rfl (hl0 hn) ha0) pt<|mw<|Zaq<|?_
 refine Za1 (ALe.icePtr gx gt1 (by simp) pt1 (hs0 hn)) ?_
 refine wr'<|Vw (ZaF lk Znw rfl)<|?_
 refine s_callh mp ((names_o (q:=N+2) (by rw[hl1 hn]) hz hk).mono (fun x h' hh=>⟨hh.1,hh.2.trans (show _=h++[_,_,_] from List.append_assoc _ _ _)⟩)) pt ?_
 refine mw<|sn'<|wr'<|mw<|?_
 refine ZaW mp (Zn6 gx om) (hs2 hn) pt ?_
 refine sn'<|Zag<|Zcg<|u_fr rfl (v_mv lk) pt<|?_
 refine Zdf mp gx (fun hU hUe=>(by have:=ZoL (h:=hU) (l:=ZeN (Zci z k)) hUe om;rwa [hsl] at this)) nh (hs2 hn) pt ?_
 refine u_fr rfl (Zb7 lk) pt<|u_fr rfl (ZaF lk Znw rfl) pt<|?_
 refine u_callF mp (fun hU=>names_q hz hk) pt ?_
 refine u_fr rfl (ZaG lk) pt<|u_fr rfl (ZaZ lk lk) pt<|u_fr rfl (v_mv lk) pt<|Zdo<|Zae<|Zaa<|Zah rz<|rT'<|?_
 exact bvx (by rw[←Zsx];simp)
end Go.Proofs.YtlekejpogddndaaGreatDoor
end
section
namespace Go.Proofs.YtlekejpogddndaaGreatDoor
open Go.Ab Go.RowKit Civ
attribute [local simp] Zbw ZbM ZbG ZbL Zcv Zd3 Zeb
section
theorem Zo5 {a0 a1 a2 a3 a4 a5 a6 a7 a8 a9 c0 c1 c2 c3 c4 c5 c6 c7 c8 c9:AV}{l:List AV}:setCells (a0::a1::a2::a3::a4::a5::a6::a7::a8::a9::l) 0 [c0,c1,c2,c3,c4,c5,c6,c7,c8,c9]=c0::c1::c2::c3::c4::c5::c6::c7::c8::c9::l:=rfl
theorem ZdQ {a0 c0:AV}{l:List AV}:setCells (a0::l) 0 [c0]=c0::l:=rfl
theorem Zhh {a0 a1 a2:AV}{l:List AV}:(a0::a1::a2::l).take 3=[a0,a1,a2]:=rfl
end
def c65p:AC:=(.seq (.reg [⟨(some 1),none,(.box 26 3 (.tmp 0))⟩,⟨(some 2),none,(.new 30 1 [(.v (.int .i64 0))])⟩]) (.seq (.reg [⟨(some 7),none,(.load true 3 (.tmp 1))⟩,⟨(some 8),none,(.call (.func 132) [(.tmp 7)])⟩,⟨(some 3),none,(.mv (.tmp 8))⟩]) (.seq (.block 0 (.seq (.reg [⟨(some 10),none,(.mv (.tmp 3))⟩,⟨(some 11),none,(.bin .neq (.tmp 10) (.const (.int .i64 0)))⟩,⟨(some 9),none,(.mv (.tmp 11))⟩]) (.cond (.tmp 9) (.seq (.reg [⟨(some 12),none,(.mv (.tmp 3))⟩,⟨none,none,(.store 1 (.tmp 2) (.tmp 12))⟩]) .ret) (.seq (.reg [⟨(some 14),none,(.load true 3 (.tmp 1))⟩,⟨(some 15),none,(.call (.func 133) [(.tmp 14)])⟩,⟨(some 13),none,(.mv (.tmp 15))⟩]) (.cond (.tmp 13) (.seq (.reg [⟨none,none,(.store 1 (.tmp 2) (.const (.int .i64 6)))⟩]) .ret) (.seq (.reg [⟨(some 17),none,(.load true 3 (.tmp 1))⟩,⟨(some 18),none,(.call (.func 134) [(.tmp 17)])⟩,⟨(some 16),none,(.mv (.tmp 18))⟩]) (.cond (.tmp 16) (.seq (.reg [⟨none,none,(.store 1 (.tmp 2) (.const (.int .i64 5)))⟩]) .ret) .skip))))))) (.seq (.reg [⟨(some 19),none,(.load true 3 (.tmp 1))⟩,⟨(some 20),none,(.call (.func 135) [(.tmp 19)])⟩]) .skip))))
def c65a:AC:=(.reg [⟨(some 4),none,(.new 63 10 [(.v (.int .i64 0)),(.v (.string ⟨#[]⟩)),(.v (.int .i64 0)),(.v (.string ⟨#[]⟩)),(.v (.bool false)),(.v (.int .i64 0)),(.v (.int .i64 0)),(.v (.int .i64 0)),(.v (.int .i64 0)),(.v (.int .i64 0))])⟩,⟨none,none,(.store 10 (.tmp 4) (.tmp 21))⟩])
def c65b:AC:=(.block 2 (.seq (.seq (.reg [⟨(some 22),none,(.fa 1 (.tmp 4))⟩,⟨(some 23),none,(.load false 1 (.tmp 22))⟩,⟨(some 24),none,(.bin .eql (.tmp 23) (.const (.string ⟨#[]⟩)))⟩]) (.cond (.tmp 24) (.exit 2) .skip)) (.seq (.reg [⟨(some 26),none,(.fa 0 (.tmp 1))⟩,⟨(some 27),none,(.load false 1 (.tmp 26))⟩,⟨(some 28),none,(.fa 1 (.tmp 4))⟩,⟨(some 29),none,(.load false 1 (.tmp 28))⟩,⟨(some 30),none,(.fa 0 (.tmp 4))⟩,⟨(some 31),none,(.load false 1 (.tmp 30))⟩,⟨(some 32),none,(.call (.func 31) [(.tmp 27),(.tmp 29),(.tmp 31)])⟩,⟨(some 25),none,(.mv (.tmp 32))⟩,⟨(some 33),none,(.ext (.tmp 25) 0)⟩,⟨(some 34),none,(.ext (.tmp 25) 1)⟩,⟨(some 5),none,(.mv (.tmp 33))⟩,⟨(some 6),none,(.mv (.tmp 34))⟩]) (.seq (.reg [⟨(some 35),none,(.mv (.tmp 6))⟩,⟨(some 36),none,(.bin .neq (.tmp 35) (.const (.int .i64 0)))⟩]) (.cond (.tmp 36) (.seq (.reg [⟨(some 37),none,(.mv (.tmp 6))⟩,⟨none,none,(.store 1 (.tmp 2) (.tmp 37))⟩]) .ret) .skip)))))
def c65q:AC:=(.seq (.reg [⟨(some 38),none,(.fa 1 (.tmp 1))⟩,⟨(some 39),none,(.load false 1 (.tmp 38))⟩,⟨(some 40),none,(.call (.func 136) [(.tmp 39),(.func 137)])⟩]) (.seq (.cond (.tmp 40) (.seq (.reg [⟨none,none,(.store 1 (.tmp 2) (.const (.int .i64 4)))⟩]) .ret) .skip) (.seq (.reg [⟨none,none,(.store 1 (.tmp 2) (.const (.int .i64 0)))⟩]) (.seq .ret .skip))))
abbrev fr65:AFR:=⟨[(.reg [⟨(some 1),none,(.box 26 3 (.tmp 0))⟩,⟨(some 2),none,(.new 30 1 [(.v (.int .i64 0))])⟩]),(.reg [⟨(some 7),none,(.load true 3 (.tmp 1))⟩,⟨(some 8),none,(.call (.func 132) [(.tmp 7)])⟩,⟨(some 3),none,(.mv (.tmp 8))⟩]),(.block 0 (.seq (.reg [⟨(some 10),none,(.mv (.tmp 3))⟩,⟨(some 11),none,(.bin .neq (.tmp 10) (.const (.int .i64 0)))⟩,⟨(some 9),none,(.mv (.tmp 11))⟩]) (.cond (.tmp 9) (.seq (.reg [⟨(some 12),none,(.mv (.tmp 3))⟩,⟨none,none,(.store 1 (.tmp 2) (.tmp 12))⟩]) .ret) (.seq (.reg [⟨(some 14),none,(.load true 3 (.tmp 1))⟩,⟨(some 15),none,(.call (.func 133) [(.tmp 14)])⟩,⟨(some 13),none,(.mv (.tmp 15))⟩]) (.cond (.tmp 13) (.seq (.reg [⟨none,none,(.store 1 (.tmp 2) (.const (.int .i64 6)))⟩]) .ret) (.seq (.reg [⟨(some 17),none,(.load true 3 (.tmp 1))⟩,⟨(some 18),none,(.call (.func 134) [(.tmp 17)])⟩,⟨(some 16),none,(.mv (.tmp 18))⟩]) (.cond (.tmp 16) (.seq (.reg [⟨none,none,(.store 1 (.tmp 2) (.const (.int .i64 5)))⟩]) .ret) .skip))))))),(.reg [⟨(some 19),none,(.load true 3 (.tmp 1))⟩,⟨(some 20),none,(.call (.func 135) [(.tmp 19)])⟩])],(.tmp 20),#[21],c65a,c65b,c65q,[(.cell 2 false 1)],41⟩
theorem k65:Zh3 Tryz.prog 65=some fr65:=by kernel_rfl
def errX (a:List Rul) (x:Era):Int:=if xRl x=⟨#[]⟩ then 0 else (Zbe a (xRl x) (xSh x)).2
def ZbO (s:Src):Int :=
 if ZbU s≠0 then ZbU s else if ¬(Zci s.2.1 s.2.2).Nodup then 6 else if Zfu s=true then 5
 else if Za3 (errX s.1) (ZcT s.2.1)≠0 then Za3 (errX s.1) (ZcT s.2.1)
 else if (s.2.1.any fun z=>!risL (ZaN z.2))=true then 4 else 0
theorem Zgq {p:Era→Int}{l:List Era}:Za3 p l=match l.find? (fun x=>decide (p x≠0)) with
  | none=>0
  | some x=>p x:=by
 induction l with
 | nil=>rfl
 | cons x l ih =>
  rw[Za3,List.find?_cons]
  by_cases h:p x≠0
  ·rw[if_pos h,decide_eq_true h]
  rw[if_neg h,decide_eq_false h];exact ih
theorem Zdv {s:Src}(h:ZbU s=0):s.1.length≤40∧s.2.1.length≤20∧s.2.2.length≤20∧(∀ z∈s.2.1,z.2.length≤8)∧(∀ r∈s.1,Zbr r=0)∧(∀ z∈s.2.1,Zfm z=0) ∧ ∀ l∈s.2.2,ZeT l=0:=by
 unfold ZbU at h
 split at h
 ·cases h
 rename_i h1
 split at h
 ·rename_i h2;exact absurd h h2
 rename_i h2
 split at h
 ·rename_i h3;exact absurd h h3
 rename_i h3
 have h1:Zfl s=false:=by simpa using h1
 unfold Zfl at h1
 simp only[Bool.or_eq_false_iff,decide_eq_false_iff_not,List.any_eq_false,decide_eq_true_eq] at h1
 exact⟨by omega,by omega,by omega,fun z hz=>by have:=h1.1.1.1 z hz;omega,Zdh (Decidable.of_not_not h2),Zdh (Decidable.of_not_not h3),Zdh h⟩
theorem ZeA {s:Src}(h:ZbU s=0) {z:Zon}(hz:z∈s.2.1):okZ z.2:=by
 obtain⟨_,_,_,h4,_,h6,_⟩:=Zdv h
 exact okZ_of (h6 z hz) (h4 z hz)
abbrev chkT (N:Nat) (a:List Rul) (z:List Zon) (k:List Lnk) (x:AV):List AV:=[.any,.rp (srcB a z k),.ptr (N+1) 0 0,.any,.any,.any,.any,.any,.any,.any,.any,.any,.any,.any,.any,.any,.any,.any,.any,.any,.clo (.func 217) [.rp (srcB a z k)],x,.any,.any,.any,.any,.any,.any,.any,.any,.any,.any,.any,.any,.any,.any,.any,.any,.any,.any,.any]
theorem chkT_lt {N:Nat}{a:List Rul}{z:List Zon}{k:List Lnk}:AV.ltL (N+4) (chkT N a z k .any)=true:=by simp[AV.ltL,AV.lt,Zbw,ZbG,ZbL]
theorem Zjg {h:AH}{lp N D:Nat}{rdy bsy fin:Obj}{a:List Rul}{z:List Zon}{k:List Lnk}{vs:List Value}(hn:h.length=N) (hlt : ∀ e∈h,e.lt N=true) (ha:a.length≤9223372036854775807) (hok:okRs a)
  (hY:Zl5 Tryz.prog fr65 (N+2+1) lp rdy bsy fin (chkT N a z k .any) vs) {x:Era} {e f:Ent} :
  AYield Tryz.prog lp [.agg (eraC x)] (ergJ h D lp 30 rdy (chkT N a z k .any) vs (iv 0) e f) fun r h''=>r=.ret (.v (.bool (!decide (errX a x≠0))))∧h''=ergJ h D lp 30 (if errX a x≠0 then fin else rdy) (chkT N a z k .any) vs (iv (errX a x)) e f:=by
 refine y_go hY (hga (k:=3) hn rfl) rfl fun n0 hn0 hlt0 q1 q2 q3=>?_
 have hm:n0=N+6:=by rw[←hn0];simp[hn]
 have hE:=hlt0 e (by simp)
 have hF:=hlt0 f (by simp)
 have hR:=hlt0 (.raw lp rdy (chkT N a z k .any) vs) (by simp)
 show aw _ _ c65a _ _ _
 show aw _ _ _ _ (chkT N a z k (.agg (eraC x))) (h++[.gone,.mk 0 30 1 [iv 0],mkD D,.raw lp rdy (chkT N a z k .any) vs,e,f])
 refine Zat<|E' (Za7 (hl6 hn) ha6) pt<|E' (Zaj lk cv gx rfl (nb' rfl) rfl Zo5 (hs6 hn)) ptn<|Zaq<|?_
 refine ZuL (i:=N+3) gx (hs3 hn) fun n1 hn1 hlt1=>?_
 have hro : ∀ o:Obj,Ent.lt n0 (.raw lp o (chkT N a z k .any) vs)=true:=fun o=>by simpa [Ent.lt] using hR
 have fin2 : ∀ (n:Int) (b:Bool) (o:Obj) (E:Ent),n=errX a x→b=!decide (errX a x≠0)→o=(if errX a x≠0 then fin else rdy) → ∃ y z',h++[.gone,.mk 0 30 1 [iv n],mkD D,.raw lp o (chkT N a z k .any) vs,e,f,E]=y++z'∧y.length=n0∧(∀ e∈y,e.lt n0=true)∧(AE.ret (.v (.bool b))).lt n0=true∧AE.ret (.v (.bool b))=.ret (.v (.bool (!decide (errX a x≠0))))∧y=ergJ h D lp 30 (if errX a x≠0 then fin else rdy) (chkT N a z k .any) vs (iv (errX a x)) e f:=by
  rintro n b o E rfl rfl rfl
  refine⟨_,_,app61,by rw[←hn0];simp,fun y hy=>?_,rfl,rfl,rfl⟩
  rcases List.mem_append.1 hy with hy | hy
  ·exact ltw om hlt y hy
  simp only[List.mem_cons,List.not_mem_nil,or_false] at hy
  rcases hy with rfl | rfl | rfl | rfl | rfl | rfl
  ·simp[Ent.lt]
  ·simp[Ent.lt,AV.ltL,AV.lt]
  ·simp[Ent.lt,AV.ltL]
  ·exact hro _
  ·exact hE
  exact hF
 show aw _ _ c65b _ _ _
 refine Zam<|Zag<|wr'<|Vw (Zac lk)<|Vw (Zab lk gx gt1)<|Vw (Zch lk lks)<|sn'<|?_
 refine cd' lk (fun hc1=>?_) (fun hc1=>?_)
 ·have hP:errX a x=0:=if_pos hc1
  refine ZaD<|Zay<|ZaU<|?_
  exact Zjk (i:=N+3) gx (hs3 hn) (fin2 0 true rdy _ hP.symm (by rw[hP];rfl) (by rw[hP];rfl))
 have hP:errX a x=(Zbe a (xRl x) (xSh x)).2:=if_neg hc1
 refine Zad<|Zae<|wr'<|Vw (ZaR lk dp0)<|Vw (Zar lk gt)<|Vw (Zac lk)<|Vw (Zab lk gx gt1)<|Vw (Zac lk)<|Vw (Zab lk gx gt0)<|Zaf mp (ZsH hok ha) pt<|mw<|Vw (Zbi lk gt)<|Vw (Zbi lk gt)<|?_
 refine mw<|mw<|sn'<|wr'<|mw<|Vw (Za9 lk lki)<|sn'<|?_
 refine cd' lk (fun hc2=>?_) (fun hc2=>?_)
 ·have hP2:errX a x≠0:=by rw[hP];exact hc2
  refine wr'<|mw<|E' (Zaj lk cv gx rfl (nb' rfl) rfl ZdQ (hs1 hn)) ptn<|sn'<|Zaa<|Zas<|?_
  refine Zqt (i:=N+3) gx (hs3 hn) (fin2 _ false fin _ hP.symm (by rw[decide_eq_true hP2];rfl) (by rw[if_pos hP2]))
 have hP2:errX a x=0:=by rw[hP];exact Decidable.of_not_not hc2
 refine Zad<|ZaA<|?_
 exact Zjk (i:=N+3) gx (hs3 hn) (fin2 0 true rdy _ hP2.symm (by rw[hP2];rfl) (by rw[hP2];rfl))
theorem Zrj {h:AH}{lp N D:Nat}{rdy bsy fin:Obj}{a:List Rul}{z:List Zon}{k:List Lnk}{vs:List Value}(hn:h.length=N) (hlt : ∀ e∈h,e.lt N=true) (hok:okRs a) (hc:ZbU (a,z,k)=0)
    (hY:Zl5 Tryz.prog fr65 (N+2+1) lp rdy bsy fin (chkT N a z k .any) vs) (hnd:(Zci z k).Nodup) (hms:Zfu (a,z,k)=false) {R:AE→AH→Prop} (hR:R=fun x h' => ∃ z',h'=h++z'∧x.lt N=true∧x=.ret (iv (ZbO (a,z,k)))) :
    ACalls Tryz.prog 217 (.v (.func (.yield lp) #[] #[])::[.rp (srcB a z k)]) (ergH h D lp 30 rdy (chkT N a z k .any) vs (iv 0)) fun r h3=>(∃ c,r=.ret c) ∧
      ((h3[N+2+1]?=some (.raw lp rdy (chkT N a z k .any) vs) ∧ ∀ n0,(h3.set (N+2+1) .gone).length=n0→(∀ e∈h3.set (N+2+1) .gone,e.lt n0=true)→aw Tryz.prog n0 fr65.post (Zfs fr65.res (N+2) D R) (chkT N a z k .any) (h3.set (N+2+1) .gone)) ∨
       (h3[N+2+1]?=some (.raw lp fin (chkT N a z k .any) vs)∧Zfs fr65.res (N+2) D R .ret (chkT N a z k .any) (h3.set (N+2+1) .gone))):=by
  obtain⟨q1,q2,q3,q4,q5,q6,q7⟩:=Zdv hc
  simp only at q1 q2 q3 q4 q5 q6 q7
  have hZ:ZbO (a,z,k)=if Za3 (errX a) (ZcT z)≠0 then Za3 (errX a) (ZcT z) else if (z.any fun z=>!risL (ZaN z.2))=true then 4 else 0:=by
    unfold ZbO
    rw[if_neg (by rw[hc];simp),if_neg (by simpa using hnd),if_neg (by rw[hms];simp)]
  refine (Zum (h:=ergH h D lp 30 rdy (chkT N a z k .any) vs (iv 0)) (p:=fun x=>decide (errX a x≠0)) (hS:=fun x=>ergH h D lp 30 fin (chkT N a z k .any) vs (iv (errX a x))) q2 q4 (fun _=>(hl4 hn).trans (hl4 hn).symm) (fun _=>by rw[hl4 hn];exact Zul hlt chkT_lt rfl) (fun x _ e f hp=>?_) (fun x _ e f hp=>?_)).mono ?_
  · have hp':errX a x=0:=by simpa using hp
    have:=Zjg (e:=e) (f:=f) (D:=D) (x:=x) hn hlt om hok hY
    rw[hp'] at this
    rw[ZhH]
    exact this
  · have hp':errX a x≠0:=by simpa using hp
    have:=Zjg (e:=e) (f:=f) (D:=D) (x:=x) hn hlt om hok hY
    rw[if_pos hp',decide_eq_true hp'] at this
    rw[ZhH,ZhH]
    exact this
  rintro x h3 ⟨rfl,rfl⟩
  refine⟨⟨_,rfl⟩,?_⟩
  rw[Zgq] at hZ
  subst hR
  cases hf:(ZcT z).find? (fun x=>decide (errX a x≠0)) with
  | none =>
    rw[hf] at hZ
    simp only[ne_eq,not_true_eq_false,if_false] at hZ
    refine .inl ⟨hga (k:=3) hn rfl,fun n0 hn0 _=>?_⟩
    have hs:(ergH h D lp 30 rdy (chkT N a z k .any) vs (iv 0)).set (N+2+1) .gone=h++[.gone,.mk 0 30 1 [iv 0],mkD D,.gone]:=hs3 hn
    show aw _ _ _ _ _ ((ergH h D lp 30 rdy (chkT N a z k .any) vs (iv 0)).set (N+2+1) .gone)
    rw[hs]
    show aw _ _ c65q _ _ _
    refine wr'<|Vw (ZaR lk dp1)<|Vw (Zar lk gt)<|?_
    refine Zaf mp (Zua (p:=fun z:Zon=>!risL (ZaN z.2)) (fun c hc' _=>check1_a (ZeA (s:=(a,z,k)) hc hc')) om) pt ?_
    refine sn'<|Zag<|?_
    refine Zaz lk (fun hc1=>?_) (fun hc1=>?_)
    · rw[if_pos hc1] at hZ
      refine wr'<|E' (Zaj lk (cvl lki rfl) gx rfl (nb' rfl) rfl ZdQ (hs1 hn)) ptn<|sn'<|Zaa<|Zai<|?_
      refine Zeg gx (hs2 hn) (rs1 (rr_c gt gx (ld0 gt))) ?_
      refine rT' ?_
      rw[hZ]
    rw[if_neg (by rw[hc1];simp)] at hZ
    refine Zad<|Zae<|wr'<|E' (Zaj lk (cvl lki rfl) gx rfl (nb' rfl) rfl ZdQ (hs1 hn)) ptn<|sn'<|Zag<|Zaa<|Zai<|?_
    refine Zeg gx (hs2 hn) (rs1 (rr_c gt gx (ld0 gt))) ?_
    refine rT' ?_
    rw[hZ]
  | some x =>
    rw[hf] at hZ
    have hx:errX a x≠0:=by have:=List.find?_some hf;simpa using this
    simp only at hZ
    rw[if_pos hx] at hZ
    refine .inr ⟨hga (k:=3) hn rfl,?_⟩
    have hs:(ergH h D lp 30 fin (chkT N a z k .any) vs (iv (errX a x))).set (N+2+1) .gone=h++[.gone,.mk 0 30 1 [iv (errX a x)],mkD D,.gone]:=hs3 hn
    show Zfs _ _ _ _ _ _ ((ergH h D lp 30 fin (chkT N a z k .any) vs (iv (errX a x))).set (N+2+1) .gone)
    rw[hs]
    exact Zeg (hga (k:=2) hn rfl) (hs2 hn) (rs1 (rr_c gt (hga (k:=1) hn rfl) (ld0 gt))) (rT' (by rw[hZ]))
theorem ZlG {s:Src}(h:Zft s):okRs s.1:=fun r hr=>h.1 r hr
theorem zcheck_a {a:List Rul}{z:List Zon}{k:List Lnk}{h:AH}(hok:Zft (a,z,k)):Ac 65 [.agg (srcB a z k)] h (iv (ZbO (a,z,k))):=by
 refine tR' k65 fun N hn hlt hlA hbd=>?_
 show aw _ _ c65p _ _ _
 show aw _ _ _ _ [.agg (srcB a z k),.any,.any,.any,.any,.any,.any,.any,.any,.any,.any,.any,.any,.any,.any,.any,.any,.any,.any,.any,.any,.any,.any,.any,.any,.any,.any,.any,.any,.any,.any,.any,.any,.any,.any,.any,.any,.any,.any,.any,.any] _
 refine wr'<|E' (Zbc cv rfl (hl0 hn) ha0) pt<|E' (Za7 (hl1 hn) ha1) pt<|Zaq<|?_
 refine Za1 (ALe.icePtr gx gt1 (by simp) pt1 (hs0 hn)) ?_
 refine wr'<|Vw (ZaF lk Zhh rfl)<|Zaf mp (scheck_b hok) pt<|mw<|sn'<|Zag<|Zam<|wr'<|mw<|Vw (Za9 lk lki)<|mw<|?_
 refine sn' ?_
 refine cd' lk (fun hc1=>?_) (fun hc1=>?_)
 ·have hZ:ZbO (a,z,k)=ZbU (a,z,k):=if_pos hc1
  refine wr'<|mw<|E' (Zaj lk cv gx rfl (nb' rfl) rfl ZdQ (hs1 hn)) ptn<|sn'<|Zaa<|Zas<|Zai<|?_
  refine ZiV (rs1 (rr_c gt gx (ld0 gt))) ?_
  refine rT' ?_
  rw[hZ]
 have hc:ZbU (a,z,k)=0:=Decidable.of_not_not hc1
 obtain⟨q1,q2,q3,q4,q5,q6,q7⟩:=Zdv hc
 simp only at q1 q2 q3 q4 q5 q6 q7
 refine wr'<|Vw (ZaF lk Zhh rfl)<|Zaf mp (twice_a q2 q3) pt<|mw<|sn'<|?_
 refine Zaz lk (fun hc2=>?_) (fun hc2=>?_)
 ·have hZ:ZbO (a,z,k)=6:=by unfold ZbO;rw[if_neg hc1,if_pos (of_decide_eq_true hc2)]
  refine wr'<|E' (Zaj lk (cvl lki rfl) gx rfl (nb' rfl) rfl ZdQ (hs1 hn)) ptn<|sn'<|Zaa<|Zas<|Zai<|?_
  refine ZiV (rs1 (rr_c gt gx (ld0 gt))) ?_
  refine rT' ?_
  rw[hZ]
 have hnd:(Zci z k).Nodup:=Decidable.of_not_not (of_decide_eq_false hc2)
 refine wr'<|Vw (ZaF lk Zhh rfl)<|?_
 refine Zaf mp (ZtM om q2 q4 om) pt ?_
 refine mw<|sn'<|?_
 refine Zaz lk (fun hc3=>?_) (fun hc3=>?_)
 ·have hZ:ZbO (a,z,k)=5:=by unfold ZbO;rw[if_neg hc1,if_neg (by simpa using hnd),if_pos hc3]
  refine wr'<|E' (Zaj lk (cvl lki rfl) gx rfl (nb' rfl) rfl ZdQ (hs1 hn)) ptn<|sn'<|Zaa<|Zas<|Zai<|?_
  refine ZiV (rs1 (rr_c gt gx (ld0 gt))) ?_
  refine rT' ?_
  rw[hZ]
 refine Zad<|ZaA<|Zae<|wr'<|Vw (ZaF lk Zhh rfl)<|Zaf mp (eras_a) pt<|sn'<|Zad<|?_
 refine Ztt (T1:=chkT N a z k .any) (ALe.same wA' rfl) rfl (hl2 hn) fun lp D rdy bsy fin vs hle hlT hY=>?_
 have hgo:=Zrj (D:=D) hn hlt (ZlG hok) hc hY hnd hc3 rfl
 rw[show (h++[Ent.gone,Ent.mk 0 30 1 [iv 0]]++[mkD D,Ent.raw lp rdy (chkT N a z k .any) vs]:AH)=ergH h D lp 30 rdy (chkT N a z k .any) vs (iv 0) by simp]
 exact hgo
end Go.Proofs.YtlekejpogddndaaGreatDoor
end
section
namespace Go.Proofs.YtlekejpogddndaaGreatDoor
open Go.Ab Go.RowKit Civ
attribute [local simp] Zbw ZbM ZbG ZbL Zcv Zd3 Zeb
section
theorem ZhL {a0 a1 a2:AV}{l:List AV}:((a0::a1::a2::l).drop 0).take 3=[a0,a1,a2]:=rfl
theorem Zo4 {τ:Operand→AV}:Zau τ [] [(.v (.string ⟨#[]⟩)),(.sl 0 0 true [])]=some [(.v (.string ⟨#[]⟩)),(.sl 0 0 true [])]:=rfl
theorem ZeF {a0 a1 c0 c1:AV}{l:List AV}:setCells (a0::a1::l) 0 [c0,c1]=c0::c1::l:=rfl
theorem ZeE {a0 a1:AV}{l:List AV}:((a0::a1::l).drop 0).take 2=[a0,a1]:=rfl
theorem Znv {τ:Operand→AV}:Zau τ [] [(.v (.string ⟨#[]⟩)),(.sl 0 0 true [])]=some [(.v (.string ⟨#[]⟩)),(.sl 0 0 true [])]:=rfl
theorem ZuZ {a0 a1:AV}{l:List AV}:(a0::a1::l).take 2=[a0,a1]:=rfl
theorem ZrA {τ:Operand→AV}:Zau τ [] []=some []:=rfl
theorem Zrz {a0 a1 c0:AV}{l:List AV}:setCells (a0::a1::l) 1 [c0]=a0::c0::l:=rfl
end
def c66:AC:=(Sr [Oo 2 (.box 26 3 (.tmp 0)),Oo 4 (.new 53 2 [Ss,(.sl 0 0 true [])]),Mc 5 0] (.seq (Sr [Oo 8 (.load true 3 (.tmp 2)),Cl 9 65 [(.tmp 8)],Mv 6 9] (Sr [Mv 10 6,Bc 11 .neq 10 0] (Cd 11 (Sr [Oo 12 (.build [Ss,(.sl 0 0 true [])] []),Mv 13 6,⟨none,none,(.store 2 (.tmp 4) (.tmp 12))⟩,Mv 5 13] .ret) .skip))) (Sr [Oo 14 (.load true 3 (.tmp 2)),Mv 15 1,Cl 16 139 [(.tmp 14),(.tmp 15)],Mv 7 16] (.seq (Sr [Mv 17 7,Bc 18 .lss 17 0] (Cd 18 (Sr [Oo 19 (.build [Ss,(.sl 0 0 true [])] []),⟨none,none,(.store 2 (.tmp 4) (.tmp 19))⟩,Mc 5 5] .ret) .skip)) (Sr [Fa 20 1 2,Ld 21 20,Mv 22 7,Oo 23 (.ia 2 (.tmp 21) (.tmp 22)),Oo 24 (.load true 2 (.tmp 23)),⟨none,none,(.store 2 (.tmp 4) (.tmp 24))⟩,Mc 5 0] .ret)))))
theorem k66:ZaE Tryz.prog 66=some ⟨c66,[(.cell 4 true 2),(.tmp 5)],25⟩:=by kernel_rfl
def c30:AC:=(Sr [Oo 2 (.box 26 3 (.tmp 0)),Oo 4 (.new 53 2 [Ss,(.sl 0 0 true [])]),Mc 5 0] (Sr [Oo 9 (.load true 3 (.tmp 2)),Mv 10 1,Cl 11 66 [(.tmp 9),(.tmp 10)],Mv 8 11,Ex 12 8 0,Ex 13 8 1,Oo 6 (.new 53 2 [Ss,(.sl 0 0 true [])]),⟨none,none,(.store 2 (.tmp 6) (.tmp 12))⟩,Mv 7 13] (Sr [Fa 14 1 6,Ld 15 14,Cl 16 85 [(.tmp 15)],Fa 17 1 6,Sc 17 16] (Sr [Oo 18 (.load true 2 (.tmp 6)),Mv 19 7,⟨none,none,(.store 2 (.tmp 4) (.tmp 18))⟩,Mv 5 19] .ret))))
theorem k30:ZaE Tryz.prog 30=some ⟨c30,[(.cell 4 true 2),(.tmp 5)],20⟩:=by kernel_rfl
def c85:AC:=(Sr [Oo 2 (.mv (.const (.slice none 0 0)))] (.seq (Sr [Mv 3 0,Oo 4 (.eqn false (.tmp 3))] (Cd 4 (Sr [Oo 2 (.mv (.const (.slice none 0 0)))] .ret) .skip)) (Sr [Oo 5 (.lit 63 10 0 [] []),Mv 6 0,Oo 7 (.app 63 10 96 (.tmp 5) (.tmp 6)),Mv 2 7] .ret)))
theorem k85:ZaE Tryz.prog 85=some ⟨c85,[(.tmp 2)],8⟩:=by kernel_rfl
def zonO:Zon:=(⟨#[]⟩,[])
def tgtV (s:Src) (nm:ByteArray):ByteArray:=match s.2.2[s.2.2.findIdx fun l=>decide (l.2=nm)]? with
 | some l=>l.1
 | none=>nm
def ZcS (s:Src) (nm:ByteArray):Zon×Int :=
 if ZbO s≠0 then (zonO,ZbO s) else match s.2.1[s.2.1.findIdx fun z=>decide (z.1=tgtV s nm)]? with
 | some z=>(z,0)
 | none=>(zonO,5)
theorem ZkA {s:Src}{nm:ByteArray}(h0:ZbO s=0) (h:¬s.2.1.findIdx (fun z=>decide (z.1=tgtV s nm))<s.2.1.length):ZcS s nm=(zonO,5):=by
 unfold ZcS;rw[if_neg (by simp[h0]),List.getElem?_eq_none (Nat.le_of_not_lt h)]
theorem Zkz {s:Src}{nm:ByteArray}(h0:ZbO s=0) (h:s.2.1.findIdx (fun z=>decide (z.1=tgtV s nm))<s.2.1.length):ZcS s nm=(s.2.1[s.2.1.findIdx fun z=>decide (z.1=tgtV s nm)],0):=by
 unfold ZcS;rw[if_neg (by simp[h0]),List.getElem?_eq_getElem h]
theorem Zss {e:AV}:Wk (.tup [.agg [sv ⟨#[]⟩,.sl 0 0 true []],e]) (.tup [.agg (zonC zonO),e]):=Wk.tup (wkw (Wk.agg (wk1 rfl (wkw Wk.nilF wk0))) (wk1 rfl wk0))
theorem find_a {a:List Rul}{z:List Zon}{k:List Lnk}{nm:ByteArray}{h:AH}(hok:Zft (a,z,k)):Ac 66 [.agg (srcB a z k),sv nm] h (.tup [.agg (zonC (ZcS (a,z,k) nm).1),iv (ZcS (a,z,k) nm).2]):=by
 refine tW' k66 fun N hn hlt hlA hbd=>?_
 simp only[tb'] at hbd ⊢
 refine wr'<|E' (Zbc cv rfl (hl0 hn) ha0) pt<|E' (Za7 (hl1 hn) ha1) pt<|mw<|sn'<|Zag<|wr'<|Vw (Zao lk gx ZhL rfl)<|Zaf mp (zcheck_a hok) pt<|mw<|Zaq<|?_
 refine Zae<|wr'<|mw<|Vw (Za9 lk lki)<|sn'<|?_
 refine cd' lk (fun hc1=>?_) (fun hc1=>?_)
 ·have hF:ZcS (a,z,k) nm=(zonO,ZbO (a,z,k)):=if_pos hc1
  refine wr'<|Vw (Zaw Zo4)<|mw<|E' (Zaj lk cv gx rfl (nb' rfl) rfl ZeF (hs1 hn)) ptn<|mw<|sn'<|Zaa<|Zai<|Zah (rsn (rm1 (rr_c gt gx (ld1 ZeE rfl)) (rm1 (rr_t gt) rm0)))<|rtW'<|?_
  rw[hF];exact Zss
 have hz0:ZbO (a,z,k)=0:=Decidable.of_not_not hc1
 have hce:ZbU (a,z,k)=0:=by unfold ZbO at hz0;split at hz0;(rename_i hh;exact absurd hz0 hh);(rename_i hh;exact Decidable.of_not_not hh)
 obtain⟨q1,q2,q3,q4,q5,q6,q7⟩:=Zdv hce
 simp only at q1 q2 q3 q4 q5 q6 q7
 refine Zad<|Zae<|wr'<|Vw (Zao lk gx ZhL rfl)<|mw<|?_
 refine Zaf mp (look_a om om) pt ?_
 refine mw<|sn'<|Zag<|wr'<|mw<|Vw (ZaZ lk lki)<|sn'<|?_
 refine cd' lk (fun hc2=>?_) (fun hc2=>?_)
 ·have hlt':¬z.findIdx (fun y:Zon=>decide (y.1=tgtV (a,z,k) nm))<z.length:=fun hh=>by have:ZgY (a,z,k) nm=((z.findIdx fun y:Zon=>decide (y.1=tgtV (a,z,k) nm):Nat):Int):=if_pos hh;omega
  have hF:ZcS (a,z,k) nm=(zonO,5):=ZkA hz0 hlt'
  refine wr'<|Vw (Zaw Znv)<|E' (Zaj lk cv gx rfl (nb' rfl) rfl ZeF (hs1 hn)) ptn<|mw<|sn'<|Zaa<|Zai<|Zah (rsn (rm1 (rr_c gt gx (ld1 ZeE rfl)) (rm1 (rr_t gt) rm0)))<|rtW'<|?_
  rw[hF];exact Zss
 have hlt':z.findIdx (fun y:Zon=>decide (y.1=tgtV (a,z,k) nm))<z.length:=Decidable.byContradiction fun hh=>by have:ZgY (a,z,k) nm = -1:=if_neg hh;omega
 have hix:ZgY (a,z,k) nm=((z.findIdx fun y:Zon=>decide (y.1=tgtV (a,z,k) nm):Nat):Int):=if_pos hlt'
 have hF:ZcS (a,z,k) nm=(z[z.findIdx fun y:Zon=>decide (y.1=tgtV (a,z,k) nm)],0):=Zkz hz0 hlt'
 refine Zad<|Zae<|wr'<|Vw (Zac lk)<|Vw (Zab lk gx gt1)<|mw<|?_
 refine V' (ZaJ lk lk (fun _=>rfl) (nb' rfl) ro om ro rfl) pt ?_
 refine Vw (ZaF lk ZuZ rfl)<|E' (Zaj lk cv gx rfl (nb' rfl) rfl ZeF (hs1 hn)) ptn<|mw<|sn'<|Zaa<|Zah (rsn (rm1 (rr_c gt gx (ld1 ZeE rfl)) (rm1 (rr_t gt) rm0)))<|rtW'<|?_
 rw[hF];exact Wk.refl _
theorem Ziv {s:Src}(h:ZbO s=0):ZbU s=0:=by
 unfold ZbO at h
 split at h
 ·rename_i hh;exact absurd h hh
 rename_i hh;exact Decidable.of_not_not hh
theorem Zuj {s:Src}{nm:ByteArray}(h:(ZcS s nm).2=0):ZbO s=0∧(ZcS s nm).1∈s.2.1∧(ZcS s nm).1.1=tgtV s nm:=by
 unfold ZcS at h ⊢
 split at h
 ·rename_i h1;exact absurd h h1
 rename_i h1
 rw[if_neg h1]
 split at h
 ·rename_i z hz
  refine⟨Decidable.of_not_not h1,List.mem_of_getElem? hz,?_⟩
  obtain⟨hlt,rfl⟩:=List.getElem?_eq_some_iff.1 hz
  have:=List.findIdx_getElem (w:=hlt)
  simpa using this
 cases h
theorem find_bad {s:Src}{nm:ByteArray}(h:(ZcS s nm).2≠0):(ZcS s nm).1=zonO:=by
 unfold ZcS at h ⊢
 split
 ·rfl
 rename_i h1
 rw[if_neg h1] at h
 split
 ·rename_i z hz;rw[hz] at h;exact absurd rfl h
 rfl
theorem Zrk {s:Src}(h:ZbO s=0):ZbU s=0∧(Zci s.2.1 s.2.2).Nodup∧Zfu s=false∧(∀ x∈ZcT s.2.1,errX s.1 x=0) ∧ ∀ z∈s.2.1,risL (ZaN z.2)=true:=by
 have hE:=Ziv h
 unfold ZbO at h
 rw[if_neg (by simp[hE])] at h
 split at h
 ·cases h
 rename_i h1
 split at h
 ·cases h
 rename_i h2
 split at h
 ·rename_i h3;exact absurd h h3
 rename_i h3
 split at h
 ·cases h
 rename_i h4
 refine⟨hE,Decidable.of_not_not h1,by simpa using h2,Zdh (Decidable.of_not_not h3),fun z hz=>?_⟩
 simp only[List.any_eq_true,not_exists,not_and,Bool.not_eq_true',Bool.not_eq_false] at h4
 exact h4 z hz
theorem cloneE_a {l:List Era}{full:Bool}{h:AH}(hl:l.length≤300000000000):ACalls Tryz.prog 85 [.sl l.length 10 full (rows eraC l)] h fun r h' => ∃ v,r=.ret (.own h.length v l.length)∧h'=h++[.mk v 63 10 (rows eraC l)]:=by
 refine tN' k85 fun N hn hlt hlA hbd=>?_
 simp only[tb'] at hbd ⊢
 refine wr'<|mw<|sn'<|Zag<|wr'<|mw<|?_
 refine s_eqn lk (fun _=>pt) (fun bn3 hbn3=>?_)
 refine sn' ?_
 refine cd' lk (fun hc1=>?_) (fun hc1=>?_)
 ·refine wr'<|mv' lkn pt2<|Zaq<|Za1 (ALe.own0 (d:=2) (st':=10) (ty:=63) rfl)<|Zaa<|Zai<|Zah (rs1 (rr_t gt2))<|?_
  have h0:l=[]:=List.eq_nil_of_length_eq_zero ((Nat.eq_zero_or_pos _).resolve_right (fun e=>by have:=hbn3 e;rw[hc1] at this;cases this))
  subst h0
  exact⟨0,by simp,by simp[rows]⟩
 refine Zad<|Zae<|wr'<|E' (Zda ZrA (hl0 hn) ha0) pt<|mw<|?_
 refine E' (Zce (sc_sl lk (ZlN _)) lk gx rfl om (era_leaf _) (hs0 hn)) pt ?_
 refine mw<|sn'<|Zaa<|Zah rz<|?_
 exact⟨0+1,by simp[hn],by simp⟩
theorem Zuk {s:Src}{nm:ByteArray}:(ZcS s nm).1.2.length≤8:=by
 by_cases h:(ZcS s nm).2=0
 ·obtain⟨h1,h2,_⟩:=Zuj h
  exact (Zdv (Ziv h1)).2.2.2.1 _ h2
 rw[find_bad h];simp[zonO]
theorem zfind_a {a:List Rul}{z:List Zon}{k:List Lnk}{nm:ByteArray}{h:AH}(hok:Zft (a,z,k)):Ac 30 [.agg (srcB a z k),sv nm] h (.tup [.agg (zonC (ZcS (a,z,k) nm).1),iv (ZcS (a,z,k) nm).2]):=by
 have hfl:=Zuk (s:=(a,z,k)) (nm:=nm)
 refine tW' k30 fun N hn hlt hlA hbd=>?_
 simp only[tb'] at hbd ⊢
 refine wr'<|E' (Zbc cv rfl (hl0 hn) ha0) pt<|E' (Za7 (hl1 hn) ha1) pt<|mw<|sn'<|wr'<|Vw (Zao lk gx ZhL rfl)<|mw<|Zaf mp (find_a hok) pt<|mw<|Vw (Zbi lk gt)<|?_
 refine Vw (Zbi lk gt)<|E' (Za7 (hl2 hn) ha2) pt<|E' (Zaj lk cv gx rfl (nb' rfl) rfl ZeF (hs2 hn)) ptn<|mw<|sn'<|wr'<|Vw (Zac lk)<|Vw (Zab lk gx gt1)<|?_
 refine s_calla mp (cloneE_a om) (hl3 hn) (fun _=>ha3) (fun _=>pt) (fun va15=>?_)
 refine Vw (Zac lk)<|E' (Zaj lk cv gx rfl (nb' rfl) rfl Zrz (hs2 hn)) ptn<|Zaq<|?_
 refine Za1 (ALe.iceCellR gx gx om gt1 (List.take_of_length_le (by rw[Zbh Zb5];first | exact Nat.le_refl _ | omega)) (by rw[Zbh Zb5];first | exact Nat.le_refl _ | omega) pt1 (hs3 hn) (hs2 hn)) ?_
 refine wr'<|Vw (Zao lk gx ZeE rfl)<|mw<|E' (Zaj lk cv gx rfl (nb' rfl) rfl ZeF (hs1 hn)) ptn<|mw<|sn'<|Zaa<|Zah (rsn (rm1 (rr_c gt gx (ld1 ZeE rfl)) (rm1 (rr_t gt) rm0)))<|rtW'<|?_
 exact Wk.tup (wkw (Wk.agg (wk1 rfl (wkw Wk.full wk0))) (wk1 rfl wk0))
theorem Ztz : ∀ {l:List Trn}{sh sa:Int}{t:Tim},t∈outV sh sa l→(0≤sa∧sa≤10800)→(∀ u∈l,Zbr u.2=0) → ∃ u∈l,∃ sa',(0≤sa'∧sa'≤10800)∧t=timV sh sa' u
 | u::l,sh,sa,t,ht,hs,hr=>by
  rw[outV] at ht
  rcases List.mem_cons.1 ht with rfl | ht
  ·exact⟨u,by simp,sa,hs,rfl⟩
  have h8:=(ZbV (hr u (by simp))).2.2.2.2.2.2.2
  obtain⟨v,hv,sa',h1,h2⟩:=Ztz ht h8 fun x hx=>hr x (by simp[hx])
  exact⟨v,by simp[hv],sa',h1,h2⟩
theorem ruleE_lt {r:Rul}(h:Zbr r=0):(rLt r).size≤24:=by
 unfold Zbr at h
 split at h
 ·cases h
 rename_i h1
 have:=(Decidable.of_not_not h1).2
 unfold ZcD at this
 simp only[Bool.and_eq_true,decide_eq_true_eq] at this
 exact this.1
theorem Zmm {l:List Rul}{nm:ByteArray}{sh:Int}{t:Tim}(ht:t∈(Zbe l nm sh).1):(-2600000000≤t.1∧t.1≤4330172800)∧(0≤t.2.1∧t.2.1≤10800)∧t.2.2.size≤24:=by
 unfold Zbe at ht
 split at ht
 ·cases ht
 rename_i h1
 split at ht
 ·cases ht
 split at ht
 ·cases ht
 obtain⟨g1,g2,g3,_⟩:=ZgU (Decidable.of_not_not h1)
 have hm : ∀ u∈srtT (Zbn l nm),Zbr u.2=0 ∧ -2592000000≤u.1∧u.1≤4320172800:=fun u hu=>Zii g2 ((Zls _).mem_iff.1 hu)
 obtain⟨u,hu,sa',hs,rfl⟩:=Ztz ht om fun u hu=>(hm u hu).1
 obtain⟨hr,hb1,hb2⟩:=hm u hu
 have ho:=ZtE (r:=u.2) g3 hs
 obtain⟨_,_,_,_,_,_,_,h8⟩:=ZbV hr
 exact⟨⟨by show -2600000000≤u.1-offV u.2 sh sa';omega,by show u.1-offV u.2 sh sa'≤4330172800;omega⟩,h8,ruleE_lt hr⟩
theorem ZiC {l:List Rul}{nm:ByteArray}{sh:Int}:(Zbe l nm sh).1.length≤1000:=by
 unfold Zbe
 split
 ·simp
 split
 ·simp
 split
 ·simp
 rw[Zeh,srt_len];omega
theorem Zty : ∀ {l:List Trn}{sh sa:Int},(-64800≤sh∧sh≤64800)→(0≤sa∧sa≤10800)→(∀ u∈l,Zbr u.2=0)→gapB l=false→(outV sh sa l).Pairwise fun a b=>a.1<b.1
 | [],_,_,_,_,_,_=>.nil
 | [u],_,_,_,_,_,_=>by simp[outV]
 | u::v::l,sh,sa,h1,h2,hr,hg=>by
  rw[Zg1,Bool.or_eq_false_iff] at hg
  have hu8:=(ZbV (hr u (by simp))).2.2.2.2.2.2.2
  have ih:=Zty (l:=v::l) (sh:=sh) (sa:=rSv u.2) h1 hu8 (fun x hx=>hr x (by simp[hx])) hg.2
  rw[outV,List.pairwise_cons]
  refine⟨fun t ht=>?_,ih⟩
  have hgap:172800≤v.1-u.1:=by have:=hg.1;simp only[decide_eq_false_iff_not] at this;omega
  have hfirst:(timV sh sa u).1<(timV sh (rSv u.2) v).1:=by
   show u.1-offV u.2 sh sa<v.1-offV v.2 sh (rSv u.2)
   unfold offV
   split <;> split <;> (try split) <;> (try split) <;> omega
  rw[outV] at ht
  rcases List.mem_cons.1 ht with rfl | ht
  ·exact hfirst
  rw[outV,List.pairwise_cons] at ih
  have:=ih.1 t ht
  omega
theorem ZsG {l:List Rul}{nm:ByteArray}{sh:Int}:(Zbe l nm sh).1.Pairwise fun a b=>a.1<b.1:=by
 unfold Zbe
 split
 ·exact .nil
 rename_i h1
 split
 ·exact .nil
 rename_i h2
 split
 ·exact .nil
 obtain⟨g1,g2,g3,_⟩:=ZgU (Decidable.of_not_not h1)
 exact Zty g3 om (fun u hu=>(Zii g2 ((Zls _).mem_iff.1 hu)).1) (by simpa using h2)
theorem risT_all (rl:List Rul) (x:Era):risT rl x:=by
 unfold risT ZaP
 split
 ·exact .nil
 exact ZsG
theorem ZfM {rl:List Rul}{x:Era}{t:Tim}(ht:t∈ZaP rl x):(-2600000000≤t.1∧t.1≤4330172800)∧(0≤t.2.1∧t.2.1≤10800)∧t.2.2.size≤24:=by
 unfold ZaP at ht
 split at ht
 ·cases ht
 exact Zmm ht
theorem ZcV {rl:List Rul}{x:Era}:(ZaP rl x).length≤1000:=by
 unfold ZaP
 split
 ·simp
 exact ZiC
theorem Zgp {fm:ByteArray}(h:Zbx fm=true):fm.size≤24:=by
 unfold Zbx at h
 split at h
 ·cases h
 rename_i h1;omega
end Go.Proofs.YtlekejpogddndaaGreatDoor
end
section
namespace Go.Proofs.YtlekejpogddndaaGreatDoor
open Go.Ab Go.RowKit Civ
attribute [local simp] Zbw ZbM ZbG ZbL Zcv Zd3 Zeb
section
theorem ZfX {a0 a1 a2 a3 a4 a5 a6 a7 a8 a9:AV}{l:List AV}:(a0::a1::a2::a3::a4::a5::a6::a7::a8::a9::l).take 10=[a0,a1,a2,a3,a4,a5,a6,a7,a8,a9]:=rfl
theorem Zo3 {τ:Operand→AV}{y0:Operand}{x0_0:AV}(h0:Zav (τ y0)=some [x0_0]) (l0:[x0_0].all leaf=true):Zau τ [(1,1,y0)] [(.v (.int .i64 0)),(.v (.int .i64 0)),(.v (.string ⟨#[]⟩))]=some [(.v (.int .i64 0)),x0_0,(.v (.string ⟨#[]⟩))]:=by
 simp only[Zau,h0,l0]
 rfl
theorem Zo2 {τ:Operand→AV}{y0 y1:Operand}{x0_0 x1_0 x1_1 x1_2:AV}(h0:Zav (τ y0)=some [x0_0]) (l0:[x0_0].all leaf=true) (h1:Zav (τ y1)=some [x1_0,x1_1,x1_2]) (l1:[x1_0,x1_1,x1_2].all leaf=true):Zau τ [(0,1,y0),(1,3,y1)] [(.v (.int .i64 0)),(.v (.int .i64 0)),(.v (.int .i64 0)),(.v (.string ⟨#[]⟩))]=some [x0_0,x1_0,x1_1,x1_2]:=by
 simp only[Zau,h0,l0,h1,l1]
 rfl
theorem Zo1 {τ:Operand→AV}{y0:Operand}{x0_0 x0_1 x0_2 x0_3:AV}(h0:Zav (τ y0)=some [x0_0,x0_1,x0_2,x0_3]) (l0:[x0_0,x0_1,x0_2,x0_3].all leaf=true):Zau τ [(0,4,y0)] [(.v (.int .i64 0)),(.v (.int .i64 0)),(.v (.int .i64 0)),(.v (.string ⟨#[]⟩))]=some [x0_0,x0_1,x0_2,x0_3]:=by
 simp only[Zau,h0,l0]
 rfl
theorem Zo0 {τ:Operand→AV}:Zau τ [] [(.v (.int .i64 0)),(.v (.int .i64 0)),(.v (.string ⟨#[]⟩))]=some [(.v (.int .i64 0)),(.v (.int .i64 0)),(.v (.string ⟨#[]⟩))]:=rfl
theorem ZoZ {τ:Operand→AV}{y0 y1:Operand}{x0_0 x1_0 x1_1 x1_2:AV}(h0:Zav (τ y0)=some [x0_0]) (l0:[x0_0].all leaf=true) (h1:Zav (τ y1)=some [x1_0,x1_1,x1_2]) (l1:[x1_0,x1_1,x1_2].all leaf=true):Zau τ [(0,1,y0),(1,3,y1)] [(.v (.int .i64 0)),(.v (.int .i64 0)),(.v (.int .i64 0)),(.v (.string ⟨#[]⟩))]=some [x0_0,x1_0,x1_1,x1_2]:=by
 simp only[Zau,h0,l0,h1,l1]
 rfl
theorem ZoY {τ:Operand→AV}{y0:Operand}{x0_0 x0_1 x0_2 x0_3:AV}(h0:Zav (τ y0)=some [x0_0,x0_1,x0_2,x0_3]) (l0:[x0_0,x0_1,x0_2,x0_3].all leaf=true):Zau τ [(0,4,y0)] [(.v (.int .i64 0)),(.v (.int .i64 0)),(.v (.int .i64 0)),(.v (.string ⟨#[]⟩))]=some [x0_0,x0_1,x0_2,x0_3]:=by
 simp only[Zau,h0,l0]
 rfl
theorem Zjp {a0 a1 a2:AV}{l:List AV}:(a0::a1::a2::l).take 3=[a0,a1,a2]:=rfl
theorem Zrx {a0 a1 a2 c0 c1 c2:AV}{l:List AV}:setCells (a0::a1::a2::l) 0 [c0,c1,c2]=c0::c1::c2::l:=rfl
theorem Zrv {a0 a1 a2:AV}{l:List AV}:((a0::a1::a2::l).drop 0).take 3=[a0,a1,a2]:=rfl
theorem ZoX {τ:Operand→AV}{y0 y1:Operand}{x0_0 x1_0 x1_1 x1_2:AV}(h0:Zav (τ y0)=some [x0_0]) (l0:[x0_0].all leaf=true) (h1:Zav (τ y1)=some [x1_0,x1_1,x1_2]) (l1:[x1_0,x1_1,x1_2].all leaf=true):Zau τ [(0,1,y0),(1,3,y1)] [(.v (.int .i64 0)),(.v (.int .i64 0)),(.v (.int .i64 0)),(.v (.string ⟨#[]⟩))]=some [x0_0,x1_0,x1_1,x1_2]:=by
 simp only[Zau,h0,l0,h1,l1]
 rfl
theorem ZuY { e:Ent}:([]:AH)++[e]=[e]:=rfl
theorem Zry {e0 e1 e2 e3 d0:Ent}:([e0,e1,e2,e3]:AH)++[d0]=[e0,e1,e2,e3,d0]:=rfl
theorem Zrw {a0 a1 a2 a3 c0 c1 c2 c3:AV}{l:List AV}:setCells (a0::a1::a2::a3::l) 0 [c0,c1,c2,c3]=c0::c1::c2::c3::l:=rfl
theorem ZkV {a0 a1 a2 a3:AV}{l:List AV}:((a0::a1::a2::a3::l).drop 0).take 4=[a0,a1,a2,a3]:=rfl
theorem ZoW {τ:Operand→AV}{y0:Operand}{x0_0 x0_1 x0_2 x0_3:AV}(h0:Zav (τ y0)=some [x0_0,x0_1,x0_2,x0_3]) (l0:[x0_0,x0_1,x0_2,x0_3].all leaf=true):Zau τ [(0,4,y0)] [(.v (.int .i64 0)),(.v (.int .i64 0)),(.v (.int .i64 0)),(.v (.string ⟨#[]⟩))]=some [x0_0,x0_1,x0_2,x0_3]:=by
 simp only[Zau,h0,l0]
 rfl
theorem ZuW {a0 a1 a2 a3:AV}{l:List AV}:(a0::a1::a2::a3::l).take 4=[a0,a1,a2,a3]:=rfl
theorem ZuX {a0 a1:AV}{l:List AV}:(a0::a1::l).take 2=[a0,a1]:=rfl
theorem ZoV {a0 a1 a2 a3 a4 a5 a6 a7 a8 a9 c0 c1 c2 c3 c4 c5 c6 c7 c8 c9:AV}{l:List AV}:setCells (a0::a1::a2::a3::a4::a5::a6::a7::a8::a9::l) 0 [c0,c1,c2,c3,c4,c5,c6,c7,c8,c9]=c0::c1::c2::c3::c4::c5::c6::c7::c8::c9::l:=rfl
theorem Zjq {a0 a1 a2 a3 a4 a5 a6 a7 a8 a9:AV}{l:List AV}:((a0::a1::a2::a3::a4::a5::a6::a7::a8::a9::l).drop 0).take 10=[a0,a1,a2,a3,a4,a5,a6,a7,a8,a9]:=rfl
end
def c142:AC:=(Sr [Oo 3 (.box 26 3 (.tmp 0)),Oo 4 (.box 63 10 (.tmp 1)),Oo 6 (.mv (.const (.slice none 0 0)))] (.seq (Sr [Fa 13 1 4,Ld 14 13,Oo 15 (.bin .eql (.tmp 14) (.const (.string ⟨#[]⟩)))] (Cd 15 (Sr [Mv 16 2,Oo 17 (.load true 10 (.tmp 4)),Fa 18 2 4,Ld 19 18,Oo 20 (.build [(iv 0),(iv 0),Ss] [(1,(1,(.tmp 19)))]),Cl 21 220 [(.tmp 17),(.tmp 20)],Oo 22 (.build [(iv 0),(iv 0),(iv 0),Ss] [(0,(1,(.tmp 16))),(1,(3,(.tmp 21)))]),Oo 23 (.lit 121 4 1 [(iv 0),(iv 0),(iv 0),Ss] [(0,(4,(.tmp 22)))]),Mv 6 23] .ret) .skip)) (Sr [Fa 25 0 3,Ld 26 25,Fa 27 1 4,Ld 28 27,Fa 29 0 4,Ld 30 29,Cl 31 31 [(.tmp 26),(.tmp 28),(.tmp 30)],Mv 24 31,Ex 32 24 0,Ex 33 24 1,Mv 7 32,Mv 8 33] (Sr [Mv 34 2,Oo 35 (.load true 10 (.tmp 4)),Oo 36 (.build [(iv 0),(iv 0),Ss] []),Cl 37 220 [(.tmp 35),(.tmp 36)],Oo 38 (.build [(iv 0),(iv 0),(iv 0),Ss] [(0,(1,(.tmp 34))),(1,(3,(.tmp 37)))]),Oo 39 (.lit 121 4 1 [(iv 0),(iv 0),(iv 0),Ss] [(0,(4,(.tmp 38)))]),Mv 9 39] (.seq (Sr [Mv 40 7,Oo 41 (.len false (.tmp 40)),Mc 42 0] (.block 0 (.loop (Sr [Bn 43 .lss 42 41] (.seq (Cd 43 .skip (.exit 0)) (.seq (.block 1 (Sr [Oo 44 (.ia 3 (.tmp 40) (.tmp 42)),Oo 45 (.load true 3 (.tmp 44)),Oo 11 (.new 136 3 [(iv 0),(iv 0),Ss]),⟨none,none,(.store 3 (.tmp 11) (.tmp 45))⟩] (.seq (.drw [Mv 46 2,Fa 47 0 11,Ld 48 47,Oo 49 (.mm true (.tmp 46) (.tmp 48)),Oo 50 (.load true 10 (.tmp 4)),Oo 51 (.load true 3 (.tmp 11)),Cl 52 220 [(.tmp 50),(.tmp 51)],Oo 53 (.build [(iv 0),(iv 0),(iv 0),Ss] [(0,(1,(.tmp 49))),(1,(3,(.tmp 52)))]),Oo 12 (.new 121 4 [(iv 0),(iv 0),(iv 0),Ss])] [false] [⟨none,none,(.store 4 (.tmp 12) (.tmp 53))⟩]) (Sr [Fa 54 0 11,Ld 55 54,Mv 56 2,Bn 57 .leq 55 56] (Cd 57 (.reg [Mv 58 9,Oo 59 (.load true 4 (.tmp 12)),Oo 60 (.ia 4 (.tmp 58) (Ci 0)),⟨none,none,(.store 4 (.tmp 60) (.tmp 59))⟩]) (.reg [Mv 61 9,Oo 62 (.load true 4 (.tmp 12)),Oo 63 (.lit 121 4 1 [(iv 0),(iv 0),(iv 0),Ss] [(0,(4,(.tmp 62)))]),Oo 64 (.app 121 4 40 (.tmp 61) (.tmp 63)),Mv 9 64])))))) (.reg [Bc 65 .add 42 1,Mv 42 65]))))))) (Sr [Mv 66 9,Mv 6 66] .ret))))))
theorem k142:ZaE Tryz.prog 142=some ⟨c142,[(.tmp 6)],67⟩:=by kernel_rfl
def c69:AC:=(Sr [Oo 3 (.box 26 3 (.tmp 0)),Oo 4 (.box 53 2 (.tmp 1)),Oo 6 (.mv (.const (.slice none 0 0)))] (Sr [Oo 7 (.mv (.const (.slice none 0 0)))] (Sr [Oo 13 (.load true 2 (.tmp 4)),Cl 14 131 [(.tmp 13)],Mv 8 14] (.seq (Sr [Fa 15 1 4,Ld 16 15,Oo 17 (.len false (.tmp 16)),Mc 18 0] (.block 0 (.loop (Sr [Bn 19 .lss 18 17] (.seq (Cd 19 .skip (.exit 0)) (.seq (.block 1 (Sr [Mv 20 18,Oo 21 (.ia 10 (.tmp 16) (.tmp 18)),Oo 22 (.load true 10 (.tmp 21)),Oo 10 (.new 63 10 [(iv 0),Ss,(iv 0),Ss,(.v (.bool false)),(iv 0),(iv 0),(iv 0),(iv 0),(iv 0)]),Mv 9 20,⟨none,none,(.store 10 (.tmp 10) (.tmp 22))⟩] (.seq (Sr [Mv 23 9,Mv 24 8,Oo 25 (.len false (.tmp 24)),Bn 26 .lss 23 25,Mv 27 26,Ot 28 27 (mt 8),Ot 29 27 (mt 9),Ot 30 27 (.ia 1 (.tmp 28) (.tmp 29)),Ot 31 27 (.load false 1 (.tmp 30)),Ot 32 27 (mt 2),Ot 33 27 (.bin .leq (.tmp 31) (.tmp 32)),Oo 34 (.pick (.tmp 27) (.tmp 33) (.const (.bool false)))] (Cd 34 (.exit 1) .skip)) (Sr [Mv 35 2,Mv 11 35] (.seq (Sr [Mv 36 9,Bc 37 .gtr 36 0] (Cd 37 (.reg [Mv 38 2,Mv 39 8,Mv 40 9,Bc 41 .sub 40 1,Oo 42 (.ia 1 (.tmp 39) (.tmp 41)),Ld 43 42,Oo 44 (.mm true (.tmp 38) (.tmp 43)),Mv 11 44]) .skip)) (Sr [Oo 45 (.load true 3 (.tmp 3)),Oo 46 (.load true 10 (.tmp 10)),Mv 47 11,Cl 48 142 [(.tmp 45),(.tmp 46),(.tmp 47)],Mv 12 48] (.seq (Sr [Mv 49 9,Mv 50 8,Oo 51 (.len false (.tmp 50)),Bn 52 .lss 49 51] (Cd 52 (.reg [Mv 53 12,Mv 54 8,Mv 55 9,Oo 56 (.ia 1 (.tmp 54) (.tmp 55)),Ld 57 56,Cl 58 143 [(.tmp 53),(.tmp 57)],Mv 12 58]) .skip)) (.reg [Mv 59 7,Mv 60 12,Oo 61 (.app 121 4 40 (.tmp 59) (.tmp 60)),Mv 7 61])))))))) (.reg [Bc 62 .add 18 1,Mv 18 62]))))))) (Sr [Mv 63 7,Mv 6 63] .ret)))))
theorem k69:ZaE Tryz.prog 69=some ⟨c69,[(.tmp 6)],64⟩:=by kernel_rfl
structure okX (x:Era):Prop where
 fm:Zbx (xFm x)=true
 sh : -64800≤xSh x∧xSh x≤64800
 sv:0≤xSv x∧xSv x≤10800
 no:xRl x≠⟨#[]⟩→xSv x=0
theorem ZtB {es:List Era}(h:okZ es) {x:Era}(hx:x∈es):okX x:=by
 obtain⟨h1,h2,h3,h4⟩:=h.fm x hx
 exact⟨h1,h2,h3,h4⟩
theorem Zg3 {x:Era}{b:Int}(ts:List Tim):(eraG x b ts).length≤ts.length+1:=by
 unfold eraG
 rw[List.length_cons,List.length_map]
 have:=List.length_filter_le (fun t:Tim=>decide (b<t.1)) ts
 omega
theorem Zqg {x:Era}{b:Int}:eraG x b []=[(b,locV x (xSv x) ⟨#[]⟩)]:=rfl
theorem eraG_set {x:Era}{b:Int}{ts:List Tim}{t:Tim}(h:t.1≤b):eraG x b (ts++[t])=(eraG x b ts).set 0 (b,locV x t.2.1 t.2.2):=by
 rw[eraG_low h];rfl
theorem eraG_pos {x:Era}{b:Int}{ts:List Tim}:0<(eraG x b ts).length:=by unfold eraG;simp
theorem era_z {a:List Rul}{z:List Zon}{k:List Lnk}{x:Era}{b:Int}{h:AH}(hok:okRs a) (ha:a.length≤9223372036854775807) (hx:okX x) (hb : -9000000000000000000≤b∧b≤9000000000000000000) :
  ACalls Tryz.prog 142 [.agg (srcB a z k),.agg (eraC x),iv b] h fun y h'=>h'=h∧y=.ret (.sl (eraG x b (ZaP a x)).length 4 false (rows chgC (eraG x b (ZaP a x)))):=by
 obtain⟨hx1,hx2,hx3,hx4⟩:=hx
 have hfl:=Zgp hx1
 refine tW' k142 fun N hn hlt hlA hbd=>?_
 simp only[tb'] at hbd ⊢
 refine wr'<|E' (Zbc cv rfl (hl0 hn) ha0) pt<|E' (Zbc cv rfl (hl1 hn) ha1) pt<|mw<|Zaq<|?_
 refine Za1 (ALe.trans (ALe.icePtr gx gt3 (by simp) pt3 (hs0 hn)) (ALe.icePtr gx gt4 (by simp) pt4 (hs1 hn))) ?_
 refine Zag<|wr'<|Vw (ZaR lk dp1)<|Vw (Zar lk gt)<|Vw (Zch lk lks)<|sn'<|?_
 refine cd' lk (fun hc1=>?_) (fun hc1=>?_)
 ·have hT:ZaP a x=[]:=if_pos hc1
  refine wr'<|mw<|Vw (ZaF lk ZfX rfl)<|Vw (ZaR lk dp2)<|Vw (Zar lk gt)<|Vw (Zaw (Zo3 cv rfl))<|?_
  refine Zaf mp (Zoj (x:=x) (t:=(0,xSv x,⟨#[]⟩)) hfl (show (0:Nat)≤24 by decide) hx2 hx3) pt ?_
  refine V' (Zaw (Zo2 (cvl lk16 rfl) rfl (cvl lk21 rfl) rfl)) pt22<|E' (Zda (Zo1 (cvl lk22 rfl) rfl) (hl2 hn) ha2) pt23<|mv' lk23 pt6<|Zaq<|Za1 (ALe.iceR gx gt6 rfl (nb' rfl) pt6 (hs2 hn))<|Zaa<|Zai<|Zah (rs1 (rr_t gt6))<|rtW'<|?_
  rw[hT,Zqg];exact Wk.full
 have hT:ZaP a x=(Zbe a x.2.1 x.1).1:=if_neg hc1
 have hsv0:xSv x=0:=hx4 hc1
 have hTl:(Zbe a x.2.1 x.1).1.length≤1000:=ZiC
 refine Zad<|Zae<|wr'<|Vw (ZaR lk dp0)<|Vw (Zar lk gt)<|Vw (ZaR lk dp1)<|Vw (Zar lk gt)<|Vw (ZaR lk dp0)<|Vw (Zar lk gt)<|Zaf mp (ZsH hok ha) pt<|mw<|Vw (Zbi lk gt)<|Vw (Zbi lk gt)<|?_
 refine mw<|mw<|sn'<|wr'<|mw<|Vw (ZaF lk ZfX rfl)<|Vw (Zaw Zo0)<|?_
 refine Zaf mp (Zoj (x:=x) (t:=(0,0,⟨#[]⟩)) hfl (by decide) hx2 (by decide)) pt ?_
 refine Vw (Zaw (ZoZ cv rfl cv rfl))<|E' (Zda (ZoY cv rfl) (hl2 hn) ha2) pt<|mw<|sn'<|Zag<|wr'<|mw<|Vw (ZaG lk)<|mw<|sn'<|Zam<|?_
 refine Zeq (ι:=Nat×Nat) (fun (x_:Nat×Nat)=>match x_ with | ⟨i,v⟩=>[(9,.own (N+2) v (eraG x b ((Zbe a x.2.1 x.1).1.take i)).length),(42,iv (i:Int)),(11,.any),(12,.any)]++rn' 43 23) (fun (x_:Nat×Nat)=>match x_ with | ⟨i,v⟩=>[(2,.mk v 121 4 (rows chgC (eraG x b ((Zbe a x.2.1 x.1).1.take i))))]) (fun (x_:Nat×Nat)=>match x_ with | ⟨i,v⟩=>i≤(Zbe a x.2.1 x.1).1.length) (fun (x_:Nat×Nat)=>match x_ with | ⟨i,v⟩=>(Zbe a x.2.1 x.1).1.length-i) (⟨0,0⟩) (by exact Nat.zero_le _) (by try simp only[sm',Nat.reduceAdd];exact ALe.same wA' (by rw[List.take_zero,Zqg,hsv0];rfl)) ?_
 rintro⟨i,v⟩ hi1
 try simp only[sm',Nat.reduceAdd]
 replace hi1:i≤(Zbe a x.2.1 x.1).1.length:=hi1
 refine wr'<|Vw (ZaZ lk lk)<|sn'<|Zag<|?_
 refine cd' lk (fun hc2=>?_) (fun hc2=>?_)
 ·have hi:i<(Zbe a x.2.1 x.1).1.length:=by omega
  obtain⟨hm1,hm2,hm3⟩:=Zmm (List.getElem_mem hi)
  have hel:=Zg3 (x:=x) (b:=b) ((Zbe a x.2.1 x.1).1.take i)
  rw[List.length_take] at hel
  have htk:=List.take_succ_eq_append_getElem hi
  refine Zad<|Zae<|Zag<|Zam<|wr'<|?_
  refine V' (ZaJ lk lk ZdJ (nb' rfl) ro om ro rfl) pt ?_
  refine Vw (ZaF lk Zjp rfl)<|E' (Za7 (hl3 hn) ha3) pt<|E' (Zaj lk cv gx rfl (nb' rfl) rfl Zrx (hs3 hn)) ptn<|sn'<|Zag<|Za2<|Dw (v_mv lk)<|Dw (Zac lk)<|Dw (Zab lk gx gt0)<|Dw (v_mm lk lk)<|Dw (ZaF lk ZfX rfl)<|Dw (Zao lk gx Zrv rfl)<|?_
  refine ZaV mp (fun hE hX=>Zoj (x:=x) (t:=(Zbe a x.2.1 x.1).1[i]) hfl hm3 hx2 hm2) pt ?_
  refine Dw (Zaw (ZoX cv rfl cv rfl))<|Zep rfl rfl (hlk hn rfl) (Zoq) pt ZuY<|Za8<|?_
  refine Zez Zry ?_
  refine E' (Zaj lk cv gx rfl (nb' rfl) rfl Zrw (hs4 hn)) ptn<|sn'<|wr'<|Vw (Zac lk)<|Vw (Zab lk gx gt0)<|mw<|Vw (Zc0 lk lk)<|sn'<|?_
  refine cd' lk (fun hc3=>?_) (fun hc3=>?_)
  ·have hmx:(if (Zbe a x.2.1 x.1).1[i].1>b then (Zbe a x.2.1 x.1).1[i].1 else b)=b:=if_neg om
   simp only[cond_true,hmx]
   have hE:=eraG_set (x:=x) (ts:=(Zbe a x.2.1 x.1).1.take i) hc3
   have hep:=eraG_pos (x:=x) (b:=b) (ts:=(Zbe a x.2.1 x.1).1.take i)
   rw[←htk] at hE
   refine Zat<|mw<|Vw (Zao lk gx ZkV rfl)<|?_
   refine V' (Zbq (k:=0) lk lki gx Zcn (nb' rfl) ro om (by first | rfl | (simp;done) | omega)) pt ?_
   refine E' (Znf (z:=(b,locV x (Zbe a x.2.1 x.1).1[i].2.1 (Zbe a x.2.1 x.1).1[i].2.2)) lk cv gx Zcn rfl om (hs2 hn)) ptn ?_
   refine Zaq<|ZaA<|Zae<|Zat<|?_
   refine V' (Zax lk lki om om) pt ?_
   refine mw<|Zaq<|ZaB<|?_
   refine lU' (⟨i+1,v⟩) (by (try dsimp only);omega) (by (try dsimp only);(try simp only[sm',Nat.reduceAdd]);exact bkE' 3 hn hlt (by repeat (first | exact wk0 | refine wka ?_ | refine wk1 rfl ?_ | refine wk1 (by first | rfl | exact ivx om | (rw[hE,List.length_set];done) | (rw[hE,List.length_append];rfl) | (rw[hE,List.length_set])) ?_)) (by rw[hE];rfl) (hT:=by simp[AV.lt,AV.ltL,Ent.lt]) (hE:=by simp[AV.lt,AV.ltL,Ent.lt]))
  have hmx:(if (Zbe a x.2.1 x.1).1[i].1>b then (Zbe a x.2.1 x.1).1[i].1 else b)=(Zbe a x.2.1 x.1).1[i].1:=if_pos om
  simp only[cond_true,hmx]
  have hE:=Zun (x:=x) (ts:=(Zbe a x.2.1 x.1).1.take i) hc3
  rw[←htk] at hE
  refine Zat<|mw<|Vw (Zao lk gx ZkV rfl)<|E' (Zda (ZoW cv rfl) (hl5 hn) ha5) pt<|?_
  refine E' (Zce (ZbF lk gx rfl ZuW (nb' rfl)) lk gx (Zcs _) om rfl (hs2 hn)) pt ?_
  refine mw<|Zaq<|ZaA<|Zae<|Zat<|?_
  refine V' (Zax lk lki om om) pt ?_
  refine mw<|Zaq<|ZaB<|?_
  refine lU' (⟨i+1,v+1⟩) (by (try dsimp only);omega) (by (try dsimp only);(try simp only[sm',Nat.reduceAdd]);exact bkE' 3 hn hlt (by repeat (first | exact wk0 | refine wka ?_ | refine wk1 rfl ?_ | refine wk1 (by first | rfl | exact ivx om | (rw[hE,List.length_set];done) | (rw[hE,List.length_append];rfl) | (rw[hE,List.length_set])) ?_)) (by rw[hE,ZaO,Za5];rfl) (hT:=by simp[AV.lt,AV.ltL,Ent.lt]) (hE:=by simp[AV.lt,AV.ltL,Ent.lt]))
 refine ZaD<|Zay<|Zay<|ZaU<|?_
 refine Za1 (ALe.iceR gx gt9 (List.take_of_length_le (by rw[Zcs];exact Nat.le_refl _)) (by rw[Zcs];exact Nat.le_refl _) pt9 (hs2 hn)) ?_
 refine wr'<|mw<|mw<|sn'<|Zaa<|Zah rz<|rtW'<|?_
 rw[hT,List.take_of_length_le om];exact Wk.full
def ZeR (es:List Era):Nat→Option Int
 | 0=>none
 | j+1=>(es[j]?).map endV
theorem ZfP {es:List Era}{i:Nat}(h:i<es.length):ZeR es (i+1)=some (endV es[i]):=by
 show (es[i]?).map endV=_
 rw[List.getElem?_eq_getElem h];rfl
theorem ZqV {rl:List Rul}{f:Int}{es:List Era}{prev:Option Int}{i:Nat}(h:i<es.length) (hl:es.length≤i+1):Zbd rl f prev (es.drop i)=eraG es[i] (ZbY prev f) (ZaP rl es[i]):=by
 rw[List.drop_eq_getElem_cons h,List.drop_of_length_le hl];rfl
theorem ZqU {rl:List Rul}{f:Int}{es:List Era}{prev:Option Int}{i:Nat}(h:i+1<es.length) (hc:endV es[i]≤f):Zbd rl f prev (es.drop i)=Zbd rl f (ZeR es (i+1)) (es.drop (i+1)):=by
 rw[ZfP om,List.drop_eq_getElem_cons (show i<es.length by omega),List.drop_eq_getElem_cons h,Zbd,if_pos hc,List.nil_append]
theorem ZqT {rl:List Rul}{f:Int}{es:List Era}{prev:Option Int}{i:Nat}(h:i+1<es.length) (hc:¬endV es[i]≤f):Zbd rl f prev (es.drop i)=cutV (eraG es[i] (ZbY prev f) (ZaP rl es[i])) (endV es[i])++Zbd rl f (ZeR es (i+1)) (es.drop (i+1)):=by
 rw[ZfP om,List.drop_eq_getElem_cons (show i<es.length by omega),List.drop_eq_getElem_cons h,Zbd,if_neg hc]
theorem Zql (l:List Chg) (e:Int):(cutV l e).length≤l.length:=(List.takeWhile_sublist _).length_le
theorem ZoF {es:List Era}(hz:okZ es) {i:Nat}(h:i+1<es.length) : -100000000000≤endV es[i]∧endV es[i]≤300000000000:=by
 obtain⟨h1,h2,h3⟩:=hz.un i om h
 exact endV_bd h1 ⟨h2,h3⟩ (hz.fm _ (List.getElem_mem _)).2.1
theorem parts_a {a:List Rul}{z:List Zon}{k:List Lnk}{nm:ByteArray}{es:List Era}{f:Int}{h:AH}(hok:okRs a) (ha:a.length≤9223372036854775807) (hz:okZ es) (hf : -1000000000000≤f∧f≤1000000000000) :
  ACalls Tryz.prog 69 [.agg (srcB a z k),.agg [sv nm,.sl es.length 10 false (rows eraC es)],iv f] h fun y h'=>h'=h∧y=.ret (.sl (Zbd a f none es).length 4 false (rows chgC (Zbd a f none es))):=by
 have hel:=Zc9 es
 have hlen:=hz.len
 refine tW' k69 fun N hn hlt hlA hbd=>?_
 simp only[tb'] at hbd ⊢
 refine wr'<|E' (Zbc cv rfl (hl0 hn) ha0) pt<|E' (Zbc cv rfl (hl1 hn) ha1) pt<|mw<|Zaq<|?_
 refine Za1 (ALe.trans (ALe.icePtr gx gt3 (by simp) pt3 (hs0 hn)) (ALe.icePtr gx gt4 (by simp) pt4 (hs1 hn))) ?_
 refine wr'<|mv' lkn pt7<|Zaq<|Za1 (ALe.own0' (st':=4) (ty:=121) gt7 (hl2 hn) pt7 ha2)<|wr'<|V' (ZaF lk4 ZuX rfl) pt13<|Zaf (mp1 lk13 mp0) (ends_a hz) pt14<|mv' lk14 pt8<|sn'<|Zag<|Zag<|?_
 refine Zat<|Vw (ZaR lk dp1)<|Vw (Zar lk gt)<|Vw (ZaG lk)<|mw<|sn'<|Zam<|?_
 refine w_lp (ι:=Nat×List Chg×Nat) (fun (x_:Nat×List Chg×Nat)=>match x_ with | ⟨i,O,v⟩=>[(7,.own (N+2) v O.length),(18,iv (i:Int))]++rn' 9 4++rn' 19 44) (fun (x_:Nat×List Chg×Nat)=>match x_ with | ⟨i,O,v⟩=>[(2,.mk v 121 4 (rows chgC O))]) (fun (x_:Nat×List Chg×Nat)=>match x_ with | ⟨i,O,v⟩=>i≤es.length∧Zbd a f none es=O++Zbd a f (ZeR es i) (es.drop i)∧O.length≤1001*i) (fun (x_:Nat×List Chg×Nat)=>match x_ with | ⟨i,O,v⟩=>es.length-i) (⟨0,[],0⟩) (by exact⟨Nat.zero_le _,rfl,Nat.zero_le _⟩) ?_
 rintro⟨i,O,v⟩ hi1
 try simp only[sm',Nat.reduceAdd]
 obtain⟨hi1,hi2,hi3⟩:=hi1
 refine wr'<|Vw (ZaZ lk lk)<|sn'<|Zag<|?_
 refine cd' lk (fun hc1=>?_) (fun hc1=>?_)
 ·have hi:i<es.length:=by omega
  have hxo:=ZtB hz (List.getElem_mem hi)
  refine Zad<|Zae<|Zag<|Zam<|wr'<|mw<|?_
  refine V' (ZaJ lk lk Zb5 (nb' rfl) ro om ro rfl) pt ?_
  refine Vw (ZaF lk ZfX rfl)<|E' (Za7 (hl3 hn) ha3) pt<|mw<|E' (Zaj lk cv gx rfl (nb' rfl) rfl ZoV (hs3 hn)) ptn<|sn'<|Zag<|wr'<|mw<|mw<|Vw (ZaG lk)<|Vw (ZaZ lk lk)<|mw<|?_
  refine sp' (t:=27) gt pt pt (fun hg27=>?_) (fun hg27=>?_)
  ·have hn1:i+1<es.length:=by omega
   have hen:(ZaN es)[i]'(by omega)=endV es[i]:=ZlP om hi
   have heb:=ZoF hz hn1
   refine s_do gt<|mw<|s_do gt<|mw<|s_do gt<|?_
   refine V' (ZaJ lk lk Za6 (nb' rfl) ro om ro rfl) pt ?_
   refine s_do gt<|Vw (Zar lk gt)<|s_do gt<|mw<|s_do gt<|Vw (Zc0 lk lk)<|Vw (Zal lk lk)<|sn'<|?_
   refine cd' lk (fun hc2=>?_) (fun hc2=>?_)
   ·have hsk:=ZqU (rl:=a) (f:=f) (prev:=ZeR es i) hn1 (by rw[←hen];exact hc2)
    refine ZaD<|Zay<|ZaU<|Zae<|Zat<|?_
    refine V' (Zax lk lki om om) pt ?_
    refine mw<|Zaq<|ZaB<|?_
    refine lU' (⟨i+1,O,v⟩) (by (try dsimp only);exact⟨by omega,by rw[hi2,hsk],by omega⟩) (by (try dsimp only);(try simp only[sm',Nat.reduceAdd]);exact bkE' 3 hn hlt (by repeat (first | exact wk0 | refine wka ?_ | refine wk1 rfl ?_ | refine wk1 (by first | rfl | exact ivx om | (rw[List.length_append])) ?_)) (hT:=by simp[AV.lt,AV.ltL,Ent.lt]) (hE:=by simp[AV.lt,AV.ltL,Ent.lt]))
   have hnc:¬endV es[i]≤f:=by rw[←hen];exact hc2
   refine Zad<|Zae<|wr'<|mw<|mw<|sn'<|?_
   refine ZgD (ι:=Int) (fun (B:Int)=>[(11,iv B)]++rn' 36 9) (fun (B:Int)=>[]) (fun (B:Int)=>ZbY (ZeR es i) f=B ∧ -9000000000000000000≤B∧B≤9000000000000000000) ?_ ?_
   ·try simp only[sm',Nat.reduceAdd]
    refine wr'<|mw<|Vw (Zbz lk lki)<|sn'<|?_
    refine cd' lk (fun hc3=>?_) (fun hc3=>?_)
    ·have hi0:i-1+1<es.length:=by omega
     have hen0:(ZaN es)[i-1]'(by omega)=endV (es[i-1]'(by omega)):=ZlP om om
     have heb0:=ZoF hz hi0
     have hB:(if (ZaN es)[i-1]'(by omega)>f then (ZaN es)[i-1]'(by omega) else f)=ZbY (ZeR es i) f:=by rw[hen0,show ZeR es i=some (endV (es[i-1]'(by omega))) from by have:=ZfP (es:=es) (i:=i-1) om;rwa [show i-1+1=i by omega] at this];show _=max f _;omega
     have hBb : -9000000000000000000≤ZbY (ZeR es i) f∧ZbY (ZeR es i) f≤9000000000000000000:=by rw[←hB,hen0];split <;> omega
     refine Zat<|mw<|mw<|mw<|?_
     refine V' (Zbm lk lki om om) pt ?_
     refine V' (ZaJ (k:=i-1) lk lk Za6 (nb' rfl) ro om ro rfl) pt ?_
     refine Vw (Zar lk gt)<|Vw (v_mm lk lk)<|?_
     simp only[cond_true,hB]
     refine mw<|Zaq<|ZaB<|?_
     exact cT' (ZbY (ZeR es i) f) (by exact⟨rfl,hBb.1,hBb.2⟩)
    refine Zad<|ZaB<|?_
    exact cT' (f) (by exact⟨by rw[show i=0 by omega];rfl,by omega,by omega⟩)
   rintro B hq12
   try simp only[sm',Nat.reduceAdd]
   obtain⟨hBd,hB1,hB2⟩:=hq12
   refine wr'<|Vw (ZaF lk Zjp rfl)<|Vw (Zao lk gx Zjq rfl)<|mw<|Zaf mp (era_z hok ha hxo ⟨hB1,hB2⟩) pt<|mw<|sn'<|Zag<|wr'<|mw<|mw<|?_
   refine Vw (ZaG lk)<|Vw (ZaZ lk lk)<|sn'<|?_
   have hgl:=Zg3 (x:=es[i]) (b:=B) (ZaP a es[i])
   have htl:=ZcV (rl:=a) (x:=es[i])
   refine Zc6 lk (by exact decide_eq_true om) ?_
   refine Zat<|mw<|mw<|mw<|?_
   refine V' (ZaJ lk lk Za6 (nb' rfl) ro om ro rfl) pt ?_
   refine V' (Zar lk gt) pt ?_
   refine Zaf mp (zcut_a om) pt ?_
   have hcl:=Zql (eraG es[i] B (ZaP a es[i])) ((ZaN es)[i]'(by omega))
   have hT:=ZqT (rl:=a) (f:=f) (prev:=ZeR es i) hn1 hnc
   rw[hBd,←hen] at hT
   refine mw<|sn'<|Zat<|mw<|mw<|?_
   refine E' (Zce (sc_sl lk (Zcs _)) lk gx (Zcs _) om (Zqr _) (hs2 hn)) pt ?_
   refine mw<|Zaq<|ZaA<|Zae<|Zat<|?_
   refine V' (Zax lk lki om om) pt ?_
   refine mw<|Zaq<|ZaB<|?_
   refine lU' (⟨i+1,O++cutV (eraG es[i] B (ZaP a es[i])) ((ZaN es)[i]'(by omega)),v+1⟩) (by (try dsimp only);exact⟨by omega,by rw[hi2,hT,List.append_assoc],by rw[List.length_append];omega⟩) (by (try dsimp only);(try simp only[sm',Nat.reduceAdd]);exact bkE' 3 hn hlt (by repeat (first | exact wk0 | refine wka ?_ | refine wk1 rfl ?_ | refine wk1 (by first | rfl | exact ivx om | (rw[List.length_append])) ?_)) (by rw[ZaO];rfl) (hT:=by simp[AV.lt,AV.ltL,Ent.lt]) (hE:=by simp[AV.lt,AV.ltL,Ent.lt]))
  have hn1:es.length≤i+1:=by omega
  refine s_no gt pt<|s_no gt pt<|s_no gt pt<|s_no gt pt<|s_no gt pt<|s_no gt pt<|Vw (Zak lk lkb)<|sn'<|ZaT lk<|Zad<|Zae<|wr'<|?_
  refine mw<|mw<|sn'<|?_
  refine ZgD (ι:=Int) (fun (B:Int)=>[(11,iv B)]++rn' 36 9) (fun (B:Int)=>[]) (fun (B:Int)=>ZbY (ZeR es i) f=B ∧ -9000000000000000000≤B∧B≤9000000000000000000) ?_ ?_
  ·try simp only[sm',Nat.reduceAdd]
   refine wr'<|mw<|Vw (Zbz lk lki)<|sn'<|?_
   refine cd' lk (fun hc3=>?_) (fun hc3=>?_)
   ·have hi0:i-1+1<es.length:=by omega
    have hen0:(ZaN es)[i-1]'(by omega)=endV (es[i-1]'(by omega)):=ZlP om om
    have heb0:=ZoF hz hi0
    have hB:(if (ZaN es)[i-1]'(by omega)>f then (ZaN es)[i-1]'(by omega) else f)=ZbY (ZeR es i) f:=by rw[hen0,show ZeR es i=some (endV (es[i-1]'(by omega))) from by have:=ZfP (es:=es) (i:=i-1) om;rwa [show i-1+1=i by omega] at this];show _=max f _;omega
    have hBb : -9000000000000000000≤ZbY (ZeR es i) f∧ZbY (ZeR es i) f≤9000000000000000000:=by rw[←hB,hen0];split <;> omega
    refine Zat<|mw<|mw<|mw<|?_
    refine V' (Zbm lk lki om om) pt ?_
    refine V' (ZaJ (k:=i-1) lk lk Za6 (nb' rfl) ro om ro rfl) pt ?_
    refine Vw (Zar lk gt)<|Vw (v_mm lk lk)<|?_
    simp only[cond_true,hB]
    refine mw<|Zaq<|ZaB<|?_
    exact cT' (ZbY (ZeR es i) f) (by exact⟨rfl,hBb.1,hBb.2⟩)
   refine Zad<|ZaB<|?_
   exact cT' (f) (by exact⟨by rw[show i=0 by omega];rfl,by omega,by omega⟩)
  rintro B hq12
  try simp only[sm',Nat.reduceAdd]
  obtain⟨hBd,hB1,hB2⟩:=hq12
  refine wr'<|Vw (ZaF lk Zjp rfl)<|Vw (Zao lk gx Zjq rfl)<|mw<|Zaf mp (era_z hok ha hxo ⟨hB1,hB2⟩) pt<|mw<|sn'<|Zag<|wr'<|mw<|mw<|?_
  refine Vw (ZaG lk)<|Vw (ZaZ lk lk)<|sn'<|?_
  have hgl:=Zg3 (x:=es[i]) (b:=B) (ZaP a es[i])
  have htl:=ZcV (rl:=a) (x:=es[i])
  have hT:=ZqV (rl:=a) (f:=f) (prev:=ZeR es i) hi hn1
  rw[hBd] at hT
  refine Zc5 lk (by exact decide_eq_false om) ?_
  refine Zad<|Zae<|Zat<|mw<|mw<|?_
  refine E' (Zce (sc_sl lk (Zcs _)) lk gx (Zcs _) om (Zqr _) (hs2 hn)) pt ?_
  refine mw<|Zaq<|ZaA<|Zae<|Zat<|?_
  refine V' (Zax lk lki om om) pt ?_
  refine mw<|Zaq<|ZaB<|?_
  refine lU' (⟨i+1,O++eraG es[i] B (ZaP a es[i]),v+1⟩) (by (try dsimp only);exact⟨by omega,by rw[hi2,hT,List.drop_of_length_le hn1];exact (List.append_nil _).symm,by rw[List.length_append];omega⟩) (by (try dsimp only);(try simp only[sm',Nat.reduceAdd]);exact bkE' 3 hn hlt (by repeat (first | exact wk0 | refine wka ?_ | refine wk1 rfl ?_ | refine wk1 (by first | rfl | exact ivx om | (rw[List.length_append])) ?_)) (by rw[ZaO];rfl) (hT:=by simp[AV.lt,AV.ltL,Ent.lt]) (hE:=by simp[AV.lt,AV.ltL,Ent.lt]))
 rw[List.drop_of_length_le om] at hi2
 have hPO:Zbd a f none es=O:=hi2.trans (List.append_nil _)
 refine ZaD<|Zay<|Zay<|ZaU<|?_
 refine Za1 (ALe.iceR gx gt7 (List.take_of_length_le (by rw[Zcs];exact Nat.le_refl _)) (by rw[Zcs];exact Nat.le_refl _) pt7 (hs2 hn)) ?_
 refine wr'<|mw<|mw<|sn'<|Zaa<|Zah rz<|rtW'<|?_
 rw[hPO];exact Wk.full
theorem ZpQ {s:Src}{z:Zon}(h:ZbO s=0) (hm:z∈s.2.1) (f:Int):(∃ l,Zbd s.1 f none z.2=(f,Zbf s.1 z.2 f)::l)∧(Zbd s.1 f none z.2).Pairwise (fun a b=>a.1<b.1)∧(∀ c∈Zbd s.1 f none z.2,f≤c.1∧c.2=Zbf s.1 z.2 c.1) ∧
  ∀ u v,f≤u→u≤v→(∀ c∈Zbd s.1 f none z.2,¬(u<c.1∧c.1≤v))→Zbf s.1 z.2 u=Zbf s.1 z.2 v:=by
 obtain⟨hE,_,_,_,h5⟩:=Zrk h
 exact ZmO (f:=f) (prev:=none) (ZeA hE hm).ne (fun x _=>risT_all _ x) ((ZlC _).1 (h5 z hm)) trivial
abbrev locC3 (l:Loc):List AV:=[iv l.1,iv l.2.1,sv l.2.2]
end Go.Proofs.YtlekejpogddndaaGreatDoor
end
section
namespace Go.Proofs.YtlekejpogddndaaGreatDoor
open Go.Ab Civ
def chgs (g:Int→Loc) (L:List Int):List Chg:=dd (g tMin) (pts g (L.filter inT))
theorem chgs_nil {g:Int→Loc}:chgs g []=[]:=rfl
theorem Zqq {g:Int→Loc}{L:List Int}{x:Int}(h:inT x=false):chgs g (L++[x])=chgs g L:=by
 unfold chgs;rw[List.filter_append,show [x].filter inT=[] from by simp[h],List.append_nil]
theorem ZuC {g:Int→Loc}{L:List Int}{x:Int}(h:inT x=true):chgs g (L++[x])=chgs g L++(if g x=ZeV (g tMin) (chgs g L) then [] else [(x,g x)]):=by
 unfold chgs
 rw[List.filter_append,show [x].filter inT=[x] from by simp[h],show pts g (L.filter inT++[x])=pts g (L.filter inT)++[(x,g x)] from by unfold pts;rw[List.map_append];rfl,Zqk]
 rfl
theorem ZuB {g:Int→Loc}{L:List Int}{x:Int}(h:inT x=true) (he:g x=ZeV (g tMin) (chgs g L)):chgs g (L++[x])=chgs g L:=by
 rw[ZuC h,if_pos he,List.append_nil]
theorem chgs_new {g:Int→Loc}{L:List Int}{x:Int}(h:inT x=true) (he:¬g x=ZeV (g tMin) (chgs g L)):chgs g (L++[x])=chgs g L++[(x,g x)]:=by
 rw[ZuC h,if_neg he]
theorem chgs_len {g:Int→Loc}(L:List Int):(chgs g L).length≤L.length:=by
 refine Nat.le_trans (Zqj _ _) ?_
 unfold pts
 rw[List.length_map]
 exact List.length_filter_le _ _
theorem Zq3 (F:Loc) (l:List Chg) (c:Chg):ZeV F (l++[c])=c.2:=by unfold ZeV;simp
def rbad (F:Loc) (l:List Chg):Int:=if locE F≠0 then locE F else Zcm l
theorem ZpL (F:Loc):rbad F []=locE F:=by unfold rbad;split <;> simp_all [Zcm]
theorem Zto (F:Loc) (l:List Chg) (c:Chg):rbad F (l++[c])=if rbad F l=0 then locE c.2 else rbad F l:=by
 unfold rbad
 by_cases h:locE F=0
 ·have h':¬locE F≠0:=fun e=>e h
  simp only[if_neg h']
  by_cases h2:Zcm l=0
  ·rw[if_pos h2,ZgZ h2]
  ·rw[if_neg h2,Zi5 h2]
 ·have h':locE F≠0:=h
  simp only[if_pos h',if_neg h]
theorem ZsN (t:Tab):tabR t=if rbad t.1 t.2≠0 then (Zi2,rbad t.1 t.2) else if 1000<t.2.length then (Zi2,2) else (t,0):=by
 unfold tabR rbad
 by_cases h:locE t.1=0
 ·rw[if_neg (by simpa using h),if_neg (by simpa using h:¬locE t.1≠0)];rfl
 ·rw[if_pos h,if_pos h,if_pos h];rfl
theorem Ztj {rl:List Rul}{es:List Era}{L:List Int}(hp:L.Perm (Zec rl es)) (hs:L.Pairwise (· ≤ ·)):Zfk (Zbf rl es) L=Zdp rl es :=
 ZpF hs fun u v _ h hn=>Zgi h fun p hp'=>hn p (hp.mem_iff.2 hp')
theorem Zmw {s:Src}{z:Zon}(h:ZbO s=0) (hm:z∈s.2.1):stV (inP (Zbd s.1 tMin none z.2))=Zdp s.1 z.2:=by
 obtain⟨⟨l,h1⟩,h2,h3,h4⟩:=ZpQ h hm tMin
 have hp:=Ztu (rl:=s.1) (f:=tMin) (es:=z.2) fun c hc=>(h3 c hc).2
 have hs:((Zbd s.1 tMin none z.2).map (·.1)).Pairwise (· < ·):=by rw[List.pairwise_map];exact h2
 have hL:(Zbd s.1 tMin none z.2).map (·.1)=tMin::l.map (·.1):=by rw[h1];rfl
 rw[hp,hL]
 rw[hL] at hs
 rw[stV_tab hs]
 refine ZpF (hs.imp fun h=>Int.le_of_lt h) fun u v h5 h6 h7=>h4 u v h5 h6 fun c hc hh=>h7 c.1 ?_ hh
 rw[←hL]
 exact List.mem_map.2 ⟨c,hc,rfl⟩
def ofV (s:Src) (z:Zon):Tab×Int:=tabR (Zdp s.1 z.2)
def Zf9 (s:Src) (nm:ByteArray):Tab×Int:=if (ZcS s nm).2≠0 then (Zi2,(ZcS s nm).2) else ofV s (ZcS s nm).1
theorem Zn2 {rl:List Rul}{es:List Era}:((Zec rl es).mergeSort fun a b=>decide (a≤b)).Pairwise (· ≤ ·):=by
 have h:=List.pairwise_mergeSort (le:=fun a b:Int=>decide (a≤b)) (fun a b c h1 h2=>by simp at *;omega) (fun a b=>by simp;omega) (Zec rl es)
 exact h.imp fun h=>by simpa using h
theorem Zmr {rl:List Rul}{es:List Era}(h:(tabR (Zdp rl es)).2=0):Zcj (Zdp rl es)=0:=ZqE Zn2 h
def cntV (rl:List Rul):List Era→Nat
 | []=>0
 | x::es=>(ZaP rl x).length+cntV rl es
theorem ZoM (rl:List Rul) : ∀ es:List Era,cntV rl es≤1000*es.length
 | []=>by simp[cntV]
 | y::es=>by have:=ZoM rl es;have:=ZcV (rl:=rl) (x:=y);rw[cntV,List.length_cons];omega
theorem ZsU (rl:List Rul) (es:List Era):(Zec rl es).length=cntV rl es+(es.length-1):=by
 unfold Zec
 rw[List.length_append,Zc9]
 congr 1
 induction es with
 | nil=>rfl
 | cons x es ih=>rw[List.flatMap_cons,List.length_append,List.length_map,ih,cntV]
end Go.Proofs.YtlekejpogddndaaGreatDoor
end
section
namespace Go.Proofs.YtlekejpogddndaaGreatDoor
section
variable {α : Type} {r : α → α → Prop}
def insR (r:α→α→Prop) (i k:Nat) (L:List α):Prop := ∃ A x B C,L=A++x::(B++C)∧A.length=k∧A.length+B.length=i∧(A++B).Pairwise r ∧ ∀ b∈B,r x b
theorem Zkr {i:Nat}{L:List α}(h:i<L.length) (hp:(L.take i).Pairwise r):insR r i i L :=
 ⟨L.take i,L[i],[],L.drop (i+1),by simp,by simp;omega,by simp;omega,by simpa using hp,by simp⟩
theorem Zkq {i:Nat}{L:List α}(h:insR r i 0 L):(L.take (i+1)).Pairwise r:=by
 obtain⟨A,x,B,C,rfl,h1,h2,h3,h4⟩:=h
 obtain rfl:=List.eq_nil_of_length_eq_zero h1
 simp only[List.length_nil,Nat.zero_add] at h2
 subst h2
 rw[List.nil_append,List.take_succ_cons,List.take_left]
 exact List.pairwise_cons.2 ⟨h4,by simpa using h3⟩
theorem Zkp (ht : ∀ a b c,r a b→r b c→r a c) {i k:Nat}{L:List α}(h:insR r i (k+1) L) (hk:k+1<L.length) (hc:r L[k] L[k+1]):(L.take (i+1)).Pairwise r:=by
 obtain⟨A,x,B,C,rfl,h1,h2,h3,h4⟩:=h
 obtain⟨A,y,rfl⟩ : ∃ A' y,A=A'++[y]:=⟨A.dropLast,A.getLast (by intro e;subst e;cases h1),(List.dropLast_concat_getLast _).symm⟩
 simp only[List.length_append,List.length_singleton] at h1
 obtain rfl:A.length=k:=by omega
 have e1:((A++[y])++x::(B++C))[A.length+1]'hk=x:=by simp
 have e2:((A++[y])++x::(B++C))[A.length]'(by omega)=y:=by simp
 rw[e1,e2] at hc
 have e3:((A++[y])++x::(B++C)).take (i+1)=(A++[y])++x::B:=by
  rw[show (A++[y])++x::(B++C)=((A++[y])++x::B)++C by simp,List.take_left' (by simp at h2 ⊢;omega)]
 rw[e3]
 rw[List.pairwise_append] at h3 ⊢
 obtain⟨p1,p2,p3⟩:=h3
 refine⟨p1,List.pairwise_cons.2 ⟨h4,p2⟩,fun a ha b hb=>?_⟩
 have hax:r a x:=by
  rcases List.mem_append.1 ha with h | h
  ·exact ht _ _ _ ((List.pairwise_append.1 p1).2.2 a h y (by simp)) hc
  ·simp only[List.mem_singleton] at h;subst h;exact hc
 rcases List.mem_cons.1 hb with rfl | h
 ·exact hax
 ·exact p3 a ha b h
theorem Zm6 (htot : ∀ a b,r a b∨r b a) {i k:Nat}{L:List α}(h:insR r i (k+1) L) (hk:k+1<L.length) (hc:¬r L[k] L[k+1]) :
  insR r i k ((L.set (k+1) L[k]).set k L[k+1])∧((L.set (k+1) L[k]).set k L[k+1]).Perm L:=by
 obtain⟨A,x,B,C,rfl,h1,h2,h3,h4⟩:=h
 obtain⟨A,y,rfl⟩ : ∃ A' y,A=A'++[y]:=⟨A.dropLast,A.getLast (by intro e;subst e;cases h1),(List.dropLast_concat_getLast _).symm⟩
 simp only[List.length_append,List.length_singleton] at h1
 obtain rfl:A.length=k:=by omega
 have e1:((A++[y])++x::(B++C))[A.length+1]'hk=x:=by simp
 have e2:((A++[y])++x::(B++C))[A.length]'(by omega)=y:=by simp
 rw[e1,e2] at hc ⊢
 have e3:(((A++[y])++x::(B++C)).set (A.length+1) y).set A.length x=A++x::y::(B++C):=by
  simp
 rw[e3]
 refine⟨⟨A,x,y::B,C,by simp,rfl,by simp at h2 ⊢;omega,by simpa using h3,fun b hb=>?_⟩,?_⟩
 ·rcases List.mem_cons.1 hb with rfl | h
  ·exact (htot _ _).resolve_left hc
  ·exact h4 b h
 ·simp only[List.append_assoc,List.singleton_append]
  exact (List.Perm.swap y x _).append_left A
end
end Go.Proofs.YtlekejpogddndaaGreatDoor
end
section
namespace Go.Proofs.YtlekejpogddndaaGreatDoor
open Go.Ab
attribute [local simp] Zbw ZbM ZbG ZbL
section
theorem Zlb {a0 a1 a2:AV}{l:List AV}:((a0::a1::a2::l).drop 0).take 3=[a0,a1,a2]:=rfl
theorem Zpd {a0 b0:Int}{a1 b1:Int}{a2 b2:Int}:Zbt [.int,.int,.int] [iv a0,iv a1,iv a2] [iv b0,iv b1,iv b2]=some (decide (a0=b0∧a1=b1∧a2=b2)):=by
 simp only[Zbt,Zd5,if_true,ZcL,Option.some.injEq]
 simp only[Bool.decide_and,Bool.and_true]
 try (congr 1 <;> simp)
 try rfl
end
def c226:AC:=(Sr [Oo 2 (.box 61 5 (.tmp 0)),Oo 3 (.box 61 5 (.tmp 1)),Mb 4 false] (Sr [Fa 5 0 2,Oo 6 (.load true 3 (.tmp 5)),Fa 7 0 3,Oo 8 (.load true 3 (.tmp 7)),Oo 9 (.eqs false [.int,.int,.int] (.tmp 6) (.tmp 8)),Mv 10 9,Ot 11 10 (.fa 3 (.tmp 2)),Ot 12 10 (.load false 1 (.tmp 11)),Ot 13 10 (.fa 3 (.tmp 3)),Ot 14 10 (.load false 1 (.tmp 13)),Ot 15 10 (.bin .eql (.tmp 12) (.tmp 14)),Oo 16 (.pick (.tmp 10) (.tmp 15) (.const (.bool false))),Mv 17 16,Ot 18 17 (.fa 4 (.tmp 2)),Ot 19 17 (.load false 1 (.tmp 18)),Ot 20 17 (.fa 4 (.tmp 3)),Ot 21 17 (.load false 1 (.tmp 20)),Ot 22 17 (.bin .eql (.tmp 19) (.tmp 21)),Oo 23 (.pick (.tmp 17) (.tmp 22) (.const (.bool false))),Mv 4 23] .ret))
theorem k226:ZaE Tryz.prog 226=some ⟨c226,[(.tmp 4)],24⟩:=by kernel_rfl
theorem Zee {u v:Unt}{h:AH}:Ac 226 [.agg (untC u),.agg (untC v)] h (bv (decide (u=v))):=by
 obtain⟨⟨y,m,d⟩,a,c⟩:=u
 obtain⟨⟨y2,m2,d2⟩,a2,c2⟩:=v
 refine tI' k226 fun N hn hlt hlA hbd=>?_
 simp only[tb'] at hbd ⊢
 refine wr'<|E' (Zbc cv rfl (hl0 hn) ha0) pt<|E' (Zbc cv rfl (hl1 hn) ha1) pt<|mw<|sn'<|wr'<|Vw (Zac lk)<|Vw (Zao lk gx Zlb rfl)<|Vw (Zac lk)<|Vw (Zao lk gx Zlb rfl)<|Vw (Zj3 lk lk Zpd)<|?_
 refine mv' lk pt ?_
 refine sp' (t:=10) gt pt pt (fun hg10=>?_) (fun hg10=>?_)
 ·refine s_do gt<|Vw (Zac lk)<|s_do gt<|Vw (Zab lk gx gt3)<|s_do gt<|Vw (Zac lk)<|s_do gt<|Vw (Zab lk gx gt3)<|s_do gt<|Vw (ZaX lk lk)<|Vw (Zal lk lk)<|mw<|?_
  refine sp' (t:=17) gt pt pt (fun hg17=>?_) (fun hg17=>?_)
  ·refine s_do gt<|Vw (Zac lk)<|s_do gt<|Vw (Zab lk gx gt4)<|s_do gt<|Vw (Zac lk)<|s_do gt<|Vw (Zab lk gx gt4)<|s_do gt<|Vw (ZaX lk lk)<|Vw (Zal lk lk)<|mw<|sn'<|?_
   refine Zaa<|Zah rz<|rT'<|?_
   refine bvx ?_;simp_all
  refine s_no gt pt<|s_no gt pt<|s_no gt pt<|s_no gt pt<|s_no gt pt<|Vw (Zak lk lkb)<|mw<|sn'<|Zaa<|Zah rz<|rT'<|?_
  refine bvx ?_;simp_all
 refine s_no gt pt<|s_no gt pt<|s_no gt pt<|s_no gt pt<|s_no gt pt<|Vw (Zak lk lkb)<|mw<|s_no gt pt<|s_no gt pt<|s_no gt pt<|s_no gt pt<|s_no gt pt<|Vw (Zak lk lkb)<|mw<|?_
 refine sn'<|Zaa<|Zah rz<|rT'<|?_
 refine bvx ?_;simp_all
end Go.Proofs.YtlekejpogddndaaGreatDoor
end
section
namespace Go.Proofs.YtlekejpogddndaaGreatDoor
open Go.Ab Go.RowKit Civ
attribute [local simp] Zbw ZbM ZbG ZbL
section
theorem Zr3 {a0 a1 a2 a3 a4 a5 a6:AV}{l:List AV}:((a0::a1::a2::a3::a4::a5::a6::l).drop 4).take 3=[a4,a5,a6]:=rfl
theorem Zr4 {a0 a1 a2 c0 c1 c2:AV}{l:List AV}:setCells (a0::a1::a2::l) 0 [c0,c1,c2]=c0::c1::c2::l:=rfl
theorem Zf2 {a0 a1 a2 a3 a4 a5 a6 a7 a8 a9:AV}{l:List AV}:((a0::a1::a2::a3::a4::a5::a6::a7::a8::a9::l).drop 5).take 5=[a5,a6,a7,a8,a9]:=rfl
theorem ZcN {τ:Operand→AV}:Zau τ [] [(.v (.int .i64 0)),(.v (.int .i64 0)),(.v (.int .i64 0)),(.v (.int .i64 0)),(.v (.int .i64 0))]=some [(.v (.int .i64 0)),(.v (.int .i64 0)),(.v (.int .i64 0)),(.v (.int .i64 0)),(.v (.int .i64 0))]:=rfl
theorem Zf3 {a0 a1 a2 a3 a4 a5 a6 a7:AV}{l:List AV}:((a0::a1::a2::a3::a4::a5::a6::a7::l).drop 5).take 3=[a5,a6,a7]:=rfl
theorem Zr1 {a0 a1 a2 a3 a4 a5 a6 a7 a8 a9 a10:AV}{l:List AV}:(a0::a1::a2::a3::a4::a5::a6::a7::a8::a9::a10::l).take 11=[a0,a1,a2,a3,a4,a5,a6,a7,a8,a9,a10]:=rfl
theorem Zr2 {a0 a1 a2 a3 a4 a5 a6 a7 a8 a9:AV}{l:List AV}:(a0::a1::a2::a3::a4::a5::a6::a7::a8::a9::l).take 10=[a0,a1,a2,a3,a4,a5,a6,a7,a8,a9]:=rfl
end
def c151:AC:=(Sr [Oo 1 (.box 36 11 (.tmp 0)),Mc 2 0] (.seq (Sr [Fa 5 0 1,Ld 6 5,Cl 7 115 [(.tmp 6)],Oo 8 (.un .not (.tmp 7)),Mv 9 8,Of 10 9 (.fa 10 (.tmp 1)),Of 11 9 (.load false 1 (.tmp 10)),Of 12 9 (.call (.func 224) [(.tmp 11)]),Of 13 9 (.un .not (.tmp 12)),Oo 14 (.pick (.tmp 9) (.const (.bool true)) (.tmp 13))] (Cd 14 (Sr [Mc 2 1] .ret) .skip)) (.seq (Sr [Fa 15 1 1,Ld 16 15,Fa 17 2 1,Ld 18 17,Cl 19 73 [(.tmp 16),(Ci 1900),(.tmp 18)],Oo 20 (.un .not (.tmp 19)),Mv 21 20,Of 22 21 (.fa 2 (.tmp 1)),Of 23 21 (.load false 1 (.tmp 22)),Of 24 21 (.bin .gtr (.tmp 23) (Ci 2100)),Oo 25 (.pick (.tmp 21) (.const (.bool true)) (.tmp 24)),Mv 26 25,Of 27 26 (.fa 3 (.tmp 1)),Of 28 26 (.load false 1 (.tmp 27)),Of 29 26 (.call (.func 73) [(.tmp 28),(Ci 1),(Ci 12)]),Of 30 26 (.un .not (.tmp 29)),Oo 31 (.pick (.tmp 26) (.const (.bool true)) (.tmp 30))] (Cd 31 (Sr [Mc 2 3] .ret) .skip)) (Sr [Fa 33 3 1,Ld 34 33,Fa 35 4 1,Oo 36 (.load true 3 (.tmp 35)),Cl 37 153 [(Ci 2001),(.tmp 34),(.tmp 36)],Mv 32 37,Ex 38 32 0,Ex 39 32 1,Oo 3 (.new 59 3 [(iv 0),(iv 0),(iv 0)]),⟨none,none,(.store 3 (.tmp 3) (.tmp 38))⟩,Mv 4 39] (.seq (Sr [Mv 40 4,Bc 41 .neq 40 0] (Cd 41 (Sr [Mv 42 4,Mv 2 42] .ret) .skip)) (.seq (Sr [Fa 43 7 1,Ld 44 43,Cl 45 73 [(.tmp 44),(Ci 0),(Ci 172800)],Oo 46 (.un .not (.tmp 45))] (Cd 46 (Sr [Mc 2 3] .ret) .skip)) (.seq (Sr [Fa 47 8 1,Ld 48 47,Cl 49 73 [(.tmp 48),(Ci 1),(Ci 3)],Oo 50 (.un .not (.tmp 49))] (Cd 50 (Sr [Mc 2 7] .ret) .skip)) (.seq (Sr [Fa 51 9 1,Ld 52 51,Cl 53 73 [(.tmp 52),(Ci 0),(Ci 10800)],Oo 54 (.un .not (.tmp 53))] (Cd 54 (Sr [Mc 2 3] .ret) .skip)) (Sr [Mc 2 0] .ret)))))))))
theorem k151:ZaE Tryz.prog 151=some ⟨c151,[(.tmp 2)],55⟩:=by kernel_rfl
def c152:AC:=(Sr [Oo 2 (.box 63 10 (.tmp 0)),Mc 4 0] (.seq (Sr [Fa 5 1 2,Ld 6 5,Oo 7 (.bin .neq (.tmp 6) (.const (.string ⟨#[]⟩))),Mv 8 7,Ot 9 8 (.fa 1 (.tmp 2)),Ot 10 8 (.load false 1 (.tmp 9)),Ot 11 8 (.call (.func 115) [(.tmp 10)]),Ot 12 8 (.un .not (.tmp 11)),Oo 13 (.pick (.tmp 8) (.tmp 12) (.const (.bool false))),Mv 14 13,Of 15 14 (.fa 3 (.tmp 2)),Of 16 14 (.load false 1 (.tmp 15)),Of 17 14 (.call (.func 225) [(.tmp 16)]),Of 18 14 (.un .not (.tmp 17)),Oo 19 (.pick (.tmp 14) (.const (.bool true)) (.tmp 18))] (Cd 19 (Sr [Mc 4 1] .ret) .skip)) (.seq (Sr [Fa 20 0 2,Ld 21 20,Cl 22 73 [(.tmp 21),(.const (.int .i64 (-64800))),(Ci 64800)],Oo 23 (.un .not (.tmp 22)),Mv 24 23,Of 25 24 (.fa 2 (.tmp 2)),Of 26 24 (.load false 1 (.tmp 25)),Of 27 24 (.call (.func 73) [(.tmp 26),(Ci 0),(Ci 10800)]),Of 28 24 (.un .not (.tmp 27)),Oo 29 (.pick (.tmp 24) (.const (.bool true)) (.tmp 28))] (Cd 29 (Sr [Mc 4 3] .ret) .skip)) (.seq (Sr [Fa 30 1 2,Ld 31 30,Oo 32 (.bin .neq (.tmp 31) (.const (.string ⟨#[]⟩))),Mv 33 32,Ot 34 33 (.fa 2 (.tmp 2)),Ot 35 33 (.load false 1 (.tmp 34)),Ot 36 33 (.bin .neq (.tmp 35) (Ci 0)),Oo 37 (.pick (.tmp 33) (.tmp 36) (.const (.bool false)))] (Cd 37 (Sr [Mc 4 1] .ret) .skip)) (.seq (Sr [Fa 38 4 2,Ld 39 38,Mv 40 1,Oo 41 (.eqb true (.tmp 39) (.tmp 40))] (Cd 41 (Sr [Mc 4 4] .ret) .skip)) (.seq (Sr [Fa 42 4 2,Ld 43 42] (Cd 43 (.seq (Sr [Fa 44 5 2,Oo 45 (.load true 5 (.tmp 44)),Oo 46 (.build [(iv 0),(iv 0),(iv 0),(iv 0),(iv 0)] []),Cl 47 226 [(.tmp 45),(.tmp 46)],Oo 48 (.un .not (.tmp 47))] (Cd 48 (Sr [Mc 4 1] .ret) .skip)) (Sr [Mc 4 0] .ret)) .skip)) (.seq (Sr [Fa 49 5 2,Fa 50 0 49,Oo 51 (.load true 3 (.tmp 50)),Cl 52 227 [(.tmp 51)],Oo 53 (.un .not (.tmp 52)),Mv 54 53,Of 55 54 (.fa 5 (.tmp 2)),Of 56 54 (.fa 3 (.tmp 55)),Of 57 54 (.load false 1 (.tmp 56)),Of 58 54 (.call (.func 73) [(.tmp 57),(Ci 0),(Ci 172800)]),Of 59 54 (.un .not (.tmp 58)),Oo 60 (.pick (.tmp 54) (.const (.bool true)) (.tmp 59))] (Cd 60 (Sr [Mc 4 3] .ret) .skip)) (.seq (Sr [Fa 61 5 2,Fa 62 4 61,Ld 63 62,Bc 64 .neq 63 2,Mv 65 64,Ot 66 65 (.fa 5 (.tmp 2)),Ot 67 65 (.fa 4 (.tmp 66)),Ot 68 65 (.load false 1 (.tmp 67)),Ot 69 65 (.bin .neq (.tmp 68) (Ci 3)),Oo 70 (.pick (.tmp 65) (.tmp 69) (.const (.bool false)))] (Cd 70 (Sr [Mc 4 7] .ret) .skip)) (Sr [Mc 4 0] .ret)))))))))
theorem k152:ZaE Tryz.prog 152=some ⟨c152,[(.tmp 4)],71⟩:=by kernel_rfl
def c79:AC:=(Sr [Oo 1 (.box 26 3 (.tmp 0)),Mc 2 0] (.seq (Sr [Fa 11 0 1,Ld 12 11,Oo 13 (.len false (.tmp 12)),Bc 14 .gtr 13 40,Mv 15 14,Of 16 15 (.fa 1 (.tmp 1)),Of 17 15 (.load false 1 (.tmp 16)),Of 18 15 (.len false (.tmp 17)),Of 19 15 (.bin .gtr (.tmp 18) (Ci 20)),Oo 20 (.pick (.tmp 15) (.const (.bool true)) (.tmp 19)),Mv 21 20,Of 22 21 (.fa 2 (.tmp 1)),Of 23 21 (.load false 1 (.tmp 22)),Of 24 21 (.len false (.tmp 23)),Of 25 21 (.bin .gtr (.tmp 24) (Ci 20)),Oo 26 (.pick (.tmp 21) (.const (.bool true)) (.tmp 25))] (Cd 26 (Sr [Mc 2 2] .ret) .skip)) (.seq (Sr [Mc 3 0] (.block 0 (.loop (.seq (Sr [Mv 27 3,Fa 28 1 1,Ld 29 28,Oo 30 (.len false (.tmp 29)),Bn 31 .lss 27 30] (Cd 31 .skip (.exit 0))) (.seq (.block 1 (Sr [Fa 34 1 1,Ld 35 34,Mv 36 3,Oo 37 (.ia 2 (.tmp 35) (.tmp 36)),Fa 38 1 37,Ld 39 38,Oo 40 (.len false (.tmp 39)),Bc 41 .gtr 40 8] (Cd 41 (Sr [Mc 2 2] .ret) .skip))) (.reg [Mv 32 3,Bc 33 .add 32 1,Mv 3 33])))))) (.seq (Sr [Mc 4 0] (.block 2 (.loop (.seq (Sr [Mv 42 4,Fa 43 0 1,Ld 44 43,Oo 45 (.len false (.tmp 44)),Bn 46 .lss 42 45] (Cd 46 .skip (.exit 2))) (.seq (.block 3 (Sr [Fa 49 0 1,Ld 50 49,Mv 51 4,Oo 52 (.ia 11 (.tmp 50) (.tmp 51)),Oo 53 (.load true 11 (.tmp 52)),Cl 54 151 [(.tmp 53)],Mv 5 54] (Sr [Mv 55 5,Bc 56 .neq 55 0] (Cd 56 (Sr [Mv 57 5,Mv 2 57] .ret) .skip)))) (.reg [Mv 47 4,Bc 48 .add 47 1,Mv 4 48])))))) (.seq (Sr [Mc 6 0] (.block 4 (.loop (.seq (Sr [Mv 58 6,Fa 59 1 1,Ld 60 59,Oo 61 (.len false (.tmp 60)),Bn 62 .lss 58 61] (Cd 62 .skip (.exit 4))) (.seq (.block 5 (Sr [Fa 65 1 1,Ld 66 65,Mv 67 6,Oo 68 (.ia 2 (.tmp 66) (.tmp 67)),Fa 69 1 68,Ld 70 69,Mv 7 70] (.seq (Sr [Fa 71 1 1,Ld 72 71,Mv 73 6,Oo 74 (.ia 2 (.tmp 72) (.tmp 73)),Fa 75 0 74,Ld 76 75,Cl 77 115 [(.tmp 76)],Oo 78 (.un .not (.tmp 77)),Mv 79 78,Of 80 79 (mt 7),Of 81 79 (.len false (.tmp 80)),Of 82 79 (.bin .eql (.tmp 81) (Ci 0)),Oo 83 (.pick (.tmp 79) (.const (.bool true)) (.tmp 82))] (Cd 83 (Sr [Mc 2 1] .ret) .skip)) (Sr [Mc 8 0] (.block 6 (.loop (.seq (Sr [Mv 84 8,Mv 85 7,Oo 86 (.len false (.tmp 85)),Bn 87 .lss 84 86] (Cd 87 .skip (.exit 6))) (.seq (.block 7 (Sr [Mv 90 7,Mv 91 8,Oo 92 (.ia 10 (.tmp 90) (.tmp 91)),Oo 93 (.load true 10 (.tmp 92)),Mv 94 8,Mv 95 7,Oo 96 (.len false (.tmp 95)),Bc 97 .sub 96 1,Bn 98 .eql 94 97,Cl 99 152 [(.tmp 93),(.tmp 98)],Mv 9 99] (Sr [Mv 100 9,Bc 101 .neq 100 0] (Cd 101 (Sr [Mv 102 9,Mv 2 102] .ret) .skip)))) (.reg [Mv 88 8,Bc 89 .add 88 1,Mv 8 89]))))))))) (.reg [Mv 63 6,Bc 64 .add 63 1,Mv 6 64])))))) (.seq (Sr [Mc 10 0] (.block 8 (.loop (.seq (Sr [Mv 103 10,Fa 104 2 1,Ld 105 104,Oo 106 (.len false (.tmp 105)),Bn 107 .lss 103 106] (Cd 107 .skip (.exit 8))) (.seq (.block 9 (Sr [Fa 110 2 1,Ld 111 110,Mv 112 10,Oo 113 (.ia 2 (.tmp 111) (.tmp 112)),Fa 114 0 113,Ld 115 114,Cl 116 115 [(.tmp 115)],Oo 117 (.un .not (.tmp 116)),Mv 118 117,Of 119 118 (.fa 2 (.tmp 1)),Of 120 118 (.load false 1 (.tmp 119)),Of 121 118 (mt 10),Of 122 118 (.ia 2 (.tmp 120) (.tmp 121)),Of 123 118 (.fa 1 (.tmp 122)),Of 124 118 (.load false 1 (.tmp 123)),Of 125 118 (.call (.func 115) [(.tmp 124)]),Of 126 118 (.un .not (.tmp 125)),Oo 127 (.pick (.tmp 118) (.const (.bool true)) (.tmp 126))] (Cd 127 (Sr [Mc 2 1] .ret) .skip))) (.reg [Mv 108 10,Bc 109 .add 108 1,Mv 10 109])))))) (Sr [Mc 2 0] .ret)))))))
theorem k79:ZaE Tryz.prog 79=some ⟨c79,[(.tmp 2)],128⟩:=by kernel_rfl
theorem ZmM {nm lt:ByteArray}{f t m k w n a c s:Int}{h:AH}(hnm:nm.size≤maxLen) (hlt':lt.size≤maxLen):Ac 151 [.agg [sv nm,iv f,iv t,iv m,iv k,iv w,iv n,iv a,iv c,iv s,sv lt]] h (iv (Zbr (nm,f,t,m,(k,w,n),a,c,s,lt))):=by
 refine tI' k151 fun N hn hlt hlA hbd=>?_
 simp only[tb'] at hbd ⊢
 refine wr'<|E' (Zbc cv rfl (hl0 hn) ha0) pt<|mw<|sn'<|Zag<|wr'<|Vw (Zac lk)<|Vw (Zab lk gx gt0)<|Zaf mp (Zdr hnm) pt<|Vw (ZaC lk)<|mw<|?_
 refine ZaK (t:=9) gt pt pt (fun hg9=>?_) (fun hg9=>?_)
 ·refine s_no gt pt<|s_no gt pt<|s_no gt pt<|s_no gt pt<|Vw (Zal lk lkb)<|sn'<|ZaH lk<|wr'<|mw<|sn'<|Zaa<|?_
  refine Zai<|Zah rz<|rT'<|?_
  rw[show Zbr (nm,f,t,m,(k,w,n),a,c,s,lt)=1 by unfold Zbr;simp_all]
 refine s_do gt<|Vw (Zac lk)<|s_do gt<|Vw (Zab lk gx gt10)<|s_do gt<|Zaf mp (ZhW hlt') pt<|s_do gt<|Vw (ZaC lk)<|Vw (Zak lk lk)<|sn'<|?_
 refine Zaz lk (fun hc1=>?_) (fun hc1=>?_)
 ·refine wr'<|mw<|sn'<|Zaa<|Zai<|Zah rz<|rT'<|?_
  rw[show Zbr (nm,f,t,m,(k,w,n),a,c,s,lt)=1 by unfold Zbr;simp_all]
 have h1:ZcI nm=true∧ZcD lt=true:=by simp_all
 have hR:Zbr (nm,f,t,m,(k,w,n),a,c,s,lt)=if f<1900∨f>t∨t>2100∨¬wi m 1 12=true then 3 else if (onV 2001 m k w n).2≠0 then (onV 2001 m k w n).2 else if ¬wi a 0 172800=true then 3 else if ¬clkB c true=true then 7 else if ¬wi s 0 10800=true then 3 else 0:=if_neg (by simp[h1])
 have hC:clkB c true=wi c 1 3:=by unfold clkB;simp
 rw[hC] at hR
 refine Zad<|Zae<|Zag<|wr'<|Vw (Zac lk)<|Vw (Zab lk gx gt1)<|Vw (Zac lk)<|Vw (Zab lk gx gt2)<|Zaf mp (Zba) pt<|Vw (ZaC lk)<|mw<|?_
 refine ZaK (t:=21) gt pt pt (fun hg21=>?_) (fun hg21=>?_)
 ·have hw:¬wi f 1900 t=true:=by simpa using hg21
  have hw':¬(1900≤f∧f≤t):=by unfold wi at hw;simpa using hw
  rw[if_pos om] at hR
  refine s_no gt pt<|s_no gt pt<|s_no gt pt<|Vw (Zal lk lkb)<|mw<|s_no gt pt<|s_no gt pt<|s_no gt pt<|s_no gt pt<|Vw (Zal lk lkb)<|sn'<|ZaH lk<|Zag<|?_
  refine Zat<|mw<|sn'<|Zaa<|Zai<|Zah rz<|rT'<|?_
  rw[hR]
 have hw:wi f 1900 t=true:=by simpa using hg21
 have hw':1900≤f∧f≤t:=by unfold wi at hw;simpa using hw
 refine s_do gt<|Vw (Zac lk)<|s_do gt<|Vw (Zab lk gx gt2)<|s_do gt<|Vw (Zbz lk lki)<|Vw (Zak lk lk)<|mw<|?_
 refine sp' (t:=26) gt pt pt (fun hg26=>?_) (fun hg26=>?_)
 ·rw[if_pos (.inr (.inr (.inl om)))] at hR
  refine s_no gt pt<|s_no gt pt<|s_no gt pt<|s_no gt pt<|Vw (Zal lk lkb)<|sn'<|ZaH lk<|wr'<|mw<|sn'<|Zaa<|?_
  refine Zai<|Zah rz<|rT'<|?_
  rw[hR]
 refine s_do gt<|Vw (Zac lk)<|s_do gt<|Vw (Zab lk gx gt3)<|s_do gt<|Zaf mp (Zba) pt<|s_do gt<|Vw (ZaC lk)<|Vw (Zak lk lk)<|sn'<|?_
 refine Zaz lk (fun hc2=>?_) (fun hc2=>?_)
 ·rw[if_pos (.inr (.inr (.inr (by simpa using hc2))))] at hR
  refine wr'<|mw<|sn'<|Zaa<|Zai<|Zah rz<|rT'<|?_
  rw[hR]
 have hw2:wi m 1 12=true:=by simpa using hc2
 have h2:¬(f<1900∨f>t∨t>2100∨¬wi m 1 12=true):=by rw[hw2];simp;omega
 rw[if_neg h2] at hR
 refine Zad<|Zae<|wr'<|Vw (Zac lk)<|Vw (Zab lk gx gt3)<|Vw (Zac lk)<|Vw (Zao lk gx Zr3 rfl)<|Zaf mp (ron_a) pt<|mw<|Vw (Zbi lk gt)<|Vw (Zbi lk gt)<|E' (Za7 (hl1 hn) ha1) pt<|E' (Zaj lk cv gx rfl (nb' rfl) rfl Zr4 (hs1 hn)) ptn<|?_
 refine mw<|sn'<|Zag<|wr'<|mw<|Vw (Za9 lk lki)<|sn'<|?_
 refine cd' lk (fun hc3=>?_) (fun hc3=>?_)
 ·rw[if_pos hc3] at hR
  refine wr'<|mw<|mw<|sn'<|Zaa<|Zai<|Zah rz<|rT'<|?_
  rw[hR]
 rw[if_neg hc3] at hR
 refine Zad<|Zae<|Zag<|wr'<|Vw (Zac lk)<|Vw (Zab lk gx gt7)<|Zaf mp (Zba) pt<|Vw (ZaC lk)<|sn'<|?_
 refine Zaz lk (fun hc4=>?_) (fun hc4=>?_)
 ·rw[if_pos (by simpa using hc4)] at hR
  refine wr'<|mw<|sn'<|Zaa<|Zai<|Zah rz<|rT'<|?_
  rw[hR]
 rw[if_neg (by simpa using hc4)] at hR
 refine Zad<|Zae<|Zag<|wr'<|Vw (Zac lk)<|Vw (Zab lk gx gt8)<|Zaf mp (Zba) pt<|Vw (ZaC lk)<|sn'<|?_
 refine Zaz lk (fun hc5=>?_) (fun hc5=>?_)
 ·rw[if_pos (by simpa using hc5)] at hR
  refine wr'<|mw<|sn'<|Zaa<|Zai<|Zah rz<|rT'<|?_
  rw[hR]
 rw[if_neg (by simpa using hc5)] at hR
 refine Zad<|Zae<|Zag<|wr'<|Vw (Zac lk)<|Vw (Zab lk gx gt9)<|Zaf mp (Zba) pt<|Vw (ZaC lk)<|sn'<|?_
 refine Zaz lk (fun hc6=>?_) (fun hc6=>?_)
 ·rw[if_pos (by simpa using hc6)] at hR
  refine wr'<|mw<|sn'<|Zaa<|Zai<|Zah rz<|rT'<|?_
  rw[hR]
 rw[if_neg (by simpa using hc6)] at hR
 refine Zad<|Zae<|wr'<|mw<|sn'<|Zaa<|Zah rz<|rT'<|?_
 rw[hR]
theorem Zid (c:Int):clkB c false=decide (c=2∨c=3):=by unfold clkB wi;rw[Bool.eq_iff_iff];simp;omega
theorem Zoa {rl fm:ByteArray}{sh sa y m d a c:Int}{op last:Bool}{h:AH}(hrl:rl.size≤maxLen) (hfm:fm.size≤maxLen):Ac 152 [.agg [iv sh,sv rl,iv sa,sv fm,bv op,iv y,iv m,iv d,iv a,iv c],bv last] h (iv (eraE sh rl sa fm op y m d a c last)):=by
 refine tI' k152 fun N hn hlt hlA hbd=>?_
 simp only[tb'] at hbd ⊢
 refine wr'<|E' (Zbc cv rfl (hl0 hn) ha0) pt<|mw<|sn'<|Zag<|wr'<|Vw (Zac lk)<|Vw (Zab lk gx gt1)<|Vw (ZcF lk lks)<|mw<|?_
 refine sp' (t:=8) gt pt pt (fun hg8=>?_) (fun hg8=>?_)
 ·refine s_do gt<|Vw (Zac lk)<|s_do gt<|Vw (Zab lk gx gt1)<|s_do gt<|Zaf mp (Zdr hrl) pt<|s_do gt<|Vw (ZaC lk)<|Vw (Zal lk lk)<|mw<|?_
  refine ZaK (t:=14) gt pt pt (fun hg14=>?_) (fun hg14=>?_)
  ·refine s_no gt pt<|s_no gt pt<|s_no gt pt<|s_no gt pt<|Vw (Zal lk lkb)<|sn'<|ZaH lk<|wr'<|mw<|sn'<|Zaa<|?_
   refine Zai<|Zah rz<|rT'<|?_
   refine ivx ?_;unfold eraE;simp_all
  refine s_do gt<|Vw (Zac lk)<|s_do gt<|Vw (Zab lk gx gt3)<|s_do gt<|Zaf mp (Zgl hfm) pt<|s_do gt<|Vw (ZaC lk)<|Vw (Zak lk lk)<|sn'<|?_
  refine Zaz lk (fun hc1=>?_) (fun hc1=>?_)
  ·refine wr'<|mw<|sn'<|Zaa<|Zai<|Zah rz<|rT'<|?_
   refine ivx ?_;unfold eraE;simp_all
  refine Zad<|Zae<|Zag<|wr'<|Vw (Zac lk)<|Vw (Zab lk gx gt0)<|Zaf mp (Zba) pt<|Vw (ZaC lk)<|mw<|?_
  refine ZaK (t:=24) gt pt pt (fun hg24=>?_) (fun hg24=>?_)
  ·refine s_no gt pt<|s_no gt pt<|s_no gt pt<|s_no gt pt<|Vw (Zal lk lkb)<|sn'<|ZaH lk<|wr'<|mw<|sn'<|Zaa<|?_
   refine Zai<|Zah rz<|rT'<|?_
   refine ivx ?_;unfold eraE;simp_all
  refine s_do gt<|Vw (Zac lk)<|s_do gt<|Vw (Zab lk gx gt2)<|s_do gt<|Zaf mp (Zba) pt<|s_do gt<|Vw (ZaC lk)<|Vw (Zak lk lk)<|sn'<|?_
  refine Zaz lk (fun hc2=>?_) (fun hc2=>?_)
  ·refine wr'<|mw<|sn'<|Zaa<|Zai<|Zah rz<|rT'<|?_
   refine ivx ?_;unfold eraE;simp_all
  refine Zad<|Zae<|Zag<|wr'<|Vw (Zac lk)<|Vw (Zab lk gx gt1)<|Vw (ZcF lk lks)<|mw<|?_
  refine sp' (t:=33) gt pt pt (fun hg33=>?_) (fun hg33=>?_)
  ·refine s_do gt<|Vw (Zac lk)<|s_do gt<|Vw (Zab lk gx gt2)<|s_do gt<|Vw (Za9 lk lki)<|Vw (Zal lk lk)<|sn'<|?_
   refine cd' lk (fun hc3=>?_) (fun hc3=>?_)
   ·refine wr'<|mw<|sn'<|Zaa<|Zai<|Zah rz<|rT'<|?_
    refine ivx ?_;unfold eraE;simp_all
   refine Zad<|Zae<|Zag<|wr'<|Vw (Zac lk)<|Vw (Zab lk gx gt4)<|mw<|Vw (Zd9 lk lk)<|sn'<|?_
   refine cd' lk (fun hc4=>?_) (fun hc4=>?_)
   ·refine wr'<|mw<|sn'<|Zaa<|Zai<|Zah rz<|rT'<|?_
    refine ivx ?_;unfold eraE;simp_all
   refine Zad<|Zae<|Zag<|wr'<|Vw (Zac lk)<|Vw (Zab lk gx gt4)<|sn'<|?_
   refine Zaz lk (fun hc5=>?_) (fun hc5=>?_)
   ·refine Zag<|wr'<|Vw (Zac lk)<|Vw (Zao lk gx Zf2 rfl)<|Vw (Zaw ZcN)<|Zaf mp (Zee (u:=((y,m,d),a,c)) (v:=((0,0,0),0,0))) pt<|Vw (ZaC lk)<|sn'<|?_
    refine Zaz lk (fun hc6=>?_) (fun hc6=>?_)
    ·refine wr'<|mw<|sn'<|Zaa<|Zai<|Zai<|Zah rz<|rT'<|?_
     refine ivx ?_;unfold eraE;simp_all <;> (try intros) <;> omega
    refine Zad<|Zae<|wr'<|mw<|sn'<|Zaa<|Zai<|Zah rz<|rT'<|?_
    refine ivx ?_;unfold eraE;simp_all
   refine Zad<|Zae<|Zag<|wr'<|Vw (Zac lk)<|Vw (Zbl lk)<|Vw (Zao lk gx Zf3 rfl)<|Zaf mp (ZfN) pt<|Vw (ZaC lk)<|mw<|?_
   refine ZaK (t:=54) gt pt pt (fun hg54=>?_) (fun hg54=>?_)
   ·refine s_no gt pt<|s_no gt pt<|s_no gt pt<|s_no gt pt<|s_no gt pt<|Vw (Zal lk lkb)<|sn'<|ZaH lk<|wr'<|mw<|sn'<|?_
    refine Zaa<|Zai<|Zah rz<|rT'<|?_
    refine ivx ?_;unfold eraE;simp_all
   refine s_do gt<|Vw (Zac lk)<|s_do gt<|Vw (Zbl lk)<|s_do gt<|Vw (Zab lk gx gt8)<|s_do gt<|Zaf mp (Zba) pt<|s_do gt<|Vw (ZaC lk)<|Vw (Zak lk lk)<|sn'<|?_
   refine Zaz lk (fun hc7=>?_) (fun hc7=>?_)
   ·refine wr'<|mw<|sn'<|Zaa<|Zai<|Zah rz<|rT'<|?_
    refine ivx ?_;unfold eraE;simp_all
   refine Zad<|Zae<|Zag<|wr'<|Vw (Zac lk)<|Vw (Zbl lk)<|Vw (Zab lk gx gt9)<|Vw (Za9 lk lki)<|mw<|?_
   refine sp' (t:=65) gt pt pt (fun hg65=>?_) (fun hg65=>?_)
   ·refine s_do gt<|Vw (Zac lk)<|s_do gt<|Vw (Zbl lk)<|s_do gt<|Vw (Zab lk gx gt9)<|s_do gt<|Vw (Za9 lk lki)<|Vw (Zal lk lk)<|sn'<|?_
    refine cd' lk (fun hc8=>?_) (fun hc8=>?_)
    ·refine wr'<|mw<|sn'<|Zaa<|Zai<|Zah rz<|rT'<|?_
     refine ivx ?_;unfold eraE;rw[Zid];simp_all
    refine Zad<|Zae<|wr'<|mw<|sn'<|Zaa<|Zah rz<|rT'<|?_
    refine ivx ?_;unfold eraE;rw[Zid];simp_all
   refine s_no gt pt<|s_no gt pt<|s_no gt pt<|s_no gt pt<|Vw (Zak lk lkb)<|sn'<|ZaT lk<|Zad<|Zae<|wr'<|mw<|Zaq<|?_
   refine Zae<|Zaa<|Zah rz<|rT'<|?_
   refine ivx ?_;unfold eraE;rw[Zid];simp_all
  refine s_no gt pt<|s_no gt pt<|s_no gt pt<|Vw (Zak lk lkb)<|sn'<|ZaT lk<|Zad<|Zae<|Zag<|wr'<|Vw (Zac lk)<|Vw (Zab lk gx gt4)<|?_
  refine mw<|Vw (Zd9 lk lk)<|sn'<|?_
  refine cd' lk (fun hc4=>?_) (fun hc4=>?_)
  ·refine wr'<|mw<|sn'<|Zaa<|Zai<|Zah rz<|rT'<|?_
   refine ivx ?_;unfold eraE;simp_all
  refine Zad<|Zae<|Zag<|wr'<|Vw (Zac lk)<|Vw (Zab lk gx gt4)<|sn'<|?_
  refine Zaz lk (fun hc5=>?_) (fun hc5=>?_)
  ·refine Zag<|wr'<|Vw (Zac lk)<|Vw (Zao lk gx Zf2 rfl)<|Vw (Zaw ZcN)<|Zaf mp (Zee (u:=((y,m,d),a,c)) (v:=((0,0,0),0,0))) pt<|Vw (ZaC lk)<|sn'<|?_
   refine Zaz lk (fun hc6=>?_) (fun hc6=>?_)
   ·refine wr'<|mw<|sn'<|Zaa<|Zai<|Zai<|Zah rz<|rT'<|?_
    refine ivx ?_;unfold eraE;simp_all <;> (try intros) <;> omega
   refine Zad<|Zae<|wr'<|mw<|sn'<|Zaa<|Zai<|Zah rz<|rT'<|?_
   refine ivx ?_;unfold eraE;simp_all
  refine Zad<|Zae<|Zag<|wr'<|Vw (Zac lk)<|Vw (Zbl lk)<|Vw (Zao lk gx Zf3 rfl)<|Zaf mp (ZfN) pt<|Vw (ZaC lk)<|mw<|?_
  refine ZaK (t:=54) gt pt pt (fun hg54=>?_) (fun hg54=>?_)
  ·refine s_no gt pt<|s_no gt pt<|s_no gt pt<|s_no gt pt<|s_no gt pt<|Vw (Zal lk lkb)<|sn'<|ZaH lk<|wr'<|mw<|sn'<|?_
   refine Zaa<|Zai<|Zah rz<|rT'<|?_
   refine ivx ?_;unfold eraE;simp_all
  refine s_do gt<|Vw (Zac lk)<|s_do gt<|Vw (Zbl lk)<|s_do gt<|Vw (Zab lk gx gt8)<|s_do gt<|Zaf mp (Zba) pt<|s_do gt<|Vw (ZaC lk)<|Vw (Zak lk lk)<|sn'<|?_
  refine Zaz lk (fun hc7=>?_) (fun hc7=>?_)
  ·refine wr'<|mw<|sn'<|Zaa<|Zai<|Zah rz<|rT'<|?_
   refine ivx ?_;unfold eraE;simp_all
  refine Zad<|Zae<|Zag<|wr'<|Vw (Zac lk)<|Vw (Zbl lk)<|Vw (Zab lk gx gt9)<|Vw (Za9 lk lki)<|mw<|?_
  refine sp' (t:=65) gt pt pt (fun hg65=>?_) (fun hg65=>?_)
  ·refine s_do gt<|Vw (Zac lk)<|s_do gt<|Vw (Zbl lk)<|s_do gt<|Vw (Zab lk gx gt9)<|s_do gt<|Vw (Za9 lk lki)<|Vw (Zal lk lk)<|sn'<|?_
   refine cd' lk (fun hc8=>?_) (fun hc8=>?_)
   ·refine wr'<|mw<|sn'<|Zaa<|Zai<|Zah rz<|rT'<|?_
    refine ivx ?_;unfold eraE;rw[Zid];simp_all
   refine Zad<|Zae<|wr'<|mw<|sn'<|Zaa<|Zah rz<|rT'<|?_
   refine ivx ?_;unfold eraE;rw[Zid];simp_all
  refine s_no gt pt<|s_no gt pt<|s_no gt pt<|s_no gt pt<|Vw (Zak lk lkb)<|sn'<|ZaT lk<|Zad<|Zae<|wr'<|mw<|Zaq<|?_
  refine Zae<|Zaa<|Zah rz<|rT'<|?_
  refine ivx ?_;unfold eraE;rw[Zid];simp_all
 refine s_no gt pt<|s_no gt pt<|s_no gt pt<|s_no gt pt<|Vw (Zak lk lkb)<|mw<|s_do gt<|Vw (Zac lk)<|s_do gt<|Vw (Zab lk gx gt3)<|s_do gt<|Zaf mp (Zgl hfm) pt<|s_do gt<|Vw (ZaC lk)<|?_
 refine Vw (Zak lk lk)<|sn'<|?_
 refine Zaz lk (fun hc1=>?_) (fun hc1=>?_)
 ·refine wr'<|mw<|sn'<|Zaa<|Zai<|Zah rz<|rT'<|?_
  refine ivx ?_;unfold eraE;simp_all
 refine Zad<|Zae<|Zag<|wr'<|Vw (Zac lk)<|Vw (Zab lk gx gt0)<|Zaf mp (Zba) pt<|Vw (ZaC lk)<|mw<|?_
 refine ZaK (t:=24) gt pt pt (fun hg24=>?_) (fun hg24=>?_)
 ·refine s_no gt pt<|s_no gt pt<|s_no gt pt<|s_no gt pt<|Vw (Zal lk lkb)<|sn'<|ZaH lk<|wr'<|mw<|sn'<|Zaa<|?_
  refine Zai<|Zah rz<|rT'<|?_
  refine ivx ?_;unfold eraE;simp_all
 refine s_do gt<|Vw (Zac lk)<|s_do gt<|Vw (Zab lk gx gt2)<|s_do gt<|Zaf mp (Zba) pt<|s_do gt<|Vw (ZaC lk)<|Vw (Zak lk lk)<|sn'<|?_
 refine Zaz lk (fun hc2=>?_) (fun hc2=>?_)
 ·refine wr'<|mw<|sn'<|Zaa<|Zai<|Zah rz<|rT'<|?_
  refine ivx ?_;unfold eraE;simp_all
 refine Zad<|Zae<|Zag<|wr'<|Vw (Zac lk)<|Vw (Zab lk gx gt1)<|Vw (ZcF lk lks)<|mw<|?_
 refine sp' (t:=33) gt pt pt (fun hg33=>?_) (fun hg33=>?_)
 ·refine s_do gt<|Vw (Zac lk)<|s_do gt<|Vw (Zab lk gx gt2)<|s_do gt<|Vw (Za9 lk lki)<|Vw (Zal lk lk)<|sn'<|?_
  refine cd' lk (fun hc3=>?_) (fun hc3=>?_)
  ·refine wr'<|mw<|sn'<|Zaa<|Zai<|Zah rz<|rT'<|?_
   refine ivx ?_;unfold eraE;simp_all
  refine Zad<|Zae<|Zag<|wr'<|Vw (Zac lk)<|Vw (Zab lk gx gt4)<|mw<|Vw (Zd9 lk lk)<|sn'<|?_
  refine cd' lk (fun hc4=>?_) (fun hc4=>?_)
  ·refine wr'<|mw<|sn'<|Zaa<|Zai<|Zah rz<|rT'<|?_
   refine ivx ?_;unfold eraE;simp_all
  refine Zad<|Zae<|Zag<|wr'<|Vw (Zac lk)<|Vw (Zab lk gx gt4)<|sn'<|?_
  refine Zaz lk (fun hc5=>?_) (fun hc5=>?_)
  ·refine Zag<|wr'<|Vw (Zac lk)<|Vw (Zao lk gx Zf2 rfl)<|Vw (Zaw ZcN)<|Zaf mp (Zee (u:=((y,m,d),a,c)) (v:=((0,0,0),0,0))) pt<|Vw (ZaC lk)<|sn'<|?_
   refine Zaz lk (fun hc6=>?_) (fun hc6=>?_)
   ·refine wr'<|mw<|sn'<|Zaa<|Zai<|Zai<|Zah rz<|rT'<|?_
    refine ivx ?_;unfold eraE;simp_all <;> (try intros) <;> omega
   refine Zad<|Zae<|wr'<|mw<|sn'<|Zaa<|Zai<|Zah rz<|rT'<|?_
   refine ivx ?_;unfold eraE;simp_all
  refine Zad<|Zae<|Zag<|wr'<|Vw (Zac lk)<|Vw (Zbl lk)<|Vw (Zao lk gx Zf3 rfl)<|Zaf mp (ZfN) pt<|Vw (ZaC lk)<|mw<|?_
  refine ZaK (t:=54) gt pt pt (fun hg54=>?_) (fun hg54=>?_)
  ·refine s_no gt pt<|s_no gt pt<|s_no gt pt<|s_no gt pt<|s_no gt pt<|Vw (Zal lk lkb)<|sn'<|ZaH lk<|wr'<|mw<|sn'<|?_
   refine Zaa<|Zai<|Zah rz<|rT'<|?_
   refine ivx ?_;unfold eraE;simp_all
  refine s_do gt<|Vw (Zac lk)<|s_do gt<|Vw (Zbl lk)<|s_do gt<|Vw (Zab lk gx gt8)<|s_do gt<|Zaf mp (Zba) pt<|s_do gt<|Vw (ZaC lk)<|Vw (Zak lk lk)<|sn'<|?_
  refine Zaz lk (fun hc7=>?_) (fun hc7=>?_)
  ·refine wr'<|mw<|sn'<|Zaa<|Zai<|Zah rz<|rT'<|?_
   refine ivx ?_;unfold eraE;simp_all
  refine Zad<|Zae<|Zag<|wr'<|Vw (Zac lk)<|Vw (Zbl lk)<|Vw (Zab lk gx gt9)<|Vw (Za9 lk lki)<|mw<|?_
  refine sp' (t:=65) gt pt pt (fun hg65=>?_) (fun hg65=>?_)
  ·refine s_do gt<|Vw (Zac lk)<|s_do gt<|Vw (Zbl lk)<|s_do gt<|Vw (Zab lk gx gt9)<|s_do gt<|Vw (Za9 lk lki)<|Vw (Zal lk lk)<|sn'<|?_
   refine cd' lk (fun hc8=>?_) (fun hc8=>?_)
   ·refine wr'<|mw<|sn'<|Zaa<|Zai<|Zah rz<|rT'<|?_
    refine ivx ?_;unfold eraE;rw[Zid];simp_all
   refine Zad<|Zae<|wr'<|mw<|sn'<|Zaa<|Zah rz<|rT'<|?_
   refine ivx ?_;unfold eraE;rw[Zid];simp_all
  refine s_no gt pt<|s_no gt pt<|s_no gt pt<|s_no gt pt<|Vw (Zak lk lkb)<|sn'<|ZaT lk<|Zad<|Zae<|wr'<|mw<|Zaq<|?_
  refine Zae<|Zaa<|Zah rz<|rT'<|?_
  refine ivx ?_;unfold eraE;rw[Zid];simp_all
 refine s_no gt pt<|s_no gt pt<|s_no gt pt<|Vw (Zak lk lkb)<|sn'<|ZaT lk<|Zad<|Zae<|Zag<|wr'<|Vw (Zac lk)<|Vw (Zab lk gx gt4)<|?_
 refine mw<|Vw (Zd9 lk lk)<|sn'<|?_
 refine cd' lk (fun hc4=>?_) (fun hc4=>?_)
 ·refine wr'<|mw<|sn'<|Zaa<|Zai<|Zah rz<|rT'<|?_
  refine ivx ?_;unfold eraE;simp_all
 refine Zad<|Zae<|Zag<|wr'<|Vw (Zac lk)<|Vw (Zab lk gx gt4)<|sn'<|?_
 refine Zaz lk (fun hc5=>?_) (fun hc5=>?_)
 ·refine Zag<|wr'<|Vw (Zac lk)<|Vw (Zao lk gx Zf2 rfl)<|Vw (Zaw ZcN)<|Zaf mp (Zee (u:=((y,m,d),a,c)) (v:=((0,0,0),0,0))) pt<|Vw (ZaC lk)<|sn'<|?_
  refine Zaz lk (fun hc6=>?_) (fun hc6=>?_)
  ·refine wr'<|mw<|sn'<|Zaa<|Zai<|Zai<|Zah rz<|rT'<|?_
   refine ivx ?_;unfold eraE;simp_all <;> (try intros) <;> omega
  refine Zad<|Zae<|wr'<|mw<|sn'<|Zaa<|Zai<|Zah rz<|rT'<|?_
  refine ivx ?_;unfold eraE;simp_all
 refine Zad<|Zae<|Zag<|wr'<|Vw (Zac lk)<|Vw (Zbl lk)<|Vw (Zao lk gx Zf3 rfl)<|Zaf mp (ZfN) pt<|Vw (ZaC lk)<|mw<|?_
 refine ZaK (t:=54) gt pt pt (fun hg54=>?_) (fun hg54=>?_)
 ·refine s_no gt pt<|s_no gt pt<|s_no gt pt<|s_no gt pt<|s_no gt pt<|Vw (Zal lk lkb)<|sn'<|ZaH lk<|wr'<|mw<|sn'<|?_
  refine Zaa<|Zai<|Zah rz<|rT'<|?_
  refine ivx ?_;unfold eraE;simp_all
 refine s_do gt<|Vw (Zac lk)<|s_do gt<|Vw (Zbl lk)<|s_do gt<|Vw (Zab lk gx gt8)<|s_do gt<|Zaf mp (Zba) pt<|s_do gt<|Vw (ZaC lk)<|Vw (Zak lk lk)<|sn'<|?_
 refine Zaz lk (fun hc7=>?_) (fun hc7=>?_)
 ·refine wr'<|mw<|sn'<|Zaa<|Zai<|Zah rz<|rT'<|?_
  refine ivx ?_;unfold eraE;simp_all
 refine Zad<|Zae<|Zag<|wr'<|Vw (Zac lk)<|Vw (Zbl lk)<|Vw (Zab lk gx gt9)<|Vw (Za9 lk lki)<|mw<|?_
 refine sp' (t:=65) gt pt pt (fun hg65=>?_) (fun hg65=>?_)
 ·refine s_do gt<|Vw (Zac lk)<|s_do gt<|Vw (Zbl lk)<|s_do gt<|Vw (Zab lk gx gt9)<|s_do gt<|Vw (Za9 lk lki)<|Vw (Zal lk lk)<|sn'<|?_
  refine cd' lk (fun hc8=>?_) (fun hc8=>?_)
  ·refine wr'<|mw<|sn'<|Zaa<|Zai<|Zah rz<|rT'<|?_
   refine ivx ?_;unfold eraE;rw[Zid];simp_all
  refine Zad<|Zae<|wr'<|mw<|sn'<|Zaa<|Zah rz<|rT'<|?_
  refine ivx ?_;unfold eraE;rw[Zid];simp_all
 refine s_no gt pt<|s_no gt pt<|s_no gt pt<|s_no gt pt<|Vw (Zak lk lkb)<|sn'<|ZaT lk<|Zad<|Zae<|wr'<|mw<|Zaq<|?_
 refine Zae<|Zaa<|Zah rz<|rT'<|?_
 refine ivx ?_;unfold eraE;rw[Zid];simp_all
theorem ZhX {r:Rul}{h:AH}(h1:r.1.size≤maxLen) (h2:r.2.2.2.2.2.2.2.2.size≤maxLen):Ac 151 [.agg (rulC r)] h (iv (Zbr r)):=ZmM h1 h2
theorem Zob {x:Era}{last:Bool}{h:AH}(ho:ZtD x):ACalls Tryz.prog 152 [.agg (eraC x),bv last] h fun y h'=>h'=h∧y=.ret (iv (eraX x last)):=Zoa ho.1 ho.2
theorem ZmL {a:List Rul}{z:List Zon}{l:List Lnk}{h:AH}(hok:Zft (a,z,l)):Ac 79 [.agg [.sl a.length 11 false (rows rulC a),.sl z.length 2 false (rows zonC z),.sl l.length 2 false (rows lnkC l)]] h (iv (ZbU (a,z,l))):=by
 refine tI' k79 fun N hn hlt hlA hbd=>?_
 simp only[tb'] at hbd ⊢
 refine wr'<|E' (Zbc cv rfl (hl0 hn) ha0) pt<|mw<|sn'<|Zag<|wr'<|Vw (Zac lk)<|Vw (Zab lk gx gt0)<|Vw (ZaG lk)<|Vw (Zbz lk lki)<|mw<|?_
 refine sp' (t:=15) gt pt pt (fun hg15=>?_) (fun hg15=>?_)
 ·have hM:Zfl (a,z,l)=true:=by unfold Zfl;simp;omega
  refine s_no gt pt<|s_no gt pt<|s_no gt pt<|s_no gt pt<|Vw (Zal lk lkb)<|mw<|s_no gt pt<|s_no gt pt<|s_no gt pt<|s_no gt pt<|Vw (Zal lk lkb)<|sn'<|ZaH lk<|?_
  refine wr'<|mw<|sn'<|Zaa<|Zai<|Zah rz<|rT'<|?_
  refine ivx ?_;unfold ZbU;rw[if_pos hM]
 refine s_do gt<|Vw (Zac lk)<|s_do gt<|Vw (Zab lk gx gt1)<|s_do gt<|Vw (ZaG lk)<|s_do gt<|Vw (Zbz lk lki)<|Vw (Zak lk lk)<|mw<|?_
 refine sp' (t:=21) gt pt pt (fun hg21=>?_) (fun hg21=>?_)
 ·have hM:Zfl (a,z,l)=true:=by unfold Zfl;simp;omega
  refine s_no gt pt<|s_no gt pt<|s_no gt pt<|s_no gt pt<|Vw (Zal lk lkb)<|sn'<|ZaH lk<|wr'<|mw<|sn'<|Zaa<|?_
  refine Zai<|Zah rz<|rT'<|?_
  refine ivx ?_;unfold ZbU;rw[if_pos hM]
 refine s_do gt<|Vw (Zac lk)<|s_do gt<|Vw (Zab lk gx gt2)<|s_do gt<|Vw (ZaG lk)<|s_do gt<|Vw (Zbz lk lki)<|Vw (Zak lk lk)<|sn'<|?_
 refine cd' lk (fun hc1=>?_) (fun hc1=>?_)
 ·have hM:Zfl (a,z,l)=true:=by unfold Zfl;simp;omega
  refine wr'<|mw<|sn'<|Zaa<|Zai<|Zah rz<|rT'<|?_
  refine ivx ?_;unfold ZbU;rw[if_pos hM]
 refine Zad<|Zae<|Zag<|wr'<|mw<|sn'<|Zam<|?_
 refine w_lp (ι:=Nat) (fun (k:Nat)=>[(3,iv (k:Int)),(2,.any)]++rn' 27 15) (fun (k:Nat)=>[]) (fun (k:Nat)=>k≤z.length∧(z.take k).any (fun z=>decide (8<z.2.length))=false) (fun (k:Nat)=>z.length-k) (0) (by exact⟨Nat.zero_le _,rfl⟩) ?_
 rintro k hi1
 try simp only[sm',Nat.reduceAdd]
 obtain⟨hk1,hk2⟩:=hi1
 refine Zag<|wr'<|mw<|Vw (Zac lk)<|Vw (Zab lk gx gt1)<|Vw (ZaG lk)<|Vw (ZaZ lk lk)<|sn'<|?_
 refine cd' lk (fun hc2=>?_) (fun hc2=>?_)
 ·have hk:k<z.length:=by omega
  refine Zad<|Zae<|Zag<|Zam<|wr'<|Vw (Zac lk)<|Vw (Zab lk gx gt1)<|mw<|?_
  refine V' (ZaJ lk lk ZbI (nb' rfl) ro om ro rfl) pt ?_
  refine Vw (ZaR lk dp1)<|Vw (Zar lk gt)<|?_
  refine V' ((by first | exact ZaG lk | exact Zb7 lk)) pt ?_
  refine Vw (Zbz lk lki)<|sn'<|?_
  refine cd' lk (fun hc3=>?_) (fun hc3=>?_)
  ·have hM:Zfl (a,z,l)=true:=by unfold Zfl;rw[show z.any (fun z=>decide (8<z.2.length))=true from List.any_eq_true.2 ⟨z[k],List.getElem_mem hk,decide_eq_true om⟩];simp
   refine wr'<|mw<|sn'<|Zaa<|Zas<|Zai<|Zai<|Zas<|Zai<|Zah rz<|rT'<|?_
   refine ivx ?_;unfold ZbU;rw[if_pos hM]
  refine Zad<|ZaA<|Zae<|Zat<|mw<|?_
  refine V' (Zax lk lki om om) pt ?_
  refine mw<|Zaq<|ZaB<|?_
  refine lT' (k+1) (by (try dsimp only);exact⟨by omega,by rw[List.take_succ_eq_append_getElem hk,List.any_append,hk2];simp;omega⟩)
 rw[List.take_of_length_le om] at hk2
 have hM:Zfl (a,z,l)=false:=by unfold Zfl;rw[hk2];simp;omega
 have hE:ZbU (a,z,l)=if Za3 Zbr a≠0 then Za3 Zbr a else if Za3 Zfm z≠0 then Za3 Zfm z else Za3 ZeT l:=by unfold ZbU;rw[if_neg (by rw[hM];simp)]
 refine ZaD<|Zay<|Zay<|ZaU<|Zae<|Zag<|wr'<|mw<|sn'<|Zam<|?_
 refine w_lp (ι:=Nat) (fun (i2:Nat)=>[(4,iv (i2:Int)),(2,.any),(5,.any)]++rn' 42 16) (fun (i2:Nat)=>[]) (fun (i2:Nat)=>i2≤a.length∧Za3 Zbr a=Za3 Zbr (a.drop i2)) (fun (i2:Nat)=>a.length-i2) (0) (by exact⟨Nat.zero_le _,rfl⟩) ?_
 rintro i2 hi2
 try simp only[sm',Nat.reduceAdd]
 obtain⟨hu1,hu2⟩:=hi2
 refine Zag<|wr'<|mw<|Vw (Zac lk)<|Vw (Zab lk gx gt0)<|Vw (ZaG lk)<|Vw (ZaZ lk lk)<|sn'<|?_
 refine cd' lk (fun hc4=>?_) (fun hc4=>?_)
 ·have hk4:i2<a.length:=by omega
  rw[Zdu hk4] at hu2
  have ho4:=hok.1 _ (List.getElem_mem hk4)
  refine Zad<|Zae<|Zag<|Zam<|wr'<|Vw (Zac lk)<|Vw (Zab lk gx gt0)<|mw<|?_
  refine V' (ZaJ lk lk Zck (nb' rfl) ro om ro rfl) pt ?_
  refine Vw (ZaF lk Zr1 rfl)<|Zaf mp (ZhX (r:=a[i2]) ho4.1 ho4.2) pt<|mw<|sn'<|wr'<|mw<|Vw (Za9 lk lki)<|sn'<|?_
  refine cd' lk (fun hc5=>?_) (fun hc5=>?_)
  ·rw[if_pos hc5] at hu2
   refine wr'<|mw<|mw<|sn'<|Zaa<|Zas<|Zai<|Zai<|Zas<|Zai<|Zah rz<|rT'<|?_
   refine ivx ?_;rw[hE,hu2,if_pos hc5]
  rw[if_neg hc5] at hu2
  refine Zad<|ZaA<|Zae<|Zat<|mw<|?_
  refine V' (Zax lk lki om om) pt ?_
  refine mw<|Zaq<|ZaB<|?_
  refine lT' (i2+1) (by (try dsimp only);exact⟨by omega,hu2⟩)
 rw[List.drop_of_length_le om] at hu2
 rw[hu2,if_neg (by simp[Za3])] at hE
 refine ZaD<|Zay<|Zay<|ZaU<|Zae<|Zag<|wr'<|mw<|sn'<|Zam<|?_
 refine w_lp (ι:=Nat) (fun (i3:Nat)=>[(6,iv (i3:Int)),(2,.any)]++rn' 7 3++rn' 58 45) (fun (i3:Nat)=>[]) (fun (i3:Nat)=>i3≤z.length∧Za3 Zfm z=Za3 Zfm (z.drop i3)) (fun (i3:Nat)=>z.length-i3) (0) (by exact⟨Nat.zero_le _,rfl⟩) ?_
 rintro i3 hi3
 try simp only[sm',Nat.reduceAdd]
 obtain⟨hv1,hv2⟩:=hi3
 refine Zag<|wr'<|mw<|Vw (Zac lk)<|Vw (Zab lk gx gt1)<|Vw (ZaG lk)<|Vw (ZaZ lk lk)<|sn'<|?_
 refine cd' lk (fun hc6=>?_) (fun hc6=>?_)
 ·have hk6:i3<z.length:=by omega
  rw[Zdu hk6] at hv2
  have ho6:=hok.2.1 _ (List.getElem_mem hk6)
  have h8:(z[i3]).2.length≤8:=by have:=List.any_eq_false.1 hk2 _ (List.getElem_mem hk6);simpa using this
  refine Zad<|Zae<|Zag<|Zam<|wr'<|Vw (Zac lk)<|Vw (Zab lk gx gt1)<|mw<|?_
  refine V' (ZaJ lk lk ZbI (nb' rfl) ro om ro rfl) pt ?_
  refine Vw (ZaR lk dp1)<|Vw (Zar lk gt)<|mw<|sn'<|Zag<|wr'<|Vw (Zac lk)<|Vw (Zab lk gx gt1)<|mw<|?_
  refine V' (ZaJ lk lk ZbI (nb' rfl) ro om ro rfl) pt ?_
  refine Vw (ZaR lk dp0)<|Vw (Zar lk gt)<|Zaf mp (Zdr ho6.1) pt<|Vw (ZaC lk)<|mw<|?_
  refine ZaK (t:=79) gt pt pt (fun hg79=>?_) (fun hg79=>?_)
  ·have hZ:Zfm z[i3]=1:=if_pos (.inl (by simpa using hg79))
   refine s_no gt pt<|s_no gt pt<|s_no gt pt<|Vw (Zal lk lkb)<|sn'<|ZaH lk<|wr'<|mw<|sn'<|Zaa<|Zai<|?_
   refine Zas<|Zai<|Zai<|Zas<|Zai<|Zah rz<|rT'<|?_
   refine ivx ?_;rw[hE,hv2,if_pos (by rw[hZ];simp),if_pos (by rw[hZ];simp),hZ]
  refine s_do gt<|mw<|s_do gt<|?_
  refine V' ((by first | exact ZaG lk | exact Zb7 lk)) pt ?_
  refine s_do gt<|Vw (ZaX lk lki)<|Vw (Zak lk lk)<|sn'<|?_
  refine cd' lk (fun hc7=>?_) (fun hc7=>?_)
  ·have hZ:Zfm z[i3]=1:=if_pos (.inr om)
   refine wr'<|mw<|sn'<|Zaa<|Zai<|Zas<|Zai<|Zai<|Zas<|Zai<|Zah rz<|rT'<|?_
   refine ivx ?_;rw[hE,hv2,if_pos (by rw[hZ];simp),if_pos (by rw[hZ];simp),hZ]
  have hZ:Zfm z[i3]=Zg2 z[i3].2:=if_neg (by rintro (h1 | h1);exact h1 (by simpa using hg79);omega)
  refine Zad<|Zae<|wr'<|mw<|sn'<|Zam<|?_
  refine w_lp (ι:=Nat) (fun (i4:Nat)=>[(8,iv (i4:Int)),(2,.any),(9,.any)]++rn' 84 19) (fun (i4:Nat)=>[]) (fun (i4:Nat)=>i4≤(z[i3]).2.length∧Zg2 (z[i3]).2=Zg2 ((z[i3]).2.drop i4)) (fun (i4:Nat)=>(z[i3]).2.length-i4) (0) (by exact⟨Nat.zero_le _,rfl⟩) ?_
  rintro i4 hi4
  try simp only[sm',Nat.reduceAdd]
  obtain⟨hx1,hx2⟩:=hi4
  refine Zag<|wr'<|mw<|mw<|?_
  refine V' ((by first | exact ZaG lk | exact Zb7 lk)) pt ?_
  refine Vw (ZaZ lk lk)<|sn'<|?_
  refine cd' lk (fun hc8=>?_) (fun hc8=>?_)
  ·have hk8:i4<(z[i3]).2.length:=by omega
   rw[Zqe hk8] at hx2
   have ho8:=ho6.2 _ (List.getElem_mem hk8)
   refine Zad<|Zae<|Zag<|Zam<|wr'<|mw<|mw<|?_
   refine V' (ZaJ lk lk Zb5 (nb' rfl) ro om ro rfl) pt ?_
   refine Vw (ZaF lk Zr2 rfl)<|mw<|mw<|?_
   refine V' ((by first | exact ZaG lk | exact Zb7 lk)) pt ?_
   refine V' (Zbm lk lki om om) pt ?_
   refine Vw (ZaX lk lk)<|Zaf mp (Zob (x:=(z[i3]).2[i4]) (last:=decide ((i4:Int)=((z[i3]).2.length:Int)-1)) ho8) pt<|mw<|sn'<|wr'<|mw<|Vw (Za9 lk lki)<|sn'<|?_
   refine cd' lk (fun hc9=>?_) (fun hc9=>?_)
   ·rw[if_pos hc9] at hx2
    refine wr'<|mw<|mw<|sn'<|Zaa<|Zas<|Zai<|Zai<|Zas<|Zas<|Zai<|Zai<|?_
    refine Zas<|Zai<|Zah rz<|rT'<|?_
    refine ivx ?_;rw[hE,hv2,hZ,hx2,if_pos hc9,if_pos hc9]
   rw[if_neg hc9] at hx2
   refine Zad<|ZaA<|Zae<|Zat<|mw<|?_
   refine V' (Zax lk lki om om) pt ?_
   refine mw<|Zaq<|ZaB<|?_
   refine lT' (i4+1) (by (try dsimp only);exact⟨by omega,hx2⟩)
  rw[List.drop_of_length_le om] at hx2
  rw[hZ,hx2,if_neg (by simp[Zg2])] at hv2
  refine ZaD<|Zay<|Zay<|ZaU<|ZaA<|Zae<|Zat<|mw<|?_
  refine V' (Zax lk lki om om) pt ?_
  refine mw<|Zaq<|ZaB<|?_
  refine lT' (i3+1) (by (try dsimp only);exact⟨by omega,hv2⟩)
 rw[List.drop_of_length_le om] at hv2
 rw[hv2,if_neg (by simp[Za3])] at hE
 refine ZaD<|Zay<|Zay<|ZaU<|Zae<|Zag<|wr'<|mw<|sn'<|Zam<|?_
 refine w_lp (ι:=Nat) (fun (i5:Nat)=>[(10,iv (i5:Int)),(2,.any)]++rn' 103 25) (fun (i5:Nat)=>[]) (fun (i5:Nat)=>i5≤l.length∧Za3 ZeT l=Za3 ZeT (l.drop i5)) (fun (i5:Nat)=>l.length-i5) (0) (by exact⟨Nat.zero_le _,rfl⟩) ?_
 rintro i5 hi5
 try simp only[sm',Nat.reduceAdd]
 obtain⟨hy1,hy2⟩:=hi5
 refine Zag<|wr'<|mw<|Vw (Zac lk)<|Vw (Zab lk gx gt2)<|Vw (ZaG lk)<|Vw (ZaZ lk lk)<|sn'<|?_
 refine cd' lk (fun hc10=>?_) (fun hc10=>?_)
 ·have hk10:i5<l.length:=by omega
  rw[Zdu hk10] at hy2
  have ho10:=hok.2.2 _ (List.getElem_mem hk10)
  refine Zad<|Zae<|Zag<|Zam<|wr'<|Vw (Zac lk)<|Vw (Zab lk gx gt2)<|mw<|?_
  refine V' (ZaJ lk lk ZcM (nb' rfl) ro om ro rfl) pt ?_
  refine Vw (ZaR lk dp0)<|Vw (Zar lk gt)<|Zaf mp (Zdr ho10.1) pt<|Vw (ZaC lk)<|mw<|?_
  refine ZaK (t:=118) gt pt pt (fun hg118=>?_) (fun hg118=>?_)
  ·have hK:ZeT l[i5]=1:=by unfold ZeT;simp_all
   refine s_no gt pt<|s_no gt pt<|s_no gt pt<|s_no gt pt<|s_no gt pt<|s_no gt pt<|s_no gt pt<|s_no gt pt<|Vw (Zal lk lkb)<|sn'<|ZaH lk<|wr'<|?_
   refine mw<|sn'<|Zaa<|Zas<|Zai<|Zai<|Zas<|Zai<|Zah rz<|rT'<|?_
   refine ivx ?_;rw[hE,hy2,if_pos (by rw[hK];simp),hK]
  refine s_do gt<|Vw (Zac lk)<|s_do gt<|Vw (Zab lk gx gt2)<|s_do gt<|mw<|s_do gt<|?_
  refine V' (ZaJ lk lk ZcM (nb' rfl) ro om ro rfl) pt ?_
  refine s_do gt<|Vw (ZaR lk dp1)<|s_do gt<|Vw (Zar lk gt)<|s_do gt<|Zaf mp (Zdr ho10.2) pt<|s_do gt<|Vw (ZaC lk)<|Vw (Zak lk lk)<|sn'<|?_
  refine Zaz lk (fun hc11=>?_) (fun hc11=>?_)
  ·have hK:ZeT l[i5]=1:=by unfold ZeT;simp_all
   refine wr'<|mw<|sn'<|Zaa<|Zas<|Zai<|Zai<|Zas<|Zai<|Zah rz<|rT'<|?_
   refine ivx ?_;rw[hE,hy2,if_pos (by rw[hK];simp),hK]
  have hK:ZeT l[i5]=0:=by unfold ZeT;simp_all
  rw[hK,if_neg (by simp)] at hy2
  refine Zad<|ZaA<|Zae<|Zat<|mw<|?_
  refine V' (Zax lk lki om om) pt ?_
  refine mw<|Zaq<|ZaB<|?_
  refine lT' (i5+1) (by (try dsimp only);exact⟨by omega,hy2⟩)
 rw[List.drop_of_length_le om] at hy2
 refine ZaD<|Zay<|Zay<|ZaU<|Zae<|wr'<|mw<|sn'<|Zaa<|Zah rz<|rT'<|?_
 refine ivx ?_;rw[hE,hy2];rfl
end Go.Proofs.YtlekejpogddndaaGreatDoor
end
section
namespace Go.Proofs.YtlekejpogddndaaGreatDoor
open Go.Ab Go.RowKit Civ
attribute [local simp] Zbw Zmk Zeb
section
theorem Zld {a0 a1 a2 a3 a4 a5 a6 a7 a8 a9 a10:AV}{l:List AV}:(a0::a1::a2::a3::a4::a5::a6::a7::a8::a9::a10::l).take 11=[a0,a1,a2,a3,a4,a5,a6,a7,a8,a9,a10]:=rfl
theorem Zd7 {a0 a1 a2:AV}{l:List AV}:(a0::a1::a2::l).take 3=[a0,a1,a2]:=rfl
theorem Zdx { e:Ent}:([]:AH)++[e]=[e]:=rfl
theorem Zsd {e0 d0:Ent}:([e0]:AH)++[d0]=[e0,d0]:=rfl
theorem Zsc {a0 a1 a2 c0 c1 c2:AV}{l:List AV}:setCells (a0::a1::a2::l) 0 [c0,c1,c2]=c0::c1::c2::l:=rfl
theorem Zsb {a0 a1 a2:AV}{l:List AV}:((a0::a1::a2::l).drop 0).take 3=[a0,a1,a2]:=rfl
theorem ZjH {τ:Operand→AV}{y0 y1:Operand}{x0_0 x1_0 x1_1 x1_2 x1_3 x1_4 x1_5 x1_6 x1_7 x1_8 x1_9 x1_10:AV}(h0:Zav (τ y0)=some [x0_0]) (l0:[x0_0].all leaf=true) (h1:Zav (τ y1)=some [x1_0,x1_1,x1_2,x1_3,x1_4,x1_5,x1_6,x1_7,x1_8,x1_9,x1_10]) (l1:[x1_0,x1_1,x1_2,x1_3,x1_4,x1_5,x1_6,x1_7,x1_8,x1_9,x1_10].all leaf=true):Zau τ [(0,1,y0),(1,11,y1)] [(.v (.int .i64 0)),(.v (.string ⟨#[]⟩)),(.v (.int .i64 0)),(.v (.int .i64 0)),(.v (.int .i64 0)),(.v (.int .i64 0)),(.v (.int .i64 0)),(.v (.int .i64 0)),(.v (.int .i64 0)),(.v (.int .i64 0)),(.v (.int .i64 0)),(.v (.string ⟨#[]⟩))]=some [x0_0,x1_0,x1_1,x1_2,x1_3,x1_4,x1_5,x1_6,x1_7,x1_8,x1_9,x1_10]:=by
 simp only[Zau,h0,l0,h1,l1]
 rfl
theorem Zdn {e0 e1 d0:Ent}:([e0,e1]:AH)++[d0]=[e0,e1,d0]:=rfl
theorem Zpj {a0 a1 a2 a3 a4 a5 a6 a7 a8 a9 a10 a11 c0 c1 c2 c3 c4 c5 c6 c7 c8 c9 c10 c11:AV}{l:List AV}:setCells (a0::a1::a2::a3::a4::a5::a6::a7::a8::a9::a10::a11::l) 0 [c0,c1,c2,c3,c4,c5,c6,c7,c8,c9,c10,c11]=c0::c1::c2::c3::c4::c5::c6::c7::c8::c9::c10::c11::l:=rfl
theorem Zpi {a0 a1 a2 a3 a4 a5 a6 a7 a8 a9 a10 a11:AV}{l:List AV}:((a0::a1::a2::a3::a4::a5::a6::a7::a8::a9::a10::a11::l).drop 0).take 12=[a0,a1,a2,a3,a4,a5,a6,a7,a8,a9,a10,a11]:=rfl
theorem ZjG {τ:Operand→AV}{y0:Operand}{x0_0 x0_1 x0_2 x0_3 x0_4 x0_5 x0_6 x0_7 x0_8 x0_9 x0_10 x0_11:AV}(h0:Zav (τ y0)=some [x0_0,x0_1,x0_2,x0_3,x0_4,x0_5,x0_6,x0_7,x0_8,x0_9,x0_10,x0_11]) (l0:[x0_0,x0_1,x0_2,x0_3,x0_4,x0_5,x0_6,x0_7,x0_8,x0_9,x0_10,x0_11].all leaf=true):Zau τ [(0,12,y0)] [(.v (.int .i64 0)),(.v (.string ⟨#[]⟩)),(.v (.int .i64 0)),(.v (.int .i64 0)),(.v (.int .i64 0)),(.v (.int .i64 0)),(.v (.int .i64 0)),(.v (.int .i64 0)),(.v (.int .i64 0)),(.v (.int .i64 0)),(.v (.int .i64 0)),(.v (.string ⟨#[]⟩))]=some [x0_0,x0_1,x0_2,x0_3,x0_4,x0_5,x0_6,x0_7,x0_8,x0_9,x0_10,x0_11]:=by
 simp only[Zau,h0,l0]
 rfl
theorem Zsa {a0 a1 a2 a3 a4 a5 a6 a7 a8 a9 a10 a11:AV}{l:List AV}:(a0::a1::a2::a3::a4::a5::a6::a7::a8::a9::a10::a11::l).take 12=[a0,a1,a2,a3,a4,a5,a6,a7,a8,a9,a10,a11]:=rfl
theorem Zb2 {τ:Operand→AV}{y0 y1 y2:Operand}{x0_0 x1_0 x2_0:AV}(h0:Zav (τ y0)=some [x0_0]) (l0:[x0_0].all leaf=true) (h1:Zav (τ y1)=some [x1_0]) (l1:[x1_0].all leaf=true) (h2:Zav (τ y2)=some [x2_0]) (l2:[x2_0].all leaf=true):Zau τ [(0,1,y0),(1,1,y1),(2,1,y2)] [(.v (.int .i64 0)),(.v (.int .i64 0)),(.v (.string ⟨#[]⟩))]=some [x0_0,x1_0,x2_0]:=by
 simp only[Zau,h0,l0,h1,l1,h2,l2]
 rfl
theorem Zb1 {τ:Operand→AV}{y0:Operand}{x0_0 x0_1 x0_2:AV}(h0:Zav (τ y0)=some [x0_0,x0_1,x0_2]) (l0:[x0_0,x0_1,x0_2].all leaf=true):Zau τ [(0,3,y0)] [(.v (.int .i64 0)),(.v (.int .i64 0)),(.v (.string ⟨#[]⟩))]=some [x0_0,x0_1,x0_2]:=by
 simp only[Zau,h0,l0]
 rfl
end
def c81:AC:=(Sr [Oo 6 (.mv (.const (.slice none 0 0))),Mc 7 0] (.seq (Sr [Mv 22 0,Oo 23 (.len false (.tmp 22)),Bc 24 .gtr 23 40] (Cd 24 (Sr [Oo 6 (.mv (.const (.slice none 0 0))),Mc 7 2] .ret) .skip)) (.seq (Sr [Mc 8 0] (.block 0 (.loop (.seq (Sr [Mv 25 8,Mv 26 0,Oo 27 (.len false (.tmp 26)),Bn 28 .lss 25 27] (Cd 28 .skip (.exit 0))) (.seq (.block 1 (Sr [Mv 31 0,Mv 32 8,Oo 33 (.ia 11 (.tmp 31) (.tmp 32)),Oo 34 (.load true 11 (.tmp 33)),Cl 35 151 [(.tmp 34)],Mv 9 35] (Sr [Mv 36 9,Bc 37 .neq 36 0] (Cd 37 (Sr [Mv 38 9,Oo 6 (.mv (.const (.slice none 0 0))),Mv 7 38] .ret) .skip)))) (.reg [Mv 29 8,Bc 30 .add 29 1,Mv 8 30])))))) (.seq (Sr [Mv 39 2,Cl 40 73 [(.tmp 39),(.const (.int .i64 (-64800))),(Ci 64800)],Oo 41 (.un .not (.tmp 40))] (Cd 41 (Sr [Oo 6 (.mv (.const (.slice none 0 0))),Mc 7 3] .ret) .skip)) (Sr [Mb 10 false] (Sr [Oo 11 (.mv (.const (.slice none 0 0)))] (.seq (Sr [Mc 12 1900] (.block 2 (.loop (.seq (Sr [Mv 42 12,Bc 43 .leq 42 2100] (Cd 43 .skip (.exit 2))) (.seq (.block 3 (Sr [Mc 13 0] (.block 4 (.loop (.seq (Sr [Mv 46 13,Mv 47 0,Oo 48 (.len false (.tmp 47)),Bn 49 .lss 46 48] (Cd 49 .skip (.exit 4))) (.seq (.block 5 (.seq (Sr [Mv 52 0,Mv 53 13,Oo 54 (.ia 11 (.tmp 52) (.tmp 53)),Fa 55 0 54,Ld 56 55,Mv 57 1,Bn 58 .neq 56 57] (Cd 58 (.exit 5) .skip)) (Sr [Mb 10 true] (.seq (Sd [Mv 59 12,Mv 60 0,Mv 61 13,Oo 62 (.ia 11 (.tmp 60) (.tmp 61)),Fa 63 1 62,Ld 64 63,Mv 65 0,Mv 66 13,Oo 67 (.ia 11 (.tmp 65) (.tmp 66)),Fa 68 2 67,Ld 69 68,Cl 70 73 [(.tmp 59),(.tmp 64),(.tmp 69)],Oo 71 (.un .not (.tmp 70))] (Cd 71 (.exit 5) .skip)) (.seq (.drw [Mv 73 12,Mv 74 0,Mv 75 13,Oo 76 (.ia 11 (.tmp 74) (.tmp 75)),Fa 77 3 76,Ld 78 77,Mv 79 0,Mv 80 13,Oo 81 (.ia 11 (.tmp 79) (.tmp 80)),Fa 82 4 81,Oo 83 (.load true 3 (.tmp 82)),Cl 84 153 [(.tmp 73),(.tmp 78),(.tmp 83)],Mv 72 84,Ex 85 72 0,Ex 86 72 1,Oo 14 (.new 59 3 [(iv 0),(iv 0),(iv 0)])] [false,false] [⟨none,none,(.store 3 (.tmp 14) (.tmp 85))⟩,Mv 15 86]) (.seq (.drw [Oo 87 (.load true 3 (.tmp 14)),Cl 88 149 [(.tmp 87)],Bc 89 .mul 88 86400,Mv 90 0,Mv 91 13,Oo 92 (.ia 11 (.tmp 90) (.tmp 91)),Fa 93 7 92,Ld 94 93,Bn 95 .add 89 94,Mv 96 0,Mv 97 13,Oo 98 (.ia 11 (.tmp 96) (.tmp 97)),Oo 99 (.load true 11 (.tmp 98)),Oo 100 (.build [(iv 0),Ss,(iv 0),(iv 0),(iv 0),(iv 0),(iv 0),(iv 0),(iv 0),(iv 0),(iv 0),Ss] [(0,(1,(.tmp 95))),(1,(11,(.tmp 99)))]),Oo 16 (.new 203 12 [(iv 0),Ss,(iv 0),(iv 0),(iv 0),(iv 0),(iv 0),(iv 0),(iv 0),(iv 0),(iv 0),Ss])] [false] [⟨none,none,(.store 12 (.tmp 16) (.tmp 100))⟩]) (Sr [Mv 101 11,Oo 102 (.load true 12 (.tmp 16)),Oo 103 (.lit 203 12 1 [(iv 0),Ss,(iv 0),(iv 0),(iv 0),(iv 0),(iv 0),(iv 0),(iv 0),(iv 0),(iv 0),Ss] [(0,(12,(.tmp 102)))]),Oo 104 (.app 203 12 112 (.tmp 101) (.tmp 103)),Mv 11 104] (Sr [Mv 105 11,Oo 106 (.len false (.tmp 105)),Bc 107 .sub 106 1,Mv 17 107] (.block 6 (.loop (.seq (Sd [Mv 108 17,Bc 109 .gtr 108 0,Mv 110 109,Ot 111 110 (mt 11),Ot 112 110 (mt 17),Ot 113 110 (.bin .sub (.tmp 112) (Ci 1)),Ot 114 110 (.ia 12 (.tmp 111) (.tmp 113)),Ot 115 110 (.fa 0 (.tmp 114)),Ot 116 110 (.load false 1 (.tmp 115)),Ot 117 110 (.fa 0 (.tmp 16)),Ot 118 110 (.load false 1 (.tmp 117)),Ot 119 110 (.bin .gtr (.tmp 116) (.tmp 118)),Oo 120 (.pick (.tmp 110) (.tmp 119) (.const (.bool false)))] (Cd 120 .skip (.exit 6))) (.seq (.block 7 (.drw [Mv 123 11,Mv 124 17,Mv 125 11,Mv 126 17,Bc 127 .sub 126 1,Mv 128 11,Mv 129 17,Bc 130 .sub 129 1,Oo 131 (.ia 12 (.tmp 128) (.tmp 130)),Oo 132 (.load true 12 (.tmp 131)),Mv 133 11,Mv 134 17,Oo 135 (.ia 12 (.tmp 133) (.tmp 134)),Oo 136 (.load true 12 (.tmp 135)),Oo 137 (.ia 12 (.tmp 123) (.tmp 124))] [false,false,false] [⟨none,none,(.store 12 (.tmp 137) (.tmp 132))⟩,Oo 138 (.ia 12 (.tmp 125) (.tmp 127)),⟨none,none,(.store 12 (.tmp 138) (.tmp 136))⟩])) (.reg [Mv 121 17,Bc 122 .sub 121 1,Mv 17 122]))))))))))))) (.reg [Mv 50 13,Bc 51 .add 50 1,Mv 13 51]))))))) (.reg [Mv 44 12,Bc 45 .add 44 1,Mv 12 45])))))) (.seq (Sr [Mv 139 10,Oo 140 (.un .not (.tmp 139))] (Cd 140 (Sr [Oo 6 (.mv (.const (.slice none 0 0))),Mc 7 5] .ret) .skip)) (Sr [Oo 18 (.mv (.const (.slice none 0 0)))] (.seq (Sr [Mc 19 0] (.block 8 (.loop (.seq (Sr [Mv 141 19,Mv 142 11,Oo 143 (.len false (.tmp 142)),Bn 144 .lss 141 143] (Cd 144 .skip (.exit 8))) (.seq (.block 9 (Sr [Mv 147 11,Mv 148 19,Oo 149 (.ia 12 (.tmp 147) (.tmp 148)),Fa 150 0 149,Ld 151 150,Mv 20 151,Mc 21 0] (.seq (Sr [Mv 152 19,Bc 153 .gtr 152 0] (Cd 153 (.seq (Sr [Mv 154 20,Mv 155 11,Mv 156 19,Bc 157 .sub 156 1,Oo 158 (.ia 12 (.tmp 155) (.tmp 157)),Fa 159 0 158,Ld 160 159,Bn 161 .sub 154 160,Bc 162 .lss 161 172800] (Cd 162 (Sr [Oo 6 (.mv (.const (.slice none 0 0))),Mc 7 4] .ret) .skip)) (.reg [Mv 163 11,Mv 164 19,Bc 165 .sub 164 1,Oo 166 (.ia 12 (.tmp 163) (.tmp 165)),Fa 167 1 166,Fa 168 9 167,Ld 169 168,Mv 21 169])) .skip)) (.seq (Sr [Mv 170 11,Mv 171 19,Oo 172 (.ia 12 (.tmp 170) (.tmp 171)),Fa 173 1 172,Fa 174 8 173,Ld 175 174] (.block 10 (Sr [Bc 177 .eql 175 1,Mv 176 177] (Cd 176 (.reg [Mv 178 20,Mv 179 2,Mv 180 21,Bn 181 .add 179 180,Bn 182 .sub 178 181,Mv 20 182]) (Sr [Bc 184 .eql 175 2,Mv 183 184] (Cd 183 (.reg [Mv 185 20,Mv 186 2,Bn 187 .sub 185 186,Mv 20 187]) .skip)))))) (.drw [Mv 188 18,Mv 189 20,Mv 190 11,Mv 191 19,Oo 192 (.ia 12 (.tmp 190) (.tmp 191)),Fa 193 1 192,Fa 194 9 193,Ld 195 194,Mv 196 11,Mv 197 19,Oo 198 (.ia 12 (.tmp 196) (.tmp 197)),Fa 199 1 198,Fa 200 10 199,Ld 201 200,Oo 202 (.build [(iv 0),(iv 0),Ss] [(0,(1,(.tmp 189))),(1,(1,(.tmp 195))),(2,(1,(.tmp 201)))]),Oo 203 (.lit 136 3 1 [(iv 0),(iv 0),Ss] [(0,(3,(.tmp 202)))])] [false,false] [Oo 204 (.app 136 3 32 (.tmp 188) (.tmp 203)),Mv 18 204]))))) (.reg [Mv 145 19,Bc 146 .add 145 1,Mv 19 146])))))) (.seq (Sr [Mv 205 18,Oo 206 (.len false (.tmp 205)),Bc 207 .gtr 206 1000] (Cd 207 (Sr [Oo 6 (.mv (.const (.slice none 0 0))),Mc 7 2] .ret) .skip)) (Sr [Mv 208 18,Mv 6 208,Mc 7 0] .ret))))))))))))
theorem k81:ZaE Tryz.prog 81=some ⟨c81,[(.tmp 6),(.tmp 7)],209⟩:=by kernel_rfl
theorem ron_r {r:Rul}{y:Int}{h:AH}(hr:Zbr r=0) (hy:1900≤y∧y≤2100):Ac 153 [iv y,iv r.2.2.2.1,.agg [iv r.2.2.2.2.1.1,iv r.2.2.2.2.1.2.1,iv r.2.2.2.2.1.2.2]] h (.tup [.agg [iv (Zbu (rDy r y)).1,iv (Zbu (rDy r y)).2.1,iv (Zbu (rDy r y)).2.2],iv 0]):=by
 have:=ron_a (y:=y) (m:=r.2.2.2.1) (k:=r.2.2.2.2.1.1) (wk:=r.2.2.2.2.1.2.1) (n:=r.2.2.2.2.1.2.2) (h:=h)
 rw[(ZiY hr hy).1] at this
 exact this
theorem rnum_r {k:Int}{h:AH}(hk : -30000≤k∧k≤50000):Ac 149 [.agg [iv (Zbu k).1,iv (Zbu k).2.1,iv (Zbu k).2.2]] h (iv k):=by
 obtain⟨h1,h2⟩:=Zgs (days:=k) om om
 have hd:=Zcd.1 h1
 have hm:=ZdE (Zbu k).1 (Zbu k).2.1
 have:=Zds (y:=(Zbu k).1) (m:=(Zbu k).2.1) (d:=(Zbu k).2.2) (h:=h) om om om om om om
 rwa [h2] at this
def refT (l:List Rul) (nm:ByteArray) (Y i:Nat):List Trn:=((Zb3 1900 2100).take Y).flatMap (yrT l nm)++yrT (l.take i) nm (1900+(Y:Int))
def thB (l:List Rul) (nm:ByteArray) (Y i:Nat):Bool:=(decide (0<Y)&&l.any fun r=>decide (r.1=nm))||(l.take i).any fun r=>decide (r.1=nm)
theorem Zpo {l:List Rul}{i:Nat}(hi:i<l.length) (nm:ByteArray) (y:Int):yrT (l.take (i+1)) nm y=yrT (l.take i) nm y++(if l[i].1=nm∧wi y (rFr l[i]) (rTo l[i])=true then [(ZdH l[i] y,l[i])] else []):=by
 unfold yrT
 rw[List.take_succ_eq_append_getElem hi,List.flatMap_append,List.flatMap_cons,List.flatMap_nil,List.append_nil]
theorem Ztl {l:List Rul}{nm:ByteArray}{Y i:Nat}(hi:i<l.length) (h:¬(l[i].1=nm∧wi (1900+(Y:Int)) (rFr l[i]) (rTo l[i])=true)):refT l nm Y (i+1)=refT l nm Y i:=by
 unfold refT;rw[Zpo hi,if_neg h,List.append_nil]
theorem refT_yes {l:List Rul}{nm:ByteArray}{Y i:Nat}(hi:i<l.length) (h:l[i].1=nm∧wi (1900+(Y:Int)) (rFr l[i]) (rTo l[i])=true):refT l nm Y (i+1)=refT l nm Y i++[(ZdH l[i] (1900+(Y:Int)),l[i])]:=by
 unfold refT;rw[Zpo hi,if_pos h,List.append_assoc]
theorem Ztk {l:List Rul}{nm:ByteArray}{Y i:Nat}(hY:Y<201) (hi:l.length≤i):refT l nm Y i=refT l nm (Y+1) 0:=by
 unfold refT
 have hl:Y<(Zb3 1900 2100).length:=by rw[Zc4];omega
 rw[List.take_of_length_le hi,List.take_succ_eq_append_getElem hl,List.flatMap_append]
 simp[Zb3,yrT]
theorem refT_all {l:List Rul}{nm:ByteArray}:refT l nm 201 0=(Zb3 1900 2100).flatMap (yrT l nm):=by
 unfold refT
 rw[List.take_of_length_le (by rw[Zc4];omega)]
 simp[yrT]
theorem ZqS {l:List Rul}{nm:ByteArray}:refT l nm 0 0=[]:=by simp[refT,yrT]
theorem thB_no {l:List Rul}{nm:ByteArray}{Y i:Nat}(hi:i<l.length) (h:l[i].1≠nm):thB l nm Y (i+1)=thB l nm Y i:=by
 unfold thB;rw[List.take_succ_eq_append_getElem hi,List.any_append];simp[h]
theorem Zn0 {l:List Rul}{nm:ByteArray}{Y i:Nat}(hi:i<l.length) (h:l[i].1=nm):thB l nm Y (i+1)=true:=by
 unfold thB;rw[List.take_succ_eq_append_getElem hi,List.any_append];simp[h]
theorem thB_year {l:List Rul}{nm:ByteArray}{Y i:Nat}(hi:l.length≤i):thB l nm Y i=thB l nm (Y+1) 0:=by
 unfold thB
 rw[List.take_of_length_le hi]
 cases l.any fun r=>decide (r.1=nm) <;> simp
theorem ZsL {l:List Rul}{nm:ByteArray}:thB l nm 201 0=l.any fun r=>decide (r.1=nm):=by simp[thB]
theorem refT_len {l:List Rul}{nm:ByteArray}{Y i:Nat}(hl:l.length≤40) (hY:Y≤201):(refT l nm Y i).length≤10000:=by
 have h1 : ∀ (l:List Rul) (y:Int),(yrT l nm y).length≤l.length:=by
  intro l y
  induction l with
  | nil=>simp[yrT]
  | cons r l ih =>
   unfold yrT at ih ⊢
   rw[List.flatMap_cons,List.length_append,List.length_cons]
   split
   ·simp only[List.length_singleton];omega
   simp only[List.length_nil];omega
 have h2 : ∀ (ys:List Int),(ys.flatMap (yrT l nm)).length≤40*ys.length:=by
  intro ys
  induction ys with
  | nil=>simp
  | cons y ys ih =>
   rw[List.flatMap_cons,List.length_append,List.length_cons]
   have:=h1 l y
   omega
 unfold refT
 rw[List.length_append]
 have a:=h2 ((Zb3 1900 2100).take Y)
 have b:=h1 (l.take i) (1900+(Y:Int))
 rw[List.length_take] at a b
 omega
def leT (a b:Trn):Prop:=a.1≤b.1
theorem leT_tot (a b:Trn):leT a b∨leT b a:=by unfold leT;omega
theorem leT_tr (a b c:Trn):leT a b→leT b c→leT a c:=by unfold leT;omega
theorem svAt_pre {l:List Trn}{i:Nat}(h0:0<i) (h:i-1<l.length):svAt l i=(l[i-1]).2.2.2.2.2.2.2.2.1:=by
 obtain⟨j,rfl⟩ : ∃ j,i=j+1:=⟨i-1,by omega⟩
 exact ZgL h
theorem gapB_pr2 {l:List Trn}{i:Nat}(h:i<l.length) (h0:0<i) (hg:l[i].1-(l[i-1]'(by omega)).1<172800):gapB l=true:=by
 obtain⟨i,rfl⟩ : ∃ i0,i=i0+1:=⟨i-1,by omega⟩
 exact Zm9 h hg
theorem gap_ok2 {S:List Trn}{i:Nat}(hi : ∀ j (h:j+1<S.length),j+1<i→172800≤S[j+1].1-S[j].1) (hl:S.length≤i):gapB S=false:=(Zir S).2 fun j h=>hi j h om
theorem ZpJ {l:List Rul}{nm:ByteArray}{sh:Int}{h:AH}(hok:okRs l) (hl:l.length≤9223372036854775807) :
  Ac 81 [.sl l.length 11 false (rows rulC l),sv nm,iv sh] h (.tup [.sl (Zbe l nm sh).1.length 3 false (rows timC (Zbe l nm sh).1),iv (Zbe l nm sh).2]):=by
 have hll:=hl
 have hE:ZdI l nm sh=if 40<l.length then 2 else if Za3 Zbr l≠0 then Za3 Zbr l else if sh < -64800∨sh>64800 then 3 else if l.any (fun r=>decide (r.1=nm))=false then 5 else 0:=rfl
 refine tW' k81 fun N hn hlt hlA hbd=>?_
 simp only[tb'] at hbd ⊢
 refine wr'<|mw<|mw<|sn'<|Zag<|wr'<|mw<|Vw (ZaG lk)<|Vw (Zbz lk lki)<|sn'<|?_
 refine cd' lk (fun hc1=>?_) (fun hc1=>?_)
 ·rw[if_pos om] at hE
  refine wr'<|mw<|mw<|sn'<|Zaa<|Zai<|Zah ry<|rtW'<|?_
  rw[Zes (by rw[hE];decide),hE];exact Wk.tup (wkw Wk.nilF (wk1 rfl wk0))
 rw[if_neg om] at hE
 refine Zad<|Zae<|Zag<|wr'<|mw<|sn'<|Zam<|?_
 refine w_lp (ι:=Nat) (fun (k:Nat)=>[(8,iv (k:Int)),(6,.any),(7,.any),(9,.any)]++rn' 25 14) (fun (k:Nat)=>[]) (fun (k:Nat)=>k≤l.length∧Za3 Zbr l=Za3 Zbr (l.drop k)) (fun (k:Nat)=>l.length-k) (0) (by exact⟨Nat.zero_le _,rfl⟩) ?_
 rintro k hi1
 try simp only[sm',Nat.reduceAdd]
 obtain⟨hk1,hk2⟩:=hi1
 refine Zag<|wr'<|mw<|mw<|Vw (ZaG lk)<|Vw (ZaZ lk lk)<|sn'<|?_
 refine cd' lk (fun hc2=>?_) (fun hc2=>?_)
 ·have hk:k<l.length:=by omega
  have ho:=hok _ (List.getElem_mem hk)
  rw[Zdu hk] at hk2
  refine Zad<|Zae<|Zag<|Zam<|wr'<|mw<|mw<|?_
  refine V' (ZaJ lk lk Zck (nb' rfl) ro om ro rfl) pt ?_
  refine Vw (ZaF lk Zld rfl)<|Zaf mp (ZhX (r:=l[k]) ho.1 ho.2) pt<|mw<|sn'<|wr'<|mw<|Vw (Za9 lk lki)<|sn'<|?_
  refine cd' lk (fun hc3=>?_) (fun hc3=>?_)
  ·have hc3':Zbr l[k]≠0:=hc3
   rw[if_pos hc3'] at hk2
   rw[if_pos (by rw[hk2];exact hc3'),hk2] at hE
   refine wr'<|mw<|mw<|mw<|sn'<|Zaa<|Zas<|Zai<|Zai<|Zas<|Zai<|Zah ry<|?_
   refine rtW' ?_
   rw[Zes (by rw[hE];exact hc3'),hE];exact Wk.tup (wkw Wk.nilF (wk1 rfl wk0))
  have hc3':¬Zbr l[k]≠0:=hc3
  rw[if_neg hc3'] at hk2
  refine Zad<|ZaA<|Zae<|Zat<|mw<|?_
  refine V' (Zax lk lki om om) pt ?_
  refine mw<|Zaq<|ZaB<|?_
  refine lT' (k+1) (by (try dsimp only);exact⟨by omega,hk2⟩)
 rw[List.drop_of_length_le om] at hk2
 have hfr:Za3 Zbr l=0:=by rw[hk2];rfl
 rw[if_neg (by rw[hfr];simp)] at hE
 have hok2:=Zdh hfr
 refine ZaD<|Zay<|Zay<|ZaU<|Zae<|Zag<|wr'<|mw<|Zaf mp (ZbK) pt<|Vw (ZaC lk)<|sn'<|?_
 refine Zaz lk (fun hc4=>?_) (fun hc4=>?_)
 ·rw[if_pos (by have:=hc4;simp only[Bool.not_eq_true',Zct] at this;omega)] at hE
  refine wr'<|mw<|mw<|sn'<|Zaa<|Zai<|Zah ry<|rtW'<|?_
  rw[Zes (by rw[hE];decide),hE];exact Wk.tup (wkw Wk.nilF (wk1 rfl wk0))
 have hsh : -64800≤sh∧sh≤64800:=by have:=hc4;simp only[Bool.not_eq_false',ZbH] at this;exact this
 rw[if_neg om] at hE
 refine Zad<|Zae<|wr'<|mv' lkb pt10<|sn'<|wr'<|mv' lkn pt11<|Zaq<|Za1 (ALe.own0' (st':=12) (ty:=203) gt11 (hl0 hn) pt11 ha0)<|Zag<|Zag<|?_
 refine Zat<|mw<|sn'<|Zam<|?_
 refine w_lp (ι:=Nat×List Trn×Nat) (fun (x_:Nat×List Trn×Nat)=>match x_ with | ⟨Y,S,v⟩=>[(10,bv (thB l nm Y 0)),(11,.own (N+0) v S.length),(12,iv (1900+(Y:Int)))]++rn' 13 5++rn' 42 97) (fun (x_:Nat×List Trn×Nat)=>match x_ with | ⟨Y,S,v⟩=>[(0,.mk v 203 12 (rows trnC S))]) (fun (x_:Nat×List Trn×Nat)=>match x_ with | ⟨Y,S,v⟩=>Y≤201∧S.Perm (refT l nm Y 0)∧S.Pairwise leT) (fun (x_:Nat×List Trn×Nat)=>match x_ with | ⟨Y,S,v⟩=>201-Y) (⟨0,[],0⟩) (by exact⟨by omega,by rw[ZqS],.nil⟩) ?_
 rintro⟨Y,S,v⟩ hi2
 try simp only[sm',Nat.reduceAdd]
 obtain⟨hY1,hY2,hY3⟩:=hi2
 refine Zag<|wr'<|mw<|Vw (Zc0 lk lki)<|sn'<|?_
 refine cd' lk (fun hc5=>?_) (fun hc5=>?_)
 ·have hY:Y<201:=by omega
  refine Zad<|Zae<|Zag<|Zam<|wr'<|mw<|sn'<|Zam<|?_
  refine w_lp (ι:=Nat×List Trn×Nat) (fun (x_:Nat×List Trn×Nat)=>match x_ with | ⟨i,S,v⟩=>[(10,bv (thB l nm Y i)),(11,.own (N+0) v S.length),(13,iv (i:Int))]++rn' 14 4++rn' 46 93) (fun (x_:Nat×List Trn×Nat)=>match x_ with | ⟨i,S,v⟩=>[(0,.mk v 203 12 (rows trnC S))]) (fun (x_:Nat×List Trn×Nat)=>match x_ with | ⟨i,S,v⟩=>i≤l.length∧S.Perm (refT l nm Y i)∧S.Pairwise leT) (fun (x_:Nat×List Trn×Nat)=>match x_ with | ⟨i,S,v⟩=>l.length-i) (⟨0,S,v⟩) (by exact⟨Nat.zero_le _,hY2,hY3⟩) ?_
  rintro⟨i,S,v⟩ hi3
  try simp only[sm',Nat.reduceAdd]
  obtain⟨hj1,hj2,hj3⟩:=hi3
  refine Zag<|wr'<|mw<|mw<|Vw (ZaG lk)<|Vw (ZaZ lk lk)<|sn'<|?_
  refine cd' lk (fun hc6=>?_) (fun hc6=>?_)
  ·have hi:i<l.length:=by omega
   have hr:=hok2 _ (List.getElem_mem hi)
   refine Zad<|Zae<|Zag<|Zam<|Zag<|wr'<|mw<|mw<|?_
   refine V' (ZaJ lk lk Zck (nb' rfl) ro om ro rfl) pt ?_
   refine Vw (ZaR lk dp0)<|Vw (Zar lk gt)<|mw<|Vw (ZcF lk lk)<|sn'<|?_
   refine cd' lk (fun hc7=>?_) (fun hc7=>?_)
   ·refine ZaD<|Zay<|ZaU<|Zae<|Zat<|mw<|?_
    refine V' (Zax lk lki om om) pt ?_
    refine mw<|Zaq<|ZaB<|?_
    refine lU' (⟨i+1,S,v⟩) (by (try dsimp only);exact⟨by omega,by rw[Ztl hi (fun h=>hc7 h.1)];exact hj2,hj3⟩) (by (try dsimp only);(try simp only[sm',Nat.reduceAdd]);exact ALe.same (by repeat (first | exact wk0 | refine wka ?_ | refine wk1 rfl ?_ | refine wk1 (by first | rfl | exact ivx om | (rw[thB_no hi hc7])) ?_)) rfl)
   have hnm:l[i].1=nm:=Decidable.of_not_not hc7
   refine Zad<|Zae<|wr'<|mw<|sn'<|Zag<|Zag<|Za2<|Dw (v_mv lk)<|Dw (v_mv lk)<|Dw (v_mv lk)<|?_
   refine D' (ZaJ lk lk Zck (nb' rfl) ro om ro rfl) pt ?_
   refine Dw (ZaR lk dp1)<|Dw (Zar lk gt)<|Dw (v_mv lk)<|Dw (v_mv lk)<|?_
   refine D' (ZaJ lk lk Zck (nb' rfl) ro om ro rfl) pt ?_
   refine Dw (ZaR lk dp2)<|Dw (Zar lk gt)<|?_
   refine ZaV mp (fun hE hX=>ZbK) pt ?_
   refine Dw (ZaC lk)<|Za8<|?_
   refine Zby ?_
   refine sn' ?_
   refine Zaz lk (fun hc8=>?_) (fun hc8=>?_)
   ·have hw:¬wi (1900+(Y:Int)) l[i].2.1 l[i].2.2.1=true:=by have:=hc8;rw[Bool.not_eq_true'] at this;rw[this];simp
    refine ZaD<|Zay<|ZaU<|Zae<|Zat<|mw<|?_
    refine V' (Zax lk lki om om) pt ?_
    refine mw<|Zaq<|ZaB<|?_
    refine lU' (⟨i+1,S,v⟩) (by (try dsimp only);exact⟨by omega,by rw[Ztl hi (fun h=>hw h.2)];exact hj2,hj3⟩) (by (try dsimp only);(try simp only[sm',Nat.reduceAdd]);exact ALe.same (by repeat (first | exact wk0 | refine wka ?_ | refine wk1 rfl ?_ | refine wk1 (by first | rfl | exact ivx om | (rw[Zn0 hi hnm]) | (simp;done)) ?_)) rfl)
   have hw:wi (1900+(Y:Int)) l[i].2.1 l[i].2.2.1=true:=by have:=hc8;rwa [Bool.not_eq_false'] at this
   obtain⟨hr1,hr2,hr3⟩:1900≤l[i].2.1∧l[i].2.1≤l[i].2.2.1∧l[i].2.2.1≤2100:=⟨(ZbV hr).1,(ZbV hr).2.1,(ZbV hr).2.2.1⟩
   have hwb:=ZbH.1 hw
   have hy:1900≤1900+(Y:Int)∧1900+(Y:Int)≤2100:=by omega
   obtain⟨hd1,hd2⟩:=ZiY hr hy
   have ha6:0≤l[i].2.2.2.2.2.1∧l[i].2.2.2.2.2.1≤172800:=(ZbV hr).2.2.2.2.2.1
   have hlenS:=hj2.length_eq
   have hlen2:=refT_len (nm:=nm) (Y:=Y) (i:=i) (show l.length≤40 by omega) (show Y≤201 by omega)
   have hpS:(S++[((ZdH l[i] (1900+(Y:Int)),l[i]):Trn)]).Perm (refT l nm Y (i+1)):=by rw[refT_yes hi ⟨hnm,hw⟩];exact hj2.append_right _
   refine Zad<|Zae<|Zag<|Za2<|Dw (v_mv lk)<|Dw (v_mv lk)<|Dw (v_mv lk)<|?_
   refine D' (ZaJ lk lk Zck (nb' rfl) ro om ro rfl) pt ?_
   refine Dw (ZaR lk dp3)<|Dw (Zar lk gt)<|Dw (v_mv lk)<|Dw (v_mv lk)<|?_
   refine D' (ZaJ lk lk Zck (nb' rfl) ro om ro rfl) pt ?_
   refine Dw (ZaR lk dp4)<|Dw (ZaF lk Zd7 rfl)<|?_
   refine ZaV mp (fun hE hX=>ron_r hr hy) pt ?_
   refine Dw (v_mv lk)<|Dw (Zbi lk gt)<|Dw (Zbi lk gt)<|Zep rfl rfl (hlk hn rfl) (Zoq) pt Zdx<|Za8<|?_
   refine Zez Zsd ?_
   refine E' (Zaj lk cv gx rfl (nb' rfl) rfl Zsc (hs1 hn)) ptn<|mw<|sn'<|Zag<|Za2<|Dw (Zao lk gx Zsb rfl)<|?_
   refine ZaV mp (fun hE hX=>rnum_r hd2) pt ?_
   refine D' (Zer lk lki om om) pt ?_
   refine Dw (v_mv lk)<|Dw (v_mv lk)<|?_
   refine D' (ZaJ lk lk Zck (nb' rfl) ro om ro rfl) pt ?_
   refine Dw (ZaR lk dp7)<|Dw (Zar lk gt)<|?_
   refine D' (Zax lk lk om om) pt ?_
   refine Dw (v_mv lk)<|Dw (v_mv lk)<|?_
   refine D' (ZaJ lk lk Zck (nb' rfl) ro om ro rfl) pt ?_
   refine Dw (ZaF lk Zld rfl)<|Dw (Zaw (ZjH cv rfl cv rfl))<|Zep rfl rfl (hlk hn rfl) (Zoq) pt Zdx<|Za8<|?_
   refine Zez Zdn ?_
   refine E' (Zaj lk cv gx rfl (nb' rfl) rfl Zpj (hs2 hn)) ptn<|sn'<|wr'<|mw<|Vw (Zao lk gx Zpi rfl)<|E' (Zda (ZjG cv rfl) (hl3 hn) ha3) pt<|?_
   refine E' (Zce (ZbF lk gx rfl Zsa (nb' rfl)) lk gx (ZsA _) om rfl (hs0 hn)) pt ?_
   refine mw<|sn'<|wr'<|mw<|Vw (Zb7 lk)<|?_
   refine V' (Zbm lk lki om om) pt ?_
   refine mw<|sn'<|Zam<|?_
   refine Zeq (ι:=Nat×List Trn) (fun (x_:Nat×List Trn)=>match x_ with | ⟨k,M⟩=>[(11,.own (N+0) (v+1) M.length),(17,iv (k:Int))]++rn' 108 31) (fun (x_:Nat×List Trn)=>match x_ with | ⟨k,M⟩=>[(0,.mk (v+1) 203 12 (rows trnC M))]) (fun (x_:Nat×List Trn)=>match x_ with | ⟨k,M⟩=>k≤S.length∧M.Perm (S++[((ZdH l[i] (1900+(Y:Int)),l[i]):Trn)])∧insR leT S.length k M∧M[k]?=some ((ZdH l[i] (1900+(Y:Int)),l[i]):Trn)) (fun (x_:Nat×List Trn)=>match x_ with | ⟨k,M⟩=>k) (⟨S.length,S++[((ZdH l[i] (1900+(Y:Int)),l[i]):Trn)]⟩) (by exact⟨Nat.le_refl _,List.Perm.refl _,Zkr (by simp) (by simpa using hj3),by simp⟩) (by try simp only[sm',Nat.reduceAdd];exact ALe.same (by repeat (first | exact wk0 | refine wka ?_ | refine wk1 rfl ?_ | refine wk1 (by first | rfl | exact ivx (by simp) | exact ivx (by simp;omega) | (simp;done)) ?_)) (by simp only[ZaO,Za5];rfl)) ?_
   rintro⟨k,M⟩ hi4
   try simp only[sm',Nat.reduceAdd]
   obtain⟨hk1,hk2,hk3,hk4⟩:=hi4
   have hkl:=hk2.length_eq
   simp only[List.length_append,List.length_singleton] at hkl
   refine Zag<|Zag<|Za2<|Dw (v_mv lk)<|Dw (Zbz lk lki)<|Dw (v_mv lk)<|?_
   refine dq' (t:=110) gt pt pt (fun hg110=>?_) (fun hg110=>?_)
   ·obtain⟨j,rfl⟩ : ∃ j,k=j+1:=⟨k-1,by omega⟩
    have hz3:j+1<M.length:=by omega
    have hMk:M[j+1]=((ZdH l[i] (1900+(Y:Int)),l[i]):Trn):=by rw[List.getElem?_eq_getElem hz3] at hk4;exact Option.some.inj hk4
    refine d_do gt<|Dw (v_mv lk)<|d_do gt<|Dw (v_mv lk)<|d_do gt<|?_
    refine D' (Zbm lk lki om om) pt ?_
    refine d_do gt ?_
    refine D' (Zbq (k:=j) lk lk gx ZaL (nb' rfl) ro om (by first | rfl | (simp;done) | omega)) pt ?_
    refine d_do gt<|Dw (Zbl lk)<|d_do gt<|?_
    refine D' (Zc7 lk gx ZaL om (nb' rfl) gt0) pt ?_
    refine d_do gt<|Dw (Zac lk)<|d_do gt<|Dw (Zab lk gx gt0)<|d_do gt<|Dw (Zbz lk lk)<|Dw (Zal lk lk)<|Za8<|?_
    refine Zby ?_
    refine sn' ?_
    refine cd' lk (fun hc9=>?_) (fun hc9=>?_)
    ·have hz6:¬leT M[j] M[j+1]:=by rw[hMk];intro hle;have hle:(M[j]).1≤rDy l[i] (1900+(Y:Int))*86400+l[i].2.2.2.2.2.1:=hle;omega
     obtain⟨hz4,hz5⟩:=Zm6 leT_tot hk3 hz3 hz6
     refine Zad<|Zae<|Zag<|Zam<|Za2<|Dw (v_mv lk)<|Dw (v_mv lk)<|Dw (v_mv lk)<|Dw (v_mv lk)<|?_
     refine D' (Zbm lk lki om om) pt ?_
     refine Dw (v_mv lk)<|Dw (v_mv lk)<|?_
     refine D' (Zbm lk lki om om) pt ?_
     refine D' (Zbq (k:=j) lk lk gx ZaL (nb' rfl) ro om (by first | rfl | (simp;done) | omega)) pt ?_
     refine D' (Zsw lk gx ZaL om rfl) pt ?_
     refine Dw (v_mv lk)<|Dw (v_mv lk)<|?_
     refine D' (Zbq (k:=j+1) lk lk gx ZaL (nb' rfl) ro om (by first | rfl | (simp;done) | omega)) pt ?_
     refine D' (Zsw lk gx ZaL om rfl) pt ?_
     refine D' (Zbq (k:=j+1) lk lk gx ZaL (nb' rfl) ro om (by first | rfl | (simp;done) | omega)) pt ?_
     refine Za8 ?_
     refine Zby ?_
     refine E' (Znf (z:=M[j]) lk cv gx ZaL rfl om (hs0 hn)) ptn ?_
     refine V' (Zbq (k:=j) lk lk gx ZaL (nb' rfl) (by first | rfl | first | omega | (rw[List.length_set];omega)) (by first | omega | (rw[List.length_set];omega)) (by first | rfl | (simp;done) | first | omega | (rw[List.length_set];omega))) pt ?_
     refine E' (Znf (z:=M[j+1]) lk cv gx ZaL rfl (by first | omega | (rw[List.length_set];omega)) (hs0 hn)) ptn ?_
     refine Zaq<|ZaA<|Zae<|Zat<|mw<|?_
     refine V' (Zbm lk lki om om) pt ?_
     refine mw<|Zaq<|ZaB<|?_
     refine lU' (⟨j,(M.set (j+1) M[j]).set j M[j+1]⟩) (by (try dsimp only);exact⟨by omega,hz5.trans hk2,hz4,by simp[hMk,show j<M.length by omega]⟩) (by (try dsimp only);(try simp only[sm',Nat.reduceAdd]);exact ALe.same (by repeat (first | exact wk0 | refine wka ?_ | refine wk1 rfl ?_ | refine wk1 (by first | rfl | exact ivx om | (simp;done)) ?_)) rfl)
    have hz7:leT M[j] M[j+1]:=by rw[hMk];show (M[j]).1≤rDy l[i] (1900+(Y:Int))*86400+l[i].2.2.2.2.2.1;omega
    have hz6:=Zkp leT_tr hk3 hz3 hz7
    rw[List.take_of_length_le om] at hz6
    refine ZaD<|Zay<|Zay<|ZaU<|ZaA<|Zae<|Zat<|mw<|?_
    refine V' (Zax lk lki om om) pt ?_
    refine mw<|Zaq<|ZaB<|?_
    refine lU' (⟨i+1,M,v+1⟩) (by (try dsimp only);exact⟨by omega,hk2.trans hpS,hz6⟩) (by (try dsimp only);(try simp only[sm',Nat.reduceAdd]);exact bkE' 1 hn hlt (by repeat (first | exact wk0 | refine wka ?_ | refine wk1 rfl ?_ | refine wk1 (by first | rfl | exact ivx om | (rw[Zn0 hi hnm]) | (simp;done)) ?_)))
   obtain rfl:k=0:=by omega
   have hz6:=Zkq hk3
   rw[List.take_of_length_le om] at hz6
   refine d_no gt pt<|d_no gt pt<|d_no gt pt<|d_no gt pt<|d_no gt pt<|d_no gt pt<|d_no gt pt<|d_no gt pt<|d_no gt pt<|Dw (Zak lk lkb)<|Za8<|?_
   refine Zby ?_
   refine sn'<|ZaT lk<|ZaD<|Zay<|Zay<|ZaU<|ZaA<|Zae<|Zat<|mw<|?_
   refine V' (Zax lk lki om om) pt ?_
   refine mw<|Zaq<|ZaB<|?_
   refine lU' (⟨i+1,M,v+1⟩) (by (try dsimp only);exact⟨by omega,hk2.trans hpS,hz6⟩) (by (try dsimp only);(try simp only[sm',Nat.reduceAdd]);exact bkE' 1 hn hlt (by repeat (first | exact wk0 | refine wka ?_ | refine wk1 rfl ?_ | refine wk1 (by first | rfl | exact ivx om | (rw[Zn0 hi hnm]) | (simp;done)) ?_)))
  have hje:l.length≤i:=by omega
  refine ZaD<|Zay<|Zay<|ZaU<|ZaA<|Zae<|Zat<|mw<|?_
  refine V' (Zax lk lki om om) pt ?_
  refine mw<|Zaq<|ZaB<|?_
  refine lU' (⟨Y+1,S,v⟩) (by (try dsimp only);exact⟨by omega,by rw[←Ztk hY hje];exact hj2,hj3⟩) (by (try dsimp only);(try simp only[sm',Nat.reduceAdd]);exact ALe.same (by repeat (first | exact wk0 | refine wka ?_ | refine wk1 rfl ?_ | refine wk1 (by first | rfl | exact ivx om | (rw[thB_year hje])) ?_)) rfl)
 have hY9:Y=201:=by omega
 subst hY9
 rw[refT_all] at hY2
 have hP:=hY2.trans (Zpp hok2)
 refine ZaD<|Zay<|Zay<|ZaU<|Zae<|Zag<|wr'<|mw<|?_
 refine V' ((by first | exact v_not lk | exact ZaC lk)) pt ?_
 refine sn' ?_
 refine cd' lk (fun hc10=>?_) (fun hc10=>?_)
 ·rw[if_pos (by have:=hc10;rw[ZsL,Bool.not_eq_true'] at this;exact this)] at hE
  refine wr'<|mw<|mw<|sn'<|Zaa<|Zai<|Zah ry<|rtW'<|?_
  rw[Zes (by rw[hE];decide),hE];exact Wk.tup (wkw Wk.nilF (wk1 rfl wk0))
 rw[if_neg (by have:=hc10;rw[ZsL,Bool.not_eq_false'] at this;rw[this];simp)] at hE
 have hTV:=Zln (sh:=sh) hE hP hY3
 have hSO : ∀ t∈S,Zbr t.2=0 ∧ -2592000000≤t.1∧t.1≤4320172800:=fun t ht=>Zii hok2 (hP.mem_iff.1 ht)
 have hSlen:=hP.length_eq
 have hSl2:=ZgH (nm:=nm) hok2
 refine Zad<|Zae<|wr'<|mv' lkn pt18<|Zaq<|Za1 (ALe.own0' (st':=3) (ty:=136) gt18 (hl1 hn) pt18 ha1)<|Zag<|wr'<|mv' lki pt19<|sn'<|Zam<|?_
 refine w_lp (ι:=Nat) (fun (a:Nat)=>[(18,.own (N+1) a (outV sh 0 (S.take a)).length),(19,iv (a:Int)),(6,.any),(7,.any),(20,.any),(21,.any)]++rn' 141 64) (fun (a:Nat)=>[(1,.mk a 136 3 (rows timC (outV sh 0 (S.take a))))]) (fun (a:Nat)=>a≤S.length ∧ ∀ j (h:j+1<S.length),j+1<a→172800≤S[j+1].1-S[j].1) (fun (a:Nat)=>S.length-a) (0) (by exact⟨Nat.zero_le _,fun j _ h=>by omega⟩) ?_
 rintro a hi5
 try simp only[sm',Nat.reduceAdd]
 obtain⟨hm1,hm2⟩:=hi5
 refine Zag<|wr'<|mw<|mw<|Vw (Zb7 lk)<|Vw (ZaZ lk lk)<|sn'<|?_
 refine cd' lk (fun hc11=>?_) (fun hc11=>?_)
 ·have ha:a<S.length:=by omega
  obtain⟨hb0,hb1⟩:=hSO _ (List.getElem_mem ha)
  have hsb:=ZsS (i:=a) fun t ht=>(hSO t ht).1
  have hol:(outV sh 0 (S.take a)).length=a:=by rw[Zeh,List.length_take];omega
  have hol2:(outV sh 0 (S.take (a+1))).length=a+1:=by rw[Zeh,List.length_take];omega
  refine Zad<|Zae<|Zag<|Zam<|wr'<|mw<|mw<|?_
  refine V' (Zbq lk lk gx ZaL (nb' rfl) ro om (by first | rfl | (simp;done) | omega)) pt ?_
  refine V' (Zbl lk) pt ?_
  refine V' (Zc7 lk gx ZaL om (nb' rfl) gt0) pt ?_
  refine mw<|mw<|sn'<|Zag<|wr'<|mw<|Vw (Zbz lk lki)<|sn'<|?_
  refine cd' lk (fun hc12=>?_) (fun hc12=>?_)
  ·obtain⟨hb3,hb4⟩:=hSO _ (List.getElem_mem (show a-1<S.length by omega))
   have hsv:=svAt_pre (l:=S) (show 0<a by omega) om
   rw[hsv] at hsb
   refine Zag<|wr'<|mw<|mw<|mw<|?_
   refine V' (Zbm lk lki om om) pt ?_
   refine V' (Zbq (k:=a-1) lk lk gx ZaL (nb' rfl) ro om (by first | rfl | (simp;done) | omega)) pt ?_
   refine V' (Zbl lk) pt ?_
   refine V' (Zc7 lk gx ZaL om (nb' rfl) gt0) pt ?_
   refine V' (Zbm lk lk om om) pt ?_
   refine Vw (ZaZ lk lki)<|sn'<|?_
   refine cd' lk (fun hc13=>?_) (fun hc13=>?_)
   ·have hG:gapB S=true:=gapB_pr2 ha om hc13
    refine wr'<|mw<|mw<|sn'<|Zaa<|Zai<|Zai<|Zas<|Zai<|Zai<|Zas<|Zai<|?_
    refine Zah ry<|rtW'<|?_
    rw[hTV,if_pos hG];exact Wk.tup (wkw Wk.nilF (wk1 rfl wk0))
   refine Zad<|Zae<|Zat<|mw<|mw<|?_
   refine V' (Zbm lk lki om om) pt ?_
   refine V' (Zbq (k:=a-1) lk lk gx ZaL (nb' rfl) ro om (by first | rfl | (simp;done) | omega)) pt ?_
   refine Vw (Zbl lk)<|Vw (ZdV lk)<|?_
   refine V' (Zc7 lk gx ZaL om (nb' rfl) gt10) pt ?_
   refine mw<|sn'<|Zag<|wr'<|mw<|mw<|?_
   refine V' (Zbq lk lk gx ZaL (nb' rfl) ro om (by first | rfl | (simp;done) | omega)) pt ?_
   refine Vw (Zbl lk)<|Vw (ZdV lk)<|?_
   refine V' (Zc7 lk gx ZaL om (nb' rfl) gt9) pt ?_
   refine sn'<|Zam<|wr'<|Vw (ZaX lk lki)<|mw<|sn'<|?_
   refine cd' lk (fun hc14=>?_) (fun hc14=>?_)
   ·have hT:timV sh (svAt S a) S[a]=(S[a].1-(sh+svAt S a),rSv S[a].2,rLt S[a].2):=by unfold timV offV;rw[if_pos hc14]
    refine Zat<|mw<|mw<|mw<|?_
    refine V' (Zax lk lk om om) pt ?_
    refine V' (Zbm lk lk om om) pt ?_
    refine mw<|Zaq<|ZaA<|Zae<|Za2<|Dw (v_mv lk)<|Dw (v_mv lk)<|Dw (v_mv lk)<|Dw (v_mv lk)<|?_
    refine D' (Zbq lk lk gx ZaL (nb' rfl) ro om (by first | rfl | (simp;done) | omega)) pt ?_
    refine Dw (Zbl lk)<|Dw (ZdV lk)<|?_
    refine D' (Zc7 lk gx ZaL om (nb' rfl) gt10) pt ?_
    refine Dw (v_mv lk)<|Dw (v_mv lk)<|?_
    refine D' (Zbq lk lk gx ZaL (nb' rfl) ro om (by first | rfl | (simp;done) | omega)) pt ?_
    refine Dw (Zbl lk)<|Dw (ZdV lk)<|?_
    refine D' (Zc7 lk gx ZaL om (nb' rfl) gt11) pt ?_
    refine Dw (Zaw (Zb2 cv rfl cv rfl cv rfl))<|Zep rfl rfl (hlk hn rfl) (Zh9 (Zb1 cv rfl)) pt Zdx<|Za8<|?_
    refine Zez Zdn ?_
    refine E' (Zce (ZbF lk gx rfl Zd7 (nb' rfl)) lk gx (ZdA _) om rfl (hs1 hn)) pt ?_
    refine mw<|Zaq<|ZaA<|Zae<|Zat<|mw<|?_
    refine V' (Zax lk lki om om) pt ?_
    refine mw<|Zaq<|ZaB<|?_
    refine lU' (a+1) (by (try dsimp only);exact⟨by omega,fun j hj h=>by by_cases e:j+1=a;(subst e;(try simp only[Nat.add_sub_cancel] at hc13);omega);exact hm2 j hj om⟩) (by (try dsimp only);(try simp only[sm',Nat.reduceAdd]);exact bkE' 2 hn hlt (by repeat (first | exact wk0 | refine wka ?_ | refine wk1 rfl ?_ | refine wk1 (by first | rfl | exact ivx om | (rw[hol2,hol];done) | (rw[hol2,hol])) ?_)) (by rw[Zdt ha,hT,ZaO,Za5];(try rw[hsv]);rfl))
   have hc14':¬rCk S[a].2=1:=hc14
   refine wr'<|Vw (ZaX lk lki)<|mw<|sn'<|?_
   refine cd' lk (fun hc15=>?_) (fun hc15=>?_)
   ·have hT:timV sh (svAt S a) S[a]=(S[a].1-sh,rSv S[a].2,rLt S[a].2):=by unfold timV offV;rw[if_neg hc14',if_pos hc15]
    refine Zat<|mw<|mw<|?_
    refine V' (Zbm lk lk om om) pt ?_
    refine mw<|Zaq<|ZaA<|Zae<|Za2<|Dw (v_mv lk)<|Dw (v_mv lk)<|Dw (v_mv lk)<|Dw (v_mv lk)<|?_
    refine D' (Zbq lk lk gx ZaL (nb' rfl) ro om (by first | rfl | (simp;done) | omega)) pt ?_
    refine Dw (Zbl lk)<|Dw (ZdV lk)<|?_
    refine D' (Zc7 lk gx ZaL om (nb' rfl) gt10) pt ?_
    refine Dw (v_mv lk)<|Dw (v_mv lk)<|?_
    refine D' (Zbq lk lk gx ZaL (nb' rfl) ro om (by first | rfl | (simp;done) | omega)) pt ?_
    refine Dw (Zbl lk)<|Dw (ZdV lk)<|?_
    refine D' (Zc7 lk gx ZaL om (nb' rfl) gt11) pt ?_
    refine Dw (Zaw (Zb2 cv rfl cv rfl cv rfl))<|Zep rfl rfl (hlk hn rfl) (Zh9 (Zb1 cv rfl)) pt Zdx<|Za8<|?_
    refine Zez Zdn ?_
    refine E' (Zce (ZbF lk gx rfl Zd7 (nb' rfl)) lk gx (ZdA _) om rfl (hs1 hn)) pt ?_
    refine mw<|Zaq<|ZaA<|Zae<|Zat<|mw<|?_
    refine V' (Zax lk lki om om) pt ?_
    refine mw<|Zaq<|ZaB<|?_
    refine lU' (a+1) (by (try dsimp only);exact⟨by omega,fun j hj h=>by by_cases e:j+1=a;(subst e;(try simp only[Nat.add_sub_cancel] at hc13);omega);exact hm2 j hj om⟩) (by (try dsimp only);(try simp only[sm',Nat.reduceAdd]);exact bkE' 2 hn hlt (by repeat (first | exact wk0 | refine wka ?_ | refine wk1 rfl ?_ | refine wk1 (by first | rfl | exact ivx om | (rw[hol2,hol];done) | (rw[hol2,hol])) ?_)) (by rw[Zdt ha,hT,ZaO,Za5];(try rw[hsv]);rfl))
   have hT:timV sh (svAt S a) S[a]=(S[a].1,rSv S[a].2,rLt S[a].2):=by unfold timV offV;rw[if_neg hc14',if_neg hc15,Int.sub_zero]
   refine Zad<|ZaA<|Zae<|Za2<|Dw (v_mv lk)<|Dw (v_mv lk)<|Dw (v_mv lk)<|Dw (v_mv lk)<|?_
   refine D' (Zbq lk lk gx ZaL (nb' rfl) ro om (by first | rfl | (simp;done) | omega)) pt ?_
   refine Dw (Zbl lk)<|Dw (ZdV lk)<|?_
   refine D' (Zc7 lk gx ZaL om (nb' rfl) gt10) pt ?_
   refine Dw (v_mv lk)<|Dw (v_mv lk)<|?_
   refine D' (Zbq lk lk gx ZaL (nb' rfl) ro om (by first | rfl | (simp;done) | omega)) pt ?_
   refine Dw (Zbl lk)<|Dw (ZdV lk)<|?_
   refine D' (Zc7 lk gx ZaL om (nb' rfl) gt11) pt ?_
   refine Dw (Zaw (Zb2 cv rfl cv rfl cv rfl))<|Zep rfl rfl (hlk hn rfl) (Zh9 (Zb1 cv rfl)) pt Zdx<|Za8<|?_
   refine Zez Zdn ?_
   refine E' (Zce (ZbF lk gx rfl Zd7 (nb' rfl)) lk gx (ZdA _) om rfl (hs1 hn)) pt ?_
   refine mw<|Zaq<|ZaA<|Zae<|Zat<|mw<|?_
   refine V' (Zax lk lki om om) pt ?_
   refine mw<|Zaq<|ZaB<|?_
   refine lU' (a+1) (by (try dsimp only);exact⟨by omega,fun j hj h=>by by_cases e:j+1=a;(subst e;(try simp only[Nat.add_sub_cancel] at hc13);omega);exact hm2 j hj om⟩) (by (try dsimp only);(try simp only[sm',Nat.reduceAdd]);exact bkE' 2 hn hlt (by repeat (first | exact wk0 | refine wka ?_ | refine wk1 rfl ?_ | refine wk1 (by first | rfl | exact ivx om | (rw[hol2,hol];done) | (rw[hol2,hol])) ?_)) (by rw[Zdt ha,hT,ZaO,Za5];(try rw[hsv]);rfl))
  have hsv:svAt S a=0:=by rw[show a=0 by omega];rfl
  refine Zad<|Zae<|Zag<|wr'<|mw<|mw<|?_
  refine V' (Zbq lk lk gx ZaL (nb' rfl) ro om (by first | rfl | (simp;done) | omega)) pt ?_
  refine Vw (Zbl lk)<|Vw (ZdV lk)<|?_
  refine V' (Zc7 lk gx ZaL om (nb' rfl) gt9) pt ?_
  refine sn'<|Zam<|wr'<|Vw (ZaX lk lki)<|mw<|sn'<|?_
  refine cd' lk (fun hc14=>?_) (fun hc14=>?_)
  ·have hT:timV sh (svAt S a) S[a]=(S[a].1-(sh+svAt S a),rSv S[a].2,rLt S[a].2):=by unfold timV offV;rw[if_pos hc14]
   refine Zat<|mw<|mw<|mw<|?_
   refine V' (Zax lk lk om om) pt ?_
   refine V' (Zbm lk lk om om) pt ?_
   refine mw<|Zaq<|ZaA<|Zae<|Za2<|Dw (v_mv lk)<|Dw (v_mv lk)<|Dw (v_mv lk)<|Dw (v_mv lk)<|?_
   refine D' (Zbq lk lk gx ZaL (nb' rfl) ro om (by first | rfl | (simp;done) | omega)) pt ?_
   refine Dw (Zbl lk)<|Dw (ZdV lk)<|?_
   refine D' (Zc7 lk gx ZaL om (nb' rfl) gt10) pt ?_
   refine Dw (v_mv lk)<|Dw (v_mv lk)<|?_
   refine D' (Zbq lk lk gx ZaL (nb' rfl) ro om (by first | rfl | (simp;done) | omega)) pt ?_
   refine Dw (Zbl lk)<|Dw (ZdV lk)<|?_
   refine D' (Zc7 lk gx ZaL om (nb' rfl) gt11) pt ?_
   refine Dw (Zaw (Zb2 cv rfl cv rfl cv rfl))<|Zep rfl rfl (hlk hn rfl) (Zh9 (Zb1 cv rfl)) pt Zdx<|Za8<|?_
   refine Zez Zdn ?_
   refine E' (Zce (ZbF lk gx rfl Zd7 (nb' rfl)) lk gx (ZdA _) om rfl (hs1 hn)) pt ?_
   refine mw<|Zaq<|ZaA<|Zae<|Zat<|mw<|?_
   refine V' (Zax lk lki om om) pt ?_
   refine mw<|Zaq<|ZaB<|?_
   refine lU' (a+1) (by (try dsimp only);exact⟨by omega,fun j hj h=>by by_cases e:j+1=a;(subst e;(try simp only[Nat.add_sub_cancel] at hc13);omega);exact hm2 j hj om⟩) (by (try dsimp only);(try simp only[sm',Nat.reduceAdd]);exact bkE' 2 hn hlt (by repeat (first | exact wk0 | refine wka ?_ | refine wk1 rfl ?_ | refine wk1 (by first | rfl | exact ivx om | (rw[hol2,hol];done) | (rw[hol2,hol])) ?_)) (by rw[Zdt ha,hT,ZaO,Za5];(try rw[hsv]);rfl))
  have hc14':¬rCk S[a].2=1:=hc14
  refine wr'<|Vw (ZaX lk lki)<|mw<|sn'<|?_
  refine cd' lk (fun hc15=>?_) (fun hc15=>?_)
  ·have hT:timV sh (svAt S a) S[a]=(S[a].1-sh,rSv S[a].2,rLt S[a].2):=by unfold timV offV;rw[if_neg hc14',if_pos hc15]
   refine Zat<|mw<|mw<|?_
   refine V' (Zbm lk lk om om) pt ?_
   refine mw<|Zaq<|ZaA<|Zae<|Za2<|Dw (v_mv lk)<|Dw (v_mv lk)<|Dw (v_mv lk)<|Dw (v_mv lk)<|?_
   refine D' (Zbq lk lk gx ZaL (nb' rfl) ro om (by first | rfl | (simp;done) | omega)) pt ?_
   refine Dw (Zbl lk)<|Dw (ZdV lk)<|?_
   refine D' (Zc7 lk gx ZaL om (nb' rfl) gt10) pt ?_
   refine Dw (v_mv lk)<|Dw (v_mv lk)<|?_
   refine D' (Zbq lk lk gx ZaL (nb' rfl) ro om (by first | rfl | (simp;done) | omega)) pt ?_
   refine Dw (Zbl lk)<|Dw (ZdV lk)<|?_
   refine D' (Zc7 lk gx ZaL om (nb' rfl) gt11) pt ?_
   refine Dw (Zaw (Zb2 cv rfl cv rfl cv rfl))<|Zep rfl rfl (hlk hn rfl) (Zh9 (Zb1 cv rfl)) pt Zdx<|Za8<|?_
   refine Zez Zdn ?_
   refine E' (Zce (ZbF lk gx rfl Zd7 (nb' rfl)) lk gx (ZdA _) om rfl (hs1 hn)) pt ?_
   refine mw<|Zaq<|ZaA<|Zae<|Zat<|mw<|?_
   refine V' (Zax lk lki om om) pt ?_
   refine mw<|Zaq<|ZaB<|?_
   refine lU' (a+1) (by (try dsimp only);exact⟨by omega,fun j hj h=>by by_cases e:j+1=a;(subst e;(try simp only[Nat.add_sub_cancel] at hc13);omega);exact hm2 j hj om⟩) (by (try dsimp only);(try simp only[sm',Nat.reduceAdd]);exact bkE' 2 hn hlt (by repeat (first | exact wk0 | refine wka ?_ | refine wk1 rfl ?_ | refine wk1 (by first | rfl | exact ivx om | (rw[hol2,hol];done) | (rw[hol2,hol])) ?_)) (by rw[Zdt ha,hT,ZaO,Za5];(try rw[hsv]);rfl))
  have hT:timV sh (svAt S a) S[a]=(S[a].1,rSv S[a].2,rLt S[a].2):=by unfold timV offV;rw[if_neg hc14',if_neg hc15,Int.sub_zero]
  refine Zad<|ZaA<|Zae<|Za2<|Dw (v_mv lk)<|Dw (v_mv lk)<|Dw (v_mv lk)<|Dw (v_mv lk)<|?_
  refine D' (Zbq lk lk gx ZaL (nb' rfl) ro om (by first | rfl | (simp;done) | omega)) pt ?_
  refine Dw (Zbl lk)<|Dw (ZdV lk)<|?_
  refine D' (Zc7 lk gx ZaL om (nb' rfl) gt10) pt ?_
  refine Dw (v_mv lk)<|Dw (v_mv lk)<|?_
  refine D' (Zbq lk lk gx ZaL (nb' rfl) ro om (by first | rfl | (simp;done) | omega)) pt ?_
  refine Dw (Zbl lk)<|Dw (ZdV lk)<|?_
  refine D' (Zc7 lk gx ZaL om (nb' rfl) gt11) pt ?_
  refine Dw (Zaw (Zb2 cv rfl cv rfl cv rfl))<|Zep rfl rfl (hlk hn rfl) (Zh9 (Zb1 cv rfl)) pt Zdx<|Za8<|?_
  refine Zez Zdn ?_
  refine E' (Zce (ZbF lk gx rfl Zd7 (nb' rfl)) lk gx (ZdA _) om rfl (hs1 hn)) pt ?_
  refine mw<|Zaq<|ZaA<|Zae<|Zat<|mw<|?_
  refine V' (Zax lk lki om om) pt ?_
  refine mw<|Zaq<|ZaB<|?_
  refine lU' (a+1) (by (try dsimp only);exact⟨by omega,fun j hj h=>by by_cases e:j+1=a;(subst e;(try simp only[Nat.add_sub_cancel] at hc13);omega);exact hm2 j hj om⟩) (by (try dsimp only);(try simp only[sm',Nat.reduceAdd]);exact bkE' 2 hn hlt (by repeat (first | exact wk0 | refine wka ?_ | refine wk1 rfl ?_ | refine wk1 (by first | rfl | exact ivx om | (rw[hol2,hol];done) | (rw[hol2,hol])) ?_)) (by rw[Zdt ha,hT,ZaO,Za5];(try rw[hsv]);rfl))
 obtain rfl:a=S.length:=by omega
 rw[List.take_length]
 have hG:gapB S=false:=gap_ok2 hm2 (Nat.le_refl _)
 rw[if_neg (by rw[hG];simp)] at hTV
 have hol:=Zeh S sh 0
 refine ZaD<|Zay<|Zay<|ZaU<|Zae<|Zag<|wr'<|mw<|Vw (Zb7 lk)<|Vw (Zbz lk lki)<|sn'<|?_
 refine cd' lk (fun hc16=>?_) (fun hc16=>?_)
 ·refine wr'<|mw<|mw<|sn'<|Zaa<|Zai<|Zah ry<|rtW'<|?_
  rw[hTV,if_pos om];exact Wk.tup (wkw Wk.nilF (wk1 rfl wk0))
 refine Zad ?_
 refine Za1 (ALe.iceR gx gt18 (List.take_of_length_le (by rw[ZdA];exact Nat.le_refl _)) (by rw[ZdA];exact Nat.le_refl _) pt18 (hs1 hn)) ?_
 refine wr'<|mw<|mw<|mw<|sn'<|Zaa<|Zah ry<|rtW'<|?_
 rw[hTV,if_neg om];exact Wk.tup (wkw Wk.full (wk1 rfl wk0))
end Go.Proofs.YtlekejpogddndaaGreatDoor
end
section
namespace Go.Proofs.YtlekejpogddndaaGreatDoor
open Go.Ab Go.RowKit Civ
attribute [local simp] Zbw ZbM ZbG ZbL Zcv Zd3 Zeb
section
theorem ZkU {a0 a1 a2:AV}{l:List AV}:((a0::a1::a2::l).drop 0).take 3=[a0,a1,a2]:=rfl
theorem Zru {a0 a1 a2 a3 a4 a5 a6 a7:AV}{l:List AV}:((a0::a1::a2::a3::a4::a5::a6::a7::l).drop 5).take 3=[a5,a6,a7]:=rfl
theorem Zrt {a0 a1 a2 a3 a4 a5 a6 a7 a8 a9:AV}{l:List AV}:(a0::a1::a2::a3::a4::a5::a6::a7::a8::a9::l).take 10=[a0,a1,a2,a3,a4,a5,a6,a7,a8,a9]:=rfl
theorem ZjU {τ:Operand→AV}{y0:Operand}{x0_0:AV}(h0:Zav (τ y0)=some [x0_0]) (l0:[x0_0].all leaf=true):Zau τ [(0,1,y0)] [(.v (.int .i64 0))]=some [x0_0]:=by
 simp only[Zau,h0,l0]
 rfl
theorem ZuV {a0:AV}{l:List AV}:(a0::l).take 1=[a0]:=rfl
end
def c80:AC:=(Sr [Oo 2 (.box 26 3 (.tmp 0)),Mc 4 0] (.seq (Sr [Mc 5 0] (.block 0 (.loop (.seq (Sr [Mv 6 5,Fa 7 1 2,Ld 8 7,Oo 9 (.len false (.tmp 8)),Bn 10 .lss 6 9] (Cd 10 .skip (.exit 0))) (.seq (.block 1 (Sr [Fa 13 1 2,Ld 14 13,Mv 15 5,Oo 16 (.ia 2 (.tmp 14) (.tmp 15)),Fa 17 0 16,Ld 18 17,Mv 19 1,Bn 20 .eql 18 19] (Cd 20 (Sr [Mv 21 5,Mv 4 21] .ret) .skip))) (.reg [Mv 11 5,Bc 12 .add 11 1,Mv 5 12])))))) (Sr [Oo 4 (.mv (.const (.int .i64 (-1))))] .ret)))
theorem k80:ZaE Tryz.prog 80=some ⟨c80,[(.tmp 4)],22⟩:=by kernel_rfl
def c26:AC:=(Sr [Oo 2 (.box 26 3 (.tmp 0)),Mc 4 0] (.seq (Sr [Mc 5 0] (.block 0 (.loop (.seq (Sr [Mv 6 5,Fa 7 2 2,Ld 8 7,Oo 9 (.len false (.tmp 8)),Bn 10 .lss 6 9] (Cd 10 .skip (.exit 0))) (.seq (.block 1 (Sr [Fa 13 2 2,Ld 14 13,Mv 15 5,Oo 16 (.ia 2 (.tmp 14) (.tmp 15)),Fa 17 1 16,Ld 18 17,Mv 19 1,Bn 20 .eql 18 19] (Cd 20 (Sd [Oo 21 (.load true 3 (.tmp 2)),Fa 22 2 2,Ld 23 22,Mv 24 5,Oo 25 (.ia 2 (.tmp 23) (.tmp 24)),Fa 26 0 25,Ld 27 26,Cl 28 80 [(.tmp 21),(.tmp 27)],Mv 4 28] .ret) .skip))) (.reg [Mv 11 5,Bc 12 .add 11 1,Mv 5 12])))))) (Sr [Oo 29 (.load true 3 (.tmp 2)),Mv 30 1,Cl 31 80 [(.tmp 29),(.tmp 30)],Mv 4 31] .ret)))
theorem k26:ZaE Tryz.prog 26=some ⟨c26,[(.tmp 4)],32⟩:=by kernel_rfl
def c154:AC:=(Sr [Oo 1 (.box 63 10 (.tmp 0)),Mc 2 0] (Sd [Fa 4 5 1,Fa 5 0 4,Oo 6 (.load true 3 (.tmp 5)),Cl 7 149 [(.tmp 6)],Bc 8 .mul 7 86400,Fa 9 5 1,Fa 10 3 9,Ld 11 10,Bn 12 .add 8 11,Mv 3 12] (.seq (Sr [Fa 13 5 1,Fa 14 4 13,Ld 15 14,Bc 16 .eql 15 2] (Cd 16 (.reg [Mv 17 3,Fa 18 0 1,Ld 19 18,Bn 20 .sub 17 19,Mv 3 20]) .skip)) (Sr [Mv 21 3,Mv 2 21] .ret))))
theorem k154:ZaE Tryz.prog 154=some ⟨c154,[(.tmp 2)],22⟩:=by kernel_rfl
def c82:AC:=(Sr [Oo 1 (.box 53 2 (.tmp 0)),Oo 2 (.mv (.const (.slice none 0 0)))] (Sr [Oo 3 (.mv (.const (.slice none 0 0)))] (.seq (Sr [Mc 4 0] (.block 0 (.loop (.seq (Sr [Mv 5 4,Fa 6 1 1,Ld 7 6,Oo 8 (.len false (.tmp 7)),Bc 9 .sub 8 1,Bn 10 .lss 5 9] (Cd 10 .skip (.exit 0))) (.seq (.block 1 (.reg [Mv 13 3,Fa 14 1 1,Ld 15 14,Mv 16 4,Oo 17 (.ia 10 (.tmp 15) (.tmp 16)),Oo 18 (.load true 10 (.tmp 17)),Cl 19 154 [(.tmp 18)],Oo 20 (.lit 3 1 1 [(iv 0)] [(0,(1,(.tmp 19)))]),Oo 21 (.app 3 1 8 (.tmp 13) (.tmp 20)),Mv 3 21])) (.reg [Mv 11 4,Bc 12 .add 11 1,Mv 4 12])))))) (Sr [Mv 22 3,Mv 2 22] .ret))))
theorem k82:ZaE Tryz.prog 82=some ⟨c82,[(.tmp 2)],23⟩:=by kernel_rfl
def c155:AC:=(Sr [Ms 6] (.seq (Sr [Mc 7 0] (.block 0 (.loop (.seq (Sr [Mv 8 7,Mv 9 0,Oo 10 (.len true (.tmp 9)),Bn 11 .lss 8 10] (Cd 11 .skip (.exit 0))) (.seq (.block 1 (.seq (Sr [Mv 14 0,Mv 15 7,Oo 16 (.ix (.tmp 14) (.tmp 15)),Oo 17 (.bin .eql (.tmp 16) (.const (.int .u8 47))),Mv 18 17,Ot 19 18 (mt 2),Ot 20 18 (.bin .eql (.tmp 19) (Ci 0)),Oo 21 (.pick (.tmp 18) (.tmp 20) (.const (.bool false)))] (Cd 21 (Sr [Mv 22 0,Mv 23 7,Oo 24 (.sls (.tmp 22) none (some (.tmp 23))),Mv 6 24] .ret) .skip)) (.seq (Sr [Mv 25 0,Mv 26 7,Oo 27 (.ix (.tmp 25) (.tmp 26)),Oo 28 (.bin .eql (.tmp 27) (.const (.int .u8 47)))] (Cd 28 (Sr [Mv 29 0,Mv 30 7,Bc 31 .add 30 1,Oo 32 (.sls (.tmp 29) (some (.tmp 31)) none),Mv 6 32] .ret) .skip)) (Sr [Mv 33 0,Mv 34 7,Oo 35 (.ix (.tmp 33) (.tmp 34)),Oo 36 (.bin .eql (.tmp 35) (.const (.int .u8 37)))] (Cd 36 (Sd [Mv 37 0,Mv 38 7,Oo 39 (.sls (.tmp 37) none (some (.tmp 38))),Mv 40 1,Bn 41 .add 39 40,Mv 42 0,Mv 43 7,Bc 44 .add 43 2,Oo 45 (.sls (.tmp 42) (some (.tmp 44)) none),Bn 46 .add 41 45,Mv 6 46] .ret) .skip))))) (.reg [Mv 12 7,Bc 13 .add 12 1,Mv 7 13])))))) (Sr [Mv 47 0,Mv 6 47] .ret)))
theorem k155:ZaE Tryz.prog 155=some ⟨c155,[(.tmp 6)],48⟩:=by kernel_rfl
theorem ZiN {a:List Rul}{z:List Zon}{k:List Lnk}{nm:ByteArray}{h:AH}(hz:z.length≤9000000000000000000):Ac 80 [.agg (srcB a z k),sv nm] h (iv (Zfb z nm)):=by
 refine tI' k80 fun N hn hlt hlA hbd=>?_
 simp only[tb'] at hbd ⊢
 refine wr'<|E' (Zbc cv rfl (hl0 hn) ha0) pt<|mw<|sn'<|Zag<|wr'<|mw<|sn'<|Zam<|?_
 refine w_lp (ι:=Nat) (fun (i:Nat)=>[(5,iv (i:Int)),(4,.any)]++rn' 6 16) (fun (i:Nat)=>[]) (fun (i:Nat)=>i≤z.length ∧ ∀ j (hj:j<z.length),j<i→decide (z[j].1=nm)=false) (fun (i:Nat)=>z.length-i) (0) (by exact⟨by omega,fun j hj h0=>absurd h0 om⟩) ?_
 rintro i hi1
 try simp only[sm',Nat.reduceAdd]
 obtain⟨hk1,hk2⟩:=hi1
 refine Zag<|wr'<|mw<|Vw (Zac lk)<|Vw (Zab lk gx gt1)<|Vw (ZaG lk)<|Vw (ZaZ lk lk)<|sn'<|?_
 refine cd' lk (fun hc1=>?_) (fun hc1=>?_)
 ·have hi:i<z.length:=by omega
  refine Zad<|Zae<|Zag<|Zam<|wr'<|Vw (Zac lk)<|Vw (Zab lk gx gt1)<|mw<|?_
  refine V' (ZaJ lk lk ZbI (nb' rfl) ro om ro rfl) pt ?_
  refine Vw (ZaR lk dp0)<|Vw (Zar lk gt)<|mw<|Vw (Zch lk lk)<|sn'<|?_
  refine cd' lk (fun hc2=>?_) (fun hc2=>?_)
  ·refine wr'<|mw<|mw<|sn'<|Zaa<|Zas<|Zai<|Zai<|Zas<|Zai<|Zah rz<|rT'<|?_
   refine ivx ?_
   have hf:z.findIdx (fun y:Zon=>decide (y.1=nm))=i:=Zei hi (decide_eq_true hc2) (fun j hj=>hk2 j om hj)
   rw[Zfb,idxV,hf,if_pos hi]
  refine Zad<|ZaA<|Zae<|Zat<|mw<|?_
  refine V' (Zax lk lki om om) pt ?_
  refine mw<|Zaq<|ZaB<|?_
  refine lT' (i+1) (by (try dsimp only);refine⟨by omega,fun j hj h0=>?_⟩;by_cases e:j=i;(subst e;exact decide_eq_false hc2);exact hk2 j hj om)
 refine ZaD<|Zay<|Zay<|ZaU<|Zae<|wr'<|mw<|sn'<|Zaa<|Zah rz<|rT'<|?_
 refine ivx ?_
 have hf:z.findIdx (fun y:Zon=>decide (y.1=nm))=z.length:=List.findIdx_eq_length.2 (fun x hx=>by obtain⟨j,hj,rfl⟩:=List.getElem_of_mem hx;exact hk2 j hj om)
 rw[Zfb,idxV,hf,if_neg om]
theorem rlook_a {a:List Rul}{z:List Zon}{k:List Lnk}{nm:ByteArray}{h:AH}(hz:z.length≤9000000000000000000) (hk:k.length≤9000000000000000000):Ac 26 [.agg (srcB a z k),sv nm] h (iv (ZgY (a,z,k) nm)):=by
 have hkk:=hk
 refine tI' k26 fun N hn hlt hlA hbd=>?_
 simp only[tb'] at hbd ⊢
 refine wr'<|E' (Zbc cv rfl (hl0 hn) ha0) pt<|mw<|sn'<|Zag<|wr'<|mw<|sn'<|Zam<|?_
 refine w_lp (ι:=Nat) (fun (i:Nat)=>[(5,iv (i:Int)),(4,.any)]++rn' 6 23) (fun (i:Nat)=>[]) (fun (i:Nat)=>i≤k.length ∧ ∀ j (hj:j<k.length),j<i→decide (k[j].2=nm)=false) (fun (i:Nat)=>k.length-i) (0) (by exact⟨by omega,fun j hj h0=>absurd h0 om⟩) ?_
 rintro i hi1
 try simp only[sm',Nat.reduceAdd]
 obtain⟨hk1,hk2⟩:=hi1
 refine Zag<|wr'<|mw<|Vw (Zac lk)<|Vw (Zab lk gx gt2)<|Vw (ZaG lk)<|Vw (ZaZ lk lk)<|sn'<|?_
 refine cd' lk (fun hc1=>?_) (fun hc1=>?_)
 ·have hi:i<k.length:=by omega
  refine Zad<|Zae<|Zag<|Zam<|wr'<|Vw (Zac lk)<|Vw (Zab lk gx gt2)<|mw<|?_
  refine V' (ZaJ lk lk ZcM (nb' rfl) ro om ro rfl) pt ?_
  refine Vw (ZaR lk dp1)<|Vw (Zar lk gt)<|mw<|Vw (Zch lk lk)<|sn'<|?_
  refine cd' lk (fun hc2=>?_) (fun hc2=>?_)
  ·refine Zag<|Za2<|Dw (Zao lk gx ZkU rfl)<|Dw (Zac lk)<|Dw (Zab lk gx gt2)<|Dw (v_mv lk)<|?_
   refine D' (ZaJ lk lk ZcM (nb' rfl) ro om ro rfl) pt ?_
   refine Dw (ZaR lk dp0)<|Dw (Zar lk gt)<|?_
   refine ZaV mp (fun hE hX=>ZiN hz) pt ?_
   refine Dw (v_mv lk)<|Za8<|?_
   refine Zby ?_
   refine sn'<|Zaa<|Zas<|Zai<|Zai<|Zas<|Zai<|Zah rz<|rT'<|?_
   refine ivx ?_
   have hf:k.findIdx (fun y:Lnk=>decide (y.2=nm))=i:=Zei hi (decide_eq_true hc2) (fun j hj=>hk2 j om hj)
   unfold ZgY;rw[show (a,z,k).2.2[(a,z,k).2.2.findIdx fun l=>decide (l.2=nm)]?=some k[i] from by simp only[hf];exact List.getElem?_eq_getElem hi]
  refine Zad<|ZaA<|Zae<|Zat<|mw<|?_
  refine V' (Zax lk lki om om) pt ?_
  refine mw<|Zaq<|ZaB<|?_
  refine lT' (i+1) (by (try dsimp only);refine⟨by omega,fun j hj h0=>?_⟩;by_cases e:j=i;(subst e;exact decide_eq_false hc2);exact hk2 j hj om)
 refine ZaD<|Zay<|Zay<|ZaU<|Zae<|wr'<|Vw (Zao lk gx ZkU rfl)<|mw<|Zaf mp (ZiN hz) pt<|mw<|sn'<|Zaa<|?_
 refine Zah rz<|rT'<|?_
 refine ivx ?_
 have hf:k.findIdx (fun y:Lnk=>decide (y.2=nm))=k.length:=List.findIdx_eq_length.2 (fun x hx=>by obtain⟨j,hj,rfl⟩:=List.getElem_of_mem hx;exact hk2 j hj om)
 unfold ZgY;rw[show (a,z,k).2.2[(a,z,k).2.2.findIdx fun l=>decide (l.2=nm)]?=none from by simp only[hf];exact List.getElem?_eq_none (Nat.le_refl _)]
theorem rendOf_a {x:Era}{h:AH}(hd:Zbp x.2.2.2.2.2.1.1 x.2.2.2.2.2.1.2.1 x.2.2.2.2.2.1.2.2=true) (ha:0≤x.2.2.2.2.2.2.1∧x.2.2.2.2.2.2.1≤172800) (hs : -64800≤x.1∧x.1≤64800) :
  ACalls Tryz.prog 154 [.agg (eraC x)] h fun y h'=>h'=h∧y=.ret (iv (endV x)):=by
 have hnb:=ZmT hd
 have hdi:=Zcd.1 hd
 have hml:=ZdE x.2.2.2.2.2.1.1 x.2.2.2.2.2.1.2.1
 refine tI' k154 fun N hn hlt hlA hbd=>?_
 simp only[tb'] at hbd ⊢
 refine wr'<|E' (Zbc cv rfl (hl0 hn) ha0) pt<|mw<|sn'<|Zag<|Za2<|Dw (Zac lk)<|Dw (Zbl lk)<|Dw (Zao lk gx Zru rfl)<|?_
 refine ZaV mp (fun hE hX=>Zds om om om om om om) pt ?_
 refine D' (Zer lk lki om om) pt ?_
 refine Dw (Zac lk)<|Dw (Zbl lk)<|Dw (Zab lk gx gt8)<|?_
 refine D' (Zax lk lk om om) pt ?_
 refine Dw (v_mv lk)<|Za8<|?_
 refine Zby ?_
 refine sn'<|Zag<|wr'<|Vw (Zac lk)<|Vw (Zbl lk)<|Vw (Zab lk gx gt9)<|Vw (ZaX lk lki)<|sn'<|?_
 refine cd' lk (fun hc1=>?_) (fun hc1=>?_)
 ·refine Zat<|mw<|Vw (Zac lk)<|Vw (Zab lk gx gt0)<|?_
  refine V' (Zbm lk lk om om) pt ?_
  refine mw<|sn'<|wr'<|mw<|mw<|sn'<|Zaa<|Zah rz<|rT'<|?_
  refine ivx ?_;unfold endV;rw[if_pos hc1]
 refine Zad<|Zae<|wr'<|mw<|mw<|sn'<|Zaa<|Zah rz<|rT'<|?_
 refine ivx ?_;unfold endV;rw[if_neg hc1,Int.sub_zero]
theorem Zti {nm:ByteArray}{es:List Era}{h:AH}(hz:okZ es):Ac 82 [.agg [sv nm,.sl es.length 10 false (rows eraC es)]] h (.sl (ZaN es).length 1 false (rows intC (ZaN es))):=by
 have hlen:=hz.len
 have hne:=List.length_pos_iff.2 hz.ne
 have hel:=Zc9 es
 refine tW' k82 fun N hn hlt hlA hbd=>?_
 simp only[tb'] at hbd ⊢
 refine wr'<|E' (Zbc (cvl lk0 rfl) rfl (hl0 hn) ha0) pt1<|mv' lkn pt2<|sn'<|wr'<|mv' lkn pt3<|Zaq<|Za1 (ALe.own0' (st':=1) (ty:=3) gt3 (hl1 hn) pt3 ha1)<|Zag<|wr'<|?_
 refine mw<|sn'<|Zam<|?_
 refine w_lp (ι:=Nat) (fun (k:Nat)=>[(3,.own (N+1) k k),(4,iv (k:Int))]++rn' 5 17) (fun (k:Nat)=>[(1,.mk k 3 1 (rows intC ((ZaN es).take k)))]) (fun (k:Nat)=>k+1≤es.length) (fun (k:Nat)=>es.length-k) (0) (by exact hne) ?_
 rintro k hi1
 try simp only[sm',Nat.reduceAdd]
 replace hi1:k+1≤es.length:=hi1
 have htl:((ZaN es).take k).length=k:=by rw[List.length_take,hel];omega
 refine Zag<|wr'<|mw<|Vw (Zac lk)<|Vw (Zab lk gx gt1)<|Vw (ZaG lk)<|?_
 refine V' (Zbm lk lki om om) pt ?_
 refine Vw (ZaZ lk lk)<|sn'<|?_
 refine cd' lk (fun hc1=>?_) (fun hc1=>?_)
 ·have hke:k+1<es.length:=by omega
  obtain⟨hd,ha⟩:=hz.un k om hke
  have hsh : -64800≤es[k].1∧es[k].1≤64800:=(hz.fm _ (List.getElem_mem om)).2.1
  refine Zad<|Zae<|Zag<|Zam<|Zat<|mw<|Vw (Zac lk)<|Vw (Zab lk gx gt1)<|mw<|?_
  refine V' (ZaJ lk lk Zb5 (nb' rfl) ro om ro rfl) pt ?_
  refine Vw (ZaF lk Zrt rfl)<|Zaf mp (rendOf_a (x:=es[k]) hd ha hsh) pt<|E' (Zda (ZjU cv rfl) (hl2 hn) ha2) pt<|?_
  refine E' (Zce (ZbF lk gx rfl ZuV (nb' rfl)) lk gx ((Zen _).trans (by rw[htl])) om rfl (hs1 hn)) pt ?_
  refine mw<|Zaq<|ZaA<|Zae<|Zat<|mw<|?_
  refine V' (Zax lk lki om om) pt ?_
  refine mw<|Zaq<|ZaB<|?_
  refine lU' (k+1) (by (try dsimp only);omega) (by (try dsimp only);(try simp only[sm',Nat.reduceAdd]);exact bk' 2 hn hlt (by rw[Zjc hke,ZaO,Za5];rfl))
 refine ZaD<|Zay<|Zay<|ZaU<|?_
 refine Za1 (ALe.iceR gx gt3 (List.take_of_length_le (by rw[Zen,htl];omega)) (by rw[Zen,htl];omega) pt3 (hs1 hn)) ?_
 refine wr'<|mw<|mw<|sn'<|Zaa<|Zah rz<|rtW'<|?_
 rw[show k=(ZaN es).length by omega,List.take_length];exact Wk.full
theorem occ1 {l:Bs}{x:UInt8}{j:Nat}(h:j<l.length):Lib.occAt l [x] j=(x==l[j]):=by
 unfold Lib.occAt;rw[List.drop_eq_getElem_cons h];simp[List.isPrefixOf]
theorem Zt7 {l:Bs}{x:UInt8}{i:Nat}(hi:i<l.length) (hx:l[i]=x) (hb : ∀ j (hj:j<l.length),j<i→l[j]≠x):Lib.index l [x]=i:=by
 refine Lib.index_hit (fun j hj=>?_) (Nat.le_of_lt hi) (by rw[occ1 hi,hx];simp)
 rw[occ1 om]
 simpa using fun e=>hb j om hj e.symm
theorem Zot {l:Bs}{x:UInt8}(hb : ∀ j (hj:j<l.length),l[j]≠x):Lib.index l [x] = -1:=by
 rcases Lib.index_spec l [x] with ⟨h,_⟩ | ⟨i,_,h2,h3,_⟩
 ·exact h
 exfalso
 rcases Nat.lt_or_ge i l.length with hi | hi
 ·rw[occ1 hi] at h3;exact hb i hi (by simpa using h3:x=l[i]).symm
 rw[Lib.occAt,List.drop_of_length_le hi] at h3;simp[List.isPrefixOf] at h3
theorem Zi9 {l:Bs}{p:Nat}(h:Lib.index l [37,115]=p) : ∃ h1:p<l.length,l[p]=37:=by
 rcases Lib.index_spec l [37,115] with ⟨h1,_⟩ | ⟨i,h1,h2,h3,_⟩
 ·omega
 obtain rfl:p=i:=by omega
 rcases Nat.lt_or_ge p l.length with hi | hi
 ·refine⟨hi,?_⟩
  rw[Lib.occAt,List.drop_eq_getElem_cons hi] at h3
  simp[List.isPrefixOf] at h3
  exact h3.1.symm
 rw[Lib.occAt,List.drop_of_length_le hi] at h3;simp[List.isPrefixOf] at h3
theorem ZlF {s:ByteArray}(h:allB Zbs s=true) {j:Nat}(hj:j<(aB s).length):(aB s)[j]≠37∧(aB s)[j]≠47:=by
 unfold allB at h
 rw[List.all_eq_true] at h
 have:=h (aB s)[j] (List.getElem_mem hj)
 constructor <;> (intro e;rw[e] at this;revert this;decide)
def ZpM (fm:ByteArray) (i:Nat):Prop := ∀ j (hj:j<(aB fm).length),j<i→(aB fm)[j]≠47∧(aB fm)[j]≠37
end Go.Proofs.YtlekejpogddndaaGreatDoor
end
