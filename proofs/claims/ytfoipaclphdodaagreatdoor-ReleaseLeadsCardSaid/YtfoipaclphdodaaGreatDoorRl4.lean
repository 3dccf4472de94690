/-
  Part 4 of the proof: own lemmas and contracts on plain data. No condition beyond those that each lemma states.
-/
import Derived.Test.YtfoipaclphdodaaGreatDoorRl3
import Derived.Sort.Walk0
import Derived.Lib.Strings
import Derived.Shelf.SlSortCmp.NoneTotal
import Derived.Laws.IdiomCopy
import Derived.Shelf.Spec.SlicesInsert
import Derived.Laws.NewBlocks
import Derived.Deep.RegionLaw
import Derived.Lib.Walk
import Derived.Shelf.RegionOpenPlain
set_option linter.all false
set_option maxRecDepth 1000000
set_option maxHeartbeats 4000000
namespace Go.Proofs.YtfoipaclphdodaaGreatDoor
section
open Go.Ab Go.RowKit Civ
attribute [local simp] ZbL Zce ZbZ Zbv Zbi ZdB ZdH tms_lt
theorem leI_tot (a b:Int):a≤b∨b≤a:=by omega
theorem leI_tr (a b c:Int):a≤b→b≤c→a≤c:=by omega
theorem ZqJ {a:List Rul}{z:List Zon}{k:List Lnk}{nm:ByteArray}{es:List Era}{h:AH}(hck : ∀ r∈a,∀ h,Ac 199 [.agg (rulC r)] h (iv (Zbo r))) (hok:okRs a) (ha:a.length≤9223372036854775807) (hz:okZ es) :
  Ac 56 [.agg (srcB a z k),.agg [sv nm,.sl es.length 10 false (rows eraC es)]] h (.tup [tabA (tabR (Zdx a es)).1,iv (tabR (Zdx a es)).2]):=by
 have hlen:=hz.len
 have hel:=ZcW es
 have htsz : ∀ n,(ZaY a es n).2.2.size≤maxLen:=fun n=>by have:=ZsU (rl:=a) (n:=n) (es:=es) (fun x hx=>(hz.fm x hx).1);simp only[maxLen];omega
 refine tW' k56 fun N hn hlt _ hbd=>?_
 simp only[tb'] at hbd ⊢
 refine wr'<|E' (ZaR cv rfl hl0 ha0) pt<|E' (ZaR cv rfl hl1 ha1) pt<|E' (ZaV hl2 ha2) pt<|ms<|wr'<|Vw (Zag lk gx Zb7 rfl)<|Vw (Zag lk gx ZrC rfl)<|Zad mp (rtell_g hck hok ha hz) pt<|E' (ZaV hl3 ha3) pt<|?_
 refine E' (Zai lk6 (cvl lk19 rfl) gx rfl nb rfl Zd8 hs3) ptn<|sn'<|wr'<|mv' lkn pt7<|Zam<|ZaP (ALe.own0' (st':=1) (ty:=3) gt7 hl4 pt7 ha4)<|Zac<|wr'<|mv' lki pt8<|sn'<|?_
 refine Zaf ?_
 refine w_lp (ι:=Nat×List Int×Nat) (fun (x_:Nat×List Int×Nat)=>match x_ with | ⟨kk,L,v⟩=>[(7,.own (N+4) v L.length),(8,iv (kk:Int)),(9,.any)]++rn' 20 29) (fun (x_:Nat×List Int×Nat)=>match x_ with | ⟨kk,L,v⟩=>[(4,.mk v 3 1 (rows intC L))]) (fun (x_:Nat×List Int×Nat)=>match x_ with | ⟨kk,L,v⟩=>kk≤es.length∧L=Znl a (es.take kk)) (fun (x_:Nat×List Int×Nat)=>match x_ with | ⟨kk,L,v⟩=>es.length-kk) (⟨0,[],0⟩) (by exact⟨Nat.zero_le _,rfl⟩) ?_
 rintro⟨kk,L,v⟩ hi1
 try simp only[sm',Nat.reduceAdd]
 obtain⟨hk1,hk2⟩:=hi1
 have hL1:=ZlJ a (es.take kk)
 have hL2:=Zoa a (es.take kk)
 rw[List.length_take] at hL2
 rw[←hk2] at hL1
 refine Zac<|wm<|fq<|Vw (Zaa lk gx gt3)<|Vw (ZaA lk)<|Vw (ZaO lk lk)<|sn'<|?_
 refine cd' lk (fun hc1=>?_) (fun hc1=>?_)
 ·have hk:kk<es.length:=by omega
  have htl:=Zcu (rl:=a) (x:=es[kk])
  refine za<|Zac<|Zaf<|wk'<|Zaf<|?_
  refine w_lp (ι:=Nat×List Int×Nat) (fun (x_:Nat×List Int×Nat)=>match x_ with | ⟨j,M,w⟩=>[(7,.own (N+4) w M.length),(9,iv (j:Int))]++rn' 27 22) (fun (x_:Nat×List Int×Nat)=>match x_ with | ⟨j,M,w⟩=>[(4,.mk w 3 1 (rows intC M))]) (fun (x_:Nat×List Int×Nat)=>match x_ with | ⟨j,M,w⟩=>j≤(ZaG a es[kk]).length∧M=L++((ZaG a es[kk]).take j).map (·.1)) (fun (x_:Nat×List Int×Nat)=>match x_ with | ⟨j,M,w⟩=>(ZaG a es[kk]).length-j) (⟨0,L,v⟩) (by exact⟨Nat.zero_le _,by simp⟩) ?_
  rintro⟨j,M,w⟩ hi2
  try simp only[sm',Nat.reduceAdd]
  obtain⟨hj1,hj2⟩:=hi2
  have hM1:M.length=L.length+j:=by rw[hj2,List.length_append,List.length_map,List.length_take];omega
  refine Zac<|wm<|fq<|Vw (Zaa lk gx gt3)<|mw<|?_
  refine V' (ZaJ lk lk Zeg nb ro om ro rfl) pt ?_
  refine Vw (Zax lk gt)<|Vw (ZaA lk)<|Vw (ZaO lk lk)<|sn'<|?_
  refine cd' lk (fun hc2=>?_) (fun hc2=>?_)
  ·have hj:j<(ZaG a es[kk]).length:=by omega
   refine za<|Zac<|Zaf<|Zap<|mw<|fq<|Vw (Zaa lk gx gt3)<|mw<|?_
   refine V' (ZaJ lk lk Zeg nb ro om ro rfl) pt ?_
   refine Vw (Zax lk gt)<|mw<|?_
   refine V' (ZaJ lk lk Zdl nb ro om ro rfl) pt ?_
   refine Vw (Zbl lk dp0)<|Vw (Zax lk gt)<|E' (Zcz (ZiN cv rfl) hl5 ha5) pt<|?_
   refine E' (ZbK (Zbp lk gx rfl ZvP nb) lk gx (ZdT _) om rfl hs4) pt ?_
   refine mw<|Zam<|Zau<|Zan<|Zap<|mw<|?_
   refine ad<|mw<|Zam<|Zaz<|?_
   refine lU' (⟨j+1,M++[(ZaG a es[kk])[j].1],w+1⟩) (by (try dsimp only);exact⟨by omega,by rw[List.take_succ_eq_append_getElem hj,List.map_append,←List.append_assoc,←hj2];rfl⟩) (by refine zz ?_;exact bkE' 5 hn hlt (by repeat (first | exact wk0 | refine wka ?_ | refine wk1 rfl ?_ | refine wk1 (by first | rfl | exact ivx om | (rw[List.length_append];rfl)) ?_)) (by rw[ZaF,Zbu];rfl) (hT:=by simp[AV.lt,AV.ltL,Ent.lt]) (hE:=by simp[AV.lt,AV.ltL,Ent.lt]))
  refine Zay<|Zar<|Zar<|ZaN<|Zau<|Zan<|Zap<|mw<|?_
  refine ad<|mw<|Zam<|Zaz<|?_
  refine lT' (⟨kk+1,M,w⟩) (by (try dsimp only);exact⟨by omega,by rw[hj2,List.take_of_length_le (show (ZaG a es[kk]).length≤j by omega),List.take_succ_eq_append_getElem hk,ZqG,←hk2]⟩)
 have hL3:L=Znl a es:=by rw[hk2,List.take_of_length_le om]
 refine Zay<|Zar<|Zar<|ZaN<|Zan<|wm<|fq<|Vw (Zaa lk gx gt2)<|?_
 refine E' (ZbK (ZkH lk (ZdT _)) lk gx (ZdT _) om (int_leaf _) hs4) pt ?_
 refine ms<|Zac<|wk'<|Zaf<|?_
 refine ZeB (ι:=Nat×List Int×Nat) (fun (x_:Nat×List Int×Nat)=>match x_ with | ⟨i,M,w⟩=>[(7,.own (N+4) w M.length),(10,iv (i:Int)),(11,.any)]++rn' 53 39) (fun (x_:Nat×List Int×Nat)=>match x_ with | ⟨i,M,w⟩=>[(4,.mk w 3 1 (rows intC M))]) (fun (x_:Nat×List Int×Nat)=>match x_ with | ⟨i,M,w⟩=>1≤i∧M.Perm (ZdI a es)∧(M.take i).Pairwise (· ≤ ·)) (fun (x_:Nat×List Int×Nat)=>match x_ with | ⟨i,M,w⟩=>(ZdI a es).length+1-i) (⟨1,L++ZaI es,v+1⟩) (by exact⟨Nat.le_refl _,(by rw[hL3];exact List.Perm.refl _),take1_pw _⟩) (by try simp only[sm',Nat.reduceAdd];exact ALe.same (by repeat (first | exact wk0 | refine wka ?_ | refine wk1 rfl ?_ | refine wk1 (by first | rfl | exact ivx om | (rw[List.length_append])) ?_)) (by first | (rw[ZaF];done) | (rw[ZaF];rfl))) ?_
 rintro⟨i,M,w⟩ hi3
 try simp only[sm',Nat.reduceAdd]
 obtain⟨hm1,hm2,hm3⟩:=hi3
 have hML:=hm2.length_eq
 have hsl:=Zta a es
 have hcl:=Zoa a es
 refine Zac<|wm<|mw<|Vw (Zcm lk)<|Vw (ZaO lk lk)<|sn'<|?_
 refine cd' lk (fun hc3=>?_) (fun hc3=>?_)
 ·have hi:i<M.length:=by omega
  refine za<|Zac<|Zaf<|wm<|ms<|Zaf<|?_
  refine w_lp (ι:=Nat×List Int) (fun (x_:Nat×List Int)=>match x_ with | ⟨q,K⟩=>[(7,.own (N+4) w K.length),(11,iv (q:Int))]++rn' 60 32) (fun (x_:Nat×List Int)=>match x_ with | ⟨q,K⟩=>[(4,.mk w 3 1 (rows intC K))]) (fun (x_:Nat×List Int)=>match x_ with | ⟨q,K⟩=>q≤i∧K.Perm M∧insR (· ≤ ·) i q K) (fun (x_:Nat×List Int)=>match x_ with | ⟨q,K⟩=>q) (⟨i,M⟩) (by exact⟨Nat.le_refl _,List.Perm.refl _,ZgT hi hm3⟩) ?_
  rintro⟨q,K⟩ hi4
  try simp only[sm',Nat.reduceAdd]
  obtain⟨hq1,hq2,hq3⟩:=hi4
  have hKL:=hq2.length_eq
  refine Zac<|Zac<|ZaH<|Dw vm<|Dw (ZbE lk lki)<|Dw vm<|?_
  refine dq' (t:=62) gt pt pt (fun hg62=>?_) (fun hg62=>?_)
  ·obtain⟨j,rfl⟩ : ∃ j,q=j+1:=⟨q-1,by omega⟩
   have hz3:j+1<K.length:=by omega
   refine dO<|Dw vm<|dO<|Dw vm<|dO<|?_
   refine D' (ZaT (k:=j+1) lk lk gx ZaW nb ro om (by first | rfl | (simp;done) | omega)) pt ?_
   refine d_do gt ?_
   refine D' (Zee lk gx ZaW om rfl) pt ?_
   refine dO<|Dw vm<|dO<|Dw vm<|dO<|?_
   refine D' (Za3 lk lki om om) pt ?_
   refine d_do gt ?_
   refine D' (ZaT (k:=j) lk lk gx ZaW nb ro om (by first | rfl | (simp;done) | omega)) pt ?_
   refine d_do gt ?_
   refine D' (Zee lk gx ZaW om rfl) pt ?_
   refine dO<|Dw (ZaO lk lk)<|Dw (Zal lk lk)<|ZaM<|?_
   refine Za5 ?_
   refine sn' ?_
   refine cd' lk (fun hc4=>?_) (fun hc4=>?_)
   ·have hz6:¬K[j]≤K[j+1]:=by omega
    obtain⟨hz4,hz5⟩:=Zin leI_tot hq3 hz3 hz6
    refine za<|Zac<|Zaf<|ZaH<|Dw vm<|Dw vm<|Dw vm<|Dw vm<|?_
    refine D' (Za3 lk lki om om) pt ?_
    refine Dw vm<|Dw vm<|?_
    refine D' (Za3 lk lki om om) pt ?_
    refine D' (ZaT (k:=j) lk lk gx ZaW nb ro om (by first | rfl | (simp;done) | omega)) pt ?_
    refine D' (Zee lk gx ZaW om rfl) pt ?_
    refine Dw vm<|Dw vm<|?_
    refine D' (ZaT (k:=j+1) lk lk gx ZaW nb ro om (by first | rfl | (simp;done) | omega)) pt ?_
    refine D' (Zee lk gx ZaW om rfl) pt ?_
    refine D' (ZaT (k:=j+1) lk lk gx ZaW nb ro om (by first | rfl | (simp;done) | omega)) pt ?_
    refine ZaM ?_
    refine Za5 ?_
    refine E' (Zgj (z:=K[j]) lk cv gx ZaW rfl om hs4) ptn ?_
    refine V' (ZaT (k:=j) lk lk gx ZaW nb (by first | rfl | first | omega | (rw[List.length_set];omega)) (by first | omega | (rw[List.length_set];omega)) (by first | rfl | (simp;done) | first | omega | (rw[List.length_set];omega))) pt ?_
    refine E' (Zgj (z:=K[j+1]) lk cv gx ZaW rfl (by first | omega | (rw[List.length_set];omega)) hs4) ptn ?_
    refine Zam<|Zau<|Zan<|Zap<|mw<|?_
    refine V' (Za3 lk lki om om) pt ?_
    refine mw<|Zam<|Zaz<|?_
    refine lU' (⟨j,(K.set (j+1) K[j]).set j K[j+1]⟩) (by (try dsimp only);exact⟨by omega,hz5.trans hq2,hz4⟩) (by refine zz ?_;exact ALe.same (by repeat (first | exact wk0 | refine wka ?_ | refine wk1 rfl ?_ | refine wk1 (by first | rfl | exact ivx om | (simp;done)) ?_)) rfl)
   have hz7:K[j]≤K[j+1]:=by omega
   have hz6:=ZgR leI_tr hq3 hz3 hz7
   refine Zay<|Zar<|Zar<|ZaN<|Zau<|Zan<|Zap<|mw<|?_
   refine ad<|mw<|Zam<|Zaz<|?_
   refine lT' (⟨i+1,K,w⟩) (by (try dsimp only);exact⟨by omega,hq2.trans hm2,hz6⟩)
  obtain rfl:q=0:=by omega
  have hz6:=ZgS hq3
  refine dn<|dn<|dn<|dn<|dn<|dn<|dn<|dn<|dn<|dn<|Dw (Zaj lk lkb)<|ZaM<|?_
  refine Za5 ?_
  refine sn'<|Za8 lk<|Zay<|Zar<|Zar<|ZaN<|Zau<|Zan<|Zap<|mw<|?_
  refine ad<|mw<|Zam<|Zaz<|?_
  refine lT' (⟨i+1,K,w⟩) (by (try dsimp only);exact⟨by omega,hq2.trans hm2,hz6⟩)
 rw[List.take_of_length_le om] at hm3
 have hTab:=ZtB (rl:=a) (es:=es) hm2 hm3
 have hTR:=Zs2 (ZeK (ZaY a es) M)
 rw[hTab] at hTR
 have hT1:(Zdx a es).1=ZaY a es tMin:=by rw[←hTab];rfl
 have hT2:(Zdx a es).2=chgs (ZaY a es) M:=by rw[←hTab];rfl
 rw[hT1,hT2] at hTR
 refine Zay<|Zar<|Zar<|ZaN<|Zan<|Zac<|ZaH<|Dw (Zag lk gx Zdr rfl)<|?_
 refine ZaC mp0 (fun hE hX=>ZjB) pt ?_
 refine ZaC mp (fun hE hX=>Ztt hz) pt ?_
 refine Dw (Zat (ZiM cv rfl))<|Zc5 rfl rfl (hlk hn rfl) (Zil) pt Zgy<|ZaM<|?_
 refine Zc4 ZrE ?_
 refine E' (Zai lk cv gx rfl nb rfl Zd8 hs5) ptn<|sn'<|wr'<|fq<|Vw (Zag lk gx Zb7 rfl)<|E' (ZaV hl6 ha6) pt<|E' (Zai lk cv gx rfl nb rfl Zfl hs6) ptn<|sn'<|wr'<|Vw (Zag lk gx Zb7 rfl)<|?_
 refine Zad mp (Zga (htsz _)) pt<|ms<|Zac<|wm<|Zam<|?_
 refine ZaP (ALe.own0Cell (st':=4) (ty:=89) gx gt3 hl7 pt3 (Eq.trans (congrArg (fun z=>List.set z _ _) ha7) hs5)) ?_
 refine Zaf ?_
 refine ZeB (ι:=Nat×Nat) (fun (x_:Nat×Nat)=>match x_ with | ⟨i5,v5⟩=>[(14,iv (rbad (ZaY a es tMin) (chgs (ZaY a es) (M.take i5)))),(15,iv (i5:Int)),(16,.any)]++rn' 100 45) (fun (x_:Nat×Nat)=>match x_ with | ⟨i5,v5⟩=>[(5,.mk 0 38 4 [iv (ZaY a es tMin).1,iv (ZaY a es tMin).2.1,sv (ZaY a es tMin).2.2,.own (N+7) v5 (chgs (ZaY a es) (M.take i5)).length]),(6,.mk 0 35 3 (locC3 (Zep (ZaY a es tMin) (chgs (ZaY a es) (M.take i5))))),(7,.mk v5 89 4 (rows chgC (chgs (ZaY a es) (M.take i5))))]) (fun (x_:Nat×Nat)=>match x_ with | ⟨i5,v5⟩=>i5≤M.length) (fun (x_:Nat×Nat)=>match x_ with | ⟨i5,v5⟩=>M.length-i5) (⟨0,0⟩) (by exact Nat.zero_le _) (by try simp only[sm',Nat.reduceAdd];exact ALe.same (by repeat (first | exact wk0 | refine wka ?_ | refine wk1 rfl ?_ | refine wk1 (by first | rfl | exact ivx (Zpm _).symm | exact ivx (by rw[List.take_zero,chgs_nil,Zpm])) ?_)) rfl) ?_
 rintro⟨i5,v5⟩ hi5
 try simp only[sm',Nat.reduceAdd]
 replace hi5:i5≤M.length:=hi5
 have hcL:=chgs_len (g:=ZaY a es) (M.take i5)
 rw[List.length_take] at hcL
 refine Zac<|wm<|mw<|Vw (Zcm lk)<|Vw (ZaO lk lk)<|sn'<|?_
 refine cd' lk (fun hc5=>?_) (fun hc5=>?_)
 ·have hi:i5<M.length:=by omega
  have htk:=List.take_succ_eq_append_getElem hi
  refine za<|Zac<|Zaf<|Zac<|Zac<|ZaH<|Dw vm<|Dw vm<|?_
  refine D' (ZaT lk lk gx ZaW nb ro om (by first | rfl | (simp;done) | omega)) pt ?_
  refine D' (Zee lk gx ZaW om rfl) pt ?_
  refine ZaC mp0 (fun hE hX=>ZjB) pt ?_
  refine Dw (ZdF lk lk)<|Dw vm<|?_
  refine dq' (t:=112) gt pt pt (fun hg112=>?_) (fun hg112=>?_)
  ·have hC:chgs (ZaY a es) (M.take (i5+1))=chgs (ZaY a es) (M.take i5):=by rw[htk];exact Zqp (inT_no1 hg112)
   refine dn<|dn<|dn<|dn<|dn<|dn<|Dw (Zal lk lkb)<|ZaM<|?_
   refine Za5 ?_
   refine sn'<|Zbb lk<|Zay<|Zar<|ZaN<|Zan<|Zap<|mw<|?_
   refine ad<|mw<|Zam<|Zaz<|?_
   refine lU' (⟨i5+1,v5⟩) (by (try dsimp only);omega) (by refine zz ?_;exact ALe.same (by repeat (first | exact wk0 | refine wka ?_ | refine wk1 rfl ?_ | refine wk1 (by first | rfl | exact ivx om | (rw[hC];done) | (rw[hC,hB];done) | (rw[hC,hB];rfl)) ?_)) (by first | (rw[hC];done) | (rw[hC];rfl)))
  refine dO<|Dw vm<|dO<|Dw vm<|dO<|?_
  refine D' (ZaT lk lk gx ZaW nb ro om (by first | rfl | (simp;done) | omega)) pt ?_
  refine d_do gt ?_
  refine D' (Zee lk gx ZaW om rfl) pt ?_
  refine d_do gt ?_
  refine ZaC mp0 (fun hE hX=>Ztv) pt ?_
  refine dO<|Dw (ZbE lk lk)<|Dw (Zaj lk lk)<|ZaM<|?_
  refine Za5 ?_
  refine sn' ?_
  refine cd' lk (fun hc6=>?_) (fun hc6=>?_)
  ·have hC:chgs (ZaY a es) (M.take (i5+1))=chgs (ZaY a es) (M.take i5):=by rw[htk];exact Zqp (inT_no2 hc6)
   refine Zay<|Zar<|ZaN<|Zan<|Zap<|mw<|?_
   refine ad<|mw<|Zam<|Zaz<|?_
   refine lU' (⟨i5+1,v5⟩) (by (try dsimp only);omega) (by refine zz ?_;exact ALe.same (by repeat (first | exact wk0 | refine wka ?_ | refine wk1 rfl ?_ | refine wk1 (by first | rfl | exact ivx om | (rw[hC];done) | (rw[hC,hB];done) | (rw[hC,hB];rfl)) ?_)) (by first | (rw[hC];done) | (rw[hC];rfl)))
  have hI:inT M[i5]=true:=inT_yes hg112 hc6
  refine za<|Zac<|ZaH<|Dw (Zag lk gx Zdr rfl)<|Dw vm<|Dw vm<|?_
  refine D' (ZaT lk lk gx ZaW nb ro om (by first | rfl | (simp;done) | omega)) pt ?_
  refine D' (Zee lk gx ZaW om rfl) pt ?_
  refine ZaC mp (fun hE hX=>Ztt hz) pt ?_
  refine Zc5 rfl rfl (hlk hn rfl) (Zil) pt Zgy<|ZaM<|?_
  refine Zc4 ZrD ?_
  refine E' (Zai lk cv gx rfl nb rfl Zfl hs8) ptn<|sn'<|Zac<|wr'<|Vw (Zag lk gx Zb7 rfl)<|Vw (Zag lk gx Zb7 rfl)<|Vw (Zo3 lk lk Zoz)<|sn'<|?_
  refine cd' lk (fun hc7=>?_) (fun hc7=>?_)
  ·have hw:ZaY a es M[i5]=Zep (ZaY a es tMin) (chgs (ZaY a es) (M.take i5)):=by obtain⟨x1,x2,x3⟩:=hc7;exact Prod.ext x1 (Prod.ext x2 x3)
   have hC:chgs (ZaY a es) (M.take (i5+1))=chgs (ZaY a es) (M.take i5):=by rw[htk];exact Zvi hI hw
   refine Zay<|Zar<|ZaN<|Zan<|Zap<|mw<|?_
   refine ad<|mw<|Zam<|Zaz<|?_
   refine lU' (⟨i5+1,v5⟩) (by (try dsimp only);omega) (by refine zz ?_;exact bkE' 8 hn hlt (by repeat (first | exact wk0 | refine wka ?_ | refine wk1 rfl ?_ | refine wk1 (by first | rfl | exact ivx om | (rw[hC];done) | (rw[hC,hB];done) | (rw[hC,hB];rfl)) ?_)) (by first | (rw[hC];done) | (rw[hC];rfl)) (hT:=by simp[AV.lt,AV.ltL,Ent.lt]) (hE:=by simp[AV.lt,AV.ltL,Ent.lt]))
  have hw:¬ZaY a es M[i5]=Zep (ZaY a es tMin) (chgs (ZaY a es) (M.take i5)):=fun e=>hc7 (by rw[e];exact⟨rfl,rfl,rfl⟩)
  have hC:chgs (ZaY a es) (M.take (i5+1))=chgs (ZaY a es) (M.take i5)++[(M[i5],ZaY a es M[i5])]:=by rw[htk];exact chgs_new hI hw
  have hB:=ZtF (ZaY a es tMin) (chgs (ZaY a es) (M.take i5)) (M[i5],ZaY a es M[i5])
  have hW:=Zq0 (ZaY a es tMin) (chgs (ZaY a es) (M.take i5)) (M[i5],ZaY a es M[i5])
  refine za<|Zac<|wm<|Vw (Za7 lk lki)<|sn'<|?_
  refine cd' lk (fun hc8=>?_) (fun hc8=>?_)
  ·rw[if_pos hc8] at hB
   refine Zap<|Vw (Zag lk gx Zb7 rfl)<|Zad mp (Zga (htsz _)) pt<|ms<|Zac<|ZaH<|dg<|Dw (Zaa lk gx gt3)<|Dw vm<|Dw vm<|?_
   refine D' (ZaT lk lk gx ZaW nb ro om (by first | rfl | (simp;done) | omega)) pt ?_
   refine D' (Zee lk gx ZaW om rfl) pt ?_
   refine Dw (Zag lk gx Zb7 rfl)<|Dw (Zat (ZeJ cv rfl cv rfl))<|Zc5 rfl rfl (hlk hn rfl) (ZfJ (ZeI cv rfl)) pt Zgy<|ZaM<|?_
   refine Zc4 Zkb ?_
   refine E' (ZbK (Zbp lk gx rfl ZmE nb) lk gx (Zbj _) om rfl hs7) pt ?_
   refine fq<|E' (Zai lk cv gx rfl nb rfl Zka hs5) ptn<|sn'<|Zap<|Vw (Zag lk gx Zb7 rfl)<|E' (Zai lk cv gx rfl nb rfl Zfl hs6) ptn<|Zam<|Zau<|Zan<|Zap<|mw<|?_
   refine ad<|mw<|Zam<|Zaz<|?_
   refine lU' (⟨i5+1,v5+1⟩) (by (try dsimp only);omega) (by refine zz ?_;exact bkE' 8 hn hlt (by repeat (first | exact wk0 | refine wka ?_ | refine wk1 rfl ?_ | refine wk1 (by first | rfl | exact ivx om | (rw[hC];done) | (rw[hC,hB];done) | (rw[hC,hB];rfl)) ?_)) (by rw[hC,hW,List.length_append,ZaF,Zbu];rfl) (hT:=by simp[AV.lt,AV.ltL,Ent.lt]) (hE:=by simp[AV.lt,AV.ltL,Ent.lt]))
  rw[if_neg hc8] at hB
  refine za<|Zac<|ZaH<|dg<|Dw (Zaa lk gx gt3)<|Dw vm<|Dw vm<|?_
  refine D' (ZaT lk lk gx ZaW nb ro om (by first | rfl | (simp;done) | omega)) pt ?_
  refine D' (Zee lk gx ZaW om rfl) pt ?_
  refine Dw (Zag lk gx Zb7 rfl)<|Dw (Zat (ZeJ cv rfl cv rfl))<|Zc5 rfl rfl (hlk hn rfl) (ZfJ (ZeI cv rfl)) pt Zgy<|ZaM<|?_
  refine Zc4 Zkb ?_
  refine E' (ZbK (Zbp lk gx rfl ZmE nb) lk gx (Zbj _) om rfl hs7) pt ?_
  refine fq<|E' (Zai lk cv gx rfl nb rfl Zka hs5) ptn<|sn'<|Zap<|Vw (Zag lk gx Zb7 rfl)<|E' (Zai lk cv gx rfl nb rfl Zfl hs6) ptn<|Zam<|Zau<|Zan<|Zap<|mw<|?_
  refine ad<|mw<|Zam<|Zaz<|?_
  refine lU' (⟨i5+1,v5+1⟩) (by (try dsimp only);omega) (by refine zz ?_;exact bkE' 8 hn hlt (by repeat (first | exact wk0 | refine wka ?_ | refine wk1 rfl ?_ | refine wk1 (by first | rfl | exact ivx om | (rw[hC];done) | (rw[hC,hB];done) | (rw[hC,hB];rfl)) ?_)) (by rw[hC,hW,List.length_append,ZaF,Zbu];rfl) (hT:=by simp[AV.lt,AV.ltL,Ent.lt]) (hE:=by simp[AV.lt,AV.ltL,Ent.lt]))
 have hi:M.take i5=M:=List.take_of_length_le om
 rw[hi] at *
 refine Zay<|Zar<|Zar<|ZaN<|Zan<|Zac<|wm<|Vw (Za7 lk lki)<|mw<|?_
 refine sp' (t:=147) gt pt pt (fun hg147=>?_) (fun hg147=>?_)
 ·refine sd<|fq<|sd<|Vw (Zaa lk gx gt3)<|sd<|Vw (Zcm lk)<|sd<|Vw (ZbE lk lki)<|Vw (Zal lk lk)<|sn'<|?_
  refine cd' lk (fun hc9=>?_) (fun hc9=>?_)
  ·rw[if_neg (fun e=>e hg147),if_pos om] at hTR
   refine Zap<|ms<|Zac<|wm<|Vw (Zba lk lki)<|sn'<|?_
   refine ZeM lk (by rfl) ?_
   refine wr'<|Vw (Zat ZeH)<|mw<|E' (Zai lk cv gx rfl nb rfl Zd8 hs2) ptn<|mr<|Zah<|Zae (rsn (rm1 (rr_c gt gx (ld1 Zdr rfl)) (rm1 (rr_t gt) rm0)))<|rtW'<|?_
   rw[hTR];exact ZfU
  rw[if_neg (fun e=>e hg147),if_neg om] at hTR
  refine za<|Zac<|wm<|Vw (Zba lk lki)<|sn'<|?_
  refine ZdG lk (by exact decide_eq_false (fun e=>e hg147)) ?_
  refine ZaB ?_
  refine ZaP (ALe.iceCellR (hga hn rfl) (hga hn rfl) om gt3 (List.take_of_length_le (by rw[Zbj];exact Nat.le_refl _)) (by rw[Zbj];exact Nat.le_refl _) pt3 hs7 hs5) ?_
  refine wr'<|Vw (Zag lk gx Zdr rfl)<|E' (Zai lk cv gx rfl nb rfl Zd8 hs2) ptn<|mr<|Zae (rsn (rm1 (rr_c gt gx (ld1 Zdr rfl)) (rm1 (rr_t gt) rm0)))<|rtW'<|?_
  rw[hTR];show Wk _ (.tup [tabA (Zdx a es),iv 0]);rw[show Zdx a es=(ZaY a es tMin,chgs (ZaY a es) M) from Prod.ext hT1 hT2];exact Wk.tup (wkw (Wk.agg (wk1 rfl (wk1 rfl (wk1 rfl (wkw Wk.full wk0))))) (wk1 rfl wk0))
 rw[if_pos hg147] at hTR
 refine so<|so<|so<|so<|Vw (Zaj lk lkb)<|sn'<|Za8 lk<|za<|Zac<|wm<|?_
 refine Vw (Zba lk lki)<|sn'<|?_
 refine ZeM lk (by exact decide_eq_true hg147) ?_
 refine wr'<|Vw (Zat ZeH)<|mw<|E' (Zai lk cv gx rfl nb rfl Zd8 hs2) ptn<|mr<|Zah<|Zae (rsn (rm1 (rr_c gt gx (ld1 Zdr rfl)) (rm1 (rr_t gt) rm0)))<|rtW'<|?_
 rw[hTR];exact ZfU
end
section
open Go.Ab Go.RowKit Civ
attribute [local simp] ZbL Zce ZbZ Zbv Zbi ZdB ZdH ZcL
theorem ZpB {t:Tab}(h:Zbd t=0):okT t:=by
 obtain⟨_,h2,h3⟩:=Zrk h
 have e:=Zuo h2
 refine⟨by simp only[maxLen];omega,fun x hx=>?_⟩
 have:=Zuo (h3 x hx).2
 simp only[maxLen];omega
end
section
open Go
def ltS (a b:ByteArray):Bool:=Op.bytesLess a.toList b.toList
theorem ZgP {a b:ByteArray}:ltS a b=true↔a.data.toList<b.data.toList:=by
 unfold ltS;rw[bytesLess_eq,Lib.toList_data,Lib.toList_data];simp
theorem Zif (a:ByteArray):ltS a a=false:=by
 rw[Bool.eq_false_iff,ne_eq,ZgP];exact List.lt_irrefl _
theorem Zho {a b c:ByteArray}(h1:ltS a b=true) (h2:ltS b c=true):ltS a c=true:=by
 rw[ZgP] at *;exact List.lt_trans h1 h2
theorem ZdS {a b:ByteArray}(h:ltS a b=true):ltS b a=false:=by
 rw[Bool.eq_false_iff,ne_eq,ZgP];rw[ZgP] at h;exact List.lt_asymm h
theorem ZjU {a b:ByteArray}(h:a.data.toList=b.data.toList):a=b:=by
 cases a;cases b;simp at h;congr 1
theorem ZnG {a b:ByteArray}(h1:ltS a b=false) (h2:ltS b a=false):a=b:=by
 rw[Bool.eq_false_iff,ne_eq,ZgP,List.not_lt] at *
 exact ZjU (List.le_antisymm h2 h1)
theorem ZjK {a b:ByteArray}(h:ltS a b=true):a≠b:=fun e=>by subst e;rw[Zif] at h;cases h
theorem Zmc {a b c:ByteArray}(h1:ltS b a=false) (h2:ltS b c=true):ltS a c=true:=by
 cases h:ltS a b with
 | true=>exact Zho h h2
 | false=>rw[ZnG h h1];exact h2
theorem Zmb {a b:ByteArray}(h:a≠b):ltS a b=true∨ltS b a=true:=by
 cases h1:ltS a b with
 | true=>exact .inl rfl
 | false =>
  cases h2:ltS b a with
  | true=>exact .inr rfl
  | false=>exact absurd (ZnG h1 h2) h
theorem Zij (a b:ByteArray):(Op.bytesLess a.toList b.toList||a.toList==b.toList)=!ltS b a:=by
 have e:(a.toList==b.toList)=decide (a=b):=by
  rw[Bool.eq_iff_iff,beq_iff_eq,decide_eq_true_iff]
  exact⟨fun h=>ZjU (by rwa [Lib.toList_data,Lib.toList_data] at h),fun h=>by rw[h]⟩
 rw[e]
 show (ltS a b||decide (a=b))=!ltS b a
 by_cases h:a=b
 ·subst h;simp[Zif]
 ·rcases Zmb h with h1 | h1
  ·rw[h1,ZdS h1];simp
  ·rw[h1,ZdS h1];simp[h]
def cmpS (a b:ByteArray):Int:=if ltS a b=true then -1 else if ltS b a=true then 1 else 0
theorem Zff {a b:ByteArray}:cmpS a b<0↔ltS a b=true:=by unfold cmpS;split <;> (try split) <;> simp_all
theorem Zu6 {a b:ByteArray}:cmpS a b=0↔a=b:=by
 unfold cmpS
 constructor
 ·intro h
  split at h
  ·cases h
  ·split at h
   ·cases h
   ·exact ZnG (by simp_all) (by simp_all)
 ·rintro rfl;rw[Zif];simp
theorem Zqn {a b:ByteArray}:0<cmpS a b↔ltS b a=true:=by
 unfold cmpS
 cases h1:ltS a b with
 | true=>simp[ZdS h1]
 | false=>cases h2:ltS b a <;> simp
section
variable {α : Type}
def risN (l:List (ByteArray×α)):Prop:=l.Pairwise fun a b=>ltS a.1 b.1=true
def ZaK:List (ByteArray×α)→ByteArray→Option α
 | [],_=>none
 | n::l,nm=>if n.1=nm then some n.2 else ZaK l nm
def hasN (l:List (ByteArray×α)) (nm:ByteArray):Bool:=l.any fun n=>decide (n.1=nm)
def idxN (l:List (ByteArray×α)) (nm:ByteArray):Nat:=l.findIdx fun n=>decide (n.1=nm)
def posN (l:List (ByteArray×α)) (nm:ByteArray):Nat:=l.findIdx fun n=>!ltS n.1 nm
def insN (l:List (ByteArray×α)) (n:ByteArray×α):List (ByteArray×α):=l.take (posN l n.1)++n::l.drop (posN l n.1)
theorem Zb1 : ∀ (l:List (ByteArray×α)) (nm:ByteArray),hasN l nm=(ZaK l nm).isSome
 | [],_=>rfl
 | n::l,nm=>by
  have ih:=Zb1 l nm
  unfold hasN at ih ⊢
  rw[List.any_cons,ZaK,ih]
  split
  ·rename_i h;simp[h]
  ·rename_i h;simp[h]
theorem Zmj (n:ByteArray×α) (l:List (ByteArray×α)) (nm:ByteArray):hasN (n::l) nm=(decide (n.1=nm)||hasN l nm):=rfl
theorem ZcE {l:List (ByteArray×α)}{nm:ByteArray}:hasN l nm=true↔nm∈l.map (·.1):=by
 unfold hasN;simp only[List.any_eq_true,decide_eq_true_eq,List.mem_map]
theorem Zb5 {l:List (ByteArray×α)}{nm:ByteArray}:ZaK l nm=none↔nm ∉ l.map (·.1):=by
 rw[←ZcE,Zb1];cases ZaK l nm <;> simp
theorem Zcn : ∀ {l:List (ByteArray×α)}{nm:ByteArray}{t:α},ZaK l nm=some t→(nm,t)∈l
 | n::l,nm,t,h=>by
  rw[ZaK] at h
  split at h
  ·rename_i e;subst e;cases h;exact List.mem_cons_self
  ·exact List.mem_cons_of_mem _ (Zcn h)
theorem ZcX {n m:ByteArray×α}{l:List (ByteArray×α)}(h:risN (n::l)) (hm:m∈l):ltS n.1 m.1=true:=(List.pairwise_cons.1 h).1 m hm
theorem Zd0 {n:ByteArray×α}{l:List (ByteArray×α)}(h:risN (n::l)):risN l:=(List.pairwise_cons.1 h).2
theorem Zgc : ∀ {l:List (ByteArray×α)}{nm:ByteArray}{t:α},risN l→(nm,t)∈l→ZaK l nm=some t
 | n::l,nm,t,hr,h=>by
  rw[ZaK]
  rcases List.mem_cons.1 h with rfl | h
  ·rw[if_pos rfl]
  ·rw[if_neg (ZjK (ZcX hr h))]
   exact Zgc (Zd0 hr) h
theorem ZgI {l:List (ByteArray×α)}(h:risN l):(l.map (·.1)).Nodup:=List.pairwise_map.2 (h.imp fun h=>ZjK h)
theorem Znr : ∀ {l m:List (ByteArray×α)},risN l→risN m→(∀ nm,ZaK l nm=ZaK m nm)→l=m
 | [],[],_,_,_=>rfl
 | [],n::m,_,_,h=>by have:=h n.1;rw[ZaK,ZaK,if_pos rfl] at this;cases this
 | n::l,[],_,_,h=>by have:=h n.1;rw[ZaK,ZaK,if_pos rfl] at this;cases this
 | n::l,k::m,hl,hm,h=>by
  have key:n.1=k.1:=by
   refine Decidable.byContradiction fun hne=>?_
   rcases Zmb hne with h1 | h1
   ·have:=h n.1
    rw[ZaK,if_pos rfl,ZaK,if_neg (Ne.symm hne)] at this
    have h2:=ZcX hm (Zcn this.symm)
    have:=ZdS h1;rw[h2] at this;cases this
   ·have:=h k.1
    rw[ZaK,if_neg hne,ZaK,if_pos rfl] at this
    have h2:=ZcX hl (Zcn this)
    have:=ZdS h1;rw[h2] at this;cases this
  have hv:n.2=k.2:=by
   have:=h n.1
   rw[ZaK,if_pos rfl,ZaK,if_pos key.symm] at this
   exact Option.some.inj this
  have e:n=k:=Prod.ext key hv
  subst e
  refine congrArg _ (Znr (Zd0 hl) (Zd0 hm) fun nm=>?_)
  by_cases hn:n.1=nm
  ·subst hn
   rw[Zb5.2 fun hx=>?_,Zb5.2 fun hx=>?_]
   ·obtain⟨x,hx,e⟩:=List.mem_map.1 hx;exact ZjK (ZcX hm hx) e.symm
   ·obtain⟨x,hx,e⟩:=List.mem_map.1 hx;exact ZjK (ZcX hl hx) e.symm
  ·have:=h nm
   rwa [ZaK,if_neg hn,ZaK,if_neg hn] at this
theorem pos_is {l:List (ByteArray×α)}{nm:ByteArray}{i:Nat}(hi:i≤l.length) (h1 : ∀ k (h:k<l.length),k<i→ltS l[k].1 nm=true) (h2 : ∀ k (h:k<l.length),i≤k→ltS l[k].1 nm=false):posN l nm=i:=by
 unfold posN
 rcases Nat.lt_or_ge i l.length with hlt | hge
 ·rw[List.findIdx_eq hlt]
  exact⟨by rw[h2 i hlt (Nat.le_refl _)];rfl,fun j hj=>by rw[h1 j om hj];rfl⟩
 ·rw[List.findIdx_eq_length.2 fun x hx=>by obtain⟨k,hk,rfl⟩:=List.getElem_of_mem hx;rw[h1 k hk om];rfl]
  omega
theorem ZtQ (l:List (ByteArray×α)) (nm:ByteArray):posN l nm≤l.length:=List.findIdx_le_length
theorem ZjO {l:List (ByteArray×α)}{nm:ByteArray}(h:hasN l nm=true) : ∃ hi:idxN l nm<l.length,l[idxN l nm].1=nm:=by
 have hi:idxN l nm<l.length:=List.findIdx_lt_length.2 (by unfold hasN at h;simpa using h)
 have:=List.findIdx_getElem (w:=hi)
 exact⟨hi,of_decide_eq_true this⟩
theorem pos_low {l:List (ByteArray×α)}{nm:ByteArray}{k:Nat}(h:k<posN l nm):ltS (l[k]'(Nat.lt_of_lt_of_le h (ZtQ l nm))).1 nm=true:=by
 have:=List.not_of_lt_findIdx h
 simpa using this
theorem pos_high {l:List (ByteArray×α)}(hr:risN l) {nm:ByteArray}{k:Nat}(hk:k<l.length) (h:posN l nm≤k):ltS l[k].1 nm=false:=by
 have hp:posN l nm<l.length:=by omega
 have h0:ltS l[posN l nm].1 nm=false:=by
  have:=List.findIdx_getElem (w:=hp)
  rw[Bool.not_eq_true'] at this;exact this
 rcases Nat.lt_or_ge (posN l nm) k with e | e
 ·have:=List.pairwise_iff_getElem.1 hr _ _ hp hk e
  cases h1:ltS l[k].1 nm with
  | false=>rfl
  | true=>rw[Zho this h1] at h0;cases h0
 ·have:posN l nm=k:=by omega
  subst this;exact h0
theorem ZkT {l:List (ByteArray×α)}(hr:risN l) {nm:ByteArray}(h:hasN l nm=true):posN l nm=idxN l nm:=by
 obtain⟨hi,he⟩:=ZjO h
 refine pos_is (Nat.le_of_lt hi) (fun k hk hlt=>?_) fun k hk hge=>?_
 ·have:=List.pairwise_iff_getElem.1 hr _ _ hk hi hlt
  rwa [he] at this
 ·rcases Nat.lt_or_ge (idxN l nm) k with e | e
  ·have:=List.pairwise_iff_getElem.1 hr _ _ hi hk e
   rw[he] at this;exact ZdS this
  ·have:idxN l nm=k:=by omega
   subst this;rw[he];exact Zif _
theorem ZtR {l:List (ByteArray×α)}(hr:risN l) {nm:ByteArray}:hasN l nm=true ↔ ∃ h:posN l nm<l.length,l[posN l nm].1=nm:=by
 constructor
 ·intro h
  obtain⟨hi,he⟩:=ZjO h
  have e:=ZkT hr h
  exact⟨by rw[e];exact hi,by simp only[e];exact he⟩
 ·rintro⟨h,he⟩
  rw[ZcE]
  exact List.mem_map.2 ⟨_,List.getElem_mem h,he⟩
theorem ZpN {l:List (ByteArray×α)}{nm:ByteArray}:ZaK l nm=(l[idxN l nm]?).map (·.2):=by
 unfold idxN
 induction l with
 | nil=>rfl
 | cons n l ih =>
  rw[ZaK,List.findIdx_cons]
  split
  ·rename_i h;simp[h]
  ·rename_i h;simp[h,ih]
theorem ZjL : ∀ {l:List (ByteArray×α)}{nm x:ByteArray},risN l→ZaK (l.eraseIdx (idxN l nm)) x=if x=nm then none else ZaK l x
 | [],nm,x,_=>by simp[ZaK]
 | n::l,nm,x,hr=>by
  unfold idxN
  rw[List.findIdx_cons]
  by_cases h:n.1=nm
  ·simp only[h,decide_true,cond_true,List.eraseIdx_cons_zero]
   split
   ·rename_i hx;subst hx
    exact Zb5.2 fun hx=>by obtain⟨y,hy,e⟩:=List.mem_map.1 hx;exact ZjK (ZcX hr hy) (h.trans e.symm)
   ·rename_i hx;rw[ZaK,if_neg (fun e=>hx (by rw[←e,h]))]
  ·simp only[h,decide_false,cond_false,List.eraseIdx_cons_succ]
   have ih:=ZjL (l:=l) (nm:=nm) (x:=x) (Zd0 hr)
   unfold idxN at ih
   rw[ZaK,ih,ZaK]
   by_cases hx:x=nm
   ·rw[if_pos hx,if_pos hx,if_neg (by rw[hx];exact h)]
   ·rw[if_neg hx,if_neg hx]
theorem Zh5 {l:List (ByteArray×α)}(h:risN l) (i:Nat):risN (l.eraseIdx i):=h.sublist (List.eraseIdx_sublist _ _)
theorem ZpM : ∀ {l:List (ByteArray×α)}{nm x:ByteArray}{t:α},hasN l nm=true→ZaK (l.set (idxN l nm) (nm,t)) x=if x=nm then some t else ZaK l x
 | n::l,nm,x,t,hh=>by
  unfold idxN
  rw[List.findIdx_cons]
  by_cases h:n.1=nm
  ·simp only[h,decide_true,cond_true,List.set_cons_zero]
   rw[ZaK,ZaK]
   by_cases hx:x=nm
   ·rw[if_pos hx.symm,if_pos hx]
   ·rw[if_neg (Ne.symm hx),if_neg hx,if_neg (by rw[h];exact Ne.symm hx)]
  ·simp only[h,decide_false,cond_false,List.set_cons_succ]
   rw[Zmj] at hh
   simp only[h,decide_false,Bool.false_or] at hh
   have ih:=ZpM (x:=x) (t:=t) hh
   unfold idxN at ih
   rw[ZaK,ih,ZaK]
   by_cases hx:x=nm
   ·rw[if_pos hx,if_pos hx,if_neg (by rw[hx];exact h)]
   ·rw[if_neg hx,if_neg hx]
theorem ZlQ {l m:List (ByteArray×α)}(h:risN l) (e:m.map (·.1)=l.map (·.1)):risN m:=by
 have:(l.map (·.1)).Pairwise fun a b=>ltS a b=true:=List.pairwise_map.2 h
 rw[←e] at this
 exact List.pairwise_map.1 this
theorem Ztk {l:List (ByteArray×α)}{nm:ByteArray}{t:α}(h:hasN l nm=true):(l.set (idxN l nm) (nm,t)).map (·.1)=l.map (·.1):=by
 obtain⟨hi,he⟩:=ZjO h
 rw[List.map_set]
 show (l.map (·.1)).set (idxN l nm) nm=_
 have h2:(l.map (·.1))[idxN l nm]'(by simpa using hi)=nm:=by simpa using he
 exact (congrArg (fun z=>(l.map (·.1)).set (idxN l nm) z) h2.symm).trans (List.set_getElem_self _)
theorem Znq {l:List (ByteArray×α)}{nm:ByteArray}{t:α}(hr:risN l) (h:hasN l nm=true):risN (l.set (idxN l nm) (nm,t)):=ZlQ hr (Ztk h)
theorem Zig : ∀ (l m:List (ByteArray×α)) (x:ByteArray),ZaK (l++m) x=(ZaK l x).or (ZaK m x)
 | [],m,x=>by simp[ZaK]
 | n::l,m,x=>by
  rw[List.cons_append,ZaK,ZaK]
  split
  ·rfl
  ·exact Zig l m x
theorem look_ins {l:List (ByteArray×α)}{n:ByteArray×α}{x:ByteArray}(h:hasN l n.1=false):ZaK (insN l n) x=if x=n.1 then some n.2 else ZaK l x:=by
 unfold insN
 have e:ZaK l x=(ZaK (l.take (posN l n.1)) x).or (ZaK (l.drop (posN l n.1)) x):=by rw[←Zig,List.take_append_drop]
 rw[Zig,ZaK,e]
 by_cases hx:x=n.1
 ·subst hx
  have:ZaK (l.take (posN l n.1)) n.1=none:=Zb5.2 fun hm=>by
   have:hasN l n.1=true:=ZcE.2 (by obtain⟨y,hy,e⟩:=List.mem_map.1 hm;exact List.mem_map.2 ⟨y,List.mem_of_mem_take hy,e⟩)
   rw[h] at this;cases this
  rw[this];simp
 ·rw[if_neg (Ne.symm hx),if_neg hx]
theorem ZkP {l:List (ByteArray×α)}{n:ByteArray×α}(hr:risN l) (h:hasN l n.1=false):risN (insN l n):=by
 unfold insN risN
 rw[List.pairwise_append,List.pairwise_cons]
 have hlow : ∀ a∈l.take (posN l n.1),ltS a.1 n.1=true:=fun a ha=>by
  obtain⟨k,hk,rfl⟩:=List.getElem_of_mem ha
  rw[List.length_take] at hk
  rw[List.getElem_take]
  exact pos_low om
 have hhigh : ∀ b∈l.drop (posN l n.1),ltS n.1 b.1=true:=fun b hb=>by
  obtain⟨k,hk,rfl⟩:=List.getElem_of_mem hb
  rw[List.length_drop] at hk
  rw[List.getElem_drop]
  have h1:=pos_high hr (show posN l n.1+k<l.length by omega) (Nat.le_add_right _ _)
  refine (Zmb (fun e=>?_)).resolve_right (by rw[h1];simp)
  have:hasN l n.1=true:=ZcE.2 (List.mem_map.2 ⟨_,List.getElem_mem _,e.symm⟩)
  rw[h] at this;cases this
 refine⟨hr.sublist (List.take_sublist _ _),⟨hhigh,hr.sublist (List.drop_sublist _ _)⟩,fun a ha b hb=>?_⟩
 rcases List.mem_cons.1 hb with rfl | hb
 ·exact hlow a ha
 ·exact Zho (hlow a ha) (hhigh b hb)
theorem Zuv (l:List (ByteArray×α)) (n:ByteArray×α):(insN l n).length=l.length+1:=by
 unfold insN
 have:=ZtQ l n.1
 simp;omega
def Za2:List (ByteArray×α)→List ByteArray→List (ByteArray×α)×Int
 | l,[]=>(l,0)
 | l,d::ds=>if hasN l d=true then Za2 (l.eraseIdx (idxN l d)) ds else (l,5)
def ZcH:List (ByteArray×α)→List (ByteArray×α)→List (ByteArray×α)×Int
 | l,[]=>(l,0)
 | l,n::ns=>if hasN l n.1=true then (l,6) else ZcH (insN l n) ns
def Zbm {π:Type}(pe:α→π→Int) (pv:α→π→α):List (ByteArray×α)→List (ByteArray×π)→List (ByteArray×α)×Int
 | l,[]=>(l,0)
 | l,p::ps=>match ZaK l p.1 with
  | none=>(l,5)
  | some t=>if pe t p.2≠0 then (l,pe t p.2) else Zbm pe pv (l.set (idxN l p.1) (p.1,pv t p.2)) ps
theorem Zes {l:List (ByteArray×α)}{x:ByteArray}{t:α}(h:ZaK l x=some t):hasN l x=true:=by rw[Zb1,h];rfl
theorem Zms : ∀ {ds:List ByteArray}{l:List (ByteArray×α)},risN l→risN (Za2 l ds).1
 | [],_,h=>h
 | d::ds,l,h=>by rw[Za2];split;exact Zms (Zh5 h _);exact h
theorem Zpo : ∀ {ns l:List (ByteArray×α)},risN l→risN (ZcH l ns).1
 | [],_,h=>h
 | n::ns,l,h=>by
  rw[ZcH];split
  ·exact h
  ·rename_i h2;exact Zpo (ZkP h (by simpa using h2))
theorem ZlZ {π:Type}{pe:α→π→Int}{pv:α→π→α} : ∀ {ps:List (ByteArray×π)}{l:List (ByteArray×α)},risN l→risN (Zbm pe pv l ps).1
 | [],_,h=>h
 | p::ps,l,h=>by
  rw[Zbm];split
  ·exact h
  ·rename_i t ht
   split
   ·exact h
   ·exact ZlZ (Znq h (Zes ht))
theorem Zqh : ∀ {ds:List ByteArray}{l:List (ByteArray×α)},risN l→ds.Nodup→(∀ d∈ds,hasN l d=true)→(Za2 l ds).2=0 ∧ ∀ x,(x∈ds→ZaK (Za2 l ds).1 x=none)∧(x ∉ ds→ZaK (Za2 l ds).1 x=ZaK l x)
 | [],l,_,_,_=>⟨rfl,fun x=>⟨fun h=>(by cases h),fun _=>rfl⟩⟩
 | d::ds,l,h,hn,hd=>by
  rw[List.nodup_cons] at hn
  have hl:=fun x=>ZjL (nm:=d) (x:=x) h
  obtain⟨h1,h2⟩:=Zqh (ds:=ds) (Zh5 h (idxN l d)) hn.2 fun x hx=>by
   rw[Zb1,hl,if_neg (fun e=>hn.1 (by rw[←e];exact hx)),←Zb1];exact hd x (by simp[hx])
  rw[Za2,if_pos (hd d (by simp))]
  refine⟨h1,fun x=>⟨fun hx=>?_,fun hx=>?_⟩⟩
  ·rcases List.mem_cons.1 hx with rfl | hx
   ·rw[(h2 x).2 hn.1,hl,if_pos rfl]
   ·exact (h2 x).1 hx
  ·rw[List.mem_cons,not_or] at hx
   rw[(h2 x).2 hx.2,hl,if_neg hx.1]
theorem ZtH : ∀ {ns l:List (ByteArray×α)},risN l→(ns.map (·.1)).Nodup→(∀ n∈ns,hasN l n.1=false)→(ZcH l ns).2=0 ∧ ∀ x,ZaK (ZcH l ns).1 x=(ZaK ns x).or (ZaK l x)
 | [],l,_,_,_=>⟨rfl,fun x=>by simp[ZcH,ZaK]⟩
 | n::ns,l,h,hn,hd=>by
  rw[List.map_cons,List.nodup_cons] at hn
  have hd0:=hd n (by simp)
  have hl:=fun x=>look_ins (x:=x) hd0
  obtain⟨h1,h2⟩:=ZtH (ns:=ns) (ZkP h hd0) hn.2 fun x hx=>by
   rw[Zb1,hl,if_neg (fun e=>hn.1 (by rw[←e];exact List.mem_map.2 ⟨x,hx,rfl⟩)),←Zb1];exact hd x (by simp[hx])
  rw[ZcH,if_neg (by rw[hd0];simp)]
  refine⟨h1,fun x=>?_⟩
  rw[h2,hl,ZaK]
  by_cases e:x=n.1
  ·subst e
   rw[if_pos rfl,if_pos rfl,Zb5.2 hn.1];rfl
  ·rw[if_neg e,if_neg (Ne.symm e)]
theorem Zpr {π:Type}{pe:α→π→Int}{pv:α→π→α}{G:ByteArray→Option α} : ∀ {ps:List (ByteArray×π)}{l:List (ByteArray×α)},risN l→(ps.map (·.1)).Nodup→(∀ p∈ps,∃ t,ZaK l p.1=some t∧pe t p.2=0∧G p.1=some (pv t p.2)) →
  (Zbm pe pv l ps).2=0 ∧ ∀ x,(x∈ps.map (·.1)→ZaK (Zbm pe pv l ps).1 x=G x)∧(x ∉ ps.map (·.1)→ZaK (Zbm pe pv l ps).1 x=ZaK l x)
 | [],l,_,_,_=>⟨rfl,fun x=>⟨fun h=>(by cases h),fun _=>rfl⟩⟩
 | p::ps,l,h,hn,hd=>by
  rw[List.map_cons,List.nodup_cons] at hn
  obtain⟨t,h1,h2,h3⟩:=hd p (by simp)
  have hs:=fun x=>ZpM (x:=x) (t:=pv t p.2) (Zes h1)
  obtain⟨k1,k2⟩:=Zpr (pe:=pe) (pv:=pv) (ps:=ps) (G:=G) (Znq (t:=pv t p.2) h (Zes h1)) hn.2 fun q hq=>by
   obtain⟨u,e1,e2,e3⟩:=hd q (by simp[hq])
   exact⟨u,by rw[hs,if_neg (fun e=>hn.1 (by rw[←e];exact List.mem_map.2 ⟨q,hq,rfl⟩))];exact e1,e2,e3⟩
  have e:Zbm pe pv l (p::ps)=Zbm pe pv (l.set (idxN l p.1) (p.1,pv t p.2)) ps:=by
   rw[Zbm,h1];simp[h2]
  rw[e]
  refine⟨k1,fun x=>⟨fun hx=>?_,fun hx=>?_⟩⟩
  ·rw[List.map_cons] at hx
   rcases List.mem_cons.1 hx with rfl | hx
   ·rw[(k2 p.1).2 hn.1,hs,if_pos rfl,h3]
   ·exact (k2 x).1 hx
  ·rw[List.map_cons,List.mem_cons,not_or] at hx
   rw[(k2 x).2 hx.2,hs,if_neg hx.1]
section
variable {π : Type} [DecidableEq α]
def betD (r s:List (ByteArray×α)):List ByteArray:=(r.filter fun n=>!hasN s n.1).map (·.1)
def betP (r s:List (ByteArray×α)):List (ByteArray×α):=s.filter fun n=>!hasN r n.1
def betF (pd:α→α→π) (r:List (ByteArray×α)) (n:ByteArray×α):Option (ByteArray×π):=match ZaK r n.1 with
 | none=>none
 | some t=>if t=n.2 then none else some (n.1,pd t n.2)
def betT (pd:α→α→π) (r s:List (ByteArray×α)):List (ByteArray×π):=s.filterMap (betF pd r)
theorem Ze1 {pd:α→α→π}{r:List (ByteArray×α)}{n:ByteArray×α}{p:ByteArray×π}(h:betF pd r n=some p):p.1=n.1 ∧ ∃ t,ZaK r n.1=some t∧t≠n.2∧p.2=pd t n.2:=by
 unfold betF at h
 split at h
 ·cases h
 ·rename_i t ht
  split at h
  ·cases h
  ·rename_i hne;cases h;exact⟨rfl,t,ht,hne,rfl⟩
theorem ZhS {pd:α→α→π}{r s:List (ByteArray×α)}{p:ByteArray×π}:p∈betT pd r s ↔ ∃ n∈s,betF pd r n=some p:=by unfold betT;rw[List.mem_filterMap]
theorem ZjV {pd:α→α→π}{r:List (ByteArray×α)} : ∀ {s:List (ByteArray×α)},risN s→((betT pd r s).map (·.1)).Nodup
 | [],_=>by simp[betT]
 | n::s,h=>by
  have ih:=ZjV (pd:=pd) (r:=r) (Zd0 h)
  unfold betT at ih ⊢
  rw[List.filterMap_cons]
  split
  ·exact ih
  ·rename_i p hp
   rw[List.map_cons,List.nodup_cons]
   refine⟨fun hm=>?_,ih⟩
   obtain⟨q,hq,e⟩:=List.mem_map.1 hm
   obtain⟨k,hk,hf⟩:=List.mem_filterMap.1 hq
   have h1:=(Ze1 hp).1
   have h2:=(Ze1 hf).1
   exact ZjK (ZcX h hk) (by rw[←h1,←h2,e])
theorem leadN {pe:α→π→Int}{pv:α→π→α}{pd:α→α→π}{r s:List (ByteArray×α)}(hr:risN r) (hs:risN s) (hp : ∀ t u,(∃ x,ZaK r x=some t∧ZaK s x=some u)→pe t (pd t u)=0∧pv t (pd t u)=u) :
  (Za2 r (betD r s)).2=0∧(Zbm pe pv (Za2 r (betD r s)).1 (betT pd r s)).2=0∧(ZcH (Zbm pe pv (Za2 r (betD r s)).1 (betT pd r s)).1 (betP r s)).2=0 ∧
   (ZcH (Zbm pe pv (Za2 r (betD r s)).1 (betT pd r s)).1 (betP r s)).1=s:=by
 have memD : ∀ x,x∈betD r s↔hasN r x=true∧hasN s x=false:=fun x=>by
  unfold betD
  rw[List.mem_map]
  constructor
  ·rintro⟨n,hn,rfl⟩
   obtain⟨h1,h2⟩:=List.mem_filter.1 hn
   exact⟨ZcE.2 (List.mem_map.2 ⟨n,h1,rfl⟩),by simpa using h2⟩
  ·rintro⟨h1,h2⟩
   obtain⟨n,hn,rfl⟩:=List.mem_map.1 (ZcE.1 h1)
   exact⟨n,List.mem_filter.2 ⟨hn,by simp[h2]⟩,rfl⟩
 obtain⟨a1,a2⟩:=Zqh (ds:=betD r s) hr ((ZgI (l:=r.filter fun n=>!hasN s n.1) (hr.filter _))) fun d hd=>((memD d).1 hd).1
 have ar:=Zms (ds:=betD r s) hr
 have haveA : ∀ x,hasN s x=true→ZaK (Za2 r (betD r s)).1 x=ZaK r x:=fun x h2 =>
  (a2 x).2 fun hm=>by have:=((memD x).1 hm).2;rw[h2] at this;cases this
 obtain⟨b1,b2⟩:=Zpr (pe:=pe) (pv:=pv) (G:=ZaK s) (ps:=betT pd r s) ar (ZjV hs) fun p hp'=>by
  obtain⟨n,hn,hf⟩:=ZhS.1 hp'
  obtain⟨e1,t,e2,e3,e4⟩:=Ze1 hf
  have hsn:ZaK s n.1=some n.2:=Zgc hs hn
  obtain⟨k1,k2⟩:=hp t n.2 ⟨n.1,e2,hsn⟩
  exact⟨t,by rw[e1,haveA _ (Zes hsn)];exact e2,by rw[e4];exact k1,by rw[e4,k2,e1];exact hsn⟩
 have br:=ZlZ (pe:=pe) (pv:=pv) (ps:=betT pd r s) ar
 have lookB : ∀ x,ZaK (Zbm pe pv (Za2 r (betD r s)).1 (betT pd r s)).1 x=if hasN r x=true then ZaK s x else none:=fun x=>by
  by_cases hx:x∈(betT pd r s).map (·.1)
  ·rw[(b2 x).1 hx]
   obtain⟨p,hp',rfl⟩:=List.mem_map.1 hx
   obtain⟨n,hn,hf⟩:=ZhS.1 hp'
   obtain⟨e1,t,e2,e3,e4⟩:=Ze1 hf
   rw[if_pos (by rw[e1];exact Zes e2)]
  ·rw[(b2 x).2 hx]
   cases hr':ZaK r x with
   | none =>
    rw[if_neg (by rw[Zb1,hr'];simp)]
    by_cases hd:x∈betD r s
    ·exact (a2 x).1 hd
    ·rw[(a2 x).2 hd,hr']
   | some t =>
    rw[if_pos (Zes hr')]
    cases hs':ZaK s x with
    | none=>exact (a2 x).1 ((memD x).2 ⟨Zes hr',by rw[Zb1,hs'];rfl⟩)
    | some u =>
     rw[haveA x (Zes hs'),hr']
     refine congrArg some (Decidable.byContradiction fun hne=>hx ?_)
     exact List.mem_map.2 ⟨(x,pd t u),ZhS.2 ⟨(x,u),Zcn hs',by unfold betF;simp only[hr'];rw[if_neg hne]⟩,rfl⟩
 have hPn:((betP r s).map (·.1)).Nodup:=ZgI (hs.filter _)
 obtain⟨c1,c2⟩:=ZtH (ns:=betP r s) br hPn fun n hn=>by
  obtain⟨h1,h2⟩:=List.mem_filter.1 hn
  rw[Zb1,lookB,if_neg (by simpa using h2)];rfl
 refine⟨a1,b1,c1,Znr (Zpo br) hs fun x=>?_⟩
 rw[c2,lookB]
 cases hs':ZaK s x with
 | none =>
  have:ZaK (betP r s) x=none:=Zb5.2 fun hm=>by
   obtain⟨n,hn,e⟩:=List.mem_map.1 hm
   have:=Zb5.1 hs'
   exact this (List.mem_map.2 ⟨n,(List.mem_filter.1 hn).1,e⟩)
  rw[this];simp
 | some u =>
  by_cases h1:hasN r x=true
  ·have:ZaK (betP r s) x=none:=Zb5.2 fun hm=>by
    obtain⟨n,hn,e⟩:=List.mem_map.1 hm
    have:=(List.mem_filter.1 hn).2
    rw[e,h1] at this;cases this
   rw[this,if_pos h1];rfl
  ·have:ZaK (betP r s) x=some u:=Zgc (hs.filter _) (List.mem_filter.2 ⟨Zcn hs',by simpa using h1⟩)
   rw[this];rfl
end
end
end
section
open Go.Ab Civ
abbrev Nam:=ByteArray×Tab
abbrev Rel:=List Nam×List Lnk
abbrev NPt:=ByteArray×Pat
abbrev Upd:=List ByteArray×List Nam×List NPt×List Lnk
def rel0:Rel:=([],[])
def upd0:Upd:=([],[],[],[])
def Zdk (p:Option ByteArray) (nm:ByteArray):Bool:=match p with
 | none=>true
 | some q=>ltS q nm
def chkN:Option ByteArray→List Nam→Int
 | _,[]=>0
 | p,n::l=>if ZcD n.1=false then 1 else if Zbd n.2≠0 then Zbd n.2 else if Zdk p n.1=false then 4 else chkN (some n.1) l
def chkL (t:List Nam):Option ByteArray→List Lnk→Int
 | _,[]=>0
 | p,l::ls=>if ZcD l.2=false then 1 else if Zdk p l.2=false then 4 else if hasN t l.2=true then 6 else if hasN t l.1=false then 5 else chkL t (some l.2) ls
def ZaU (r:Rel):Int:=if 20<r.1.length∨20<r.2.length then 2 else if chkN none r.1≠0 then chkN none r.1 else chkL r.1 none r.2
def ZgK {α:Type}(f:α→ByteArray) (l:List α):Nat→Option ByteArray
 | 0=>none
 | i+1=>(l[i]?).map f
theorem Ze8 {α:Type}{f:α→ByteArray}{l:List α}{i:Nat}(h:i<l.length):ZgK f l (i+1)=some (f l[i]):=by
 show (l[i]?).map f=_
 rw[List.getElem?_eq_getElem h];rfl
theorem chkN_at {p:Option ByteArray}{l:List Nam}{i:Nat}(h:i<l.length):chkN p (l.drop i)=if ZcD l[i].1=false then 1 else if Zbd l[i].2≠0 then Zbd l[i].2 else if Zdk p l[i].1=false then 4 else chkN (ZgK (·.1) l (i+1)) (l.drop (i+1)):=by
 rw[List.drop_eq_getElem_cons h,Ze8 h];rfl
theorem chkL_at {t:List Nam}{p:Option ByteArray}{l:List Lnk}{i:Nat}(h:i<l.length):chkL t p (l.drop i)=if ZcD l[i].2=false then 1 else if Zdk p l[i].2=false then 4 else if hasN t l[i].2=true then 6 else if hasN t l[i].1=false then 5 else chkL t (ZgK (·.2) l (i+1)) (l.drop (i+1)):=by
 rw[List.drop_eq_getElem_cons h,Ze8 h];rfl
theorem Zob : ∀ {l:List Nam}{p:Option ByteArray},chkN p l=0→(∀ n∈l,ZcD n.1=true∧Zbd n.2=0)∧risN l ∧ ∀ n∈l,Zdk p n.1=true
 | [],_,_=>⟨fun n hn=>(by cases hn),.nil,fun n hn=>(by cases hn)⟩
 | m::l,p,h=>by
  rw[chkN] at h
  split at h
  ·cases h
  rename_i h1
  split at h
  ·rename_i h2;exact absurd h h2
  rename_i h2
  split at h
  ·cases h
  rename_i h3
  obtain⟨a,b,c⟩:=Zob h
  have h3':Zdk p m.1=true:=by simpa using h3
  refine⟨fun n hn=>?_,List.pairwise_cons.2 ⟨c,b⟩,fun n hn=>?_⟩
  ·rcases List.mem_cons.1 hn with rfl | hn
   ·exact⟨by simpa using h1,Decidable.of_not_not h2⟩
   ·exact a n hn
  ·rcases List.mem_cons.1 hn with rfl | hn
   ·exact h3'
   ·have:=c n hn
    cases p with
    | none=>rfl
    | some q=>exact Zho h3' this
theorem Zve : ∀ {l:List Nam}{p:Option ByteArray},(∀ n∈l,ZcD n.1=true∧Zbd n.2=0)→risN l→(∀ n∈l,Zdk p n.1=true)→chkN p l=0
 | [],_,_,_,_=>rfl
 | m::l,p,h1,h2,h3=>by
  obtain⟨a,b⟩:=h1 m (by simp)
  rw[chkN,if_neg (by simp[a]),if_neg (by simp[b]),if_neg (by simp[h3 m (by simp)])]
  exact Zve (fun n hn=>h1 n (by simp[hn])) (Zd0 h2) fun n hn=>ZcX h2 hn
def risL2 (l:List Lnk):Prop:=l.Pairwise fun a b=>ltS a.2 b.2=true
theorem Zvf {t:List Nam} : ∀ {l:List Lnk}{p:Option ByteArray},chkL t p l=0→(∀ n∈l,ZcD n.2=true∧hasN t n.2=false∧hasN t n.1=true)∧risL2 l ∧ ∀ n∈l,Zdk p n.2=true
 | [],_,_=>⟨fun n hn=>(by cases hn),.nil,fun n hn=>(by cases hn)⟩
 | m::l,p,h=>by
  rw[chkL] at h
  split at h
  ·cases h
  rename_i h1
  split at h
  ·cases h
  rename_i h2
  split at h
  ·cases h
  rename_i h3
  split at h
  ·cases h
  rename_i h4
  obtain⟨a,b,c⟩:=Zvf h
  have h3':Zdk p m.2=true:=by simpa using h2
  refine⟨fun n hn=>?_,List.pairwise_cons.2 ⟨c,b⟩,fun n hn=>?_⟩
  ·rcases List.mem_cons.1 hn with rfl | hn
   ·exact⟨by simpa using h1,by simpa using h3,by simpa using h4⟩
   ·exact a n hn
  ·rcases List.mem_cons.1 hn with rfl | hn
   ·exact h3'
   ·have:=c n hn
    cases p with
    | none=>rfl
    | some q=>exact Zho h3' this
theorem Zvg {t:List Nam} : ∀ {l:List Lnk}{p:Option ByteArray},(∀ n∈l,ZcD n.2=true∧hasN t n.2=false∧hasN t n.1=true)→risL2 l→(∀ n∈l,Zdk p n.2=true)→chkL t p l=0
 | [],_,_,_,_=>rfl
 | m::l,p,h1,h2,h3=>by
  obtain⟨a,b,c⟩:=h1 m (by simp)
  rw[chkL,if_neg (by simp[a]),if_neg (by simp[h3 m (by simp)]),if_neg (by simp[b]),if_neg (by simp[c])]
  exact Zvg (fun n hn=>h1 n (by simp[hn])) (List.pairwise_cons.1 h2).2 (List.pairwise_cons.1 h2).1
theorem Zvl {r:Rel}(h:ZaU r=0):r.1.length≤20∧r.2.length≤20∧chkN none r.1=0∧chkL r.1 none r.2=0:=by
 unfold ZaU at h
 split at h
 ·cases h
 rename_i h1
 split at h
 ·rename_i h2;exact absurd h h2
 rename_i h2
 exact⟨by omega,by omega,Decidable.of_not_not h2,h⟩
theorem Zb6 {r:Rel}(h:ZaU r=0):r.1.length≤20∧r.2.length≤20∧(∀ n∈r.1,ZcD n.1=true∧Zbd n.2=0)∧risN r.1∧(∀ n∈r.2,ZcD n.2=true∧hasN r.1 n.2=false∧hasN r.1 n.1=true)∧risL2 r.2:=by
 obtain⟨h1,h2,h3,h4⟩:=Zvl h
 obtain⟨a,b,_⟩:=Zob h3
 obtain⟨c,d,_⟩:=Zvf h4
 exact⟨h1,h2,a,b,c,d⟩
def updV (r:Rel) (u:Upd):Rel×Int :=
 if (Za2 r.1 u.1).2≠0 then (rel0,(Za2 r.1 u.1).2)
 else if (Zbm patE patV (Za2 r.1 u.1).1 u.2.2.1).2≠0 then (rel0,(Zbm patE patV (Za2 r.1 u.1).1 u.2.2.1).2)
 else if (ZcH (Zbm patE patV (Za2 r.1 u.1).1 u.2.2.1).1 u.2.1).2≠0 then (rel0,(ZcH (Zbm patE patV (Za2 r.1 u.1).1 u.2.2.1).1 u.2.1).2)
 else if ZaU ((ZcH (Zbm patE patV (Za2 r.1 u.1).1 u.2.2.1).1 u.2.1).1,u.2.2.2)≠0 then (rel0,ZaU ((ZcH (Zbm patE patV (Za2 r.1 u.1).1 u.2.2.1).1 u.2.1).1,u.2.2.2))
 else (((ZcH (Zbm patE patV (Za2 r.1 u.1).1 u.2.2.1).1 u.2.1).1,u.2.2.2),0)
def ZiH (r:Rel) (u:Upd):Rel×Int:=if ZaU r≠0 then (rel0,ZaU r) else updV r u
def betU (r s:Rel):Upd:=(betD r.1 s.1,betP r.1 s.1,betT ZcI r.1 s.1,s.2)
def Zdo (r s:Rel):Upd×Int:=if ZaU r≠0 then (upd0,ZaU r) else if ZaU s≠0 then (upd0,ZaU s) else (betU r s,0)
def tgtR (k:List Lnk) (nm:ByteArray):ByteArray:=match k[k.findIdx fun l=>decide (l.2=nm)]? with
 | some l=>l.1
 | none=>nm
def Zir (r:Rel) (nm:ByteArray):Tab×Int:=if ZaU r≠0 then (Zfr,ZaU r) else match ZaK r.1 (tgtR r.2 nm) with
 | none=>(Zfr,5)
 | some t=>(t,0)
theorem leadR {r s:Rel}(hr:ZaU r=0) (hs:ZaU s=0):updV r (betU r s)=(s,0):=by
 obtain⟨_,_,a3,a4,_,_⟩:=Zb6 hr
 obtain⟨_,_,b3,b4,_,_⟩:=Zb6 hs
 obtain⟨h1,h2,h3,h4⟩:=leadN (pe:=patE) (pv:=patV) (pd:=ZcI) a4 b4 fun t u ⟨x,hx,hy⟩=>by
  have c1:=(a3 _ (Zcn hx)).2
  have c2:=(b3 _ (Zcn hy)).2
  have hd:=diffE_of c1 c2
  obtain⟨k1,k2⟩:=leads hd
  have eP:Zmt t u=ZcI t u:=if_pos hd
  have e1:appE t (Zmt t u)=patE t (Zmt t u):=by unfold appE;rw[if_neg (by simpa using c1)]
  have e2:appV t (Zmt t u)=patV t (Zmt t u):=by unfold appV;rw[if_neg (by simpa using c1)]
  rw[e1,eP] at k1
  rw[e2,eP] at k2
  exact⟨k1,k2⟩
 unfold updV betU
 dsimp only
 rw[if_neg (by simpa using h1),if_neg (by simpa using h2),if_neg (by simpa using h3),h4,if_neg (by simpa using hs)]
theorem bet_self {r:Rel}(hr:ZaU r=0):(betU r r).1=[]∧(betU r r).2.1=[]∧(betU r r).2.2.1=[]:=by
 obtain⟨_,_,a3,a4,_,_⟩:=Zb6 hr
 have hh : ∀ n∈r.1,hasN r.1 n.1=true:=fun n hn=>ZcE.2 (List.mem_map.2 ⟨n,hn,rfl⟩)
 refine⟨?_,?_,?_⟩
 ·show (r.1.filter _).map _=[]
  rw[List.filter_eq_nil_iff.2 fun n hn=>by simp[hh n hn]];rfl
 ·show r.1.filter _=[]
  exact List.filter_eq_nil_iff.2 fun n hn=>by simp[hh n hn]
 ·show r.1.filterMap _=[]
  refine List.filterMap_eq_nil_iff.2 fun n hn=>?_
  unfold betF
  rw[Zgc a4 hn];simp
end
section
open Go.Ab Civ
section
variable {α : Type}
def srtN (l:List (ByteArray×α)):List (ByteArray×α):=l.foldl insN []
theorem ZpY (l:List (ByteArray×α)) (n:ByteArray×α):(insN l n).Perm (n::l):=by
 unfold insN
 refine List.perm_middle.trans ?_
 rw[List.take_append_drop]
theorem Zip : ∀ {l acc:List (ByteArray×α)},risN acc→((acc++l).map (·.1)).Nodup→risN (l.foldl insN acc)∧(l.foldl insN acc).Perm (acc++l)
 | [],acc,h,_=>⟨h,by simp⟩
 | n::l,acc,h,hn=>by
  have hp:=ZpY acc n
  have hno:hasN acc n.1=false:=by
   rw[Bool.eq_false_iff,ne_eq,ZcE]
   intro hm
   rw[List.map_append,List.map_cons,List.nodup_append] at hn
   exact hn.2.2 n.1 hm n.1 (by simp) rfl
  have hp2:(insN acc n++l).Perm (acc++n::l):=(hp.append_right l).trans (by
   rw[List.cons_append];exact List.perm_middle.symm)
  obtain⟨h1,h2⟩:=Zip (l:=l) (ZkP h hno) (((hp2.map (·.1)).nodup_iff).2 hn)
  exact⟨h1,h2.trans hp2⟩
theorem ZkD {l:List (ByteArray×α)}(h:(l.map (·.1)).Nodup):risN (srtN l):=(Zip .nil (by simpa using h)).1
theorem ZdW {l:List (ByteArray×α)}(h:(l.map (·.1)).Nodup):(srtN l).Perm l:=(Zip (l:=l) (acc:=[]) .nil (by simpa using h)).2
theorem Zuk {l m:List (ByteArray×α)}(h:(l.map (·.1)).Nodup) (hp:l.Perm m) (x:ByteArray):ZaK l x=ZaK m x:=by
 have key : ∀ {l:List (ByteArray×α)} {t:α},(l.map (·.1)).Nodup→(x,t)∈l→ZaK l x=some t:=by
  intro l t
  induction l with
  | nil=>intro _ h;cases h
  | cons n l ih =>
   intro hn hm
   rw[List.map_cons,List.nodup_cons] at hn
   rw[ZaK]
   rcases List.mem_cons.1 hm with rfl | hm
   ·rw[if_pos rfl]
   ·rw[if_neg fun e=>hn.1 (by rw[e];exact List.mem_map.2 ⟨_,hm,rfl⟩)];exact ih hn.2 hm
 cases h1:ZaK l x with
 | some t=>exact (key ((hp.map (·.1)).nodup_iff.1 h) (hp.mem_iff.1 (Zcn h1))).symm
 | none=>exact (Zb5.2 fun hm=>Zb5.1 h1 ((hp.map (·.1)).mem_iff.2 hm)).symm
theorem ris_perm {l m:List (ByteArray×α)}(h1:risN l) (h2:risN m) (hp:l.Perm m):l=m:=Znr h1 h2 fun x=>Zuk (ZgI h1) hp x
theorem Zs8 {l m:List (ByteArray×α)}(hn:(l.map (·.1)).Nodup) (hp:m.Perm l) (hs:m.Pairwise fun a b=>ltS b.1 a.1=false):m=srtN l:=by
 refine ris_perm ?_ (ZkD hn) (hp.trans (ZdW hn).symm)
 have hnm:m.Pairwise fun a b=>a.1≠b.1:=(List.pairwise_map (f:=Prod.fst)).1 ((hp.map Prod.fst).nodup_iff.2 hn)
 exact (hs.and hnm).imp fun h=>(Zmb h.2).resolve_right (by rw[h.1];simp)
end
def sw (l:Lnk):Lnk:=(l.2,l.1)
def srtL (k:List Lnk):List Lnk:=(srtN (k.map sw)).map sw
theorem sw_sw:sw ∘ sw=id:=by funext x;rfl
theorem ZkA (k:List Lnk):(k.map sw).map (·.1)=k.map (·.2):=by rw[List.map_map];rfl
theorem ZlH {k:List Lnk}(h:(k.map (·.2)).Nodup):(srtL k).Perm k:=by
 have:=((ZdW (l:=k.map sw) (by rw[ZkA];exact h)).map sw)
 rw[List.map_map,sw_sw,List.map_id] at this
 exact this
theorem srtL_ris {k:List Lnk}(h:(k.map (·.2)).Nodup):risL2 (srtL k):=by
 have:=ZkD (l:=k.map sw) (by rw[ZkA];exact h)
 exact List.pairwise_map.2 this
theorem Zs9 {k m:List Lnk}(hn:(k.map (·.2)).Nodup) (hp:m.Perm k) (hs:m.Pairwise fun a b=>ltS b.2 a.2=false):m=srtL k:=by
 have:=Zs8 (l:=k.map sw) (m:=m.map sw) (by rw[ZkA];exact hn) (hp.map sw) (List.pairwise_map.2 hs)
 unfold srtL
 rw[←this,List.map_map,sw_sw,List.map_id]
def mapT (s:Src) (zs:List Zon):List Nam:=zs.map fun z=>(z.1,(ofV s z).1)
def errT (s:Src) (zs:List Zon):Int:=Zbc (fun z=>(ofV s z).2) zs
def ZeT (s:Src):Rel×Int:=if ZbC s≠0 then (rel0,ZbC s) else if errT s (srtN s.2.1)≠0 then (rel0,errT s (srtN s.2.1)) else ((mapT s (srtN s.2.1),srtL s.2.2),0)
theorem ZqX (s:Src) (zs:List Zon):(mapT s zs).map (·.1)=zs.map (·.1):=by unfold mapT;rw[List.map_map];rfl
theorem make_ok {s:Src}(h:(ZeT s).2=0):ZbC s=0∧errT s (srtN s.2.1)=0∧(ZeT s).1=(mapT s (srtN s.2.1),srtL s.2.2):=by
 unfold ZeT at h ⊢
 split at h
 ·rename_i h1;exact absurd h h1
 rename_i h1
 split at h
 ·rename_i h2;exact absurd h h2
 rename_i h2
 rw[if_neg h1,if_neg h2]
 exact⟨Decidable.of_not_not h1,Decidable.of_not_not h2,rfl⟩
theorem ZfI {s:Src}(h:ZbC s=0):(s.2.1.map (·.1)).Nodup∧(s.2.2.map (·.2)).Nodup ∧ ∀ a∈s.2.1.map (·.1),∀ b∈s.2.2.map (·.2),a≠b:=by
 have:=(ZgZ h).2.1
 unfold Zc0 at this
 rw[List.nodup_append] at this
 exact this
theorem ZtU {z:List Zon}{nm:ByteArray}(h:¬Zd1 z nm<0):nm∈z.map (·.1):=by
 unfold Zd1 at h
 rw[Zux] at h
 simp only[Bool.not_eq_false,List.any_eq_true,decide_eq_true_eq] at h
 obtain⟨x,hx,e⟩:=h
 exact List.mem_map.2 ⟨x,hx,e⟩
theorem ZqY {s:Src}(h:(ZeT s).2=0):ZaU (ZeT s).1=0:=by
 obtain⟨h1,h2,h3⟩:=make_ok h
 obtain⟨n1,n2,n3⟩:=ZfI h1
 obtain⟨hE,_,hM,_,_⟩:=ZgZ h1
 obtain⟨_,q2,q3,_,_,q6,q7⟩:=ZdD hE
 have hp:=ZdW n1
 have hpl:=ZlH n2
 rw[h3]
 unfold ZaU
 have hnm:=ZqX s (srtN s.2.1)
 have hle:(mapT s (srtN s.2.1)).length=s.2.1.length:=by unfold mapT;rw[List.length_map,hp.length_eq]
 have hr:risN (mapT s (srtN s.2.1)):=ZlQ (l:=(srtN s.2.1).map fun z=>(z.1,(ofV s z).1)) (by
  show List.Pairwise _ _
  rw[List.pairwise_map];exact ZkD n1) rfl
 have hhas : ∀ x,hasN (mapT s (srtN s.2.1)) x=true↔x∈s.2.1.map (·.1):=fun x=>by rw[ZcE,hnm,(hp.map (·.1)).mem_iff]
 rw[if_neg (by rw[hle];show ¬(_∨20<(srtL s.2.2).length);rw[hpl.length_eq];omega)]
 have hc:chkN none (mapT s (srtN s.2.1))=0:=Zve (fun n hn=>by
  unfold mapT at hn
  obtain⟨z,hz,rfl⟩:=List.mem_map.1 hn
  have hz':=hp.mem_iff.1 hz
  refine⟨?_,?_⟩
  ·have:=q6 z hz'
   unfold ZhT at this
   split at this
   ·cases this
   ·rename_i hh;exact Decidable.byContradiction fun hb=>hh (.inl hb)
  ·exact Zs1 (Zcw h2 z hz)) hr fun n hn=>rfl
 rw[if_neg (by simpa using hc)]
 refine Zvg (fun l hl=>?_) (srtL_ris n2) fun n hn=>rfl
 have hl':=hpl.mem_iff.1 hl
 have hk:=q7 l hl'
 refine⟨?_,?_,?_⟩
 ·unfold Zii at hk
  split at hk
  ·cases hk
  ·rename_i hh;exact (Decidable.of_not_not hh).2
 ·rw[Bool.eq_false_iff,ne_eq,hhas]
  exact fun hm=>n3 _ hm l.2 (List.mem_map.2 ⟨l,hl',rfl⟩) rfl
 ·rw[hhas]
  unfold Zid at hM
  rw[Bool.or_eq_false_iff] at hM
  have:=List.any_eq_false.1 hM.1 l hl'
  exact ZtU (by simpa using this)
end
section
open Go.Ab Go.RowKit Civ
attribute [local simp] Zbi Zbv
abbrev namC (n:Nam):List AV:=[sv n.1,iv n.2.1.1,iv n.2.1.2.1,sv n.2.1.2.2,chS n.2.2]
theorem Zc1 {n:Nat}(l:List Nam):AV.ltL n (rows namC l)=true:=ZcB (fun n x=>by simp[AV.ltL,AV.lt,Zbi]) l
attribute [local simp] Zc1
theorem ZaL : ∀ x,(namC x).length=5:=fun _=>rfl
theorem ZbF (l:List Nam):(rows namC l).length=l.length*5:=Zbk ZaL l
theorem ZpI (l:List Nam):(rows namC l).all leaf=true:=ZdZ (fun _=>rfl) l
abbrev nptC (p:NPt):List AV:=[sv p.1,iv p.2.1.1,iv p.2.1.2.1,sv p.2.1.2.2,iv p.2.2.1,iv p.2.2.2.1,chS p.2.2.2.2]
theorem Zhm {n:Nat}(l:List NPt):AV.ltL n (rows nptC l)=true:=ZcB (fun n x=>by simp[AV.ltL,AV.lt,Zbi]) l
attribute [local simp] Zhm
theorem ZpF : ∀ x,(nptC x).length=7:=fun _=>rfl
theorem ZnC (l:List NPt):(rows nptC l).length=l.length*7:=Zbk ZpF l
abbrev relC (r:Rel):List AV:=[.sl r.1.length 5 false (rows namC r.1),.sl r.2.length 2 false (rows lnkC r.2)]
def ZnB (n:Nam):Prop:=n.1.size≤maxLen∧okT n.2
def Zgb (r:Rel):Prop:=(∀ n∈r.1,ZnB n) ∧ ∀ l∈r.2,l.1.size≤maxLen∧l.2.size≤maxLen
section
theorem Zi3 {a0 a1 a2 a3 a4:AV}{l:List AV}:(a0::a1::a2::a3::a4::l).take 5=[a0,a1,a2,a3,a4]:=rfl
theorem Zss {a0 a1 a2 a3 a4 c0 c1 c2 c3 c4:AV}{l:List AV}:setCells (a0::a1::a2::a3::a4::l) 0 [c0,c1,c2,c3,c4]=c0::c1::c2::c3::c4::l:=rfl
theorem Zsr {a0 a1 a2 a3 a4:AV}{l:List AV}:((a0::a1::a2::a3::a4::l).drop 1).take 4=[a1,a2,a3,a4]:=rfl
theorem Zv2 {a0 a1:AV}{l:List AV}:(a0::a1::l).take 2=[a0,a1]:=rfl
theorem Zst {a0 a1 c0 c1:AV}{l:List AV}:setCells (a0::a1::l) 0 [c0,c1]=c0::c1::l:=rfl
end
def c101:AC:=(Sr [Mb 2 false] (Sr [Mv 3 0,Mv 4 0,Bn 5 .neq 3 4,Mv 2 5] .ret))
theorem k101:Zaw Tryz.prog 101=some ⟨c101,[(.tmp 2)],6⟩:=by kernel_rfl
def c50:AC:=(Sr [Mc 4 0] (Sr [Mv 7 0,Cl 8 101 [(t 7)],Mv 5 8] (Sr [Mv 9 1,Cl 10 101 [(t 9)],Mv 6 10] (.seq (Sr [Mv 11 5] (Cd 11 (.seq (Sr [Mv 12 6] (Cd 12 (Sr [Mc 4 0] .ret) .skip)) (Sr [Oo 4 (.mv (.const (.int .i64 (-1))))] .ret)) .skip)) (.seq (Sr [Mv 13 6] (Cd 13 (Sr [Mc 4 1] .ret) .skip)) (.seq (Sr [Mv 14 0,Mv 15 1,Bn 16 .lss 14 15] (Cd 16 (Sr [Oo 4 (.mv (.const (.int .i64 (-1))))] .ret) .skip)) (.seq (Sr [Mv 17 0,Mv 18 1,Bn 19 .gtr 17 18] (Cd 19 (Sr [Mc 4 1] .ret) .skip)) (Sr [Mc 4 0] .ret))))))))
theorem k50:Zaw Tryz.prog 50=some ⟨c50,[(.tmp 4)],20⟩:=by kernel_rfl
def c123:AC:=(Sr [Oo 2 (.box 40 5 (t 0)),Mc 4 0] (Sr [Fa 5 0 2,Ld 6 5,Mv 7 1,Cl 8 50 [(t 6),(t 7)],Mv 4 8] .ret))
theorem k123:Zaw Tryz.prog 123=some ⟨c123,[(.tmp 4)],9⟩:=by kernel_rfl
def c122:AC:=(Sr [Mc 6 0,Mb 7 false] (Sr [Mv 12 0,Oo 13 (.len false (t 12)),Mv 8 13] (Sr [Mv 14 8,Mc 9 0,Mv 10 14] (.seq (.block 0 (.loop (.seq (Sr [Mv 15 9,Mv 16 10,Bn 17 .lss 15 16] (Cd 17 .skip (.exit 0))) (.block 1 (Sr [Mv 18 9,Mv 19 10,Bn 20 .add 18 19,Oo 21 (.cvi .u64 (t 20)),Oo 22 (.bin .shr (t 21) (.const (.int .u64 1))),Oo 23 (.cvi .i64 (t 22)),Mv 11 23] (Sr [Mv 24 2,Mv 25 0,Mv 26 11,Oo 27 (.ia 5 (t 25) (t 26)),Oo 28 (.load true 5 (t 27)),Mv 29 1,Oo 30 (.call (t 24) [(t 28),(t 29)]),Bc 31 .lss 30 0] (Cd 31 (.reg [Mv 32 11,Bc 33 .add 32 1,Mv 9 33]) (.reg [Mv 34 11,Mv 10 34])))))))) (Sr [Mv 35 9,Mv 36 9,Mv 37 8,Bn 38 .lss 36 37,Mv 39 38,Ot 40 39 (mt 2),Ot 41 39 (mt 0),Ot 42 39 (mt 9),Ot 43 39 (.ia 5 (t 41) (t 42)),Ot 44 39 (.load true 5 (t 43)),Ot 45 39 (mt 1),Ot 46 39 (.call (t 40) [(t 44),(t 45)]),Ot 47 39 (.bin .eql (t 46) (Ci 0)),Oo 48 (.pick (t 39) (t 47) (.const (.bool false))),Mv 6 35,Mv 7 48] .ret)))))
theorem k122:Zaw Tryz.prog 122=some ⟨c122,[(.tmp 6),(.tmp 7)],49⟩:=by kernel_rfl
def c61:AC:=(Sr [Mc 4 0,Mb 5 false] (Sr [Mv 6 0,Mv 7 1,Cl 8 122 [(t 6),(t 7),(.func 123)],Ex 9 8 0,Ex 10 8 1,Mv 4 9,Mv 5 10] .ret))
theorem k61:Zaw Tryz.prog 61=some ⟨c61,[(.tmp 4),(.tmp 5)],11⟩:=by kernel_rfl
def c17:AC:=(Sr [Oo 1 (.box 25 2 (t 0)),Mc 2 0] (.seq (Sr [Fa 12 0 1,Ld 13 12,Oo 14 (.len false (t 13)),Bc 15 .gtr 14 20,Mv 16 15,Of 17 16 (.fa 1 (t 1)),Of 18 16 (.load false 1 (t 17)),Of 19 16 (.len false (t 18)),Of 20 16 (.bin .gtr (t 19) (Ci 20)),Oo 21 (.pick (t 16) (.const (.bool true)) (t 20))] (Cd 21 (Sr [Mc 2 2] .ret) .skip)) (.seq (Sr [Fa 22 0 1,Ld 23 22,Oo 24 (.len false (t 23)),Mc 25 0] (.block 0 (.loop (Sr [Bn 26 .lss 25 24] (.seq (Cd 26 .skip (.exit 0)) (.seq (.block 1 (Sr [Mv 27 25,Oo 28 (.ia 5 (t 23) (t 25)),Oo 29 (.load true 5 (t 28)),Oo 4 (.new 40 5 [Ss,(iv 0),(iv 0),Ss,nl]),Mv 3 27,⟨none,none,(.store 5 (t 4) (t 29))⟩] (.seq (Sr [Fa 30 0 4,Ld 31 30,Cl 32 59 [(t 31)],Oo 33 (.un .not (t 32))] (Cd 33 (Sr [Mc 2 1] .ret) .skip)) (.seq (Sr [Fa 34 1 4,Oo 35 (.load true 4 (t 34)),Cl 36 60 [(t 35)],Mv 5 36] (Sr [Mv 37 5,Bc 38 .neq 37 0] (Cd 38 (Sr [Mv 39 5,Mv 2 39] .ret) .skip))) (Sd [Mv 40 3,Bc 41 .gtr 40 0,Mv 42 41,Ot 43 42 (.fa 0 (t 4)),Ot 44 42 (.load false 1 (t 43)),Ot 45 42 (.fa 0 (t 1)),Ot 46 42 (.load false 1 (t 45)),Ot 47 42 (mt 3),Ot 48 42 (.bin .sub (t 47) (Ci 1)),Ot 49 42 (.ia 5 (t 46) (t 48)),Ot 50 42 (.fa 0 (t 49)),Ot 51 42 (.load false 1 (t 50)),Ot 52 42 (.bin .leq (t 44) (t 51)),Oo 53 (.pick (t 42) (t 52) (.const (.bool false)))] (Cd 53 (Sr [Mc 2 4] .ret) .skip)))))) (.reg [Bc 54 .add 25 1,Mv 25 54]))))))) (.seq (Sr [Fa 55 1 1,Ld 56 55,Oo 57 (.len false (t 56)),Mc 58 0] (.block 2 (.loop (Sr [Bn 59 .lss 58 57] (.seq (Cd 59 .skip (.exit 2)) (.seq (.block 3 (Sr [Mv 60 58,Oo 61 (.ia 2 (t 56) (t 58)),Oo 62 (.load true 2 (t 61)),Oo 7 (.new 97 2 [Ss,Ss]),Mv 6 60,⟨none,none,(.store 2 (t 7) (t 62))⟩] (Sr [Fa 64 0 1,Ld 65 64,Fa 66 1 7,Ld 67 66,Cl 68 61 [(t 65),(t 67)],Mv 63 68,Ex 69 63 0,Ex 70 63 1,Mv 8 69,Mv 9 70] (Sr [Fa 72 0 1,Ld 73 72,Fa 74 0 7,Ld 75 74,Cl 76 61 [(t 73),(t 75)],Mv 71 76,Ex 77 71 0,Ex 78 71 1,Mv 10 77,Mv 11 78] (.block 4 (Sr [Fa 80 1 7,Ld 81 80,Cl 82 59 [(t 81)],Oo 83 (.un .not (t 82)),Mv 79 83] (Cd 79 (Sr [Mc 2 1] .ret) (Sd [Mv 85 6,Bc 86 .gtr 85 0,Mv 87 86,Ot 88 87 (.fa 1 (t 7)),Ot 89 87 (.load false 1 (t 88)),Ot 90 87 (.fa 1 (t 1)),Ot 91 87 (.load false 1 (t 90)),Ot 92 87 (mt 6),Ot 93 87 (.bin .sub (t 92) (Ci 1)),Ot 94 87 (.ia 2 (t 91) (t 93)),Ot 95 87 (.fa 1 (t 94)),Ot 96 87 (.load false 1 (t 95)),Ot 97 87 (.bin .leq (t 89) (t 96)),Oo 98 (.pick (t 87) (t 97) (.const (.bool false))),Mv 84 98] (Cd 84 (Sr [Mc 2 4] .ret) (Sr [Mv 100 9,Mv 99 100] (Cd 99 (Sr [Mc 2 6] .ret) (Sr [Mv 102 11,Oo 103 (.un .not (t 102)),Mv 101 103] (Cd 101 (Sr [Mc 2 5] .ret) .skip))))))))))))) (.reg [Bc 104 .add 58 1,Mv 58 104]))))))) (Sr [Mc 2 0] .ret)))))
theorem k17:Zaw Tryz.prog 17=some ⟨c17,[(.tmp 2)],105⟩:=by kernel_rfl
theorem Zuu {a:ByteArray}{h:AH}:Ac 101 [sv a] h (bv false):=by
 refine tI' k101 fun N hn _ _ hbd=>?_
 simp only[tb'] at hbd ⊢
 refine wk'<|wm<|mw<|Vw (ZeC lk lk)<|mr<|?_
 refine Zae rz<|rT'<|?_
 refine bvx ?_;simp
theorem Zu0 {a b:ByteArray}{h:AH}:Ac 50 [sv a,sv b] h (iv (cmpS a b)):=by
 refine tI' k50 fun N hn _ _ hbd=>?_
 simp only[tb'] at hbd ⊢
 refine wk'<|wm<|Zad mp (Zuu) pt<|ms<|wr'<|?_
 refine mw<|Zad mp (Zuu) pt<|ms<|Zac<|wk'<|Za8 lk<|za<|?_
 refine Zac<|wk'<|Za8 lk<|za<|Zac<|wm<|mw<|?_
 refine Vw (v_lssS lk lk)<|sn'<|?_
 refine Zav lk (fun hc4=>?_) (fun hc4=>?_)
 ·have hl:ltS a b=true:=hc4
  refine wo<|Zah<|Zae rz<|rT'<|?_
  refine ivx ?_;unfold cmpS;rw[if_pos hl]
 have hl:ltS a b=false:=hc4
 refine za<|Zac<|wm<|mw<|Vw (v_gtrS lk lk)<|sn'<|?_
 refine Zav lk (fun hc5=>?_) (fun hc5=>?_)
 ·have hg:ltS b a=true:=by have:=hc5;rwa [Zij,Bool.not_not] at this
  refine wo<|Zah<|Zae rz<|rT'<|?_
  refine ivx ?_;unfold cmpS;rw[if_neg (by rw[hl];simp),if_pos hg]
 have hg:ltS b a=false:=by have:=hc5;rwa [Zij,Bool.not_not] at this
 refine za<|wo<|Zae rz<|rT'<|?_
 refine ivx ?_;unfold cmpS;rw[if_neg (by rw[hl];simp),if_neg (by rw[hg];simp)]
theorem ZlY {n:Nam}{nm:ByteArray}{h:AH}:Ac 123 [.agg (namC n),sv nm] h (iv (cmpS n.1 nm)):=by
 refine tI' k123 fun N hn _ _ hbd=>?_
 simp only[tb'] at hbd ⊢
 refine wr'<|E' (ZaR cv rfl hl0 ha0) pt<|ms<|wr'<|fq<|Vw (Zaa lk gx gt0)<|mw<|Zad mp (Zu0) pt<|mw<|Zam<|?_
 exact Zan<|Zbe<|Zae rz<|rT' rfl
theorem mid_val {i j:Nat}(h:i+j≤4611686018427387904):IntKind.i64.wrap ((IntKind.u64.wrap ((i:Int)+(j:Int))).fdiv (2 ^ (min (1:Int).toNat IntKind.u64.bits)))=(((i+j)/2:Nat):Int):=by
 have e1:IntKind.u64.wrap ((i:Int)+(j:Int))=(i:Int)+(j:Int):=by
  have h2:((i:Int)+j)%2 ^ 64=(i:Int)+j:=Int.emod_eq_of_lt om om
  show (let r:=((i:Int)+j)%2 ^ 64;if (false&&decide (r≥2 ^ 63))=true then r-2 ^ 64 else r)=_
  simp only[Bool.false_and,Bool.false_eq_true,if_false]
  exact h2
 have e2:(2:Int) ^ (min (1:Int).toNat IntKind.u64.bits)=2:=by decide
 rw[e1,e2,Int.fdiv_eq_ediv_of_nonneg _ om,w64 om om]
 omega
theorem low_of {t:List Nam}(hr:risN t) {nm:ByteArray}{q k:Nat}(hq:q<t.length) (h:ltS t[q].1 nm=true) (hk:k≤q):ltS (t[k]'(by omega)).1 nm=true:=by
 rcases Nat.lt_or_ge k q with e | e
 ·exact Zho (List.pairwise_iff_getElem.1 hr _ _ om hq e) h
 obtain rfl:k=q:=by omega
 exact h
theorem high_of {t:List Nam}(hr:risN t) {nm:ByteArray}{q k:Nat}(hk:k<t.length) (hq:q≤k) (h:ltS (t[q]'(by omega)).1 nm=false):ltS t[k].1 nm=false:=by
 rcases Nat.lt_or_ge q k with e | e
 ·cases h1:ltS t[k].1 nm with
  | false=>rfl
  | true=>rw[Zho (List.pairwise_iff_getElem.1 hr _ _ om hk e) h1] at h;cases h
 obtain rfl:q=k:=by omega
 exact h
theorem Zvo {t:List Nam}{nm:ByteArray}{full:Bool}{h:AH}(hr:risN t) (hl:t.length≤4000000000000) :
  Ac 122 [.sl t.length 5 full (rows namC t),sv nm,.v (.func (.func 123) #[] #[])] h (.tup [iv (posN t nm),bv (hasN t nm)]):=by
 refine tI' k122 fun N hn hlt _ hbd=>?_
 simp only[tb'] at hbd ⊢
 refine wm<|ms<|wm<|Vw (ZaA lk)<|ms<|Zac<|?_
 refine Zap<|mw<|mw<|ms<|Zac<|Zaf<|?_
 refine w_lp (ι:=Nat×Nat) (fun (x_:Nat×Nat)=>match x_ with | ⟨i,j⟩=>[(9,iv (i:Int)),(10,iv (j:Int)),(11,.any)]++rn' 15 20) (fun (x_:Nat×Nat)=>match x_ with | ⟨i,j⟩=>[]) (fun (x_:Nat×Nat)=>match x_ with | ⟨i,j⟩=>i≤j∧j≤t.length∧(∀ k (hk:k<t.length),k<i→ltS t[k].1 nm=true) ∧ ∀ k (hk:k<t.length),j≤k→ltS t[k].1 nm=false) (fun (x_:Nat×Nat)=>match x_ with | ⟨i,j⟩=>j-i) (⟨0,t.length⟩) (by exact⟨Nat.zero_le _,Nat.le_refl _,fun k _ h=>by omega,fun k hk h=>by omega⟩) ?_
 rintro⟨i,j⟩ hi1
 try simp only[sm',Nat.reduceAdd]
 obtain⟨hi1,hi2,hi3,hi4⟩:=hi1
 refine Zac<|wm<|mw<|Vw (ZaO lk lk)<|sn'<|?_
 refine cd' lk (fun hc1=>?_) (fun hc1=>?_)
 ·have hij:i<j:=by omega
  have hq:(i+j)/2<t.length:=by omega
  refine za<|Zaf<|wm<|mw<|?_
  refine V' (ZbM lk lk om om) pt ?_
  refine V' (v_cvi lk) pt ?_
  refine V' (v_shr lk lki om) pt ?_
  refine V' (v_cvi lk) pt ?_
  rw[mid_val om]
  refine ms<|wm<|mw<|mw<|?_
  refine V' (ZaJ (k:=(i+j)/2) lk lk ZaL nb ro om ro rfl) pt ?_
  refine Vw (Zas lk Zi3 rfl)<|mw<|ZfE lk mp (ZlY (n:=t[(i+j)/2])) pt<|Vw (ZaO lk lki)<|sn'<|?_
  refine cd' lk (fun hc2=>?_) (fun hc2=>?_)
  ·have hlt:ltS t[(i+j)/2].1 nm=true:=Zff.1 hc2
   refine Zap<|mw<|?_
   refine ad<|mw<|Zam<|Zau<|Zaz<|?_
   refine lU' (⟨(i+j)/2+1,j⟩) (by (try dsimp only);exact⟨by omega,hi2,fun k hk h=>low_of hr hq hlt om,hi4⟩) (by refine zz ?_;exact ALe.same (by repeat (first | exact wk0 | refine wka ?_ | refine wk1 rfl ?_ | refine wk1 (by first | rfl | exact ivx om) ?_)) rfl)
  have hlt:ltS t[(i+j)/2].1 nm=false:=by rw[Bool.eq_false_iff,ne_eq,←Zff];exact hc2
  refine Zap<|mw<|mw<|Zam<|Zau<|Zaz<|?_
  refine lU' (⟨i,(i+j)/2⟩) (by (try dsimp only);exact⟨by omega,by omega,hi3,fun k hk h=>high_of hr hk h hlt⟩) (by refine zz ?_;exact ALe.same (by repeat (first | exact wk0 | refine wka ?_ | refine wk1 rfl ?_ | refine wk1 (by first | rfl | exact ivx om) ?_)) rfl)
 obtain rfl:i=j:=by omega
 have hpos:posN t nm=i:=pos_is hi2 hi3 hi4
 refine Zay<|Zar<|Zar<|ZaN<|Zan<|wm<|mw<|mw<|Vw (ZaO lk lk)<|mw<|?_
 refine sp' (t:=39) gt pt pt (fun hg39=>?_) (fun hg39=>?_)
 ·have hi:i<t.length:=by omega
  have hhas:hasN t nm=decide (t[i].1=nm):=by rw[Bool.eq_iff_iff,ZtR hr,decide_eq_true_iff];constructor;(rintro⟨h1,h2⟩;simpa only [hpos] using h2);(intro h2;exact⟨by rw[hpos];exact hi,by simpa only [hpos] using h2⟩)
  refine sd<|mw<|sd<|mw<|sd<|mw<|sd<|?_
  refine V' (ZaJ (k:=i) lk lk ZaL nb ro om ro rfl) pt ?_
  refine sd<|Vw (Zas lk Zi3 rfl)<|sd<|mw<|sd<|ZfE lk mp (ZlY (n:=t[i])) pt<|sd<|Vw (Za7 lk lki)<|Vw (Zal lk lk)<|mw<|mr<|?_
  refine Zae ry<|rT'<|?_
  rw[hpos,hhas];refine congrArg (fun b=>AV.tup [iv (i:Int),bv b]) ?_;rw[Bool.eq_iff_iff,decide_eq_true_iff,decide_eq_true_iff];exact Zu6
 have hhas:hasN t nm=false:=by rw[Bool.eq_false_iff,ne_eq,ZtR hr];rintro⟨h1,_⟩;omega
 refine so<|so<|so<|so<|so<|so<|so<|so<|Vw (Zaj lk lkb)<|mw<|mr<|?_
 refine Zae ry<|rT'<|?_
 rw[hpos,hhas]
theorem ZgL {t:List Nam}{nm:ByteArray}{full:Bool}{h:AH}(hr:risN t) (hl:t.length≤4000000000000) :
  Ac 61 [.sl t.length 5 full (rows namC t),sv nm] h (.tup [iv (posN t nm),bv (hasN t nm)]):=by
 refine tI' k61 fun N hn _ _ hbd=>?_
 simp only[tb'] at hbd ⊢
 refine wm<|ms<|wm<|mw<|Zad mp (Zvo hr hl) pt<|Vw (ZaQ lk gt)<|Vw (ZaQ lk gt)<|mw<|?_
 exact mr<|Zae ry<|rT' rfl
theorem ZiC {r:Rel}(h:20<r.1.length∨20<r.2.length):ZaU r=2:=if_pos h
theorem ZfP {r:Rel}(h:¬(20<r.1.length∨20<r.2.length)) (h2:chkN none r.1≠0):ZaU r=chkN none r.1:=by unfold ZaU;rw[if_neg h,if_pos h2]
theorem Zmy {r:Rel}(h:¬(20<r.1.length∨20<r.2.length)) (h2:chkN none r.1=0):ZaU r=chkL r.1 none r.2:=by unfold ZaU;rw[if_neg h,if_neg (by simpa using h2)]
theorem ZlW {t:List Nam}{k:List Lnk}{f1 f2:Bool}{h:AH}(hok:Zgb (t,k)):Ac 17 [.agg [.sl t.length 5 f1 (rows namC t),.sl k.length 2 f2 (rows lnkC k)]] h (iv (ZaU (t,k))):=by
 refine tI' k17 fun N hn hlt _ hbd=>?_
 simp only[tb'] at hbd ⊢
 refine wr'<|E' (ZaR cv rfl hl0 ha0) pt<|ms<|Zac<|wr'<|fq<|Vw (Zaa lk gx gt0)<|Vw (ZaA lk)<|Vw (ZbE lk lki)<|mw<|?_
 refine sp' (t:=16) gt pt pt (fun hg16=>?_) (fun hg16=>?_)
 ·have hR:ZaU (t,k)=2:=ZiC (.inl (by show 20<t.length;omega))
  refine so<|so<|so<|so<|Vw (Zal lk lkb)<|sn'<|Zbb lk<|wo<|?_
  refine Zah<|Zae rz<|rT'<|?_
  rw[hR]
 refine sd<|fq<|sd<|Vw (Zaa lk gx gt1)<|sd<|Vw (ZaA lk)<|sd<|Vw (ZbE lk lki)<|Vw (Zaj lk lk)<|sn'<|?_
 refine cd' lk (fun hc1=>?_) (fun hc1=>?_)
 ·have hR:ZaU (t,k)=2:=ZiC (.inr (by show 20<k.length;omega))
  refine wo<|Zah<|Zae rz<|rT'<|?_
  rw[hR]
 have hno:¬(20<t.length∨20<k.length):=by omega
 refine za<|Zac<|wr'<|fq<|Vw (Zaa lk gx gt0)<|Vw (ZaA lk)<|ms<|Zaf<|?_
 refine w_lp (ι:=Nat) (fun (i:Nat)=>[(25,iv (i:Int))]++rn' 2 4++rn' 26 29) (fun (i:Nat)=>[]) (fun (i:Nat)=>i≤t.length∧chkN none t=chkN (ZgK (·.1) t i) (t.drop i)) (fun (i:Nat)=>t.length-i) (0) (by exact⟨Nat.zero_le _,rfl⟩) ?_
 rintro i hi1
 try simp only[sm',Nat.reduceAdd]
 obtain⟨hi1,hi2⟩:=hi1
 refine wr'<|Vw (ZaO lk lk)<|sn'<|Zac<|?_
 refine cd' lk (fun hc2=>?_) (fun hc2=>?_)
 ·have hi:i<t.length:=by omega
  have hn_:=hok.1 _ (List.getElem_mem hi)
  rw[chkN_at hi] at hi2
  refine za<|Zac<|Zaf<|wm<|?_
  refine V' (ZaJ lk lk ZaL nb ro om ro rfl) pt ?_
  refine Vw (Zas lk Zi3 rfl)<|E' (ZaV hl1 ha1) pt<|mw<|E' (Zai lk cv gx rfl nb rfl Zss hs1) ptn<|sn'<|Zac<|wr'<|fq<|Vw (Zaa lk gx gt0)<|Zad mp (Zic hn_.1) pt<|Vw (ZaE lk)<|Zam<|?_
  refine Zan ?_
  refine Zav lk (fun hc3=>?_) (fun hc3=>?_)
  ·have hb:ZcD t[i].1=false:=by simpa using hc3
   rw[if_pos hb] at hi2
   refine wo<|Zah<|Zaq<|Zah<|Zah<|Zaq<|Zah<|Zae rz<|rT'<|?_
   rw[ZfP (r:=(t,k)) hno (by rw[hi2];decide),hi2]
  have hb:ZcD t[i].1=true:=by simpa using hc3
  rw[if_neg (by rw[hb];simp)] at hi2
  refine za<|Zac<|wr'<|fq<|Vw (Zag lk gx Zsr rfl)<|Zad mp (Zvk (l:=t[i].2.2) hn_.2.1 hn_.2.2) pt<|ms<|wm<|?_
  refine Vw (Zba lk lki)<|sn'<|?_
  refine cd' lk (fun hc4=>?_) (fun hc4=>?_)
  ·have hv:Zbd t[i].2≠0:=hc4
   rw[if_pos hv] at hi2
   refine wm<|mr<|Zah<|Zaq<|Zah<|Zah<|Zaq<|Zah<|Zae rz<|?_
   refine rT' ?_
   rw[ZfP (r:=(t,k)) hno (by rw[hi2];exact hv),hi2]
  have hv:¬Zbd t[i].2≠0:=hc4
  rw[if_neg hv] at hi2
  refine za<|Zac<|ZaH<|Dw vm<|Dw (ZbE lk lki)<|Dw vm<|?_
  refine dq' (t:=42) gt pt pt (fun hg42=>?_) (fun hg42=>?_)
  ·have hp:ZgK (·.1) t i=some (t[i-1]'(by omega)).1:=by have:=Ze8 (f:=(·.1)) (l:=t) (i:=i-1) om;rwa [show i-1+1=i by omega] at this
   refine dO<|dg<|dO<|Dw (Zaa lk gx gt0)<|dO<|dg<|dO<|Dw (Zaa lk gx gt0)<|dO<|Dw vm<|dO<|?_
   refine D' (Za3 lk lki om om) pt ?_
   refine d_do gt ?_
   refine D' (ZaJ (k:=i-1) lk lk ZaL nb ro om ro rfl) pt ?_
   refine dO<|Dw (Zbl lk dp0)<|dO<|Dw (Zax lk gt)<|dO<|Dw (v_leqS lk lk)<|Dw (Zal lk lk)<|ZaM<|?_
   refine Za5 ?_
   refine sn' ?_
   refine Zav lk (fun hc5=>?_) (fun hc5=>?_)
   ·have hA:Zdk (ZgK (·.1) t i) t[i].1=false:=by rw[hp];have:=hc5;rw[Zij,Bool.not_eq_true'] at this;exact this
    rw[if_pos hA] at hi2
    refine wo<|Zaq<|Zah<|Zah<|Zaq<|Zah<|Zae rz<|rT'<|?_
    rw[ZfP (r:=(t,k)) hno (by rw[hi2];decide),hi2]
   have hA:Zdk (ZgK (·.1) t i) t[i].1=true:=by rw[hp];have:=hc5;rw[Zij,Bool.not_eq_false'] at this;exact this
   refine ZaB<|Zau<|Zan<|Zap<|?_
   refine ad<|mw<|Zam<|Zaz<|?_
   refine lU' (i+1) (by (try dsimp only);exact⟨by omega,by rw[hi2,if_neg (by rw[hA];simp)]⟩) (by refine zz ?_;exact bk' 1 hn hlt)
  have hA:Zdk (ZgK (·.1) t i) t[i].1=true:=by obtain rfl:i=0:=om;rfl
  refine dn<|dn<|dn<|dn<|dn<|dn<|dn<|dn<|dn<|dn<|Dw (Zaj lk lkb)<|ZaM<|?_
  refine Za5 ?_
  refine sn'<|Za8 lk<|ZaB<|Zau<|Zan<|Zap<|?_
  refine ad<|mw<|Zam<|Zaz<|?_
  refine lU' (i+1) (by (try dsimp only);exact⟨by omega,by rw[hi2,if_neg (by rw[hA];simp)]⟩) (by refine zz ?_;exact bk' 1 hn hlt)
 rw[List.drop_of_length_le (show t.length≤i by omega)] at hi2
 have hN:chkN none t=0:=by rw[hi2];rfl
 have hC:=Zmy (r:=(t,k)) hno hN
 obtain⟨_,hr,_⟩:=Zob hN
 have hr':risN t:=hr
 refine Zay<|Zar<|Zar<|ZaN<|Zan<|Zac<|wr'<|fq<|Vw (Zaa lk gx gt1)<|Vw (ZaA lk)<|ms<|?_
 refine Zaf ?_
 refine w_lp (ι:=Nat) (fun (j:Nat)=>[(58,iv (j:Int)),(2,.any)]++rn' 6 6++rn' 59 46) (fun (j:Nat)=>[]) (fun (j:Nat)=>j≤k.length∧chkL t none k=chkL t (ZgK (·.2) k j) (k.drop j)) (fun (j:Nat)=>k.length-j) (0) (by exact⟨Nat.zero_le _,rfl⟩) ?_
 rintro j hi2
 try simp only[sm',Nat.reduceAdd]
 obtain⟨hj1,hj2⟩:=hi2
 refine wr'<|Vw (ZaO lk lk)<|sn'<|Zac<|?_
 refine cd' lk (fun hc6=>?_) (fun hc6=>?_)
 ·have hj:j<k.length:=by omega
  have hln:=hok.2 _ (List.getElem_mem hj)
  rw[chkL_at hj] at hj2
  refine za<|Zac<|Zaf<|wm<|?_
  refine V' (ZaJ lk lk Zbf nb ro om ro rfl) pt ?_
  refine Vw (Zas lk Zv2 rfl)<|E' (ZaV hl1 ha1) pt<|mw<|E' (Zai lk cv gx rfl nb rfl Zst hs1) ptn<|sn'<|wr'<|fq<|Vw (Zaa lk gx gt0)<|fq<|Vw (Zaa lk gx gt1)<|?_
  refine Zad mp (ZgL hr' om) pt ?_
  refine mw<|Vw (ZaQ lk gt)<|Vw (ZaQ lk gt)<|mw<|ms<|wr'<|fq<|Vw (Zaa lk gx gt0)<|fq<|Vw (Zaa lk gx gt0)<|?_
  refine Zad mp (ZgL hr' om) pt ?_
  refine mw<|Vw (ZaQ lk gt)<|Vw (ZaQ lk gt)<|mw<|ms<|Zaf<|wr'<|fq<|Vw (Zaa lk gx gt1)<|Zad mp (Zic hln.2) pt<|Vw (ZaE lk)<|?_
  refine ms<|?_
  refine Zav lk (fun hc7=>?_) (fun hc7=>?_)
  ·have hb:ZcD k[j].2=false:=by simpa using hc7
   rw[if_pos hb] at hj2
   refine wo<|Zaq<|Zaq<|Zah<|Zah<|Zaq<|Zah<|Zae rz<|rT'<|?_
   rw[hC];exact ivx hj2.symm
  have hb:ZcD k[j].2=true:=by simpa using hc7
  rw[if_neg (by rw[hb];simp)] at hj2
  refine Zac<|ZaH<|Dw vm<|Dw (ZbE lk lki)<|Dw vm<|?_
  refine dq' (t:=87) gt pt pt (fun hg87=>?_) (fun hg87=>?_)
  ·have hp:ZgK (·.2) k j=some (k[j-1]'(by omega)).2:=by have:=Ze8 (f:=(·.2)) (l:=k) (i:=j-1) om;rwa [show j-1+1=j by omega] at this
   refine dO<|dg<|dO<|Dw (Zaa lk gx gt1)<|dO<|dg<|dO<|Dw (Zaa lk gx gt1)<|dO<|Dw vm<|dO<|?_
   refine D' (Za3 lk lki om om) pt ?_
   refine d_do gt ?_
   refine D' (ZaJ (k:=j-1) lk lk Zbf nb ro om ro rfl) pt ?_
   refine dO<|Dw (Zbl lk dp1)<|dO<|Dw (Zax lk gt)<|dO<|Dw (v_leqS lk lk)<|Dw (Zal lk lk)<|Dw vm<|ZaM<|?_
   refine Za5 ?_
   refine sn' ?_
   refine Zav lk (fun hc8=>?_) (fun hc8=>?_)
   ·have hA:Zdk (ZgK (·.2) k j) k[j].2=false:=by rw[hp];have:=hc8;rw[Zij,Bool.not_eq_true'] at this;exact this
    rw[if_pos hA] at hj2
    refine wo<|Zaq<|Zaq<|Zah<|Zah<|Zaq<|Zah<|Zae rz<|rT'<|?_
    rw[hC];exact ivx hj2.symm
   have hA:Zdk (ZgK (·.2) k j) k[j].2=true:=by rw[hp];have:=hc8;rw[Zij,Bool.not_eq_false'] at this;exact this
   refine wm<|ms<|?_
   refine Zav lk (fun hc9=>?_) (fun hc9=>?_)
   ·rw[if_neg (by rw[hA];simp),if_pos hc9] at hj2
    refine wo<|Zaq<|Zaq<|Zah<|Zah<|Zaq<|Zah<|Zae rz<|rT'<|?_
    rw[hC];exact ivx hj2.symm
   rw[if_neg (by rw[hA];simp),if_neg (by rw[hc9];simp)] at hj2
   refine wm<|Vw (ZaE lk)<|ms<|?_
   refine Zav lk (fun hc10=>?_) (fun hc10=>?_)
   ·rw[if_pos (by simpa using hc10)] at hj2
    refine wo<|Zaq<|Zaq<|Zah<|Zah<|Zaq<|Zah<|Zae rz<|rT'<|?_
    rw[hC];exact ivx hj2.symm
   rw[if_neg (by simpa using hc10)] at hj2
   refine ZaB<|Zau<|Zau<|Zan<|Zap<|?_
   refine ad<|mw<|Zam<|Zaz<|?_
   refine lU' (j+1) (by (try dsimp only);exact⟨by omega,hj2⟩) (by refine zz ?_;exact bk' 1 hn hlt)
  have hA:Zdk (ZgK (·.2) k j) k[j].2=true:=by obtain rfl:j=0:=om;rfl
  refine dn<|dn<|dn<|dn<|dn<|dn<|dn<|dn<|dn<|dn<|Dw (Zaj lk lkb)<|Dw vm<|ZaM<|?_
  refine Za5 ?_
  refine sn'<|Za8 lk<|wm<|ms<|?_
  refine Zav lk (fun hc9=>?_) (fun hc9=>?_)
  ·rw[if_neg (by rw[hA];simp),if_pos hc9] at hj2
   refine wo<|Zaq<|Zaq<|Zah<|Zah<|Zaq<|Zah<|Zae rz<|rT'<|?_
   rw[hC];exact ivx hj2.symm
  rw[if_neg (by rw[hA];simp),if_neg (by rw[hc9];simp)] at hj2
  refine wm<|Vw (ZaE lk)<|ms<|?_
  refine Zav lk (fun hc10=>?_) (fun hc10=>?_)
  ·rw[if_pos (by simpa using hc10)] at hj2
   refine wo<|Zaq<|Zaq<|Zah<|Zah<|Zaq<|Zah<|Zae rz<|rT'<|?_
   rw[hC];exact ivx hj2.symm
  rw[if_neg (by simpa using hc10)] at hj2
  refine ZaB<|Zau<|Zau<|Zan<|Zap<|?_
  refine ad<|mw<|Zam<|Zaz<|?_
  refine lU' (j+1) (by (try dsimp only);exact⟨by omega,hj2⟩) (by refine zz ?_;exact bk' 1 hn hlt)
 rw[List.drop_of_length_le (show k.length≤j by omega)] at hj2
 refine Zay<|Zar<|Zar<|ZaN<|Zan<|wo<|Zae rz<|rT'<|?_
 rw[hC];exact ivx hj2.symm
end
section
open Go.Ab Go.RowKit Civ
attribute [local simp] Zbi Zc1 Zbv Zhm ZcL
section
theorem Zlo {τ:Operand→AV}:Zak τ [] []=some []:=rfl
theorem ZoP {τ:Operand→AV}:Zak τ [] []=some []:=rfl
theorem Zha {a0 a1 a2:AV}{l:List AV}:((a0::a1::a2::l).drop 0).take 3=[a0,a1,a2]:=rfl
theorem Zsq {τ:Operand→AV}{y0 y1:Operand}{x0_0 x0_1 x0_2 x1_0:AV}(h0:Zao (τ y0)=some [x0_0,x0_1,x0_2]) (l0:[x0_0,x0_1,x0_2].all leaf=true) (h1:Zao (τ y1)=some [x1_0]) (l1:[x1_0].all leaf=true):Zak τ [(0,3,y0),(3,1,y1)] [(iv 0),(iv 0),(.v (.string ⟨#[]⟩)),(.sl 0 0 true [])]=some [x0_0,x0_1,x0_2,x1_0]:=by
 simp only[Zak,h0,l0,h1,l1]
 rfl
theorem ZbT {a0 a1 a2 a3 c0 c1 c2 c3:AV}{l:List AV}:setCells (a0::a1::a2::a3::l) 0 [c0,c1,c2,c3]=c0::c1::c2::c3::l:=rfl
theorem ZbS {a0 a1 a2 a3:AV}{l:List AV}:((a0::a1::a2::a3::l).drop 0).take 4=[a0,a1,a2,a3]:=rfl
theorem Ze4 {a0 a1 a2 a3:AV}{l:List AV}:(a0::a1::a2::a3::l).take 4=[a0,a1,a2,a3]:=rfl
theorem ZmU {a0 b0:Int}{a1 b1:Int}{a2 b2:Int}{a3 b3:ByteArray}:Za4 [.int,.int,.int,.str] [iv a0,iv a1,iv a2,sv a3] [iv b0,iv b1,iv b2,sv b3]=some (decide (a0=b0∧a1=b1∧a2=b2∧a3=b3)):=by
 simp only[Za4,Zc3,if_true,Zb3,Option.some.injEq]
 simp only[Bool.decide_and,Bool.and_true]
 try (congr 1 <;> simp)
 try rfl
theorem ZoO {a0 b0:Int}{a1 b1:Int}{a2 b2:ByteArray}:Za4 [.int,.int,.str] [iv a0,iv a1,sv a2] [iv b0,iv b1,sv b2]=some (decide (a0=b0∧a1=b1∧a2=b2)):=by
 simp only[Za4,Zc3,if_true,Zb3,Option.some.injEq]
 simp only[Bool.decide_and,Bool.and_true]
 try (congr 1 <;> simp)
 try rfl
theorem Zkp {a0 c0:AV}{l:List AV}:setCells (a0::l) 0 [c0]=c0::l:=rfl
theorem ZmV {τ:Operand→AV}:Zak τ [] [(iv 0),(iv 0),(.v (.string ⟨#[]⟩)),(.sl 0 0 true [])]=some [(iv 0),(iv 0),(.v (.string ⟨#[]⟩)),(.sl 0 0 true [])]:=rfl
theorem ZcU {a0 a1:AV}{l:List AV}:((a0::a1::l).drop 0).take 2=[a0,a1]:=rfl
theorem ZoQ {τ:Operand→AV}:Zak τ [] [(iv 0),(iv 0),(.v (.string ⟨#[]⟩)),(.sl 0 0 true [])]=some [(iv 0),(iv 0),(.v (.string ⟨#[]⟩)),(.sl 0 0 true [])]:=rfl
theorem ZmW {τ:Operand→AV}:Zak τ [] [(iv 0),(iv 0),(.v (.string ⟨#[]⟩)),(.sl 0 0 true [])]=some [(iv 0),(iv 0),(.v (.string ⟨#[]⟩)),(.sl 0 0 true [])]:=rfl
theorem Zjm {τ:Operand→AV}{y0:Operand}{x0_0:AV}(h0:Zao (τ y0)=some [x0_0]) (l0:[x0_0].all leaf=true):Zak τ [(3,1,y0)] [(.sl 0 0 true []),(.sl 0 0 true []),(.sl 0 0 true []),(.sl 0 0 true [])]=some [(.sl 0 0 true []),(.sl 0 0 true []),(.sl 0 0 true []),x0_0]:=by
 simp only[Zak,h0,l0]
 rfl
theorem ZiY {a0 a1 a2 a3 a4:AV}{l:List AV}:(a0::a1::a2::a3::a4::l).take 5=[a0,a1,a2,a3,a4]:=rfl
theorem Zko {a0 a1 a2 a3 a4 c0 c1 c2 c3 c4:AV}{l:List AV}:setCells (a0::a1::a2::a3::a4::l) 0 [c0,c1,c2,c3,c4]=c0::c1::c2::c3::c4::l:=rfl
theorem Zi2 {τ:Operand→AV}{y0:Operand}{x0_0:AV}(h0:Zao (τ y0)=some [x0_0]) (l0:[x0_0].all leaf=true):Zak τ [(0,1,y0)] [(.v (.string ⟨#[]⟩))]=some [x0_0]:=by
 simp only[Zak,h0,l0]
 rfl
theorem Zv1 {a0:AV}{l:List AV}:(a0::l).take 1=[a0]:=rfl
theorem Zg9 {a0 a1 a2 a3 a4:AV}{l:List AV}:((a0::a1::a2::a3::a4::l).drop 1).take 4=[a1,a2,a3,a4]:=rfl
theorem Zi1 {τ:Operand→AV}{y0 y1:Operand}{x0_0 x1_0 x1_1 x1_2 x1_3:AV}(h0:Zao (τ y0)=some [x0_0]) (l0:[x0_0].all leaf=true) (h1:Zao (τ y1)=some [x1_0,x1_1,x1_2,x1_3]) (l1:[x1_0,x1_1,x1_2,x1_3].all leaf=true):Zak τ [(0,1,y0),(1,4,y1)] [(.v (.string ⟨#[]⟩)),(iv 0),(iv 0),(.v (.string ⟨#[]⟩)),(.sl 0 0 true [])]=some [x0_0,x1_0,x1_1,x1_2,x1_3]:=by
 simp only[Zak,h0,l0,h1,l1]
 rfl
theorem Zi0 {τ:Operand→AV}{y0:Operand}{x0_0 x0_1 x0_2 x0_3 x0_4:AV}(h0:Zao (τ y0)=some [x0_0,x0_1,x0_2,x0_3,x0_4]) (l0:[x0_0,x0_1,x0_2,x0_3,x0_4].all leaf=true):Zak τ [(0,5,y0)] [(.v (.string ⟨#[]⟩)),(iv 0),(iv 0),(.v (.string ⟨#[]⟩)),(.sl 0 0 true [])]=some [x0_0,x0_1,x0_2,x0_3,x0_4]:=by
 simp only[Zak,h0,l0]
 rfl
theorem ZmT { e:Ent}:([]:AH)++[e]=[e]:=rfl
theorem Zkq {e0 e1 e2 e3 e4 e5 e6 e7 d0:Ent}:([e0,e1,e2,e3,e4,e5,e6,e7]:AH)++[d0]=[e0,e1,e2,e3,e4,e5,e6,e7,d0]:=rfl
theorem Zso {a0 a1 c0:AV}{l:List AV}:setCells (a0::a1::l) 1 [c0]=a0::c0::l:=rfl
theorem ZiZ {τ:Operand→AV}{y0 y1:Operand}{x0_0 x1_0 x1_1 x1_2 x1_3 x1_4 x1_5:AV}(h0:Zao (τ y0)=some [x0_0]) (l0:[x0_0].all leaf=true) (h1:Zao (τ y1)=some [x1_0,x1_1,x1_2,x1_3,x1_4,x1_5]) (l1:[x1_0,x1_1,x1_2,x1_3,x1_4,x1_5].all leaf=true):Zak τ [(0,1,y0),(1,6,y1)] [(.v (.string ⟨#[]⟩)),(iv 0),(iv 0),(.v (.string ⟨#[]⟩)),(iv 0),(iv 0),(.sl 0 0 true [])]=some [x0_0,x1_0,x1_1,x1_2,x1_3,x1_4,x1_5]:=by
 simp only[Zak,h0,l0,h1,l1]
 rfl
theorem Zhz {τ:Operand→AV}{y0:Operand}{x0_0 x0_1 x0_2 x0_3 x0_4 x0_5 x0_6:AV}(h0:Zao (τ y0)=some [x0_0,x0_1,x0_2,x0_3,x0_4,x0_5,x0_6]) (l0:[x0_0,x0_1,x0_2,x0_3,x0_4,x0_5,x0_6].all leaf=true):Zak τ [(0,7,y0)] [(.v (.string ⟨#[]⟩)),(iv 0),(iv 0),(.v (.string ⟨#[]⟩)),(iv 0),(iv 0),(.sl 0 0 true [])]=some [x0_0,x0_1,x0_2,x0_3,x0_4,x0_5,x0_6]:=by
 simp only[Zak,h0,l0]
 rfl
theorem Zv0 {a0 a1 a2 a3 a4 a5 a6:AV}{l:List AV}:(a0::a1::a2::a3::a4::a5::a6::l).take 7=[a0,a1,a2,a3,a4,a5,a6]:=rfl
theorem Zsn {a0 a1 a2 c0:AV}{l:List AV}:setCells (a0::a1::a2::l) 2 [c0]=a0::a1::c0::l:=rfl
theorem ZoR {τ:Operand→AV}{y0 y1:Operand}{x0_0 x0_1 x1_0 x1_1:AV}(h0:Zao (τ y0)=some [x0_0,x0_1]) (l0:[x0_0,x0_1].all leaf=true) (h1:Zao (τ y1)=some [x1_0,x1_1]) (l1:[x1_0,x1_1].all leaf=true):Zak τ [(0,2,y0),(2,2,y1)] [(.sl 0 0 true []),(.sl 0 0 true []),(.sl 0 0 true []),(.sl 0 0 true [])]=some [x0_0,x0_1,x1_0,x1_1]:=by
 simp only[Zak,h0,l0,h1,l1]
 rfl
theorem Zsp {a0 a1 c0 c1:AV}{l:List AV}:setCells (a0::a1::l) 0 [c0,c1]=c0::c1::l:=rfl
theorem ZmX {τ:Operand→AV}:Zak τ [] [(.sl 0 0 true []),(.sl 0 0 true []),(.sl 0 0 true []),(.sl 0 0 true [])]=some [(.sl 0 0 true []),(.sl 0 0 true []),(.sl 0 0 true []),(.sl 0 0 true [])]:=rfl
end
def c47:AC:=(Sr [Oo 2 (.mv (.const (.slice none 0 0)))] (.seq (Sr [Mv 3 0,Oo 4 (.eqn false (t 3))] (Cd 4 (Sr [Oo 2 (.mv (.const (.slice none 0 0)))] .ret) .skip)) (Sr [Oo 5 (.lit 97 2 0 [] []),Mv 6 0,Oo 7 (.app 97 2 32 (t 5) (t 6)),Mv 2 7] .ret)))
theorem k47:Zaw Tryz.prog 47=some ⟨c47,[(.tmp 2)],8⟩:=by kernel_rfl
def c44:AC:=(Sr [Oo 1 (.box 38 4 (t 0)),Oo 2 (.new 38 4 [(iv 0),(iv 0),Ss,nl])] (.seq (.drw [Fa 3 0 1,Oo 4 (.load true 3 (t 3)),Fa 5 3 1,Ld 6 5,Cl 7 89 [(t 6)],Oo 8 (.build [(iv 0),(iv 0),Ss,nl] [(0,(3,(t 4))),(3,(1,(t 7)))])] [false] [⟨none,none,(.store 4 (t 2) (t 8))⟩]) .ret))
theorem k44:Zaw Tryz.prog 44=some ⟨c44,[(.cell 2 true 4)],9⟩:=by kernel_rfl
def c151:AC:=(Sr [Mb 4 false] (.seq (Sr [Mv 6 0,Oo 7 (.len false (t 6)),Mv 8 1,Oo 9 (.len false (t 8)),Bn 10 .neq 7 9] (Cd 10 (Sr [Mb 4 false] .ret) .skip)) (.seq (Sr [Mv 11 0,Oo 12 (.len false (t 11)),Mc 13 0] (.block 0 (.loop (Sr [Bn 14 .lss 13 12] (.seq (Cd 14 .skip (.exit 0)) (.seq (.block 1 (Sr [Mv 15 13,Mv 5 15] (Sd [Mv 16 0,Mv 17 5,Oo 18 (.ia 4 (t 16) (t 17)),Oo 19 (.load true 4 (t 18)),Mv 20 1,Mv 21 5,Oo 22 (.ia 4 (t 20) (t 21)),Oo 23 (.load true 4 (t 22)),Oo 24 (.eqs true [.int,.int,.int,.str] (t 19) (t 23))] (Cd 24 (Sr [Mb 4 false] .ret) .skip)))) (.reg [Bc 25 .add 13 1,Mv 13 25]))))))) (Sr [Mb 4 true] .ret))))
theorem k151:Zaw Tryz.prog 151=some ⟨c151,[(.tmp 4)],26⟩:=by kernel_rfl
def c86:AC:=(Sr [Oo 2 (.box 38 4 (t 0)),Oo 3 (.box 38 4 (t 1)),Mb 4 false] (Sr [Fa 5 0 2,Oo 6 (.load true 3 (t 5)),Fa 7 0 3,Oo 8 (.load true 3 (t 7)),Oo 9 (.eqs false [.int,.int,.str] (t 6) (t 8)),Mv 10 9,Ot 11 10 (.fa 3 (t 2)),Ot 12 10 (.load false 1 (t 11)),Ot 13 10 (.fa 3 (t 3)),Ot 14 10 (.load false 1 (t 13)),Ot 15 10 (.call (.func 151) [(t 12),(t 14)]),Oo 16 (.pick (t 10) (t 15) (.const (.bool false))),Mv 4 16] .ret))
theorem k86:Zaw Tryz.prog 86=some ⟨c86,[(.tmp 4)],17⟩:=by kernel_rfl
def c88:AC:=(Sr [Oo 2 (.box 97 2 (t 0)),Mb 3 false] (Sr [Fa 4 1 2,Ld 5 4,Ld 6 1,Bn 7 .eql 5 6,Mv 3 7] .ret))
theorem k88:Zaw Tryz.prog 88=some ⟨c88,[(.tmp 3)],8⟩:=by kernel_rfl
def c43:AC:=(Sr [Oo 2 (.box 25 2 (t 0)),Oo 3 (.box 9 1 (t 1)),Oo 4 (.new 38 4 [(iv 0),(iv 0),Ss,nl]),Mb 5 false] (Sr [Fa 9 1 2,Ld 10 9,Oo 11 (.mkfn 88 [(t 3)]),Cl 12 87 [(t 10),(t 11)],Mv 6 12] (.seq (Sr [Mv 13 6,Bc 14 .geq 13 0] (Cd 14 (.reg [Fa 15 1 2,Ld 16 15,Mv 17 6,Oo 18 (.ia 2 (t 16) (t 17)),Fa 19 0 18,Ld 20 19,Sc 3 20]) .skip)) (Sr [Fa 22 0 2,Ld 23 22,Ld 24 3,Cl 25 61 [(t 23),(t 24)],Mv 21 25,Ex 26 21 0,Ex 27 21 1,Mv 7 26,Mv 8 27] (.seq (Sr [Mv 28 8,Oo 29 (.un .not (t 28))] (Cd 29 (Sr [Oo 30 (.build [(iv 0),(iv 0),Ss,nl] []),⟨none,none,(.store 4 (t 4) (t 30))⟩,Mb 5 false] .ret) .skip)) (Sr [Fa 31 0 2,Ld 32 31,Mv 33 7,Oo 34 (.ia 5 (t 32) (t 33)),Fa 35 1 34,Oo 36 (.load true 4 (t 35)),⟨none,none,(.store 4 (t 4) (t 36))⟩,Mb 5 true] .ret))))))
theorem k43:Zaw Tryz.prog 43=some ⟨c43,[(.cell 4 true 4),(.tmp 5)],37⟩:=by kernel_rfl
def c11:AC:=(Sr [Oo 2 (.box 25 2 (t 0)),Oo 4 (.new 38 4 [(iv 0),(iv 0),Ss,nl]),Mc 5 0] (.seq (Sr [Oo 9 (.load true 2 (t 2)),Cl 10 17 [(t 9)],Mv 6 10] (Sr [Mv 11 6,Bc 12 .neq 11 0] (Cd 12 (Sr [Oo 13 (.build [(iv 0),(iv 0),Ss,nl] []),Mv 14 6,⟨none,none,(.store 4 (t 4) (t 13))⟩,Mv 5 14] .ret) .skip))) (Sr [Oo 16 (.load true 2 (t 2)),Mv 17 1,Cl 18 43 [(t 16),(t 17)],Mv 15 18,Ex 19 15 0,Ex 20 15 1,Oo 7 (.new 38 4 [(iv 0),(iv 0),Ss,nl]),⟨none,none,(.store 4 (t 7) (t 19))⟩,Mv 8 20] (.seq (Sr [Mv 21 8,Oo 22 (.un .not (t 21))] (Cd 22 (Sr [Oo 23 (.build [(iv 0),(iv 0),Ss,nl] []),⟨none,none,(.store 4 (t 4) (t 23))⟩,Mc 5 5] .ret) .skip)) (Sr [Oo 24 (.load true 4 (t 7)),Cl 25 44 [(t 24)],⟨none,none,(.store 4 (t 4) (t 25))⟩,Mc 5 0] .ret)))))
theorem k11:Zaw Tryz.prog 11=some ⟨c11,[(.cell 4 true 4),(.tmp 5)],26⟩:=by kernel_rfl
def c42:AC:=(Sr [Oo 2 (.box 25 2 (t 0)),Oo 3 (.box 25 2 (t 1)),Oo 4 (.new 30 4 [nl,nl,nl,nl])] (Sr [Fa 14 1 3,Ld 15 14,Cl 16 47 [(t 15)],Oo 17 (.build [nl,nl,nl,nl] [(3,(1,(t 16)))]),Oo 5 (.new 30 4 [nl,nl,nl,nl]),⟨none,none,(.store 4 (t 5) (t 17))⟩] (.seq (Sr [Fa 18 0 2,Ld 19 18,Oo 20 (.len false (t 19)),Mc 21 0] (.block 0 (.loop (Sr [Bn 22 .lss 21 20] (.seq (Cd 22 .skip (.exit 0)) (.seq (.block 1 (Sr [Oo 23 (.ia 5 (t 19) (t 21)),Oo 24 (.load true 5 (t 23)),Oo 7 (.new 40 5 [Ss,(iv 0),(iv 0),Ss,nl]),⟨none,none,(.store 5 (t 7) (t 24))⟩] (Sr [Fa 26 0 3,Ld 27 26,Fa 28 0 7,Ld 29 28,Cl 30 61 [(t 27),(t 29)],Mv 25 30,Ex 31 25 0,Ex 32 25 1,Mv 8 31,Mv 9 32] (Sr [Mv 33 9,Oo 34 (.un .not (t 33))] (Cd 34 (.reg [Fa 35 0 5,Ld 36 35,Fa 37 0 7,Ld 38 37,Oo 39 (.lit 9 1 1 [Ss] [(0,(1,(t 38)))]),Oo 40 (.app 9 1 16 (t 36) (t 39)),Fa 41 0 5,Sc 41 40]) .skip))))) (.reg [Bc 42 .add 21 1,Mv 21 42]))))))) (.seq (Sr [Fa 43 0 3,Ld 44 43,Oo 45 (.len false (t 44)),Mc 46 0] (.block 2 (.loop (Sr [Bn 47 .lss 46 45] (.seq (Cd 47 .skip (.exit 2)) (.seq (.block 3 (Sr [Oo 48 (.ia 5 (t 44) (t 46)),Oo 49 (.load true 5 (t 48)),Oo 11 (.new 40 5 [Ss,(iv 0),(iv 0),Ss,nl]),⟨none,none,(.store 5 (t 11) (t 49))⟩] (Sr [Fa 51 0 2,Ld 52 51,Fa 53 0 11,Ld 54 53,Cl 55 61 [(t 52),(t 54)],Mv 50 55,Ex 56 50 0,Ex 57 50 1,Mv 12 56,Mv 13 57] (.block 4 (Sr [Mv 59 13,Oo 60 (.un .not (t 59)),Mv 58 60] (Cd 58 (.drw [Fa 61 1 5,Ld 62 61,Fa 63 0 11,Ld 64 63,Fa 65 1 11,Oo 66 (.load true 4 (t 65)),Cl 67 44 [(t 66)],Oo 68 (.build [Ss,(iv 0),(iv 0),Ss,nl] [(0,(1,(t 64))),(1,(4,(t 67)))]),Oo 69 (.lit 40 5 1 [Ss,(iv 0),(iv 0),Ss,nl] [(0,(5,(t 68)))])] [false,false,false] [Oo 70 (.app 40 5 72 (t 62) (t 69)),Fa 71 1 5,Sc 71 70]) (Sd [Fa 73 0 2,Ld 74 73,Mv 75 12,Oo 76 (.ia 5 (t 74) (t 75)),Fa 77 1 76,Oo 78 (.load true 4 (t 77)),Fa 79 1 11,Oo 80 (.load true 4 (t 79)),Cl 81 86 [(t 78),(t 80)],Oo 82 (.un .not (t 81)),Mv 72 82] (Cd 72 (.drw [Fa 83 2 5,Ld 84 83,Fa 85 0 11,Ld 86 85,Fa 87 0 2,Ld 88 87,Mv 89 12,Oo 90 (.ia 5 (t 88) (t 89)),Fa 91 1 90,Oo 92 (.load true 4 (t 91)),Fa 93 1 11,Oo 94 (.load true 4 (t 93)),Cl 95 74 [(t 92),(t 94)],Oo 96 (.build [Ss,(iv 0),(iv 0),Ss,(iv 0),(iv 0),nl] [(0,(1,(t 86))),(1,(6,(t 95)))]),Oo 97 (.lit 44 7 1 [Ss,(iv 0),(iv 0),Ss,(iv 0),(iv 0),nl] [(0,(7,(t 96)))])] [false,false,false] [Oo 98 (.app 44 7 88 (t 84) (t 97)),Fa 99 2 5,Sc 99 98]) .skip)))))))) (.reg [Bc 100 .add 46 1,Mv 46 100]))))))) (Sr [Oo 101 (.load true 4 (t 5)),⟨none,none,(.store 4 (t 4) (t 101))⟩] .ret)))))
theorem k42:Zaw Tryz.prog 42=some ⟨c42,[(.cell 4 true 4)],102⟩:=by kernel_rfl
def c10:AC:=(Sr [Oo 2 (.box 25 2 (t 0)),Oo 3 (.box 25 2 (t 1)),Oo 4 (.new 30 4 [nl,nl,nl,nl]),Mc 5 0] (.seq (Sr [Oo 9 (.load true 2 (t 2)),Oo 10 (.load true 2 (t 3)),Oo 11 (.lit 25 2 2 [nl,nl,nl,nl] [(0,(2,(t 9))),(2,(2,(t 10)))]),Oo 12 (.len false (t 11)),Mc 13 0] (.block 0 (.loop (Sr [Bn 14 .lss 13 12] (.seq (Cd 14 .skip (.exit 0)) (.seq (.block 1 (Sr [Oo 15 (.ia 2 (t 11) (t 13)),Oo 16 (.load true 2 (t 15)),Oo 7 (.new 25 2 [nl,nl]),⟨none,none,(.store 2 (t 7) (t 16))⟩] (Sr [Oo 17 (.load true 2 (t 7)),Cl 18 17 [(t 17)],Mv 8 18] (Sr [Mv 19 8,Bc 20 .neq 19 0] (Cd 20 (Sr [Oo 21 (.build [nl,nl,nl,nl] []),Mv 22 8,⟨none,none,(.store 4 (t 4) (t 21))⟩,Mv 5 22] .ret) .skip))))) (.reg [Bc 23 .add 13 1,Mv 13 23]))))))) (Sr [Oo 24 (.load true 2 (t 2)),Oo 25 (.load true 2 (t 3)),Cl 26 42 [(t 24),(t 25)],⟨none,none,(.store 4 (t 4) (t 26))⟩,Mc 5 0] .ret)))
theorem k10:Zaw Tryz.prog 10=some ⟨c10,[(.cell 4 true 4),(.tmp 5)],27⟩:=by kernel_rfl
theorem clone_q {l:List Chg}{full:Bool}{h:AH}(hl:l.length≤3518437208883):ACalls Tryz.prog 89 [.sl l.length 4 full (rows chgC l)] h fun r h'=>h'=h∧r=.ret (chS l):=by
 refine tW' k89 fun N hn _ _ hbd=>?_
 simp only[tb'] at hbd ⊢
 refine wk'<|Zac<|wm<|?_
 refine Ztn lk (fun _=>pt) (fun bn3 hbn3=>?_)
 refine sn' ?_
 refine cd' lk (fun hc1=>?_) (fun hc1=>?_)
 ·refine wo<|Zah<|Zae rz<|rtW'<|?_
  have h0:l=[]:=List.eq_nil_of_length_eq_zero ((Nat.eq_zero_or_pos _).resolve_right (fun e=>by have:=hbn3 e;rw[hc1] at this;cases this))
  subst h0
  exact Wk.nilF
 refine za<|wr'<|E' (Zcz Zlo hl0 ha0) pt<|mw<|?_
 refine E' (ZbK (ZkH lk (Zbj _)) lk gx rfl om (Zgo _) hs0) pt ?_
 refine mw<|Zam<|?_
 refine ZaP (ALe.iceN (hga hn rfl) gt2 (show List.take _ _=rows chgC l from by rw[List.nil_append,Nat.zero_add];exact List.take_of_length_le (by rw[Zbj];exact Nat.le_refl _)) (by rw[List.nil_append,Nat.zero_add,Zbj];exact Nat.le_refl _) (by exact Nat.zero_add _) pt2 hs0) ?_
 refine Zbe<|Zae rz<|rtW'<|?_
 exact Wk.refl _
theorem ZpT {l:List Lnk}{full:Bool}{h:AH}(hl:l.length≤4398046511104):ACalls Tryz.prog 47 [.sl l.length 2 full (rows lnkC l)] h fun r h'=>h'=h∧r=.ret (.sl l.length 2 false (rows lnkC l)):=by
 refine tW' k47 fun N hn _ _ hbd=>?_
 simp only[tb'] at hbd ⊢
 refine wk'<|Zac<|wm<|?_
 refine Ztn lk (fun _=>pt) (fun bn3 hbn3=>?_)
 refine sn' ?_
 refine cd' lk (fun hc1=>?_) (fun hc1=>?_)
 ·refine wo<|Zah<|Zae rz<|rtW'<|?_
  have h0:l=[]:=List.eq_nil_of_length_eq_zero ((Nat.eq_zero_or_pos _).resolve_right (fun e=>by have:=hbn3 e;rw[hc1] at this;cases this))
  subst h0
  exact Wk.nilF
 refine za<|wr'<|E' (Zcz ZoP hl0 ha0) pt<|mw<|?_
 refine E' (ZbK (ZkH lk (Zeo _)) lk gx rfl om (ZpR _) hs0) pt ?_
 refine mw<|Zam<|?_
 refine ZaP (ALe.iceN (hga hn rfl) gt2 (show List.take _ _=rows lnkC l from by rw[List.nil_append,Nat.zero_add];exact List.take_of_length_le (by rw[Zeo];exact Nat.le_refl _)) (by rw[List.nil_append,Nat.zero_add,Zeo];exact Nat.le_refl _) (by exact Nat.zero_add _) pt2 hs0) ?_
 refine Zbe<|Zae rz<|rtW'<|?_
 exact Wk.refl _
theorem Zpj {t:Tab}{full:Bool}{h:AH}(hl:t.2.length≤3518437208883):Ac 44 [.agg [iv t.1.1,iv t.1.2.1,sv t.1.2.2,.sl t.2.length 4 full (rows chgC t.2)]] h (tabA t):=by
 refine tI' k44 fun N hn _ _ hbd=>?_
 simp only[tb'] at hbd ⊢
 refine wr'<|E' (ZaR cv rfl hl0 ha0) pt<|E' (ZaV hl1 ha1) pt<|sn'<|Zac<|ZaH<|dg<|Dw (Zag lk gx Zha rfl)<|dg<|Dw (Zaa lk gx gt3)<|?_
 refine ZaC mp (fun hE hX=>clone_q hl) pt ?_
 refine Dw (Zat (Zsq cv rfl cv rfl))<|ZaM<|?_
 refine Za5 ?_
 exact E' (Zai lk cv gx rfl nb rfl ZbT hs1) ptn<|sr<|Zae (rs1 (rr_c gt gx (ld1 ZbS rfl)))<|rT' rfl
theorem equalC_a {l m:List Chg}{f1 f2:Bool}{h:AH}:Ac 151 [.sl l.length 4 f1 (rows chgC l),.sl m.length 4 f2 (rows chgC m)] h (bv (decide (l=m))):=by
 refine tI' k151 fun N hn _ _ hbd=>?_
 simp only[tb'] at hbd ⊢
 refine wk'<|Zac<|wm<|Vw (ZaA lk)<|mw<|Vw (ZaA lk)<|Vw (Zba lk lk)<|Zam<|?_
 refine Zan ?_
 refine cd' lk (fun hc1=>?_) (fun hc1=>?_)
 ·refine wo<|Zah<|Zae rz<|rT'<|?_
  refine bvx (decide_eq_false (fun e=>hc1 (by rw[e]))).symm
 refine za<|Zac<|wm<|Vw (ZaA lk)<|ms<|Zaf<|?_
 refine w_lp (ι:=Nat) (fun (k:Nat)=>[(13,iv (k:Int)),(4,.any),(5,.any)]++rn' 14 12) (fun (k:Nat)=>[]) (fun (k:Nat)=>k≤l.length∧l.length=m.length∧l.take k=m.take k) (fun (k:Nat)=>l.length-k) (0) (by exact⟨by omega,by omega,by simp⟩) ?_
 rintro k hi1
 try simp only[sm',Nat.reduceAdd]
 obtain⟨hk1,hk2,hk3⟩:=hi1
 refine wr'<|Vw (ZaO lk lk)<|sn'<|Zac<|?_
 refine cd' lk (fun hc2=>?_) (fun hc2=>?_)
 ·refine za<|Zac<|Zaf<|wm<|ms<|Zac<|ZaH<|Dw vm<|Dw vm<|?_
  refine D' (ZaJ lk lk Za1 nb ro om ro rfl) pt ?_
  refine Dw (Zas lk Ze4 rfl)<|Dw vm<|Dw vm<|?_
  refine D' (ZaJ lk lk Za1 nb ro om ro rfl) pt ?_
  refine Dw (Zas lk Ze4 rfl)<|Dw (ZfW lk lk ZmU)<|ZaM<|?_
  refine Za5 ?_
  refine sn' ?_
  refine cd' lk (fun hc3=>?_) (fun hc3=>?_)
  ·refine wo<|Zaq<|Zah<|Zah<|Zaq<|Zah<|Zae rz<|rT'<|?_
   refine bvx (decide_eq_false (fun e=>hc3 (by subst e;simp))).symm
  refine ZaB<|Zau<|Zan<|Zap<|?_
  refine ad<|mw<|Zam<|Zaz<|?_
  refine lT' (k+1) (by (try dsimp only);exact⟨by omega,hk2,ZlC om om hk3 (Zoc (Decidable.of_not_not hc3))⟩)
 refine Zay<|Zar<|Zar<|ZaN<|Zan<|wo<|Zae rz<|rT'<|?_
 refine bvx (decide_eq_true ?_).symm
 rw[List.take_of_length_le om,List.take_of_length_le om] at hk3
 exact hk3
theorem rsame_a {t u:Tab}{f1 f2:Bool}{h:AH}:Ac 86 [.agg [iv t.1.1,iv t.1.2.1,sv t.1.2.2,.sl t.2.length 4 f1 (rows chgC t.2)],.agg [iv u.1.1,iv u.1.2.1,sv u.1.2.2,.sl u.2.length 4 f2 (rows chgC u.2)]] h (bv (decide (t=u))):=by
 refine tI' k86 fun N hn _ _ hbd=>?_
 simp only[tb'] at hbd ⊢
 refine wr'<|E' (ZaR cv rfl hl0 ha0) pt<|E' (ZaR cv rfl hl1 ha1) pt<|ms<|wr'<|fq<|Vw (Zag lk gx Zha rfl)<|fq<|Vw (Zag lk gx Zha rfl)<|Vw (Zo3 lk lk ZoO)<|?_
 refine mv' lk pt ?_
 refine sp' (t:=10) gt pt pt (fun hg10=>?_) (fun hg10=>?_)
 ·have h1:t.1=u.1:=by obtain⟨x1,x2,x3⟩:=hg10;exact Prod.ext x1 (Prod.ext x2 x3)
  refine sd<|fq<|sd<|Vw (Zaa lk gx gt3)<|sd<|fq<|sd<|Vw (Zaa lk gx gt3)<|sd<|Zad mp (equalC_a) pt<|Vw (Zal lk lk)<|ms<|?_
  refine Zbe<|Zae rz<|rT'<|?_
  refine bvx ?_;rw[Bool.eq_iff_iff,decide_eq_true_iff,decide_eq_true_iff];exact⟨fun e=>Prod.ext h1 e,fun e=>by rw[e]⟩
 refine so<|so<|so<|so<|so<|Vw (Zaj lk lkb)<|mr<|Zae rz<|rT'<|?_
 refine bvx (decide_eq_false fun e=>hg10 (by rw[e];exact⟨rfl,rfl,rfl⟩)).symm
theorem lookR1_a {nm:ByteArray}{l:Lnk}{id:Nat}{h:AH}(he:h[id]?=some (.mk 0 9 1 [sv nm])):Ac 88 [.agg (lnkC l),.ptr id 0 0] h (bv (decide (l.2=nm))):=by
 refine tI' k88 fun N hn _ _ hbd=>?_
 simp only[tb'] at hbd ⊢
 refine wr'<|E' (ZaR cv rfl hl0 ha0) pt<|ms<|wr'<|fq<|Vw (Zaa lk gx gt1)<|Vw (Zaa lk (Zc2 he) gt0)<|Vw (ZfX lk lk)<|mw<|Zam<|?_
 exact Zan<|Zbe<|Zae rz<|rT' rfl
theorem Zpp {t:List Nam}(hr:risN t) {nm:ByteArray}(h:hasN t nm=true) : ∃ hp:posN t nm<t.length,ZaK t nm=some t[posN t nm].2:=by
 obtain⟨hi,he⟩:=ZjO h
 have e:=ZkT hr h
 refine⟨by rw[e];exact hi,?_⟩
 rw[ZpN,List.getElem?_eq_getElem hi]
 simp only[e,Option.map_some]
theorem tgtR_yes {k:List Lnk}{nm:ByteArray}(h:k.findIdx (fun l:Lnk=>decide (l.2=nm))<k.length):tgtR k nm=k[k.findIdx fun l:Lnk=>decide (l.2=nm)].1:=by
 unfold tgtR;rw[List.getElem?_eq_getElem h]
theorem tgtR_no {k:List Lnk}{nm:ByteArray}(h:¬k.findIdx (fun l:Lnk=>decide (l.2=nm))<k.length):tgtR k nm=nm:=by
 unfold tgtR;rw[List.getElem?_eq_none (Nat.le_of_not_lt h)]
def ZeD (r:Rel) (nm:ByteArray):Tab×Bool:=match ZaK r.1 (tgtR r.2 nm) with
 | none=>(Zfr,false)
 | some t=>(t,true)
theorem ZpO {t:List Nam}{nm:ByteArray}(hb:hasN t nm=false):ZaK t nm=none:=by rw[Zb1] at hb;simpa using hb
theorem Zum {t:List Nam}{k:List Lnk}{nm:ByteArray}(hb:hasN t (tgtR k nm)=false):ZeD (t,k) nm=(Zfr,false):=by
 unfold ZeD;dsimp only;rw[ZpO hb]
theorem betF_no {r:List Nam}{n:Nam}(hb:hasN r n.1=false):betF ZcI r n=none:=by
 unfold betF;rw[ZpO hb]
theorem ZhV {e:AV}:Wk (.tup [.agg [.v (.int .i64 0),.v (.int .i64 0),.v (.string ⟨#[]⟩),.sl 0 0 true []],e]) (.tup [tabA Zfr,e]):=Wk.tup (wkw (Wk.agg (wk1 rfl (wk1 rfl (wk1 rfl (wkw Wk.nilF wk0))))) (wk1 rfl wk0))
theorem lookR_a {t:List Nam}{k:List Lnk}{nm:ByteArray}{h:AH}(hr:risN t) (hl:t.length≤1000000) (hk:k.length≤9223372036854775807) :
  Ac 43 [.agg [.sl t.length 5 false (rows namC t),.sl k.length 2 false (rows lnkC k)],sv nm] h (.tup [tabA (ZeD (t,k) nm).1,bv (ZeD (t,k) nm).2]):=by
 have hkk:=hk
 refine tW' k43 fun N hn _ _ hbd=>?_
 simp only[tb'] at hbd ⊢
 refine wr'<|E' (ZaR cv rfl hl0 ha0) pt<|E' (ZaR cv rfl hl1 ha1) pt<|E' (ZaV hl2 ha2) pt<|ms<|wr'<|fq<|Vw (Zaa lk gx gt1)<|Vw (Zhf mp)<|?_
 refine Zad mp (ZpX (p:=fun l:Lnk=>decide (l.2=nm)) (fun c _ E=>lookR1_a (Zc2 gx)) hkk) pt ?_
 refine ms<|?_
 refine Zhe (ι:=Unit) (fun (x:Unit)=>[]++rn' 13 8) (fun (x:Unit)=>[(1,.mk 0 9 1 [sv (tgtR k nm)])]) (fun (x:Unit)=>True) ?_ ?_
 ·try simp only[sm',Nat.reduceAdd]
  refine wm<|Vw (ZfC lk lki)<|sn'<|?_
  refine cd' lk (fun hc1=>?_) (fun hc1=>?_)
  ·have hlt':k.findIdx (fun l:Lnk=>decide (l.2=nm))<k.length:=by unfold idxV at hc1;split at hc1;assumption;omega
   have hix:idxV (fun l:Lnk=>decide (l.2=nm)) k=((k.findIdx fun l:Lnk=>decide (l.2=nm):Nat):Int):=if_pos hlt'
   have hT:=tgtR_yes hlt'
   refine Zap<|fq<|Vw (Zaa lk gx gt1)<|mw<|?_
   refine V' (ZaJ (k:=k.findIdx fun l:Lnk=>decide (l.2=nm)) lk lk Zbf nb ro om ro rfl) pt ?_
   refine Vw (Zbl lk dp0)<|Vw (Zax lk gt)<|E' (Zai lk cv gx rfl nb rfl Zkp hs1) ptn<|Zam<|Zaz<|?_
   exact cT' (()) (by trivial) (by refine zz ?_;exact ALe.same wA' (by rw[hT];first | rfl | done))
  have hlt':¬k.findIdx (fun l:Lnk=>decide (l.2=nm))<k.length:=fun h=>hc1 (by unfold idxV;rw[if_pos h];omega)
  have hT:=tgtR_no hlt'
  refine ZaB<|Zaz<|?_
  exact cT' (()) (by trivial) (by refine zz ?_;exact ALe.same wA' (by rw[hT];first | rfl | done))
 rintro x hq4
 try simp only[sm',Nat.reduceAdd]
 refine wr'<|fq<|Vw (Zaa lk gx gt0)<|Vw (Zaa lk gx gt0)<|?_
 refine Zad mp (ZgL hr om) pt ?_
 refine mw<|Vw (ZaQ lk gt)<|Vw (ZaQ lk gt)<|mw<|ms<|Zac<|wm<|Vw (ZaE lk)<|sn'<|?_
 refine Zav lk (fun hc2=>?_) (fun hc2=>?_)
 ·have hb:hasN t (tgtR k nm)=false:=by simpa using hc2
  have hL:=Zum hb
  refine wr'<|Vw (Zat ZmV)<|E' (Zai lk cv gx rfl nb rfl ZbT hs2) ptn<|mr<|Zah<|Zae (rsn (rm1 (rr_c gt gx (ld1 ZbS rfl)) (rm1 (rr_t gt) rm0)))<|rtW'<|?_
  rw[hL];exact ZhV
 have hb:hasN t (tgtR k nm)=true:=by simpa using hc2
 obtain⟨hp,hkl⟩:=Zpp hr hb
 have hL:ZeD (t,k) nm=(t[posN t (tgtR k nm)].2,true):=by unfold ZeD;dsimp only;rw[hkl]
 refine za<|wr'<|fq<|Vw (Zaa lk gx gt0)<|mw<|?_
 refine V' (ZaJ (k:=posN t (tgtR k nm)) lk lk ZaL nb ro om ro rfl) pt ?_
 refine Vw (Zbl lk dp1)<|Vw (Zas lk Ze4 rfl)<|E' (Zai lk cv gx rfl nb rfl ZbT hs2) ptn<|mr<|Zae (rsn (rm1 (rr_c gt gx (ld1 ZbS rfl)) (rm1 (rr_t gt) rm0)))<|rtW'<|?_
 rw[hL];exact Wk.refl _
theorem ZuF {t:List Nam}{k:List Lnk}{nm:ByteArray}{h:AH}(hok:Zgb (t,k)) (hk:k.length≤9223372036854775807) :
  Ac 11 [.agg [.sl t.length 5 false (rows namC t),.sl k.length 2 false (rows lnkC k)],sv nm] h (.tup [tabA (Zir (t,k) nm).1,iv (Zir (t,k) nm).2]):=by
 have hkk:=hk
 refine tW' k11 fun N hn _ _ hbd=>?_
 simp only[tb'] at hbd ⊢
 refine wr'<|E' (ZaR cv rfl hl0 ha0) pt<|E' (ZaV hl1 ha1) pt<|ms<|Zac<|wr'<|Vw (Zag lk gx ZcU rfl)<|Zad mp (ZlW hok) pt<|mw<|Zam<|?_
 refine Zan<|wm<|Vw (Zba lk lki)<|sn'<|?_
 refine cd' lk (fun hc1=>?_) (fun hc1=>?_)
 ·have hF:Zir (t,k) nm=(Zfr,ZaU (t,k)):=if_pos hc1
  refine wr'<|Vw (Zat ZoQ)<|mw<|E' (Zai lk cv gx rfl nb rfl ZbT hs1) ptn<|mr<|Zah<|Zae (rsn (rm1 (rr_c gt gx (ld1 ZbS rfl)) (rm1 (rr_t gt) rm0)))<|rtW'<|?_
  rw[hF];exact ZhV
 have h0:ZaU (t,k)=0:=Decidable.of_not_not hc1
 obtain⟨a1,a2,a3,a4,a5,a6⟩:=Zb6 h0
 simp only at a1 a2 a3 a4
 refine za<|wr'<|Vw (Zag lk gx ZcU rfl)<|mw<|?_
 refine Zad mp (lookR_a a4 om hkk) pt ?_
 refine mw<|Vw (ZaQ lk gt)<|Vw (ZaQ lk gt)<|E' (ZaV hl2 ha2) pt<|E' (Zai lk cv gx rfl nb rfl ZbT hs2) ptn<|ms<|Zac<|wm<|Vw (ZaE lk)<|Zam<|?_
 refine Zan ?_
 refine Zav lk (fun hc2=>?_) (fun hc2=>?_)
 ·have hb:(ZeD (t,k) nm).2=false:=by simpa using hc2
  have hF:Zir (t,k) nm=(Zfr,5):=by unfold Zir;rw[if_neg hc1];unfold ZeD at hb;split at hb;(rename_i e;first | rw[e] | rfl);cases hb
  refine wr'<|Vw (Zat ZmW)<|E' (Zai lk cv gx rfl nb rfl ZbT hs1) ptn<|mr<|Zah<|Zae (rsn (rm1 (rr_c gt gx (ld1 ZbS rfl)) (rm1 (rr_t gt) rm0)))<|rtW'<|?_
  rw[hF];exact ZhV
 have hb:(ZeD (t,k) nm).2=true:=by simpa using hc2
 have hF:Zir (t,k) nm=((ZeD (t,k) nm).1,0)∧Zbd (ZeD (t,k) nm).1=0:=by unfold Zir;rw[if_neg hc1];unfold ZeD at hb ⊢;split at hb;cases hb;(rename_i u e;(try rw[e]);exact⟨rfl,(a3 _ (Zcn e)).2⟩)
 have hlen:=ZcO hF.2
 refine za<|wr'<|Vw (Zag lk gx ZbS rfl)<|?_
 refine Zad mp (Zpj om) pt ?_
 refine E' (Zai lk cv gx rfl nb rfl ZbT hs1) ptn<|mr<|Zae (rsn (rm1 (rr_c gt gx (ld1 ZbS rfl)) (rm1 (rr_t gt) rm0)))<|rtW'<|?_
 rw[hF.1];exact Wk.refl _
abbrev updC (u:Upd):List AV:=[.sl u.1.length 1 false (rows strC u.1),.sl u.2.1.length 5 false (rows namC u.2.1),.sl u.2.2.1.length 7 false (rows nptC u.2.2.1),.sl u.2.2.2.length 2 false (rows lnkC u.2.2.2)]
theorem Zvt (l s:List Nam) (n:Nam):betD (l++[n]) s=betD l s++(if hasN s n.1=true then [] else [n.1]):=by
 unfold betD
 rw[List.filter_append,List.map_append]
 congr 1
 cases h:hasN s n.1 <;> simp[h]
theorem Zvs (r l:List Nam) (n:Nam):betP r (l++[n])=betP r l++(if hasN r n.1=true then [] else [n]):=by
 unfold betP
 rw[List.filter_append]
 congr 1
 cases h:hasN r n.1 <;> simp[h]
theorem Zvr (r l:List Nam) (n:Nam):betT ZcI r (l++[n])=betT ZcI r l++(betF ZcI r n).toList:=by
 unfold betT
 rw[List.filterMap_append]
 congr 1
 try (cases h:betF ZcI r n <;> simp[h])
theorem betD_len (l s:List Nam):(betD l s).length≤l.length:=by unfold betD;rw[List.length_map];exact List.length_filter_le _ _
theorem Zqs (r l:List Nam):(betP r l).length≤l.length:=List.length_filter_le _ _
theorem betT_len (r l:List Nam):(betT ZcI r l).length≤l.length:=List.length_filterMap_le _ _
theorem betR_a {r s:Rel}{h:AH}(hr:ZaU r=0) (hs:ZaU s=0) :
  Ac 42 [.agg [.sl r.1.length 5 false (rows namC r.1),.sl r.2.length 2 false (rows lnkC r.2)],.agg [.sl s.1.length 5 false (rows namC s.1),.sl s.2.length 2 false (rows lnkC s.2)]] h (.agg (updC (betU r s))):=by
 obtain⟨a1,a2,a3,a4,a5,a6⟩:=Zb6 hr
 obtain⟨b1,b2,b3,b4,b5,b6⟩:=Zb6 hs
 refine tI' k42 fun N hn hlt _ hbd=>?_
 simp only[tb'] at hbd ⊢
 refine wr'<|E' (ZaR cv rfl hl0 ha0) pt<|E' (ZaR cv rfl hl1 ha1) pt<|E' (ZaV hl2 ha2) pt<|sn'<|wr'<|fq<|Vw (Zaa lk gx gt1)<|?_
 refine Zad mp (ZpT om) pt ?_
 refine Vw (Zat (Zjm cv rfl))<|E' (ZaV hl3 ha3) pt<|E' (Zai lk cv gx rfl nb rfl ZbT hs3) ptn<|Zam<|?_
 refine ZaP (ALe.trans (ALe.own0Cell (st':=1) (ty:=9) gx gt0 hl4 pt0 (Eq.trans (congrArg (fun z=>List.set z _ _) ha4) hs3)) (ALe.trans (ALe.own0Cell (st':=5) (ty:=40) gx gt1 hl5 pt1 (Eq.trans (congrArg (fun z=>List.set z _ _) ha5) hs3)) (ALe.own0Cell (st':=7) (ty:=44) gx gt2 hl6 pt2 (Eq.trans (congrArg (fun z=>List.set z _ _) ha6) hs3)))) ?_
 refine Zac<|wr'<|fq<|Vw (Zaa lk gx gt0)<|Vw (ZaA lk)<|ms<|Zaf<|?_
 refine w_lp (ι:=Nat×Nat) (fun (x_:Nat×Nat)=>match x_ with | ⟨i,v⟩=>[(21,iv (i:Int))]++rn' 7 3++rn' 22 21) (fun (x_:Nat×Nat)=>match x_ with | ⟨i,v⟩=>[(3,.mk 0 30 4 [.own (N+4) v (betD (r.1.take i) s.1).length,.own (N+5) 0 0,.own (N+6) 0 0,.sl s.2.length 2 false (rows lnkC s.2)]),(4,.mk v 9 1 (rows strC (betD (r.1.take i) s.1)))]) (fun (x_:Nat×Nat)=>match x_ with | ⟨i,v⟩=>i≤r.1.length) (fun (x_:Nat×Nat)=>match x_ with | ⟨i,v⟩=>r.1.length-i) (⟨0,0⟩) (by exact Nat.zero_le _) ?_
 rintro⟨i,v⟩ hi1
 try simp only[sm',Nat.reduceAdd]
 replace hi1:i≤r.1.length:=hi1
 have hdl:=betD_len (r.1.take i) s.1
 rw[List.length_take] at hdl
 refine wr'<|Vw (ZaO lk lk)<|sn'<|Zac<|?_
 refine cd' lk (fun hc1=>?_) (fun hc1=>?_)
 ·have hi:i<r.1.length:=by omega
  have hst:=Zvt (r.1.take i) s.1 r.1[i]
  rw[←List.take_succ_eq_append_getElem hi] at hst
  refine za<|Zac<|Zaf<|wr'<|?_
  refine V' (ZaJ lk lk ZaL nb ro om ro rfl) pt ?_
  refine Vw (Zas lk ZiY rfl)<|E' (ZaV hl7 ha7) pt<|E' (Zai lk cv gx rfl nb rfl Zko hs7) ptn<|sn'<|wr'<|fq<|Vw (Zaa lk gx gt0)<|fq<|Vw (Zaa lk gx gt0)<|?_
  refine Zad mp (ZgL b4 om) pt ?_
  refine mw<|Vw (ZaQ lk gt)<|Vw (ZaQ lk gt)<|mw<|ms<|wm<|Vw (ZaE lk)<|sn'<|?_
  refine Zav lk (fun hc2=>?_) (fun hc2=>?_)
  ·have hb:hasN s.1 r.1[i].1=false:=by simpa using hc2
   rw[if_neg (by rw[hb];simp)] at hst
   refine Zap<|fq<|Vw (Zaa lk gx gt0)<|fq<|Vw (Zaa lk gx gt0)<|E' (Zcz (Zi2 cv rfl) hl8 ha8) pt<|?_
   refine E' (ZbK (Zbp lk gx rfl Zv1 nb) lk gx (Zeh _) om rfl hs4) pt ?_
   refine fq<|E' (Zai lk cv gx rfl nb rfl Zkp hs3) ptn<|Zam<|Zau<|Zan<|Zap<|?_
   refine ad<|mw<|Zam<|Zaz<|?_
   refine lU' (⟨i+1,v+1⟩) (by (try dsimp only);omega) (by refine zz ?_;exact bk' 7 hn hlt (by rw[hst,List.length_append,ZaF];rfl) (hT:=by simp[AV.lt,AV.ltL,Ent.lt]) (hE:=by simp[AV.lt,AV.ltL,Ent.lt]))
  have hb:hasN s.1 r.1[i].1=true:=by simpa using hc2
  rw[if_pos hb,List.append_nil] at hst
  refine ZaB<|Zau<|Zan<|Zap<|?_
  refine ad<|mw<|Zam<|Zaz<|?_
  refine lU' (⟨i+1,v⟩) (by (try dsimp only);omega) (by refine zz ?_;exact bk' 7 hn hlt (by rw[hst];rfl) (hT:=by simp[AV.lt,AV.ltL,Ent.lt]) (hE:=by simp[AV.lt,AV.ltL,Ent.lt]))
 rw[List.take_of_length_le (show r.1.length≤i by omega)] at *
 refine Zay<|Zar<|Zar<|ZaN<|Zan<|Zac<|wr'<|fq<|Vw (Zaa lk gx gt0)<|Vw (ZaA lk)<|ms<|?_
 refine Zaf ?_
 refine w_lp (ι:=Nat×Nat×Nat) (fun (x_:Nat×Nat×Nat)=>match x_ with | ⟨j,p,q⟩=>[(46,iv (j:Int))]++rn' 11 3++rn' 47 54) (fun (x_:Nat×Nat×Nat)=>match x_ with | ⟨j,p,q⟩=>[(3,.mk 0 30 4 [.own (N+4) v (betD r.1 s.1).length,.own (N+5) p (betP r.1 (s.1.take j)).length,.own (N+6) q (betT ZcI r.1 (s.1.take j)).length,.sl s.2.length 2 false (rows lnkC s.2)]),(5,.mk p 40 5 (rows namC (betP r.1 (s.1.take j)))),(6,.mk q 44 7 (rows nptC (betT ZcI r.1 (s.1.take j))))]) (fun (x_:Nat×Nat×Nat)=>match x_ with | ⟨j,p,q⟩=>j≤s.1.length) (fun (x_:Nat×Nat×Nat)=>match x_ with | ⟨j,p,q⟩=>s.1.length-j) (⟨0,0,0⟩) (by exact Nat.zero_le _) ?_
 rintro⟨j,p,q⟩ hi2
 try simp only[sm',Nat.reduceAdd]
 replace hi2:j≤s.1.length:=hi2
 have hpl:=Zqs r.1 (s.1.take j)
 have hql:=betT_len r.1 (s.1.take j)
 rw[List.length_take] at hpl hql
 refine wr'<|Vw (ZaO lk lk)<|sn'<|Zac<|?_
 refine cd' lk (fun hc3=>?_) (fun hc3=>?_)
 ·have hj:j<s.1.length:=by omega
  have hsP:=Zvs r.1 (s.1.take j) s.1[j]
  have hsT:=Zvr r.1 (s.1.take j) s.1[j]
  rw[←List.take_succ_eq_append_getElem hj] at hsP hsT
  have hlu:=ZcO (b3 _ (List.getElem_mem hj)).2
  refine za<|Zac<|Zaf<|wr'<|?_
  refine V' (ZaJ lk lk ZaL nb ro om ro rfl) pt ?_
  refine Vw (Zas lk ZiY rfl)<|E' (ZaV hl7 ha7) pt<|E' (Zai lk cv gx rfl nb rfl Zko hs7) ptn<|sn'<|wr'<|fq<|Vw (Zaa lk gx gt0)<|fq<|Vw (Zaa lk gx gt0)<|?_
  refine Zad mp (ZgL a4 om) pt ?_
  refine mw<|Vw (ZaQ lk gt)<|Vw (ZaQ lk gt)<|mw<|ms<|Zaf<|wm<|Vw (ZaE lk)<|mw<|Zam<|?_
  refine Zan ?_
  refine Zav lk (fun hc4=>?_) (fun hc4=>?_)
  ·have hb:hasN r.1 s.1[j].1=false:=by simpa using hc4
   have hF:=betF_no hb
   rw[if_neg (by rw[hb];simp)] at hsP
   rw[hF] at hsT
   replace hsT:betT ZcI r.1 (s.1.take (j+1))=betT ZcI r.1 (s.1.take j):=hsT.trans (List.append_nil _)
   refine ZaH<|dg<|Dw (Zaa lk gx gt1)<|dg<|Dw (Zaa lk gx gt0)<|dg<|Dw (Zag lk gx Zg9 rfl)<|?_
   refine ZaC mp (fun hE hX=>Zpj om) pt ?_
   refine Dw (Zat (Zi1 cv rfl cv rfl))<|Zc5 rfl rfl (hlk hn rfl) (ZfJ (Zi0 cv rfl)) pt ZmT<|ZaM<|?_
   refine Zc4 Zkq ?_
   refine E' (ZbK (Zbp lk gx rfl ZiY nb) lk gx (ZbF _) om rfl hs5) pt ?_
   refine fq<|E' (Zai lk cv gx rfl nb rfl Zso hs3) ptn<|Zam<|Zau<|Zau<|Zan<|Zap<|?_
   refine ad<|mw<|Zam<|Zaz<|?_
   refine lU' (⟨j+1,p+1,q⟩) (by (try dsimp only);omega) (by refine zz ?_;exact bk' 7 hn hlt (by rw[hsP,hsT,List.length_append,ZaF];rfl) (hT:=by simp[AV.lt,AV.ltL,Ent.lt]) (hE:=by simp[AV.lt,AV.ltL,Ent.lt]))
  have hb:hasN r.1 s.1[j].1=true:=by simpa using hc4
  obtain⟨hp,hkl⟩:=Zpp a4 hb
  have hlr:=ZcO (a3 _ (List.getElem_mem hp)).2
  rw[if_pos hb,List.append_nil] at hsP
  refine Zac<|ZaH<|dg<|Dw (Zaa lk gx gt0)<|Dw vm<|?_
  refine D' (ZaJ (k:=posN r.1 s.1[j].1) lk lk ZaL nb ro om ro rfl) pt ?_
  refine Dw (Zbl lk dp1)<|Dw (Zas lk Ze4 rfl)<|dg<|Dw (Zag lk gx Zg9 rfl)<|?_
  refine ZaC mp (fun hE hX=>rsame_a) pt ?_
  refine Dw (ZaE lk)<|Dw vm<|ZaM<|?_
  refine Za5 ?_
  refine sn' ?_
  refine Zav lk (fun hc5=>?_) (fun hc5=>?_)
  ·have hne:¬r.1[posN r.1 s.1[j].1].2=s.1[j].2:=by simpa using hc5
   have hF:betF ZcI r.1 s.1[j]=some (s.1[j].1,ZcI r.1[posN r.1 s.1[j].1].2 s.1[j].2):=by unfold betF;rw[hkl];dsimp only;rw[if_neg hne]
   rw[hF] at hsT
   refine ZaH<|dg<|Dw (Zaa lk gx gt2)<|dg<|Dw (Zaa lk gx gt0)<|dg<|Dw (Zaa lk gx gt0)<|Dw vm<|?_
   refine D' (ZaJ (k:=posN r.1 s.1[j].1) lk lk ZaL nb ro om ro rfl) pt ?_
   refine Dw (Zbl lk dp1)<|Dw (Zas lk Ze4 rfl)<|dg<|Dw (Zag lk gx Zg9 rfl)<|?_
   refine ZaC mp (fun hE hX=>Zvq (t:=r.1[posN r.1 s.1[j].1].2) (u:=s.1[j].2) om om) pt ?_
   refine Dw (Zat (ZiZ cv rfl cv rfl))<|Zc5 rfl rfl (hlk hn rfl) (ZfJ (Zhz cv rfl)) pt ZmT<|ZaM<|?_
   refine Zc4 Zkq ?_
   refine E' (ZbK (Zbp lk gx rfl Zv0 nb) lk gx (ZnC _) om rfl hs6) pt ?_
   refine fq<|E' (Zai lk cv gx rfl nb rfl Zsn hs3) ptn<|Zam<|Zau<|Zau<|Zan<|Zap<|?_
   refine ad<|mw<|Zam<|Zaz<|?_
   refine lU' (⟨j+1,p,q+1⟩) (by (try dsimp only);omega) (by refine zz ?_;exact bk' 7 hn hlt (by rw[hsP,hsT,List.length_append,ZaF];rfl) (hT:=by simp[AV.lt,AV.ltL,Ent.lt]) (hE:=by simp[AV.lt,AV.ltL,Ent.lt]))
  have hne:r.1[posN r.1 s.1[j].1].2=s.1[j].2:=by simpa using hc5
  have hF:betF ZcI r.1 s.1[j]=none:=by unfold betF;rw[hkl];dsimp only;rw[if_pos hne]
  rw[hF] at hsT
  replace hsT:betT ZcI r.1 (s.1.take (j+1))=betT ZcI r.1 (s.1.take j):=hsT.trans (List.append_nil _)
  refine ZaB<|Zau<|Zau<|Zan<|Zap<|?_
  refine ad<|mw<|Zam<|Zaz<|?_
  refine lU' (⟨j+1,p,q⟩) (by (try dsimp only);omega) (by refine zz ?_;exact bk' 7 hn hlt (by rw[hsP,hsT];rfl) (hT:=by simp[AV.lt,AV.ltL,Ent.lt]) (hE:=by simp[AV.lt,AV.ltL,Ent.lt]))
 rw[List.take_of_length_le (show s.1.length≤j by omega)] at *
 refine Zay<|Zar<|Zar<|ZaN<|?_
 refine ZaP (ALe.trans (ALe.iceCellR (hga hn rfl) (hga hn rfl) om gt0 (List.take_of_length_le (by rw[Zeh];exact Nat.le_refl _)) (by rw[Zeh];exact Nat.le_refl _) pt0 hs4 hs3) (ALe.trans (ALe.iceCellR (hga hn rfl) (hga hn rfl) om gt1 (List.take_of_length_le (by rw[ZbF];exact Nat.le_refl _)) (by rw[ZbF];exact Nat.le_refl _) pt1 hs5 hs3) (ALe.iceCellR (hga hn rfl) (hga hn rfl) om gt2 (List.take_of_length_le (by rw[ZnC];exact Nat.le_refl _)) (by rw[ZnC];exact Nat.le_refl _) pt2 hs6 hs3))) ?_
 exact wr'<|Vw (Zag lk gx ZbS rfl)<|E' (Zai lk cv gx rfl nb rfl ZbT hs2) ptn<|sr<|Zae (rs1 (rr_c gt gx (ld1 ZbS rfl)))<|rT' rfl
theorem rel_lt {n:Nat}(l:List Rel):AV.ltL n (rows relC l)=true:=ZcB (fun n x=>by simp[AV.ltL,AV.lt,Zc1,Zbv]) l
attribute [local simp] rel_lt
theorem diffU_at {r s:Rel}{k:Nat}(hk:k<[r,s].length) (h0 : ∀ j (hj:j<[r,s].length),j<k→ZaU [r,s][j]=0) (h:ZaU [r,s][k]≠0):Zdo r s=(upd0,ZaU [r,s][k]):=by
 match k,hk with
 | 0,_=>exact if_pos h
 | 1,_ =>
  have h1:ZaU r=0:=h0 0 (by simp) om
  have h2:ZaU s≠0:=h
  unfold Zdo
  rw[if_neg (by simpa using h1),if_pos h2];rfl
theorem diffU_ok {r s:Rel}(h0 : ∀ j (hj:j<[r,s].length),ZaU [r,s][j]=0):ZaU r=0∧ZaU s=0∧Zdo r s=(betU r s,0):=by
 have h1:ZaU r=0:=h0 0 (by simp)
 have h2:ZaU s=0:=h0 1 (by simp)
 refine⟨h1,h2,?_⟩
 unfold Zdo
 rw[if_neg (by simpa using h1),if_neg (by simpa using h2)]
theorem wk_upd0 {e:AV}:Wk (.tup [.agg [.sl 0 0 true [],.sl 0 0 true [],.sl 0 0 true [],.sl 0 0 true []],e]) (.tup [.agg (updC upd0),e]):=Wk.tup (wkw (Wk.agg (wkw Wk.nilF (wkw Wk.nilF (wkw Wk.nilF (wkw Wk.nilF wk0))))) (wk1 rfl wk0))
theorem Zn4 {r s:Rel}{h:AH}(hr:Zgb r) (hs:Zgb s) :
  Ac 10 [.agg [.sl r.1.length 5 false (rows namC r.1),.sl r.2.length 2 false (rows lnkC r.2)],.agg [.sl s.1.length 5 false (rows namC s.1),.sl s.2.length 2 false (rows lnkC s.2)]] h (.tup [.agg (updC (Zdo r s).1),iv (Zdo r s).2]):=by
 refine tW' k10 fun N hn hlt _ hbd=>?_
 simp only[tb'] at hbd ⊢
 refine wr'<|E' (ZaR cv rfl hl0 ha0) pt<|E' (ZaR cv rfl hl1 ha1) pt<|E' (ZaV hl2 ha2) pt<|ms<|Zac<|wr'<|Vw (Zag lk gx ZcU rfl)<|Vw (Zag lk gx ZcU rfl)<|E' (Zcz (ZoR cv rfl cv rfl) hl3 ha3) pt<|?_
 refine Vw (Zcm lk)<|ms<|Zaf<|?_
 refine w_lp (ι:=Nat) (fun (k:Nat)=>[(13,iv (k:Int)),(5,.any),(7,.any),(8,.any)]++rn' 14 10) (fun (k:Nat)=>[(3,.mk 0 25 2 (rows relC [r,s]))]) (fun (k:Nat)=>k≤[r,s].length ∧ ∀ j (hj:j<[r,s].length),j<k→ZaU [r,s][j]=0) (fun (k:Nat)=>2-k) (0) (by exact⟨by simp,fun j hj h0=>by omega⟩) ?_
 rintro k hi1
 try simp only[sm',Nat.reduceAdd]
 obtain⟨hk1,hk2⟩:=hi1
 have hlen:[r,s].length=2:=rfl
 refine wr'<|Vw (ZaO lk lk)<|sn'<|Zac<|?_
 refine cd' lk (fun hc1=>?_) (fun hc1=>?_)
 ·have hk:k<[r,s].length:=by omega
  have hok:Zgb [r,s][k]:=by
   match k,hk with
   | 0,_=>exact hr
   | 1,_=>exact hs
  refine za<|Zac<|Zaf<|wr'<|?_
  refine V' (ZaT lk lk gx (fun _=>rfl) nb ro om (by first | rfl | (simp;done) | omega)) pt ?_
  refine V' (ZeN lk gx (fun _=>rfl) om rfl) pt ?_
  refine E' (ZaV hl4 ha4) pt<|E' (Zai lk cv gx rfl nb rfl Zsp hs4) ptn<|sn'<|wr'<|Vw (Zag lk gx ZcU rfl)<|Zad mp (ZlW (t:=[r,s][k].1) (k:=[r,s][k].2) hok) pt<|ms<|wm<|?_
  refine Vw (Zba lk lki)<|sn'<|?_
  refine cd' lk (fun hc2=>?_) (fun hc2=>?_)
  ·refine wr'<|Vw (Zat ZmX)<|mw<|E' (Zai lk cv gx rfl nb rfl ZbT hs2) ptn<|mr<|Zaq<|Zah<|Zah<|Zaq<|Zah<|?_
   refine Zae (rsn (rm1 (rr_c gt gx (ld1 ZbS rfl)) (rm1 (rr_t gt) rm0)))<|rtW'<|?_
   have hE:=diffU_at hk hk2 hc2
   rw[hE];exact wk_upd0
  refine ZaB<|Zau<|Zan<|Zap<|?_
  refine ad<|mw<|Zam<|Zaz<|?_
  refine lU' (k+1) (by (try dsimp only);exact⟨by omega,fun j hj h0=>by by_cases e:j=k;subst e;exact Decidable.of_not_not hc2;exact hk2 j hj om⟩) (by refine zz ?_;exact bk' 4 hn hlt (hT:=by simp[AV.lt,AV.ltL,Ent.lt]) (hE:=by simp[AV.lt,AV.ltL,Ent.lt]))
 refine Zay<|Zar<|Zar<|ZaN<|Zan<|?_
 have hz:=diffU_ok (r:=r) (s:=s) fun j hj=>hk2 j hj om
 refine wr'<|Vw (Zag lk gx ZcU rfl)<|Vw (Zag lk gx ZcU rfl)<|Zad mp (betR_a hz.1 hz.2.1) pt<|E' (Zai lk cv gx rfl nb rfl ZbT hs2) ptn<|mr<|Zae (rsn (rm1 (rr_c gt gx (ld1 ZbS rfl)) (rm1 (rr_t gt) rm0)))<|rtW'<|?_
 rw[hz.2.2];exact Wk.refl _
end
end Go.Proofs.YtfoipaclphdodaaGreatDoor
namespace Go.Ab
section
open Go.RowKit Go.Sort
section
variable {P : Program}
theorem ACalls.of_turnB {f:FuncId}{args:List AV}{h:AH}{id ver ty st:Nat}{cells:List AV}{R':List AV→Prop}(he:enters P f=true) (hi:h[id]?=some (.mk ver ty st cells)) (hne:cells≠[])
  (hc : ∀ w g (vs:Array Value) b cap arr,SimH w g h→RepL w g args vs.toList→g.loc id ver=some (some ⟨b,0,none⟩,cap)→w.heap[b]?=some (.cells arr ty (0,0))→arr.size=cap*st→cells.length≤arr.size→RepL w g cells (arr.toList.take cells.length) →
   Calls P f vs w fun e w'=>e=.returned (.tuple #[]) ∧ ∃ (cells':List AV) (vs':List Value) (arr':Array Value),R' cells'∧RepL w g cells' vs'∧w'.heap[b]?=some (.cells arr' ty (0,0))∧arr'.size=arr.size∧vs'.length=cells.length∧arr'.toList.take cells.length=vs' ∧
    w'.os=w.os∧w'.tape=w.tape∧w'.output=w.output∧w.heap.size≤w'.heap.size ∧ ∀ k,k<w.heap.size→k≠b→w'.heap[k]?=w.heap[k]?) :
  ACalls P f args h fun x h'=>x=.ret (.tup []) ∧ ∃ cells',R' cells'∧h'=h.set id (.mk ver ty st cells'):=by
 refine⟨he,fun w g vs hs ha=>?_⟩
 obtain⟨A,cap,f1,fm,f3⟩:=hs.ent _ _ _ _ _ hi
 rcases f3 with ⟨e,_⟩ | ⟨b,arr,rfl,hc0,hd,hb,hsz,hle,hrl⟩
 ·exact absurd e hne
 have hid:id<h.length:=(List.getElem?_eq_some_iff.1 hi).1
 have how:OwAt g h id b:=⟨ver,ty,st,cells,_,cap,hi,f1,hc0,rfl⟩
 refine (hc w g vs b cap arr hs ha f1 hb hsz hle hrl).mono ?_
 rintro e w' ⟨rfl,cells',vs',arr',hR,hRep,h1,h2,h3,h4,h5,h6,h7,h8,h9⟩
 have hother : ∀ j,g.D j∨(∃ i,i≠id∧OwAt g h i j)∨(∃ i,RwAt h i j)→w'.heap[j]?=w.heap[j]?:=by
  rintro j (hj | ⟨i,hne',hj⟩ | ⟨i,hj⟩)
  rotate_left 2
  ·exact h9 j (hs.own_not_D (.inr ⟨i,hj⟩)).2 (fun e=>by subst e;exact hs.own_ne_raw how hj)
  ·exact h9 j (hs.lt j hj) (fun e=>hd (e ▸ hj))
  ·exact h9 j (hs.own_not_D (.inl ⟨i,hj⟩)).2 (fun e=>hne' (hs.inj i id j hj (e ▸ how)))
 obtain⟨k1,k2,k3⟩:=hs.put (w':=w') (g':=g) (h':=h.set id (.mk ver ty st cells')) id ver ty st cells' (some ⟨b,0,none⟩) cap
  (fun i hne'=>by rw[List.getElem?_set_ne (Ne.symm hne')]) (by rw[List.getElem?_set_self hid]) (by simp) rfl (fun _ _ _ h=>h) (fun _ _ _ h=>.inl h) f1 (fun v l hv=>(hs.fresh _ _ _ hv).2 _ _ _ _ hi) hother h8 fm
  (.inr ⟨b,arr',rfl,hc0,hd,h1,by rw[h2,hsz],by rw[←hRep.length,h3,h2];exact hle,by rw[←hRep.length,h3,h4];exact RepL.mono (Gh.le.refl g) (fun j hj=>hother j (.inl hj)) _ _ hRep⟩)
  (fun j hj _ i hne' ho=>by
   simp at hj
   subst hj
   exact hne' (hs.inj i id _ ho how)) (fun k hk _ _=>by simp at hk;subst hk;exact .inl ⟨id,how⟩)
 refine⟨.ret (.tup []),_,g,?_,k1,k2,⟨h5,h6,h7,h8,fun k hk hn=>h9 k hk (fun e=>hn (.inl ⟨id,e ▸ how⟩))⟩,fun k hk=>?_,rfl,_,hR,rfl⟩
 ·simp only[EndR,Rep];exact⟨#[],rfl,by simp only[RepL]⟩
 ·rcases k3 k hk with ho | ⟨ho,_⟩
  ·exact .inl ho
  ·simp at ho;subst ho;exact .inl (.inl ⟨id,how⟩)
end
section
variable {P : Program} {α β : Type}
theorem ZlO {w:World}{g:Gh}{f:α→List AV}{enc:β→List Value}{pr:β→α}{k:Nat}(hf : ∀ x,(f x).length=k) (hrep : ∀ x vs,RepL w g (f x) vs → ∃ y:β,pr y=x∧enc y=vs) :
  ∀ (l:List α) (us:List Value),RepL w g (rows f l) us → ∃ L:List β,L.map pr=l∧L.flatMap enc=us ∧ ∀ y∈L,RepL w g (f (pr y)) (enc y)
 | [],us,h=>by
  have:us=[]:=by simpa [rows,RepL] using h
  subst this;exact⟨[],rfl,rfl,fun y hy=>by cases hy⟩
 | x::l,us,h=>by
  have h':RepL w g (f x++rows f l) us:=h
  have h1:=h'.take k
  have h2:=h'.drop k
  rw[List.take_left' (hf x)] at h1
  rw[List.drop_left' (hf x)] at h2
  obtain⟨y,rfl,e⟩:=hrep x _ h1
  obtain⟨L,rfl,e2,h3⟩:=ZlO hf hrep l _ h2
  refine⟨y::L,rfl,by rw[List.flatMap_cons,e,e2,List.take_append_drop],fun z hz=>?_⟩
  rcases List.mem_cons.1 hz with rfl | hz
  ·rw[e];exact h1
  ·exact h3 z hz
theorem ZlS {w:World}{g:Gh}{f:α→List AV}{enc:β→List Value}{pr:β→α} : ∀ (L:List β),(∀ y∈L,RepL w g (f (pr y)) (enc y))→RepL w g (rows f (L.map pr)) (L.flatMap enc)
 | [],_=>by simp[rows,RepL]
 | y::L,h=>RepL.append (h y (by simp)) (ZlS L fun z hz=>h z (by simp[hz]))
theorem sort_b [Inhabited β] {ρ:Go.Shelf.Ren}(LL:Go.Proofs.SlLaysF0.n6 P ρ) {k:Nat}(hk0:0<k) (aE : ∀ w,(isAgg (ρ.t 24)).run P w=.ok true w) (zE : ∀ w,(Go.sizeOf (ρ.t 24)).run P w=.ok k w) {enc:β→List Value}(hk : ∀ x,(enc x).length=k) (h1 : ∀ x,∀ v∈enc x,v.oneCell'=true) {cf:β→β→Int}(hO:SWO (Go.Proofs.ltOf cf)) {g0:Nat}
  (eg : ∀ args w,(callFunc g0 args).run P w=.ok (.enter g0 args) w) (hcmp : ∀ blk off size w,Go.Proofs.CmpLays P g0 #[] enc k cf blk off size w) {f:α→List AV} {pr:β→α} (hf : ∀ x,(f x).length=k) (hrep : ∀ w g x vs,RepL w g (f x) vs → ∃ y:β,pr y=x∧enc y=vs) {r:α→α→Prop} (hr0 : ∀ x y,Go.Proofs.ltOf cf y x=false→r (pr x) (pr y))
  {h:AH} {id ver ty:Nat} {l:List α} (hi:h[id]?=some (.mk ver ty k (rows f l))) (hl:l≠[]) (hz:l.length<4611686018427387904) (he:enters P (ρ.f 6)=true) :
  ACalls P (ρ.f 6) [.own id ver l.length,.v (.func (.func g0) #[] #[])] h fun x h'=>x=.ret (.tup []) ∧ ∃ l':List α,l'.Perm l∧l'.Pairwise r∧h'=h.set id (.mk ver ty k (rows f l')):=by
 have hlen:=Zbk (f:=f) (st:=k) hf l
 have hpos:0<l.length:=List.length_pos_iff.2 hl
 refine (ACalls.of_turnB (R':=fun cs => ∃ l':List α,l'.Perm l∧l'.Pairwise r∧cs=rows f l') he hi ?_ ?_).mono ?_
 ·intro e
  have:=congrArg List.length e
  rw[hlen] at this
  have h0:0<l.length*k:=Nat.mul_pos hpos hk0
  simp at this;omega
 ·intro w g vs b cap arr hs ha hloc hb hsz hle hr
  simp only[RepL,Rep,hloc] at ha
  obtain⟨u1,us1,e1,⟨A,c,e2,hn1,hn2,rfl⟩,u2,us2,rfl,rfl,rfl⟩:=ha
  simp only[Option.some.injEq,Prod.mk.injEq] at e2
  obtain⟨rfl,rfl⟩:=e2
  obtain rfl:vs = #[.slice (some ⟨b,0,none⟩) l.length cap,.func (.func g0) #[] #[]]:=by cases vs;simp_all
  obtain⟨L,rfl,hr0',hrL⟩:=ZlO hf (hrep w g) l _ hr
  rw[hlen] at hr0'
  rw[List.length_map] at hr0' hlen hpos
  have hr':arr.toList.take (L.length*k)=L.flatMap enc:=hr0'.symm
  have hll:(L.map pr).length=L.length:=List.length_map _
  rw[hll] at hz
  have hblk:b<w.heap.size:=(Array.getElem?_eq_some_iff.1 hb).1
  have hflat:=Zfc hk0 hk L.toArray
  have hgetF : ∀ (d:Array β) (t:Nat),t<d.size*k→(Go.Sort.flatK enc k d).toList[t]?=some (Go.Sort.flatK enc k d)[t]!:=by
   intro d t ht
   have hs:t<(Go.Sort.flatK enc k d).size:=by simpa using ht
   rw[getElem!_pos _ t hs,Array.getElem?_toList,Array.getElem?_eq_getElem hs]
  have hH:Go.Sort.HoldsK enc k w b 0 L.toArray:=by
   intro j hj
   have hj':j<L.length*k:=by simpa using hj
   rw[Nat.zero_add]
   refine⟨?_,frozen_of_row w b j arr ty hb⟩
   rw[cell_of_row w b j arr ty (0,0) hb,←Array.getElem?_toList]
   have h5:arr.toList[j]?=(L.flatMap enc)[j]?:=by rw[←hr',List.getElem?_take_of_lt hj']
   rw[h5,show L.flatMap enc=(Go.Sort.flatK enc k L.toArray).toList from hflat.symm,hgetF _ _ (by simpa using hj')];rfl
  rw[hll]
  refine (Go.Proofs.AnyQ.slices_SortFunc LL k aE zE enc hk h1 cf hO g0 #[] b 0 cap L.toArray w eg (hcmp b 0 L.toArray.size w) hH hblk (by simpa using hz)).mono ?_
  rintro e w' ⟨rfl,d',n,os,⟨p1,_,p3⟩,hso,rfl⟩
  have hds:d'.size=L.length:=by simpa using p1
  have hw' : ∀ j,j<w.heap.size→(Go.Proofs.sortWorldK enc k w b 0 n d' os).heap[j]?=(w.heap.modify b (onCells (putCells _root_.id 0 (Go.Sort.flatK enc k d'))))[j]?:=by
   intro j hj
   show ((w.heap.modify b (onCells (putCells _root_.id 0 (Go.Sort.flatK enc k d'))))++os)[j]?=_
   rw[Array.getElem?_append_left (by simpa using hj)]
  have hsz2:arr.size=(putCells _root_.id 0 (Go.Sort.flatK enc k d') arr).size:=by simp[putCells]
  have hperm:d'.toList.Perm L:=by
   have e1:d'.extract 0 L.toArray.size=d':=by rw[←p1];simp
   have e2:L.toArray.extract 0 L.toArray.size=L.toArray:=by simp
   rw[e1,e2] at p3
   simpa using p3
  refine⟨rfl,rows f (d'.toList.map pr),d'.toList.flatMap enc,putCells _root_.id 0 (Go.Sort.flatK enc k d') arr,⟨d'.toList.map pr,hperm.map pr,?_,rfl⟩,ZlS _ (fun y hy=>hrL y (hperm.mem_iff.1 hy)),?_,hsz2.symm,?_,?_,rfl,rfl,rfl,?_,?_⟩
  ·rw[List.pairwise_map]
   refine List.pairwise_iff_getElem.2 fun i j hi hj hij=>hr0 _ _ ?_
   have:=hso i j (Nat.zero_le _) hij (by simpa [hds] using hj)
   rw[getElem!_pos d' j (by simpa using hj),getElem!_pos d' i (by simpa using hi)] at this
   simpa using this
  ·rw[hw' b hblk,Array.getElem?_modify,if_pos rfl,hb];rfl
  ·rw[ZcM hk,hlen,Array.length_toList,hds]
  ·rw[hlen]
   apply List.ext_getElem?
   intro t
   by_cases ht:t<L.length*k
   ·have ht2:t<d'.size*k:=by rw[hds];exact ht
    have hta:t<arr.size:=by rw[hlen] at hle;omega
    rw[List.getElem?_take_of_lt ht,←Zfc hk0 hk d',hgetF d' t ht2]
    unfold putCells
    rw[Array.getElem?_toList,Array.getElem?_mapIdx,Array.getElem?_eq_getElem hta,Option.map_some,if_pos ⟨Nat.zero_le _,by simpa using ht2⟩]
    rfl
   ·rw[List.getElem?_eq_none (by simp;omega),List.getElem?_eq_none (by rw[ZcM hk,Array.length_toList,hds];omega)]
  ·show w.heap.size≤((w.heap.modify b (onCells (putCells _root_.id 0 (Go.Sort.flatK enc k d'))))++os).size
   simp
  ·intro j hj hjb
   rw[hw' j hj,Array.getElem?_modify,if_neg (Ne.symm hjb)]
 ·rintro x h' ⟨rfl,cs,⟨l',hp,hs,rfl⟩,rfl⟩
  exact⟨rfl,l',hp,hs,rfl⟩
end
end
end Go.Ab
section
namespace Go.Ab
section
variable {P : Program} {n0 : Nat} {h : AH}
theorem ALe.own1 {T:List AV}{d st st' ty:Nat}{cs:List AV}(hd:T[d]?=some (.sl 0 st true cs)):ALe n0 T h (T.set d (.own h.length 1 0)) (h++[.mk 1 ty st' []]):=fun w0 S0 g0 a w g s=>by
 obtain⟨u,hu,hr⟩:=s.tmps.get hd
 simp only[Rep] at hr
 obtain⟨_,A,cap,rfl,_,_,hc,_,_⟩:=hr
 obtain rfl:cap=0:=(hc trivial).symm
 obtain⟨h1,h2,h3⟩:=s.sim.add0 (w':=w) A ty st' (fun _ _=>rfl) (Nat.le_refl _)
 obtain⟨r1,r2,r3⟩:=h1.renew (id:=h.length) (v':=1) (by simp) (fun v l hv=>by
  have:=(h1.fresh h.length v l hv).2 _ _ _ _ (by rw[List.getElem?_append_right (Nat.le_refl _),Nat.sub_self];rfl)
  omega) A ty st'
 have hset':(h++[Ent.mk 0 ty st' []]).set h.length (Ent.mk 1 ty st' [])=h++[Ent.mk 1 ty st' []]:=by
  rw[List.set_append_right _ _ (Nat.le_refl _),Nat.sub_self];rfl
 rw[hset'] at r1 r3
 have htm:=RepL.mono (h2.trans r2) (fun _ _=>rfl) _ _ s.tmps
 have hset:=htm.set (k:=d) (c:=.own h.length 1 0) (u:=.slice A 0 0) (ZbV (Nat.le_refl _) (by simp[maxLen]))
 have hself:a.tmps.toList.set d (.slice A 0 0)=a.tmps.toList:=by
  apply List.ext_getElem?
  intro j
  by_cases hj:j=d
  ·subst hj
   have:j<a.tmps.toList.length:=(List.getElem?_eq_some_iff.1 hu).1
   rw[List.getElem?_set_self this,hu]
  rw[List.getElem?_set_ne (Ne.symm hj)]
 rw[hself] at hset
 exact⟨_,hset,s.defers,r1,s.fr,(s.le.trans h2).trans r2,s.bd,fun k hk=>(h3 k (r3 k hk)).elim (s.ow k) (fun h=>.inr (Nat.le_trans s.fr.size h))⟩
theorem ALe.own1' {T T':List AV}{h':AH}{d st st' ty id:Nat}{cs:List AV}(hd:T[d]?=some (.sl 0 st true cs)) (hl:h.length=id) (hp:aPut T (some d) (.own id 1 0)=T') (hh:h++[.mk 1 ty st' []]=h'):ALe n0 T h T' h':=by
 subst hl hp hh
 exact ALe.own1 hd
theorem ALe.addFreeR {T:List AV}{h':AH}(hh:h++[.free]=h'):ALe n0 T h T h':=by
 subst hh
 exact ALe.addFree
end
end Go.Ab
namespace Go.Proofs.YtfoipaclphdodaaGreatDoor
open Go.Ab Go.RowKit Civ Go.Sort
attribute [local simp] ZbL Zce ZbZ Zbv Zbi Zc1
section
theorem ZoL {τ:Operand→AV}:Zak τ [] []=some []:=rfl
theorem ZoN {τ:Operand→AV}:Zak τ [] []=some []:=rfl
theorem Zsk {a0 a1 a2:AV}{l:List AV}:((a0::a1::a2::l).drop 0).take 3=[a0,a1,a2]:=rfl
theorem ZoM {τ:Operand→AV}:Zak τ [] [(.sl 0 0 true []),(.sl 0 0 true [])]=some [(.sl 0 0 true []),(.sl 0 0 true [])]:=rfl
theorem Zeb {a0 a1 c0 c1:AV}{l:List AV}:setCells (a0::a1::l) 0 [c0,c1]=c0::c1::l:=rfl
theorem Zea {a0 a1:AV}{l:List AV}:((a0::a1::l).drop 0).take 2=[a0,a1]:=rfl
theorem ZmS {τ:Operand→AV}{y0:Operand}{x0_0:AV}(h0:Zao (τ y0)=some [x0_0]) (l0:[x0_0].all leaf=true):Zak τ [(1,1,y0)] [(.sl 0 0 true []),(.sl 0 0 true [])]=some [(.sl 0 0 true []),x0_0]:=by
 simp only[Zak,h0,l0]
 rfl
theorem ZvZ {a0 a1:AV}{l:List AV}:(a0::a1::l).take 2=[a0,a1]:=rfl
theorem ZvY {a0 a1 a2:AV}{l:List AV}:(a0::a1::a2::l).take 3=[a0,a1,a2]:=rfl
theorem Zsl {a0 a1 a2 a3 c0 c1 c2 c3:AV}{l:List AV}:setCells (a0::a1::a2::a3::l) 0 [c0,c1,c2,c3]=c0::c1::c2::c3::l:=rfl
theorem ZmR {τ:Operand→AV}:Zak τ [] [(.sl 0 0 true []),(.sl 0 0 true [])]=some [(.sl 0 0 true []),(.sl 0 0 true [])]:=rfl
theorem Zsj {a0 a1 a2 a3:AV}{l:List AV}:((a0::a1::a2::a3::l).drop 0).take 4=[a0,a1,a2,a3]:=rfl
theorem ZmQ {τ:Operand→AV}{y0 y1:Operand}{x0_0 x1_0 x1_1 x1_2 x1_3:AV}(h0:Zao (τ y0)=some [x0_0]) (l0:[x0_0].all leaf=true) (h1:Zao (τ y1)=some [x1_0,x1_1,x1_2,x1_3]) (l1:[x1_0,x1_1,x1_2,x1_3].all leaf=true):Zak τ [(0,1,y0),(1,4,y1)] [(.v (.string ⟨#[]⟩)),(iv 0),(iv 0),(.v (.string ⟨#[]⟩)),(.sl 0 0 true [])]=some [x0_0,x1_0,x1_1,x1_2,x1_3]:=by
 simp only[Zak,h0,l0,h1,l1]
 rfl
theorem ZmP {τ:Operand→AV}{y0:Operand}{x0_0 x0_1 x0_2 x0_3 x0_4:AV}(h0:Zao (τ y0)=some [x0_0,x0_1,x0_2,x0_3,x0_4]) (l0:[x0_0,x0_1,x0_2,x0_3,x0_4].all leaf=true):Zak τ [(0,5,y0)] [(.v (.string ⟨#[]⟩)),(iv 0),(iv 0),(.v (.string ⟨#[]⟩)),(.sl 0 0 true [])]=some [x0_0,x0_1,x0_2,x0_3,x0_4]:=by
 simp only[Zak,h0,l0]
 rfl
theorem ZvX {a0 a1 a2 a3 a4:AV}{l:List AV}:(a0::a1::a2::a3::a4::l).take 5=[a0,a1,a2,a3,a4]:=rfl
theorem Zsm {a0 c0:AV}{l:List AV}:setCells (a0::l) 0 [c0]=c0::l:=rfl
end
def c46:AC:=(Sr [Oo 2 (.mv (.const (.slice none 0 0)))] (.seq (Sr [Mv 3 0,Oo 4 (.eqn false (t 3))] (Cd 4 (Sr [Oo 2 (.mv (.const (.slice none 0 0)))] .ret) .skip)) (Sr [Oo 5 (.lit 94 2 0 [] []),Mv 6 0,Oo 7 (.app 94 2 40 (t 5) (t 6)),Mv 2 7] .ret)))
theorem k46:Zaw Tryz.prog 46=some ⟨c46,[(.tmp 2)],8⟩:=by kernel_rfl
def c14:AC:=(Sr [Oo 1 (.box 53 3 (t 0)),Oo 2 (.new 25 2 [nl,nl]),Mc 3 0] (.seq (Sr [Oo 12 (.load true 3 (t 1)),Cl 13 45 [(t 12)],Mv 4 13] (Sr [Mv 14 4,Bc 15 .neq 14 0] (Cd 15 (Sr [Oo 16 (.build [nl,nl] []),Mv 17 4,⟨none,none,(.store 2 (t 2) (t 16))⟩,Mv 3 17] .ret) .skip))) (.seq (.drwU [[],[],[],[0,1,2],[0,1,2],[],[],[]] [Fa 18 1 1,Ld 19 18,Cl 20 46 [(t 19)],Fa 21 2 1,Ld 22 21,Cl 23 47 [(t 22)],Mv 5 20,Mv 6 23]) (Sr [Mv 24 5,Cl 25 48 [(t 24),(.func 49)]] (Sr [Mv 26 6,Cl 27 51 [(t 26),(.func 52)]] (Sr [Mv 28 6,Oo 29 (.build [nl,nl] [(1,(1,(t 28)))]),Oo 7 (.new 25 2 [nl,nl]),⟨none,none,(.store 2 (t 7) (t 29))⟩] (.seq (Sr [Mv 30 5,Oo 31 (.len false (t 30)),Mc 32 0] (.block 0 (.loop (Sr [Bn 33 .lss 32 31] (.seq (Cd 33 .skip (.exit 0)) (.seq (.block 1 (Sr [Oo 34 (.ia 2 (t 30) (t 32)),Oo 35 (.load true 2 (t 34)),Oo 9 (.new 94 2 [Ss,nl]),⟨none,none,(.store 2 (t 9) (t 35))⟩] (Sr [Oo 37 (.load true 3 (t 1)),Oo 38 (.load true 2 (t 9)),Cl 39 53 [(t 37),(t 38)],Mv 36 39,Ex 40 36 0,Ex 41 36 1,Oo 10 (.new 38 4 [(iv 0),(iv 0),Ss,nl]),⟨none,none,(.store 4 (t 10) (t 40))⟩,Mv 11 41] (.seq (Sr [Mv 42 11,Bc 43 .neq 42 0] (Cd 43 (Sr [Oo 44 (.build [nl,nl] []),Mv 45 11,⟨none,none,(.store 2 (t 2) (t 44))⟩,Mv 3 45] .ret) .skip)) (.reg [Fa 46 0 7,Ld 47 46,Fa 48 0 9,Ld 49 48,Oo 50 (.load true 4 (t 10)),Oo 51 (.build [Ss,(iv 0),(iv 0),Ss,nl] [(0,(1,(t 49))),(1,(4,(t 50)))]),Oo 52 (.lit 40 5 1 [Ss,(iv 0),(iv 0),Ss,nl] [(0,(5,(t 51)))]),Oo 53 (.app 40 5 72 (t 47) (t 52)),Fa 54 0 7,Sc 54 53]))))) (.reg [Bc 55 .add 32 1,Mv 32 55]))))))) (Sr [Oo 56 (.load true 2 (t 7)),⟨none,none,(.store 2 (t 2) (t 56))⟩,Mc 3 0] .ret))))))))
theorem k14:Zd4 Tryz.prog (none) 14=some ⟨c14,[(.cell 2 true 2),(.tmp 3)],57⟩:=by kernel_rfl
theorem cloneZ_a {l:List Zon}{full:Bool}{h:AH}{id:Nat}(hl:l.length≤300000000000) (hf:h[id]?=some .free):ACalls Tryz.prog 46 [.sl l.length 2 full (rows zonC l)] h fun r h'=>r=.ret (.own id 1 l.length)∧h'=h.set id (.mk 1 94 2 (rows zonC l)):=by
 have hid:id<h.length:=(List.getElem?_eq_some_iff.1 hf).1
 refine tJ' k46 fun N hn hlt _ hbd=>?_
 simp only[tb'] at hbd ⊢
 refine wk'<|Zac<|wm<|?_
 refine Ztn lk (fun _=>pt) (fun bn3 hbn3=>?_)
 refine sn' ?_
 refine cd' lk (fun hc1=>?_) (fun hc1=>?_)
 ·refine wr'<|mv' lkn pt2<|Zam<|ZaP ((ALe.own1' (st':=2) (ty:=94) gt2 hl0 pt2 ha0).trans (ALe.moveLast hf hn gt2 pt2 rfl))<|Zbe<|Zah<|Zae (rs1 (rr_t gt2))<|?_
  have h0:l=[]:=List.eq_nil_of_length_eq_zero ((Nat.eq_zero_or_pos _).resolve_right (fun e=>by have:=hbn3 e;rw[hc1] at this;cases this))
  subst h0
  exact⟨_,[.gone],rfl,by simp[hn],ZnS hlt (by simp[Ent.lt,AV.ltL]),by simp[AE.lt,AV.lt];omega,rfl,rfl⟩
 refine za<|wr'<|E' (Zcz ZoL hl0 ha0) pt<|mw<|?_
 refine E' (ZbK (ZkH lk (Zm7 _)) lk gx rfl om (ZdZ (fun _=>rfl) _) hs0) pt ?_
 refine mv' lk7 pt2<|Zam<|ZaP (ALe.moveLast hf hn gt2 pt2 rfl)<|Zbe<|Zae (rs1 (rr_t gt2))<|?_
 exact⟨_,[.gone],rfl,by simp[hn],ZnS hlt (by simp[Ent.lt,ZbZ]),by simp[AE.lt,AV.lt];omega,by simp,by simp⟩
theorem cloneK_a {l:List Lnk}{full:Bool}{h:AH}{id:Nat}(hl:l.length≤300000000000) (hf:h[id]?=some .free):ACalls Tryz.prog 47 [.sl l.length 2 full (rows lnkC l)] h fun r h'=>r=.ret (.own id 1 l.length)∧h'=h.set id (.mk 1 97 2 (rows lnkC l)):=by
 have hid:id<h.length:=(List.getElem?_eq_some_iff.1 hf).1
 refine tJ' k47 fun N hn hlt _ hbd=>?_
 simp only[tb'] at hbd ⊢
 refine wk'<|Zac<|wm<|?_
 refine Ztn lk (fun _=>pt) (fun bn3 hbn3=>?_)
 refine sn' ?_
 refine cd' lk (fun hc1=>?_) (fun hc1=>?_)
 ·refine wr'<|mv' lkn pt2<|Zam<|ZaP ((ALe.own1' (st':=2) (ty:=97) gt2 hl0 pt2 ha0).trans (ALe.moveLast hf hn gt2 pt2 rfl))<|Zbe<|Zah<|Zae (rs1 (rr_t gt2))<|?_
  have h0:l=[]:=List.eq_nil_of_length_eq_zero ((Nat.eq_zero_or_pos _).resolve_right (fun e=>by have:=hbn3 e;rw[hc1] at this;cases this))
  subst h0
  exact⟨_,[.gone],rfl,by simp[hn],ZnS hlt (by simp[Ent.lt,AV.ltL]),by simp[AE.lt,AV.lt];omega,rfl,rfl⟩
 refine za<|wr'<|E' (Zcz ZoN hl0 ha0) pt<|mw<|?_
 refine E' (ZbK (ZkH lk (Zeo _)) lk gx rfl om (ZpR _) hs0) pt ?_
 refine mv' lk7 pt2<|Zam<|ZaP (ALe.moveLast hf hn gt2 pt2 rfl)<|Zbe<|Zae (rs1 (rr_t gt2))<|?_
 exact⟨_,[.gone],rfl,by simp[hn],ZnS hlt (by simp[Ent.lt,Zbv]),by simp[AE.lt,AV.lt];omega,by simp,by simp⟩
theorem isNaNS (a:ByteArray) (w:World):Calls Tryz.prog 101 #[.string a] w fun e w'=>e=.returned (.bool false)∧w'=w:=by
 go_enter Tryz.func101,Tryz.ntmps101
 go_wp2
 go_ret
 exact⟨by simp,rfl⟩
theorem cmpStr (a b:ByteArray) (w:World):Calls Tryz.prog 50 #[.string a,.string b] w fun e w'=>e=.returned (.int .i64 (cmpS a b))∧w'=w:=by
 cases h1:Op.bytesLess a.toList b.toList
 ·have h3:=Zij a b
  rw[h1,Bool.false_or] at h3
  unfold cmpS
  rw[if_neg (show ¬ltS a b=true by unfold ltS;rw[h1];simp)]
  have hv : ∀ w,(binOp .gtr 9 (.string a) (.string b)).run Tryz.prog w=.ok (.bool (ltS b a)) w:=fun w=>by
   obtain⟨v,hv,e⟩:=Zph (P:=Tryz.prog) (op:=.gtr) (a:=a) (b:=b) rfl 9 w
   cases e
   rw[h1,Bool.false_or,h3,Bool.not_not] at hv
   exact hv
  cases h2:ltS b a <;> rw[h2] at hv
  all_goals
   go_enter Tryz.func50,Tryz.ntmps50
   go_wp2_with (go_at_call 101;refine (isNaNS _ _).mono ?_;rintro e w' ⟨rfl,rfl⟩)
   go_ret
   exact⟨rfl,rfl⟩
 unfold cmpS
 rw[if_pos (show ltS a b=true from h1)]
 go_enter Tryz.func50,Tryz.ntmps50
 go_wp2_with (go_at_call 101;refine (isNaNS _ _).mono ?_;rintro e w' ⟨rfl,rfl⟩)
 go_ret
 exact⟨rfl,rfl⟩
theorem Zqm {β:Type}(nm:β→ByteArray):SWO (Go.Proofs.ltOf fun x y=>cmpS (nm x) (nm y)):=by
 have e : ∀ x y,Go.Proofs.ltOf (fun x y=>cmpS (nm x) (nm y)) x y=ltS (nm x) (nm y):=fun x y=>by
  unfold Go.Proofs.ltOf
  rw[Bool.eq_iff_iff,decide_eq_true_eq];exact Zff
 refine⟨fun x=>?_,fun x y z h1 h2=>?_,fun x y z h1 h2=>?_⟩ <;> simp only[e] at *
 ·exact Zif _
 ·exact Zho h1 h2
 cases h:ltS (nm x) (nm z) with
 | false=>rfl
 | true=>rw[Zmc h1 h] at h2;cases h2
theorem Zu7 {β:Type}{nm:β→ByteArray}{x y:β}(h:Go.Proofs.ltOf (fun x y=>cmpS (nm x) (nm y)) y x=false):ltS (nm y) (nm x)=false:=by
 unfold Go.Proofs.ltOf at h
 rw[decide_eq_false_iff_not,Zff] at h
 simpa using h
def lnkV (l:Lnk):List Value:=[.string l.1,.string l.2]
abbrev ZonW:=Zon×Option Addr×Nat
def zonV (z:ZonW):List Value:=[.string z.1.1,.slice z.2.1 z.1.2.length z.2.2]
theorem Zu4 (x y:ZonW) (w:World):Calls Tryz.prog 49 #[.agg (zonV x).toArray,.agg (zonV y).toArray] w fun e w'=>e=.returned (.int .i64 (cmpS x.1.1 y.1.1)) ∧ ∃ q os,w'=grow (w.drewN q) os:=by
 obtain⟨⟨a,l⟩,A,c⟩:=x
 obtain⟨⟨b,m⟩,B,d⟩:=y
 simp only[zonV]
 go_enter Tryz.func49,Tryz.ntmps49
 go_wp2_with (go_at_call 50;refine (cmpStr _ _ _).mono ?_;rintro e w' ⟨rfl,rfl⟩)
 go_ret
 refine⟨rfl,?_⟩
 rw[alloc_eq_grow,alloc_eq_grow,grow_grow]
 exact⟨0,_,rfl⟩
theorem Zu8 (x y:Lnk) (w:World):Calls Tryz.prog 52 #[.agg (lnkV x).toArray,.agg (lnkV y).toArray] w fun e w'=>e=.returned (.int .i64 (cmpS x.2 y.2)) ∧ ∃ q os,w'=grow (w.drewN q) os:=by
 obtain⟨a,b⟩:=x
 obtain⟨c,d⟩:=y
 simp only[lnkV]
 go_enter Tryz.func52,Tryz.ntmps52
 go_wp2_with (go_at_call 50;refine (cmpStr _ _ _).mono ?_;rintro e w' ⟨rfl,rfl⟩)
 go_ret
 refine⟨rfl,?_⟩
 rw[alloc_eq_grow,alloc_eq_grow,grow_grow]
 exact⟨0,_,rfl⟩
theorem sortZ0 {h:AH}{id ver:Nat}{f:Value}:Ac 48 [.own id ver 0,.v f] h (.tup []):=by
 refine ACalls.of_below (by kernel_rfl) fun w g vs hs ha=>?_
 simp only[RepL,Rep] at ha
 obtain⟨u1,us1,e1,⟨A,c,_,_,_,rfl⟩,u2,us2,e2,e3,rfl⟩:=ha
 subst e3 e2
 obtain rfl:vs = #[.slice A 0 c,u2]:=by cases vs;simp_all
 refine (Go.Proofs.AnyF.slices_SortFunc_none Tryz.sl9z A c _ w).mono ?_
 rintro e w' ⟨rfl,rfl⟩
 refine⟨_,rfl,Below.refl _ _,?_⟩
 simp only[Rep,RepL]
 exact⟨_,rfl,rfl⟩
theorem sortK0 {h:AH}{id ver:Nat}{f:Value}:Ac 51 [.own id ver 0,.v f] h (.tup []):=by
 refine ACalls.of_below (by kernel_rfl) fun w g vs hs ha=>?_
 simp only[RepL,Rep] at ha
 obtain⟨u1,us1,e1,⟨A,c,_,_,_,rfl⟩,u2,us2,e2,e3,rfl⟩:=ha
 subst e3 e2
 obtain rfl:vs = #[.slice A 0 c,u2]:=by cases vs;simp_all
 refine (Go.Proofs.AnyF.slices_SortFunc_none Tryz.sl9l A c _ w).mono ?_
 rintro e w' ⟨rfl,rfl⟩
 refine⟨_,rfl,Below.refl _ _,?_⟩
 simp only[Rep,RepL]
 exact⟨_,rfl,rfl⟩
theorem Zpg {h:AH}{id:Nat}{e:Ent}(hi:h[id]?=some e):h.set id e=h:=by
 apply List.ext_getElem?
 intro j
 by_cases hj:j=id
 ·subst hj
  rw[List.getElem?_set_self (List.getElem?_eq_some_iff.1 hi).1,hi]
 rw[List.getElem?_set_ne (Ne.symm hj)]
theorem sortZ_a {h:AH}{id ver ty:Nat}{l:List Zon}(hi:h[id]?=some (.mk ver ty 2 (rows zonC l))) (hn:(l.map (·.1)).Nodup) (hz:l.length<4611686018427387904) :
  ACalls Tryz.prog 48 [.own id ver l.length,.v (.func (.func 49) #[] #[])] h fun x h'=>x=.ret (.tup [])∧h'=h.set id (.mk ver ty 2 (rows zonC (srtN l))):=by
 by_cases hl:l=[]
 ·subst hl
  refine sortZ0.mono ?_
  rintro x h' ⟨rfl,rfl⟩
  exact⟨rfl,(Zpg hi).symm⟩
 refine (sort_b (P:=Tryz.prog) Tryz.sl9z (k:=2) om (fun w=>by kernel_rfl) (fun w=>by kernel_rfl) (enc:=zonV) (fun _=>rfl) (fun t v hv=>?_) (Zqm fun x:ZonW=>x.1.1) (g0:=49) (fun args w=>?_) (fun blk off size w m os dk hd x y=>Zu4 x y _) (f:=zonC) (pr:=fun x=>x.1) (fun _=>rfl) (fun w g x vs hv=>?_) (r:=fun a b=>ltS b.1 a.1=false) (fun x y hxy=>Zu7 (nm:=fun x:ZonW=>x.1.1) hxy) hi hl hz (by kernel_rfl)).mono ?_
 ·unfold zonV at hv
  simp only[List.mem_cons,List.not_mem_nil,or_false] at hv
  rcases hv with rfl | rfl <;> rfl
 ·exact Zeu (by kernel_rfl) args w
 ·simp only[RepL,Rep] at hv
  obtain⟨u1,us1,rfl,rfl,u2,us2,rfl,⟨_,A,c,rfl,_⟩,rfl⟩:=hv
  exact⟨(x,A,c),rfl,rfl⟩
 rintro x h' ⟨rfl,l',hp,hs,rfl⟩
 rw[Zs8 hn hp hs]
 exact⟨rfl,rfl⟩
theorem sortK_a {h:AH}{id ver ty:Nat}{l:List Lnk}(hi:h[id]?=some (.mk ver ty 2 (rows lnkC l))) (hn:(l.map (·.2)).Nodup) (hz:l.length<4611686018427387904) :
  ACalls Tryz.prog 51 [.own id ver l.length,.v (.func (.func 52) #[] #[])] h fun x h'=>x=.ret (.tup [])∧h'=h.set id (.mk ver ty 2 (rows lnkC (srtL l))):=by
 by_cases hl:l=[]
 ·subst hl
  refine sortK0.mono ?_
  rintro x h' ⟨rfl,rfl⟩
  exact⟨rfl,(Zpg hi).symm⟩
 refine (sort_a (P:=Tryz.prog) Tryz.sl9l (k:=2) om (fun w=>by kernel_rfl) (fun w=>by kernel_rfl) (enc:=lnkV) (fun _=>rfl) (fun t v hv=>?_) (Zqm fun x:Lnk=>x.2) (g0:=52) (fun args w=>?_) (fun blk off size w m os dk hd x y=>Zu8 x y _) hi hl hz (by kernel_rfl)).mono ?_
 ·unfold lnkV at hv
  simp only[List.mem_cons,List.not_mem_nil,or_false] at hv
  rcases hv with rfl | rfl <;> rfl
 ·exact Zeu (by kernel_rfl) args w
 rintro x h' ⟨rfl,l',hp,hs,rfl⟩
 rw[Zs9 hn hp (List.pairwise_iff_getElem.2 fun i j hi hj hij=>Zu7 (nm:=fun x:Lnk=>x.2) (hs i j hi hj hij))]
 exact⟨rfl,rfl⟩
theorem tofV_a {a:List Rul}{z:List Zon}{k:List Lnk}{x:Zon}{h:AH}(hok:Zny (a,z,k)) (hz0:ZbC (a,z,k)=0) (hm:x∈z) :
  ACalls Tryz.prog 53 [.agg (srcB a z k),.agg [sv x.1,.sl x.2.length 10 false (rows eraC x.2)]] h fun y h'=>h'=h∧y=.ret (.tup [tabA (ofV (a,z,k) x).1,iv (ofV (a,z,k) x).2]):=by
 have hE:=ZhR hz0
 have hal:=(ZdD hE).1
 simp only at hal
 obtain⟨⟨pl,hpl⟩,_⟩:=Zpw hz0 hm tMin
 have hne:inP (ZaX a tMin none x.2)≠[]:=by rw[show ZaX a tMin none x.2=_ from hpl];unfold inP;rw[List.takeWhile_cons,if_pos (decide_eq_true (by show tMin≤tMax;decide))];simp
 have hF:ofV (a,z,k) x=ofP a x.2:=by unfold ofV ofP;rw[←ZlG hz0 hm]
 rw[hF]
 exact tof_a (Znz hok) om (Zfg hE hm) hne
theorem Zl7 (s:Src) {zs:List Zon}{i:Nat}(h:i<zs.length):mapT s (zs.take (i+1))=mapT s (zs.take i)++[(zs[i].1,(ofV s zs[i]).1)]:=by
 unfold mapT
 rw[List.take_succ_eq_append_getElem h,List.map_append];rfl
theorem ZdN (s:Src) (zs:List Zon):(mapT s zs).length=zs.length:=List.length_map _
theorem Zma {s:Src}(h0:ZbC s=0) {e:Int}(he:errT s (srtN s.2.1)=e) (hne:e≠0):ZeT s=(rel0,e):=by
 subst he
 unfold ZeT
 rw[if_neg (by simpa using h0),if_pos hne]
theorem ZpK {s:Src}(h0:ZbC s=0) (hE:errT s (srtN s.2.1)=0):ZeT s=((mapT s (srtN s.2.1),srtL s.2.2),0):=by
 unfold ZeT
 rw[if_neg (by simpa using h0),if_neg (by simpa using hE)]
theorem Zed {e:AV}:Wk (.tup [.agg [.sl 0 0 true [],.sl 0 0 true []],e]) (.tup [.agg (relC rel0),e]):=Wk.tup (wkw (Wk.agg (wkw Wk.nilF (wkw Wk.nilF wk0))) (wk1 rfl wk0))
theorem make_a {a:List Rul}{z:List Zon}{k:List Lnk}{h:AH}(hok:Zny (a,z,k)) :
  Ac 14 [.agg (srcB a z k)] h (.tup [.agg (relC (ZeT (a,z,k)).1),iv (ZeT (a,z,k)).2]):=by
 refine tUW' k14 fun N hn hlt _ hbd=>?_
 simp only[tb'] at hbd ⊢
 refine wr'<|E' (ZaR cv rfl hl0 ha0) pt<|E' (ZaV hl1 ha1) pt<|ms<|Zac<|wr'<|Vw (Zag lk gx Zsk rfl)<|Zad mp (zcheck_a hok) pt<|mw<|Zam<|?_
 refine Zan<|wm<|Vw (Zba lk lki)<|sn'<|?_
 refine cd' lk (fun hc1=>?_) (fun hc1=>?_)
 ·have hM:ZeT (a,z,k)=(rel0,ZbC (a,z,k)):=if_pos hc1
  refine wr'<|Vw (Zat ZoM)<|mw<|E' (Zai lk cv gx rfl nb rfl Zeb hs1) ptn<|mr<|Zah<|Zae (rsn (rm1 (rr_c gt gx (ld1 Zea rfl)) (rm1 (rr_t gt) rm0)))<|rtW'<|?_
  rw[hM];exact Zed
 have h0:ZbC (a,z,k)=0:=Decidable.of_not_not hc1
 obtain⟨n1,n2,n3⟩:=ZfI h0
 obtain⟨q1,q2,q3,q4,q5,q6,q7⟩:=ZdD (ZhR h0)
 simp only at q1 q2 q3 q4 q5 q6 q7 n1 n2
 have hpz:=ZdW n1
 have hpk:=ZlH n2
 have hzl:=hpz.length_eq
 have hkl:=hpk.length_eq
 refine ZaB ?_
 refine ZaP (ALe.trans (ALe.icePtr gx gt1 (by simp) pt1 hs0) (ALe.trans (ALe.addFreeR ha2) (ALe.addFreeR ha3))) ?_
 refine Zac<|Zly<|uf (Zbl lk dp1)<|uf (Zax lk gt)<|?_
 refine ZhW mp gx (fun hU hUe=>cloneZ_a om hUe) nh hs2 pt ?_
 refine uf (Zbl lk dp2)<|uf (Zax lk gt)<|?_
 refine ZhW mp gx (fun hU hUe=>cloneK_a om hUe) nh hs3 pt ?_
 refine uf vm<|uf vm<|ZsM<|Zan<|wm<|?_
 refine Zh3 mp (sortZ_a gx n1 om) hs2 pt ?_
 refine Zam ?_
 refine ZaP (ALe.iceN (hga hn rfl) gt5 (List.take_of_length_le (by rw[Zm7];omega)) (by rw[Zm7];omega) (by exact hzl.symm) pt5 hs2) ?_
 refine wm<|?_
 refine Zh3 mp (sortK_a gx n2 om) hs3 pt ?_
 refine Zam ?_
 refine ZaP (ALe.iceN (hga hn rfl) gt6 (List.take_of_length_le (by rw[Zeo];omega)) (by rw[Zeo];omega) (by exact hkl.symm) pt6 hs3) ?_
 refine wm<|Vw (Zat (ZmS cv rfl))<|E' (ZaV hl4 ha4) pt<|E' (Zai lk cv gx rfl nb rfl Zeb hs4) ptn<|Zam<|?_
 refine ZaP (ALe.own0Cell (st':=5) (ty:=40) gx gt0 hl5 pt0 (Eq.trans (congrArg (fun z=>List.set z _ _) ha5) hs4)) ?_
 refine Zac<|wm<|Vw (ZaA lk)<|ms<|Zaf<|?_
 refine w_lp (ι:=Nat×Nat) (fun (x_:Nat×Nat)=>match x_ with | ⟨i,v⟩=>[(32,iv (i:Int)),(3,.any)]++rn' 9 3++rn' 33 23) (fun (x_:Nat×Nat)=>match x_ with | ⟨i,v⟩=>[(4,.mk 0 25 2 [.own (N+5) v (mapT (a,z,k) ((srtN z).take i)).length,.sl (srtL k).length 2 false (rows lnkC (srtL k))]),(5,.mk v 40 5 (rows namC (mapT (a,z,k) ((srtN z).take i))))]) (fun (x_:Nat×Nat)=>match x_ with | ⟨i,v⟩=>i≤(srtN z).length∧errT (a,z,k) (srtN z)=errT (a,z,k) ((srtN z).drop i)) (fun (x_:Nat×Nat)=>match x_ with | ⟨i,v⟩=>(srtN z).length-i) (⟨0,0⟩) (by exact⟨Nat.zero_le _,rfl⟩) ?_
 rintro⟨i,v⟩ hi1
 try simp only[sm',Nat.reduceAdd]
 obtain⟨hi1,hi2⟩:=hi1
 refine wr'<|Vw (ZaO lk lk)<|sn'<|Zac<|?_
 refine cd' lk (fun hc2=>?_) (fun hc2=>?_)
 ·have hi:i<(srtN z).length:=by omega
  have hst:=Zl7 (a,z,k) hi
  have hml:=ZdN (a,z,k) ((srtN z).take i)
  rw[List.length_take] at hml
  have hmem:=hpz.mem_iff.1 (List.getElem_mem hi)
  unfold errT at hi2
  rw[ZdC hi] at hi2
  refine za<|Zac<|Zaf<|wr'<|?_
  refine V' (ZaJ lk lk Zcp nb ro om ro rfl) pt ?_
  refine Vw (Zas lk ZvZ rfl)<|E' (ZaV hl6 ha6) pt<|E' (Zai lk cv gx rfl nb rfl Zeb hs6) ptn<|sn'<|wr'<|Vw (Zas lk ZvY rfl)<|Vw (Zag lk gx Zea rfl)<|Zad mp (tofV_a hok h0 hmem) pt<|mw<|Vw (ZaQ lk gt)<|Vw (ZaQ lk gt)<|E' (ZaV hl7 ha7) pt<|?_
  refine E' (Zai lk cv gx rfl nb rfl Zsl hs7) ptn<|ms<|Zac<|wm<|Vw (Zba lk lki)<|sn'<|?_
  refine cd' lk (fun hc3=>?_) (fun hc3=>?_)
  ·rw[if_pos hc3] at hi2
   have hM:=Zma h0 hi2 hc3
   refine wr'<|Vw (Zat ZmR)<|mw<|E' (Zai lk cv gx rfl nb rfl Zeb hs1) ptn<|mr<|Zah<|Zaq<|Zah<|Zah<|Zaq<|?_
   refine Zah<|Zae (rsn (rm1 (rr_c gt gx (ld1 Zea rfl)) (rm1 (rr_t gt) rm0)))<|rtW'<|?_
   rw[hM];exact Zed
  rw[if_neg hc3] at hi2
  refine za<|Zap<|fq<|Vw (Zaa lk gx gt0)<|fq<|Vw (Zaa lk gx gt0)<|Vw (Zag lk gx Zsj rfl)<|Vw (Zat (ZmQ cv rfl cv rfl))<|E' (Zcz (ZmP cv rfl) hl8 ha8) pt<|?_
  refine E' (ZbK (Zbp lk gx rfl ZvX nb) lk gx (ZbF _) om rfl hs5) pt ?_
  refine fq<|E' (Zai lk cv gx rfl nb rfl Zsm hs4) ptn<|Zam<|Zau<|Zan<|Zap<|?_
  refine ad<|mw<|Zam<|Zaz<|?_
  refine lU' (⟨i+1,v+1⟩) (by (try dsimp only);exact⟨by omega,hi2⟩) (by refine zz ?_;exact bk' 6 hn hlt (by rw[hst,List.length_append,ZaF];rfl) (hT:=by simp[AV.lt,AV.ltL,Ent.lt]) (hE:=by simp[AV.lt,AV.ltL,Ent.lt]))
 rw[List.drop_of_length_le (show (srtN z).length≤i by omega)] at hi2
 have hM:=ZpK h0 hi2
 rw[List.take_of_length_le (show (srtN z).length≤i by omega)]
 refine Zay<|Zar<|Zar<|ZaN<|?_
 refine ZaP (ALe.iceCellR (hga hn rfl) (hga hn rfl) om gt0 (List.take_of_length_le (by rw[ZbF];exact Nat.le_refl _)) (by rw[ZbF];exact Nat.le_refl _) pt0 hs5 hs4) ?_
 refine wr'<|Vw (Zag lk gx Zea rfl)<|E' (Zai lk cv gx rfl nb rfl Zeb hs1) ptn<|mr<|Zae (rsn (rm1 (rr_c gt gx (ld1 Zea rfl)) (rm1 (rr_t gt) rm0)))<|rtW'<|?_
 rw[hM];exact Wk.refl _
end Go.Proofs.YtfoipaclphdodaaGreatDoor
end
namespace Go.Proofs.YtfoipaclphdodaaGreatDoor
section
open Go.Ab Go.RowKit Civ
def rel1:Rel:=([(nHt,tab0)],[(nHt,nOld)])
def upd1:Upd:=([],[(nHt,tab0)],[],[(nHt,nOld)])
theorem make0:ZeT src0=(rel1,0):=by
 have hs:srtN src0.2.1=src0.2.1:=rfl
 have h1:errT src0 (srtN src0.2.1)=0:=by
  rw[hs]
  show (if (ofV src0 (nHt,[era0,era1])).2≠0 then _ else (0:Int))=0
  rw[of0];rfl
 rw[ZeT,if_neg (by rw[chk0];simp),if_neg (by rw[h1];simp),hs]
 show (([(nHt,(ofV src0 (nHt,[era0,era1])).1)],srtL src0.2.2),(0:Int))=_
 rw[of0];rfl
theorem Zrh:ZaU rel1=0:=by
 have:=ZqY (s:=src0) (by rw[make0])
 rwa [make0] at this
theorem diff0:Zdo rel0 rel1=(upd1,0):=by
 rw[Zdo,if_neg (by decide),if_neg (by rw[Zrh];simp)];rfl
theorem ZkV:Zgb rel1:=⟨fun n hn=>by
 simp only[rel1,List.mem_cons,List.not_mem_nil,or_false] at hn
 subst hn
 exact⟨by decide,ZpB chkT0⟩,fun l hl=>by
 simp only[rel1,List.mem_cons,List.not_mem_nil,or_false] at hl
 subst hl
 exact⟨by decide,by decide⟩⟩
theorem rchk1 {h:AH}:Ac 17 [.agg (relC rel1)] h (iv 0):=by
 have:=ZlW (t:=rel1.1) (k:=rel1.2) (f1:=false) (f2:=false) (h:=h) ZkV
 rw[show ZaU (rel1.1,rel1.2)=0 from Zrh] at this
 exact this
end
section
open Go.Ab Go.RowKit Civ
attribute [local simp] Zbi Zc1 Zbv ZcL
section
theorem ZmL {a0 a1 a2 a3:AV}{l:List AV}:(a0::a1::a2::a3::l).take 4=[a0,a1,a2,a3]:=rfl
theorem ZmM {a0 a1:AV}{l:List AV}:(a0::a1::l).take 2=[a0,a1]:=rfl
theorem Zr5 {a0 b0:ByteArray}{a1 b1:ByteArray}:Za4 [.str,.str] [sv a0,sv a1] [sv b0,sv b1]=some (decide (a0=b0∧a1=b1)):=by
 simp only[Za4,Zc3,if_true,Zb3,Option.some.injEq]
 simp only[Bool.decide_and,Bool.and_true]
 try (congr 1 <;> simp)
 try rfl
end
def c58:AC:=(Sr [Mc 4 0] (.seq (Sr [Mc 5 0] (.block 0 (.loop (.seq (Sr [Mv 6 5,Mv 7 0,Oo 8 (.len true (t 7)),Bn 9 .lss 6 8,Mv 10 9,Ot 11 10 (mt 5),Ot 12 10 (mt 1),Ot 13 10 (.len true (t 12)),Ot 14 10 (.bin .lss (t 11) (t 13)),Oo 15 (.pick (t 10) (t 14) (.const (.bool false)))] (Cd 15 .skip (.exit 0))) (.seq (.block 1 (.seq (Sd [Mv 18 0,Mv 19 5,Oo 20 (.ix (t 18) (t 19)),Mv 21 1,Mv 22 5,Oo 23 (.ix (t 21) (t 22)),Bn 24 .lss 20 23] (Cd 24 (Sr [Oo 4 (.mv (.const (.int .i64 (-1))))] .ret) .skip)) (Sd [Mv 25 0,Mv 26 5,Oo 27 (.ix (t 25) (t 26)),Mv 28 1,Mv 29 5,Oo 30 (.ix (t 28) (t 29)),Bn 31 .gtr 27 30] (Cd 31 (Sr [Mc 4 1] .ret) .skip)))) (.reg [Mv 16 5,Bc 17 .add 16 1,Mv 5 17])))))) (.seq (Sr [Mv 32 0,Oo 33 (.len true (t 32)),Mv 34 1,Oo 35 (.len true (t 34)),Bn 36 .lss 33 35] (Cd 36 (Sr [Oo 4 (.mv (.const (.int .i64 (-1))))] .ret) .skip)) (.seq (Sr [Mv 37 0,Oo 38 (.len true (t 37)),Mv 39 1,Oo 40 (.len true (t 39)),Bn 41 .gtr 38 40] (Cd 41 (Sr [Mc 4 1] .ret) .skip)) (Sr [Mc 4 0] .ret)))))
theorem k58:Zaw Tryz.prog 58=some ⟨c58,[(.tmp 4)],42⟩:=by kernel_rfl
def c67:AC:=(Sr [Mb 4 false] (.seq (Sr [Mv 6 0,Oo 7 (.len false (t 6)),Mv 8 1,Oo 9 (.len false (t 8)),Bn 10 .neq 7 9] (Cd 10 (Sr [Mb 4 false] .ret) .skip)) (.seq (Sr [Mc 5 0] (.block 0 (.loop (.seq (Sr [Mv 11 5,Mv 12 0,Oo 13 (.len false (t 12)),Bn 14 .lss 11 13] (Cd 14 .skip (.exit 0))) (.seq (.block 1 (Sd [Mv 17 0,Mv 18 5,Oo 19 (.ia 5 (t 17) (t 18)),Fa 20 0 19,Ld 21 20,Mv 22 1,Mv 23 5,Oo 24 (.ia 5 (t 22) (t 23)),Fa 25 0 24,Ld 26 25,Bn 27 .neq 21 26,Mv 28 27,Of 29 28 (mt 0),Of 30 28 (mt 5),Of 31 28 (.ia 5 (t 29) (t 30)),Of 32 28 (.fa 1 (t 31)),Of 33 28 (.load true 4 (t 32)),Of 34 28 (mt 1),Of 35 28 (mt 5),Of 36 28 (.ia 5 (t 34) (t 35)),Of 37 28 (.fa 1 (t 36)),Of 38 28 (.load true 4 (t 37)),Of 39 28 (.call (.func 13) [(t 33),(t 38)]),Of 40 28 (.un .not (t 39)),Oo 41 (.pick (t 28) (.const (.bool true)) (t 40))] (Cd 41 (Sr [Mb 4 false] .ret) .skip))) (.reg [Mv 15 5,Bc 16 .add 15 1,Mv 5 16])))))) (Sr [Mb 4 true] .ret))))
theorem k67:Zaw Tryz.prog 67=some ⟨c67,[(.tmp 4)],42⟩:=by kernel_rfl
def c25:AC:=(Sr [Oo 2 (.box 25 2 (t 0)),Oo 3 (.box 25 2 (t 1)),Mb 4 false] (.seq (Sr [Fa 6 0 2,Ld 7 6,Fa 8 0 3,Ld 9 8,Cl 10 67 [(t 7),(t 9)],Oo 11 (.un .not (t 10)),Mv 12 11,Of 13 12 (.fa 1 (t 2)),Of 14 12 (.load false 1 (t 13)),Of 15 12 (.len false (t 14)),Of 16 12 (.fa 1 (t 3)),Of 17 12 (.load false 1 (t 16)),Of 18 12 (.len false (t 17)),Of 19 12 (.bin .neq (t 15) (t 18)),Oo 20 (.pick (t 12) (.const (.bool true)) (t 19))] (Cd 20 (Sr [Mb 4 false] .ret) .skip)) (.seq (Sr [Mc 5 0] (.block 0 (.loop (.seq (Sr [Mv 21 5,Fa 22 1 2,Ld 23 22,Oo 24 (.len false (t 23)),Bn 25 .lss 21 24] (Cd 25 .skip (.exit 0))) (.seq (.block 1 (Sd [Fa 28 1 2,Ld 29 28,Mv 30 5,Oo 31 (.ia 2 (t 29) (t 30)),Oo 32 (.load true 2 (t 31)),Fa 33 1 3,Ld 34 33,Mv 35 5,Oo 36 (.ia 2 (t 34) (t 35)),Oo 37 (.load true 2 (t 36)),Oo 38 (.eqs true [.str,.str] (t 32) (t 37))] (Cd 38 (Sr [Mb 4 false] .ret) .skip))) (.reg [Mv 26 5,Bc 27 .add 26 1,Mv 5 27])))))) (Sr [Mb 4 true] .ret))))
theorem k25:Zaw Tryz.prog 25=some ⟨c25,[(.tmp 4)],39⟩:=by kernel_rfl
def cmpD:List UInt8→List UInt8→Int
 | [],[]=>0
 | [],_::_ => -1
 | _::_,[]=>1
 | x::xs,y::ys=>if x<y then -1 else if y<x then 1 else cmpD xs ys
theorem Zu9 : ∀ (x y:List UInt8),cmpD x y=if x<y then -1 else if y<x then 1 else 0
 | [],[]=>by simp[cmpD]
 | [],y::ys=>by simp[cmpD]
 | x::xs,[]=>by simp[cmpD]
 | x::xs,y::ys=>by
  rw[cmpD,Zu9 xs ys]
  simp only[List.cons_lt_cons_iff]
  by_cases h1:x<y
  ·rw[if_pos h1,if_pos (.inl h1)]
  rw[if_neg h1]
  by_cases h2:y<x
  ·rw[if_pos h2,if_neg,if_pos (.inl h2)]
   rintro (h | ⟨rfl,h⟩)
   ·exact h1 h
   exact h1 h2
  rw[if_neg h2]
  have e:x=y:=by
   rw[UInt8.lt_iff_toNat_lt] at h1 h2
   exact UInt8.toNat_inj.1 om
  subst e
  simp only[h1,false_or,true_and]
def cmpB (a b:ByteArray) (i:Nat):Int:=cmpD (a.data.toList.drop i) (b.data.toList.drop i)
theorem Zva (a b:ByteArray):cmpS a b=cmpB a b 0:=by
 unfold cmpB cmpS
 rw[List.drop_zero,List.drop_zero,Zu9]
 simp only[ZgP]
theorem Zvn {s:ByteArray}{i:Nat}(h:i<s.size):s.data.toList[i]'(by simpa using h)=ZbU s i:=by
 unfold ZbU;rw[List.getD_eq_getElem?_getD,List.getElem?_eq_getElem (by simpa using h)];rfl
theorem Ziy {a b:ByteArray}{i:Nat}(h1:i<a.size) (h2:i<b.size):cmpB a b i=if ((ZbU a i).toNat:Int)<((ZbU b i).toNat:Int) then -1 else if ((ZbU b i).toNat:Int)<((ZbU a i).toNat:Int) then 1 else cmpB a b (i+1):=by
 unfold cmpB
 rw[List.drop_eq_getElem_cons (show i<a.data.toList.length by simpa using h1),List.drop_eq_getElem_cons (show i<b.data.toList.length by simpa using h2),cmpD,Zvn h1,Zvn h2]
 simp only[UInt8.lt_iff_toNat_lt,Int.ofNat_lt]
theorem cmpB_l {a b:ByteArray}{i:Nat}(h1:a.size≤i) (h2:i<b.size):cmpB a b i = -1:=by
 unfold cmpB
 rw[List.drop_of_length_le (show a.data.toList.length≤i by simpa using h1),List.drop_eq_getElem_cons (show i<b.data.toList.length by simpa using h2)];rfl
theorem cmpB_r {a b:ByteArray}{i:Nat}(h1:i<a.size) (h2:b.size≤i):cmpB a b i=1:=by
 unfold cmpB
 rw[List.drop_of_length_le (show b.data.toList.length≤i by simpa using h2),List.drop_eq_getElem_cons (show i<a.data.toList.length by simpa using h1)];rfl
theorem cmpB_e {a b:ByteArray}{i:Nat}(h1:a.size≤i) (h2:b.size≤i):cmpB a b i=0:=by
 unfold cmpB
 rw[List.drop_of_length_le (show a.data.toList.length≤i by simpa using h1),List.drop_of_length_le (show b.data.toList.length≤i by simpa using h2)];rfl
theorem ZhZ {a b:ByteArray}{h:AH}(hs:a.size≤maxLen):Ac 58 [sv a,sv b] h (iv (cmpS a b)):=by
 have hs':a.size≤9223372036854775807:=by simpa [maxLen] using hs
 refine tI' k58 fun N hn _ _ hbd=>?_
 simp only[tb'] at hbd ⊢
 refine wk'<|Zac<|wk'<|Zaf<|?_
 refine w_lp (ι:=Nat) (fun (i:Nat)=>[(5,iv (i:Int)),(4,.any)]++rn' 6 26) (fun (i:Nat)=>[]) (fun (i:Nat)=>i≤a.size∧i≤b.size∧cmpS a b=cmpB a b i) (fun (i:Nat)=>a.size-i) (0) (by exact⟨Nat.zero_le _,Nat.zero_le _,Zva a b⟩) ?_
 rintro i hi1
 try simp only[sm',Nat.reduceAdd]
 obtain⟨hk1,hk2,hk3⟩:=hi1
 refine Zac<|wm<|mw<|Vw (ZcJ lk)<|Vw (ZaO lk lk)<|mw<|?_
 refine sp' (t:=10) gt pt pt (fun hg10=>?_) (fun hg10=>?_)
 ·refine sd<|mw<|sd<|mw<|sd<|Vw (ZcJ lk)<|sd<|Vw (ZaO lk lk)<|Vw (Zal lk lk)<|sn'<|?_
  refine cd' lk (fun hc1=>?_) (fun hc1=>?_)
  ·refine za<|Zac<|Zaf<|Zac<|Zac<|ZaH<|Dw vm<|Dw vm<|?_
   refine D' (v_ix lk lk om om) pt ?_
   refine Dw vm<|Dw vm<|?_
   refine D' (v_ix lk lk om om) pt ?_
   refine Dw (ZaO lk lk)<|ZaM<|?_
   refine Za5 ?_
   refine sn' ?_
   refine cd' lk (fun hc2=>?_) (fun hc2=>?_)
   ·replace hc2:((ZbU a i).toNat:Int)<((ZbU b i).toNat:Int):=hc2
    rw[Ziy om om,if_pos hc2] at hk3
    refine wo<|Zah<|Zaq<|Zah<|Zah<|Zaq<|Zah<|Zae rz<|rT'<|?_
    exact ivx hk3.symm
   replace hc2:¬((ZbU a i).toNat:Int)<((ZbU b i).toNat:Int):=hc2
   refine za<|Zac<|ZaH<|Dw vm<|Dw vm<|?_
   refine D' (v_ix lk lk om om) pt ?_
   refine Dw vm<|Dw vm<|?_
   refine D' (v_ix lk lk om om) pt ?_
   refine Dw (ZbE lk lk)<|ZaM<|?_
   refine Za5 ?_
   refine sn' ?_
   refine cd' lk (fun hc3=>?_) (fun hc3=>?_)
   ·replace hc3:((ZbU b i).toNat:Int)<((ZbU a i).toNat:Int):=hc3
    rw[Ziy om om,if_neg hc2,if_pos hc3] at hk3
    refine wo<|Zaq<|Zah<|Zah<|Zaq<|Zah<|Zae rz<|rT'<|?_
    exact ivx hk3.symm
   replace hc3:¬((ZbU b i).toNat:Int)<((ZbU a i).toNat:Int):=hc3
   rw[Ziy om om,if_neg hc2,if_neg hc3] at hk3
   refine ZaB<|Zau<|Zan<|Zap<|mw<|?_
   refine ad<|mw<|Zam<|Zaz<|?_
   refine lT' (i+1) (by (try dsimp only);exact⟨by omega,by omega,hk3⟩)
  refine Zay<|Zar<|Zar<|ZaN<|Zan<|Zac<|wm<|Vw (ZcJ lk)<|mw<|Vw (ZcJ lk)<|Vw (ZaO lk lk)<|Zam<|?_
  refine Zan ?_
  refine cd' lk (fun hc4=>?_) (fun hc4=>?_)
  ·rw[cmpB_l om om] at hk3
   refine wo<|Zah<|Zae rz<|rT'<|?_
   exact ivx hk3.symm
  refine za<|Zac<|wm<|Vw (ZcJ lk)<|mw<|Vw (ZcJ lk)<|Vw (ZbE lk lk)<|sn'<|?_
  refine cd' lk (fun hc5=>?_) (fun hc5=>?_)
  ·rw[cmpB_r om om] at hk3
   refine wo<|Zah<|Zae rz<|rT'<|?_
   exact ivx hk3.symm
  rw[cmpB_e om om] at hk3
  refine za<|wo<|Zae rz<|rT'<|?_
  exact ivx hk3.symm
 refine so<|so<|so<|so<|Vw (Zaj lk lkb)<|sn'<|Za8 lk<|Zay<|Zar<|Zar<|ZaN<|Zan<|Zac<|?_
 refine wm<|Vw (ZcJ lk)<|mw<|Vw (ZcJ lk)<|Vw (ZaO lk lk)<|sn'<|?_
 refine cd' lk (fun hc4=>?_) (fun hc4=>?_)
 ·rw[cmpB_l om om] at hk3
  refine wo<|Zah<|Zae rz<|rT'<|?_
  exact ivx hk3.symm
 refine za<|Zac<|wm<|Vw (ZcJ lk)<|mw<|Vw (ZcJ lk)<|Vw (ZbE lk lk)<|sn'<|?_
 refine cd' lk (fun hc5=>?_) (fun hc5=>?_)
 ·rw[cmpB_r om om] at hk3
  refine wo<|Zah<|Zae rz<|rT'<|?_
  exact ivx hk3.symm
 rw[cmpB_e om om] at hk3
 refine za<|wo<|Zae rz<|rT'<|?_
 exact ivx hk3.symm
section
set_option synthInstance.maxSize 4000
instance decNam:DecidableEq Nam:=inferInstanceAs (DecidableEq (ByteArray×Tab))
instance decNams:DecidableEq (List Nam):=inferInstance
instance decRel:DecidableEq Rel:=inferInstanceAs (DecidableEq (List Nam×List Lnk))
end
theorem Zju {α:Type}{l m:List α}{k:Nat}(h1:k<l.length) (h2:k<m.length) (h:l.take k=m.take k) (he:l[k]=m[k]):l.take (k+1)=m.take (k+1):=by
 rw[List.take_succ_eq_append_getElem h1,List.take_succ_eq_append_getElem h2,h,he]
theorem ZlN {t u:List Nam}{f1 f2:Bool}{h:AH}:Ac 67 [.sl t.length 5 f1 (rows namC t),.sl u.length 5 f2 (rows namC u)] h (bv (decide (t=u))):=by
 refine tI' k67 fun N hn _ _ hbd=>?_
 simp only[tb'] at hbd ⊢
 refine wk'<|Zac<|wm<|Vw (ZaA lk)<|mw<|Vw (ZaA lk)<|Vw (Zba lk lk)<|Zam<|?_
 refine Zan ?_
 refine cd' lk (fun hc1=>?_) (fun hc1=>?_)
 ·have hne:¬t=u:=fun e=>by subst e;exact hc1 rfl
  refine wo<|Zah<|Zae rz<|rT'<|?_
  exact bvx (decide_eq_false hne).symm
 refine za<|Zac<|wk'<|Zaf<|?_
 refine w_lp (ι:=Nat) (fun (i:Nat)=>[(5,iv (i:Int)),(4,.any)]++rn' 11 31) (fun (i:Nat)=>[]) (fun (i:Nat)=>i≤t.length∧t.length=u.length∧t.take i=u.take i) (fun (i:Nat)=>t.length-i) (0) (by exact⟨by omega,by omega,by simp⟩) ?_
 rintro i hi1
 try simp only[sm',Nat.reduceAdd]
 obtain⟨hk1,hk2,hk3⟩:=hi1
 refine Zac<|wm<|mw<|Vw (ZaA lk)<|Vw (ZaO lk lk)<|sn'<|?_
 refine cd' lk (fun hc2=>?_) (fun hc2=>?_)
 ·have hi:i<t.length:=by omega
  have hi':i<u.length:=by omega
  refine za<|Zac<|Zaf<|Zac<|ZaH<|Dw vm<|Dw vm<|?_
  refine D' (ZaJ lk lk ZaL nb ro om ro rfl) pt ?_
  refine Dw (Zbl lk dp0)<|Dw (Zax lk gt)<|Dw vm<|Dw vm<|?_
  refine D' (ZaJ lk lk ZaL nb ro om ro rfl) pt ?_
  refine Dw (Zbl lk dp0)<|Dw (Zax lk gt)<|?_
  refine D' ((by first | exact Zba lk lk | exact ZeC lk lk)) pt ?_
  refine D' vm pt ?_
  refine dq' (t:=28) gt pt pt (fun hg28=>?_) (fun hg28=>?_)
  ·have hne:¬t=u:=fun e=>by subst e;exact hg28 rfl
   refine dn<|dn<|dn<|dn<|dn<|dn<|dn<|dn<|dn<|dn<|dn<|dn<|Dw (Zal lk lkb)<|ZaM<|?_
   refine Za5 ?_
   refine sn'<|Zbb lk<|wo<|Zaq<|Zah<|Zah<|Zaq<|Zah<|?_
   refine Zae rz<|rT'<|?_
   exact bvx (decide_eq_false hne).symm
  refine dO<|Dw vm<|dO<|Dw vm<|dO<|?_
  refine D' (ZaJ lk lk ZaL nb ro om ro rfl) pt ?_
  refine dO<|Dw (Zbl lk dp1)<|dO<|Dw (Zas lk ZmL rfl)<|dO<|Dw vm<|dO<|Dw vm<|dO<|?_
  refine D' (ZaJ lk lk ZaL nb ro om ro rfl) pt ?_
  refine dO<|Dw (Zbl lk dp1)<|dO<|Dw (Zas lk ZmL rfl)<|dO<|?_
  refine ZaC mp (fun hE hX=>Ztl (t:=t[i].2) (u:=u[i].2)) pt ?_
  refine dO<|Dw (ZaE lk)<|Dw (Zaj lk lk)<|ZaM<|?_
  refine Za5 ?_
  refine sn' ?_
  refine Zav lk (fun hc3=>?_) (fun hc3=>?_)
  ·have hne:¬t=u:=fun e=>by subst e;simp at hc3
   refine wo<|Zaq<|Zah<|Zah<|Zaq<|Zah<|Zae rz<|rT'<|?_
   exact bvx (decide_eq_false hne).symm
  have hst:=Zju hi hi' hk3 (Prod.ext (Decidable.of_not_not hg28) (by simpa using hc3))
  refine ZaB<|Zau<|Zan<|Zap<|mw<|?_
  refine ad<|mw<|Zam<|Zaz<|?_
  refine lT' (i+1) (by (try dsimp only);exact⟨by omega,hk2,hst⟩)
 rw[List.take_of_length_le (show t.length≤i by omega),List.take_of_length_le (show u.length≤i by omega)] at hk3
 refine Zay<|Zar<|Zar<|ZaN<|Zan<|wo<|Zae rz<|rT'<|?_
 exact bvx (decide_eq_true hk3).symm
theorem lnk_ext {a b:Lnk}(h:a.1=b.1∧a.2=b.2):a=b:=Prod.ext h.1 h.2
theorem Zjy {t u:List Nam}{k m:List Lnk}{f1 f2 f3 f4:Bool}{h:AH}:Ac 25 [.agg [.sl t.length 5 f1 (rows namC t),.sl k.length 2 f2 (rows lnkC k)],.agg [.sl u.length 5 f3 (rows namC u),.sl m.length 2 f4 (rows lnkC m)]] h (bv (decide ((t,k)=(u,m)))):=by
 refine tI' k25 fun N hn _ _ hbd=>?_
 simp only[tb'] at hbd ⊢
 refine wr'<|E' (ZaR cv rfl hl0 ha0) pt<|E' (ZaR cv rfl hl1 ha1) pt<|ms<|Zac<|wr'<|fq<|Vw (Zaa lk gx gt0)<|fq<|Vw (Zaa lk gx gt0)<|?_
 refine Zad mp (ZlN) pt<|Vw (ZaE lk)<|mw<|?_
 refine Za6 (t:=12) gt pt pt (fun hg12=>?_) (fun hg12=>?_)
 ·have hne:¬(t,k)=(u,m):=fun e=>by cases e;simp at hg12
  refine so<|so<|so<|so<|so<|so<|so<|Vw (Zal lk lkb)<|sn'<|Zbb lk<|wm<|?_
  refine sr<|Zah<|Zae rz<|rT'<|?_
  exact bvx (decide_eq_false hne).symm
 have htu:t=u:=by simpa using hg12
 refine sd<|fq<|sd<|Vw (Zaa lk gx gt1)<|sd<|Vw (ZaA lk)<|sd<|fq<|sd<|Vw (Zaa lk gx gt1)<|sd<|Vw (ZaA lk)<|sd<|Vw (Zba lk lk)<|?_
 refine Vw (Zaj lk lk)<|sn'<|?_
 refine cd' lk (fun hc1=>?_) (fun hc1=>?_)
 ·have hne:¬(t,k)=(u,m):=fun e=>by cases e;exact hc1 rfl
  refine wo<|Zah<|Zae rz<|rT'<|?_
  exact bvx (decide_eq_false hne).symm
 refine za<|Zac<|wk'<|Zaf<|?_
 refine w_lp (ι:=Nat) (fun (i:Nat)=>[(5,iv (i:Int)),(4,.any)]++rn' 21 18) (fun (i:Nat)=>[]) (fun (i:Nat)=>i≤k.length∧k.length=m.length∧k.take i=m.take i) (fun (i:Nat)=>k.length-i) (0) (by exact⟨by omega,by omega,by simp⟩) ?_
 rintro i hi1
 try simp only[sm',Nat.reduceAdd]
 obtain⟨hk1,hk2,hk3⟩:=hi1
 refine Zac<|wm<|fq<|Vw (Zaa lk gx gt1)<|Vw (ZaA lk)<|Vw (ZaO lk lk)<|sn'<|?_
 refine cd' lk (fun hc2=>?_) (fun hc2=>?_)
 ·have hi:i<k.length:=by omega
  have hi':i<m.length:=by omega
  refine za<|Zac<|Zaf<|Zac<|ZaH<|dg<|Dw (Zaa lk gx gt1)<|Dw vm<|?_
  refine D' (ZaJ lk lk Zbf nb ro om ro rfl) pt ?_
  refine Dw (Zas lk ZmM rfl)<|dg<|Dw (Zaa lk gx gt1)<|Dw vm<|?_
  refine D' (ZaJ lk lk Zbf nb ro om ro rfl) pt ?_
  refine Dw (Zas lk ZmM rfl)<|Dw (ZfW lk lk Zr5)<|ZaM<|?_
  refine Za5 ?_
  refine sn' ?_
  refine cd' lk (fun hc3=>?_) (fun hc3=>?_)
  ·have hne:¬(t,k)=(u,m):=fun e=>by cases e;exact hc3 ⟨rfl,rfl⟩
   refine wo<|Zaq<|Zah<|Zah<|Zaq<|Zah<|Zae rz<|rT'<|?_
   exact bvx (decide_eq_false hne).symm
  have hst:=Zju hi hi' hk3 (lnk_ext (Decidable.of_not_not hc3))
  refine ZaB<|Zau<|Zan<|Zap<|mw<|?_
  refine ad<|mw<|Zam<|Zaz<|?_
  refine lT' (i+1) (by (try dsimp only);exact⟨by omega,hk2,hst⟩)
 rw[List.take_of_length_le (show k.length≤i by omega),List.take_of_length_le (show m.length≤i by omega)] at hk3
 refine Zay<|Zar<|Zar<|ZaN<|Zan<|wo<|Zae rz<|rT'<|?_
 exact bvx (decide_eq_true (by rw[htu,hk3])).symm
end
section
open Go.Ab Go.RowKit Civ
attribute [local simp] Zbi Zc1 Zbv ZbL Zce ZbZ
section
theorem Zkm {a0 a1 a2 a3 a4:AV}{l:List AV}:((a0::a1::a2::a3::a4::l).drop 0).take 5=[a0,a1,a2,a3,a4]:=rfl
theorem Zhy {τ:Operand→AV}{y0:Operand}{x0_0 x0_1 x0_2 x0_3 x0_4:AV}(h0:Zao (τ y0)=some [x0_0,x0_1,x0_2,x0_3,x0_4]) (l0:[x0_0,x0_1,x0_2,x0_3,x0_4].all leaf=true):Zak τ [(0,5,y0)] [(.v (.string ⟨#[]⟩)),(iv 0),(iv 0),(.v (.string ⟨#[]⟩)),(.sl 0 0 true [])]=some [x0_0,x0_1,x0_2,x0_3,x0_4]:=by
 simp only[Zak,h0,l0]
 rfl
theorem Ze3 {a0 a1 a2 a3 a4:AV}{l:List AV}:(a0::a1::a2::a3::a4::l).take 5=[a0,a1,a2,a3,a4]:=rfl
theorem Zdh {τ:Operand→AV}{y0:Operand}{x0_0 x0_1 x0_2 x0_3 x0_4:AV}(h0:Zao (τ y0)=some [x0_0,x0_1,x0_2,x0_3,x0_4]) (l0:[x0_0,x0_1,x0_2,x0_3,x0_4].all leaf=true):Zak τ [(0,5,y0)] [(.v (.string ⟨#[]⟩)),(iv 0),(iv 0),(.v (.string ⟨#[]⟩)),(.sl 0 0 true [])]=some [x0_0,x0_1,x0_2,x0_3,x0_4]:=by
 simp only[Zak,h0,l0]
 rfl
theorem Zhx {τ:Operand→AV}{y0:Operand}{x0_0 x0_1 x0_2 x0_3 x0_4:AV}(h0:Zao (τ y0)=some [x0_0,x0_1,x0_2,x0_3,x0_4]) (l0:[x0_0,x0_1,x0_2,x0_3,x0_4].all leaf=true):Zak τ [(0,5,y0)] [(.v (.string ⟨#[]⟩)),(iv 0),(iv 0),(.v (.string ⟨#[]⟩)),(.sl 0 0 true [])]=some [x0_0,x0_1,x0_2,x0_3,x0_4]:=by
 simp only[Zak,h0,l0]
 rfl
theorem Zg7 {a0 a1 a2:AV}{l:List AV}:((a0::a1::a2::l).drop 0).take 3=[a0,a1,a2]:=rfl
theorem Zlm {τ:Operand→AV}:Zak τ [] [(.sl 0 0 true []),(.sl 0 0 true [])]=some [(.sl 0 0 true []),(.sl 0 0 true [])]:=rfl
theorem Zg8 {a0 a1 c0 c1:AV}{l:List AV}:setCells (a0::a1::l) 0 [c0,c1]=c0::c1::l:=rfl
theorem Zfq {a0 a1:AV}{l:List AV}:((a0::a1::l).drop 0).take 2=[a0,a1]:=rfl
theorem Zjj {τ:Operand→AV}{y0:Operand}{x0_0:AV}(h0:Zao (τ y0)=some [x0_0]) (l0:[x0_0].all leaf=true):Zak τ [(0,1,y0)] [(.v (.string ⟨#[]⟩)),(iv 0),(iv 0),(.v (.string ⟨#[]⟩)),(.sl 0 0 true [])]=some [x0_0,(iv 0),(iv 0),(.v (.string ⟨#[]⟩)),(.sl 0 0 true [])]:=by
 simp only[Zak,h0,l0]
 rfl
theorem Zsd {a0 c0:AV}{l:List AV}:setCells (a0::l) 0 [c0]=c0::l:=rfl
theorem ZiV {a0 a1:AV}{l:List AV}:(a0::a1::l).take 2=[a0,a1]:=rfl
theorem ZmN { e:Ent}:([]:AH)++[e]=[e]:=rfl
theorem Zkn {e0 e1 e2 e3 e4 d0:Ent}:([e0,e1,e2,e3,e4]:AH)++[d0]=[e0,e1,e2,e3,e4,d0]:=rfl
theorem Zsc {a0 a1 a2 a3 c0 c1 c2 c3:AV}{l:List AV}:setCells (a0::a1::a2::a3::l) 0 [c0,c1,c2,c3]=c0::c1::c2::c3::l:=rfl
theorem Zji {τ:Operand→AV}:Zak τ [] [(.sl 0 0 true []),(.sl 0 0 true [])]=some [(.sl 0 0 true []),(.sl 0 0 true [])]:=rfl
theorem Zsa {a0 a1 a2 a3:AV}{l:List AV}:((a0::a1::a2::a3::l).drop 0).take 4=[a0,a1,a2,a3]:=rfl
theorem Zjh {τ:Operand→AV}{y0:Operand}{x0_0 x0_1:AV}(h0:Zao (τ y0)=some [x0_0,x0_1]) (l0:[x0_0,x0_1].all leaf=true):Zak τ [(0,2,y0)] [(.v (.string ⟨#[]⟩)),(.v (.string ⟨#[]⟩))]=some [x0_0,x0_1]:=by
 simp only[Zak,h0,l0]
 rfl
theorem Zsb {a0 a1 c0:AV}{l:List AV}:setCells (a0::a1::l) 1 [c0]=a0::c0::l:=rfl
end
def c55:AC:=(Sr [Oo 3 (.box 40 5 (t 1)),Oo 4 (.mv (.const (.slice none 0 0)))] (Sr [Oo 5 (.mv (.const (.slice none 0 0)))] (Sr [Mb 6 false] (.seq (Sr [Mc 7 0] (.block 0 (.loop (.seq (Sr [Mv 8 7,Mv 9 0,Oo 10 (.len false (t 9)),Bn 11 .lss 8 10] (Cd 11 .skip (.exit 0))) (.seq (.block 1 (.seq (Sd [Mv 14 6,Oo 15 (.un .not (t 14)),Mv 16 15,Ot 17 16 (mt 0),Ot 18 16 (mt 7),Ot 19 16 (.ia 5 (t 17) (t 18)),Ot 20 16 (.fa 0 (t 19)),Ot 21 16 (.load false 1 (t 20)),Ot 22 16 (.fa 0 (t 3)),Ot 23 16 (.load false 1 (t 22)),Ot 24 16 (.call (.func 58) [(t 21),(t 23)]),Ot 25 16 (.bin .gtr (t 24) (Ci 0)),Oo 26 (.pick (t 16) (t 25) (.const (.bool false)))] (Cd 26 (Sr [Mv 27 5,Oo 28 (.load true 5 (t 3)),Oo 29 (.lit 40 5 1 [Ss,(iv 0),(iv 0),Ss,nl] [(0,(5,(t 28)))]),Oo 30 (.app 40 5 72 (t 27) (t 29)),Mv 5 30] (.reg [Mb 6 true])) .skip)) (.reg [Mv 31 5,Mv 32 0,Mv 33 7,Oo 34 (.ia 5 (t 32) (t 33)),Oo 35 (.load true 5 (t 34)),Oo 36 (.lit 40 5 1 [Ss,(iv 0),(iv 0),Ss,nl] [(0,(5,(t 35)))]),Oo 37 (.app 40 5 72 (t 31) (t 36)),Mv 5 37]))) (.reg [Mv 12 7,Bc 13 .add 12 1,Mv 7 13])))))) (.seq (Sr [Mv 38 6,Oo 39 (.un .not (t 38))] (Cd 39 (.reg [Mv 40 5,Oo 41 (.load true 5 (t 3)),Oo 42 (.lit 40 5 1 [Ss,(iv 0),(iv 0),Ss,nl] [(0,(5,(t 41)))]),Oo 43 (.app 40 5 72 (t 40) (t 42)),Mv 5 43]) .skip)) (Sr [Mv 44 5,Mv 4 44] .ret))))))
theorem k55:Zaw Tryz.prog 55=some ⟨c55,[(.tmp 4)],45⟩:=by kernel_rfl
def c15:AC:=(Sr [Oo 1 (.box 53 3 (t 0)),Oo 2 (.new 25 2 [nl,nl]),Mc 3 0] (Sr [Oo 12 (.load true 3 (t 1)),Cl 13 54 [(t 12)],Mv 4 13] (.seq (Sr [Mv 14 4,Bc 15 .neq 14 0] (Cd 15 (Sr [Oo 16 (.build [nl,nl] []),Mv 17 4,⟨none,none,(.store 2 (t 2) (t 16))⟩,Mv 3 17] .ret) .skip)) (Sr [Oo 5 (.new 25 2 [nl,nl])] (.seq (Sr [Mc 6 0] (.block 0 (.loop (.seq (Sr [Mv 18 6,Fa 19 1 1,Ld 20 19,Oo 21 (.len false (t 20)),Bn 22 .lss 18 21] (Cd 22 .skip (.exit 0))) (.seq (.block 1 (.drwU [[],[],[0,1],[0,1],[0,1,2,3],[0,1],[0,1],[0,1],[0,1],[],[],[]] [Fa 25 0 5,Ld 26 25,Fa 27 1 1,Ld 28 27,Mv 29 6,Oo 30 (.ia 2 (t 28) (t 29)),Fa 31 0 30,Ld 32 31,Oo 33 (.build [Ss,(iv 0),(iv 0),Ss,nl] [(0,(1,(t 32)))]),Cl 34 55 [(t 26),(t 33)],Fa 35 0 5,Sc 35 34])) (.reg [Mv 23 6,Bc 24 .add 23 1,Mv 6 24])))))) (.seq (Sr [Mc 7 0] (.block 2 (.loop (.seq (Sr [Mv 36 7,Fa 37 0 5,Ld 38 37,Oo 39 (.len false (t 38)),Bn 40 .lss 36 39] (Cd 40 .skip (.exit 2))) (.seq (.block 3 (.seq (.drw [Oo 44 (.load true 3 (t 1)),Fa 45 1 1,Ld 46 45,Oo 47 (.load true 3 (t 1)),Fa 48 0 5,Ld 49 48,Mv 50 7,Oo 51 (.ia 5 (t 49) (t 50)),Fa 52 0 51,Ld 53 52,Cl 54 57 [(t 47),(t 53)],Oo 55 (.ia 2 (t 46) (t 54)),Oo 56 (.load true 2 (t 55)),Cl 57 56 [(t 44),(t 56)],Mv 43 57,Ex 58 43 0,Ex 59 43 1,Oo 8 (.new 38 4 [(iv 0),(iv 0),Ss,nl])] [false,false] [⟨none,none,(.store 4 (t 8) (t 58))⟩,Mv 9 59]) (.seq (Sr [Mv 60 9,Bc 61 .neq 60 0] (Cd 61 (Sr [Oo 62 (.build [nl,nl] []),Mv 63 9,⟨none,none,(.store 2 (t 2) (t 62))⟩,Mv 3 63] .ret) .skip)) (.reg [Fa 64 0 5,Ld 65 64,Mv 66 7,Oo 67 (.load true 4 (t 8)),Oo 68 (.ia 5 (t 65) (t 66)),Fa 69 1 68,⟨none,none,(.store 4 (t 69) (t 67))⟩])))) (.reg [Mv 41 7,Bc 42 .add 41 1,Mv 7 42])))))) (.seq (Sr [Mc 10 0] (.block 4 (.loop (.seq (Sr [Mv 70 10,Fa 71 2 1,Ld 72 71,Oo 73 (.len false (t 72)),Bn 74 .lss 70 73] (Cd 74 .skip (.exit 4))) (.seq (.block 5 (.seq (.drw [Fa 77 1 5,Ld 78 77,Fa 79 2 1,Ld 80 79,Mv 81 10,Oo 82 (.ia 2 (t 80) (t 81)),Oo 83 (.load true 2 (t 82)),Oo 84 (.lit 97 2 1 [Ss,Ss] [(0,(2,(t 83)))])] [false,false,false] [Oo 85 (.app 97 2 32 (t 78) (t 84)),Fa 86 1 5,Sc 86 85]) (Sr [Mv 87 10,Mv 11 87] (.block 6 (.loop (.seq (Sd [Mv 88 11,Bc 89 .gtr 88 0,Mv 90 89,Ot 91 90 (.fa 1 (t 5)),Ot 92 90 (.load false 1 (t 91)),Ot 93 90 (mt 11),Ot 94 90 (.ia 2 (t 92) (t 93)),Ot 95 90 (.fa 1 (t 94)),Ot 96 90 (.load false 1 (t 95)),Ot 97 90 (.fa 1 (t 5)),Ot 98 90 (.load false 1 (t 97)),Ot 99 90 (mt 11),Ot 100 90 (.bin .sub (t 99) (Ci 1)),Ot 101 90 (.ia 2 (t 98) (t 100)),Ot 102 90 (.fa 1 (t 101)),Ot 103 90 (.load false 1 (t 102)),Ot 104 90 (.call (.func 58) [(t 96),(t 103)]),Ot 105 90 (.bin .lss (t 104) (Ci 0)),Oo 106 (.pick (t 90) (t 105) (.const (.bool false)))] (Cd 106 .skip (.exit 6))) (.seq (.block 7 (.drw [Fa 109 1 5,Ld 110 109,Mv 111 11,Fa 112 1 5,Oo 113 (.loadR false 1 (t 112)),Mv 114 11,Bc 115 .sub 114 1,Fa 116 1 5,Ld 117 116,Mv 118 11,Bc 119 .sub 118 1,Oo 120 (.ia 2 (t 117) (t 119)),Oo 121 (.load true 2 (t 120)),Fa 122 1 5,Ld 123 122,Mv 124 11,Oo 125 (.ia 2 (t 123) (t 124)),Oo 126 (.load true 2 (t 125)),Oo 127 (.ia 2 (t 110) (t 111))] [true,false,false] [⟨none,none,(.store 2 (t 127) (t 121))⟩,Oo 128 (.ia 2 (t 113) (t 115)),⟨none,none,(.store 2 (t 128) (t 126))⟩])) (.reg [Mv 107 11,Bc 108 .sub 107 1,Mv 11 108])))))))) (.reg [Mv 75 10,Bc 76 .add 75 1,Mv 10 76])))))) (Sr [Oo 129 (.load true 2 (t 5)),⟨none,none,(.store 2 (t 2) (t 129))⟩,Mc 3 0] .ret))))))))
theorem k15:Zd4 Tryz.prog (some [12]) 15=some ⟨c15,[(.cell 2 true 2),(.tmp 3)],130⟩:=by kernel_rfl
def qR (t:List Nam) (n:Nam):Nat:=t.findIdx fun x=>ltS n.1 x.1
def insQ (t:List Nam) (n:Nam):List Nam:=t.take (qR t n)++n::t.drop (qR t n)
theorem qR_le (t:List Nam) (n:Nam):qR t n≤t.length:=List.findIdx_le_length
theorem qR_ins : ∀ {t:List Nam}{n:Nam},hasN t n.1=false→qR t n=posN t n.1
 | [],n,_=>rfl
 | x::t,n,h=>by
  rw[Zmj,Bool.or_eq_false_iff,decide_eq_false_iff_not] at h
  have ih:=qR_ins h.2
  unfold qR posN at ih ⊢
  rw[List.findIdx_cons,List.findIdx_cons,ih]
  have:ltS n.1 x.1=!ltS x.1 n.1:=by
   rcases Zmb h.1 with e | e
   ·rw[e,ZdS e];rfl
   rw[e,ZdS e];rfl
  rw[this]
theorem insQ_ins {t:List Nam}{n:Nam}(h:hasN t n.1=false):insQ t n=insN t n:=by unfold insQ insN;rw[qR_ins h]
theorem Zk1 (t:List Nam) (n:Nam):(insQ t n).length=t.length+1:=by
 have:=qR_le t n
 unfold insQ
 rw[List.length_append,List.length_take,List.length_cons,List.length_drop];omega
def ZeQ (t:List Nam) (n:Nam) (i:Nat):List Nam:=if qR t n<i then t.take (qR t n)++n::(t.drop (qR t n)).take (i-qR t n) else t.take i
theorem ZtM {t:List Nam}{n:Nam}{i:Nat}(hi:i≤t.length):(ZeQ t n i).length=if qR t n<i then i+1 else i:=by
 unfold ZeQ
 split
 ·rw[List.length_append,List.length_take,List.length_cons,List.length_take,List.length_drop];omega
 rw[List.length_take];omega
theorem qR_yes {t:List Nam}{n:Nam}{i:Nat}(hi:i<t.length) (h:¬qR t n<i) (hc:0<cmpS t[i].1 n.1):qR t n=i :=
 (List.findIdx_eq hi).2 ⟨Zqn.1 hc,fun j hj=>by
  have:=List.not_of_lt_findIdx (xs:=t) (p:=fun x=>ltS n.1 x.1) (i:=j) (by unfold qR at h;omega)
  simpa using this⟩
theorem qR_no {t:List Nam}{n:Nam}{i:Nat}(hi:i<t.length) (h:¬qR t n<i) (hc:¬0<cmpS t[i].1 n.1):¬qR t n<i+1:=fun hlt=>by
 have e:qR t n=i:=by omega
 have hq:t.findIdx (fun x=>ltS n.1 x.1)<t.length:=by unfold qR at e;omega
 have:=List.findIdx_getElem (w:=hq)
 have e2:t.findIdx (fun x=>ltS n.1 x.1)=i:=e
 simp only[e2] at this
 exact hc (Zqn.2 this)
theorem ZtJ {t:List Nam}{n:Nam}{i:Nat}(h:qR t n<i) (hi:i<t.length):ZeQ t n (i+1)=ZeQ t n i++[t[i]]:=by
 unfold ZeQ
 rw[if_pos om,if_pos h,List.append_assoc,List.cons_append,show i+1-qR t n=i-qR t n+1 by omega,List.take_succ_eq_append_getElem (by rw[List.length_drop];omega),List.getElem_drop]
 simp only[show qR t n+(i-qR t n)=i by omega]
theorem ZtK {t:List Nam}{n:Nam}{i:Nat}(h:¬qR t n<i+1) (hi:i<t.length):ZeQ t n (i+1)=ZeQ t n i++[t[i]]:=by
 unfold ZeQ
 rw[if_neg h,if_neg om,List.take_succ_eq_append_getElem hi]
theorem ZtL {t:List Nam}{n:Nam}{i:Nat}(h:qR t n=i) (hi:i<t.length):ZeQ t n (i+1)=(ZeQ t n i++[n])++[t[i]]:=by
 unfold ZeQ
 rw[if_pos om,if_neg om,h,show i+1-i=1 by omega,List.drop_eq_getElem_cons hi,List.append_assoc]
 rfl
theorem ZtN {t:List Nam}{n:Nam}(h:qR t n<t.length):ZeQ t n t.length=insQ t n:=by
 unfold ZeQ insQ
 rw[if_pos h,List.take_of_length_le (l:=t.drop (qR t n)) (by rw[List.length_drop];omega)]
theorem ZtO {t:List Nam}{n:Nam}(h:¬qR t n<t.length):ZeQ t n t.length++[n]=insQ t n:=by
 have e:qR t n=t.length:=by have:=qR_le t n;omega
 unfold ZeQ insQ
 rw[if_neg h,e,List.take_of_length_le (Nat.le_refl _),List.drop_of_length_le (Nat.le_refl _)]
theorem rput0 {t:List Nam}{n:Nam}{id v:Nat}{h:AH}(he:h[id]?=some (.mk v 40 5 (rows namC t))) (hl:t.length≤1000) (hs : ∀ x∈t,x.1.size≤maxLen) :
  ACalls Tryz.prog 55 [.own id v t.length,.agg (namC n)] h fun x h' => ∃ z j u,h'=h++z∧z[j]?=some (.mk u 40 5 (rows namC (insQ t n)))∧x=.ret (.own (h.length+j) u (insQ t n).length):=by
 refine tN' k55 fun N hn hlt _ hbd=>?_
 simp only[tb'] at hbd ⊢
 have hidN:id<N:=by rw[←hn];exact (List.getElem?_eq_some_iff.1 he).1
 refine wr'<|E' (ZaR (cvl lk1 rfl) rfl hl0 ha0) pt3<|mv' lkn pt4<|sn'<|wr'<|mv' lkn pt5<|Zam<|ZaP (ALe.own0' (st':=5) (ty:=40) gt5 hl1 pt5 ha1)<|wr'<|mv' lkb pt6<|?_
 refine sn'<|Zac<|wk'<|Zaf<|?_
 refine w_lp (ι:=Nat×Nat) (fun (x_:Nat×Nat)=>match x_ with | ⟨i,w⟩=>[(5,.own (N+1) w (ZeQ t n i).length),(6,bv (decide (qR t n<i))),(7,iv (i:Int))]++rn' 8 30) (fun (x_:Nat×Nat)=>match x_ with | ⟨i,w⟩=>[(1,.mk w 40 5 (rows namC (ZeQ t n i)))]) (fun (x_:Nat×Nat)=>match x_ with | ⟨i,w⟩=>i≤t.length) (fun (x_:Nat×Nat)=>match x_ with | ⟨i,w⟩=>t.length-i) (⟨0,0⟩) (by exact Nat.zero_le _) ?_
 rintro⟨i,w⟩ hi1
 try simp only[sm',Nat.reduceAdd]
 replace hi1:i≤t.length:=hi1
 have hpl:=ZtM hi1 (n:=n)
 refine Zac<|wm<|mw<|Vw (Zcm lk)<|Vw (ZaO lk lk)<|sn'<|?_
 refine cd' lk (fun hc1=>?_) (fun hc1=>?_)
 ·have hi:i<t.length:=by omega
  have hti:=hs _ (List.getElem_mem hi)
  refine za<|Zac<|Zaf<|Zac<|Zac<|ZaH<|Dw vm<|?_
  refine D' ((by first | exact v_not lk | exact ZaE lk)) pt ?_
  refine D' vm pt ?_
  refine dq' (t:=16) gt pt pt (fun hg16=>?_) (fun hg16=>?_)
  ·have hq:¬qR t n<i:=by simpa using hg16
   rw[if_neg hq] at hpl
   refine dO<|Dw vm<|dO<|Dw vm<|dO<|?_
   refine D' (ZaT lk lk (Zc2 he) ZaL nb ro om (by first | rfl | (simp;done) | omega)) pt ?_
   refine dO<|Dw (Zbs lk)<|dO<|?_
   refine D' (Zcb lk (Zc2 he) ZaL om nb gt0) pt ?_
   refine dO<|dg<|dO<|Dw (Zaa lk gx gt0)<|dO<|?_
   refine ZaC mp (fun hE hX=>ZhZ hti) pt ?_
   refine dO<|Dw (ZbE lk lki)<|Dw (Zal lk lk)<|ZaM<|?_
   refine Za5 ?_
   refine sn' ?_
   refine cd' lk (fun hc2=>?_) (fun hc2=>?_)
   ·have hqi:=qR_yes hi hq om
    have hstp:=ZtL hqi hi
    refine wm<|Vw (Zag lk gx Zkm rfl)<|E' (Zcz (Zhy cv rfl) hl2 ha2) pt<|?_
    refine E' (ZbK (Zbp lk gx rfl Ze3 nb) lk gx (ZbF _) om rfl hs1) pt ?_
    refine ms<|Zap<|ms<|Zap<|mw<|mw<|mw<|?_
    refine V' (ZaT lk lk (Zc2 he) ZaL nb ro om (by first | rfl | (simp;done) | omega)) pt ?_
    refine V' (ZeN lk (Zc2 he) ZaL om rfl) pt ?_
    refine E' (Zcz (Zdh cv rfl) hl3 ha3) pt ?_
    refine E' (ZbK (Zbp lk (hga hn rfl) rfl Ze3 nb) lk (hga hn rfl) (by rw[List.length_append,ZbF,show ([sv n.1,iv n.2.1.1,iv n.2.1.2.1,sv n.2.1.2.2,chS n.2.2]:List AV).length=5 from rfl];omega) om rfl hs1) pt ?_
    refine mw<|Zam<|Zau<|Zan<|Zap<|mw<|?_
    refine ad<|mw<|Zam<|Zaz<|?_
    refine lU' (⟨i+1,w+1+1⟩) (by (try dsimp only);omega) (by refine zz ?_;exact bkE' 2 hn hlt (by repeat (first | exact wk0 | refine wka ?_ | refine wk1 rfl ?_ | refine wk1 (by first | rfl | exact ivx om | exact bvx (decide_eq_true om) | exact bvx (decide_eq_decide.2 om) | exact bvx (Eq.trans (decide_eq_decide.2 om) hg16) | (rw[hstp,List.length_append];rfl) | (rw[hstp,List.length_append,List.length_append];rfl)) ?_)) (by rw[hstp,ZaF,ZaF];rfl))
   have hqn:=qR_no hi hq om
   have hstp:=ZtK hqn hi
   refine za<|Zap<|mw<|mw<|mw<|?_
   refine V' (ZaT lk lk (Zc2 he) ZaL nb ro om (by first | rfl | (simp;done) | omega)) pt ?_
   refine V' (ZeN lk (Zc2 he) ZaL om rfl) pt ?_
   refine E' (Zcz (Zdh cv rfl) hl2 ha2) pt ?_
   refine E' (ZbK (Zbp lk gx rfl Ze3 nb) lk gx (ZbF _) om rfl hs1) pt ?_
   refine mw<|Zam<|Zau<|Zan<|Zap<|mw<|?_
   refine ad<|mw<|Zam<|Zaz<|?_
   refine lU' (⟨i+1,w+1⟩) (by (try dsimp only);omega) (by refine zz ?_;exact bkE' 2 hn hlt (by repeat (first | exact wk0 | refine wka ?_ | refine wk1 rfl ?_ | refine wk1 (by first | rfl | exact ivx om | exact bvx (decide_eq_true om) | exact bvx (decide_eq_decide.2 om) | exact bvx (Eq.trans (decide_eq_decide.2 om) hg16) | (rw[hstp,List.length_append];rfl) | (rw[hstp,List.length_append,List.length_append];rfl)) ?_)) (by rw[hstp,ZaF];rfl))
  have hq:qR t n<i:=by simpa using hg16
  rw[if_pos hq] at hpl
  have hstp:=ZtJ hq hi
  refine dn<|dn<|dn<|dn<|dn<|dn<|dn<|dn<|dn<|Dw (Zaj lk lkb)<|ZaM<|?_
  refine Za5 ?_
  refine sn'<|Za8 lk<|za<|Zap<|mw<|mw<|mw<|?_
  refine V' (ZaT lk lk (Zc2 he) ZaL nb ro om (by first | rfl | (simp;done) | omega)) pt ?_
  refine V' (ZeN lk (Zc2 he) ZaL om rfl) pt ?_
  refine E' (Zcz (Zdh cv rfl) hl2 ha2) pt ?_
  refine E' (ZbK (Zbp lk gx rfl Ze3 nb) lk gx (ZbF _) om rfl hs1) pt ?_
  refine mw<|Zam<|Zau<|Zan<|Zap<|mw<|?_
  refine ad<|mw<|Zam<|Zaz<|?_
  refine lU' (⟨i+1,w+1⟩) (by (try dsimp only);omega) (by refine zz ?_;exact bkE' 2 hn hlt (by repeat (first | exact wk0 | refine wka ?_ | refine wk1 rfl ?_ | refine wk1 (by first | rfl | exact ivx om | exact bvx (decide_eq_true om) | exact bvx (decide_eq_decide.2 om) | exact bvx (Eq.trans (decide_eq_decide.2 om) hg16) | (rw[hstp,List.length_append];rfl) | (rw[hstp,List.length_append,List.length_append];rfl)) ?_)) (by rw[hstp,ZaF];rfl))
 obtain rfl:i=t.length:=by omega
 refine Zay<|Zar<|Zar<|ZaN<|Zan<|Zac<|wm<|?_
 refine V' ((by first | exact v_not lk | exact ZaE lk)) pt ?_
 refine sn' ?_
 refine cd' lk (fun hc3=>?_) (fun hc3=>?_)
 ·have hq:¬qR t n<t.length:=by simpa using hc3
  rw[if_neg hq] at hpl
  have hend:=ZtO hq
  refine Zap<|mw<|Vw (Zag lk gx Zkm rfl)<|E' (Zcz (Zhx cv rfl) hl2 ha2) pt<|?_
  refine E' (ZbK (Zbp lk gx rfl Ze3 nb) lk gx (ZbF _) om rfl hs1) pt ?_
  refine ms<|wm<|mr<|Zae rz<|?_
  refine⟨_,1,_,rfl,(by rw[←hend,ZaF];rfl),?_⟩;rw[hn,←hend,List.length_append];rfl
 have hq:qR t n<t.length:=by simpa using hc3
 have hend:=ZtN hq
 refine za<|wm<|mr<|Zae rz<|?_
 refine⟨_,1,_,rfl,(by rw[←hend];rfl),?_⟩;rw[hn,←hend]
theorem rput_t {t:List Nam}{n:Nam}{id v:Nat}{h:AH}(he:h[id]?=some (.mk v 40 5 (rows namC t))) (hl:t.length≤1000) (hs : ∀ x∈t,x.1.size≤maxLen) :
  ACalls Tryz.prog 55 [.own id v t.length,.agg (namC n)] h fun x h'=>x=.ret (.own id (v+1) (t.length+1))∧h'=h.set id (.mk (v+1) 40 5 (rows namC (insQ t n))):=by
 have:=ACalls.turnTo he (Zc1 _) (rput0 (n:=n) he hl hs)
 rw[Zk1] at this
 exact this
def nz (x:Zon):Nam:=(x.1,Zfr)
def Zh0 (l:List Zon):List Nam:=(l.map nz).foldl insQ []
theorem ZqC {l:List Zon}{i:Nat}(h:i<l.length):Zh0 (l.take (i+1))=insQ (Zh0 (l.take i)) (nz l[i]):=by
 unfold Zh0;rw[List.take_succ_eq_append_getElem h,List.map_append,List.foldl_append];rfl
theorem Zmm : ∀ (l acc:List Nam),(l.foldl insQ acc).length=acc.length+l.length
 | [],acc=>rfl
 | n::l,acc=>by rw[List.foldl_cons,Zmm,Zk1,List.length_cons];omega
theorem Zs0 (l:List Zon):(Zh0 l).length=l.length:=by unfold Zh0;rw[Zmm,List.length_map,List.length_nil,Nat.zero_add]
theorem insQ_mem {t:List Nam}{n x:Nam}(h:x∈insQ t n):x=n∨x∈t:=by
 unfold insQ at h
 rcases List.mem_append.1 h with h | h
 ·exact .inr (List.mem_of_mem_take h)
 rcases List.mem_cons.1 h with h | h
 ·exact .inl h
 exact .inr (List.mem_of_mem_drop h)
theorem Zml {x:Nam} : ∀ {l acc:List Nam},x∈l.foldl insQ acc→x∈acc∨x∈l
 | [],acc,h=>.inl h
 | n::l,acc,h=>by
  rcases Zml (l:=l) h with h | h
  ·rcases insQ_mem h with rfl | h
   ·exact .inr (by simp)
   exact .inl h
  exact .inr (List.mem_cons_of_mem _ h)
theorem tabs1_sz {l:List Zon}{i:Nat}(h : ∀ x∈l,x.1.size≤maxLen) : ∀ x∈Zh0 (l.take i),x.1.size≤maxLen:=fun x hx=>by
 rcases Zml hx with hx | hx
 ·cases hx
 obtain⟨y,hy,rfl⟩:=List.mem_map.1 hx
 exact h y (List.mem_of_mem_take hy)
theorem Zmn : ∀ {l acc:List Nam},((acc++l).map (·.1)).Nodup→l.foldl insQ acc=l.foldl insN acc
 | [],acc,_=>rfl
 | n::l,acc,hn=>by
  have hno:hasN acc n.1=false:=by
   rw[Bool.eq_false_iff,ne_eq,ZcE]
   intro hm
   rw[List.map_append,List.map_cons,List.nodup_append] at hn
   exact hn.2.2 n.1 hm n.1 (by simp) rfl
  have hp2:(insN acc n++l).Perm (acc++n::l):=((ZpY acc n).append_right l).trans (by
   rw[List.cons_append];exact List.perm_middle.symm)
  rw[List.foldl_cons,List.foldl_cons,insQ_ins hno,Zmn (((hp2.map (·.1)).nodup_iff).2 hn)]
theorem tabs1_eq {l:List Zon}(hn:(l.map (·.1)).Nodup):Zh0 l=(srtN l).map nz:=by
 have hnm:(l.map nz).map (·.1)=l.map (·.1):=by rw[List.map_map];rfl
 have h1:Zh0 l=srtN (l.map nz):=Zmn (by rw[List.nil_append,hnm];exact hn)
 rw[h1]
 refine (Zs8 (by rw[hnm];exact hn) ((ZdW hn).map nz) ?_).symm
 have:=ZkD hn
 exact List.pairwise_map.2 (this.imp fun h=>ZdS h)
def tab2 (s:Src) (zs:List Zon) (i:Nat):List Nam:=mapT s (zs.take i)++(zs.drop i).map nz
theorem Zf0 (s:Src) (zs:List Zon) (i:Nat):(tab2 s zs i).length=zs.length:=by
 unfold tab2;rw[List.length_append,ZdN,List.length_take,List.length_map,List.length_drop];omega
theorem Zs5 {s:Src}{zs:List Zon}{i:Nat}(h:i<zs.length):(tab2 s zs i)[i]'(by rw[Zf0];exact h)=nz zs[i]:=by
 have hl:(mapT s (zs.take i)).length=i:=by rw[ZdN,List.length_take];omega
 unfold tab2
 rw[List.getElem_append_right om]
 simp only[hl,Nat.sub_self,List.getElem_map,List.getElem_drop,Nat.add_zero]
theorem Zs4 {s:Src}{zs:List Zon}{i:Nat}(h:i<zs.length):(tab2 s zs i).set i (((tab2 s zs i)[i]'(by rw[Zf0];exact h)).1,(ofV s zs[i]).1)=tab2 s zs (i+1):=by
 have hl:(mapT s (zs.take i)).length=i:=by rw[ZdN,List.length_take];omega
 rw[Zs5 h]
 unfold tab2
 rw[List.set_append_right _ _ om,hl,Nat.sub_self,List.drop_eq_getElem_cons h,List.map_cons,List.set_cons_zero,Zl7 s h,List.append_assoc]
 rfl
theorem tab2_end (s:Src) (zs:List Zon):tab2 s zs zs.length=mapT s zs:=by
 unfold tab2
 rw[List.take_length,List.drop_length];simp
theorem ZtT {z:List Zon}{x:Zon}(hn:(z.map (·.1)).Nodup) (hx:x∈z) : ∃ p,∃ hp:p<z.length,Zd1 z x.1=(p:Int)∧z[p]=x:=by
 obtain⟨p,hp,rfl⟩:=List.getElem_of_mem hx
 refine⟨p,hp,?_,rfl⟩
 have hf:z.findIdx (fun y:Zon=>decide (y.1=z[p].1))=p:=(List.findIdx_eq hp).2 ⟨by simp,fun j hj=>by
  rw[decide_eq_false_iff_not]
  intro e
  have:=List.pairwise_iff_getElem.1 hn j p (by simp;omega) (by simpa using hp) hj
  simp only[List.getElem_map] at this
  exact this e⟩
 unfold Zd1 idxV
 rw[hf,if_pos hp]
theorem lnk_refl {a b:Lnk}:ltS b.2 a.2=false∨ltS a.2 b.2=false:=by
 cases h:ltS b.2 a.2 with
 | false=>exact .inl rfl
 | true=>exact .inr (ZdS h)
theorem lnk_tr {a b c:Lnk}(h1:ltS b.2 a.2=false) (h2:ltS c.2 b.2=false):ltS c.2 a.2=false:=by
 cases h:ltS c.2 a.2 with
 | false=>rfl
 | true=>rw[Zmc h2 h] at h1;cases h1
def leL (a b:Lnk):Prop:=ltS b.2 a.2=false
theorem Ztu {l:List Nam}{k:Nat}(hk:k<l.length):(rows namC l).set (k*5) (sv l[k].1)=rows namC l:=by
 have h1:rows namC l=rows namC (l.take k)++(namC l[k]++rows namC (l.drop (k+1))):=by
  have:l=l.take k++(l[k]::l.drop (k+1)):=by rw[←List.drop_eq_getElem_cons hk,List.take_append_drop]
  calc rows namC l=rows namC (l.take k++(l[k]::l.drop (k+1))):=by rw[←this]
   _=_:=by rw[ZaF];simp only[rows,List.flatMap_cons]
 have h2:(rows namC (l.take k)).length=k*5:=by rw[ZbF,List.length_take,Nat.min_eq_left om]
 rw[h1,List.set_append_right _ _ om,h2,Nat.sub_self];rfl
theorem e_stNT {T:List AV}{x y:Operand}{id v ty s k:Nat}{l:List Nam}{tb:Tab}{h h':AH}(hx:Zab T x=.ptr id v (k*5+1)) (hc:Zao (Zab T y)=some [iv tb.1.1,iv tb.1.2.1,sv tb.1.2.2,chS tb.2]) (he:h[id]?=some (.mk v ty s (rows namC l))) (hk:k<l.length) (hh:h.set id (.mk v ty s (rows namC (l.set k (l[k].1,tb))))=h') :
  aeff h (Zab T) (.store 4 x y)=some (.v undef,h'):=by
 refine Zai hx hc he rfl (by rw[ZbF];omega) rfl ?_ hh
 have:=ZkO (f:=namC) (st:=5) ZaL hk (l[k].1,tb)
 rw[←this]
 simp only[namC,setCells]
 rw[Ztu hk]
theorem rmake_g {a:List Rul}{z:List Zon}{k:List Lnk}{h:AH}(hok:Zny (a,z,k)) (hck : ∀ r∈a,∀ h,Ac 199 [.agg (rulC r)] h (iv (Zbo r))) (hcz : ∀ h,Ac 54 [.agg (srcB a z k)] h (iv (ZbC (a,z,k)))) :
  Ac 15 [.agg (srcB a z k)] h (.tup [.agg (relC (ZeT (a,z,k)).1),iv (ZeT (a,z,k)).2]):=by
 refine tUW' k15 fun N hn hlt _ hbd=>?_
 simp only[tb'] at hbd ⊢
 refine wr'<|E' (ZaR cv rfl hl0 ha0) pt<|E' (ZaV hl1 ha1) pt<|ms<|wr'<|Vw (Zag lk gx Zg7 rfl)<|Zad mp (hcz _) pt<|ms<|?_
 refine Zac<|wm<|Vw (Zba lk lki)<|sn'<|?_
 refine cd' lk (fun hc1=>?_) (fun hc1=>?_)
 ·have hM:ZeT (a,z,k)=(rel0,ZbC (a,z,k)):=if_pos hc1
  refine wr'<|Vw (Zat Zlm)<|mw<|E' (Zai lk cv gx rfl nb rfl Zg8 hs1) ptn<|mr<|Zah<|Zae (rsn (rm1 (rr_c gt gx (ld1 Zfq rfl)) (rm1 (rr_t gt) rm0)))<|rtW'<|?_
  rw[hM];exact Zed
 have h0:ZbC (a,z,k)=0:=Decidable.of_not_not hc1
 obtain⟨n1,n2,n3⟩:=ZfI h0
 have hchk:=ZhR h0
 obtain⟨q1,q2,q3,q4,q5,q6,q7⟩:=ZdD hchk
 simp only at q1 q2 q3 q4 q5 q6 q7 n1 n2
 have hpz:=ZdW n1
 have hzl:=hpz.length_eq
 have hzs : ∀ x∈z,x.1.size≤maxLen:=fun x hx=>(hok.2.1 x hx).1
 refine za<|wr'<|E' (ZaV hl2 ha2) pt<|Zam<|?_
 refine ZaP (ALe.trans (ALe.own0Cell (st':=5) (ty:=40) gx gt0 hl3 pt0 (Eq.trans (congrArg (fun z=>List.set z _ _) ha3) hs2)) (ALe.own0Cell (st':=2) (ty:=97) gx gt1 hl4 pt1 (Eq.trans (congrArg (fun z=>List.set z _ _) ha4) hs2))) ?_
 refine Zac<|wk'<|Zaf<|?_
 refine w_lp (ι:=Nat×Nat) (fun (x_:Nat×Nat)=>match x_ with | ⟨i,v⟩=>[(6,iv (i:Int))]++rn' 18 18) (fun (x_:Nat×Nat)=>match x_ with | ⟨i,v⟩=>[(2,.mk 0 25 2 [.own (N+3) v (Zh0 (z.take i)).length,.own (N+4) 0 0]),(3,.mk v 40 5 (rows namC (Zh0 (z.take i))))]) (fun (x_:Nat×Nat)=>match x_ with | ⟨i,v⟩=>i≤z.length) (fun (x_:Nat×Nat)=>match x_ with | ⟨i,v⟩=>z.length-i) (⟨0,0⟩) (by exact Nat.zero_le _) ?_
 rintro⟨i,v⟩ hi1
 try simp only[sm',Nat.reduceAdd]
 replace hi1:i≤z.length:=hi1
 have htl:=Zs0 (z.take i)
 rw[List.length_take] at htl
 refine Zac<|wm<|fq<|Vw (Zaa lk gx gt1)<|Vw (ZaA lk)<|Vw (ZaO lk lk)<|sn'<|?_
 refine cd' lk (fun hc2=>?_) (fun hc2=>?_)
 ·have hi:i<z.length:=by omega
  have hst:=ZqC hi
  refine za<|Zac<|Zaf<|Zly<|uf (Zdv lk)<|?_
  refine Zm9 rfl (Zaa lk gx gt0) (hx_l rfl) hl5 nh pt ?_
  refine u_fr rfl (Zdv lk) pt ?_
  refine Zm9 rfl (Zaa lk gx gt1) (hx_l rfl) hl5 nh pt ?_
  refine u_fr rfl vm pt ?_
  refine u_fr rfl (ZaJ lk lk Zcp nb ro om ro rfl) pt ?_
  refine uf (Zbl lk dp0)<|uf (Zax lk gt)<|uf (Zat (Zjj cv rfl))<|?_
  refine ZhW mp gx (fun hU hUe=>ACalls.wk (wk1 rfl (wkw (Wk.agg (wk1 rfl (wk1 rfl (wk1 rfl (wk1 rfl (wkw Wk.nilF wk0)))))) wk0)) (rput_t (n:=nz z[i]) hUe om (tabs1_sz hzs))) nh hs3 pt ?_
  refine u_fr rfl (Zdv lk) pt ?_
  refine u_st (Zai lk cv gx rfl nb rfl Zsd hs2) lk nh ptn ?_
  refine ZsM<|Zau<|Zan<|Zap<|mw<|?_
  refine ad<|mw<|Zam<|Zaz<|?_
  refine lU' (⟨i+1,v+1⟩) (by (try dsimp only);omega) (by refine zz ?_;exact ALe.same wA' (by rw[hst,Zk1]))
 have hT:Zh0 (z.take i)=(srtN z).map nz:=by rw[List.take_of_length_le (show z.length≤i by omega)];exact tabs1_eq n1
 rw[hT]
 refine Zay<|Zar<|Zar<|ZaN<|Zan<|Zac<|wk'<|Zaf<|?_
 refine w_lp (ι:=Nat) (fun (i:Nat)=>[(7,iv (i:Int)),(3,.any),(8,.any),(9,.any)]++rn' 36 34) (fun (i:Nat)=>[(2,.mk 0 25 2 [.own (N+3) v (tab2 (a,z,k) (srtN z) i).length,.own (N+4) 0 0]),(3,.mk v 40 5 (rows namC (tab2 (a,z,k) (srtN z) i)))]) (fun (i:Nat)=>i≤(srtN z).length∧errT (a,z,k) (srtN z)=errT (a,z,k) ((srtN z).drop i)) (fun (i:Nat)=>(srtN z).length-i) (0) (by exact⟨Nat.zero_le _,rfl⟩) ?_
 rintro i hi2
 try simp only[sm',Nat.reduceAdd]
 obtain⟨hi1,hi2⟩:=hi2
 have htl:=Zf0 (a,z,k) (srtN z) i
 refine Zac<|wm<|fq<|Vw (Zaa lk gx gt0)<|Vw (Zcm lk)<|Vw (ZaO lk lk)<|sn'<|?_
 refine cd' lk (fun hc3=>?_) (fun hc3=>?_)
 ·have hi:i<(srtN z).length:=by omega
  have hmem:=hpz.mem_iff.1 (List.getElem_mem hi)
  obtain⟨p,hp,hpl,hpe⟩:=ZtT n1 hmem
  have hnm:((tab2 (a,z,k) (srtN z) i)[i]'(by omega)).1=(srtN z)[i].1:=by rw[Zs5 hi];rfl
  have hst:=Zs4 (s:=(a,z,k)) hi
  unfold errT at hi2
  rw[ZdC hi,←hpe] at hi2
  rw[←hpe] at hst
  refine za<|Zac<|Zaf<|Zac<|ZaH<|Dw (Zag lk gx Zg7 rfl)<|dg<|Dw (Zaa lk gx gt1)<|Dw (Zag lk gx Zg7 rfl)<|dg<|Dw (Zaa lk gx gt0)<|Dw vm<|?_
  refine D' (ZaT lk lk gx ZaL nb ro om (by first | rfl | (simp;done) | omega)) pt ?_
  refine D' (Zbs lk) pt ?_
  refine D' (Zcb lk gx ZaL om nb gt0) pt ?_
  refine ZaC mp (fun hE hX=>Ztp om) pt ?_
  rw[hnm,hpl]
  refine D' (ZaJ (k:=p) lk lk Zcp nb ro om ro rfl) pt ?_
  refine D' (Zas lk ZiV rfl) pt ?_
  refine ZaC mp (fun hE hX=>ZqJ (k:=k) hck (Znz hok) om (Zfg hchk (List.getElem_mem hp))) pt ?_
  refine Dw vm<|Dw (ZaQ lk gt)<|Dw (ZaQ lk gt)<|Zc5 rfl rfl (hlk hn rfl) (Zil) pt ZmN<|ZaM<|?_
  refine Zc4 Zkn ?_
  refine E' (Zai lk cv gx rfl nb rfl Zsc hs5) ptn<|ms<|Zac<|wm<|Vw (Zba lk lki)<|sn'<|?_
  refine cd' lk (fun hc4=>?_) (fun hc4=>?_)
  ·have hv:(ofV (a,z,k) z[p]).2≠0:=hc4
   rw[if_pos hv] at hi2
   have hM:=Zma h0 hi2 hv
   refine wr'<|Vw (Zat Zji)<|mw<|E' (Zai lk cv gx rfl nb rfl Zg8 hs1) ptn<|mr<|Zah<|Zaq<|Zah<|Zah<|Zaq<|?_
   refine Zah<|Zae (rsn (rm1 (rr_c gt gx (ld1 Zfq rfl)) (rm1 (rr_t gt) rm0)))<|rtW'<|?_
   rw[hM];exact Zed
  have hv:¬(ofV (a,z,k) z[p]).2≠0:=hc4
  rw[if_neg hv] at hi2
  refine za<|Zap<|fq<|Vw (Zaa lk gx gt0)<|mw<|Vw (Zag lk gx Zsa rfl)<|?_
  refine V' (ZaT lk lk gx ZaL nb ro om (by first | rfl | (simp;done) | omega)) pt ?_
  refine V' (Zbs lk) pt ?_
  refine E' (e_stNT (tb:=(ofV (a,z,k) z[p]).1) lk cv gx om hs3) ptn ?_
  refine Zam<|Zau<|Zan<|Zap<|mw<|?_
  refine ad<|mw<|Zam<|Zaz<|?_
  refine lU' (i+1) (by (try dsimp only);exact⟨by omega,hi2⟩) (by refine zz ?_;exact bk' 5 hn hlt (by rw[hst,Zf0,Zf0];rfl) (hT:=by simp[AV.lt,AV.ltL,Ent.lt]) (hE:=by simp[AV.lt,AV.ltL,Ent.lt]))
 obtain rfl:i=(srtN z).length:=by omega
 rw[List.drop_of_length_le (Nat.le_refl _)] at hi2
 have hM:=ZpK h0 hi2
 rw[tab2_end,ZdN]
 refine Zay<|Zar<|Zar<|ZaN<|Zan<|Zac<|wk'<|Zaf<|?_
 refine w_lp (ι:=Nat×List Lnk×Nat) (fun (x_:Nat×List Lnk×Nat)=>match x_ with | ⟨i,M,w⟩=>[(10,iv (i:Int)),(11,.any)]++rn' 70 59) (fun (x_:Nat×List Lnk×Nat)=>match x_ with | ⟨i,M,w⟩=>[(2,.mk 0 25 2 [.own (N+3) v (srtN z).length,.own (N+4) w M.length]),(4,.mk w 97 2 (rows lnkC M))]) (fun (x_:Nat×List Lnk×Nat)=>match x_ with | ⟨i,M,w⟩=>i≤k.length∧M.Perm (k.take i)∧M.Pairwise leL) (fun (x_:Nat×List Lnk×Nat)=>match x_ with | ⟨i,M,w⟩=>k.length-i) (⟨0,[],0⟩) (by exact⟨Nat.zero_le _,List.Perm.refl _,.nil⟩) ?_
 rintro⟨i,M,w⟩ hi3
 try simp only[sm',Nat.reduceAdd]
 obtain⟨hm1,hm2,hm3⟩:=hi3
 have hML:=hm2.length_eq
 rw[List.length_take] at hML
 refine Zac<|wm<|fq<|Vw (Zaa lk gx gt2)<|Vw (ZaA lk)<|Vw (ZaO lk lk)<|sn'<|?_
 refine cd' lk (fun hc5=>?_) (fun hc5=>?_)
 ·have hi:i<k.length:=by omega
  refine za<|Zac<|Zaf<|Zac<|ZaH<|dg<|Dw (Zaa lk gx gt1)<|dg<|Dw (Zaa lk gx gt2)<|Dw vm<|?_
  refine D' (ZaJ lk lk Zbf nb ro om ro rfl) pt ?_
  refine Dw (Zas lk ZiV rfl)<|Zc5 rfl rfl (hlk hn rfl) (ZfJ (Zjh cv rfl)) pt ZmN<|ZaM<|?_
  refine Zc4 Zkn ?_
  refine E' (ZbK (Zbp lk gx rfl ZiV nb) lk gx (Zeo _) om rfl hs4) pt ?_
  refine fq<|E' (Zai lk cv gx rfl nb rfl Zsb hs2) ptn<|sn'<|wm<|ms<|Zaf<|?_
  refine ZeB (ι:=Nat×List Lnk) (fun (x_:Nat×List Lnk)=>match x_ with | ⟨q,K⟩=>[(11,iv (q:Int))]++rn' 88 41) (fun (x_:Nat×List Lnk)=>match x_ with | ⟨q,K⟩=>[(2,.mk 0 25 2 [.own (N+3) v (srtN z).length,.own (N+4) (w+1) K.length]),(4,.mk (w+1) 97 2 (rows lnkC K))]) (fun (x_:Nat×List Lnk)=>match x_ with | ⟨q,K⟩=>q≤i∧K.Perm (k.take (i+1))∧insR leL i q K) (fun (x_:Nat×List Lnk)=>match x_ with | ⟨q,K⟩=>q) (⟨i,M++[k[i]]⟩) (by exact⟨Nat.le_refl _,(by rw[List.take_succ_eq_append_getElem hi];exact hm2.append_right _),ZgT (by rw[List.length_append,List.length_singleton];omega) (by rw[List.take_left' om];exact hm3)⟩) (by try simp only[sm',Nat.reduceAdd];exact ALe.same wA' (by first | (rw[ZaF,List.length_append];done) | (rw[ZaF,List.length_append];rfl))) ?_
  rintro⟨q,K⟩ hi4
  try simp only[sm',Nat.reduceAdd]
  obtain⟨hq1,hq2,hq3⟩:=hi4
  have hKL:=hq2.length_eq
  rw[List.length_take] at hKL
  have hsz : ∀ x∈K,x.2.size≤maxLen:=fun x hx=>(hok.2.2 x (List.mem_of_mem_take (hq2.mem_iff.1 hx))).2
  refine Zac<|Zac<|ZaH<|Dw vm<|Dw (ZbE lk lki)<|Dw vm<|?_
  refine dq' (t:=90) gt pt pt (fun hg90=>?_) (fun hg90=>?_)
  ·obtain⟨j,rfl⟩ : ∃ j,q=j+1:=⟨q-1,by omega⟩
   have hz3:j+1<K.length:=by omega
   refine dO<|dg<|dO<|Dw (Zaa lk gx gt1)<|dO<|Dw vm<|dO<|?_
   refine D' (ZaT (k:=j+1) lk lk gx Zbf nb ro om (by first | rfl | (simp;done) | omega)) pt ?_
   refine dO<|Dw (Zbs lk)<|dO<|?_
   refine D' (Zcb lk gx Zbf om nb gt1) pt ?_
   refine dO<|dg<|dO<|Dw (Zaa lk gx gt1)<|dO<|Dw vm<|dO<|?_
   refine D' (Za3 lk lki om om) pt ?_
   refine d_do gt ?_
   refine D' (ZaT (k:=j) lk lk gx Zbf nb ro om (by first | rfl | (simp;done) | omega)) pt ?_
   refine dO<|Dw (Zbs lk)<|dO<|?_
   refine D' (Zcb lk gx Zbf om nb gt1) pt ?_
   refine d_do gt ?_
   refine ZaC mp (fun hE hX=>ZhZ (hsz _ (List.getElem_mem om))) pt ?_
   refine dO<|Dw (ZaO lk lki)<|Dw (Zal lk lk)<|ZaM<|?_
   refine Za5 ?_
   refine sn' ?_
   refine cd' lk (fun hc6=>?_) (fun hc6=>?_)
   ·have hlt_:ltS K[j+1].2 K[j].2=true:=Zff.1 hc6
    obtain⟨hk1,hk2⟩:=Zin (r:=leL) (fun _ _=>lnk_refl) hq3 hz3 (by unfold leL;rw[hlt_];simp)
    refine za<|Zac<|Zaf<|ZsH [N+2]<|dg<|Dw (Zaa lk gx gt1)<|Dw vm<|dg<|?_
    refine d_ldP lk gx (ld0 gt) (by simp) pt ?_
    refine D' vm pt ?_
    refine D' (Za3 lk lki om om) pt ?_
    refine dg<|Dw (Zaa lk gx gt1)<|Dw vm<|?_
    refine D' (Za3 lk lki om om) pt ?_
    refine D' (ZaT (k:=j) lk lk gx Zbf nb ro om (by first | rfl | (simp;done) | omega)) pt ?_
    refine D' (ZeN lk gx Zbf om rfl) pt ?_
    refine dg<|Dw (Zaa lk gx gt1)<|Dw vm<|?_
    refine D' (ZaT (k:=j+1) lk lk gx Zbf nb ro om (by first | rfl | (simp;done) | omega)) pt ?_
    refine D' (ZeN lk gx Zbf om rfl) pt ?_
    refine D' (ZaT (k:=j+1) lk lk gx Zbf nb ro om (by first | rfl | (simp;done) | omega)) pt ?_
    refine ZaM<|ZnM<|?_
    refine k_eff rfl rfl (Zgj (z:=K[j]) lk cv gx Zbf rfl om hs4) (by intro i hi;simp only[cond_true,List.mem_cons,List.not_mem_nil,or_false] at hi;subst hi;first | rfl | exact (hga hn rfl).trans (hga hn rfl).symm) ptn ?_
    refine k_val rfl (ZaT (k:=j) lk lk gx Zbf nb (by first | rfl | first | omega | (rw[List.length_set];omega)) (by first | omega | (rw[List.length_set];omega)) (by first | rfl | (simp;done) | first | omega | (rw[List.length_set];omega))) pt ?_
    refine k_eff rfl rfl (Zgj (z:=K[j+1]) lk cv gx Zbf rfl (by first | omega | (rw[List.length_set];omega)) hs4) (by intro i hi;simp at hi) ptn ?_
    refine k_nil<|Zau<|Zan<|Zap<|mw<|?_
    refine V' (Za3 lk lki om om) pt ?_
    refine mw<|Zam<|Zaz<|?_
    refine lU' (⟨j,(K.set (j+1) K[j]).set j K[j+1]⟩) (by (try dsimp only);exact⟨by omega,hk2.trans hq2,hk1⟩) (by refine zz ?_;exact ALe.same wA' (by rw[List.length_set,List.length_set]))
   have hge_:ltS K[j+1].2 K[j].2=false:=by rw[Bool.eq_false_iff,ne_eq,←Zff];exact hc6
   have hend:=ZgR (r:=leL) (fun _ _ _=>lnk_tr) hq3 hz3 hge_
   refine Zay<|Zar<|Zar<|ZaN<|Zau<|Zan<|Zap<|mw<|?_
   refine ad<|mw<|Zam<|Zaz<|?_
   refine lU' (⟨i+1,K,w+1⟩) (by (try dsimp only);exact⟨by omega,hq2,(by rwa [List.take_of_length_le om] at hend)⟩) (by refine zz ?_;exact bk' 5 hn hlt (hT:=by simp[AV.lt,AV.ltL,Ent.lt]) (hE:=by simp[AV.lt,AV.ltL,Ent.lt]))
  obtain rfl:q=0:=by omega
  have hend:=ZgS hq3
  refine dn<|dn<|dn<|dn<|dn<|dn<|dn<|dn<|dn<|dn<|dn<|dn<|dn<|dn<|?_
  refine dn<|Dw (Zaj lk lkb)<|ZaM<|?_
  refine Za5 ?_
  refine sn'<|Za8 lk<|Zay<|Zar<|Zar<|ZaN<|Zau<|Zan<|Zap<|mw<|?_
  refine ad<|mw<|Zam<|Zaz<|?_
  refine lU' (⟨i+1,K,w+1⟩) (by (try dsimp only);exact⟨by omega,hq2,(by rwa [List.take_of_length_le om] at hend)⟩) (by refine zz ?_;exact bk' 5 hn hlt (hT:=by simp[AV.lt,AV.ltL,Ent.lt]) (hE:=by simp[AV.lt,AV.ltL,Ent.lt]))
 obtain rfl:M=srtL k:=by rw[List.take_of_length_le (show k.length≤i by omega)] at hm2;exact Zs9 n2 hm2 hm3
 refine Zay<|Zar<|Zar<|ZaN<|?_
 refine ZaP (ALe.trans (ALe.iceCellR (hga hn rfl) (hga hn rfl) om gt0 (List.take_of_length_le (by rw[ZbF,ZdN];exact Nat.le_refl _)) (by rw[ZbF,ZdN];exact Nat.le_refl _) pt0 hs3 hs2) (ALe.iceCellR (hga hn rfl) (hga hn rfl) om gt1 (List.take_of_length_le (by rw[Zeo];exact Nat.le_refl _)) (by rw[Zeo];exact Nat.le_refl _) pt1 hs4 hs2)) ?_
 refine wr'<|Vw (Zag lk gx Zfq rfl)<|E' (Zai lk cv gx rfl nb rfl Zg8 hs1) ptn<|mr<|Zae (rsn (rm1 (rr_c gt gx (ld1 Zfq rfl)) (rm1 (rr_t gt) rm0)))<|rtW'<|?_
 rw[hM];dsimp only [relC];rw[ZdN];exact Wk.refl _
end
section
open Go.Ab Go.RowKit Civ
theorem okRs0:okRs src0.1:=Znk.1
theorem crl_ev : ∀ r∈rul0,evF Tryz.prog noO 1000 20 199 [.agg (rulC r)] []=some (.ret (iv (Zbo r)),[]):=fun r hr=>by
 rcases List.mem_cons.1 hr with rfl | hr
 ·kernel_rfl
 ·rcases List.mem_cons.1 hr with rfl | hr
  ·kernel_rfl
  ·cases hr
theorem rcrl0 : ∀ r∈rul0,∀ h,Ac 199 [.agg (rulC r)] h (iv (Zbo r)):=fun r hr h=>ACalls.ev 1000 20 noO_ok (crl_ev r hr)
theorem rtms1 {h:AH}:Ac 109 [.sl 2 11 false (rows rulC rul0),sv nEu,iv 3600] h (.tup [.sl (ZeO rul0 nEu 3600).1.length 3 false (rows timC (ZeO rul0 nEu 3600).1),iv (ZeO rul0 nEu 3600).2]) :=
 by rw[←Zng];exact Zpi (l:=rul0) rcrl0 okRs0 (by decide)
theorem chkZ_ev:evF Tryz.prog (orc 109 [.sl 2 11 false (rows rulC rul0),sv nEu,iv 3600] (.tup [.sl (ZeO rul0 nEu 3600).1.length 3 false (rows timC (ZeO rul0 nEu 3600).1),iv (ZeO rul0 nEu 3600).2])) 1000 20 54 [.agg (srcC src0)] []=some (.ret (iv 0),[]):=by kernel_rfl
theorem rchkZ0 {h:AH}:Ac 54 [.agg (srcC src0)] h (iv 0) :=
 ACalls.ev 1000 20 (orc_ok fun h=>rtms1) chkZ_ev (hl:=by kernel_rfl) (hc:=by kernel_rfl)
end
end Go.Proofs.YtfoipaclphdodaaGreatDoor
namespace Go.Ab
section
open Go.RowKit
section
variable {P : Program}
theorem ACalls.of_turnS {f:FuncId}{args:List AV}{h:AH}{id ver ty st:Nat}{cells:List AV}{R':Nat→List AV→Prop}(he:enters P f=true) (hi:h[id]?=some (.mk ver ty st cells)) (hne:cells≠[])
  (hc : ∀ w g (vs:Array Value) b cap arr,SimH w g h→RepL w g args vs.toList→g.loc id ver=some (some ⟨b,0,none⟩,cap)→cap≤maxLen→w.heap[b]?=some (.cells arr ty (0,0))→arr.size=cap*st→cells.length≤arr.size→RepL w g cells (arr.toList.take cells.length) →
   Calls P f vs w fun e w' => ∃ (n':Nat) (cells':List AV) (vs':List Value) (arr':Array Value),e=.returned (.slice (some ⟨b,0,none⟩) n' cap)∧n'≤cap∧R' n' cells'∧RepL w g cells' vs'∧w'.heap[b]?=some (.cells arr' ty (0,0))∧arr'.size=arr.size∧vs'.length≤arr.size∧arr'.toList.take vs'.length=vs' ∧
    w'.os=w.os∧w'.tape=w.tape∧w'.output=w.output∧w.heap.size≤w'.heap.size ∧ ∀ k,k<w.heap.size→k≠b→w'.heap[k]?=w.heap[k]?) :
  ACalls P f args h fun x h' => ∃ n' cells',R' n' cells'∧x=.ret (.own id ver n')∧h'=h.set id (.mk ver ty st cells'):=by
 refine⟨he,fun w g vs hs ha=>?_⟩
 obtain⟨A,cap,f1,fm,f3⟩:=hs.ent _ _ _ _ _ hi
 rcases f3 with ⟨e,_⟩ | ⟨b,arr,rfl,hc0,hd,hb,hsz,hle,hrl⟩
 ·exact absurd e hne
 have hid:id<h.length:=(List.getElem?_eq_some_iff.1 hi).1
 have how:OwAt g h id b:=⟨ver,ty,st,cells,_,cap,hi,f1,hc0,rfl⟩
 refine (hc w g vs b cap arr hs ha f1 fm hb hsz hle hrl).mono ?_
 rintro e w' ⟨n',cells',vs',arr',rfl,hn',hR,hRep,h1,h2,h3,h4,h5,h6,h7,h8,h9⟩
 have hother : ∀ j,g.D j∨(∃ i,i≠id∧OwAt g h i j)∨(∃ i,RwAt h i j)→w'.heap[j]?=w.heap[j]?:=by
  rintro j (hj | ⟨i,hne',hj⟩ | ⟨i,hj⟩)
  rotate_left 2
  ·exact h9 j (hs.own_not_D (.inr ⟨i,hj⟩)).2 (fun e=>by subst e;exact hs.own_ne_raw how hj)
  ·exact h9 j (hs.lt j hj) (fun e=>hd (e ▸ hj))
  ·exact h9 j (hs.own_not_D (.inl ⟨i,hj⟩)).2 (fun e=>hne' (hs.inj i id j hj (e ▸ how)))
 obtain⟨k1,k2,k3⟩:=hs.put (w':=w') (g':=g) (h':=h.set id (.mk ver ty st cells')) id ver ty st cells' (some ⟨b,0,none⟩) cap
  (fun i hne'=>by rw[List.getElem?_set_ne (Ne.symm hne')]) (by rw[List.getElem?_set_self hid]) (by simp) rfl (fun _ _ _ h=>h) (fun _ _ _ h=>.inl h) f1 (fun v l hv=>(hs.fresh _ _ _ hv).2 _ _ _ _ hi) hother h8 fm
  (.inr ⟨b,arr',rfl,hc0,hd,h1,by rw[h2,hsz],by rw[←hRep.length,h2];exact h3,by rw[←hRep.length,h4];exact RepL.mono (Gh.le.refl g) (fun j hj=>hother j (.inl hj)) _ _ hRep⟩)
  (fun j hj _ i hne' ho=>by
   simp at hj
   subst hj
   exact hne' (hs.inj i id _ ho how)) (fun k hk _ _=>by simp at hk;subst hk;exact .inl ⟨id,how⟩)
 refine⟨.ret (.own id ver n'),_,g,?_,k1,k2,⟨h5,h6,h7,h8,fun k hk hn=>h9 k hk (fun e=>hn (.inl ⟨id,e ▸ how⟩))⟩,fun k hk=>?_,_,_,hR,rfl,rfl⟩
 ·simp only[EndR,Rep];exact⟨_,_,f1,hn',fm,rfl⟩
 ·rcases k3 k hk with ho | ⟨ho,_⟩
  ·exact .inl ho
  ·simp at ho;subst ho;exact .inl (.inl ⟨id,how⟩)
end
end
section
open Go.RowKit Go.Lib
variable {P : Program}
theorem Zja (w:World) (t e ty:TypeId) (z:Value) (ht:P.underlying t=some (.slice e)) (hv : ∀ w,(zeroValue e).run P w=.ok z w) (b o n c:Nat) (hn:0<n)
  (hc : ∀ j,j<n*z.cells.size→(w.cell? ⟨b,o+j,none⟩).isSome=true) (hf : ∀ j,j<n*z.cells.size→w.frozen? ⟨b,o+j,none⟩=false) (h2 : ∀ v∈(Builtin.zeroCells z.cells n).toList,v.oneCell'=true) :
  (Builtin.clear_ #[t] ty #[.slice (some ⟨b,o,none⟩) n c]).run P w=.ok (.tuple #[]) (w.setCells b o (Builtin.zeroCells z.cells n).toList):=by
 have hl:(Builtin.zeroCells z.cells n).toList.length=n*z.cells.size:=by rw[Array.length_toList,size_zeroCells]
 have hst:=run_storeCells_cells (P:=P) b o (Builtin.zeroCells z.cells n).toList 0 w (by rw[hl];simpa using hc) (by rw[hl];simpa using hf) h2
 simp only[Nat.add_zero] at hst
 obtain⟨m,rfl⟩ : ∃ m,n=m+1:=⟨n-1,by omega⟩
 simp[Builtin.clear_,run_underlying ht,hv,hst]
theorem Zdm (w:World) (dT sT ty elem:TypeId) (k b o dLen dCap:Nat) (a:Addr) (sLen sCap:Nat) (cs:List Value)
  (hu:P.underlying dT=some (.slice elem)) (hs:(P.info? elem).map (·.size)=some k) (hn:cs.length=Nat.min sLen dLen*k)
  (hsrc : ∀ j v,cs[j]?=some v→w.cell? (a.add j)=some v) (hc : ∀ j,j<cs.length→(w.cell? ⟨b,o+j,none⟩).isSome=true) (hf : ∀ j,j<cs.length→w.frozen? ⟨b,o+j,none⟩=false) (h1 : ∀ v∈cs,v.oneCell'=true) :
  (Builtin.copy_ #[dT,sT] ty #[.slice (some ⟨b,o,none⟩) dLen dCap,.slice (some a) sLen sCap]).run P w=.ok (goInt (Nat.min sLen dLen)) (w.setCells b o cs):=by
 have hl:=run_loadCells_list (P:=P) w a cs hsrc
 have hst:=run_storeCells_cells (P:=P) b o cs 0 w (by simpa using hc) (by simpa using hf) h1
 cases hq:P.info? elem with
 | none=>simp[hq] at hs
 | some i =>
  have hi:i.size=k:=by simpa [hq] using hs
  simp[Builtin.copy_,run_underlying hu,Builtin.lenOf,Builtin.firstCells,sizeOf,typeInfo,hq,hi,←hn,hl,hst]
theorem Zcv (P:Program) (g o:Nat) (t:TypeId) (vs:List Value) (cur:Array Value) (w:World) (hg:w.heap[g]?=some (.cells cur t (0,0))) (hle:o+vs.length≤cur.size) (h1 : ∀ v∈vs,v.oneCell'=true) :
  w.setCells g o vs=w.setRow g (cur.toList.take o++vs++cur.toList.drop (o+vs.length)).toArray:=by
 have a:=run_storeCells_at (P:=P) g o t vs 0 cur w hg (by simpa using hle) h1
 have b:=run_storeCells_cells (P:=P) g o vs 0 w (fun j hj=>by
  rw[cell_of_row w g _ cur t (0,0) hg]
  rw[Array.getElem?_eq_getElem (show o+0+j<cur.size by omega)];rfl) (fun j hj=>frozen_of_row w g _ cur t hg) h1
 rw[a] at b
 simpa using (Result.ok.inj b).2.symm
end
section
open Go.RowKit
section
variable {P : Program}
def Zqw (w:World) (ty st:Nat) (A:Option Addr) (cap:Nat) (olds:List Value):Prop :=
 (cap=0∧olds=[]) ∨ ∃ b arr,cap≠0∧A=some ⟨b,0,none⟩∧w.heap[b]?=some (.cells arr ty (0,0))∧arr.size=cap*st∧olds.length≤arr.size∧arr.toList.take olds.length=olds
def Zv3 (w:World) (ty st:Nat) (A:Option Addr) (cap:Nat) (A2:Option Addr) (cap2:Nat) (news:List Value) (w':World):Prop :=
 (∃ b arr,cap2≠0∧A2=some ⟨b,0,none⟩∧w'.heap[b]?=some (.cells arr ty (0,0))∧arr.size=cap2*st∧news.length≤arr.size∧arr.toList.take news.length=news∧(w.heap.size≤b∨cap≠0∧A=some ⟨b,0,none⟩)) ∧
  w'.os=w.os∧w'.tape=w.tape∧w'.output=w.output∧w.heap.size≤w'.heap.size ∧ ∀ k,k<w.heap.size→(cap≠0→A.map (·.block)≠some k)→w'.heap[k]?=w.heap[k]?
theorem ACalls.of_turnG {f:FuncId}{args:List AV}{h:AH}{id ver ty st:Nat}{cells:List AV}{R':Nat→List AV→Prop}(he:enters P f=true) (hi:h[id]?=some (.mk ver ty st cells))
  (hc : ∀ w g (vs:Array Value) A cap olds,SimH w g h→RepL w g args vs.toList→g.loc id ver=some (A,cap)→cap≤maxLen→RepL w g cells olds→Zqw w ty st A cap olds→(∀ b,cap≠0→A.map (·.block)=some b→OwAt g h id b) →
   Calls P f vs w fun e w' => ∃ (n':Nat) (cells':List AV) (vs':List Value) (A2:Option Addr) (cap2:Nat),e=.returned (.slice A2 n' cap2)∧n'≤cap2∧cap2≤maxLen∧R' n' cells'∧RepL w g cells' vs'∧Zv3 w ty st A cap A2 cap2 vs' w') :
  ACalls P f args h fun x h' => ∃ n' cells',R' n' cells'∧x=.ret (.own id (ver+1) n')∧h'=h.set id (.mk (ver+1) ty st cells'):=by
 refine⟨he,fun w g vs hs ha=>?_⟩
 obtain⟨A,cap,f1,fm,f3⟩:=hs.ent _ _ _ _ _ hi
 have hid:id<h.length:=(List.getElem?_eq_some_iff.1 hi).1
 have how : ∀ k,cap≠0→A.map (·.block)=some k→OwAt g h id k:=by
  intro k h0 hk
  cases A with
  | none=>simp at hk
  | some b=>exact⟨_,_,_,_,b,cap,hi,f1,h0,by simpa using hk⟩
 have hold : ∃ olds,RepL w g cells olds∧Zqw w ty st A cap olds:=by
  rcases f3 with ⟨rfl,h0⟩ | ⟨b,arr,rfl,hc0,hd,hb,hsz,hle,hrl⟩
  ·exact⟨[],by simp only[RepL],.inl ⟨h0,rfl⟩⟩
  ·exact⟨_,hrl,.inr ⟨b,arr,hc0,rfl,hb,hsz,by rw[hrl.length];exact hle,by rw[hrl.length]⟩⟩
 obtain⟨olds,o1,o2⟩:=hold
 refine (hc w g vs A cap olds hs ha f1 fm o1 o2 how).mono ?_
 rintro e w' ⟨n',cells',vs',A2,cap2,rfl,hn',hcm2,hR,hRep,⟨b',arr',hc0,rfl,hb',hsz',hle',htk,hor⟩,h5,h6,h7,h8,h9⟩
 have hfr:Fr w (Ow g h) w':=⟨h5,h6,h7,h8,fun k hk hn=>h9 k hk fun h0 e=>hn (.inl ⟨id,how k h0 e⟩)⟩
 have hfresh : ∀ l,g.loc id (ver+1)=some l→False:=fun l hl=>by have:=(hs.fresh _ _ _ hl).2 _ _ _ _ hi;omega
 have hlocm : ∀ j vv l,g.loc j vv=some l→(g.add id (ver+1) (some ⟨b',0,none⟩,cap2)).loc j vv=some l:=by
  intro j vv l hj
  simp only[Gh.add]
  rw[if_neg]
  ·exact hj
  ·rintro⟨rfl,rfl⟩;exact hfresh _ hj
 have hleg:g.le (g.add id (ver+1) (some ⟨b',0,none⟩,cap2)):=Gh.le_of_put rfl hlocm
 have hDw : ∀ k,g.D k→w'.heap[k]?=w.heap[k]?:=fun k hk=>hfr.block k (hs.lt k hk) (fun ho=>(hs.own_not_D ho).1 hk)
 have hb2:w.heap.size≤b'∨OwAt g h id b':=hor.imp (fun x=>x) fun ⟨h0,e⟩=>how b' h0 (by rw[e];rfl)
 have hput:=hs.put (w':=w') (g':=g.add id (ver+1) (some ⟨b',0,none⟩,cap2)) (h':=h.set id (.mk (ver+1) ty st cells')) id (ver+1) ty st cells' (some ⟨b',0,none⟩) cap2
  (fun j hj=>by rw[List.getElem?_set_ne (Ne.symm hj)]) (by rw[List.getElem?_set_self hid]) (by simp) rfl hlocm
  (fun j vv l hj=>by
   simp only[Gh.add] at hj
   split at hj
   ·right;assumption
   ·left;exact hj) (by simp[Gh.add]) (fun vv l hl=>by have:=(hs.fresh _ _ _ hl).2 _ _ _ _ hi;omega)
  (by
   rintro k (hk | ⟨j,hj,hk⟩ | ⟨j,hk⟩)
   ·exact hDw k hk
   ·exact h9 k (hs.own_not_D (.inl ⟨j,hk⟩)).2 fun h0 e=>hj (hs.inj j id k hk (how k h0 e))
   ·exact h9 k (hs.own_not_D (.inr ⟨j,hk⟩)).2 fun h0 e=>hs.own_ne_raw (how k h0 e) hk) h8 hcm2
  (.inr ⟨b',arr',rfl,hc0,hb2.elim (fun hge hd=>by have:=hs.lt _ hd;omega) (fun ho=>(hs.own_not_D (.inl ⟨id,ho⟩)).1),hb',hsz',by rw[←hRep.length];exact hle',by rw[←hRep.length,htk];exact RepL.mono hleg hDw _ _ hRep⟩)
  (by
   rintro k hk h0 j hj ho
   simp at hk
   subst hk
   rcases hb2 with hge | hb2
   ·have:=(hs.own_not_D (.inl ⟨j,ho⟩)).2;omega
   ·exact hj (hs.inj j id _ ho hb2))
  (by
   intro k hk h0 hlt
   simp at hk
   subst hk
   rcases hb2 with hge | hb2
   ·omega
   ·exact .inl ⟨id,hb2⟩)
 refine⟨.ret (.own id (ver+1) n'),_,_,?_,hput.1,hput.2.1,hfr,fun k hk=>?_,_,_,hR,rfl,rfl⟩
 ·simp only[EndR,Rep];exact⟨_,_,by simp[Gh.add],hn',hcm2,rfl⟩
 ·rcases hput.2.2 k hk with ho | ⟨hk1,hk2⟩
  ·exact .inl ho
  ·simp at hk1
   subst hk1
   exact hb2.elim .inr fun ho=>.inl (.inl ⟨id,ho⟩)
variable {h0 h h' : AH} {q : List (List Nat)} {rest : List AOper} {tc : List (Bool × List Nat)} {T T' : List AV} {K : List AV → AH → Prop} {d : Option Nat} {c : AV}
theorem u_callW {f:FuncId}{xs:List Operand}{as1:List AV}{id j:Nat}{e ej e2:Ent}(hx:xs.map (Zab T)=as1) (he:h[id]?=some e) (hj:h[j]?=some ej) (hc : ∀ h,h[id]?=some e→h[j]?=some ej→ACalls P f as1 h fun r h'=>r=.ret c∧h'=h.set id e2) (hh : ∀ i∈q.headD [],ZfG (tc.getD i (false,[])) (false,[id,j])) (hs:h.set id e2=h') (hp:aPut T d c=T') (hk:Zbr P h0 q.tail rest (tc++[(false,[id,j])]) T' h' K):Zbr P h0 q (⟨d,none,.call (.func f) xs⟩::rest) tc T h K:=by
 subst hp hs hx
 unfold Zbr agd
 refine⟨fun _=>?_,fun h=>by cases h⟩
 exact .inr (.inr ⟨c,[(id,e),(j,ej)],id,e2,fun h hn=>⟨rfl,rfl,(hc h (hn (id,e) (by simp)) (hn (j,ej) (by simp))).mono fun r h' hr=>⟨hr.2,hr.1⟩⟩,fun p hp=>by simp at hp;rcases hp with rfl | rfl;exact he;exact hj,⟨e,by simp⟩,hh,hk⟩)
end
end
end Go.Ab
namespace Go.Proofs.YtfoipaclphdodaaGreatDoor
section
open Go.Ab Go.RowKit Go.Lib
theorem Zk2 : ∃ i z,Tryz.prog.info? 40=some i∧i.size=5∧i.bytes=72∧i.zero=some z∧z.cells.size=5 ∧ ∀ v∈z.cells.toList,v.oneCell'=true:=⟨_,_,rfl,rfl,rfl,rfl,rfl,by decide⟩
theorem Zdw:Tryz.prog.underlying 22=some (.slice 40):=by kernel_rfl
theorem ZkZ {a b:Nat}(h:a≤b):Nat.min a b=a:=Nat.min_eq_left h
theorem natmin_r {a b:Nat}(h:b≤a):Nat.min a b=b:=Nat.min_eq_right h
theorem ZqT {w:World}{ty st:Nat}{A:Option Addr}{cap n:Nat}{olds:List Value}(h:Zqw w ty st A cap olds) (hl:olds.length=n*st):cap=0 ∨ ∃ b arr,A=some ⟨b,0,none⟩∧w.heap[b]?=some (.cells arr ty (0,0))∧arr.size=cap*st∧arr.toList.take (n*st)=olds:=by
 rcases h with ⟨h0,_⟩ | ⟨b,arr,h0,e,hb,hs,hle,ht⟩
 ·exact .inl h0
 ·exact .inr ⟨b,arr,e,hb,hs,by rw[←hl];exact ht⟩
theorem Zq1 (A:Option Addr) (n cap vb vc:Nat) (w:World) (olds news:List Value) (hA:Zqw w 40 5 A cap olds) (hl:olds.length=n*5) (hn:n≤cap) (hcm:cap≤maxLen) (hvl:news.length=5)
  (hvs : ∀ j v,news[j]?=some v→w.cell? ⟨vb,j,none⟩=some v) (h1v : ∀ v∈news,v.oneCell'=true) (hbig:n≤3000000000000) :
  Calls Tryz.prog 210 #[.slice A n cap,.int .i64 n,.slice (some ⟨vb,0,none⟩) 1 vc] w fun e w' => ∃ A2 cap2,e=.returned (.slice A2 (n+1) cap2)∧n+1≤cap2∧cap2≤maxLen∧Zv3 w 40 5 A cap A2 cap2 (olds++news) w':=by
 obtain⟨i0,z,hi0,hsz,hby,hz,hzs,hz1⟩:=Zk2
 have hf : ∀ w':World,(∀ a,w'.cell? a=w.cell? a)→(Builtin.firstCells i0.size 1 (.slice (some ⟨vb,0,none⟩) 1 vc)).run Tryz.prog w'=.ok news.toArray w':=fun w' hw=>by
  rw[hsz]
  exact run_firstCells_some w' 5 1 ⟨vb,0,none⟩ 1 vc news (by rw[hvl]) (fun j v hj=>by rw[Addr.add_lit,hw,Nat.zero_add];exact hvs j v hj)
 have happ : ∀ ty,∃ A2 cap2 w',(Builtin.append_ #[22,22] ty #[.slice A n cap,.slice (some ⟨vb,0,none⟩) 1 vc]).run Tryz.prog w=.ok (.slice A2 (n+1) cap2) w'∧n+1≤cap2∧cap2≤maxLen∧Zv3 w 40 5 A cap A2 cap2 (olds++news) w':=fun ty=>by
  obtain⟨A2,cap2,w',k1,k2,k3,k4,k5⟩:=ZdQ (P:=Tryz.prog) w 22 22 ty 40 i0 z (.slice 40) Zdw Zdw (.inl rfl) hi0 hz (by rw[hzs,hsz]) A n cap olds (by rw[hsz];exact hl) hn hcm (by rw[hsz];exact ZqT hA hl)
   (.slice (some ⟨vb,0,none⟩) 1 vc) 1 news (by rw[hsz,hvl]) h1v (fun w'=>by simp[Builtin.lenOf]) (hf w fun _=>rfl) (hf w.drew fun _=>rfl) (by simp only[maxLen];omega) (.inr (by rw[hby];omega))
  refine⟨A2,cap2,w',k1,k2,k3,?_,k4.os,k4.tape,k4.output,k4.size,fun k hk hne=>k4.block k hk ?_⟩
  ·rcases k5 with h0 | ⟨b',arr',e,h0,hb,hs,ht,hor⟩
   ·omega
   ·rw[hsz] at hs ht
    have hlen:(olds++news).length=(n+1)*5:=by rw[List.length_append,hl,hvl];omega
    exact⟨b',arr',h0,e,hb,hs,by rw[hlen,hs];exact Nat.mul_le_mul_right _ k2,by rw[hlen];exact ht,hor⟩
  ·split
   ·simp
   ·rename_i h0;exact (hne h0).symm
 have mixed:Tryz.prog.follows .mixedOrders=true:=by kernel_rfl
 obtain⟨A2,cap2,w',hrun,k2,k3,k4⟩:=happ 22
 have u0:=run_underlying (P:=Tryz.prog) Zdw
 clear happ hf
 cases A with
 | none =>
  obtain rfl:n=0:=by
   rcases hA with ⟨h0,_⟩ | ⟨b,arr,_,e,_⟩
   ·omega
   ·cases e
  go_enter Tryz.func210,Tryz.ntmps210
  go_wp2_with (at_builtin;refine Lib.wpList_append_run _ rfl _ _ _ _ rfl _ _ rfl rfl _ _ hrun ?_)
  all_goals (go_ret;first | exact⟨_,_,rfl,k2,k3,k4⟩ | (subst_vars;exact⟨_,_,rfl,k2,k3,k4⟩))
 | some a =>
  obtain⟨ab,ao,asp⟩:=a
  go_enter Tryz.func210,Tryz.ntmps210
  go_wp2_with (at_builtin;refine Lib.wpList_append_run _ rfl _ _ _ _ rfl _ _ rfl rfl _ _ hrun ?_)
  all_goals (go_ret;first | exact⟨_,_,rfl,k2,k3,k4⟩ | (subst_vars;exact⟨_,_,rfl,k2,k3,k4⟩))
theorem ZnO (b n cap i vb vc:Nat) (w:World) (arr:Array Value) (olds news:List Value) (hb:w.heap[b]?=some (.cells arr 40 (0,0))) (hsz:arr.size=cap*5) (hol:olds.length=n*5) (htk:arr.toList.take (n*5)=olds) (h1o : ∀ v∈olds,v.oneCell'=true)
  (hi:i<n) (hroom:n+1≤cap) (hcm:cap≤maxLen) (hvl:news.length=5) (hvb:vb≠b)
  (hvs : ∀ j v,news[j]?=some v→w.cell? ⟨vb,j,none⟩=some v) (h1v : ∀ v∈news,v.oneCell'=true) (tA:TypeId) (kA:Nat) (hsa:w.shape? vb=some (tA,kA)) (hfa:w.frozen? ⟨vb,0,none⟩=false) (hfe:w.frozen? ⟨vb,kA,none⟩=false) :
  Calls Tryz.prog 210 #[.slice (some ⟨b,0,none⟩) n cap,.int .i64 i,.slice (some ⟨vb,0,none⟩) 1 vc] w fun e w'=>e=.returned (.slice (some ⟨b,0,none⟩) (n+1) cap)∧w'=(w.drew.setCells b ((i+1)*5) (olds.drop (i*5))).setCells b (i*5) news:=by
 obtain⟨i0,z,hi0,hs5,hby,hz,hzs,hz1⟩:=Zk2
 have hsz5:(Tryz.prog.info? 40).map (·.size)=some 5:=by rw[hi0];exact congrArg some hs5
 have hcell : ∀ j,j<arr.size→(w.cell? ⟨b,j,none⟩).isSome=true:=fun j hj=>by rw[cell_of_row w b j arr 40 (0,0) hb,Array.getElem?_eq_getElem hj];rfl
 have hfz : ∀ j,w.frozen? ⟨b,j,none⟩=false:=fun j=>frozen_of_row w b j arr 40 hb
 have hcs : ∀ j v,olds[j]?=some v→w.cell? ⟨b,j,none⟩=some v:=fun j v hj=>by
  rw[cell_of_row w b j arr 40 (0,0) hb,←Array.getElem?_toList]
  rw[←htk,List.getElem?_take] at hj
  split at hj
  ·exact hj
  ·cases hj
 have u0:=run_underlying (P:=Tryz.prog) Zdw
 have hov : ∀ lb cb,(callFunc 262 #[.slice (some ⟨vb,0,none⟩) 1 vc,.slice (some ⟨b,(i+1)*5,none⟩) lb cb]).run Tryz.prog w=.ok (.value (.bool false)) w:=fun lb cb=>by
  rw[run_callFunc_extern Tryz.func262 (by kernel_rfl) (by kernel_rfl) (by kernel_rfl) (e:=Extern.SlicesOverlaps.overlaps #[22,22] #[4]) (by kernel_rfl),
   Lib.run_overlaps_apart w 22 4 40 Zdw 5 (fun w=>by simp[Go.sizeOf,typeInfo,hi0,hs5]) ⟨vb,0,none⟩ ⟨b,(i+1)*5,none⟩ 1 vc lb cb hvb tA 40 kA arr.size hsa (by simp[World.shape?,hb]) (by rw[hsz];omega) hfa hfe]
  rfl
 have hdl:(olds.drop (i*5)).length=(n-i)*5:=by rw[List.length_drop,hol];omega
 have mixed:Tryz.prog.follows .mixedOrders=true:=by kernel_rfl
 have hw1:IntKind.i64.wrap ((i:Int)+1)=(i:Int)+1:=by rw[IntKind.wrap_i64];unfold maxLen at hcm;omega
 have hw2:IntKind.i64.wrap ((n:Int)+1)=(n:Int)+1:=by rw[IntKind.wrap_i64];unfold maxLen at hcm;omega
 have hb1:(0:Int)≤(i:Int)+1:=by omega
 have hin:i≤n:=by omega
 have htn:((i:Int)+1).toNat=i+1:=by omega
 have htn2:((n:Int)+1).toNat=n+1:=by omega
 have hz2:¬((i:Int)=(n:Int)):=by omega
 have hz3:¬((cap:Int)<(n:Int)+1):=by omega
 have hb2:¬(cap=i+1):=by omega
 have hb3:(i:Int)≤(n:Int)+1:=by omega
 have hb4:¬(cap=i):=by omega
 have hc63:cap≤9223372036854775807:=by unfold maxLen at hcm;omega
 have hcp1 : ∀ ty dc sc,(Builtin.copy_ #[22,22] ty #[.slice (some ⟨b,(i+1)*5,none⟩) (n+1-(i+1)) dc,.slice (some ⟨b,i*5,none⟩) (n+1-i) sc]).run Tryz.prog w.drew=.ok (goInt (Nat.min (n+1-i) (n+1-(i+1)))) (w.drew.setCells b ((i+1)*5) (olds.drop (i*5))):=fun ty dc sc =>
  Zdm w.drew _ _ ty 40 5 b ((i+1)*5) (n+1-(i+1)) dc ⟨b,i*5,none⟩ (n+1-i) sc (olds.drop (i*5)) Zdw hsz5 (by rw[hdl,natmin_r om];omega)
   (fun j v hj=>by rw[Addr.add_lit];exact hcs (i*5+j) v (by rwa [List.getElem?_drop] at hj))
   (fun j hj=>hcell _ (by rw[hdl] at hj;rw[hsz];omega)) (fun j hj=>hfz _) (fun v hv=>h1o v (List.mem_of_mem_drop hv))
 obtain⟨W1,hW1⟩ : ∃ W1,W1=w.drew.setCells b ((i+1)*5) (olds.drop (i*5)):=⟨_,rfl⟩
 have hsp1 : ∀ k,k<arr.size→(W1.cell? ⟨b,k,none⟩).isSome=true:=fun k hk=>by
  rw[hW1]
  exact isSome_setCells b _ _ w.drew (fun j hj=>hcell ((i+1)*5+j) (by rw[hdl] at hj;rw[hsz];omega)) _ (hcell k hk)
 have hcp2 : ∀ (W:World),(∀ x,W.cell? x=W1.cell? x)→(∀ x,W.frozen? x=W1.frozen? x) → ∀ ty dc,(Builtin.copy_ #[22,22] ty #[.slice (some ⟨b,i*5,none⟩) (n+1-i) dc,.slice (some ⟨vb,0,none⟩) 1 vc]).run Tryz.prog W=.ok (goInt (Nat.min 1 (n+1-i))) (W.setCells b (i*5) news):=fun W hWc hWf ty dc =>
  Zdm W _ _ ty 40 5 b (i*5) (n+1-i) dc ⟨vb,0,none⟩ 1 vc news Zdw hsz5 (by rw[hvl,ZkZ om])
   (fun j v hj=>by
    rw[Addr.add_lit,hWc,hW1,World.cell?_setCells_out b _ _ _ _ (fun h _=>absurd h hvb),Nat.zero_add]
    exact hvs j v hj)
   (fun j hj=>by rw[hWc];exact hsp1 _ (by rw[hvl] at hj;rw[hsz];omega)) (fun j hj=>by rw[hWf,hW1,World.frozen?_setCells];exact hfz _) h1v
 rw[←hW1] at hcp1
 clear hcs hcell hdl hsp1 hfz htk
 go_enter Tryz.func210,Tryz.ntmps210
 go_wp2_with (simp only[hov])
 go_region_law_o (refine step_copy_runI rfl _ _ 22 22 rfl (.slice (some ⟨b,(i+1)*5,none⟩) (n+1-(i+1)) (cap-(i+1))) (.slice (some ⟨b,i*5,none⟩) (n+1-i) (cap-i)) (by simp[Act.eval,Act.put]) (by simp[Act.eval,Act.put]) (hcp1 3 (cap-(i+1)) (cap-i)) ?_)
 go_wp2_with (at_builtin;refine wpList_copy_runI _ rfl _ _ 22 22 rfl _ _ rfl rfl (hcp2 _ (fun _=>rfl) (fun _=>rfl) _ _) ?_)
 go_ret
 exact⟨rfl,rfl⟩
theorem ZnP (b n i vb vc:Nat) (w:World) (arr:Array Value) (olds news:List Value) (hb:w.heap[b]?=some (.cells arr 40 (0,0))) (hol:olds.length=n*5) (htk:arr.toList.take (n*5)=olds) (h1o : ∀ v∈olds,v.oneCell'=true)
    (hi:i<n) (hbig:n≤2000000000000) (hvl:news.length=5)
    (hvs : ∀ j v,news[j]?=some v→w.cell? ⟨vb,j,none⟩=some v) (h1v : ∀ v∈news,v.oneCell'=true) :
    Calls Tryz.prog 210 #[.slice (some ⟨b,0,none⟩) n n,.int .i64 i,.slice (some ⟨vb,0,none⟩) 1 vc] w fun e w' => ∃ (G:Nat) (ROW:Array Value),e=.returned (.slice (some ⟨w.heap.size,0,none⟩) (n+1) G)∧n+1≤G∧G≤maxLen∧ROW.size=G*5∧ROW.toList.take (i*5)=olds.take (i*5) ∧
      w'=(((w.alloc (.cells ROW 40)).drew.setCells w.heap.size (i*5) news).drew).setCells w.heap.size ((i+1)*5) (olds.drop (i*5)):=by
  obtain⟨i0,z,hi0,hs5,hby,hz,hzs,hz1⟩:=Zk2
  have hsz5:(Tryz.prog.info? 40).map (·.size)=some 5:=by rw[hi0];exact congrArg some hs5
  have hcs : ∀ j v,olds[j]?=some v→w.cell? ⟨b,j,none⟩=some v:=fun j v hj=>by
    rw[cell_of_row w b j arr 40 (0,0) hb,←Array.getElem?_toList]
    rw[←htk,List.getElem?_take] at hj
    split at hj
    · exact hj
    · cases hj
  have u0:=run_underlying (P:=Tryz.prog) Zdw
  have u1:Tryz.prog.underlying 3=some (.int .i64):=by kernel_rfl
  have hbw:b<w.heap.size:=(Array.getElem?_eq_some_iff.1 hb).1
  have hvw:vb<w.heap.size:=block_lt_of_cell (hvs 0 _ (List.getElem?_eq_getElem om))
  have hik:i+(n+1-i)=n+1:=by omega
  have hkk:(n:Int)+1-(i:Int)=((n+1-i:Nat):Int):=by omega
  have hold:(Builtin.firstCells i0.size i (.slice (some ⟨b,0,none⟩) i n)).run Tryz.prog w.drew=.ok (olds.take (i*5)).toArray w.drew:=by
    rw[hs5]
    exact run_firstCells_some w.drew 5 i ⟨b,0,none⟩ i n (olds.take (i*5)) (by rw[List.length_take,hol];omega) (fun j v hj=>by
      rw[Addr.add_lit,Nat.zero_add]
      rw[List.getElem?_take] at hj
      split at hj
      · exact hcs j v hj
      · cases hj)
  have hrz : ∀ ty, (Builtin.append_ #[22, 3] ty #[.slice (some ⟨b, 0, none⟩) i n, .int .i64 ((n : Int) + 1 - (i : Int))]).run Tryz.prog w =
      .ok (.slice (some ⟨w.heap.size,0,none⟩) (n+1) (grownCap w (n+1) n 40)) (w.drew.alloc (.cells ((olds.take (i*5)).toArray++Builtin.zeroCells z.cells (n+1-i)++Builtin.zeroCells z.cells (grownCap w (n+1) n 40-(n+1))) 40)):=fun ty=>by
    have h:=Lib.run_append_grow_zeros w 22 3 ty 40 i0 z .i64 .i64 Zdw u1 hi0 hz (some ⟨b,0,none⟩) i n (olds.take (i*5)) hold (n+1-i) om (by rw[hs5];omega) om om (by rw[hby];omega) (by rw[hby,hik];exact growslice_fits_wide om om)
    rw[hik] at h
    rw[hkk]
    exact h
  have hGn:n+1≤grownCap w (n+1) n 40:=grownCap_ge w _ _ _
  have hGm:grownCap w (n+1) n 40≤maxLen:=grownCap_le_maxLen w (n+1) n 40 (by unfold maxLen;omega)
  obtain⟨G,hG⟩ : ∃ G,G=grownCap w (n+1) n 40:=⟨_,rfl⟩
  rw[←hG] at hrz hGn hGm
  obtain⟨ROW,hROW⟩ : ∃ ROW:Array Value,ROW=(olds.take (i*5)).toArray++Builtin.zeroCells z.cells (n+1-i)++Builtin.zeroCells z.cells (G-(n+1)):=⟨_,rfl⟩
  rw[←hROW] at hrz
  have hRs:ROW.size=G*5:=by
    rw[hROW]
    simp only[Array.size_append,size_zeroCells,hzs,List.size_toArray,List.length_take,hol]
    omega
  have hRt:ROW.toList.take (i*5)=olds.take (i*5):=by
    rw[hROW,Array.append_assoc,Array.toList_append]
    rw[List.take_append_of_le_length (by simp only[List.toList_toArray,List.length_take,hol];omega)]
    simp only[List.toList_toArray,List.take_take,Nat.min_self]
  obtain⟨W1,hW1⟩ : ∃ W1,W1=w.drew.alloc (.cells ROW 40):=⟨_,rfl⟩
  rw[←hW1] at hrz
  have hN : ∀ j,j<(n+1)*5→(W1.cell? ⟨w.heap.size,j,none⟩).isSome=true:=fun j hj=>by
    rw[hW1,World.cell?_alloc_at (w:=w.drew) ROW _ w.heap.size j rfl,Array.getElem?_eq_getElem om];rfl
  have hNf : ∀ j,W1.frozen? ⟨w.heap.size,j,none⟩=false:=fun j=>by rw[hW1];exact World.frozen?_alloc_at (w:=w.drew) ROW _ w.heap.size j rfl
  have hOb : ∀ j v,w.cell? ⟨b,j,none⟩=some v→W1.cell? ⟨b,j,none⟩=some v:=fun j v h=>by rw[hW1,World.cell?_alloc_past (w:=w.drew) _ b j hbw];exact h
  have hOv : ∀ j v,w.cell? ⟨vb,j,none⟩=some v→W1.cell? ⟨vb,j,none⟩=some v:=fun j v h=>by rw[hW1,World.cell?_alloc_past (w:=w.drew) _ vb j hvw];exact h
  have hdl:(olds.drop (i*5)).length=(n-i)*5:=by rw[List.length_drop,hol];omega
  have hbN:b≠w.heap.size:=by omega
  have hcpA : ∀ (W:World),(∀ x,W.cell? x=W1.cell? x)→(∀ x,W.frozen? x=W1.frozen? x) → ∀ ty dc,(Builtin.copy_ #[22,22] ty #[.slice (some ⟨w.heap.size,i*5,none⟩) (n+1-i) dc,.slice (some ⟨vb,0,none⟩) 1 vc]).run Tryz.prog W=.ok (goInt (Nat.min 1 (n+1-i))) (W.setCells w.heap.size (i*5) news):=fun W hWc hWf ty dc =>
    Zdm W _ _ ty 40 5 w.heap.size (i*5) (n+1-i) dc ⟨vb,0,none⟩ 1 vc news Zdw hsz5 (by rw[hvl,ZkZ om])
      (fun j v hj=>by rw[Addr.add_lit,hWc,Nat.zero_add];exact hOv _ v (hvs j v hj))
      (fun j hj=>by rw[hWc];exact hN _ om) (fun j hj=>by rw[hWf];exact hNf _) h1v
  have hcpB : ∀ (W:World),(∀ x,W.cell? x=(W1.setCells w.heap.size (i*5) news).cell? x)→(∀ x,W.frozen? x=(W1.setCells w.heap.size (i*5) news).frozen? x) → ∀ ty dc sc,(Builtin.copy_ #[22,22] ty #[.slice (some ⟨w.heap.size,(i+1)*5,none⟩) (n+1-(i+1)) dc,.slice (some ⟨b,i*5,none⟩) (n-i) sc]).run Tryz.prog W=.ok (goInt (Nat.min (n-i) (n+1-(i+1)))) (W.setCells w.heap.size ((i+1)*5) (olds.drop (i*5))):=fun W hWc hWf ty dc sc =>
    Zdm W _ _ ty 40 5 w.heap.size ((i+1)*5) (n+1-(i+1)) dc ⟨b,i*5,none⟩ (n-i) sc (olds.drop (i*5)) Zdw hsz5 (by rw[hdl,ZkZ om])
      (fun j v hj=>by
        rw[Addr.add_lit,hWc,World.cell?_setCells_out _ _ _ _ _ (fun h _=>absurd h hbN)]
        exact hOb _ v (hcs (i*5+j) v (by rwa [List.getElem?_drop] at hj)))
      (fun j hj=>by rw[hWc];exact isSome_setCells _ _ _ _ (fun t ht=>hN _ om) _ (hN _ om))
      (fun j hj=>by rw[hWf,World.frozen?_setCells];exact hNf _) (fun v hv=>h1o v (List.mem_of_mem_drop hv))
  subst hW1
  have hE1 : ∀ x,((w.alloc (.cells ROW 40)).drew).cell? x=(w.drew.alloc (.cells ROW 40)).cell? x:=fun x=>rfl
  have hE2 : ∀ x,((w.alloc (.cells ROW 40)).drew).frozen? x=(w.drew.alloc (.cells ROW 40)).frozen? x:=fun x=>rfl
  have hF1 : ∀ x,(((w.alloc (.cells ROW 40)).drew.setCells w.heap.size (i*5) news).drew).cell? x=((w.drew.alloc (.cells ROW 40)).setCells w.heap.size (i*5) news).cell? x:=fun x=>rfl
  have hF2 : ∀ x,(((w.alloc (.cells ROW 40)).drew.setCells w.heap.size (i*5) news).drew).frozen? x=((w.drew.alloc (.cells ROW 40)).setCells w.heap.size (i*5) news).frozen? x:=fun x=>rfl
  have mixed:Tryz.prog.follows .mixedOrders=true:=by kernel_rfl
  have hc63:G≤9223372036854775807:=by unfold maxLen at hGm;omega
  have hw1:IntKind.i64.wrap ((i:Int)+1)=(i:Int)+1:=by rw[IntKind.wrap_i64];omega
  have hw2:IntKind.i64.wrap ((n:Int)+1)=(n:Int)+1:=by rw[IntKind.wrap_i64];omega
  have hw3:IntKind.i64.wrap ((n:Int)+1-(i:Int))=(n:Int)+1-(i:Int):=by rw[IntKind.wrap_i64];omega
  have hb1:(0:Int)≤(i:Int)+1:=by omega
  have hin:i≤n:=by omega
  have htn:((i:Int)+1).toNat=i+1:=by omega
  have hz2:¬((i:Int)=(n:Int)):=by omega
  have hz3:(n:Int)<(n:Int)+1:=by omega
  have hb3:(i:Int)≤(n:Int):=by omega
  have hGi:¬(G=i):=by omega
  have hGim:¬(G=i+1):=by omega
  have hci:¬(n=i):=by omega
  clear hkk hik hold hROW hG hcs hN hNf hOb hOv hdl htk
  go_enter Tryz.func210,Tryz.ntmps210
  go_wp2_with (first
    | (at_builtin;refine Lib.wpList_append_run _ rfl _ _ _ _ rfl _ _ rfl rfl _ _ (hrz _) ?_)
    | (at_builtin;refine wpList_copy_runI _ rfl _ _ 22 22 rfl _ _ rfl rfl (hcpA _ hE1 hE2 _ _) ?_)
    | (at_builtin;refine wpList_copy_runI _ rfl _ _ 22 22 rfl _ _ rfl rfl (hcpB _ (fun _=>rfl) (fun _=>rfl) _ _ _) ?_))
  go_region_law_o (refine step_copy_runI rfl _ _ 22 22 rfl (.slice (some ⟨w.heap.size,(i+1)*5,none⟩) (n+1-(i+1)) (G-(i+1))) (.slice (some ⟨b,i*5,none⟩) (n-i) (n-i)) (by simp[Act.eval,Act.put]) (by simp[Act.eval,Act.put]) (hcpB _ hF1 hF2 3 (G-(i+1)) (n-i)) ?_)
  go_wp2
  go_ret
  exact⟨G,ROW,rfl,hGn,hGm,hRs,hRt,rfl⟩
end
section
open Go.Ab Go.RowKit Go.Lib Civ
theorem ZnN (b:Nat) (vs:List Value) (o:Nat) (w:World) (h : ∀ j,j<vs.length→(w.cell? ⟨b,o+j,none⟩).isSome=true) (k:Nat) (hk:(w.cell? ⟨b,k,none⟩).isSome=true):((w.setCells b o vs).cell? ⟨b,k,none⟩).isSome=true:=by
 by_cases hin:o≤k∧k<o+vs.length
 ·have:=World.cell?_setCells_in b vs o w h (k-o) om
  rw[show o+(k-o)=k by omega] at this
  rw[this];rfl
 ·rw[World.cell?_setCells_out b vs o w ⟨b,k,none⟩ (fun _ _=>by show k<o∨o+vs.length≤k;omega)]
  exact hk
theorem delete_w (b n cap i j:Nat) (w:World) (news zs:List Value) (hij:i<j) (hjn:j≤n) (hcap:n≤cap) (hm:cap≤9223372036854775807)
  (hnl:news.length=(n-j)*5) (hsrc : ∀ t u,news[t]?=some u→w.cell? ⟨b,j*5+t,none⟩=some u) (h1 : ∀ u∈news,u.oneCell'=true)
  (hc : ∀ j,j<n*5→(w.cell? ⟨b,j,none⟩).isSome=true) (hf : ∀ j,j<n*5→w.frozen? ⟨b,j,none⟩=false) :
  Calls Tryz.prog 209 #[.slice (some ⟨b,0,none⟩) n cap,.int .i64 i,.int .i64 (j:Int)] w fun e w'=>e=.returned (.slice (some ⟨b,0,none⟩) (n-(j-i)) cap) ∧ ∃ Z:List Value,Z.length=(j-i)*5∧(∀ v∈Z,v.oneCell'=true)∧w'=(w.drew.setCells b (i*5) news).setCells b ((n-(j-i))*5) Z:=by
 obtain⟨i0,hi0,hz1⟩ : ∃ i0,Tryz.prog.info? 40=some i0∧i0.size=5:=⟨_,rfl,rfl⟩
 obtain⟨A,hA,s2⟩ : ∃ A:Addr,Hid ((if cap=j then some (⟨b,0,none⟩:Addr) else some ⟨b,j*5,none⟩)=some A)∧Hid (∀ t u,news[t]?=some u→w.drew.cell? (A.add t)=some u):=by
  by_cases h:cap=j
  ·refine⟨⟨b,0,none⟩,by simp[Hid,h],fun t u hu=>?_⟩
   have h0:news.length=0:=by rw[hnl];omega
   rw[List.length_eq_zero_iff.1 h0] at hu
   simp at hu
  ·exact⟨⟨b,j*5,none⟩,by simp[Hid,h],fun t u hu=>by rw[Addr.add_lit];exact hsrc t u hu⟩
 have s1:Hid (news.length=(n-j)*5):=hnl
 have s3:Hid (∀ t,t<news.length→(w.drew.cell? ⟨b,0+i*5+t,none⟩).isSome=true∧w.drew.frozen? ⟨b,0+i*5+t,none⟩=false):=by
  intro t ht
  rw[hnl] at ht
  rw[Nat.zero_add]
  exact⟨hc _ om,hf _ om⟩
 obtain⟨W1,hW1⟩ : ∃ W1,W1=w.drew.setCells b (0+i*5) news:=⟨_,rfl⟩
 have hW:Hid (W1=w.drew.setCells b (0+i*5) news):=hW1
 obtain⟨z,hz,hzc⟩ : ∃ z:Value,(∀ w,(zeroValue 40).run Tryz.prog w=.ok z w)∧z.cells = #[.string ⟨#[]⟩,.int .i64 0,.int .i64 0,.string ⟨#[]⟩,.slice none 0 0]:=⟨.agg #[.string ⟨#[]⟩,.int .i64 0,.int .i64 0,.string ⟨#[]⟩,.slice none 0 0],fun w=>rfl,rfl⟩
 have hzs:z.cells.size=5:=by rw[hzc];rfl
 have hz1c : ∀ v∈(Builtin.zeroCells z.cells (n-(i+(n-j)))).toList,v.oneCell'=true:=fun v hv=>by
  rw[hzc] at hv
  simp[Builtin.zeroCells] at hv
  obtain⟨k,_,rfl⟩:=hv
  have:=Nat.mod_lt k (show 0<5 by omega)
  generalize k%5=q at this
  match q,this with
  | 0,_=>rfl
  | 1,_=>rfl
  | 2,_=>rfl
  | 3,_=>rfl
  | 4,_=>rfl
 have hcl : ∀ ty,(Builtin.clear_ #[22] ty #[.slice (some ⟨b,(i+(n-j))*5,none⟩) (n-(i+(n-j))) (cap-(i+(n-j)))]).run Tryz.prog W1=.ok (.tuple #[]) (W1.setCells b ((i+(n-j))*5) (Builtin.zeroCells z.cells (n-(i+(n-j)))).toList):=fun ty=>by
  refine Zja W1 22 40 ty z (by kernel_rfl) hz b _ _ _ om (fun t ht=>?_) (fun t ht=>?_) (fun v hv=>?_)
  ·rw[hzs] at ht
   rw[hW1]
   exact ZnN b _ _ _ (fun u hu=>by rw[hnl] at hu;rw[Nat.zero_add];exact hc _ om) _ (hc _ om)
  ·rw[hzs] at ht
   rw[hW1,World.frozen?_setCells]
   exact hf _ om
  ·exact hz1c v hv
 obtain⟨Z,hZ⟩ : ∃ Z,Z=(Builtin.zeroCells z.cells (n-(i+(n-j)))).toList:=⟨_,rfl⟩
 rw[←hZ] at hcl hz1c
 have hZ1:Hid (∀ v∈Z,v.oneCell'=true):=hz1c
 have hZ':Hid (Z.length=(j-i)*5):=by rw[show j-i=n-(i+(n-j)) by omega,hZ,Array.length_toList,size_zeroCells,hzs];exact rfl
 have hcl':Hid (∀ ty,(Builtin.clear_ #[22] ty #[.slice (some ⟨b,(i+(n-j))*5,none⟩) (n-(i+(n-j))) (cap-(i+(n-j)))]).run Tryz.prog W1=.ok (.tuple #[]) (W1.setCells b ((i+(n-j))*5) Z)):=hcl
 have mixed:Tryz.prog.follows .mixedOrders=true:=by kernel_rfl
 have hic:i≤cap:=by omega
 have hjc:j≤cap:=by omega
 have hne:¬((i:Int)=(j:Int)):=by omega
 rw[show n-(j-i)=i+(n-j) by omega]
 clear hc hf hsrc hW1 hcl hzc hzs hz hZ hz1c
 go_enter Tryz.func209,Tryz.ntmps209
 go_wp2_with fail
 go_region_law_o (refine step_append_room rfl (.tmp 22) (.tmp 25) 22 rfl 40 i0 5 (by kernel_rfl) hi0 hz1 b 0 i cap (by simp[Act.eval,Act.put]) A (n-j) (cap-j) news (by simp[Act.eval,Act.put,hA.out]) s1.out s2.out h1 om s3.out ?_;rw[←hW.out])
 go_wp2_with (simp only[hcl'.out])
 all_goals go_ret
 all_goals exact⟨rfl,Z,hZ'.out,hZ1.out,by rw[hW.out,Nat.zero_add]⟩
end
section
open Go.Ab Go.RowKit Go.Lib Civ
theorem Zf5 {α:Type}{f:α→List AV}{k:Nat}(hf : ∀ x,(f x).length=k) : ∀ (l:List α) (i:Nat),i<l.length→rows f (l.eraseIdx i)=(rows f l).take (i*k)++(rows f l).drop ((i+1)*k)
 | [],i,h=>by simp at h
 | x::l,0,h=>by
  show rows f l=_
  have:rows f (x::l)=f x++rows f l:=rfl
  rw[this,Nat.zero_mul,List.take_zero,List.nil_append,Nat.zero_add,Nat.one_mul,List.drop_left' (hf x)]
 | x::l,i+1,h=>by
  show f x++rows f (l.eraseIdx i)=_
  have:rows f (x::l)=f x++rows f l:=rfl
  have e1:(i+1)*k=(f x).length+i*k:=by rw[hf,Nat.add_mul];omega
  have e2:(i+1+1)*k=(f x).length+(i+1)*k:=by rw[hf];simp only[Nat.add_mul];omega
  rw[this,Zf5 hf l i (by simpa using h),e2,List.drop_length_add_append,e1,List.take_length_add_append,List.append_assoc]
theorem delete_a {l:List Nam}{id v ty i:Nat}{h:AH}(he:h[id]?=some (.mk v ty 5 (rows namC l))) (hi:i<l.length) :
  ACalls Tryz.prog 209 [.own id v l.length,iv i,iv ((i:Int)+1)] h fun x h'=>x=.ret (.own id v (l.length-1))∧h'=h.set id (.mk v ty 5 (rows namC (l.eraseIdx i))):=by
 have hlen:=ZbF l
 rw[show ((i:Int)+1)=((i+1:Nat):Int) by omega]
 refine (ACalls.of_turnS (R':=fun n' cs=>n'=l.length-1∧cs=rows namC (l.eraseIdx i)) (by kernel_rfl) he ?_ ?_).mono ?_
 ·intro e
  have:=congrArg List.length e
  rw[hlen] at this;simp at this;omega
 ·intro w g vs b cap arr hs ha hloc hcm hb hsz hle hr
  simp only[RepL,Rep,hloc] at ha
  obtain⟨u1,us1,e1,⟨A,c,e2,hn1,hn2,rfl⟩,u2,us2,rfl,rfl,u3,us3,rfl,rfl,rfl⟩:=ha
  simp only[Option.some.injEq,Prod.mk.injEq] at e2
  obtain⟨rfl,rfl⟩:=e2
  obtain rfl:vs = #[.slice (some ⟨b,0,none⟩) l.length cap,.int .i64 i,.int .i64 ((i+1:Nat):Int)]:=by cases vs;simp_all
  have hone:=Zcj (ZpI l) hr
  rw[hlen] at hr hone hle
  obtain⟨news,hnews⟩ : ∃ news,news=(arr.toList.take (l.length*5)).drop ((i+1)*5):=⟨_,rfl⟩
  have hnl:news.length=(l.length-(i+1))*5:=by rw[hnews,List.length_drop,List.length_take,Array.length_toList (xs:=arr)];omega
  have h1 : ∀ u∈news,u.oneCell'=true:=fun u hu=>hone u (List.mem_of_mem_drop (hnews ▸ hu))
  have hcell : ∀ j,j<l.length*5→w.cell? ⟨b,j,none⟩=arr[j]?:=fun j hj=>cell_of_row w b j arr ty (0,0) hb
  refine (delete_w b l.length cap i (i+1) w news [] om om hn1 (by unfold maxLen at hcm;omega) hnl (fun t u hu=>?_) h1 (fun j hj=>?_) (fun j hj=>frozen_of_row w b j arr ty hb)).mono ?_
  ·rw[hnews,List.getElem?_drop,List.getElem?_take] at hu
   split at hu
   ·rename_i hlt
    rw[hcell _ hlt,←Array.getElem?_toList];exact hu
   ·cases hu
  ·rw[hcell j hj,Array.getElem?_eq_getElem om];rfl
  rintro e w' ⟨rfl,Z,hZ,hZ1,rfl⟩
  have hb1:w.drew.heap[b]?=some (.cells arr ty (0,0)):=hb
  rw[Zcv Tryz.prog b (i*5) ty news arr w.drew hb1 om h1]
  obtain⟨arr1,ha1⟩ : ∃ arr1,arr1=(arr.toList.take (i*5)++news++arr.toList.drop (i*5+news.length)).toArray:=⟨_,rfl⟩
  rw[←ha1]
  have hs1:arr1.size=arr.size:=by rw[ha1];simp only[List.size_toArray,List.length_append,List.length_take,List.length_drop,Array.length_toList];omega
  have hb2:=setRow_heap w.drew b arr arr1 ty (0,0) hb1
  rw[Zcv Tryz.prog b ((l.length-(i+1-i))*5) ty Z arr1 (w.drew.setRow b arr1) hb2 om hZ1]
  obtain⟨arr2,ha2⟩ : ∃ arr2,arr2=(arr1.toList.take ((l.length-(i+1-i))*5)++Z++arr1.toList.drop ((l.length-(i+1-i))*5+Z.length)).toArray:=⟨_,rfl⟩
  rw[←ha2]
  have hs2:arr2.size=arr1.size:=by rw[ha2];simp only[List.size_toArray,List.length_append,List.length_take,List.length_drop,Array.length_toList];omega
  have hlr:=Zf5 ZaL l i hi
  have hvl:(arr.toList.take (i*5)++news).length=(l.length-1)*5:=by rw[List.length_append,hnl,List.length_take,Array.length_toList (xs:=arr)];omega
  refine⟨l.length-1,rows namC (l.eraseIdx i),arr.toList.take (i*5)++news,arr2,by rw[show i+1-i=1 by omega],by omega,⟨rfl,rfl⟩,?_,setRow_heap _ b arr1 arr2 ty (0,0) hb2,by omega,by omega,?_,rfl,rfl,rfl,?_,fun k hk hkb=>?_⟩
  ·rw[hlr]
   refine RepL.append ?_ ?_
   ·have:=hr.take (i*5)
    rwa [List.take_take,Nat.min_eq_left om] at this
   ·rw[hnews];exact hr.drop ((i+1)*5)
  ·rw[hvl,ha2,ha1]
   simp only[List.toList_toArray]
   rw[show (l.length-(i+1-i))*5=(arr.toList.take (i*5)++news).length by rw[hvl];omega,List.take_left,List.append_assoc]
   rw[←hvl,List.take_left]
  ·simp[World.setRow]
  ·rw[setRow_other _ _ _ _ hkb,setRow_other _ _ _ _ hkb];rfl
 ·rintro x h' ⟨n',cs,⟨rfl,rfl⟩,rfl,rfl⟩
  exact⟨rfl,rfl⟩
end
section
open Go.Ab Go.RowKit Go.Lib Civ
theorem Zjz {α:Type}{f:α→List AV}{k:Nat}(hf : ∀ x,(f x).length=k) : ∀ (l:List α) (i:Nat) (x:α),i≤l.length→rows f (l.take i++x::l.drop i)=(rows f l).take (i*k)++f x++(rows f l).drop (i*k)
 | l,0,x,h=>by rw[Nat.zero_mul];rfl
 | [],i+1,x,h=>by simp at h
 | y::l,i+1,x,h=>by
  have ih:=Zjz hf l i x (by simpa using h)
  have e1:(i+1)*k=(f y).length+i*k:=by rw[hf,Nat.add_mul];omega
  show f y++rows f (l.take i++x::l.drop i)=_
  rw[ih]
  show _=(f y++rows f l).take _++f x++(f y++rows f l).drop _
  rw[e1,List.take_length_add_append,List.drop_length_add_append,List.append_assoc,List.append_assoc,List.append_assoc]
theorem insert_a {l:List Nam}{n:Nam}{id v j vj i:Nat}{h:AH}(he:h[id]?=some (.mk v 40 5 (rows namC l))) (hj:h[j]?=some (.mk vj 40 5 (namC n))) (hne:id≠j) (hi:i≤l.length) (hbig:l.length≤2000000000000) :
  ACalls Tryz.prog 210 [.own id v l.length,iv i,.own j vj 1] h fun x h'=>x=.ret (.own id (v+1) (l.length+1))∧h'=h.set id (.mk (v+1) 40 5 (rows namC (l.take i++n::l.drop i))):=by
 have hlen:=ZbF l
 refine (ACalls.of_turnG (R':=fun n' cs=>n'=l.length+1∧cs=rows namC (l.take i++n::l.drop i)) (by kernel_rfl) he ?_).mono ?_
 ·intro w g vs A cap olds hs ha hloc hcm hro hold how
  simp only[RepL,Rep,hloc] at ha
  obtain⟨u1,us1,e1,⟨A',c',e2,hn1,hn2,rfl⟩,u2,us2,rfl,rfl,u3,us3,rfl,⟨Aj,cj,fj,hnj,hmj,rfl⟩,rfl⟩:=ha
  simp only[Option.some.injEq,Prod.mk.injEq] at e2
  obtain⟨rfl,rfl⟩:=e2
  -- the one that is put lies in a row of its own
  obtain⟨A2,cap2,gj,_,g3⟩:=hs.ent _ _ _ _ _ hj
  rw[fj] at gj
  simp only[Option.some.injEq,Prod.mk.injEq] at gj
  obtain⟨rfl,rfl⟩:=gj
  rcases g3 with ⟨e0,_⟩ | ⟨vb,varr,rfl,hc0,hd,hvb,hvs,hvl,hrv⟩
  ·cases e0
  obtain rfl:vs = #[.slice A l.length cap,.int .i64 i,.slice (some ⟨vb,0,none⟩) 1 cj]:=by cases vs;simp_all
  have hol:olds.length=l.length*5:=by rw[hro.length,hlen]
  have h1o : ∀ u∈olds,u.oneCell'=true:=Zcj (ZpI l) hro
  obtain⟨news,hnews⟩ : ∃ news,news=varr.toList.take (namC n).length:=⟨_,rfl⟩
  rw[←hnews] at hrv
  have hn5:news.length=5:=hrv.length
  have h1v : ∀ u∈news,u.oneCell'=true:=Zcj (cs:=namC n) rfl hrv
  have hvc : ∀ k u,news[k]?=some u→w.cell? ⟨vb,k,none⟩=some u:=fun k u hk=>by
   rw[cell_of_row w vb k varr 40 (0,0) hvb,←Array.getElem?_toList]
   rw[hnews,List.getElem?_take] at hk
   split at hk
   ·exact hk
   ·cases hk
  have hrows:rows namC (l.take i++n::l.drop i)=(rows namC l).take (i*5)++namC n++(rows namC l).drop (i*5):=Zjz ZaL l i n hi
  have hrep:RepL w g (rows namC (l.take i++n::l.drop i)) (olds.take (i*5)++news++olds.drop (i*5)):=by
   rw[hrows];exact ((hro.take (i*5)).append hrv).append (hro.drop (i*5))
  have htl:(olds.take (i*5)).length=i*5:=by rw[List.length_take,hol];omega
  have hvne : ∀ b,cap≠0→A=some ⟨b,0,none⟩→vb≠b:=fun b h0 e hb=>by
   subst hb
   exact hne (hs.inj id j vb (how vb h0 (by rw[e];rfl)) ⟨vj,_,_,_,_,_,hj,fj,hc0,rfl⟩)
  by_cases hin:i=l.length
  ·subst hin
   refine (Zq1 A l.length cap vb cj w olds news hold hol hn1 hcm hn5 hvc h1v om).mono ?_
   rintro e w' ⟨A2,cap2,rfl,k2,k3,k4⟩
   have e2:olds.take (l.length*5)++news++olds.drop (l.length*5)=olds++news:=by rw[List.take_of_length_le om,List.drop_of_length_le om,List.append_nil]
   exact⟨_,_,_,A2,cap2,rfl,k2,k3,⟨rfl,rfl⟩,hrep,by rw[e2];exact k4⟩
  ·have hil:i<l.length:=by omega
   rcases hold with ⟨h0,_⟩ | ⟨b,arr,h0,rfl,hb,hsz,hle,htk⟩
   ·omega
   rw[hol] at htk
   by_cases hroom:l.length+1≤cap
   ·refine (ZnO b l.length cap i vb cj w arr olds news hb hsz hol htk h1o hil hroom hcm hn5 (hvne b h0 rfl) hvc h1v 40 varr.size (by simp[World.shape?,hvb]) (frozen_of_row w vb 0 varr 40 hvb) (frozen_of_row w vb varr.size varr 40 hvb)).mono ?_
    rintro e w' ⟨rfl,rfl⟩
    have hb1:w.drew.heap[b]?=some (.cells arr 40 (0,0)):=hb
    have hdl:(olds.drop (i*5)).length=(l.length-i)*5:=by rw[List.length_drop,hol];omega
    rw[Zcv Tryz.prog b ((i+1)*5) 40 (olds.drop (i*5)) arr w.drew hb1 om (fun u hu=>h1o u (List.mem_of_mem_drop hu))]
    obtain⟨arr1,ha1⟩ : ∃ arr1,arr1=(arr.toList.take ((i+1)*5)++olds.drop (i*5)++arr.toList.drop ((i+1)*5+(olds.drop (i*5)).length)).toArray:=⟨_,rfl⟩
    rw[←ha1]
    have hs1:arr1.size=arr.size:=by rw[ha1];simp only[List.size_toArray,List.length_append,List.length_take,List.length_drop,Array.length_toList];omega
    have hb2:=setRow_heap w.drew b arr arr1 40 (0,0) hb1
    rw[Zcv Tryz.prog b (i*5) 40 news arr1 (w.drew.setRow b arr1) hb2 om h1v]
    obtain⟨arr2,ha2⟩ : ∃ arr2,arr2=(arr1.toList.take (i*5)++news++arr1.toList.drop (i*5+news.length)).toArray:=⟨_,rfl⟩
    rw[←ha2]
    have hs2:arr2.size=arr1.size:=by rw[ha2];simp only[List.size_toArray,List.length_append,List.length_take,List.length_drop,Array.length_toList];omega
    have hat:arr.toList.length=arr.size:=Array.length_toList
    have h1t:arr1.toList.take (i*5)=olds.take (i*5):=by
     rw[ha1,List.toList_toArray,List.append_assoc,List.take_append_of_le_length (by rw[List.length_take,hat];omega),List.take_take,←htk,List.take_take]
     congr 1;omega
    have h1d:(arr1.toList.drop ((i+1)*5)).take ((l.length-i)*5)=olds.drop (i*5):=by
     rw[ha1,List.toList_toArray,List.append_assoc,List.drop_append_of_le_length (by rw[List.length_take,hat];omega),List.drop_of_length_le (by rw[List.length_take,hat];omega),List.nil_append,←hdl,List.take_left]
    refine⟨_,_,_,some ⟨b,0,none⟩,cap,rfl,hroom,hcm,⟨rfl,rfl⟩,hrep,⟨b,arr2,h0,rfl,setRow_heap _ b arr1 arr2 40 (0,0) hb2,by omega,?_,?_,.inr ⟨h0,rfl⟩⟩,rfl,rfl,rfl,?_,fun k hk hkb=>?_⟩
    ·rw[List.length_append,List.length_append,htl,hn5,hdl];omega
    ·rw[List.length_append,List.length_append,htl,hn5,hdl,ha2,List.toList_toArray,h1t,hn5]
     rw[List.take_append,List.length_append,htl,hn5,List.take_of_length_le (by rw[List.length_append,htl,hn5];omega)]
     congr 1
     rw[show i*5+5+(l.length-i)*5-(i*5+5)=(l.length-i)*5 by omega,show i*5+5=(i+1)*5 by omega];exact h1d
    ·simp[World.setRow]
    ·have hkb':k≠b:=fun e=>hkb h0 (by rw[e];rfl)
     rw[setRow_other _ _ _ _ hkb',setRow_other _ _ _ _ hkb'];rfl
   ·obtain rfl:cap=l.length:=by omega
    refine (ZnP b l.length i vb cj w arr olds news hb hol htk h1o hil hbig hn5 hvc h1v).mono ?_
    rintro e w' ⟨G,ROW,rfl,hG1,hG2,hRs,hRt,rfl⟩
    have hdl:(olds.drop (i*5)).length=(l.length-i)*5:=by rw[List.length_drop,hol];omega
    obtain⟨W0,hW0⟩ : ∃ W0,W0=(w.alloc (.cells ROW 40)).drew:=⟨_,rfl⟩
    have hb1:W0.heap[w.heap.size]?=some (.cells ROW 40 (0,0)):=by rw[hW0];exact heap_alloc_new w _
    have hW1 : ∀ k,k<w.heap.size→W0.heap[k]?=w.heap[k]?:=fun k hk=>by rw[hW0];exact Zq2 w _ k hk
    have hW2:W0.os=w.os∧W0.tape=w.tape∧W0.output=w.output∧w.heap.size≤W0.heap.size:=by rw[hW0];refine⟨rfl,rfl,rfl,?_⟩;show _≤(w.alloc _).heap.size;simp
    rw[←hW0,Zcv Tryz.prog w.heap.size (i*5) 40 news ROW W0 hb1 om h1v]
    obtain⟨arr1,ha1⟩ : ∃ arr1,arr1=(ROW.toList.take (i*5)++news++ROW.toList.drop (i*5+news.length)).toArray:=⟨_,rfl⟩
    rw[←ha1]
    have hs1:arr1.size=ROW.size:=by rw[ha1];simp only[List.size_toArray,List.length_append,List.length_take,List.length_drop,Array.length_toList];omega
    have hb2:(W0.setRow w.heap.size arr1).drew.heap[w.heap.size]?=some (.cells arr1 40 (0,0)):=setRow_heap W0 w.heap.size ROW arr1 40 (0,0) hb1
    rw[Zcv Tryz.prog w.heap.size ((i+1)*5) 40 (olds.drop (i*5)) arr1 (W0.setRow w.heap.size arr1).drew hb2 om (fun u hu=>h1o u (List.mem_of_mem_drop hu))]
    obtain⟨arr2,ha2⟩ : ∃ arr2,arr2=(arr1.toList.take ((i+1)*5)++olds.drop (i*5)++arr1.toList.drop ((i+1)*5+(olds.drop (i*5)).length)).toArray:=⟨_,rfl⟩
    rw[←ha2]
    have hs2:arr2.size=arr1.size:=by rw[ha2];simp only[List.size_toArray,List.length_append,List.length_take,List.length_drop,Array.length_toList];omega
    have h1t:arr1.toList.take ((i+1)*5)=olds.take (i*5)++news:=by
     have hll:(olds.take (i*5)++news).length=(i+1)*5:=by rw[List.length_append,htl,hn5];omega
     rw[ha1,List.toList_toArray,hRt,←hll,List.take_left]
    refine⟨_,_,_,some ⟨w.heap.size,0,none⟩,G,rfl,hG1,hG2,⟨rfl,rfl⟩,hrep,⟨w.heap.size,arr2,by omega,rfl,setRow_heap _ w.heap.size arr1 arr2 40 (0,0) hb2,by omega,?_,?_,.inl (Nat.le_refl _)⟩,hW2.1,hW2.2.1,hW2.2.2.1,?_,fun k hk hkb=>?_⟩
    ·rw[List.length_append,List.length_append,htl,hn5,hdl];omega
    ·have hll:(olds.take (i*5)++news++olds.drop (i*5)).length=(olds.take (i*5)++news++olds.drop (i*5)).length:=rfl
     rw[ha2,List.toList_toArray,h1t,List.take_left]
    ·have:=hW2.2.2.2
     simpa [World.setRow,World.drew] using this
    ·rw[setRow_other _ _ _ _ om]
     show (W0.setRow w.heap.size arr1).heap[k]?=_
     rw[setRow_other _ _ _ _ om];exact hW1 k hk
 ·rintro x h' ⟨n',cs,⟨rfl,rfl⟩,rfl,rfl⟩
  exact⟨rfl,rfl⟩
end
end Go.Proofs.YtfoipaclphdodaaGreatDoor
namespace Go.Ab
section
open Go.RowKit
section
def Thw (h:AH) (c d:AV):Prop := ∀ w g y,SimH w g h→Rep w g c y→Rep w (g.frz h 0) d y
def ThwL (h:AH) (c d:List AV):Prop := ∀ w g y,SimH w g h→RepL w g c y→RepL w (g.frz h 0) d y
theorem Thw.same {h:AH}{c:AV}(hl:c.lt 0=true):Thw h c c:=fun w g y hs hr=>Rep.mono (g.cut_le_frz h 0) (fun _ _=>rfl) _ _ (Rep.cut _ _ hl hr)
theorem ThwL.same {h:AH}{c:List AV}(hl:AV.ltL 0 c=true):ThwL h c c:=fun w g y hs hr=>RepL.mono (g.cut_le_frz h 0) (fun _ _=>rfl) _ _ (RepL.cut _ _ hl hr)
theorem ThwL.nil {h:AH}:ThwL h [] []:=ThwL.same rfl
theorem ThwL.cons {h:AH}{c d:AV}{cs ds:List AV}(h1:Thw h c d) (h2:ThwL h cs ds):ThwL h (c::cs) (d::ds):=fun w g y hs hr=>by
 simp only[RepL] at hr ⊢
 obtain⟨u,us,e,r1,r2⟩:=hr
 exact⟨u,us,e,h1 _ _ _ hs r1,h2 _ _ _ hs r2⟩
theorem Thw.agg {h:AH}{cs ds:List AV}(h2:ThwL h cs ds):Thw h (.agg cs) (.agg ds):=fun w g y hs hr=>by
 simp only[Rep] at hr ⊢
 obtain⟨vs,e,r⟩:=hr
 exact⟨vs,e,h2 _ _ _ hs r⟩
theorem Thw.own {h:AH}{id v m ty s:Nat}{cells:List AV}(he:h[id]?=some (.mk v ty s cells)) (hl:cells.length=m*s) (hlt:AV.ltL 0 cells=true):Thw h (.own id v m) (.sl m s false cells):=fun w g y hs hr=>by
 simp only[Rep] at hr ⊢
 obtain⟨A,cap,e1,e2,e3,rfl⟩:=hr
 obtain⟨A',cap',f1,_,f3⟩:=hs.ent _ _ _ _ _ he
 rw[e1] at f1
 simp only[Option.some.injEq,Prod.mk.injEq] at f1
 obtain⟨rfl,rfl⟩:=f1
 refine⟨hl,A,cap,rfl,e2,e3,(fun h=>by cases h),?_,fun hne=>?_⟩
 ·rintro rfl
  rcases f3 with ⟨_,h0⟩ | ⟨b,arr,e,_⟩
  ·exact h0
  ·cases e
 ·rcases f3 with ⟨rfl,_⟩ | ⟨b,arr,rfl,hc0,hd,hb,_,hle,hrl⟩
  ·exact absurd rfl hne
  ·refine⟨b,0,rfl,.inr ⟨id,Nat.zero_le _,v,ty,s,cells,_,cap,he,e1,hc0,rfl⟩,RepC.of_row hb _ 0 ?_⟩
   rw[List.drop_zero]
   exact RepL.mono (g.cut_le_frz h 0) (fun _ _=>rfl) _ _ (RepL.cut _ _ hlt hrl)
def plnB:AV→Bool
 | .v _=>true
 | .tup l=>l.all fun c=>match c with
  | .v _=>true
  | _=>false
 | _=>false
theorem ZtS : ∀ (l:List AV) (vs:List Value) {w w':World}{g g':Gh},(l.all fun c=>match c with
  | .v _=>true
  | _=>false)=true→RepL w g l vs→RepL w' g' l vs
 | [],vs,_,_,_,_,_,h=>by simpa only [RepL] using h
 | c::l,vs,w,w',g,g',hp,h=>by
  simp only[RepL] at h ⊢
  obtain⟨u,us,e,r1,r2⟩:=h
  simp only[List.all_cons,Bool.and_eq_true] at hp
  refine⟨u,us,e,?_,ZtS l us hp.2 r2⟩
  cases c <;> simp at hp
  simpa only [Rep] using r1
variable {P : Program}
theorem ACalls.thaw {f:FuncId}{args args':List AV}{h:AH}{c:AV}(hc:ACalls P f args' [] fun z y=>y=[]∧z=.ret c) (hp:plnB c=true) (ht:ThwL h args args'):ACalls P f args h fun z y=>y=h∧z=.ret c:=by
 refine⟨hc.1,fun w g vs hs ha=>?_⟩
 have s:=(hs.frz (n:=0) (Nat.zero_le _) (by simp)).1
 refine (hc.2 w (g.frz h 0) vs s (ht w g _ hs ha)).mono ?_
 rintro e w' ⟨y,k1,g1,r1,r2,r3,r4,r5,rfl,rfl⟩
 have no : ∀ k,¬Ow (g.frz h 0) (List.take 0 h) k:=by
  rintro k (⟨i,ver,ty,s,c,b,cap,e,_⟩ | ⟨i,o,T,us,e⟩) <;> simp at e
 refine⟨.ret c,h,g,?_,hs.world (fun k hk=>?_) r4.size,Gh.le.refl g,⟨r4.os,r4.tape,r4.output,r4.size,fun k h1 h2=>r4.block k h1 (no k)⟩,fun k hk=>.inl hk,rfl,rfl⟩
 ·cases e <;> simp only[EndR] at r1 ⊢
  cases c <;> simp only[plnB] at hp <;> try (cases hp;done)
  ·simpa only [Rep] using r1
  ·simp only[Rep] at r1 ⊢
   obtain⟨us,e,r⟩:=r1
   exact⟨us,e,ZtS _ _ hp r⟩
 ·refine r4.block k ?_ (no k)
  rcases hk with hk | hk
  ·exact hs.lt k hk
  ·exact (hs.own_not_D hk).2
end
end
end Go.Ab
namespace Go.Proofs.YtfoipaclphdodaaGreatDoor
section
open Go.Ab Go.RowKit Civ
attribute [local simp] Zbi Zc1 Zbv Zhm ZcL
section
theorem Zkl {a0 c0:AV}{l:List AV}:setCells (a0::l) 0 [c0]=c0::l:=rfl
theorem Zkk {a0 a1 a2 a3 a4:AV}{l:List AV}:((a0::a1::a2::a3::a4::l).drop 1).take 4=[a1,a2,a3,a4]:=rfl
theorem Zr6 {a0 a1 a2 a3 a4 a5 a6:AV}{l:List AV}:((a0::a1::a2::a3::a4::a5::a6::l).drop 1).take 6=[a1,a2,a3,a4,a5,a6]:=rfl
theorem ZvV { e:Ent}:([]:AH)++[e]=[e]:=rfl
theorem Zr9 {e0 d0:Ent}:([e0]:AH)++[d0]=[e0,d0]:=rfl
theorem Zr8 {a0 a1 a2 a3 c0 c1 c2 c3:AV}{l:List AV}:setCells (a0::a1::a2::a3::l) 0 [c0,c1,c2,c3]=c0::c1::c2::c3::l:=rfl
theorem Zr7 {a0 a1 a2 a3:AV}{l:List AV}:((a0::a1::a2::a3::l).drop 0).take 4=[a0,a1,a2,a3]:=rfl
theorem ZoK {τ:Operand→AV}{y0 y1:Operand}{x0_0 x1_0 x1_1 x1_2 x1_3:AV}(h0:Zao (τ y0)=some [x0_0]) (l0:[x0_0].all leaf=true) (h1:Zao (τ y1)=some [x1_0,x1_1,x1_2,x1_3]) (l1:[x1_0,x1_1,x1_2,x1_3].all leaf=true):Zak τ [(0,1,y0),(1,4,y1)] [(.v (.string ⟨#[]⟩)),(iv 0),(iv 0),(.v (.string ⟨#[]⟩)),(.sl 0 0 true [])]=some [x0_0,x1_0,x1_1,x1_2,x1_3]:=by
 simp only[Zak,h0,l0,h1,l1]
 rfl
theorem ZoJ {τ:Operand→AV}{y0:Operand}{x0_0 x0_1 x0_2 x0_3 x0_4:AV}(h0:Zao (τ y0)=some [x0_0,x0_1,x0_2,x0_3,x0_4]) (l0:[x0_0,x0_1,x0_2,x0_3,x0_4].all leaf=true):Zak τ [(0,5,y0)] [(.v (.string ⟨#[]⟩)),(iv 0),(iv 0),(.v (.string ⟨#[]⟩)),(.sl 0 0 true [])]=some [x0_0,x0_1,x0_2,x0_3,x0_4]:=by
 simp only[Zak,h0,l0]
 rfl
end
def c125:AC:=(Sr [Mc 4 0] (Sr [Mv 8 0,Nk 9 8,Fa 10 0 9,Fa 11 0 10,Ld 12 11,Mv 13 1,Cl 14 61 [(t 12),(t 13)],Mv 7 14,Ex 15 7 0,Ex 16 7 1,Mv 5 15,Mv 6 16] (.seq (Sr [Mv 17 6,Oo 18 (.un .not (t 17))] (Cd 18 (Sr [Mc 4 5] .ret) .skip)) (Sr [Mv 19 0,Mv 20 0,Nk 21 20,Fa 22 0 21,Fa 23 0 22,Ld 24 23,Mv 25 5,Mv 26 5,Bc 27 .add 26 1,Cl 28 209 [(t 24),(t 25),(t 27)],Nk 29 19,Fa 30 0 29,Fa 31 0 30,Sc 31 28] (Sr [Mc 4 0] .ret)))))
theorem k125:Zaw Tryz.prog 125=some ⟨c125,[(.tmp 4)],32⟩:=by kernel_rfl
def c127:AC:=(Sr [Oo 3 (.box 44 7 (t 1)),Mc 4 0] (Sd [Mv 10 0,Nk 11 10,Fa 12 0 11,Fa 13 0 12,Ld 14 13,Fa 15 0 3,Ld 16 15,Cl 17 61 [(t 14),(t 16)],Mv 9 17,Ex 18 9 0,Ex 19 9 1,Mv 5 18,Mv 6 19] (.seq (Sr [Mv 20 6,Oo 21 (.un .not (t 20))] (Cd 21 (Sr [Mc 4 5] .ret) .skip)) (.seq (.drw [Mv 23 0,Nk 24 23,Fa 25 0 24,Fa 26 0 25,Ld 27 26,Mv 28 5,Oo 29 (.ia 5 (t 27) (t 28)),Fa 30 1 29,Oo 31 (.load true 4 (t 30)),Fa 32 1 3,Oo 33 (.load true 6 (t 32)),Cl 34 75 [(t 31),(t 33)],Mv 22 34,Ex 35 22 0,Ex 36 22 1,Oo 7 (.new 38 4 [(iv 0),(iv 0),Ss,nl])] [false,false] [⟨none,none,(.store 4 (t 7) (t 35))⟩,Mv 8 36]) (.seq (Sr [Mv 37 8,Bc 38 .eql 37 0] (Cd 38 (.drw [Mv 39 0,Nk 40 39,Fa 41 0 40,Fa 42 0 41,Ld 43 42,Mv 44 5,Oo 45 (.load true 4 (t 7)),Oo 46 (.ia 5 (t 43) (t 44)),Fa 47 1 46] [false] [⟨none,none,(.store 4 (t 47) (t 45))⟩]) .skip)) (Sr [Mv 48 8,Mv 4 48] .ret))))))
theorem k127:Zaw Tryz.prog 127=some ⟨c127,[(.tmp 4)],49⟩:=by kernel_rfl
def c129:AC:=(Sr [Oo 3 (.box 40 5 (t 1)),Mc 4 0] (.seq (.drwU [[],[],[],[],[],[0,1,2,3,4],[0,1,2,3,4],[],[],[],[9],[10],[]] [Mv 8 0,Nk 9 8,Fa 10 0 9,Fa 11 0 10,Ld 12 11,Fa 13 0 3,Ld 14 13,Cl 15 61 [(t 12),(t 14)],Mv 7 15,Ex 16 7 0,Ex 17 7 1,Mv 5 16,Mv 6 17]) (.seq (Sr [Mv 18 6] (Cd 18 (Sr [Mc 4 6] .ret) .skip)) (.seq (.drwU [[],[0],[0],[0],[0],[0],[0,1,2,3,4,5],[0,1,2,3,4,5,6],[0,1,2,3,4,5,6],[0,1,2,3,4,5,6,7,8],[0,1,2,3,4,5,6,7,8],[0,1,2,3,4,5,6,7,8],[0,1,2,3,4,5,6],[0,1,2,3,4,5,6],[0],[],[],[],[]] [Mv 19 0,Mv 20 0,Nk 21 20,Fa 22 0 21,Fa 23 0 22,Ld 24 23,Mv 25 5,Fa 26 0 3,Ld 27 26,Fa 28 1 3,Oo 29 (.load true 4 (t 28)),Cl 30 44 [(t 29)],Oo 31 (.build [Ss,(iv 0),(iv 0),Ss,nl] [(0,(1,(t 27))),(1,(4,(t 30)))]),Oo 32 (.lit 40 5 1 [Ss,(iv 0),(iv 0),Ss,nl] [(0,(5,(t 31)))]),Cl 33 210 [(t 24),(t 25),(t 32)],Nk 34 19,Fa 35 0 34,Fa 36 0 35,Sc 36 33]) (Sr [Mc 4 0] .ret)))))
theorem k129:Zd4 Tryz.prog (none) 129=some ⟨c129,[(.tmp 4)],37⟩:=by kernel_rfl
abbrev Tbs:=Nat×List Nam
abbrev kE (R:Nat) (lw:AV) (s:Tbs):Ent:=.mk 0 184 2 [.own R s.1 s.2.length,lw]
abbrev rE (s:Tbs):Ent:=.mk s.1 40 5 (rows namC s.2)
def okTbs (s:Tbs):Prop:=risN s.2∧(∀ n∈s.2,ZnB n∧Zbd n.2=0)
def Ziv (s:Tbs) (d:ByteArray):Tbs×Int:=if hasN s.2 d=true then ((s.1,s.2.eraseIdx (idxN s.2 d)),0) else (s,5)
theorem Znx {l:List Nam}{nm:ByteArray}{R v ty:Nat}{h:AH}(hR:h[R]?=some (.mk v ty 5 (rows namC l))) (hr:risN l) (hl:l.length≤4000000000000) :
  Ac 61 [.own R v l.length,sv nm] h (.tup [iv (posN l nm),bv (hasN l nm)]) :=
 (ZgL (full:=false) (h:=[]) hr hl).thaw rfl (ThwL.cons (Thw.own hR (ZbF l) (Zc1 l)) (ThwL.cons (Thw.same rfl) ThwL.nil))
theorem rchk_o {t:List Nam}{k:List Lnk}{R v ty:Nat}{f2:Bool}{h:AH}(hR:h[R]?=some (.mk v ty 5 (rows namC t))) (hok:Zgb (t,k)):Ac 17 [.agg [.own R v t.length,.sl k.length 2 f2 (rows lnkC k)]] h (iv (ZaU (t,k))) :=
 (ZlW (f1:=false) (f2:=f2) (h:=[]) hok).thaw rfl (ThwL.cons (Thw.agg (ThwL.cons (Thw.own hR (ZbF t) (Zc1 t)) (ThwL.cons (Thw.same (by simp[AV.lt,Zbv])) ThwL.nil))) ThwL.nil)
theorem ZgQ {R N:Nat}{lw:AV}{s s':Tbs}(h:(kE R lw s).lt N=true):(kE R lw s').lt N=true:=by simpa [Ent.lt,AV.lt,AV.ltL] using h
theorem ZgJ {N:Nat}{s:Tbs}:(rE s).lt N=true:=by simp[Ent.lt,Zc1]
theorem drop_a {s:Tbs}{d:ByteArray}{lw:AV}{K R:Nat}{h:AH}(hK:h[K]?=some (kE R lw s)) (hR:h[R]?=some (rE s)) (hne:K≠R) (hs:okTbs s) (hz:s.2.length≤2000000000000) :
  ACalls Tryz.prog 125 [.ptr K 0 0,sv d] h fun r h'=>r=.ret (iv (Ziv s d).2)∧h'=(h.set K (kE R lw (Ziv s d).1)).set R (rE (Ziv s d).1):=by
 have hid:K<h.length:=(List.getElem?_eq_some_iff.1 hK).1
 have hib:R<h.length:=(List.getElem?_eq_some_iff.1 hR).1
 have hr:=hs.1
 refine tJ' k125 fun N hn hlt _ hbd=>?_
 simp only[tb'] at hbd ⊢
 have hKl:=hlt _ (List.mem_of_getElem? hK)
 refine ZfQ (h1:=(h.set K (kE R lw s)).set R (rE s)++[]) (by rw[Zfb hK hR]) ?_
 refine wk'<|wm<|Vw (Zca lk)<|fq<|fq<|Vw (Zaa lk (Zdf hne hid) gt0)<|mw<|?_
 refine Zad mp (Znx (Zde hib) hr om) pt ?_
 refine mw<|Vw (ZaQ lk gt)<|Vw (ZaQ lk gt)<|mw<|ms<|Zac<|wm<|Vw (ZaE lk)<|sn'<|?_
 refine Zav lk (fun hc1=>?_) (fun hc1=>?_)
 ·have hb:hasN s.2 d=false:=by simpa using hc1
  have hD:Ziv s d=(s,5):=if_neg (by rw[hb];simp)
  refine wo<|Zah<|Zae rz<|?_
  refine⟨_,[],by simp only[List.append_nil];rfl,ZaS hn,Zd3 hlt (ZgQ hKl) ZgJ,rfl,?_⟩
  rw[hD];exact⟨rfl,rfl⟩
 have hb:hasN s.2 d=true:=by simpa using hc1
 have hp:=(ZkT hr hb)
 obtain⟨hpl,_⟩:=ZjO hb
 have hD:Ziv s d=((s.1,s.2.eraseIdx (idxN s.2 d)),0):=if_pos hb
 rw[hp]
 refine za<|wm<|mw<|Vw (Zca lk)<|fq<|fq<|Vw (Zaa lk (Zdf hne hid) gt0)<|mw<|mw<|?_
 refine ad<|Zh3 mp (delete_a (Zde hib) hpl) (Zer hib) pt<|Vw (Zca lk)<|fq<|fq<|E' (Zai lk cv (Zdf hne hid) rfl nb rfl Zkl (Zgf hne hid)) ptn<|sn'<|wo<|Zae rz<|?_
 rw[show s.2.length-1=(s.2.eraseIdx (idxN s.2 d)).length from (List.length_eraseIdx_of_lt hpl).symm]
 refine⟨_,[],by simp only[List.append_nil];rfl,ZaS hn,Zd3 hlt (ZgQ (s':=(s.1,s.2.eraseIdx (idxN s.2 d))) hKl) (ZgJ (s:=(s.1,s.2.eraseIdx (idxN s.2 d)))),rfl,?_⟩
 rw[hD];exact⟨rfl,rfl⟩
def Zck (s:Tbs) (p:NPt):Tbs×Int:=match ZaK s.2 p.1 with
 | none=>(s,5)
 | some t=>if patE t p.2≠0 then (s,patE t p.2) else ((s.1,s.2.set (idxN s.2 p.1) (p.1,patV t p.2)),0)
theorem set_tab {l:List Nam}{i:Nat}(t:Tab) (hi:i<l.length):setCells (rows namC l) (i*5+1) [iv t.1.1,iv t.1.2.1,sv t.1.2.2,chS t.2]=rows namC (l.set i (l[i].1,t)):=by
 rw[←ZkO ZaL hi (l[i].1,t)]
 show _=setCells ((rows namC l).set (i*5) (sv l[i].1)) (i*5+1) _
 have h0:i*5<(rows namC l).length:=by rw[ZbF];omega
 have h1:(rows namC l)[i*5]=sv l[i].1:=by
  have:=congrArg (·[0]?) (ZgH ZaL hi)
  simp only[List.getElem?_take,List.getElem?_drop] at this
  simpa [List.getElem?_eq_getElem h0] using this
 rw[←h1,List.set_getElem_self]
theorem kE_set {R:Nat}{lw:AV}{s:Tbs}{i:Nat}{x:Nam}:kE R lw s=kE R lw (s.1,s.2.set i x):=by
 show Ent.mk _ _ _ [AV.own R s.1 s.2.length,lw]=Ent.mk _ _ _ [AV.own R s.1 (s.2.set i x).length,lw]
 rw[List.length_set]
def Zt6 (p:NPt):Prop:=p.1.size≤maxLen∧okP p.2
theorem patch_a {s:Tbs}{p:NPt}{lw:AV}{K R:Nat}{h:AH}(hK:h[K]?=some (kE R lw s)) (hR:h[R]?=some (rE s)) (hne:K≠R) (hs:okTbs s) (hz:s.2.length≤2000000000000) (hp:Zt6 p) :
  ACalls Tryz.prog 127 [.ptr K 0 0,.agg (nptC p)] h fun r h'=>r=.ret (iv (Zck s p).2)∧h'=(h.set K (kE R lw (Zck s p).1)).set R (rE (Zck s p).1):=by
 have hid:K<h.length:=(List.getElem?_eq_some_iff.1 hK).1
 have hib:R<h.length:=(List.getElem?_eq_some_iff.1 hR).1
 have hr:=hs.1
 refine tJ' k127 fun N hn hlt _ hbd=>?_
 simp only[tb'] at hbd ⊢
 have hKl:=hlt _ (List.mem_of_getElem? hK)
 refine ZfQ (h1:=(h.set K (kE R lw s)).set R (rE s)++[]) (by rw[Zfb hK hR]) ?_
 refine wr'<|E' (ZaR cv rfl (hl0 (ZaS hn)) ha0) pt<|ms<|Zac<|ZaH<|Dw vm<|Dw (Zca lk)<|dg<|dg<|Dw (Zaa lk (Zdf hne hid) gt0)<|dg<|?_
 refine D' (Zaa lk (hga (ZaS hn) rfl) gt0) pt ?_
 refine ZaC mp (fun hE hX=>Znx (hX _ _ (Zde hib)) hr om) pt ?_
 refine Dw vm<|Dw (ZaQ lk gt)<|Dw (ZaQ lk gt)<|Dw vm<|Dw vm<|ZaM<|?_
 refine Za5 ?_
 refine sn'<|Zac<|wm<|Vw (ZaE lk)<|sn'<|?_
 refine Zav lk (fun hc1=>?_) (fun hc1=>?_)
 ·have hb:hasN s.2 p.1=false:=by simpa using hc1
  have hD:Zck s p=(s,5):=by unfold Zck;rw[show ZaK s.2 p.1=none from by have h9:=Zb1 s.2 p.1;rw[hb] at h9;cases hk:ZaK s.2 p.1 with | none=>rfl | some t=>rw[hk] at h9;cases h9]
  refine wo<|Zah<|Zae rz<|?_
  refine⟨_,_,rfl,ZaS hn,Zd3 hlt (ZgQ hKl) ZgJ,rfl,?_⟩
  rw[hD];exact⟨rfl,rfl⟩
 have hb:hasN s.2 p.1=true:=by simpa using hc1
 have hpp:=(ZkT hr hb)
 obtain⟨hpl,hpn⟩:=ZjO hb
 have hfd:ZaK s.2 p.1=some s.2[idxN s.2 p.1].2:=by rw[ZpN,List.getElem?_eq_getElem hpl];rfl
 have hok:=hs.2 _ (List.getElem_mem hpl)
 have hln:=ZcO hok.2
 rw[hpp]
 refine za<|Zac<|ZaH<|Dw vm<|Dw (Zca lk)<|dg<|dg<|Dw (Zaa lk (Zdf hne hid) gt0)<|Dw vm<|?_
 refine D' (ZaT (k:=idxN s.2 p.1) lk lk (Zde hib) ZaL nb ro om (by first | rfl | (simp;done) | omega)) pt ?_
 refine D' (Zbs lk) pt ?_
 refine D' (ZsL lk (Zde hib) ZaL om nb Zkk rfl) pt ?_
 refine dg<|Dw (Zag lk (hga (ZaS hn) rfl) Zr6 rfl)<|?_
 refine ZaC mp (fun hE hX=>ZtW (t:=s.2[idxN s.2 p.1].2) hln hok.1.2 hp.2) pt ?_
 refine Dw vm<|Dw (ZaQ lk gt)<|Dw (ZaQ lk gt)<|Zc5 rfl rfl (hlk (ZaS hn) rfl) (Zil) pt ZvV<|ZaM<|?_
 refine Zc4 Zr9 ?_
 refine E' (Zai lk cv (hga (ZaS hn) rfl) rfl nb rfl Zr8 (hs1 (ZaS hn))) ptn<|ms<|Zac<|wm<|Vw (Za7 lk lki)<|sn'<|?_
 refine cd' lk (fun hc2=>?_) (fun hc2=>?_)
 ·have he0:patE s.2[idxN s.2 p.1].2 p.2=0:=hc2
  have hD:Zck s p=((s.1,s.2.set (idxN s.2 p.1) (s.2[idxN s.2 p.1].1,patV s.2[idxN s.2 p.1].2 p.2)),0):=by unfold Zck;rw[hfd,hpn];dsimp only;rw[if_neg (by rw[he0];simp)]
  refine ZaH<|Dw vm<|Dw (Zca lk)<|dg<|dg<|Dw (Zaa lk (Zdf hne hid) gt0)<|Dw vm<|Dw (Zag lk (hga (ZaS hn) rfl) Zr7 rfl)<|?_
  refine D' (ZaT lk lk (Zde hib) ZaL nb ro om (by first | rfl | (simp;done) | omega)) pt ?_
  refine Dw (Zbs lk)<|ZaM<|?_
  refine Za5 ?_
  refine E' (Zai lk cv (Zde hib) rfl (by rw[ZbF];omega) rfl (set_tab _ hpl) (Zer hib)) ptn ?_
  refine sn'<|wm<|mr<|Zae rz<|?_
  rw[kE_set (R:=R) (lw:=lw) (s:=s) (i:=idxN s.2 p.1) (x:=(s.2[idxN s.2 p.1].1,patV s.2[idxN s.2 p.1].2 p.2))]
  refine⟨_,_,rfl,ZaS hn,Zd3 hlt (ZgQ (s':=(s.1,s.2.set (idxN s.2 p.1) (s.2[idxN s.2 p.1].1,patV s.2[idxN s.2 p.1].2 p.2))) hKl) (ZgJ (s:=(s.1,s.2.set (idxN s.2 p.1) (s.2[idxN s.2 p.1].1,patV s.2[idxN s.2 p.1].2 p.2)))),rfl,?_⟩
  rw[hD];exact⟨by rw[he0],rfl⟩
 have hD:Zck s p=(s,patE s.2[idxN s.2 p.1].2 p.2):=by unfold Zck;rw[hfd];exact if_pos hc2
 refine za<|wm<|mr<|Zae rz<|?_
 refine⟨_,_,rfl,ZaS hn,Zd3 hlt (ZgQ hKl) ZgJ,rfl,?_⟩
 rw[hD];exact⟨rfl,rfl⟩
def putS (s:Tbs) (n:Nam):Tbs×Int:=if hasN s.2 n.1=true then (s,6) else ((s.1+1,insN s.2 n),0)
theorem place_u {s:Tbs}{nm:ByteArray}{R:Nat}{h:AH}(hR:h[R]?=some (rE s)) (hr:risN s.2) (hz:s.2.length≤4000000000000) :
  ACalls Tryz.prog 61 [.own R s.1 s.2.length,sv nm] h fun x h'=>x=.ret (.tup [iv (posN s.2 nm),bv (hasN s.2 nm)])∧h'=h.set R (rE s) :=
 (Znx hR hr hz).mono fun _ _ ⟨a,b⟩=>⟨b,by rw[a,ZgU hR]⟩
theorem put_a {s:Tbs}{n:Nam}{lw:AV}{K R:Nat}{h:AH}(hK:h[K]?=some (kE R lw s)) (hR:h[R]?=some (rE s)) (hne:K≠R) (hs:risN s.2) (hz:s.2.length≤2000000000000) (hp:n.2.2.length≤3518437208883) :
  ACalls Tryz.prog 129 [.ptr K 0 0,.agg (namC n)] h fun r h'=>r=.ret (iv (putS s n).2)∧h'=(h.set K (kE R lw (putS s n).1)).set R (rE (putS s n).1):=by
 have hid:K<h.length:=(List.getElem?_eq_some_iff.1 hK).1
 have hib:R<h.length:=(List.getElem?_eq_some_iff.1 hR).1
 have hr:=hs
 refine tUJ' k129 fun N hn hlt _ hbd=>?_
 simp only[tb'] at hbd ⊢
 have hKl:=hlt _ (List.mem_of_getElem? hK)
 refine ZfQ (h1:=(h.set K (kE R lw s)).set R (rE s)++[]) (by rw[Zfb hK hR]) ?_
 refine wr'<|E' (ZaR cv rfl (hl0 (ZaS hn)) ha0) pt<|ms<|Zac<|Zly<|uf vm<|uf (Zca lk)<|uf (Zdv lk)<|uf (Zdv lk)<|?_
 refine Zm9 rfl (Zaa lk (Zdf hne hid) gt0) (hx_l rfl) (hl1 (ZaS hn)) nh pt ?_
 refine u_fr rfl (Zdv lk) pt ?_
 refine Zm9 rfl (Zaa lk (hga (ZaS hn) rfl) gt0) (hx_l rfl) (hl1 (ZaS hn)) nh pt ?_
 refine ZhW mp (Zde hib) (fun hU hUe=>place_u hUe hr om) nh (Zer hib) pt ?_
 refine uf vm<|uf (ZaQ lk gt)<|uf (ZaQ lk gt)<|uf vm<|uf vm<|ZsM<|Zan<|Zac<|wk'<|?_
 refine Zav lk (fun hc1=>?_) (fun hc1=>?_)
 ·have hb:hasN s.2 n.1=true:=hc1
  have hD:putS s n=(s,6):=if_pos hb
  refine wo<|Zah<|Zae rz<|?_
  refine⟨_,_,rfl,ZaS hn,Zd3 hlt (ZgQ hKl) ZgJ,rfl,?_⟩
  rw[hD];exact⟨rfl,rfl⟩
 have hb:hasN s.2 n.1=false:=by simpa using hc1
 have hD:putS s n=((s.1+1,insN s.2 n),0):=if_neg (by rw[hb];simp)
 refine za<|Zac<|Zly<|uf vm<|uf vm<|uf (Zca lk)<|uf (Zdv lk)<|uf (Zdv lk)<|?_
 refine Zm9 rfl (Zaa lk (Zdf hne hid) gt0) (hx_l rfl) (hl1 (ZaS hn)) nh pt ?_
 refine uf vm<|uf (Zdv lk)<|?_
 refine Zm9 rfl (Zaa lk (hga (ZaS hn) rfl) gt0) (hx_l rfl) (hl1 (ZaS hn)) nh pt ?_
 refine u_fr rfl (Zdv lk) pt ?_
 refine Zm9 rfl (Zag lk (hga (ZaS hn) rfl) Zkk rfl) (hx_l rfl) (hl1 (ZaS hn)) nh pt ?_
 refine ZsN mp (fun hU=>Zpj hp) pt ?_
 refine u_fr rfl (Zat (ZoK cv rfl cv rfl)) pt ?_
 refine u_al rfl (Zcz (ZoJ cv rfl) (hl1 (ZaS hn)) ha1) (hl1 (ZaS hn)) nh pt ?_
 refine u_callW mp (Zde hib) (hga (ZaS hn) rfl) (fun hU hUe hUj=>insert_a (l:=s.2) (n:=n) (i:=posN s.2 n.1) hUe hUj om (ZtQ _ _) hz) nh (Zer hib) pt ?_
 refine uf (Zca lk)<|uf (Zdv lk)<|uf (Zdv lk)<|?_
 refine u_st (Zai lk cv (Zdf hne hid) rfl nb rfl Zkl (Zgf hne hid)) lk nh ptn ?_
 refine ZsM<|Zan<|wo<|Zae rz<|?_
 rw[show s.2.length+1=(insN s.2 n).length from (Zuv _ _).symm]
 refine⟨_,_,rfl,ZaS hn,Zd3 hlt (ZgQ (s':=(s.1+1,insN s.2 n)) hKl) (ZgJ (s:=(s.1+1,insN s.2 n))),rfl,?_⟩
 rw[hD];exact⟨rfl,rfl⟩
end
section
open Go.Ab Go.RowKit Civ
attribute [local simp] Zbi Zc1 Zbv Zhm ZcL
section
theorem ZvT {a0 a1 a2 a3 a4 a5 a6:AV}{l:List AV}:(a0::a1::a2::a3::a4::a5::a6::l).take 7=[a0,a1,a2,a3,a4,a5,a6]:=rfl
theorem Zr3 {a0 a1 a2 a3 a4 a5 a6 c0 c1 c2 c3 c4 c5 c6:AV}{l:List AV}:setCells (a0::a1::a2::a3::a4::a5::a6::l) 0 [c0,c1,c2,c3,c4,c5,c6]=c0::c1::c2::c3::c4::c5::c6::l:=rfl
theorem Zr1 {a0 a1 a2 a3 a4 a5 a6:AV}{l:List AV}:((a0::a1::a2::a3::a4::a5::a6::l).drop 0).take 7=[a0,a1,a2,a3,a4,a5,a6]:=rfl
theorem ZvU {a0 a1 a2 a3 a4:AV}{l:List AV}:(a0::a1::a2::a3::a4::l).take 5=[a0,a1,a2,a3,a4]:=rfl
theorem Zr4 {a0 a1 a2 a3 a4 c0 c1 c2 c3 c4:AV}{l:List AV}:setCells (a0::a1::a2::a3::a4::l) 0 [c0,c1,c2,c3,c4]=c0::c1::c2::c3::c4::l:=rfl
theorem Zr2 {a0 a1 a2 a3 a4:AV}{l:List AV}:((a0::a1::a2::a3::a4::l).drop 0).take 5=[a0,a1,a2,a3,a4]:=rfl
end
def c124:AC:=(Sr [Mc 4 0] (.seq (Sr [Mv 8 0,Oo 9 (.len false (t 8)),Mc 10 0] (.block 0 (.loop (Sr [Bn 11 .lss 10 9] (.seq (Cd 11 .skip (.exit 0)) (.seq (.block 1 (Sr [Oo 12 (.ia 1 (t 8) (t 10)),Ld 13 12,Mv 6 13] (Sr [Mv 14 1,Mv 15 6,Oo 16 (.call (t 14) [(t 15)]),Mv 7 16] (Sr [Mv 17 7,Bc 18 .neq 17 0] (Cd 18 (Sr [Mv 19 7,Mv 4 19] .ret) .skip))))) (.reg [Bc 20 .add 10 1,Mv 10 20]))))))) (Sr [Mc 4 0] .ret)))
theorem k124:Zaw Tryz.prog 124=some ⟨c124,[(.tmp 4)],21⟩:=by kernel_rfl
def c126:AC:=(Sr [Mc 4 0] (.seq (Sr [Mv 8 0,Oo 9 (.len false (t 8)),Mc 10 0] (.block 0 (.loop (Sr [Bn 11 .lss 10 9] (.seq (Cd 11 .skip (.exit 0)) (.seq (.block 1 (Sr [Oo 12 (.ia 7 (t 8) (t 10)),Oo 13 (.load true 7 (t 12)),Oo 6 (.new 44 7 [Ss,(iv 0),(iv 0),Ss,(iv 0),(iv 0),nl]),⟨none,none,(.store 7 (t 6) (t 13))⟩] (Sr [Mv 14 1,Oo 15 (.load true 7 (t 6)),Oo 16 (.call (t 14) [(t 15)]),Mv 7 16] (Sr [Mv 17 7,Bc 18 .neq 17 0] (Cd 18 (Sr [Mv 19 7,Mv 4 19] .ret) .skip))))) (.reg [Bc 20 .add 10 1,Mv 10 20]))))))) (Sr [Mc 4 0] .ret)))
theorem k126:Zaw Tryz.prog 126=some ⟨c126,[(.tmp 4)],21⟩:=by kernel_rfl
def c128:AC:=(Sr [Mc 4 0] (.seq (Sr [Mv 8 0,Oo 9 (.len false (t 8)),Mc 10 0] (.block 0 (.loop (Sr [Bn 11 .lss 10 9] (.seq (Cd 11 .skip (.exit 0)) (.seq (.block 1 (Sr [Oo 12 (.ia 5 (t 8) (t 10)),Oo 13 (.load true 5 (t 12)),Oo 6 (.new 40 5 [Ss,(iv 0),(iv 0),Ss,nl]),⟨none,none,(.store 5 (t 6) (t 13))⟩] (Sr [Mv 14 1,Oo 15 (.load true 5 (t 6)),Oo 16 (.call (t 14) [(t 15)]),Mv 7 16] (Sr [Mv 17 7,Bc 18 .neq 17 0] (Cd 18 (Sr [Mv 19 7,Mv 4 19] .ret) .skip))))) (.reg [Bc 20 .add 10 1,Mv 10 20]))))))) (Sr [Mc 4 0] .ret)))
theorem k128:Zaw Tryz.prog 128=some ⟨c128,[(.tmp 4)],21⟩:=by kernel_rfl
section
variable {α : Type}
def runS (f:Tbs→α→Tbs×Int):Tbs→List α→Tbs×Int
 | s,[]=>(s,0)
 | s,x::xs=>if (f s x).2≠0 then f s x else runS f (f s x).1 xs
def atS (f:Tbs→α→Tbs×Int) (s0:Tbs) (l:List α) (i:Nat) (s:Tbs):Prop:=runS f s0 l=runS f s (l.drop i)
theorem atS_0 (f:Tbs→α→Tbs×Int) (s0:Tbs) (l:List α):atS f s0 l 0 s0:=by unfold atS;rw[List.drop_zero]
theorem Zvy {f:Tbs→α→Tbs×Int}{s0 s:Tbs}{l:List α}{i:Nat}(h:atS f s0 l i s) (hi:i<l.length) (h0:(f s l[i]).2=0):atS f s0 l (i+1) (f s l[i]).1:=by
 unfold atS at h ⊢
 rw[h,List.drop_eq_getElem_cons hi,runS,if_neg (by rw[h0];simp)]
theorem Zoi {f:Tbs→α→Tbs×Int}{s0 s:Tbs}{l:List α}{i:Nat}(h:atS f s0 l i s) (hi:i<l.length) (h0:(f s l[i]).2≠0):runS f s0 l=f s l[i]:=by
 unfold atS at h
 rw[h,List.drop_eq_getElem_cons hi,runS,if_pos h0]
theorem Zoh {f:Tbs→α→Tbs×Int}{s0 s:Tbs}{l:List α}{i:Nat}(h:atS f s0 l i s) (hi:l.length≤i):runS f s0 l=(s,0):=by
 unfold atS at h
 rw[h,List.drop_of_length_le hi];rfl
end
theorem eachS_a {f:Tbs→ByteArray→Tbs×Int}{I:Nat→Tbs→Prop}{l:List ByteArray}{s0:Tbs}{fl:Bool}{lw:AV}{K R F:Nat}{h:AH}(hK:h[K]?=some (kE R lw s0)) (hR:h[R]?=some (rE s0)) (hne:K≠R) (h0:I 0 s0)
  (hI : ∀ i s (hi:i<l.length),I i s→(f s l[i]).2=0→I (i+1) (f s l[i]).1)
  (hc : ∀ i s (hi:i<l.length) (h:AH),I i s→h[K]?=some (kE R lw s)→h[R]?=some (rE s)→ACalls Tryz.prog F [.ptr K 0 0,sv l[i]] h fun r h'=>r=.ret (iv (f s l[i]).2)∧h'=(h.set K (kE R lw (f s l[i]).1)).set R (rE (f s l[i]).1)) :
  ACalls Tryz.prog 124 [.sl l.length 1 fl (rows strC l),.bnd (.func F) [.ptr K 0 0]] h fun x h'=>x=.ret (iv (runS f s0 l).2)∧h'=(h.set K (kE R lw (runS f s0 l).1)).set R (rE (runS f s0 l).1):=by
 have hid:K<h.length:=(List.getElem?_eq_some_iff.1 hK).1
 have hib:R<h.length:=(List.getElem?_eq_some_iff.1 hR).1
 refine tJ' k124 fun N hn hlt _ hbd=>?_
 simp only[tb'] at hbd ⊢
 have hKl:=hlt _ (List.mem_of_getElem? hK)
 refine ZfQ (h1:=(h.set K (kE R lw s0)).set R (rE s0)++[]) (by rw[Zfb hK hR]) ?_
 refine wk'<|Zac<|wm<|Vw (ZaA lk)<|ms<|Zaf<|?_
 refine ZgD (ι:=Nat×Tbs) (fun (x_:Nat×Tbs)=>match x_ with | ⟨i,s⟩=>[(10,iv (i:Int)),(4,.any),(6,.any),(7,.any)]++rn' 11 10) (fun (x_:Nat×Tbs)=>match x_ with | ⟨i,s⟩=>(h.set K (kE R lw s)).set R (rE s)++[]) (fun (x_:Nat×Tbs)=>match x_ with | ⟨i,s⟩=>i≤l.length∧I i s∧atS f s0 l i s) (fun (x_:Nat×Tbs)=>match x_ with | ⟨i,s⟩=>l.length-i) (⟨0,s0⟩) (by exact⟨Nat.zero_le _,h0,atS_0 f s0 l⟩) (by try simp only[sm',Nat.reduceAdd];exact ALe.same wA' rfl) ?_
 rintro⟨i,s⟩ hi1
 try simp only[sm',Nat.reduceAdd]
 obtain⟨hi1,hi2,hi3⟩:=hi1
 refine wr'<|Vw (ZaO lk lk)<|sn'<|Zac<|?_
 refine cd' lk (fun hc1=>?_) (fun hc1=>?_)
 ·have hi:i<l.length:=by omega
  have hS2 : ∀ x∈(h.set K (kE R lw (f s l[i]).1)).set R (rE (f s l[i]).1),x.lt N=true:=Zd3 hlt (ZgQ hKl) ZgJ
  refine za<|Zac<|Zaf<|wr'<|?_
  refine V' (ZaJ lk lk Zpe nb ro om ro rfl) pt ?_
  refine Vw (Zax lk gt)<|ms<|wm<|mw<|?_
  refine ZkJ lk mp ((hc i s hi _ hi2 (Zdf hne hid) (Zde hib)).mono fun r h'' hh=>⟨hh.1,hh.2.trans (by rw[Zgf hne hid,Zer hib])⟩) pt ?_
  refine ms<|wm<|Vw (Zba lk lki)<|sn'<|?_
  refine cd' lk (fun hc2=>?_) (fun hc2=>?_)
  ·have hE:=Zoi hi3 hi hc2
   refine wm<|mr<|Zaq<|Zah<|Zah<|Zaq<|Zah<|Zae rz<|?_
   exact⟨_,[],rfl,ZaS hn,hS2,rfl,by rw[hE],by rw[hE]⟩
  have hE:(f s l[i]).2=0:=Decidable.of_not_not hc2
  refine ZaB<|Zau<|Zan<|Zap<|?_
  refine ad<|mw<|Zam<|Zaz<|?_
  refine lT' (⟨i+1,(f s l[i]).1⟩) (by (try dsimp only);exact⟨by omega,hI i s hi hi2 hE,Zvy hi3 hi hE⟩)
 have hE:=Zoh hi3 (show l.length≤i by omega)
 refine Zay<|Zar<|Zar<|ZaN<|Zan<|wo<|Zae rz<|?_
 exact⟨_,[],rfl,ZaS hn,Zd3 hlt (ZgQ hKl) ZgJ,rfl,by rw[hE],by rw[hE]⟩
theorem eachP_a {f:Tbs→NPt→Tbs×Int}{I:Nat→Tbs→Prop}{l:List NPt}{s0:Tbs}{fl:Bool}{lw:AV}{K R F:Nat}{h:AH}(hK:h[K]?=some (kE R lw s0)) (hR:h[R]?=some (rE s0)) (hne:K≠R) (h0:I 0 s0)
  (hI : ∀ i s (hi:i<l.length),I i s→(f s l[i]).2=0→I (i+1) (f s l[i]).1)
  (hc : ∀ i s (hi:i<l.length) (h:AH),I i s→h[K]?=some (kE R lw s)→h[R]?=some (rE s)→ACalls Tryz.prog F [.ptr K 0 0,.agg (nptC l[i])] h fun r h'=>r=.ret (iv (f s l[i]).2)∧h'=(h.set K (kE R lw (f s l[i]).1)).set R (rE (f s l[i]).1)) :
  ACalls Tryz.prog 126 [.sl l.length 7 fl (rows nptC l),.bnd (.func F) [.ptr K 0 0]] h fun x h'=>x=.ret (iv (runS f s0 l).2)∧h'=(h.set K (kE R lw (runS f s0 l).1)).set R (rE (runS f s0 l).1):=by
 have hid:K<h.length:=(List.getElem?_eq_some_iff.1 hK).1
 have hib:R<h.length:=(List.getElem?_eq_some_iff.1 hR).1
 refine tJ' k126 fun N hn hlt _ hbd=>?_
 simp only[tb'] at hbd ⊢
 have hKl:=hlt _ (List.mem_of_getElem? hK)
 refine ZfQ (h1:=(h.set K (kE R lw s0)).set R (rE s0)++[]) (by rw[Zfb hK hR]) ?_
 refine wk'<|Zac<|wm<|Vw (ZaA lk)<|ms<|Zaf<|?_
 refine ZgD (ι:=Nat×Tbs) (fun (x_:Nat×Tbs)=>match x_ with | ⟨i,s⟩=>[(10,iv (i:Int)),(4,.any),(6,.any),(7,.any)]++rn' 11 10) (fun (x_:Nat×Tbs)=>match x_ with | ⟨i,s⟩=>(h.set K (kE R lw s)).set R (rE s)++[]) (fun (x_:Nat×Tbs)=>match x_ with | ⟨i,s⟩=>i≤l.length∧I i s∧atS f s0 l i s) (fun (x_:Nat×Tbs)=>match x_ with | ⟨i,s⟩=>l.length-i) (⟨0,s0⟩) (by exact⟨Nat.zero_le _,h0,atS_0 f s0 l⟩) (by try simp only[sm',Nat.reduceAdd];exact ALe.same wA' rfl) ?_
 rintro⟨i,s⟩ hi1
 try simp only[sm',Nat.reduceAdd]
 obtain⟨hi1,hi2,hi3⟩:=hi1
 refine wr'<|Vw (ZaO lk lk)<|sn'<|Zac<|?_
 refine cd' lk (fun hc1=>?_) (fun hc1=>?_)
 ·have hi:i<l.length:=by omega
  have hS2 : ∀ x∈(h.set K (kE R lw (f s l[i]).1)).set R (rE (f s l[i]).1),x.lt N=true:=Zd3 hlt (ZgQ hKl) ZgJ
  refine za<|Zac<|Zaf<|wr'<|?_
  refine V' (ZaJ lk lk ZpF nb ro om ro rfl) pt ?_
  refine Vw (Zas lk ZvT rfl)<|E' (ZaV (hl0 (ZaS hn)) ha0) pt<|E' (Zai lk cv (hga (ZaS hn) rfl) rfl nb rfl Zr3 (hs0 (ZaS hn))) ptn<|sn'<|wm<|Vw (Zag lk (hga (ZaS hn) rfl) Zr1 rfl)<|?_
  refine ZkJ lk mp ((hc i s hi _ hi2 (Zdf hne hid) (Zde hib)).mono fun r h'' hh=>⟨hh.1,hh.2.trans (by rw[Zgf hne hid,Zer hib])⟩) pt ?_
  refine ms<|wm<|Vw (Zba lk lki)<|sn'<|?_
  refine cd' lk (fun hc2=>?_) (fun hc2=>?_)
  ·have hE:=Zoi hi3 hi hc2
   refine wm<|mr<|Zaq<|Zah<|Zah<|Zaq<|Zah<|Zae rz<|?_
   exact⟨_,_,rfl,ZaS hn,hS2,rfl,by rw[hE],by rw[hE]⟩
  have hE:(f s l[i]).2=0:=Decidable.of_not_not hc2
  refine ZaB<|Zau<|Zan<|Zap<|?_
  refine ad<|mw<|Zam<|Zaz<|?_
  refine lU' (⟨i+1,(f s l[i]).1⟩) (by (try dsimp only);exact⟨by omega,hI i s hi hi2 hE,Zvy hi3 hi hE⟩) (by refine zz ?_;exact bk' 0 (ZaS hn) hS2)
 have hE:=Zoh hi3 (show l.length≤i by omega)
 refine Zay<|Zar<|Zar<|ZaN<|Zan<|wo<|Zae rz<|?_
 exact⟨_,[],rfl,ZaS hn,Zd3 hlt (ZgQ hKl) ZgJ,rfl,by rw[hE],by rw[hE]⟩
theorem eachN_a {f:Tbs→Nam→Tbs×Int}{I:Nat→Tbs→Prop}{l:List Nam}{s0:Tbs}{fl:Bool}{lw:AV}{K R F:Nat}{h:AH}(hK:h[K]?=some (kE R lw s0)) (hR:h[R]?=some (rE s0)) (hne:K≠R) (h0:I 0 s0)
  (hI : ∀ i s (hi:i<l.length),I i s→(f s l[i]).2=0→I (i+1) (f s l[i]).1)
  (hc : ∀ i s (hi:i<l.length) (h:AH),I i s→h[K]?=some (kE R lw s)→h[R]?=some (rE s)→ACalls Tryz.prog F [.ptr K 0 0,.agg (namC l[i])] h fun r h'=>r=.ret (iv (f s l[i]).2)∧h'=(h.set K (kE R lw (f s l[i]).1)).set R (rE (f s l[i]).1)) :
  ACalls Tryz.prog 128 [.sl l.length 5 fl (rows namC l),.bnd (.func F) [.ptr K 0 0]] h fun x h'=>x=.ret (iv (runS f s0 l).2)∧h'=(h.set K (kE R lw (runS f s0 l).1)).set R (rE (runS f s0 l).1):=by
 have hid:K<h.length:=(List.getElem?_eq_some_iff.1 hK).1
 have hib:R<h.length:=(List.getElem?_eq_some_iff.1 hR).1
 refine tJ' k128 fun N hn hlt _ hbd=>?_
 simp only[tb'] at hbd ⊢
 have hKl:=hlt _ (List.mem_of_getElem? hK)
 refine ZfQ (h1:=(h.set K (kE R lw s0)).set R (rE s0)++[]) (by rw[Zfb hK hR]) ?_
 refine wk'<|Zac<|wm<|Vw (ZaA lk)<|ms<|Zaf<|?_
 refine ZgD (ι:=Nat×Tbs) (fun (x_:Nat×Tbs)=>match x_ with | ⟨i,s⟩=>[(10,iv (i:Int)),(4,.any),(6,.any),(7,.any)]++rn' 11 10) (fun (x_:Nat×Tbs)=>match x_ with | ⟨i,s⟩=>(h.set K (kE R lw s)).set R (rE s)++[]) (fun (x_:Nat×Tbs)=>match x_ with | ⟨i,s⟩=>i≤l.length∧I i s∧atS f s0 l i s) (fun (x_:Nat×Tbs)=>match x_ with | ⟨i,s⟩=>l.length-i) (⟨0,s0⟩) (by exact⟨Nat.zero_le _,h0,atS_0 f s0 l⟩) (by try simp only[sm',Nat.reduceAdd];exact ALe.same wA' rfl) ?_
 rintro⟨i,s⟩ hi1
 try simp only[sm',Nat.reduceAdd]
 obtain⟨hi1,hi2,hi3⟩:=hi1
 refine wr'<|Vw (ZaO lk lk)<|sn'<|Zac<|?_
 refine cd' lk (fun hc1=>?_) (fun hc1=>?_)
 ·have hi:i<l.length:=by omega
  have hS2 : ∀ x∈(h.set K (kE R lw (f s l[i]).1)).set R (rE (f s l[i]).1),x.lt N=true:=Zd3 hlt (ZgQ hKl) ZgJ
  refine za<|Zac<|Zaf<|wr'<|?_
  refine V' (ZaJ lk lk ZaL nb ro om ro rfl) pt ?_
  refine Vw (Zas lk ZvU rfl)<|E' (ZaV (hl0 (ZaS hn)) ha0) pt<|E' (Zai lk cv (hga (ZaS hn) rfl) rfl nb rfl Zr4 (hs0 (ZaS hn))) ptn<|sn'<|wm<|Vw (Zag lk (hga (ZaS hn) rfl) Zr2 rfl)<|?_
  refine ZkJ lk mp ((hc i s hi _ hi2 (Zdf hne hid) (Zde hib)).mono fun r h'' hh=>⟨hh.1,hh.2.trans (by rw[Zgf hne hid,Zer hib])⟩) pt ?_
  refine ms<|wm<|Vw (Zba lk lki)<|sn'<|?_
  refine cd' lk (fun hc2=>?_) (fun hc2=>?_)
  ·have hE:=Zoi hi3 hi hc2
   refine wm<|mr<|Zaq<|Zah<|Zah<|Zaq<|Zah<|Zae rz<|?_
   exact⟨_,_,rfl,ZaS hn,hS2,rfl,by rw[hE],by rw[hE]⟩
  have hE:(f s l[i]).2=0:=Decidable.of_not_not hc2
  refine ZaB<|Zau<|Zan<|Zap<|?_
  refine ad<|mw<|Zam<|Zaz<|?_
  refine lU' (⟨i+1,(f s l[i]).1⟩) (by (try dsimp only);exact⟨by omega,hI i s hi hi2 hE,Zvy hi3 hi hE⟩) (by refine zz ?_;exact bk' 0 (ZaS hn) hS2)
 have hE:=Zoh hi3 (show l.length≤i by omega)
 refine Zay<|Zar<|Zar<|ZaN<|Zan<|wo<|Zae rz<|?_
 exact⟨_,[],rfl,ZaS hn,Zd3 hlt (ZgQ hKl) ZgJ,rfl,by rw[hE],by rw[hE]⟩
end
section
open Go.Ab Civ
theorem ZuR {s:Tbs}{d:ByteArray}(h:hasN s.2 d=true):Ziv s d=((s.1,s.2.eraseIdx (idxN s.2 d)),0):=if_pos h
theorem ZuS {s:Tbs}{d:ByteArray}(h:¬hasN s.2 d=true):Ziv s d=(s,5):=if_neg h
theorem putS_y {s:Tbs}{n:Nam}(h:hasN s.2 n.1=true):putS s n=(s,6):=if_pos h
theorem ZtI {s:Tbs}{n:Nam}(h:¬hasN s.2 n.1=true):putS s n=((s.1+1,insN s.2 n),0):=if_neg h
theorem Zpu {s:Tbs}{p:NPt}(h:ZaK s.2 p.1=none):Zck s p=(s,5):=by unfold Zck;rw[h]
theorem Zpt {s:Tbs}{p:NPt}{t:Tab}(h:ZaK s.2 p.1=some t) (he:¬patE t p.2=0):Zck s p=(s,patE t p.2):=by unfold Zck;rw[h];exact if_pos he
theorem Zps {s:Tbs}{p:NPt}{t:Tab}(h:ZaK s.2 p.1=some t) (he:patE t p.2=0):Zck s p=((s.1,s.2.set (idxN s.2 p.1) (p.1,patV t p.2)),0):=by unfold Zck;rw[h];exact if_neg (by simpa using he)
theorem ZkL : ∀ (ds:List ByteArray) (s:Tbs),runS Ziv s ds=((s.1,(Za2 s.2 ds).1),(Za2 s.2 ds).2)
 | [],s=>rfl
 | d::ds,s=>by
  rw[runS,Za2]
  by_cases h:hasN s.2 d=true
  ·rw[ZuR h,if_pos h,if_neg (by simp),ZkL]
  ·rw[ZuS h,if_neg h,if_pos (by simp)]
theorem Zf3 : ∀ (ps:List NPt) (s:Tbs),runS Zck s ps=((s.1,(Zbm patE patV s.2 ps).1),(Zbm patE patV s.2 ps).2)
 | [],s=>rfl
 | p::ps,s=>by
  rw[runS,Zbm]
  cases hk:ZaK s.2 p.1 with
  | none=>rw[Zpu hk,if_pos (by simp)]
  | some t =>
   simp only
   by_cases h:patE t p.2=0
   ·rw[Zps hk h,if_neg (by simp),if_neg (by simpa using h),Zf3]
   ·rw[Zpt hk h,if_pos h,if_pos h]
theorem Ztr : ∀ (ns:List Nam) (s:Tbs),∃ v,runS putS s ns=((v,(ZcH s.2 ns).1),(ZcH s.2 ns).2)
 | [],s=>⟨s.1,rfl⟩
 | n::ns,s=>by
  rw[runS,ZcH]
  by_cases h:hasN s.2 n.1=true
  ·rw[putS_y h,if_pos h,if_pos (by simp)];exact⟨s.1,rfl⟩
  ·rw[ZtI h,if_neg h,if_neg (by simp)];exact Ztr ns (s.1+1,insN s.2 n)
def okTs (s:Tbs):Prop:=okTbs s∧s.2.length≤20
theorem Zt3 {s:Tbs}{d:ByteArray}(h:okTs s):okTs (Ziv s d).1:=by
 by_cases hh:hasN s.2 d=true
 ·rw[ZuR hh]
  refine⟨⟨Zh5 h.1.1 _,fun n hn=>h.1.2 n (List.mem_of_mem_eraseIdx hn)⟩,Nat.le_trans ?_ h.2⟩
  show (s.2.eraseIdx _).length≤_
  rw[List.length_eraseIdx];have:=h.2;split <;> omega
 ·rw[ZuS hh];exact h
theorem ZpA {s:Tbs}{p:NPt}(h:okTs s) (hp:Zt6 p):okTs (Zck s p).1:=by
 cases hk:ZaK s.2 p.1 with
 | none=>rw[Zpu hk];exact h
 | some t =>
  by_cases h0:patE t p.2=0
  ·rw[Zps hk h0]
   have hh:=Zes hk
   have hm:=Zcn hk
   refine⟨⟨Znq h.1.1 hh,fun n hn=>?_⟩,by show (s.2.set _ _).length≤20;rw[List.length_set];exact h.2⟩
   rcases List.mem_or_eq_of_mem_set hn with hn | rfl
   ·exact h.1.2 n hn
   ·have hv:patV t p.2=outT t p.2:=if_pos h0
    have ht:=(h.1.2 _ hm).1
    refine⟨⟨ht.1,by show okT (patV t p.2);rw[hv];exact Zt5 ht.2 hp.2⟩,?_⟩
    show Zbd (patV t p.2)=0
    unfold patE at h0
    split at h0
    ·cases h0
    split at h0
    ·cases h0
    rw[hv];exact h0
  ·rw[Zpt hk h0];exact h
def ZnA (k:Nat) (s:Tbs):Prop:=risN s.2∧(∀ n∈s.2,ZnB n)∧s.2.length≤20+k
theorem ok_put {k:Nat}{s:Tbs}{n:Nam}(h:ZnA k s) (hn:ZnB n):ZnA (k+1) (putS s n).1:=by
 by_cases hh:hasN s.2 n.1=true
 ·rw[putS_y hh];exact⟨h.1,h.2.1,Nat.le_trans h.2.2 om⟩
 ·rw[ZtI hh]
  refine⟨ZkP h.1 (by simpa using hh),fun m hm=>?_,by have:=Zuv s.2 n;have:=h.2.2;show (insN s.2 n).length≤_;omega⟩
  rcases List.mem_append.1 hm with hm | hm
  ·exact h.2.1 m (List.mem_of_mem_take hm)
  ·rcases List.mem_cons.1 hm with rfl | hm
   ·exact hn
   ·exact h.2.1 m (List.mem_of_mem_drop hm)
theorem ok_run {α:Type}{f:Tbs→α→Tbs×Int}{I:Nat→Tbs→Prop}(hI : ∀ i s x,I i s→I (i+1) (f s x).1 ) (hw : ∀ i j s,i≤j→I i s→I j s) : ∀ (l:List α) (i:Nat) (s:Tbs),I i s→I (i+l.length) (runS f s l).1
 | [],i,s,h=>h
 | x::l,i,s,h=>by
  rw[runS]
  split
  ·exact hw (i+1) _ _ (by rw[List.length_cons];omega) (hI i s x h)
  ·have:=ok_run hI hw l (i+1) _ (hI i s x h)
   rwa [show i+(x::l).length=i+1+l.length by rw[List.length_cons];omega]
end
section
open Go.Ab Go.RowKit Civ
attribute [local simp] Zbi Zc1 Zbv Zhm ZcL
section
theorem Zjl {τ:Operand→AV}{y0:Operand}{x0_0:AV}(h0:Zao (τ y0)=some [x0_0]) (l0:[x0_0].all leaf=true):Zak τ [(1,1,y0)] [(.sl 0 0 true []),(.sl 0 0 true [])]=some [(.sl 0 0 true []),x0_0]:=by
 simp only[Zak,h0,l0]
 rfl
theorem Zjk {τ:Operand→AV}{y0:Operand}{x0_0 x0_1:AV}(h0:Zao (τ y0)=some [x0_0,x0_1]) (l0:[x0_0,x0_1].all leaf=true):Zak τ [(0,2,y0)] [(.sl 0 0 true []),(.sl 0 0 true [])]=some [x0_0,x0_1]:=by
 simp only[Zak,h0,l0]
 rfl
theorem ZmO {a0 a1 a2 a3 a4:AV}{l:List AV}:(a0::a1::a2::a3::a4::l).take 5=[a0,a1,a2,a3,a4]:=rfl
theorem Zsg {a0 a1 a2 a3 a4 c0 c1 c2 c3 c4:AV}{l:List AV}:setCells (a0::a1::a2::a3::a4::l) 0 [c0,c1,c2,c3,c4]=c0::c1::c2::c3::c4::l:=rfl
theorem Zse {a0 a1 a2 a3 a4:AV}{l:List AV}:((a0::a1::a2::a3::a4::l).drop 1).take 4=[a1,a2,a3,a4]:=rfl
theorem ZiX {τ:Operand→AV}{y0 y1:Operand}{x0_0 x1_0 x1_1 x1_2 x1_3:AV}(h0:Zao (τ y0)=some [x0_0]) (l0:[x0_0].all leaf=true) (h1:Zao (τ y1)=some [x1_0,x1_1,x1_2,x1_3]) (l1:[x1_0,x1_1,x1_2,x1_3].all leaf=true):Zak τ [(0,1,y0),(1,4,y1)] [(.v (.string ⟨#[]⟩)),(iv 0),(iv 0),(.v (.string ⟨#[]⟩)),(.sl 0 0 true [])]=some [x0_0,x1_0,x1_1,x1_2,x1_3]:=by
 simp only[Zak,h0,l0,h1,l1]
 rfl
theorem ZiW {τ:Operand→AV}{y0:Operand}{x0_0 x0_1 x0_2 x0_3 x0_4:AV}(h0:Zao (τ y0)=some [x0_0,x0_1,x0_2,x0_3,x0_4]) (l0:[x0_0,x0_1,x0_2,x0_3,x0_4].all leaf=true):Zak τ [(0,5,y0)] [(.v (.string ⟨#[]⟩)),(iv 0),(iv 0),(.v (.string ⟨#[]⟩)),(.sl 0 0 true [])]=some [x0_0,x0_1,x0_2,x0_3,x0_4]:=by
 simp only[Zak,h0,l0]
 rfl
theorem ZvW { e:Ent}:([]:AH)++[e]=[e]:=rfl
theorem Zsi {e0 e1 e2 e3 e4 e5 d0:Ent}:([e0,e1,e2,e3,e4,e5]:AH)++[d0]=[e0,e1,e2,e3,e4,e5,d0]:=rfl
theorem Zsh {a0 c0:AV}{l:List AV}:setCells (a0::l) 0 [c0]=c0::l:=rfl
theorem ZbR {a0 a1:AV}{l:List AV}:((a0::a1::l).drop 0).take 2=[a0,a1]:=rfl
theorem ZcG {τ:Operand→AV}:Zak τ [] [(.sl 0 0 true []),(.sl 0 0 true [])]=some [(.sl 0 0 true []),(.sl 0 0 true [])]:=rfl
theorem ZcT {a0 a1 c0 c1:AV}{l:List AV}:setCells (a0::a1::l) 0 [c0,c1]=c0::c1::l:=rfl
theorem Zln {τ:Operand→AV}:Zak τ [] [(.sl 0 0 true []),(.sl 0 0 true [])]=some [(.sl 0 0 true []),(.sl 0 0 true [])]:=rfl
theorem Zsf {a0 a1 a2 a3:AV}{l:List AV}:((a0::a1::a2::a3::l).drop 0).take 4=[a0,a1,a2,a3]:=rfl
end
def c62:AC:=(Sr [Oo 2 (.box 25 2 (t 0)),Oo 3 (.box 30 4 (t 1)),Oo 4 (.new 25 2 [nl,nl]),Mc 5 0] (Sr [Fa 10 3 3,Ld 11 10,Cl 12 47 [(t 11)],Oo 13 (.build [nl,nl] [(1,(1,(t 12)))]),Oo 14 (.build [nl,nl] [(0,(2,(t 13)))]),Oo 15 (.box 184 2 (t 14)),Mv 6 15] (.seq (Sr [Fa 16 0 2,Ld 17 16,Oo 18 (.len false (t 17)),Mc 19 0] (.block 0 (.loop (Sr [Bn 20 .lss 19 18] (.seq (Cd 20 .skip (.exit 0)) (.seq (.block 1 (Sr [Oo 21 (.ia 5 (t 17) (t 19)),Oo 22 (.load true 5 (t 21)),Oo 8 (.new 40 5 [Ss,(iv 0),(iv 0),Ss,nl]),⟨none,none,(.store 5 (t 8) (t 22))⟩] (.drw [Mv 23 6,Mv 24 6,Nk 25 24,Fa 26 0 25,Fa 27 0 26,Ld 28 27,Fa 29 0 8,Ld 30 29,Fa 31 1 8,Oo 32 (.load true 4 (t 31)),Cl 33 44 [(t 32)],Oo 34 (.build [Ss,(iv 0),(iv 0),Ss,nl] [(0,(1,(t 30))),(1,(4,(t 33)))]),Oo 35 (.lit 40 5 1 [Ss,(iv 0),(iv 0),Ss,nl] [(0,(5,(t 34)))])] [false,false,false,false,false] [Oo 36 (.app 40 5 72 (t 28) (t 35)),Nk 37 23,Fa 38 0 37,Fa 39 0 38,Sc 39 36]))) (.reg [Bc 40 .add 19 1,Mv 19 40]))))))) (Sr [Fa 41 0 3,Ld 42 41,Mv 43 6,Oo 44 (.mkbd 125 [(t 43)]),Cl 45 124 [(t 42),(t 44)],Mv 9 45] (.seq (Sr [Mv 46 9,Bc 47 .eql 46 0] (Cd 47 (.reg [Fa 48 2 3,Ld 49 48,Mv 50 6,Oo 51 (.mkbd 127 [(t 50)]),Cl 52 126 [(t 49),(t 51)],Mv 9 52]) .skip)) (.seq (Sr [Mv 53 9,Bc 54 .eql 53 0] (Cd 54 (.reg [Fa 55 1 3,Ld 56 55,Mv 57 6,Oo 58 (.mkbd 129 [(t 57)]),Cl 59 128 [(t 56),(t 58)],Mv 9 59]) .skip)) (.seq (Sr [Mv 60 9,Bc 61 .eql 60 0] (Cd 61 (.reg [Mv 62 6,Nk 63 62,Fa 64 0 63,Oo 65 (.load true 2 (t 64)),Cl 66 17 [(t 65)],Mv 9 66]) .skip)) (.seq (Sr [Mv 67 9,Bc 68 .neq 67 0] (Cd 68 (Sr [Oo 69 (.build [nl,nl] []),Mv 70 9,⟨none,none,(.store 2 (t 4) (t 69))⟩,Mv 5 70] .ret) .skip)) (Sr [Mv 71 6,Nk 72 71,Fa 73 0 72,Oo 74 (.load true 2 (t 73)),⟨none,none,(.store 2 (t 4) (t 74))⟩,Mc 5 0] .ret)))))))))
theorem k62:Zaw Tryz.prog 62=some ⟨c62,[(.cell 4 true 2),(.tmp 5)],75⟩:=by kernel_rfl
def c18:AC:=(Sr [Oo 2 (.box 25 2 (t 0)),Oo 3 (.box 30 4 (t 1)),Oo 4 (.new 25 2 [nl,nl]),Mc 5 0] (.seq (Sr [Oo 7 (.load true 2 (t 2)),Cl 8 17 [(t 7)],Mv 6 8] (Sr [Mv 9 6,Bc 10 .neq 9 0] (Cd 10 (Sr [Oo 11 (.build [nl,nl] []),Mv 12 6,⟨none,none,(.store 2 (t 4) (t 11))⟩,Mv 5 12] .ret) .skip))) (Sr [Oo 13 (.load true 2 (t 2)),Oo 14 (.load true 4 (t 3)),Cl 15 62 [(t 13),(t 14)],Ex 16 15 0,Ex 17 15 1,⟨none,none,(.store 2 (t 4) (t 16))⟩,Mv 5 17] .ret)))
theorem k18:Zaw Tryz.prog 18=some ⟨c18,[(.cell 4 true 2),(.tmp 5)],18⟩:=by kernel_rfl
def okUpd (u:Upd):Prop:=(∀ n∈u.2.1,ZnB n∧n.2.2.length≤3518437208883)∧(∀ p∈u.2.2.1,Zt6 p)∧(∀ l∈u.2.2.2,l.1.size≤maxLen∧l.2.size≤maxLen)∧u.2.1.length≤1960000000000∧u.2.2.2.length≤4398046511104
def ZdV (r:Rel) (u:Upd):List Nam×Int :=
 if (Za2 r.1 u.1).2≠0 then ((Za2 r.1 u.1).1,(Za2 r.1 u.1).2)
 else if (Zbm patE patV (Za2 r.1 u.1).1 u.2.2.1).2≠0 then Zbm patE patV (Za2 r.1 u.1).1 u.2.2.1
 else ZcH (Zbm patE patV (Za2 r.1 u.1).1 u.2.2.1).1 u.2.1
theorem Zkv {r:Rel}{u:Upd}(h:(ZdV r u).2≠0):updV r u=(rel0,(ZdV r u).2):=by
 unfold ZdV at h ⊢
 unfold updV
 split at h
 ·rename_i h1;rw[if_pos h1,if_pos h1]
 rename_i h1
 rw[if_neg h1,if_neg h1]
 split at h
 ·rename_i h2;rw[if_pos h2,if_pos h2]
 rename_i h2
 rw[if_neg h2,if_neg h2,if_pos h]
theorem updV_ok {r:Rel}{u:Upd}(h:(ZdV r u).2=0):updV r u=if ZaU ((ZdV r u).1,u.2.2.2)≠0 then (rel0,ZaU ((ZdV r u).1,u.2.2.2)) else (((ZdV r u).1,u.2.2.2),0):=by
 unfold ZdV at h ⊢
 unfold updV
 split at h
 ·rename_i h1;exact absurd h h1
 rename_i h1
 rw[if_neg h1,if_neg h1]
 split at h
 ·rename_i h2;exact absurd h h2
 rename_i h2
 rw[if_neg h2,if_neg h2,if_neg (by simpa using h)]
theorem drops_a {v:Nat}{l:List Nam}{ds:List ByteArray}{fl:Bool}{lw:AV}{K R:Nat}{h:AH}(hK:h[K]?=some (kE R lw (v,l))) (hR:h[R]?=some (rE (v,l))) (hne:K≠R) (hs:okTs (v,l)) :
  ACalls Tryz.prog 124 [.sl ds.length 1 fl (rows strC ds),.bnd (.func 125) [.ptr K 0 0]] h fun x h'=>x=.ret (iv (Za2 l ds).2)∧h'=(h.set K (kE R lw (v,(Za2 l ds).1))).set R (rE (v,(Za2 l ds).1)):=by
 have:=eachS_a (f:=Ziv) (I:=fun _ s=>okTs s) (l:=ds) (fl:=fl) hK hR hne hs (fun i s hi h1 _=>Zt3 h1) (fun i s hi h h1 h2 h3=>drop_a h2 h3 hne h1.1 (by have:=h1.2;omega))
 rw[ZkL] at this
 exact this
theorem ZtV {v:Nat}{l:List Nam}{ps:List NPt}{fl:Bool}{lw:AV}{K R:Nat}{h:AH}(hK:h[K]?=some (kE R lw (v,l))) (hR:h[R]?=some (rE (v,l))) (hne:K≠R) (hs:okTs (v,l)) (hp : ∀ p∈ps,Zt6 p) :
  ACalls Tryz.prog 126 [.sl ps.length 7 fl (rows nptC ps),.bnd (.func 127) [.ptr K 0 0]] h fun x h'=>x=.ret (iv (Zbm patE patV l ps).2)∧h'=(h.set K (kE R lw (v,(Zbm patE patV l ps).1))).set R (rE (v,(Zbm patE patV l ps).1)):=by
 have:=eachP_a (f:=Zck) (I:=fun _ s=>okTs s) (l:=ps) (fl:=fl) hK hR hne hs (fun i s hi h1 _=>ZpA h1 (hp _ (List.getElem_mem hi))) (fun i s hi h h1 h2 h3=>patch_a h2 h3 hne h1.1 (by have:=h1.2;omega) (hp _ (List.getElem_mem hi)))
 rw[Zf3] at this
 exact this
def putsV (v:Nat) (l ns:List Nam):Nat:=(runS putS (v,l) ns).1.1
theorem run_put' (v:Nat) (l ns:List Nam):runS putS (v,l) ns=((putsV v l ns,(ZcH l ns).1),(ZcH l ns).2):=by
 obtain⟨w,hw⟩:=Ztr ns (v,l)
 unfold putsV
 rw[hw]
end
end Go.Proofs.YtfoipaclphdodaaGreatDoor
