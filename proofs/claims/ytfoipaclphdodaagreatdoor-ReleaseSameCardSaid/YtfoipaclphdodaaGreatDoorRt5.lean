/-
  Part 5 of the proof: own lemmas and contracts on plain data. No condition beyond those that each lemma states.
-/
import Derived.Test.YtfoipaclphdodaaGreatDoorRt4
import Derived.Test.YtfoipaclphdodaaGreatDoorCards
import Derived.Test.YtfoipaclphdodaaGreatDoorTie
import Derived.Lay
import Derived.Handed
import Derived.SizedLaws
import Derived.Shelf.Vars
import Derived.SevenTiedAt
import Derived.LaidSub
import Derived.MakeChecks
set_option linter.all false
set_option maxRecDepth 1000000
set_option maxHeartbeats 4000000
namespace Go.Proofs.YtfoipaclphdodaaGreatDoor
section
open Go.Ab Go.RowKit Civ
attribute [local simp] Zbu Zfu ZbM ZbR Zcg Zb1
theorem rmake_a {a:List Rul}{z:List Zon}{k:List Lnk}{h:AH}(hok:Zf8 (a,z,k)) :
  Ac 15 [.agg (srcB a z k)] h (.tup [.agg (relC (Zcv (a,z,k)).1),iv (Zcv (a,z,k)).2]):=by
 refine tUW' k15 fun N hn hlt _ hbd=>?_
 simp only[tb'] at hbd ⊢
 refine wr'<|E' (ZaR cv rfl hl0 ha0) pt<|E' (ZaT hl1 ha1) pt<|ms<|wr'<|Vw (Zah lk gx Zg7 rfl)<|Zab mp (Zto hok) pt<|ms<|?_
 refine Zac<|wm<|Vw (Za0 lk lki)<|sn'<|?_
 refine cd' lk (fun hc1=>?_) (fun hc1=>?_)
 ·have hM:Zcv (a,z,k)=(rel0,Zbf (a,z,k)):=if_pos hc1
  refine wr'<|Vw (Zaw Zls)<|mw<|E' (Zak lk cv gx rfl nb rfl Zg8 hs1) ptn<|mr<|Zae<|Zad (rsn (rm1 (rr_c gt gx (ld1 Zfk rfl)) (rm1 (rr_t gt) rm0)))<|rtW'<|?_
  rw[hM];exact Zkx
 have h0:Zbf (a,z,k)=0:=Decidable.of_not_not hc1
 obtain⟨n1,n2,n3⟩:=Zd8 h0
 have hchk:=Ze8 h0
 obtain⟨q1,q2,q3,q4,q5,q6,q7⟩:=Zci hchk
 simp only at q1 q2 q3 q4 q5 q6 q7 n1 n2
 have hpz:=ZcD n1
 have hzl:=hpz.length_eq
 have hzs : ∀ x∈z,x.1.size≤maxLen:=fun x hx=>(hok.2.1 x hx).1
 refine za<|wr'<|E' (ZaT hl2 ha2) pt<|Zal<|?_
 refine ZaO (ALe.trans (ALe.own0Cell (st':=5) (ty:=40) gx gt0 hl3 pt0 (Eq.trans (congrArg (fun z=>List.set z _ _) ha3) hs2)) (ALe.own0Cell (st':=2) (ty:=97) gx gt1 hl4 pt1 (Eq.trans (congrArg (fun z=>List.set z _ _) ha4) hs2))) ?_
 refine Zac<|wk'<|Zag<|?_
 refine w_lp (ι:=Nat×Nat) (fun (x_:Nat×Nat)=>match x_ with | ⟨i,v⟩=>[(6,iv (i:Int))]++rn' 18 18) (fun (x_:Nat×Nat)=>match x_ with | ⟨i,v⟩=>[(2,.mk 0 25 2 [.own (N+3) v (Zh0 (z.take i)).length,.own (N+4) 0 0]),(3,.mk v 40 5 (rows namC (Zh0 (z.take i))))]) (fun (x_:Nat×Nat)=>match x_ with | ⟨i,v⟩=>i≤z.length) (fun (x_:Nat×Nat)=>match x_ with | ⟨i,v⟩=>z.length-i) (⟨0,0⟩) (by exact Nat.zero_le _) ?_
 rintro⟨i,v⟩ hi1
 try simp only[sm',Nat.reduceAdd]
 replace hi1:i≤z.length:=hi1
 have htl:=ZsL (z.take i)
 rw[List.length_take] at htl
 refine Zac<|wm<|fq<|Vw (Zaa lk gx gt1)<|Vw (ZaC lk)<|Vw (ZaL lk lk)<|sn'<|?_
 refine cd' lk (fun hc2=>?_) (fun hc2=>?_)
 ·have hi:i<z.length:=by omega
  have hst:=Zqs hi
  refine za<|Zac<|Zag<|Zss<|uf (Zjx lk)<|?_
  refine u_rdn rfl (Zaa lk gx gt0) (hx_l rfl) hl5 nh pt ?_
  refine u_fr rfl (Zjx lk) pt ?_
  refine u_rdn rfl (Zaa lk gx gt1) (hx_l rfl) hl5 nh pt ?_
  refine u_fr rfl vm pt ?_
  refine u_fr rfl (ZaF lk lk Zbm nb ro om ro rfl) pt ?_
  refine uf (ZaQ lk dp0)<|uf (Zar lk gt)<|uf (Zaw (Zjo cv rfl))<|?_
  refine Zkz mp gx (fun hU hUe=>ACalls.wk (wk1 rfl (wkw (Wk.agg (wk1 rfl (wk1 rfl (wk1 rfl (wk1 rfl (wkw Wk.nilF wk0)))))) wk0)) (rput_t (n:=nz z[i]) hUe om (tabs1_sz hzs))) nh hs3 pt ?_
  refine u_fr rfl (Zjx lk) pt ?_
  refine u_st (Zak lk cv gx rfl nb rfl Zr4 hs2) lk nh ptn ?_
  refine u_nil<|Zav<|Zam<|Zaq<|mw<|?_
  refine ad<|mw<|Zal<|Zaz<|?_
  refine lU' (⟨i+1,v+1⟩) (by (try dsimp only);omega) (by refine zz ?_;exact ALe.same wA' (by rw[hst,Zk3]))
 have hT:Zh0 (z.take i)=(srtN z).map nz:=by rw[List.take_of_length_le (show z.length≤i by omega)];exact tabs1_eq n1
 rw[hT]
 refine Zay<|Zas<|Zas<|ZaI<|Zam<|Zac<|wk'<|Zag<|?_
 refine w_lp (ι:=Nat) (fun (i:Nat)=>[(7,iv (i:Int)),(3,.any),(8,.any),(9,.any)]++rn' 36 34) (fun (i:Nat)=>[(2,.mk 0 25 2 [.own (N+3) v (tab2 (a,z,k) (srtN z) i).length,.own (N+4) 0 0]),(3,.mk v 40 5 (rows namC (tab2 (a,z,k) (srtN z) i)))]) (fun (i:Nat)=>i≤(srtN z).length∧errT (a,z,k) (srtN z)=errT (a,z,k) ((srtN z).drop i)) (fun (i:Nat)=>(srtN z).length-i) (0) (by exact⟨Nat.zero_le _,rfl⟩) ?_
 rintro i hi2
 try simp only[sm',Nat.reduceAdd]
 obtain⟨hi1,hi2⟩:=hi2
 have htl:=ZfV (a,z,k) (srtN z) i
 refine Zac<|wm<|fq<|Vw (Zaa lk gx gt0)<|Vw (ZbQ lk)<|Vw (ZaL lk lk)<|sn'<|?_
 refine cd' lk (fun hc3=>?_) (fun hc3=>?_)
 ·have hi:i<(srtN z).length:=by omega
  have hmem:=hpz.mem_iff.1 (List.getElem_mem hi)
  obtain⟨p,hp,hpl,hpe⟩:=ZtB n1 hmem
  have hnm:((tab2 (a,z,k) (srtN z) i)[i]'(by omega)).1=(srtN z)[i].1:=by rw[ZsQ hi];rfl
  have hst:=ZsP (s:=(a,z,k)) hi
  unfold errT at hi2
  rw[Zco hi,←hpe] at hi2
  rw[←hpe] at hst
  refine za<|Zac<|Zag<|Zac<|ZaJ<|Dw (Zah lk gx Zg7 rfl)<|dg<|Dw (Zaa lk gx gt1)<|Dw (Zah lk gx Zg7 rfl)<|dg<|Dw (Zaa lk gx gt0)<|Dw vm<|?_
  refine D' (ZaW lk lk gx Za8 nb ro om (by first | rfl | (simp;done) | omega)) pt ?_
  refine D' (Zbc lk) pt ?_
  refine D' (Zcd lk gx Za8 om nb gt0) pt ?_
  refine ZaD mp (fun hE hX=>ZlU om) pt ?_
  rw[hnm,hpl]
  refine D' (ZaF (k:=p) lk lk Zbm nb ro om ro rfl) pt ?_
  refine D' (Zau lk Zi3 rfl) pt ?_
  refine ZaD mp (fun hE hX=>ZqB (k:=k) (Zij hok) om (Zdd hchk (List.getElem_mem hp))) pt ?_
  refine Dw vm<|Dw (ZaS lk gt)<|Dw (ZaS lk gt)<|Zc3 rfl rfl (hlk hn rfl) (Zk1) pt Zm4<|ZaM<|?_
  refine Zc2 Zkq ?_
  refine E' (Zak lk cv gx rfl nb rfl Zr3 hs5) ptn<|ms<|Zac<|wm<|Vw (Za0 lk lki)<|sn'<|?_
  refine cd' lk (fun hc4=>?_) (fun hc4=>?_)
  ·have hv:(ofV (a,z,k) z[p]).2≠0:=hc4
   rw[if_pos hv] at hi2
   have hM:=Zmj h0 hi2 hv
   refine wr'<|Vw (Zaw Zjn)<|mw<|E' (Zak lk cv gx rfl nb rfl Zg8 hs1) ptn<|mr<|Zae<|Zao<|Zae<|Zae<|Zao<|?_
   refine Zae<|Zad (rsn (rm1 (rr_c gt gx (ld1 Zfk rfl)) (rm1 (rr_t gt) rm0)))<|rtW'<|?_
   rw[hM];exact Zkx
  have hv:¬(ofV (a,z,k) z[p]).2≠0:=hc4
  rw[if_neg hv] at hi2
  refine za<|Zaq<|fq<|Vw (Zaa lk gx gt0)<|mw<|Vw (Zah lk gx Zr1 rfl)<|?_
  refine V' (ZaW lk lk gx Za8 nb ro om (by first | rfl | (simp;done) | omega)) pt ?_
  refine V' (Zbc lk) pt ?_
  refine E' (e_stNT (tb:=(ofV (a,z,k) z[p]).1) lk cv gx om hs3) ptn ?_
  refine Zal<|Zav<|Zam<|Zaq<|mw<|?_
  refine ad<|mw<|Zal<|Zaz<|?_
  refine lU' (i+1) (by (try dsimp only);exact⟨by omega,hi2⟩) (by refine zz ?_;exact bk' 5 hn hlt (by rw[hst,ZfV,ZfV];rfl) (hT:=by simp[AV.lt,AV.ltL,Ent.lt]) (hE:=by simp[AV.lt,AV.ltL,Ent.lt]))
 obtain rfl:i=(srtN z).length:=by omega
 rw[List.drop_of_length_le (Nat.le_refl _)] at hi2
 have hM:=ZpJ h0 hi2
 rw[tab2_end,ZdB]
 refine Zay<|Zas<|Zas<|ZaI<|Zam<|Zac<|wk'<|Zag<|?_
 refine w_lp (ι:=Nat×List Lnk×Nat) (fun (x_:Nat×List Lnk×Nat)=>match x_ with | ⟨i,M,w⟩=>[(10,iv (i:Int)),(11,.any)]++rn' 70 59) (fun (x_:Nat×List Lnk×Nat)=>match x_ with | ⟨i,M,w⟩=>[(2,.mk 0 25 2 [.own (N+3) v (srtN z).length,.own (N+4) w M.length]),(4,.mk w 97 2 (rows lnkC M))]) (fun (x_:Nat×List Lnk×Nat)=>match x_ with | ⟨i,M,w⟩=>i≤k.length∧M.Perm (k.take i)∧M.Pairwise leL) (fun (x_:Nat×List Lnk×Nat)=>match x_ with | ⟨i,M,w⟩=>k.length-i) (⟨0,[],0⟩) (by exact⟨Nat.zero_le _,List.Perm.refl _,.nil⟩) ?_
 rintro⟨i,M,w⟩ hi3
 try simp only[sm',Nat.reduceAdd]
 obtain⟨hm1,hm2,hm3⟩:=hi3
 have hML:=hm2.length_eq
 rw[List.length_take] at hML
 refine Zac<|wm<|fq<|Vw (Zaa lk gx gt2)<|Vw (ZaC lk)<|Vw (ZaL lk lk)<|sn'<|?_
 refine cd' lk (fun hc5=>?_) (fun hc5=>?_)
 ·have hi:i<k.length:=by omega
  refine za<|Zac<|Zag<|Zac<|ZaJ<|dg<|Dw (Zaa lk gx gt1)<|dg<|Dw (Zaa lk gx gt2)<|Dw vm<|?_
  refine D' (ZaF lk lk Za9 nb ro om ro rfl) pt ?_
  refine Dw (Zau lk Zi3 rfl)<|Zc3 rfl rfl (hlk hn rfl) (Zgb (Zjm cv rfl)) pt Zm4<|ZaM<|?_
  refine Zc2 Zkq ?_
  refine E' (ZbH (Zbn lk gx rfl Zi3 nb) lk gx (Zd9 _) om rfl hs4) pt ?_
  refine fq<|E' (Zak lk cv gx rfl nb rfl Zr2 hs2) ptn<|sn'<|wm<|ms<|Zag<|?_
  refine Zds (ι:=Nat×List Lnk) (fun (x_:Nat×List Lnk)=>match x_ with | ⟨q,K⟩=>[(11,iv (q:Int))]++rn' 88 41) (fun (x_:Nat×List Lnk)=>match x_ with | ⟨q,K⟩=>[(2,.mk 0 25 2 [.own (N+3) v (srtN z).length,.own (N+4) (w+1) K.length]),(4,.mk (w+1) 97 2 (rows lnkC K))]) (fun (x_:Nat×List Lnk)=>match x_ with | ⟨q,K⟩=>q≤i∧K.Perm (k.take (i+1))∧insR leL i q K) (fun (x_:Nat×List Lnk)=>match x_ with | ⟨q,K⟩=>q) (⟨i,M++[k[i]]⟩) (by exact⟨Nat.le_refl _,(by rw[List.take_succ_eq_append_getElem hi];exact hm2.append_right _),ZgR (by rw[List.length_append,List.length_singleton];omega) (by rw[List.take_left' om];exact hm3)⟩) (by try simp only[sm',Nat.reduceAdd];exact ALe.same wA' (by first | (rw[ZaH,List.length_append];done) | (rw[ZaH,List.length_append];rfl))) ?_
  rintro⟨q,K⟩ hi4
  try simp only[sm',Nat.reduceAdd]
  obtain⟨hq1,hq2,hq3⟩:=hi4
  have hKL:=hq2.length_eq
  rw[List.length_take] at hKL
  have hsz : ∀ x∈K,x.2.size≤maxLen:=fun x hx=>(hok.2.2 x (List.mem_of_mem_take (hq2.mem_iff.1 hx))).2
  refine Zac<|Zac<|ZaJ<|Dw vm<|Dw (Zbw lk lki)<|Dw vm<|?_
  refine dq' (t:=90) gt pt pt (fun hg90=>?_) (fun hg90=>?_)
  ·obtain⟨j,rfl⟩ : ∃ j,q=j+1:=⟨q-1,by omega⟩
   have hz3:j+1<K.length:=by omega
   refine dO<|dg<|dO<|Dw (Zaa lk gx gt1)<|dO<|Dw vm<|dO<|?_
   refine D' (ZaW (k:=j+1) lk lk gx Za9 nb ro om (by first | rfl | (simp;done) | omega)) pt ?_
   refine dO<|Dw (Zbc lk)<|dO<|?_
   refine D' (Zcd lk gx Za9 om nb gt1) pt ?_
   refine dO<|dg<|dO<|Dw (Zaa lk gx gt1)<|dO<|Dw vm<|dO<|?_
   refine D' (Zbb lk lki om om) pt ?_
   refine d_do gt ?_
   refine D' (ZaW (k:=j) lk lk gx Za9 nb ro om (by first | rfl | (simp;done) | omega)) pt ?_
   refine dO<|Dw (Zbc lk)<|dO<|?_
   refine D' (Zcd lk gx Za9 om nb gt1) pt ?_
   refine d_do gt ?_
   refine ZaD mp (fun hE hX=>ZhZ (hsz _ (List.getElem_mem om))) pt ?_
   refine dO<|Dw (ZaL lk lki)<|Dw (Zaj lk lk)<|ZaM<|?_
   refine Za5 ?_
   refine sn' ?_
   refine cd' lk (fun hc6=>?_) (fun hc6=>?_)
   ·have hlt_:ltS K[j+1].2 K[j].2=true:=Ze7.1 hc6
    obtain⟨hk1,hk2⟩:=Zis (r:=leL) (fun _ _=>lnk_refl) hq3 hz3 (by unfold leL;rw[hlt_];simp)
    refine za<|Zac<|Zag<|Zst [N+2]<|dg<|Dw (Zaa lk gx gt1)<|Dw vm<|dg<|?_
    refine d_ldP lk gx (ld0 gt) (by simp) pt ?_
    refine D' vm pt ?_
    refine D' (Zbb lk lki om om) pt ?_
    refine dg<|Dw (Zaa lk gx gt1)<|Dw vm<|?_
    refine D' (Zbb lk lki om om) pt ?_
    refine D' (ZaW (k:=j) lk lk gx Za9 nb ro om (by first | rfl | (simp;done) | omega)) pt ?_
    refine D' (ZeB lk gx Za9 om rfl) pt ?_
    refine dg<|Dw (Zaa lk gx gt1)<|Dw vm<|?_
    refine D' (ZaW (k:=j+1) lk lk gx Za9 nb ro om (by first | rfl | (simp;done) | omega)) pt ?_
    refine D' (ZeB lk gx Za9 om rfl) pt ?_
    refine D' (ZaW (k:=j+1) lk lk gx Za9 nb ro om (by first | rfl | (simp;done) | omega)) pt ?_
    refine ZaM<|ZnW<|?_
    refine k_eff rfl rfl (Zgh (z:=K[j]) lk cv gx Za9 rfl om hs4) (by intro i hi;simp only[cond_true,List.mem_cons,List.not_mem_nil,or_false] at hi;subst hi;first | rfl | exact (hga hn rfl).trans (hga hn rfl).symm) ptn ?_
    refine k_val rfl (ZaW (k:=j) lk lk gx Za9 nb (by first | rfl | first | omega | (rw[List.length_set];omega)) (by first | omega | (rw[List.length_set];omega)) (by first | rfl | (simp;done) | first | omega | (rw[List.length_set];omega))) pt ?_
    refine k_eff rfl rfl (Zgh (z:=K[j+1]) lk cv gx Za9 rfl (by first | omega | (rw[List.length_set];omega)) hs4) (by intro i hi;simp at hi) ptn ?_
    refine k_nil<|Zav<|Zam<|Zaq<|mw<|?_
    refine V' (Zbb lk lki om om) pt ?_
    refine mw<|Zal<|Zaz<|?_
    refine lU' (⟨j,(K.set (j+1) K[j]).set j K[j+1]⟩) (by (try dsimp only);exact⟨by omega,hk2.trans hq2,hk1⟩) (by refine zz ?_;exact ALe.same wA' (by rw[List.length_set,List.length_set]))
   have hge_:ltS K[j+1].2 K[j].2=false:=by rw[Bool.eq_false_iff,ne_eq,←Ze7];exact hc6
   have hend:=ZgP (r:=leL) (fun _ _ _=>lnk_tr) hq3 hz3 hge_
   refine Zay<|Zas<|Zas<|ZaI<|Zav<|Zam<|Zaq<|mw<|?_
   refine ad<|mw<|Zal<|Zaz<|?_
   refine lU' (⟨i+1,K,w+1⟩) (by (try dsimp only);exact⟨by omega,hq2,(by rwa [List.take_of_length_le om] at hend)⟩) (by refine zz ?_;exact bk' 5 hn hlt (hT:=by simp[AV.lt,AV.ltL,Ent.lt]) (hE:=by simp[AV.lt,AV.ltL,Ent.lt]))
  obtain rfl:q=0:=by omega
  have hend:=ZgQ hq3
  refine dn<|dn<|dn<|dn<|dn<|dn<|dn<|dn<|dn<|dn<|dn<|dn<|dn<|dn<|?_
  refine dn<|Dw (Zai lk lkb)<|ZaM<|?_
  refine Za5 ?_
  refine sn'<|ZaV lk<|Zay<|Zas<|Zas<|ZaI<|Zav<|Zam<|Zaq<|mw<|?_
  refine ad<|mw<|Zal<|Zaz<|?_
  refine lU' (⟨i+1,K,w+1⟩) (by (try dsimp only);exact⟨by omega,hq2,(by rwa [List.take_of_length_le om] at hend)⟩) (by refine zz ?_;exact bk' 5 hn hlt (hT:=by simp[AV.lt,AV.ltL,Ent.lt]) (hE:=by simp[AV.lt,AV.ltL,Ent.lt]))
 obtain rfl:M=srtL k:=by rw[List.take_of_length_le (show k.length≤i by omega)] at hm2;exact ZsU n2 hm2 hm3
 refine Zay<|Zas<|Zas<|ZaI<|?_
 refine ZaO (ALe.trans (ALe.iceCellR (hga hn rfl) (hga hn rfl) om gt0 (List.take_of_length_le (by rw[Zcu,ZdB];exact Nat.le_refl _)) (by rw[Zcu,ZdB];exact Nat.le_refl _) pt0 hs3 hs2) (ALe.iceCellR (hga hn rfl) (hga hn rfl) om gt1 (List.take_of_length_le (by rw[Zd9];exact Nat.le_refl _)) (by rw[Zd9];exact Nat.le_refl _) pt1 hs4 hs2)) ?_
 refine wr'<|Vw (Zah lk gx Zfk rfl)<|E' (Zak lk cv gx rfl nb rfl Zg8 hs1) ptn<|mr<|Zad (rsn (rm1 (rr_c gt gx (ld1 Zfk rfl)) (rm1 (rr_t gt) rm0)))<|rtW'<|?_
 rw[hM];dsimp only [relC];rw[ZdB];exact Wk.refl _
end
section
open Go.Ab Go.RowKit Civ
attribute [local simp] Zbu Zfu ZbM ZpF ZbR Zcg Zb1 Zdu
section
theorem Zfj {a0 a1 c0 c1:AV}{l:List AV}:setCells (a0::a1::l) 0 [c0,c1]=c0::c1::l:=rfl
theorem ZcA {a0 a1:AV}{l:List AV}:((a0::a1::l).drop 0).take 2=[a0,a1]:=rfl
theorem Zfr {τ:Operand→AV}:Zan τ [] [(.sl 0 0 true []),(.sl 0 0 true [])]=some [(.sl 0 0 true []),(.sl 0 0 true [])]:=rfl
theorem Zg6 {a0 a1 a2 a3 c0 c1 c2 c3:AV}{l:List AV}:setCells (a0::a1::a2::a3::l) 0 [c0,c1,c2,c3]=c0::c1::c2::c3::l:=rfl
theorem Zfq {τ:Operand→AV}:Zan τ [] [(.sl 0 0 true []),(.sl 0 0 true [])]=some [(.sl 0 0 true []),(.sl 0 0 true [])]:=rfl
theorem Zko {a0 a1 a2 a3:AV}{l:List AV}:((a0::a1::a2::a3::l).drop 0).take 4=[a0,a1,a2,a3]:=rfl
theorem ZvA {a0 a1 a2 a3:AV}{l:List AV}:(a0::a1::a2::a3::l).take 4=[a0,a1,a2,a3]:=rfl
end
def c41:AC:=(Sr [Oo 0 (.new 25 2 [nl,nl])] (Sr [Cl 4 40 [],Cl 5 15 [(t 4)],Mv 3 5,Ex 6 3 0,Ex 7 3 1,Oo 1 (.new 25 2 [nl,nl]),⟨none,none,(.store 2 (t 1) (t 6))⟩,Mv 2 7] (Sr [Oo 8 (.load true 2 (t 1)),⟨none,none,(.store 2 (t 0) (t 8))⟩] .ret)))
theorem k41:ZaA Tryz.prog 41=some ⟨c41,[(.cell 0 true 2)],9⟩:=by kernel_rfl
def c9:AC:=(Sr [Mb 0 false] (Sr [Cl 12 40 [],Cl 13 14 [(t 12)],Mv 11 13,Ex 14 11 0,Ex 15 11 1,Oo 1 (.new 25 2 [nl,nl]),⟨none,none,(.store 2 (t 1) (t 14))⟩,Mv 2 15] (Sr [Oo 17 (.build [nl,nl] []),Oo 18 (.load true 2 (t 1)),Cl 19 10 [(t 17),(t 18)],Mv 16 19,Ex 20 16 0,Ex 21 16 1,Oo 3 (.new 30 4 [nl,nl,nl,nl]),⟨none,none,(.store 4 (t 3) (t 20))⟩,Mv 4 21] (Sr [Oo 23 (.build [nl,nl] []),Oo 24 (.load true 4 (t 3)),Cl 25 18 [(t 23),(t 24)],Mv 22 25,Ex 26 22 0,Ex 27 22 1,Oo 5 (.new 25 2 [nl,nl]),⟨none,none,(.store 2 (t 5) (t 26))⟩,Mv 6 27] (Sr [Oo 29 (.load true 2 (t 1)),Oo 30 (.call (.func 11) [(t 29),(.const (.string ⟨#[79,108,100]⟩))]),Mv 28 30,Ex 31 28 0,Ex 32 28 1,Oo 7 (.new 38 4 [(iv 0),(iv 0),Ss,nl]),⟨none,none,(.store 4 (t 7) (t 31))⟩,Mv 8 32] (Sr [Oo 34 (.load true 2 (t 1)),Oo 35 (.call (.func 11) [(t 34),(.const (.string ⟨#[78,101,119]⟩))]),Mv 33 35,Ex 36 33 0,Ex 37 33 1,Oo 9 (.new 38 4 [(iv 0),(iv 0),Ss,nl]),⟨none,none,(.store 4 (t 9) (t 36))⟩,Mv 10 37] (Sd [Mv 38 2,Bc 39 .eql 38 0,Mv 40 39,Ot 41 40 (mt 4),Ot 42 40 (.bin .eql (t 41) (Ci 0)),Oo 43 (.pick (t 40) (t 42) (.const (.bool false))),Mv 44 43,Ot 45 44 (mt 6),Ot 46 44 (.bin .eql (t 45) (Ci 0)),Oo 47 (.pick (t 44) (t 46) (.const (.bool false))),Mv 48 47,Ot 49 48 (mt 8),Ot 50 48 (.bin .eql (t 49) (Ci 0)),Oo 51 (.pick (t 48) (t 50) (.const (.bool false))),Mv 52 51,Ot 53 52 (mt 10),Ot 54 52 (.bin .eql (t 53) (Ci 5)),Oo 55 (.pick (t 52) (t 54) (.const (.bool false))),Mv 56 55,Ot 57 56 (.load true 2 (t 1)),Ot 58 56 (.call (.func 17) [(t 57)]),Ot 59 56 (.bin .eql (t 58) (Ci 0)),Oo 60 (.pick (t 56) (t 59) (.const (.bool false))),Mv 61 60,Ot 62 61 (.load true 2 (t 1)),Ot 63 61 (.call (.func 41) []),Ot 64 61 (.call (.func 25) [(t 62),(t 63)]),Oo 65 (.pick (t 61) (t 64) (.const (.bool false))),Mv 66 65,Ot 67 66 (.load true 2 (t 5)),Ot 68 66 (.call (.func 41) []),Ot 69 66 (.call (.func 25) [(t 67),(t 68)]),Oo 70 (.pick (t 66) (t 69) (.const (.bool false))),Mv 71 70,Ot 72 71 (.fa 1 (t 3)),Ot 73 71 (.load false 1 (t 72)),Ot 74 71 (.len false (t 73)),Ot 75 71 (.bin .eql (t 74) (Ci 1)),Oo 76 (.pick (t 71) (t 75) (.const (.bool false))),Mv 77 76,Ot 78 77 (.load true 4 (t 7)),Ot 79 77 (.call (.func 41) []),Ot 80 77 (.fld false 0 1 (t 79)),Ot 81 77 (.ia 5 (t 80) (Ci 0)),Ot 82 77 (.fa 1 (t 81)),Ot 83 77 (.load true 4 (t 82)),Ot 84 77 (.call (.func 13) [(t 78),(t 83)]),Oo 85 (.pick (t 77) (t 84) (.const (.bool false))),Mv 0 85] .ret)))))))
theorem k9:ZaA Tryz.prog 9=some ⟨c9,[(.tmp 0)],86⟩:=by kernel_rfl
def nNew:ByteArray:=bA [78,101,119]
theorem mk1 {h:AH}:Ac 14 [.agg (srcC src0)] h (.tup [.agg (relC rel1),iv 0]):=by
 have:=make_a (a:=src0.1) (z:=src0.2.1) (k:=src0.2.2) (h:=h) Znz
 rw[show (src0.1,src0.2.1,src0.2.2)=src0 from rfl,make0] at this
 exact this
theorem rmk1 {h:AH}:Ac 15 [.agg (srcC src0)] h (.tup [.agg (relC rel1),iv 0]):=by
 have:=rmake_a (a:=src0.1) (z:=src0.2.1) (k:=src0.2.2) (h:=h) Znz
 rw[show (src0.1,src0.2.1,src0.2.2)=src0 from rfl,make0] at this
 exact this
theorem dif1 {h:AH}:Ac 10 [.agg [.sl 0 0 true [],.sl 0 0 true []],.agg (relC rel1)] h (.tup [.agg (updC upd1),iv 0]):=by
 have:=diffR_a (r:=rel0) (s:=rel1) (h:=h) ⟨fun _ h=>(by cases h),fun _ h=>(by cases h)⟩ ZkW
 rw[diff0] at this
 exact ACalls.wk (wkw (Wk.agg (wkw Wk.nilF (wkw Wk.nilF wk0))) (wk1 rfl wk0)) this
theorem findR1:ZgU rel1 nOld=(tab0,0):=by
 rw[ZgU,if_neg (by rw[chkR1];simp)];rfl
theorem findR2:ZgU rel1 nNew=(ZfC,5):=by
 rw[ZgU,if_neg (by rw[chkR1];simp)];rfl
theorem fnd1 {h:AH}:Ac 11 [.agg (relC rel1),sv nOld] h (.tup [tabA tab0,iv 0]):=by
 have:=Zn6 (t:=rel1.1) (k:=rel1.2) (nm:=nOld) (h:=h) ZkW (by decide)
 rw[show (rel1.1,rel1.2)=rel1 from rfl,findR1] at this
 exact this
theorem fnd2 {h:AH}:Ac 11 [.agg (relC rel1),sv nNew] h (.tup [tabA ZfC,iv 5]):=by
 have:=Zn6 (t:=rel1.1) (k:=rel1.2) (nm:=nNew) (h:=h) ZkW (by decide)
 rw[show (rel1.1,rel1.2)=rel1 from rfl,findR2] at this
 exact this
theorem ZtY {h:AH}:Ac 41 [] h (.agg (relC rel1)):=by
 refine tI' k41 fun N hn _ _ hbd=>?_
 simp only[tb'] at hbd ⊢
 refine wr'<|E' (ZaT hl0 ha0) pt<|sn'<|wr'<|Zab mp0 (ZkU) pt<|Zab mp (rmk1) pt<|mw<|Vw (ZaS lk gt)<|Vw (ZaS lk gt)<|E' (ZaT hl1 ha1) pt<|E' (Zak lk cv gx rfl nb rfl Zfj hs1) ptn<|?_
 exact ms<|wr'<|Vw (Zah lk gx ZcA rfl)<|E' (Zak lk cv gx rfl nb rfl Zfj hs0) ptn<|sr<|Zad (rs1 (rr_c gt gx (ld1 ZcA rfl)))<|rT' rfl
theorem same1 {h:AH}:Ac 25 [.agg (relC rel1),.agg (relC rel1)] h (bv true):=by
 have:=ZqC (t:=rel1.1) (u:=rel1.1) (k:=rel1.2) (m:=rel1.2) (f1:=false) (f2:=false) (f3:=false) (f4:=false) (h:=h)
 rw[decide_eq_true rfl] at this
 exact this
theorem stab1 {h:AH}:Ac 13 [tabA tab0,tabA tab0] h (bv true):=by
 have:=ZnC (t:=tab0) (u:=tab0) (f1:=false) (f2:=false) (h:=h)
 rw[decide_eq_true rfl] at this
 exact this
theorem ZqE {h:AH}:Ac 9 [] h (bv true):=by
 refine tI' k9 fun N hn _ _ hbd=>?_
 simp only[tb'] at hbd ⊢
 refine wk'<|wr'<|Zab mp0 (ZkU) pt<|Zab mp (mk1) pt<|mw<|Vw (ZaS lk gt)<|Vw (ZaS lk gt)<|E' (ZaT hl0 ha0) pt<|E' (Zak lk cv gx rfl nb rfl Zfj hs0) ptn<|?_
 refine ms<|wr'<|Vw (Zaw Zfr)<|Vw (Zah lk gx ZcA rfl)<|Zab mp (dif1) pt<|mw<|Vw (ZaS lk gt)<|Vw (ZaS lk gt)<|E' (ZaT hl1 ha1) pt<|E' (Zak lk cv gx rfl nb rfl Zg6 hs1) ptn<|mw<|?_
 refine sn'<|wr'<|Vw (Zaw Zfq)<|Vw (Zah lk gx Zko rfl)<|Zab mp (app1) pt<|mw<|Vw (ZaS lk gt)<|Vw (ZaS lk gt)<|E' (ZaT hl2 ha2) pt<|E' (Zak lk cv gx rfl nb rfl Zfj hs2) ptn<|mw<|Zal<|?_
 refine Zam<|wr'<|Vw (Zah lk gx ZcA rfl)<|Zab mp (fnd1) pt<|mw<|Vw (ZaS lk gt)<|Vw (ZaS lk gt)<|E' (ZaT hl3 ha3) pt<|E' (Zak lk cv gx rfl nb rfl Zg6 hs3) ptn<|ms<|Zac<|?_
 refine Zaq<|Vw (Zah lk gx ZcA rfl)<|Zab mp (fnd2) pt<|mw<|Vw (ZaS lk gt)<|Vw (ZaS lk gt)<|E' (ZaT hl4 ha4) pt<|E' (Zak lk cv gx rfl nb rfl Zg6 hs4) ptn<|ms<|Zac<|ZaJ<|Dw vm<|?_
 refine Dw (Za2 lk lki)<|Dw vm<|?_
 refine ZcH (t:=40) gt (b:=true) (by rfl) pt ?_
 refine dO<|Dw vm<|dO<|Dw (Za2 lk lki)<|Dw (Zaj lk lk)<|Dw vm<|?_
 refine ZcH (t:=44) gt (b:=true) (by rfl) pt ?_
 refine dO<|Dw vm<|dO<|Dw (Za2 lk lki)<|Dw (Zaj lk lk)<|Dw vm<|?_
 refine ZcH (t:=48) gt (b:=true) (by rfl) pt ?_
 refine dO<|Dw vm<|dO<|Dw (Za2 lk lki)<|Dw (Zaj lk lk)<|Dw vm<|?_
 refine ZcH (t:=52) gt (b:=true) (by rfl) pt ?_
 refine dO<|Dw vm<|dO<|Dw (Za2 lk lki)<|Dw (Zaj lk lk)<|Dw vm<|?_
 refine ZcH (t:=56) gt (b:=true) (by rfl) pt ?_
 refine dO<|Dw (Zah lk gx ZcA rfl)<|dO<|?_
 refine ZaD mp (fun hE hX=>rchk1) pt ?_
 refine dO<|Dw (Za2 lk lki)<|Dw (Zaj lk lk)<|Dw vm<|?_
 refine ZcH (t:=61) gt (b:=true) (by rfl) pt ?_
 refine dO<|Dw (Zah lk gx ZcA rfl)<|dO<|?_
 refine ZaD mp0 (fun hE hX=>ZtY) pt ?_
 refine d_do gt ?_
 refine ZaD mp (fun hE hX=>same1) pt ?_
 refine Dw (Zaj lk lk)<|Dw vm<|dO<|Dw (Zah lk gx ZcA rfl)<|dO<|?_
 refine ZaD mp0 (fun hE hX=>ZtY) pt ?_
 refine d_do gt ?_
 refine ZaD mp (fun hE hX=>same1) pt ?_
 refine Dw (Zaj lk lk)<|Dw vm<|dO<|dg<|dO<|Dw (Zaa lk gx gt1)<|dO<|Dw (ZaC lk)<|dO<|Dw (Za2 lk lki)<|Dw (Zaj lk lk)<|Dw vm<|?_
 refine ZcH (t:=77) gt (b:=true) (by rfl) pt ?_
 refine dO<|Dw (Zah lk gx Zko rfl)<|dO<|?_
 refine ZaD mp0 (fun hE hX=>ZtY) pt ?_
 refine dO<|Dw (v_fld lk gt)<|dO<|?_
 refine D' (ZaF (k:=0) lk lki Za8 nb (by first | rfl | first | omega | decide) (by first | omega | decide) ro rfl) pt ?_
 refine dO<|Dw (ZaQ lk dp1)<|dO<|Dw (Zau lk ZvA rfl)<|dO<|?_
 refine ZaD mp (fun hE hX=>stab1) pt ?_
 refine Dw (Zaj lk lk)<|Dw vm<|ZaM<|?_
 refine Za5 ?_
 exact sr<|Zad rz<|rT' rfl
end
section
open Go.Ab Go.RowKit Civ
attribute [local simp] Zbu Zfu ZbM ZpF ZbR Zcg Zb1 Zdu
section
theorem Zkm {a0 a1 a2:AV}{l:List AV}:((a0::a1::a2::l).drop 0).take 3=[a0,a1,a2]:=rfl
theorem ZrZ {a0 a1 c0 c1:AV}{l:List AV}:setCells (a0::a1::l) 0 [c0,c1]=c0::c1::l:=rfl
theorem ZrY {a0 a1:AV}{l:List AV}:((a0::a1::l).drop 0).take 2=[a0,a1]:=rfl
theorem Zkn {a0 a1 a2 a3 c0 c1 c2 c3:AV}{l:List AV}:setCells (a0::a1::a2::a3::l) 0 [c0,c1,c2,c3]=c0::c1::c2::c3::l:=rfl
theorem Zkl {a0 a1 a2 a3:AV}{l:List AV}:((a0::a1::a2::a3::l).drop 0).take 4=[a0,a1,a2,a3]:=rfl
end
def c7:AC:=(Sr [Oo 2 (.box 53 3 (t 0)),Mb 4 false] (.seq (Sr [Cl 10 9 [],Oo 11 (.un .not (t 10)),Mv 12 11,Of 13 12 (.call (.func 26) []),Of 14 12 (.un .not (t 13)),Oo 15 (.pick (t 12) (.const (.bool true)) (t 14))] (Cd 15 (Sr [Mb 4 false] .ret) .skip)) (Sr [Oo 17 (.load true 3 (t 2)),Cl 18 14 [(t 17)],Mv 16 18,Ex 19 16 0,Ex 20 16 1,Oo 5 (.new 25 2 [nl,nl]),⟨none,none,(.store 2 (t 5) (t 19))⟩,Mv 6 20] (.seq (Sr [Mv 21 6,Bc 22 .neq 21 0] (Cd 22 (Sr [Fa 23 0 5,Ld 24 23,Oo 25 (.len false (t 24)),Bc 26 .eql 25 0,Mv 4 26] .ret) .skip)) (Sr [Oo 28 (.load true 2 (t 5)),Mv 29 1,Cl 30 11 [(t 28),(t 29)],Mv 27 30,Ex 31 27 0,Ex 32 27 1,Oo 7 (.new 38 4 [(iv 0),(iv 0),Ss,nl]),⟨none,none,(.store 4 (t 7) (t 31))⟩,Mv 6 32] (Sr [Oo 34 (.load true 3 (t 2)),Mv 35 1,Cl 36 27 [(t 34),(t 35)],Mv 33 36,Ex 37 33 0,Ex 38 33 1,Oo 8 (.new 38 4 [(iv 0),(iv 0),Ss,nl]),⟨none,none,(.store 4 (t 8) (t 37))⟩,Mv 9 38] (Sr [Mv 39 6,Mv 40 9,Bn 41 .eql 39 40,Mv 42 41,Ot 43 42 (.load true 4 (t 7)),Ot 44 42 (.load true 4 (t 8)),Ot 45 42 (.call (.func 13) [(t 43),(t 44)]),Oo 46 (.pick (t 42) (t 45) (.const (.bool false))),Mv 4 46] .ret)))))))
theorem k7:ZaA Tryz.prog 7=some ⟨c7,[(.tmp 4)],47⟩:=by kernel_rfl
def c4:AC:=(Sr [Oo 1 (.box 53 3 (t 0)),Mb 2 false] (Sr [Oo 8 (.load true 3 (t 1)),Cl 9 14 [(t 8)],Mv 7 9,Ex 10 7 0,Ex 11 7 1,Oo 3 (.new 25 2 [nl,nl]),⟨none,none,(.store 2 (t 3) (t 10))⟩,Mv 4 11] (Sr [Oo 13 (.load true 3 (t 1)),Cl 14 15 [(t 13)],Mv 12 14,Ex 15 12 0,Ex 16 12 1,Oo 5 (.new 25 2 [nl,nl]),⟨none,none,(.store 2 (t 5) (t 15))⟩,Mv 6 16] (Sr [Cl 17 9 [],Mv 18 17,Ot 19 18 (.load true 2 (t 3)),Ot 20 18 (mt 4),Ot 21 18 (mt 6),Ot 22 18 (.load true 2 (t 5)),Ot 23 18 (.call (.func 16) [(t 19),(t 20),(t 21),(t 22)]),Oo 24 (.pick (t 18) (t 23) (.const (.bool false))),Mv 25 24,Ot 26 25 (mt 4),Ot 27 25 (.bin .neq (t 26) (Ci 0)),Ot 28 25 (mt 27),Of 29 28 (.load true 2 (t 3)),Of 30 28 (.call (.func 17) [(t 29)]),Of 31 28 (.bin .eql (t 30) (Ci 0)),Ot 32 25 (.pick (t 28) (.const (.bool true)) (t 31)),Oo 33 (.pick (t 25) (t 32) (.const (.bool false))),Mv 2 33] .ret))))
theorem k4:ZaA Tryz.prog 4=some ⟨c4,[(.tmp 2)],34⟩:=by kernel_rfl
theorem Zk0 {s:ByteArray}(h:Zcc s=true):s.size≤maxLen:=by
 unfold Zcc at h
 simp only[Bool.and_eq_true,decide_eq_true_eq] at h
 have:=h.1.1.2
 simp only[maxLen];omega
theorem ZtJ {r:Rel}(h:Zbp r=0):ZnL r:=by
 obtain⟨_,_,a3,_,a5,_⟩:=ZdQ h
 refine⟨fun n hn=>⟨Zk0 (a3 n hn).1,ZkV (a3 n hn).2⟩,fun l hl=>⟨?_,Zk0 (a5 l hl).1⟩⟩
 have:=Zee.1 (a5 l hl).2.2
 obtain⟨n,hn,e⟩:=List.mem_map.1 this
 rw[←e];exact Zk0 (a3 n hn).1
theorem find_s {s:Src}{nm:ByteArray}{h:AH}(hm:(Zcv s).2=0):Ac 11 [.agg (relC (Zcv s).1),sv nm] h (.tup [tabA (ZiB s nm).1,iv (ZiB s nm).2]):=by
 have hc:=ZgN hm
 obtain⟨_,a2,_⟩:=ZdQ hc
 have:=Zn6 (t:=(Zcv s).1.1) (k:=(Zcv s).1.2) (nm:=nm) (h:=h) (ZtJ hc) om
 rw[show ((Zcv s).1.1,(Zcv s).1.2)=(Zcv s).1 from rfl,ZtX hm] at this
 exact this
theorem sameT_r {t:Tab}{h:AH}:Ac 13 [tabA t,tabA t] h (bv true):=by
 have:=ZnC (t:=t) (u:=t) (f1:=false) (f2:=false) (h:=h)
 rw[decide_eq_true rfl] at this
 exact this
theorem same_w {a:List Rul}{z:List Zon}{k:List Lnk}{nm:ByteArray}{h:AH}(hok:Zf8 (a,z,k)):Ac 7 [.agg (srcB a z k),sv nm] h (bv true):=by
 refine tI' k7 fun N hn _ _ hbd=>?_
 simp only[tb'] at hbd ⊢
 refine wr'<|E' (ZaR cv rfl hl0 ha0) pt<|ms<|Zac<|wr'<|Zab mp0 (ZqE) pt<|Vw (Zax lk)<|mw<|sd<|Zab mp0 (tbegun_a) pt<|?_
 refine sd<|Vw (Zax lk)<|Vw (Zai lk lk)<|sn'<|ZaV lk<|za<|wr'<|Vw (Zah lk gx Zkm rfl)<|Zab mp (make_a hok) pt<|mw<|Vw (ZaS lk gt)<|?_
 refine Vw (ZaS lk gt)<|E' (ZaT hl1 ha1) pt<|E' (Zak lk cv gx rfl nb rfl ZrZ hs1) ptn<|ms<|Zac<|wm<|Vw (Za0 lk lki)<|sn'<|?_
 refine cd' lk (fun hc2=>?_) (fun hc2=>?_)
 ·have hb:(Zcv (a,z,k)).1=rel0:=make_bad hc2
  refine wr'<|fq<|Vw (Zaa lk gx gt0)<|Vw (ZaC lk)<|Vw (Za2 lk lki)<|mr<|Zae<|Zad rz<|rT'<|?_
  exact bvx (decide_eq_true (by rw[hb];rfl))
 have hm:(Zcv (a,z,k)).2=0:=Decidable.of_not_not hc2
 refine za<|wr'<|Vw (Zah lk gx ZrY rfl)<|mw<|Zab mp (find_s hm) pt<|mw<|Vw (ZaS lk gt)<|Vw (ZaS lk gt)<|E' (ZaT hl2 ha2) pt<|E' (Zak lk cv gx rfl nb rfl Zkn hs2) ptn<|mw<|Zal<|?_
 refine Zam<|wr'<|Vw (Zah lk gx Zkm rfl)<|mw<|Zab mp (comp_a hok) pt<|mw<|Vw (ZaS lk gt)<|Vw (ZaS lk gt)<|E' (ZaT hl3 ha3) pt<|E' (Zak lk cv gx rfl nb rfl Zkn hs3) ptn<|ms<|?_
 refine wm<|mw<|Vw (Za2 lk lk)<|mw<|?_
 refine s_known (t:=42) gt (b:=true) (by exact decide_eq_true rfl) pt ?_
 exact s_do gt<|Vw (Zah lk (hga hn rfl) Zkl rfl)<|s_do gt<|Vw (Zah lk (hga hn rfl) Zkl rfl)<|s_do gt<|Zab mp (sameT_r) pt<|Vw (Zaj lk lk)<|mr<|Zad rz<|rT' rfl
end
section
open Go.Ab Go.RowKit Civ
abbrev RulD:Ds:=.pair .str (.pair .int (.pair .int (.pair .int (.pair (.pair .int (.pair .int .int)) (.pair .int (.pair .int (.pair .int .str)))))))
abbrev EraD:Ds:=.pair .int (.pair .str (.pair .int (.pair .str (.pair .bool (.pair (.pair .int (.pair .int .int)) (.pair .int .int))))))
abbrev ZonD:Ds:=.pair .str (.slice EraD)
abbrev LnkD:Ds:=.pair .str .str
abbrev SrcDs:Ds:=.pair (.slice RulD) (.pair (.slice ZonD) (.slice LnkD))
theorem okSrc_of {s:Src}(h:okD SrcDs s):Zf8 s:=by
 obtain⟨h1,h2,h3⟩:=h
 refine⟨fun r hr=>?_,fun z hz=>?_,fun l hl=>?_⟩
 ·obtain⟨i,hi,rfl⟩:=List.getElem_of_mem hr
  have:=h1 i hi
  exact⟨this.1,this.2.2.2.2.2.2.2.2⟩
 ·obtain⟨i,hi,rfl⟩:=List.getElem_of_mem hz
  have:=h2 i hi
  refine⟨this.1,fun x hx=>?_⟩
  obtain⟨j,hj,rfl⟩:=List.getElem_of_mem hx
  have:=this.2 j hj
  exact⟨this.2.1,this.2.2.2.1⟩
 ·obtain⟨i,hi,rfl⟩:=List.getElem_of_mem hl
  exact h3 i hi
end
end Go.Proofs.YtfoipaclphdodaaGreatDoor
section
namespace Go
variable {H : Type} {enc : TypeId × Value → H}
theorem Zn1 {a:Assume}{C:Checked}{os:Os}{f:FuncId}{fn:Func}{s:ChangeSpec}{apart fresh handsOn again:Bool}{laid:List (String×DataW Unit)}
  (own:ownKnob C.prog.godebug=none) (started:os.Started) (noInit:C.prog.inits.idxOf? f=none) (hfn:C.prog.funcs[f]?=some fn)
  (witness : ∃ (w:World) (tape:Tape) (i:Input),w.os=os∧(w.forCall tape i).Shaped C.prog∧i.vars=[]∧Input.okWide C.prog (w.forCall tape i) .any w.heap.size f i ∧
   ((s.pre enc C.prog fn [] apart (w.forCall tape i).memory i.args∧laidMetH C.prog laid (w.forCall tape i).memory)∧sizedMet enc C.prog fn (OpenSpec.ofChange s) apart (w.forCall tape i).memory i.args)∧a.holds C.prog (lone (Frame.enter C.prog f i.args .normal) [] (w.forCall tape i)))
  (contract : ∀ (W:World) (base:Nat) (args:Array Value) (ds gs:List (DataW H)) (before:List MemPlace),
   (∀ (j:Nat) t v,fn.params[j]?=some t→args[j]?=some v→Value.okWide C.prog W .any base t v) →
   DataW.Whole enc C.prog fn.params.toList s.vars apart W args.toList ds gs before →
   (DataW.weightsEach C.prog (fn.params.toList++s.plain.varTypes C.prog) (ds++gs)).all (· ≤ reachBytes)=true →
   laidMetH C.prog laid W→W.ShapedOpen C.prog →
   Calls C.prog f args W fun e W' => ∃ v,e=.returned v∧s.post enc C.prog fn apart fresh handsOn again W args v W') :
  ReturnsInHanded a C os f .any (fun w args=>(s.pre enc C.prog fn [] apart w args∧laidMetH C.prog laid w)∧sizedMet enc C.prog fn (OpenSpec.ofChange s) apart w args) (s.post enc C.prog fn apart fresh handsOn again):=by
 refine returnsInHanded_of_calls own started noInit witness ?_
 intro w tape i _ hsh _ hok hpre hholds
 obtain⟨_,_,_,fn',hfn',_,_,_,_,hval⟩:=hok
 have e:fn'=fn:=Option.some.inj (hfn'.symm.trans hfn)
 subst e
 obtain⟨⟨⟨ds,gs,before,hw,hc⟩,hx⟩,hz⟩:=hpre
 have hw':=DataW.Whole.of_heap (w':=w.forCall tape i) (by rfl) hw
 refine (contract (w.forCall tape i) w.heap.size i.args ds gs before hval hw' (hz.weights hw) (hx.of_heap (by rfl)) hsh).mono fun e W' ⟨v,he,hp⟩=>?_
 subst he
 exact ChangeSpec.post_blind hp
end Go
namespace Go.Proofs.YtfoipaclphdodaaGreatDoor
open Go.ChangeShapes Go.WideShapes Go.ChangeAt Go.RowKit Go.Ab
def LaidOk (l:List (String×DataW Unit)):Prop:=l.length=l.length
theorem globW {W:World}{l:List (String×DataW Unit)}(hsh:W.ShapedOpen Tryz.prog) (hL:laidMetH Tryz.prog l W) (hl:LaidOk l):GlobW W where
 tt:=trivial
 maxLen:=cell_of_shapedOpen_int (t:=3) (zero := #[.int .i64 0]) hsh (of_decide_eq_true (by kernel_rfl)) (by kernel_rfl) rfl (by kernel_rfl) (by kernel_rfl) Tryz.underlying3
end Go.Proofs.YtfoipaclphdodaaGreatDoor
end
