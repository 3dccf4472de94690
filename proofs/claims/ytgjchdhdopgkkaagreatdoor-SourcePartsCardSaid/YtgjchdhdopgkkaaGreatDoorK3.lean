/-
  Part 3 of the proof: own lemmas and contracts on plain data. No condition beyond those that each lemma states.
-/
import Derived.Test.YtgjchdhdopgkkaaGreatDoorK2
import Derived.WalkKit
import Derived.WalkSpells
import Derived.WalkLawsBesides
import Derived.Deep.QuietTactic
import Derived.BigQuiet
import Derived.Lib.Hide
import Derived.Lib.QuietBelow
import Derived.Deep.RegionHeld3
import Derived.Deep.DeepCutAuto
import Derived.Lib.IndexMore
import Derived.Lib.IndexLaws
import Derived.Maps.OwnOps
import Derived.Maps.OwnSet
set_option linter.all false
set_option maxRecDepth 100000
section
namespace Go.Proofs.YtgjchdhdopgkkaaGreatDoor
open Go.Ab Go.RowKit Civ
theorem risLetters_a {s:ByteArray}{h:AH}(hs:s.size≤maxLen):ACalls Tryz.prog 67 [sv s] h fun x h'=>h'=h∧x = .ret (bv (lettersB s)):=by
 have hm:s.size≤9223372036854775807:=by simpa [maxLen] using hs
 refine tI' k67 fun N hn hlt hlA hbd=>?_
 simp only [tA',AV.bdL,AV.bd,and_true,true_and] at hbd ⊢
 refine wr'<|mv' lkb pt2<|sn'<|w_seq<|wr'<|mv' lki pt3<|sn'<|w_block<|?_
 refine w_lp (ι:=Nat) (fun (k:Nat)=>[(3,iv (k:Int)),(2,.any)]++rn' 4 11) (fun (k:Nat)=>[]) (fun (k:Nat)=>k≤s.size ∧ ∀ j (hj:j<s.size),j<k→letB s[j].toNat=true) (fun (k:Nat)=>s.size-k) (0) (by exact ⟨by omega,fun j hj h0=>absurd h0 (by omega)⟩) ?_
 rintro k hi1
 try simp only [setsT,setsE,z',s',rn',la',ln',Nat.reduceAdd]
 obtain ⟨hk1,hk2⟩:=hi1
 refine w_seq<|wr'<|mv' lk3 pt4<|mv' lk0 pt5<|V' (v_lenS lk5) pt6<|V' (v_lss lk4 lk6) pt7<|sn'<|?_
 refine cd' lk7 (fun hc1=>?_) (fun hc1=>?_)
 ·have hk:k<s.size:=by omega
  have hb:=byte_bd s k
  have hbk:byteAt s k=s[k]:=byteAt_get hk
  refine w_skip<|n_seq<|w_seq<|w_block<|wr'<|mv' lk0 pt10<|mv' lk3 pt11<|?_
  refine V' (v_ix lk10 lk11 (by omega) (by omega)) pt12 ?_
  refine s_callp (mp1 lk12 mp0) (risLetter_a hb.1 hb.2) pt13<|V' (v_notB lk13) pt14<|sn'<|?_
  refine w_condB lk14 (fun hc2=>?_) (fun hc2=>?_)
  ·refine wr'<|mv' lkb pt2<|sn'<|w_rets<|r_blk<|r_thn<|r_thn<|r_blk<|r_thn<|w_ret (rs1 (rr_t gt2))<|rT'<|?_
   refine bvx ?_;unfold lettersB;rw [allB_no (k:=k) hk (by rw [←hbk];simp_all)];simp
  refine w_skip<|n_blk<|n_seq<|w_reg<|mv' lk3 pt8<|?_
  refine V' (v_add lk8 lki (by omega) (by omega)) pt9 ?_
  refine mv' lk9 pt3<|s_nil<|n_thn<|?_
  refine lT' (k+1) (by (try dsimp only);refine ⟨by omega,fun j hj h0=>?_⟩;rcases Nat.lt_or_ge j k with e | e;exact hk2 j hj e;obtain rfl:j=k:=(by omega);rw [←hbk];simp_all)
 refine w_exit<|x_thn<|x_thn<|x_blk<|n_seq<|wr'<|mv' lk0 pt15<|V' (v_lenS lk15) pt16<|V' (v_leq lk16 lki) pt17<|mv' lk17 pt2<|sn'<|w_rets<|?_
 refine w_ret (rs1 (rr_t gt2))<|rT'<|?_
 refine bvx ?_;unfold lettersB;rw [allB_yes fun j hj=>hk2 j hj (by omega)];rw [Bool.eq_iff_iff];simp;omega
theorem risName_a {s:ByteArray}{h:AH}(hs:s.size≤maxLen):ACalls Tryz.prog 25 [sv s] h fun x h'=>h'=h∧x = .ret (bv (nameB s)):=by
 have hm:s.size≤9223372036854775807:=by simpa [maxLen] using hs
 have hem:=emp_size (f:=s)
 have hb0:=byte_bd s 0
 refine tI' k25 fun N hn hlt hlA hbd=>?_
 simp only [tA',AV.bdL,AV.bd,and_true,true_and] at hbd ⊢
 refine wr'<|mv' lkb pt2<|sn'<|w_seq<|wr'<|mv' lk0 pt5<|V' (v_eqlS lk5 lks) pt6<|mv' lk6 pt7<|?_
 refine sp' gt7 pt7 pt7 (fun hg7=>?_) (fun hg7=>?_)
 ·refine s_no gt7 pt8<|s_no gt7 pt9<|s_no gt7 pt10<|V' (v_pickT lk7 lkb) pt11<|mv' lk11 pt12<|s_no gt12 pt13<|s_no gt12 pt14<|s_no gt12 pt15<|s_no gt12 pt16<|V' (v_pickT lk12 lkb) pt17<|sn'<|w_condT lk17<|w_seq<|?_
  refine w_reg<|mv' lkb pt2<|sn'<|w_rets<|r_thn<|w_ret (rs1 (rr_t gt2))<|rT'<|?_
  refine bvx ?_;unfold nameB;simp [hem.1 hg7]
 have hne:s.size≠0:=fun e=>hg7 (hem.2 e)
 refine s_do gt7<|mv' lk0 pt8<|s_do gt7<|V' (v_lenS lk8) pt9<|s_do gt7<|V' (v_gtr lk9 lki) pt10<|V' (v_pickF lk7 lk10) pt11<|mv' lk11 pt12<|?_
 refine sp' gt12 pt12 pt12 (fun hg12=>?_) (fun hg12=>?_)
 ·refine s_no gt12 pt13<|s_no gt12 pt14<|s_no gt12 pt15<|s_no gt12 pt16<|V' (v_pickT lk12 lkb) pt17<|sn'<|w_condT lk17<|wr'<|mv' lkb pt2<|sn'<|w_rets<|?_
  refine r_thn<|w_ret (rs1 (rr_t gt2))<|rT'<|?_
  refine bvx ?_;unfold nameB;simp;omega
 refine s_do gt12<|mv' lk0 pt13<|s_do gt12<|?_
 refine V' (v_ix lk13 lki (by omega) (by omega)) pt14 ?_
 refine s_do gt12<|s_callp (mp1 lk14 mp0) (risLetter_a hb0.1 hb0.2) pt15<|s_do gt12<|V' (v_notB lk15) pt16<|V' (v_pickF lk12 lk16) pt17<|sn'<|?_
 refine w_condB lk17 (fun hc1=>?_) (fun hc1=>?_)
 ·refine wr'<|mv' lkb pt2<|sn'<|w_rets<|r_thn<|w_ret (rs1 (rr_t gt2))<|rT'<|?_
  refine bvx ?_;unfold nameB;simp_all
 have hz:s.size≤24:=by omega
 have hL:letB (byteAt s 0).toNat=true:=by simpa using hc1
 refine w_skip<|n_seq<|w_seq<|wr'<|mv' lki pt3<|sn'<|w_block<|?_
 refine w_lp (ι:=Nat) (fun (k:Nat)=>[(3,iv (k:Int)),(2,.any),(4,.any)]++rn' 18 33) (fun (k:Nat)=>[]) (fun (k:Nat)=>k≤s.size ∧ ∀ j (hj:j<s.size),j<k→nameN s[j].toNat=true) (fun (k:Nat)=>s.size-k) (0) (by exact ⟨by omega,fun j hj h0=>absurd h0 (by omega)⟩) ?_
 rintro k hi1
 try simp only [setsT,setsE,z',s',rn',la',ln',Nat.reduceAdd]
 obtain ⟨hk1,hk2⟩:=hi1
 refine w_seq<|wr'<|mv' lk3 pt18<|mv' lk0 pt19<|V' (v_lenS lk19) pt20<|V' (v_lss lk18 lk20) pt21<|sn'<|?_
 refine cd' lk21 (fun hc2=>?_) (fun hc2=>?_)
 ·have hk:k<s.size:=by omega
  have hb:=byte_bd s k
  have hbk:byteAt s k=s[k]:=byteAt_get hk
  have hR:=nameN_ref (byteAt s k)
  refine w_skip<|n_seq<|w_seq<|w_block<|wr'<|mv' lk0 pt24<|mv' lk3 pt25<|?_
  refine V' (v_ix lk24 lk25 (by omega) (by omega)) pt26 ?_
  refine mv' lk26 pt4<|sn'<|wr'<|mv' lk4 pt27<|s_callp (mp1 lk27 mp0) (risLetter_a hb.1 hb.2) pt28<|V' (v_notB lk28) pt29<|mv' lk29 pt30<|?_
  refine s_splitB gt30 pt30 pt30 (fun hg30=>?_) (fun hg30=>?_)
  ·refine s_do gt30<|mv' lk4 pt31<|s_do gt30<|s_callp (mp1 lk31 mp0) (risDigit_a hb.1 hb.2) pt32<|s_do gt30<|V' (v_notB lk32) pt33<|V' (v_pickT lk30 lk33) pt34<|mv' lk34 pt35<|?_
   refine s_splitB gt35 pt35 pt35 (fun hg35=>?_) (fun hg35=>?_)
   ·refine s_do gt35<|mv' lk4 pt36<|s_do gt35<|V' (v_neq lk36 lki) pt37<|V' (v_pickT lk35 lk37) pt38<|mv' lk38 pt39<|?_
    refine sp' gt39 pt39 pt39 (fun hg39=>?_) (fun hg39=>?_)
    ·refine s_do gt39<|mv' lk4 pt40<|s_do gt39<|V' (v_neq lk40 lki) pt41<|V' (v_pickT lk39 lk41) pt42<|mv' lk42 pt43<|?_
     refine sp' gt43 pt43 pt43 (fun hg43=>?_) (fun hg43=>?_)
     ·refine s_do gt43<|mv' lk4 pt44<|s_do gt43<|V' (v_neq lk44 lki) pt45<|V' (v_pickT lk43 lk45) pt46<|mv' lk46 pt47<|?_
      refine sp' gt47 pt47 pt47 (fun hg47=>?_) (fun hg47=>?_)
      ·refine s_do gt47<|mv' lk4 pt48<|s_do gt47<|V' (v_neq lk48 lki) pt49<|V' (v_pickT lk47 lk49) pt50<|sn'<|?_
       refine cd' lk50 (fun hc3=>?_) (fun hc3=>?_)
       ·refine wr'<|mv' lkb pt2<|sn'<|w_rets<|r_blk<|r_thn<|r_thn<|r_blk<|r_thn<|w_ret (rs1 (rr_t gt2))<|rT'<|?_
        refine bvx ?_;unfold nameB;rw [allB_no (k:=k) hk (by rw [←hbk,hR];unfold refN;simp_all)];simp
       refine w_skip<|n_blk<|n_seq<|w_reg<|mv' lk3 pt22<|?_
       refine V' (v_add lk22 lki (by omega) (by omega)) pt23 ?_
       refine mv' lk23 pt3<|s_nil<|n_thn<|?_
       refine lT' (k+1) (by (try dsimp only);refine ⟨by omega,fun j hj h0=>?_⟩;rcases Nat.lt_or_ge j k with e | e;exact hk2 j hj e;obtain rfl:j=k:=(by omega);rw [←hbk,hR];unfold refN;simp_all)
      refine s_no gt47 pt48<|s_no gt47 pt49<|V' (v_pickF lk47 lkb) pt50<|sn'<|w_condF lk50<|w_skip<|n_blk<|n_seq<|w_reg<|mv' lk3 pt22<|?_
      refine V' (v_add lk22 lki (by omega) (by omega)) pt23 ?_
      refine mv' lk23 pt3<|s_nil<|n_thn<|?_
      refine lT' (k+1) (by (try dsimp only);refine ⟨by omega,fun j hj h0=>?_⟩;rcases Nat.lt_or_ge j k with e | e;exact hk2 j hj e;obtain rfl:j=k:=(by omega);rw [←hbk,hR];unfold refN;simp_all)
     refine s_no gt43 pt44<|s_no gt43 pt45<|V' (v_pickF lk43 lkb) pt46<|mv' lk46 pt47<|s_no gt47 pt48<|s_no gt47 pt49<|V' (v_pickF lk47 lkb) pt50<|sn'<|w_condF lk50<|w_skip<|n_blk<|n_seq<|w_reg<|?_
     refine mv' lk3 pt22 ?_
     refine V' (v_add lk22 lki (by omega) (by omega)) pt23 ?_
     refine mv' lk23 pt3<|s_nil<|n_thn<|?_
     refine lT' (k+1) (by (try dsimp only);refine ⟨by omega,fun j hj h0=>?_⟩;rcases Nat.lt_or_ge j k with e | e;exact hk2 j hj e;obtain rfl:j=k:=(by omega);rw [←hbk,hR];unfold refN;simp_all)
    refine s_no gt39 pt40<|s_no gt39 pt41<|V' (v_pickF lk39 lkb) pt42<|mv' lk42 pt43<|s_no gt43 pt44<|s_no gt43 pt45<|V' (v_pickF lk43 lkb) pt46<|mv' lk46 pt47<|s_no gt47 pt48<|s_no gt47 pt49<|V' (v_pickF lk47 lkb) pt50<|sn'<|w_condF lk50<|?_
    refine w_skip<|n_blk<|n_seq<|w_reg<|mv' lk3 pt22<|?_
    refine V' (v_add lk22 lki (by omega) (by omega)) pt23 ?_
    refine mv' lk23 pt3<|s_nil<|n_thn<|?_
    refine lT' (k+1) (by (try dsimp only);refine ⟨by omega,fun j hj h0=>?_⟩;rcases Nat.lt_or_ge j k with e | e;exact hk2 j hj e;obtain rfl:j=k:=(by omega);rw [←hbk,hR];unfold refN;simp_all)
   refine s_no gt35 pt36<|s_no gt35 pt37<|V' (v_pickF lk35 lkb) pt38<|mv' lk38 pt39<|s_no gt39 pt40<|s_no gt39 pt41<|V' (v_pickF lk39 lkb) pt42<|mv' lk42 pt43<|s_no gt43 pt44<|s_no gt43 pt45<|V' (v_pickF lk43 lkb) pt46<|mv' lk46 pt47<|s_no gt47 pt48<|s_no gt47 pt49<|?_
   refine V' (v_pickF lk47 lkb) pt50<|sn'<|w_condF lk50<|w_skip<|n_blk<|n_seq<|w_reg<|mv' lk3 pt22<|?_
   refine V' (v_add lk22 lki (by omega) (by omega)) pt23 ?_
   refine mv' lk23 pt3<|s_nil<|n_thn<|?_
   refine lT' (k+1) (by (try dsimp only);refine ⟨by omega,fun j hj h0=>?_⟩;rcases Nat.lt_or_ge j k with e | e;exact hk2 j hj e;obtain rfl:j=k:=(by omega);rw [←hbk,hR];unfold refN;simp_all)
  refine s_no gt30 pt31<|s_no gt30 pt32<|s_no gt30 pt33<|V' (v_pickF lk30 lkb) pt34<|mv' lk34 pt35<|s_no gt35 pt36<|s_no gt35 pt37<|V' (v_pickF lk35 lkb) pt38<|mv' lk38 pt39<|s_no gt39 pt40<|s_no gt39 pt41<|V' (v_pickF lk39 lkb) pt42<|mv' lk42 pt43<|s_no gt43 pt44<|?_
  refine s_no gt43 pt45<|V' (v_pickF lk43 lkb) pt46<|mv' lk46 pt47<|s_no gt47 pt48<|s_no gt47 pt49<|V' (v_pickF lk47 lkb) pt50<|sn'<|w_condF lk50<|w_skip<|n_blk<|n_seq<|w_reg<|mv' lk3 pt22<|?_
  refine V' (v_add lk22 lki (by omega) (by omega)) pt23 ?_
  refine mv' lk23 pt3<|s_nil<|n_thn<|?_
  refine lT' (k+1) (by (try dsimp only);refine ⟨by omega,fun j hj h0=>?_⟩;rcases Nat.lt_or_ge j k with e | e;exact hk2 j hj e;obtain rfl:j=k:=(by omega);rw [←hbk,hR];unfold refN;simp_all)
 refine w_exit<|x_thn<|x_thn<|x_blk<|n_seq<|wr'<|mv' lkb pt2<|sn'<|w_rets<|w_ret (rs1 (rr_t gt2))<|rT'<|?_
 refine bvx ?_;unfold nameB;rw [allB_yes fun j hj=>hk2 j hj (by omega),hL];simp [hne,hz]
theorem risFormat_a {s:ByteArray}{h:AH}(hs:s.size≤maxLen):ACalls Tryz.prog 72 [sv s] h fun x h'=>h'=h∧x = .ret (bv (formatB s)):=by
 have hm:s.size≤9223372036854775807:=by simpa [maxLen] using hs
 have hem:=emp_size (f:=s)
 have hF:=formatB_fmt s
 refine tI' k72 fun N hn hlt hlA hbd=>?_
 simp only [tA',AV.bdL,AV.bd,and_true,true_and] at hbd ⊢
 refine wr'<|mv' lkb pt2<|sn'<|wr'<|mv' lki pt3<|sn'<|w_seq<|wr'<|mv' lki pt4<|?_
 refine sn'<|w_block<|?_
 refine w_lp (ι:=Nat×Nat) (fun (x_:Nat×Nat)=>match x_ with | ⟨k,m⟩=>[(3,iv (m:Int)),(4,iv (k:Int)),(2,.any)]++rn' 5 49) (fun (x_:Nat×Nat)=>match x_ with | ⟨k,m⟩=>[]) (fun (x_:Nat×Nat)=>match x_ with | ⟨k,m⟩=>k≤s.size∧m≤k∧fmtL 0 true (aB s)=fmtL m (decide (k=0)) ((aB s).drop k)) (fun (x_:Nat×Nat)=>match x_ with | ⟨k,m⟩=>s.size-k) (⟨0,0⟩) (by exact ⟨by omega,by omega,rfl⟩) ?_
 rintro ⟨k,m⟩ hi1
 try simp only [setsT,setsE,z',s',rn',la',ln',Nat.reduceAdd]
 obtain ⟨hk1,hk2,hk3⟩:=hi1
 refine w_seq<|wr'<|mv' lk4 pt5<|mv' lk0 pt6<|V' (v_lenS lk6) pt7<|V' (v_lss lk5 lk7) pt8<|sn'<|?_
 refine cd' lk8 (fun hc1=>?_) (fun hc1=>?_)
 ·have hk:k<s.size:=by omega
  have hb:=byte_bd s k
  have hA:=aB_at hk
  rw [hA,fmtL] at hk3
  have hE:((aB s).drop (k+1)).isEmpty=decide ((k:Int)=(s.size:Int)-1):=by
   rw [Bool.eq_iff_iff,List.isEmpty_iff,List.drop_eq_nil_iff,decide_eq_true_iff,aB_len];omega
  refine w_skip<|n_seq<|w_seq<|w_block<|w_block<|wr'<|mv' lk0 pt12<|mv' lk4 pt13<|?_
  refine V' (v_ix lk12 lk13 (by omega) (by omega)) pt14 ?_
  refine V' (v_eql lk14 lki) pt15<|mv' lk15 pt11<|sn'<|?_
  refine cd' lk11 (fun hc2=>?_) (fun hc2=>?_)
  ·have hx:byteAt s k=47:=byte_eq (n:=47) (by omega) hc2
   rw [if_pos hx,hE] at hk3
   refine wr'<|mv' lk3 pt16<|?_
   refine V' (v_add lk16 lki (by omega) (by omega)) pt17 ?_
   refine mv' lk17 pt3<|sn'<|wr'<|mv' lk4 pt18<|V' (v_eql lk18 lki) pt19<|mv' lk19 pt20<|?_
   refine sp' gt20 pt20 pt20 (fun hg20=>?_) (fun hg20=>?_)
   ·refine s_no gt20 pt21<|s_no gt20 pt22<|s_no gt20 pt23<|s_no gt20 pt24<|s_no gt20 pt25<|V' (v_pickT lk20 lkb) pt26<|sn'<|w_condT lk26<|wr'<|mv' lkb pt2<|sn'<|?_
    refine w_rets<|r_blk<|r_blk<|r_thn<|r_thn<|r_blk<|r_thn<|w_ret (rs1 (rr_t gt2))<|rT'<|?_
    refine bvx ?_;rw [hF,hk3];simp_all
   refine s_do gt20<|mv' lk4 pt21<|s_do gt20<|mv' lk0 pt22<|s_do gt20<|V' (v_lenS lk22) pt23<|s_do gt20<|?_
   refine V' (v_sub lk23 lki (by omega) (by omega)) pt24 ?_
   refine s_do gt20<|V' (v_eql lk21 lk24) pt25<|V' (v_pickF lk20 lk25) pt26<|sn'<|?_
   refine cd' lk26 (fun hc3=>?_) (fun hc3=>?_)
   ·refine wr'<|mv' lkb pt2<|sn'<|w_rets<|r_blk<|r_blk<|r_thn<|r_thn<|r_blk<|r_thn<|w_ret (rs1 (rr_t gt2))<|rT'<|?_
    refine bvx ?_;rw [hF,hk3];simp_all
   have hk3':fmtL 0 true (aB s)=fmtL (m+1) false ((aB s).drop (k+1)):=by rw [hk3];simp_all
   refine w_skip<|n_blk<|n_blk<|n_seq<|w_reg<|mv' lk4 pt9<|?_
   refine V' (v_add lk9 lki (by omega) (by omega)) pt10 ?_
   refine mv' lk10 pt4<|s_nil<|n_thn<|?_
   refine lT' (⟨k+1,m+1⟩) (by (try dsimp only);exact ⟨by omega,by omega,by rw [hk3'];simp⟩)
  have hx:¬byteAt s k=47:=byte_ne (n:=47) (by omega) hc2
  rw [if_neg hx] at hk3
  refine wr'<|mv' lk0 pt28<|mv' lk4 pt29<|?_
  refine V' (v_ix lk28 lk29 (by omega) (by omega)) pt30 ?_
  refine V' (v_eql lk30 lki) pt31<|mv' lk31 pt27<|sn'<|?_
  refine cd' lk27 (fun hc4=>?_) (fun hc4=>?_)
  ·have hy:byteAt s k=37:=byte_eq (n:=37) (by omega) hc4
   rw [if_pos hy] at hk3
   refine wr'<|mv' lk3 pt32<|?_
   refine V' (v_add lk32 lki (by omega) (by omega)) pt33 ?_
   refine mv' lk33 pt3<|sn'<|wr'<|mv' lk4 pt34<|mv' lk0 pt35<|V' (v_lenS lk35) pt36<|?_
   refine V' (v_sub lk36 lki (by omega) (by omega)) pt37 ?_
   refine V' (v_eql lk34 lk37) pt38<|mv' lk38 pt39<|?_
   refine sp' gt39 pt39 pt39 (fun hg39=>?_) (fun hg39=>?_)
   ·have hD:(aB s).drop (k+1)=[]:=by rw [List.drop_eq_nil_iff,aB_len];omega
    refine s_no gt39 pt40<|s_no gt39 pt41<|s_no gt39 pt42<|s_no gt39 pt43<|s_no gt39 pt44<|V' (v_pickT lk39 lkb) pt45<|sn'<|w_condT lk45<|wr'<|mv' lkb pt2<|sn'<|?_
    refine w_rets<|r_blk<|r_blk<|r_thn<|r_thn<|r_blk<|r_thn<|w_ret (rs1 (rr_t gt2))<|rT'<|?_
    refine bvx ?_;rw [hF,hk3,hD];simp
   have hk':k+1<s.size:=by omega
   have hA':=aB_at hk'
   refine s_do gt39<|mv' lk0 pt40<|s_do gt39<|mv' lk4 pt41<|s_do gt39<|?_
   refine V' (v_add lk41 lki (by omega) (by omega)) pt42 ?_
   refine s_do gt39 ?_
   refine V' (v_ix lk40 lk42 (by omega) (by omega)) pt43 ?_
   refine s_do gt39<|V' (v_neq lk43 lki) pt44<|V' (v_pickF lk39 lk44) pt45<|sn'<|?_
   refine cd' lk45 (fun hc5=>?_) (fun hc5=>?_)
   ·refine wr'<|mv' lkb pt2<|sn'<|w_rets<|r_blk<|r_blk<|r_thn<|r_thn<|r_blk<|r_thn<|w_ret (rs1 (rr_t gt2))<|rT'<|?_
    refine bvx ?_;rw [hF,hk3,hA'];have h9:¬byteAt s (k+1)=115:=byte_ne (c:=byteAt s (k+1)) (n:=115) (by omega) (by simpa using hc5);simp [h9]
   have hk3':fmtL 0 true (aB s)=fmtL (m+1) false ((aB s).drop (k+1)):=by rw [hk3];have:=byte_eq (c:=byteAt s (k+1)) (n:=115) (by omega) (by simpa using hc5);rw [hA'];simp [this]
   refine w_skip<|n_blk<|n_blk<|n_seq<|w_reg<|mv' lk4 pt9<|?_
   refine V' (v_add lk9 lki (by omega) (by omega)) pt10 ?_
   refine mv' lk10 pt4<|s_nil<|n_thn<|?_
   refine lT' (⟨k+1,m+1⟩) (by (try dsimp only);exact ⟨by omega,by omega,by rw [hk3'];simp⟩)
  have hy:¬byteAt s k=37:=byte_ne (n:=37) (by omega) hc4
  rw [if_neg hy] at hk3
  have hone:allB plainB (s.extract k (k+1))=plainB (byteAt s k).toNat:=by rw [bA_ext,hA,Nat.add_sub_cancel_left];simp [allB,bA]
  refine wr'<|mv' lk0 pt47<|mv' lk4 pt48<|mv' lk4 pt49<|?_
  refine V' (v_add lk49 lki (by omega) (by omega)) pt50 ?_
  refine V' (v_sls lk47 (oi lk48) (oi lk50) (by omega) (by omega) (by omega)) pt51 ?_
  refine s_callp (mp1 lk51 mp0) (risPlain1_a (by rw [ByteArray.size_extract];unfold maxLen at *;omega)) pt52 ?_
  refine V' (v_notB lk52) pt53<|mv' lk53 pt46<|sn'<|?_
  refine w_condB lk46 (fun hc6=>?_) (fun hc6=>?_)
  ·refine wr'<|mv' lkb pt2<|sn'<|w_rets<|r_blk<|r_blk<|r_thn<|r_thn<|r_blk<|r_thn<|w_ret (rs1 (rr_t gt2))<|rT'<|?_
   refine bvx ?_;rw [hF,hk3,←hone];simp_all
  have hk3':fmtL 0 true (aB s)=fmtL m false ((aB s).drop (k+1)):=by rw [hk3,←hone];simp_all
  refine w_skip<|n_blk<|n_blk<|n_seq<|w_reg<|mv' lk4 pt9<|?_
  refine V' (v_add lk9 lki (by omega) (by omega)) pt10 ?_
  refine mv' lk10 pt4<|s_nil<|n_thn<|?_
  refine lT' (⟨k+1,m⟩) (by (try dsimp only);exact ⟨by omega,by omega,by rw [hk3'];simp⟩)
 have hk4:fmtL 0 true (aB s)=decide (m≤1):=by rw [hk3,aB_end (by omega),fmtL]
 clear hk3
 refine w_exit<|x_thn<|x_thn<|x_blk<|n_seq<|wr'<|mv' lk0 pt54<|V' (v_neqS lk54 lks) pt55<|mv' lk55 pt56<|?_
 refine sp' gt56 pt56 pt56 (fun hg56=>?_) (fun hg56=>?_)
 ·refine s_do gt56<|mv' lk0 pt57<|s_do gt56<|V' (v_lenS lk57) pt58<|s_do gt56<|V' (v_leq lk58 lki) pt59<|V' (v_pickT lk56 lk59) pt60<|mv' lk60 pt61<|?_
  refine sp' gt61 pt61 pt61 (fun hg61=>?_) (fun hg61=>?_)
  ·refine s_do gt61<|mv' lk3 pt62<|s_do gt61<|V' (v_leq lk62 lki) pt63<|V' (v_pickT lk61 lk63) pt64<|mv' lk64 pt2<|sn'<|w_rets<|w_ret (rs1 (rr_t gt2))<|rT'<|?_
   refine bvx ?_;rw [hF,hk4];clear hF hk4;by_cases h0:s.size=0 <;> simp_all <;> (try intros) <;> first | omega | (rw [Bool.eq_iff_iff];simp;omega)
  refine s_no gt61 pt62<|s_no gt61 pt63<|V' (v_pickF lk61 lkb) pt64<|mv' lk64 pt2<|sn'<|w_rets<|w_ret (rs1 (rr_t gt2))<|rT'<|?_
  refine bvx ?_;rw [hF,hk4];clear hF hk4;by_cases h0:s.size=0 <;> simp_all <;> (try intros) <;> first | omega | (rw [Bool.eq_iff_iff];simp;omega)
 refine s_no gt56 pt57<|s_no gt56 pt58<|s_no gt56 pt59<|V' (v_pickF lk56 lkb) pt60<|mv' lk60 pt61<|s_no gt61 pt62<|s_no gt61 pt63<|V' (v_pickF lk61 lkb) pt64<|mv' lk64 pt2<|sn'<|w_rets<|w_ret (rs1 (rr_t gt2))<|rT'<|?_
 refine bvx ?_;rw [hF,hk4];clear hF hk4;by_cases h0:s.size=0 <;> simp_all <;> (try intros) <;> first | omega | (rw [Bool.eq_iff_iff];simp;omega)
end Go.Proofs.YtgjchdhdopgkkaaGreatDoor
end
section
namespace Go.Proofs.YtgjchdhdopgkkaaGreatDoor
open Go.Ab
attribute [local simp] rul_lt era_lt zon_lt lnk_lt
section
theorem SrcS_tk0_3 {a0 a1 a2:AV}{l:List AV}:((a0::a1::a2::l).drop 0).take 3=[a0,a1,a2]:=rfl
theorem SrcS_eq_iii {a0 b0:Int}{a1 b1:Int}{a2 b2:Int}:eqCells [.int,.int,.int] [iv a0,iv a1,iv a2] [iv b0,iv b1,iv b2]=some (decide (a0=b0∧a1=b1∧a2=b2)):=by
 simp only [eqCells,eqLeaf,if_true,bytes_beq,Option.some.injEq]
 simp only [Bool.decide_and,Bool.and_true]
 try (congr 1 <;> simp)
 try rfl
theorem SrcS_tk_10 {a0 a1 a2 a3 a4 a5 a6 a7 a8 a9:AV}{l:List AV}:(a0::a1::a2::a3::a4::a5::a6::a7::a8::a9::l).take 10=[a0,a1,a2,a3,a4,a5,a6,a7,a8,a9]:=rfl
theorem SrcS_sc0_10 {a0 a1 a2 a3 a4 a5 a6 a7 a8 a9 c0 c1 c2 c3 c4 c5 c6 c7 c8 c9:AV}{l:List AV}:setCells (a0::a1::a2::a3::a4::a5::a6::a7::a8::a9::l) 0 [c0,c1,c2,c3,c4,c5,c6,c7,c8,c9]=c0::c1::c2::c3::c4::c5::c6::c7::c8::c9::l:=rfl
theorem SrcS_tk5_5 {a0 a1 a2 a3 a4 a5 a6 a7 a8 a9:AV}{l:List AV}:((a0::a1::a2::a3::a4::a5::a6::a7::a8::a9::l).drop 5).take 5=[a5,a6,a7,a8,a9]:=rfl
theorem SrcS_tk_11 {a0 a1 a2 a3 a4 a5 a6 a7 a8 a9 a10:AV}{l:List AV}:(a0::a1::a2::a3::a4::a5::a6::a7::a8::a9::a10::l).take 11=[a0,a1,a2,a3,a4,a5,a6,a7,a8,a9,a10]:=rfl
theorem SrcS_eq_siiiiiiiiis {a0 b0:ByteArray}{a1 b1:Int}{a2 b2:Int}{a3 b3:Int}{a4 b4:Int}{a5 b5:Int}{a6 b6:Int}{a7 b7:Int}{a8 b8:Int}{a9 b9:Int}{a10 b10:ByteArray}:eqCells [.str,.int,.int,.int,.int,.int,.int,.int,.int,.int,.str] [sv a0,iv a1,iv a2,iv a3,iv a4,iv a5,iv a6,iv a7,iv a8,iv a9,sv a10] [sv b0,iv b1,iv b2,iv b3,iv b4,iv b5,iv b6,iv b7,iv b8,iv b9,sv b10]=some (decide (a0=b0∧a1=b1∧a2=b2∧a3=b3∧a4=b4∧a5=b5∧a6=b6∧a7=b7∧a8=b8∧a9=b9∧a10=b10)):=by
 simp only [eqCells,eqLeaf,if_true,bytes_beq,Option.some.injEq]
 simp only [Bool.decide_and,Bool.and_true]
 try (congr 1 <;> simp)
 try rfl
theorem SrcS_tk_2 {a0 a1:AV}{l:List AV}:(a0::a1::l).take 2=[a0,a1]:=rfl
theorem SrcS_eq_ss {a0 b0:ByteArray}{a1 b1:ByteArray}:eqCells [.str,.str] [sv a0,sv a1] [sv b0,sv b1]=some (decide (a0=b0∧a1=b1)):=by
 simp only [eqCells,eqLeaf,if_true,bytes_beq,Option.some.injEq]
 simp only [Bool.decide_and,Bool.and_true]
 try (congr 1 <;> simp)
 try rfl
end
def c73:AC:=(.seq (.reg [Oo 2 (.box 62 5 (.tmp 0)),Oo 3 (.box 62 5 (.tmp 1)),Oo 4 (.mv (.const (.bool false)))]) (.seq (.reg [Fa 5 0 2,Oo 6 (.load true 3 (.tmp 5)),Fa 7 0 3,Oo 8 (.load true 3 (.tmp 7)),Oo 9 (.eqs false [.int,.int,.int] (.tmp 6) (.tmp 8)),Mv 10 9,Ot 11 10 (.fa 3 (.tmp 2)),Ot 12 10 (.load false 1 (.tmp 11)),Ot 13 10 (.fa 3 (.tmp 3)),Ot 14 10 (.load false 1 (.tmp 13)),Ot 15 10 (.bin .eql (.tmp 12) (.tmp 14)),Oo 16 (.pick (.tmp 10) (.tmp 15) (.const (.bool false))),Mv 17 16,Ot 18 17 (.fa 4 (.tmp 2)),Ot 19 17 (.load false 1 (.tmp 18)),Ot 20 17 (.fa 4 (.tmp 3)),Ot 21 17 (.load false 1 (.tmp 20)),Ot 22 17 (.bin .eql (.tmp 19) (.tmp 21)),Oo 23 (.pick (.tmp 17) (.tmp 22) (.const (.bool false))),Mv 4 23]) .ret))
theorem k73:compF Tryz.prog 73=some ⟨c73,[(.tmp 4)],24⟩:=by kernel_rfl
def c38:AC:=(.seq (.reg [Oo 2 (.box 52 2 (.tmp 0)),Oo 3 (.box 52 2 (.tmp 1)),Oo 4 (.mv (.const (.bool false)))]) (.seq (.seq (.reg [Fa 8 0 2,Ld 9 8,Fa 10 0 3,Ld 11 10,Oo 12 (.bin .neq (.tmp 9) (.tmp 11)),Mv 13 12,Of 14 13 (.fa 1 (.tmp 2)),Of 15 13 (.load false 1 (.tmp 14)),Of 16 13 (.len false (.tmp 15)),Of 17 13 (.fa 1 (.tmp 3)),Of 18 13 (.load false 1 (.tmp 17)),Of 19 13 (.len false (.tmp 18)),Of 20 13 (.bin .neq (.tmp 16) (.tmp 19)),Oo 21 (.pick (.tmp 13) (.const (.bool true)) (.tmp 20))]) (.cond (.tmp 21) (.seq (.reg [Oo 4 (.mv (.const (.bool false)))]) .ret) .skip)) (.seq (.seq (.reg [Oo 5 (.mv (Ci 0))]) (.block 0 (.loop (.seq (.seq (.reg [Mv 22 5,Fa 23 1 2,Ld 24 23,Oo 25 (.len false (.tmp 24)),Oo 26 (.bin .lss (.tmp 22) (.tmp 25))]) (.cond (.tmp 26) .skip (.exit 0))) (.seq (.block 1 (.seq (.drwU [[],[],[0,1],[],[],[0,1,2,3,4],[0,1,2,3,4],[0,1,2,3,4,5,6],[0,1,2,3,4],[0,1,2,3,4],[0,1,2,3,4,5,6,7,8,9],[0,1,2,3,4,5,6,7,8,9,10],[5,6,7,8,9],[]] [Fa 29 1 2,Ld 30 29,Mv 31 5,Oo 32 (.ia 10 (.tmp 30) (.tmp 31)),Oo 33 (.load true 10 (.tmp 32)),Fa 34 1 3,Ld 35 34,Mv 36 5,Oo 37 (.ia 10 (.tmp 35) (.tmp 36)),Oo 38 (.load true 10 (.tmp 37)),Oo 6 (.new 64 10 [(iv 0),Ss,(iv 0),Ss,(.v (.bool false)),(iv 0),(iv 0),(iv 0),(iv 0),(iv 0)]),Oo 7 (.new 64 10 [(iv 0),Ss,(iv 0),Ss,(.v (.bool false)),(iv 0),(iv 0),(iv 0),(iv 0),(iv 0)]),⟨none,none,(.store 10 (.tmp 6) (.tmp 33))⟩,⟨none,none,(.store 10 (.tmp 7) (.tmp 38))⟩]) (.seq (.reg [Fa 39 0 6,Ld 40 39,Fa 41 0 7,Ld 42 41,Oo 43 (.bin .neq (.tmp 40) (.tmp 42)),Mv 44 43,Of 45 44 (.fa 1 (.tmp 6)),Of 46 44 (.load false 1 (.tmp 45)),Of 47 44 (.fa 1 (.tmp 7)),Of 48 44 (.load false 1 (.tmp 47)),Of 49 44 (.bin .neq (.tmp 46) (.tmp 48)),Oo 50 (.pick (.tmp 44) (.const (.bool true)) (.tmp 49)),Mv 51 50,Of 52 51 (.fa 2 (.tmp 6)),Of 53 51 (.load false 1 (.tmp 52)),Of 54 51 (.fa 2 (.tmp 7)),Of 55 51 (.load false 1 (.tmp 54)),Of 56 51 (.bin .neq (.tmp 53) (.tmp 55)),Oo 57 (.pick (.tmp 51) (.const (.bool true)) (.tmp 56)),Mv 58 57,Of 59 58 (.fa 3 (.tmp 6)),Of 60 58 (.load false 1 (.tmp 59)),Of 61 58 (.fa 3 (.tmp 7)),Of 62 58 (.load false 1 (.tmp 61)),Of 63 58 (.bin .neq (.tmp 60) (.tmp 62)),Oo 64 (.pick (.tmp 58) (.const (.bool true)) (.tmp 63)),Mv 65 64,Of 66 65 (.fa 4 (.tmp 6)),Of 67 65 (.load false 1 (.tmp 66)),Of 68 65 (.fa 4 (.tmp 7)),Of 69 65 (.load false 1 (.tmp 68)),Of 70 65 (.eqb true (.tmp 67) (.tmp 69)),Oo 71 (.pick (.tmp 65) (.const (.bool true)) (.tmp 70)),Mv 72 71,Of 73 72 (.fa 5 (.tmp 6)),Of 74 72 (.load true 5 (.tmp 73)),Of 75 72 (.fa 5 (.tmp 7)),Of 76 72 (.load true 5 (.tmp 75)),Of 77 72 (.call (.func 73) [(.tmp 74),(.tmp 76)]),Of 78 72 (.un .not (.tmp 77)),Oo 79 (.pick (.tmp 72) (.const (.bool true)) (.tmp 78))]) (.cond (.tmp 79) (.seq (.reg [Oo 4 (.mv (.const (.bool false)))]) .ret) .skip)))) (.reg [Mv 27 5,Oo 28 (.bin .add (.tmp 27) (Ci 1)),Mv 5 28])))))) (.seq (.reg [Oo 4 (.mv (.const (.bool true)))]) .ret))))
theorem k38:compF Tryz.prog 38=some ⟨c38,[(.tmp 4)],80⟩:=by kernel_rfl
def c14:AC:=(.seq (.reg [Oo 2 (.box 26 3 (.tmp 0)),Oo 3 (.box 26 3 (.tmp 1)),Oo 4 (.mv (.const (.bool false)))]) (.seq (.seq (.reg [Fa 8 0 2,Ld 9 8,Oo 10 (.len false (.tmp 9)),Fa 11 0 3,Ld 12 11,Oo 13 (.len false (.tmp 12)),Oo 14 (.bin .neq (.tmp 10) (.tmp 13)),Mv 15 14,Of 16 15 (.fa 1 (.tmp 2)),Of 17 15 (.load false 1 (.tmp 16)),Of 18 15 (.len false (.tmp 17)),Of 19 15 (.fa 1 (.tmp 3)),Of 20 15 (.load false 1 (.tmp 19)),Of 21 15 (.len false (.tmp 20)),Of 22 15 (.bin .neq (.tmp 18) (.tmp 21)),Oo 23 (.pick (.tmp 15) (.const (.bool true)) (.tmp 22)),Mv 24 23,Of 25 24 (.fa 2 (.tmp 2)),Of 26 24 (.load false 1 (.tmp 25)),Of 27 24 (.len false (.tmp 26)),Of 28 24 (.fa 2 (.tmp 3)),Of 29 24 (.load false 1 (.tmp 28)),Of 30 24 (.len false (.tmp 29)),Of 31 24 (.bin .neq (.tmp 27) (.tmp 30)),Oo 32 (.pick (.tmp 24) (.const (.bool true)) (.tmp 31))]) (.cond (.tmp 32) (.seq (.reg [Oo 4 (.mv (.const (.bool false)))]) .ret) .skip)) (.seq (.seq (.reg [Oo 5 (.mv (Ci 0))]) (.block 0 (.loop (.seq (.seq (.reg [Mv 33 5,Fa 34 0 2,Ld 35 34,Oo 36 (.len false (.tmp 35)),Oo 37 (.bin .lss (.tmp 33) (.tmp 36))]) (.cond (.tmp 37) .skip (.exit 0))) (.seq (.block 1 (.seq (.drw [Fa 40 0 2,Ld 41 40,Mv 42 5,Oo 43 (.ia 11 (.tmp 41) (.tmp 42)),Oo 44 (.load true 11 (.tmp 43)),Fa 45 0 3,Ld 46 45,Mv 47 5,Oo 48 (.ia 11 (.tmp 46) (.tmp 47)),Oo 49 (.load true 11 (.tmp 48)),Oo 50 (.eqs true [.str,.int,.int,.int,.int,.int,.int,.int,.int,.int,.str] (.tmp 44) (.tmp 49))] [] []) (.cond (.tmp 50) (.seq (.reg [Oo 4 (.mv (.const (.bool false)))]) .ret) .skip))) (.reg [Mv 38 5,Oo 39 (.bin .add (.tmp 38) (Ci 1)),Mv 5 39])))))) (.seq (.seq (.reg [Oo 6 (.mv (Ci 0))]) (.block 2 (.loop (.seq (.seq (.reg [Mv 51 6,Fa 52 2 2,Ld 53 52,Oo 54 (.len false (.tmp 53)),Oo 55 (.bin .lss (.tmp 51) (.tmp 54))]) (.cond (.tmp 55) .skip (.exit 2))) (.seq (.block 3 (.seq (.drw [Fa 58 2 2,Ld 59 58,Mv 60 6,Oo 61 (.ia 2 (.tmp 59) (.tmp 60)),Oo 62 (.load true 2 (.tmp 61)),Fa 63 2 3,Ld 64 63,Mv 65 6,Oo 66 (.ia 2 (.tmp 64) (.tmp 65)),Oo 67 (.load true 2 (.tmp 66)),Oo 68 (.eqs true [.str,.str] (.tmp 62) (.tmp 67))] [] []) (.cond (.tmp 68) (.seq (.reg [Oo 4 (.mv (.const (.bool false)))]) .ret) .skip))) (.reg [Mv 56 6,Oo 57 (.bin .add (.tmp 56) (Ci 1)),Mv 6 57])))))) (.seq (.seq (.reg [Oo 7 (.mv (Ci 0))]) (.block 4 (.loop (.seq (.seq (.reg [Mv 69 7,Fa 70 1 2,Ld 71 70,Oo 72 (.len false (.tmp 71)),Oo 73 (.bin .lss (.tmp 69) (.tmp 72))]) (.cond (.tmp 73) .skip (.exit 4))) (.seq (.block 5 (.seq (.drw [Fa 76 1 2,Ld 77 76,Mv 78 7,Oo 79 (.ia 2 (.tmp 77) (.tmp 78)),Oo 80 (.load true 2 (.tmp 79)),Fa 81 1 3,Ld 82 81,Mv 83 7,Oo 84 (.ia 2 (.tmp 82) (.tmp 83)),Oo 85 (.load true 2 (.tmp 84)),Oo 86 (.call (.func 38) [(.tmp 80),(.tmp 85)]),Oo 87 (.un .not (.tmp 86))] [] []) (.cond (.tmp 87) (.seq (.reg [Oo 4 (.mv (.const (.bool false)))]) .ret) .skip))) (.reg [Mv 74 7,Oo 75 (.bin .add (.tmp 74) (Ci 1)),Mv 7 75])))))) (.seq (.reg [Oo 4 (.mv (.const (.bool true)))]) .ret))))))
theorem k14:compF Tryz.prog 14=some ⟨c14,[(.tmp 4)],88⟩:=by kernel_rfl
theorem rsameUntil_a {u v:Unt}{h:AH}:ACalls Tryz.prog 73 [.agg (untC u),.agg (untC v)] h fun x h'=>h'=h∧x = .ret (bv (decide (u=v))):=by
 obtain ⟨⟨y,m,d⟩,a,c⟩:=u
 obtain ⟨⟨y2,m2,d2⟩,a2,c2⟩:=v
 refine tI' k73 fun N hn hlt hlA hbd=>?_
 simp only [tA',AV.bdL,AV.bd,and_true,true_and] at hbd ⊢
 refine wr'<|E' (e_box (cvl lk0 rfl) rfl (hl0 hn) ha0) pt2<|E' (e_box (cvl lk1 rfl) rfl (hl1 hn) ha1) pt3<|mv' lkb pt4<|sn'<|wr'<|V' (v_fap0 lk2) pt5<|V' (v_loadpA lk5 (hga hn rfl) SrcS_tk0_3 rfl) pt6<|V' (v_fap0 lk3) pt7<|V' (v_loadpA lk7 (hga hn rfl) SrcS_tk0_3 rfl) pt8<|V' (v_eqsT lk6 lk8 SrcS_eq_iii) pt9<|?_
 refine mv' lk9 pt10 ?_
 refine sp' gt10 pt10 pt10 (fun hg10=>?_) (fun hg10=>?_)
 ·refine s_do gt10<|V' (v_fap0 lk2) pt11<|s_do gt10<|V' (v_loadp lk11 (hga hn rfl) gt3) pt12<|s_do gt10<|V' (v_fap0 lk3) pt13<|s_do gt10<|V' (v_loadp lk13 (hga hn rfl) gt3) pt14<|s_do gt10<|V' (v_eql lk12 lk14) pt15<|V' (v_pickT lk10 lk15) pt16<|mv' lk16 pt17<|?_
  refine sp' gt17 pt17 pt17 (fun hg17=>?_) (fun hg17=>?_)
  ·refine s_do gt17<|V' (v_fap0 lk2) pt18<|s_do gt17<|V' (v_loadp lk18 (hga hn rfl) gt4) pt19<|s_do gt17<|V' (v_fap0 lk3) pt20<|s_do gt17<|V' (v_loadp lk20 (hga hn rfl) gt4) pt21<|s_do gt17<|V' (v_eql lk19 lk21) pt22<|V' (v_pickT lk17 lk22) pt23<|mv' lk23 pt4<|sn'<|?_
   refine w_rets<|w_ret (rs1 (rr_t gt4))<|rT'<|?_
   refine bvx ?_;simp_all
  refine s_no gt17 pt18<|s_no gt17 pt19<|s_no gt17 pt20<|s_no gt17 pt21<|s_no gt17 pt22<|V' (v_pickF lk17 lkb) pt23<|mv' lk23 pt4<|sn'<|w_rets<|w_ret (rs1 (rr_t gt4))<|rT'<|?_
  refine bvx ?_;simp_all
 refine s_no gt10 pt11<|s_no gt10 pt12<|s_no gt10 pt13<|s_no gt10 pt14<|s_no gt10 pt15<|V' (v_pickF lk10 lkb) pt16<|mv' lk16 pt17<|s_no gt17 pt18<|s_no gt17 pt19<|s_no gt17 pt20<|s_no gt17 pt21<|s_no gt17 pt22<|V' (v_pickF lk17 lkb) pt23<|mv' lk23 pt4<|?_
 refine sn'<|w_rets<|w_ret (rs1 (rr_t gt4))<|rT'<|?_
 refine bvx ?_;simp_all
theorem eq_no {α:Type}{a b:List α}{k:Nat}(ha:k<a.length) (hb:k<b.length) (h:a[k]≠b[k]):a≠b:=fun e=>h (by subst e;rfl)
set_option maxHeartbeats 1000000 in
theorem rsameZone_b {na nb:ByteArray}{a b:List Era}{h:AH}:ACalls Tryz.prog 38 [.agg [sv na,.sl a.length 10 false (rows eraC a)],.agg [sv nb,.sl b.length 10 false (rows eraC b)]] h fun x h'=>h'=h∧x = .ret (bv (decide ((na,a)=(nb,b)))):=by
 refine tI' k38 fun N hn hlt hlA hbd=>?_
 simp only [tA',AV.bdL,AV.bd,and_true,true_and] at hbd ⊢
 refine wr'<|E' (e_box (cvl lk0 rfl) rfl (hl0 hn) ha0) pt2<|E' (e_box (cvl lk1 rfl) rfl (hl1 hn) ha1) pt3<|mv' lkb pt4<|sn'<|w_seq<|wr'<|V' (v_fap0 lk2) pt8<|V' (v_loadp lk8 (hga hn rfl) gt0) pt9<|V' (v_fap0 lk3) pt10<|V' (v_loadp lk10 (hga hn rfl) gt0) pt11<|?_
 refine V' (v_neqS lk9 lk11) pt12<|mv' lk12 pt13<|?_
 refine sp' gt13 pt13 pt13 (fun hg13=>?_) (fun hg13=>?_)
 ·have hD:decide ((na,a)=(nb,b))=false:=decide_eq_false (fun e=>hg13 (congrArg Prod.fst e))
  refine s_no gt13 pt14<|s_no gt13 pt15<|s_no gt13 pt16<|s_no gt13 pt17<|s_no gt13 pt18<|s_no gt13 pt19<|s_no gt13 pt20<|V' (v_pickT lk13 lkb) pt21<|sn'<|w_condT lk21<|wr'<|mv' lkb pt4<|?_
  refine sn'<|w_rets<|r_thn<|w_ret (rs1 (rr_t gt4))<|rT'<|?_
  rw [hD]
 refine s_do gt13<|V' (v_fap0 lk2) pt14<|s_do gt13<|V' (v_loadp lk14 (hga hn rfl) gt1) pt15<|s_do gt13<|V' (v_lenL lk15) pt16<|s_do gt13<|V' (v_fap0 lk3) pt17<|s_do gt13<|V' (v_loadp lk17 (hga hn rfl) gt1) pt18<|s_do gt13<|V' (v_lenL lk18) pt19<|s_do gt13<|V' (v_neq lk16 lk19) pt20<|?_
 refine V' (v_pickF lk13 lk20) pt21<|sn'<|?_
 refine cd' lk21 (fun hc1=>?_) (fun hc1=>?_)
 ·have hD:decide ((na,a)=(nb,b))=false:=decide_eq_false (fun e=>hc1 (by have:=(Prod.ext_iff.1 e).2;simp only at this;rw [this]))
  refine wr'<|mv' lkb pt4<|sn'<|w_rets<|r_thn<|w_ret (rs1 (rr_t gt4))<|rT'<|?_
  rw [hD]
 have hl:a.length=b.length:=by omega
 have hnm:na=nb:=Decidable.of_not_not hg13
 refine w_skip<|n_seq<|w_seq<|wr'<|mv' lki pt5<|sn'<|w_block<|?_
 refine w_lp (ι:=Nat) (fun (k:Nat)=>[(5,iv (k:Int)),(4,.any),(6,.any),(7,.any)]++rn' 22 58) (fun (k:Nat)=>[]) (fun (k:Nat)=>k≤a.length∧a.take k=b.take k) (fun (k:Nat)=>a.length-k) (0) (by exact ⟨Nat.zero_le _,by simp⟩) ?_
 rintro k hi1
 try simp only [setsT,setsE,z',s',rn',la',ln',Nat.reduceAdd]
 obtain ⟨hk1,hk2⟩:=hi1
 refine w_seq<|wr'<|mv' lk5 pt22<|V' (v_fap0 lk2) pt23<|V' (v_loadp lk23 (hga hn rfl) gt1) pt24<|V' (v_lenL lk24) pt25<|V' (v_lss lk22 lk25) pt26<|sn'<|?_
 refine cd' lk26 (fun hc2=>?_) (fun hc2=>?_)
 ·have hka:k<a.length:=by omega
  have hkb:k<b.length:=by omega
  refine w_skip<|n_seq<|w_seq<|w_block<|w_seq<|w_drwU<|u_fr rfl (v_fap0 lk2) pt29<|?_
  refine u_rdn rfl (v_loadp lk29 (hga hn rfl) gt1) (hx_l rfl) (hl2 hn) (by first | (simp [noHit];done) | (simp [noHit];omega) | (simp [noHit] <;> (try intros) <;> omega)) pt30 ?_
  refine u_fr rfl (v_mv lk5) pt31 ?_
  refine u_fr rfl (v_iaR lk30 lk31 era_len1 (nb' rfl) (by first | rfl | omega) (by omega) (by first | rfl | omega) rfl) pt32 ?_
  refine u_fr rfl (v_loadrA lk32 SrcS_tk_10 rfl) pt33<|u_fr rfl (v_fap0 lk3) pt34<|?_
  refine u_rdn rfl (v_loadp lk34 (hga hn rfl) gt1) (hx_l rfl) (hl2 hn) (by first | (simp [noHit];done) | (simp [noHit];omega) | (simp [noHit] <;> (try intros) <;> omega)) pt35 ?_
  refine u_fr rfl (v_mv lk5) pt36 ?_
  refine u_fr rfl (v_iaR lk35 lk36 era_len1 (nb' rfl) (by first | rfl | omega) (by omega) (by first | rfl | omega) rfl) pt37 ?_
  refine u_fr rfl (v_loadrA lk37 SrcS_tk_10 rfl) pt38 ?_
  refine u_al rfl (e_new (hl2 hn) ha2) (hl2 hn) (by first | (simp [noHit];done) | (simp [noHit];omega) | (simp [noHit] <;> (try intros) <;> omega)) pt6 ?_
  refine u_al rfl (e_new (hl3 hn) ha3) (hl3 hn) (by first | (simp [noHit];done) | (simp [noHit];omega) | (simp [noHit] <;> (try intros) <;> omega)) pt7 ?_
  refine u_st (e_store lk6 (cvl lk33 rfl) (hga hn rfl) rfl (nb' rfl) rfl SrcS_sc0_10 (hs2 hn)) lk6 (by first | (simp [noHit];done) | (simp [noHit];omega) | (simp [noHit] <;> (try intros) <;> omega)) ptn ?_
  refine u_st (e_store lk7 (cvl lk38 rfl) (hga hn rfl) rfl (nb' rfl) rfl SrcS_sc0_10 (hs3 hn)) lk7 (by first | (simp [noHit];done) | (simp [noHit];omega) | (simp [noHit] <;> (try intros) <;> omega)) ptn ?_
  refine u_nil<|n_seq<|wr'<|V' (v_fap0 lk6) pt39<|V' (v_loadp lk39 (hga hn rfl) gt0) pt40<|V' (v_fap0 lk7) pt41<|V' (v_loadp lk41 (hga hn rfl) gt0) pt42<|?_
  refine V' ((by first | exact v_neq lk40 lk42 | exact v_neqS lk40 lk42)) pt43 ?_
  refine mv' lk43 pt44 ?_
  refine sp' gt44 pt44 pt44 (fun hg44=>?_) (fun hg44=>?_)
  ·refine s_no gt44 pt45<|s_no gt44 pt46<|s_no gt44 pt47<|s_no gt44 pt48<|s_no gt44 pt49<|V' (v_pickT lk44 lkb) pt50<|mv' lk50 pt51<|s_no gt51 pt52<|s_no gt51 pt53<|s_no gt51 pt54<|s_no gt51 pt55<|s_no gt51 pt56<|V' (v_pickT lk51 lkb) pt57<|mv' lk57 pt58<|?_
   refine s_no gt58 pt59<|s_no gt58 pt60<|s_no gt58 pt61<|s_no gt58 pt62<|s_no gt58 pt63<|V' (v_pickT lk58 lkb) pt64<|mv' lk64 pt65<|s_no gt65 pt66<|s_no gt65 pt67<|s_no gt65 pt68<|s_no gt65 pt69<|s_no gt65 (ptS pt0)<|V' (v_pickT lk65 lkb) (ptS pt1)<|mv' (lkS lk1) (ptS pt2)<|?_
   refine s_no (gtS gt2) (ptS pt3)<|s_no (gtS gt2) (ptS pt4)<|s_no (gtS gt2) (ptS pt5)<|s_no (gtS gt2) (ptS pt6)<|s_no (gtS gt2) (ptS pt7)<|s_no (gtS gt2) (ptS pt8)<|V' (v_pickT (lkS lk2) lkb) (ptS pt9)<|sn'<|w_condT (lkS lk9)<|wr'<|mv' lkb pt4<|s_nil<|?_
   refine n_seq<|w_rets<|r_blk<|r_thn<|r_thn<|r_blk<|r_thn<|w_ret (rs1 (rr_t gt4))<|rT'<|?_
   exact bvx (decide_eq_false (fun e=>absurd (Prod.ext_iff.1 e).2 (eq_no hka hkb (by intro e2;simp_all)))).symm
  refine s_do gt44<|V' (v_fap0 lk6) pt45<|s_do gt44<|V' (v_loadp lk45 (hga hn rfl) gt1) pt46<|s_do gt44<|V' (v_fap0 lk7) pt47<|s_do gt44<|V' (v_loadp lk47 (hga hn rfl) gt1) pt48<|s_do gt44<|?_
  refine V' ((by first | exact v_neq lk46 lk48 | exact v_neqS lk46 lk48)) pt49 ?_
  refine V' (v_pickF lk44 lk49) pt50<|mv' lk50 pt51<|?_
  refine sp' gt51 pt51 pt51 (fun hg51=>?_) (fun hg51=>?_)
  ·refine s_no gt51 pt52<|s_no gt51 pt53<|s_no gt51 pt54<|s_no gt51 pt55<|s_no gt51 pt56<|V' (v_pickT lk51 lkb) pt57<|mv' lk57 pt58<|s_no gt58 pt59<|s_no gt58 pt60<|s_no gt58 pt61<|s_no gt58 pt62<|s_no gt58 pt63<|V' (v_pickT lk58 lkb) pt64<|mv' lk64 pt65<|?_
   refine s_no gt65 pt66<|s_no gt65 pt67<|s_no gt65 pt68<|s_no gt65 pt69<|s_no gt65 (ptS pt0)<|V' (v_pickT lk65 lkb) (ptS pt1)<|mv' (lkS lk1) (ptS pt2)<|s_no (gtS gt2) (ptS pt3)<|s_no (gtS gt2) (ptS pt4)<|s_no (gtS gt2) (ptS pt5)<|s_no (gtS gt2) (ptS pt6)<|s_no (gtS gt2) (ptS pt7)<|s_no (gtS gt2) (ptS pt8)<|V' (v_pickT (lkS lk2) lkb) (ptS pt9)<|?_
   refine sn'<|w_condT (lkS lk9)<|wr'<|mv' lkb pt4<|sn'<|w_rets<|r_blk<|r_thn<|r_thn<|r_blk<|r_thn<|?_
   refine w_ret (rs1 (rr_t gt4))<|rT'<|?_
   exact bvx (decide_eq_false (fun e=>absurd (Prod.ext_iff.1 e).2 (eq_no hka hkb (by intro e2;simp_all)))).symm
  refine s_do gt51<|V' (v_fap0 lk6) pt52<|s_do gt51<|V' (v_loadp lk52 (hga hn rfl) gt2) pt53<|s_do gt51<|V' (v_fap0 lk7) pt54<|s_do gt51<|V' (v_loadp lk54 (hga hn rfl) gt2) pt55<|s_do gt51<|?_
  refine V' ((by first | exact v_neq lk53 lk55 | exact v_neqS lk53 lk55)) pt56 ?_
  refine V' (v_pickF lk51 lk56) pt57<|mv' lk57 pt58<|?_
  refine sp' gt58 pt58 pt58 (fun hg58=>?_) (fun hg58=>?_)
  ·refine s_no gt58 pt59<|s_no gt58 pt60<|s_no gt58 pt61<|s_no gt58 pt62<|s_no gt58 pt63<|V' (v_pickT lk58 lkb) pt64<|mv' lk64 pt65<|s_no gt65 pt66<|s_no gt65 pt67<|s_no gt65 pt68<|s_no gt65 pt69<|s_no gt65 (ptS pt0)<|V' (v_pickT lk65 lkb) (ptS pt1)<|mv' (lkS lk1) (ptS pt2)<|?_
   refine s_no (gtS gt2) (ptS pt3)<|s_no (gtS gt2) (ptS pt4)<|s_no (gtS gt2) (ptS pt5)<|s_no (gtS gt2) (ptS pt6)<|s_no (gtS gt2) (ptS pt7)<|s_no (gtS gt2) (ptS pt8)<|V' (v_pickT (lkS lk2) lkb) (ptS pt9)<|sn'<|w_condT (lkS lk9)<|wr'<|mv' lkb pt4<|s_nil<|?_
   refine n_seq<|w_rets<|r_blk<|r_thn<|r_thn<|r_blk<|r_thn<|w_ret (rs1 (rr_t gt4))<|rT'<|?_
   exact bvx (decide_eq_false (fun e=>absurd (Prod.ext_iff.1 e).2 (eq_no hka hkb (by intro e2;simp_all)))).symm
  refine s_do gt58<|V' (v_fap0 lk6) pt59<|s_do gt58<|V' (v_loadp lk59 (hga hn rfl) gt3) pt60<|s_do gt58<|V' (v_fap0 lk7) pt61<|s_do gt58<|V' (v_loadp lk61 (hga hn rfl) gt3) pt62<|s_do gt58<|?_
  refine V' ((by first | exact v_neq lk60 lk62 | exact v_neqS lk60 lk62)) pt63 ?_
  refine V' (v_pickF lk58 lk63) pt64<|mv' lk64 pt65<|?_
  refine sp' gt65 pt65 pt65 (fun hg65=>?_) (fun hg65=>?_)
  ·refine s_no gt65 pt66<|s_no gt65 pt67<|s_no gt65 pt68<|s_no gt65 pt69<|s_no gt65 (ptS pt0)<|V' (v_pickT lk65 lkb) (ptS pt1)<|mv' (lkS lk1) (ptS pt2)<|s_no (gtS gt2) (ptS pt3)<|s_no (gtS gt2) (ptS pt4)<|s_no (gtS gt2) (ptS pt5)<|s_no (gtS gt2) (ptS pt6)<|s_no (gtS gt2) (ptS pt7)<|s_no (gtS gt2) (ptS pt8)<|V' (v_pickT (lkS lk2) lkb) (ptS pt9)<|?_
   refine sn'<|w_condT (lkS lk9)<|wr'<|mv' lkb pt4<|sn'<|w_rets<|r_blk<|r_thn<|r_thn<|r_blk<|r_thn<|?_
   refine w_ret (rs1 (rr_t gt4))<|rT'<|?_
   exact bvx (decide_eq_false (fun e=>absurd (Prod.ext_iff.1 e).2 (eq_no hka hkb (by intro e2;simp_all)))).symm
  refine s_do gt65<|V' (v_fap0 lk6) pt66<|s_do gt65<|V' (v_loadp lk66 (hga hn rfl) gt4) pt67<|s_do gt65<|V' (v_fap0 lk7) pt68<|s_do gt65<|V' (v_loadp lk68 (hga hn rfl) gt4) pt69<|s_do gt65<|V' (v_eqbN lk67 lk69) (ptS pt0)<|V' (v_pickF lk65 (lkS lk0)) (ptS pt1)<|mv' (lkS lk1) (ptS pt2)<|?_
  refine sp' (gtS gt2) (ptS pt2) (ptS pt2) (fun hg72=>?_) (fun hg72=>?_)
  ·refine s_no (gtS gt2) (ptS pt3)<|s_no (gtS gt2) (ptS pt4)<|s_no (gtS gt2) (ptS pt5)<|s_no (gtS gt2) (ptS pt6)<|s_no (gtS gt2) (ptS pt7)<|s_no (gtS gt2) (ptS pt8)<|V' (v_pickT (lkS lk2) lkb) (ptS pt9)<|sn'<|w_condT (lkS lk9)<|wr'<|mv' lkb pt4<|s_nil<|?_
   refine n_seq<|w_rets<|r_blk<|r_thn<|r_thn<|r_blk<|r_thn<|w_ret (rs1 (rr_t gt4))<|rT'<|?_
   exact bvx (decide_eq_false (fun e=>absurd (Prod.ext_iff.1 e).2 (eq_no hka hkb (by intro e2;simp_all)))).symm
  refine s_do (gtS gt2)<|V' (v_fap0 lk6) (ptS pt3)<|s_do (gtS gt2)<|V' (v_loadpA (lkS lk3) (hga hn rfl) SrcS_tk5_5 rfl) (ptS pt4)<|s_do (gtS gt2)<|V' (v_fap0 lk7) (ptS pt5)<|s_do (gtS gt2)<|V' (v_loadpA (lkS lk5) (hga hn rfl) SrcS_tk5_5 rfl) (ptS pt6)<|s_do (gtS gt2)<|s_callp (mp1 (lkS lk4) (mp1 (lkS lk6) mp0)) (rsameUntil_a (u:=(a[k]).2.2.2.2.2) (v:=(b[k]).2.2.2.2.2)) (ptS pt7)<|s_do (gtS gt2)<|V' (v_notB (lkS lk7)) (ptS pt8)<|V' (v_pickF (lkS lk2) (lkS lk8)) (ptS pt9)<|s_nil<|?_
  refine n_seq ?_
  refine w_condB (lkS lk9) (fun hc3=>?_) (fun hc3=>?_)
  ·refine wr'<|mv' lkb pt4<|sn'<|w_rets<|r_blk<|r_thn<|r_thn<|r_blk<|r_thn<|w_ret (rs1 (rr_t gt4))<|rT'<|?_
   exact bvx (decide_eq_false (fun e=>absurd (Prod.ext_iff.1 e).2 (eq_no hka hkb (by intro e2;simp_all)))).symm
  have hE:a[k]=b[k]:=by simp only [Prod.ext_iff];simp_all
  refine w_skip<|n_blk<|n_seq<|w_reg<|mv' lk5 pt27<|?_
  refine V' (v_add lk27 lki (by omega) (by omega)) pt28 ?_
  refine mv' lk28 pt5<|s_nil<|n_thn<|?_
  refine lU' (k+1) (by (try dsimp only);exact ⟨by omega,by rw [List.take_succ_eq_append_getElem hka,List.take_succ_eq_append_getElem hkb,hk2,hE]⟩) (by (try dsimp only);(try simp only [setsT,setsE,z',s',rn',la',ln',Nat.reduceAdd]);exact bk' 2 hn hlt)
 refine w_exit<|x_thn<|x_thn<|x_blk<|n_seq<|wr'<|mv' lkb pt4<|sn'<|w_rets<|w_ret (rs1 (rr_t gt4))<|rT'<|?_
 exact bvx (decide_eq_true (by rw [List.take_of_length_le (by omega),List.take_of_length_le (by omega)] at hk2;rw [hnm,hk2])).symm
theorem rsameZone_a {a b:Zon}{h:AH}:ACalls Tryz.prog 38 [.agg (zonC a),.agg (zonC b)] h fun x h'=>h'=h∧x = .ret (bv (decide (a=b))):=rsameZone_b
theorem eq_take {α:Type}{a b:List α}{k:Nat}(ha:k<a.length) (hb:k<b.length) (h:a.take k=b.take k) (e:a[k]=b[k]):a.take (k+1)=b.take (k+1):=by
 rw [List.take_succ_eq_append_getElem ha,List.take_succ_eq_append_getElem hb,h,e]
theorem eq_end {α:Type}{a b:List α}{k:Nat}(ha:a.length≤k) (hb:b.length≤k) (h:a.take k=b.take k):a=b:=by
 rwa [List.take_of_length_le ha,List.take_of_length_le hb] at h
set_option maxHeartbeats 1000000 in
theorem rsameSource_b {a a2:List Rul}{z z2:List Zon}{l l2:List Lnk}{h:AH}:ACalls Tryz.prog 14 [.agg [.sl a.length 11 false (rows rulC a),.sl z.length 2 false (rows zonC z),.sl l.length 2 false (rows lnkC l)],.agg [.sl a2.length 11 false (rows rulC a2),.sl z2.length 2 false (rows zonC z2),.sl l2.length 2 false (rows lnkC l2)]] h fun x h'=>h'=h∧x = .ret (bv (decide ((a,z,l)=(a2,z2,l2)))):=by
 refine tI' k14 fun N hn hlt hlA hbd=>?_
 simp only [tA',AV.bdL,AV.bd,and_true,true_and] at hbd ⊢
 refine wr'<|E' (e_box (cvl lk0 rfl) rfl (hl0 hn) ha0) pt2<|E' (e_box (cvl lk1 rfl) rfl (hl1 hn) ha1) pt3<|mv' lkb pt4<|sn'<|w_seq<|wr'<|V' (v_fap0 lk2) pt8<|V' (v_loadp lk8 (hga hn rfl) gt0) pt9<|V' (v_lenL lk9) pt10<|V' (v_fap0 lk3) pt11<|?_
 refine V' (v_loadp lk11 (hga hn rfl) gt0) pt12<|V' (v_lenL lk12) pt13<|V' (v_neq lk10 lk13) pt14<|mv' lk14 pt15<|?_
 refine sp' gt15 pt15 pt15 (fun hg15=>?_) (fun hg15=>?_)
 ·have hD:decide ((a,z,l)=(a2,z2,l2))=false:=decide_eq_false (fun e=>hg15 (by cases e;rfl))
  refine s_no gt15 pt16<|s_no gt15 pt17<|s_no gt15 pt18<|s_no gt15 pt19<|s_no gt15 pt20<|s_no gt15 pt21<|s_no gt15 pt22<|V' (v_pickT lk15 lkb) pt23<|mv' lk23 pt24<|s_no gt24 pt25<|s_no gt24 pt26<|s_no gt24 pt27<|s_no gt24 pt28<|s_no gt24 pt29<|?_
  refine s_no gt24 pt30<|s_no gt24 pt31<|V' (v_pickT lk24 lkb) pt32<|sn'<|w_condT lk32<|wr'<|mv' lkb pt4<|sn'<|w_rets<|r_thn<|w_ret (rs1 (rr_t gt4))<|?_
  refine rT' ?_
  rw [hD]
 refine s_do gt15<|V' (v_fap0 lk2) pt16<|s_do gt15<|V' (v_loadp lk16 (hga hn rfl) gt1) pt17<|s_do gt15<|V' (v_lenL lk17) pt18<|s_do gt15<|V' (v_fap0 lk3) pt19<|s_do gt15<|V' (v_loadp lk19 (hga hn rfl) gt1) pt20<|s_do gt15<|V' (v_lenL lk20) pt21<|s_do gt15<|V' (v_neq lk18 lk21) pt22<|?_
 refine V' (v_pickF lk15 lk22) pt23<|mv' lk23 pt24<|?_
 refine sp' gt24 pt24 pt24 (fun hg24=>?_) (fun hg24=>?_)
 ·have hD:decide ((a,z,l)=(a2,z2,l2))=false:=decide_eq_false (fun e=>hg24 (by cases e;rfl))
  refine s_no gt24 pt25<|s_no gt24 pt26<|s_no gt24 pt27<|s_no gt24 pt28<|s_no gt24 pt29<|s_no gt24 pt30<|s_no gt24 pt31<|V' (v_pickT lk24 lkb) pt32<|sn'<|w_condT lk32<|wr'<|mv' lkb pt4<|?_
  refine sn'<|w_rets<|r_thn<|w_ret (rs1 (rr_t gt4))<|rT'<|?_
  rw [hD]
 refine s_do gt24<|V' (v_fap0 lk2) pt25<|s_do gt24<|V' (v_loadp lk25 (hga hn rfl) gt2) pt26<|s_do gt24<|V' (v_lenL lk26) pt27<|s_do gt24<|V' (v_fap0 lk3) pt28<|s_do gt24<|V' (v_loadp lk28 (hga hn rfl) gt2) pt29<|s_do gt24<|V' (v_lenL lk29) pt30<|s_do gt24<|V' (v_neq lk27 lk30) pt31<|?_
 refine V' (v_pickF lk24 lk31) pt32<|sn'<|?_
 refine cd' lk32 (fun hc1=>?_) (fun hc1=>?_)
 ·have hD:decide ((a,z,l)=(a2,z2,l2))=false:=decide_eq_false (fun e=>hc1 (by cases e;rfl))
  refine wr'<|mv' lkb pt4<|sn'<|w_rets<|r_thn<|w_ret (rs1 (rr_t gt4))<|rT'<|?_
  rw [hD]
 have l1:a.length=a2.length:=by have:=Decidable.of_not_not hg15;omega
 have l2':z.length=z2.length:=by have:=Decidable.of_not_not hg24;omega
 have l3:l.length=l2.length:=by have:=Decidable.of_not_not hc1;omega
 refine w_skip<|n_seq<|w_seq<|wr'<|mv' lki pt5<|sn'<|w_block<|?_
 refine w_lp (ι:=Nat) (fun (k:Nat)=>[(5,iv (k:Int)),(4,.any)]++rn' 33 18) (fun (k:Nat)=>[]) (fun (k:Nat)=>k≤a.length∧a.take k=a2.take k) (fun (k:Nat)=>a.length-k) (0) (by exact ⟨Nat.zero_le _,by simp⟩) ?_
 rintro k hi1
 try simp only [setsT,setsE,z',s',rn',la',ln',Nat.reduceAdd]
 obtain ⟨hk1,hk2⟩:=hi1
 refine w_seq<|wr'<|mv' lk5 pt33<|V' (v_fap0 lk2) pt34<|V' (v_loadp lk34 (hga hn rfl) gt0) pt35<|V' (v_lenL lk35) pt36<|V' (v_lss lk33 lk36) pt37<|sn'<|?_
 refine cd' lk37 (fun hc2=>?_) (fun hc2=>?_)
 ·have hka:k<a.length:=by omega
  have hkb:k<a2.length:=by omega
  refine w_skip<|n_seq<|w_seq<|w_block<|w_seq<|w_drwE<|D' (v_fap0 lk2) pt40<|D' (v_loadp lk40 (hga hn rfl) gt0) pt41<|D' (v_mv lk5) pt42<|?_
  refine D' (v_iaR lk41 lk42 rul_len1 (nb' rfl) (by first | rfl | omega) (by omega) (by first | rfl | omega) rfl) pt43 ?_
  refine D' (v_loadrA lk43 SrcS_tk_11 rfl) pt44<|D' (v_fap0 lk3) pt45<|D' (v_loadp lk45 (hga hn rfl) gt0) pt46<|D' (v_mv lk5) pt47<|?_
  refine D' (v_iaR lk46 lk47 rul_len1 (nb' rfl) (by first | rfl | omega) (by omega) (by first | rfl | omega) rfl) pt48 ?_
  refine D' (v_loadrA lk48 SrcS_tk_11 rfl) pt49<|D' (v_eqsN lk44 lk49 SrcS_eq_siiiiiiiiis) pt50<|d_nil<|?_
  refine e_nil ?_
  refine sn' ?_
  refine cd' lk50 (fun hc3=>?_) (fun hc3=>?_)
  ·refine wr'<|mv' lkb pt4<|sn'<|w_rets<|r_blk<|r_thn<|r_thn<|r_blk<|r_thn<|w_ret (rs1 (rr_t gt4))<|rT'<|?_
   exact bvx (decide_eq_false (fun e=>absurd (congrArg Prod.fst e) (eq_no hka hkb (by intro e2;apply hc3;rw [e2];simp)))).symm
  have hE:a[k]=a2[k]:=by simp only [Prod.ext_iff];simp_all
  refine w_skip<|n_blk<|n_seq<|w_reg<|mv' lk5 pt38<|?_
  refine V' (v_add lk38 lki (by omega) (by omega)) pt39 ?_
  refine mv' lk39 pt5<|s_nil<|n_thn<|?_
  refine lT' (k+1) (by (try dsimp only);exact ⟨by omega,eq_take hka hkb hk2 hE⟩)
 have hA:a=a2:=eq_end (by omega) (by omega) hk2
 refine w_exit<|x_thn<|x_thn<|x_blk<|n_seq<|w_seq<|wr'<|mv' lki pt6<|sn'<|w_block<|?_
 refine w_lp (ι:=Nat) (fun (k2:Nat)=>[(6,iv (k2:Int)),(4,.any)]++rn' 51 18) (fun (k2:Nat)=>[]) (fun (k2:Nat)=>k2≤l.length∧l.take k2=l2.take k2) (fun (k2:Nat)=>l.length-k2) (0) (by exact ⟨Nat.zero_le _,by simp⟩) ?_
 rintro k2 hi2
 try simp only [setsT,setsE,z',s',rn',la',ln',Nat.reduceAdd]
 obtain ⟨hm1,hm2⟩:=hi2
 refine w_seq<|wr'<|mv' lk6 pt51<|V' (v_fap0 lk2) pt52<|V' (v_loadp lk52 (hga hn rfl) gt2) pt53<|V' (v_lenL lk53) pt54<|V' (v_lss lk51 lk54) pt55<|sn'<|?_
 refine cd' lk55 (fun hc4=>?_) (fun hc4=>?_)
 ·have hma:k2<l.length:=by omega
  have hmb:k2<l2.length:=by omega
  refine w_skip<|n_seq<|w_seq<|w_block<|w_seq<|w_drwE<|D' (v_fap0 lk2) pt58<|D' (v_loadp lk58 (hga hn rfl) gt2) pt59<|D' (v_mv lk6) pt60<|?_
  refine D' (v_iaR lk59 lk60 lnk_len1 (nb' rfl) (by first | rfl | omega) (by omega) (by first | rfl | omega) rfl) pt61 ?_
  refine D' (v_loadrA lk61 SrcS_tk_2 rfl) pt62<|D' (v_fap0 lk3) pt63<|D' (v_loadp lk63 (hga hn rfl) gt2) pt64<|D' (v_mv lk6) pt65<|?_
  refine D' (v_iaR lk64 lk65 lnk_len1 (nb' rfl) (by first | rfl | omega) (by omega) (by first | rfl | omega) rfl) pt66 ?_
  refine D' (v_loadrA lk66 SrcS_tk_2 rfl) pt67<|D' (v_eqsN lk62 lk67 SrcS_eq_ss) pt68<|d_nil<|?_
  refine e_nil ?_
  refine sn' ?_
  refine cd' lk68 (fun hc5=>?_) (fun hc5=>?_)
  ·refine wr'<|mv' lkb pt4<|sn'<|w_rets<|r_blk<|r_thn<|r_thn<|r_blk<|r_thn<|w_ret (rs1 (rr_t gt4))<|rT'<|?_
   exact bvx (decide_eq_false (fun e=>absurd (congrArg (fun x=>x.2.2) e) (eq_no hma hmb (by intro e2;apply hc5;rw [e2];simp)))).symm
  have hE2:l[k2]=l2[k2]:=by simp only [Prod.ext_iff];simp_all
  refine w_skip<|n_blk<|n_seq<|w_reg<|mv' lk6 pt56<|?_
  refine V' (v_add lk56 lki (by omega) (by omega)) pt57 ?_
  refine mv' lk57 pt6<|s_nil<|n_thn<|?_
  refine lT' (k2+1) (by (try dsimp only);exact ⟨by omega,eq_take hma hmb hm2 hE2⟩)
 have hL:l=l2:=eq_end (by omega) (by omega) hm2
 refine w_exit<|x_thn<|x_thn<|x_blk<|n_seq<|w_seq<|wr'<|mv' lki pt7<|sn'<|w_block<|?_
 refine w_lp (ι:=Nat) (fun (k3:Nat)=>[(7,iv (k3:Int)),(4,.any)]++rn' 69 19) (fun (k3:Nat)=>[]) (fun (k3:Nat)=>k3≤z.length∧z.take k3=z2.take k3) (fun (k3:Nat)=>z.length-k3) (0) (by exact ⟨Nat.zero_le _,by simp⟩) ?_
 rintro k3 hi3
 try simp only [setsT,setsE,z',s',rn',la',ln',Nat.reduceAdd]
 obtain ⟨hn1,hn2⟩:=hi3
 refine w_seq<|wr'<|mv' lk7 pt69<|V' (v_fap0 lk2) (ptS pt0)<|V' (v_loadp (lkS lk0) (hga hn rfl) gt1) (ptS pt1)<|V' (v_lenL (lkS lk1)) (ptS pt2)<|V' (v_lss lk69 (lkS lk2)) (ptS pt3)<|sn'<|?_
 refine cd' (lkS lk3) (fun hc6=>?_) (fun hc6=>?_)
 ·have hna:k3<z.length:=by omega
  have hnb:k3<z2.length:=by omega
  refine w_skip<|n_seq<|w_seq<|w_block<|w_seq<|w_drwE<|D' (v_fap0 lk2) (ptS pt6)<|D' (v_loadp (lkS lk6) (hga hn rfl) gt1) (ptS pt7)<|D' (v_mv lk7) (ptS pt8)<|?_
  refine D' (v_iaR (lkS lk7) (lkS lk8) (fun _=>rfl) (nb' rfl) (by first | rfl | omega) (by omega) (by first | rfl | omega) rfl) (ptS pt9) ?_
  refine D' (v_loadrA (lkS lk9) SrcS_tk_2 rfl) (ptS pt10)<|D' (v_fap0 lk3) (ptS pt11)<|D' (v_loadp (lkS lk11) (hga hn rfl) gt1) (ptS pt12)<|D' (v_mv lk7) (ptS pt13)<|?_
  refine D' (v_iaR (lkS lk12) (lkS lk13) (fun _=>rfl) (nb' rfl) (by first | rfl | omega) (by omega) (by first | rfl | omega) rfl) (ptS pt14) ?_
  refine D' (v_loadrA (lkS lk14) SrcS_tk_2 rfl) (ptS pt15) ?_
  refine d_callp (mp1 (lkS lk10) (mp1 (lkS lk15) mp0)) (fun hE hX=>rsameZone_a (a:=z[k3]) (b:=z2[k3])) (ptS pt16) ?_
  refine D' (v_notB (lkS lk16)) (ptS pt17)<|d_nil<|?_
  refine e_nil ?_
  refine sn' ?_
  refine w_condB (lkS lk17) (fun hc7=>?_) (fun hc7=>?_)
  ·have hne:z[k3]≠z2[k3]:=by simpa using hc7
   refine wr'<|mv' lkb pt4<|sn'<|w_rets<|r_blk<|r_thn<|r_thn<|r_blk<|r_thn<|w_ret (rs1 (rr_t gt4))<|rT'<|?_
   exact bvx (decide_eq_false (fun e=>absurd (congrArg (fun x=>x.2.1) e) (eq_no hna hnb hne))).symm
  have hE3:z[k3]=z2[k3]:=by simpa using hc7
  refine w_skip<|n_blk<|n_seq<|w_reg<|mv' lk7 (ptS pt4)<|?_
  refine V' (v_add (lkS lk4) lki (by omega) (by omega)) (ptS pt5) ?_
  refine mv' (lkS lk5) pt7<|s_nil<|n_thn<|?_
  refine lT' (k3+1) (by (try dsimp only);exact ⟨by omega,eq_take hna hnb hn2 hE3⟩)
 refine w_exit<|x_thn<|x_thn<|x_blk<|n_seq<|wr'<|mv' lkb pt4<|sn'<|w_rets<|w_ret (rs1 (rr_t gt4))<|rT'<|?_
 exact bvx (decide_eq_true (by rw [hA,hL,eq_end (by omega) (by omega) hn2])).symm
theorem rsameSource_a {s t:Src}{h:AH}:ACalls Tryz.prog 14 [.agg (srcC s),.agg (srcC t)] h fun x h'=>h'=h∧x = .ret (bv (decide (s=t))):=rsameSource_b
end Go.Proofs.YtgjchdhdopgkkaaGreatDoor
end
section
namespace Go.Proofs.YtgjchdhdopgkkaaGreatDoor
open Go.Ab Go.RowKit Civ
attribute [local simp] rul_lt era_lt zon_lt lnk_lt
section
theorem SrcE_tk4_3 {a0 a1 a2 a3 a4 a5 a6:AV}{l:List AV}:((a0::a1::a2::a3::a4::a5::a6::l).drop 4).take 3=[a4,a5,a6]:=rfl
theorem SrcE_sc0_3 {a0 a1 a2 c0 c1 c2:AV}{l:List AV}:setCells (a0::a1::a2::l) 0 [c0,c1,c2]=c0::c1::c2::l:=rfl
theorem SrcE_tk5_5 {a0 a1 a2 a3 a4 a5 a6 a7 a8 a9:AV}{l:List AV}:((a0::a1::a2::a3::a4::a5::a6::a7::a8::a9::l).drop 5).take 5=[a5,a6,a7,a8,a9]:=rfl
theorem SrcE_checkEra_48 {τ:Operand→AV}:fillAV τ [] [(.v (.int .i64 0)),(.v (.int .i64 0)),(.v (.int .i64 0)),(.v (.int .i64 0)),(.v (.int .i64 0))]=some [(.v (.int .i64 0)),(.v (.int .i64 0)),(.v (.int .i64 0)),(.v (.int .i64 0)),(.v (.int .i64 0))]:=rfl
theorem SrcE_tk5_3 {a0 a1 a2 a3 a4 a5 a6 a7:AV}{l:List AV}:((a0::a1::a2::a3::a4::a5::a6::a7::l).drop 5).take 3=[a5,a6,a7]:=rfl
theorem SrcE_tk_11 {a0 a1 a2 a3 a4 a5 a6 a7 a8 a9 a10:AV}{l:List AV}:(a0::a1::a2::a3::a4::a5::a6::a7::a8::a9::a10::l).take 11=[a0,a1,a2,a3,a4,a5,a6,a7,a8,a9,a10]:=rfl
theorem SrcE_tk_10 {a0 a1 a2 a3 a4 a5 a6 a7 a8 a9:AV}{l:List AV}:(a0::a1::a2::a3::a4::a5::a6::a7::a8::a9::l).take 10=[a0,a1,a2,a3,a4,a5,a6,a7,a8,a9]:=rfl
end
def c24:AC:=(.seq (.reg [Oo 1 (.box 48 11 (.tmp 0)),Oo 2 (.mv (Ci 0))]) (.seq (.seq (.reg [Fa 5 0 1,Ld 6 5,Oo 7 (.call (.func 25) [(.tmp 6)]),Oo 8 (.un .not (.tmp 7)),Mv 9 8,Of 10 9 (.fa 10 (.tmp 1)),Of 11 9 (.load false 1 (.tmp 10)),Of 12 9 (.call (.func 67) [(.tmp 11)]),Of 13 9 (.un .not (.tmp 12)),Oo 14 (.pick (.tmp 9) (.const (.bool true)) (.tmp 13))]) (.cond (.tmp 14) (.seq (.reg [Oo 2 (.mv (Ci 1))]) .ret) .skip)) (.seq (.seq (.reg [Fa 15 1 1,Ld 16 15,Fa 17 2 1,Ld 18 17,Oo 19 (.call (.func 68) [(.tmp 16),(Ci 1900),(.tmp 18)]),Oo 20 (.un .not (.tmp 19)),Mv 21 20,Of 22 21 (.fa 2 (.tmp 1)),Of 23 21 (.load false 1 (.tmp 22)),Of 24 21 (.bin .gtr (.tmp 23) (Ci 2100)),Oo 25 (.pick (.tmp 21) (.const (.bool true)) (.tmp 24)),Mv 26 25,Of 27 26 (.fa 3 (.tmp 1)),Of 28 26 (.load false 1 (.tmp 27)),Of 29 26 (.call (.func 68) [(.tmp 28),(Ci 1),(Ci 12)]),Of 30 26 (.un .not (.tmp 29)),Oo 31 (.pick (.tmp 26) (.const (.bool true)) (.tmp 30))]) (.cond (.tmp 31) (.seq (.reg [Oo 2 (.mv (Ci 3))]) .ret) .skip)) (.seq (.reg [Fa 33 3 1,Ld 34 33,Fa 35 4 1,Oo 36 (.load true 3 (.tmp 35)),Oo 37 (.call (.func 69) [(Ci 2001),(.tmp 34),(.tmp 36)]),Mv 32 37,Ex 38 32 0,Ex 39 32 1,Oo 3 (.new 60 3 [(iv 0),(iv 0),(iv 0)]),⟨none,none,(.store 3 (.tmp 3) (.tmp 38))⟩,Mv 4 39]) (.seq (.seq (.reg [Mv 40 4,Oo 41 (.bin .neq (.tmp 40) (Ci 0))]) (.cond (.tmp 41) (.seq (.reg [Mv 42 4,Mv 2 42]) .ret) .skip)) (.seq (.seq (.reg [Fa 43 7 1,Ld 44 43,Oo 45 (.call (.func 68) [(.tmp 44),(Ci 0),(Ci 172800)]),Oo 46 (.un .not (.tmp 45))]) (.cond (.tmp 46) (.seq (.reg [Oo 2 (.mv (Ci 3))]) .ret) .skip)) (.seq (.seq (.reg [Fa 47 8 1,Ld 48 47,Oo 49 (.call (.func 68) [(.tmp 48),(Ci 1),(Ci 3)]),Oo 50 (.un .not (.tmp 49))]) (.cond (.tmp 50) (.seq (.reg [Oo 2 (.mv (Ci 7))]) .ret) .skip)) (.seq (.seq (.reg [Fa 51 9 1,Ld 52 51,Oo 53 (.call (.func 68) [(.tmp 52),(Ci 0),(Ci 10800)]),Oo 54 (.un .not (.tmp 53))]) (.cond (.tmp 54) (.seq (.reg [Oo 2 (.mv (Ci 3))]) .ret) .skip)) (.seq (.reg [Oo 2 (.mv (Ci 0))]) .ret)))))))))
theorem k24:compF Tryz.prog 24=some ⟨c24,[(.tmp 2)],55⟩:=by kernel_rfl
def c26:AC:=(.seq (.reg [Oo 2 (.box 64 10 (.tmp 0)),Oo 4 (.mv (Ci 0))]) (.seq (.seq (.reg [Fa 5 1 2,Ld 6 5,Oo 7 (.bin .neq (.tmp 6) (.const (.string ⟨#[]⟩))),Mv 8 7,Ot 9 8 (.fa 1 (.tmp 2)),Ot 10 8 (.load false 1 (.tmp 9)),Ot 11 8 (.call (.func 25) [(.tmp 10)]),Ot 12 8 (.un .not (.tmp 11)),Oo 13 (.pick (.tmp 8) (.tmp 12) (.const (.bool false))),Mv 14 13,Of 15 14 (.fa 3 (.tmp 2)),Of 16 14 (.load false 1 (.tmp 15)),Of 17 14 (.call (.func 72) [(.tmp 16)]),Of 18 14 (.un .not (.tmp 17)),Oo 19 (.pick (.tmp 14) (.const (.bool true)) (.tmp 18))]) (.cond (.tmp 19) (.seq (.reg [Oo 4 (.mv (Ci 1))]) .ret) .skip)) (.seq (.seq (.reg [Fa 20 0 2,Ld 21 20,Oo 22 (.call (.func 68) [(.tmp 21),(.const (.int .i64 (-64800))),(Ci 64800)]),Oo 23 (.un .not (.tmp 22)),Mv 24 23,Of 25 24 (.fa 2 (.tmp 2)),Of 26 24 (.load false 1 (.tmp 25)),Of 27 24 (.call (.func 68) [(.tmp 26),(Ci 0),(Ci 10800)]),Of 28 24 (.un .not (.tmp 27)),Oo 29 (.pick (.tmp 24) (.const (.bool true)) (.tmp 28))]) (.cond (.tmp 29) (.seq (.reg [Oo 4 (.mv (Ci 3))]) .ret) .skip)) (.seq (.seq (.reg [Fa 30 1 2,Ld 31 30,Oo 32 (.bin .neq (.tmp 31) (.const (.string ⟨#[]⟩))),Mv 33 32,Ot 34 33 (.fa 2 (.tmp 2)),Ot 35 33 (.load false 1 (.tmp 34)),Ot 36 33 (.bin .neq (.tmp 35) (Ci 0)),Oo 37 (.pick (.tmp 33) (.tmp 36) (.const (.bool false)))]) (.cond (.tmp 37) (.seq (.reg [Oo 4 (.mv (Ci 1))]) .ret) .skip)) (.seq (.seq (.reg [Fa 38 4 2,Ld 39 38,Mv 40 1,Oo 41 (.eqb true (.tmp 39) (.tmp 40))]) (.cond (.tmp 41) (.seq (.reg [Oo 4 (.mv (Ci 4))]) .ret) .skip)) (.seq (.seq (.reg [Fa 42 4 2,Ld 43 42]) (.cond (.tmp 43) (.seq (.seq (.reg [Fa 44 5 2,Oo 45 (.load true 5 (.tmp 44)),Oo 46 (.build [(iv 0),(iv 0),(iv 0),(iv 0),(iv 0)] []),Oo 47 (.call (.func 73) [(.tmp 45),(.tmp 46)]),Oo 48 (.un .not (.tmp 47))]) (.cond (.tmp 48) (.seq (.reg [Oo 4 (.mv (Ci 1))]) .ret) .skip)) (.seq (.reg [Oo 4 (.mv (Ci 0))]) .ret)) .skip)) (.seq (.seq (.reg [Fa 49 5 2,Fa 50 0 49,Oo 51 (.load true 3 (.tmp 50)),Oo 52 (.call (.func 74) [(.tmp 51)]),Oo 53 (.un .not (.tmp 52)),Mv 54 53,Of 55 54 (.fa 5 (.tmp 2)),Of 56 54 (.fa 3 (.tmp 55)),Of 57 54 (.load false 1 (.tmp 56)),Of 58 54 (.call (.func 68) [(.tmp 57),(Ci 0),(Ci 172800)]),Of 59 54 (.un .not (.tmp 58)),Oo 60 (.pick (.tmp 54) (.const (.bool true)) (.tmp 59))]) (.cond (.tmp 60) (.seq (.reg [Oo 4 (.mv (Ci 3))]) .ret) .skip)) (.seq (.seq (.reg [Fa 61 5 2,Fa 62 4 61,Ld 63 62,Oo 64 (.bin .neq (.tmp 63) (Ci 2)),Mv 65 64,Ot 66 65 (.fa 5 (.tmp 2)),Ot 67 65 (.fa 4 (.tmp 66)),Ot 68 65 (.load false 1 (.tmp 67)),Ot 69 65 (.bin .neq (.tmp 68) (Ci 3)),Oo 70 (.pick (.tmp 65) (.tmp 69) (.const (.bool false)))]) (.cond (.tmp 70) (.seq (.reg [Oo 4 (.mv (Ci 7))]) .ret) .skip)) (.seq (.reg [Oo 4 (.mv (Ci 0))]) .ret)))))))))
theorem k26:compF Tryz.prog 26=some ⟨c26,[(.tmp 4)],71⟩:=by kernel_rfl
def c9:AC:=(.seq (.reg [Oo 1 (.box 26 3 (.tmp 0)),Oo 2 (.mv (Ci 0))]) (.seq (.seq (.reg [Fa 11 0 1,Ld 12 11,Oo 13 (.len false (.tmp 12)),Oo 14 (.bin .gtr (.tmp 13) (Ci 40)),Mv 15 14,Of 16 15 (.fa 1 (.tmp 1)),Of 17 15 (.load false 1 (.tmp 16)),Of 18 15 (.len false (.tmp 17)),Of 19 15 (.bin .gtr (.tmp 18) (Ci 20)),Oo 20 (.pick (.tmp 15) (.const (.bool true)) (.tmp 19)),Mv 21 20,Of 22 21 (.fa 2 (.tmp 1)),Of 23 21 (.load false 1 (.tmp 22)),Of 24 21 (.len false (.tmp 23)),Of 25 21 (.bin .gtr (.tmp 24) (Ci 20)),Oo 26 (.pick (.tmp 21) (.const (.bool true)) (.tmp 25))]) (.cond (.tmp 26) (.seq (.reg [Oo 2 (.mv (Ci 2))]) .ret) .skip)) (.seq (.seq (.reg [Oo 3 (.mv (Ci 0))]) (.block 0 (.loop (.seq (.seq (.reg [Mv 27 3,Fa 28 1 1,Ld 29 28,Oo 30 (.len false (.tmp 29)),Oo 31 (.bin .lss (.tmp 27) (.tmp 30))]) (.cond (.tmp 31) .skip (.exit 0))) (.seq (.block 1 (.seq (.reg [Fa 34 1 1,Ld 35 34,Mv 36 3,Oo 37 (.ia 2 (.tmp 35) (.tmp 36)),Fa 38 1 37,Ld 39 38,Oo 40 (.len false (.tmp 39)),Oo 41 (.bin .gtr (.tmp 40) (Ci 8))]) (.cond (.tmp 41) (.seq (.reg [Oo 2 (.mv (Ci 2))]) .ret) .skip))) (.reg [Mv 32 3,Oo 33 (.bin .add (.tmp 32) (Ci 1)),Mv 3 33])))))) (.seq (.seq (.reg [Oo 4 (.mv (Ci 0))]) (.block 2 (.loop (.seq (.seq (.reg [Mv 42 4,Fa 43 0 1,Ld 44 43,Oo 45 (.len false (.tmp 44)),Oo 46 (.bin .lss (.tmp 42) (.tmp 45))]) (.cond (.tmp 46) .skip (.exit 2))) (.seq (.block 3 (.seq (.reg [Fa 49 0 1,Ld 50 49,Mv 51 4,Oo 52 (.ia 11 (.tmp 50) (.tmp 51)),Oo 53 (.load true 11 (.tmp 52)),Oo 54 (.call (.func 24) [(.tmp 53)]),Mv 5 54]) (.seq (.reg [Mv 55 5,Oo 56 (.bin .neq (.tmp 55) (Ci 0))]) (.cond (.tmp 56) (.seq (.reg [Mv 57 5,Mv 2 57]) .ret) .skip)))) (.reg [Mv 47 4,Oo 48 (.bin .add (.tmp 47) (Ci 1)),Mv 4 48])))))) (.seq (.seq (.reg [Oo 6 (.mv (Ci 0))]) (.block 4 (.loop (.seq (.seq (.reg [Mv 58 6,Fa 59 1 1,Ld 60 59,Oo 61 (.len false (.tmp 60)),Oo 62 (.bin .lss (.tmp 58) (.tmp 61))]) (.cond (.tmp 62) .skip (.exit 4))) (.seq (.block 5 (.seq (.reg [Fa 65 1 1,Ld 66 65,Mv 67 6,Oo 68 (.ia 2 (.tmp 66) (.tmp 67)),Fa 69 1 68,Ld 70 69,Mv 7 70]) (.seq (.seq (.reg [Fa 71 1 1,Ld 72 71,Mv 73 6,Oo 74 (.ia 2 (.tmp 72) (.tmp 73)),Fa 75 0 74,Ld 76 75,Oo 77 (.call (.func 25) [(.tmp 76)]),Oo 78 (.un .not (.tmp 77)),Mv 79 78,Of 80 79 (.mv (.tmp 7)),Of 81 79 (.len false (.tmp 80)),Of 82 79 (.bin .eql (.tmp 81) (Ci 0)),Oo 83 (.pick (.tmp 79) (.const (.bool true)) (.tmp 82))]) (.cond (.tmp 83) (.seq (.reg [Oo 2 (.mv (Ci 1))]) .ret) .skip)) (.seq (.reg [Oo 8 (.mv (Ci 0))]) (.block 6 (.loop (.seq (.seq (.reg [Mv 84 8,Mv 85 7,Oo 86 (.len false (.tmp 85)),Oo 87 (.bin .lss (.tmp 84) (.tmp 86))]) (.cond (.tmp 87) .skip (.exit 6))) (.seq (.block 7 (.seq (.reg [Mv 90 7,Mv 91 8,Oo 92 (.ia 10 (.tmp 90) (.tmp 91)),Oo 93 (.load true 10 (.tmp 92)),Mv 94 8,Mv 95 7,Oo 96 (.len false (.tmp 95)),Oo 97 (.bin .sub (.tmp 96) (Ci 1)),Oo 98 (.bin .eql (.tmp 94) (.tmp 97)),Oo 99 (.call (.func 26) [(.tmp 93),(.tmp 98)]),Mv 9 99]) (.seq (.reg [Mv 100 9,Oo 101 (.bin .neq (.tmp 100) (Ci 0))]) (.cond (.tmp 101) (.seq (.reg [Mv 102 9,Mv 2 102]) .ret) .skip)))) (.reg [Mv 88 8,Oo 89 (.bin .add (.tmp 88) (Ci 1)),Mv 8 89]))))))))) (.reg [Mv 63 6,Oo 64 (.bin .add (.tmp 63) (Ci 1)),Mv 6 64])))))) (.seq (.seq (.reg [Oo 10 (.mv (Ci 0))]) (.block 8 (.loop (.seq (.seq (.reg [Mv 103 10,Fa 104 2 1,Ld 105 104,Oo 106 (.len false (.tmp 105)),Oo 107 (.bin .lss (.tmp 103) (.tmp 106))]) (.cond (.tmp 107) .skip (.exit 8))) (.seq (.block 9 (.seq (.reg [Fa 110 2 1,Ld 111 110,Mv 112 10,Oo 113 (.ia 2 (.tmp 111) (.tmp 112)),Fa 114 0 113,Ld 115 114,Oo 116 (.call (.func 25) [(.tmp 115)]),Oo 117 (.un .not (.tmp 116)),Mv 118 117,Of 119 118 (.fa 2 (.tmp 1)),Of 120 118 (.load false 1 (.tmp 119)),Of 121 118 (.mv (.tmp 10)),Of 122 118 (.ia 2 (.tmp 120) (.tmp 121)),Of 123 118 (.fa 1 (.tmp 122)),Of 124 118 (.load false 1 (.tmp 123)),Of 125 118 (.call (.func 25) [(.tmp 124)]),Of 126 118 (.un .not (.tmp 125)),Oo 127 (.pick (.tmp 118) (.const (.bool true)) (.tmp 126))]) (.cond (.tmp 127) (.seq (.reg [Oo 2 (.mv (Ci 1))]) .ret) .skip))) (.reg [Mv 108 10,Oo 109 (.bin .add (.tmp 108) (Ci 1)),Mv 10 109])))))) (.seq (.reg [Oo 2 (.mv (Ci 0))]) .ret)))))))
theorem k9:compF Tryz.prog 9=some ⟨c9,[(.tmp 2)],128⟩:=by kernel_rfl
set_option maxHeartbeats 1000000 in
theorem rcheckRule_b {nm lt:ByteArray}{f t m k w n a c s:Int}{h:AH}(hnm:nm.size≤maxLen) (hlt':lt.size≤maxLen):ACalls Tryz.prog 24 [.agg [sv nm,iv f,iv t,iv m,iv k,iv w,iv n,iv a,iv c,iv s,sv lt]] h fun x h'=>h'=h∧x = .ret (iv (ruleE (nm,f,t,m,(k,w,n),a,c,s,lt))):=by
 refine tI' k24 fun N hn hlt hlA hbd=>?_
 simp only [tA',AV.bdL,AV.bd,and_true,true_and] at hbd ⊢
 refine wr'<|E' (e_box (cvl lk0 rfl) rfl (hl0 hn) ha0) pt1<|mv' lki pt2<|sn'<|w_seq<|wr'<|V' (v_fap0 lk1) pt5<|V' (v_loadp lk5 (hga hn rfl) gt0) pt6<|s_callp (mp1 lk6 mp0) (risName_a hnm) pt7<|V' (v_notB lk7) pt8<|mv' lk8 pt9<|?_
 refine s_splitB gt9 pt9 pt9 (fun hg9=>?_) (fun hg9=>?_)
 ·refine s_no gt9 pt10<|s_no gt9 pt11<|s_no gt9 pt12<|s_no gt9 pt13<|V' (v_pickT lk9 lkb) pt14<|sn'<|w_condT lk14<|wr'<|mv' lki pt2<|sn'<|w_rets<|?_
  refine r_thn<|w_ret (rs1 (rr_t gt2))<|rT'<|?_
  rw [show ruleE (nm,f,t,m,(k,w,n),a,c,s,lt)=1 by unfold ruleE;simp_all]
 refine s_do gt9<|V' (v_fap0 lk1) pt10<|s_do gt9<|V' (v_loadp lk10 (hga hn rfl) gt10) pt11<|s_do gt9<|s_callp (mp1 lk11 mp0) (risLetters_a hlt') pt12<|s_do gt9<|V' (v_notB lk12) pt13<|V' (v_pickF lk9 lk13) pt14<|sn'<|?_
 refine w_condB lk14 (fun hc1=>?_) (fun hc1=>?_)
 ·refine wr'<|mv' lki pt2<|sn'<|w_rets<|r_thn<|w_ret (rs1 (rr_t gt2))<|rT'<|?_
  rw [show ruleE (nm,f,t,m,(k,w,n),a,c,s,lt)=1 by unfold ruleE;simp_all]
 have h1:nameB nm=true∧lettersB lt=true:=by simp_all
 have hR:ruleE (nm,f,t,m,(k,w,n),a,c,s,lt)=if f<1900∨f>t∨t>2100∨¬wi m 1 12=true then 3 else if (onV 2001 m k w n).2≠0 then (onV 2001 m k w n).2 else if ¬wi a 0 172800=true then 3 else if ¬clkB c true=true then 7 else if ¬wi s 0 10800=true then 3 else 0:=if_neg (by simp [h1])
 have hC:clkB c true=wi c 1 3:=by unfold clkB;simp
 rw [hC] at hR
 refine w_skip<|n_seq<|w_seq<|wr'<|V' (v_fap0 lk1) pt15<|V' (v_loadp lk15 (hga hn rfl) gt1) pt16<|V' (v_fap0 lk1) pt17<|V' (v_loadp lk17 (hga hn rfl) gt2) pt18<|s_callp (mp1 lk16 (mp1 lki (mp1 lk18 mp0))) (rlbetween_a) pt19<|V' (v_notB lk19) pt20<|mv' lk20 pt21<|?_
 refine s_splitB gt21 pt21 pt21 (fun hg21=>?_) (fun hg21=>?_)
 ·have hw:¬wi f 1900 t=true:=by simpa using hg21
  have hw':¬(1900≤f∧f≤t):=by unfold wi at hw;simpa using hw
  rw [if_pos (by omega)] at hR
  refine s_no gt21 pt22<|s_no gt21 pt23<|s_no gt21 pt24<|V' (v_pickT lk21 lkb) pt25<|mv' lk25 pt26<|s_no gt26 pt27<|s_no gt26 pt28<|s_no gt26 pt29<|s_no gt26 pt30<|V' (v_pickT lk26 lkb) pt31<|sn'<|w_condT lk31<|w_seq<|?_
  refine w_reg<|mv' lki pt2<|sn'<|w_rets<|r_thn<|w_ret (rs1 (rr_t gt2))<|rT'<|?_
  rw [hR]
 have hw:wi f 1900 t=true:=by simpa using hg21
 have hw':1900≤f∧f≤t:=by unfold wi at hw;simpa using hw
 refine s_do gt21<|V' (v_fap0 lk1) pt22<|s_do gt21<|V' (v_loadp lk22 (hga hn rfl) gt2) pt23<|s_do gt21<|V' (v_gtr lk23 lki) pt24<|V' (v_pickF lk21 lk24) pt25<|mv' lk25 pt26<|?_
 refine sp' gt26 pt26 pt26 (fun hg26=>?_) (fun hg26=>?_)
 ·rw [if_pos (.inr (.inr (.inl (by omega))))] at hR
  refine s_no gt26 pt27<|s_no gt26 pt28<|s_no gt26 pt29<|s_no gt26 pt30<|V' (v_pickT lk26 lkb) pt31<|sn'<|w_condT lk31<|wr'<|mv' lki pt2<|sn'<|w_rets<|?_
  refine r_thn<|w_ret (rs1 (rr_t gt2))<|rT'<|?_
  rw [hR]
 refine s_do gt26<|V' (v_fap0 lk1) pt27<|s_do gt26<|V' (v_loadp lk27 (hga hn rfl) gt3) pt28<|s_do gt26<|s_callp (mp1 lk28 (mp1 lki (mp1 lki mp0))) (rlbetween_a) pt29<|s_do gt26<|V' (v_notB lk29) pt30<|V' (v_pickF lk26 lk30) pt31<|sn'<|?_
 refine w_condB lk31 (fun hc2=>?_) (fun hc2=>?_)
 ·rw [if_pos (.inr (.inr (.inr (by simpa using hc2))))] at hR
  refine wr'<|mv' lki pt2<|sn'<|w_rets<|r_thn<|w_ret (rs1 (rr_t gt2))<|rT'<|?_
  rw [hR]
 have hw2:wi m 1 12=true:=by simpa using hc2
 have h2:¬(f<1900∨f>t∨t>2100∨¬wi m 1 12=true):=by rw [hw2];simp;omega
 rw [if_neg h2] at hR
 refine w_skip<|n_seq<|wr'<|V' (v_fap0 lk1) pt33<|V' (v_loadp lk33 (hga hn rfl) gt3) pt34<|V' (v_fap0 lk1) pt35<|V' (v_loadpA lk35 (hga hn rfl) SrcE_tk4_3 rfl) pt36<|s_callp (mp1 lki (mp1 lk34 (mp1 lk36 mp0))) (ron_a) pt37<|mv' lk37 pt32<|V' (v_ext lk32 gt0) pt38<|V' (v_ext lk32 gt1) pt39<|E' (e_new (hl1 hn) ha1) pt3<|E' (e_store lk3 (cvl lk38 rfl) (hga hn rfl) rfl (nb' rfl) rfl SrcE_sc0_3 (hs1 hn)) ptn<|?_
 refine mv' lk39 pt4<|sn'<|w_seq<|wr'<|mv' lk4 pt40<|V' (v_neq lk40 lki) pt41<|sn'<|?_
 refine cd' lk41 (fun hc3=>?_) (fun hc3=>?_)
 ·rw [if_pos hc3] at hR
  refine wr'<|mv' lk4 pt42<|mv' lk42 pt2<|sn'<|w_rets<|r_thn<|w_ret (rs1 (rr_t gt2))<|rT'<|?_
  rw [hR]
 rw [if_neg hc3] at hR
 refine w_skip<|n_seq<|w_seq<|wr'<|V' (v_fap0 lk1) pt43<|V' (v_loadp lk43 (hga hn rfl) gt7) pt44<|s_callp (mp1 lk44 (mp1 lki (mp1 lki mp0))) (rlbetween_a) pt45<|V' (v_notB lk45) pt46<|sn'<|?_
 refine w_condB lk46 (fun hc4=>?_) (fun hc4=>?_)
 ·rw [if_pos (by simpa using hc4)] at hR
  refine wr'<|mv' lki pt2<|sn'<|w_rets<|r_thn<|w_ret (rs1 (rr_t gt2))<|rT'<|?_
  rw [hR]
 rw [if_neg (by simpa using hc4)] at hR
 refine w_skip<|n_seq<|w_seq<|wr'<|V' (v_fap0 lk1) pt47<|V' (v_loadp lk47 (hga hn rfl) gt8) pt48<|s_callp (mp1 lk48 (mp1 lki (mp1 lki mp0))) (rlbetween_a) pt49<|V' (v_notB lk49) pt50<|sn'<|?_
 refine w_condB lk50 (fun hc5=>?_) (fun hc5=>?_)
 ·rw [if_pos (by simpa using hc5)] at hR
  refine wr'<|mv' lki pt2<|sn'<|w_rets<|r_thn<|w_ret (rs1 (rr_t gt2))<|rT'<|?_
  rw [hR]
 rw [if_neg (by simpa using hc5)] at hR
 refine w_skip<|n_seq<|w_seq<|wr'<|V' (v_fap0 lk1) pt51<|V' (v_loadp lk51 (hga hn rfl) gt9) pt52<|s_callp (mp1 lk52 (mp1 lki (mp1 lki mp0))) (rlbetween_a) pt53<|V' (v_notB lk53) pt54<|sn'<|?_
 refine w_condB lk54 (fun hc6=>?_) (fun hc6=>?_)
 ·rw [if_pos (by simpa using hc6)] at hR
  refine wr'<|mv' lki pt2<|sn'<|w_rets<|r_thn<|w_ret (rs1 (rr_t gt2))<|rT'<|?_
  rw [hR]
 rw [if_neg (by simpa using hc6)] at hR
 refine w_skip<|n_seq<|wr'<|mv' lki pt2<|sn'<|w_rets<|w_ret (rs1 (rr_t gt2))<|rT'<|?_
 rw [hR]
theorem clk_f (c:Int):clkB c false=decide (c=2∨c=3):=by unfold clkB wi;rw [Bool.eq_iff_iff];simp;omega
set_option maxHeartbeats 2000000 in
theorem rcheckEra_b {rl fm:ByteArray}{sh sa y m d a c:Int}{op last:Bool}{h:AH}(hrl:rl.size≤maxLen) (hfm:fm.size≤maxLen):ACalls Tryz.prog 26 [.agg [iv sh,sv rl,iv sa,sv fm,bv op,iv y,iv m,iv d,iv a,iv c],bv last] h fun x h'=>h'=h∧x = .ret (iv (eraE sh rl sa fm op y m d a c last)):=by
 refine tI' k26 fun N hn hlt hlA hbd=>?_
 simp only [tA',AV.bdL,AV.bd,and_true,true_and] at hbd ⊢
 refine wr'<|E' (e_box (cvl lk0 rfl) rfl (hl0 hn) ha0) pt2<|mv' lki pt4<|sn'<|w_seq<|wr'<|V' (v_fap0 lk2) pt5<|V' (v_loadp lk5 (hga hn rfl) gt1) pt6<|V' (v_neqS lk6 lks) pt7<|mv' lk7 pt8<|?_
 refine sp' gt8 pt8 pt8 (fun hg8=>?_) (fun hg8=>?_)
 ·refine s_do gt8<|V' (v_fap0 lk2) pt9<|s_do gt8<|V' (v_loadp lk9 (hga hn rfl) gt1) pt10<|s_do gt8<|s_callp (mp1 lk10 mp0) (risName_a hrl) pt11<|s_do gt8<|V' (v_notB lk11) pt12<|V' (v_pickT lk8 lk12) pt13<|mv' lk13 pt14<|?_
  refine s_splitB gt14 pt14 pt14 (fun hg14=>?_) (fun hg14=>?_)
  ·refine s_no gt14 pt15<|s_no gt14 pt16<|s_no gt14 pt17<|s_no gt14 pt18<|V' (v_pickT lk14 lkb) pt19<|sn'<|w_condT lk19<|wr'<|mv' lki pt4<|sn'<|w_rets<|?_
   refine r_thn<|w_ret (rs1 (rr_t gt4))<|rT'<|?_
   refine ivx ?_;unfold eraE;simp_all
  refine s_do gt14<|V' (v_fap0 lk2) pt15<|s_do gt14<|V' (v_loadp lk15 (hga hn rfl) gt3) pt16<|s_do gt14<|s_callp (mp1 lk16 mp0) (risFormat_a hfm) pt17<|s_do gt14<|V' (v_notB lk17) pt18<|V' (v_pickF lk14 lk18) pt19<|sn'<|?_
  refine w_condB lk19 (fun hc1=>?_) (fun hc1=>?_)
  ·refine wr'<|mv' lki pt4<|sn'<|w_rets<|r_thn<|w_ret (rs1 (rr_t gt4))<|rT'<|?_
   refine ivx ?_;unfold eraE;simp_all
  refine w_skip<|n_seq<|w_seq<|wr'<|V' (v_fap0 lk2) pt20<|V' (v_loadp lk20 (hga hn rfl) gt0) pt21<|s_callp (mp1 lk21 (mp1 lki (mp1 lki mp0))) (rlbetween_a) pt22<|V' (v_notB lk22) pt23<|mv' lk23 pt24<|?_
  refine s_splitB gt24 pt24 pt24 (fun hg24=>?_) (fun hg24=>?_)
  ·refine s_no gt24 pt25<|s_no gt24 pt26<|s_no gt24 pt27<|s_no gt24 pt28<|V' (v_pickT lk24 lkb) pt29<|sn'<|w_condT lk29<|wr'<|mv' lki pt4<|sn'<|w_rets<|?_
   refine r_thn<|w_ret (rs1 (rr_t gt4))<|rT'<|?_
   refine ivx ?_;unfold eraE;simp_all
  refine s_do gt24<|V' (v_fap0 lk2) pt25<|s_do gt24<|V' (v_loadp lk25 (hga hn rfl) gt2) pt26<|s_do gt24<|s_callp (mp1 lk26 (mp1 lki (mp1 lki mp0))) (rlbetween_a) pt27<|s_do gt24<|V' (v_notB lk27) pt28<|V' (v_pickF lk24 lk28) pt29<|sn'<|?_
  refine w_condB lk29 (fun hc2=>?_) (fun hc2=>?_)
  ·refine wr'<|mv' lki pt4<|sn'<|w_rets<|r_thn<|w_ret (rs1 (rr_t gt4))<|rT'<|?_
   refine ivx ?_;unfold eraE;simp_all
  refine w_skip<|n_seq<|w_seq<|wr'<|V' (v_fap0 lk2) pt30<|V' (v_loadp lk30 (hga hn rfl) gt1) pt31<|V' (v_neqS lk31 lks) pt32<|mv' lk32 pt33<|?_
  refine sp' gt33 pt33 pt33 (fun hg33=>?_) (fun hg33=>?_)
  ·refine s_do gt33<|V' (v_fap0 lk2) pt34<|s_do gt33<|V' (v_loadp lk34 (hga hn rfl) gt2) pt35<|s_do gt33<|V' (v_neq lk35 lki) pt36<|V' (v_pickT lk33 lk36) pt37<|sn'<|?_
   refine cd' lk37 (fun hc3=>?_) (fun hc3=>?_)
   ·refine wr'<|mv' lki pt4<|sn'<|w_rets<|r_thn<|w_ret (rs1 (rr_t gt4))<|rT'<|?_
    refine ivx ?_;unfold eraE;simp_all
   refine w_skip<|n_seq<|w_seq<|wr'<|V' (v_fap0 lk2) pt38<|V' (v_loadp lk38 (hga hn rfl) gt4) pt39<|mv' lk1 pt40<|V' (v_eqbN lk39 lk40) pt41<|sn'<|?_
   refine cd' lk41 (fun hc4=>?_) (fun hc4=>?_)
   ·refine wr'<|mv' lki pt4<|sn'<|w_rets<|r_thn<|w_ret (rs1 (rr_t gt4))<|rT'<|?_
    refine ivx ?_;unfold eraE;simp_all
   refine w_skip<|n_seq<|w_seq<|wr'<|V' (v_fap0 lk2) pt42<|V' (v_loadp lk42 (hga hn rfl) gt4) pt43<|sn'<|?_
   refine w_condB lk43 (fun hc5=>?_) (fun hc5=>?_)
   ·refine w_seq<|wr'<|V' (v_fap0 lk2) pt44<|V' (v_loadpA lk44 (hga hn rfl) SrcE_tk5_5 rfl) pt45<|V' (v_build SrcE_checkEra_48) pt46<|s_callp (mp1 lk45 (mp1 lk46 mp0)) (rsameUntil_a (u:=((y,m,d),a,c)) (v:=((0,0,0),0,0))) pt47<|V' (v_notB lk47) pt48<|sn'<|?_
    refine w_condB lk48 (fun hc6=>?_) (fun hc6=>?_)
    ·refine wr'<|mv' lki pt4<|sn'<|w_rets<|r_thn<|r_thn<|w_ret (rs1 (rr_t gt4))<|rT'<|?_
     refine ivx ?_;unfold eraE;simp_all <;> (try intros) <;> omega
    refine w_skip<|n_seq<|wr'<|mv' lki pt4<|sn'<|w_rets<|r_thn<|w_ret (rs1 (rr_t gt4))<|rT'<|?_
    refine ivx ?_;unfold eraE;simp_all
   refine w_skip<|n_seq<|w_seq<|wr'<|V' (v_fap0 lk2) pt49<|V' (v_fap lk49) pt50<|V' (v_loadpA lk50 (hga hn rfl) SrcE_tk5_3 rfl) pt51<|s_callp (mp1 lk51 mp0) (rsIsDate_a) pt52<|V' (v_notB lk52) pt53<|mv' lk53 pt54<|?_
   refine s_splitB gt54 pt54 pt54 (fun hg54=>?_) (fun hg54=>?_)
   ·refine s_no gt54 pt55<|s_no gt54 pt56<|s_no gt54 pt57<|s_no gt54 pt58<|s_no gt54 pt59<|V' (v_pickT lk54 lkb) pt60<|sn'<|w_condT lk60<|wr'<|mv' lki pt4<|sn'<|?_
    refine w_rets<|r_thn<|w_ret (rs1 (rr_t gt4))<|rT'<|?_
    refine ivx ?_;unfold eraE;simp_all
   refine s_do gt54<|V' (v_fap0 lk2) pt55<|s_do gt54<|V' (v_fap lk55) pt56<|s_do gt54<|V' (v_loadp lk56 (hga hn rfl) gt8) pt57<|s_do gt54<|s_callp (mp1 lk57 (mp1 lki (mp1 lki mp0))) (rlbetween_a) pt58<|s_do gt54<|V' (v_notB lk58) pt59<|V' (v_pickF lk54 lk59) pt60<|sn'<|?_
   refine w_condB lk60 (fun hc7=>?_) (fun hc7=>?_)
   ·refine wr'<|mv' lki pt4<|sn'<|w_rets<|r_thn<|w_ret (rs1 (rr_t gt4))<|rT'<|?_
    refine ivx ?_;unfold eraE;simp_all
   refine w_skip<|n_seq<|w_seq<|wr'<|V' (v_fap0 lk2) pt61<|V' (v_fap lk61) pt62<|V' (v_loadp lk62 (hga hn rfl) gt9) pt63<|V' (v_neq lk63 lki) pt64<|mv' lk64 pt65<|?_
   refine sp' gt65 pt65 pt65 (fun hg65=>?_) (fun hg65=>?_)
   ·refine s_do gt65<|V' (v_fap0 lk2) pt66<|s_do gt65<|V' (v_fap lk66) pt67<|s_do gt65<|V' (v_loadp lk67 (hga hn rfl) gt9) pt68<|s_do gt65<|V' (v_neq lk68 lki) pt69<|V' (v_pickT lk65 lk69) (ptS pt0)<|sn'<|?_
    refine cd' (lkS lk0) (fun hc8=>?_) (fun hc8=>?_)
    ·refine wr'<|mv' lki pt4<|sn'<|w_rets<|r_thn<|w_ret (rs1 (rr_t gt4))<|rT'<|?_
     refine ivx ?_;unfold eraE;rw [clk_f];simp_all
    refine w_skip<|n_seq<|wr'<|mv' lki pt4<|sn'<|w_rets<|w_ret (rs1 (rr_t gt4))<|rT'<|?_
    refine ivx ?_;unfold eraE;rw [clk_f];simp_all
   refine s_no gt65 pt66<|s_no gt65 pt67<|s_no gt65 pt68<|s_no gt65 pt69<|V' (v_pickF lk65 lkb) (ptS pt0)<|sn'<|w_condF (lkS lk0)<|w_skip<|n_seq<|wr'<|mv' lki pt4<|s_nil<|?_
   refine n_seq<|w_rets<|w_ret (rs1 (rr_t gt4))<|rT'<|?_
   refine ivx ?_;unfold eraE;rw [clk_f];simp_all
  refine s_no gt33 pt34<|s_no gt33 pt35<|s_no gt33 pt36<|V' (v_pickF lk33 lkb) pt37<|sn'<|w_condF lk37<|w_skip<|n_seq<|w_seq<|wr'<|V' (v_fap0 lk2) pt38<|V' (v_loadp lk38 (hga hn rfl) gt4) pt39<|?_
  refine mv' lk1 pt40<|V' (v_eqbN lk39 lk40) pt41<|sn'<|?_
  refine cd' lk41 (fun hc4=>?_) (fun hc4=>?_)
  ·refine wr'<|mv' lki pt4<|sn'<|w_rets<|r_thn<|w_ret (rs1 (rr_t gt4))<|rT'<|?_
   refine ivx ?_;unfold eraE;simp_all
  refine w_skip<|n_seq<|w_seq<|wr'<|V' (v_fap0 lk2) pt42<|V' (v_loadp lk42 (hga hn rfl) gt4) pt43<|sn'<|?_
  refine w_condB lk43 (fun hc5=>?_) (fun hc5=>?_)
  ·refine w_seq<|wr'<|V' (v_fap0 lk2) pt44<|V' (v_loadpA lk44 (hga hn rfl) SrcE_tk5_5 rfl) pt45<|V' (v_build SrcE_checkEra_48) pt46<|s_callp (mp1 lk45 (mp1 lk46 mp0)) (rsameUntil_a (u:=((y,m,d),a,c)) (v:=((0,0,0),0,0))) pt47<|V' (v_notB lk47) pt48<|sn'<|?_
   refine w_condB lk48 (fun hc6=>?_) (fun hc6=>?_)
   ·refine wr'<|mv' lki pt4<|sn'<|w_rets<|r_thn<|r_thn<|w_ret (rs1 (rr_t gt4))<|rT'<|?_
    refine ivx ?_;unfold eraE;simp_all <;> (try intros) <;> omega
   refine w_skip<|n_seq<|wr'<|mv' lki pt4<|sn'<|w_rets<|r_thn<|w_ret (rs1 (rr_t gt4))<|rT'<|?_
   refine ivx ?_;unfold eraE;simp_all
  refine w_skip<|n_seq<|w_seq<|wr'<|V' (v_fap0 lk2) pt49<|V' (v_fap lk49) pt50<|V' (v_loadpA lk50 (hga hn rfl) SrcE_tk5_3 rfl) pt51<|s_callp (mp1 lk51 mp0) (rsIsDate_a) pt52<|V' (v_notB lk52) pt53<|mv' lk53 pt54<|?_
  refine s_splitB gt54 pt54 pt54 (fun hg54=>?_) (fun hg54=>?_)
  ·refine s_no gt54 pt55<|s_no gt54 pt56<|s_no gt54 pt57<|s_no gt54 pt58<|s_no gt54 pt59<|V' (v_pickT lk54 lkb) pt60<|sn'<|w_condT lk60<|wr'<|mv' lki pt4<|sn'<|?_
   refine w_rets<|r_thn<|w_ret (rs1 (rr_t gt4))<|rT'<|?_
   refine ivx ?_;unfold eraE;simp_all
  refine s_do gt54<|V' (v_fap0 lk2) pt55<|s_do gt54<|V' (v_fap lk55) pt56<|s_do gt54<|V' (v_loadp lk56 (hga hn rfl) gt8) pt57<|s_do gt54<|s_callp (mp1 lk57 (mp1 lki (mp1 lki mp0))) (rlbetween_a) pt58<|s_do gt54<|V' (v_notB lk58) pt59<|V' (v_pickF lk54 lk59) pt60<|sn'<|?_
  refine w_condB lk60 (fun hc7=>?_) (fun hc7=>?_)
  ·refine wr'<|mv' lki pt4<|sn'<|w_rets<|r_thn<|w_ret (rs1 (rr_t gt4))<|rT'<|?_
   refine ivx ?_;unfold eraE;simp_all
  refine w_skip<|n_seq<|w_seq<|wr'<|V' (v_fap0 lk2) pt61<|V' (v_fap lk61) pt62<|V' (v_loadp lk62 (hga hn rfl) gt9) pt63<|V' (v_neq lk63 lki) pt64<|mv' lk64 pt65<|?_
  refine sp' gt65 pt65 pt65 (fun hg65=>?_) (fun hg65=>?_)
  ·refine s_do gt65<|V' (v_fap0 lk2) pt66<|s_do gt65<|V' (v_fap lk66) pt67<|s_do gt65<|V' (v_loadp lk67 (hga hn rfl) gt9) pt68<|s_do gt65<|V' (v_neq lk68 lki) pt69<|V' (v_pickT lk65 lk69) (ptS pt0)<|sn'<|?_
   refine cd' (lkS lk0) (fun hc8=>?_) (fun hc8=>?_)
   ·refine wr'<|mv' lki pt4<|sn'<|w_rets<|r_thn<|w_ret (rs1 (rr_t gt4))<|rT'<|?_
    refine ivx ?_;unfold eraE;rw [clk_f];simp_all
   refine w_skip<|n_seq<|wr'<|mv' lki pt4<|sn'<|w_rets<|w_ret (rs1 (rr_t gt4))<|rT'<|?_
   refine ivx ?_;unfold eraE;rw [clk_f];simp_all
  refine s_no gt65 pt66<|s_no gt65 pt67<|s_no gt65 pt68<|s_no gt65 pt69<|V' (v_pickF lk65 lkb) (ptS pt0)<|sn'<|w_condF (lkS lk0)<|w_skip<|n_seq<|wr'<|mv' lki pt4<|s_nil<|?_
  refine n_seq<|w_rets<|w_ret (rs1 (rr_t gt4))<|rT'<|?_
  refine ivx ?_;unfold eraE;rw [clk_f];simp_all
 refine s_no gt8 pt9<|s_no gt8 pt10<|s_no gt8 pt11<|s_no gt8 pt12<|V' (v_pickF lk8 lkb) pt13<|mv' lk13 pt14<|s_do gt14<|V' (v_fap0 lk2) pt15<|s_do gt14<|V' (v_loadp lk15 (hga hn rfl) gt3) pt16<|s_do gt14<|s_callp (mp1 lk16 mp0) (risFormat_a hfm) pt17<|s_do gt14<|V' (v_notB lk17) pt18<|?_
 refine V' (v_pickF lk14 lk18) pt19<|sn'<|?_
 refine w_condB lk19 (fun hc1=>?_) (fun hc1=>?_)
 ·refine wr'<|mv' lki pt4<|sn'<|w_rets<|r_thn<|w_ret (rs1 (rr_t gt4))<|rT'<|?_
  refine ivx ?_;unfold eraE;simp_all
 refine w_skip<|n_seq<|w_seq<|wr'<|V' (v_fap0 lk2) pt20<|V' (v_loadp lk20 (hga hn rfl) gt0) pt21<|s_callp (mp1 lk21 (mp1 lki (mp1 lki mp0))) (rlbetween_a) pt22<|V' (v_notB lk22) pt23<|mv' lk23 pt24<|?_
 refine s_splitB gt24 pt24 pt24 (fun hg24=>?_) (fun hg24=>?_)
 ·refine s_no gt24 pt25<|s_no gt24 pt26<|s_no gt24 pt27<|s_no gt24 pt28<|V' (v_pickT lk24 lkb) pt29<|sn'<|w_condT lk29<|wr'<|mv' lki pt4<|sn'<|w_rets<|?_
  refine r_thn<|w_ret (rs1 (rr_t gt4))<|rT'<|?_
  refine ivx ?_;unfold eraE;simp_all
 refine s_do gt24<|V' (v_fap0 lk2) pt25<|s_do gt24<|V' (v_loadp lk25 (hga hn rfl) gt2) pt26<|s_do gt24<|s_callp (mp1 lk26 (mp1 lki (mp1 lki mp0))) (rlbetween_a) pt27<|s_do gt24<|V' (v_notB lk27) pt28<|V' (v_pickF lk24 lk28) pt29<|sn'<|?_
 refine w_condB lk29 (fun hc2=>?_) (fun hc2=>?_)
 ·refine wr'<|mv' lki pt4<|sn'<|w_rets<|r_thn<|w_ret (rs1 (rr_t gt4))<|rT'<|?_
  refine ivx ?_;unfold eraE;simp_all
 refine w_skip<|n_seq<|w_seq<|wr'<|V' (v_fap0 lk2) pt30<|V' (v_loadp lk30 (hga hn rfl) gt1) pt31<|V' (v_neqS lk31 lks) pt32<|mv' lk32 pt33<|?_
 refine sp' gt33 pt33 pt33 (fun hg33=>?_) (fun hg33=>?_)
 ·refine s_do gt33<|V' (v_fap0 lk2) pt34<|s_do gt33<|V' (v_loadp lk34 (hga hn rfl) gt2) pt35<|s_do gt33<|V' (v_neq lk35 lki) pt36<|V' (v_pickT lk33 lk36) pt37<|sn'<|?_
  refine cd' lk37 (fun hc3=>?_) (fun hc3=>?_)
  ·refine wr'<|mv' lki pt4<|sn'<|w_rets<|r_thn<|w_ret (rs1 (rr_t gt4))<|rT'<|?_
   refine ivx ?_;unfold eraE;simp_all
  refine w_skip<|n_seq<|w_seq<|wr'<|V' (v_fap0 lk2) pt38<|V' (v_loadp lk38 (hga hn rfl) gt4) pt39<|mv' lk1 pt40<|V' (v_eqbN lk39 lk40) pt41<|sn'<|?_
  refine cd' lk41 (fun hc4=>?_) (fun hc4=>?_)
  ·refine wr'<|mv' lki pt4<|sn'<|w_rets<|r_thn<|w_ret (rs1 (rr_t gt4))<|rT'<|?_
   refine ivx ?_;unfold eraE;simp_all
  refine w_skip<|n_seq<|w_seq<|wr'<|V' (v_fap0 lk2) pt42<|V' (v_loadp lk42 (hga hn rfl) gt4) pt43<|sn'<|?_
  refine w_condB lk43 (fun hc5=>?_) (fun hc5=>?_)
  ·refine w_seq<|wr'<|V' (v_fap0 lk2) pt44<|V' (v_loadpA lk44 (hga hn rfl) SrcE_tk5_5 rfl) pt45<|V' (v_build SrcE_checkEra_48) pt46<|s_callp (mp1 lk45 (mp1 lk46 mp0)) (rsameUntil_a (u:=((y,m,d),a,c)) (v:=((0,0,0),0,0))) pt47<|V' (v_notB lk47) pt48<|sn'<|?_
   refine w_condB lk48 (fun hc6=>?_) (fun hc6=>?_)
   ·refine wr'<|mv' lki pt4<|sn'<|w_rets<|r_thn<|r_thn<|w_ret (rs1 (rr_t gt4))<|rT'<|?_
    refine ivx ?_;unfold eraE;simp_all <;> (try intros) <;> omega
   refine w_skip<|n_seq<|wr'<|mv' lki pt4<|sn'<|w_rets<|r_thn<|w_ret (rs1 (rr_t gt4))<|rT'<|?_
   refine ivx ?_;unfold eraE;simp_all
  refine w_skip<|n_seq<|w_seq<|wr'<|V' (v_fap0 lk2) pt49<|V' (v_fap lk49) pt50<|V' (v_loadpA lk50 (hga hn rfl) SrcE_tk5_3 rfl) pt51<|s_callp (mp1 lk51 mp0) (rsIsDate_a) pt52<|V' (v_notB lk52) pt53<|mv' lk53 pt54<|?_
  refine s_splitB gt54 pt54 pt54 (fun hg54=>?_) (fun hg54=>?_)
  ·refine s_no gt54 pt55<|s_no gt54 pt56<|s_no gt54 pt57<|s_no gt54 pt58<|s_no gt54 pt59<|V' (v_pickT lk54 lkb) pt60<|sn'<|w_condT lk60<|wr'<|mv' lki pt4<|sn'<|?_
   refine w_rets<|r_thn<|w_ret (rs1 (rr_t gt4))<|rT'<|?_
   refine ivx ?_;unfold eraE;simp_all
  refine s_do gt54<|V' (v_fap0 lk2) pt55<|s_do gt54<|V' (v_fap lk55) pt56<|s_do gt54<|V' (v_loadp lk56 (hga hn rfl) gt8) pt57<|s_do gt54<|s_callp (mp1 lk57 (mp1 lki (mp1 lki mp0))) (rlbetween_a) pt58<|s_do gt54<|V' (v_notB lk58) pt59<|V' (v_pickF lk54 lk59) pt60<|sn'<|?_
  refine w_condB lk60 (fun hc7=>?_) (fun hc7=>?_)
  ·refine wr'<|mv' lki pt4<|sn'<|w_rets<|r_thn<|w_ret (rs1 (rr_t gt4))<|rT'<|?_
   refine ivx ?_;unfold eraE;simp_all
  refine w_skip<|n_seq<|w_seq<|wr'<|V' (v_fap0 lk2) pt61<|V' (v_fap lk61) pt62<|V' (v_loadp lk62 (hga hn rfl) gt9) pt63<|V' (v_neq lk63 lki) pt64<|mv' lk64 pt65<|?_
  refine sp' gt65 pt65 pt65 (fun hg65=>?_) (fun hg65=>?_)
  ·refine s_do gt65<|V' (v_fap0 lk2) pt66<|s_do gt65<|V' (v_fap lk66) pt67<|s_do gt65<|V' (v_loadp lk67 (hga hn rfl) gt9) pt68<|s_do gt65<|V' (v_neq lk68 lki) pt69<|V' (v_pickT lk65 lk69) (ptS pt0)<|sn'<|?_
   refine cd' (lkS lk0) (fun hc8=>?_) (fun hc8=>?_)
   ·refine wr'<|mv' lki pt4<|sn'<|w_rets<|r_thn<|w_ret (rs1 (rr_t gt4))<|rT'<|?_
    refine ivx ?_;unfold eraE;rw [clk_f];simp_all
   refine w_skip<|n_seq<|wr'<|mv' lki pt4<|sn'<|w_rets<|w_ret (rs1 (rr_t gt4))<|rT'<|?_
   refine ivx ?_;unfold eraE;rw [clk_f];simp_all
  refine s_no gt65 pt66<|s_no gt65 pt67<|s_no gt65 pt68<|s_no gt65 pt69<|V' (v_pickF lk65 lkb) (ptS pt0)<|sn'<|w_condF (lkS lk0)<|w_skip<|n_seq<|wr'<|mv' lki pt4<|s_nil<|?_
  refine n_seq<|w_rets<|w_ret (rs1 (rr_t gt4))<|rT'<|?_
  refine ivx ?_;unfold eraE;rw [clk_f];simp_all
 refine s_no gt33 pt34<|s_no gt33 pt35<|s_no gt33 pt36<|V' (v_pickF lk33 lkb) pt37<|sn'<|w_condF lk37<|w_skip<|n_seq<|w_seq<|wr'<|V' (v_fap0 lk2) pt38<|V' (v_loadp lk38 (hga hn rfl) gt4) pt39<|?_
 refine mv' lk1 pt40<|V' (v_eqbN lk39 lk40) pt41<|sn'<|?_
 refine cd' lk41 (fun hc4=>?_) (fun hc4=>?_)
 ·refine wr'<|mv' lki pt4<|sn'<|w_rets<|r_thn<|w_ret (rs1 (rr_t gt4))<|rT'<|?_
  refine ivx ?_;unfold eraE;simp_all
 refine w_skip<|n_seq<|w_seq<|wr'<|V' (v_fap0 lk2) pt42<|V' (v_loadp lk42 (hga hn rfl) gt4) pt43<|sn'<|?_
 refine w_condB lk43 (fun hc5=>?_) (fun hc5=>?_)
 ·refine w_seq<|wr'<|V' (v_fap0 lk2) pt44<|V' (v_loadpA lk44 (hga hn rfl) SrcE_tk5_5 rfl) pt45<|V' (v_build SrcE_checkEra_48) pt46<|s_callp (mp1 lk45 (mp1 lk46 mp0)) (rsameUntil_a (u:=((y,m,d),a,c)) (v:=((0,0,0),0,0))) pt47<|V' (v_notB lk47) pt48<|sn'<|?_
  refine w_condB lk48 (fun hc6=>?_) (fun hc6=>?_)
  ·refine wr'<|mv' lki pt4<|sn'<|w_rets<|r_thn<|r_thn<|w_ret (rs1 (rr_t gt4))<|rT'<|?_
   refine ivx ?_;unfold eraE;simp_all <;> (try intros) <;> omega
  refine w_skip<|n_seq<|wr'<|mv' lki pt4<|sn'<|w_rets<|r_thn<|w_ret (rs1 (rr_t gt4))<|rT'<|?_
  refine ivx ?_;unfold eraE;simp_all
 refine w_skip<|n_seq<|w_seq<|wr'<|V' (v_fap0 lk2) pt49<|V' (v_fap lk49) pt50<|V' (v_loadpA lk50 (hga hn rfl) SrcE_tk5_3 rfl) pt51<|s_callp (mp1 lk51 mp0) (rsIsDate_a) pt52<|V' (v_notB lk52) pt53<|mv' lk53 pt54<|?_
 refine s_splitB gt54 pt54 pt54 (fun hg54=>?_) (fun hg54=>?_)
 ·refine s_no gt54 pt55<|s_no gt54 pt56<|s_no gt54 pt57<|s_no gt54 pt58<|s_no gt54 pt59<|V' (v_pickT lk54 lkb) pt60<|sn'<|w_condT lk60<|wr'<|mv' lki pt4<|sn'<|?_
  refine w_rets<|r_thn<|w_ret (rs1 (rr_t gt4))<|rT'<|?_
  refine ivx ?_;unfold eraE;simp_all
 refine s_do gt54<|V' (v_fap0 lk2) pt55<|s_do gt54<|V' (v_fap lk55) pt56<|s_do gt54<|V' (v_loadp lk56 (hga hn rfl) gt8) pt57<|s_do gt54<|s_callp (mp1 lk57 (mp1 lki (mp1 lki mp0))) (rlbetween_a) pt58<|s_do gt54<|V' (v_notB lk58) pt59<|V' (v_pickF lk54 lk59) pt60<|sn'<|?_
 refine w_condB lk60 (fun hc7=>?_) (fun hc7=>?_)
 ·refine wr'<|mv' lki pt4<|sn'<|w_rets<|r_thn<|w_ret (rs1 (rr_t gt4))<|rT'<|?_
  refine ivx ?_;unfold eraE;simp_all
 refine w_skip<|n_seq<|w_seq<|wr'<|V' (v_fap0 lk2) pt61<|V' (v_fap lk61) pt62<|V' (v_loadp lk62 (hga hn rfl) gt9) pt63<|V' (v_neq lk63 lki) pt64<|mv' lk64 pt65<|?_
 refine sp' gt65 pt65 pt65 (fun hg65=>?_) (fun hg65=>?_)
 ·refine s_do gt65<|V' (v_fap0 lk2) pt66<|s_do gt65<|V' (v_fap lk66) pt67<|s_do gt65<|V' (v_loadp lk67 (hga hn rfl) gt9) pt68<|s_do gt65<|V' (v_neq lk68 lki) pt69<|V' (v_pickT lk65 lk69) (ptS pt0)<|sn'<|?_
  refine cd' (lkS lk0) (fun hc8=>?_) (fun hc8=>?_)
  ·refine wr'<|mv' lki pt4<|sn'<|w_rets<|r_thn<|w_ret (rs1 (rr_t gt4))<|rT'<|?_
   refine ivx ?_;unfold eraE;rw [clk_f];simp_all
  refine w_skip<|n_seq<|wr'<|mv' lki pt4<|sn'<|w_rets<|w_ret (rs1 (rr_t gt4))<|rT'<|?_
  refine ivx ?_;unfold eraE;rw [clk_f];simp_all
 refine s_no gt65 pt66<|s_no gt65 pt67<|s_no gt65 pt68<|s_no gt65 pt69<|V' (v_pickF lk65 lkb) (ptS pt0)<|sn'<|w_condF (lkS lk0)<|w_skip<|n_seq<|wr'<|mv' lki pt4<|s_nil<|?_
 refine n_seq<|w_rets<|w_ret (rs1 (rr_t gt4))<|rT'<|?_
 refine ivx ?_;unfold eraE;rw [clk_f];simp_all
theorem rcheckRule_a {r:Rul}{h:AH}(h1:r.1.size≤maxLen) (h2:r.2.2.2.2.2.2.2.2.size≤maxLen):ACalls Tryz.prog 24 [.agg (rulC r)] h fun x h'=>h'=h∧x = .ret (iv (ruleE r)):=rcheckRule_b h1 h2
theorem rcheckEra_a {x:Era}{last:Bool}{h:AH}(ho:okEra x):ACalls Tryz.prog 26 [.agg (eraC x),bv last] h fun y h'=>h'=h∧y = .ret (iv (eraX x last)):=rcheckEra_b ho.1 ho.2
set_option maxHeartbeats 4000000 in
theorem rcheckS_b {a:List Rul}{z:List Zon}{l:List Lnk}{h:AH}(hok:okSrc (a,z,l)):ACalls Tryz.prog 9 [.agg [.sl a.length 11 false (rows rulC a),.sl z.length 2 false (rows zonC z),.sl l.length 2 false (rows lnkC l)]] h fun x h'=>h'=h∧x = .ret (iv (checkE (a,z,l))):=by
 refine tI' k9 fun N hn hlt hlA hbd=>?_
 simp only [tA',AV.bdL,AV.bd,and_true,true_and] at hbd ⊢
 refine wr'<|E' (e_box (cvl lk0 rfl) rfl (hl0 hn) ha0) pt1<|mv' lki pt2<|sn'<|w_seq<|wr'<|V' (v_fap0 lk1) pt11<|V' (v_loadp lk11 (hga hn rfl) gt0) pt12<|V' (v_lenL lk12) pt13<|V' (v_gtr lk13 lki) pt14<|mv' lk14 pt15<|?_
 refine sp' gt15 pt15 pt15 (fun hg15=>?_) (fun hg15=>?_)
 ·have hM:manyB (a,z,l)=true:=by unfold manyB;simp;omega
  refine s_no gt15 pt16<|s_no gt15 pt17<|s_no gt15 pt18<|s_no gt15 pt19<|V' (v_pickT lk15 lkb) pt20<|mv' lk20 pt21<|s_no gt21 pt22<|s_no gt21 pt23<|s_no gt21 pt24<|s_no gt21 pt25<|V' (v_pickT lk21 lkb) pt26<|sn'<|w_condT lk26<|?_
  refine wr'<|mv' lki pt2<|sn'<|w_rets<|r_thn<|w_ret (rs1 (rr_t gt2))<|rT'<|?_
  refine ivx ?_;unfold checkE;rw [if_pos hM]
 refine s_do gt15<|V' (v_fap0 lk1) pt16<|s_do gt15<|V' (v_loadp lk16 (hga hn rfl) gt1) pt17<|s_do gt15<|V' (v_lenL lk17) pt18<|s_do gt15<|V' (v_gtr lk18 lki) pt19<|V' (v_pickF lk15 lk19) pt20<|mv' lk20 pt21<|?_
 refine sp' gt21 pt21 pt21 (fun hg21=>?_) (fun hg21=>?_)
 ·have hM:manyB (a,z,l)=true:=by unfold manyB;simp;omega
  refine s_no gt21 pt22<|s_no gt21 pt23<|s_no gt21 pt24<|s_no gt21 pt25<|V' (v_pickT lk21 lkb) pt26<|sn'<|w_condT lk26<|wr'<|mv' lki pt2<|sn'<|w_rets<|?_
  refine r_thn<|w_ret (rs1 (rr_t gt2))<|rT'<|?_
  refine ivx ?_;unfold checkE;rw [if_pos hM]
 refine s_do gt21<|V' (v_fap0 lk1) pt22<|s_do gt21<|V' (v_loadp lk22 (hga hn rfl) gt2) pt23<|s_do gt21<|V' (v_lenL lk23) pt24<|s_do gt21<|V' (v_gtr lk24 lki) pt25<|V' (v_pickF lk21 lk25) pt26<|sn'<|?_
 refine cd' lk26 (fun hc1=>?_) (fun hc1=>?_)
 ·have hM:manyB (a,z,l)=true:=by unfold manyB;simp;omega
  refine wr'<|mv' lki pt2<|sn'<|w_rets<|r_thn<|w_ret (rs1 (rr_t gt2))<|rT'<|?_
  refine ivx ?_;unfold checkE;rw [if_pos hM]
 refine w_skip<|n_seq<|w_seq<|wr'<|mv' lki pt3<|sn'<|w_block<|?_
 refine w_lp (ι:=Nat) (fun (k:Nat)=>[(3,iv (k:Int)),(2,.any)]++rn' 27 15) (fun (k:Nat)=>[]) (fun (k:Nat)=>k≤z.length∧(z.take k).any (fun z=>decide (8<z.2.length))=false) (fun (k:Nat)=>z.length-k) (0) (by exact ⟨Nat.zero_le _,rfl⟩) ?_
 rintro k hi1
 try simp only [setsT,setsE,z',s',rn',la',ln',Nat.reduceAdd]
 obtain ⟨hk1,hk2⟩:=hi1
 refine w_seq<|wr'<|mv' lk3 pt27<|V' (v_fap0 lk1) pt28<|V' (v_loadp lk28 (hga hn rfl) gt1) pt29<|V' (v_lenL lk29) pt30<|V' (v_lss lk27 lk30) pt31<|sn'<|?_
 refine cd' lk31 (fun hc2=>?_) (fun hc2=>?_)
 ·have hk:k<z.length:=by omega
  refine w_skip<|n_seq<|w_seq<|w_block<|wr'<|V' (v_fap0 lk1) pt34<|V' (v_loadp lk34 (hga hn rfl) gt1) pt35<|mv' lk3 pt36<|?_
  refine V' (v_iaR lk35 lk36 zon_len1 (nb' rfl) (by first | rfl | omega) (by omega) (by first | rfl | omega) rfl) pt37 ?_
  refine V' (v_far lk37 dp1) pt38<|V' (v_loadr lk38 gt0) pt39<|?_
  refine V' ((by first | exact v_lenL lk39 | exact v_lenO lk39)) pt40 ?_
  refine V' (v_gtr lk40 lki) pt41<|sn'<|?_
  refine cd' lk41 (fun hc3=>?_) (fun hc3=>?_)
  ·have hM:manyB (a,z,l)=true:=by unfold manyB;rw [show z.any (fun z=>decide (8<z.2.length))=true from List.any_eq_true.2 ⟨z[k],List.getElem_mem hk,decide_eq_true (by omega)⟩];simp
   refine wr'<|mv' lki pt2<|sn'<|w_rets<|r_blk<|r_thn<|r_thn<|r_blk<|r_thn<|w_ret (rs1 (rr_t gt2))<|rT'<|?_
   refine ivx ?_;unfold checkE;rw [if_pos hM]
  refine w_skip<|n_blk<|n_seq<|w_reg<|mv' lk3 pt32<|?_
  refine V' (v_add lk32 lki (by omega) (by omega)) pt33 ?_
  refine mv' lk33 pt3<|s_nil<|n_thn<|?_
  refine lT' (k+1) (by (try dsimp only);exact ⟨by omega,by rw [List.take_succ_eq_append_getElem hk,List.any_append,hk2];simp;omega⟩)
 rw [List.take_of_length_le (by omega)] at hk2
 have hM:manyB (a,z,l)=false:=by unfold manyB;rw [hk2];simp;omega
 have hE:checkE (a,z,l)=if firstX ruleE a≠0 then firstX ruleE a else if firstX zoneE z≠0 then firstX zoneE z else firstX linkE l:=by unfold checkE;rw [if_neg (by rw [hM];simp)]
 refine w_exit<|x_thn<|x_thn<|x_blk<|n_seq<|w_seq<|wr'<|mv' lki pt4<|sn'<|w_block<|?_
 refine w_lp (ι:=Nat) (fun (i2:Nat)=>[(4,iv (i2:Int)),(2,.any),(5,.any)]++rn' 42 16) (fun (i2:Nat)=>[]) (fun (i2:Nat)=>i2≤a.length∧firstX ruleE a=firstX ruleE (a.drop i2)) (fun (i2:Nat)=>a.length-i2) (0) (by exact ⟨Nat.zero_le _,rfl⟩) ?_
 rintro i2 hi2
 try simp only [setsT,setsE,z',s',rn',la',ln',Nat.reduceAdd]
 obtain ⟨hu1,hu2⟩:=hi2
 refine w_seq<|wr'<|mv' lk4 pt42<|V' (v_fap0 lk1) pt43<|V' (v_loadp lk43 (hga hn rfl) gt0) pt44<|V' (v_lenL lk44) pt45<|V' (v_lss lk42 lk45) pt46<|sn'<|?_
 refine cd' lk46 (fun hc4=>?_) (fun hc4=>?_)
 ·have hk4:i2<a.length:=by omega
  rw [firstX_at hk4] at hu2
  have ho4:=hok.1 _ (List.getElem_mem hk4)
  refine w_skip<|n_seq<|w_seq<|w_block<|wr'<|V' (v_fap0 lk1) pt49<|V' (v_loadp lk49 (hga hn rfl) gt0) pt50<|mv' lk4 pt51<|?_
  refine V' (v_iaR lk50 lk51 rul_len1 (nb' rfl) (by first | rfl | omega) (by omega) (by first | rfl | omega) rfl) pt52 ?_
  refine V' (v_loadrA lk52 SrcE_tk_11 rfl) pt53<|s_callp (mp1 lk53 mp0) (rcheckRule_a (r:=a[i2]) ho4.1 ho4.2) pt54<|mv' lk54 pt5<|sn'<|wr'<|mv' lk5 pt55<|V' (v_neq lk55 lki) pt56<|sn'<|?_
  refine cd' lk56 (fun hc5=>?_) (fun hc5=>?_)
  ·rw [if_pos hc5] at hu2
   refine wr'<|mv' lk5 pt57<|mv' lk57 pt2<|sn'<|w_rets<|r_blk<|r_thn<|r_thn<|r_blk<|r_thn<|w_ret (rs1 (rr_t gt2))<|rT'<|?_
   refine ivx ?_;rw [hE,hu2,if_pos hc5]
  rw [if_neg hc5] at hu2
  refine w_skip<|n_blk<|n_seq<|w_reg<|mv' lk4 pt47<|?_
  refine V' (v_add lk47 lki (by omega) (by omega)) pt48 ?_
  refine mv' lk48 pt4<|s_nil<|n_thn<|?_
  refine lT' (i2+1) (by (try dsimp only);exact ⟨by omega,hu2⟩)
 rw [List.drop_of_length_le (by omega)] at hu2
 rw [hu2,if_neg (by simp [firstX])] at hE
 refine w_exit<|x_thn<|x_thn<|x_blk<|n_seq<|w_seq<|wr'<|mv' lki pt6<|sn'<|w_block<|?_
 refine w_lp (ι:=Nat) (fun (i3:Nat)=>[(6,iv (i3:Int)),(2,.any)]++rn' 7 3++rn' 58 45) (fun (i3:Nat)=>[]) (fun (i3:Nat)=>i3≤z.length∧firstX zoneE z=firstX zoneE (z.drop i3)) (fun (i3:Nat)=>z.length-i3) (0) (by exact ⟨Nat.zero_le _,rfl⟩) ?_
 rintro i3 hi3
 try simp only [setsT,setsE,z',s',rn',la',ln',Nat.reduceAdd]
 obtain ⟨hv1,hv2⟩:=hi3
 refine w_seq<|wr'<|mv' lk6 pt58<|V' (v_fap0 lk1) pt59<|V' (v_loadp lk59 (hga hn rfl) gt1) pt60<|V' (v_lenL lk60) pt61<|V' (v_lss lk58 lk61) pt62<|sn'<|?_
 refine cd' lk62 (fun hc6=>?_) (fun hc6=>?_)
 ·have hk6:i3<z.length:=by omega
  rw [firstX_at hk6] at hv2
  have ho6:=hok.2.1 _ (List.getElem_mem hk6)
  have h8:(z[i3]).2.length≤8:=by have:=List.any_eq_false.1 hk2 _ (List.getElem_mem hk6);simpa using this
  refine w_skip<|n_seq<|w_seq<|w_block<|wr'<|V' (v_fap0 lk1) pt65<|V' (v_loadp lk65 (hga hn rfl) gt1) pt66<|mv' lk6 pt67<|?_
  refine V' (v_iaR lk66 lk67 zon_len1 (nb' rfl) (by first | rfl | omega) (by omega) (by first | rfl | omega) rfl) pt68 ?_
  refine V' (v_far lk68 dp1) pt69<|V' (v_loadr lk69 gt0) (ptS pt0)<|mv' (lkS lk0) pt7<|sn'<|w_seq<|wr'<|V' (v_fap0 lk1) (ptS pt1)<|V' (v_loadp (lkS lk1) (hga hn rfl) gt1) (ptS pt2)<|mv' lk6 (ptS pt3)<|?_
  refine V' (v_iaR (lkS lk2) (lkS lk3) zon_len1 (nb' rfl) (by first | rfl | omega) (by omega) (by first | rfl | omega) rfl) (ptS pt4) ?_
  refine V' (v_far (lkS lk4) dp0) (ptS pt5)<|V' (v_loadr (lkS lk5) gt0) (ptS pt6)<|s_callp (mp1 (lkS lk6) mp0) (risName_a ho6.1) (ptS pt7)<|V' (v_notB (lkS lk7)) (ptS pt8)<|mv' (lkS lk8) (ptS pt9)<|?_
  refine s_splitB (gtS gt9) (ptS pt9) (ptS pt9) (fun hg79=>?_) (fun hg79=>?_)
  ·have hZ:zoneE z[i3]=1:=if_pos (.inl (by simpa using hg79))
   refine s_no (gtS gt9) (ptS pt10)<|s_no (gtS gt9) (ptS pt11)<|s_no (gtS gt9) (ptS pt12)<|V' (v_pickT (lkS lk9) lkb) (ptS pt13)<|sn'<|w_condT (lkS lk13)<|wr'<|mv' lki pt2<|sn'<|w_rets<|r_thn<|?_
   refine r_blk<|r_thn<|r_thn<|r_blk<|r_thn<|w_ret (rs1 (rr_t gt2))<|rT'<|?_
   refine ivx ?_;rw [hE,hv2,if_pos (by rw [hZ];simp),if_pos (by rw [hZ];simp),hZ]
  refine s_do (gtS gt9)<|mv' lk7 (ptS pt10)<|s_do (gtS gt9)<|?_
  refine V' ((by first | exact v_lenL (lkS lk10) | exact v_lenO (lkS lk10))) (ptS pt11) ?_
  refine s_do (gtS gt9)<|V' (v_eql (lkS lk11) lki) (ptS pt12)<|V' (v_pickF (lkS lk9) (lkS lk12)) (ptS pt13)<|sn'<|?_
  refine cd' (lkS lk13) (fun hc7=>?_) (fun hc7=>?_)
  ·have hZ:zoneE z[i3]=1:=if_pos (.inr (by omega))
   refine wr'<|mv' lki pt2<|sn'<|w_rets<|r_thn<|r_blk<|r_thn<|r_thn<|r_blk<|r_thn<|w_ret (rs1 (rr_t gt2))<|rT'<|?_
   refine ivx ?_;rw [hE,hv2,if_pos (by rw [hZ];simp),if_pos (by rw [hZ];simp),hZ]
  have hZ:zoneE z[i3]=erasE z[i3].2:=if_neg (by rintro (h1 | h1);exact h1 (by simpa using hg79);omega)
  refine w_skip<|n_seq<|wr'<|mv' lki pt8<|sn'<|w_block<|?_
  refine w_lp (ι:=Nat) (fun (i4:Nat)=>[(8,iv (i4:Int)),(2,.any),(9,.any)]++rn' 84 19) (fun (i4:Nat)=>[]) (fun (i4:Nat)=>i4≤(z[i3]).2.length∧erasE (z[i3]).2=erasE ((z[i3]).2.drop i4)) (fun (i4:Nat)=>(z[i3]).2.length-i4) (0) (by exact ⟨Nat.zero_le _,rfl⟩) ?_
  rintro i4 hi4
  try simp only [setsT,setsE,z',s',rn',la',ln',Nat.reduceAdd]
  obtain ⟨hx1,hx2⟩:=hi4
  refine w_seq<|wr'<|mv' lk8 (ptS pt14)<|mv' lk7 (ptS pt15)<|?_
  refine V' ((by first | exact v_lenL (lkS lk15) | exact v_lenO (lkS lk15))) (ptS pt16) ?_
  refine V' (v_lss (lkS lk14) (lkS lk16)) (ptS pt17)<|sn'<|?_
  refine cd' (lkS lk17) (fun hc8=>?_) (fun hc8=>?_)
  ·have hk8:i4<(z[i3]).2.length:=by omega
   rw [erasE_at hk8] at hx2
   have ho8:=ho6.2 _ (List.getElem_mem hk8)
   refine w_skip<|n_seq<|w_seq<|w_block<|wr'<|mv' lk7 (ptS pt20)<|mv' lk8 (ptS pt21)<|?_
   refine V' (v_iaR (lkS lk20) (lkS lk21) era_len1 (nb' rfl) (by first | rfl | omega) (by omega) (by first | rfl | omega) rfl) (ptS pt22) ?_
   refine V' (v_loadrA (lkS lk22) SrcE_tk_10 rfl) (ptS pt23)<|mv' lk8 (ptS pt24)<|mv' lk7 (ptS pt25)<|?_
   refine V' ((by first | exact v_lenL (lkS lk25) | exact v_lenO (lkS lk25))) (ptS pt26) ?_
   refine V' (v_sub (lkS lk26) lki (by omega) (by omega)) (ptS pt27) ?_
   refine V' (v_eql (lkS lk24) (lkS lk27)) (ptS pt28)<|s_callp (mp1 (lkS lk23) (mp1 (lkS lk28) mp0)) (rcheckEra_a (x:=(z[i3]).2[i4]) (last:=decide ((i4:Int)=((z[i3]).2.length:Int)-1)) ho8) (ptS pt29)<|mv' (lkS lk29) pt9<|sn'<|wr'<|mv' lk9 (ptS pt30)<|V' (v_neq (lkS lk30) lki) (ptS pt31)<|sn'<|?_
   refine cd' (lkS lk31) (fun hc9=>?_) (fun hc9=>?_)
   ·rw [if_pos hc9] at hx2
    refine wr'<|mv' lk9 (ptS pt32)<|mv' (lkS lk32) pt2<|sn'<|w_rets<|r_blk<|r_thn<|r_thn<|r_blk<|r_blk<|r_thn<|r_thn<|?_
    refine r_blk<|r_thn<|w_ret (rs1 (rr_t gt2))<|rT'<|?_
    refine ivx ?_;rw [hE,hv2,hZ,hx2,if_pos hc9,if_pos hc9]
   rw [if_neg hc9] at hx2
   refine w_skip<|n_blk<|n_seq<|w_reg<|mv' lk8 (ptS pt18)<|?_
   refine V' (v_add (lkS lk18) lki (by omega) (by omega)) (ptS pt19) ?_
   refine mv' (lkS lk19) pt8<|s_nil<|n_thn<|?_
   refine lT' (i4+1) (by (try dsimp only);exact ⟨by omega,hx2⟩)
  rw [List.drop_of_length_le (by omega)] at hx2
  rw [hZ,hx2,if_neg (by simp [erasE])] at hv2
  refine w_exit<|x_thn<|x_thn<|x_blk<|n_blk<|n_seq<|w_reg<|mv' lk6 pt63<|?_
  refine V' (v_add lk63 lki (by omega) (by omega)) pt64 ?_
  refine mv' lk64 pt6<|s_nil<|n_thn<|?_
  refine lT' (i3+1) (by (try dsimp only);exact ⟨by omega,hv2⟩)
 rw [List.drop_of_length_le (by omega)] at hv2
 rw [hv2,if_neg (by simp [firstX])] at hE
 refine w_exit<|x_thn<|x_thn<|x_blk<|n_seq<|w_seq<|wr'<|mv' lki pt10<|sn'<|w_block<|?_
 refine w_lp (ι:=Nat) (fun (i5:Nat)=>[(10,iv (i5:Int)),(2,.any)]++rn' 103 25) (fun (i5:Nat)=>[]) (fun (i5:Nat)=>i5≤l.length∧firstX linkE l=firstX linkE (l.drop i5)) (fun (i5:Nat)=>l.length-i5) (0) (by exact ⟨Nat.zero_le _,rfl⟩) ?_
 rintro i5 hi5
 try simp only [setsT,setsE,z',s',rn',la',ln',Nat.reduceAdd]
 obtain ⟨hy1,hy2⟩:=hi5
 refine w_seq<|wr'<|mv' lk10 (ptS pt33)<|V' (v_fap0 lk1) (ptS pt34)<|V' (v_loadp (lkS lk34) (hga hn rfl) gt2) (ptS pt35)<|V' (v_lenL (lkS lk35)) (ptS pt36)<|V' (v_lss (lkS lk33) (lkS lk36)) (ptS pt37)<|sn'<|?_
 refine cd' (lkS lk37) (fun hc10=>?_) (fun hc10=>?_)
 ·have hk10:i5<l.length:=by omega
  rw [firstX_at hk10] at hy2
  have ho10:=hok.2.2 _ (List.getElem_mem hk10)
  refine w_skip<|n_seq<|w_seq<|w_block<|wr'<|V' (v_fap0 lk1) (ptS pt40)<|V' (v_loadp (lkS lk40) (hga hn rfl) gt2) (ptS pt41)<|mv' lk10 (ptS pt42)<|?_
  refine V' (v_iaR (lkS lk41) (lkS lk42) lnk_len1 (nb' rfl) (by first | rfl | omega) (by omega) (by first | rfl | omega) rfl) (ptS pt43) ?_
  refine V' (v_far (lkS lk43) dp0) (ptS pt44)<|V' (v_loadr (lkS lk44) gt0) (ptS pt45)<|s_callp (mp1 (lkS lk45) mp0) (risName_a ho10.1) (ptS pt46)<|V' (v_notB (lkS lk46)) (ptS pt47)<|mv' (lkS lk47) (ptS pt48)<|?_
  refine s_splitB (gtS gt48) (ptS pt48) (ptS pt48) (fun hg118=>?_) (fun hg118=>?_)
  ·have hK:linkE l[i5]=1:=by unfold linkE;simp_all
   refine s_no (gtS gt48) (ptS pt49)<|s_no (gtS gt48) (ptS pt50)<|s_no (gtS gt48) (ptS pt51)<|s_no (gtS gt48) (ptS pt52)<|s_no (gtS gt48) (ptS pt53)<|s_no (gtS gt48) (ptS pt54)<|s_no (gtS gt48) (ptS pt55)<|s_no (gtS gt48) (ptS pt56)<|V' (v_pickT (lkS lk48) lkb) (ptS pt57)<|sn'<|w_condT (lkS lk57)<|wr'<|?_
   refine mv' lki pt2<|sn'<|w_rets<|r_blk<|r_thn<|r_thn<|r_blk<|r_thn<|w_ret (rs1 (rr_t gt2))<|rT'<|?_
   refine ivx ?_;rw [hE,hy2,if_pos (by rw [hK];simp),hK]
  refine s_do (gtS gt48)<|V' (v_fap0 lk1) (ptS pt49)<|s_do (gtS gt48)<|V' (v_loadp (lkS lk49) (hga hn rfl) gt2) (ptS pt50)<|s_do (gtS gt48)<|mv' lk10 (ptS pt51)<|s_do (gtS gt48)<|?_
  refine V' (v_iaR (lkS lk50) (lkS lk51) lnk_len1 (nb' rfl) (by first | rfl | omega) (by omega) (by first | rfl | omega) rfl) (ptS pt52) ?_
  refine s_do (gtS gt48)<|V' (v_far (lkS lk52) dp1) (ptS pt53)<|s_do (gtS gt48)<|V' (v_loadr (lkS lk53) gt0) (ptS pt54)<|s_do (gtS gt48)<|s_callp (mp1 (lkS lk54) mp0) (risName_a ho10.2) (ptS pt55)<|s_do (gtS gt48)<|V' (v_notB (lkS lk55)) (ptS pt56)<|V' (v_pickF (lkS lk48) (lkS lk56)) (ptS pt57)<|sn'<|?_
  refine w_condB (lkS lk57) (fun hc11=>?_) (fun hc11=>?_)
  ·have hK:linkE l[i5]=1:=by unfold linkE;simp_all
   refine wr'<|mv' lki pt2<|sn'<|w_rets<|r_blk<|r_thn<|r_thn<|r_blk<|r_thn<|w_ret (rs1 (rr_t gt2))<|rT'<|?_
   refine ivx ?_;rw [hE,hy2,if_pos (by rw [hK];simp),hK]
  have hK:linkE l[i5]=0:=by unfold linkE;simp_all
  rw [hK,if_neg (by simp)] at hy2
  refine w_skip<|n_blk<|n_seq<|w_reg<|mv' lk10 (ptS pt38)<|?_
  refine V' (v_add (lkS lk38) lki (by omega) (by omega)) (ptS pt39) ?_
  refine mv' (lkS lk39) pt10<|s_nil<|n_thn<|?_
  refine lT' (i5+1) (by (try dsimp only);exact ⟨by omega,hy2⟩)
 rw [List.drop_of_length_le (by omega)] at hy2
 refine w_exit<|x_thn<|x_thn<|x_blk<|n_seq<|wr'<|mv' lki pt2<|sn'<|w_rets<|w_ret (rs1 (rr_t gt2))<|rT'<|?_
 refine ivx ?_;rw [hE,hy2];rfl
end Go.Proofs.YtgjchdhdopgkkaaGreatDoor
end
section
namespace Go.Proofs.YtgjchdhdopgkkaaGreatDoor
open Go.Ab
abbrev PS:=Src×Bool
def openE (x:Era):Bool:=x.2.2.2.2.1
def addEra:List Zon→Era→List Zon
 | [],_=>[]
 | [z],x=>[(z.1,z.2++[x])]
 | z::y::l,x=>z::addEra (y::l) x
theorem addEra_snoc (l:List Zon) (z:Zon) (x:Era):addEra (l++[z]) x=l++[(z.1,z.2++[x])]:=by
 induction l with
 | nil=>rfl
 | cons a l ih =>
  cases l with
  | nil=>rfl
  | cons b l=>exact congrArg (a :: ·) ih
def ruleA:ByteArray:=bA [82,117,108,101]
def zoneA:ByteArray:=bA [90,111,110,101]
def linkA:ByteArray:=bA [76,105,110,107]
def withEra (p:Src) (x:Era):PS:=((p.1,addEra p.2.1 x,p.2.2),!openE x)
def bodyR (p:PS):RM PS :=
 if p.2=true then bindR rEra fun x=>retR (withEra p.1 x)
 else bindR rNext fun w =>
  if w=ruleA then bindR rRule fun r=>retR ((p.1.1++[r],p.1.2.1,p.1.2.2),false)
  else if w=zoneA then bindR rName fun n=>bindR rEra fun x=>retR (withEra (p.1.1,p.1.2.1++[(n,[])],p.1.2.2) x)
  else if w=linkA then bindR rName fun a=>bindR rName fun b=>retR ((p.1.1,p.1.2.1,p.1.2.2++[(a,b)]),false)
  else liftR none
def bodyT (p:PS):TS→PS×TS :=
 if p.2=true then bind2 tEra fun x=>ret2 (withEra p.1 x)
 else bind2 tNext fun w =>
  if w=ruleA then bind2 tRule fun r=>ret2 ((p.1.1++[r],p.1.2.1,p.1.2.2),false)
  else if w=zoneA then bind2 tName fun n=>bind2 tEra fun x=>ret2 (withEra (p.1.1,p.1.2.1++[(n,[])],p.1.2.2) x)
  else if w=linkA then bind2 tName fun a=>bind2 tName fun b=>ret2 ((p.1.1,p.1.2.1,p.1.2.2++[(a,b)]),false)
  else fun t=>(p,bad t)
theorem agr_body (p:PS):Agr (bodyT p) (bodyR p):=by
 unfold bodyT bodyR
 split
 ·exact agr_era.bind fun x=>Agr.ret _
 ·refine agr_next.bind fun w=>?_
  split
  ·exact agr_rule.bind fun r=>Agr.ret _
  ·split
   ·exact agr_name.bind fun n=>agr_era.bind fun x=>Agr.ret _
   ·split
    ·exact agr_name.bind fun a=>agr_name.bind fun b=>Agr.ret _
    ·exact Agr.lift (fun t h=>rfl) (fun l=>rfl)
def lineR (p:PS) (x:Ln):Option PS:=if x.2.1≠p.2 then none else match bodyR p x.2.2 with
 | some (q,[])=>some q
 | _=>none
def badT (p:PS) (x:Ln):Prop:=(bodyT p (x.2.2,false)).2.2=true∨(bodyT p (x.2.2,false)).2.1≠[]∨x.2.1≠p.2
theorem lineR_bad {p:PS}{x:Ln}(h:badT p x):lineR p x=none:=by
 unfold lineR
 by_cases hi:x.2.1=p.2
 ·rw [if_neg (by simp [hi])]
  have hA:=(agr_body p x.2.2).2
  unfold badT at h
  revert hA
  cases hb:bodyR p x.2.2 with
  | none=>intro;rfl
  | some q =>
   obtain ⟨q,l⟩:=q
   intro hA
   simp only at hA
   rw [hA] at h
   cases l with
   | nil=>simp [hi] at h
   | cons c l=>rfl
 ·rw [if_pos hi]
theorem lineR_ok {p:PS}{x:Ln}(h:¬badT p x):lineR p x=some (bodyT p (x.2.2,false)).1:=by
 unfold lineR
 unfold badT at h
 simp only [not_or,Decidable.not_not] at h
 obtain ⟨h1,h2,h3⟩:=h
 rw [if_neg (by simp [h3])]
 have hA:=(agr_body p x.2.2).2
 revert hA
 cases hb:bodyR p x.2.2 with
 | none=>intro hA;exact absurd hA h1
 | some q =>
  obtain ⟨q,l⟩:=q
  intro hA
  simp only at hA
  rw [hA] at h2 ⊢
  simp only at h2
  subst h2
  rfl
def runR:PS→List Ln→PS ⊕ Int
 | p,[]=>.inl p
 | p,x::l=>match lineR p x with
  | none=>.inr x.1
  | some q=>runR q l
def srcZ:Src:=([],[],[])
def endP (p:PS):Src×Int×Int:=if p.2=true then (srcZ,0,1) else if checkE p.1≠0 then (srcZ,0,checkE p.1) else (p.1,0,0)
def outP (l:List Ln):Src×Int×Int:=match runR (srcZ,false) l with
 | .inr n=>(srcZ,n,1)
 | .inl p=>endP p
def parseV (s:ByteArray):Src×Int×Int:=if (splitL s).2.2≠0 then (srcZ,(splitL s).2.1,(splitL s).2.2) else outP (splitL s).1
theorem runR_at {l:List Ln}{k:Nat}(h:k<l.length) (p:PS):runR p (l.drop k)=match lineR p l[k] with
  | none=>.inr l[k].1
  | some q=>runR q (l.drop (k+1)):=by
 rw [List.drop_eq_getElem_cons h,runR]
end Go.Proofs.YtgjchdhdopgkkaaGreatDoor
end
section
namespace Go.Proofs.YtgjchdhdopgkkaaGreatDoor
open Go.Ab Go.RowKit Civ
attribute [local simp] str_lt
section
theorem SrcU_sc1_1 {a0 a1 c0:AV}{l:List AV}:setCells (a0::a1::l) 1 [c0]=a0::c0::l:=rfl
theorem SrcU_sc0_1 {a0 c0:AV}{l:List AV}:setCells (a0::l) 0 [c0]=c0::l:=rfl
end
def c49:AC:=(.seq (.reg [Oo 2 (.mv (.const (.string ⟨#[]⟩)))]) (.seq (.seq (.reg [Mv 4 0,Nk 5 4,Fa 6 1 5,Ld 7 6,Mv 8 7,Of 9 8 (.mv (.tmp 0)),Of 10 8 (.nck (.tmp 9)),Of 11 8 (.fa 0 (.tmp 10)),Of 12 8 (.load false 1 (.tmp 11)),Of 13 8 (.len false (.tmp 12)),Of 14 8 (.bin .eql (.tmp 13) (Ci 0)),Oo 15 (.pick (.tmp 8) (.const (.bool true)) (.tmp 14))]) (.cond (.tmp 15) (.seq (.reg [Mv 16 0,Nk 17 16,Fa 18 1 17,⟨none,none,(.store 1 (.tmp 18) (.const (.bool true)))⟩]) (.seq (.reg [Oo 2 (.mv (.const (.string ⟨#[]⟩)))]) .ret)) .skip)) (.seq (.reg [Mv 19 0,Nk 20 19,Fa 21 0 20,Ld 22 21,Oo 23 (.ia 1 (.tmp 22) (Ci 0)),Ld 24 23,Mv 3 24]) (.seq (.reg [Mv 25 0,Mv 26 0,Nk 27 26,Fa 28 0 27,Ld 29 28,Oo 30 (.slc 1 (.tmp 29) (some (Ci 1)) none none),Nk 31 25,Fa 32 0 31,⟨none,none,(.store 1 (.tmp 32) (.tmp 30))⟩]) (.seq (.reg [Mv 33 3,Mv 2 33]) .ret)))))
theorem k49:compF Tryz.prog 49=some ⟨c49,[(.tmp 2)],34⟩:=by kernel_rfl
def c88:AC:=(.seq (.reg [Oo 8 (.mv (Ci 0))]) (.seq (.seq (.reg [Mv 11 1,Oo 12 (.len true (.tmp 11)),Mv 13 2,Mv 14 3,Oo 15 (.call (.func 68) [(.tmp 12),(.tmp 13),(.tmp 14)]),Oo 16 (.un .not (.tmp 15))]) (.cond (.tmp 16) (.seq (.reg [Mv 17 0,Nk 18 17,Fa 19 1 18,⟨none,none,(.store 1 (.tmp 19) (.const (.bool true)))⟩]) (.seq (.reg [Oo 8 (.mv (Ci 0))]) .ret)) .skip)) (.seq (.reg [Oo 9 (.mv (Ci 0))]) (.seq (.seq (.reg [Oo 10 (.mv (Ci 0))]) (.block 0 (.loop (.seq (.seq (.reg [Mv 20 10,Mv 21 1,Oo 22 (.len true (.tmp 21)),Oo 23 (.bin .lss (.tmp 20) (.tmp 22))]) (.cond (.tmp 23) .skip (.exit 0))) (.seq (.block 1 (.seq (.seq (.reg [Mv 26 1,Mv 27 10,Oo 28 (.ix (.tmp 26) (.tmp 27)),Oo 29 (.call (.func 71) [(.tmp 28)]),Oo 30 (.un .not (.tmp 29))]) (.cond (.tmp 30) (.seq (.reg [Mv 31 0,Nk 32 31,Fa 33 1 32,⟨none,none,(.store 1 (.tmp 33) (.const (.bool true)))⟩]) (.seq (.reg [Oo 8 (.mv (Ci 0))]) .ret)) .skip)) (.reg [Mv 34 9,Oo 35 (.bin .mul (Ci 10) (.tmp 34)),Mv 36 1,Mv 37 10,Oo 38 (.ix (.tmp 36) (.tmp 37)),Oo 39 (.cvi .i64 (.tmp 38)),Oo 40 (.bin .add (.tmp 35) (.tmp 39)),Oo 41 (.bin .sub (.tmp 40) (Ci 48)),Mv 9 41]))) (.reg [Mv 24 10,Oo 25 (.bin .add (.tmp 24) (Ci 1)),Mv 10 25])))))) (.seq (.reg [Mv 42 9,Mv 8 42]) .ret)))))
theorem k88:compF Tryz.prog 88=some ⟨c88,[(.tmp 8)],43⟩:=by kernel_rfl
def c52:AC:=(.seq (.reg [Oo 2 (.mv (.const (.string ⟨#[]⟩)))]) (.seq (.reg [Mv 4 0,Oo 5 (.call (.func 49) [(.tmp 4)]),Mv 3 5]) (.seq (.seq (.reg [Mv 6 3,Oo 7 (.call (.func 25) [(.tmp 6)]),Oo 8 (.un .not (.tmp 7))]) (.cond (.tmp 8) (.reg [Mv 9 0,Nk 10 9,Fa 11 1 10,⟨none,none,(.store 1 (.tmp 11) (.const (.bool true)))⟩]) .skip)) (.seq (.reg [Mv 12 3,Mv 2 12]) .ret))))
theorem k52:compF Tryz.prog 52=some ⟨c52,[(.tmp 2)],13⟩:=by kernel_rfl
def c129:AC:=(.seq (.reg [Oo 4 (.mv (Ci 0))]) (.seq (.seq (.reg [Oo 5 (.mv (Ci 0))]) (.block 0 (.loop (.seq (.seq (.reg [Mv 6 5,Oo 7 (.bin .add (.tmp 6) (Ci 3)),Mv 8 0,Oo 9 (.len true (.tmp 8)),Oo 10 (.bin .leq (.tmp 7) (.tmp 9)),Mv 11 10,Ot 12 11 (.mv (.tmp 1)),Ot 13 11 (.len true (.tmp 12)),Ot 14 11 (.bin .eql (.tmp 13) (Ci 3)),Oo 15 (.pick (.tmp 11) (.tmp 14) (.const (.bool false)))]) (.cond (.tmp 15) .skip (.exit 0))) (.seq (.block 1 (.seq (.reg [Mv 18 0,Mv 19 5,Mv 20 5,Oo 21 (.bin .add (.tmp 20) (Ci 3)),Oo 22 (.sls (.tmp 18) (some (.tmp 19)) (some (.tmp 21))),Mv 23 1,Oo 24 (.bin .eql (.tmp 22) (.tmp 23))]) (.cond (.tmp 24) (.seq (.reg [Mv 25 5,Oo 26 (.bin .quo (.tmp 25) (Ci 3)),Mv 4 26]) .ret) .skip))) (.reg [Mv 16 5,Oo 17 (.bin .add (.tmp 16) (Ci 3)),Mv 5 17])))))) (.seq (.reg [Oo 4 (.mv (.const (.int .i64 (-1))))]) .ret)))
theorem k129:compF Tryz.prog 129=some ⟨c129,[(.tmp 4)],27⟩:=by kernel_rfl
def c89:AC:=(.seq (.reg [Oo 2 (.mv (Ci 0))]) (.seq (.reg [Mv 4 0,Oo 5 (.call (.func 49) [(.tmp 4)]),Oo 6 (.call (.func 129) [(.const (.string ⟨#[74,97,110,70,101,98,77,97,114,65,112,114,77,97,121,74,117,110,74,117,108,65,117,103,83,101,112,79,99,116,78,111,118,68,101,99]⟩)),(.tmp 5)]),Mv 3 6]) (.seq (.seq (.reg [Mv 7 3,Oo 8 (.bin .lss (.tmp 7) (Ci 0))]) (.cond (.tmp 8) (.reg [Mv 9 0,Nk 10 9,Fa 11 1 10,⟨none,none,(.store 1 (.tmp 11) (.const (.bool true)))⟩]) .skip)) (.seq (.reg [Mv 12 3,Oo 13 (.bin .add (.tmp 12) (Ci 1)),Mv 2 13]) .ret))))
theorem k89:compF Tryz.prog 89=some ⟨c89,[(.tmp 2)],14⟩:=by kernel_rfl
def c130:AC:=(.seq (.reg [Oo 4 (.mv (Ci 0))]) (.seq (.reg [Mv 6 1,Oo 7 (.call (.func 129) [(.const (.string ⟨#[83,117,110,77,111,110,84,117,101,87,101,100,84,104,117,70,114,105,83,97,116]⟩)),(.tmp 6)]),Mv 5 7]) (.seq (.seq (.reg [Mv 8 5,Oo 9 (.bin .lss (.tmp 8) (Ci 0))]) (.cond (.tmp 9) (.seq (.reg [Mv 10 0,Nk 11 10,Fa 12 1 11,⟨none,none,(.store 1 (.tmp 12) (.const (.bool true)))⟩]) (.seq (.reg [Oo 4 (.mv (Ci 0))]) .ret)) .skip)) (.seq (.reg [Mv 13 5,Mv 4 13]) .ret))))
theorem k130:compF Tryz.prog 130=some ⟨c130,[(.tmp 4)],14⟩:=by kernel_rfl
def c128:AC:=(.seq (.reg [Oo 4 (.mv (Ci 0))]) (.seq (.reg [Mv 6 0,Mv 7 1,Oo 8 (.call (.func 88) [(.tmp 6),(.tmp 7),(Ci 2),(Ci 2)]),Mv 5 8]) (.seq (.seq (.reg [Mv 9 5,Oo 10 (.bin .gtr (.tmp 9) (Ci 59))]) (.cond (.tmp 10) (.reg [Mv 11 0,Nk 12 11,Fa 13 1 12,⟨none,none,(.store 1 (.tmp 13) (.const (.bool true)))⟩]) .skip)) (.seq (.reg [Mv 14 5,Mv 4 14]) .ret))))
theorem k128:compF Tryz.prog 128=some ⟨c128,[(.tmp 4)],15⟩:=by kernel_rfl
abbrev takE (t:TS):Ent:=.mk 0 90 2 [.sl t.1.length 1 false (rows strC t.1),bv t.2]
theorem takE_ltb {l:List ByteArray}{b:Bool}{n:Nat}:(Ent.mk 0 90 2 [.sl l.length 1 false (rows strC l),.v (.bool b)]).lt n=true:=by simp [Ent.lt,AV.lt,AV.ltL,str_lt]
theorem tnext_b {l:List ByteArray}{b:Bool}{id:Nat}{h:AH}(h1:h[id]?=some (takE (l,b))):ACalls Tryz.prog 49 [.ptr id 0 0] h fun x h'=>x = .ret (sv (tNext (l,b)).1)∧h'=h.set id (takE (tNext (l,b)).2):=by
 have hid:id<h.length:=(List.getElem?_eq_some_iff.1 h1).1
 refine tJ' k49 fun N hn hlt hlA hbd=>?_
 simp only [tA',AV.bdL,AV.bd,and_true,true_and] at hbd ⊢
 refine aw_heap (h1:=h.set id (.mk 0 90 2 [.sl l.length 1 false (rows strC l),bv b])++[]) (by rw [hx_self h1]) ?_
 refine wr'<|mv' lks pt2<|sn'<|w_seq<|wr'<|mv' lk0 pt4<|V' (v_nckp lk4) pt5<|V' (v_fap0 lk5) pt6<|V' (v_loadp lk6 (hx_at hid) gt1) pt7<|mv' lk7 pt8<|?_
 refine s_splitB gt8 pt8 pt8 (fun hg8=>?_) (fun hg8=>?_)
 ·have hb:b=true:=hg8
  have hT:tNext (l,b)=(⟨#[]⟩,l,true):=if_pos (.inl hb)
  refine s_no gt8 pt9<|s_no gt8 pt10<|s_no gt8 pt11<|s_no gt8 pt12<|s_no gt8 pt13<|s_no gt8 pt14<|V' (v_pickT lk8 lkb) pt15<|sn'<|w_condT lk15<|wr'<|mv' lk0 pt16<|V' (v_nckp lk16) pt17<|?_
  refine V' (v_fap0 lk17) pt18<|E' (e_store lk18 (cvl lkb rfl) (hx_at hid) rfl (nb' rfl) rfl SrcU_sc1_1 (hx_set hid)) ptn<|sn'<|wr'<|mv' lks pt2<|sn'<|w_rets<|r_thn<|w_ret (rs1 (rr_t gt2))<|?_
  exact ⟨_,_,rfl,hx_len hn,hx_lt hlt takE_ltb,rfl,by rw [hT],by rw [hT]⟩
 have hb:b=false:=by simpa using hg8
 refine s_do gt8<|mv' lk0 pt9<|s_do gt8<|V' (v_nckp lk9) pt10<|s_do gt8<|V' (v_fap0 lk10) pt11<|s_do gt8<|V' (v_loadp lk11 (hx_at hid) gt0) pt12<|s_do gt8<|V' (v_lenL lk12) pt13<|s_do gt8<|V' (v_eql lk13 lki) pt14<|V' (v_pickF lk8 lk14) pt15<|s_nil<|?_
 refine n_seq ?_
 refine cd' lk15 (fun hc1=>?_) (fun hc1=>?_)
 ·have hT:tNext (l,b)=(⟨#[]⟩,l,true):=if_pos (.inr (List.eq_nil_of_length_eq_zero (show l.length=0 by have hc1':(l.length:Int)=0:=hc1;omega)))
  refine wr'<|mv' lk0 pt16<|V' (v_nckp lk16) pt17<|V' (v_fap0 lk17) pt18<|E' (e_store lk18 (cvl lkb rfl) (hx_at hid) rfl (nb' rfl) rfl SrcU_sc1_1 (hx_set hid)) ptn<|sn'<|wr'<|mv' lks pt2<|sn'<|w_rets<|?_
  refine r_thn<|w_ret (rs1 (rr_t gt2))<|?_
  exact ⟨_,_,rfl,hx_len hn,hx_lt hlt takE_ltb,rfl,by rw [hT],by rw [hT]⟩
 have hlen:0<l.length:=by have hc1':¬(l.length:Int)=0:=hc1;omega
 have hne:l≠[]:=by intro e;rw [e] at hlen;cases hlen
 have hT:tNext (l,b)=(l[0],l.drop 1,b):=by
  cases l with
  | nil=>exact absurd rfl hne
  | cons a l=>subst hb;rfl
 refine w_skip<|n_seq<|wr'<|mv' lk0 pt19<|V' (v_nckp lk19) pt20<|V' (v_fap0 lk20) pt21<|V' (v_loadp lk21 (hx_at hid) gt0) pt22<|?_
 refine V' (v_iaR (k:=0) lk22 lki str_len1 (nb' rfl) (by first | rfl | omega) (by omega) (by first | rfl | omega) rfl) pt23 ?_
 refine V' (v_loadr lk23 gt0) pt24<|mv' lk24 pt3<|sn'<|wr'<|mv' lk0 pt25<|mv' lk0 pt26<|V' (v_nckp lk26) pt27<|V' (v_fap0 lk27) pt28<|V' (v_loadp lk28 (hx_at hid) gt0) pt29<|?_
 refine V' (v_lo (k:=1) lk29 lki str_len1 (by first | rfl | omega) (by omega) (by first | rfl | omega)) pt30 ?_
 refine V' (v_nckp lk25) pt31<|V' (v_fap0 lk31) pt32<|E' (e_store lk32 (cvl lk30 rfl) (hx_at hid) rfl (nb' rfl) rfl SrcU_sc0_1 (hx_set hid)) ptn<|sn'<|wr'<|mv' lk3 pt33<|mv' lk33 pt2<|sn'<|w_rets<|w_ret (rs1 (rr_t gt2))<|?_
 exact ⟨_,_,rfl,hx_len hn,hx_lt hlt takE_ltb,rfl,by rw [hT],by rw [hT]⟩
theorem tnext_a {t:TS}{id:Nat}{h:AH}(h1:h[id]?=some (takE t)):ACalls Tryz.prog 49 [.ptr id 0 0] h fun x h'=>x = .ret (sv (tNext t).1)∧h'=h.set id (takE (tNext t).2):=tnext_b h1
theorem digB_bd {n:Int}(h:digB n=true):48≤n∧n≤57:=by unfold digB at h;simpa using h
theorem tnum_a {s:ByteArray}{a b:Int}{t:TS}{id:Nat}{h:AH}(hb4:b≤4) (h1:h[id]?=some (takE t)):ACalls Tryz.prog 88 [.ptr id 0 0,sv s,iv a,iv b] h fun x h'=>x = .ret (iv (tNum s a b t).1)∧h'=h.set id (takE (tNum s a b t).2):=by
 obtain ⟨l,bd⟩:=t
 have hid:id<h.length:=(List.getElem?_eq_some_iff.1 h1).1
 refine tJ' k88 fun N hn hlt hlA hbd=>?_
 simp only [tA',AV.bdL,AV.bd,and_true,true_and] at hbd ⊢
 refine aw_heap (h1:=h.set id (takE (l,bd))++[]) (by rw [hx_self h1]) ?_
 refine wr'<|mv' lki pt8<|sn'<|w_seq<|wr'<|mv' lk1 pt11<|V' (v_lenS lk11) pt12<|mv' lk2 pt13<|mv' lk3 pt14<|s_callp (mp1 lk12 (mp1 lk13 (mp1 lk14 mp0))) (rlbetween_a) pt15<|V' (v_notB lk15) pt16<|?_
 refine sn' ?_
 refine w_condB lk16 (fun hc1=>?_) (fun hc1=>?_)
 ·have hw:¬wi s.size a b=true:=by simpa using hc1
  have hT:tNum s a b (l,bd)=(0,l,true):=tNum_none (if_neg (fun e=>hw e.1))
  refine wr'<|mv' lk0 pt17<|V' (v_nckp lk17) pt18<|V' (v_fap0 lk18) pt19<|E' (e_store lk19 (cvl lkb rfl) (hx_at hid) rfl (nb' rfl) rfl SrcU_sc1_1 (hx_set hid)) ptn<|sn'<|wr'<|mv' lki pt8<|sn'<|w_rets<|?_
  refine r_thn<|w_ret (rs1 (rr_t gt8))<|?_
  exact ⟨_,_,rfl,hx_len hn,hx_lt hlt takE_ltb,rfl,by rw [hT],by rw [hT]⟩
 have hw:wi s.size a b=true:=by simpa using hc1
 have hz:s.size≤4:=by unfold wi at hw;simp at hw;omega
 refine w_skip<|n_seq<|wr'<|mv' lki pt9<|sn'<|w_seq<|wr'<|mv' lki pt10<|sn'<|w_block<|?_
 refine w_lp (ι:=Nat×Int) (fun (x_:Nat×Int)=>match x_ with | ⟨k,n⟩=>[(9,iv n),(10,iv (k:Int)),(8,.any)]++rn' 20 22) (fun (x_:Nat×Int)=>match x_ with | ⟨k,n⟩=>[]) (fun (x_:Nat×Int)=>match x_ with | ⟨k,n⟩=>k≤s.size∧0≤n∧n<10 ^ k∧decL 0 (aB s)=decL n ((aB s).drop k) ∧ ∀ j (hj:j<s.size),j<k→digB s[j].toNat=true) (fun (x_:Nat×Int)=>match x_ with | ⟨k,n⟩=>s.size-k) (⟨0,0⟩) (by exact ⟨by omega,by omega,by decide,rfl,fun j hj h0=>absurd h0 (by omega)⟩) ?_
 rintro ⟨k,n⟩ hi1
 try simp only [setsT,setsE,z',s',rn',la',ln',Nat.reduceAdd]
 obtain ⟨hk1,hk2,hk3,hk4,hk5⟩:=hi1
 refine w_seq<|wr'<|mv' lk10 pt20<|mv' lk1 pt21<|V' (v_lenS lk21) pt22<|V' (v_lss lk20 lk22) pt23<|sn'<|?_
 refine cd' lk23 (fun hc2=>?_) (fun hc2=>?_)
 ·have hk:k<s.size:=by omega
  have hbb:=byte_bd s k
  have hbk:byteAt s k=s[k]:=byteAt_get hk
  have hp:(10:Int) ^ k≤1000:=by
   have:k=0∨k=1∨k=2∨k=3:=by omega
   rcases this with rfl | rfl | rfl | rfl <;> decide
  refine w_skip<|n_seq<|w_seq<|w_block<|w_seq<|wr'<|mv' lk1 pt26<|mv' lk10 pt27<|?_
  refine V' (v_ix lk26 lk27 (by omega) (by omega)) pt28 ?_
  refine s_callp (mp1 lk28 mp0) (risDigit_a hbb.1 hbb.2) pt29<|V' (v_notB lk29) pt30<|sn'<|?_
  refine w_condB lk30 (fun hc3=>?_) (fun hc3=>?_)
  ·have hd:digB s[k].toNat=false:=by rw [←hbk];simpa using hc3
   have hT:tNum s a b (l,bd)=(0,l,true):=tNum_none (if_neg (fun e=>by have:=allB_no hk hd;rw [e.2] at this;cases this))
   refine wr'<|mv' lk0 pt31<|V' (v_nckp lk31) pt32<|V' (v_fap0 lk32) pt33<|E' (e_store lk33 (cvl lkb rfl) (hx_at hid) rfl (nb' rfl) rfl SrcU_sc1_1 (hx_set hid)) ptn<|sn'<|wr'<|mv' lki pt8<|sn'<|w_rets<|?_
   refine r_thn<|r_blk<|r_thn<|r_thn<|r_blk<|r_thn<|w_ret (rs1 (rr_t gt8))<|?_
   exact ⟨_,_,rfl,hx_len hn,hx_lt hlt takE_ltb,rfl,by rw [hT],by rw [hT]⟩
  have hd:digB (byteAt s k).toNat=true:=by simpa using hc3
  have hdb:48≤((byteAt s (k:Int).toNat).toNat:Int)∧((byteAt s (k:Int).toNat).toNat:Int)≤57:=digB_bd hd
  have hdb2:=digB_bd hd
  refine w_skip<|n_seq<|w_reg<|mv' lk9 pt34<|?_
  refine V' (v_mul lki lk34 (by omega) (by omega)) pt35 ?_
  refine mv' lk1 pt36<|mv' lk10 pt37<|?_
  refine V' (v_ix lk36 lk37 (by omega) (by omega)) pt38 ?_
  refine V' (v_cvi64 lk38 (by omega) (by omega)) pt39 ?_
  refine V' (v_add lk35 lk39 (by omega) (by omega)) pt40 ?_
  refine V' (v_sub lk40 lki (by omega) (by omega)) pt41 ?_
  refine mv' lk41 pt9<|s_nil<|n_blk<|n_seq<|w_reg<|mv' lk10 pt24<|?_
  refine V' (v_add lk24 lki (by omega) (by omega)) pt25 ?_
  refine mv' lk25 pt10<|s_nil<|n_thn<|?_
  refine lT' (⟨k+1,10*n+(byteAt s k).toNat-48⟩) (by (try dsimp only);refine ⟨by omega,by omega,by rw [Int.pow_succ];omega,by rw [hk4,aB_at hk,decL],fun j hj h0=>?_⟩;rcases Nat.lt_or_ge j k with e | e;exact hk5 j hj e;obtain rfl:j=k:=(by omega);rw [←hbk];exact hd)
 have hT:tNum s a b (l,bd)=(n,l,bd):=tNum_some (by
  unfold numV
  rw [if_pos ⟨hw,allB_yes fun j hj=>hk5 j hj (by omega)⟩,hk4,aB_end (by omega)];rfl)
 refine w_exit<|x_thn<|x_thn<|x_blk<|n_seq<|wr'<|mv' lk9 pt42<|mv' lk42 pt8<|sn'<|w_rets<|w_ret (rs1 (rr_t gt8))<|?_
 exact ⟨_,_,rfl,hx_len hn,hx_lt hlt takE_ltb,rfl,by rw [hT],by rw [hT]⟩
theorem tname_a {t:TS}{id:Nat}{h:AH}(hz:(tNext t).1.size≤maxLen) (h1:h[id]?=some (takE t)):ACalls Tryz.prog 52 [.ptr id 0 0] h fun x h'=>x = .ret (sv (tName t).1)∧h'=h.set id (takE (tName t).2):=by
 have hid:id<h.length:=(List.getElem?_eq_some_iff.1 h1).1
 refine tJ' k52 fun N hn hlt hlA hbd=>?_
 simp only [tA',AV.bdL,AV.bd,and_true,true_and] at hbd ⊢
 refine aw_heap (h1:=h.set id (takE t)++[]) (by rw [hx_self h1]) ?_
 refine wr'<|mv' lks pt2<|sn'<|wr'<|mv' lk0 pt4<|s_calls (mp1 lk4 mp0) (tnext_a (hx_at hid)) (hx_set hid) pt5<|mv' lk5 pt3<|sn'<|w_seq<|w_seq<|?_
 refine w_reg<|mv' lk3 pt6<|s_callp (mp1 lk6 mp0) (risName_a hz) pt7<|V' (v_notB lk7) pt8<|sn'<|?_
 refine w_condB lk8 (fun hc1=>?_) (fun hc1=>?_)
 ·refine w_reg<|mv' lk0 pt9<|V' (v_nckp lk9) pt10<|V' (v_fap0 lk10) pt11<|E' (e_store lk11 (cvl lkb rfl) (hx_at hid) rfl (nb' rfl) rfl SrcU_sc1_1 (hx_set hid)) ptn<|sn'<|wr'<|mv' lk3 pt12<|mv' lk12 pt2<|sn'<|w_rets<|?_
  refine w_ret (rs1 (rr_t gt2)) ?_
  exact ⟨_,_,rfl,hx_len hn,hx_lt hlt takE_ltb,rfl,rfl,by unfold tName;rw [if_neg (by simpa using hc1)]⟩
 refine w_skip<|n_seq<|wr'<|mv' lk3 pt12<|mv' lk12 pt2<|sn'<|w_rets<|w_ret (rs1 (rr_t gt2))<|?_
 exact ⟨_,_,rfl,hx_len hn,hx_lt hlt takE_ltb,rfl,rfl,by unfold tName;rw [if_pos (by simpa using hc1)]⟩
theorem idxL_at {l:List ByteArray}{s:ByteArray}{d:Int}{k:Nat}(h:k<l.length):idxL (l.drop k) s (d+k)=if s=l[k] then some (d+k) else idxL (l.drop (k+1)) s (d+(k+1:Nat)):=by
 rw [List.drop_eq_getElem_cons h,idxL]
 congr 2
 push_cast;omega
theorem idxL_no {s:ByteArray} : ∀ {l:List ByteArray}{d:Int},(∀ x∈l,s≠x)→idxL l s d=none
 | [],_,_=>rfl
 | x::l,d,h=>by rw [idxL,if_neg (h x (by simp))];exact idxL_no fun y hy=>h y (by simp [hy])
theorem idxL_up {s:ByteArray} : ∀ {l:List ByteArray}{d:Int},idxL l s d=(idxL l s 0).map (· + d)
 | [],_=>rfl
 | x::l,d=>by
  rw [idxL,idxL]
  split
  ·simp
  rw [idxL_up (l:=l) (d:=d+1),idxL_up (l:=l) (d:=0+1),Option.map_map];congr 1;funext y;simp;omega
theorem threes_a {nl:List ByteArray}{all s:ByteArray}{h:AH}(hl:nl.length≤20) (hz:all.size=3*nl.length) (h3 : ∀ x∈nl,x.size=3) (hx : ∀ k (hk:k<nl.length),all.extract (3*k) (3*k+3)=nl[k]):ACalls Tryz.prog 129 [sv all,sv s] h fun x h'=>h'=h∧x = .ret (iv ((idxL nl s 0).getD (-1))):=by
 refine tI' k129 fun N hn hlt hlA hbd=>?_
 simp only [tA',AV.bdL,AV.bd,and_true,true_and] at hbd ⊢
 refine wr'<|mv' lki pt4<|sn'<|w_seq<|wr'<|mv' lki pt5<|sn'<|w_block<|?_
 refine w_lp (ι:=Nat) (fun (k:Nat)=>[(5,iv ((3*k:Nat):Int)),(4,.any)]++rn' 6 21) (fun (k:Nat)=>[]) (fun (k:Nat)=>k≤nl.length∧idxL nl s 0=idxL (nl.drop k) s (0+(k:Int))) (fun (k:Nat)=>nl.length-k) (0) (by exact ⟨Nat.zero_le _,by simp⟩) ?_
 rintro k hi1
 try simp only [setsT,setsE,z',s',rn',la',ln',Nat.reduceAdd]
 obtain ⟨hk1,hk2⟩:=hi1
 refine w_seq<|wr'<|mv' lk5 pt6<|?_
 refine V' (v_add lk6 lki (by omega) (by omega)) pt7 ?_
 refine mv' lk0 pt8<|V' (v_lenS lk8) pt9<|V' (v_leq lk7 lk9) pt10<|mv' lk10 pt11<|?_
 refine sp' gt11 pt11 pt11 (fun hg11=>?_) (fun hg11=>?_)
 ·have hk:k<nl.length:=by omega
  rw [idxL_at hk] at hk2
  refine s_do gt11<|mv' lk1 pt12<|s_do gt11<|V' (v_lenS lk12) pt13<|s_do gt11<|V' (v_eql lk13 lki) pt14<|V' (v_pickT lk11 lk14) pt15<|sn'<|?_
  refine cd' lk15 (fun hc1=>?_) (fun hc1=>?_)
  ·have he:=hx k hk
   refine w_skip<|n_seq<|w_seq<|w_block<|wr'<|mv' lk0 pt18<|mv' lk5 pt19<|mv' lk5 pt20<|?_
   refine V' (v_add lk20 lki (by omega) (by omega)) pt21 ?_
   refine V' (v_sls lk18 (oi lk19) (oi lk21) (by omega) (by omega) (by omega)) pt22 ?_
   refine mv' lk1 pt23<|V' (v_eqlS lk22 lk23) pt24<|sn'<|?_
   refine cd' lk24 (fun hc2=>?_) (fun hc2=>?_)
   ·have hc2':s=nl[k]:=by rw [←he];exact hc2.symm
    rw [if_pos hc2'] at hk2
    refine wr'<|mv' lk5 pt25<|?_
    refine V' (v_quo lk25 lki (by omega) (by omega) (by omega)) pt26 ?_
    refine mv' lk26 pt4<|sn'<|w_rets<|r_blk<|r_thn<|r_thn<|r_blk<|r_thn<|w_ret (rs1 (rr_t gt4))<|rT'<|?_
    refine ivx ?_;rw [hk2];simp
   have hc2':¬s=nl[k]:=by rw [←he];exact fun e=>hc2 e.symm
   rw [if_neg hc2'] at hk2
   refine w_skip<|n_blk<|n_seq<|w_reg<|mv' lk5 pt16<|?_
   refine V' (v_add lk16 lki (by omega) (by omega)) pt17 ?_
   refine mv' lk17 pt5<|s_nil<|n_thn<|?_
   refine lT' (k+1) (by (try dsimp only);exact ⟨by omega,by rw [hk2]⟩)
  refine w_exit<|x_thn<|x_thn<|x_blk<|n_seq<|wr'<|mv' lki pt4<|sn'<|w_rets<|w_ret (rs1 (rr_t gt4))<|rT'<|?_
  refine ivx ?_;rw [idxL_no (l:=nl) (d:=0) (fun x hx e=>hc1 (by rw [e,h3 x hx];rfl))];rfl
 refine s_no gt11 pt12<|s_no gt11 pt13<|s_no gt11 pt14<|V' (v_pickF lk11 lkb) pt15<|sn'<|w_condF lk15<|w_exit<|x_thn<|x_thn<|x_blk<|n_seq<|wr'<|?_
 refine mv' lki pt4<|sn'<|w_rets<|w_ret (rs1 (rr_t gt4))<|rT'<|?_
 refine ivx ?_;rw [List.drop_of_length_le (by omega)] at hk2;rw [hk2];rfl
def monA:ByteArray:=bA [74,97,110,70,101,98,77,97,114,65,112,114,77,97,121,74,117,110,74,117,108,65,117,103,83,101,112,79,99,116,78,111,118,68,101,99]
def dayA:ByteArray:=bA [83,117,110,77,111,110,84,117,101,87,101,100,84,104,117,70,114,105,83,97,116]
theorem mon_at : ∀ k (hk:k<monL.length),monA.extract (3*k) (3*k+3)=monL[k]:=by decide
theorem day_at : ∀ k (hk:k<dayL.length),dayA.extract (3*k) (3*k+3)=dayL[k]:=by decide
theorem mon_3 : ∀ x∈monL,x.size=3:=by decide
theorem day_3 : ∀ x∈dayL,x.size=3:=by decide
theorem idxL_bd {s:ByteArray} : ∀ {l:List ByteArray}{d n:Int},idxL l s d=some n→d≤n∧n<d+l.length
 | [],_,_,h=>by cases h
 | x::l,d,n,h=>by
  rw [idxL] at h
  split at h
  ·cases h;simp;omega
  have:=idxL_bd h;simp;omega
theorem tmonth_a {t:TS}{id:Nat}{h:AH}(h1:h[id]?=some (takE t)):ACalls Tryz.prog 89 [.ptr id 0 0] h fun x h'=>x = .ret (iv (tMonth t).1)∧h'=h.set id (takE (tMonth t).2):=by
 have hid:id<h.length:=(List.getElem?_eq_some_iff.1 h1).1
 have hM:idxL monL (tNext t).1 1=(idxL monL (tNext t).1 0).map (· + 1):=idxL_up
 obtain ⟨o,ho⟩ : ∃ o,o=idxL monL (tNext t).1 0:=⟨_,rfl⟩
 rw [←ho] at hM
 have hbd : ∀ n,o=some n→0≤n∧n<12:=fun n e=>by have:=idxL_bd (ho.symm.trans e);have h12:(monL.length:Int)=12:=rfl;omega
 refine tJ' k89 fun N hn hlt hlA hbd=>?_
 simp only [tA',AV.bdL,AV.bd,and_true,true_and] at hbd ⊢
 refine aw_heap (h1:=h.set id (takE t)++[]) (by rw [hx_self h1]) ?_
 refine wr'<|mv' lki pt2<|sn'<|wr'<|mv' lk0 pt4<|s_calls (mp1 lk4 mp0) (tnext_a (hx_at hid)) (hx_set hid) pt5<|?_
 refine s_callp (mp1 lks (mp1 lk5 mp0)) (threes_a (nl:=monL) (all:=monA) (by decide) (by decide) mon_3 mon_at) pt6 ?_
 rw [←ho]
 have hcase:(o=none) ∨ ∃ n,o=some n:=by cases o <;> simp
 have hgd : -1≤o.getD (-1)∧o.getD (-1)<12:=by rcases hcase with rfl | ⟨n,rfl⟩;exact ⟨by decide,by decide⟩;have:=hbd n rfl;exact ⟨by simp;omega,by simp;omega⟩
 refine mv' lk6 pt3<|sn'<|w_seq<|wr'<|mv' lk3 pt7<|V' (v_lss lk7 lki) pt8<|sn'<|?_
 refine cd' lk8 (fun hc1=>?_) (fun hc1=>?_)
 ·refine w_reg<|mv' lk0 pt9<|V' (v_nckp lk9) pt10<|V' (v_fap0 lk10) pt11<|E' (e_store lk11 (cvl lkb rfl) (hx_at hid) rfl (nb' rfl) rfl SrcU_sc1_1 (hx_set hid)) ptn<|sn'<|wr'<|mv' lk3 pt12<|?_
  refine V' (v_add lk12 lki (by omega) (by omega)) pt13 ?_
  refine mv' lk13 pt2<|sn'<|w_rets<|w_ret (rs1 (rr_t gt2))<|?_
  have ho2:o=none:=by rcases hcase with e | ⟨n,rfl⟩;exact e;have:=hbd n rfl;simp at hc1;omega
  have hT:tMonth t=(0,bad (tNext t).2):=by unfold tMonth;rw [hM,ho2];rfl
  exact ⟨_,_,rfl,hx_len hn,hx_lt hlt takE_ltb,rfl,by rw [hT,ho2];rfl,by rw [hT]⟩
 refine w_skip<|n_seq<|wr'<|mv' lk3 pt12<|?_
 refine V' (v_add lk12 lki (by omega) (by omega)) pt13 ?_
 refine mv' lk13 pt2<|sn'<|w_rets<|w_ret (rs1 (rr_t gt2))<|?_
 obtain ⟨n,rfl⟩ : ∃ n,o=some n:=by rcases hcase with rfl | e;exact absurd (by decide:(-1:Int)<0) hc1;exact e
 have hT:tMonth t=(n+1,(tNext t).2):=by unfold tMonth;rw [hM];rfl
 exact ⟨_,_,rfl,hx_len hn,hx_lt hlt takE_ltb,rfl,by rw [hT];rfl,by rw [hT]⟩
theorem tweek_a {s:ByteArray}{t:TS}{id:Nat}{h:AH}(h1:h[id]?=some (takE t)):ACalls Tryz.prog 130 [.ptr id 0 0,sv s] h fun x h'=>x = .ret (iv (tWeek s t).1)∧h'=h.set id (takE (tWeek s t).2):=by
 have hid:id<h.length:=(List.getElem?_eq_some_iff.1 h1).1
 obtain ⟨o,ho⟩ : ∃ o,o=idxL dayL s 0:=⟨_,rfl⟩
 have hbd : ∀ n,o=some n→0≤n∧n<7:=fun n e=>by have:=idxL_bd (ho.symm.trans e);have h7:(dayL.length:Int)=7:=rfl;omega
 refine tJ' k130 fun N hn hlt hlA hbd=>?_
 simp only [tA',AV.bdL,AV.bd,and_true,true_and] at hbd ⊢
 refine aw_heap (h1:=h.set id (takE t)++[]) (by rw [hx_self h1]) ?_
 refine wr'<|mv' lki pt4<|sn'<|wr'<|mv' lk1 pt6<|?_
 refine s_callp (mp1 lks (mp1 lk6 mp0)) (threes_a (nl:=dayL) (all:=dayA) (by decide) (by decide) day_3 day_at) pt7 ?_
 rw [←ho]
 have hcase:(o=none) ∨ ∃ n,o=some n:=by cases o <;> simp
 refine mv' lk7 pt5<|sn'<|w_seq<|wr'<|mv' lk5 pt8<|V' (v_lss lk8 lki) pt9<|sn'<|?_
 refine cd' lk9 (fun hc1=>?_) (fun hc1=>?_)
 ·refine wr'<|mv' lk0 pt10<|V' (v_nckp lk10) pt11<|V' (v_fap0 lk11) pt12<|E' (e_store lk12 (cvl lkb rfl) (hx_at hid) rfl (nb' rfl) rfl SrcU_sc1_1 (hx_set hid)) ptn<|sn'<|wr'<|mv' lki pt4<|sn'<|w_rets<|?_
  refine r_thn<|w_ret (rs1 (rr_t gt4))<|?_
  have ho2:o=none:=by rcases hcase with e | ⟨n,rfl⟩;exact e;have:=hbd n rfl;simp at hc1;omega
  have hT:tWeek s t=(0,bad t):=by unfold tWeek;rw [←ho,ho2]
  exact ⟨_,_,rfl,hx_len hn,hx_lt hlt takE_ltb,rfl,by rw [hT],by rw [hT]⟩
 refine w_skip<|n_seq<|wr'<|mv' lk5 pt13<|mv' lk13 pt4<|sn'<|w_rets<|w_ret (rs1 (rr_t gt4))<|?_
 obtain ⟨n,rfl⟩ : ∃ n,o=some n:=by rcases hcase with rfl | e;exact absurd (by decide:(-1:Int)<0) hc1;exact e
 have hT:tWeek s t=(n,t):=by unfold tWeek;rw [←ho]
 exact ⟨_,_,rfl,hx_len hn,hx_lt hlt takE_ltb,rfl,by rw [hT];rfl,by rw [hT]⟩
theorem tsix_a {s:ByteArray}{t:TS}{id:Nat}{h:AH}(h1:h[id]?=some (takE t)):ACalls Tryz.prog 128 [.ptr id 0 0,sv s] h fun x h'=>x = .ret (iv (tSix s t).1)∧h'=h.set id (takE (tSix s t).2):=by
 have hid:id<h.length:=(List.getElem?_eq_some_iff.1 h1).1
 refine tJ' k128 fun N hn hlt hlA hbd=>?_
 simp only [tA',AV.bdL,AV.bd,and_true,true_and] at hbd ⊢
 refine aw_heap (h1:=h.set id (takE t)++[]) (by rw [hx_self h1]) ?_
 refine wr'<|mv' lki pt4<|sn'<|wr'<|mv' lk0 pt6<|mv' lk1 pt7<|?_
 refine s_calls (mp1 lk6 (mp1 lk7 (mp1 lki (mp1 lki mp0)))) (tnum_a (by omega) (hx_at hid)) (hx_set hid) pt8 ?_
 refine mv' lk8 pt5<|sn'<|w_seq<|wr'<|mv' lk5 pt9<|V' (v_gtr lk9 lki) pt10<|sn'<|?_
 refine cd' lk10 (fun hc1=>?_) (fun hc1=>?_)
 ·refine w_reg<|mv' lk0 pt11<|V' (v_nckp lk11) pt12<|V' (v_fap0 lk12) pt13<|E' (e_store lk13 (cvl lkb rfl) (hx_at hid) rfl (nb' rfl) rfl SrcU_sc1_1 (hx_set hid)) ptn<|sn'<|wr'<|mv' lk5 pt14<|mv' lk14 pt4<|sn'<|w_rets<|?_
  refine w_ret (rs1 (rr_t gt4)) ?_
  exact ⟨_,_,rfl,hx_len hn,hx_lt hlt takE_ltb,rfl,rfl,by unfold tSix;rw [if_pos (by omega)]⟩
 refine w_skip<|n_seq<|wr'<|mv' lk5 pt14<|mv' lk14 pt4<|sn'<|w_rets<|w_ret (rs1 (rr_t gt4))<|?_
 exact ⟨_,_,rfl,hx_len hn,hx_lt hlt takE_ltb,rfl,rfl,by unfold tSix;rw [if_neg (by omega)]⟩
end Go.Proofs.YtgjchdhdopgkkaaGreatDoor
end
section
namespace Go.Proofs.YtgjchdhdopgkkaaGreatDoor
open Go.Ab Go.RowKit Civ
attribute [local simp] str_lt
section
theorem SrcV_Span_27 {τ:Operand→AV}{y0:Operand}{x0_0:AV}(h0:cellsV (τ y0)=some [x0_0]) (l0:[x0_0].all leaf=true):fillAV τ [(0,1,y0)] [(.v (.string ⟨#[]⟩))]=some [x0_0]:=by
 simp only [fillAV,h0,l0]
 rfl
theorem SrcV_tk_1 {a0:AV}{l:List AV}:(a0::l).take 1=[a0]:=rfl
theorem SrcV_sc1_1 {a0 a1 c0:AV}{l:List AV}:setCells (a0::a1::l) 1 [c0]=a0::c0::l:=rfl
theorem SrcV_Form_17 {τ:Operand→AV}{y0 y1:Operand}{x0_0 x1_0:AV}(h0:cellsV (τ y0)=some [x0_0]) (l0:[x0_0].all leaf=true) (h1:cellsV (τ y1)=some [x1_0]) (l1:[x1_0].all leaf=true):fillAV τ [(0,1,y0),(1,1,y1)] [(.v (.int .i64 0)),(.v (.int .i64 0)),(.v (.int .i64 0))]=some [x0_0,x1_0,(.v (.int .i64 0))]:=by
 simp only [fillAV,h0,l0,h1,l1]
 rfl
theorem SrcV_sc0_3 {a0 a1 a2 c0 c1 c2:AV}{l:List AV}:setCells (a0::a1::a2::l) 0 [c0,c1,c2]=c0::c1::c2::l:=rfl
theorem SrcV_tk0_3 {a0 a1 a2:AV}{l:List AV}:((a0::a1::a2::l).drop 0).take 3=[a0,a1,a2]:=rfl
theorem SrcV_Form_45 {τ:Operand→AV}{y0 y1 y2:Operand}{x0_0 x1_0 x2_0:AV}(h0:cellsV (τ y0)=some [x0_0]) (l0:[x0_0].all leaf=true) (h1:cellsV (τ y1)=some [x1_0]) (l1:[x1_0].all leaf=true) (h2:cellsV (τ y2)=some [x2_0]) (l2:[x2_0].all leaf=true):fillAV τ [(0,1,y0),(1,1,y1),(2,1,y2)] [(.v (.int .i64 0)),(.v (.int .i64 0)),(.v (.int .i64 0))]=some [x0_0,x1_0,x2_0]:=by
 simp only [fillAV,h0,l0,h1,l1,h2,l2]
 rfl
theorem SrcV_sc0_1 {a0 c0:AV}{l:List AV}:setCells (a0::l) 0 [c0]=c0::l:=rfl
theorem SrcV_Form_58 {τ:Operand→AV}{y0 y1:Operand}{x0_0 x1_0:AV}(h0:cellsV (τ y0)=some [x0_0]) (l0:[x0_0].all leaf=true) (h1:cellsV (τ y1)=some [x1_0]) (l1:[x1_0].all leaf=true):fillAV τ [(0,1,y0),(2,1,y1)] [(.v (.int .i64 0)),(.v (.int .i64 0)),(.v (.int .i64 0))]=some [x0_0,(.v (.int .i64 0)),x1_0]:=by
 simp only [fillAV,h0,l0,h1,l1]
 rfl
end
def c91:AC:=(.seq (.reg [Oo 2 (.new 46 3 [(iv 0),(iv 0),(iv 0)])]) (.seq (.reg [Mv 5 0,Oo 6 (.call (.func 49) [(.tmp 5)]),Mv 3 6]) (.seq (.seq (.reg [Mv 7 3,Oo 8 (.len true (.tmp 7)),Oo 9 (.bin .geq (.tmp 8) (Ci 4)),Mv 10 9,Ot 11 10 (.mv (.tmp 3)),Ot 12 10 (.sls (.tmp 11) none (some (Ci 4))),Ot 13 10 (.bin .eql (.tmp 12) (.const (.string ⟨#[108,97,115,116]⟩))),Oo 14 (.pick (.tmp 10) (.tmp 13) (.const (.bool false)))]) (.cond (.tmp 14) (.seq (.reg [Mv 15 0,Mv 16 3,Oo 17 (.sls (.tmp 16) (some (Ci 4)) none),Oo 18 (.call (.func 130) [(.tmp 15),(.tmp 17)]),Oo 19 (.build [(iv 0),(iv 0),(iv 0)] [(0,(1,(Ci 2))),(1,(1,(.tmp 18)))]),⟨none,none,(.store 3 (.tmp 2) (.tmp 19))⟩]) .ret) .skip)) (.seq (.seq (.reg [Mv 20 3,Oo 21 (.len true (.tmp 20)),Oo 22 (.bin .gtr (.tmp 21) (Ci 5)),Mv 23 22,Ot 24 23 (.mv (.tmp 3)),Ot 25 23 (.ix (.tmp 24) (Ci 4)),Ot 26 23 (.bin .eql (.tmp 25) (.const (.int .u8 61))),Oo 27 (.pick (.tmp 23) (.tmp 26) (.const (.bool false))),Mv 28 27,Ot 29 28 (.mv (.tmp 3)),Ot 30 28 (.ix (.tmp 29) (Ci 3)),Ot 31 28 (.bin .eql (.tmp 30) (.const (.int .u8 62))),Ot 32 28 (.mv (.tmp 31)),Of 33 32 (.mv (.tmp 3)),Of 34 32 (.ix (.tmp 33) (Ci 3)),Of 35 32 (.bin .eql (.tmp 34) (.const (.int .u8 60))),Ot 36 28 (.pick (.tmp 32) (.const (.bool true)) (.tmp 35)),Oo 37 (.pick (.tmp 28) (.tmp 36) (.const (.bool false)))]) (.cond (.tmp 37) (.seq (.drwU [[],[0],[0],[],[0,1,2,3],[0,1,2,3,4],[0,1,2,3,4],[],[],[0,1,2,3,4,5,6,7,8],[]] [Mv 38 0,Mv 39 3,Oo 40 (.sls (.tmp 39) none (some (Ci 3))),Oo 41 (.call (.func 130) [(.tmp 38),(.tmp 40)]),Mv 42 0,Mv 43 3,Oo 44 (.sls (.tmp 43) (some (Ci 5)) none),Oo 45 (.call (.func 88) [(.tmp 42),(.tmp 44),(Ci 1),(Ci 2)]),Oo 46 (.build [(iv 0),(iv 0),(iv 0)] [(0,(1,(Ci 3))),(1,(1,(.tmp 41))),(2,(1,(.tmp 45)))]),Oo 4 (.new 46 3 [(iv 0),(iv 0),(iv 0)]),⟨none,none,(.store 3 (.tmp 4) (.tmp 46))⟩]) (.seq (.seq (.reg [Mv 47 3,Oo 48 (.ix (.tmp 47) (Ci 3)),Oo 49 (.bin .eql (.tmp 48) (.const (.int .u8 60)))]) (.cond (.tmp 49) (.reg [Fa 50 0 4,⟨none,none,(.store 1 (.tmp 50) (Ci 4))⟩]) .skip)) (.seq (.reg [Oo 51 (.load true 3 (.tmp 4)),⟨none,none,(.store 3 (.tmp 2) (.tmp 51))⟩]) .ret))) .skip)) (.seq (.reg [Mv 52 0,Mv 53 3,Oo 54 (.call (.func 88) [(.tmp 52),(.tmp 53),(Ci 1),(Ci 2)]),Oo 55 (.build [(iv 0),(iv 0),(iv 0)] [(0,(1,(Ci 1))),(2,(1,(.tmp 54)))]),⟨none,none,(.store 3 (.tmp 2) (.tmp 55))⟩]) .ret)))))
theorem k91:compF Tryz.prog 91=some ⟨c91,[(.cell 2 true 3)],56⟩:=by kernel_rfl
def c87:AC:=(.seq (.reg [Oo 4 (.mv (Ci 0))]) (.seq (.seq (.reg [Mv 9 1,Oo 10 (.bin .eql (.tmp 9) (.const (.string ⟨#[48]⟩)))]) (.cond (.tmp 10) (.seq (.reg [Oo 4 (.mv (Ci 0))]) .ret) .skip)) (.seq (.reg [Oo 5 (.mv (.const (.slice none 0 0)))]) (.seq (.reg [Oo 6 (.mv (Ci 0))]) (.seq (.seq (.reg [Oo 7 (.mv (Ci 0))]) (.block 0 (.loop (.seq (.seq (.reg [Mv 11 7,Mv 12 1,Oo 13 (.len true (.tmp 12)),Oo 14 (.bin .leq (.tmp 11) (.tmp 13))]) (.cond (.tmp 14) .skip (.exit 0))) (.seq (.block 1 (.seq (.reg [Mv 17 7,Mv 18 1,Oo 19 (.len true (.tmp 18)),Oo 20 (.bin .eql (.tmp 17) (.tmp 19)),Mv 21 20,Of 22 21 (.mv (.tmp 1)),Of 23 21 (.mv (.tmp 7)),Of 24 21 (.ix (.tmp 22) (.tmp 23)),Of 25 21 (.bin .eql (.tmp 24) (.const (.int .u8 58))),Oo 26 (.pick (.tmp 21) (.const (.bool true)) (.tmp 25))]) (.cond (.tmp 26) (.seq (.reg [Mv 27 5,Mv 28 1,Mv 29 6,Mv 30 7,Oo 31 (.sls (.tmp 28) (some (.tmp 29)) (some (.tmp 30))),Oo 32 (.lit 9 1 1 [Ss] [(0,(1,(.tmp 31)))]),Oo 33 (.app 9 1 16 (.tmp 27) (.tmp 32)),Mv 5 33]) (.reg [Mv 34 7,Oo 35 (.bin .add (.tmp 34) (Ci 1)),Mv 6 35])) .skip))) (.reg [Mv 15 7,Oo 16 (.bin .add (.tmp 15) (Ci 1)),Mv 7 16])))))) (.seq (.seq (.reg [Mv 36 5,Oo 37 (.len false (.tmp 36)),Oo 38 (.bin .neq (.tmp 37) (Ci 2)),Mv 39 38,Ot 40 39 (.mv (.tmp 5)),Ot 41 39 (.len false (.tmp 40)),Ot 42 39 (.bin .neq (.tmp 41) (Ci 3)),Oo 43 (.pick (.tmp 39) (.tmp 42) (.const (.bool false)))]) (.cond (.tmp 43) (.seq (.reg [Mv 44 0,Nk 45 44,Fa 46 1 45,⟨none,none,(.store 1 (.tmp 46) (.const (.bool true)))⟩]) (.seq (.reg [Oo 4 (.mv (Ci 0))]) .ret)) .skip)) (.seq (.drwU [[],[0],[0],[0],[],[],[0,1,2,3,4,5],[0,1,2,3,4,5,6],[0,1,2,3,4,5,6],[0,1,2,3,4,5,6],[5],[5],[],[]] [Mv 47 0,Mv 48 5,Oo 49 (.ia 1 (.tmp 48) (Ci 0)),Ld 50 49,Oo 51 (.call (.func 88) [(.tmp 47),(.tmp 50),(Ci 1),(Ci 2)]),Oo 52 (.bin .mul (Ci 3600) (.tmp 51)),Mv 53 0,Mv 54 5,Oo 55 (.ia 1 (.tmp 54) (Ci 1)),Ld 56 55,Oo 57 (.call (.func 128) [(.tmp 53),(.tmp 56)]),Oo 58 (.bin .mul (Ci 60) (.tmp 57)),Oo 59 (.bin .add (.tmp 52) (.tmp 58)),Mv 8 59]) (.seq (.seq (.reg [Mv 60 5,Oo 61 (.len false (.tmp 60)),Oo 62 (.bin .eql (.tmp 61) (Ci 3))]) (.cond (.tmp 62) (.reg [Mv 63 8,Mv 64 0,Mv 65 5,Oo 66 (.ia 1 (.tmp 65) (Ci 2)),Ld 67 66,Oo 68 (.call (.func 128) [(.tmp 64),(.tmp 67)]),Oo 69 (.bin .add (.tmp 63) (.tmp 68)),Mv 8 69]) .skip)) (.seq (.reg [Mv 70 8,Mv 4 70]) .ret)))))))))
theorem k87:compF Tryz.prog 87=some ⟨c87,[(.tmp 4)],71⟩:=by kernel_rfl
def c90:AC:=(.seq (.reg [Oo 4 (.mv (Ci 0)),Oo 5 (.mv (Ci 0))]) (.seq (.reg [Mv 9 0,Oo 10 (.call (.func 49) [(.tmp 9)]),Mv 6 10]) (.seq (.reg [Mv 11 1,Mv 7 11]) (.seq (.seq (.reg [Mv 12 6,Oo 13 (.bin .neq (.tmp 12) (.const (.string ⟨#[]⟩)))]) (.cond (.tmp 13) (.seq (.seq (.reg [Oo 8 (.mv (Ci 1))]) (.block 0 (.loop (.seq (.seq (.reg [Mv 14 8,Oo 15 (.bin .leq (.tmp 14) (Ci 3))]) (.cond (.tmp 15) .skip (.exit 0))) (.seq (.block 1 (.seq (.drw [Mv 18 6,Mv 19 6,Oo 20 (.len true (.tmp 19)),Oo 21 (.bin .sub (.tmp 20) (Ci 1)),Oo 22 (.ix (.tmp 18) (.tmp 21)),Mv 23 8,Oo 24 (.ix (.const (.string ⟨#[63,119,115,117]⟩)) (.tmp 23)),Oo 25 (.bin .eql (.tmp 22) (.tmp 24))] [] []) (.cond (.tmp 25) (.reg [Mv 26 8,Mv 7 26]) .skip))) (.reg [Mv 16 8,Oo 17 (.bin .add (.tmp 16) (Ci 1)),Mv 8 17])))))) (.seq (.reg [Mv 27 6,Mv 28 6,Oo 29 (.len true (.tmp 28)),Oo 30 (.bin .sub (.tmp 29) (Ci 1)),Oo 31 (.ix (.tmp 27) (.tmp 30)),Oo 32 (.call (.func 71) [(.tmp 31)]),Oo 33 (.un .not (.tmp 32))]) (.cond (.tmp 33) (.seq (.seq (.drw [Mv 34 6,Mv 35 6,Oo 36 (.len true (.tmp 35)),Oo 37 (.bin .sub (.tmp 36) (Ci 1)),Oo 38 (.ix (.tmp 34) (.tmp 37)),Mv 39 7,Oo 40 (.ix (.const (.string ⟨#[63,119,115,117]⟩)) (.tmp 39)),Oo 41 (.bin .neq (.tmp 38) (.tmp 40))] [] []) (.cond (.tmp 41) (.reg [Mv 42 0,Nk 43 42,Fa 44 1 43,⟨none,none,(.store 1 (.tmp 44) (.const (.bool true)))⟩]) .skip)) (.reg [Mv 45 6,Mv 46 6,Oo 47 (.len true (.tmp 46)),Oo 48 (.bin .sub (.tmp 47) (Ci 1)),Oo 49 (.sls (.tmp 45) none (some (.tmp 48))),Mv 6 49])) .skip))) .skip)) (.seq (.reg [Mv 50 0,Mv 51 6,Oo 52 (.call (.func 87) [(.tmp 50),(.tmp 51)]),Mv 53 7,Mv 4 52,Mv 5 53]) .ret)))))
theorem k90:compF Tryz.prog 90=some ⟨c90,[(.tmp 4),(.tmp 5)],54⟩:=by kernel_rfl
theorem decL_bd : ∀ {l:Bs}{n:Int},(∀ c∈l,digB c.toNat=true)→0≤n→0≤decL n l∧decL n l+1≤(n+1)*10 ^ l.length
 | [],n,h,h0=>by simp [decL];omega
 | c::l,n,h,h0=>by
  have hd:=digB_bd (h c (by simp))
  obtain ⟨i1,i2⟩:=decL_bd (l:=l) (n:=10*n+c.toNat-48) (fun x hx=>h x (by simp [hx])) (by omega)
  refine ⟨i1,Int.le_trans i2 ?_⟩
  rw [List.length_cons,Int.pow_succ,Int.mul_comm (10 ^ l.length) 10,←Int.mul_assoc]
  exact Int.mul_le_mul_of_nonneg_right (by omega) (by exact_mod_cast Nat.zero_le (10 ^ l.length))
theorem numV_bd {s:ByteArray}{a b n:Int}(h:numV s a b=some n) (hb:b≤4):0≤n∧n<10000∧s.size≤4:=by
 obtain ⟨h1,h2,rfl⟩:=numV_some h
 have hz:s.size≤4:=by unfold wi at h1;simp at h1;omega
 have hl:(aB s).length≤4:=by rw [aB_len];exact hz
 have:=decL_bd (l:=aB s) (n:=0) (fun c hc=>allB_mem (l:=aB s) h2 hc) (by omega)
 have hp:(10:Int) ^ (aB s).length≤10000:=by
  obtain ⟨m,hm⟩ : ∃ m,m=(aB s).length:=⟨_,rfl⟩
  rw [←hm] at hl ⊢
  have:m=0∨m=1∨m=2∨m=3∨m=4:=by omega
  rcases this with rfl | rfl | rfl | rfl | rfl <;> decide
 omega
theorem tNum_bd {s:ByteArray}{a b:Int}{t:TS}(hb:b≤4):0≤(tNum s a b t).1∧(tNum s a b t).1<10000:=by
 unfold tNum
 split
 ·rename_i n hn;have:=numV_bd hn hb;exact ⟨this.1,this.2.1⟩
 show (0:Int)≤0∧(0:Int)<10000;decide
theorem tSix_bd {s:ByteArray}{t:TS}:0≤(tSix s t).1∧(tSix s t).1<10000:=tNum_bd (by omega)
theorem tSpanL_two {l:List ByteArray}{t:TS}(h:l.length=2):tSpanL (l.map aB) t=(3600*(tNum l[0] 1 2 t).1+60*(tSix l[1] (tNum l[0] 1 2 t).2).1,(tSix l[1] (tNum l[0] 1 2 t).2).2):=by
 match l,h with
 | [a,b],_=>rfl
theorem tSpanL_three {l:List ByteArray}{t:TS}(h:l.length=3):tSpanL (l.map aB) t=(3600*(tNum l[0] 1 2 t).1+60*(tSix l[1] (tNum l[0] 1 2 t).2).1+(tSix l[2] (tSix l[1] (tNum l[0] 1 2 t).2).2).1,(tSix l[2] (tSix l[1] (tNum l[0] 1 2 t).2).2).2):=by
 match l,h with
 | [a,b,c],_=>rfl
theorem tSpanL_bad {l:List Bs}{t:TS}(h2:l.length≠2) (h3:l.length≠3):tSpanL l t=(0,bad t):=by
 unfold tSpanL
 split
 ·exact absurd rfl h2
 ·exact absurd rfl h3
 rfl
set_option maxHeartbeats 1000000 in
theorem tspan_a {s:ByteArray}{t:TS}{id:Nat}{h:AH}(hz:s.size≤24) (h1:h[id]?=some (takE t)):ACalls Tryz.prog 87 [.ptr id 0 0,sv s] h fun x h'=>x = .ret (iv (tSpan s t).1)∧h'=h.set id (takE (tSpan s t).2):=by
 have hid:id<h.length:=(List.getElem?_eq_some_iff.1 h1).1
 refine tJ' k87 fun N hn hlt hlA hbd=>?_
 simp only [tA',AV.bdL,AV.bd,and_true,true_and] at hbd ⊢
 refine aw_heap (h1:=h.set id (takE t)++[]) (by rw [hx_self h1]) ?_
 refine wr'<|mv' lki pt4<|sn'<|w_seq<|wr'<|mv' lk1 pt9<|V' (v_eqlS lk9 lks) pt10<|sn'<|?_
 refine cd' lk10 (fun hc1=>?_) (fun hc1=>?_)
 ·have hT:tSpan s t=(0,t):=if_pos hc1
  refine wr'<|mv' lki pt4<|sn'<|w_rets<|r_thn<|w_ret (rs1 (rr_t gt4))<|?_
  exact ⟨_,_,rfl,hx_len hn,hx_lt hlt takE_ltb,rfl,by rw [hT],by rw [hT]⟩
 have hT0:tSpan s t=tSpanL (cutC 58 (aB s)) t:=if_neg hc1
 refine w_skip<|n_seq<|wr'<|mv' lkn pt5<|s_nil<|n_seqw (ALe.own0' (st':=1) (ty:=9) gt5 (hl0 (hx_len hn)) pt5 ha0)<|wr'<|mv' lki pt6<|sn'<|w_seq<|w_seq<|?_
 refine w_reg<|mv' lki pt7<|sn'<|w_block<|?_
 refine w_lp (ι:=Nat×Nat×List ByteArray×Nat) (fun (x_:Nat×Nat×List ByteArray×Nat)=>match x_ with | ⟨f,i,ps,v⟩=>[(5,.own (N+0) v ps.length),(6,iv (f:Int)),(7,iv (i:Int))]++rn' 11 25) (fun (x_:Nat×Nat×List ByteArray×Nat)=>match x_ with | ⟨f,i,ps,v⟩=>[(0,.mk v 9 1 (rows strC ps))]) (fun (x_:Nat×Nat×List ByteArray×Nat)=>match x_ with | ⟨f,i,ps,v⟩=>i≤s.size+1∧f≤i∧ps.length≤i∧(i≤s.size→clean 58 s f i∧cutC 58 (aB s)=ps.map aB++cutC 58 ((aB s).drop f))∧(i=s.size+1→cutC 58 (aB s)=ps.map aB)) (fun (x_:Nat×Nat×List ByteArray×Nat)=>match x_ with | ⟨f,i,ps,v⟩=>s.size+1-i) (⟨0,0,[],0⟩) (by exact ⟨by omega,by omega,by simp,fun _=>⟨clean_self,rfl⟩,fun h=>by omega⟩) ?_
 rintro ⟨f,i,ps,v⟩ hi1
 try simp only [setsT,setsE,z',s',rn',la',ln',Nat.reduceAdd]
 obtain ⟨hk1,hk2,hk3,hk4,hk5⟩:=hi1
 refine w_seq<|wr'<|mv' lk7 pt11<|mv' lk1 pt12<|V' (v_lenS lk12) pt13<|V' (v_leq lk11 lk13) pt14<|sn'<|?_
 refine cd' lk14 (fun hc2=>?_) (fun hc2=>?_)
 ·have hi:i≤s.size:=by omega
  obtain ⟨hk6,hk7⟩:=hk4 hi
  refine w_skip<|n_seq<|w_seq<|w_block<|wr'<|mv' lk7 pt17<|mv' lk1 pt18<|V' (v_lenS lk18) pt19<|V' (v_eql lk17 lk19) pt20<|mv' lk20 pt21<|?_
  refine sp' gt21 pt21 pt21 (fun hg21=>?_) (fun hg21=>?_)
  ·have hie:i=s.size:=by omega
   have hseg:cutC 58 (aB s)=(ps++[s.extract f i]).map aB:=by rw [hk7,cutC_last hk6 hk2 hie];simp
   refine s_no gt21 pt22<|s_no gt21 pt23<|s_no gt21 pt24<|s_no gt21 pt25<|V' (v_pickT lk21 lkb) pt26<|sn'<|w_condT lk26<|wr'<|mv' lk5 pt27<|mv' lk1 pt28<|mv' lk6 pt29<|mv' lk7 pt30<|?_
   refine V' (v_sls lk28 (oi lk29) (oi lk30) (by omega) (by omega) (by omega)) pt31 ?_
   refine E' (e_lit (SrcV_Span_27 (cvl lk31 rfl) rfl) (hl1 (hx_len hn)) ha1) pt32 ?_
   refine E' (e_app (sc_own lk32 (hga (hx_len hn) rfl) rfl SrcV_tk_1 (nb' rfl)) lk27 (hga (hx_len hn) rfl) (str_len _) (by omega) rfl (hs0 (hx_len hn))) pt33 ?_
   refine mv' lk33 pt5<|sn'<|w_reg<|mv' lk7 pt34<|?_
   refine V' (v_add lk34 lki (by omega) (by omega)) pt35 ?_
   refine mv' lk35 pt6<|s_nil<|n_blk<|n_seq<|w_reg<|mv' lk7 pt15<|?_
   refine V' (v_add lk15 lki (by omega) (by omega)) pt16 ?_
   refine mv' lk16 pt7<|s_nil<|n_thn<|?_
   refine lU' (⟨i+1,i+1,ps++[s.extract f i],v+1⟩) (by (try dsimp only);exact ⟨by omega,by omega,by simp;omega,fun h=>by omega,fun _=>hseg⟩) (by (try dsimp only);(try simp only [setsT,setsE,z',s',rn',la',ln',Nat.reduceAdd]);exact bkE' 1 (hx_len hn) (hx_lt hlt takE_ltb) (by repeat (first | exact wk0 | refine wka ?_ | refine wk1 rfl ?_ | refine wk1 (by first | rfl | exact ivx (by omega) | (simp;done)) ?_)) (by simp only [rows_app,rows_one,strC];rfl))
  have hilt:i<s.size:=by omega
  refine s_do gt21<|mv' lk1 pt22<|s_do gt21<|mv' lk7 pt23<|s_do gt21<|?_
  refine V' (v_ix lk22 lk23 (by omega) (by omega)) pt24 ?_
  refine s_do gt21<|V' (v_eql lk24 lki) pt25<|V' (v_pickF lk21 lk25) pt26<|sn'<|?_
  refine cd' lk26 (fun hc3=>?_) (fun hc3=>?_)
  ·have hx:byteAt s i=58:=byte_eq (n:=58) (by omega) hc3
   have hseg:cutC 58 (aB s)=(ps++[s.extract f i]).map aB++cutC 58 ((aB s).drop (i+1)):=by rw [hk7,cutC_seg hk6 hk2 hilt hx];simp
   refine wr'<|mv' lk5 pt27<|mv' lk1 pt28<|mv' lk6 pt29<|mv' lk7 pt30<|?_
   refine V' (v_sls lk28 (oi lk29) (oi lk30) (by omega) (by omega) (by omega)) pt31 ?_
   refine E' (e_lit (SrcV_Span_27 (cvl lk31 rfl) rfl) (hl1 (hx_len hn)) ha1) pt32 ?_
   refine E' (e_app (sc_own lk32 (hga (hx_len hn) rfl) rfl SrcV_tk_1 (nb' rfl)) lk27 (hga (hx_len hn) rfl) (str_len _) (by omega) rfl (hs0 (hx_len hn))) pt33 ?_
   refine mv' lk33 pt5<|sn'<|w_reg<|mv' lk7 pt34<|?_
   refine V' (v_add lk34 lki (by omega) (by omega)) pt35 ?_
   refine mv' lk35 pt6<|s_nil<|n_blk<|n_seq<|w_reg<|mv' lk7 pt15<|?_
   refine V' (v_add lk15 lki (by omega) (by omega)) pt16 ?_
   refine mv' lk16 pt7<|s_nil<|n_thn<|?_
   refine lU' (⟨i+1,i+1,ps++[s.extract f i],v+1⟩) (by (try dsimp only);exact ⟨by omega,by omega,by simp;omega,fun h=>⟨clean_self,hseg⟩,fun h=>by omega⟩) (by (try dsimp only);(try simp only [setsT,setsE,z',s',rn',la',ln',Nat.reduceAdd]);exact bkE' 1 (hx_len hn) (hx_lt hlt takE_ltb) (by repeat (first | exact wk0 | refine wka ?_ | refine wk1 rfl ?_ | refine wk1 (by first | rfl | exact ivx (by omega) | (simp;done)) ?_)) (by simp only [rows_app,rows_one,strC];rfl))
  have hx:byteAt s i≠58:=byte_ne (n:=58) (by omega) hc3
  refine w_skip<|n_blk<|n_seq<|w_reg<|mv' lk7 pt15<|?_
  refine V' (v_add lk15 lki (by omega) (by omega)) pt16 ?_
  refine mv' lk16 pt7<|s_nil<|n_thn<|?_
  refine lU' (⟨f,i+1,ps,v⟩) (by (try dsimp only);exact ⟨by omega,by omega,by omega,fun h=>⟨clean_go hk6 hk2 hilt hx,hk7⟩,fun h=>by omega⟩) (by (try dsimp only);(try simp only [setsT,setsE,z',s',rn',la',ln',Nat.reduceAdd]);exact ALe.same (by repeat (first | exact wk0 | refine wka ?_ | refine wk1 rfl ?_ | refine wk1 (by first | rfl | exact ivx (by omega) | (simp;done)) ?_)) rfl)
 have hC:=hk5 (by omega)
 rw [hC] at hT0
 have hps:ps.length≤25:=by omega
 refine w_exit<|x_thn<|x_thn<|x_blk<|n_seq<|w_seq<|wr'<|mv' lk5 pt36<|V' (v_lenO lk36) pt37<|V' (v_neq lk37 lki) pt38<|mv' lk38 pt39<|?_
 refine sp' gt39 pt39 pt39 (fun hg39=>?_) (fun hg39=>?_)
 ·refine s_do gt39<|mv' lk5 pt40<|s_do gt39<|V' (v_lenO lk40) pt41<|s_do gt39<|V' (v_neq lk41 lki) pt42<|V' (v_pickT lk39 lk42) pt43<|sn'<|?_
  refine cd' lk43 (fun hc4=>?_) (fun hc4=>?_)
  ·rw [tSpanL_bad (by rw [List.length_map];omega) (by rw [List.length_map];omega)] at hT0
   refine wr'<|mv' lk0 pt44<|V' (v_nckp lk44) pt45<|V' (v_fap0 lk45) pt46<|E' (e_store lk46 (cvl lkb rfl) (hx_at hid) rfl (nb' rfl) rfl SrcV_sc1_1 (hx_set hid)) ptn<|sn'<|wr'<|mv' lki pt4<|sn'<|w_rets<|?_
   refine r_thn<|w_ret (rs1 (rr_t gt4))<|?_
   exact ⟨_,_,rfl,hx_len hn,hx_lt hlt takE_ltb,rfl,by rw [hT0],by rw [hT0]⟩
  have hl3:ps.length=3:=by omega
  have hl0:2≤ps.length:=by omega
  rw [tSpanL_three hl3] at hT0
  refine w_skip ?_
  refine n_seqw (ALe.iceR (hga (hx_len hn) rfl) gt5 (List.take_of_length_le (by rw [rows_len str_len1];first | exact Nat.le_refl _ | omega)) (by rw [rows_len str_len1];first | exact Nat.le_refl _ | omega) pt5 (hs0 (hx_len hn))) ?_
  refine w_seq<|w_drwU<|u_fr rfl (v_mv lk0) pt47<|u_fr rfl (v_mv lk5) pt48<|?_
  refine u_fr rfl (v_iaR (k:=0) lk48 lki str_len1 (nb' rfl) (by first | rfl | omega) (by omega) (by first | rfl | omega) rfl) pt49 ?_
  refine u_fr rfl (v_loadr lk49 gt0) pt50 ?_
  refine u_callU (mp1 lk47 (mp1 lk50 (mp1 lki (mp1 lki mp0)))) (hx_at hid) (fun hU hUe=>tnum_a (by omega) hUe) (by first | (simp [noHit];done) | (simp [noHit];omega) | (simp [noHit] <;> (try intros) <;> omega)) (hx_set hid) pt51 ?_
  have hb1:=tNum_bd (s:=ps[0]) (a:=1) (b:=2) (t:=t) (by omega)
  refine u_fr rfl (v_mul lki lk51 (by omega) (by omega)) pt52 ?_
  refine u_fr rfl (v_mv lk0) pt53<|u_fr rfl (v_mv lk5) pt54<|?_
  refine u_fr rfl (v_iaR (k:=1) lk54 lki str_len1 (nb' rfl) (by first | rfl | omega) (by omega) (by first | rfl | omega) rfl) pt55 ?_
  refine u_fr rfl (v_loadr lk55 gt0) pt56 ?_
  refine u_callU (mp1 lk53 (mp1 lk56 mp0)) (hx_at hid) (fun hU hUe=>tsix_a hUe) (by first | (simp [noHit];done) | (simp [noHit];omega) | (simp [noHit] <;> (try intros) <;> omega)) (hx_set hid) pt57 ?_
  have hb2:=tSix_bd (s:=ps[1]) (t:=(tNum ps[0] 1 2 t).2)
  refine u_fr rfl (v_mul lki lk57 (by omega) (by omega)) pt58 ?_
  refine u_fr rfl (v_add lk52 lk58 (by omega) (by omega)) pt59 ?_
  refine u_fr rfl (v_mv lk59) pt8<|u_nil<|n_seq<|w_seq<|wr'<|mv' lk5 pt60<|V' (v_lenL lk60) pt61<|V' (v_eql lk61 lki) pt62<|sn'<|?_
  refine w_condK lk62 (by simp [hl3]) ?_
  refine w_reg<|mv' lk8 pt63<|mv' lk0 pt64<|mv' lk5 pt65<|?_
  refine V' (v_iaR (k:=2) lk65 lki str_len1 (nb' rfl) (by first | rfl | omega) (by omega) (by first | rfl | omega) rfl) pt66 ?_
  refine V' (v_loadr lk66 gt0) pt67<|s_calls (mp1 lk64 (mp1 lk67 mp0)) (tsix_a (hx_at hid)) (hx_set hid) pt68<|?_
  have hb3:=tSix_bd (s:=ps[2]) (t:=(tSix ps[1] (tNum ps[0] 1 2 t).2).2)
  refine V' (v_add lk63 lk68 (by omega) (by omega)) pt69 ?_
  refine mv' lk69 pt8<|sn'<|wr'<|mv' lk8 (ptS pt0)<|mv' (lkS lk0) pt4<|sn'<|w_rets<|w_ret (rs1 (rr_t gt4))<|?_
  exact ⟨_,_,rfl,hx_len hn,hx_lt hlt takE_ltb,rfl,by rw [hT0] <;> rfl,by rw [hT0] <;> rfl⟩
 have hl2:ps.length=2:=by omega
 have hl0:2≤ps.length:=by omega
 rw [tSpanL_two hl2] at hT0
 refine s_no gt39 pt40<|s_no gt39 pt41<|s_no gt39 pt42<|V' (v_pickF lk39 lkb) pt43<|sn'<|w_condF lk43<|w_skip<|?_
 refine n_seqw (ALe.iceR (hga (hx_len hn) rfl) gt5 (List.take_of_length_le (by rw [rows_len str_len1];first | exact Nat.le_refl _ | omega)) (by rw [rows_len str_len1];first | exact Nat.le_refl _ | omega) pt5 (hs0 (hx_len hn))) ?_
 refine w_seq<|w_drwU<|u_fr rfl (v_mv lk0) pt47<|u_fr rfl (v_mv lk5) pt48<|?_
 refine u_fr rfl (v_iaR (k:=0) lk48 lki str_len1 (nb' rfl) (by first | rfl | omega) (by omega) (by first | rfl | omega) rfl) pt49 ?_
 refine u_fr rfl (v_loadr lk49 gt0) pt50 ?_
 refine u_callU (mp1 lk47 (mp1 lk50 (mp1 lki (mp1 lki mp0)))) (hx_at hid) (fun hU hUe=>tnum_a (by omega) hUe) (by first | (simp [noHit];done) | (simp [noHit];omega) | (simp [noHit] <;> (try intros) <;> omega)) (hx_set hid) pt51 ?_
 have hb1:=tNum_bd (s:=ps[0]) (a:=1) (b:=2) (t:=t) (by omega)
 refine u_fr rfl (v_mul lki lk51 (by omega) (by omega)) pt52 ?_
 refine u_fr rfl (v_mv lk0) pt53<|u_fr rfl (v_mv lk5) pt54<|?_
 refine u_fr rfl (v_iaR (k:=1) lk54 lki str_len1 (nb' rfl) (by first | rfl | omega) (by omega) (by first | rfl | omega) rfl) pt55 ?_
 refine u_fr rfl (v_loadr lk55 gt0) pt56 ?_
 refine u_callU (mp1 lk53 (mp1 lk56 mp0)) (hx_at hid) (fun hU hUe=>tsix_a hUe) (by first | (simp [noHit];done) | (simp [noHit];omega) | (simp [noHit] <;> (try intros) <;> omega)) (hx_set hid) pt57 ?_
 have hb2:=tSix_bd (s:=ps[1]) (t:=(tNum ps[0] 1 2 t).2)
 refine u_fr rfl (v_mul lki lk57 (by omega) (by omega)) pt58 ?_
 refine u_fr rfl (v_add lk52 lk58 (by omega) (by omega)) pt59 ?_
 refine u_fr rfl (v_mv lk59) pt8<|u_nil<|n_seq<|w_seq<|wr'<|mv' lk5 pt60<|V' (v_lenL lk60) pt61<|V' (v_eql lk61 lki) pt62<|sn'<|?_
 refine w_condKF lk62 (by simp [hl2]) ?_
 refine w_skip<|n_seq<|wr'<|mv' lk8 (ptS pt0)<|mv' (lkS lk0) pt4<|sn'<|w_rets<|w_ret (rs1 (rr_t gt4))<|?_
 exact ⟨_,_,rfl,hx_len hn,hx_lt hlt takE_ltb,rfl,by rw [hT0] <;> rfl,by rw [hT0] <;> rfl⟩
theorem tnext_e {t t1:TS}{s:ByteArray}{id:Nat}{h:AH}(he:tNext t=(s,t1)) (h1:h[id]?=some (takE t)):ACalls Tryz.prog 49 [.ptr id 0 0] h fun x h'=>x = .ret (sv s)∧h'=h.set id (takE t1):=by
 have:=tnext_a h1
 rw [he] at this
 exact this
theorem byteI_ne {s:ByteArray}{k:Nat}{n:Int}(h:¬((byteAt s (k:Int).toNat).toNat:Int)=n):byteI s k≠n:=h
set_option maxHeartbeats 1000000 in
theorem tform_a {t:TS}{id:Nat}{h:AH}(hz:(tNext t).1.size≤24) (h1:h[id]?=some (takE t)):ACalls Tryz.prog 91 [.ptr id 0 0] h fun x h'=>x = .ret (.agg [iv (tForm t).1.1,iv (tForm t).1.2.1,iv (tForm t).1.2.2])∧h'=h.set id (takE (tForm t).2):=by
 have hid:id<h.length:=(List.getElem?_eq_some_iff.1 h1).1
 obtain ⟨s,t1,he⟩ : ∃ s t1,tNext t=(s,t1):=⟨_,_,rfl⟩
 have hF:tForm t=tFormS s t1:=by unfold tForm;rw [he]
 rw [he] at hz
 replace hz:s.size≤24:=hz
 obtain ⟨q,hq⟩ : ∃ q,q=formK s:=⟨_,rfl⟩
 have hK:formK s=if 4≤s.size∧s.extract 0 4=bA [108,97,115,116] then 2 else if 5<s.size∧byteI s 4=61∧byteI s 3=62 then 3 else if 5<s.size∧byteI s 4=61∧byteI s 3=60 then 4 else 1:=rfl
 refine tJ' k91 fun N hn hlt hlA hbd=>?_
 simp only [tA',AV.bdL,AV.bd,and_true,true_and] at hbd ⊢
 refine aw_heap (h1:=h.set id (takE t)++[]) (by rw [hx_self h1]) ?_
 refine wr'<|E' (e_new (hl0 (hx_len hn)) ha0) pt2<|sn'<|wr'<|mv' lk0 pt5<|s_calls (mp1 lk5 mp0) (tnext_e he (hx_at hid)) (hx_set hid) pt6<|mv' lk6 pt3<|sn'<|w_seq<|w_seq<|?_
 refine w_reg<|mv' lk3 pt7<|V' (v_lenS lk7) pt8<|V' (v_geq lk8 lki) pt9<|mv' lk9 pt10<|?_
 refine sp' gt10 pt10 pt10 (fun hg10=>?_) (fun hg10=>?_)
 ·refine s_do gt10<|mv' lk3 pt11<|s_do gt10<|?_
  refine V' (v_sls lk11 on_ (oi lki) (by omega) (by omega) (by omega)) pt12 ?_
  refine s_do gt10<|V' (v_eqlS lk12 lks) pt13<|V' (v_pickT lk10 lk13) pt14<|sn'<|?_
  refine cd' lk14 (fun hc1=>?_) (fun hc1=>?_)
  ·have hk:formK s=2:=by rw [hK];exact if_pos ⟨by omega,hc1⟩
   have hT:tForm t=((2,(tWeek (s.extract 4 s.size) t1).1,0),(tWeek (s.extract 4 s.size) t1).2):=by rw [hF];unfold tFormS;rw [if_pos hk]
   refine wr'<|mv' lk0 pt15<|mv' lk3 pt16<|?_
   refine V' (v_sls lk16 (oi lki) on_ (by omega) (by omega) (by omega)) pt17 ?_
   refine s_calls (mp1 lk15 (mp1 lk17 mp0)) (tweek_a (hx_at hid)) (hx_set hid) pt18<|V' (v_build (SrcV_Form_17 (cvl lki rfl) rfl (cvl lk18 rfl) rfl)) pt19<|E' (e_store lk2 (cvl lk19 rfl) (hga (hx_len hn) rfl) rfl (nb' rfl) rfl SrcV_sc0_3 (hs0 (hx_len hn))) ptn<|sn'<|w_rets<|r_thn<|w_ret (rs1 (rr_c gt2 (hga (hx_len hn) rfl) (ld1 SrcV_tk0_3 rfl)))<|?_
   exact ⟨_,_,rfl,hx_len hn,hx_lt hlt takE_ltb,rfl,by rw [hT] <;> rfl,by rw [hT] <;> rfl⟩
  have hn2:¬(4≤s.size∧s.extract 0 4=bA [108,97,115,116]):=fun e=>hc1 e.2
  rw [if_neg hn2] at hK
  refine w_skip<|n_seq<|w_seq<|wr'<|mv' lk3 pt20<|V' (v_lenS lk20) pt21<|V' (v_gtr lk21 lki) pt22<|mv' lk22 pt23<|?_
  refine sp' gt23 pt23 pt23 (fun hg23=>?_) (fun hg23=>?_)
  ·refine s_do gt23<|mv' lk3 pt24<|s_do gt23<|?_
   refine V' (v_ix lk24 lki (by omega) (by omega)) pt25 ?_
   refine s_do gt23<|V' (v_eql lk25 lki) pt26<|V' (v_pickT lk23 lk26) pt27<|mv' lk27 pt28<|?_
   refine sp' gt28 pt28 pt28 (fun hg28=>?_) (fun hg28=>?_)
   ·refine s_do gt28<|mv' lk3 pt29<|s_do gt28<|?_
    refine V' (v_ix lk29 lki (by omega) (by omega)) pt30 ?_
    refine s_do gt28<|V' (v_eql lk30 lki) pt31<|s_do gt28<|mv' lk31 pt32<|?_
    refine sp' gt32 pt32 pt32 (fun hg32=>?_) (fun hg32=>?_)
    ·have hk:formK s=3:=by rw [hK];exact if_pos ⟨by omega,hg28,hg32⟩
     refine s_no gt32 pt33<|s_no gt32 pt34<|s_no gt32 pt35<|s_do gt28<|V' (v_pickT lk32 lkb) pt36<|V' (v_pickT lk28 lk36) pt37<|sn'<|w_condT lk37<|w_seq<|w_drwU<|u_fr rfl (v_mv lk0) pt38<|u_fr rfl (v_mv lk3) pt39<|?_
     refine u_fr rfl (v_sls lk39 on_ (oi lki) (by omega) (by omega) (by omega)) pt40 ?_
     refine u_callU (mp1 lk38 (mp1 lk40 mp0)) (hx_at hid) (fun hU hUe=>tweek_a hUe) (by first | (simp [noHit];done) | (simp [noHit];omega) | (simp [noHit] <;> (try intros) <;> omega)) (hx_set hid) pt41 ?_
     refine u_fr rfl (v_mv lk0) pt42<|u_fr rfl (v_mv lk3) pt43<|?_
     refine u_fr rfl (v_sls lk43 (oi lki) on_ (by omega) (by omega) (by omega)) pt44 ?_
     refine u_callU (mp1 lk42 (mp1 lk44 (mp1 lki (mp1 lki mp0)))) (hx_at hid) (fun hU hUe=>tnum_a (by omega) hUe) (by first | (simp [noHit];done) | (simp [noHit];omega) | (simp [noHit] <;> (try intros) <;> omega)) (hx_set hid) pt45 ?_
     refine u_fr rfl (v_build (SrcV_Form_45 (cvl lki rfl) rfl (cvl lk41 rfl) rfl (cvl lk45 rfl) rfl)) pt46 ?_
     refine u_al rfl (e_new (hl1 (hx_len hn)) ha1) (hl1 (hx_len hn)) (by first | (simp [noHit];done) | (simp [noHit];omega) | (simp [noHit] <;> (try intros) <;> omega)) pt4 ?_
     refine u_st (e_store lk4 (cvl lk46 rfl) (hga (hx_len hn) rfl) rfl (nb' rfl) rfl SrcV_sc0_3 (hs1 (hx_len hn))) lk4 (by first | (simp [noHit];done) | (simp [noHit];omega) | (simp [noHit] <;> (try intros) <;> omega)) ptn ?_
     refine u_nil<|n_seq<|w_seq<|wr'<|mv' lk3 pt47<|?_
     refine V' (v_ix lk47 lki (by omega) (by omega)) pt48 ?_
     refine V' (v_eql lk48 lki) pt49<|sn'<|?_
     refine w_condKF lk49 (by exact decide_eq_false (by rw [hg32];decide)) ?_
     refine w_skip<|n_seq<|wr'<|V' (v_loadpA lk4 (hga (hx_len hn) rfl) SrcV_tk0_3 rfl) pt51<|E' (e_store lk2 (cvl lk51 rfl) (hga (hx_len hn) rfl) rfl (nb' rfl) rfl SrcV_sc0_3 (hs0 (hx_len hn))) ptn<|sn'<|w_rets<|r_thn<|w_ret (rs1 (rr_c gt2 (hga (hx_len hn) rfl) (ld1 SrcV_tk0_3 rfl)))<|?_
     exact ⟨_,_,rfl,hx_len hn,hx_lt hlt takE_ltb,rfl,by rw [hF];unfold tFormS;rw [hk] <;> rfl,by rw [hF];unfold tFormS;rw [hk] <;> rfl⟩
    have h3:byteI s 3≠62:=byteI_ne hg32
    refine s_do gt32<|mv' lk3 pt33<|s_do gt32<|?_
    refine V' (v_ix lk33 lki (by omega) (by omega)) pt34 ?_
    refine s_do gt32<|V' (v_eql lk34 lki) pt35<|s_do gt28<|V' (v_pickF lk32 lk35) pt36<|V' (v_pickT lk28 lk36) pt37<|sn'<|?_
    refine cd' lk37 (fun hc2=>?_) (fun hc2=>?_)
    ·have hk:formK s=4:=by rw [hK,if_neg (fun e=>h3 e.2.2)];exact if_pos ⟨by omega,hg28,hc2⟩
     refine w_seq<|w_drwU<|u_fr rfl (v_mv lk0) pt38<|u_fr rfl (v_mv lk3) pt39<|?_
     refine u_fr rfl (v_sls lk39 on_ (oi lki) (by omega) (by omega) (by omega)) pt40 ?_
     refine u_callU (mp1 lk38 (mp1 lk40 mp0)) (hx_at hid) (fun hU hUe=>tweek_a hUe) (by first | (simp [noHit];done) | (simp [noHit];omega) | (simp [noHit] <;> (try intros) <;> omega)) (hx_set hid) pt41 ?_
     refine u_fr rfl (v_mv lk0) pt42<|u_fr rfl (v_mv lk3) pt43<|?_
     refine u_fr rfl (v_sls lk43 (oi lki) on_ (by omega) (by omega) (by omega)) pt44 ?_
     refine u_callU (mp1 lk42 (mp1 lk44 (mp1 lki (mp1 lki mp0)))) (hx_at hid) (fun hU hUe=>tnum_a (by omega) hUe) (by first | (simp [noHit];done) | (simp [noHit];omega) | (simp [noHit] <;> (try intros) <;> omega)) (hx_set hid) pt45 ?_
     refine u_fr rfl (v_build (SrcV_Form_45 (cvl lki rfl) rfl (cvl lk41 rfl) rfl (cvl lk45 rfl) rfl)) pt46 ?_
     refine u_al rfl (e_new (hl1 (hx_len hn)) ha1) (hl1 (hx_len hn)) (by first | (simp [noHit];done) | (simp [noHit];omega) | (simp [noHit] <;> (try intros) <;> omega)) pt4 ?_
     refine u_st (e_store lk4 (cvl lk46 rfl) (hga (hx_len hn) rfl) rfl (nb' rfl) rfl SrcV_sc0_3 (hs1 (hx_len hn))) lk4 (by first | (simp [noHit];done) | (simp [noHit];omega) | (simp [noHit] <;> (try intros) <;> omega)) ptn ?_
     refine u_nil<|n_seq<|w_seq<|wr'<|mv' lk3 pt47<|?_
     refine V' (v_ix lk47 lki (by omega) (by omega)) pt48 ?_
     refine V' (v_eql lk48 lki) pt49<|sn'<|?_
     refine w_condK lk49 (by exact decide_eq_true hc2) ?_
     refine w_reg<|V' (v_fap0 lk4) pt50<|E' (e_store lk50 (cvl lki rfl) (hga (hx_len hn) rfl) rfl (nb' rfl) rfl SrcV_sc0_1 (hs1 (hx_len hn))) ptn<|sn'<|wr'<|V' (v_loadpA lk4 (hga (hx_len hn) rfl) SrcV_tk0_3 rfl) pt51<|E' (e_store lk2 (cvl lk51 rfl) (hga (hx_len hn) rfl) rfl (nb' rfl) rfl SrcV_sc0_3 (hs0 (hx_len hn))) ptn<|sn'<|w_rets<|r_thn<|w_ret (rs1 (rr_c gt2 (hga (hx_len hn) rfl) (ld1 SrcV_tk0_3 rfl)))<|?_
     exact ⟨_,_,rfl,hx_len hn,hx_lt hlt takE_ltb,rfl,by rw [hF];unfold tFormS;rw [hk] <;> rfl,by rw [hF];unfold tFormS;rw [hk] <;> rfl⟩
    have h3':byteI s 3≠60:=byteI_ne hc2
    have hk:formK s=1:=by rw [hK,if_neg (fun e=>h3 e.2.2),if_neg (fun e=>h3' e.2.2)]
    refine w_skip<|n_seq<|wr'<|mv' lk0 pt52<|mv' lk3 pt53<|?_
    refine s_calls (mp1 lk52 (mp1 lk53 (mp1 lki (mp1 lki mp0)))) (tnum_a (by omega) (hx_at hid)) (hx_set hid) pt54 ?_
    refine V' (v_build (SrcV_Form_58 (cvl lki rfl) rfl (cvl lk54 rfl) rfl)) pt55<|E' (e_store lk2 (cvl lk55 rfl) (hga (hx_len hn) rfl) rfl (nb' rfl) rfl SrcV_sc0_3 (hs0 (hx_len hn))) ptn<|sn'<|w_rets<|w_ret (rs1 (rr_c gt2 (hga (hx_len hn) rfl) (ld1 SrcV_tk0_3 rfl)))<|?_
    exact ⟨_,_,rfl,hx_len hn,hx_lt hlt takE_ltb,rfl,by rw [hF];unfold tFormS;rw [hk] <;> rfl,by rw [hF];unfold tFormS;rw [hk] <;> rfl⟩
   have h4:byteI s 4≠61:=byteI_ne hg28
   have hk:formK s=1:=by rw [hK,if_neg (fun e=>h4 e.2.1),if_neg (fun e=>h4 e.2.1)]
   refine s_no gt28 pt29<|s_no gt28 pt30<|s_no gt28 pt31<|s_no gt28 pt32<|s_nu gt32 pt33<|s_nu gt32 pt34<|s_nu gt32 pt35<|s_no gt28 pt36<|V' (v_pickF lk28 lkb) pt37<|sn'<|w_condF lk37<|w_skip<|n_seq<|?_
   refine wr'<|mv' lk0 pt52<|mv' lk3 pt53<|?_
   refine s_calls (mp1 lk52 (mp1 lk53 (mp1 lki (mp1 lki mp0)))) (tnum_a (by omega) (hx_at hid)) (hx_set hid) pt54 ?_
   refine V' (v_build (SrcV_Form_58 (cvl lki rfl) rfl (cvl lk54 rfl) rfl)) pt55<|E' (e_store lk2 (cvl lk55 rfl) (hga (hx_len hn) rfl) rfl (nb' rfl) rfl SrcV_sc0_3 (hs0 (hx_len hn))) ptn<|sn'<|w_rets<|w_ret (rs1 (rr_c gt2 (hga (hx_len hn) rfl) (ld1 SrcV_tk0_3 rfl)))<|?_
   exact ⟨_,_,rfl,hx_len hn,hx_lt hlt takE_ltb,rfl,by rw [hF];unfold tFormS;rw [hk] <;> rfl,by rw [hF];unfold tFormS;rw [hk] <;> rfl⟩
  have hk:formK s=1:=by rw [hK,if_neg (by omega),if_neg (by omega)]
  refine s_no gt23 pt24<|s_no gt23 pt25<|s_no gt23 pt26<|V' (v_pickF lk23 lkb) pt27<|mv' lk27 pt28<|s_no gt28 pt29<|s_no gt28 pt30<|s_no gt28 pt31<|s_no gt28 pt32<|s_nu gt32 pt33<|s_nu gt32 pt34<|s_nu gt32 pt35<|s_no gt28 pt36<|V' (v_pickF lk28 lkb) pt37<|?_
  refine sn'<|w_condF lk37<|w_skip<|n_seq<|wr'<|mv' lk0 pt52<|mv' lk3 pt53<|?_
  refine s_calls (mp1 lk52 (mp1 lk53 (mp1 lki (mp1 lki mp0)))) (tnum_a (by omega) (hx_at hid)) (hx_set hid) pt54 ?_
  refine V' (v_build (SrcV_Form_58 (cvl lki rfl) rfl (cvl lk54 rfl) rfl)) pt55<|E' (e_store lk2 (cvl lk55 rfl) (hga (hx_len hn) rfl) rfl (nb' rfl) rfl SrcV_sc0_3 (hs0 (hx_len hn))) ptn<|sn'<|w_rets<|w_ret (rs1 (rr_c gt2 (hga (hx_len hn) rfl) (ld1 SrcV_tk0_3 rfl)))<|?_
  exact ⟨_,_,rfl,hx_len hn,hx_lt hlt takE_ltb,rfl,by rw [hF];unfold tFormS;rw [hk] <;> rfl,by rw [hF];unfold tFormS;rw [hk] <;> rfl⟩
 have hn2:¬(4≤s.size∧s.extract 0 4=bA [108,97,115,116]):=fun e=>by omega
 rw [if_neg hn2] at hK
 refine s_no gt10 pt11<|s_no gt10 pt12<|s_no gt10 pt13<|V' (v_pickF lk10 lkb) pt14<|sn'<|w_condF lk14<|w_skip<|n_seq<|w_seq<|wr'<|mv' lk3 pt20<|V' (v_lenS lk20) pt21<|?_
 refine V' (v_gtr lk21 lki) pt22<|mv' lk22 pt23<|?_
 refine sp' gt23 pt23 pt23 (fun hg23=>?_) (fun hg23=>?_)
 ·refine s_do gt23<|mv' lk3 pt24<|s_do gt23<|?_
  refine V' (v_ix lk24 lki (by omega) (by omega)) pt25 ?_
  refine s_do gt23<|V' (v_eql lk25 lki) pt26<|V' (v_pickT lk23 lk26) pt27<|mv' lk27 pt28<|?_
  refine sp' gt28 pt28 pt28 (fun hg28=>?_) (fun hg28=>?_)
  ·refine s_do gt28<|mv' lk3 pt29<|s_do gt28<|?_
   refine V' (v_ix lk29 lki (by omega) (by omega)) pt30 ?_
   refine s_do gt28<|V' (v_eql lk30 lki) pt31<|s_do gt28<|mv' lk31 pt32<|?_
   refine sp' gt32 pt32 pt32 (fun hg32=>?_) (fun hg32=>?_)
   ·have hk:formK s=3:=by rw [hK];exact if_pos ⟨by omega,hg28,hg32⟩
    refine s_no gt32 pt33<|s_no gt32 pt34<|s_no gt32 pt35<|s_do gt28<|V' (v_pickT lk32 lkb) pt36<|V' (v_pickT lk28 lk36) pt37<|sn'<|w_condT lk37<|w_seq<|w_drwU<|u_fr rfl (v_mv lk0) pt38<|u_fr rfl (v_mv lk3) pt39<|?_
    refine u_fr rfl (v_sls lk39 on_ (oi lki) (by omega) (by omega) (by omega)) pt40 ?_
    refine u_callU (mp1 lk38 (mp1 lk40 mp0)) (hx_at hid) (fun hU hUe=>tweek_a hUe) (by first | (simp [noHit];done) | (simp [noHit];omega) | (simp [noHit] <;> (try intros) <;> omega)) (hx_set hid) pt41 ?_
    refine u_fr rfl (v_mv lk0) pt42<|u_fr rfl (v_mv lk3) pt43<|?_
    refine u_fr rfl (v_sls lk43 (oi lki) on_ (by omega) (by omega) (by omega)) pt44 ?_
    refine u_callU (mp1 lk42 (mp1 lk44 (mp1 lki (mp1 lki mp0)))) (hx_at hid) (fun hU hUe=>tnum_a (by omega) hUe) (by first | (simp [noHit];done) | (simp [noHit];omega) | (simp [noHit] <;> (try intros) <;> omega)) (hx_set hid) pt45 ?_
    refine u_fr rfl (v_build (SrcV_Form_45 (cvl lki rfl) rfl (cvl lk41 rfl) rfl (cvl lk45 rfl) rfl)) pt46 ?_
    refine u_al rfl (e_new (hl1 (hx_len hn)) ha1) (hl1 (hx_len hn)) (by first | (simp [noHit];done) | (simp [noHit];omega) | (simp [noHit] <;> (try intros) <;> omega)) pt4 ?_
    refine u_st (e_store lk4 (cvl lk46 rfl) (hga (hx_len hn) rfl) rfl (nb' rfl) rfl SrcV_sc0_3 (hs1 (hx_len hn))) lk4 (by first | (simp [noHit];done) | (simp [noHit];omega) | (simp [noHit] <;> (try intros) <;> omega)) ptn ?_
    refine u_nil<|n_seq<|w_seq<|wr'<|mv' lk3 pt47<|?_
    refine V' (v_ix lk47 lki (by omega) (by omega)) pt48 ?_
    refine V' (v_eql lk48 lki) pt49<|sn'<|?_
    refine w_condKF lk49 (by exact decide_eq_false (by rw [hg32];decide)) ?_
    refine w_skip<|n_seq<|wr'<|V' (v_loadpA lk4 (hga (hx_len hn) rfl) SrcV_tk0_3 rfl) pt51<|E' (e_store lk2 (cvl lk51 rfl) (hga (hx_len hn) rfl) rfl (nb' rfl) rfl SrcV_sc0_3 (hs0 (hx_len hn))) ptn<|sn'<|w_rets<|r_thn<|w_ret (rs1 (rr_c gt2 (hga (hx_len hn) rfl) (ld1 SrcV_tk0_3 rfl)))<|?_
    exact ⟨_,_,rfl,hx_len hn,hx_lt hlt takE_ltb,rfl,by rw [hF];unfold tFormS;rw [hk] <;> rfl,by rw [hF];unfold tFormS;rw [hk] <;> rfl⟩
   have h3:byteI s 3≠62:=byteI_ne hg32
   refine s_do gt32<|mv' lk3 pt33<|s_do gt32<|?_
   refine V' (v_ix lk33 lki (by omega) (by omega)) pt34 ?_
   refine s_do gt32<|V' (v_eql lk34 lki) pt35<|s_do gt28<|V' (v_pickF lk32 lk35) pt36<|V' (v_pickT lk28 lk36) pt37<|sn'<|?_
   refine cd' lk37 (fun hc2=>?_) (fun hc2=>?_)
   ·have hk:formK s=4:=by rw [hK,if_neg (fun e=>h3 e.2.2)];exact if_pos ⟨by omega,hg28,hc2⟩
    refine w_seq<|w_drwU<|u_fr rfl (v_mv lk0) pt38<|u_fr rfl (v_mv lk3) pt39<|?_
    refine u_fr rfl (v_sls lk39 on_ (oi lki) (by omega) (by omega) (by omega)) pt40 ?_
    refine u_callU (mp1 lk38 (mp1 lk40 mp0)) (hx_at hid) (fun hU hUe=>tweek_a hUe) (by first | (simp [noHit];done) | (simp [noHit];omega) | (simp [noHit] <;> (try intros) <;> omega)) (hx_set hid) pt41 ?_
    refine u_fr rfl (v_mv lk0) pt42<|u_fr rfl (v_mv lk3) pt43<|?_
    refine u_fr rfl (v_sls lk43 (oi lki) on_ (by omega) (by omega) (by omega)) pt44 ?_
    refine u_callU (mp1 lk42 (mp1 lk44 (mp1 lki (mp1 lki mp0)))) (hx_at hid) (fun hU hUe=>tnum_a (by omega) hUe) (by first | (simp [noHit];done) | (simp [noHit];omega) | (simp [noHit] <;> (try intros) <;> omega)) (hx_set hid) pt45 ?_
    refine u_fr rfl (v_build (SrcV_Form_45 (cvl lki rfl) rfl (cvl lk41 rfl) rfl (cvl lk45 rfl) rfl)) pt46 ?_
    refine u_al rfl (e_new (hl1 (hx_len hn)) ha1) (hl1 (hx_len hn)) (by first | (simp [noHit];done) | (simp [noHit];omega) | (simp [noHit] <;> (try intros) <;> omega)) pt4 ?_
    refine u_st (e_store lk4 (cvl lk46 rfl) (hga (hx_len hn) rfl) rfl (nb' rfl) rfl SrcV_sc0_3 (hs1 (hx_len hn))) lk4 (by first | (simp [noHit];done) | (simp [noHit];omega) | (simp [noHit] <;> (try intros) <;> omega)) ptn ?_
    refine u_nil<|n_seq<|w_seq<|wr'<|mv' lk3 pt47<|?_
    refine V' (v_ix lk47 lki (by omega) (by omega)) pt48 ?_
    refine V' (v_eql lk48 lki) pt49<|sn'<|?_
    refine w_condK lk49 (by exact decide_eq_true hc2) ?_
    refine w_reg<|V' (v_fap0 lk4) pt50<|E' (e_store lk50 (cvl lki rfl) (hga (hx_len hn) rfl) rfl (nb' rfl) rfl SrcV_sc0_1 (hs1 (hx_len hn))) ptn<|sn'<|wr'<|V' (v_loadpA lk4 (hga (hx_len hn) rfl) SrcV_tk0_3 rfl) pt51<|E' (e_store lk2 (cvl lk51 rfl) (hga (hx_len hn) rfl) rfl (nb' rfl) rfl SrcV_sc0_3 (hs0 (hx_len hn))) ptn<|sn'<|w_rets<|r_thn<|w_ret (rs1 (rr_c gt2 (hga (hx_len hn) rfl) (ld1 SrcV_tk0_3 rfl)))<|?_
    exact ⟨_,_,rfl,hx_len hn,hx_lt hlt takE_ltb,rfl,by rw [hF];unfold tFormS;rw [hk] <;> rfl,by rw [hF];unfold tFormS;rw [hk] <;> rfl⟩
   have h3':byteI s 3≠60:=byteI_ne hc2
   have hk:formK s=1:=by rw [hK,if_neg (fun e=>h3 e.2.2),if_neg (fun e=>h3' e.2.2)]
   refine w_skip<|n_seq<|wr'<|mv' lk0 pt52<|mv' lk3 pt53<|?_
   refine s_calls (mp1 lk52 (mp1 lk53 (mp1 lki (mp1 lki mp0)))) (tnum_a (by omega) (hx_at hid)) (hx_set hid) pt54 ?_
   refine V' (v_build (SrcV_Form_58 (cvl lki rfl) rfl (cvl lk54 rfl) rfl)) pt55<|E' (e_store lk2 (cvl lk55 rfl) (hga (hx_len hn) rfl) rfl (nb' rfl) rfl SrcV_sc0_3 (hs0 (hx_len hn))) ptn<|sn'<|w_rets<|w_ret (rs1 (rr_c gt2 (hga (hx_len hn) rfl) (ld1 SrcV_tk0_3 rfl)))<|?_
   exact ⟨_,_,rfl,hx_len hn,hx_lt hlt takE_ltb,rfl,by rw [hF];unfold tFormS;rw [hk] <;> rfl,by rw [hF];unfold tFormS;rw [hk] <;> rfl⟩
  have h4:byteI s 4≠61:=byteI_ne hg28
  have hk:formK s=1:=by rw [hK,if_neg (fun e=>h4 e.2.1),if_neg (fun e=>h4 e.2.1)]
  refine s_no gt28 pt29<|s_no gt28 pt30<|s_no gt28 pt31<|s_no gt28 pt32<|s_nu gt32 pt33<|s_nu gt32 pt34<|s_nu gt32 pt35<|s_no gt28 pt36<|V' (v_pickF lk28 lkb) pt37<|sn'<|w_condF lk37<|w_skip<|n_seq<|?_
  refine wr'<|mv' lk0 pt52<|mv' lk3 pt53<|?_
  refine s_calls (mp1 lk52 (mp1 lk53 (mp1 lki (mp1 lki mp0)))) (tnum_a (by omega) (hx_at hid)) (hx_set hid) pt54 ?_
  refine V' (v_build (SrcV_Form_58 (cvl lki rfl) rfl (cvl lk54 rfl) rfl)) pt55<|E' (e_store lk2 (cvl lk55 rfl) (hga (hx_len hn) rfl) rfl (nb' rfl) rfl SrcV_sc0_3 (hs0 (hx_len hn))) ptn<|sn'<|w_rets<|w_ret (rs1 (rr_c gt2 (hga (hx_len hn) rfl) (ld1 SrcV_tk0_3 rfl)))<|?_
  exact ⟨_,_,rfl,hx_len hn,hx_lt hlt takE_ltb,rfl,by rw [hF];unfold tFormS;rw [hk] <;> rfl,by rw [hF];unfold tFormS;rw [hk] <;> rfl⟩
 have hk:formK s=1:=by rw [hK,if_neg (by omega),if_neg (by omega)]
 refine s_no gt23 pt24<|s_no gt23 pt25<|s_no gt23 pt26<|V' (v_pickF lk23 lkb) pt27<|mv' lk27 pt28<|s_no gt28 pt29<|s_no gt28 pt30<|s_no gt28 pt31<|s_no gt28 pt32<|s_nu gt32 pt33<|s_nu gt32 pt34<|s_nu gt32 pt35<|s_no gt28 pt36<|V' (v_pickF lk28 lkb) pt37<|?_
 refine sn'<|w_condF lk37<|w_skip<|n_seq<|wr'<|mv' lk0 pt52<|mv' lk3 pt53<|?_
 refine s_calls (mp1 lk52 (mp1 lk53 (mp1 lki (mp1 lki mp0)))) (tnum_a (by omega) (hx_at hid)) (hx_set hid) pt54 ?_
 refine V' (v_build (SrcV_Form_58 (cvl lki rfl) rfl (cvl lk54 rfl) rfl)) pt55<|E' (e_store lk2 (cvl lk55 rfl) (hga (hx_len hn) rfl) rfl (nb' rfl) rfl SrcV_sc0_3 (hs0 (hx_len hn))) ptn<|sn'<|w_rets<|w_ret (rs1 (rr_c gt2 (hga (hx_len hn) rfl) (ld1 SrcV_tk0_3 rfl)))<|?_
 exact ⟨_,_,rfl,hx_len hn,hx_lt hlt takE_ltb,rfl,by rw [hF];unfold tFormS;rw [hk] <;> rfl,by rw [hF];unfold tFormS;rw [hk] <;> rfl⟩
theorem kindU_bd {c d:Int}(hd:d=1∨d=2) : ∀ k:Nat,k≤3→1≤kindU c d k∧kindU c d k≤3
 | 0,_=>by unfold kindU;omega
 | k+1,h=>by
  have:=kindU_bd (c:=c) hd k (by omega)
  unfold kindU
  split <;> omega
theorem tclock_a {d:Int}{t:TS}{id:Nat}{h:AH}(hd:d=1∨d=2) (hz:(tNext t).1.size≤24) (h1:h[id]?=some (takE t)):ACalls Tryz.prog 90 [.ptr id 0 0,iv d] h fun x h'=>x = .ret (.tup [iv (tClock d t).1.1,iv (tClock d t).1.2])∧h'=h.set id (takE (tClock d t).2):=by
 have hid:id<h.length:=(List.getElem?_eq_some_iff.1 h1).1
 obtain ⟨s,t1,he⟩ : ∃ s t1,tNext t=(s,t1):=⟨_,_,rfl⟩
 have hF:tClock d t=tClockS d s t1:=by unfold tClock;rw [he]
 rw [he] at hz
 replace hz:s.size≤24:=hz
 have hem:=emp_size (f:=s)
 have hkb:=kindU_bd (c:=lastI s) hd 3 (by omega)
 have hws:(⟨#[63,119,115,117]⟩:ByteArray).size=4:=rfl
 refine tJ' k90 fun N hn hlt hlA hbd=>?_
 simp only [tA',AV.bdL,AV.bd,and_true,true_and] at hbd ⊢
 refine aw_heap (h1:=h.set id (takE t)++[]) (by rw [hx_self h1]) ?_
 refine wr'<|mv' lki pt4<|mv' lki pt5<|sn'<|wr'<|mv' lk0 pt9<|s_calls (mp1 lk9 mp0) (tnext_e he (hx_at hid)) (hx_set hid) pt10<|mv' lk10 pt6<|sn'<|w_seq<|?_
 refine w_reg<|mv' lk1 pt11<|mv' lk11 pt7<|sn'<|w_seq<|wr'<|mv' lk6 pt12<|V' (v_neqS lk12 lks) pt13<|sn'<|?_
 refine cd' lk13 (fun hc1=>?_) (fun hc1=>?_)
 ·have h0:s.size≠0:=fun e=>hc1 (hem.2 e)
  have hL:((byteAt s ((s.size:Int)-1).toNat).toNat:Int)=lastI s:=by unfold lastI byteI;congr 2;congr 1;omega
  have hbl:(0:Int)≤((byteAt s ((s.size:Int)-1).toNat).toNat:Int)∧((byteAt s ((s.size:Int)-1).toNat).toNat:Int)≤255:=byte_bd _ _
  refine w_seq<|wr'<|mv' lki pt8<|sn'<|w_block<|?_
  refine w_lp (ι:=Nat) (fun (k:Nat)=>[(7,iv (kindU (lastI s) d k)),(8,iv ((k+1:Nat):Int))]++rn' 14 13) (fun (k:Nat)=>[]) (fun (k:Nat)=>k≤3) (fun (k:Nat)=>3-k) (0) (by omega) ?_
  rintro k hi1
  try simp only [setsT,setsE,z',s',rn',la',ln',Nat.reduceAdd]
  refine w_seq<|wr'<|mv' lk8 pt14<|V' (v_leq lk14 lki) pt15<|sn'<|?_
  refine cd' lk15 (fun hc2=>?_) (fun hc2=>?_)
  ·have hk:k+1≤3:=by omega
   refine w_skip<|n_seq<|w_seq<|w_block<|w_seq<|w_drwE<|D' (v_mv lk6) pt18<|D' (v_mv lk6) pt19<|D' (v_lenS lk19) pt20<|?_
   refine D' (v_sub lk20 lki (by omega) (by omega)) pt21 ?_
   refine D' (v_ix lk18 lk21 (by omega) (by omega)) pt22 ?_
   refine D' (v_mv lk8) pt23 ?_
   refine D' (v_ix lks lk23 (by omega) (by omega)) pt24 ?_
   refine D' (v_eql lk22 lk24) pt25<|d_nil<|?_
   refine e_nil ?_
   refine sn' ?_
   refine cd' lk25 (fun hc3=>?_) (fun hc3=>?_)
   ·have hkk:kindU (lastI s) d (k+1)=((k+1:Nat):Int):=by unfold kindU;exact if_pos (hL.symm.trans hc3)
    refine w_reg<|mv' lk8 pt26<|mv' lk26 pt7<|s_nil<|n_blk<|n_seq<|w_reg<|mv' lk8 pt16<|?_
    refine V' (v_add lk16 lki (by omega) (by omega)) pt17 ?_
    refine mv' lk17 pt8<|s_nil<|n_thn<|?_
    refine lU' (k+1) (by (try dsimp only);omega) (by (try dsimp only);(try simp only [setsT,setsE,z',s',rn',la',ln',Nat.reduceAdd]);exact ALe.same (by repeat (first | exact wk0 | refine wka ?_ | refine wk1 rfl ?_ | refine wk1 (by first | rfl | exact ivx (by omega) | exact ivx hkk.symm) ?_)) rfl)
   have hkk:kindU (lastI s) d (k+1)=kindU (lastI s) d k:=by rw [kindU,if_neg (show ¬lastI s=byteI wsuA (k+1) from fun e=>hc3 (hL.trans e))]
   refine w_skip<|n_blk<|n_seq<|w_reg<|mv' lk8 pt16<|?_
   refine V' (v_add lk16 lki (by omega) (by omega)) pt17 ?_
   refine mv' lk17 pt8<|s_nil<|n_thn<|?_
   refine lU' (k+1) (by (try dsimp only);omega) (by (try dsimp only);(try simp only [setsT,setsE,z',s',rn',la',ln',Nat.reduceAdd]);exact ALe.same (by repeat (first | exact wk0 | refine wka ?_ | refine wk1 rfl ?_ | refine wk1 (by first | rfl | exact ivx (by omega) | exact ivx hkk.symm) ?_)) rfl)
  have hk3:k=3:=by omega
  subst hk3
  refine w_exit<|x_thn<|x_thn<|x_blk<|n_seq<|wr'<|mv' lk6 pt27<|mv' lk6 pt28<|V' (v_lenS lk28) pt29<|?_
  refine V' (v_sub lk29 lki (by omega) (by omega)) pt30 ?_
  refine V' (v_ix lk27 lk30 (by omega) (by omega)) pt31 ?_
  refine s_callp (mp1 lk31 mp0) (risDigit_a hbl.1 hbl.2) pt32<|V' (v_notB lk32) pt33<|sn'<|?_
  refine w_condB lk33 (fun hc4=>?_) (fun hc4=>?_)
  ·have hdg:¬digB (lastI s)=true:=by rw [←hL];simpa using hc4
   refine w_seq<|w_seq<|w_drwE<|D' (v_mv lk6) pt34<|D' (v_mv lk6) pt35<|D' (v_lenS lk35) pt36<|?_
   refine D' (v_sub lk36 lki (by omega) (by omega)) pt37 ?_
   refine D' (v_ix lk34 lk37 (by omega) (by omega)) pt38 ?_
   refine D' (v_mv lk7) pt39 ?_
   refine D' (v_ix lks lk39 (by omega) (by omega)) pt40 ?_
   refine D' (v_neq lk38 lk40) pt41<|d_nil<|?_
   refine e_nil ?_
   refine sn' ?_
   refine cd' lk41 (fun hc5=>?_) (fun hc5=>?_)
   ·have hne:¬lastI s=byteI wsuA (kindU (lastI s) d 3).toNat:=fun e=>hc5 (hL.trans e)
    have hT:tClock d t=(((tSpan (s.extract 0 (s.size-1)) (bad t1)).1,kindU (lastI s) d 3),(tSpan (s.extract 0 (s.size-1)) (bad t1)).2):=by rw [hF];unfold tClockS;rw [if_neg h0,if_neg hdg];simp only [if_neg hne]
    refine w_reg<|mv' lk0 pt42<|V' (v_nckp lk42) pt43<|V' (v_fap0 lk43) pt44<|E' (e_store lk44 (cvl lkb rfl) (hx_at hid) rfl (nb' rfl) rfl SrcV_sc1_1 (hx_set hid)) ptn<|sn'<|w_reg<|mv' lk6 pt45<|mv' lk6 pt46<|V' (v_lenS lk46) pt47<|?_
    refine V' (v_sub lk47 lki (by omega) (by omega)) pt48 ?_
    refine V' (v_sls lk45 on_ (oi lk48) (by omega) (by omega) (by omega)) pt49 ?_
    rw [show s.extract (Int.toNat 0) ((s.size:Int)-1).toNat=s.extract 0 (s.size-1) by congr 1;omega]
    refine mv' lk49 pt6<|sn'<|wr'<|mv' lk0 pt50<|mv' lk6 pt51<|?_
    refine s_calls (mp1 lk50 (mp1 lk51 mp0)) (tspan_a (t:=bad t1) (by first | assumption | (rw [ByteArray.size_extract];omega)) (hx_at hid)) (hx_set hid) pt52 ?_
    refine mv' lk7 pt53<|mv' lk52 pt4<|mv' lk53 pt5<|sn'<|w_rets<|w_ret (rsn (rm1 (rr_t gt4) (rm1 (rr_t gt5) rm0)))<|?_
    exact ⟨_,_,rfl,hx_len hn,hx_lt hlt takE_ltb,rfl,by rw [hT] <;> rfl,by rw [hT] <;> rfl⟩
   have hne:lastI s=byteI wsuA (kindU (lastI s) d 3).toNat:=hL.symm.trans (Decidable.of_not_not hc5)
   have hT:tClock d t=(((tSpan (s.extract 0 (s.size-1)) t1).1,kindU (lastI s) d 3),(tSpan (s.extract 0 (s.size-1)) t1).2):=by rw [hF];unfold tClockS;rw [if_neg h0,if_neg hdg];simp only [if_pos hne]
   refine w_skip<|n_seq<|w_reg<|mv' lk6 pt45<|mv' lk6 pt46<|V' (v_lenS lk46) pt47<|?_
   refine V' (v_sub lk47 lki (by omega) (by omega)) pt48 ?_
   refine V' (v_sls lk45 on_ (oi lk48) (by omega) (by omega) (by omega)) pt49 ?_
   rw [show s.extract (Int.toNat 0) ((s.size:Int)-1).toNat=s.extract 0 (s.size-1) by congr 1;omega]
   refine mv' lk49 pt6<|sn'<|wr'<|mv' lk0 pt50<|mv' lk6 pt51<|?_
   refine s_calls (mp1 lk50 (mp1 lk51 mp0)) (tspan_a (t:=t1) (by first | assumption | (rw [ByteArray.size_extract];omega)) (hx_at hid)) (hx_set hid) pt52 ?_
   refine mv' lk7 pt53<|mv' lk52 pt4<|mv' lk53 pt5<|sn'<|w_rets<|w_ret (rsn (rm1 (rr_t gt4) (rm1 (rr_t gt5) rm0)))<|?_
   exact ⟨_,_,rfl,hx_len hn,hx_lt hlt takE_ltb,rfl,by rw [hT] <;> rfl,by rw [hT] <;> rfl⟩
  have hdg:digB (lastI s)=true:=by rw [←hL];simpa using hc4
  have hT:tClock d t=(((tSpan s t1).1,kindU (lastI s) d 3),(tSpan s t1).2):=by rw [hF];unfold tClockS;rw [if_neg h0,if_pos hdg]
  refine w_skip<|n_seq<|wr'<|mv' lk0 pt50<|mv' lk6 pt51<|?_
  refine s_calls (mp1 lk50 (mp1 lk51 mp0)) (tspan_a (t:=t1) (by first | assumption | (rw [ByteArray.size_extract];omega)) (hx_at hid)) (hx_set hid) pt52 ?_
  refine mv' lk7 pt53<|mv' lk52 pt4<|mv' lk53 pt5<|sn'<|w_rets<|w_ret (rsn (rm1 (rr_t gt4) (rm1 (rr_t gt5) rm0)))<|?_
  exact ⟨_,_,rfl,hx_len hn,hx_lt hlt takE_ltb,rfl,by rw [hT] <;> rfl,by rw [hT] <;> rfl⟩
 have h0:s.size=0:=hem.1 (Decidable.of_not_not hc1)
 have hT:tClock d t=(((tSpan s t1).1,d),(tSpan s t1).2):=by rw [hF];exact if_pos h0
 refine w_skip<|n_seq<|wr'<|mv' lk0 pt50<|mv' lk6 pt51<|?_
 refine s_calls (mp1 lk50 (mp1 lk51 mp0)) (tspan_a (t:=t1) (by first | assumption | (rw [ByteArray.size_extract];omega)) (hx_at hid)) (hx_set hid) pt52 ?_
 refine mv' lk7 pt53<|mv' lk52 pt4<|mv' lk53 pt5<|sn'<|w_rets<|w_ret (rsn (rm1 (rr_t gt4) (rm1 (rr_t gt5) rm0)))<|?_
 exact ⟨_,_,rfl,hx_len hn,hx_lt hlt takE_ltb,rfl,by rw [hT] <;> rfl,by rw [hT] <;> rfl⟩
end Go.Proofs.YtgjchdhdopgkkaaGreatDoor
end
section
namespace Go.Ab
section
variable {P : Program} {n0 : Nat} {Q : AX → List AV → AH → Prop} {T : List AV} {h : AH} {a : AC}
theorem w_seqH {b:AC}{ι:Type}(f:ι→List (Nat×AV)) (H:ι→AH) (J:ι→Prop) (ha:aw P n0 a (AX.thn (fun T' h' => ∃ i,J i∧ALe n0 T' h' (setsT T (f i)) (H i)) Q) T h) (hb : ∀ i,J i→aw P n0 b Q (setsT T (f i)) (H i)):aw P n0 (.seq a b) Q T h :=
 w_seqc (fun i=>(setsT T (f i),H i)) J ha hb
theorem SimH.renew {w:World}{g:Gh}{h:AH}(hs:SimH w g h) {id v':Nat}(hid:id<h.length) (hb : ∀ ver l,g.loc id ver=some l→ver<v') (A:Option Addr) (ty st:Nat) :
  SimH w (g.add id v' (A,0)) (h.set id (.mk v' ty st []))∧g.le (g.add id v' (A,0)) ∧ ∀ k,Ow (g.add id v' (A,0)) (h.set id (.mk v' ty st [])) k→Ow g h k:=by
 have hloc : ∀ i v l,g.loc i v=some l→(g.add id v' (A,0)).loc i v=some l:=by
  intro i v l hi
  simp only [Gh.add]
  rw [if_neg]
  ·exact hi
  ·rintro ⟨rfl,rfl⟩;exact Nat.lt_irrefl _ (hb _ _ hi)
 have:=hs.put (w':=w) (g':=g.add id v' (A,0)) (h':=h.set id (.mk v' ty st [])) id v' ty st [] A 0 ?_ ?_ ?_ rfl hloc ?_ ?_ (fun v l hl=>Nat.le_of_lt (hb v l hl)) (fun k hk=>rfl) (Nat.le_refl _) (by simp [maxLen]) (.inl ⟨rfl,rfl⟩) (fun _ _ h=>absurd rfl h)
 ·exact ⟨this.1,this.2.1,fun k hk=>(this.2.2 k hk).resolve_right (fun h=>h.2 rfl)⟩
 ·intro i hi
  rw [List.getElem?_set_ne (Ne.symm hi)]
 ·rw [List.getElem?_set_self hid]
 ·simp
 ·intro i v l hi
  simp only [Gh.add] at hi
  split at hi
  ·right;assumption
  ·left;exact hi
 ·simp [Gh.add]
theorem set_set_comm {h:AH}{i j:Nat}{x y z:Ent}(hne:j≠i):((h.set i x).set j y).set i z=(h.set i z).set j y:=by
 rw [List.set_comm _ _ hne,List.set_set]
theorem ALe.iceCellNew {T:List AV}{h h1 h2:AH}{id j ver ty s n k v' t' s' ty2 st2:Nat}{cells cs cs' ds:List AV}(hi:h[id]?=some (.mk ver ty s cells)) (hj:h[j]?=some (.mk v' t' s' cs)) (hne:j≠id) (hk:cs[k]?=some (.own id ver n)) (hc:cells.take (n*s)=ds) (hl:n*s≤cells.length) (hp:aPut cs (some k) (.sl n s false ds)=cs')
  (e1:h.set id (.mk (ver+1) ty2 st2 [])=h1) (e2:h1.set j (.mk v' t' s' cs')=h2):ALe n0 T h T h2:=fun w0 S0 g0 a w g st=>by
 subst hp hc e1 e2
 have hid:id<h.length:=(List.getElem?_eq_some_iff.1 hi).1
 obtain ⟨h1,h2,h3⟩:=st.sim.ice hi
 have htm:=RepL.mono (g.le_ice h id) (fun _ _=>rfl) _ _ st.tmps
 obtain ⟨k1,k2⟩:=h1.tell (id:=j) (by rw [List.getElem?_set_ne (Ne.symm hne)];exact hj) hk (fun u hu=>h3 n u hl (by
  simp only [Rep] at hu ⊢
  exact hu))
 obtain ⟨r1,r2,r3⟩:=k1.renew (id:=id) (v':=ver+1) (by simpa using hid) (fun v l hv=>by
  have:=(st.sim.fresh id v l hv).2 _ _ _ _ hi
  omega) none ty2 st2
 have htm2:=RepL.mono r2 (fun _ _=>rfl) _ _ htm
 rw [set_set_comm hne] at r1 r3
 exact ⟨_,htm2,st.defers,r1,st.fr,(st.le.trans (g.le_ice h id)).trans r2,st.bd,fun i hi=>st.ow i (h2 i (k2 i (r3 i hi)))⟩
theorem ALe.own0CellRe {T:List AV}{h h1:AH}{id j ver ty s v' t' s' k st st2 ty2:Nat}{cells cs ds cs':List AV}(hi:h[id]?=some (.mk ver ty s cells)) (hj:h[j]?=some (.mk v' t' s' cs)) (hne:j≠id) (hk:cs[k]?=some (.sl 0 st true ds)) (hp:aPut cs (some k) (.own id (ver+1) 0)=cs') (he:(h.set id (Ent.mk (ver+1) ty2 st2 [])).set j (Ent.mk v' t' s' cs')=h1):ALe n0 T h T h1:=fun w0 S0 g0 a w g s=>by
 subst he hp
 obtain ⟨A1,cap1,l1,l2,l3⟩:=s.sim.ent _ _ _ _ _ hj
 have hid:id<h.length:=(List.getElem?_eq_some_iff.1 hi).1
 have hjl:j<h.length:=(List.getElem?_eq_some_iff.1 hj).1
 rcases l3 with ⟨h0,_⟩ | ⟨b,arr,rfl,x1,x2,x3,x4,x5,x6⟩
 ·rw [h0] at hk;simp at hk
 obtain ⟨u,hu,hr⟩:=x6.get hk
 have hcell:w.cell? ⟨b,k,none⟩=some u:=by
  rw [cell_of_row w b k arr t' (0,0) x3]
  rw [List.getElem?_take] at hu
  split at hu
  ·simpa using hu
  ·cases hu
 simp only [Rep] at hr
 obtain ⟨_,A,cap,rfl,_,_,hc,_,_⟩:=hr
 obtain rfl:cap=0:=(hc trivial).symm
 obtain ⟨q1,q2,q3⟩:=s.sim.renew (id:=id) (v':=ver+1) hid (fun v l hv=>by
  have:=(s.sim.fresh id v l hv).2 _ _ _ _ hi
  omega) A ty2 st2
 have htm:=RepL.mono q2 (fun _ _=>rfl) _ _ s.tmps
 obtain ⟨r1,r2⟩:=q1.tell1 (id:=j) (c':=.own id (ver+1) 0) (by rw [List.getElem?_set_ne (Ne.symm hne)];exact hj) hk (by
  intro b' cap' u' e1 e2 _
  have:=q2.loc _ _ _ l1
  rw [this] at e1
  simp only [Option.some.injEq,Prod.mk.injEq,Addr.mk.injEq] at e1
  obtain ⟨⟨rfl,_⟩,_⟩:=e1
  rw [hcell] at e2
  cases e2
  exact rep_own_new (Nat.le_refl _) (by simp [maxLen]))
 exact ⟨_,htm,s.defers,r1,s.fr,s.le.trans q2,s.bd,fun i hi=>s.ow i (q3 i (r2 i hi))⟩
theorem ALe.newEnt {T:List AV}{h h1:AH}{ty st:Nat}(he:h++[.mk 0 ty st []]=h1):ALe n0 T h T h1:=fun w0 S0 g0 a w g s=>by
 subst he
 obtain ⟨q1,q2,q3⟩:=s.sim.add0 (w':=w) none ty st (fun _ _=>rfl) (Nat.le_refl _)
 exact ⟨_,RepL.mono q2 (fun _ _=>rfl) _ _ s.tmps,s.defers,q1,s.fr,s.le.trans q2,s.bd,fun i hi=>(q3 i hi).elim (s.ow i) (fun h=>.inr (Nat.le_trans s.fr.size h))⟩
end
end Go.Ab
end
section
namespace Go.Proofs.YtgjchdhdopgkkaaGreatDoor
open Go.Ab Go.RowKit Civ
attribute [local simp] str_lt
section
theorem SrcX_sc0_1 {a0 c0:AV}{l:List AV}:setCells (a0::l) 0 [c0]=c0::l:=rfl
theorem SrcX_sc1_1 {a0 a1 c0:AV}{l:List AV}:setCells (a0::a1::l) 1 [c0]=a0::c0::l:=rfl
theorem SrcX_sc2_1 {a0 a1 a2 c0:AV}{l:List AV}:setCells (a0::a1::a2::l) 2 [c0]=a0::a1::c0::l:=rfl
theorem SrcX_sc3_1 {a0 a1 a2 a3 c0:AV}{l:List AV}:setCells (a0::a1::a2::a3::l) 3 [c0]=a0::a1::a2::c0::l:=rfl
theorem SrcX_sc4_3 {a0 a1 a2 a3 a4 a5 a6 c0 c1 c2:AV}{l:List AV}:setCells (a0::a1::a2::a3::a4::a5::a6::l) 4 [c0,c1,c2]=a0::a1::a2::a3::c0::c1::c2::l:=rfl
theorem SrcX_sc7_1 {a0 a1 a2 a3 a4 a5 a6 a7 c0:AV}{l:List AV}:setCells (a0::a1::a2::a3::a4::a5::a6::a7::l) 7 [c0]=a0::a1::a2::a3::a4::a5::a6::c0::l:=rfl
theorem SrcX_sc8_1 {a0 a1 a2 a3 a4 a5 a6 a7 a8 c0:AV}{l:List AV}:setCells (a0::a1::a2::a3::a4::a5::a6::a7::a8::l) 8 [c0]=a0::a1::a2::a3::a4::a5::a6::a7::c0::l:=rfl
theorem SrcX_sc9_1 {a0 a1 a2 a3 a4 a5 a6 a7 a8 a9 c0:AV}{l:List AV}:setCells (a0::a1::a2::a3::a4::a5::a6::a7::a8::a9::l) 9 [c0]=a0::a1::a2::a3::a4::a5::a6::a7::a8::c0::l:=rfl
theorem SrcX_sc10_1 {a0 a1 a2 a3 a4 a5 a6 a7 a8 a9 a10 c0:AV}{l:List AV}:setCells (a0::a1::a2::a3::a4::a5::a6::a7::a8::a9::a10::l) 10 [c0]=a0::a1::a2::a3::a4::a5::a6::a7::a8::a9::c0::l:=rfl
theorem SrcX_tk0_11 {a0 a1 a2 a3 a4 a5 a6 a7 a8 a9 a10:AV}{l:List AV}:((a0::a1::a2::a3::a4::a5::a6::a7::a8::a9::a10::l).drop 0).take 11=[a0,a1,a2,a3,a4,a5,a6,a7,a8,a9,a10]:=rfl
theorem SrcX_sc0_11 {a0 a1 a2 a3 a4 a5 a6 a7 a8 a9 a10 c0 c1 c2 c3 c4 c5 c6 c7 c8 c9 c10:AV}{l:List AV}:setCells (a0::a1::a2::a3::a4::a5::a6::a7::a8::a9::a10::l) 0 [c0,c1,c2,c3,c4,c5,c6,c7,c8,c9,c10]=c0::c1::c2::c3::c4::c5::c6::c7::c8::c9::c10::l:=rfl
theorem SrcX_sc4_1 {a0 a1 a2 a3 a4 c0:AV}{l:List AV}:setCells (a0::a1::a2::a3::a4::l) 4 [c0]=a0::a1::a2::a3::c0::l:=rfl
theorem SrcX_tk0_10 {a0 a1 a2 a3 a4 a5 a6 a7 a8 a9:AV}{l:List AV}:((a0::a1::a2::a3::a4::a5::a6::a7::a8::a9::l).drop 0).take 10=[a0,a1,a2,a3,a4,a5,a6,a7,a8,a9]:=rfl
theorem SrcX_sc0_10 {a0 a1 a2 a3 a4 a5 a6 a7 a8 a9 c0 c1 c2 c3 c4 c5 c6 c7 c8 c9:AV}{l:List AV}:setCells (a0::a1::a2::a3::a4::a5::a6::a7::a8::a9::l) 0 [c0,c1,c2,c3,c4,c5,c6,c7,c8,c9]=c0::c1::c2::c3::c4::c5::c6::c7::c8::c9::l:=rfl
theorem SrcX_EraOf_98 {τ:Operand→AV}{y0 y1 y2:Operand}{x0_0 x1_0 x2_0:AV}(h0:cellsV (τ y0)=some [x0_0]) (l0:[x0_0].all leaf=true) (h1:cellsV (τ y1)=some [x1_0]) (l1:[x1_0].all leaf=true) (h2:cellsV (τ y2)=some [x2_0]) (l2:[x2_0].all leaf=true):fillAV τ [(0,1,y0),(1,1,y1),(2,1,y2)] [(.v (.int .i64 0)),(.v (.int .i64 0)),(.v (.int .i64 0))]=some [x0_0,x1_0,x2_0]:=by
 simp only [fillAV,h0,l0,h1,l1,h2,l2]
 rfl
theorem SrcX_sc5_3 {a0 a1 a2 a3 a4 a5 a6 a7 c0 c1 c2:AV}{l:List AV}:setCells (a0::a1::a2::a3::a4::a5::a6::a7::l) 5 [c0,c1,c2]=a0::a1::a2::a3::a4::c0::c1::c2::l:=rfl
end
def c51:AC:=(.seq (.reg [Oo 2 (.new 48 11 [Ss,(iv 0),(iv 0),(iv 0),(iv 0),(iv 0),(iv 0),(iv 0),(iv 0),(iv 0),Ss])]) (.seq (.reg [Oo 3 (.new 48 11 [Ss,(iv 0),(iv 0),(iv 0),(iv 0),(iv 0),(iv 0),(iv 0),(iv 0),(iv 0),Ss])]) (.seq (.reg [Mv 5 0,Oo 6 (.call (.func 52) [(.tmp 5)]),Fa 7 0 3,⟨none,none,(.store 1 (.tmp 7) (.tmp 6))⟩]) (.seq (.reg [Mv 8 0,Mv 9 0,Oo 10 (.call (.func 49) [(.tmp 9)]),Oo 11 (.call (.func 88) [(.tmp 8),(.tmp 10),(Ci 4),(Ci 4)]),Fa 12 1 3,⟨none,none,(.store 1 (.tmp 12) (.tmp 11))⟩]) (.seq (.reg [Mv 13 0,Oo 14 (.call (.func 49) [(.tmp 13)]),Mv 4 14]) (.seq (.seq (.reg [Mv 15 4]) (.block 0 (.seq (.reg [Oo 21 (.bin .eql (.tmp 15) (.const (.string ⟨#[111,110,108,121]⟩))),Mv 20 21]) (.cond (.tmp 20) (.reg [Fa 22 1 3,Ld 23 22,Fa 24 2 3,⟨none,none,(.store 1 (.tmp 24) (.tmp 23))⟩]) (.seq (.reg [Oo 26 (.bin .eql (.tmp 15) (.const (.string ⟨#[109,97,120]⟩))),Mv 25 26]) (.cond (.tmp 25) (.reg [Fa 27 2 3,⟨none,none,(.store 1 (.tmp 27) (Ci 2100))⟩]) (.reg [Mv 16 0,Mv 17 4,Oo 18 (.call (.func 88) [(.tmp 16),(.tmp 17),(Ci 4),(Ci 4)]),Fa 19 2 3,⟨none,none,(.store 1 (.tmp 19) (.tmp 18))⟩]))))))) (.seq (.reg [Mv 28 0,Oo 29 (.call (.func 89) [(.tmp 28)]),Fa 30 3 3,⟨none,none,(.store 1 (.tmp 30) (.tmp 29))⟩]) (.seq (.reg [Mv 31 0,Oo 32 (.call (.func 91) [(.tmp 31)]),Fa 33 4 3,⟨none,none,(.store 3 (.tmp 33) (.tmp 32))⟩]) (.seq (.reg [Mv 35 0,Oo 36 (.call (.func 90) [(.tmp 35),(Ci 1)]),Mv 34 36,Ex 37 34 0,Ex 38 34 1,Fa 39 7 3,⟨none,none,(.store 1 (.tmp 39) (.tmp 37))⟩,Fa 40 8 3,⟨none,none,(.store 1 (.tmp 40) (.tmp 38))⟩]) (.seq (.reg [Mv 41 0,Mv 42 0,Oo 43 (.call (.func 49) [(.tmp 42)]),Oo 44 (.call (.func 87) [(.tmp 41),(.tmp 43)]),Fa 45 9 3,⟨none,none,(.store 1 (.tmp 45) (.tmp 44))⟩]) (.seq (.reg [Mv 46 0,Oo 47 (.call (.func 49) [(.tmp 46)]),Mv 4 47]) (.seq (.seq (.reg [Mv 48 4,Oo 49 (.bin .eql (.tmp 48) (.const (.string ⟨#[]⟩))),Mv 50 49,Of 51 50 (.mv (.tmp 4)),Of 52 50 (.bin .neq (.tmp 51) (.const (.string ⟨#[45]⟩))),Of 53 50 (.mv (.tmp 52)),Ot 54 53 (.mv (.tmp 4)),Ot 55 53 (.call (.func 67) [(.tmp 54)]),Ot 56 53 (.un .not (.tmp 55)),Of 57 50 (.pick (.tmp 53) (.tmp 56) (.const (.bool false))),Oo 58 (.pick (.tmp 50) (.const (.bool true)) (.tmp 57))]) (.cond (.tmp 58) (.reg [Mv 59 0,Nk 60 59,Fa 61 1 60,⟨none,none,(.store 1 (.tmp 61) (.const (.bool true)))⟩]) .skip)) (.seq (.seq (.reg [Mv 62 4,Oo 63 (.bin .neq (.tmp 62) (.const (.string ⟨#[45]⟩)))]) (.cond (.tmp 63) (.reg [Mv 64 4,Fa 65 10 3,⟨none,none,(.store 1 (.tmp 65) (.tmp 64))⟩]) .skip)) (.seq (.reg [Oo 66 (.load true 11 (.tmp 3)),⟨none,none,(.store 11 (.tmp 2) (.tmp 66))⟩]) .ret))))))))))))))
theorem k51:compF Tryz.prog 51=some ⟨c51,[(.cell 2 true 11)],67⟩:=by kernel_rfl
def c50:AC:=(.seq (.reg [Oo 2 (.new 64 10 [(iv 0),Ss,(iv 0),Ss,(.v (.bool false)),(iv 0),(iv 0),(iv 0),(iv 0),(iv 0)])]) (.seq (.reg [Oo 3 (.new 64 10 [(iv 0),Ss,(iv 0),Ss,(.v (.bool false)),(iv 0),(iv 0),(iv 0),(iv 0),(iv 0)])]) (.seq (.reg [Mv 8 0,Oo 9 (.call (.func 49) [(.tmp 8)]),Mv 4 9]) (.seq (.seq (.reg [Mv 10 4,Oo 11 (.bin .neq (.tmp 10) (.const (.string ⟨#[]⟩))),Mv 12 11,Ot 13 12 (.mv (.tmp 4)),Ot 14 12 (.ix (.tmp 13) (Ci 0)),Ot 15 12 (.bin .eql (.tmp 14) (.const (.int .u8 45))),Oo 16 (.pick (.tmp 12) (.tmp 15) (.const (.bool false)))]) (.cond (.tmp 16) (.reg [Mv 17 0,Mv 18 4,Oo 19 (.sls (.tmp 18) (some (Ci 1)) none),Oo 20 (.call (.func 87) [(.tmp 17),(.tmp 19)]),Oo 21 (.un .neg (.tmp 20)),Fa 22 0 3,⟨none,none,(.store 1 (.tmp 22) (.tmp 21))⟩]) (.reg [Mv 23 0,Mv 24 4,Oo 25 (.call (.func 87) [(.tmp 23),(.tmp 24)]),Fa 26 0 3,⟨none,none,(.store 1 (.tmp 26) (.tmp 25))⟩]))) (.seq (.reg [Mv 27 0,Oo 28 (.call (.func 49) [(.tmp 27)]),Mv 4 28]) (.seq (.block 0 (.seq (.reg [Mv 38 4,Oo 39 (.bin .eql (.tmp 38) (.const (.string ⟨#[45]⟩))),Mv 37 39]) (.cond (.tmp 37) .skip (.seq (.reg [Mv 41 4,Oo 42 (.bin .neq (.tmp 41) (.const (.string ⟨#[]⟩))),Mv 43 42,Ot 44 43 (.mv (.tmp 4)),Ot 45 43 (.ix (.tmp 44) (Ci 0)),Ot 46 43 (.call (.func 71) [(.tmp 45)]),Oo 47 (.pick (.tmp 43) (.tmp 46) (.const (.bool false))),Mv 40 47]) (.cond (.tmp 40) (.seq (.seq (.reg [Mv 48 4,Oo 49 (.bin .eql (.tmp 48) (.const (.string ⟨#[48]⟩)))]) (.cond (.tmp 49) (.reg [Mv 50 0,Nk 51 50,Fa 52 1 51,⟨none,none,(.store 1 (.tmp 52) (.const (.bool true)))⟩]) .skip)) (.reg [Mv 53 0,Mv 54 4,Oo 55 (.call (.func 87) [(.tmp 53),(.tmp 54)]),Fa 56 2 3,⟨none,none,(.store 1 (.tmp 56) (.tmp 55))⟩])) (.seq (.seq (.reg [Mv 29 4,Oo 30 (.call (.func 25) [(.tmp 29)]),Oo 31 (.un .not (.tmp 30))]) (.cond (.tmp 31) (.reg [Mv 32 0,Nk 33 32,Fa 34 1 33,⟨none,none,(.store 1 (.tmp 34) (.const (.bool true)))⟩]) .skip)) (.reg [Mv 35 4,Fa 36 1 3,⟨none,none,(.store 1 (.tmp 36) (.tmp 35))⟩]))))))) (.seq (.reg [Mv 57 0,Oo 58 (.call (.func 49) [(.tmp 57)]),Fa 59 3 3,⟨none,none,(.store 1 (.tmp 59) (.tmp 58))⟩]) (.seq (.seq (.reg [Fa 60 3 3,Ld 61 60,Oo 62 (.call (.func 72) [(.tmp 61)]),Oo 63 (.un .not (.tmp 62))]) (.cond (.tmp 63) (.reg [Mv 64 0,Nk 65 64,Fa 66 1 65,⟨none,none,(.store 1 (.tmp 66) (.const (.bool true)))⟩]) .skip)) (.seq (.seq (.reg [Mv 67 0,Nk 68 67,Fa 69 0 68,Ld 70 69,Oo 71 (.len false (.tmp 70)),Oo 72 (.bin .eql (.tmp 71) (Ci 0))]) (.cond (.tmp 72) (.seq (.reg [Fa 73 4 3,⟨none,none,(.store 1 (.tmp 73) (.const (.bool true)))⟩]) (.seq (.reg [Oo 74 (.load true 10 (.tmp 3)),⟨none,none,(.store 10 (.tmp 2) (.tmp 74))⟩]) .ret)) .skip)) (.seq (.reg [Mv 75 0,Mv 76 0,Oo 77 (.call (.func 49) [(.tmp 76)]),Oo 78 (.call (.func 88) [(.tmp 75),(.tmp 77),(Ci 4),(Ci 4)]),Mv 5 78]) (.seq (.reg [Mv 79 0,Oo 80 (.call (.func 89) [(.tmp 79)]),Mv 6 80]) (.seq (.reg [Mv 81 0,Mv 82 0,Oo 83 (.call (.func 49) [(.tmp 82)]),Oo 84 (.call (.func 88) [(.tmp 81),(.tmp 83),(Ci 1),(Ci 2)]),Mv 7 84]) (.seq (.reg [Mv 85 5,Mv 86 6,Mv 87 7,Oo 88 (.build [(iv 0),(iv 0),(iv 0)] [(0,(1,(.tmp 85))),(1,(1,(.tmp 86))),(2,(1,(.tmp 87)))]),Fa 89 5 3,Fa 90 0 89,⟨none,none,(.store 3 (.tmp 90) (.tmp 88))⟩]) (.seq (.reg [Mv 92 0,Oo 93 (.call (.func 90) [(.tmp 92),(Ci 2)]),Mv 91 93,Ex 94 91 0,Ex 95 91 1,Fa 96 5 3,Fa 97 3 96,⟨none,none,(.store 1 (.tmp 97) (.tmp 94))⟩,Fa 98 5 3,Fa 99 4 98,⟨none,none,(.store 1 (.tmp 99) (.tmp 95))⟩]) (.seq (.seq (.reg [Fa 100 5 3,Fa 101 4 100,Ld 102 101,Oo 103 (.bin .eql (.tmp 102) (Ci 1))]) (.cond (.tmp 103) (.reg [Mv 104 0,Nk 105 104,Fa 106 1 105,⟨none,none,(.store 1 (.tmp 106) (.const (.bool true)))⟩]) .skip)) (.seq (.reg [Oo 107 (.load true 10 (.tmp 3)),⟨none,none,(.store 10 (.tmp 2) (.tmp 107))⟩]) .ret))))))))))))))))
theorem k50:compF Tryz.prog 50=some ⟨c50,[(.cell 2 true 10)],108⟩:=by kernel_rfl
def okT (t:TS):Prop := ∀ x∈t.1,x.size≤24
theorem okT_of {t u:TS}(h:u.1=t.1) (ho:okT t):okT u:=by unfold okT;rw [h];exact ho
theorem okT_next {t u:TS}{s:ByteArray}(ho:okT t) (e:tNext t=(s,u)):s.size≤24∧okT u:=by
 unfold tNext at e
 split at e
 ·cases e;exact ⟨by decide,ho⟩
 rename_i hn
 obtain ⟨l,b⟩:=t
 cases l with
 | nil=>exact absurd (.inr rfl) hn
 | cons x l=>cases e;exact ⟨ho x (by simp),fun y hy=>ho y (by simp only [List.mem_cons];exact .inr hy)⟩
theorem tNum_fst {s:ByteArray}{a b:Int}{t:TS}:(tNum s a b t).2.1=t.1:=by unfold tNum;split <;> rfl
theorem tWeek_fst {s:ByteArray}{t:TS}:(tWeek s t).2.1=t.1:=by unfold tWeek;split <;> rfl
theorem tSix_fst {s:ByteArray}{t:TS}:(tSix s t).2.1=t.1:=by unfold tSix;dsimp only;split <;> exact tNum_fst
theorem tSpan_fst {s:ByteArray}{t:TS}:(tSpan s t).2.1=t.1:=by
 unfold tSpan
 split
 ·rfl
 unfold tSpanL
 split
 ·exact tSix_fst.trans tNum_fst
 ·exact tSix_fst.trans (tSix_fst.trans tNum_fst)
 rfl
theorem tFormS_fst {s:ByteArray}{t:TS}:(tFormS s t).2.1=t.1:=by
 unfold tFormS
 split
 ·exact tWeek_fst
 split
 ·exact tNum_fst
 exact tNum_fst.trans tWeek_fst
theorem tClockS_fst {d:Int}{s:ByteArray}{t:TS}:(tClockS d s t).2.1=t.1:=by
 unfold tClockS
 split
 ·exact tSpan_fst
 split
 ·exact tSpan_fst
 refine tSpan_fst.trans ?_
 split <;> rfl
theorem tTo_fst {f:Int}{s:ByteArray}{t:TS}:(tTo f s t).2.1=t.1:=by
 unfold tTo
 split
 ·rfl
 split
 ·rfl
 exact tNum_fst
theorem okT_name {t u:TS}{s:ByteArray}(ho:okT t) (e:tName t=(s,u)):okT u:=by
 obtain ⟨x,v,ev⟩ : ∃ x v,tNext t=(x,v):=⟨_,_,rfl⟩
 unfold tName at e
 rw [ev] at e
 have:=(okT_next ho ev).2
 simp only [Prod.mk.injEq] at e
 obtain ⟨_,e2⟩:=e
 subst e2
 split
 ·exact this
 exact this
theorem okT_month {t u:TS}{n:Int}(ho:okT t) (e:tMonth t=(n,u)):okT u:=by
 obtain ⟨x,v,ev⟩ : ∃ x v,tNext t=(x,v):=⟨_,_,rfl⟩
 unfold tMonth at e
 rw [ev] at e
 have:=(okT_next ho ev).2
 split at e <;> cases e <;> exact this
theorem okT_num {s:ByteArray}{a b n:Int}{t u:TS}(ho:okT t) (e:tNum s a b t=(n,u)):okT u:=okT_of (by have := @tNum_fst s a b t;rw [e] at this;exact this) ho
theorem okT_span {s:ByteArray}{n:Int}{t u:TS}(ho:okT t) (e:tSpan s t=(n,u)):okT u:=okT_of (by have := @tSpan_fst s t;rw [e] at this;exact this) ho
theorem okT_to {f:Int}{s:ByteArray}{n:Int}{t u:TS}(ho:okT t) (e:tTo f s t=(n,u)):okT u:=okT_of (by have := @tTo_fst f s t;rw [e] at this;exact this) ho
theorem okT_form {n:Frm}{t u:TS}(ho:okT t) (e:tForm t=(n,u)):okT u:=by
 obtain ⟨x,v,ev⟩ : ∃ x v,tNext t=(x,v):=⟨_,_,rfl⟩
 unfold tForm at e
 rw [ev] at e
 exact okT_of (by have := @tFormS_fst x v;rw [e] at this;exact this) (okT_next ho ev).2
theorem okT_clock {d:Int}{n:Int×Int}{t u:TS}(ho:okT t) (e:tClock d t=(n,u)):okT u:=by
 obtain ⟨x,v,ev⟩ : ∃ x v,tNext t=(x,v):=⟨_,_,rfl⟩
 unfold tClock at e
 rw [ev] at e
 exact okT_of (by have := @tClockS_fst d x v;rw [e] at this;exact this) (okT_next ho ev).2
theorem tname_e {t t1:TS}{s:ByteArray}{id:Nat}{h:AH}(ho:okT t) (he:tName t=(s,t1)) (h1:h[id]?=some (takE t)):ACalls Tryz.prog 52 [.ptr id 0 0] h fun x h'=>x = .ret (sv s)∧h'=h.set id (takE t1):=by
 have:=tname_a (by have:=(okT_next ho (s:=(tNext t).1) (u:=(tNext t).2) rfl).1;unfold maxLen;omega) h1
 rw [he] at this
 exact this
theorem tnum_e {s:ByteArray}{a b n:Int}{t t1:TS}{id:Nat}{h:AH}(hb:b≤4) (he:tNum s a b t=(n,t1)) (h1:h[id]?=some (takE t)):ACalls Tryz.prog 88 [.ptr id 0 0,sv s,iv a,iv b] h fun x h'=>x = .ret (iv n)∧h'=h.set id (takE t1):=by
 have:=tnum_a (s:=s) (a:=a) hb h1
 rw [he] at this
 exact this
theorem tmonth_e {n:Int}{t t1:TS}{id:Nat}{h:AH}(he:tMonth t=(n,t1)) (h1:h[id]?=some (takE t)):ACalls Tryz.prog 89 [.ptr id 0 0] h fun x h'=>x = .ret (iv n)∧h'=h.set id (takE t1):=by
 have:=tmonth_a h1
 rw [he] at this
 exact this
theorem tform_e {n:Frm}{t t1:TS}{id:Nat}{h:AH}(ho:okT t) (he:tForm t=(n,t1)) (h1:h[id]?=some (takE t)):ACalls Tryz.prog 91 [.ptr id 0 0] h fun x h'=>x = .ret (.agg [iv n.1,iv n.2.1,iv n.2.2])∧h'=h.set id (takE t1):=by
 have:=tform_a (okT_next ho (s:=(tNext t).1) (u:=(tNext t).2) rfl).1 h1
 rw [he] at this
 exact this
theorem tclock_e {d:Int}{n:Int×Int}{t t1:TS}{id:Nat}{h:AH}(hd:d=1∨d=2) (ho:okT t) (he:tClock d t=(n,t1)) (h1:h[id]?=some (takE t)):ACalls Tryz.prog 90 [.ptr id 0 0,iv d] h fun x h'=>x = .ret (.tup [iv n.1,iv n.2])∧h'=h.set id (takE t1):=by
 have:=tclock_a hd (okT_next ho (s:=(tNext t).1) (u:=(tNext t).2) rfl).1 h1
 rw [he] at this
 exact this
theorem tspan_e {s:ByteArray}{n:Int}{t t1:TS}{id:Nat}{h:AH}(hz:s.size≤24) (he:tSpan s t=(n,t1)) (h1:h[id]?=some (takE t)):ACalls Tryz.prog 87 [.ptr id 0 0,sv s] h fun x h'=>x = .ret (iv n)∧h'=h.set id (takE t1):=by
 have:=tspan_a hz h1
 rw [he] at this
 exact this
set_option maxHeartbeats 2000000 in
theorem trule_a {t:TS}{id:Nat}{h:AH}(ho:okT t) (h1:h[id]?=some (takE t)):ACalls Tryz.prog 51 [.ptr id 0 0] h fun x h'=>x = .ret (.agg (rulC (tRule t).1))∧h'=h.set id (takE (tRule t).2):=by
 have hid:id<h.length:=(List.getElem?_eq_some_iff.1 h1).1
 obtain ⟨nm,t1,e1⟩ : ∃ a b,tName t=(a,b):=⟨_,_,rfl⟩
 have o1:=okT_name ho e1
 obtain ⟨s2,t2,e2⟩ : ∃ a b,tNext t1=(a,b):=⟨_,_,rfl⟩
 obtain ⟨z2,o2⟩:=okT_next o1 e2
 obtain ⟨f,t3,e3⟩ : ∃ a b,tNum s2 4 4 t2=(a,b):=⟨_,_,rfl⟩
 have o3:=okT_num o2 e3
 obtain ⟨s4,t4,e4⟩ : ∃ a b,tNext t3=(a,b):=⟨_,_,rfl⟩
 obtain ⟨z4,o4⟩:=okT_next o3 e4
 obtain ⟨yr,t5,e5⟩ : ∃ a b,tTo f s4 t4=(a,b):=⟨_,_,rfl⟩
 have o5:=okT_to o4 e5
 obtain ⟨m,t6,e6⟩ : ∃ a b,tMonth t5=(a,b):=⟨_,_,rfl⟩
 have o6:=okT_month o5 e6
 obtain ⟨k,t7,e7⟩ : ∃ a b,tForm t6=(a,b):=⟨_,_,rfl⟩
 have o7:=okT_form o6 e7
 obtain ⟨c,t8,e8⟩ : ∃ a b,tClock 1 t7=(a,b):=⟨_,_,rfl⟩
 have o8:=okT_clock o7 e8
 obtain ⟨s9,t9,e9⟩ : ∃ a b,tNext t8=(a,b):=⟨_,_,rfl⟩
 obtain ⟨z9,o9⟩:=okT_next o8 e9
 obtain ⟨svd,t10,e10⟩ : ∃ a b,tSpan s9 t9=(a,b):=⟨_,_,rfl⟩
 have o10:=okT_span o9 e10
 obtain ⟨s11,t11,e11⟩ : ∃ a b,tNext t10=(a,b):=⟨_,_,rfl⟩
 obtain ⟨z11,o11⟩:=okT_next o10 e11
 have hR:tRule t=((nm,f,yr,m,k,c.1,c.2,svd,(tLetter t10).1),(tLetter t10).2):=by
  simp only [tRule,bind2,ret2,tYear,tToN,tSpanN,e1,e2,e3,e4,e5,e6,e7,e8,e9,e10]
 have hL:tLetter t10=(if s11=bA [45] then ⟨#[]⟩ else s11,if letterB s11=true then t11 else bad t11):=by unfold tLetter;rw [e11]
 refine tJ' k51 fun N hn hlt hlA hbd=>?_
 simp only [tA',AV.bdL,AV.bd,and_true,true_and] at hbd ⊢
 refine aw_heap (h1:=h.set id (takE t)++[]) (by rw [hx_self h1]) ?_
 refine wr'<|E' (e_new (hl0 (hx_len hn)) ha0) pt2<|sn'<|wr'<|E' (e_new (hl1 (hx_len hn)) ha1) pt3<|sn'<|wr'<|mv' lk0 pt5<|s_calls (mp1 lk5 mp0) (tname_e ho e1 (hx_at hid)) (hx_set hid) pt6<|?_
 refine V' (v_fap0 lk3) pt7<|E' (e_store lk7 (cvl lk6 rfl) (hga (hx_len hn) rfl) rfl (nb' rfl) rfl SrcX_sc0_1 (hs1 (hx_len hn))) ptn<|sn'<|wr'<|mv' lk0 pt8<|mv' lk0 pt9<|s_calls (mp1 lk9 mp0) (tnext_e e2 (hx_at hid)) (hx_set hid) pt10<|?_
 refine s_calls (mp1 lk8 (mp1 lk10 (mp1 lki (mp1 lki mp0)))) (tnum_e (by omega) e3 (hx_at hid)) (hx_set hid) pt11 ?_
 refine V' (v_fap0 lk3) pt12<|E' (e_store lk12 (cvl lk11 rfl) (hga (hx_len hn) rfl) rfl (nb' rfl) rfl SrcX_sc1_1 (hs1 (hx_len hn))) ptn<|sn'<|wr'<|mv' lk0 pt13<|s_calls (mp1 lk13 mp0) (tnext_e e4 (hx_at hid)) (hx_set hid) pt14<|mv' lk14 pt4<|sn'<|?_
 refine w_seqH (ι:=Unit) (fun (u:Unit)=>[]++rn' 15 13) (fun (u:Unit)=>h.set id (takE t5)++[.mk 0 48 11 [sv ⟨#[]⟩,iv 0,iv 0,iv 0,iv 0,iv 0,iv 0,iv 0,iv 0,iv 0,sv ⟨#[]⟩],.mk 0 48 11 [sv nm,iv f,iv yr,iv 0,iv 0,iv 0,iv 0,iv 0,iv 0,iv 0,sv ⟨#[]⟩]]) (fun (u:Unit)=>True) ?_ ?_
 ·try simp only [setsT,setsE,z',s',rn',la',ln',Nat.reduceAdd]
  refine wr'<|mv' lk4 pt15<|sn'<|w_block<|wr'<|V' (v_eqlS lk15 lks) pt21<|mv' lk21 pt20<|sn'<|?_
  refine cd' lk20 (fun hc1=>?_) (fun hc1=>?_)
  ·have hq:yr=f∧t5=t4:=by rw [tTo,if_pos (show s4=onlyA from hc1)] at e5;cases e5;exact ⟨rfl,rfl⟩
   obtain ⟨rfl,rfl⟩:=hq
   refine w_reg<|V' (v_fap0 lk3) pt22<|V' (v_loadp lk22 (hga (hx_len hn) rfl) gt1) pt23<|V' (v_fap0 lk3) pt24<|E' (e_store lk24 (cvl lk23 rfl) (hga (hx_len hn) rfl) rfl (nb' rfl) rfl SrcX_sc2_1 (hs1 (hx_len hn))) ptn<|s_nil<|n_blk<|n_thn<|?_
   exact cT' (()) (by trivial)
  refine wr'<|V' (v_eqlS lk15 lks) pt26<|mv' lk26 pt25<|sn'<|?_
  refine cd' lk25 (fun hc2=>?_) (fun hc2=>?_)
  ·have hq:yr=2100∧t5=t4:=by rw [tTo,if_neg (show ¬s4=onlyA from hc1),if_pos (show s4=maxA from hc2)] at e5;cases e5;exact ⟨rfl,rfl⟩
   obtain ⟨rfl,rfl⟩:=hq
   refine w_reg<|V' (v_fap0 lk3) pt27<|E' (e_store lk27 (cvl lki rfl) (hga (hx_len hn) rfl) rfl (nb' rfl) rfl SrcX_sc2_1 (hs1 (hx_len hn))) ptn<|s_nil<|n_blk<|n_thn<|?_
   exact cT' (()) (by trivial)
  have hq:tNum s4 4 4 t4=(yr,t5):=by rw [tTo,if_neg (show ¬s4=onlyA from hc1),if_neg (show ¬s4=maxA from hc2)] at e5;exact e5
  refine w_reg<|mv' lk0 pt16<|mv' lk4 pt17<|?_
  refine s_calls (mp1 lk16 (mp1 lk17 (mp1 lki (mp1 lki mp0)))) (tnum_e (by omega) hq (hx_at hid)) (hx_set hid) pt18 ?_
  refine V' (v_fap0 lk3) pt19<|E' (e_store lk19 (cvl lk18 rfl) (hga (hx_len hn) rfl) rfl (nb' rfl) rfl SrcX_sc2_1 (hs1 (hx_len hn))) ptn<|s_nil<|n_blk<|n_thn<|?_
  exact cT' (()) (by trivial)
 rintro u hq9
 try simp only [setsT,setsE,z',s',rn',la',ln',Nat.reduceAdd]
 refine wr'<|mv' lk0 pt28<|s_calls (mp1 lk28 mp0) (tmonth_e e6 (hx_at hid)) (hx_set hid) pt29<|V' (v_fap0 lk3) pt30<|E' (e_store lk30 (cvl lk29 rfl) (hga (hx_len hn) rfl) rfl (nb' rfl) rfl SrcX_sc3_1 (hs1 (hx_len hn))) ptn<|sn'<|wr'<|mv' lk0 pt31<|s_calls (mp1 lk31 mp0) (tform_e o6 e7 (hx_at hid)) (hx_set hid) pt32<|V' (v_fap0 lk3) pt33<|E' (e_store lk33 (cvl lk32 rfl) (hga (hx_len hn) rfl) rfl (nb' rfl) rfl SrcX_sc4_3 (hs1 (hx_len hn))) ptn<|?_
 refine sn'<|wr'<|mv' lk0 pt35<|s_calls (mp1 lk35 (mp1 lki mp0)) (tclock_e (.inl rfl) o7 e8 (hx_at hid)) (hx_set hid) pt36<|mv' lk36 pt34<|V' (v_ext lk34 gt0) pt37<|V' (v_ext lk34 gt1) pt38<|V' (v_fap0 lk3) pt39<|E' (e_store lk39 (cvl lk37 rfl) (hga (hx_len hn) rfl) rfl (nb' rfl) rfl SrcX_sc7_1 (hs1 (hx_len hn))) ptn<|V' (v_fap0 lk3) pt40<|E' (e_store lk40 (cvl lk38 rfl) (hga (hx_len hn) rfl) rfl (nb' rfl) rfl SrcX_sc8_1 (hs1 (hx_len hn))) ptn<|s_nil<|?_
 refine n_seq<|wr'<|mv' lk0 pt41<|mv' lk0 pt42<|s_calls (mp1 lk42 mp0) (tnext_e e9 (hx_at hid)) (hx_set hid) pt43<|s_calls (mp1 lk41 (mp1 lk43 mp0)) (tspan_e z9 e10 (hx_at hid)) (hx_set hid) pt44<|V' (v_fap0 lk3) pt45<|E' (e_store lk45 (cvl lk44 rfl) (hga (hx_len hn) rfl) rfl (nb' rfl) rfl SrcX_sc9_1 (hs1 (hx_len hn))) ptn<|sn'<|wr'<|mv' lk0 pt46<|?_
 refine s_calls (mp1 lk46 mp0) (tnext_e e11 (hx_at hid)) (hx_set hid) pt47<|mv' lk47 pt4<|sn'<|w_seq<|wr'<|mv' lk4 pt48<|V' (v_eqlS lk48 lks) pt49<|mv' lk49 pt50<|?_
 refine sp' gt50 pt50 pt50 (fun hg50=>?_) (fun hg50=>?_)
 ·have hLt:tLetter t10=(s11,bad t11):=by rw [hL,hg50];rfl
  refine s_no gt50 pt51<|s_no gt50 pt52<|s_no gt50 pt53<|s_nu gt53 pt54<|s_nu gt53 pt55<|s_nu gt53 pt56<|s_no gt50 pt57<|V' (v_pickT lk50 lkb) pt58<|sn'<|w_condT lk58<|w_reg<|mv' lk0 pt59<|V' (v_nckp lk59) pt60<|?_
  refine V' (v_fap0 lk60) pt61<|E' (e_store lk61 (cvl lkb rfl) (hx_at hid) rfl (nb' rfl) rfl SrcX_sc1_1 (hx_set hid)) ptn<|sn'<|w_seq<|wr'<|mv' lk4 pt62<|V' (v_neqS lk62 lks) pt63<|sn'<|?_
  refine w_condK lk63 (by exact decide_eq_true (by rw [hg50];decide)) ?_
  refine w_reg<|mv' lk4 pt64<|V' (v_fap0 lk3) pt65<|E' (e_store lk65 (cvl lk64 rfl) (hga (hx_len hn) rfl) rfl (nb' rfl) rfl SrcX_sc10_1 (hs1 (hx_len hn))) ptn<|sn'<|wr'<|V' (v_loadpA lk3 (hga (hx_len hn) rfl) SrcX_tk0_11 rfl) pt66<|E' (e_store lk2 (cvl lk66 rfl) (hga (hx_len hn) rfl) rfl (nb' rfl) rfl SrcX_sc0_11 (hs0 (hx_len hn))) ptn<|sn'<|w_rets<|w_ret (rs1 (rr_c gt2 (hga (hx_len hn) rfl) (ld1 SrcX_tk0_11 rfl)))<|?_
  rw [hLt] at hR
  exact ⟨_,_,rfl,hx_len hn,hx_lt hlt takE_ltb,rfl,by rw [hR] <;> rfl,by rw [hR] <;> rfl⟩
 refine s_do gt50<|mv' lk4 pt51<|s_do gt50<|V' (v_neqS lk51 lks) pt52<|s_do gt50<|mv' lk52 pt53<|?_
 refine sp' gt53 pt53 pt53 (fun hg53=>?_) (fun hg53=>?_)
 ·refine s_do gt53<|mv' lk4 pt54<|s_do gt53<|?_
  refine s_callp (mp1 lk54 mp0) (risLetters_a (by unfold maxLen;omega)) pt55 ?_
  refine s_do gt53<|V' (v_notB lk55) pt56<|s_do gt50<|V' (v_pickT lk53 lk56) pt57<|V' (v_pickF lk50 lk57) pt58<|sn'<|?_
  refine w_condB lk58 (fun hc3=>?_) (fun hc3=>?_)
  ·have hl:lettersB s11=false:=by simpa using hc3
   have hLt:tLetter t10=(s11,bad t11):=by rw [hL,if_neg (show ¬s11=bA [45] from hg53),if_neg (by unfold letterB;rw [hl,decide_eq_false (show ¬s11=bA [45] from hg53)];simp)]
   refine w_reg<|mv' lk0 pt59<|V' (v_nckp lk59) pt60<|V' (v_fap0 lk60) pt61<|E' (e_store lk61 (cvl lkb rfl) (hx_at hid) rfl (nb' rfl) rfl SrcX_sc1_1 (hx_set hid)) ptn<|sn'<|w_seq<|wr'<|mv' lk4 pt62<|V' (v_neqS lk62 lks) pt63<|sn'<|?_
   refine w_condK lk63 (by exact decide_eq_true hg53) ?_
   refine w_reg<|mv' lk4 pt64<|V' (v_fap0 lk3) pt65<|E' (e_store lk65 (cvl lk64 rfl) (hga (hx_len hn) rfl) rfl (nb' rfl) rfl SrcX_sc10_1 (hs1 (hx_len hn))) ptn<|sn'<|wr'<|V' (v_loadpA lk3 (hga (hx_len hn) rfl) SrcX_tk0_11 rfl) pt66<|E' (e_store lk2 (cvl lk66 rfl) (hga (hx_len hn) rfl) rfl (nb' rfl) rfl SrcX_sc0_11 (hs0 (hx_len hn))) ptn<|sn'<|w_rets<|w_ret (rs1 (rr_c gt2 (hga (hx_len hn) rfl) (ld1 SrcX_tk0_11 rfl)))<|?_
   rw [hLt] at hR
   exact ⟨_,_,rfl,hx_len hn,hx_lt hlt takE_ltb,rfl,by rw [hR] <;> rfl,by rw [hR] <;> rfl⟩
  have hl:lettersB s11=true:=by simpa using hc3
  have hLt:tLetter t10=(s11,t11):=by rw [hL,if_neg (show ¬s11=bA [45] from hg53),if_pos (by unfold letterB;rw [hl,decide_eq_true hg50];simp)]
  refine w_skip<|n_seq<|w_seq<|wr'<|mv' lk4 pt62<|V' (v_neqS lk62 lks) pt63<|sn'<|?_
  refine w_condK lk63 (by exact decide_eq_true hg53) ?_
  refine w_reg<|mv' lk4 pt64<|V' (v_fap0 lk3) pt65<|E' (e_store lk65 (cvl lk64 rfl) (hga (hx_len hn) rfl) rfl (nb' rfl) rfl SrcX_sc10_1 (hs1 (hx_len hn))) ptn<|sn'<|wr'<|V' (v_loadpA lk3 (hga (hx_len hn) rfl) SrcX_tk0_11 rfl) pt66<|E' (e_store lk2 (cvl lk66 rfl) (hga (hx_len hn) rfl) rfl (nb' rfl) rfl SrcX_sc0_11 (hs0 (hx_len hn))) ptn<|sn'<|w_rets<|w_ret (rs1 (rr_c gt2 (hga (hx_len hn) rfl) (ld1 SrcX_tk0_11 rfl)))<|?_
  rw [hLt] at hR
  exact ⟨_,_,rfl,hx_len hn,hx_lt hlt takE_ltb,rfl,by rw [hR] <;> rfl,by rw [hR] <;> rfl⟩
 have h45:s11=bA [45]:=Decidable.of_not_not hg53
 have hLt:tLetter t10=(⟨#[]⟩,t11):=by rw [hL,h45];rfl
 refine s_no gt53 pt54<|s_no gt53 pt55<|s_no gt53 pt56<|s_do gt50<|V' (v_pickF lk53 lkb) pt57<|V' (v_pickF lk50 lk57) pt58<|sn'<|w_condF lk58<|w_skip<|n_seq<|w_seq<|wr'<|?_
 refine mv' lk4 pt62<|V' (v_neqS lk62 lks) pt63<|sn'<|?_
 refine w_condKF lk63 (by exact decide_eq_false (by rw [h45];decide)) ?_
 refine w_skip<|n_seq<|wr'<|V' (v_loadpA lk3 (hga (hx_len hn) rfl) SrcX_tk0_11 rfl) pt66<|E' (e_store lk2 (cvl lk66 rfl) (hga (hx_len hn) rfl) rfl (nb' rfl) rfl SrcX_sc0_11 (hs0 (hx_len hn))) ptn<|sn'<|w_rets<|w_ret (rs1 (rr_c gt2 (hga (hx_len hn) rfl) (ld1 SrcX_tk0_11 rfl)))<|?_
 rw [hLt] at hR
 exact ⟨_,_,rfl,hx_len hn,hx_lt hlt takE_ltb,rfl,by rw [hR] <;> rfl,by rw [hR] <;> rfl⟩
theorem tSpan_bd {s:ByteArray}{t:TS}:0≤(tSpan s t).1∧(tSpan s t).1<1000000000:=by
 unfold tSpan
 split
 ·exact ⟨Int.le_refl 0,show (0:Int)<1000000000 by decide⟩
 unfold tSpanL
 split
 ·rename_i a b _
  have h1:=tNum_bd (s:=bA a) (a:=1) (b:=2) (t:=t) (by omega)
  have h2:=tSix_bd (s:=bA b) (t:=(tNum (bA a) 1 2 t).2)
  constructor <;> dsimp only <;> omega
 ·rename_i a b c _
  have h1:=tNum_bd (s:=bA a) (a:=1) (b:=2) (t:=t) (by omega)
  have h2:=tSix_bd (s:=bA b) (t:=(tNum (bA a) 1 2 t).2)
  have h3:=tSix_bd (s:=bA c) (t:=(tSix (bA b) (tNum (bA a) 1 2 t).2).2)
  constructor <;> dsimp only <;> omega
 exact ⟨Int.le_refl 0,show (0:Int)<1000000000 by decide⟩
abbrev eraZ:List AV:=[iv 0,sv ⟨#[]⟩,iv 0,sv ⟨#[]⟩,bv false,iv 0,iv 0,iv 0,iv 0,iv 0]
theorem okT_shift {t u:TS}{n:Int}(ho:okT t) (e:tShift t=(n,u)):okT u:=by
 obtain ⟨x,v,ev⟩ : ∃ x v,tNext t=(x,v):=⟨_,_,rfl⟩
 unfold tShift at e
 rw [ev] at e
 have:=(okT_next ho ev).2
 split at e
 ·cases e;exact okT_of tSpan_fst this
 exact okT_span this e
theorem okT_rules {s:ByteArray}{t u:TS}{p:Int×ByteArray}(ho:okT t) (e:tRulesS s t=(p,u)):okT u:=by
 unfold tRulesS at e
 split at e
 ·cases e;exact ho
 split at e
 ·cases e
  refine okT_of tSpan_fst ?_
  split <;> exact ho
 cases e
 split <;> exact ho
set_option maxHeartbeats 2000000 in
theorem tera_a {t:TS}{id:Nat}{h:AH}(ho:okT t) (h1:h[id]?=some (takE t)):ACalls Tryz.prog 50 [.ptr id 0 0] h fun x h'=>x = .ret (.agg (eraC (tEra t).1))∧h'=h.set id (takE (tEra t).2):=by
 have hid:id<h.length:=(List.getElem?_eq_some_iff.1 h1).1
 obtain ⟨s1,t1,e1⟩ : ∃ a b,tNext t=(a,b):=⟨_,_,rfl⟩
 obtain ⟨z1,o1⟩:=okT_next ho e1
 have hem1:=emp_size (f:=s1)
 obtain ⟨sh,t2,e2⟩ : ∃ a b,tShift t=(a,b):=⟨_,_,rfl⟩
 have o2:=okT_shift ho e2
 obtain ⟨s3,t3,e3⟩ : ∃ a b,tNext t2=(a,b):=⟨_,_,rfl⟩
 obtain ⟨z3,o3⟩:=okT_next o2 e3
 have hem3:=emp_size (f:=s3)
 obtain ⟨⟨sa,rl⟩,t4,e4⟩ : ∃ a b,tRulesS s3 t3=(a,b):=⟨_,_,rfl⟩
 have o4:=okT_rules o3 e4
 obtain ⟨fm,t5,e5⟩ : ∃ a b,tNext t4=(a,b):=⟨_,_,rfl⟩
 obtain ⟨z5,o5⟩:=okT_next o4 e5
 obtain ⟨t6,e6⟩ : ∃ u,(if formatB fm=true then t5 else bad t5)=u:=⟨_,rfl⟩
 have o6:okT t6:=by rw [←e6];split <;> exact o5
 obtain ⟨s7,t7,e7⟩ : ∃ a b,tNext t6=(a,b):=⟨_,_,rfl⟩
 obtain ⟨z7,o7⟩:=okT_next o6 e7
 obtain ⟨y,t8,e8⟩ : ∃ a b,tNum s7 4 4 t7=(a,b):=⟨_,_,rfl⟩
 have o8:=okT_num o7 e8
 obtain ⟨m,t9,e9⟩ : ∃ a b,tMonth t8=(a,b):=⟨_,_,rfl⟩
 have o9:=okT_month o8 e9
 obtain ⟨s10,t10,e10⟩ : ∃ a b,tNext t9=(a,b):=⟨_,_,rfl⟩
 obtain ⟨z10,o10⟩:=okT_next o9 e10
 obtain ⟨d,t11,e11⟩ : ∃ a b,tNum s10 1 2 t10=(a,b):=⟨_,_,rfl⟩
 have o11:=okT_num o10 e11
 obtain ⟨c,t12,e12⟩ : ∃ a b,tClock 2 t11=(a,b):=⟨_,_,rfl⟩
 have o12:=okT_clock o11 e12
 have hU:tUntil t6=(((y,m,d),c.1,c.2),if c.2=1 then bad t12 else t12):=by
  simp only [tUntil,bind2,ret2,tYear,tDay,tWall,e7,e8,e9,e10,e11,e12]
 have hR:tEra t=((sh,rl,sa,fm,(tEnd t6).1.1,(tEnd t6).1.2),(tEnd t6).2):=by
  simp only [tEra,bind2,ret2,tRules,tFormat,e2,e3,e4,e5,e6]
 refine tJ' k50 fun N hn hlt hlA hbd=>?_
 simp only [tA',AV.bdL,AV.bd,and_true,true_and] at hbd ⊢
 refine aw_heap (h1:=h.set id (takE t)++[]) (by rw [hx_self h1]) ?_
 refine wr'<|E' (e_new (hl0 (hx_len hn)) ha0) pt2<|sn'<|wr'<|E' (e_new (hl1 (hx_len hn)) ha1) pt3<|sn'<|wr'<|mv' lk0 pt8<|s_calls (mp1 lk8 mp0) (tnext_e e1 (hx_at hid)) (hx_set hid) pt9<|?_
 refine mv' lk9 pt4<|sn'<|?_
 refine w_seqH (ι:=Unit) (fun (u:Unit)=>[]++rn' 10 17) (fun (u:Unit)=>h.set id (takE t2)++[.mk 0 64 10 eraZ,.mk 0 64 10 [iv sh,sv ⟨#[]⟩,iv 0,sv ⟨#[]⟩,bv false,iv 0,iv 0,iv 0,iv 0,iv 0]]) (fun (u:Unit)=>True) ?_ ?_
 ·try simp only [setsT,setsE,z',s',rn',la',ln',Nat.reduceAdd]
  refine wr'<|mv' lk4 pt10<|V' (v_neqS lk10 lks) pt11<|mv' lk11 pt12<|?_
  refine sp' gt12 pt12 pt12 (fun hg12=>?_) (fun hg12=>?_)
  ·have hn1:s1.size≠0:=fun e=>hg12 (hem1.2 e)
   refine s_do gt12<|mv' lk4 pt13<|s_do gt12<|?_
   refine V' (v_ix lk13 lki (by omega) (by omega)) pt14 ?_
   refine s_do gt12<|V' (v_eql lk14 lki) pt15<|V' (v_pickT lk12 lk15) pt16<|sn'<|?_
   refine cd' lk16 (fun hc1=>?_) (fun hc1=>?_)
   ·have hc:s1.size≠0∧headI s1=45:=⟨fun e=>hg12 (hem1.2 e),hc1⟩
    obtain ⟨n,u2,f2⟩ : ∃ a b,tSpan (s1.extract 1 s1.size) t1=(a,b):=⟨_,_,rfl⟩
    have hb2:=tSpan_bd (s:=s1.extract 1 s1.size) (t:=t1)
    rw [f2] at hb2
    replace hb2:0≤n∧n<1000000000:=hb2
    have hq:sh = -n∧t2=u2:=by unfold tShift at e2;rw [e1,if_pos hc,f2] at e2;cases e2;exact ⟨rfl,rfl⟩
    obtain ⟨rfl,rfl⟩:=hq
    refine w_reg<|mv' lk0 pt17<|mv' lk4 pt18<|?_
    refine V' (v_sls lk18 (oi lki) on_ (by omega) (by omega) (by omega)) pt19 ?_
    refine s_calls (mp1 lk17 (mp1 lk19 mp0)) (tspan_e (by rw [ByteArray.size_extract];omega) f2 (hx_at hid)) (hx_set hid) pt20 ?_
    refine V' (v_neg lk20 (by omega) (by omega)) pt21 ?_
    refine V' (v_fap0 lk3) pt22<|E' (e_store lk22 (cvl lk21 rfl) (hga (hx_len hn) rfl) rfl (nb' rfl) rfl SrcX_sc0_1 (hs1 (hx_len hn))) ptn<|s_nil<|n_thn<|?_
    exact cT' (()) (by trivial)
   have hc:¬(s1.size≠0∧headI s1=45):=fun e=>hc1 e.2
   have f2:tSpan s1 t1=(sh,t2):=by unfold tShift at e2;rw [e1,if_neg hc] at e2;exact e2
   refine w_reg<|mv' lk0 pt23<|mv' lk4 pt24<|s_calls (mp1 lk23 (mp1 lk24 mp0)) (tspan_e z1 f2 (hx_at hid)) (hx_set hid) pt25<|V' (v_fap0 lk3) pt26<|E' (e_store lk26 (cvl lk25 rfl) (hga (hx_len hn) rfl) rfl (nb' rfl) rfl SrcX_sc0_1 (hs1 (hx_len hn))) ptn<|s_nil<|n_thn<|?_
   exact cT' (()) (by trivial)
  have hc:¬(s1.size≠0∧headI s1=45):=fun e=>e.1 (hem1.1 (Decidable.of_not_not hg12))
  have f2:tSpan s1 t1=(sh,t2):=by unfold tShift at e2;rw [e1,if_neg hc] at e2;exact e2
  refine s_no gt12 pt13<|s_no gt12 pt14<|s_no gt12 pt15<|V' (v_pickF lk12 lkb) pt16<|sn'<|w_condF lk16<|w_reg<|mv' lk0 pt23<|mv' lk4 pt24<|s_calls (mp1 lk23 (mp1 lk24 mp0)) (tspan_e z1 f2 (hx_at hid)) (hx_set hid) pt25<|V' (v_fap0 lk3) pt26<|E' (e_store lk26 (cvl lk25 rfl) (hga (hx_len hn) rfl) rfl (nb' rfl) rfl SrcX_sc0_1 (hs1 (hx_len hn))) ptn<|s_nil<|?_
  refine n_thn ?_
  exact cT' (()) (by trivial)
 rintro u hq5
 try simp only [setsT,setsE,z',s',rn',la',ln',Nat.reduceAdd]
 refine wr'<|mv' lk0 pt27<|s_calls (mp1 lk27 mp0) (tnext_e e3 (hx_at hid)) (hx_set hid) pt28<|mv' lk28 pt4<|sn'<|?_
 refine w_seqH (ι:=Unit) (fun (u:Unit)=>[]++rn' 29 28) (fun (u:Unit)=>h.set id (takE t4)++[.mk 0 64 10 eraZ,.mk 0 64 10 [iv sh,sv rl,iv sa,sv ⟨#[]⟩,bv false,iv 0,iv 0,iv 0,iv 0,iv 0]]) (fun (u:Unit)=>True) ?_ ?_
 ·try simp only [setsT,setsE,z',s',rn',la',ln',Nat.reduceAdd]
  refine w_block<|wr'<|mv' lk4 pt38<|V' (v_eqlS lk38 lks) pt39<|mv' lk39 pt37<|sn'<|?_
  refine cd' lk37 (fun hc2=>?_) (fun hc2=>?_)
  ·have hq:sa=0∧rl=⟨#[]⟩∧t4=t3:=by rw [tRulesS,if_pos (show s3=bA [45] from hc2)] at e4;cases e4;exact ⟨rfl,rfl,rfl⟩
   obtain ⟨rfl,rfl,rfl⟩:=hq
   refine w_skip<|n_blk<|n_thn<|?_
   exact cT' (()) (by trivial)
  rw [tRulesS,if_neg (show ¬s3=bA [45] from hc2)] at e4
  have hbz:=byte_bd s3 0
  refine wr'<|mv' lk4 pt41<|V' (v_neqS lk41 lks) pt42<|mv' lk42 pt43<|?_
  refine sp' gt43 pt43 pt43 (fun hg43=>?_) (fun hg43=>?_)
  ·have hn3:s3.size≠0:=fun e=>hg43 (hem3.2 e)
   refine s_do gt43<|mv' lk4 pt44<|s_do gt43<|?_
   refine V' (v_ix lk44 lki (by omega) (by omega)) pt45 ?_
   refine s_do gt43<|s_callp (mp1 lk45 mp0) (risDigit_a hbz.1 hbz.2) pt46<|V' (v_pickT lk43 lk46) pt47<|mv' lk47 pt40<|sn'<|?_
   refine w_condB lk40 (fun hc3=>?_) (fun hc3=>?_)
   ·have hc:s3.size≠0∧digB (headI s3)=true:=⟨fun e=>hg43 (hem3.2 e),hc3⟩
    rw [if_pos hc] at e4
    refine w_seq<|wr'<|mv' lk4 pt48<|V' (v_eqlS lk48 lks) pt49<|sn'<|?_
    refine cd' lk49 (fun hc4=>?_) (fun hc4=>?_)
    ·rw [if_pos (show s3=bA [48] from hc4)] at e4
     have hsp:tSpan s3 (bad t3)=(sa,t4):=by cases e4;rfl
     have hrl:rl=⟨#[]⟩:=by cases e4;rfl
     subst hrl
     refine w_reg<|mv' lk0 pt50<|V' (v_nckp lk50) pt51<|V' (v_fap0 lk51) pt52<|E' (e_store lk52 (cvl lkb rfl) (hx_at hid) rfl (nb' rfl) rfl SrcX_sc1_1 (hx_set hid)) ptn<|sn'<|w_reg<|mv' lk0 pt53<|mv' lk4 pt54<|s_calls (mp1 lk53 (mp1 lk54 mp0)) (tspan_e z3 hsp (hx_at hid)) (hx_set hid) pt55<|V' (v_fap0 lk3) pt56<|E' (e_store lk56 (cvl lk55 rfl) (hga (hx_len hn) rfl) rfl (nb' rfl) rfl SrcX_sc2_1 (hs1 (hx_len hn))) ptn<|s_nil<|?_
     refine n_blk<|n_thn<|?_
     exact cT' (()) (by trivial)
    rw [if_neg (show ¬s3=bA [48] from hc4)] at e4
    have hsp:tSpan s3 t3=(sa,t4):=by cases e4;rfl
    have hrl:rl=⟨#[]⟩:=by cases e4;rfl
    subst hrl
    refine w_skip<|n_seq<|w_reg<|mv' lk0 pt53<|mv' lk4 pt54<|s_calls (mp1 lk53 (mp1 lk54 mp0)) (tspan_e z3 hsp (hx_at hid)) (hx_set hid) pt55<|V' (v_fap0 lk3) pt56<|E' (e_store lk56 (cvl lk55 rfl) (hga (hx_len hn) rfl) rfl (nb' rfl) rfl SrcX_sc2_1 (hs1 (hx_len hn))) ptn<|s_nil<|n_blk<|n_thn<|?_
    exact cT' (()) (by trivial)
   have hc:¬(s3.size≠0∧digB (headI s3)=true):=fun e=>by have:=e.2;rw [show digB (headI s3)=false from hc3] at this;cases this
   refine w_seq<|wr'<|mv' lk4 pt29<|?_
   rw [if_neg hc] at e4
   refine s_callp (mp1 lk29 mp0) (risName_a (by unfold maxLen;omega)) pt30 ?_
   refine V' (v_notB lk30) pt31<|sn'<|?_
   refine w_condB lk31 (fun hc5=>?_) (fun hc5=>?_)
   ·have hnm:¬nameB s3=true:=by simpa using hc5
    rw [if_neg hnm] at e4
    have hq:sa=0∧rl=s3∧t4=bad t3:=by cases e4;exact ⟨rfl,rfl,rfl⟩
    obtain ⟨rfl,rfl,rfl⟩:=hq
    refine w_reg<|mv' lk0 pt32<|V' (v_nckp lk32) pt33<|V' (v_fap0 lk33) pt34<|E' (e_store lk34 (cvl lkb rfl) (hx_at hid) rfl (nb' rfl) rfl SrcX_sc1_1 (hx_set hid)) ptn<|sn'<|w_reg<|mv' lk4 pt35<|V' (v_fap0 lk3) pt36<|E' (e_store lk36 (cvl lk35 rfl) (hga (hx_len hn) rfl) rfl (nb' rfl) rfl SrcX_sc1_1 (hs1 (hx_len hn))) ptn<|s_nil<|n_blk<|n_thn<|?_
    exact cT' (()) (by trivial)
   have hnm:nameB s3=true:=by simpa using hc5
   rw [if_pos hnm] at e4
   have hq:sa=0∧rl=s3∧t4=t3:=by cases e4;exact ⟨rfl,rfl,rfl⟩
   obtain ⟨rfl,rfl,rfl⟩:=hq
   refine w_skip<|n_seq<|w_reg<|mv' lk4 pt35<|V' (v_fap0 lk3) pt36<|E' (e_store lk36 (cvl lk35 rfl) (hga (hx_len hn) rfl) rfl (nb' rfl) rfl SrcX_sc1_1 (hs1 (hx_len hn))) ptn<|s_nil<|n_blk<|n_thn<|?_
   exact cT' (()) (by trivial)
  have hc:¬(s3.size≠0∧digB (headI s3)=true):=fun e=>e.1 (hem3.1 (Decidable.of_not_not hg43))
  refine s_no gt43 pt44<|s_no gt43 pt45<|s_no gt43 pt46<|V' (v_pickF lk43 lkb) pt47<|mv' lk47 pt40<|sn'<|w_condF lk40<|w_seq<|wr'<|mv' lk4 pt29<|?_
  rw [if_neg hc] at e4
  refine s_callp (mp1 lk29 mp0) (risName_a (by unfold maxLen;omega)) pt30 ?_
  refine V' (v_notB lk30) pt31<|sn'<|?_
  refine w_condB lk31 (fun hc5=>?_) (fun hc5=>?_)
  ·have hnm:¬nameB s3=true:=by simpa using hc5
   rw [if_neg hnm] at e4
   have hq:sa=0∧rl=s3∧t4=bad t3:=by cases e4;exact ⟨rfl,rfl,rfl⟩
   obtain ⟨rfl,rfl,rfl⟩:=hq
   refine w_reg<|mv' lk0 pt32<|V' (v_nckp lk32) pt33<|V' (v_fap0 lk33) pt34<|E' (e_store lk34 (cvl lkb rfl) (hx_at hid) rfl (nb' rfl) rfl SrcX_sc1_1 (hx_set hid)) ptn<|sn'<|w_reg<|mv' lk4 pt35<|V' (v_fap0 lk3) pt36<|E' (e_store lk36 (cvl lk35 rfl) (hga (hx_len hn) rfl) rfl (nb' rfl) rfl SrcX_sc1_1 (hs1 (hx_len hn))) ptn<|s_nil<|n_blk<|n_thn<|?_
   exact cT' (()) (by trivial)
  have hnm:nameB s3=true:=by simpa using hc5
  rw [if_pos hnm] at e4
  have hq:sa=0∧rl=s3∧t4=t3:=by cases e4;exact ⟨rfl,rfl,rfl⟩
  obtain ⟨rfl,rfl,rfl⟩:=hq
  refine w_skip<|n_seq<|w_reg<|mv' lk4 pt35<|V' (v_fap0 lk3) pt36<|E' (e_store lk36 (cvl lk35 rfl) (hga (hx_len hn) rfl) rfl (nb' rfl) rfl SrcX_sc1_1 (hs1 (hx_len hn))) ptn<|s_nil<|n_blk<|n_thn<|?_
  exact cT' (()) (by trivial)
 rintro u hq13
 try simp only [setsT,setsE,z',s',rn',la',ln',Nat.reduceAdd]
 refine wr'<|mv' lk0 pt57<|s_calls (mp1 lk57 mp0) (tnext_e e5 (hx_at hid)) (hx_set hid) pt58<|V' (v_fap0 lk3) pt59<|E' (e_store lk59 (cvl lk58 rfl) (hga (hx_len hn) rfl) rfl (nb' rfl) rfl SrcX_sc3_1 (hs1 (hx_len hn))) ptn<|sn'<|?_
 refine w_seqH (ι:=Unit) (fun (u:Unit)=>[]++rn' 60 7) (fun (u:Unit)=>h.set id (takE t6)++[.mk 0 64 10 eraZ,.mk 0 64 10 [iv sh,sv rl,iv sa,sv fm,bv false,iv 0,iv 0,iv 0,iv 0,iv 0]]) (fun (u:Unit)=>True) ?_ ?_
 ·try simp only [setsT,setsE,z',s',rn',la',ln',Nat.reduceAdd]
  refine wr'<|V' (v_fap0 lk3) pt60<|V' (v_loadp lk60 (hga (hx_len hn) rfl) gt3) pt61<|?_
  refine s_callp (mp1 lk61 mp0) (risFormat_a (by unfold maxLen;omega)) pt62 ?_
  refine V' (v_notB lk62) pt63<|sn'<|?_
  refine w_condB lk63 (fun hc6=>?_) (fun hc6=>?_)
  ·have hq:t6=bad t5:=by rw [←e6,if_neg (by simpa using hc6)]
   subst hq
   refine w_reg<|mv' lk0 pt64<|V' (v_nckp lk64) pt65<|V' (v_fap0 lk65) pt66<|E' (e_store lk66 (cvl lkb rfl) (hx_at hid) rfl (nb' rfl) rfl SrcX_sc1_1 (hx_set hid)) ptn<|s_nil<|n_thn<|?_
   exact cT' (()) (by trivial)
  have hq:t6=t5:=by rw [←e6,if_pos (by simpa using hc6)]
  subst hq
  refine w_skip<|n_thn<|?_
  exact cT' (()) (by trivial)
 rintro u hq16
 try simp only [setsT,setsE,z',s',rn',la',ln',Nat.reduceAdd]
 refine w_seq<|wr'<|mv' lk0 pt67<|V' (v_nckp lk67) pt68<|V' (v_fap0 lk68) pt69<|V' (v_loadp lk69 (hx_at hid) gt0) (ptS pt0)<|V' (v_lenL (lkS lk0)) (ptS pt1)<|V' (v_eql (lkS lk1) lki) (ptS pt2)<|sn'<|?_
 refine cd' (lkS lk2) (fun hc7=>?_) (fun hc7=>?_)
 ·have hE:tEnd t6=((true,untZ),t6):=by unfold tEnd;rw [if_pos (List.eq_nil_of_length_eq_zero (by omega))]
  rw [hE] at hR
  refine wr'<|V' (v_fap0 lk3) (ptS pt3)<|E' (e_store (lkS lk3) (cvl lkb rfl) (hga (hx_len hn) rfl) rfl (nb' rfl) rfl SrcX_sc4_1 (hs1 (hx_len hn))) ptn<|sn'<|wr'<|V' (v_loadpA lk3 (hga (hx_len hn) rfl) SrcX_tk0_10 rfl) (ptS pt4)<|E' (e_store lk2 (cvl (lkS lk4) rfl) (hga (hx_len hn) rfl) rfl (nb' rfl) rfl SrcX_sc0_10 (hs0 (hx_len hn))) ptn<|sn'<|w_rets<|r_thn<|?_
  refine w_ret (rs1 (rr_c gt2 (hga (hx_len hn) rfl) (ld1 SrcX_tk0_10 rfl))) ?_
  exact ⟨_,_,rfl,hx_len hn,hx_lt hlt takE_ltb,rfl,by rw [hR] <;> rfl,by rw [hR] <;> rfl⟩
 have hE:tEnd t6=((false,(tUntil t6).1),(tUntil t6).2):=by unfold tEnd;rw [if_neg (by intro e;rw [e] at hc7;exact hc7 rfl)]
 rw [hE,hU] at hR
 refine w_skip<|n_seq<|wr'<|mv' lk0 (ptS pt5)<|mv' lk0 (ptS pt6)<|s_calls (mp1 (lkS lk6) mp0) (tnext_e e7 (hx_at hid)) (hx_set hid) (ptS pt7)<|?_
 refine s_calls (mp1 (lkS lk5) (mp1 (lkS lk7) (mp1 lki (mp1 lki mp0)))) (tnum_e (by omega) e8 (hx_at hid)) (hx_set hid) (ptS pt8) ?_
 refine mv' (lkS lk8) pt5<|sn'<|wr'<|mv' lk0 (ptS pt9)<|s_calls (mp1 (lkS lk9) mp0) (tmonth_e e9 (hx_at hid)) (hx_set hid) (ptS pt10)<|mv' (lkS lk10) pt6<|sn'<|wr'<|mv' lk0 (ptS pt11)<|mv' lk0 (ptS pt12)<|?_
 refine s_calls (mp1 (lkS lk12) mp0) (tnext_e e10 (hx_at hid)) (hx_set hid) (ptS pt13) ?_
 refine s_calls (mp1 (lkS lk11) (mp1 (lkS lk13) (mp1 lki (mp1 lki mp0)))) (tnum_e (by omega) e11 (hx_at hid)) (hx_set hid) (ptS pt14) ?_
 refine mv' (lkS lk14) pt7<|sn'<|wr'<|mv' lk5 (ptS pt15)<|mv' lk6 (ptS pt16)<|mv' lk7 (ptS pt17)<|V' (v_build (SrcX_EraOf_98 (cvl (lkS lk15) rfl) rfl (cvl (lkS lk16) rfl) rfl (cvl (lkS lk17) rfl) rfl)) (ptS pt18)<|V' (v_fap0 lk3) (ptS pt19)<|V' (v_fap (lkS lk19)) (ptS pt20)<|E' (e_store (lkS lk20) (cvl (lkS lk18) rfl) (hga (hx_len hn) rfl) rfl (nb' rfl) rfl SrcX_sc5_3 (hs1 (hx_len hn))) ptn<|sn'<|?_
 refine wr'<|mv' lk0 (ptS pt22)<|s_calls (mp1 (lkS lk22) (mp1 lki mp0)) (tclock_e (.inr rfl) o11 e12 (hx_at hid)) (hx_set hid) (ptS pt23)<|mv' (lkS lk23) (ptS pt21)<|V' (v_ext (lkS lk21) gt0) (ptS pt24)<|V' (v_ext (lkS lk21) gt1) (ptS pt25)<|V' (v_fap0 lk3) (ptS pt26)<|V' (v_fap (lkS lk26)) (ptS pt27)<|E' (e_store (lkS lk27) (cvl (lkS lk24) rfl) (hga (hx_len hn) rfl) rfl (nb' rfl) rfl SrcX_sc8_1 (hs1 (hx_len hn))) ptn<|V' (v_fap0 lk3) (ptS pt28)<|V' (v_fap (lkS lk28)) (ptS pt29)<|E' (e_store (lkS lk29) (cvl (lkS lk25) rfl) (hga (hx_len hn) rfl) rfl (nb' rfl) rfl SrcX_sc9_1 (hs1 (hx_len hn))) ptn<|s_nil<|?_
 refine n_seq<|w_seq<|wr'<|V' (v_fap0 lk3) (ptS pt30)<|V' (v_fap (lkS lk30)) (ptS pt31)<|V' (v_loadp (lkS lk31) (hga (hx_len hn) rfl) gt9) (ptS pt32)<|V' (v_eql (lkS lk32) lki) (ptS pt33)<|sn'<|?_
 refine cd' (lkS lk33) (fun hc8=>?_) (fun hc8=>?_)
 ·rw [if_pos hc8] at hR
  refine w_reg<|mv' lk0 (ptS pt34)<|V' (v_nckp (lkS lk34)) (ptS pt35)<|V' (v_fap0 (lkS lk35)) (ptS pt36)<|E' (e_store (lkS lk36) (cvl lkb rfl) (hx_at hid) rfl (nb' rfl) rfl SrcX_sc1_1 (hx_set hid)) ptn<|sn'<|wr'<|V' (v_loadpA lk3 (hga (hx_len hn) rfl) SrcX_tk0_10 rfl) (ptS pt37)<|E' (e_store lk2 (cvl (lkS lk37) rfl) (hga (hx_len hn) rfl) rfl (nb' rfl) rfl SrcX_sc0_10 (hs0 (hx_len hn))) ptn<|sn'<|w_rets<|?_
  refine w_ret (rs1 (rr_c gt2 (hga (hx_len hn) rfl) (ld1 SrcX_tk0_10 rfl))) ?_
  exact ⟨_,_,rfl,hx_len hn,hx_lt hlt takE_ltb,rfl,by rw [hR] <;> rfl,by rw [hR] <;> rfl⟩
 rw [if_neg hc8] at hR
 refine w_skip<|n_seq<|wr'<|V' (v_loadpA lk3 (hga (hx_len hn) rfl) SrcX_tk0_10 rfl) (ptS pt37)<|E' (e_store lk2 (cvl (lkS lk37) rfl) (hga (hx_len hn) rfl) rfl (nb' rfl) rfl SrcX_sc0_10 (hs0 (hx_len hn))) ptn<|sn'<|w_rets<|w_ret (rs1 (rr_c gt2 (hga (hx_len hn) rfl) (ld1 SrcX_tk0_10 rfl)))<|?_
 exact ⟨_,_,rfl,hx_len hn,hx_lt hlt takE_ltb,rfl,by rw [hR] <;> rfl,by rw [hR] <;> rfl⟩
end Go.Proofs.YtgjchdhdopgkkaaGreatDoor
end
section
namespace Go.Proofs.YtgjchdhdopgkkaaGreatDoor
open Go.Ab Go.RowKit Civ
attribute [local simp] str_lt
section
theorem SrcR_sc0_1 {a0 c0:AV}{l:List AV}:setCells (a0::l) 0 [c0]=c0::l:=rfl
theorem SrcR_Months_2 {τ:Operand→AV}{y0 y1 y2 y3 y4 y5 y6 y7 y8 y9 y10 y11 y12:Operand}{x0_0 x1_0 x2_0 x3_0 x4_0 x5_0 x6_0 x7_0 x8_0 x9_0 x10_0 x11_0 x12_0:AV}(h0:cellsV (τ y0)=some [x0_0]) (l0:[x0_0].all leaf=true) (h1:cellsV (τ y1)=some [x1_0]) (l1:[x1_0].all leaf=true) (h2:cellsV (τ y2)=some [x2_0]) (l2:[x2_0].all leaf=true) (h3:cellsV (τ y3)=some [x3_0]) (l3:[x3_0].all leaf=true) (h4:cellsV (τ y4)=some [x4_0]) (l4:[x4_0].all leaf=true) (h5:cellsV (τ y5)=some [x5_0]) (l5:[x5_0].all leaf=true) (h6:cellsV (τ y6)=some [x6_0]) (l6:[x6_0].all leaf=true) (h7:cellsV (τ y7)=some [x7_0]) (l7:[x7_0].all leaf=true) (h8:cellsV (τ y8)=some [x8_0]) (l8:[x8_0].all leaf=true) (h9:cellsV (τ y9)=some [x9_0]) (l9:[x9_0].all leaf=true) (h10:cellsV (τ y10)=some [x10_0]) (l10:[x10_0].all leaf=true) (h11:cellsV (τ y11)=some [x11_0]) (l11:[x11_0].all leaf=true) (h12:cellsV (τ y12)=some [x12_0]) (l12:[x12_0].all leaf=true):fillAV τ [(0,1,y0),(1,1,y1),(2,1,y2),(3,1,y3),(4,1,y4),(5,1,y5),(6,1,y6),(7,1,y7),(8,1,y8),(9,1,y9),(10,1,y10),(11,1,y11),(12,1,y12)] [(.v (.string ⟨#[]⟩)),(.v (.string ⟨#[]⟩)),(.v (.string ⟨#[]⟩)),(.v (.string ⟨#[]⟩)),(.v (.string ⟨#[]⟩)),(.v (.string ⟨#[]⟩)),(.v (.string ⟨#[]⟩)),(.v (.string ⟨#[]⟩)),(.v (.string ⟨#[]⟩)),(.v (.string ⟨#[]⟩)),(.v (.string ⟨#[]⟩)),(.v (.string ⟨#[]⟩)),(.v (.string ⟨#[]⟩))]=some [x0_0,x1_0,x2_0,x3_0,x4_0,x5_0,x6_0,x7_0,x8_0,x9_0,x10_0,x11_0,x12_0]:=by
 simp only [fillAV,h0,l0,h1,l1,h2,l2,h3,l3,h4,l4,h5,l5,h6,l6,h7,l7,h8,l8,h9,l9,h10,l10,h11,l11,h12,l12]
 rfl
theorem SrcR_Weekdays_2 {τ:Operand→AV}{y0 y1 y2 y3 y4 y5 y6:Operand}{x0_0 x1_0 x2_0 x3_0 x4_0 x5_0 x6_0:AV}(h0:cellsV (τ y0)=some [x0_0]) (l0:[x0_0].all leaf=true) (h1:cellsV (τ y1)=some [x1_0]) (l1:[x1_0].all leaf=true) (h2:cellsV (τ y2)=some [x2_0]) (l2:[x2_0].all leaf=true) (h3:cellsV (τ y3)=some [x3_0]) (l3:[x3_0].all leaf=true) (h4:cellsV (τ y4)=some [x4_0]) (l4:[x4_0].all leaf=true) (h5:cellsV (τ y5)=some [x5_0]) (l5:[x5_0].all leaf=true) (h6:cellsV (τ y6)=some [x6_0]) (l6:[x6_0].all leaf=true):fillAV τ [(0,1,y0),(1,1,y1),(2,1,y2),(3,1,y3),(4,1,y4),(5,1,y5),(6,1,y6)] [(.v (.string ⟨#[]⟩)),(.v (.string ⟨#[]⟩)),(.v (.string ⟨#[]⟩)),(.v (.string ⟨#[]⟩)),(.v (.string ⟨#[]⟩)),(.v (.string ⟨#[]⟩)),(.v (.string ⟨#[]⟩))]=some [x0_0,x1_0,x2_0,x3_0,x4_0,x5_0,x6_0]:=by
 simp only [fillAV,h0,l0,h1,l1,h2,l2,h3,l3,h4,l4,h5,l5,h6,l6]
 rfl
end
def c112:AC:=(.seq (.reg [Oo 2 (.mv (.const (.string ⟨#[]⟩)))]) (.seq (.seq (.reg [Mv 4 0,Nk 5 4,Fa 6 0 5,Ld 7 6,Oo 8 (.len false (.tmp 7)),Oo 9 (.bin .eql (.tmp 8) (Ci 0))]) (.cond (.tmp 9) (.reg [Oo 10 (.call (.func 111) [])]) .skip)) (.seq (.reg [Mv 11 0,Nk 12 11,Fa 13 0 12,Ld 14 13,Oo 15 (.ia 1 (.tmp 14) (Ci 0)),Ld 16 15,Mv 3 16]) (.seq (.reg [Mv 17 0,Mv 18 0,Nk 19 18,Fa 20 0 19,Ld 21 20,Oo 22 (.slc 1 (.tmp 21) (some (Ci 1)) none none),Nk 23 17,Fa 24 0 23,⟨none,none,(.store 1 (.tmp 24) (.tmp 22))⟩]) (.seq (.reg [Mv 25 3,Mv 2 25]) .ret)))))
theorem k112:compF Tryz.prog 112=some ⟨c112,[(.tmp 2)],26⟩:=by kernel_rfl
def c143:AC:=(.seq (.reg [Oo 6 (.mv (Ci 0))]) (.seq (.seq (.reg [Mv 9 0,Oo 10 (.len true (.tmp 9)),Mv 11 1,Oo 12 (.bin .lss (.tmp 10) (.tmp 11)),Mv 13 12,Of 14 13 (.mv (.tmp 0)),Of 15 13 (.len true (.tmp 14)),Of 16 13 (.mv (.tmp 2)),Of 17 13 (.bin .gtr (.tmp 15) (.tmp 16)),Oo 18 (.pick (.tmp 13) (.const (.bool true)) (.tmp 17)),Mv 19 18,Of 20 19 (.mv (.tmp 0)),Of 21 19 (.call (.func 117) [(.tmp 20),(.func 119)]),Of 22 19 (.un .not (.tmp 21)),Oo 23 (.pick (.tmp 19) (.const (.bool true)) (.tmp 22))]) (.cond (.tmp 23) (.reg [Oo 24 (.call (.func 111) [])]) .skip)) (.seq (.reg [Mv 26 0,Oo 27 (.call (.func 175) [(.tmp 26)]),Mv 25 27,Ex 28 25 0,Ex 29 25 1,Mv 7 28,Mv 8 29]) (.seq (.reg [Mv 30 7,Mv 6 30]) .ret))))
theorem k143:compF Tryz.prog 143=some ⟨c143,[(.tmp 6)],31⟩:=by kernel_rfl
def c115:AC:=(.seq (.reg [Oo 2 (.mv (.const (.string ⟨#[]⟩)))]) (.seq (.reg [Mv 4 0,Oo 5 (.call (.func 112) [(.tmp 4)]),Mv 3 5]) (.seq (.seq (.reg [Mv 6 3,Oo 7 (.call (.func 80) [(.tmp 6)]),Oo 8 (.un .not (.tmp 7))]) (.cond (.tmp 8) (.reg [Oo 9 (.call (.func 111) [])]) .skip)) (.seq (.reg [Mv 10 3,Mv 2 10]) .ret))))
theorem k115:compF Tryz.prog 115=some ⟨c115,[(.tmp 2)],11⟩:=by kernel_rfl
def c192:AC:=(.seq (.reg [Oo 4 (.mv (Ci 0))]) (.seq (.seq (.reg [Mv 6 0,Oo 7 (.len false (.tmp 6)),Oo 8 (.mv (Ci 0))]) (.block 0 (.loop (.seq (.reg [Oo 9 (.bin .lss (.tmp 8) (.tmp 7))]) (.seq (.cond (.tmp 9) .skip (.exit 0)) (.seq (.block 1 (.seq (.reg [Mv 10 8,Mv 5 10]) (.seq (.reg [Mv 11 1,Mv 12 0,Mv 13 5,Oo 14 (.ia 1 (.tmp 12) (.tmp 13)),Ld 15 14,Oo 16 (.bin .eql (.tmp 11) (.tmp 15))]) (.cond (.tmp 16) (.seq (.reg [Mv 17 5,Mv 4 17]) .ret) .skip)))) (.reg [Oo 18 (.bin .add (.tmp 8) (Ci 1)),Mv 8 18]))))))) (.seq (.reg [Oo 4 (.mv (.const (.int .i64 (-1))))]) .ret)))
theorem k192:compF Tryz.prog 192=some ⟨c192,[(.tmp 4)],19⟩:=by kernel_rfl
def c176:AC:=(.seq (.reg [Oo 4 (.mv (Ci 0))]) (.seq (.reg [Mv 6 0,Mv 7 1,Oo 8 (.call (.func 192) [(.tmp 6),(.tmp 7)]),Mv 5 8]) (.seq (.seq (.reg [Mv 9 5,Oo 10 (.bin .lss (.tmp 9) (Ci 0)),Mv 11 10,Of 12 11 (.mv (.tmp 1)),Of 13 11 (.bin .eql (.tmp 12) (.const (.string ⟨#[]⟩))),Oo 14 (.pick (.tmp 11) (.const (.bool true)) (.tmp 13))]) (.cond (.tmp 14) (.reg [Oo 15 (.call (.func 111) [])]) .skip)) (.seq (.reg [Mv 16 5,Mv 4 16]) .ret))))
theorem k176:compF Tryz.prog 176=some ⟨c176,[(.tmp 4)],17⟩:=by kernel_rfl
def c54:AC:=(.seq (.reg [Oo 0 (.mv (.const (.slice none 0 0)))]) (.seq (.reg [Oo 1 (.lit 9 1 13 [Ss,Ss,Ss,Ss,Ss,Ss,Ss,Ss,Ss,Ss,Ss,Ss,Ss] [(0,(1,(.const (.string ⟨#[]⟩)))),(1,(1,(.const (.string ⟨#[74,97,110]⟩)))),(2,(1,(.const (.string ⟨#[70,101,98]⟩)))),(3,(1,(.const (.string ⟨#[77,97,114]⟩)))),(4,(1,(.const (.string ⟨#[65,112,114]⟩)))),(5,(1,(.const (.string ⟨#[77,97,121]⟩)))),(6,(1,(.const (.string ⟨#[74,117,110]⟩)))),(7,(1,(.const (.string ⟨#[74,117,108]⟩)))),(8,(1,(.const (.string ⟨#[65,117,103]⟩)))),(9,(1,(.const (.string ⟨#[83,101,112]⟩)))),(10,(1,(.const (.string ⟨#[79,99,116]⟩)))),(11,(1,(.const (.string ⟨#[78,111,118]⟩)))),(12,(1,(.const (.string ⟨#[68,101,99]⟩))))]),Mv 0 1]) .ret))
theorem k54:compF Tryz.prog 54=some ⟨c54,[(.tmp 0)],2⟩:=by kernel_rfl
def c93:AC:=(.seq (.reg [Oo 0 (.mv (.const (.slice none 0 0)))]) (.seq (.reg [Oo 1 (.lit 9 1 7 [Ss,Ss,Ss,Ss,Ss,Ss,Ss] [(0,(1,(.const (.string ⟨#[83,117,110]⟩)))),(1,(1,(.const (.string ⟨#[77,111,110]⟩)))),(2,(1,(.const (.string ⟨#[84,117,101]⟩)))),(3,(1,(.const (.string ⟨#[87,101,100]⟩)))),(4,(1,(.const (.string ⟨#[84,104,117]⟩)))),(5,(1,(.const (.string ⟨#[70,114,105]⟩)))),(6,(1,(.const (.string ⟨#[83,97,116]⟩))))]),Mv 0 1]) .ret))
theorem k93:compF Tryz.prog 93=some ⟨c93,[(.tmp 0)],2⟩:=by kernel_rfl
abbrev wrA:AV:=.v (.iface 121 (.agg #[]))
theorem sfail_a {h:AH}:ACalls Tryz.prog 111 [] h fun x h'=>h'=h∧x = .pan wrA:=by
 refine ⟨by kernel_rfl,fun w g vs hs ha=>?_⟩
 obtain rfl:vs = #[]:=by
  simp only [RepL] at ha
  cases vs;simp_all
 have hc:Calls Tryz.prog 111 #[] w fun e w'=>e = .panicked [{ v:=.iface 121 (.agg #[]),recovered:=false }]∧w'=w:=by
  go_enter Tryz.func111,Tryz.ntmps111
  go_wp2
  simp [bodyPost]
 refine hc.mono ?_
 rintro e w' ⟨rfl,rfl⟩
 exact ⟨.pan wrA,h,g,by simp only [EndR,Rep];exact ⟨_,rfl,rfl⟩,hs,Gh.le.refl g,Fr.refl _ _,fun k hk=>.inl hk,rfl,rfl⟩
def res (o:Option AV):AE:=match o with
 | none=>.pan wrA
 | some v=>.ret v
abbrev rdE (l:List ByteArray):Ent:=.mk 0 146 1 [.sl l.length 1 false (rows strC l)]
theorem rdE_ltb {l:List ByteArray}{n:Nat}:(Ent.mk 0 146 1 [.sl l.length 1 false (rows strC l)]).lt n=true:=by simp [Ent.lt,AV.lt,AV.ltL,str_lt]
def RS (id:Nat) (h:AH) (o:Option (AV×List ByteArray)) (x:AE) (h':AH):Prop:=match o with
 | none=>x = .pan wrA ∧ ∃ l',h'=h.set id (rdE l')
 | some p=>x = .ret p.1∧h'=h.set id (rdE p.2)
theorem RS.a {f:FuncId}{as1:List AV}{id:Nat}{h:AH}{o:Option (AV×List ByteArray)}{p:AV×List ByteArray}(hc:ACalls Tryz.prog f as1 h (RS id h o)) (e:o=some p):ACalls Tryz.prog f as1 h fun x h'=>x = .ret p.1∧h'=h.set id (rdE p.2):=by
 subst e;exact hc
theorem RS.p {f:FuncId}{as1:List AV}{id:Nat}{h:AH}{o:Option (AV×List ByteArray)}(hc:ACalls Tryz.prog f as1 h (RS id h o)) (e:o=none):ACalls Tryz.prog f as1 h fun x h'=>x = .pan wrA ∧ ∃ l',h'=h.set id (rdE l'):=by
 subst e;exact hc
theorem res_a {f:FuncId}{as1:List AV}{h:AH}{o:Option AV}{v:AV}(hc:ACalls Tryz.prog f as1 h fun x h'=>h'=h∧x=res o) (e:o=some v):ACalls Tryz.prog f as1 h fun x h'=>h'=h∧x = .ret v:=by
 subst e;exact hc
theorem res_p {f:FuncId}{as1:List AV}{h:AH}{o:Option AV}(hc:ACalls Tryz.prog f as1 h fun x h'=>h'=h∧x=res o) (e:o=none):ACalls Tryz.prog f as1 h fun x h'=>h'=h∧x = .pan wrA:=by
 subst e;exact hc
theorem rnext_any {l:List ByteArray}{id:Nat}{h:AH}(h1:h[id]?=some (rdE l)):ACalls Tryz.prog 112 [.ptr id 0 0] h (RS id h ((rNext l).map fun p=>(sv p.1,p.2))):=by
 have hid:id<h.length:=(List.getElem?_eq_some_iff.1 h1).1
 refine tJ' k112 fun N hn hlt hlA hbd=>?_
 simp only [tA',AV.bdL,AV.bd,and_true,true_and] at hbd ⊢
 refine aw_heap (h1:=h.set id (rdE l)++[]) (by rw [hx_self h1]) ?_
 refine wr'<|mv' lks pt2<|sn'<|w_seq<|wr'<|mv' lk0 pt4<|V' (v_nckp lk4) pt5<|V' (v_fap0 lk5) pt6<|V' (v_loadp lk6 (hx_at hid) gt0) pt7<|V' (v_lenL lk7) pt8<|V' (v_eql lk8 lki) pt9<|?_
 refine sn' ?_
 refine cd' lk9 (fun hc1=>?_) (fun hc1=>?_)
 ·have hl:l=[]:=List.eq_nil_of_length_eq_zero (by omega)
  refine w_reg<|s_callPan' mp0 (sfail_a)<|p_thn<|w_pan<|?_
  exact ⟨_,_,rfl,hx_len hn,hx_lt hlt rdE_ltb,rfl,by rw [hl];exact ⟨rfl,[],rfl⟩⟩
 have hlen:0<l.length:=by omega
 refine w_skip<|n_seq<|wr'<|mv' lk0 pt11<|V' (v_nckp lk11) pt12<|V' (v_fap0 lk12) pt13<|V' (v_loadp lk13 (hx_at hid) gt0) pt14<|?_
 refine V' (v_iaR (k:=0) lk14 lki str_len1 (nb' rfl) (by first | rfl | omega) (by omega) (by first | rfl | omega) rfl) pt15 ?_
 refine V' (v_loadr lk15 gt0) pt16<|mv' lk16 pt3<|sn'<|wr'<|mv' lk0 pt17<|mv' lk0 pt18<|V' (v_nckp lk18) pt19<|V' (v_fap0 lk19) pt20<|V' (v_loadp lk20 (hx_at hid) gt0) pt21<|?_
 refine V' (v_lo (k:=1) lk21 lki str_len1 (by first | rfl | omega) (by omega) (by first | rfl | omega)) pt22 ?_
 refine V' (v_nckp lk17) pt23<|V' (v_fap0 lk23) pt24<|E' (e_store lk24 (cvl lk22 rfl) (hx_at hid) rfl (nb' rfl) rfl SrcR_sc0_1 (hx_set hid)) ptn<|sn'<|wr'<|mv' lk3 pt25<|mv' lk25 pt2<|sn'<|w_rets<|w_ret (rs1 (rr_t gt2))<|?_
 cases l with
 | nil=>cases hlen
 | cons a l=>exact ⟨_,_,rfl,hx_len hn,hx_lt hlt (rdE_ltb (l:=l)),rfl,rfl,rfl⟩
theorem decFrom_decL : ∀ {l:Bs}{acc:Nat},(∀ c∈l,digB c.toNat=true) → ∃ m:Nat,Lib.decFrom acc l=some m∧(m:Int)=decL acc l
 | [],acc,h=>⟨acc,rfl,rfl⟩
 | c::l,acc,h=>by
  have hd:=digB_bd (h c (by simp))
  have hv:Lib.digitVal c=some (c.toNat-48):=if_pos (by omega)
  obtain ⟨m,h1,h2⟩:=decFrom_decL (l:=l) (acc:=acc*10+(c.toNat-48)) (fun x hx=>h x (by simp [hx]))
  refine ⟨m,by rw [Lib.decFrom,hv];exact h1,?_⟩
  rw [h2,decL]
  congr 1
  omega
theorem atoi_dec {s:ByteArray}(h0:1≤s.size) (h:allB digB s=true):Lib.atoi (aB s)=some (decL 0 (aB s)):=by
 have hm : ∀ c∈aB s,digB c.toNat=true:=fun c hc=>allB_mem (l:=aB s) h hc
 obtain ⟨m,h1,h2⟩:=decFrom_decL (l:=aB s) (acc:=0) hm
 have hl:1≤(aB s).length:=h0
 cases hs:aB s with
 | nil=>rw [hs] at hl;cases hl
 | cons c l =>
  rw [hs] at h1 h2 hm
  have hd:=digB_bd (hm c (by simp))
  have e45:(c==45)=false:=by rw [beq_eq_false_iff_ne];rintro rfl;revert hd;decide
  have e43:(c==43)=false:=by rw [beq_eq_false_iff_ne];rintro rfl;revert hd;decide
  simp only [Lib.atoi,e45,e43,Bool.false_eq_true,if_false]
  rw [Lib.decNat,if_neg (by simp),h1,Option.map_some,h2]
  rfl
theorem sdigits_any {s:ByteArray}{a b:Int}{h:AH}(hz:s.size≤24) (ha1:1≤a) (hb4:b≤4):ACalls Tryz.prog 143 [sv s,iv a,iv b] h fun x h'=>h'=h∧x=res ((numV s a b).map iv):=by
 refine tI' k143 fun N hn hlt hlA hbd=>?_
 simp only [tA',AV.bdL,AV.bd,and_true,true_and] at hbd ⊢
 refine wr'<|mv' lki pt6<|sn'<|w_seq<|wr'<|mv' lk0 pt9<|V' (v_lenS lk9) pt10<|mv' lk1 pt11<|V' (v_lss lk10 lk11) pt12<|mv' lk12 pt13<|?_
 refine sp' gt13 pt13 pt13 (fun hg13=>?_) (fun hg13=>?_)
 ·have hN:numV s a b=none:=if_neg (by rintro ⟨e,_⟩;unfold wi at e;simp at e;omega)
  refine s_no gt13 pt14<|s_no gt13 pt15<|s_no gt13 pt16<|s_no gt13 pt17<|V' (v_pickT lk13 lkb) pt18<|mv' lk18 pt19<|s_no gt19 pt20<|s_no gt19 pt21<|s_no gt19 pt22<|V' (v_pickT lk19 lkb) pt23<|sn'<|w_condT lk23<|w_reg<|?_
  refine s_callPan' mp0 (sfail_a)<|p_thn<|w_pan<|?_
  exact ⟨_,rfl,rfl,by rw [hN];rfl⟩
 refine s_do gt13<|mv' lk0 pt14<|s_do gt13<|V' (v_lenS lk14) pt15<|s_do gt13<|mv' lk2 pt16<|s_do gt13<|V' (v_gtr lk15 lk16) pt17<|V' (v_pickF lk13 lk17) pt18<|mv' lk18 pt19<|?_
 refine sp' gt19 pt19 pt19 (fun hg19=>?_) (fun hg19=>?_)
 ·have hN:numV s a b=none:=if_neg (by rintro ⟨e,_⟩;unfold wi at e;simp at e;omega)
  refine s_no gt19 pt20<|s_no gt19 pt21<|s_no gt19 pt22<|V' (v_pickT lk19 lkb) pt23<|sn'<|w_condT lk23<|w_reg<|s_callPan' mp0 (sfail_a)<|p_thn<|w_pan<|?_
  exact ⟨_,rfl,rfl,by rw [hN];rfl⟩
 refine s_do gt19<|mv' lk0 pt20<|s_do gt19<|?_
 refine s_callp (mp1 lk20 (mp1 lkf mp0)) (all_a (fun _ _=>digit_a) (by unfold maxLen;omega)) pt21 ?_
 refine s_do gt19<|V' (v_notB lk21) pt22<|V' (v_pickF lk19 lk22) pt23<|sn'<|?_
 refine w_condB lk23 (fun hc1=>?_) (fun hc1=>?_)
 ·have hN:numV s a b=none:=if_neg (by rintro ⟨_,e⟩;rw [e] at hc1;simp at hc1)
  refine w_reg<|s_callPan' mp0 (sfail_a)<|p_thn<|w_pan<|?_
  exact ⟨_,rfl,rfl,by rw [hN];rfl⟩
 have hall:allB digB s=true:=by simpa using hc1
 have hN:numV s a b=some (decL 0 (aB s)):=if_pos ⟨by unfold wi;simp;omega,hall⟩
 refine w_skip<|n_seq<|wr'<|mv' lk0 pt26<|?_
 refine s_callp (mp1 lk26 mp0) (atoi_a (by omega) (atoi_dec (by omega) hall)) pt27 ?_
 refine mv' lk27 pt25<|V' (v_ext lk25 gt0) pt28<|V' (v_ext lk25 gt1) pt29<|mv' lk28 pt7<|mv' lk29 pt8<|sn'<|wr'<|mv' lk7 pt30<|mv' lk30 pt6<|sn'<|w_rets<|?_
 refine w_ret (rs1 (rr_t gt6)) ?_
 exact ⟨_,rfl,rfl,by rw [hN];rfl⟩
theorem sname_any {l:List ByteArray}{id:Nat}{h:AH}(hz : ∀ x∈l,x.size≤24) (h1:h[id]?=some (rdE l)):ACalls Tryz.prog 115 [.ptr id 0 0] h (RS id h ((rName l).map fun p=>(sv p.1,p.2))):=by
 have hid:id<h.length:=(List.getElem?_eq_some_iff.1 h1).1
 cases l with
 | nil =>
  refine tJ' k115 fun N hn hlt hlA hbd=>?_
  simp only [tA',AV.bdL,AV.bd,and_true,true_and] at hbd ⊢
  refine aw_heap (h1:=h.set id (rdE [])++[]) (by rw [hx_self h1]) ?_
  refine wr'<|mv' lks pt2<|sn'<|wr'<|mv' lk0 pt4<|?_
  refine s_callPanX (mp1 lk4 mp0) (RS.p (rnext_any (l:=[]) (hx_at hid)) rfl) (fun hP_ hPp_=>?_)
  refine p_thn<|w_pan<|?_
  obtain ⟨l',rfl⟩:=hPp_
  rw [hx_set hid]
  exact ⟨_,_,rfl,hx_len hn,hx_lt hlt rdE_ltb,rfl,rfl,l',rfl⟩
 | cons s l =>
  have hzs:=hz s (by simp)
  refine tJ' k115 fun N hn hlt hlA hbd=>?_
  simp only [tA',AV.bdL,AV.bd,and_true,true_and] at hbd ⊢
  refine aw_heap (h1:=h.set id (rdE (s::l))++[]) (by rw [hx_self h1]) ?_
  refine wr'<|mv' lks pt2<|sn'<|wr'<|mv' lk0 pt4<|s_calls (mp1 lk4 mp0) (RS.a (rnext_any (l:=s::l) (hx_at hid)) rfl) (hx_set hid) pt5<|mv' lk5 pt3<|sn'<|w_seq<|w_seq<|?_
  refine w_reg<|mv' lk3 pt6<|?_
  refine s_callp (mp1 lk6 mp0) (name_a (s:=s) (by unfold maxLen;omega)) pt7 ?_
  refine V' (v_notB lk7) pt8<|sn'<|?_
  refine w_condB lk8 (fun hc1=>?_) (fun hc1=>?_)
  ·have hN:rName (s::l)=none:=by unfold rName bindR rNext liftR;simp only;rw [if_neg (by simpa using hc1)]
   refine w_reg<|s_callPan' mp0 (sfail_a)<|p_thn<|w_pan<|?_
   exact ⟨_,_,rfl,hx_len hn,hx_lt hlt rdE_ltb,rfl,by rw [hN];exact ⟨rfl,l,rfl⟩⟩
  have hN:rName (s::l)=some (s,l):=by unfold rName bindR rNext liftR;simp only;rw [if_pos (by simpa using hc1)]
  refine w_skip<|n_seq<|wr'<|mv' lk3 pt10<|mv' lk10 pt2<|sn'<|w_rets<|w_ret (rs1 (rr_t gt2))<|?_
  exact ⟨_,_,rfl,hx_len hn,hx_lt hlt rdE_ltb,rfl,by rw [hN];exact ⟨rfl,rfl⟩⟩
theorem sindex_a {l:List ByteArray}{s:ByteArray}{h:AH}:ACalls Tryz.prog 192 [.sl l.length 1 false (rows strC l),sv s] h fun x h'=>h'=h∧x = .ret (iv ((idxL l s 0).getD (-1))):=by
 refine tI' k192 fun N hn hlt hlA hbd=>?_
 simp only [tA',AV.bdL,AV.bd,and_true,true_and] at hbd ⊢
 refine wr'<|mv' lki pt4<|sn'<|w_seq<|wr'<|mv' lk0 pt6<|V' (v_lenL lk6) pt7<|mv' lki pt8<|sn'<|w_block<|?_
 refine w_lp (ι:=Nat) (fun (k:Nat)=>[(8,iv (k:Int)),(4,.any),(5,.any)]++rn' 9 10) (fun (k:Nat)=>[]) (fun (k:Nat)=>k≤l.length∧idxL l s 0=idxL (l.drop k) s (0+(k:Int))) (fun (k:Nat)=>l.length-k) (0) (by exact ⟨Nat.zero_le _,by simp⟩) ?_
 rintro k hi1
 try simp only [setsT,setsE,z',s',rn',la',ln',Nat.reduceAdd]
 obtain ⟨hk1,hk2⟩:=hi1
 refine wr'<|V' (v_lss lk8 lk7) pt9<|sn'<|w_seq<|?_
 refine cd' lk9 (fun hc1=>?_) (fun hc1=>?_)
 ·have hk:k<l.length:=by omega
  rw [idxL_at hk] at hk2
  refine w_skip<|n_seq<|w_seq<|w_block<|wr'<|mv' lk8 pt10<|mv' lk10 pt5<|sn'<|wr'<|mv' lk1 pt11<|mv' lk0 pt12<|?_
  refine mv' lk5 pt13 ?_
  refine V' (v_iaR lk12 lk13 str_len1 (nb' rfl) (by first | rfl | omega) (by omega) (by first | rfl | omega) rfl) pt14 ?_
  refine V' (v_loadr lk14 gt0) pt15<|V' (v_eqlS lk11 lk15) pt16<|sn'<|?_
  refine cd' lk16 (fun hc2=>?_) (fun hc2=>?_)
  ·rw [if_pos hc2] at hk2
   refine wr'<|mv' lk5 pt17<|mv' lk17 pt4<|sn'<|w_rets<|r_blk<|r_thn<|r_thn<|r_blk<|r_thn<|w_ret (rs1 (rr_t gt4))<|rT'<|?_
   refine ivx ?_;rw [hk2];simp
  rw [if_neg hc2] at hk2
  refine w_skip<|n_blk<|n_seq<|w_reg<|?_
  refine V' (v_add lk8 lki (by omega) (by omega)) pt18 ?_
  refine mv' lk18 pt8<|s_nil<|n_thn<|?_
  refine lT' (k+1) (by (try dsimp only);exact ⟨by omega,hk2⟩)
 rw [List.drop_of_length_le (by omega)] at hk2
 refine w_exit<|x_thn<|x_thn<|x_blk<|n_seq<|wr'<|mv' lki pt4<|sn'<|w_rets<|w_ret (rs1 (rr_t gt4))<|rT'<|?_
 refine ivx ?_;rw [hk2];rfl
theorem sone_any {l:List ByteArray}{s:ByteArray}{h:AH}:ACalls Tryz.prog 176 [.sl l.length 1 false (rows strC l),sv s] h fun x h'=>h'=h∧x=res (if s=⟨#[]⟩ then none else (idxL l s 0).map iv):=by
 obtain ⟨o,ho⟩ : ∃ o,o=idxL l s 0:=⟨_,rfl⟩
 have hbd : ∀ n,o=some n→0≤n:=fun n e=>(idxL_bd (ho.symm.trans e)).1
 rw [←ho]
 have hcase:(o=none) ∨ ∃ n,o=some n:=by cases o <;> simp
 refine tI' k176 fun N hn hlt hlA hbd=>?_
 simp only [tA',AV.bdL,AV.bd,and_true,true_and] at hbd ⊢
 refine wr'<|mv' lki pt4<|sn'<|wr'<|mv' lk0 pt6<|mv' lk1 pt7<|s_callp (mp1 lk6 (mp1 lk7 mp0)) (sindex_a) pt8<|?_
 rw [←ho]
 refine mv' lk8 pt5<|sn'<|w_seq<|wr'<|mv' lk5 pt9<|V' (v_lss lk9 lki) pt10<|mv' lk10 pt11<|?_
 refine sp' gt11 pt11 pt11 (fun hg11=>?_) (fun hg11=>?_)
 ·have hN:o=none:=by rcases hcase with e | ⟨n,rfl⟩;exact e;have:=hbd n rfl;simp at hg11;omega
  have hR:(if s=⟨#[]⟩ then none else o.map iv)=none:=by rw [hN];split <;> rfl
  refine s_no gt11 pt12<|s_no gt11 pt13<|V' (v_pickT lk11 lkb) pt14<|sn'<|w_condT lk14<|w_reg<|s_callPan' mp0 (sfail_a)<|p_thn<|w_pan<|?_
  exact ⟨_,rfl,rfl,by rw [hR];rfl⟩
 refine s_do gt11<|mv' lk1 pt12<|s_do gt11<|V' (v_eqlS lk12 lks) pt13<|V' (v_pickF lk11 lk13) pt14<|sn'<|?_
 refine cd' lk14 (fun hc1=>?_) (fun hc1=>?_)
 ·have hR:(if s=⟨#[]⟩ then none else o.map iv)=none:=if_pos hc1
  refine w_reg<|s_callPan' mp0 (sfail_a)<|p_thn<|w_pan<|?_
  exact ⟨_,rfl,rfl,by rw [hR];rfl⟩
 obtain ⟨n,rfl⟩ : ∃ n,o=some n:=by rcases hcase with rfl | e;exact absurd (by decide:(-1:Int)<0) hg11;exact e
 have hR:(if s=⟨#[]⟩ then none else (some n).map iv)=some (iv n):=if_neg hc1
 refine w_skip<|n_seq<|wr'<|mv' lk5 pt16<|mv' lk16 pt4<|sn'<|w_rets<|w_ret (rs1 (rr_t gt4))<|?_
 exact ⟨_,rfl,rfl,by rw [hR];rfl⟩
theorem months_a {h:AH}:ACalls Tryz.prog 54 [] h fun x h'=>h'=h∧x = .ret (.sl (⟨#[]⟩::monL).length 1 false (rows strC (⟨#[]⟩::monL))):=by
 refine tW' k54 fun N hn hlt hlA hbd=>?_
 simp only [tA',AV.bdL,AV.bd,and_true,true_and] at hbd ⊢
 refine wr'<|mv' lkn pt0<|sn'<|wr'<|E' (e_lit (SrcR_Months_2 (cvl lks rfl) rfl (cvl lks rfl) rfl (cvl lks rfl) rfl (cvl lks rfl) rfl (cvl lks rfl) rfl (cvl lks rfl) rfl (cvl lks rfl) rfl (cvl lks rfl) rfl (cvl lks rfl) rfl (cvl lks rfl) rfl (cvl lks rfl) rfl (cvl lks rfl) rfl (cvl lks rfl) rfl) (hl0 hn) ha0) pt1<|mv' lk1 pt0<|s_nil<|n_seqw (ALe.iceR (hga hn rfl) gt0 rfl (nb' rfl) pt0 (hs0 hn))<|w_rets<|w_ret (rs1 (rr_t gt0))<|rtW'<|?_
 exact Wk.refl _
theorem weekdays_a {h:AH}:ACalls Tryz.prog 93 [] h fun x h'=>h'=h∧x = .ret (.sl dayL.length 1 false (rows strC dayL)):=by
 refine tW' k93 fun N hn hlt hlA hbd=>?_
 simp only [tA',AV.bdL,AV.bd,and_true,true_and] at hbd ⊢
 refine wr'<|mv' lkn pt0<|sn'<|wr'<|E' (e_lit (SrcR_Weekdays_2 (cvl lks rfl) rfl (cvl lks rfl) rfl (cvl lks rfl) rfl (cvl lks rfl) rfl (cvl lks rfl) rfl (cvl lks rfl) rfl (cvl lks rfl) rfl) (hl0 hn) ha0) pt1<|mv' lk1 pt0<|s_nil<|n_seqw (ALe.iceR (hga hn rfl) gt0 rfl (nb' rfl) pt0 (hs0 hn))<|w_rets<|w_ret (rs1 (rr_t gt0))<|rtW'<|?_
 exact Wk.refl _
end Go.Proofs.YtgjchdhdopgkkaaGreatDoor
end
section
namespace Go.Proofs.YtgjchdhdopgkkaaGreatDoor
open Go.Ab Go.RowKit Civ
attribute [local simp] str_lt
section
theorem SrcRb_span_41 {τ:Operand→AV}{y0 y1:Operand}{x0_0 x1_0:AV}(h0:cellsV (τ y0)=some [x0_0]) (l0:[x0_0].all leaf=true) (h1:cellsV (τ y1)=some [x1_0]) (l1:[x1_0].all leaf=true):fillAV τ [(0,1,y0),(1,1,y1)] [(.v (.int .i64 0)),(.v (.int .i64 0))]=some [x0_0,x1_0]:=by
 simp only [fillAV,h0,l0,h1,l1]
 rfl
end
def c144:AC:=(.seq (.reg [Oo 2 (.mv (Ci 0))]) (.seq (.reg [Oo 3 (.call (.func 54) []),Mv 4 0,Oo 5 (.call (.func 112) [(.tmp 4)]),Oo 6 (.call (.func 176) [(.tmp 3),(.tmp 5)]),Mv 2 6]) .ret))
theorem k144:compF Tryz.prog 144=some ⟨c144,[(.tmp 2)],7⟩:=by kernel_rfl
def c147:AC:=(.seq (.reg [Oo 2 (.mv (Ci 0))]) (.seq (.seq (.reg [Mv 8 0,Oo 9 (.bin .eql (.tmp 8) (.const (.string ⟨#[48]⟩)))]) (.cond (.tmp 9) (.seq (.reg [Oo 2 (.mv (Ci 0))]) .ret) .skip)) (.seq (.reg [Mv 10 0,Oo 11 (.call (.func 75) [(.tmp 10),(.const (.string ⟨#[58]⟩))]),Mv 3 11]) (.seq (.seq (.reg [Mv 12 3,Oo 13 (.len false (.tmp 12)),Oo 14 (.bin .lss (.tmp 13) (Ci 2)),Mv 15 14,Of 16 15 (.mv (.tmp 3)),Of 17 15 (.len false (.tmp 16)),Of 18 15 (.bin .gtr (.tmp 17) (Ci 3)),Oo 19 (.pick (.tmp 15) (.const (.bool true)) (.tmp 18))]) (.cond (.tmp 19) (.reg [Oo 20 (.call (.func 111) [])]) .skip)) (.seq (.reg [Mv 21 3,Oo 22 (.ia 1 (.tmp 21) (Ci 0)),Ld 23 22,Oo 24 (.call (.func 143) [(.tmp 23),(Ci 1),(Ci 2)]),Oo 25 (.bin .mul (Ci 3600) (.tmp 24)),Mv 4 25]) (.seq (.seq (.reg [Mv 26 3,Oo 27 (.slc 1 (.tmp 26) (some (Ci 1)) none none),Oo 28 (.len false (.tmp 27)),Oo 29 (.mv (Ci 0))]) (.block 0 (.loop (.seq (.reg [Oo 30 (.bin .lss (.tmp 29) (.tmp 28))]) (.seq (.cond (.tmp 30) .skip (.exit 0)) (.seq (.block 1 (.seq (.reg [Mv 31 29,Oo 32 (.ia 1 (.tmp 27) (.tmp 29)),Ld 33 32,Mv 5 31,Mv 6 33]) (.seq (.reg [Mv 34 6,Oo 35 (.call (.func 143) [(.tmp 34),(Ci 2),(Ci 2)]),Mv 7 35]) (.seq (.seq (.reg [Mv 36 7,Oo 37 (.bin .gtr (.tmp 36) (Ci 59))]) (.cond (.tmp 37) (.reg [Oo 38 (.call (.func 111) [])]) .skip)) (.reg [Mv 39 4,Mv 40 7,Oo 41 (.lit 3 1 2 [(iv 0),(iv 0)] [(0,(1,(Ci 60))),(1,(1,(Ci 1)))]),Mv 42 5,Oo 43 (.ia 1 (.tmp 41) (.tmp 42)),Ld 44 43,Oo 45 (.bin .mul (.tmp 40) (.tmp 44)),Oo 46 (.bin .add (.tmp 39) (.tmp 45)),Mv 4 46]))))) (.reg [Oo 47 (.bin .add (.tmp 29) (Ci 1)),Mv 29 47]))))))) (.seq (.reg [Mv 48 4,Mv 2 48]) .ret)))))))
theorem k147:compF Tryz.prog 147=some ⟨c147,[(.tmp 2)],49⟩:=by kernel_rfl
theorem ls' {p:Prop}(h:p:=by first | rfl | (simp only [AV.lt,AV.ltL,Ent.lt,List.all_cons,List.all_nil,Bool.and_true,Bool.and_self,decide_true,str_lt];done) | exact lt'):p:=h
theorem bindR_step {α β:Type}{f:RM α}{k:α→RM β}{l l':List ByteArray}{a:α}(e:f l=some (a,l')):bindR f k l=k a l':=by unfold bindR;rw [e]
theorem bindR_fail {α β:Type}{f:RM α}{k:α→RM β}{l:List ByteArray}(e:f l=none):bindR f k l=none:=by unfold bindR;rw [e]
theorem bindR_assoc {α β γ:Type}{f:RM α}{g:α→RM β}{k:β→RM γ}:bindR (bindR f g) k=bindR f (fun a=>bindR (g a) k):=by
 funext l
 unfold bindR
 cases f l <;> rfl
theorem lift_step {α β:Type}{o:Option α}{k:α→RM β}{l:List ByteArray}{a:α}(e:o=some a):bindR (liftR o) k l=k a l:=by subst e;rfl
theorem lift_fail {α β:Type}{o:Option α}{k:α→RM β}{l:List ByteArray}(e:o=none):bindR (liftR o) k l=none:=by subst e;rfl
def okL (l:List ByteArray):Prop := ∀ x∈l,x.size≤24
theorem okL_next {l l':List ByteArray}{s:ByteArray}(ho:okL l) (e:rNext l=some (s,l')):s.size≤24∧okL l':=by
 cases l with
 | nil=>cases e
 | cons x l =>
  simp only [rNext,Option.some.injEq,Prod.mk.injEq] at e
  obtain ⟨rfl,rfl⟩:=e
  exact ⟨ho x (by simp),fun y hy=>ho y (List.mem_cons_of_mem _ hy)⟩
theorem okL_name {l l':List ByteArray}{s:ByteArray}(ho:okL l) (e:rName l=some (s,l')):s.size≤24∧okL l':=by
 unfold rName bindR at e
 cases hn:rNext l with
 | none=>rw [hn] at e;cases e
 | some p =>
  rw [hn] at e
  obtain ⟨h1,h2⟩:=okL_next ho hn
  simp only [liftR] at e
  by_cases hb:nameB p.1=true
  ·rw [if_pos hb] at e;cases e;exact ⟨h1,h2⟩
  rw [if_neg hb] at e;cases e
theorem okL_month {l l':List ByteArray}{n:Int}(ho:okL l) (e:rMonth l=some (n,l')):okL l':=by
 unfold rMonth bindR at e
 cases hn:rNext l with
 | none=>rw [hn] at e;cases e
 | some p =>
  rw [hn] at e
  obtain ⟨h1,h2⟩:=okL_next ho hn
  simp only [liftR] at e
  cases hi:idxL monL p.1 1 with
  | none=>rw [hi] at e;cases e
  | some n=>rw [hi] at e;cases e;exact h2
theorem rnext_e {l l':List ByteArray}{s:ByteArray}{id:Nat}{h:AH}(e:rNext l=some (s,l')) (h1:h[id]?=some (rdE l)):ACalls Tryz.prog 112 [.ptr id 0 0] h fun x h'=>x = .ret (sv s)∧h'=h.set id (rdE l'):=RS.a (p:=(sv s,l')) (rnext_any h1) (by rw [e];rfl)
theorem rnext_p {l:List ByteArray}{id:Nat}{h:AH}(e:rNext l=none) (h1:h[id]?=some (rdE l)):ACalls Tryz.prog 112 [.ptr id 0 0] h fun x h'=>x = .pan wrA ∧ ∃ l',h'=h.set id (rdE l'):=RS.p (rnext_any h1) (by rw [e];rfl)
theorem sname_e {l l':List ByteArray}{s:ByteArray}{id:Nat}{h:AH}(ho:okL l) (e:rName l=some (s,l')) (h1:h[id]?=some (rdE l)):ACalls Tryz.prog 115 [.ptr id 0 0] h fun x h'=>x = .ret (sv s)∧h'=h.set id (rdE l'):=RS.a (p:=(sv s,l')) (sname_any ho h1) (by rw [e];rfl)
theorem sname_p {l:List ByteArray}{id:Nat}{h:AH}(ho:okL l) (e:rName l=none) (h1:h[id]?=some (rdE l)):ACalls Tryz.prog 115 [.ptr id 0 0] h fun x h'=>x = .pan wrA ∧ ∃ l',h'=h.set id (rdE l'):=RS.p (sname_any ho h1) (by rw [e];rfl)
theorem sdig_e {s:ByteArray}{a b n:Int}{h:AH}(hz:s.size≤24) (ha1:1≤a) (hb4:b≤4) (e:numV s a b=some n):ACalls Tryz.prog 143 [sv s,iv a,iv b] h fun x h'=>h'=h∧x = .ret (iv n):=res_a (sdigits_any hz ha1 hb4) (by rw [e];rfl)
theorem sdig_p {s:ByteArray}{a b:Int}{h:AH}(hz:s.size≤24) (ha1:1≤a) (hb4:b≤4) (e:numV s a b=none):ACalls Tryz.prog 143 [sv s,iv a,iv b] h fun x h'=>h'=h∧x = .pan wrA:=res_p (sdigits_any hz ha1 hb4) (by rw [e];rfl)
theorem idx_mon0:idxL monL ⟨#[]⟩ 1=none:=by decide
theorem idx_day0:idxL dayL ⟨#[]⟩ 0=none:=by decide
theorem one_mon {s:ByteArray}:(if s=⟨#[]⟩ then none else (idxL (⟨#[]⟩::monL) s 0).map iv)=(idxL monL s 1).map iv:=by
 by_cases h:s=⟨#[]⟩
 ·rw [if_pos h,h,idx_mon0];rfl
 rw [if_neg h,idxL,if_neg h];rfl
theorem one_day {s:ByteArray}:(if s=⟨#[]⟩ then none else (idxL dayL s 0).map iv)=(idxL dayL s 0).map iv:=by
 by_cases h:s=⟨#[]⟩
 ·rw [if_pos h,h,idx_day0];rfl
 rw [if_neg h]
theorem smon_any {s:ByteArray}{h:AH}:ACalls Tryz.prog 176 [.sl (⟨#[]⟩::monL).length 1 false (rows strC (⟨#[]⟩::monL)),sv s] h fun x h'=>h'=h∧x=res ((idxL monL s 1).map iv):=by
 have:=sone_any (l:=⟨#[]⟩::monL) (s:=s) (h:=h)
 rw [one_mon] at this
 exact this
theorem sday_any {s:ByteArray}{h:AH}:ACalls Tryz.prog 176 [.sl dayL.length 1 false (rows strC dayL),sv s] h fun x h'=>h'=h∧x=res ((idxL dayL s 0).map iv):=by
 have:=sone_any (l:=dayL) (s:=s) (h:=h)
 rw [one_day] at this
 exact this
theorem smonth_any {l:List ByteArray}{id:Nat}{h:AH}(h1:h[id]?=some (rdE l)):ACalls Tryz.prog 144 [.ptr id 0 0] h (RS id h ((rMonth l).map fun p=>(iv p.1,p.2))):=by
 have hid:id<h.length:=(List.getElem?_eq_some_iff.1 h1).1
 refine tJ' k144 fun N hn hlt hlA hbd=>?_
 simp only [tA',AV.bdL,AV.bd,and_true,true_and] at hbd ⊢
 refine aw_heap (h1:=h.set id (rdE l)++[]) (by rw [hx_self h1]) ?_
 refine wr'<|mv' lki pt2<|sn'<|wr'<|s_callp mp0 (months_a) pt3<|mv' lk0 pt4<|?_
 by_cases hs4 : ∃ p,rNext l=some p
 ·obtain ⟨⟨s,l1⟩,e1⟩:=hs4
  refine s_calls (mp1 lk4 mp0) (rnext_e e1 (hx_at hid)) (hx_set hid) pt5 ?_
  by_cases hs5 : ∃ n,idxL monL s 1=some n
  ·obtain ⟨n,e2⟩:=hs5
   have hN:rMonth l=some (n,l1):=by unfold rMonth;rw [bindR_step e1];unfold liftR;rw [e2]
   refine s_callp (mp1 lk3 (mp1 lk5 mp0)) (res_a (v:=iv n) smon_any (by rw [e2];rfl)) pt6 ?_
   refine mv' lk6 pt2<|sn'<|w_rets<|w_ret (rs1 (rr_t gt2))<|?_
   exact ⟨_,_,rfl,hx_len hn,hx_lt hlt rdE_ltb,rfl,by rw [hN];exact ⟨rfl,rfl⟩⟩
  have e2:=no_some hs5
  have hN:rMonth l=none:=by unfold rMonth;rw [bindR_step e1];unfold liftR;rw [e2]
  refine s_callPan' (mp1 lk3 (mp1 lk5 mp0)) (res_p smon_any (by rw [e2];rfl)) ?_
  refine p_thn<|w_pan<|?_
  exact ⟨_,_,rfl,hx_len hn,hx_lt hlt rdE_ltb,rfl,by rw [hN];exact ⟨rfl,l1,rfl⟩⟩
 have e1:=no_some hs4
 have hN:rMonth l=none:=bindR_fail e1
 refine s_callPanX (mp1 lk4 mp0) (rnext_p e1 (hx_at hid)) (fun hP_ hPp_=>?_)
 refine p_thn<|w_pan<|?_
 obtain ⟨l',rfl⟩:=hPp_
 rw [hx_set hid]
 exact ⟨_,_,rfl,hx_len hn,hx_lt hlt rdE_ltb,rfl,by rw [hN];exact ⟨rfl,l',rfl⟩⟩
theorem smonth_e {l l':List ByteArray}{n:Int}{id:Nat}{h:AH}(e:rMonth l=some (n,l')) (h1:h[id]?=some (rdE l)):ACalls Tryz.prog 144 [.ptr id 0 0] h fun x h'=>x = .ret (iv n)∧h'=h.set id (rdE l'):=RS.a (p:=(iv n,l')) (smonth_any h1) (by rw [e];rfl)
theorem smonth_p {l:List ByteArray}{id:Nat}{h:AH}(e:rMonth l=none) (h1:h[id]?=some (rdE l)):ACalls Tryz.prog 144 [.ptr id 0 0] h fun x h'=>x = .pan wrA ∧ ∃ l',h'=h.set id (rdE l'):=RS.p (smonth_any h1) (by rw [e];rfl)
def accV:Int→Nat→List ByteArray→Option Int
 | n,_,[]=>some n
 | n,i,x::xs=>match sixV x with
  | none=>none
  | some k=>accV (n+k*(if i=0 then 60 else 1)) (i+1) xs
theorem accV_at {n:Int}{i j:Nat}{l:List ByteArray}(h:j<l.length):accV n i (l.drop j)=match sixV l[j] with
  | none=>none
  | some k=>accV (n+k*(if i=0 then 60 else 1)) (i+1) (l.drop (j+1)):=by
 rw [List.drop_eq_getElem_cons h,accV]
def spanP:List ByteArray→Option Int
 | []=>none
 | a::r=>match numV a 1 2 with
  | none=>none
  | some x=>accV (3600*x) 0 r
theorem spanP_at {ps:List ByteArray}(h:0<ps.length):spanP ps=match numV ps[0] 1 2 with
  | none=>none
  | some x=>accV (3600*x) 0 (ps.drop 1):=by
 cases ps with
 | nil=>cases h
 | cons a r=>rfl
theorem spanV_acc {s:ByteArray}{ps:List ByteArray}(h0:s≠bA [48]) (hc:cutC 58 (aB s)=ps.map aB) (h:ps.length=2∨ps.length=3):spanV s=spanP ps:=by
 unfold spanV
 rw [if_neg h0,hc]
 rcases h with h | h
 ·match ps,h with
  | [a,b],_ =>
   simp only [List.map_cons,List.map_nil,bA_aB,spanP]
   cases numV a 1 2 with
   | none=>rfl
   | some x =>
    simp only [accV]
    cases sixV b with
    | none=>rfl
    | some y=>simp only [if_pos];congr 1;omega
 match ps,h with
 | [a,b,c],_ =>
  simp only [List.map_cons,List.map_nil,bA_aB,spanP]
  cases numV a 1 2 with
  | none=>rfl
  | some x =>
   simp only [accV]
   cases sixV b with
   | none=>rfl
   | some y =>
    simp only
    cases sixV c with
    | none=>rfl
    | some z=>simp;omega
theorem sixV_of {s:ByteArray}{n:Int}(h:numV s 2 2=some n):sixV s=if n>59 then none else some n:=by unfold sixV;rw [h]
theorem sixV_no {s:ByteArray}(h:numV s 2 2=none):sixV s=none:=by unfold sixV;rw [h]
theorem cutC_map {s:ByteArray}:cutC 58 (aB s)=((cutC 58 (aB s)).map bA).map aB:=by rw [List.map_map];simp [Function.comp_def,aB_bA]
theorem spanV_bad {s:ByteArray}{ps:List ByteArray}(h0:s≠bA [48]) (hc:cutC 58 (aB s)=ps.map aB) (h2:ps.length≠2) (h3:ps.length≠3):spanV s=none:=by
 unfold spanV
 rw [if_neg h0,hc]
 match ps,h2,h3 with
 | [],_,_=>rfl
 | [_],_,_=>rfl
 | [_,_],h,_=>exact absurd rfl h
 | [_,_,_],_,h=>exact absurd rfl h
 | _::_::_::_::_,_,_=>rfl
set_option maxHeartbeats 1000000 in
theorem sspan_any {s:ByteArray}{h:AH}(hz:s.size≤24):ACalls Tryz.prog 147 [sv s] h fun x h'=>h'=h∧x=res ((spanV s).map iv):=by
 obtain ⟨ps,hps⟩ : ∃ ps,ps=(cutC 58 (aB s)).map bA:=⟨_,rfl⟩
 have hcut:cutC 58 (aB s)=ps.map aB:=by rw [hps];exact cutC_map
 have hlen:(cutC 58 (aB s)).length=ps.length:=by rw [hps,List.length_map]
 have hpz : ∀ x∈ps,x.size≤24:=by
  intro x hx
  rw [hps] at hx
  obtain ⟨y,hy,rfl⟩:=List.mem_map.1 hx
  have:=cutC_mem 58 hy
  rw [aB_len] at this
  rw [bA_size];omega
 refine tI' k147 fun N hn hlt hlA hbd=>?_
 simp only [tA',AV.bdL,AV.bd,and_true,true_and] at hbd ⊢
 refine wr'<|mv' lki pt2<|sn'<|w_seq<|wr'<|mv' lk0 pt8<|V' (v_eqlS lk8 lks) pt9<|sn'<|?_
 refine cd' lk9 (fun hc1=>?_) (fun hc1=>?_)
 ·have hN:spanV s=some 0:=if_pos hc1
  refine wr'<|mv' lki pt2<|sn'<|w_rets<|r_thn<|w_ret (rs1 (rr_t gt2))<|?_
  exact ⟨_,rfl,rfl,by rw [hN];rfl⟩
 have h0:s≠bA [48]:=hc1
 refine w_skip<|n_seq<|wr'<|mv' lk0 pt10<|?_
 refine s_callp (mp1 lk10 (mp1 lks mp0)) (strsplit_a (by omega)) pt11 ?_
 rw [hlen,←hps]
 refine mv' lk11 pt3<|sn'<|w_seq<|wr'<|mv' lk3 pt12<|V' (v_lenL lk12) pt13<|V' (v_lss lk13 lki) pt14<|mv' lk14 pt15<|?_
 refine sp' gt15 pt15 pt15 (fun hg15=>?_) (fun hg15=>?_)
 ·have hN:spanV s=none:=spanV_bad h0 hcut (by omega) (by omega)
  refine s_no gt15 pt16<|s_no gt15 pt17<|s_no gt15 pt18<|V' (v_pickT lk15 lkb) pt19<|sn'<|w_condT lk19<|w_reg<|s_callPan' mp0 (sfail_a)<|p_thn<|w_pan<|?_
  exact ⟨_,rfl,rfl,by rw [hN];rfl⟩
 refine s_do gt15<|mv' lk3 pt16<|s_do gt15<|V' (v_lenL lk16) pt17<|s_do gt15<|V' (v_gtr lk17 lki) pt18<|V' (v_pickF lk15 lk18) pt19<|sn'<|?_
 refine cd' lk19 (fun hc2=>?_) (fun hc2=>?_)
 ·have hN:spanV s=none:=spanV_bad h0 hcut (by omega) (by omega)
  refine w_reg<|s_callPan' mp0 (sfail_a)<|p_thn<|w_pan<|?_
  exact ⟨_,rfl,rfl,by rw [hN];rfl⟩
 have hl23:ps.length=2∨ps.length=3:=by omega
 have hA:=spanV_acc h0 hcut hl23
 have hA2:=hA.trans (spanP_at (by omega))
 clear hA
 have hz0:=hpz _ (List.getElem_mem (show 0<ps.length by omega))
 refine w_skip<|n_seq<|wr'<|mv' lk3 pt21<|?_
 refine V' (v_iaR (k:=0) lk21 lki str_len1 (nb' rfl) (by first | rfl | omega) (by omega) (by first | rfl | omega) rfl) pt22 ?_
 refine V' (v_loadr lk22 gt0) pt23 ?_
 by_cases hs20 : ∃ n,numV (ps[0]'(by omega)) 1 2=some n
 ·obtain ⟨n,e1⟩:=hs20
  rw [e1] at hA2
  have hb1:=numV_bd e1 (by omega)
  simp only at hA2
  refine s_callp (mp1 lk23 (mp1 lki (mp1 lki mp0))) (sdig_e hz0 (by omega) (by omega) e1) pt24 ?_
  refine V' (v_mul lki lk24 (by omega) (by omega)) pt25 ?_
  refine mv' lk25 pt4<|sn'<|w_seq<|wr'<|mv' lk3 pt26<|?_
  refine V' (v_lo (k:=1) lk26 lki str_len1 (by first | rfl | omega) (by omega) (by first | rfl | omega)) pt27 ?_
  refine V' (v_lenL lk27) pt28<|mv' lki pt29<|sn'<|w_block<|?_
  refine w_lp (ι:=Nat×Int) (fun (x_:Nat×Int)=>match x_ with | ⟨j,a⟩=>[(4,iv a),(29,iv (j:Int))]++rn' 5 3++rn' 30 18) (fun (x_:Nat×Int)=>match x_ with | ⟨j,a⟩=>[]) (fun (x_:Nat×Int)=>match x_ with | ⟨j,a⟩=>j≤(ps.drop 1).length∧0≤a∧a≤36000000+j*10000∧spanV s=accV a j ((ps.drop 1).drop j)) (fun (x_:Nat×Int)=>match x_ with | ⟨j,a⟩=>(ps.drop 1).length-j) (⟨0,3600*n⟩) (by exact ⟨Nat.zero_le _,by omega,by omega,hA2⟩) ?_
  rintro ⟨j,a⟩ hi1
  try simp only [setsT,setsE,z',s',rn',la',ln',Nat.reduceAdd]
  obtain ⟨hj1,hj2,hj3,hj4⟩:=hi1
  refine wr'<|V' (v_lss lk29 lk28) pt30<|sn'<|w_seq<|?_
  refine cd' lk30 (fun hc3=>?_) (fun hc3=>?_)
  ·have hj:j<(ps.drop 1).length:=by omega
   have hj5:j≤1:=by rw [List.length_drop] at hj;omega
   have hzj:=hpz _ (List.mem_of_mem_drop (List.getElem_mem hj))
   rw [accV_at hj] at hj4
   refine w_skip<|n_seq<|w_seq<|w_block<|wr'<|mv' lk29 pt31<|?_
   refine V' (v_iaR lk27 lk29 str_len1 (nb' rfl) (by first | rfl | omega) (by omega) (by first | rfl | omega) rfl) pt32 ?_
   refine V' (v_loadr lk32 gt0) pt33<|mv' lk31 pt5<|mv' lk33 pt6<|sn'<|wr'<|mv' lk6 pt34<|?_
   by_cases hs34 : ∃ n,numV ((ps.drop 1)[j]'hj) 2 2=some n
   ·obtain ⟨q,e2⟩:=hs34
    rw [sixV_of e2] at hj4
    have hb2:=numV_bd e2 (by omega)
    refine s_callp (mp1 lk34 (mp1 lki (mp1 lki mp0))) (sdig_e hzj (by omega) (by omega) e2) pt35 ?_
    refine mv' lk35 pt7<|sn'<|w_seq<|wr'<|mv' lk7 pt36<|V' (v_gtr lk36 lki) pt37<|sn'<|?_
    refine cd' lk37 (fun hc4=>?_) (fun hc4=>?_)
    ·rw [if_pos (by omega)] at hj4
     refine w_reg<|s_callPan' mp0 (sfail_a)<|p_thn<|p_blk<|p_thn<|p_thn<|p_blk<|p_thn<|w_pan<|?_
     exact ⟨_,rfl,rfl,by rw [hj4];rfl⟩
    rw [if_neg (by omega)] at hj4
    simp only at hj4
    have hj01:j=0∨j=1:=by omega
    refine w_skip<|n_seq<|w_reg<|mv' lk4 pt39<|mv' lk7 pt40<|E' (e_lit (SrcRb_span_41 (cvl lki rfl) rfl (cvl lki rfl) rfl) (hl0 hn) ha0) pt41<|mv' lk5 pt42<|?_
    by_cases hs43:j=0
    ·subst hs43
     refine V' (v_iaO lk41 lk42 (hga hn rfl) (nb' rfl) (by omega) (by omega) (nb' rfl)) pt43 ?_
     refine V' (v_loadp lk43 (hga hn rfl) rfl) pt44 ?_
     refine V' (v_mul lk40 lk44 (by omega) (by omega)) pt45 ?_
     refine V' (v_add lk39 lk45 (by omega) (by omega)) pt46 ?_
     refine mv' lk46 pt4<|s_nil<|n_blk<|n_seq<|w_reg<|?_
     refine V' (v_add lk29 lki (by omega) (by omega)) pt47 ?_
     refine mv' lk47 pt29<|s_nil<|n_thn<|?_
     refine lU' (⟨1,a+q*60⟩) (by (try dsimp only);exact ⟨by omega,by omega,by omega,hj4⟩) (by (try dsimp only);(try simp only [setsT,setsE,z',s',rn',la',ln',Nat.reduceAdd]);exact bk' 0 hn hlt (hT:=by exact ls') (hE:=by exact ls'))
    obtain rfl:j=1:=by omega
    refine V' (v_iaO lk41 lk42 (hga hn rfl) (nb' rfl) (by omega) (by omega) (nb' rfl)) pt43 ?_
    refine V' (v_loadp lk43 (hga hn rfl) rfl) pt44 ?_
    refine V' (v_mul lk40 lk44 (by omega) (by omega)) pt45 ?_
    refine V' (v_add lk39 lk45 (by omega) (by omega)) pt46 ?_
    refine mv' lk46 pt4<|s_nil<|n_blk<|n_seq<|w_reg<|?_
    refine V' (v_add lk29 lki (by omega) (by omega)) pt47 ?_
    refine mv' lk47 pt29<|s_nil<|n_thn<|?_
    refine lU' (⟨2,a+q*1⟩) (by (try dsimp only);exact ⟨by omega,by omega,by omega,hj4⟩) (by (try dsimp only);(try simp only [setsT,setsE,z',s',rn',la',ln',Nat.reduceAdd]);exact bk' 0 hn hlt (hT:=by exact ls') (hE:=by exact ls'))
   have e2:=no_some hs34
   rw [sixV_no e2] at hj4
   refine s_callPan' (mp1 lk34 (mp1 lki (mp1 lki mp0))) (sdig_p hzj (by omega) (by omega) e2) ?_
   refine p_thn<|p_blk<|p_thn<|p_thn<|p_blk<|p_thn<|w_pan<|?_
   exact ⟨_,rfl,rfl,by rw [hj4];rfl⟩
  rw [List.drop_of_length_le (by omega),accV] at hj4
  refine w_exit<|x_thn<|x_thn<|x_blk<|n_seq<|wr'<|mv' lk4 pt48<|mv' lk48 pt2<|sn'<|w_rets<|w_ret (rs1 (rr_t gt2))<|?_
  exact ⟨_,rfl,rfl,by rw [hj4];rfl⟩
 have e1:=no_some hs20
 rw [e1] at hA2
 refine s_callPan' (mp1 lk23 (mp1 lki (mp1 lki mp0))) (sdig_p hz0 (by omega) (by omega) e1) ?_
 refine p_thn<|w_pan<|?_
 exact ⟨_,rfl,rfl,by rw [hA2];rfl⟩
end Go.Proofs.YtgjchdhdopgkkaaGreatDoor
end
section
namespace Go.Proofs.YtgjchdhdopgkkaaGreatDoor
open Go.Ab Go.RowKit Civ
attribute [local simp] str_lt
section
theorem SrcRc_form_16 {τ:Operand→AV}{y0 y1:Operand}{x0_0 x1_0:AV}(h0:cellsV (τ y0)=some [x0_0]) (l0:[x0_0].all leaf=true) (h1:cellsV (τ y1)=some [x1_0]) (l1:[x1_0].all leaf=true):fillAV τ [(0,1,y0),(1,1,y1)] [(.v (.int .i64 0)),(.v (.int .i64 0)),(.v (.int .i64 0))]=some [x0_0,x1_0,(.v (.int .i64 0))]:=by
 simp only [fillAV,h0,l0,h1,l1]
 rfl
theorem SrcRc_sc0_3 {a0 a1 a2 c0 c1 c2:AV}{l:List AV}:setCells (a0::a1::a2::l) 0 [c0,c1,c2]=c0::c1::c2::l:=rfl
theorem SrcRc_tk0_3 {a0 a1 a2:AV}{l:List AV}:((a0::a1::a2::l).drop 0).take 3=[a0,a1,a2]:=rfl
theorem SrcRc_form_18 {τ:Operand→AV}{y0 y1:Operand}{x0_0 x1_0:AV}(h0:cellsV (τ y0)=some [x0_0]) (l0:[x0_0].all leaf=true) (h1:cellsV (τ y1)=some [x1_0]) (l1:[x1_0].all leaf=true):fillAV τ [(0,1,y0),(1,1,y1)] [(.v (.string ⟨#[]⟩)),(.v (.string ⟨#[]⟩))]=some [x0_0,x1_0]:=by
 simp only [fillAV,h0,l0,h1,l1]
 rfl
theorem SrcRc_form_45 {τ:Operand→AV}{y0 y1 y2:Operand}{x0_0 x1_0 x2_0:AV}(h0:cellsV (τ y0)=some [x0_0]) (l0:[x0_0].all leaf=true) (h1:cellsV (τ y1)=some [x1_0]) (l1:[x1_0].all leaf=true) (h2:cellsV (τ y2)=some [x2_0]) (l2:[x2_0].all leaf=true):fillAV τ [(0,1,y0),(1,1,y1),(2,1,y2)] [(.v (.int .i64 0)),(.v (.int .i64 0)),(.v (.int .i64 0))]=some [x0_0,x1_0,x2_0]:=by
 simp only [fillAV,h0,l0,h1,l1,h2,l2]
 rfl
theorem SrcRc_form_51 {τ:Operand→AV}{y0 y1:Operand}{x0_0 x1_0:AV}(h0:cellsV (τ y0)=some [x0_0]) (l0:[x0_0].all leaf=true) (h1:cellsV (τ y1)=some [x1_0]) (l1:[x1_0].all leaf=true):fillAV τ [(0,1,y0),(2,1,y1)] [(.v (.int .i64 0)),(.v (.int .i64 0)),(.v (.int .i64 0))]=some [x0_0,(.v (.int .i64 0)),x1_0]:=by
 simp only [fillAV,h0,l0,h1,l1]
 rfl
end
def c145:AC:=(.seq (.reg [Oo 2 (.new 46 3 [(iv 0),(iv 0),(iv 0)])]) (.seq (.reg [Mv 11 0,Oo 12 (.call (.func 112) [(.tmp 11)]),Mv 3 12]) (.seq (.seq (.reg [Mv 14 3,Oo 15 (.call (.func 172) [(.tmp 14),(.const (.string ⟨#[108,97,115,116]⟩))]),Mv 13 15,Ex 16 13 0,Ex 17 13 1,Mv 4 16,Mv 5 17]) (.seq (.reg [Mv 18 5]) (.cond (.tmp 18) (.seq (.reg [Oo 19 (.call (.func 93) []),Mv 20 4,Oo 21 (.call (.func 176) [(.tmp 19),(.tmp 20)]),Oo 22 (.build [(iv 0),(iv 0),(iv 0)] [(0,(1,(Ci 2))),(1,(1,(.tmp 21)))]),⟨none,none,(.store 3 (.tmp 2) (.tmp 22))⟩]) .ret) .skip))) (.seq (.seq (.reg [Oo 23 (.lit 9 1 2 [Ss,Ss] [(0,(1,(.const (.string ⟨#[62,61]⟩)))),(1,(1,(.const (.string ⟨#[60,61]⟩))))]),Oo 24 (.len false (.tmp 23)),Oo 25 (.mv (Ci 0))]) (.block 0 (.loop (.seq (.reg [Oo 26 (.bin .lss (.tmp 25) (.tmp 24))]) (.seq (.cond (.tmp 26) .skip (.exit 0)) (.seq (.block 1 (.seq (.reg [Mv 27 25,Oo 28 (.ia 1 (.tmp 23) (.tmp 25)),Ld 29 28,Mv 6 27,Mv 7 29]) (.seq (.reg [Mv 31 3,Mv 32 7,Oo 33 (.call (.func 158) [(.tmp 31),(.tmp 32)]),Mv 30 33,Ex 34 30 0,Ex 35 30 1,Ex 36 30 2,Mv 8 34,Mv 9 35,Mv 10 36]) (.seq (.reg [Mv 37 10]) (.cond (.tmp 37) (.seq (.reg [Mv 38 6,Oo 39 (.bin .add (Ci 3) (.tmp 38)),Oo 40 (.call (.func 93) []),Mv 41 8,Oo 42 (.call (.func 176) [(.tmp 40),(.tmp 41)]),Mv 43 9,Oo 44 (.call (.func 143) [(.tmp 43),(Ci 1),(Ci 2)]),Oo 45 (.build [(iv 0),(iv 0),(iv 0)] [(0,(1,(.tmp 39))),(1,(1,(.tmp 42))),(2,(1,(.tmp 44)))]),⟨none,none,(.store 3 (.tmp 2) (.tmp 45))⟩]) .ret) .skip))))) (.reg [Oo 46 (.bin .add (.tmp 25) (Ci 1)),Mv 25 46]))))))) (.seq (.reg [Mv 47 3,Oo 48 (.call (.func 143) [(.tmp 47),(Ci 1),(Ci 2)]),Oo 49 (.build [(iv 0),(iv 0),(iv 0)] [(0,(1,(Ci 1))),(2,(1,(.tmp 48)))]),⟨none,none,(.store 3 (.tmp 2) (.tmp 49))⟩]) .ret)))))
theorem k145:compF Tryz.prog 145=some ⟨c145,[(.cell 2 true 3)],50⟩:=by kernel_rfl
def frm3 (k:Int) (w n:Option Int):Option Frm:=match w,n with
 | some w,some n=>some (k,w,n)
 | _,_=>none
def pform (s:ByteArray):Option Frm :=
 if Lib.hasPrefix (aB s) [108,97,115,116]=true then (idxL dayL (s.extract 4 s.size) 0).map (fun w=>(2,w,0))
 else if (cutL s [62,61]).2.2=true then frm3 3 (idxL dayL (bA (cutL s [62,61]).1) 0) (numV (bA (cutL s [62,61]).2.1) 1 2)
 else if (cutL s [60,61]).2.2=true then frm3 4 (idxL dayL (bA (cutL s [60,61]).1) 0) (numV (bA (cutL s [60,61]).2.1) 1 2)
 else (numV s 1 2).map (fun n=>(1,0,n))
theorem idxL_mem {s:ByteArray} : ∀ {l:List ByteArray}{d n:Int},idxL l s d=some n→s∈l
 | [],_,_,h=>by cases h
 | x::l,d,n,h=>by
  rw [idxL] at h
  split at h
  ·rename_i e;rw [e];simp
  exact List.mem_cons_of_mem _ (idxL_mem h)
theorem day_let : ∀ x∈dayL,x.size=3∧allB letB x=true:=by decide
theorem day_none {x:ByteArray}(h:x.size≠3):idxL dayL x 0=none:=by
 cases hi:idxL dayL x 0 with
 | none=>rfl
 | some n=>exact absurd (day_let x (idxL_mem hi)).1 h
theorem day_none2 {x:ByteArray}{c:UInt8}(hc:letB c.toNat=false) (h:c∈aB x):idxL dayL x 0=none:=by
 cases hi:idxL dayL x 0 with
 | none=>rfl
 | some n =>
  have:=allB_mem (l:=aB x) (day_let x (idxL_mem hi)).2 h
  rw [hc] at this;cases this
theorem num_none2 {x:ByteArray}{a b:Int}{c:UInt8}(hc:digB c.toNat=false) (h:c∈aB x):numV x a b=none:=by
 cases hi:numV x a b with
 | none=>rfl
 | some n =>
  have:=allB_mem (l:=aB x) (numV_some hi).2.1 h
  rw [hc] at this;cases this
theorem byteI_iff {s:ByteArray}{k:Nat}{c:UInt8}:byteI s k=(c.toNat:Int)↔byteAt s k=c :=
 ⟨fun h=>UInt8.toNat_inj.1 (by unfold byteI at h;omega),fun h=>by unfold byteI;rw [h]⟩
theorem occ3 {s:ByteArray}{c:UInt8}(hz:5<s.size) (h3:byteAt s 3=c) (h4:byteAt s 4=61):Lib.occAt (aB s) [c,61] 3=true:=by
 unfold Lib.occAt
 rw [aB_at (show 3<s.size by omega),aB_at (show 3+1<s.size by omega),h3,h4]
 simp [List.isPrefixOf]
theorem pre_iff {s:ByteArray}:Lib.hasPrefix (aB s) [108,97,115,116]=true↔(4≤s.size∧s.extract 0 4=bA [108,97,115,116]):=by
 unfold Lib.hasPrefix
 rw [List.isPrefixOf_iff_prefix,List.prefix_iff_eq_take,bA_ext,List.drop_zero]
 constructor
 ·intro h
  have hl:=congrArg List.length h
  rw [List.length_take,aB_len] at hl
  simp at hl
  exact ⟨by omega,by rw [h];rfl⟩
 rintro ⟨h1,h2⟩
 exact (bA_inj h2).symm
theorem ops_none {s:ByteArray}{c:UInt8}{i:Nat}(hd:digB c.toNat=false) (hl:letB c.toNat=false) (h:(aB s)[i]?=some c) (h3:i≠3)
  (hk:formK s≠2) (hK:formK s=3∨formK s=4→i<3∨5≤i):formV s=none:=by
 have hm:c∈aB s:=List.mem_of_getElem? h
 have hi:i<(aB s).length:=(List.getElem?_eq_some_iff.1 h).1
 unfold formV
 rw [if_neg hk]
 by_cases h1:formK s=1
 ·rw [if_pos h1,num_none2 hd hm]
 rw [if_neg h1]
 have h34:formK s=3∨formK s=4:=by
  unfold formK at hk h1 ⊢
  by_cases p1:4≤s.size∧s.extract 0 4=bA [108,97,115,116]
  ·rw [if_pos p1] at hk;exact absurd rfl hk
  rw [if_neg p1] at hk h1 ⊢
  by_cases p2:5<s.size∧byteI s 4=61∧byteI s 3=62
  ·rw [if_pos p2];exact .inl rfl
  rw [if_neg p2] at hk h1 ⊢
  by_cases p3:5<s.size∧byteI s 4=61∧byteI s 3=60
  ·rw [if_pos p3];exact .inr rfl
  rw [if_neg p3] at h1;exact absurd rfl h1
 rcases hK h34 with hlt | hge
 ·rw [day_none2 (x:=s.extract 0 3) hl (by
   rw [bA_ext,aB_bA,List.drop_zero]
   refine List.mem_of_getElem? (i:=i) ?_
   rw [List.getElem?_take,if_pos (by omega)];exact h)]
 rw [num_none2 (x:=s.extract 5 s.size) hd (by
  rw [bA_ext,aB_bA]
  refine List.mem_of_getElem? (i:=i-5) ?_
  rw [List.getElem?_take,if_pos (by rw [aB_len] at hi;omega),List.getElem?_drop,show 5+(i-5)=i by omega];exact h)]
 cases idxL dayL (s.extract 0 3) 0 <;> rfl
theorem byteAt_of {s:ByteArray}{i:Nat}{c:UInt8}(h:(aB s)[i]?=some c):byteAt s i=c:=by
 have hi:i<s.size:=by rw [←aB_len];exact (List.getElem?_eq_some_iff.1 h).1
 have:=aB_at hi
 have h2:((aB s).drop i)[0]?=some c:=by rw [List.getElem?_drop,Nat.add_zero];exact h
 rw [this] at h2
 simpa using h2
theorem formK_34 {s:ByteArray}(hk:formK s≠2):(formK s=3↔5<s.size∧byteAt s 4=61∧byteAt s 3=62)∧(formK s=4↔5<s.size∧byteAt s 4=61∧byteAt s 3=60)∧(formK s=1∨formK s=3∨formK s=4):=by
 have b1:byteI s 4=61↔byteAt s 4=61:=byteI_iff (c:=61)
 have b2:byteI s 3=62↔byteAt s 3=62:=byteI_iff (c:=62)
 have b3:byteI s 3=60↔byteAt s 3=60:=byteI_iff (c:=60)
 unfold formK at hk ⊢
 rw [←b1,←b2,←b3]
 by_cases p1:4≤s.size∧s.extract 0 4=bA [108,97,115,116]
 ·rw [if_pos p1] at hk;exact absurd rfl hk
 rw [if_neg p1]
 by_cases p2:5<s.size∧byteI s 4=61∧byteI s 3=62
 ·rw [if_pos p2]
  refine ⟨⟨fun _=>p2,fun _=>rfl⟩,⟨fun h=>by omega,fun h=>?_⟩,.inr (.inl rfl)⟩
  have:=p2.2.2;have:=h.2.2;omega
 rw [if_neg p2]
 by_cases p3:5<s.size∧byteI s 4=61∧byteI s 3=60
 ·rw [if_pos p3];exact ⟨⟨fun h=>by omega,fun h=>absurd h p2⟩,⟨fun _=>p3,fun _=>rfl⟩,.inr (.inr rfl)⟩
 rw [if_neg p3];exact ⟨⟨fun h=>by omega,fun h=>absurd h p2⟩,⟨fun h=>by omega,fun h=>absurd h p3⟩,.inl rfl⟩
theorem op_found {s:ByteArray}{c:UInt8}{i k:Nat}(hk2:formK s≠2) (hc:c=62∧k=3∨c=60∧k=4) (hi:Lib.index (aB s) [c,61]=i) (hle:i≤(aB s).length) (ho:Lib.occAt (aB s) [c,61] i=true) (hno : ∀ j,j<i→Lib.occAt (aB s) [c,61] j=false)
  (h3':c=60→formK s≠3):frm3 k (idxL dayL (bA ((aB s).take i)) 0) (numV (bA ((aB s).drop (i+2))) 1 2)=formV s:=by
 have e1:=Lib.occAt_head (s:=aB s) rfl ho
 have e2:=Lib.occAt_second (s:=aB s) rfl ho
 have hlen:i+1<(aB s).length:=(List.getElem?_eq_some_iff.1 e2).1
 rw [aB_len] at hlen
 obtain ⟨k3,k4,k134⟩:=formK_34 hk2
 have hd:digB c.toNat=false:=by rcases hc with ⟨rfl,_⟩ | ⟨rfl,_⟩ <;> decide
 have hl:letB c.toNat=false:=by rcases hc with ⟨rfl,_⟩ | ⟨rfl,_⟩ <;> decide
 by_cases h3:i=3
 ·subst h3
  have b3:=byteAt_of e1
  have b4:=byteAt_of e2
  by_cases hz:5<s.size
  ·have hK:formK s=k:=by
    rcases hc with ⟨rfl,rfl⟩ | ⟨rfl,rfl⟩
    ·exact k3.2 ⟨hz,b4,b3⟩
    exact k4.2 ⟨hz,b4,b3⟩
   have hK1:formK s≠1:=by rcases hc with ⟨_,rfl⟩ | ⟨_,rfl⟩ <;> omega
   unfold formV
   rw [if_neg hk2,if_neg hK1,hK]
   rw [show s.extract 0 3=bA ((aB s).take 3) by rw [bA_ext,List.drop_zero],show s.extract 5 s.size=bA ((aB s).drop (3+2)) by rw [bA_ext];congr 1;exact List.take_of_length_le (by rw [List.length_drop,aB_len];omega)]
   rfl
  have hnn:numV (bA ((aB s).drop (3+2))) 1 2=none:=by
   unfold numV
   rw [if_neg]
   rintro ⟨h,_⟩
   unfold wi at h
   rw [bA_size,List.length_drop,aB_len] at h
   simp at h
   omega
  rw [hnn]
  have hK1:formK s=1:=by
   rcases k134 with h | h | h
   ·exact h
   ·exact absurd (k3.1 h).1 hz
   exact absurd (k4.1 h).1 hz
  unfold formV
  rw [if_neg hk2,if_pos hK1,num_none2 hd (List.mem_of_getElem? e1)]
  unfold frm3
  cases idxL dayL (bA ((aB s).take 3)) 0 <;> rfl
 rw [day_none (x:=bA ((aB s).take i)) (by rw [bA_size,List.length_take];omega)]
 rw [ops_none hd hl e1 h3 hk2 ?_]
 ·rfl
 intro h34
 by_cases hlt:i<3
 ·exact .inl hlt
 right
 have h4:i≠4:=by
  rintro rfl
  have b4:=byteAt_of e1
  have:byteAt s 4=61:=by rcases h34 with h | h;exact (k3.1 h).2.1;exact (k4.1 h).2.1
  rw [this] at b4
  rcases hc with ⟨rfl,_⟩ | ⟨rfl,_⟩ <;> exact absurd b4 (by decide)
 omega
theorem pform_eq (s:ByteArray):pform s=formV s:=by
 unfold pform
 by_cases hp:Lib.hasPrefix (aB s) [108,97,115,116]=true
 ·rw [if_pos hp]
  have hk:formK s=2:=if_pos (pre_iff.1 hp)
  unfold formV
  rw [if_pos hk]
  cases idxL dayL (s.extract 4 s.size) 0 <;> rfl
 rw [if_neg hp]
 have hk:formK s≠2:=by
  intro e
  unfold formK at e
  by_cases p1:4≤s.size∧s.extract 0 4=bA [108,97,115,116]
  ·exact hp (pre_iff.2 p1)
  rw [if_neg p1] at e
  split at e
  ·cases e
  split at e <;> cases e
 obtain ⟨k3,k4,k134⟩:=formK_34 hk
 rcases Lib.index_spec (aB s) [62,61] with ⟨h1,h2⟩ | ⟨i,h1,h2,h3,h4⟩
 ·have hc:(cutL s [62,61]).2.2=false:=by unfold cutL Lib.cut;rw [h1];rfl
  rw [if_neg (by rw [hc];simp)]
  have hn3:formK s≠3:=by
   intro e
   obtain ⟨q1,q2,q3⟩:=k3.1 e
   have:=occ3 q1 q3 q2
   rw [h2 3 (by rw [aB_len];omega)] at this;cases this
  rcases Lib.index_spec (aB s) [60,61] with ⟨g1,g2⟩ | ⟨i,g1,g2,g3,g4⟩
  ·have hc2:(cutL s [60,61]).2.2=false:=by unfold cutL Lib.cut;rw [g1];rfl
   rw [if_neg (by rw [hc2];simp)]
   have hn4:formK s≠4:=by
    intro e
    obtain ⟨q1,q2,q3⟩:=k4.1 e
    have:=occ3 q1 q3 q2
    rw [g2 3 (by rw [aB_len];omega)] at this;cases this
   have hk1:formK s=1:=by rcases k134 with h | h | h;exact h;exact absurd h hn3;exact absurd h hn4
   unfold formV
   rw [if_neg hk,if_pos hk1]
   cases numV s 1 2 <;> rfl
  have hc2:cutL s [60,61]=((aB s).take i,(aB s).drop (i+2),true):=by
   unfold cutL Lib.cut
   rw [g1,if_pos (by omega)]
   simp
  rw [hc2,if_pos rfl]
  exact op_found (k:=4) hk (.inr ⟨rfl,rfl⟩) g1 g2 g3 g4 (fun _=>hn3)
 have hc:cutL s [62,61]=((aB s).take i,(aB s).drop (i+2),true):=by
  unfold cutL Lib.cut
  rw [h1,if_pos (by omega)]
  simp
 rw [hc,if_pos rfl]
 exact op_found (k:=3) hk (.inl ⟨rfl,rfl⟩) h1 h2 h3 h4 (fun h=>by cases h)
theorem cutX_a {s:ByteArray}{p:Bs}{h:AH}(hz:s.size≤24):ACalls Tryz.prog 158 [sv s,sv (bA p)] h fun x h'=>h'=h∧x = .ret (.tup [sv (bA (cutL s p).1),sv (bA (cutL s p).2.1),bv (cutL s p).2.2]):=cut_a (by omega)
abbrev frmC (f:Frm):AV:=.agg [iv f.1,iv f.2.1,iv f.2.2]
def rForm:RM Frm:=bindR rNext fun s=>liftR (formV s)
set_option maxHeartbeats 1000000 in
theorem sform_any {l:List ByteArray}{id:Nat}{h:AH}(ho:okL l) (h1:h[id]?=some (rdE l)):ACalls Tryz.prog 145 [.ptr id 0 0] h (RS id h ((rForm l).map fun p=>(frmC p.1,p.2))):=by
 have hid:id<h.length:=(List.getElem?_eq_some_iff.1 h1).1
 refine tJ' k145 fun N hn hlt hlA hbd=>?_
 simp only [tA',AV.bdL,AV.bd,and_true,true_and] at hbd ⊢
 refine aw_heap (h1:=h.set id (rdE l)++[]) (by rw [hx_self h1]) ?_
 refine wr'<|E' (e_new (hl0 (hx_len hn)) ha0) pt2<|sn'<|wr'<|mv' lk0 pt11<|?_
 by_cases hs3 : ∃ p,rNext l=some p
 ·obtain ⟨⟨s,l1⟩,e1⟩:=hs3
  obtain ⟨hz,o1⟩:=okL_next ho e1
  have hF:rForm l=liftR (pform s) l1:=by unfold rForm;rw [bindR_step e1,pform_eq]
  unfold pform at hF
  refine s_calls (mp1 lk11 mp0) (rnext_e e1 (hx_at hid)) (hx_set hid) pt12<|mv' lk12 pt3<|sn'<|w_seq<|wr'<|mv' lk3 pt14<|s_callp (mp1 lk14 (mp1 lks mp0)) (cutPrefix_a (p:=bA [108,97,115,116])) pt15<|mv' lk15 pt13<|V' (v_ext lk13 gt0) pt16<|V' (v_ext lk13 gt1) pt17<|mv' lk16 pt4<|mv' lk17 pt5<|?_
  refine sn'<|wr'<|mv' lk5 pt18<|sn'<|?_
  refine w_condB lk18 (fun hc1=>?_) (fun hc1=>?_)
  ·have hp:Lib.hasPrefix (aB s) [108,97,115,116]=true:=hc1
   rw [if_pos hp] at hF
   have hx:bA (Lib.trimPrefix (aB s) (aB (bA [108,97,115,116])))=s.extract 4 s.size:=by rw [bA_ext];congr 1;show (if Lib.hasPrefix (aB s) [108,97,115,116] then (aB s).drop 4 else aB s)=_;rw [if_pos hp,List.take_of_length_le];rw [List.length_drop,aB_len];omega
   have hx2 : ∀ {o:Option Int},idxL dayL (s.extract 4 s.size) 0=o→(idxL dayL (bA (Lib.trimPrefix (aB s) (aB (bA [108,97,115,116])))) 0).map iv=o.map iv:=fun e=>by rw [hx,e]
   refine wr'<|s_callp mp0 (weekdays_a) pt19<|mv' lk4 pt20<|?_
   by_cases hs15 : ∃ w,idxL dayL (s.extract 4 s.size) 0=some w
   ·obtain ⟨w,e2⟩:=hs15
    rw [e2] at hF
    refine s_callp (mp1 lk19 (mp1 lk20 mp0)) (res_a (v:=iv w) sday_any (hx2 e2)) pt21<|V' (v_build (SrcRc_form_16 (cvl lki rfl) rfl (cvl lk21 rfl) rfl)) pt22<|E' (e_store lk2 (cvl lk22 rfl) (hga (hx_len hn) rfl) rfl (nb' rfl) rfl SrcRc_sc0_3 (hs0 (hx_len hn))) ptn<|sn'<|w_rets<|r_thn<|w_ret (rs1 (rr_c gt2 (hga (hx_len hn) rfl) (ld1 SrcRc_tk0_3 rfl)))<|?_
    exact ⟨_,_,rfl,hx_len hn,hx_lt hlt rdE_ltb,rfl,by rw [hF];exact ⟨rfl,rfl⟩⟩
   have e2:=no_some hs15
   rw [e2] at hF
   have hN:rForm l=none:=hF
   refine s_callPan' (mp1 lk19 (mp1 lk20 mp0)) (res_p sday_any (hx2 e2))<|p_thn<|p_thn<|w_pan<|?_
   exact ⟨_,_,rfl,hx_len hn,hx_lt hlt rdE_ltb,rfl,by rw [hN];exact ⟨rfl,l1,rfl⟩⟩
  have hp:¬Lib.hasPrefix (aB s) [108,97,115,116]=true:=by rw [show Lib.hasPrefix (aB s) [108,97,115,116]=false from hc1];simp
  rw [if_neg hp] at hF
  refine w_skip<|n_seq<|w_seq<|wr'<|E' (e_lit (SrcRc_form_18 (cvl lks rfl) rfl (cvl lks rfl) rfl) (hl1 (hx_len hn)) ha1) pt23<|V' (v_lenO lk23) pt24<|mv' lki pt25<|sn'<|w_block<|?_
  refine w_lp (ι:=Nat) (fun (k:Nat)=>[(25,iv (k:Int))]++rn' 6 5++rn' 26 21) (fun (k:Nat)=>[]) (fun (k:Nat)=>k≤2∧(1≤k→(cutL s [62,61]).2.2=false)∧(2≤k→(cutL s [60,61]).2.2=false)) (fun (k:Nat)=>2-k) (0) (by exact ⟨by omega,fun h=>by omega,fun h=>by omega⟩) ?_
  rintro k hi1
  try simp only [setsT,setsE,z',s',rn',la',ln',Nat.reduceAdd]
  obtain ⟨hk1,hk2,hk3⟩:=hi1
  refine wr'<|V' (v_lss lk25 lk24) pt26<|sn'<|w_seq<|?_
  refine cd' lk26 (fun hc2=>?_) (fun hc2=>?_)
  ·refine w_skip<|n_seq<|w_seq<|w_block<|wr'<|?_
   by_cases hs22:k=0
   ·subst hs22
    refine mv' lk25 pt27 ?_
    refine V' (v_iaO lk23 lk25 (hga (hx_len hn) rfl) (nb' rfl) (by omega) (by omega) (nb' rfl)) pt28 ?_
    refine V' (v_loadp lk28 (hga (hx_len hn) rfl) rfl) pt29<|mv' lk27 pt6<|mv' lk29 pt7<|sn'<|wr'<|mv' lk3 pt31<|mv' lk7 pt32<|s_callp (mp1 lk31 (mp1 lk32 mp0)) (cutX_a (p:=[62,61]) hz) pt33<|mv' lk33 pt30<|V' (v_ext lk30 gt0) pt34<|V' (v_ext lk30 gt1) pt35<|V' (v_ext lk30 gt2) pt36<|?_
    refine mv' lk34 pt8<|mv' lk35 pt9<|mv' lk36 pt10<|sn'<|wr'<|mv' lk10 pt37<|sn'<|?_
    refine w_condB lk37 (fun hc3=>?_) (fun hc3=>?_)
    ·have hcc:(cutL s [62,61]).2.2=true:=hc3
     rw [if_pos hcc] at hF
     have hcz:=(cutL_len (s:=s) (p:=[62,61])).2
     obtain ⟨X,hX⟩ : ∃ X,X=idxL dayL (bA (cutL s [62,61]).1) 0:=⟨_,rfl⟩
     obtain ⟨Y,hY⟩ : ∃ Y,Y=numV (bA (cutL s [62,61]).2.1) 1 2:=⟨_,rfl⟩
     rw [←hX,←hY] at hF
     refine wr'<|mv' lk6 pt38<|?_
     refine V' (v_add lki lk38 (by omega) (by omega)) pt39 ?_
     refine s_callp mp0 (weekdays_a) pt40<|mv' lk8 pt41<|?_
     by_cases hs42 : ∃ w,X=some w
     ·obtain ⟨w,rfl⟩:=hs42
      refine s_callp (mp1 lk40 (mp1 lk41 mp0)) (res_a (v:=iv w) sday_any (show (idxL dayL (bA _) 0).map iv=some (iv w) by rw [←hX];rfl)) pt42 ?_
      refine mv' lk9 pt43 ?_
      by_cases hs44 : ∃ n,Y=some n
      ·obtain ⟨n,rfl⟩:=hs44
       refine s_callp (mp1 lk43 (mp1 lki (mp1 lki mp0))) (sdig_e (by rw [bA_size];omega) (by omega) (by omega) hY.symm) pt44 ?_
       refine V' (v_build (SrcRc_form_45 (cvl lk39 rfl) rfl (cvl lk42 rfl) rfl (cvl lk44 rfl) rfl)) pt45<|E' (e_store lk2 (cvl lk45 rfl) (hga (hx_len hn) rfl) rfl (nb' rfl) rfl SrcRc_sc0_3 (hs0 (hx_len hn))) ptn<|sn'<|w_rets<|r_blk<|r_thn<|r_thn<|r_blk<|r_thn<|w_ret (rs1 (rr_c gt2 (hga (hx_len hn) rfl) (ld1 SrcRc_tk0_3 rfl)))<|?_
       exact ⟨_,_,rfl,hx_len hn,hx_lt hlt rdE_ltb,rfl,by rw [hF];exact ⟨rfl,rfl⟩⟩
      have e3:=no_some hs44
      have hN:rForm l=none:=by rw [hF,e3];rfl
      refine s_callPan' (mp1 lk43 (mp1 lki (mp1 lki mp0))) (sdig_p (by rw [bA_size];omega) (by omega) (by omega) (hY.symm.trans e3)) ?_
      refine p_thn<|p_blk<|p_thn<|p_thn<|p_blk<|p_thn<|w_pan<|?_
      exact ⟨_,_,rfl,hx_len hn,hx_lt hlt rdE_ltb,rfl,by rw [hN];exact ⟨rfl,l1,rfl⟩⟩
     have e2:=no_some hs42
     have hN:rForm l=none:=by rw [hF,e2];rfl
     refine s_callPan' (mp1 lk40 (mp1 lk41 mp0)) (res_p sday_any (show (idxL dayL (bA _) 0).map iv=none by rw [←hX,e2];rfl)) ?_
     refine p_thn<|p_blk<|p_thn<|p_thn<|p_blk<|p_thn<|w_pan<|?_
     exact ⟨_,_,rfl,hx_len hn,hx_lt hlt rdE_ltb,rfl,by rw [hN];exact ⟨rfl,l1,rfl⟩⟩
    refine w_skip<|n_blk<|n_seq<|w_reg<|?_
    refine V' (v_add lk25 lki (by omega) (by omega)) pt46 ?_
    refine mv' lk46 pt25<|s_nil<|n_thn<|?_
    refine lT' (1) (by (try dsimp only);exact ⟨by omega,fun _=>hc3,fun h=>by omega⟩)
   obtain rfl:k=1:=by omega
   have hq1:=hk2 (by omega)
   rw [if_neg (by rw [hq1];simp)] at hF
   refine mv' lk25 pt27 ?_
   refine V' (v_iaO lk23 lk25 (hga (hx_len hn) rfl) (nb' rfl) (by omega) (by omega) (nb' rfl)) pt28 ?_
   refine V' (v_loadp lk28 (hga (hx_len hn) rfl) rfl) pt29<|mv' lk27 pt6<|mv' lk29 pt7<|sn'<|wr'<|mv' lk3 pt31<|mv' lk7 pt32<|s_callp (mp1 lk31 (mp1 lk32 mp0)) (cutX_a (p:=[60,61]) hz) pt33<|mv' lk33 pt30<|V' (v_ext lk30 gt0) pt34<|V' (v_ext lk30 gt1) pt35<|V' (v_ext lk30 gt2) pt36<|?_
   refine mv' lk34 pt8<|mv' lk35 pt9<|mv' lk36 pt10<|sn'<|wr'<|mv' lk10 pt37<|sn'<|?_
   refine w_condB lk37 (fun hc3=>?_) (fun hc3=>?_)
   ·have hcc:(cutL s [60,61]).2.2=true:=hc3
    rw [if_pos hcc] at hF
    have hcz:=(cutL_len (s:=s) (p:=[60,61])).2
    obtain ⟨X,hX⟩ : ∃ X,X=idxL dayL (bA (cutL s [60,61]).1) 0:=⟨_,rfl⟩
    obtain ⟨Y,hY⟩ : ∃ Y,Y=numV (bA (cutL s [60,61]).2.1) 1 2:=⟨_,rfl⟩
    rw [←hX,←hY] at hF
    refine wr'<|mv' lk6 pt38<|?_
    refine V' (v_add lki lk38 (by omega) (by omega)) pt39 ?_
    refine s_callp mp0 (weekdays_a) pt40<|mv' lk8 pt41<|?_
    by_cases hs42 : ∃ w,X=some w
    ·obtain ⟨w,rfl⟩:=hs42
     refine s_callp (mp1 lk40 (mp1 lk41 mp0)) (res_a (v:=iv w) sday_any (show (idxL dayL (bA _) 0).map iv=some (iv w) by rw [←hX];rfl)) pt42 ?_
     refine mv' lk9 pt43 ?_
     by_cases hs44 : ∃ n,Y=some n
     ·obtain ⟨n,rfl⟩:=hs44
      refine s_callp (mp1 lk43 (mp1 lki (mp1 lki mp0))) (sdig_e (by rw [bA_size];omega) (by omega) (by omega) hY.symm) pt44 ?_
      refine V' (v_build (SrcRc_form_45 (cvl lk39 rfl) rfl (cvl lk42 rfl) rfl (cvl lk44 rfl) rfl)) pt45<|E' (e_store lk2 (cvl lk45 rfl) (hga (hx_len hn) rfl) rfl (nb' rfl) rfl SrcRc_sc0_3 (hs0 (hx_len hn))) ptn<|sn'<|w_rets<|r_blk<|r_thn<|r_thn<|r_blk<|r_thn<|w_ret (rs1 (rr_c gt2 (hga (hx_len hn) rfl) (ld1 SrcRc_tk0_3 rfl)))<|?_
      exact ⟨_,_,rfl,hx_len hn,hx_lt hlt rdE_ltb,rfl,by rw [hF];exact ⟨rfl,rfl⟩⟩
     have e3:=no_some hs44
     have hN:rForm l=none:=by rw [hF,e3];rfl
     refine s_callPan' (mp1 lk43 (mp1 lki (mp1 lki mp0))) (sdig_p (by rw [bA_size];omega) (by omega) (by omega) (hY.symm.trans e3)) ?_
     refine p_thn<|p_blk<|p_thn<|p_thn<|p_blk<|p_thn<|w_pan<|?_
     exact ⟨_,_,rfl,hx_len hn,hx_lt hlt rdE_ltb,rfl,by rw [hN];exact ⟨rfl,l1,rfl⟩⟩
    have e2:=no_some hs42
    have hN:rForm l=none:=by rw [hF,e2];rfl
    refine s_callPan' (mp1 lk40 (mp1 lk41 mp0)) (res_p sday_any (show (idxL dayL (bA _) 0).map iv=none by rw [←hX,e2];rfl)) ?_
    refine p_thn<|p_blk<|p_thn<|p_thn<|p_blk<|p_thn<|w_pan<|?_
    exact ⟨_,_,rfl,hx_len hn,hx_lt hlt rdE_ltb,rfl,by rw [hN];exact ⟨rfl,l1,rfl⟩⟩
   refine w_skip<|n_blk<|n_seq<|w_reg<|?_
   refine V' (v_add lk25 lki (by omega) (by omega)) pt46 ?_
   refine mv' lk46 pt25<|s_nil<|n_thn<|?_
   refine lT' (2) (by (try dsimp only);exact ⟨by omega,fun _=>hq1,fun _=>hc3⟩)
  obtain rfl:k=2:=by omega
  rw [if_neg (by rw [hk2 (by omega)];simp),if_neg (by rw [hk3 (by omega)];simp)] at hF
  refine w_exit<|x_thn<|x_thn<|x_blk<|n_seq<|wr'<|mv' lk3 pt47<|?_
  by_cases hs50 : ∃ n,numV s 1 2=some n
  ·obtain ⟨n,e2⟩:=hs50
   rw [e2] at hF
   refine s_callp (mp1 lk47 (mp1 lki (mp1 lki mp0))) (sdig_e hz (by omega) (by omega) e2) pt48 ?_
   refine V' (v_build (SrcRc_form_51 (cvl lki rfl) rfl (cvl lk48 rfl) rfl)) pt49<|E' (e_store lk2 (cvl lk49 rfl) (hga (hx_len hn) rfl) rfl (nb' rfl) rfl SrcRc_sc0_3 (hs0 (hx_len hn))) ptn<|sn'<|w_rets<|w_ret (rs1 (rr_c gt2 (hga (hx_len hn) rfl) (ld1 SrcRc_tk0_3 rfl)))<|?_
   exact ⟨_,_,rfl,hx_len hn,hx_lt hlt rdE_ltb,rfl,by rw [hF];exact ⟨rfl,rfl⟩⟩
  have e2:=no_some hs50
  rw [e2] at hF
  have hN:rForm l=none:=hF
  refine s_callPan' (mp1 lk47 (mp1 lki (mp1 lki mp0))) (sdig_p hz (by omega) (by omega) e2) ?_
  refine p_thn<|w_pan<|?_
  exact ⟨_,_,rfl,hx_len hn,hx_lt hlt rdE_ltb,rfl,by rw [hN];exact ⟨rfl,l1,rfl⟩⟩
 have e1:=no_some hs3
 have hN:rForm l=none:=bindR_fail e1
 refine s_callPanX (mp1 lk11 mp0) (rnext_p e1 (hx_at hid)) (fun hP_ hPp_=>?_)
 refine p_thn<|w_pan<|?_
 obtain ⟨l',rfl⟩:=hPp_
 rw [hx_set hid]
 exact ⟨_,_,rfl,hx_len hn,hx_lt hlt rdE_ltb,rfl,by rw [hN];exact ⟨rfl,l',rfl⟩⟩
end Go.Proofs.YtgjchdhdopgkkaaGreatDoor
end
section
namespace Go.Proofs.YtgjchdhdopgkkaaGreatDoor
open Go.Ab Go.RowKit Go.Maps Civ
theorem lawU:Keyed Tryz.prog 5:=int_keyed Tryz.underlying5
theorem zeroI (w:World):(zeroValue 3).run Tryz.prog w = .ok (.int .i64 0) w:=by kernel_rfl
end Go.Proofs.YtgjchdhdopgkkaaGreatDoor
end
