/-
  Part 3 of the proof: own lemmas and contracts on plain data. No condition beyond those that each lemma states.
-/
import Derived.Test.YtgjchdhdopgkkaaGreatDoorV2
import Derived.WalkKit
import Derived.WalkSpells
import Derived.WalkLawsBesides
import Derived.Deep.QuietTactic
import Derived.BigQuiet
import Derived.Lib.Hide
import Derived.Lib.QuietBelow
import Derived.Deep.RegionHeld3
import Derived.Deep.DeepCutAuto
import Derived.ProofKit
import Derived.Carry
import Derived.Lib.SmallJoins
import Derived.Deep.Slices
import Derived.Lib.ItoaLen
set_option linter.all false
set_option maxRecDepth 100000
section
namespace Go.Proofs.YtgjchdhdopgkkaaGreatDoor
open Go.Ab Go.RowKit Civ
attribute [local simp] rul_lt era_lt zon_lt lnk_lt
set_option maxHeartbeats 4000000 in
theorem rcheckS_b {a:List Rul}{z:List Zon}{l:List Lnk}{h:AH}(hok:okSrc (a,z,l)):ACalls Tryz.prog 9 [.agg [.sl a.length 11 false (rows rulC a),.sl z.length 2 false (rows zonC z),.sl l.length 2 false (rows lnkC l)]] h fun x h'=>h'=h∧x = .ret (iv (checkE (a,z,l))):=by
 refine tI' k9 fun N hn hlt hlA hbd=>?_
 simp only [tA',AV.bdL,AV.bd,and_true,true_and] at hbd ⊢
 refine wr'<|E' (e_box (cvl lk0 rfl) rfl (hl0 hn) ha0) pt1<|mv' lki pt2<|sn'<|w_seq<|wr'<|V' (v_fap0 lk1) pt11<|V' (v_loadp lk11 (hga hn rfl) gt0) pt12<|V' (v_lenL lk12) pt13<|V' (v_gtr lk13 lki) pt14<|mv' lk14 pt15<|?_
 refine sp' gt15 pt15 pt15 (fun hg15=>?_) (fun hg15=>?_)
 ·have hM:manyB (a,z,l)=true:=by unfold manyB;simp;omega
  refine s_no gt15 pt16<|s_no gt15 pt17<|s_no gt15 pt18<|s_no gt15 pt19<|V' (v_pickT lk15 lkb) pt20<|mv' lk20 pt21<|s_no gt21 pt22<|s_no gt21 pt23<|s_no gt21 pt24<|s_no gt21 pt25<|V' (v_pickT lk21 lkb) pt26<|sn'<|w_condT lk26<|?_
  refine wr'<|mv' lki pt2<|sn'<|w_rets<|r_thn<|w_ret (rs1 (rr_t gt2))<|rT'<|?_
  refine ivx ?_;unfold checkE;rw [if_pos hM]
 refine s_do gt15<|V' (v_fap0 lk1) pt16<|s_do gt15<|V' (v_loadp lk16 (hga hn rfl) gt1) pt17<|s_do gt15<|V' (v_lenL lk17) pt18<|s_do gt15<|V' (v_gtr lk18 lki) pt19<|V' (v_pickF lk15 lk19) pt20<|mv' lk20 pt21<|?_
 refine sp' gt21 pt21 pt21 (fun hg21=>?_) (fun hg21=>?_)
 ·have hM:manyB (a,z,l)=true:=by unfold manyB;simp;omega
  refine s_no gt21 pt22<|s_no gt21 pt23<|s_no gt21 pt24<|s_no gt21 pt25<|V' (v_pickT lk21 lkb) pt26<|sn'<|w_condT lk26<|wr'<|mv' lki pt2<|sn'<|w_rets<|?_
  refine r_thn<|w_ret (rs1 (rr_t gt2))<|rT'<|?_
  refine ivx ?_;unfold checkE;rw [if_pos hM]
 refine s_do gt21<|V' (v_fap0 lk1) pt22<|s_do gt21<|V' (v_loadp lk22 (hga hn rfl) gt2) pt23<|s_do gt21<|V' (v_lenL lk23) pt24<|s_do gt21<|V' (v_gtr lk24 lki) pt25<|V' (v_pickF lk21 lk25) pt26<|sn'<|?_
 refine cd' lk26 (fun hc1=>?_) (fun hc1=>?_)
 ·have hM:manyB (a,z,l)=true:=by unfold manyB;simp;omega
  refine wr'<|mv' lki pt2<|sn'<|w_rets<|r_thn<|w_ret (rs1 (rr_t gt2))<|rT'<|?_
  refine ivx ?_;unfold checkE;rw [if_pos hM]
 refine w_skip<|n_seq<|w_seq<|wr'<|mv' lki pt3<|sn'<|w_block<|?_
 refine w_lp (ι:=Nat) (fun (k:Nat)=>[(3,iv (k:Int)),(2,.any)]++rn' 27 15) (fun (k:Nat)=>[]) (fun (k:Nat)=>k≤z.length∧(z.take k).any (fun z=>decide (8<z.2.length))=false) (fun (k:Nat)=>z.length-k) (0) (by exact ⟨Nat.zero_le _,rfl⟩) ?_
 rintro k hi1
 try simp only [setsT,setsE,z',s',rn',la',ln',Nat.reduceAdd]
 obtain ⟨hk1,hk2⟩:=hi1
 refine w_seq<|wr'<|mv' lk3 pt27<|V' (v_fap0 lk1) pt28<|V' (v_loadp lk28 (hga hn rfl) gt1) pt29<|V' (v_lenL lk29) pt30<|V' (v_lss lk27 lk30) pt31<|sn'<|?_
 refine cd' lk31 (fun hc2=>?_) (fun hc2=>?_)
 ·have hk:k<z.length:=by omega
  refine w_skip<|n_seq<|w_seq<|w_block<|wr'<|V' (v_fap0 lk1) pt34<|V' (v_loadp lk34 (hga hn rfl) gt1) pt35<|mv' lk3 pt36<|?_
  refine V' (v_iaR lk35 lk36 zon_len1 (nb' rfl) (by first | rfl | omega) (by omega) (by first | rfl | omega) rfl) pt37 ?_
  refine V' (v_far lk37 dp1) pt38<|V' (v_loadr lk38 gt0) pt39<|?_
  refine V' ((by first | exact v_lenL lk39 | exact v_lenO lk39)) pt40 ?_
  refine V' (v_gtr lk40 lki) pt41<|sn'<|?_
  refine cd' lk41 (fun hc3=>?_) (fun hc3=>?_)
  ·have hM:manyB (a,z,l)=true:=by unfold manyB;rw [show z.any (fun z=>decide (8<z.2.length))=true from List.any_eq_true.2 ⟨z[k],List.getElem_mem hk,decide_eq_true (by omega)⟩];simp
   refine wr'<|mv' lki pt2<|sn'<|w_rets<|r_blk<|r_thn<|r_thn<|r_blk<|r_thn<|w_ret (rs1 (rr_t gt2))<|rT'<|?_
   refine ivx ?_;unfold checkE;rw [if_pos hM]
  refine w_skip<|n_blk<|n_seq<|w_reg<|mv' lk3 pt32<|?_
  refine V' (v_add lk32 lki (by omega) (by omega)) pt33 ?_
  refine mv' lk33 pt3<|s_nil<|n_thn<|?_
  refine lT' (k+1) (by (try dsimp only);exact ⟨by omega,by rw [List.take_succ_eq_append_getElem hk,List.any_append,hk2];simp;omega⟩)
 rw [List.take_of_length_le (by omega)] at hk2
 have hM:manyB (a,z,l)=false:=by unfold manyB;rw [hk2];simp;omega
 have hE:checkE (a,z,l)=if firstX ruleE a≠0 then firstX ruleE a else if firstX zoneE z≠0 then firstX zoneE z else firstX linkE l:=by unfold checkE;rw [if_neg (by rw [hM];simp)]
 refine w_exit<|x_thn<|x_thn<|x_blk<|n_seq<|w_seq<|wr'<|mv' lki pt4<|sn'<|w_block<|?_
 refine w_lp (ι:=Nat) (fun (i2:Nat)=>[(4,iv (i2:Int)),(2,.any),(5,.any)]++rn' 42 16) (fun (i2:Nat)=>[]) (fun (i2:Nat)=>i2≤a.length∧firstX ruleE a=firstX ruleE (a.drop i2)) (fun (i2:Nat)=>a.length-i2) (0) (by exact ⟨Nat.zero_le _,rfl⟩) ?_
 rintro i2 hi2
 try simp only [setsT,setsE,z',s',rn',la',ln',Nat.reduceAdd]
 obtain ⟨hu1,hu2⟩:=hi2
 refine w_seq<|wr'<|mv' lk4 pt42<|V' (v_fap0 lk1) pt43<|V' (v_loadp lk43 (hga hn rfl) gt0) pt44<|V' (v_lenL lk44) pt45<|V' (v_lss lk42 lk45) pt46<|sn'<|?_
 refine cd' lk46 (fun hc4=>?_) (fun hc4=>?_)
 ·have hk4:i2<a.length:=by omega
  rw [firstX_at hk4] at hu2
  have ho4:=hok.1 _ (List.getElem_mem hk4)
  refine w_skip<|n_seq<|w_seq<|w_block<|wr'<|V' (v_fap0 lk1) pt49<|V' (v_loadp lk49 (hga hn rfl) gt0) pt50<|mv' lk4 pt51<|?_
  refine V' (v_iaR lk50 lk51 rul_len1 (nb' rfl) (by first | rfl | omega) (by omega) (by first | rfl | omega) rfl) pt52 ?_
  refine V' (v_loadrA lk52 SrcE_tk_11 rfl) pt53<|s_callp (mp1 lk53 mp0) (rcheckRule_a (r:=a[i2]) ho4.1 ho4.2) pt54<|mv' lk54 pt5<|sn'<|wr'<|mv' lk5 pt55<|V' (v_neq lk55 lki) pt56<|sn'<|?_
  refine cd' lk56 (fun hc5=>?_) (fun hc5=>?_)
  ·rw [if_pos hc5] at hu2
   refine wr'<|mv' lk5 pt57<|mv' lk57 pt2<|sn'<|w_rets<|r_blk<|r_thn<|r_thn<|r_blk<|r_thn<|w_ret (rs1 (rr_t gt2))<|rT'<|?_
   refine ivx ?_;rw [hE,hu2,if_pos hc5]
  rw [if_neg hc5] at hu2
  refine w_skip<|n_blk<|n_seq<|w_reg<|mv' lk4 pt47<|?_
  refine V' (v_add lk47 lki (by omega) (by omega)) pt48 ?_
  refine mv' lk48 pt4<|s_nil<|n_thn<|?_
  refine lT' (i2+1) (by (try dsimp only);exact ⟨by omega,hu2⟩)
 rw [List.drop_of_length_le (by omega)] at hu2
 rw [hu2,if_neg (by simp [firstX])] at hE
 refine w_exit<|x_thn<|x_thn<|x_blk<|n_seq<|w_seq<|wr'<|mv' lki pt6<|sn'<|w_block<|?_
 refine w_lp (ι:=Nat) (fun (i3:Nat)=>[(6,iv (i3:Int)),(2,.any)]++rn' 7 3++rn' 58 45) (fun (i3:Nat)=>[]) (fun (i3:Nat)=>i3≤z.length∧firstX zoneE z=firstX zoneE (z.drop i3)) (fun (i3:Nat)=>z.length-i3) (0) (by exact ⟨Nat.zero_le _,rfl⟩) ?_
 rintro i3 hi3
 try simp only [setsT,setsE,z',s',rn',la',ln',Nat.reduceAdd]
 obtain ⟨hv1,hv2⟩:=hi3
 refine w_seq<|wr'<|mv' lk6 pt58<|V' (v_fap0 lk1) pt59<|V' (v_loadp lk59 (hga hn rfl) gt1) pt60<|V' (v_lenL lk60) pt61<|V' (v_lss lk58 lk61) pt62<|sn'<|?_
 refine cd' lk62 (fun hc6=>?_) (fun hc6=>?_)
 ·have hk6:i3<z.length:=by omega
  rw [firstX_at hk6] at hv2
  have ho6:=hok.2.1 _ (List.getElem_mem hk6)
  have h8:(z[i3]).2.length≤8:=by have:=List.any_eq_false.1 hk2 _ (List.getElem_mem hk6);simpa using this
  refine w_skip<|n_seq<|w_seq<|w_block<|wr'<|V' (v_fap0 lk1) pt65<|V' (v_loadp lk65 (hga hn rfl) gt1) pt66<|mv' lk6 pt67<|?_
  refine V' (v_iaR lk66 lk67 zon_len1 (nb' rfl) (by first | rfl | omega) (by omega) (by first | rfl | omega) rfl) pt68 ?_
  refine V' (v_far lk68 dp1) pt69<|V' (v_loadr lk69 gt0) (ptS pt0)<|mv' (lkS lk0) pt7<|sn'<|w_seq<|wr'<|V' (v_fap0 lk1) (ptS pt1)<|V' (v_loadp (lkS lk1) (hga hn rfl) gt1) (ptS pt2)<|mv' lk6 (ptS pt3)<|?_
  refine V' (v_iaR (lkS lk2) (lkS lk3) zon_len1 (nb' rfl) (by first | rfl | omega) (by omega) (by first | rfl | omega) rfl) (ptS pt4) ?_
  refine V' (v_far (lkS lk4) dp0) (ptS pt5)<|V' (v_loadr (lkS lk5) gt0) (ptS pt6)<|s_callp (mp1 (lkS lk6) mp0) (risName_a ho6.1) (ptS pt7)<|V' (v_notB (lkS lk7)) (ptS pt8)<|mv' (lkS lk8) (ptS pt9)<|?_
  refine s_splitB (gtS gt9) (ptS pt9) (ptS pt9) (fun hg79=>?_) (fun hg79=>?_)
  ·have hZ:zoneE z[i3]=1:=if_pos (.inl (by simpa using hg79))
   refine s_no (gtS gt9) (ptS pt10)<|s_no (gtS gt9) (ptS pt11)<|s_no (gtS gt9) (ptS pt12)<|V' (v_pickT (lkS lk9) lkb) (ptS pt13)<|sn'<|w_condT (lkS lk13)<|wr'<|mv' lki pt2<|sn'<|w_rets<|r_thn<|?_
   refine r_blk<|r_thn<|r_thn<|r_blk<|r_thn<|w_ret (rs1 (rr_t gt2))<|rT'<|?_
   refine ivx ?_;rw [hE,hv2,if_pos (by rw [hZ];simp),if_pos (by rw [hZ];simp),hZ]
  refine s_do (gtS gt9)<|mv' lk7 (ptS pt10)<|s_do (gtS gt9)<|?_
  refine V' ((by first | exact v_lenL (lkS lk10) | exact v_lenO (lkS lk10))) (ptS pt11) ?_
  refine s_do (gtS gt9)<|V' (v_eql (lkS lk11) lki) (ptS pt12)<|V' (v_pickF (lkS lk9) (lkS lk12)) (ptS pt13)<|sn'<|?_
  refine cd' (lkS lk13) (fun hc7=>?_) (fun hc7=>?_)
  ·have hZ:zoneE z[i3]=1:=if_pos (.inr (by omega))
   refine wr'<|mv' lki pt2<|sn'<|w_rets<|r_thn<|r_blk<|r_thn<|r_thn<|r_blk<|r_thn<|w_ret (rs1 (rr_t gt2))<|rT'<|?_
   refine ivx ?_;rw [hE,hv2,if_pos (by rw [hZ];simp),if_pos (by rw [hZ];simp),hZ]
  have hZ:zoneE z[i3]=erasE z[i3].2:=if_neg (by rintro (h1 | h1);exact h1 (by simpa using hg79);omega)
  refine w_skip<|n_seq<|wr'<|mv' lki pt8<|sn'<|w_block<|?_
  refine w_lp (ι:=Nat) (fun (i4:Nat)=>[(8,iv (i4:Int)),(2,.any),(9,.any)]++rn' 84 19) (fun (i4:Nat)=>[]) (fun (i4:Nat)=>i4≤(z[i3]).2.length∧erasE (z[i3]).2=erasE ((z[i3]).2.drop i4)) (fun (i4:Nat)=>(z[i3]).2.length-i4) (0) (by exact ⟨Nat.zero_le _,rfl⟩) ?_
  rintro i4 hi4
  try simp only [setsT,setsE,z',s',rn',la',ln',Nat.reduceAdd]
  obtain ⟨hx1,hx2⟩:=hi4
  refine w_seq<|wr'<|mv' lk8 (ptS pt14)<|mv' lk7 (ptS pt15)<|?_
  refine V' ((by first | exact v_lenL (lkS lk15) | exact v_lenO (lkS lk15))) (ptS pt16) ?_
  refine V' (v_lss (lkS lk14) (lkS lk16)) (ptS pt17)<|sn'<|?_
  refine cd' (lkS lk17) (fun hc8=>?_) (fun hc8=>?_)
  ·have hk8:i4<(z[i3]).2.length:=by omega
   rw [erasE_at hk8] at hx2
   have ho8:=ho6.2 _ (List.getElem_mem hk8)
   refine w_skip<|n_seq<|w_seq<|w_block<|wr'<|mv' lk7 (ptS pt20)<|mv' lk8 (ptS pt21)<|?_
   refine V' (v_iaR (lkS lk20) (lkS lk21) era_len1 (nb' rfl) (by first | rfl | omega) (by omega) (by first | rfl | omega) rfl) (ptS pt22) ?_
   refine V' (v_loadrA (lkS lk22) SrcE_tk_10 rfl) (ptS pt23)<|mv' lk8 (ptS pt24)<|mv' lk7 (ptS pt25)<|?_
   refine V' ((by first | exact v_lenL (lkS lk25) | exact v_lenO (lkS lk25))) (ptS pt26) ?_
   refine V' (v_sub (lkS lk26) lki (by omega) (by omega)) (ptS pt27) ?_
   refine V' (v_eql (lkS lk24) (lkS lk27)) (ptS pt28)<|s_callp (mp1 (lkS lk23) (mp1 (lkS lk28) mp0)) (rcheckEra_a (x:=(z[i3]).2[i4]) (last:=decide ((i4:Int)=((z[i3]).2.length:Int)-1)) ho8) (ptS pt29)<|mv' (lkS lk29) pt9<|sn'<|wr'<|mv' lk9 (ptS pt30)<|V' (v_neq (lkS lk30) lki) (ptS pt31)<|sn'<|?_
   refine cd' (lkS lk31) (fun hc9=>?_) (fun hc9=>?_)
   ·rw [if_pos hc9] at hx2
    refine wr'<|mv' lk9 (ptS pt32)<|mv' (lkS lk32) pt2<|sn'<|w_rets<|r_blk<|r_thn<|r_thn<|r_blk<|r_blk<|r_thn<|r_thn<|?_
    refine r_blk<|r_thn<|w_ret (rs1 (rr_t gt2))<|rT'<|?_
    refine ivx ?_;rw [hE,hv2,hZ,hx2,if_pos hc9,if_pos hc9]
   rw [if_neg hc9] at hx2
   refine w_skip<|n_blk<|n_seq<|w_reg<|mv' lk8 (ptS pt18)<|?_
   refine V' (v_add (lkS lk18) lki (by omega) (by omega)) (ptS pt19) ?_
   refine mv' (lkS lk19) pt8<|s_nil<|n_thn<|?_
   refine lT' (i4+1) (by (try dsimp only);exact ⟨by omega,hx2⟩)
  rw [List.drop_of_length_le (by omega)] at hx2
  rw [hZ,hx2,if_neg (by simp [erasE])] at hv2
  refine w_exit<|x_thn<|x_thn<|x_blk<|n_blk<|n_seq<|w_reg<|mv' lk6 pt63<|?_
  refine V' (v_add lk63 lki (by omega) (by omega)) pt64 ?_
  refine mv' lk64 pt6<|s_nil<|n_thn<|?_
  refine lT' (i3+1) (by (try dsimp only);exact ⟨by omega,hv2⟩)
 rw [List.drop_of_length_le (by omega)] at hv2
 rw [hv2,if_neg (by simp [firstX])] at hE
 refine w_exit<|x_thn<|x_thn<|x_blk<|n_seq<|w_seq<|wr'<|mv' lki pt10<|sn'<|w_block<|?_
 refine w_lp (ι:=Nat) (fun (i5:Nat)=>[(10,iv (i5:Int)),(2,.any)]++rn' 103 25) (fun (i5:Nat)=>[]) (fun (i5:Nat)=>i5≤l.length∧firstX linkE l=firstX linkE (l.drop i5)) (fun (i5:Nat)=>l.length-i5) (0) (by exact ⟨Nat.zero_le _,rfl⟩) ?_
 rintro i5 hi5
 try simp only [setsT,setsE,z',s',rn',la',ln',Nat.reduceAdd]
 obtain ⟨hy1,hy2⟩:=hi5
 refine w_seq<|wr'<|mv' lk10 (ptS pt33)<|V' (v_fap0 lk1) (ptS pt34)<|V' (v_loadp (lkS lk34) (hga hn rfl) gt2) (ptS pt35)<|V' (v_lenL (lkS lk35)) (ptS pt36)<|V' (v_lss (lkS lk33) (lkS lk36)) (ptS pt37)<|sn'<|?_
 refine cd' (lkS lk37) (fun hc10=>?_) (fun hc10=>?_)
 ·have hk10:i5<l.length:=by omega
  rw [firstX_at hk10] at hy2
  have ho10:=hok.2.2 _ (List.getElem_mem hk10)
  refine w_skip<|n_seq<|w_seq<|w_block<|wr'<|V' (v_fap0 lk1) (ptS pt40)<|V' (v_loadp (lkS lk40) (hga hn rfl) gt2) (ptS pt41)<|mv' lk10 (ptS pt42)<|?_
  refine V' (v_iaR (lkS lk41) (lkS lk42) lnk_len1 (nb' rfl) (by first | rfl | omega) (by omega) (by first | rfl | omega) rfl) (ptS pt43) ?_
  refine V' (v_far (lkS lk43) dp0) (ptS pt44)<|V' (v_loadr (lkS lk44) gt0) (ptS pt45)<|s_callp (mp1 (lkS lk45) mp0) (risName_a ho10.1) (ptS pt46)<|V' (v_notB (lkS lk46)) (ptS pt47)<|mv' (lkS lk47) (ptS pt48)<|?_
  refine s_splitB (gtS gt48) (ptS pt48) (ptS pt48) (fun hg118=>?_) (fun hg118=>?_)
  ·have hK:linkE l[i5]=1:=by unfold linkE;simp_all
   refine s_no (gtS gt48) (ptS pt49)<|s_no (gtS gt48) (ptS pt50)<|s_no (gtS gt48) (ptS pt51)<|s_no (gtS gt48) (ptS pt52)<|s_no (gtS gt48) (ptS pt53)<|s_no (gtS gt48) (ptS pt54)<|s_no (gtS gt48) (ptS pt55)<|s_no (gtS gt48) (ptS pt56)<|V' (v_pickT (lkS lk48) lkb) (ptS pt57)<|sn'<|w_condT (lkS lk57)<|wr'<|?_
   refine mv' lki pt2<|sn'<|w_rets<|r_blk<|r_thn<|r_thn<|r_blk<|r_thn<|w_ret (rs1 (rr_t gt2))<|rT'<|?_
   refine ivx ?_;rw [hE,hy2,if_pos (by rw [hK];simp),hK]
  refine s_do (gtS gt48)<|V' (v_fap0 lk1) (ptS pt49)<|s_do (gtS gt48)<|V' (v_loadp (lkS lk49) (hga hn rfl) gt2) (ptS pt50)<|s_do (gtS gt48)<|mv' lk10 (ptS pt51)<|s_do (gtS gt48)<|?_
  refine V' (v_iaR (lkS lk50) (lkS lk51) lnk_len1 (nb' rfl) (by first | rfl | omega) (by omega) (by first | rfl | omega) rfl) (ptS pt52) ?_
  refine s_do (gtS gt48)<|V' (v_far (lkS lk52) dp1) (ptS pt53)<|s_do (gtS gt48)<|V' (v_loadr (lkS lk53) gt0) (ptS pt54)<|s_do (gtS gt48)<|s_callp (mp1 (lkS lk54) mp0) (risName_a ho10.2) (ptS pt55)<|s_do (gtS gt48)<|V' (v_notB (lkS lk55)) (ptS pt56)<|V' (v_pickF (lkS lk48) (lkS lk56)) (ptS pt57)<|sn'<|?_
  refine w_condB (lkS lk57) (fun hc11=>?_) (fun hc11=>?_)
  ·have hK:linkE l[i5]=1:=by unfold linkE;simp_all
   refine wr'<|mv' lki pt2<|sn'<|w_rets<|r_blk<|r_thn<|r_thn<|r_blk<|r_thn<|w_ret (rs1 (rr_t gt2))<|rT'<|?_
   refine ivx ?_;rw [hE,hy2,if_pos (by rw [hK];simp),hK]
  have hK:linkE l[i5]=0:=by unfold linkE;simp_all
  rw [hK,if_neg (by simp)] at hy2
  refine w_skip<|n_blk<|n_seq<|w_reg<|mv' lk10 (ptS pt38)<|?_
  refine V' (v_add (lkS lk38) lki (by omega) (by omega)) (ptS pt39) ?_
  refine mv' (lkS lk39) pt10<|s_nil<|n_thn<|?_
  refine lT' (i5+1) (by (try dsimp only);exact ⟨by omega,hy2⟩)
 rw [List.drop_of_length_le (by omega)] at hy2
 refine w_exit<|x_thn<|x_thn<|x_blk<|n_seq<|wr'<|mv' lki pt2<|sn'<|w_rets<|w_ret (rs1 (rr_t gt2))<|rT'<|?_
 refine ivx ?_;rw [hE,hy2];rfl
end Go.Proofs.YtgjchdhdopgkkaaGreatDoor
end
section
namespace Go.Proofs.YtgjchdhdopgkkaaGreatDoor
open Go.Ab
abbrev PS:=Src×Bool
def openE (x:Era):Bool:=x.2.2.2.2.1
def addEra:List Zon→Era→List Zon
 | [],_=>[]
 | [z],x=>[(z.1,z.2++[x])]
 | z::y::l,x=>z::addEra (y::l) x
theorem addEra_snoc (l:List Zon) (z:Zon) (x:Era):addEra (l++[z]) x=l++[(z.1,z.2++[x])]:=by
 induction l with
 | nil=>rfl
 | cons a l ih =>
  cases l with
  | nil=>rfl
  | cons b l=>exact congrArg (a :: ·) ih
def ruleA:ByteArray:=bA [82,117,108,101]
def zoneA:ByteArray:=bA [90,111,110,101]
def linkA:ByteArray:=bA [76,105,110,107]
def withEra (p:Src) (x:Era):PS:=((p.1,addEra p.2.1 x,p.2.2),!openE x)
def bodyR (p:PS):RM PS :=
 if p.2=true then bindR rEra fun x=>retR (withEra p.1 x)
 else bindR rNext fun w =>
  if w=ruleA then bindR rRule fun r=>retR ((p.1.1++[r],p.1.2.1,p.1.2.2),false)
  else if w=zoneA then bindR rName fun n=>bindR rEra fun x=>retR (withEra (p.1.1,p.1.2.1++[(n,[])],p.1.2.2) x)
  else if w=linkA then bindR rName fun a=>bindR rName fun b=>retR ((p.1.1,p.1.2.1,p.1.2.2++[(a,b)]),false)
  else liftR none
def bodyT (p:PS):TS→PS×TS :=
 if p.2=true then bind2 tEra fun x=>ret2 (withEra p.1 x)
 else bind2 tNext fun w =>
  if w=ruleA then bind2 tRule fun r=>ret2 ((p.1.1++[r],p.1.2.1,p.1.2.2),false)
  else if w=zoneA then bind2 tName fun n=>bind2 tEra fun x=>ret2 (withEra (p.1.1,p.1.2.1++[(n,[])],p.1.2.2) x)
  else if w=linkA then bind2 tName fun a=>bind2 tName fun b=>ret2 ((p.1.1,p.1.2.1,p.1.2.2++[(a,b)]),false)
  else fun t=>(p,bad t)
theorem agr_body (p:PS):Agr (bodyT p) (bodyR p):=by
 unfold bodyT bodyR
 split
 ·exact agr_era.bind fun x=>Agr.ret _
 ·refine agr_next.bind fun w=>?_
  split
  ·exact agr_rule.bind fun r=>Agr.ret _
  ·split
   ·exact agr_name.bind fun n=>agr_era.bind fun x=>Agr.ret _
   ·split
    ·exact agr_name.bind fun a=>agr_name.bind fun b=>Agr.ret _
    ·exact Agr.lift (fun t h=>rfl) (fun l=>rfl)
def lineR (p:PS) (x:Ln):Option PS:=if x.2.1≠p.2 then none else match bodyR p x.2.2 with
 | some (q,[])=>some q
 | _=>none
def badT (p:PS) (x:Ln):Prop:=(bodyT p (x.2.2,false)).2.2=true∨(bodyT p (x.2.2,false)).2.1≠[]∨x.2.1≠p.2
theorem lineR_bad {p:PS}{x:Ln}(h:badT p x):lineR p x=none:=by
 unfold lineR
 by_cases hi:x.2.1=p.2
 ·rw [if_neg (by simp [hi])]
  have hA:=(agr_body p x.2.2).2
  unfold badT at h
  revert hA
  cases hb:bodyR p x.2.2 with
  | none=>intro;rfl
  | some q =>
   obtain ⟨q,l⟩:=q
   intro hA
   simp only at hA
   rw [hA] at h
   cases l with
   | nil=>simp [hi] at h
   | cons c l=>rfl
 ·rw [if_pos hi]
theorem lineR_ok {p:PS}{x:Ln}(h:¬badT p x):lineR p x=some (bodyT p (x.2.2,false)).1:=by
 unfold lineR
 unfold badT at h
 simp only [not_or,Decidable.not_not] at h
 obtain ⟨h1,h2,h3⟩:=h
 rw [if_neg (by simp [h3])]
 have hA:=(agr_body p x.2.2).2
 revert hA
 cases hb:bodyR p x.2.2 with
 | none=>intro hA;exact absurd hA h1
 | some q =>
  obtain ⟨q,l⟩:=q
  intro hA
  simp only at hA
  rw [hA] at h2 ⊢
  simp only at h2
  subst h2
  rfl
def runR:PS→List Ln→PS ⊕ Int
 | p,[]=>.inl p
 | p,x::l=>match lineR p x with
  | none=>.inr x.1
  | some q=>runR q l
def srcZ:Src:=([],[],[])
def endP (p:PS):Src×Int×Int:=if p.2=true then (srcZ,0,1) else if checkE p.1≠0 then (srcZ,0,checkE p.1) else (p.1,0,0)
def outP (l:List Ln):Src×Int×Int:=match runR (srcZ,false) l with
 | .inr n=>(srcZ,n,1)
 | .inl p=>endP p
def parseV (s:ByteArray):Src×Int×Int:=if (splitL s).2.2≠0 then (srcZ,(splitL s).2.1,(splitL s).2.2) else outP (splitL s).1
theorem runR_at {l:List Ln}{k:Nat}(h:k<l.length) (p:PS):runR p (l.drop k)=match lineR p l[k] with
  | none=>.inr l[k].1
  | some q=>runR q (l.drop (k+1)):=by
 rw [List.drop_eq_getElem_cons h,runR]
end Go.Proofs.YtgjchdhdopgkkaaGreatDoor
end
section
namespace Go.Proofs.YtgjchdhdopgkkaaGreatDoor
open Go.Ab Go.RowKit Civ
attribute [local simp] str_lt
section
theorem SrcU_sc1_1 {a0 a1 c0:AV}{l:List AV}:setCells (a0::a1::l) 1 [c0]=a0::c0::l:=rfl
theorem SrcU_sc0_1 {a0 c0:AV}{l:List AV}:setCells (a0::l) 0 [c0]=c0::l:=rfl
end
def c49:AC:=(.seq (.reg [Oo 2 (.mv (.const (.string ⟨#[]⟩)))]) (.seq (.seq (.reg [Mv 4 0,Nk 5 4,Fa 6 1 5,Ld 7 6,Mv 8 7,Of 9 8 (.mv (.tmp 0)),Of 10 8 (.nck (.tmp 9)),Of 11 8 (.fa 0 (.tmp 10)),Of 12 8 (.load false 1 (.tmp 11)),Of 13 8 (.len false (.tmp 12)),Of 14 8 (.bin .eql (.tmp 13) (Ci 0)),Oo 15 (.pick (.tmp 8) (.const (.bool true)) (.tmp 14))]) (.cond (.tmp 15) (.seq (.reg [Mv 16 0,Nk 17 16,Fa 18 1 17,⟨none,none,(.store 1 (.tmp 18) (.const (.bool true)))⟩]) (.seq (.reg [Oo 2 (.mv (.const (.string ⟨#[]⟩)))]) .ret)) .skip)) (.seq (.reg [Mv 19 0,Nk 20 19,Fa 21 0 20,Ld 22 21,Oo 23 (.ia 1 (.tmp 22) (Ci 0)),Ld 24 23,Mv 3 24]) (.seq (.reg [Mv 25 0,Mv 26 0,Nk 27 26,Fa 28 0 27,Ld 29 28,Oo 30 (.slc 1 (.tmp 29) (some (Ci 1)) none none),Nk 31 25,Fa 32 0 31,⟨none,none,(.store 1 (.tmp 32) (.tmp 30))⟩]) (.seq (.reg [Mv 33 3,Mv 2 33]) .ret)))))
theorem k49:compF Tryz.prog 49=some ⟨c49,[(.tmp 2)],34⟩:=by kernel_rfl
def c88:AC:=(.seq (.reg [Oo 8 (.mv (Ci 0))]) (.seq (.seq (.reg [Mv 11 1,Oo 12 (.len true (.tmp 11)),Mv 13 2,Mv 14 3,Oo 15 (.call (.func 68) [(.tmp 12),(.tmp 13),(.tmp 14)]),Oo 16 (.un .not (.tmp 15))]) (.cond (.tmp 16) (.seq (.reg [Mv 17 0,Nk 18 17,Fa 19 1 18,⟨none,none,(.store 1 (.tmp 19) (.const (.bool true)))⟩]) (.seq (.reg [Oo 8 (.mv (Ci 0))]) .ret)) .skip)) (.seq (.reg [Oo 9 (.mv (Ci 0))]) (.seq (.seq (.reg [Oo 10 (.mv (Ci 0))]) (.block 0 (.loop (.seq (.seq (.reg [Mv 20 10,Mv 21 1,Oo 22 (.len true (.tmp 21)),Oo 23 (.bin .lss (.tmp 20) (.tmp 22))]) (.cond (.tmp 23) .skip (.exit 0))) (.seq (.block 1 (.seq (.seq (.reg [Mv 26 1,Mv 27 10,Oo 28 (.ix (.tmp 26) (.tmp 27)),Oo 29 (.call (.func 71) [(.tmp 28)]),Oo 30 (.un .not (.tmp 29))]) (.cond (.tmp 30) (.seq (.reg [Mv 31 0,Nk 32 31,Fa 33 1 32,⟨none,none,(.store 1 (.tmp 33) (.const (.bool true)))⟩]) (.seq (.reg [Oo 8 (.mv (Ci 0))]) .ret)) .skip)) (.reg [Mv 34 9,Oo 35 (.bin .mul (Ci 10) (.tmp 34)),Mv 36 1,Mv 37 10,Oo 38 (.ix (.tmp 36) (.tmp 37)),Oo 39 (.cvi .i64 (.tmp 38)),Oo 40 (.bin .add (.tmp 35) (.tmp 39)),Oo 41 (.bin .sub (.tmp 40) (Ci 48)),Mv 9 41]))) (.reg [Mv 24 10,Oo 25 (.bin .add (.tmp 24) (Ci 1)),Mv 10 25])))))) (.seq (.reg [Mv 42 9,Mv 8 42]) .ret)))))
theorem k88:compF Tryz.prog 88=some ⟨c88,[(.tmp 8)],43⟩:=by kernel_rfl
def c52:AC:=(.seq (.reg [Oo 2 (.mv (.const (.string ⟨#[]⟩)))]) (.seq (.reg [Mv 4 0,Oo 5 (.call (.func 49) [(.tmp 4)]),Mv 3 5]) (.seq (.seq (.reg [Mv 6 3,Oo 7 (.call (.func 25) [(.tmp 6)]),Oo 8 (.un .not (.tmp 7))]) (.cond (.tmp 8) (.reg [Mv 9 0,Nk 10 9,Fa 11 1 10,⟨none,none,(.store 1 (.tmp 11) (.const (.bool true)))⟩]) .skip)) (.seq (.reg [Mv 12 3,Mv 2 12]) .ret))))
theorem k52:compF Tryz.prog 52=some ⟨c52,[(.tmp 2)],13⟩:=by kernel_rfl
def c129:AC:=(.seq (.reg [Oo 4 (.mv (Ci 0))]) (.seq (.seq (.reg [Oo 5 (.mv (Ci 0))]) (.block 0 (.loop (.seq (.seq (.reg [Mv 6 5,Oo 7 (.bin .add (.tmp 6) (Ci 3)),Mv 8 0,Oo 9 (.len true (.tmp 8)),Oo 10 (.bin .leq (.tmp 7) (.tmp 9)),Mv 11 10,Ot 12 11 (.mv (.tmp 1)),Ot 13 11 (.len true (.tmp 12)),Ot 14 11 (.bin .eql (.tmp 13) (Ci 3)),Oo 15 (.pick (.tmp 11) (.tmp 14) (.const (.bool false)))]) (.cond (.tmp 15) .skip (.exit 0))) (.seq (.block 1 (.seq (.reg [Mv 18 0,Mv 19 5,Mv 20 5,Oo 21 (.bin .add (.tmp 20) (Ci 3)),Oo 22 (.sls (.tmp 18) (some (.tmp 19)) (some (.tmp 21))),Mv 23 1,Oo 24 (.bin .eql (.tmp 22) (.tmp 23))]) (.cond (.tmp 24) (.seq (.reg [Mv 25 5,Oo 26 (.bin .quo (.tmp 25) (Ci 3)),Mv 4 26]) .ret) .skip))) (.reg [Mv 16 5,Oo 17 (.bin .add (.tmp 16) (Ci 3)),Mv 5 17])))))) (.seq (.reg [Oo 4 (.mv (.const (.int .i64 (-1))))]) .ret)))
theorem k129:compF Tryz.prog 129=some ⟨c129,[(.tmp 4)],27⟩:=by kernel_rfl
def c89:AC:=(.seq (.reg [Oo 2 (.mv (Ci 0))]) (.seq (.reg [Mv 4 0,Oo 5 (.call (.func 49) [(.tmp 4)]),Oo 6 (.call (.func 129) [(.const (.string ⟨#[74,97,110,70,101,98,77,97,114,65,112,114,77,97,121,74,117,110,74,117,108,65,117,103,83,101,112,79,99,116,78,111,118,68,101,99]⟩)),(.tmp 5)]),Mv 3 6]) (.seq (.seq (.reg [Mv 7 3,Oo 8 (.bin .lss (.tmp 7) (Ci 0))]) (.cond (.tmp 8) (.reg [Mv 9 0,Nk 10 9,Fa 11 1 10,⟨none,none,(.store 1 (.tmp 11) (.const (.bool true)))⟩]) .skip)) (.seq (.reg [Mv 12 3,Oo 13 (.bin .add (.tmp 12) (Ci 1)),Mv 2 13]) .ret))))
theorem k89:compF Tryz.prog 89=some ⟨c89,[(.tmp 2)],14⟩:=by kernel_rfl
def c130:AC:=(.seq (.reg [Oo 4 (.mv (Ci 0))]) (.seq (.reg [Mv 6 1,Oo 7 (.call (.func 129) [(.const (.string ⟨#[83,117,110,77,111,110,84,117,101,87,101,100,84,104,117,70,114,105,83,97,116]⟩)),(.tmp 6)]),Mv 5 7]) (.seq (.seq (.reg [Mv 8 5,Oo 9 (.bin .lss (.tmp 8) (Ci 0))]) (.cond (.tmp 9) (.seq (.reg [Mv 10 0,Nk 11 10,Fa 12 1 11,⟨none,none,(.store 1 (.tmp 12) (.const (.bool true)))⟩]) (.seq (.reg [Oo 4 (.mv (Ci 0))]) .ret)) .skip)) (.seq (.reg [Mv 13 5,Mv 4 13]) .ret))))
theorem k130:compF Tryz.prog 130=some ⟨c130,[(.tmp 4)],14⟩:=by kernel_rfl
def c128:AC:=(.seq (.reg [Oo 4 (.mv (Ci 0))]) (.seq (.reg [Mv 6 0,Mv 7 1,Oo 8 (.call (.func 88) [(.tmp 6),(.tmp 7),(Ci 2),(Ci 2)]),Mv 5 8]) (.seq (.seq (.reg [Mv 9 5,Oo 10 (.bin .gtr (.tmp 9) (Ci 59))]) (.cond (.tmp 10) (.reg [Mv 11 0,Nk 12 11,Fa 13 1 12,⟨none,none,(.store 1 (.tmp 13) (.const (.bool true)))⟩]) .skip)) (.seq (.reg [Mv 14 5,Mv 4 14]) .ret))))
theorem k128:compF Tryz.prog 128=some ⟨c128,[(.tmp 4)],15⟩:=by kernel_rfl
abbrev takE (t:TS):Ent:=.mk 0 90 2 [.sl t.1.length 1 false (rows strC t.1),bv t.2]
theorem takE_ltb {l:List ByteArray}{b:Bool}{n:Nat}:(Ent.mk 0 90 2 [.sl l.length 1 false (rows strC l),.v (.bool b)]).lt n=true:=by simp [Ent.lt,AV.lt,AV.ltL,str_lt]
theorem tnext_b {l:List ByteArray}{b:Bool}{id:Nat}{h:AH}(h1:h[id]?=some (takE (l,b))):ACalls Tryz.prog 49 [.ptr id 0 0] h fun x h'=>x = .ret (sv (tNext (l,b)).1)∧h'=h.set id (takE (tNext (l,b)).2):=by
 have hid:id<h.length:=(List.getElem?_eq_some_iff.1 h1).1
 refine tJ' k49 fun N hn hlt hlA hbd=>?_
 simp only [tA',AV.bdL,AV.bd,and_true,true_and] at hbd ⊢
 refine aw_heap (h1:=h.set id (.mk 0 90 2 [.sl l.length 1 false (rows strC l),bv b])++[]) (by rw [hx_self h1]) ?_
 refine wr'<|mv' lks pt2<|sn'<|w_seq<|wr'<|mv' lk0 pt4<|V' (v_nckp lk4) pt5<|V' (v_fap0 lk5) pt6<|V' (v_loadp lk6 (hx_at hid) gt1) pt7<|mv' lk7 pt8<|?_
 refine s_splitB gt8 pt8 pt8 (fun hg8=>?_) (fun hg8=>?_)
 ·have hb:b=true:=hg8
  have hT:tNext (l,b)=(⟨#[]⟩,l,true):=if_pos (.inl hb)
  refine s_no gt8 pt9<|s_no gt8 pt10<|s_no gt8 pt11<|s_no gt8 pt12<|s_no gt8 pt13<|s_no gt8 pt14<|V' (v_pickT lk8 lkb) pt15<|sn'<|w_condT lk15<|wr'<|mv' lk0 pt16<|V' (v_nckp lk16) pt17<|?_
  refine V' (v_fap0 lk17) pt18<|E' (e_store lk18 (cvl lkb rfl) (hx_at hid) rfl (nb' rfl) rfl SrcU_sc1_1 (hx_set hid)) ptn<|sn'<|wr'<|mv' lks pt2<|sn'<|w_rets<|r_thn<|w_ret (rs1 (rr_t gt2))<|?_
  exact ⟨_,_,rfl,hx_len hn,hx_lt hlt takE_ltb,rfl,by rw [hT],by rw [hT]⟩
 have hb:b=false:=by simpa using hg8
 refine s_do gt8<|mv' lk0 pt9<|s_do gt8<|V' (v_nckp lk9) pt10<|s_do gt8<|V' (v_fap0 lk10) pt11<|s_do gt8<|V' (v_loadp lk11 (hx_at hid) gt0) pt12<|s_do gt8<|V' (v_lenL lk12) pt13<|s_do gt8<|V' (v_eql lk13 lki) pt14<|V' (v_pickF lk8 lk14) pt15<|s_nil<|?_
 refine n_seq ?_
 refine cd' lk15 (fun hc1=>?_) (fun hc1=>?_)
 ·have hT:tNext (l,b)=(⟨#[]⟩,l,true):=if_pos (.inr (List.eq_nil_of_length_eq_zero (show l.length=0 by have hc1':(l.length:Int)=0:=hc1;omega)))
  refine wr'<|mv' lk0 pt16<|V' (v_nckp lk16) pt17<|V' (v_fap0 lk17) pt18<|E' (e_store lk18 (cvl lkb rfl) (hx_at hid) rfl (nb' rfl) rfl SrcU_sc1_1 (hx_set hid)) ptn<|sn'<|wr'<|mv' lks pt2<|sn'<|w_rets<|?_
  refine r_thn<|w_ret (rs1 (rr_t gt2))<|?_
  exact ⟨_,_,rfl,hx_len hn,hx_lt hlt takE_ltb,rfl,by rw [hT],by rw [hT]⟩
 have hlen:0<l.length:=by have hc1':¬(l.length:Int)=0:=hc1;omega
 have hne:l≠[]:=by intro e;rw [e] at hlen;cases hlen
 have hT:tNext (l,b)=(l[0],l.drop 1,b):=by
  cases l with
  | nil=>exact absurd rfl hne
  | cons a l=>subst hb;rfl
 refine w_skip<|n_seq<|wr'<|mv' lk0 pt19<|V' (v_nckp lk19) pt20<|V' (v_fap0 lk20) pt21<|V' (v_loadp lk21 (hx_at hid) gt0) pt22<|?_
 refine V' (v_iaR (k:=0) lk22 lki str_len1 (nb' rfl) (by first | rfl | omega) (by omega) (by first | rfl | omega) rfl) pt23 ?_
 refine V' (v_loadr lk23 gt0) pt24<|mv' lk24 pt3<|sn'<|wr'<|mv' lk0 pt25<|mv' lk0 pt26<|V' (v_nckp lk26) pt27<|V' (v_fap0 lk27) pt28<|V' (v_loadp lk28 (hx_at hid) gt0) pt29<|?_
 refine V' (v_lo (k:=1) lk29 lki str_len1 (by first | rfl | omega) (by omega) (by first | rfl | omega)) pt30 ?_
 refine V' (v_nckp lk25) pt31<|V' (v_fap0 lk31) pt32<|E' (e_store lk32 (cvl lk30 rfl) (hx_at hid) rfl (nb' rfl) rfl SrcU_sc0_1 (hx_set hid)) ptn<|sn'<|wr'<|mv' lk3 pt33<|mv' lk33 pt2<|sn'<|w_rets<|w_ret (rs1 (rr_t gt2))<|?_
 exact ⟨_,_,rfl,hx_len hn,hx_lt hlt takE_ltb,rfl,by rw [hT],by rw [hT]⟩
theorem tnext_a {t:TS}{id:Nat}{h:AH}(h1:h[id]?=some (takE t)):ACalls Tryz.prog 49 [.ptr id 0 0] h fun x h'=>x = .ret (sv (tNext t).1)∧h'=h.set id (takE (tNext t).2):=tnext_b h1
theorem digB_bd {n:Int}(h:digB n=true):48≤n∧n≤57:=by unfold digB at h;simpa using h
theorem tnum_a {s:ByteArray}{a b:Int}{t:TS}{id:Nat}{h:AH}(hb4:b≤4) (h1:h[id]?=some (takE t)):ACalls Tryz.prog 88 [.ptr id 0 0,sv s,iv a,iv b] h fun x h'=>x = .ret (iv (tNum s a b t).1)∧h'=h.set id (takE (tNum s a b t).2):=by
 obtain ⟨l,bd⟩:=t
 have hid:id<h.length:=(List.getElem?_eq_some_iff.1 h1).1
 refine tJ' k88 fun N hn hlt hlA hbd=>?_
 simp only [tA',AV.bdL,AV.bd,and_true,true_and] at hbd ⊢
 refine aw_heap (h1:=h.set id (takE (l,bd))++[]) (by rw [hx_self h1]) ?_
 refine wr'<|mv' lki pt8<|sn'<|w_seq<|wr'<|mv' lk1 pt11<|V' (v_lenS lk11) pt12<|mv' lk2 pt13<|mv' lk3 pt14<|s_callp (mp1 lk12 (mp1 lk13 (mp1 lk14 mp0))) (rlbetween_a) pt15<|V' (v_notB lk15) pt16<|?_
 refine sn' ?_
 refine w_condB lk16 (fun hc1=>?_) (fun hc1=>?_)
 ·have hw:¬wi s.size a b=true:=by simpa using hc1
  have hT:tNum s a b (l,bd)=(0,l,true):=tNum_none (if_neg (fun e=>hw e.1))
  refine wr'<|mv' lk0 pt17<|V' (v_nckp lk17) pt18<|V' (v_fap0 lk18) pt19<|E' (e_store lk19 (cvl lkb rfl) (hx_at hid) rfl (nb' rfl) rfl SrcU_sc1_1 (hx_set hid)) ptn<|sn'<|wr'<|mv' lki pt8<|sn'<|w_rets<|?_
  refine r_thn<|w_ret (rs1 (rr_t gt8))<|?_
  exact ⟨_,_,rfl,hx_len hn,hx_lt hlt takE_ltb,rfl,by rw [hT],by rw [hT]⟩
 have hw:wi s.size a b=true:=by simpa using hc1
 have hz:s.size≤4:=by unfold wi at hw;simp at hw;omega
 refine w_skip<|n_seq<|wr'<|mv' lki pt9<|sn'<|w_seq<|wr'<|mv' lki pt10<|sn'<|w_block<|?_
 refine w_lp (ι:=Nat×Int) (fun (x_:Nat×Int)=>match x_ with | ⟨k,n⟩=>[(9,iv n),(10,iv (k:Int)),(8,.any)]++rn' 20 22) (fun (x_:Nat×Int)=>match x_ with | ⟨k,n⟩=>[]) (fun (x_:Nat×Int)=>match x_ with | ⟨k,n⟩=>k≤s.size∧0≤n∧n<10 ^ k∧decL 0 (aB s)=decL n ((aB s).drop k) ∧ ∀ j (hj:j<s.size),j<k→digB s[j].toNat=true) (fun (x_:Nat×Int)=>match x_ with | ⟨k,n⟩=>s.size-k) (⟨0,0⟩) (by exact ⟨by omega,by omega,by decide,rfl,fun j hj h0=>absurd h0 (by omega)⟩) ?_
 rintro ⟨k,n⟩ hi1
 try simp only [setsT,setsE,z',s',rn',la',ln',Nat.reduceAdd]
 obtain ⟨hk1,hk2,hk3,hk4,hk5⟩:=hi1
 refine w_seq<|wr'<|mv' lk10 pt20<|mv' lk1 pt21<|V' (v_lenS lk21) pt22<|V' (v_lss lk20 lk22) pt23<|sn'<|?_
 refine cd' lk23 (fun hc2=>?_) (fun hc2=>?_)
 ·have hk:k<s.size:=by omega
  have hbb:=byte_bd s k
  have hbk:byteAt s k=s[k]:=byteAt_get hk
  have hp:(10:Int) ^ k≤1000:=by
   have:k=0∨k=1∨k=2∨k=3:=by omega
   rcases this with rfl | rfl | rfl | rfl <;> decide
  refine w_skip<|n_seq<|w_seq<|w_block<|w_seq<|wr'<|mv' lk1 pt26<|mv' lk10 pt27<|?_
  refine V' (v_ix lk26 lk27 (by omega) (by omega)) pt28 ?_
  refine s_callp (mp1 lk28 mp0) (risDigit_a hbb.1 hbb.2) pt29<|V' (v_notB lk29) pt30<|sn'<|?_
  refine w_condB lk30 (fun hc3=>?_) (fun hc3=>?_)
  ·have hd:digB s[k].toNat=false:=by rw [←hbk];simpa using hc3
   have hT:tNum s a b (l,bd)=(0,l,true):=tNum_none (if_neg (fun e=>by have:=allB_no hk hd;rw [e.2] at this;cases this))
   refine wr'<|mv' lk0 pt31<|V' (v_nckp lk31) pt32<|V' (v_fap0 lk32) pt33<|E' (e_store lk33 (cvl lkb rfl) (hx_at hid) rfl (nb' rfl) rfl SrcU_sc1_1 (hx_set hid)) ptn<|sn'<|wr'<|mv' lki pt8<|sn'<|w_rets<|?_
   refine r_thn<|r_blk<|r_thn<|r_thn<|r_blk<|r_thn<|w_ret (rs1 (rr_t gt8))<|?_
   exact ⟨_,_,rfl,hx_len hn,hx_lt hlt takE_ltb,rfl,by rw [hT],by rw [hT]⟩
  have hd:digB (byteAt s k).toNat=true:=by simpa using hc3
  have hdb:48≤((byteAt s (k:Int).toNat).toNat:Int)∧((byteAt s (k:Int).toNat).toNat:Int)≤57:=digB_bd hd
  have hdb2:=digB_bd hd
  refine w_skip<|n_seq<|w_reg<|mv' lk9 pt34<|?_
  refine V' (v_mul lki lk34 (by omega) (by omega)) pt35 ?_
  refine mv' lk1 pt36<|mv' lk10 pt37<|?_
  refine V' (v_ix lk36 lk37 (by omega) (by omega)) pt38 ?_
  refine V' (v_cvi64 lk38 (by omega) (by omega)) pt39 ?_
  refine V' (v_add lk35 lk39 (by omega) (by omega)) pt40 ?_
  refine V' (v_sub lk40 lki (by omega) (by omega)) pt41 ?_
  refine mv' lk41 pt9<|s_nil<|n_blk<|n_seq<|w_reg<|mv' lk10 pt24<|?_
  refine V' (v_add lk24 lki (by omega) (by omega)) pt25 ?_
  refine mv' lk25 pt10<|s_nil<|n_thn<|?_
  refine lT' (⟨k+1,10*n+(byteAt s k).toNat-48⟩) (by (try dsimp only);refine ⟨by omega,by omega,by rw [Int.pow_succ];omega,by rw [hk4,aB_at hk,decL],fun j hj h0=>?_⟩;rcases Nat.lt_or_ge j k with e | e;exact hk5 j hj e;obtain rfl:j=k:=(by omega);rw [←hbk];exact hd)
 have hT:tNum s a b (l,bd)=(n,l,bd):=tNum_some (by
  unfold numV
  rw [if_pos ⟨hw,allB_yes fun j hj=>hk5 j hj (by omega)⟩,hk4,aB_end (by omega)];rfl)
 refine w_exit<|x_thn<|x_thn<|x_blk<|n_seq<|wr'<|mv' lk9 pt42<|mv' lk42 pt8<|sn'<|w_rets<|w_ret (rs1 (rr_t gt8))<|?_
 exact ⟨_,_,rfl,hx_len hn,hx_lt hlt takE_ltb,rfl,by rw [hT],by rw [hT]⟩
theorem tname_a {t:TS}{id:Nat}{h:AH}(hz:(tNext t).1.size≤maxLen) (h1:h[id]?=some (takE t)):ACalls Tryz.prog 52 [.ptr id 0 0] h fun x h'=>x = .ret (sv (tName t).1)∧h'=h.set id (takE (tName t).2):=by
 have hid:id<h.length:=(List.getElem?_eq_some_iff.1 h1).1
 refine tJ' k52 fun N hn hlt hlA hbd=>?_
 simp only [tA',AV.bdL,AV.bd,and_true,true_and] at hbd ⊢
 refine aw_heap (h1:=h.set id (takE t)++[]) (by rw [hx_self h1]) ?_
 refine wr'<|mv' lks pt2<|sn'<|wr'<|mv' lk0 pt4<|s_calls (mp1 lk4 mp0) (tnext_a (hx_at hid)) (hx_set hid) pt5<|mv' lk5 pt3<|sn'<|w_seq<|w_seq<|?_
 refine w_reg<|mv' lk3 pt6<|s_callp (mp1 lk6 mp0) (risName_a hz) pt7<|V' (v_notB lk7) pt8<|sn'<|?_
 refine w_condB lk8 (fun hc1=>?_) (fun hc1=>?_)
 ·refine w_reg<|mv' lk0 pt9<|V' (v_nckp lk9) pt10<|V' (v_fap0 lk10) pt11<|E' (e_store lk11 (cvl lkb rfl) (hx_at hid) rfl (nb' rfl) rfl SrcU_sc1_1 (hx_set hid)) ptn<|sn'<|wr'<|mv' lk3 pt12<|mv' lk12 pt2<|sn'<|w_rets<|?_
  refine w_ret (rs1 (rr_t gt2)) ?_
  exact ⟨_,_,rfl,hx_len hn,hx_lt hlt takE_ltb,rfl,rfl,by unfold tName;rw [if_neg (by simpa using hc1)]⟩
 refine w_skip<|n_seq<|wr'<|mv' lk3 pt12<|mv' lk12 pt2<|sn'<|w_rets<|w_ret (rs1 (rr_t gt2))<|?_
 exact ⟨_,_,rfl,hx_len hn,hx_lt hlt takE_ltb,rfl,rfl,by unfold tName;rw [if_pos (by simpa using hc1)]⟩
theorem idxL_at {l:List ByteArray}{s:ByteArray}{d:Int}{k:Nat}(h:k<l.length):idxL (l.drop k) s (d+k)=if s=l[k] then some (d+k) else idxL (l.drop (k+1)) s (d+(k+1:Nat)):=by
 rw [List.drop_eq_getElem_cons h,idxL]
 congr 2
 push_cast;omega
theorem idxL_no {s:ByteArray} : ∀ {l:List ByteArray}{d:Int},(∀ x∈l,s≠x)→idxL l s d=none
 | [],_,_=>rfl
 | x::l,d,h=>by rw [idxL,if_neg (h x (by simp))];exact idxL_no fun y hy=>h y (by simp [hy])
theorem idxL_up {s:ByteArray} : ∀ {l:List ByteArray}{d:Int},idxL l s d=(idxL l s 0).map (· + d)
 | [],_=>rfl
 | x::l,d=>by
  rw [idxL,idxL]
  split
  ·simp
  rw [idxL_up (l:=l) (d:=d+1),idxL_up (l:=l) (d:=0+1),Option.map_map];congr 1;funext y;simp;omega
theorem threes_a {nl:List ByteArray}{all s:ByteArray}{h:AH}(hl:nl.length≤20) (hz:all.size=3*nl.length) (h3 : ∀ x∈nl,x.size=3) (hx : ∀ k (hk:k<nl.length),all.extract (3*k) (3*k+3)=nl[k]):ACalls Tryz.prog 129 [sv all,sv s] h fun x h'=>h'=h∧x = .ret (iv ((idxL nl s 0).getD (-1))):=by
 refine tI' k129 fun N hn hlt hlA hbd=>?_
 simp only [tA',AV.bdL,AV.bd,and_true,true_and] at hbd ⊢
 refine wr'<|mv' lki pt4<|sn'<|w_seq<|wr'<|mv' lki pt5<|sn'<|w_block<|?_
 refine w_lp (ι:=Nat) (fun (k:Nat)=>[(5,iv ((3*k:Nat):Int)),(4,.any)]++rn' 6 21) (fun (k:Nat)=>[]) (fun (k:Nat)=>k≤nl.length∧idxL nl s 0=idxL (nl.drop k) s (0+(k:Int))) (fun (k:Nat)=>nl.length-k) (0) (by exact ⟨Nat.zero_le _,by simp⟩) ?_
 rintro k hi1
 try simp only [setsT,setsE,z',s',rn',la',ln',Nat.reduceAdd]
 obtain ⟨hk1,hk2⟩:=hi1
 refine w_seq<|wr'<|mv' lk5 pt6<|?_
 refine V' (v_add lk6 lki (by omega) (by omega)) pt7 ?_
 refine mv' lk0 pt8<|V' (v_lenS lk8) pt9<|V' (v_leq lk7 lk9) pt10<|mv' lk10 pt11<|?_
 refine sp' gt11 pt11 pt11 (fun hg11=>?_) (fun hg11=>?_)
 ·have hk:k<nl.length:=by omega
  rw [idxL_at hk] at hk2
  refine s_do gt11<|mv' lk1 pt12<|s_do gt11<|V' (v_lenS lk12) pt13<|s_do gt11<|V' (v_eql lk13 lki) pt14<|V' (v_pickT lk11 lk14) pt15<|sn'<|?_
  refine cd' lk15 (fun hc1=>?_) (fun hc1=>?_)
  ·have he:=hx k hk
   refine w_skip<|n_seq<|w_seq<|w_block<|wr'<|mv' lk0 pt18<|mv' lk5 pt19<|mv' lk5 pt20<|?_
   refine V' (v_add lk20 lki (by omega) (by omega)) pt21 ?_
   refine V' (v_sls lk18 (oi lk19) (oi lk21) (by omega) (by omega) (by omega)) pt22 ?_
   refine mv' lk1 pt23<|V' (v_eqlS lk22 lk23) pt24<|sn'<|?_
   refine cd' lk24 (fun hc2=>?_) (fun hc2=>?_)
   ·have hc2':s=nl[k]:=by rw [←he];exact hc2.symm
    rw [if_pos hc2'] at hk2
    refine wr'<|mv' lk5 pt25<|?_
    refine V' (v_quo lk25 lki (by omega) (by omega) (by omega)) pt26 ?_
    refine mv' lk26 pt4<|sn'<|w_rets<|r_blk<|r_thn<|r_thn<|r_blk<|r_thn<|w_ret (rs1 (rr_t gt4))<|rT'<|?_
    refine ivx ?_;rw [hk2];simp
   have hc2':¬s=nl[k]:=by rw [←he];exact fun e=>hc2 e.symm
   rw [if_neg hc2'] at hk2
   refine w_skip<|n_blk<|n_seq<|w_reg<|mv' lk5 pt16<|?_
   refine V' (v_add lk16 lki (by omega) (by omega)) pt17 ?_
   refine mv' lk17 pt5<|s_nil<|n_thn<|?_
   refine lT' (k+1) (by (try dsimp only);exact ⟨by omega,by rw [hk2]⟩)
  refine w_exit<|x_thn<|x_thn<|x_blk<|n_seq<|wr'<|mv' lki pt4<|sn'<|w_rets<|w_ret (rs1 (rr_t gt4))<|rT'<|?_
  refine ivx ?_;rw [idxL_no (l:=nl) (d:=0) (fun x hx e=>hc1 (by rw [e,h3 x hx];rfl))];rfl
 refine s_no gt11 pt12<|s_no gt11 pt13<|s_no gt11 pt14<|V' (v_pickF lk11 lkb) pt15<|sn'<|w_condF lk15<|w_exit<|x_thn<|x_thn<|x_blk<|n_seq<|wr'<|?_
 refine mv' lki pt4<|sn'<|w_rets<|w_ret (rs1 (rr_t gt4))<|rT'<|?_
 refine ivx ?_;rw [List.drop_of_length_le (by omega)] at hk2;rw [hk2];rfl
def monA:ByteArray:=bA [74,97,110,70,101,98,77,97,114,65,112,114,77,97,121,74,117,110,74,117,108,65,117,103,83,101,112,79,99,116,78,111,118,68,101,99]
def dayA:ByteArray:=bA [83,117,110,77,111,110,84,117,101,87,101,100,84,104,117,70,114,105,83,97,116]
theorem mon_at : ∀ k (hk:k<monL.length),monA.extract (3*k) (3*k+3)=monL[k]:=by decide
theorem day_at : ∀ k (hk:k<dayL.length),dayA.extract (3*k) (3*k+3)=dayL[k]:=by decide
theorem mon_3 : ∀ x∈monL,x.size=3:=by decide
theorem day_3 : ∀ x∈dayL,x.size=3:=by decide
theorem idxL_bd {s:ByteArray} : ∀ {l:List ByteArray}{d n:Int},idxL l s d=some n→d≤n∧n<d+l.length
 | [],_,_,h=>by cases h
 | x::l,d,n,h=>by
  rw [idxL] at h
  split at h
  ·cases h;simp;omega
  have:=idxL_bd h;simp;omega
theorem tmonth_a {t:TS}{id:Nat}{h:AH}(h1:h[id]?=some (takE t)):ACalls Tryz.prog 89 [.ptr id 0 0] h fun x h'=>x = .ret (iv (tMonth t).1)∧h'=h.set id (takE (tMonth t).2):=by
 have hid:id<h.length:=(List.getElem?_eq_some_iff.1 h1).1
 have hM:idxL monL (tNext t).1 1=(idxL monL (tNext t).1 0).map (· + 1):=idxL_up
 obtain ⟨o,ho⟩ : ∃ o,o=idxL monL (tNext t).1 0:=⟨_,rfl⟩
 rw [←ho] at hM
 have hbd : ∀ n,o=some n→0≤n∧n<12:=fun n e=>by have:=idxL_bd (ho.symm.trans e);have h12:(monL.length:Int)=12:=rfl;omega
 refine tJ' k89 fun N hn hlt hlA hbd=>?_
 simp only [tA',AV.bdL,AV.bd,and_true,true_and] at hbd ⊢
 refine aw_heap (h1:=h.set id (takE t)++[]) (by rw [hx_self h1]) ?_
 refine wr'<|mv' lki pt2<|sn'<|wr'<|mv' lk0 pt4<|s_calls (mp1 lk4 mp0) (tnext_a (hx_at hid)) (hx_set hid) pt5<|?_
 refine s_callp (mp1 lks (mp1 lk5 mp0)) (threes_a (nl:=monL) (all:=monA) (by decide) (by decide) mon_3 mon_at) pt6 ?_
 rw [←ho]
 have hcase:(o=none) ∨ ∃ n,o=some n:=by cases o <;> simp
 have hgd : -1≤o.getD (-1)∧o.getD (-1)<12:=by rcases hcase with rfl | ⟨n,rfl⟩;exact ⟨by decide,by decide⟩;have:=hbd n rfl;exact ⟨by simp;omega,by simp;omega⟩
 refine mv' lk6 pt3<|sn'<|w_seq<|wr'<|mv' lk3 pt7<|V' (v_lss lk7 lki) pt8<|sn'<|?_
 refine cd' lk8 (fun hc1=>?_) (fun hc1=>?_)
 ·refine w_reg<|mv' lk0 pt9<|V' (v_nckp lk9) pt10<|V' (v_fap0 lk10) pt11<|E' (e_store lk11 (cvl lkb rfl) (hx_at hid) rfl (nb' rfl) rfl SrcU_sc1_1 (hx_set hid)) ptn<|sn'<|wr'<|mv' lk3 pt12<|?_
  refine V' (v_add lk12 lki (by omega) (by omega)) pt13 ?_
  refine mv' lk13 pt2<|sn'<|w_rets<|w_ret (rs1 (rr_t gt2))<|?_
  have ho2:o=none:=by rcases hcase with e | ⟨n,rfl⟩;exact e;have:=hbd n rfl;simp at hc1;omega
  have hT:tMonth t=(0,bad (tNext t).2):=by unfold tMonth;rw [hM,ho2];rfl
  exact ⟨_,_,rfl,hx_len hn,hx_lt hlt takE_ltb,rfl,by rw [hT,ho2];rfl,by rw [hT]⟩
 refine w_skip<|n_seq<|wr'<|mv' lk3 pt12<|?_
 refine V' (v_add lk12 lki (by omega) (by omega)) pt13 ?_
 refine mv' lk13 pt2<|sn'<|w_rets<|w_ret (rs1 (rr_t gt2))<|?_
 obtain ⟨n,rfl⟩ : ∃ n,o=some n:=by rcases hcase with rfl | e;exact absurd (by decide:(-1:Int)<0) hc1;exact e
 have hT:tMonth t=(n+1,(tNext t).2):=by unfold tMonth;rw [hM];rfl
 exact ⟨_,_,rfl,hx_len hn,hx_lt hlt takE_ltb,rfl,by rw [hT];rfl,by rw [hT]⟩
theorem tweek_a {s:ByteArray}{t:TS}{id:Nat}{h:AH}(h1:h[id]?=some (takE t)):ACalls Tryz.prog 130 [.ptr id 0 0,sv s] h fun x h'=>x = .ret (iv (tWeek s t).1)∧h'=h.set id (takE (tWeek s t).2):=by
 have hid:id<h.length:=(List.getElem?_eq_some_iff.1 h1).1
 obtain ⟨o,ho⟩ : ∃ o,o=idxL dayL s 0:=⟨_,rfl⟩
 have hbd : ∀ n,o=some n→0≤n∧n<7:=fun n e=>by have:=idxL_bd (ho.symm.trans e);have h7:(dayL.length:Int)=7:=rfl;omega
 refine tJ' k130 fun N hn hlt hlA hbd=>?_
 simp only [tA',AV.bdL,AV.bd,and_true,true_and] at hbd ⊢
 refine aw_heap (h1:=h.set id (takE t)++[]) (by rw [hx_self h1]) ?_
 refine wr'<|mv' lki pt4<|sn'<|wr'<|mv' lk1 pt6<|?_
 refine s_callp (mp1 lks (mp1 lk6 mp0)) (threes_a (nl:=dayL) (all:=dayA) (by decide) (by decide) day_3 day_at) pt7 ?_
 rw [←ho]
 have hcase:(o=none) ∨ ∃ n,o=some n:=by cases o <;> simp
 refine mv' lk7 pt5<|sn'<|w_seq<|wr'<|mv' lk5 pt8<|V' (v_lss lk8 lki) pt9<|sn'<|?_
 refine cd' lk9 (fun hc1=>?_) (fun hc1=>?_)
 ·refine wr'<|mv' lk0 pt10<|V' (v_nckp lk10) pt11<|V' (v_fap0 lk11) pt12<|E' (e_store lk12 (cvl lkb rfl) (hx_at hid) rfl (nb' rfl) rfl SrcU_sc1_1 (hx_set hid)) ptn<|sn'<|wr'<|mv' lki pt4<|sn'<|w_rets<|?_
  refine r_thn<|w_ret (rs1 (rr_t gt4))<|?_
  have ho2:o=none:=by rcases hcase with e | ⟨n,rfl⟩;exact e;have:=hbd n rfl;simp at hc1;omega
  have hT:tWeek s t=(0,bad t):=by unfold tWeek;rw [←ho,ho2]
  exact ⟨_,_,rfl,hx_len hn,hx_lt hlt takE_ltb,rfl,by rw [hT],by rw [hT]⟩
 refine w_skip<|n_seq<|wr'<|mv' lk5 pt13<|mv' lk13 pt4<|sn'<|w_rets<|w_ret (rs1 (rr_t gt4))<|?_
 obtain ⟨n,rfl⟩ : ∃ n,o=some n:=by rcases hcase with rfl | e;exact absurd (by decide:(-1:Int)<0) hc1;exact e
 have hT:tWeek s t=(n,t):=by unfold tWeek;rw [←ho]
 exact ⟨_,_,rfl,hx_len hn,hx_lt hlt takE_ltb,rfl,by rw [hT];rfl,by rw [hT]⟩
theorem tsix_a {s:ByteArray}{t:TS}{id:Nat}{h:AH}(h1:h[id]?=some (takE t)):ACalls Tryz.prog 128 [.ptr id 0 0,sv s] h fun x h'=>x = .ret (iv (tSix s t).1)∧h'=h.set id (takE (tSix s t).2):=by
 have hid:id<h.length:=(List.getElem?_eq_some_iff.1 h1).1
 refine tJ' k128 fun N hn hlt hlA hbd=>?_
 simp only [tA',AV.bdL,AV.bd,and_true,true_and] at hbd ⊢
 refine aw_heap (h1:=h.set id (takE t)++[]) (by rw [hx_self h1]) ?_
 refine wr'<|mv' lki pt4<|sn'<|wr'<|mv' lk0 pt6<|mv' lk1 pt7<|?_
 refine s_calls (mp1 lk6 (mp1 lk7 (mp1 lki (mp1 lki mp0)))) (tnum_a (by omega) (hx_at hid)) (hx_set hid) pt8 ?_
 refine mv' lk8 pt5<|sn'<|w_seq<|wr'<|mv' lk5 pt9<|V' (v_gtr lk9 lki) pt10<|sn'<|?_
 refine cd' lk10 (fun hc1=>?_) (fun hc1=>?_)
 ·refine w_reg<|mv' lk0 pt11<|V' (v_nckp lk11) pt12<|V' (v_fap0 lk12) pt13<|E' (e_store lk13 (cvl lkb rfl) (hx_at hid) rfl (nb' rfl) rfl SrcU_sc1_1 (hx_set hid)) ptn<|sn'<|wr'<|mv' lk5 pt14<|mv' lk14 pt4<|sn'<|w_rets<|?_
  refine w_ret (rs1 (rr_t gt4)) ?_
  exact ⟨_,_,rfl,hx_len hn,hx_lt hlt takE_ltb,rfl,rfl,by unfold tSix;rw [if_pos (by omega)]⟩
 refine w_skip<|n_seq<|wr'<|mv' lk5 pt14<|mv' lk14 pt4<|sn'<|w_rets<|w_ret (rs1 (rr_t gt4))<|?_
 exact ⟨_,_,rfl,hx_len hn,hx_lt hlt takE_ltb,rfl,rfl,by unfold tSix;rw [if_neg (by omega)]⟩
end Go.Proofs.YtgjchdhdopgkkaaGreatDoor
end
section
namespace Go.Proofs.YtgjchdhdopgkkaaGreatDoor
open Go.Ab Go.RowKit Civ
attribute [local simp] str_lt
section
theorem SrcV_Span_27 {τ:Operand→AV}{y0:Operand}{x0_0:AV}(h0:cellsV (τ y0)=some [x0_0]) (l0:[x0_0].all leaf=true):fillAV τ [(0,1,y0)] [(.v (.string ⟨#[]⟩))]=some [x0_0]:=by
 simp only [fillAV,h0,l0]
 rfl
theorem SrcV_tk_1 {a0:AV}{l:List AV}:(a0::l).take 1=[a0]:=rfl
theorem SrcV_sc1_1 {a0 a1 c0:AV}{l:List AV}:setCells (a0::a1::l) 1 [c0]=a0::c0::l:=rfl
theorem SrcV_Form_17 {τ:Operand→AV}{y0 y1:Operand}{x0_0 x1_0:AV}(h0:cellsV (τ y0)=some [x0_0]) (l0:[x0_0].all leaf=true) (h1:cellsV (τ y1)=some [x1_0]) (l1:[x1_0].all leaf=true):fillAV τ [(0,1,y0),(1,1,y1)] [(.v (.int .i64 0)),(.v (.int .i64 0)),(.v (.int .i64 0))]=some [x0_0,x1_0,(.v (.int .i64 0))]:=by
 simp only [fillAV,h0,l0,h1,l1]
 rfl
theorem SrcV_sc0_3 {a0 a1 a2 c0 c1 c2:AV}{l:List AV}:setCells (a0::a1::a2::l) 0 [c0,c1,c2]=c0::c1::c2::l:=rfl
theorem SrcV_tk0_3 {a0 a1 a2:AV}{l:List AV}:((a0::a1::a2::l).drop 0).take 3=[a0,a1,a2]:=rfl
theorem SrcV_Form_45 {τ:Operand→AV}{y0 y1 y2:Operand}{x0_0 x1_0 x2_0:AV}(h0:cellsV (τ y0)=some [x0_0]) (l0:[x0_0].all leaf=true) (h1:cellsV (τ y1)=some [x1_0]) (l1:[x1_0].all leaf=true) (h2:cellsV (τ y2)=some [x2_0]) (l2:[x2_0].all leaf=true):fillAV τ [(0,1,y0),(1,1,y1),(2,1,y2)] [(.v (.int .i64 0)),(.v (.int .i64 0)),(.v (.int .i64 0))]=some [x0_0,x1_0,x2_0]:=by
 simp only [fillAV,h0,l0,h1,l1,h2,l2]
 rfl
theorem SrcV_sc0_1 {a0 c0:AV}{l:List AV}:setCells (a0::l) 0 [c0]=c0::l:=rfl
theorem SrcV_Form_58 {τ:Operand→AV}{y0 y1:Operand}{x0_0 x1_0:AV}(h0:cellsV (τ y0)=some [x0_0]) (l0:[x0_0].all leaf=true) (h1:cellsV (τ y1)=some [x1_0]) (l1:[x1_0].all leaf=true):fillAV τ [(0,1,y0),(2,1,y1)] [(.v (.int .i64 0)),(.v (.int .i64 0)),(.v (.int .i64 0))]=some [x0_0,(.v (.int .i64 0)),x1_0]:=by
 simp only [fillAV,h0,l0,h1,l1]
 rfl
end
def c91:AC:=(.seq (.reg [Oo 2 (.new 46 3 [(iv 0),(iv 0),(iv 0)])]) (.seq (.reg [Mv 5 0,Oo 6 (.call (.func 49) [(.tmp 5)]),Mv 3 6]) (.seq (.seq (.reg [Mv 7 3,Oo 8 (.len true (.tmp 7)),Oo 9 (.bin .geq (.tmp 8) (Ci 4)),Mv 10 9,Ot 11 10 (.mv (.tmp 3)),Ot 12 10 (.sls (.tmp 11) none (some (Ci 4))),Ot 13 10 (.bin .eql (.tmp 12) (.const (.string ⟨#[108,97,115,116]⟩))),Oo 14 (.pick (.tmp 10) (.tmp 13) (.const (.bool false)))]) (.cond (.tmp 14) (.seq (.reg [Mv 15 0,Mv 16 3,Oo 17 (.sls (.tmp 16) (some (Ci 4)) none),Oo 18 (.call (.func 130) [(.tmp 15),(.tmp 17)]),Oo 19 (.build [(iv 0),(iv 0),(iv 0)] [(0,(1,(Ci 2))),(1,(1,(.tmp 18)))]),⟨none,none,(.store 3 (.tmp 2) (.tmp 19))⟩]) .ret) .skip)) (.seq (.seq (.reg [Mv 20 3,Oo 21 (.len true (.tmp 20)),Oo 22 (.bin .gtr (.tmp 21) (Ci 5)),Mv 23 22,Ot 24 23 (.mv (.tmp 3)),Ot 25 23 (.ix (.tmp 24) (Ci 4)),Ot 26 23 (.bin .eql (.tmp 25) (.const (.int .u8 61))),Oo 27 (.pick (.tmp 23) (.tmp 26) (.const (.bool false))),Mv 28 27,Ot 29 28 (.mv (.tmp 3)),Ot 30 28 (.ix (.tmp 29) (Ci 3)),Ot 31 28 (.bin .eql (.tmp 30) (.const (.int .u8 62))),Ot 32 28 (.mv (.tmp 31)),Of 33 32 (.mv (.tmp 3)),Of 34 32 (.ix (.tmp 33) (Ci 3)),Of 35 32 (.bin .eql (.tmp 34) (.const (.int .u8 60))),Ot 36 28 (.pick (.tmp 32) (.const (.bool true)) (.tmp 35)),Oo 37 (.pick (.tmp 28) (.tmp 36) (.const (.bool false)))]) (.cond (.tmp 37) (.seq (.drwU [[],[0],[0],[],[0,1,2,3],[0,1,2,3,4],[0,1,2,3,4],[],[],[0,1,2,3,4,5,6,7,8],[]] [Mv 38 0,Mv 39 3,Oo 40 (.sls (.tmp 39) none (some (Ci 3))),Oo 41 (.call (.func 130) [(.tmp 38),(.tmp 40)]),Mv 42 0,Mv 43 3,Oo 44 (.sls (.tmp 43) (some (Ci 5)) none),Oo 45 (.call (.func 88) [(.tmp 42),(.tmp 44),(Ci 1),(Ci 2)]),Oo 46 (.build [(iv 0),(iv 0),(iv 0)] [(0,(1,(Ci 3))),(1,(1,(.tmp 41))),(2,(1,(.tmp 45)))]),Oo 4 (.new 46 3 [(iv 0),(iv 0),(iv 0)]),⟨none,none,(.store 3 (.tmp 4) (.tmp 46))⟩]) (.seq (.seq (.reg [Mv 47 3,Oo 48 (.ix (.tmp 47) (Ci 3)),Oo 49 (.bin .eql (.tmp 48) (.const (.int .u8 60)))]) (.cond (.tmp 49) (.reg [Fa 50 0 4,⟨none,none,(.store 1 (.tmp 50) (Ci 4))⟩]) .skip)) (.seq (.reg [Oo 51 (.load true 3 (.tmp 4)),⟨none,none,(.store 3 (.tmp 2) (.tmp 51))⟩]) .ret))) .skip)) (.seq (.reg [Mv 52 0,Mv 53 3,Oo 54 (.call (.func 88) [(.tmp 52),(.tmp 53),(Ci 1),(Ci 2)]),Oo 55 (.build [(iv 0),(iv 0),(iv 0)] [(0,(1,(Ci 1))),(2,(1,(.tmp 54)))]),⟨none,none,(.store 3 (.tmp 2) (.tmp 55))⟩]) .ret)))))
theorem k91:compF Tryz.prog 91=some ⟨c91,[(.cell 2 true 3)],56⟩:=by kernel_rfl
def c87:AC:=(.seq (.reg [Oo 4 (.mv (Ci 0))]) (.seq (.seq (.reg [Mv 9 1,Oo 10 (.bin .eql (.tmp 9) (.const (.string ⟨#[48]⟩)))]) (.cond (.tmp 10) (.seq (.reg [Oo 4 (.mv (Ci 0))]) .ret) .skip)) (.seq (.reg [Oo 5 (.mv (.const (.slice none 0 0)))]) (.seq (.reg [Oo 6 (.mv (Ci 0))]) (.seq (.seq (.reg [Oo 7 (.mv (Ci 0))]) (.block 0 (.loop (.seq (.seq (.reg [Mv 11 7,Mv 12 1,Oo 13 (.len true (.tmp 12)),Oo 14 (.bin .leq (.tmp 11) (.tmp 13))]) (.cond (.tmp 14) .skip (.exit 0))) (.seq (.block 1 (.seq (.reg [Mv 17 7,Mv 18 1,Oo 19 (.len true (.tmp 18)),Oo 20 (.bin .eql (.tmp 17) (.tmp 19)),Mv 21 20,Of 22 21 (.mv (.tmp 1)),Of 23 21 (.mv (.tmp 7)),Of 24 21 (.ix (.tmp 22) (.tmp 23)),Of 25 21 (.bin .eql (.tmp 24) (.const (.int .u8 58))),Oo 26 (.pick (.tmp 21) (.const (.bool true)) (.tmp 25))]) (.cond (.tmp 26) (.seq (.reg [Mv 27 5,Mv 28 1,Mv 29 6,Mv 30 7,Oo 31 (.sls (.tmp 28) (some (.tmp 29)) (some (.tmp 30))),Oo 32 (.lit 9 1 1 [Ss] [(0,(1,(.tmp 31)))]),Oo 33 (.app 9 1 16 (.tmp 27) (.tmp 32)),Mv 5 33]) (.reg [Mv 34 7,Oo 35 (.bin .add (.tmp 34) (Ci 1)),Mv 6 35])) .skip))) (.reg [Mv 15 7,Oo 16 (.bin .add (.tmp 15) (Ci 1)),Mv 7 16])))))) (.seq (.seq (.reg [Mv 36 5,Oo 37 (.len false (.tmp 36)),Oo 38 (.bin .neq (.tmp 37) (Ci 2)),Mv 39 38,Ot 40 39 (.mv (.tmp 5)),Ot 41 39 (.len false (.tmp 40)),Ot 42 39 (.bin .neq (.tmp 41) (Ci 3)),Oo 43 (.pick (.tmp 39) (.tmp 42) (.const (.bool false)))]) (.cond (.tmp 43) (.seq (.reg [Mv 44 0,Nk 45 44,Fa 46 1 45,⟨none,none,(.store 1 (.tmp 46) (.const (.bool true)))⟩]) (.seq (.reg [Oo 4 (.mv (Ci 0))]) .ret)) .skip)) (.seq (.drwU [[],[0],[0],[0],[],[],[0,1,2,3,4,5],[0,1,2,3,4,5,6],[0,1,2,3,4,5,6],[0,1,2,3,4,5,6],[5],[5],[],[]] [Mv 47 0,Mv 48 5,Oo 49 (.ia 1 (.tmp 48) (Ci 0)),Ld 50 49,Oo 51 (.call (.func 88) [(.tmp 47),(.tmp 50),(Ci 1),(Ci 2)]),Oo 52 (.bin .mul (Ci 3600) (.tmp 51)),Mv 53 0,Mv 54 5,Oo 55 (.ia 1 (.tmp 54) (Ci 1)),Ld 56 55,Oo 57 (.call (.func 128) [(.tmp 53),(.tmp 56)]),Oo 58 (.bin .mul (Ci 60) (.tmp 57)),Oo 59 (.bin .add (.tmp 52) (.tmp 58)),Mv 8 59]) (.seq (.seq (.reg [Mv 60 5,Oo 61 (.len false (.tmp 60)),Oo 62 (.bin .eql (.tmp 61) (Ci 3))]) (.cond (.tmp 62) (.reg [Mv 63 8,Mv 64 0,Mv 65 5,Oo 66 (.ia 1 (.tmp 65) (Ci 2)),Ld 67 66,Oo 68 (.call (.func 128) [(.tmp 64),(.tmp 67)]),Oo 69 (.bin .add (.tmp 63) (.tmp 68)),Mv 8 69]) .skip)) (.seq (.reg [Mv 70 8,Mv 4 70]) .ret)))))))))
theorem k87:compF Tryz.prog 87=some ⟨c87,[(.tmp 4)],71⟩:=by kernel_rfl
def c90:AC:=(.seq (.reg [Oo 4 (.mv (Ci 0)),Oo 5 (.mv (Ci 0))]) (.seq (.reg [Mv 9 0,Oo 10 (.call (.func 49) [(.tmp 9)]),Mv 6 10]) (.seq (.reg [Mv 11 1,Mv 7 11]) (.seq (.seq (.reg [Mv 12 6,Oo 13 (.bin .neq (.tmp 12) (.const (.string ⟨#[]⟩)))]) (.cond (.tmp 13) (.seq (.seq (.reg [Oo 8 (.mv (Ci 1))]) (.block 0 (.loop (.seq (.seq (.reg [Mv 14 8,Oo 15 (.bin .leq (.tmp 14) (Ci 3))]) (.cond (.tmp 15) .skip (.exit 0))) (.seq (.block 1 (.seq (.drw [Mv 18 6,Mv 19 6,Oo 20 (.len true (.tmp 19)),Oo 21 (.bin .sub (.tmp 20) (Ci 1)),Oo 22 (.ix (.tmp 18) (.tmp 21)),Mv 23 8,Oo 24 (.ix (.const (.string ⟨#[63,119,115,117]⟩)) (.tmp 23)),Oo 25 (.bin .eql (.tmp 22) (.tmp 24))] [] []) (.cond (.tmp 25) (.reg [Mv 26 8,Mv 7 26]) .skip))) (.reg [Mv 16 8,Oo 17 (.bin .add (.tmp 16) (Ci 1)),Mv 8 17])))))) (.seq (.reg [Mv 27 6,Mv 28 6,Oo 29 (.len true (.tmp 28)),Oo 30 (.bin .sub (.tmp 29) (Ci 1)),Oo 31 (.ix (.tmp 27) (.tmp 30)),Oo 32 (.call (.func 71) [(.tmp 31)]),Oo 33 (.un .not (.tmp 32))]) (.cond (.tmp 33) (.seq (.seq (.drw [Mv 34 6,Mv 35 6,Oo 36 (.len true (.tmp 35)),Oo 37 (.bin .sub (.tmp 36) (Ci 1)),Oo 38 (.ix (.tmp 34) (.tmp 37)),Mv 39 7,Oo 40 (.ix (.const (.string ⟨#[63,119,115,117]⟩)) (.tmp 39)),Oo 41 (.bin .neq (.tmp 38) (.tmp 40))] [] []) (.cond (.tmp 41) (.reg [Mv 42 0,Nk 43 42,Fa 44 1 43,⟨none,none,(.store 1 (.tmp 44) (.const (.bool true)))⟩]) .skip)) (.reg [Mv 45 6,Mv 46 6,Oo 47 (.len true (.tmp 46)),Oo 48 (.bin .sub (.tmp 47) (Ci 1)),Oo 49 (.sls (.tmp 45) none (some (.tmp 48))),Mv 6 49])) .skip))) .skip)) (.seq (.reg [Mv 50 0,Mv 51 6,Oo 52 (.call (.func 87) [(.tmp 50),(.tmp 51)]),Mv 53 7,Mv 4 52,Mv 5 53]) .ret)))))
theorem k90:compF Tryz.prog 90=some ⟨c90,[(.tmp 4),(.tmp 5)],54⟩:=by kernel_rfl
theorem decL_bd : ∀ {l:Bs}{n:Int},(∀ c∈l,digB c.toNat=true)→0≤n→0≤decL n l∧decL n l+1≤(n+1)*10 ^ l.length
 | [],n,h,h0=>by simp [decL];omega
 | c::l,n,h,h0=>by
  have hd:=digB_bd (h c (by simp))
  obtain ⟨i1,i2⟩:=decL_bd (l:=l) (n:=10*n+c.toNat-48) (fun x hx=>h x (by simp [hx])) (by omega)
  refine ⟨i1,Int.le_trans i2 ?_⟩
  rw [List.length_cons,Int.pow_succ,Int.mul_comm (10 ^ l.length) 10,←Int.mul_assoc]
  exact Int.mul_le_mul_of_nonneg_right (by omega) (by exact_mod_cast Nat.zero_le (10 ^ l.length))
theorem numV_bd {s:ByteArray}{a b n:Int}(h:numV s a b=some n) (hb:b≤4):0≤n∧n<10000∧s.size≤4:=by
 obtain ⟨h1,h2,rfl⟩:=numV_some h
 have hz:s.size≤4:=by unfold wi at h1;simp at h1;omega
 have hl:(aB s).length≤4:=by rw [aB_len];exact hz
 have:=decL_bd (l:=aB s) (n:=0) (fun c hc=>allB_mem (l:=aB s) h2 hc) (by omega)
 have hp:(10:Int) ^ (aB s).length≤10000:=by
  obtain ⟨m,hm⟩ : ∃ m,m=(aB s).length:=⟨_,rfl⟩
  rw [←hm] at hl ⊢
  have:m=0∨m=1∨m=2∨m=3∨m=4:=by omega
  rcases this with rfl | rfl | rfl | rfl | rfl <;> decide
 omega
theorem tNum_bd {s:ByteArray}{a b:Int}{t:TS}(hb:b≤4):0≤(tNum s a b t).1∧(tNum s a b t).1<10000:=by
 unfold tNum
 split
 ·rename_i n hn;have:=numV_bd hn hb;exact ⟨this.1,this.2.1⟩
 show (0:Int)≤0∧(0:Int)<10000;decide
theorem tSix_bd {s:ByteArray}{t:TS}:0≤(tSix s t).1∧(tSix s t).1<10000:=tNum_bd (by omega)
theorem tSpanL_two {l:List ByteArray}{t:TS}(h:l.length=2):tSpanL (l.map aB) t=(3600*(tNum l[0] 1 2 t).1+60*(tSix l[1] (tNum l[0] 1 2 t).2).1,(tSix l[1] (tNum l[0] 1 2 t).2).2):=by
 match l,h with
 | [a,b],_=>rfl
theorem tSpanL_three {l:List ByteArray}{t:TS}(h:l.length=3):tSpanL (l.map aB) t=(3600*(tNum l[0] 1 2 t).1+60*(tSix l[1] (tNum l[0] 1 2 t).2).1+(tSix l[2] (tSix l[1] (tNum l[0] 1 2 t).2).2).1,(tSix l[2] (tSix l[1] (tNum l[0] 1 2 t).2).2).2):=by
 match l,h with
 | [a,b,c],_=>rfl
theorem tSpanL_bad {l:List Bs}{t:TS}(h2:l.length≠2) (h3:l.length≠3):tSpanL l t=(0,bad t):=by
 unfold tSpanL
 split
 ·exact absurd rfl h2
 ·exact absurd rfl h3
 rfl
set_option maxHeartbeats 1000000 in
theorem tspan_a {s:ByteArray}{t:TS}{id:Nat}{h:AH}(hz:s.size≤24) (h1:h[id]?=some (takE t)):ACalls Tryz.prog 87 [.ptr id 0 0,sv s] h fun x h'=>x = .ret (iv (tSpan s t).1)∧h'=h.set id (takE (tSpan s t).2):=by
 have hid:id<h.length:=(List.getElem?_eq_some_iff.1 h1).1
 refine tJ' k87 fun N hn hlt hlA hbd=>?_
 simp only [tA',AV.bdL,AV.bd,and_true,true_and] at hbd ⊢
 refine aw_heap (h1:=h.set id (takE t)++[]) (by rw [hx_self h1]) ?_
 refine wr'<|mv' lki pt4<|sn'<|w_seq<|wr'<|mv' lk1 pt9<|V' (v_eqlS lk9 lks) pt10<|sn'<|?_
 refine cd' lk10 (fun hc1=>?_) (fun hc1=>?_)
 ·have hT:tSpan s t=(0,t):=if_pos hc1
  refine wr'<|mv' lki pt4<|sn'<|w_rets<|r_thn<|w_ret (rs1 (rr_t gt4))<|?_
  exact ⟨_,_,rfl,hx_len hn,hx_lt hlt takE_ltb,rfl,by rw [hT],by rw [hT]⟩
 have hT0:tSpan s t=tSpanL (cutC 58 (aB s)) t:=if_neg hc1
 refine w_skip<|n_seq<|wr'<|mv' lkn pt5<|s_nil<|n_seqw (ALe.own0' (st':=1) (ty:=9) gt5 (hl0 (hx_len hn)) pt5 ha0)<|wr'<|mv' lki pt6<|sn'<|w_seq<|w_seq<|?_
 refine w_reg<|mv' lki pt7<|sn'<|w_block<|?_
 refine w_lp (ι:=Nat×Nat×List ByteArray×Nat) (fun (x_:Nat×Nat×List ByteArray×Nat)=>match x_ with | ⟨f,i,ps,v⟩=>[(5,.own (N+0) v ps.length),(6,iv (f:Int)),(7,iv (i:Int))]++rn' 11 25) (fun (x_:Nat×Nat×List ByteArray×Nat)=>match x_ with | ⟨f,i,ps,v⟩=>[(0,.mk v 9 1 (rows strC ps))]) (fun (x_:Nat×Nat×List ByteArray×Nat)=>match x_ with | ⟨f,i,ps,v⟩=>i≤s.size+1∧f≤i∧ps.length≤i∧(i≤s.size→clean 58 s f i∧cutC 58 (aB s)=ps.map aB++cutC 58 ((aB s).drop f))∧(i=s.size+1→cutC 58 (aB s)=ps.map aB)) (fun (x_:Nat×Nat×List ByteArray×Nat)=>match x_ with | ⟨f,i,ps,v⟩=>s.size+1-i) (⟨0,0,[],0⟩) (by exact ⟨by omega,by omega,by simp,fun _=>⟨clean_self,rfl⟩,fun h=>by omega⟩) ?_
 rintro ⟨f,i,ps,v⟩ hi1
 try simp only [setsT,setsE,z',s',rn',la',ln',Nat.reduceAdd]
 obtain ⟨hk1,hk2,hk3,hk4,hk5⟩:=hi1
 refine w_seq<|wr'<|mv' lk7 pt11<|mv' lk1 pt12<|V' (v_lenS lk12) pt13<|V' (v_leq lk11 lk13) pt14<|sn'<|?_
 refine cd' lk14 (fun hc2=>?_) (fun hc2=>?_)
 ·have hi:i≤s.size:=by omega
  obtain ⟨hk6,hk7⟩:=hk4 hi
  refine w_skip<|n_seq<|w_seq<|w_block<|wr'<|mv' lk7 pt17<|mv' lk1 pt18<|V' (v_lenS lk18) pt19<|V' (v_eql lk17 lk19) pt20<|mv' lk20 pt21<|?_
  refine sp' gt21 pt21 pt21 (fun hg21=>?_) (fun hg21=>?_)
  ·have hie:i=s.size:=by omega
   have hseg:cutC 58 (aB s)=(ps++[s.extract f i]).map aB:=by rw [hk7,cutC_last hk6 hk2 hie];simp
   refine s_no gt21 pt22<|s_no gt21 pt23<|s_no gt21 pt24<|s_no gt21 pt25<|V' (v_pickT lk21 lkb) pt26<|sn'<|w_condT lk26<|wr'<|mv' lk5 pt27<|mv' lk1 pt28<|mv' lk6 pt29<|mv' lk7 pt30<|?_
   refine V' (v_sls lk28 (oi lk29) (oi lk30) (by omega) (by omega) (by omega)) pt31 ?_
   refine E' (e_lit (SrcV_Span_27 (cvl lk31 rfl) rfl) (hl1 (hx_len hn)) ha1) pt32 ?_
   refine E' (e_app (sc_own lk32 (hga (hx_len hn) rfl) rfl SrcV_tk_1 (nb' rfl)) lk27 (hga (hx_len hn) rfl) (str_len _) (by omega) rfl (hs0 (hx_len hn))) pt33 ?_
   refine mv' lk33 pt5<|sn'<|w_reg<|mv' lk7 pt34<|?_
   refine V' (v_add lk34 lki (by omega) (by omega)) pt35 ?_
   refine mv' lk35 pt6<|s_nil<|n_blk<|n_seq<|w_reg<|mv' lk7 pt15<|?_
   refine V' (v_add lk15 lki (by omega) (by omega)) pt16 ?_
   refine mv' lk16 pt7<|s_nil<|n_thn<|?_
   refine lU' (⟨i+1,i+1,ps++[s.extract f i],v+1⟩) (by (try dsimp only);exact ⟨by omega,by omega,by simp;omega,fun h=>by omega,fun _=>hseg⟩) (by (try dsimp only);(try simp only [setsT,setsE,z',s',rn',la',ln',Nat.reduceAdd]);exact bkE' 1 (hx_len hn) (hx_lt hlt takE_ltb) (by repeat (first | exact wk0 | refine wka ?_ | refine wk1 rfl ?_ | refine wk1 (by first | rfl | exact ivx (by omega) | (simp;done)) ?_)) (by simp only [rows_app,rows_one,strC];rfl))
  have hilt:i<s.size:=by omega
  refine s_do gt21<|mv' lk1 pt22<|s_do gt21<|mv' lk7 pt23<|s_do gt21<|?_
  refine V' (v_ix lk22 lk23 (by omega) (by omega)) pt24 ?_
  refine s_do gt21<|V' (v_eql lk24 lki) pt25<|V' (v_pickF lk21 lk25) pt26<|sn'<|?_
  refine cd' lk26 (fun hc3=>?_) (fun hc3=>?_)
  ·have hx:byteAt s i=58:=byte_eq (n:=58) (by omega) hc3
   have hseg:cutC 58 (aB s)=(ps++[s.extract f i]).map aB++cutC 58 ((aB s).drop (i+1)):=by rw [hk7,cutC_seg hk6 hk2 hilt hx];simp
   refine wr'<|mv' lk5 pt27<|mv' lk1 pt28<|mv' lk6 pt29<|mv' lk7 pt30<|?_
   refine V' (v_sls lk28 (oi lk29) (oi lk30) (by omega) (by omega) (by omega)) pt31 ?_
   refine E' (e_lit (SrcV_Span_27 (cvl lk31 rfl) rfl) (hl1 (hx_len hn)) ha1) pt32 ?_
   refine E' (e_app (sc_own lk32 (hga (hx_len hn) rfl) rfl SrcV_tk_1 (nb' rfl)) lk27 (hga (hx_len hn) rfl) (str_len _) (by omega) rfl (hs0 (hx_len hn))) pt33 ?_
   refine mv' lk33 pt5<|sn'<|w_reg<|mv' lk7 pt34<|?_
   refine V' (v_add lk34 lki (by omega) (by omega)) pt35 ?_
   refine mv' lk35 pt6<|s_nil<|n_blk<|n_seq<|w_reg<|mv' lk7 pt15<|?_
   refine V' (v_add lk15 lki (by omega) (by omega)) pt16 ?_
   refine mv' lk16 pt7<|s_nil<|n_thn<|?_
   refine lU' (⟨i+1,i+1,ps++[s.extract f i],v+1⟩) (by (try dsimp only);exact ⟨by omega,by omega,by simp;omega,fun h=>⟨clean_self,hseg⟩,fun h=>by omega⟩) (by (try dsimp only);(try simp only [setsT,setsE,z',s',rn',la',ln',Nat.reduceAdd]);exact bkE' 1 (hx_len hn) (hx_lt hlt takE_ltb) (by repeat (first | exact wk0 | refine wka ?_ | refine wk1 rfl ?_ | refine wk1 (by first | rfl | exact ivx (by omega) | (simp;done)) ?_)) (by simp only [rows_app,rows_one,strC];rfl))
  have hx:byteAt s i≠58:=byte_ne (n:=58) (by omega) hc3
  refine w_skip<|n_blk<|n_seq<|w_reg<|mv' lk7 pt15<|?_
  refine V' (v_add lk15 lki (by omega) (by omega)) pt16 ?_
  refine mv' lk16 pt7<|s_nil<|n_thn<|?_
  refine lU' (⟨f,i+1,ps,v⟩) (by (try dsimp only);exact ⟨by omega,by omega,by omega,fun h=>⟨clean_go hk6 hk2 hilt hx,hk7⟩,fun h=>by omega⟩) (by (try dsimp only);(try simp only [setsT,setsE,z',s',rn',la',ln',Nat.reduceAdd]);exact ALe.same (by repeat (first | exact wk0 | refine wka ?_ | refine wk1 rfl ?_ | refine wk1 (by first | rfl | exact ivx (by omega) | (simp;done)) ?_)) rfl)
 have hC:=hk5 (by omega)
 rw [hC] at hT0
 have hps:ps.length≤25:=by omega
 refine w_exit<|x_thn<|x_thn<|x_blk<|n_seq<|w_seq<|wr'<|mv' lk5 pt36<|V' (v_lenO lk36) pt37<|V' (v_neq lk37 lki) pt38<|mv' lk38 pt39<|?_
 refine sp' gt39 pt39 pt39 (fun hg39=>?_) (fun hg39=>?_)
 ·refine s_do gt39<|mv' lk5 pt40<|s_do gt39<|V' (v_lenO lk40) pt41<|s_do gt39<|V' (v_neq lk41 lki) pt42<|V' (v_pickT lk39 lk42) pt43<|sn'<|?_
  refine cd' lk43 (fun hc4=>?_) (fun hc4=>?_)
  ·rw [tSpanL_bad (by rw [List.length_map];omega) (by rw [List.length_map];omega)] at hT0
   refine wr'<|mv' lk0 pt44<|V' (v_nckp lk44) pt45<|V' (v_fap0 lk45) pt46<|E' (e_store lk46 (cvl lkb rfl) (hx_at hid) rfl (nb' rfl) rfl SrcV_sc1_1 (hx_set hid)) ptn<|sn'<|wr'<|mv' lki pt4<|sn'<|w_rets<|?_
   refine r_thn<|w_ret (rs1 (rr_t gt4))<|?_
   exact ⟨_,_,rfl,hx_len hn,hx_lt hlt takE_ltb,rfl,by rw [hT0],by rw [hT0]⟩
  have hl3:ps.length=3:=by omega
  have hl0:2≤ps.length:=by omega
  rw [tSpanL_three hl3] at hT0
  refine w_skip ?_
  refine n_seqw (ALe.iceR (hga (hx_len hn) rfl) gt5 (List.take_of_length_le (by rw [rows_len str_len1];first | exact Nat.le_refl _ | omega)) (by rw [rows_len str_len1];first | exact Nat.le_refl _ | omega) pt5 (hs0 (hx_len hn))) ?_
  refine w_seq<|w_drwU<|u_fr rfl (v_mv lk0) pt47<|u_fr rfl (v_mv lk5) pt48<|?_
  refine u_fr rfl (v_iaR (k:=0) lk48 lki str_len1 (nb' rfl) (by first | rfl | omega) (by omega) (by first | rfl | omega) rfl) pt49 ?_
  refine u_fr rfl (v_loadr lk49 gt0) pt50 ?_
  refine u_callU (mp1 lk47 (mp1 lk50 (mp1 lki (mp1 lki mp0)))) (hx_at hid) (fun hU hUe=>tnum_a (by omega) hUe) (by first | (simp [noHit];done) | (simp [noHit];omega) | (simp [noHit] <;> (try intros) <;> omega)) (hx_set hid) pt51 ?_
  have hb1:=tNum_bd (s:=ps[0]) (a:=1) (b:=2) (t:=t) (by omega)
  refine u_fr rfl (v_mul lki lk51 (by omega) (by omega)) pt52 ?_
  refine u_fr rfl (v_mv lk0) pt53<|u_fr rfl (v_mv lk5) pt54<|?_
  refine u_fr rfl (v_iaR (k:=1) lk54 lki str_len1 (nb' rfl) (by first | rfl | omega) (by omega) (by first | rfl | omega) rfl) pt55 ?_
  refine u_fr rfl (v_loadr lk55 gt0) pt56 ?_
  refine u_callU (mp1 lk53 (mp1 lk56 mp0)) (hx_at hid) (fun hU hUe=>tsix_a hUe) (by first | (simp [noHit];done) | (simp [noHit];omega) | (simp [noHit] <;> (try intros) <;> omega)) (hx_set hid) pt57 ?_
  have hb2:=tSix_bd (s:=ps[1]) (t:=(tNum ps[0] 1 2 t).2)
  refine u_fr rfl (v_mul lki lk57 (by omega) (by omega)) pt58 ?_
  refine u_fr rfl (v_add lk52 lk58 (by omega) (by omega)) pt59 ?_
  refine u_fr rfl (v_mv lk59) pt8<|u_nil<|n_seq<|w_seq<|wr'<|mv' lk5 pt60<|V' (v_lenL lk60) pt61<|V' (v_eql lk61 lki) pt62<|sn'<|?_
  refine w_condK lk62 (by simp [hl3]) ?_
  refine w_reg<|mv' lk8 pt63<|mv' lk0 pt64<|mv' lk5 pt65<|?_
  refine V' (v_iaR (k:=2) lk65 lki str_len1 (nb' rfl) (by first | rfl | omega) (by omega) (by first | rfl | omega) rfl) pt66 ?_
  refine V' (v_loadr lk66 gt0) pt67<|s_calls (mp1 lk64 (mp1 lk67 mp0)) (tsix_a (hx_at hid)) (hx_set hid) pt68<|?_
  have hb3:=tSix_bd (s:=ps[2]) (t:=(tSix ps[1] (tNum ps[0] 1 2 t).2).2)
  refine V' (v_add lk63 lk68 (by omega) (by omega)) pt69 ?_
  refine mv' lk69 pt8<|sn'<|wr'<|mv' lk8 (ptS pt0)<|mv' (lkS lk0) pt4<|sn'<|w_rets<|w_ret (rs1 (rr_t gt4))<|?_
  exact ⟨_,_,rfl,hx_len hn,hx_lt hlt takE_ltb,rfl,by rw [hT0] <;> rfl,by rw [hT0] <;> rfl⟩
 have hl2:ps.length=2:=by omega
 have hl0:2≤ps.length:=by omega
 rw [tSpanL_two hl2] at hT0
 refine s_no gt39 pt40<|s_no gt39 pt41<|s_no gt39 pt42<|V' (v_pickF lk39 lkb) pt43<|sn'<|w_condF lk43<|w_skip<|?_
 refine n_seqw (ALe.iceR (hga (hx_len hn) rfl) gt5 (List.take_of_length_le (by rw [rows_len str_len1];first | exact Nat.le_refl _ | omega)) (by rw [rows_len str_len1];first | exact Nat.le_refl _ | omega) pt5 (hs0 (hx_len hn))) ?_
 refine w_seq<|w_drwU<|u_fr rfl (v_mv lk0) pt47<|u_fr rfl (v_mv lk5) pt48<|?_
 refine u_fr rfl (v_iaR (k:=0) lk48 lki str_len1 (nb' rfl) (by first | rfl | omega) (by omega) (by first | rfl | omega) rfl) pt49 ?_
 refine u_fr rfl (v_loadr lk49 gt0) pt50 ?_
 refine u_callU (mp1 lk47 (mp1 lk50 (mp1 lki (mp1 lki mp0)))) (hx_at hid) (fun hU hUe=>tnum_a (by omega) hUe) (by first | (simp [noHit];done) | (simp [noHit];omega) | (simp [noHit] <;> (try intros) <;> omega)) (hx_set hid) pt51 ?_
 have hb1:=tNum_bd (s:=ps[0]) (a:=1) (b:=2) (t:=t) (by omega)
 refine u_fr rfl (v_mul lki lk51 (by omega) (by omega)) pt52 ?_
 refine u_fr rfl (v_mv lk0) pt53<|u_fr rfl (v_mv lk5) pt54<|?_
 refine u_fr rfl (v_iaR (k:=1) lk54 lki str_len1 (nb' rfl) (by first | rfl | omega) (by omega) (by first | rfl | omega) rfl) pt55 ?_
 refine u_fr rfl (v_loadr lk55 gt0) pt56 ?_
 refine u_callU (mp1 lk53 (mp1 lk56 mp0)) (hx_at hid) (fun hU hUe=>tsix_a hUe) (by first | (simp [noHit];done) | (simp [noHit];omega) | (simp [noHit] <;> (try intros) <;> omega)) (hx_set hid) pt57 ?_
 have hb2:=tSix_bd (s:=ps[1]) (t:=(tNum ps[0] 1 2 t).2)
 refine u_fr rfl (v_mul lki lk57 (by omega) (by omega)) pt58 ?_
 refine u_fr rfl (v_add lk52 lk58 (by omega) (by omega)) pt59 ?_
 refine u_fr rfl (v_mv lk59) pt8<|u_nil<|n_seq<|w_seq<|wr'<|mv' lk5 pt60<|V' (v_lenL lk60) pt61<|V' (v_eql lk61 lki) pt62<|sn'<|?_
 refine w_condKF lk62 (by simp [hl2]) ?_
 refine w_skip<|n_seq<|wr'<|mv' lk8 (ptS pt0)<|mv' (lkS lk0) pt4<|sn'<|w_rets<|w_ret (rs1 (rr_t gt4))<|?_
 exact ⟨_,_,rfl,hx_len hn,hx_lt hlt takE_ltb,rfl,by rw [hT0] <;> rfl,by rw [hT0] <;> rfl⟩
theorem tnext_e {t t1:TS}{s:ByteArray}{id:Nat}{h:AH}(he:tNext t=(s,t1)) (h1:h[id]?=some (takE t)):ACalls Tryz.prog 49 [.ptr id 0 0] h fun x h'=>x = .ret (sv s)∧h'=h.set id (takE t1):=by
 have:=tnext_a h1
 rw [he] at this
 exact this
theorem byteI_ne {s:ByteArray}{k:Nat}{n:Int}(h:¬((byteAt s (k:Int).toNat).toNat:Int)=n):byteI s k≠n:=h
set_option maxHeartbeats 1000000 in
theorem tform_a {t:TS}{id:Nat}{h:AH}(hz:(tNext t).1.size≤24) (h1:h[id]?=some (takE t)):ACalls Tryz.prog 91 [.ptr id 0 0] h fun x h'=>x = .ret (.agg [iv (tForm t).1.1,iv (tForm t).1.2.1,iv (tForm t).1.2.2])∧h'=h.set id (takE (tForm t).2):=by
 have hid:id<h.length:=(List.getElem?_eq_some_iff.1 h1).1
 obtain ⟨s,t1,he⟩ : ∃ s t1,tNext t=(s,t1):=⟨_,_,rfl⟩
 have hF:tForm t=tFormS s t1:=by unfold tForm;rw [he]
 rw [he] at hz
 replace hz:s.size≤24:=hz
 obtain ⟨q,hq⟩ : ∃ q,q=formK s:=⟨_,rfl⟩
 have hK:formK s=if 4≤s.size∧s.extract 0 4=bA [108,97,115,116] then 2 else if 5<s.size∧byteI s 4=61∧byteI s 3=62 then 3 else if 5<s.size∧byteI s 4=61∧byteI s 3=60 then 4 else 1:=rfl
 refine tJ' k91 fun N hn hlt hlA hbd=>?_
 simp only [tA',AV.bdL,AV.bd,and_true,true_and] at hbd ⊢
 refine aw_heap (h1:=h.set id (takE t)++[]) (by rw [hx_self h1]) ?_
 refine wr'<|E' (e_new (hl0 (hx_len hn)) ha0) pt2<|sn'<|wr'<|mv' lk0 pt5<|s_calls (mp1 lk5 mp0) (tnext_e he (hx_at hid)) (hx_set hid) pt6<|mv' lk6 pt3<|sn'<|w_seq<|w_seq<|?_
 refine w_reg<|mv' lk3 pt7<|V' (v_lenS lk7) pt8<|V' (v_geq lk8 lki) pt9<|mv' lk9 pt10<|?_
 refine sp' gt10 pt10 pt10 (fun hg10=>?_) (fun hg10=>?_)
 ·refine s_do gt10<|mv' lk3 pt11<|s_do gt10<|?_
  refine V' (v_sls lk11 on_ (oi lki) (by omega) (by omega) (by omega)) pt12 ?_
  refine s_do gt10<|V' (v_eqlS lk12 lks) pt13<|V' (v_pickT lk10 lk13) pt14<|sn'<|?_
  refine cd' lk14 (fun hc1=>?_) (fun hc1=>?_)
  ·have hk:formK s=2:=by rw [hK];exact if_pos ⟨by omega,hc1⟩
   have hT:tForm t=((2,(tWeek (s.extract 4 s.size) t1).1,0),(tWeek (s.extract 4 s.size) t1).2):=by rw [hF];unfold tFormS;rw [if_pos hk]
   refine wr'<|mv' lk0 pt15<|mv' lk3 pt16<|?_
   refine V' (v_sls lk16 (oi lki) on_ (by omega) (by omega) (by omega)) pt17 ?_
   refine s_calls (mp1 lk15 (mp1 lk17 mp0)) (tweek_a (hx_at hid)) (hx_set hid) pt18<|V' (v_build (SrcV_Form_17 (cvl lki rfl) rfl (cvl lk18 rfl) rfl)) pt19<|E' (e_store lk2 (cvl lk19 rfl) (hga (hx_len hn) rfl) rfl (nb' rfl) rfl SrcV_sc0_3 (hs0 (hx_len hn))) ptn<|sn'<|w_rets<|r_thn<|w_ret (rs1 (rr_c gt2 (hga (hx_len hn) rfl) (ld1 SrcV_tk0_3 rfl)))<|?_
   exact ⟨_,_,rfl,hx_len hn,hx_lt hlt takE_ltb,rfl,by rw [hT] <;> rfl,by rw [hT] <;> rfl⟩
  have hn2:¬(4≤s.size∧s.extract 0 4=bA [108,97,115,116]):=fun e=>hc1 e.2
  rw [if_neg hn2] at hK
  refine w_skip<|n_seq<|w_seq<|wr'<|mv' lk3 pt20<|V' (v_lenS lk20) pt21<|V' (v_gtr lk21 lki) pt22<|mv' lk22 pt23<|?_
  refine sp' gt23 pt23 pt23 (fun hg23=>?_) (fun hg23=>?_)
  ·refine s_do gt23<|mv' lk3 pt24<|s_do gt23<|?_
   refine V' (v_ix lk24 lki (by omega) (by omega)) pt25 ?_
   refine s_do gt23<|V' (v_eql lk25 lki) pt26<|V' (v_pickT lk23 lk26) pt27<|mv' lk27 pt28<|?_
   refine sp' gt28 pt28 pt28 (fun hg28=>?_) (fun hg28=>?_)
   ·refine s_do gt28<|mv' lk3 pt29<|s_do gt28<|?_
    refine V' (v_ix lk29 lki (by omega) (by omega)) pt30 ?_
    refine s_do gt28<|V' (v_eql lk30 lki) pt31<|s_do gt28<|mv' lk31 pt32<|?_
    refine sp' gt32 pt32 pt32 (fun hg32=>?_) (fun hg32=>?_)
    ·have hk:formK s=3:=by rw [hK];exact if_pos ⟨by omega,hg28,hg32⟩
     refine s_no gt32 pt33<|s_no gt32 pt34<|s_no gt32 pt35<|s_do gt28<|V' (v_pickT lk32 lkb) pt36<|V' (v_pickT lk28 lk36) pt37<|sn'<|w_condT lk37<|w_seq<|w_drwU<|u_fr rfl (v_mv lk0) pt38<|u_fr rfl (v_mv lk3) pt39<|?_
     refine u_fr rfl (v_sls lk39 on_ (oi lki) (by omega) (by omega) (by omega)) pt40 ?_
     refine u_callU (mp1 lk38 (mp1 lk40 mp0)) (hx_at hid) (fun hU hUe=>tweek_a hUe) (by first | (simp [noHit];done) | (simp [noHit];omega) | (simp [noHit] <;> (try intros) <;> omega)) (hx_set hid) pt41 ?_
     refine u_fr rfl (v_mv lk0) pt42<|u_fr rfl (v_mv lk3) pt43<|?_
     refine u_fr rfl (v_sls lk43 (oi lki) on_ (by omega) (by omega) (by omega)) pt44 ?_
     refine u_callU (mp1 lk42 (mp1 lk44 (mp1 lki (mp1 lki mp0)))) (hx_at hid) (fun hU hUe=>tnum_a (by omega) hUe) (by first | (simp [noHit];done) | (simp [noHit];omega) | (simp [noHit] <;> (try intros) <;> omega)) (hx_set hid) pt45 ?_
     refine u_fr rfl (v_build (SrcV_Form_45 (cvl lki rfl) rfl (cvl lk41 rfl) rfl (cvl lk45 rfl) rfl)) pt46 ?_
     refine u_al rfl (e_new (hl1 (hx_len hn)) ha1) (hl1 (hx_len hn)) (by first | (simp [noHit];done) | (simp [noHit];omega) | (simp [noHit] <;> (try intros) <;> omega)) pt4 ?_
     refine u_st (e_store lk4 (cvl lk46 rfl) (hga (hx_len hn) rfl) rfl (nb' rfl) rfl SrcV_sc0_3 (hs1 (hx_len hn))) lk4 (by first | (simp [noHit];done) | (simp [noHit];omega) | (simp [noHit] <;> (try intros) <;> omega)) ptn ?_
     refine u_nil<|n_seq<|w_seq<|wr'<|mv' lk3 pt47<|?_
     refine V' (v_ix lk47 lki (by omega) (by omega)) pt48 ?_
     refine V' (v_eql lk48 lki) pt49<|sn'<|?_
     refine w_condKF lk49 (by exact decide_eq_false (by rw [hg32];decide)) ?_
     refine w_skip<|n_seq<|wr'<|V' (v_loadpA lk4 (hga (hx_len hn) rfl) SrcV_tk0_3 rfl) pt51<|E' (e_store lk2 (cvl lk51 rfl) (hga (hx_len hn) rfl) rfl (nb' rfl) rfl SrcV_sc0_3 (hs0 (hx_len hn))) ptn<|sn'<|w_rets<|r_thn<|w_ret (rs1 (rr_c gt2 (hga (hx_len hn) rfl) (ld1 SrcV_tk0_3 rfl)))<|?_
     exact ⟨_,_,rfl,hx_len hn,hx_lt hlt takE_ltb,rfl,by rw [hF];unfold tFormS;rw [hk] <;> rfl,by rw [hF];unfold tFormS;rw [hk] <;> rfl⟩
    have h3:byteI s 3≠62:=byteI_ne hg32
    refine s_do gt32<|mv' lk3 pt33<|s_do gt32<|?_
    refine V' (v_ix lk33 lki (by omega) (by omega)) pt34 ?_
    refine s_do gt32<|V' (v_eql lk34 lki) pt35<|s_do gt28<|V' (v_pickF lk32 lk35) pt36<|V' (v_pickT lk28 lk36) pt37<|sn'<|?_
    refine cd' lk37 (fun hc2=>?_) (fun hc2=>?_)
    ·have hk:formK s=4:=by rw [hK,if_neg (fun e=>h3 e.2.2)];exact if_pos ⟨by omega,hg28,hc2⟩
     refine w_seq<|w_drwU<|u_fr rfl (v_mv lk0) pt38<|u_fr rfl (v_mv lk3) pt39<|?_
     refine u_fr rfl (v_sls lk39 on_ (oi lki) (by omega) (by omega) (by omega)) pt40 ?_
     refine u_callU (mp1 lk38 (mp1 lk40 mp0)) (hx_at hid) (fun hU hUe=>tweek_a hUe) (by first | (simp [noHit];done) | (simp [noHit];omega) | (simp [noHit] <;> (try intros) <;> omega)) (hx_set hid) pt41 ?_
     refine u_fr rfl (v_mv lk0) pt42<|u_fr rfl (v_mv lk3) pt43<|?_
     refine u_fr rfl (v_sls lk43 (oi lki) on_ (by omega) (by omega) (by omega)) pt44 ?_
     refine u_callU (mp1 lk42 (mp1 lk44 (mp1 lki (mp1 lki mp0)))) (hx_at hid) (fun hU hUe=>tnum_a (by omega) hUe) (by first | (simp [noHit];done) | (simp [noHit];omega) | (simp [noHit] <;> (try intros) <;> omega)) (hx_set hid) pt45 ?_
     refine u_fr rfl (v_build (SrcV_Form_45 (cvl lki rfl) rfl (cvl lk41 rfl) rfl (cvl lk45 rfl) rfl)) pt46 ?_
     refine u_al rfl (e_new (hl1 (hx_len hn)) ha1) (hl1 (hx_len hn)) (by first | (simp [noHit];done) | (simp [noHit];omega) | (simp [noHit] <;> (try intros) <;> omega)) pt4 ?_
     refine u_st (e_store lk4 (cvl lk46 rfl) (hga (hx_len hn) rfl) rfl (nb' rfl) rfl SrcV_sc0_3 (hs1 (hx_len hn))) lk4 (by first | (simp [noHit];done) | (simp [noHit];omega) | (simp [noHit] <;> (try intros) <;> omega)) ptn ?_
     refine u_nil<|n_seq<|w_seq<|wr'<|mv' lk3 pt47<|?_
     refine V' (v_ix lk47 lki (by omega) (by omega)) pt48 ?_
     refine V' (v_eql lk48 lki) pt49<|sn'<|?_
     refine w_condK lk49 (by exact decide_eq_true hc2) ?_
     refine w_reg<|V' (v_fap0 lk4) pt50<|E' (e_store lk50 (cvl lki rfl) (hga (hx_len hn) rfl) rfl (nb' rfl) rfl SrcV_sc0_1 (hs1 (hx_len hn))) ptn<|sn'<|wr'<|V' (v_loadpA lk4 (hga (hx_len hn) rfl) SrcV_tk0_3 rfl) pt51<|E' (e_store lk2 (cvl lk51 rfl) (hga (hx_len hn) rfl) rfl (nb' rfl) rfl SrcV_sc0_3 (hs0 (hx_len hn))) ptn<|sn'<|w_rets<|r_thn<|w_ret (rs1 (rr_c gt2 (hga (hx_len hn) rfl) (ld1 SrcV_tk0_3 rfl)))<|?_
     exact ⟨_,_,rfl,hx_len hn,hx_lt hlt takE_ltb,rfl,by rw [hF];unfold tFormS;rw [hk] <;> rfl,by rw [hF];unfold tFormS;rw [hk] <;> rfl⟩
    have h3':byteI s 3≠60:=byteI_ne hc2
    have hk:formK s=1:=by rw [hK,if_neg (fun e=>h3 e.2.2),if_neg (fun e=>h3' e.2.2)]
    refine w_skip<|n_seq<|wr'<|mv' lk0 pt52<|mv' lk3 pt53<|?_
    refine s_calls (mp1 lk52 (mp1 lk53 (mp1 lki (mp1 lki mp0)))) (tnum_a (by omega) (hx_at hid)) (hx_set hid) pt54 ?_
    refine V' (v_build (SrcV_Form_58 (cvl lki rfl) rfl (cvl lk54 rfl) rfl)) pt55<|E' (e_store lk2 (cvl lk55 rfl) (hga (hx_len hn) rfl) rfl (nb' rfl) rfl SrcV_sc0_3 (hs0 (hx_len hn))) ptn<|sn'<|w_rets<|w_ret (rs1 (rr_c gt2 (hga (hx_len hn) rfl) (ld1 SrcV_tk0_3 rfl)))<|?_
    exact ⟨_,_,rfl,hx_len hn,hx_lt hlt takE_ltb,rfl,by rw [hF];unfold tFormS;rw [hk] <;> rfl,by rw [hF];unfold tFormS;rw [hk] <;> rfl⟩
   have h4:byteI s 4≠61:=byteI_ne hg28
   have hk:formK s=1:=by rw [hK,if_neg (fun e=>h4 e.2.1),if_neg (fun e=>h4 e.2.1)]
   refine s_no gt28 pt29<|s_no gt28 pt30<|s_no gt28 pt31<|s_no gt28 pt32<|s_nu gt32 pt33<|s_nu gt32 pt34<|s_nu gt32 pt35<|s_no gt28 pt36<|V' (v_pickF lk28 lkb) pt37<|sn'<|w_condF lk37<|w_skip<|n_seq<|?_
   refine wr'<|mv' lk0 pt52<|mv' lk3 pt53<|?_
   refine s_calls (mp1 lk52 (mp1 lk53 (mp1 lki (mp1 lki mp0)))) (tnum_a (by omega) (hx_at hid)) (hx_set hid) pt54 ?_
   refine V' (v_build (SrcV_Form_58 (cvl lki rfl) rfl (cvl lk54 rfl) rfl)) pt55<|E' (e_store lk2 (cvl lk55 rfl) (hga (hx_len hn) rfl) rfl (nb' rfl) rfl SrcV_sc0_3 (hs0 (hx_len hn))) ptn<|sn'<|w_rets<|w_ret (rs1 (rr_c gt2 (hga (hx_len hn) rfl) (ld1 SrcV_tk0_3 rfl)))<|?_
   exact ⟨_,_,rfl,hx_len hn,hx_lt hlt takE_ltb,rfl,by rw [hF];unfold tFormS;rw [hk] <;> rfl,by rw [hF];unfold tFormS;rw [hk] <;> rfl⟩
  have hk:formK s=1:=by rw [hK,if_neg (by omega),if_neg (by omega)]
  refine s_no gt23 pt24<|s_no gt23 pt25<|s_no gt23 pt26<|V' (v_pickF lk23 lkb) pt27<|mv' lk27 pt28<|s_no gt28 pt29<|s_no gt28 pt30<|s_no gt28 pt31<|s_no gt28 pt32<|s_nu gt32 pt33<|s_nu gt32 pt34<|s_nu gt32 pt35<|s_no gt28 pt36<|V' (v_pickF lk28 lkb) pt37<|?_
  refine sn'<|w_condF lk37<|w_skip<|n_seq<|wr'<|mv' lk0 pt52<|mv' lk3 pt53<|?_
  refine s_calls (mp1 lk52 (mp1 lk53 (mp1 lki (mp1 lki mp0)))) (tnum_a (by omega) (hx_at hid)) (hx_set hid) pt54 ?_
  refine V' (v_build (SrcV_Form_58 (cvl lki rfl) rfl (cvl lk54 rfl) rfl)) pt55<|E' (e_store lk2 (cvl lk55 rfl) (hga (hx_len hn) rfl) rfl (nb' rfl) rfl SrcV_sc0_3 (hs0 (hx_len hn))) ptn<|sn'<|w_rets<|w_ret (rs1 (rr_c gt2 (hga (hx_len hn) rfl) (ld1 SrcV_tk0_3 rfl)))<|?_
  exact ⟨_,_,rfl,hx_len hn,hx_lt hlt takE_ltb,rfl,by rw [hF];unfold tFormS;rw [hk] <;> rfl,by rw [hF];unfold tFormS;rw [hk] <;> rfl⟩
 have hn2:¬(4≤s.size∧s.extract 0 4=bA [108,97,115,116]):=fun e=>by omega
 rw [if_neg hn2] at hK
 refine s_no gt10 pt11<|s_no gt10 pt12<|s_no gt10 pt13<|V' (v_pickF lk10 lkb) pt14<|sn'<|w_condF lk14<|w_skip<|n_seq<|w_seq<|wr'<|mv' lk3 pt20<|V' (v_lenS lk20) pt21<|?_
 refine V' (v_gtr lk21 lki) pt22<|mv' lk22 pt23<|?_
 refine sp' gt23 pt23 pt23 (fun hg23=>?_) (fun hg23=>?_)
 ·refine s_do gt23<|mv' lk3 pt24<|s_do gt23<|?_
  refine V' (v_ix lk24 lki (by omega) (by omega)) pt25 ?_
  refine s_do gt23<|V' (v_eql lk25 lki) pt26<|V' (v_pickT lk23 lk26) pt27<|mv' lk27 pt28<|?_
  refine sp' gt28 pt28 pt28 (fun hg28=>?_) (fun hg28=>?_)
  ·refine s_do gt28<|mv' lk3 pt29<|s_do gt28<|?_
   refine V' (v_ix lk29 lki (by omega) (by omega)) pt30 ?_
   refine s_do gt28<|V' (v_eql lk30 lki) pt31<|s_do gt28<|mv' lk31 pt32<|?_
   refine sp' gt32 pt32 pt32 (fun hg32=>?_) (fun hg32=>?_)
   ·have hk:formK s=3:=by rw [hK];exact if_pos ⟨by omega,hg28,hg32⟩
    refine s_no gt32 pt33<|s_no gt32 pt34<|s_no gt32 pt35<|s_do gt28<|V' (v_pickT lk32 lkb) pt36<|V' (v_pickT lk28 lk36) pt37<|sn'<|w_condT lk37<|w_seq<|w_drwU<|u_fr rfl (v_mv lk0) pt38<|u_fr rfl (v_mv lk3) pt39<|?_
    refine u_fr rfl (v_sls lk39 on_ (oi lki) (by omega) (by omega) (by omega)) pt40 ?_
    refine u_callU (mp1 lk38 (mp1 lk40 mp0)) (hx_at hid) (fun hU hUe=>tweek_a hUe) (by first | (simp [noHit];done) | (simp [noHit];omega) | (simp [noHit] <;> (try intros) <;> omega)) (hx_set hid) pt41 ?_
    refine u_fr rfl (v_mv lk0) pt42<|u_fr rfl (v_mv lk3) pt43<|?_
    refine u_fr rfl (v_sls lk43 (oi lki) on_ (by omega) (by omega) (by omega)) pt44 ?_
    refine u_callU (mp1 lk42 (mp1 lk44 (mp1 lki (mp1 lki mp0)))) (hx_at hid) (fun hU hUe=>tnum_a (by omega) hUe) (by first | (simp [noHit];done) | (simp [noHit];omega) | (simp [noHit] <;> (try intros) <;> omega)) (hx_set hid) pt45 ?_
    refine u_fr rfl (v_build (SrcV_Form_45 (cvl lki rfl) rfl (cvl lk41 rfl) rfl (cvl lk45 rfl) rfl)) pt46 ?_
    refine u_al rfl (e_new (hl1 (hx_len hn)) ha1) (hl1 (hx_len hn)) (by first | (simp [noHit];done) | (simp [noHit];omega) | (simp [noHit] <;> (try intros) <;> omega)) pt4 ?_
    refine u_st (e_store lk4 (cvl lk46 rfl) (hga (hx_len hn) rfl) rfl (nb' rfl) rfl SrcV_sc0_3 (hs1 (hx_len hn))) lk4 (by first | (simp [noHit];done) | (simp [noHit];omega) | (simp [noHit] <;> (try intros) <;> omega)) ptn ?_
    refine u_nil<|n_seq<|w_seq<|wr'<|mv' lk3 pt47<|?_
    refine V' (v_ix lk47 lki (by omega) (by omega)) pt48 ?_
    refine V' (v_eql lk48 lki) pt49<|sn'<|?_
    refine w_condKF lk49 (by exact decide_eq_false (by rw [hg32];decide)) ?_
    refine w_skip<|n_seq<|wr'<|V' (v_loadpA lk4 (hga (hx_len hn) rfl) SrcV_tk0_3 rfl) pt51<|E' (e_store lk2 (cvl lk51 rfl) (hga (hx_len hn) rfl) rfl (nb' rfl) rfl SrcV_sc0_3 (hs0 (hx_len hn))) ptn<|sn'<|w_rets<|r_thn<|w_ret (rs1 (rr_c gt2 (hga (hx_len hn) rfl) (ld1 SrcV_tk0_3 rfl)))<|?_
    exact ⟨_,_,rfl,hx_len hn,hx_lt hlt takE_ltb,rfl,by rw [hF];unfold tFormS;rw [hk] <;> rfl,by rw [hF];unfold tFormS;rw [hk] <;> rfl⟩
   have h3:byteI s 3≠62:=byteI_ne hg32
   refine s_do gt32<|mv' lk3 pt33<|s_do gt32<|?_
   refine V' (v_ix lk33 lki (by omega) (by omega)) pt34 ?_
   refine s_do gt32<|V' (v_eql lk34 lki) pt35<|s_do gt28<|V' (v_pickF lk32 lk35) pt36<|V' (v_pickT lk28 lk36) pt37<|sn'<|?_
   refine cd' lk37 (fun hc2=>?_) (fun hc2=>?_)
   ·have hk:formK s=4:=by rw [hK,if_neg (fun e=>h3 e.2.2)];exact if_pos ⟨by omega,hg28,hc2⟩
    refine w_seq<|w_drwU<|u_fr rfl (v_mv lk0) pt38<|u_fr rfl (v_mv lk3) pt39<|?_
    refine u_fr rfl (v_sls lk39 on_ (oi lki) (by omega) (by omega) (by omega)) pt40 ?_
    refine u_callU (mp1 lk38 (mp1 lk40 mp0)) (hx_at hid) (fun hU hUe=>tweek_a hUe) (by first | (simp [noHit];done) | (simp [noHit];omega) | (simp [noHit] <;> (try intros) <;> omega)) (hx_set hid) pt41 ?_
    refine u_fr rfl (v_mv lk0) pt42<|u_fr rfl (v_mv lk3) pt43<|?_
    refine u_fr rfl (v_sls lk43 (oi lki) on_ (by omega) (by omega) (by omega)) pt44 ?_
    refine u_callU (mp1 lk42 (mp1 lk44 (mp1 lki (mp1 lki mp0)))) (hx_at hid) (fun hU hUe=>tnum_a (by omega) hUe) (by first | (simp [noHit];done) | (simp [noHit];omega) | (simp [noHit] <;> (try intros) <;> omega)) (hx_set hid) pt45 ?_
    refine u_fr rfl (v_build (SrcV_Form_45 (cvl lki rfl) rfl (cvl lk41 rfl) rfl (cvl lk45 rfl) rfl)) pt46 ?_
    refine u_al rfl (e_new (hl1 (hx_len hn)) ha1) (hl1 (hx_len hn)) (by first | (simp [noHit];done) | (simp [noHit];omega) | (simp [noHit] <;> (try intros) <;> omega)) pt4 ?_
    refine u_st (e_store lk4 (cvl lk46 rfl) (hga (hx_len hn) rfl) rfl (nb' rfl) rfl SrcV_sc0_3 (hs1 (hx_len hn))) lk4 (by first | (simp [noHit];done) | (simp [noHit];omega) | (simp [noHit] <;> (try intros) <;> omega)) ptn ?_
    refine u_nil<|n_seq<|w_seq<|wr'<|mv' lk3 pt47<|?_
    refine V' (v_ix lk47 lki (by omega) (by omega)) pt48 ?_
    refine V' (v_eql lk48 lki) pt49<|sn'<|?_
    refine w_condK lk49 (by exact decide_eq_true hc2) ?_
    refine w_reg<|V' (v_fap0 lk4) pt50<|E' (e_store lk50 (cvl lki rfl) (hga (hx_len hn) rfl) rfl (nb' rfl) rfl SrcV_sc0_1 (hs1 (hx_len hn))) ptn<|sn'<|wr'<|V' (v_loadpA lk4 (hga (hx_len hn) rfl) SrcV_tk0_3 rfl) pt51<|E' (e_store lk2 (cvl lk51 rfl) (hga (hx_len hn) rfl) rfl (nb' rfl) rfl SrcV_sc0_3 (hs0 (hx_len hn))) ptn<|sn'<|w_rets<|r_thn<|w_ret (rs1 (rr_c gt2 (hga (hx_len hn) rfl) (ld1 SrcV_tk0_3 rfl)))<|?_
    exact ⟨_,_,rfl,hx_len hn,hx_lt hlt takE_ltb,rfl,by rw [hF];unfold tFormS;rw [hk] <;> rfl,by rw [hF];unfold tFormS;rw [hk] <;> rfl⟩
   have h3':byteI s 3≠60:=byteI_ne hc2
   have hk:formK s=1:=by rw [hK,if_neg (fun e=>h3 e.2.2),if_neg (fun e=>h3' e.2.2)]
   refine w_skip<|n_seq<|wr'<|mv' lk0 pt52<|mv' lk3 pt53<|?_
   refine s_calls (mp1 lk52 (mp1 lk53 (mp1 lki (mp1 lki mp0)))) (tnum_a (by omega) (hx_at hid)) (hx_set hid) pt54 ?_
   refine V' (v_build (SrcV_Form_58 (cvl lki rfl) rfl (cvl lk54 rfl) rfl)) pt55<|E' (e_store lk2 (cvl lk55 rfl) (hga (hx_len hn) rfl) rfl (nb' rfl) rfl SrcV_sc0_3 (hs0 (hx_len hn))) ptn<|sn'<|w_rets<|w_ret (rs1 (rr_c gt2 (hga (hx_len hn) rfl) (ld1 SrcV_tk0_3 rfl)))<|?_
   exact ⟨_,_,rfl,hx_len hn,hx_lt hlt takE_ltb,rfl,by rw [hF];unfold tFormS;rw [hk] <;> rfl,by rw [hF];unfold tFormS;rw [hk] <;> rfl⟩
  have h4:byteI s 4≠61:=byteI_ne hg28
  have hk:formK s=1:=by rw [hK,if_neg (fun e=>h4 e.2.1),if_neg (fun e=>h4 e.2.1)]
  refine s_no gt28 pt29<|s_no gt28 pt30<|s_no gt28 pt31<|s_no gt28 pt32<|s_nu gt32 pt33<|s_nu gt32 pt34<|s_nu gt32 pt35<|s_no gt28 pt36<|V' (v_pickF lk28 lkb) pt37<|sn'<|w_condF lk37<|w_skip<|n_seq<|?_
  refine wr'<|mv' lk0 pt52<|mv' lk3 pt53<|?_
  refine s_calls (mp1 lk52 (mp1 lk53 (mp1 lki (mp1 lki mp0)))) (tnum_a (by omega) (hx_at hid)) (hx_set hid) pt54 ?_
  refine V' (v_build (SrcV_Form_58 (cvl lki rfl) rfl (cvl lk54 rfl) rfl)) pt55<|E' (e_store lk2 (cvl lk55 rfl) (hga (hx_len hn) rfl) rfl (nb' rfl) rfl SrcV_sc0_3 (hs0 (hx_len hn))) ptn<|sn'<|w_rets<|w_ret (rs1 (rr_c gt2 (hga (hx_len hn) rfl) (ld1 SrcV_tk0_3 rfl)))<|?_
  exact ⟨_,_,rfl,hx_len hn,hx_lt hlt takE_ltb,rfl,by rw [hF];unfold tFormS;rw [hk] <;> rfl,by rw [hF];unfold tFormS;rw [hk] <;> rfl⟩
 have hk:formK s=1:=by rw [hK,if_neg (by omega),if_neg (by omega)]
 refine s_no gt23 pt24<|s_no gt23 pt25<|s_no gt23 pt26<|V' (v_pickF lk23 lkb) pt27<|mv' lk27 pt28<|s_no gt28 pt29<|s_no gt28 pt30<|s_no gt28 pt31<|s_no gt28 pt32<|s_nu gt32 pt33<|s_nu gt32 pt34<|s_nu gt32 pt35<|s_no gt28 pt36<|V' (v_pickF lk28 lkb) pt37<|?_
 refine sn'<|w_condF lk37<|w_skip<|n_seq<|wr'<|mv' lk0 pt52<|mv' lk3 pt53<|?_
 refine s_calls (mp1 lk52 (mp1 lk53 (mp1 lki (mp1 lki mp0)))) (tnum_a (by omega) (hx_at hid)) (hx_set hid) pt54 ?_
 refine V' (v_build (SrcV_Form_58 (cvl lki rfl) rfl (cvl lk54 rfl) rfl)) pt55<|E' (e_store lk2 (cvl lk55 rfl) (hga (hx_len hn) rfl) rfl (nb' rfl) rfl SrcV_sc0_3 (hs0 (hx_len hn))) ptn<|sn'<|w_rets<|w_ret (rs1 (rr_c gt2 (hga (hx_len hn) rfl) (ld1 SrcV_tk0_3 rfl)))<|?_
 exact ⟨_,_,rfl,hx_len hn,hx_lt hlt takE_ltb,rfl,by rw [hF];unfold tFormS;rw [hk] <;> rfl,by rw [hF];unfold tFormS;rw [hk] <;> rfl⟩
theorem kindU_bd {c d:Int}(hd:d=1∨d=2) : ∀ k:Nat,k≤3→1≤kindU c d k∧kindU c d k≤3
 | 0,_=>by unfold kindU;omega
 | k+1,h=>by
  have:=kindU_bd (c:=c) hd k (by omega)
  unfold kindU
  split <;> omega
theorem tclock_a {d:Int}{t:TS}{id:Nat}{h:AH}(hd:d=1∨d=2) (hz:(tNext t).1.size≤24) (h1:h[id]?=some (takE t)):ACalls Tryz.prog 90 [.ptr id 0 0,iv d] h fun x h'=>x = .ret (.tup [iv (tClock d t).1.1,iv (tClock d t).1.2])∧h'=h.set id (takE (tClock d t).2):=by
 have hid:id<h.length:=(List.getElem?_eq_some_iff.1 h1).1
 obtain ⟨s,t1,he⟩ : ∃ s t1,tNext t=(s,t1):=⟨_,_,rfl⟩
 have hF:tClock d t=tClockS d s t1:=by unfold tClock;rw [he]
 rw [he] at hz
 replace hz:s.size≤24:=hz
 have hem:=emp_size (f:=s)
 have hkb:=kindU_bd (c:=lastI s) hd 3 (by omega)
 have hws:(⟨#[63,119,115,117]⟩:ByteArray).size=4:=rfl
 refine tJ' k90 fun N hn hlt hlA hbd=>?_
 simp only [tA',AV.bdL,AV.bd,and_true,true_and] at hbd ⊢
 refine aw_heap (h1:=h.set id (takE t)++[]) (by rw [hx_self h1]) ?_
 refine wr'<|mv' lki pt4<|mv' lki pt5<|sn'<|wr'<|mv' lk0 pt9<|s_calls (mp1 lk9 mp0) (tnext_e he (hx_at hid)) (hx_set hid) pt10<|mv' lk10 pt6<|sn'<|w_seq<|?_
 refine w_reg<|mv' lk1 pt11<|mv' lk11 pt7<|sn'<|w_seq<|wr'<|mv' lk6 pt12<|V' (v_neqS lk12 lks) pt13<|sn'<|?_
 refine cd' lk13 (fun hc1=>?_) (fun hc1=>?_)
 ·have h0:s.size≠0:=fun e=>hc1 (hem.2 e)
  have hL:((byteAt s ((s.size:Int)-1).toNat).toNat:Int)=lastI s:=by unfold lastI byteI;congr 2;congr 1;omega
  have hbl:(0:Int)≤((byteAt s ((s.size:Int)-1).toNat).toNat:Int)∧((byteAt s ((s.size:Int)-1).toNat).toNat:Int)≤255:=byte_bd _ _
  refine w_seq<|wr'<|mv' lki pt8<|sn'<|w_block<|?_
  refine w_lp (ι:=Nat) (fun (k:Nat)=>[(7,iv (kindU (lastI s) d k)),(8,iv ((k+1:Nat):Int))]++rn' 14 13) (fun (k:Nat)=>[]) (fun (k:Nat)=>k≤3) (fun (k:Nat)=>3-k) (0) (by omega) ?_
  rintro k hi1
  try simp only [setsT,setsE,z',s',rn',la',ln',Nat.reduceAdd]
  refine w_seq<|wr'<|mv' lk8 pt14<|V' (v_leq lk14 lki) pt15<|sn'<|?_
  refine cd' lk15 (fun hc2=>?_) (fun hc2=>?_)
  ·have hk:k+1≤3:=by omega
   refine w_skip<|n_seq<|w_seq<|w_block<|w_seq<|w_drwE<|D' (v_mv lk6) pt18<|D' (v_mv lk6) pt19<|D' (v_lenS lk19) pt20<|?_
   refine D' (v_sub lk20 lki (by omega) (by omega)) pt21 ?_
   refine D' (v_ix lk18 lk21 (by omega) (by omega)) pt22 ?_
   refine D' (v_mv lk8) pt23 ?_
   refine D' (v_ix lks lk23 (by omega) (by omega)) pt24 ?_
   refine D' (v_eql lk22 lk24) pt25<|d_nil<|?_
   refine e_nil ?_
   refine sn' ?_
   refine cd' lk25 (fun hc3=>?_) (fun hc3=>?_)
   ·have hkk:kindU (lastI s) d (k+1)=((k+1:Nat):Int):=by unfold kindU;exact if_pos (hL.symm.trans hc3)
    refine w_reg<|mv' lk8 pt26<|mv' lk26 pt7<|s_nil<|n_blk<|n_seq<|w_reg<|mv' lk8 pt16<|?_
    refine V' (v_add lk16 lki (by omega) (by omega)) pt17 ?_
    refine mv' lk17 pt8<|s_nil<|n_thn<|?_
    refine lU' (k+1) (by (try dsimp only);omega) (by (try dsimp only);(try simp only [setsT,setsE,z',s',rn',la',ln',Nat.reduceAdd]);exact ALe.same (by repeat (first | exact wk0 | refine wka ?_ | refine wk1 rfl ?_ | refine wk1 (by first | rfl | exact ivx (by omega) | exact ivx hkk.symm) ?_)) rfl)
   have hkk:kindU (lastI s) d (k+1)=kindU (lastI s) d k:=by rw [kindU,if_neg (show ¬lastI s=byteI wsuA (k+1) from fun e=>hc3 (hL.trans e))]
   refine w_skip<|n_blk<|n_seq<|w_reg<|mv' lk8 pt16<|?_
   refine V' (v_add lk16 lki (by omega) (by omega)) pt17 ?_
   refine mv' lk17 pt8<|s_nil<|n_thn<|?_
   refine lU' (k+1) (by (try dsimp only);omega) (by (try dsimp only);(try simp only [setsT,setsE,z',s',rn',la',ln',Nat.reduceAdd]);exact ALe.same (by repeat (first | exact wk0 | refine wka ?_ | refine wk1 rfl ?_ | refine wk1 (by first | rfl | exact ivx (by omega) | exact ivx hkk.symm) ?_)) rfl)
  have hk3:k=3:=by omega
  subst hk3
  refine w_exit<|x_thn<|x_thn<|x_blk<|n_seq<|wr'<|mv' lk6 pt27<|mv' lk6 pt28<|V' (v_lenS lk28) pt29<|?_
  refine V' (v_sub lk29 lki (by omega) (by omega)) pt30 ?_
  refine V' (v_ix lk27 lk30 (by omega) (by omega)) pt31 ?_
  refine s_callp (mp1 lk31 mp0) (risDigit_a hbl.1 hbl.2) pt32<|V' (v_notB lk32) pt33<|sn'<|?_
  refine w_condB lk33 (fun hc4=>?_) (fun hc4=>?_)
  ·have hdg:¬digB (lastI s)=true:=by rw [←hL];simpa using hc4
   refine w_seq<|w_seq<|w_drwE<|D' (v_mv lk6) pt34<|D' (v_mv lk6) pt35<|D' (v_lenS lk35) pt36<|?_
   refine D' (v_sub lk36 lki (by omega) (by omega)) pt37 ?_
   refine D' (v_ix lk34 lk37 (by omega) (by omega)) pt38 ?_
   refine D' (v_mv lk7) pt39 ?_
   refine D' (v_ix lks lk39 (by omega) (by omega)) pt40 ?_
   refine D' (v_neq lk38 lk40) pt41<|d_nil<|?_
   refine e_nil ?_
   refine sn' ?_
   refine cd' lk41 (fun hc5=>?_) (fun hc5=>?_)
   ·have hne:¬lastI s=byteI wsuA (kindU (lastI s) d 3).toNat:=fun e=>hc5 (hL.trans e)
    have hT:tClock d t=(((tSpan (s.extract 0 (s.size-1)) (bad t1)).1,kindU (lastI s) d 3),(tSpan (s.extract 0 (s.size-1)) (bad t1)).2):=by rw [hF];unfold tClockS;rw [if_neg h0,if_neg hdg];simp only [if_neg hne]
    refine w_reg<|mv' lk0 pt42<|V' (v_nckp lk42) pt43<|V' (v_fap0 lk43) pt44<|E' (e_store lk44 (cvl lkb rfl) (hx_at hid) rfl (nb' rfl) rfl SrcV_sc1_1 (hx_set hid)) ptn<|sn'<|w_reg<|mv' lk6 pt45<|mv' lk6 pt46<|V' (v_lenS lk46) pt47<|?_
    refine V' (v_sub lk47 lki (by omega) (by omega)) pt48 ?_
    refine V' (v_sls lk45 on_ (oi lk48) (by omega) (by omega) (by omega)) pt49 ?_
    rw [show s.extract (Int.toNat 0) ((s.size:Int)-1).toNat=s.extract 0 (s.size-1) by congr 1;omega]
    refine mv' lk49 pt6<|sn'<|wr'<|mv' lk0 pt50<|mv' lk6 pt51<|?_
    refine s_calls (mp1 lk50 (mp1 lk51 mp0)) (tspan_a (t:=bad t1) (by first | assumption | (rw [ByteArray.size_extract];omega)) (hx_at hid)) (hx_set hid) pt52 ?_
    refine mv' lk7 pt53<|mv' lk52 pt4<|mv' lk53 pt5<|sn'<|w_rets<|w_ret (rsn (rm1 (rr_t gt4) (rm1 (rr_t gt5) rm0)))<|?_
    exact ⟨_,_,rfl,hx_len hn,hx_lt hlt takE_ltb,rfl,by rw [hT] <;> rfl,by rw [hT] <;> rfl⟩
   have hne:lastI s=byteI wsuA (kindU (lastI s) d 3).toNat:=hL.symm.trans (Decidable.of_not_not hc5)
   have hT:tClock d t=(((tSpan (s.extract 0 (s.size-1)) t1).1,kindU (lastI s) d 3),(tSpan (s.extract 0 (s.size-1)) t1).2):=by rw [hF];unfold tClockS;rw [if_neg h0,if_neg hdg];simp only [if_pos hne]
   refine w_skip<|n_seq<|w_reg<|mv' lk6 pt45<|mv' lk6 pt46<|V' (v_lenS lk46) pt47<|?_
   refine V' (v_sub lk47 lki (by omega) (by omega)) pt48 ?_
   refine V' (v_sls lk45 on_ (oi lk48) (by omega) (by omega) (by omega)) pt49 ?_
   rw [show s.extract (Int.toNat 0) ((s.size:Int)-1).toNat=s.extract 0 (s.size-1) by congr 1;omega]
   refine mv' lk49 pt6<|sn'<|wr'<|mv' lk0 pt50<|mv' lk6 pt51<|?_
   refine s_calls (mp1 lk50 (mp1 lk51 mp0)) (tspan_a (t:=t1) (by first | assumption | (rw [ByteArray.size_extract];omega)) (hx_at hid)) (hx_set hid) pt52 ?_
   refine mv' lk7 pt53<|mv' lk52 pt4<|mv' lk53 pt5<|sn'<|w_rets<|w_ret (rsn (rm1 (rr_t gt4) (rm1 (rr_t gt5) rm0)))<|?_
   exact ⟨_,_,rfl,hx_len hn,hx_lt hlt takE_ltb,rfl,by rw [hT] <;> rfl,by rw [hT] <;> rfl⟩
  have hdg:digB (lastI s)=true:=by rw [←hL];simpa using hc4
  have hT:tClock d t=(((tSpan s t1).1,kindU (lastI s) d 3),(tSpan s t1).2):=by rw [hF];unfold tClockS;rw [if_neg h0,if_pos hdg]
  refine w_skip<|n_seq<|wr'<|mv' lk0 pt50<|mv' lk6 pt51<|?_
  refine s_calls (mp1 lk50 (mp1 lk51 mp0)) (tspan_a (t:=t1) (by first | assumption | (rw [ByteArray.size_extract];omega)) (hx_at hid)) (hx_set hid) pt52 ?_
  refine mv' lk7 pt53<|mv' lk52 pt4<|mv' lk53 pt5<|sn'<|w_rets<|w_ret (rsn (rm1 (rr_t gt4) (rm1 (rr_t gt5) rm0)))<|?_
  exact ⟨_,_,rfl,hx_len hn,hx_lt hlt takE_ltb,rfl,by rw [hT] <;> rfl,by rw [hT] <;> rfl⟩
 have h0:s.size=0:=hem.1 (Decidable.of_not_not hc1)
 have hT:tClock d t=(((tSpan s t1).1,d),(tSpan s t1).2):=by rw [hF];exact if_pos h0
 refine w_skip<|n_seq<|wr'<|mv' lk0 pt50<|mv' lk6 pt51<|?_
 refine s_calls (mp1 lk50 (mp1 lk51 mp0)) (tspan_a (t:=t1) (by first | assumption | (rw [ByteArray.size_extract];omega)) (hx_at hid)) (hx_set hid) pt52 ?_
 refine mv' lk7 pt53<|mv' lk52 pt4<|mv' lk53 pt5<|sn'<|w_rets<|w_ret (rsn (rm1 (rr_t gt4) (rm1 (rr_t gt5) rm0)))<|?_
 exact ⟨_,_,rfl,hx_len hn,hx_lt hlt takE_ltb,rfl,by rw [hT] <;> rfl,by rw [hT] <;> rfl⟩
end Go.Proofs.YtgjchdhdopgkkaaGreatDoor
end
section
namespace Go.Ab
section
variable {P : Program} {n0 : Nat} {Q : AX → List AV → AH → Prop} {T : List AV} {h : AH} {a : AC}
theorem w_seqH {b:AC}{ι:Type}(f:ι→List (Nat×AV)) (H:ι→AH) (J:ι→Prop) (ha:aw P n0 a (AX.thn (fun T' h' => ∃ i,J i∧ALe n0 T' h' (setsT T (f i)) (H i)) Q) T h) (hb : ∀ i,J i→aw P n0 b Q (setsT T (f i)) (H i)):aw P n0 (.seq a b) Q T h :=
 w_seqc (fun i=>(setsT T (f i),H i)) J ha hb
theorem SimH.renew {w:World}{g:Gh}{h:AH}(hs:SimH w g h) {id v':Nat}(hid:id<h.length) (hb : ∀ ver l,g.loc id ver=some l→ver<v') (A:Option Addr) (ty st:Nat) :
  SimH w (g.add id v' (A,0)) (h.set id (.mk v' ty st []))∧g.le (g.add id v' (A,0)) ∧ ∀ k,Ow (g.add id v' (A,0)) (h.set id (.mk v' ty st [])) k→Ow g h k:=by
 have hloc : ∀ i v l,g.loc i v=some l→(g.add id v' (A,0)).loc i v=some l:=by
  intro i v l hi
  simp only [Gh.add]
  rw [if_neg]
  ·exact hi
  ·rintro ⟨rfl,rfl⟩;exact Nat.lt_irrefl _ (hb _ _ hi)
 have:=hs.put (w':=w) (g':=g.add id v' (A,0)) (h':=h.set id (.mk v' ty st [])) id v' ty st [] A 0 ?_ ?_ ?_ rfl hloc ?_ ?_ (fun v l hl=>Nat.le_of_lt (hb v l hl)) (fun k hk=>rfl) (Nat.le_refl _) (by simp [maxLen]) (.inl ⟨rfl,rfl⟩) (fun _ _ h=>absurd rfl h)
 ·exact ⟨this.1,this.2.1,fun k hk=>(this.2.2 k hk).resolve_right (fun h=>h.2 rfl)⟩
 ·intro i hi
  rw [List.getElem?_set_ne (Ne.symm hi)]
 ·rw [List.getElem?_set_self hid]
 ·simp
 ·intro i v l hi
  simp only [Gh.add] at hi
  split at hi
  ·right;assumption
  ·left;exact hi
 ·simp [Gh.add]
theorem set_set_comm {h:AH}{i j:Nat}{x y z:Ent}(hne:j≠i):((h.set i x).set j y).set i z=(h.set i z).set j y:=by
 rw [List.set_comm _ _ hne,List.set_set]
theorem ALe.iceCellNew {T:List AV}{h h1 h2:AH}{id j ver ty s n k v' t' s' ty2 st2:Nat}{cells cs cs' ds:List AV}(hi:h[id]?=some (.mk ver ty s cells)) (hj:h[j]?=some (.mk v' t' s' cs)) (hne:j≠id) (hk:cs[k]?=some (.own id ver n)) (hc:cells.take (n*s)=ds) (hl:n*s≤cells.length) (hp:aPut cs (some k) (.sl n s false ds)=cs')
  (e1:h.set id (.mk (ver+1) ty2 st2 [])=h1) (e2:h1.set j (.mk v' t' s' cs')=h2):ALe n0 T h T h2:=fun w0 S0 g0 a w g st=>by
 subst hp hc e1 e2
 have hid:id<h.length:=(List.getElem?_eq_some_iff.1 hi).1
 obtain ⟨h1,h2,h3⟩:=st.sim.ice hi
 have htm:=RepL.mono (g.le_ice h id) (fun _ _=>rfl) _ _ st.tmps
 obtain ⟨k1,k2⟩:=h1.tell (id:=j) (by rw [List.getElem?_set_ne (Ne.symm hne)];exact hj) hk (fun u hu=>h3 n u hl (by
  simp only [Rep] at hu ⊢
  exact hu))
 obtain ⟨r1,r2,r3⟩:=k1.renew (id:=id) (v':=ver+1) (by simpa using hid) (fun v l hv=>by
  have:=(st.sim.fresh id v l hv).2 _ _ _ _ hi
  omega) none ty2 st2
 have htm2:=RepL.mono r2 (fun _ _=>rfl) _ _ htm
 rw [set_set_comm hne] at r1 r3
 exact ⟨_,htm2,st.defers,r1,st.fr,(st.le.trans (g.le_ice h id)).trans r2,st.bd,fun i hi=>st.ow i (h2 i (k2 i (r3 i hi)))⟩
theorem ALe.own0CellRe {T:List AV}{h h1:AH}{id j ver ty s v' t' s' k st st2 ty2:Nat}{cells cs ds cs':List AV}(hi:h[id]?=some (.mk ver ty s cells)) (hj:h[j]?=some (.mk v' t' s' cs)) (hne:j≠id) (hk:cs[k]?=some (.sl 0 st true ds)) (hp:aPut cs (some k) (.own id (ver+1) 0)=cs') (he:(h.set id (Ent.mk (ver+1) ty2 st2 [])).set j (Ent.mk v' t' s' cs')=h1):ALe n0 T h T h1:=fun w0 S0 g0 a w g s=>by
 subst he hp
 obtain ⟨A1,cap1,l1,l2,l3⟩:=s.sim.ent _ _ _ _ _ hj
 have hid:id<h.length:=(List.getElem?_eq_some_iff.1 hi).1
 have hjl:j<h.length:=(List.getElem?_eq_some_iff.1 hj).1
 rcases l3 with ⟨h0,_⟩ | ⟨b,arr,rfl,x1,x2,x3,x4,x5,x6⟩
 ·rw [h0] at hk;simp at hk
 obtain ⟨u,hu,hr⟩:=x6.get hk
 have hcell:w.cell? ⟨b,k,none⟩=some u:=by
  rw [cell_of_row w b k arr t' (0,0) x3]
  rw [List.getElem?_take] at hu
  split at hu
  ·simpa using hu
  ·cases hu
 simp only [Rep] at hr
 obtain ⟨_,A,cap,rfl,_,_,hc,_,_⟩:=hr
 obtain rfl:cap=0:=(hc trivial).symm
 obtain ⟨q1,q2,q3⟩:=s.sim.renew (id:=id) (v':=ver+1) hid (fun v l hv=>by
  have:=(s.sim.fresh id v l hv).2 _ _ _ _ hi
  omega) A ty2 st2
 have htm:=RepL.mono q2 (fun _ _=>rfl) _ _ s.tmps
 obtain ⟨r1,r2⟩:=q1.tell1 (id:=j) (c':=.own id (ver+1) 0) (by rw [List.getElem?_set_ne (Ne.symm hne)];exact hj) hk (by
  intro b' cap' u' e1 e2 _
  have:=q2.loc _ _ _ l1
  rw [this] at e1
  simp only [Option.some.injEq,Prod.mk.injEq,Addr.mk.injEq] at e1
  obtain ⟨⟨rfl,_⟩,_⟩:=e1
  rw [hcell] at e2
  cases e2
  exact rep_own_new (Nat.le_refl _) (by simp [maxLen]))
 exact ⟨_,htm,s.defers,r1,s.fr,s.le.trans q2,s.bd,fun i hi=>s.ow i (q3 i (r2 i hi))⟩
theorem ALe.newEnt {T:List AV}{h h1:AH}{ty st:Nat}(he:h++[.mk 0 ty st []]=h1):ALe n0 T h T h1:=fun w0 S0 g0 a w g s=>by
 subst he
 obtain ⟨q1,q2,q3⟩:=s.sim.add0 (w':=w) none ty st (fun _ _=>rfl) (Nat.le_refl _)
 exact ⟨_,RepL.mono q2 (fun _ _=>rfl) _ _ s.tmps,s.defers,q1,s.fr,s.le.trans q2,s.bd,fun i hi=>(q3 i hi).elim (s.ow i) (fun h=>.inr (Nat.le_trans s.fr.size h))⟩
end
end Go.Ab
end
section
namespace Go.Proofs.YtgjchdhdopgkkaaGreatDoor
open Go.Ab Go.RowKit Civ
attribute [local simp] str_lt
section
theorem SrcX_sc0_1 {a0 c0:AV}{l:List AV}:setCells (a0::l) 0 [c0]=c0::l:=rfl
theorem SrcX_sc1_1 {a0 a1 c0:AV}{l:List AV}:setCells (a0::a1::l) 1 [c0]=a0::c0::l:=rfl
theorem SrcX_sc2_1 {a0 a1 a2 c0:AV}{l:List AV}:setCells (a0::a1::a2::l) 2 [c0]=a0::a1::c0::l:=rfl
theorem SrcX_sc3_1 {a0 a1 a2 a3 c0:AV}{l:List AV}:setCells (a0::a1::a2::a3::l) 3 [c0]=a0::a1::a2::c0::l:=rfl
theorem SrcX_sc4_3 {a0 a1 a2 a3 a4 a5 a6 c0 c1 c2:AV}{l:List AV}:setCells (a0::a1::a2::a3::a4::a5::a6::l) 4 [c0,c1,c2]=a0::a1::a2::a3::c0::c1::c2::l:=rfl
theorem SrcX_sc7_1 {a0 a1 a2 a3 a4 a5 a6 a7 c0:AV}{l:List AV}:setCells (a0::a1::a2::a3::a4::a5::a6::a7::l) 7 [c0]=a0::a1::a2::a3::a4::a5::a6::c0::l:=rfl
theorem SrcX_sc8_1 {a0 a1 a2 a3 a4 a5 a6 a7 a8 c0:AV}{l:List AV}:setCells (a0::a1::a2::a3::a4::a5::a6::a7::a8::l) 8 [c0]=a0::a1::a2::a3::a4::a5::a6::a7::c0::l:=rfl
theorem SrcX_sc9_1 {a0 a1 a2 a3 a4 a5 a6 a7 a8 a9 c0:AV}{l:List AV}:setCells (a0::a1::a2::a3::a4::a5::a6::a7::a8::a9::l) 9 [c0]=a0::a1::a2::a3::a4::a5::a6::a7::a8::c0::l:=rfl
theorem SrcX_sc10_1 {a0 a1 a2 a3 a4 a5 a6 a7 a8 a9 a10 c0:AV}{l:List AV}:setCells (a0::a1::a2::a3::a4::a5::a6::a7::a8::a9::a10::l) 10 [c0]=a0::a1::a2::a3::a4::a5::a6::a7::a8::a9::c0::l:=rfl
theorem SrcX_tk0_11 {a0 a1 a2 a3 a4 a5 a6 a7 a8 a9 a10:AV}{l:List AV}:((a0::a1::a2::a3::a4::a5::a6::a7::a8::a9::a10::l).drop 0).take 11=[a0,a1,a2,a3,a4,a5,a6,a7,a8,a9,a10]:=rfl
theorem SrcX_sc0_11 {a0 a1 a2 a3 a4 a5 a6 a7 a8 a9 a10 c0 c1 c2 c3 c4 c5 c6 c7 c8 c9 c10:AV}{l:List AV}:setCells (a0::a1::a2::a3::a4::a5::a6::a7::a8::a9::a10::l) 0 [c0,c1,c2,c3,c4,c5,c6,c7,c8,c9,c10]=c0::c1::c2::c3::c4::c5::c6::c7::c8::c9::c10::l:=rfl
theorem SrcX_sc4_1 {a0 a1 a2 a3 a4 c0:AV}{l:List AV}:setCells (a0::a1::a2::a3::a4::l) 4 [c0]=a0::a1::a2::a3::c0::l:=rfl
theorem SrcX_tk0_10 {a0 a1 a2 a3 a4 a5 a6 a7 a8 a9:AV}{l:List AV}:((a0::a1::a2::a3::a4::a5::a6::a7::a8::a9::l).drop 0).take 10=[a0,a1,a2,a3,a4,a5,a6,a7,a8,a9]:=rfl
theorem SrcX_sc0_10 {a0 a1 a2 a3 a4 a5 a6 a7 a8 a9 c0 c1 c2 c3 c4 c5 c6 c7 c8 c9:AV}{l:List AV}:setCells (a0::a1::a2::a3::a4::a5::a6::a7::a8::a9::l) 0 [c0,c1,c2,c3,c4,c5,c6,c7,c8,c9]=c0::c1::c2::c3::c4::c5::c6::c7::c8::c9::l:=rfl
theorem SrcX_EraOf_98 {τ:Operand→AV}{y0 y1 y2:Operand}{x0_0 x1_0 x2_0:AV}(h0:cellsV (τ y0)=some [x0_0]) (l0:[x0_0].all leaf=true) (h1:cellsV (τ y1)=some [x1_0]) (l1:[x1_0].all leaf=true) (h2:cellsV (τ y2)=some [x2_0]) (l2:[x2_0].all leaf=true):fillAV τ [(0,1,y0),(1,1,y1),(2,1,y2)] [(.v (.int .i64 0)),(.v (.int .i64 0)),(.v (.int .i64 0))]=some [x0_0,x1_0,x2_0]:=by
 simp only [fillAV,h0,l0,h1,l1,h2,l2]
 rfl
theorem SrcX_sc5_3 {a0 a1 a2 a3 a4 a5 a6 a7 c0 c1 c2:AV}{l:List AV}:setCells (a0::a1::a2::a3::a4::a5::a6::a7::l) 5 [c0,c1,c2]=a0::a1::a2::a3::a4::c0::c1::c2::l:=rfl
end
def c51:AC:=(.seq (.reg [Oo 2 (.new 48 11 [Ss,(iv 0),(iv 0),(iv 0),(iv 0),(iv 0),(iv 0),(iv 0),(iv 0),(iv 0),Ss])]) (.seq (.reg [Oo 3 (.new 48 11 [Ss,(iv 0),(iv 0),(iv 0),(iv 0),(iv 0),(iv 0),(iv 0),(iv 0),(iv 0),Ss])]) (.seq (.reg [Mv 5 0,Oo 6 (.call (.func 52) [(.tmp 5)]),Fa 7 0 3,⟨none,none,(.store 1 (.tmp 7) (.tmp 6))⟩]) (.seq (.reg [Mv 8 0,Mv 9 0,Oo 10 (.call (.func 49) [(.tmp 9)]),Oo 11 (.call (.func 88) [(.tmp 8),(.tmp 10),(Ci 4),(Ci 4)]),Fa 12 1 3,⟨none,none,(.store 1 (.tmp 12) (.tmp 11))⟩]) (.seq (.reg [Mv 13 0,Oo 14 (.call (.func 49) [(.tmp 13)]),Mv 4 14]) (.seq (.seq (.reg [Mv 15 4]) (.block 0 (.seq (.reg [Oo 21 (.bin .eql (.tmp 15) (.const (.string ⟨#[111,110,108,121]⟩))),Mv 20 21]) (.cond (.tmp 20) (.reg [Fa 22 1 3,Ld 23 22,Fa 24 2 3,⟨none,none,(.store 1 (.tmp 24) (.tmp 23))⟩]) (.seq (.reg [Oo 26 (.bin .eql (.tmp 15) (.const (.string ⟨#[109,97,120]⟩))),Mv 25 26]) (.cond (.tmp 25) (.reg [Fa 27 2 3,⟨none,none,(.store 1 (.tmp 27) (Ci 2100))⟩]) (.reg [Mv 16 0,Mv 17 4,Oo 18 (.call (.func 88) [(.tmp 16),(.tmp 17),(Ci 4),(Ci 4)]),Fa 19 2 3,⟨none,none,(.store 1 (.tmp 19) (.tmp 18))⟩]))))))) (.seq (.reg [Mv 28 0,Oo 29 (.call (.func 89) [(.tmp 28)]),Fa 30 3 3,⟨none,none,(.store 1 (.tmp 30) (.tmp 29))⟩]) (.seq (.reg [Mv 31 0,Oo 32 (.call (.func 91) [(.tmp 31)]),Fa 33 4 3,⟨none,none,(.store 3 (.tmp 33) (.tmp 32))⟩]) (.seq (.reg [Mv 35 0,Oo 36 (.call (.func 90) [(.tmp 35),(Ci 1)]),Mv 34 36,Ex 37 34 0,Ex 38 34 1,Fa 39 7 3,⟨none,none,(.store 1 (.tmp 39) (.tmp 37))⟩,Fa 40 8 3,⟨none,none,(.store 1 (.tmp 40) (.tmp 38))⟩]) (.seq (.reg [Mv 41 0,Mv 42 0,Oo 43 (.call (.func 49) [(.tmp 42)]),Oo 44 (.call (.func 87) [(.tmp 41),(.tmp 43)]),Fa 45 9 3,⟨none,none,(.store 1 (.tmp 45) (.tmp 44))⟩]) (.seq (.reg [Mv 46 0,Oo 47 (.call (.func 49) [(.tmp 46)]),Mv 4 47]) (.seq (.seq (.reg [Mv 48 4,Oo 49 (.bin .eql (.tmp 48) (.const (.string ⟨#[]⟩))),Mv 50 49,Of 51 50 (.mv (.tmp 4)),Of 52 50 (.bin .neq (.tmp 51) (.const (.string ⟨#[45]⟩))),Of 53 50 (.mv (.tmp 52)),Ot 54 53 (.mv (.tmp 4)),Ot 55 53 (.call (.func 67) [(.tmp 54)]),Ot 56 53 (.un .not (.tmp 55)),Of 57 50 (.pick (.tmp 53) (.tmp 56) (.const (.bool false))),Oo 58 (.pick (.tmp 50) (.const (.bool true)) (.tmp 57))]) (.cond (.tmp 58) (.reg [Mv 59 0,Nk 60 59,Fa 61 1 60,⟨none,none,(.store 1 (.tmp 61) (.const (.bool true)))⟩]) .skip)) (.seq (.seq (.reg [Mv 62 4,Oo 63 (.bin .neq (.tmp 62) (.const (.string ⟨#[45]⟩)))]) (.cond (.tmp 63) (.reg [Mv 64 4,Fa 65 10 3,⟨none,none,(.store 1 (.tmp 65) (.tmp 64))⟩]) .skip)) (.seq (.reg [Oo 66 (.load true 11 (.tmp 3)),⟨none,none,(.store 11 (.tmp 2) (.tmp 66))⟩]) .ret))))))))))))))
theorem k51:compF Tryz.prog 51=some ⟨c51,[(.cell 2 true 11)],67⟩:=by kernel_rfl
def c50:AC:=(.seq (.reg [Oo 2 (.new 64 10 [(iv 0),Ss,(iv 0),Ss,(.v (.bool false)),(iv 0),(iv 0),(iv 0),(iv 0),(iv 0)])]) (.seq (.reg [Oo 3 (.new 64 10 [(iv 0),Ss,(iv 0),Ss,(.v (.bool false)),(iv 0),(iv 0),(iv 0),(iv 0),(iv 0)])]) (.seq (.reg [Mv 8 0,Oo 9 (.call (.func 49) [(.tmp 8)]),Mv 4 9]) (.seq (.seq (.reg [Mv 10 4,Oo 11 (.bin .neq (.tmp 10) (.const (.string ⟨#[]⟩))),Mv 12 11,Ot 13 12 (.mv (.tmp 4)),Ot 14 12 (.ix (.tmp 13) (Ci 0)),Ot 15 12 (.bin .eql (.tmp 14) (.const (.int .u8 45))),Oo 16 (.pick (.tmp 12) (.tmp 15) (.const (.bool false)))]) (.cond (.tmp 16) (.reg [Mv 17 0,Mv 18 4,Oo 19 (.sls (.tmp 18) (some (Ci 1)) none),Oo 20 (.call (.func 87) [(.tmp 17),(.tmp 19)]),Oo 21 (.un .neg (.tmp 20)),Fa 22 0 3,⟨none,none,(.store 1 (.tmp 22) (.tmp 21))⟩]) (.reg [Mv 23 0,Mv 24 4,Oo 25 (.call (.func 87) [(.tmp 23),(.tmp 24)]),Fa 26 0 3,⟨none,none,(.store 1 (.tmp 26) (.tmp 25))⟩]))) (.seq (.reg [Mv 27 0,Oo 28 (.call (.func 49) [(.tmp 27)]),Mv 4 28]) (.seq (.block 0 (.seq (.reg [Mv 38 4,Oo 39 (.bin .eql (.tmp 38) (.const (.string ⟨#[45]⟩))),Mv 37 39]) (.cond (.tmp 37) .skip (.seq (.reg [Mv 41 4,Oo 42 (.bin .neq (.tmp 41) (.const (.string ⟨#[]⟩))),Mv 43 42,Ot 44 43 (.mv (.tmp 4)),Ot 45 43 (.ix (.tmp 44) (Ci 0)),Ot 46 43 (.call (.func 71) [(.tmp 45)]),Oo 47 (.pick (.tmp 43) (.tmp 46) (.const (.bool false))),Mv 40 47]) (.cond (.tmp 40) (.seq (.seq (.reg [Mv 48 4,Oo 49 (.bin .eql (.tmp 48) (.const (.string ⟨#[48]⟩)))]) (.cond (.tmp 49) (.reg [Mv 50 0,Nk 51 50,Fa 52 1 51,⟨none,none,(.store 1 (.tmp 52) (.const (.bool true)))⟩]) .skip)) (.reg [Mv 53 0,Mv 54 4,Oo 55 (.call (.func 87) [(.tmp 53),(.tmp 54)]),Fa 56 2 3,⟨none,none,(.store 1 (.tmp 56) (.tmp 55))⟩])) (.seq (.seq (.reg [Mv 29 4,Oo 30 (.call (.func 25) [(.tmp 29)]),Oo 31 (.un .not (.tmp 30))]) (.cond (.tmp 31) (.reg [Mv 32 0,Nk 33 32,Fa 34 1 33,⟨none,none,(.store 1 (.tmp 34) (.const (.bool true)))⟩]) .skip)) (.reg [Mv 35 4,Fa 36 1 3,⟨none,none,(.store 1 (.tmp 36) (.tmp 35))⟩]))))))) (.seq (.reg [Mv 57 0,Oo 58 (.call (.func 49) [(.tmp 57)]),Fa 59 3 3,⟨none,none,(.store 1 (.tmp 59) (.tmp 58))⟩]) (.seq (.seq (.reg [Fa 60 3 3,Ld 61 60,Oo 62 (.call (.func 72) [(.tmp 61)]),Oo 63 (.un .not (.tmp 62))]) (.cond (.tmp 63) (.reg [Mv 64 0,Nk 65 64,Fa 66 1 65,⟨none,none,(.store 1 (.tmp 66) (.const (.bool true)))⟩]) .skip)) (.seq (.seq (.reg [Mv 67 0,Nk 68 67,Fa 69 0 68,Ld 70 69,Oo 71 (.len false (.tmp 70)),Oo 72 (.bin .eql (.tmp 71) (Ci 0))]) (.cond (.tmp 72) (.seq (.reg [Fa 73 4 3,⟨none,none,(.store 1 (.tmp 73) (.const (.bool true)))⟩]) (.seq (.reg [Oo 74 (.load true 10 (.tmp 3)),⟨none,none,(.store 10 (.tmp 2) (.tmp 74))⟩]) .ret)) .skip)) (.seq (.reg [Mv 75 0,Mv 76 0,Oo 77 (.call (.func 49) [(.tmp 76)]),Oo 78 (.call (.func 88) [(.tmp 75),(.tmp 77),(Ci 4),(Ci 4)]),Mv 5 78]) (.seq (.reg [Mv 79 0,Oo 80 (.call (.func 89) [(.tmp 79)]),Mv 6 80]) (.seq (.reg [Mv 81 0,Mv 82 0,Oo 83 (.call (.func 49) [(.tmp 82)]),Oo 84 (.call (.func 88) [(.tmp 81),(.tmp 83),(Ci 1),(Ci 2)]),Mv 7 84]) (.seq (.reg [Mv 85 5,Mv 86 6,Mv 87 7,Oo 88 (.build [(iv 0),(iv 0),(iv 0)] [(0,(1,(.tmp 85))),(1,(1,(.tmp 86))),(2,(1,(.tmp 87)))]),Fa 89 5 3,Fa 90 0 89,⟨none,none,(.store 3 (.tmp 90) (.tmp 88))⟩]) (.seq (.reg [Mv 92 0,Oo 93 (.call (.func 90) [(.tmp 92),(Ci 2)]),Mv 91 93,Ex 94 91 0,Ex 95 91 1,Fa 96 5 3,Fa 97 3 96,⟨none,none,(.store 1 (.tmp 97) (.tmp 94))⟩,Fa 98 5 3,Fa 99 4 98,⟨none,none,(.store 1 (.tmp 99) (.tmp 95))⟩]) (.seq (.seq (.reg [Fa 100 5 3,Fa 101 4 100,Ld 102 101,Oo 103 (.bin .eql (.tmp 102) (Ci 1))]) (.cond (.tmp 103) (.reg [Mv 104 0,Nk 105 104,Fa 106 1 105,⟨none,none,(.store 1 (.tmp 106) (.const (.bool true)))⟩]) .skip)) (.seq (.reg [Oo 107 (.load true 10 (.tmp 3)),⟨none,none,(.store 10 (.tmp 2) (.tmp 107))⟩]) .ret))))))))))))))))
theorem k50:compF Tryz.prog 50=some ⟨c50,[(.cell 2 true 10)],108⟩:=by kernel_rfl
def okT (t:TS):Prop := ∀ x∈t.1,x.size≤24
theorem okT_of {t u:TS}(h:u.1=t.1) (ho:okT t):okT u:=by unfold okT;rw [h];exact ho
theorem okT_next {t u:TS}{s:ByteArray}(ho:okT t) (e:tNext t=(s,u)):s.size≤24∧okT u:=by
 unfold tNext at e
 split at e
 ·cases e;exact ⟨by decide,ho⟩
 rename_i hn
 obtain ⟨l,b⟩:=t
 cases l with
 | nil=>exact absurd (.inr rfl) hn
 | cons x l=>cases e;exact ⟨ho x (by simp),fun y hy=>ho y (by simp only [List.mem_cons];exact .inr hy)⟩
theorem tNum_fst {s:ByteArray}{a b:Int}{t:TS}:(tNum s a b t).2.1=t.1:=by unfold tNum;split <;> rfl
theorem tWeek_fst {s:ByteArray}{t:TS}:(tWeek s t).2.1=t.1:=by unfold tWeek;split <;> rfl
theorem tSix_fst {s:ByteArray}{t:TS}:(tSix s t).2.1=t.1:=by unfold tSix;dsimp only;split <;> exact tNum_fst
theorem tSpan_fst {s:ByteArray}{t:TS}:(tSpan s t).2.1=t.1:=by
 unfold tSpan
 split
 ·rfl
 unfold tSpanL
 split
 ·exact tSix_fst.trans tNum_fst
 ·exact tSix_fst.trans (tSix_fst.trans tNum_fst)
 rfl
theorem tFormS_fst {s:ByteArray}{t:TS}:(tFormS s t).2.1=t.1:=by
 unfold tFormS
 split
 ·exact tWeek_fst
 split
 ·exact tNum_fst
 exact tNum_fst.trans tWeek_fst
theorem tClockS_fst {d:Int}{s:ByteArray}{t:TS}:(tClockS d s t).2.1=t.1:=by
 unfold tClockS
 split
 ·exact tSpan_fst
 split
 ·exact tSpan_fst
 refine tSpan_fst.trans ?_
 split <;> rfl
theorem tTo_fst {f:Int}{s:ByteArray}{t:TS}:(tTo f s t).2.1=t.1:=by
 unfold tTo
 split
 ·rfl
 split
 ·rfl
 exact tNum_fst
theorem okT_name {t u:TS}{s:ByteArray}(ho:okT t) (e:tName t=(s,u)):okT u:=by
 obtain ⟨x,v,ev⟩ : ∃ x v,tNext t=(x,v):=⟨_,_,rfl⟩
 unfold tName at e
 rw [ev] at e
 have:=(okT_next ho ev).2
 simp only [Prod.mk.injEq] at e
 obtain ⟨_,e2⟩:=e
 subst e2
 split
 ·exact this
 exact this
theorem okT_month {t u:TS}{n:Int}(ho:okT t) (e:tMonth t=(n,u)):okT u:=by
 obtain ⟨x,v,ev⟩ : ∃ x v,tNext t=(x,v):=⟨_,_,rfl⟩
 unfold tMonth at e
 rw [ev] at e
 have:=(okT_next ho ev).2
 split at e <;> cases e <;> exact this
theorem okT_num {s:ByteArray}{a b n:Int}{t u:TS}(ho:okT t) (e:tNum s a b t=(n,u)):okT u:=okT_of (by have := @tNum_fst s a b t;rw [e] at this;exact this) ho
theorem okT_span {s:ByteArray}{n:Int}{t u:TS}(ho:okT t) (e:tSpan s t=(n,u)):okT u:=okT_of (by have := @tSpan_fst s t;rw [e] at this;exact this) ho
theorem okT_to {f:Int}{s:ByteArray}{n:Int}{t u:TS}(ho:okT t) (e:tTo f s t=(n,u)):okT u:=okT_of (by have := @tTo_fst f s t;rw [e] at this;exact this) ho
theorem okT_form {n:Frm}{t u:TS}(ho:okT t) (e:tForm t=(n,u)):okT u:=by
 obtain ⟨x,v,ev⟩ : ∃ x v,tNext t=(x,v):=⟨_,_,rfl⟩
 unfold tForm at e
 rw [ev] at e
 exact okT_of (by have := @tFormS_fst x v;rw [e] at this;exact this) (okT_next ho ev).2
theorem okT_clock {d:Int}{n:Int×Int}{t u:TS}(ho:okT t) (e:tClock d t=(n,u)):okT u:=by
 obtain ⟨x,v,ev⟩ : ∃ x v,tNext t=(x,v):=⟨_,_,rfl⟩
 unfold tClock at e
 rw [ev] at e
 exact okT_of (by have := @tClockS_fst d x v;rw [e] at this;exact this) (okT_next ho ev).2
theorem tname_e {t t1:TS}{s:ByteArray}{id:Nat}{h:AH}(ho:okT t) (he:tName t=(s,t1)) (h1:h[id]?=some (takE t)):ACalls Tryz.prog 52 [.ptr id 0 0] h fun x h'=>x = .ret (sv s)∧h'=h.set id (takE t1):=by
 have:=tname_a (by have:=(okT_next ho (s:=(tNext t).1) (u:=(tNext t).2) rfl).1;unfold maxLen;omega) h1
 rw [he] at this
 exact this
theorem tnum_e {s:ByteArray}{a b n:Int}{t t1:TS}{id:Nat}{h:AH}(hb:b≤4) (he:tNum s a b t=(n,t1)) (h1:h[id]?=some (takE t)):ACalls Tryz.prog 88 [.ptr id 0 0,sv s,iv a,iv b] h fun x h'=>x = .ret (iv n)∧h'=h.set id (takE t1):=by
 have:=tnum_a (s:=s) (a:=a) hb h1
 rw [he] at this
 exact this
theorem tmonth_e {n:Int}{t t1:TS}{id:Nat}{h:AH}(he:tMonth t=(n,t1)) (h1:h[id]?=some (takE t)):ACalls Tryz.prog 89 [.ptr id 0 0] h fun x h'=>x = .ret (iv n)∧h'=h.set id (takE t1):=by
 have:=tmonth_a h1
 rw [he] at this
 exact this
theorem tform_e {n:Frm}{t t1:TS}{id:Nat}{h:AH}(ho:okT t) (he:tForm t=(n,t1)) (h1:h[id]?=some (takE t)):ACalls Tryz.prog 91 [.ptr id 0 0] h fun x h'=>x = .ret (.agg [iv n.1,iv n.2.1,iv n.2.2])∧h'=h.set id (takE t1):=by
 have:=tform_a (okT_next ho (s:=(tNext t).1) (u:=(tNext t).2) rfl).1 h1
 rw [he] at this
 exact this
theorem tclock_e {d:Int}{n:Int×Int}{t t1:TS}{id:Nat}{h:AH}(hd:d=1∨d=2) (ho:okT t) (he:tClock d t=(n,t1)) (h1:h[id]?=some (takE t)):ACalls Tryz.prog 90 [.ptr id 0 0,iv d] h fun x h'=>x = .ret (.tup [iv n.1,iv n.2])∧h'=h.set id (takE t1):=by
 have:=tclock_a hd (okT_next ho (s:=(tNext t).1) (u:=(tNext t).2) rfl).1 h1
 rw [he] at this
 exact this
theorem tspan_e {s:ByteArray}{n:Int}{t t1:TS}{id:Nat}{h:AH}(hz:s.size≤24) (he:tSpan s t=(n,t1)) (h1:h[id]?=some (takE t)):ACalls Tryz.prog 87 [.ptr id 0 0,sv s] h fun x h'=>x = .ret (iv n)∧h'=h.set id (takE t1):=by
 have:=tspan_a hz h1
 rw [he] at this
 exact this
set_option maxHeartbeats 2000000 in
theorem trule_a {t:TS}{id:Nat}{h:AH}(ho:okT t) (h1:h[id]?=some (takE t)):ACalls Tryz.prog 51 [.ptr id 0 0] h fun x h'=>x = .ret (.agg (rulC (tRule t).1))∧h'=h.set id (takE (tRule t).2):=by
 have hid:id<h.length:=(List.getElem?_eq_some_iff.1 h1).1
 obtain ⟨nm,t1,e1⟩ : ∃ a b,tName t=(a,b):=⟨_,_,rfl⟩
 have o1:=okT_name ho e1
 obtain ⟨s2,t2,e2⟩ : ∃ a b,tNext t1=(a,b):=⟨_,_,rfl⟩
 obtain ⟨z2,o2⟩:=okT_next o1 e2
 obtain ⟨f,t3,e3⟩ : ∃ a b,tNum s2 4 4 t2=(a,b):=⟨_,_,rfl⟩
 have o3:=okT_num o2 e3
 obtain ⟨s4,t4,e4⟩ : ∃ a b,tNext t3=(a,b):=⟨_,_,rfl⟩
 obtain ⟨z4,o4⟩:=okT_next o3 e4
 obtain ⟨yr,t5,e5⟩ : ∃ a b,tTo f s4 t4=(a,b):=⟨_,_,rfl⟩
 have o5:=okT_to o4 e5
 obtain ⟨m,t6,e6⟩ : ∃ a b,tMonth t5=(a,b):=⟨_,_,rfl⟩
 have o6:=okT_month o5 e6
 obtain ⟨k,t7,e7⟩ : ∃ a b,tForm t6=(a,b):=⟨_,_,rfl⟩
 have o7:=okT_form o6 e7
 obtain ⟨c,t8,e8⟩ : ∃ a b,tClock 1 t7=(a,b):=⟨_,_,rfl⟩
 have o8:=okT_clock o7 e8
 obtain ⟨s9,t9,e9⟩ : ∃ a b,tNext t8=(a,b):=⟨_,_,rfl⟩
 obtain ⟨z9,o9⟩:=okT_next o8 e9
 obtain ⟨svd,t10,e10⟩ : ∃ a b,tSpan s9 t9=(a,b):=⟨_,_,rfl⟩
 have o10:=okT_span o9 e10
 obtain ⟨s11,t11,e11⟩ : ∃ a b,tNext t10=(a,b):=⟨_,_,rfl⟩
 obtain ⟨z11,o11⟩:=okT_next o10 e11
 have hR:tRule t=((nm,f,yr,m,k,c.1,c.2,svd,(tLetter t10).1),(tLetter t10).2):=by
  simp only [tRule,bind2,ret2,tYear,tToN,tSpanN,e1,e2,e3,e4,e5,e6,e7,e8,e9,e10]
 have hL:tLetter t10=(if s11=bA [45] then ⟨#[]⟩ else s11,if letterB s11=true then t11 else bad t11):=by unfold tLetter;rw [e11]
 refine tJ' k51 fun N hn hlt hlA hbd=>?_
 simp only [tA',AV.bdL,AV.bd,and_true,true_and] at hbd ⊢
 refine aw_heap (h1:=h.set id (takE t)++[]) (by rw [hx_self h1]) ?_
 refine wr'<|E' (e_new (hl0 (hx_len hn)) ha0) pt2<|sn'<|wr'<|E' (e_new (hl1 (hx_len hn)) ha1) pt3<|sn'<|wr'<|mv' lk0 pt5<|s_calls (mp1 lk5 mp0) (tname_e ho e1 (hx_at hid)) (hx_set hid) pt6<|?_
 refine V' (v_fap0 lk3) pt7<|E' (e_store lk7 (cvl lk6 rfl) (hga (hx_len hn) rfl) rfl (nb' rfl) rfl SrcX_sc0_1 (hs1 (hx_len hn))) ptn<|sn'<|wr'<|mv' lk0 pt8<|mv' lk0 pt9<|s_calls (mp1 lk9 mp0) (tnext_e e2 (hx_at hid)) (hx_set hid) pt10<|?_
 refine s_calls (mp1 lk8 (mp1 lk10 (mp1 lki (mp1 lki mp0)))) (tnum_e (by omega) e3 (hx_at hid)) (hx_set hid) pt11 ?_
 refine V' (v_fap0 lk3) pt12<|E' (e_store lk12 (cvl lk11 rfl) (hga (hx_len hn) rfl) rfl (nb' rfl) rfl SrcX_sc1_1 (hs1 (hx_len hn))) ptn<|sn'<|wr'<|mv' lk0 pt13<|s_calls (mp1 lk13 mp0) (tnext_e e4 (hx_at hid)) (hx_set hid) pt14<|mv' lk14 pt4<|sn'<|?_
 refine w_seqH (ι:=Unit) (fun (u:Unit)=>[]++rn' 15 13) (fun (u:Unit)=>h.set id (takE t5)++[.mk 0 48 11 [sv ⟨#[]⟩,iv 0,iv 0,iv 0,iv 0,iv 0,iv 0,iv 0,iv 0,iv 0,sv ⟨#[]⟩],.mk 0 48 11 [sv nm,iv f,iv yr,iv 0,iv 0,iv 0,iv 0,iv 0,iv 0,iv 0,sv ⟨#[]⟩]]) (fun (u:Unit)=>True) ?_ ?_
 ·try simp only [setsT,setsE,z',s',rn',la',ln',Nat.reduceAdd]
  refine wr'<|mv' lk4 pt15<|sn'<|w_block<|wr'<|V' (v_eqlS lk15 lks) pt21<|mv' lk21 pt20<|sn'<|?_
  refine cd' lk20 (fun hc1=>?_) (fun hc1=>?_)
  ·have hq:yr=f∧t5=t4:=by rw [tTo,if_pos (show s4=onlyA from hc1)] at e5;cases e5;exact ⟨rfl,rfl⟩
   obtain ⟨rfl,rfl⟩:=hq
   refine w_reg<|V' (v_fap0 lk3) pt22<|V' (v_loadp lk22 (hga (hx_len hn) rfl) gt1) pt23<|V' (v_fap0 lk3) pt24<|E' (e_store lk24 (cvl lk23 rfl) (hga (hx_len hn) rfl) rfl (nb' rfl) rfl SrcX_sc2_1 (hs1 (hx_len hn))) ptn<|s_nil<|n_blk<|n_thn<|?_
   exact cT' (()) (by trivial)
  refine wr'<|V' (v_eqlS lk15 lks) pt26<|mv' lk26 pt25<|sn'<|?_
  refine cd' lk25 (fun hc2=>?_) (fun hc2=>?_)
  ·have hq:yr=2100∧t5=t4:=by rw [tTo,if_neg (show ¬s4=onlyA from hc1),if_pos (show s4=maxA from hc2)] at e5;cases e5;exact ⟨rfl,rfl⟩
   obtain ⟨rfl,rfl⟩:=hq
   refine w_reg<|V' (v_fap0 lk3) pt27<|E' (e_store lk27 (cvl lki rfl) (hga (hx_len hn) rfl) rfl (nb' rfl) rfl SrcX_sc2_1 (hs1 (hx_len hn))) ptn<|s_nil<|n_blk<|n_thn<|?_
   exact cT' (()) (by trivial)
  have hq:tNum s4 4 4 t4=(yr,t5):=by rw [tTo,if_neg (show ¬s4=onlyA from hc1),if_neg (show ¬s4=maxA from hc2)] at e5;exact e5
  refine w_reg<|mv' lk0 pt16<|mv' lk4 pt17<|?_
  refine s_calls (mp1 lk16 (mp1 lk17 (mp1 lki (mp1 lki mp0)))) (tnum_e (by omega) hq (hx_at hid)) (hx_set hid) pt18 ?_
  refine V' (v_fap0 lk3) pt19<|E' (e_store lk19 (cvl lk18 rfl) (hga (hx_len hn) rfl) rfl (nb' rfl) rfl SrcX_sc2_1 (hs1 (hx_len hn))) ptn<|s_nil<|n_blk<|n_thn<|?_
  exact cT' (()) (by trivial)
 rintro u hq9
 try simp only [setsT,setsE,z',s',rn',la',ln',Nat.reduceAdd]
 refine wr'<|mv' lk0 pt28<|s_calls (mp1 lk28 mp0) (tmonth_e e6 (hx_at hid)) (hx_set hid) pt29<|V' (v_fap0 lk3) pt30<|E' (e_store lk30 (cvl lk29 rfl) (hga (hx_len hn) rfl) rfl (nb' rfl) rfl SrcX_sc3_1 (hs1 (hx_len hn))) ptn<|sn'<|wr'<|mv' lk0 pt31<|s_calls (mp1 lk31 mp0) (tform_e o6 e7 (hx_at hid)) (hx_set hid) pt32<|V' (v_fap0 lk3) pt33<|E' (e_store lk33 (cvl lk32 rfl) (hga (hx_len hn) rfl) rfl (nb' rfl) rfl SrcX_sc4_3 (hs1 (hx_len hn))) ptn<|?_
 refine sn'<|wr'<|mv' lk0 pt35<|s_calls (mp1 lk35 (mp1 lki mp0)) (tclock_e (.inl rfl) o7 e8 (hx_at hid)) (hx_set hid) pt36<|mv' lk36 pt34<|V' (v_ext lk34 gt0) pt37<|V' (v_ext lk34 gt1) pt38<|V' (v_fap0 lk3) pt39<|E' (e_store lk39 (cvl lk37 rfl) (hga (hx_len hn) rfl) rfl (nb' rfl) rfl SrcX_sc7_1 (hs1 (hx_len hn))) ptn<|V' (v_fap0 lk3) pt40<|E' (e_store lk40 (cvl lk38 rfl) (hga (hx_len hn) rfl) rfl (nb' rfl) rfl SrcX_sc8_1 (hs1 (hx_len hn))) ptn<|s_nil<|?_
 refine n_seq<|wr'<|mv' lk0 pt41<|mv' lk0 pt42<|s_calls (mp1 lk42 mp0) (tnext_e e9 (hx_at hid)) (hx_set hid) pt43<|s_calls (mp1 lk41 (mp1 lk43 mp0)) (tspan_e z9 e10 (hx_at hid)) (hx_set hid) pt44<|V' (v_fap0 lk3) pt45<|E' (e_store lk45 (cvl lk44 rfl) (hga (hx_len hn) rfl) rfl (nb' rfl) rfl SrcX_sc9_1 (hs1 (hx_len hn))) ptn<|sn'<|wr'<|mv' lk0 pt46<|?_
 refine s_calls (mp1 lk46 mp0) (tnext_e e11 (hx_at hid)) (hx_set hid) pt47<|mv' lk47 pt4<|sn'<|w_seq<|wr'<|mv' lk4 pt48<|V' (v_eqlS lk48 lks) pt49<|mv' lk49 pt50<|?_
 refine sp' gt50 pt50 pt50 (fun hg50=>?_) (fun hg50=>?_)
 ·have hLt:tLetter t10=(s11,bad t11):=by rw [hL,hg50];rfl
  refine s_no gt50 pt51<|s_no gt50 pt52<|s_no gt50 pt53<|s_nu gt53 pt54<|s_nu gt53 pt55<|s_nu gt53 pt56<|s_no gt50 pt57<|V' (v_pickT lk50 lkb) pt58<|sn'<|w_condT lk58<|w_reg<|mv' lk0 pt59<|V' (v_nckp lk59) pt60<|?_
  refine V' (v_fap0 lk60) pt61<|E' (e_store lk61 (cvl lkb rfl) (hx_at hid) rfl (nb' rfl) rfl SrcX_sc1_1 (hx_set hid)) ptn<|sn'<|w_seq<|wr'<|mv' lk4 pt62<|V' (v_neqS lk62 lks) pt63<|sn'<|?_
  refine w_condK lk63 (by exact decide_eq_true (by rw [hg50];decide)) ?_
  refine w_reg<|mv' lk4 pt64<|V' (v_fap0 lk3) pt65<|E' (e_store lk65 (cvl lk64 rfl) (hga (hx_len hn) rfl) rfl (nb' rfl) rfl SrcX_sc10_1 (hs1 (hx_len hn))) ptn<|sn'<|wr'<|V' (v_loadpA lk3 (hga (hx_len hn) rfl) SrcX_tk0_11 rfl) pt66<|E' (e_store lk2 (cvl lk66 rfl) (hga (hx_len hn) rfl) rfl (nb' rfl) rfl SrcX_sc0_11 (hs0 (hx_len hn))) ptn<|sn'<|w_rets<|w_ret (rs1 (rr_c gt2 (hga (hx_len hn) rfl) (ld1 SrcX_tk0_11 rfl)))<|?_
  rw [hLt] at hR
  exact ⟨_,_,rfl,hx_len hn,hx_lt hlt takE_ltb,rfl,by rw [hR] <;> rfl,by rw [hR] <;> rfl⟩
 refine s_do gt50<|mv' lk4 pt51<|s_do gt50<|V' (v_neqS lk51 lks) pt52<|s_do gt50<|mv' lk52 pt53<|?_
 refine sp' gt53 pt53 pt53 (fun hg53=>?_) (fun hg53=>?_)
 ·refine s_do gt53<|mv' lk4 pt54<|s_do gt53<|?_
  refine s_callp (mp1 lk54 mp0) (risLetters_a (by unfold maxLen;omega)) pt55 ?_
  refine s_do gt53<|V' (v_notB lk55) pt56<|s_do gt50<|V' (v_pickT lk53 lk56) pt57<|V' (v_pickF lk50 lk57) pt58<|sn'<|?_
  refine w_condB lk58 (fun hc3=>?_) (fun hc3=>?_)
  ·have hl:lettersB s11=false:=by simpa using hc3
   have hLt:tLetter t10=(s11,bad t11):=by rw [hL,if_neg (show ¬s11=bA [45] from hg53),if_neg (by unfold letterB;rw [hl,decide_eq_false (show ¬s11=bA [45] from hg53)];simp)]
   refine w_reg<|mv' lk0 pt59<|V' (v_nckp lk59) pt60<|V' (v_fap0 lk60) pt61<|E' (e_store lk61 (cvl lkb rfl) (hx_at hid) rfl (nb' rfl) rfl SrcX_sc1_1 (hx_set hid)) ptn<|sn'<|w_seq<|wr'<|mv' lk4 pt62<|V' (v_neqS lk62 lks) pt63<|sn'<|?_
   refine w_condK lk63 (by exact decide_eq_true hg53) ?_
   refine w_reg<|mv' lk4 pt64<|V' (v_fap0 lk3) pt65<|E' (e_store lk65 (cvl lk64 rfl) (hga (hx_len hn) rfl) rfl (nb' rfl) rfl SrcX_sc10_1 (hs1 (hx_len hn))) ptn<|sn'<|wr'<|V' (v_loadpA lk3 (hga (hx_len hn) rfl) SrcX_tk0_11 rfl) pt66<|E' (e_store lk2 (cvl lk66 rfl) (hga (hx_len hn) rfl) rfl (nb' rfl) rfl SrcX_sc0_11 (hs0 (hx_len hn))) ptn<|sn'<|w_rets<|w_ret (rs1 (rr_c gt2 (hga (hx_len hn) rfl) (ld1 SrcX_tk0_11 rfl)))<|?_
   rw [hLt] at hR
   exact ⟨_,_,rfl,hx_len hn,hx_lt hlt takE_ltb,rfl,by rw [hR] <;> rfl,by rw [hR] <;> rfl⟩
  have hl:lettersB s11=true:=by simpa using hc3
  have hLt:tLetter t10=(s11,t11):=by rw [hL,if_neg (show ¬s11=bA [45] from hg53),if_pos (by unfold letterB;rw [hl,decide_eq_true hg50];simp)]
  refine w_skip<|n_seq<|w_seq<|wr'<|mv' lk4 pt62<|V' (v_neqS lk62 lks) pt63<|sn'<|?_
  refine w_condK lk63 (by exact decide_eq_true hg53) ?_
  refine w_reg<|mv' lk4 pt64<|V' (v_fap0 lk3) pt65<|E' (e_store lk65 (cvl lk64 rfl) (hga (hx_len hn) rfl) rfl (nb' rfl) rfl SrcX_sc10_1 (hs1 (hx_len hn))) ptn<|sn'<|wr'<|V' (v_loadpA lk3 (hga (hx_len hn) rfl) SrcX_tk0_11 rfl) pt66<|E' (e_store lk2 (cvl lk66 rfl) (hga (hx_len hn) rfl) rfl (nb' rfl) rfl SrcX_sc0_11 (hs0 (hx_len hn))) ptn<|sn'<|w_rets<|w_ret (rs1 (rr_c gt2 (hga (hx_len hn) rfl) (ld1 SrcX_tk0_11 rfl)))<|?_
  rw [hLt] at hR
  exact ⟨_,_,rfl,hx_len hn,hx_lt hlt takE_ltb,rfl,by rw [hR] <;> rfl,by rw [hR] <;> rfl⟩
 have h45:s11=bA [45]:=Decidable.of_not_not hg53
 have hLt:tLetter t10=(⟨#[]⟩,t11):=by rw [hL,h45];rfl
 refine s_no gt53 pt54<|s_no gt53 pt55<|s_no gt53 pt56<|s_do gt50<|V' (v_pickF lk53 lkb) pt57<|V' (v_pickF lk50 lk57) pt58<|sn'<|w_condF lk58<|w_skip<|n_seq<|w_seq<|wr'<|?_
 refine mv' lk4 pt62<|V' (v_neqS lk62 lks) pt63<|sn'<|?_
 refine w_condKF lk63 (by exact decide_eq_false (by rw [h45];decide)) ?_
 refine w_skip<|n_seq<|wr'<|V' (v_loadpA lk3 (hga (hx_len hn) rfl) SrcX_tk0_11 rfl) pt66<|E' (e_store lk2 (cvl lk66 rfl) (hga (hx_len hn) rfl) rfl (nb' rfl) rfl SrcX_sc0_11 (hs0 (hx_len hn))) ptn<|sn'<|w_rets<|w_ret (rs1 (rr_c gt2 (hga (hx_len hn) rfl) (ld1 SrcX_tk0_11 rfl)))<|?_
 rw [hLt] at hR
 exact ⟨_,_,rfl,hx_len hn,hx_lt hlt takE_ltb,rfl,by rw [hR] <;> rfl,by rw [hR] <;> rfl⟩
theorem tSpan_bd {s:ByteArray}{t:TS}:0≤(tSpan s t).1∧(tSpan s t).1<1000000000:=by
 unfold tSpan
 split
 ·exact ⟨Int.le_refl 0,show (0:Int)<1000000000 by decide⟩
 unfold tSpanL
 split
 ·rename_i a b _
  have h1:=tNum_bd (s:=bA a) (a:=1) (b:=2) (t:=t) (by omega)
  have h2:=tSix_bd (s:=bA b) (t:=(tNum (bA a) 1 2 t).2)
  constructor <;> dsimp only <;> omega
 ·rename_i a b c _
  have h1:=tNum_bd (s:=bA a) (a:=1) (b:=2) (t:=t) (by omega)
  have h2:=tSix_bd (s:=bA b) (t:=(tNum (bA a) 1 2 t).2)
  have h3:=tSix_bd (s:=bA c) (t:=(tSix (bA b) (tNum (bA a) 1 2 t).2).2)
  constructor <;> dsimp only <;> omega
 exact ⟨Int.le_refl 0,show (0:Int)<1000000000 by decide⟩
abbrev eraZ:List AV:=[iv 0,sv ⟨#[]⟩,iv 0,sv ⟨#[]⟩,bv false,iv 0,iv 0,iv 0,iv 0,iv 0]
theorem okT_shift {t u:TS}{n:Int}(ho:okT t) (e:tShift t=(n,u)):okT u:=by
 obtain ⟨x,v,ev⟩ : ∃ x v,tNext t=(x,v):=⟨_,_,rfl⟩
 unfold tShift at e
 rw [ev] at e
 have:=(okT_next ho ev).2
 split at e
 ·cases e;exact okT_of tSpan_fst this
 exact okT_span this e
theorem okT_rules {s:ByteArray}{t u:TS}{p:Int×ByteArray}(ho:okT t) (e:tRulesS s t=(p,u)):okT u:=by
 unfold tRulesS at e
 split at e
 ·cases e;exact ho
 split at e
 ·cases e
  refine okT_of tSpan_fst ?_
  split <;> exact ho
 cases e
 split <;> exact ho
set_option maxHeartbeats 2000000 in
theorem tera_a {t:TS}{id:Nat}{h:AH}(ho:okT t) (h1:h[id]?=some (takE t)):ACalls Tryz.prog 50 [.ptr id 0 0] h fun x h'=>x = .ret (.agg (eraC (tEra t).1))∧h'=h.set id (takE (tEra t).2):=by
 have hid:id<h.length:=(List.getElem?_eq_some_iff.1 h1).1
 obtain ⟨s1,t1,e1⟩ : ∃ a b,tNext t=(a,b):=⟨_,_,rfl⟩
 obtain ⟨z1,o1⟩:=okT_next ho e1
 have hem1:=emp_size (f:=s1)
 obtain ⟨sh,t2,e2⟩ : ∃ a b,tShift t=(a,b):=⟨_,_,rfl⟩
 have o2:=okT_shift ho e2
 obtain ⟨s3,t3,e3⟩ : ∃ a b,tNext t2=(a,b):=⟨_,_,rfl⟩
 obtain ⟨z3,o3⟩:=okT_next o2 e3
 have hem3:=emp_size (f:=s3)
 obtain ⟨⟨sa,rl⟩,t4,e4⟩ : ∃ a b,tRulesS s3 t3=(a,b):=⟨_,_,rfl⟩
 have o4:=okT_rules o3 e4
 obtain ⟨fm,t5,e5⟩ : ∃ a b,tNext t4=(a,b):=⟨_,_,rfl⟩
 obtain ⟨z5,o5⟩:=okT_next o4 e5
 obtain ⟨t6,e6⟩ : ∃ u,(if formatB fm=true then t5 else bad t5)=u:=⟨_,rfl⟩
 have o6:okT t6:=by rw [←e6];split <;> exact o5
 obtain ⟨s7,t7,e7⟩ : ∃ a b,tNext t6=(a,b):=⟨_,_,rfl⟩
 obtain ⟨z7,o7⟩:=okT_next o6 e7
 obtain ⟨y,t8,e8⟩ : ∃ a b,tNum s7 4 4 t7=(a,b):=⟨_,_,rfl⟩
 have o8:=okT_num o7 e8
 obtain ⟨m,t9,e9⟩ : ∃ a b,tMonth t8=(a,b):=⟨_,_,rfl⟩
 have o9:=okT_month o8 e9
 obtain ⟨s10,t10,e10⟩ : ∃ a b,tNext t9=(a,b):=⟨_,_,rfl⟩
 obtain ⟨z10,o10⟩:=okT_next o9 e10
 obtain ⟨d,t11,e11⟩ : ∃ a b,tNum s10 1 2 t10=(a,b):=⟨_,_,rfl⟩
 have o11:=okT_num o10 e11
 obtain ⟨c,t12,e12⟩ : ∃ a b,tClock 2 t11=(a,b):=⟨_,_,rfl⟩
 have o12:=okT_clock o11 e12
 have hU:tUntil t6=(((y,m,d),c.1,c.2),if c.2=1 then bad t12 else t12):=by
  simp only [tUntil,bind2,ret2,tYear,tDay,tWall,e7,e8,e9,e10,e11,e12]
 have hR:tEra t=((sh,rl,sa,fm,(tEnd t6).1.1,(tEnd t6).1.2),(tEnd t6).2):=by
  simp only [tEra,bind2,ret2,tRules,tFormat,e2,e3,e4,e5,e6]
 refine tJ' k50 fun N hn hlt hlA hbd=>?_
 simp only [tA',AV.bdL,AV.bd,and_true,true_and] at hbd ⊢
 refine aw_heap (h1:=h.set id (takE t)++[]) (by rw [hx_self h1]) ?_
 refine wr'<|E' (e_new (hl0 (hx_len hn)) ha0) pt2<|sn'<|wr'<|E' (e_new (hl1 (hx_len hn)) ha1) pt3<|sn'<|wr'<|mv' lk0 pt8<|s_calls (mp1 lk8 mp0) (tnext_e e1 (hx_at hid)) (hx_set hid) pt9<|?_
 refine mv' lk9 pt4<|sn'<|?_
 refine w_seqH (ι:=Unit) (fun (u:Unit)=>[]++rn' 10 17) (fun (u:Unit)=>h.set id (takE t2)++[.mk 0 64 10 eraZ,.mk 0 64 10 [iv sh,sv ⟨#[]⟩,iv 0,sv ⟨#[]⟩,bv false,iv 0,iv 0,iv 0,iv 0,iv 0]]) (fun (u:Unit)=>True) ?_ ?_
 ·try simp only [setsT,setsE,z',s',rn',la',ln',Nat.reduceAdd]
  refine wr'<|mv' lk4 pt10<|V' (v_neqS lk10 lks) pt11<|mv' lk11 pt12<|?_
  refine sp' gt12 pt12 pt12 (fun hg12=>?_) (fun hg12=>?_)
  ·have hn1:s1.size≠0:=fun e=>hg12 (hem1.2 e)
   refine s_do gt12<|mv' lk4 pt13<|s_do gt12<|?_
   refine V' (v_ix lk13 lki (by omega) (by omega)) pt14 ?_
   refine s_do gt12<|V' (v_eql lk14 lki) pt15<|V' (v_pickT lk12 lk15) pt16<|sn'<|?_
   refine cd' lk16 (fun hc1=>?_) (fun hc1=>?_)
   ·have hc:s1.size≠0∧headI s1=45:=⟨fun e=>hg12 (hem1.2 e),hc1⟩
    obtain ⟨n,u2,f2⟩ : ∃ a b,tSpan (s1.extract 1 s1.size) t1=(a,b):=⟨_,_,rfl⟩
    have hb2:=tSpan_bd (s:=s1.extract 1 s1.size) (t:=t1)
    rw [f2] at hb2
    replace hb2:0≤n∧n<1000000000:=hb2
    have hq:sh = -n∧t2=u2:=by unfold tShift at e2;rw [e1,if_pos hc,f2] at e2;cases e2;exact ⟨rfl,rfl⟩
    obtain ⟨rfl,rfl⟩:=hq
    refine w_reg<|mv' lk0 pt17<|mv' lk4 pt18<|?_
    refine V' (v_sls lk18 (oi lki) on_ (by omega) (by omega) (by omega)) pt19 ?_
    refine s_calls (mp1 lk17 (mp1 lk19 mp0)) (tspan_e (by rw [ByteArray.size_extract];omega) f2 (hx_at hid)) (hx_set hid) pt20 ?_
    refine V' (v_neg lk20 (by omega) (by omega)) pt21 ?_
    refine V' (v_fap0 lk3) pt22<|E' (e_store lk22 (cvl lk21 rfl) (hga (hx_len hn) rfl) rfl (nb' rfl) rfl SrcX_sc0_1 (hs1 (hx_len hn))) ptn<|s_nil<|n_thn<|?_
    exact cT' (()) (by trivial)
   have hc:¬(s1.size≠0∧headI s1=45):=fun e=>hc1 e.2
   have f2:tSpan s1 t1=(sh,t2):=by unfold tShift at e2;rw [e1,if_neg hc] at e2;exact e2
   refine w_reg<|mv' lk0 pt23<|mv' lk4 pt24<|s_calls (mp1 lk23 (mp1 lk24 mp0)) (tspan_e z1 f2 (hx_at hid)) (hx_set hid) pt25<|V' (v_fap0 lk3) pt26<|E' (e_store lk26 (cvl lk25 rfl) (hga (hx_len hn) rfl) rfl (nb' rfl) rfl SrcX_sc0_1 (hs1 (hx_len hn))) ptn<|s_nil<|n_thn<|?_
   exact cT' (()) (by trivial)
  have hc:¬(s1.size≠0∧headI s1=45):=fun e=>e.1 (hem1.1 (Decidable.of_not_not hg12))
  have f2:tSpan s1 t1=(sh,t2):=by unfold tShift at e2;rw [e1,if_neg hc] at e2;exact e2
  refine s_no gt12 pt13<|s_no gt12 pt14<|s_no gt12 pt15<|V' (v_pickF lk12 lkb) pt16<|sn'<|w_condF lk16<|w_reg<|mv' lk0 pt23<|mv' lk4 pt24<|s_calls (mp1 lk23 (mp1 lk24 mp0)) (tspan_e z1 f2 (hx_at hid)) (hx_set hid) pt25<|V' (v_fap0 lk3) pt26<|E' (e_store lk26 (cvl lk25 rfl) (hga (hx_len hn) rfl) rfl (nb' rfl) rfl SrcX_sc0_1 (hs1 (hx_len hn))) ptn<|s_nil<|?_
  refine n_thn ?_
  exact cT' (()) (by trivial)
 rintro u hq5
 try simp only [setsT,setsE,z',s',rn',la',ln',Nat.reduceAdd]
 refine wr'<|mv' lk0 pt27<|s_calls (mp1 lk27 mp0) (tnext_e e3 (hx_at hid)) (hx_set hid) pt28<|mv' lk28 pt4<|sn'<|?_
 refine w_seqH (ι:=Unit) (fun (u:Unit)=>[]++rn' 29 28) (fun (u:Unit)=>h.set id (takE t4)++[.mk 0 64 10 eraZ,.mk 0 64 10 [iv sh,sv rl,iv sa,sv ⟨#[]⟩,bv false,iv 0,iv 0,iv 0,iv 0,iv 0]]) (fun (u:Unit)=>True) ?_ ?_
 ·try simp only [setsT,setsE,z',s',rn',la',ln',Nat.reduceAdd]
  refine w_block<|wr'<|mv' lk4 pt38<|V' (v_eqlS lk38 lks) pt39<|mv' lk39 pt37<|sn'<|?_
  refine cd' lk37 (fun hc2=>?_) (fun hc2=>?_)
  ·have hq:sa=0∧rl=⟨#[]⟩∧t4=t3:=by rw [tRulesS,if_pos (show s3=bA [45] from hc2)] at e4;cases e4;exact ⟨rfl,rfl,rfl⟩
   obtain ⟨rfl,rfl,rfl⟩:=hq
   refine w_skip<|n_blk<|n_thn<|?_
   exact cT' (()) (by trivial)
  rw [tRulesS,if_neg (show ¬s3=bA [45] from hc2)] at e4
  have hbz:=byte_bd s3 0
  refine wr'<|mv' lk4 pt41<|V' (v_neqS lk41 lks) pt42<|mv' lk42 pt43<|?_
  refine sp' gt43 pt43 pt43 (fun hg43=>?_) (fun hg43=>?_)
  ·have hn3:s3.size≠0:=fun e=>hg43 (hem3.2 e)
   refine s_do gt43<|mv' lk4 pt44<|s_do gt43<|?_
   refine V' (v_ix lk44 lki (by omega) (by omega)) pt45 ?_
   refine s_do gt43<|s_callp (mp1 lk45 mp0) (risDigit_a hbz.1 hbz.2) pt46<|V' (v_pickT lk43 lk46) pt47<|mv' lk47 pt40<|sn'<|?_
   refine w_condB lk40 (fun hc3=>?_) (fun hc3=>?_)
   ·have hc:s3.size≠0∧digB (headI s3)=true:=⟨fun e=>hg43 (hem3.2 e),hc3⟩
    rw [if_pos hc] at e4
    refine w_seq<|wr'<|mv' lk4 pt48<|V' (v_eqlS lk48 lks) pt49<|sn'<|?_
    refine cd' lk49 (fun hc4=>?_) (fun hc4=>?_)
    ·rw [if_pos (show s3=bA [48] from hc4)] at e4
     have hsp:tSpan s3 (bad t3)=(sa,t4):=by cases e4;rfl
     have hrl:rl=⟨#[]⟩:=by cases e4;rfl
     subst hrl
     refine w_reg<|mv' lk0 pt50<|V' (v_nckp lk50) pt51<|V' (v_fap0 lk51) pt52<|E' (e_store lk52 (cvl lkb rfl) (hx_at hid) rfl (nb' rfl) rfl SrcX_sc1_1 (hx_set hid)) ptn<|sn'<|w_reg<|mv' lk0 pt53<|mv' lk4 pt54<|s_calls (mp1 lk53 (mp1 lk54 mp0)) (tspan_e z3 hsp (hx_at hid)) (hx_set hid) pt55<|V' (v_fap0 lk3) pt56<|E' (e_store lk56 (cvl lk55 rfl) (hga (hx_len hn) rfl) rfl (nb' rfl) rfl SrcX_sc2_1 (hs1 (hx_len hn))) ptn<|s_nil<|?_
     refine n_blk<|n_thn<|?_
     exact cT' (()) (by trivial)
    rw [if_neg (show ¬s3=bA [48] from hc4)] at e4
    have hsp:tSpan s3 t3=(sa,t4):=by cases e4;rfl
    have hrl:rl=⟨#[]⟩:=by cases e4;rfl
    subst hrl
    refine w_skip<|n_seq<|w_reg<|mv' lk0 pt53<|mv' lk4 pt54<|s_calls (mp1 lk53 (mp1 lk54 mp0)) (tspan_e z3 hsp (hx_at hid)) (hx_set hid) pt55<|V' (v_fap0 lk3) pt56<|E' (e_store lk56 (cvl lk55 rfl) (hga (hx_len hn) rfl) rfl (nb' rfl) rfl SrcX_sc2_1 (hs1 (hx_len hn))) ptn<|s_nil<|n_blk<|n_thn<|?_
    exact cT' (()) (by trivial)
   have hc:¬(s3.size≠0∧digB (headI s3)=true):=fun e=>by have:=e.2;rw [show digB (headI s3)=false from hc3] at this;cases this
   refine w_seq<|wr'<|mv' lk4 pt29<|?_
   rw [if_neg hc] at e4
   refine s_callp (mp1 lk29 mp0) (risName_a (by unfold maxLen;omega)) pt30 ?_
   refine V' (v_notB lk30) pt31<|sn'<|?_
   refine w_condB lk31 (fun hc5=>?_) (fun hc5=>?_)
   ·have hnm:¬nameB s3=true:=by simpa using hc5
    rw [if_neg hnm] at e4
    have hq:sa=0∧rl=s3∧t4=bad t3:=by cases e4;exact ⟨rfl,rfl,rfl⟩
    obtain ⟨rfl,rfl,rfl⟩:=hq
    refine w_reg<|mv' lk0 pt32<|V' (v_nckp lk32) pt33<|V' (v_fap0 lk33) pt34<|E' (e_store lk34 (cvl lkb rfl) (hx_at hid) rfl (nb' rfl) rfl SrcX_sc1_1 (hx_set hid)) ptn<|sn'<|w_reg<|mv' lk4 pt35<|V' (v_fap0 lk3) pt36<|E' (e_store lk36 (cvl lk35 rfl) (hga (hx_len hn) rfl) rfl (nb' rfl) rfl SrcX_sc1_1 (hs1 (hx_len hn))) ptn<|s_nil<|n_blk<|n_thn<|?_
    exact cT' (()) (by trivial)
   have hnm:nameB s3=true:=by simpa using hc5
   rw [if_pos hnm] at e4
   have hq:sa=0∧rl=s3∧t4=t3:=by cases e4;exact ⟨rfl,rfl,rfl⟩
   obtain ⟨rfl,rfl,rfl⟩:=hq
   refine w_skip<|n_seq<|w_reg<|mv' lk4 pt35<|V' (v_fap0 lk3) pt36<|E' (e_store lk36 (cvl lk35 rfl) (hga (hx_len hn) rfl) rfl (nb' rfl) rfl SrcX_sc1_1 (hs1 (hx_len hn))) ptn<|s_nil<|n_blk<|n_thn<|?_
   exact cT' (()) (by trivial)
  have hc:¬(s3.size≠0∧digB (headI s3)=true):=fun e=>e.1 (hem3.1 (Decidable.of_not_not hg43))
  refine s_no gt43 pt44<|s_no gt43 pt45<|s_no gt43 pt46<|V' (v_pickF lk43 lkb) pt47<|mv' lk47 pt40<|sn'<|w_condF lk40<|w_seq<|wr'<|mv' lk4 pt29<|?_
  rw [if_neg hc] at e4
  refine s_callp (mp1 lk29 mp0) (risName_a (by unfold maxLen;omega)) pt30 ?_
  refine V' (v_notB lk30) pt31<|sn'<|?_
  refine w_condB lk31 (fun hc5=>?_) (fun hc5=>?_)
  ·have hnm:¬nameB s3=true:=by simpa using hc5
   rw [if_neg hnm] at e4
   have hq:sa=0∧rl=s3∧t4=bad t3:=by cases e4;exact ⟨rfl,rfl,rfl⟩
   obtain ⟨rfl,rfl,rfl⟩:=hq
   refine w_reg<|mv' lk0 pt32<|V' (v_nckp lk32) pt33<|V' (v_fap0 lk33) pt34<|E' (e_store lk34 (cvl lkb rfl) (hx_at hid) rfl (nb' rfl) rfl SrcX_sc1_1 (hx_set hid)) ptn<|sn'<|w_reg<|mv' lk4 pt35<|V' (v_fap0 lk3) pt36<|E' (e_store lk36 (cvl lk35 rfl) (hga (hx_len hn) rfl) rfl (nb' rfl) rfl SrcX_sc1_1 (hs1 (hx_len hn))) ptn<|s_nil<|n_blk<|n_thn<|?_
   exact cT' (()) (by trivial)
  have hnm:nameB s3=true:=by simpa using hc5
  rw [if_pos hnm] at e4
  have hq:sa=0∧rl=s3∧t4=t3:=by cases e4;exact ⟨rfl,rfl,rfl⟩
  obtain ⟨rfl,rfl,rfl⟩:=hq
  refine w_skip<|n_seq<|w_reg<|mv' lk4 pt35<|V' (v_fap0 lk3) pt36<|E' (e_store lk36 (cvl lk35 rfl) (hga (hx_len hn) rfl) rfl (nb' rfl) rfl SrcX_sc1_1 (hs1 (hx_len hn))) ptn<|s_nil<|n_blk<|n_thn<|?_
  exact cT' (()) (by trivial)
 rintro u hq13
 try simp only [setsT,setsE,z',s',rn',la',ln',Nat.reduceAdd]
 refine wr'<|mv' lk0 pt57<|s_calls (mp1 lk57 mp0) (tnext_e e5 (hx_at hid)) (hx_set hid) pt58<|V' (v_fap0 lk3) pt59<|E' (e_store lk59 (cvl lk58 rfl) (hga (hx_len hn) rfl) rfl (nb' rfl) rfl SrcX_sc3_1 (hs1 (hx_len hn))) ptn<|sn'<|?_
 refine w_seqH (ι:=Unit) (fun (u:Unit)=>[]++rn' 60 7) (fun (u:Unit)=>h.set id (takE t6)++[.mk 0 64 10 eraZ,.mk 0 64 10 [iv sh,sv rl,iv sa,sv fm,bv false,iv 0,iv 0,iv 0,iv 0,iv 0]]) (fun (u:Unit)=>True) ?_ ?_
 ·try simp only [setsT,setsE,z',s',rn',la',ln',Nat.reduceAdd]
  refine wr'<|V' (v_fap0 lk3) pt60<|V' (v_loadp lk60 (hga (hx_len hn) rfl) gt3) pt61<|?_
  refine s_callp (mp1 lk61 mp0) (risFormat_a (by unfold maxLen;omega)) pt62 ?_
  refine V' (v_notB lk62) pt63<|sn'<|?_
  refine w_condB lk63 (fun hc6=>?_) (fun hc6=>?_)
  ·have hq:t6=bad t5:=by rw [←e6,if_neg (by simpa using hc6)]
   subst hq
   refine w_reg<|mv' lk0 pt64<|V' (v_nckp lk64) pt65<|V' (v_fap0 lk65) pt66<|E' (e_store lk66 (cvl lkb rfl) (hx_at hid) rfl (nb' rfl) rfl SrcX_sc1_1 (hx_set hid)) ptn<|s_nil<|n_thn<|?_
   exact cT' (()) (by trivial)
  have hq:t6=t5:=by rw [←e6,if_pos (by simpa using hc6)]
  subst hq
  refine w_skip<|n_thn<|?_
  exact cT' (()) (by trivial)
 rintro u hq16
 try simp only [setsT,setsE,z',s',rn',la',ln',Nat.reduceAdd]
 refine w_seq<|wr'<|mv' lk0 pt67<|V' (v_nckp lk67) pt68<|V' (v_fap0 lk68) pt69<|V' (v_loadp lk69 (hx_at hid) gt0) (ptS pt0)<|V' (v_lenL (lkS lk0)) (ptS pt1)<|V' (v_eql (lkS lk1) lki) (ptS pt2)<|sn'<|?_
 refine cd' (lkS lk2) (fun hc7=>?_) (fun hc7=>?_)
 ·have hE:tEnd t6=((true,untZ),t6):=by unfold tEnd;rw [if_pos (List.eq_nil_of_length_eq_zero (by omega))]
  rw [hE] at hR
  refine wr'<|V' (v_fap0 lk3) (ptS pt3)<|E' (e_store (lkS lk3) (cvl lkb rfl) (hga (hx_len hn) rfl) rfl (nb' rfl) rfl SrcX_sc4_1 (hs1 (hx_len hn))) ptn<|sn'<|wr'<|V' (v_loadpA lk3 (hga (hx_len hn) rfl) SrcX_tk0_10 rfl) (ptS pt4)<|E' (e_store lk2 (cvl (lkS lk4) rfl) (hga (hx_len hn) rfl) rfl (nb' rfl) rfl SrcX_sc0_10 (hs0 (hx_len hn))) ptn<|sn'<|w_rets<|r_thn<|?_
  refine w_ret (rs1 (rr_c gt2 (hga (hx_len hn) rfl) (ld1 SrcX_tk0_10 rfl))) ?_
  exact ⟨_,_,rfl,hx_len hn,hx_lt hlt takE_ltb,rfl,by rw [hR] <;> rfl,by rw [hR] <;> rfl⟩
 have hE:tEnd t6=((false,(tUntil t6).1),(tUntil t6).2):=by unfold tEnd;rw [if_neg (by intro e;rw [e] at hc7;exact hc7 rfl)]
 rw [hE,hU] at hR
 refine w_skip<|n_seq<|wr'<|mv' lk0 (ptS pt5)<|mv' lk0 (ptS pt6)<|s_calls (mp1 (lkS lk6) mp0) (tnext_e e7 (hx_at hid)) (hx_set hid) (ptS pt7)<|?_
 refine s_calls (mp1 (lkS lk5) (mp1 (lkS lk7) (mp1 lki (mp1 lki mp0)))) (tnum_e (by omega) e8 (hx_at hid)) (hx_set hid) (ptS pt8) ?_
 refine mv' (lkS lk8) pt5<|sn'<|wr'<|mv' lk0 (ptS pt9)<|s_calls (mp1 (lkS lk9) mp0) (tmonth_e e9 (hx_at hid)) (hx_set hid) (ptS pt10)<|mv' (lkS lk10) pt6<|sn'<|wr'<|mv' lk0 (ptS pt11)<|mv' lk0 (ptS pt12)<|?_
 refine s_calls (mp1 (lkS lk12) mp0) (tnext_e e10 (hx_at hid)) (hx_set hid) (ptS pt13) ?_
 refine s_calls (mp1 (lkS lk11) (mp1 (lkS lk13) (mp1 lki (mp1 lki mp0)))) (tnum_e (by omega) e11 (hx_at hid)) (hx_set hid) (ptS pt14) ?_
 refine mv' (lkS lk14) pt7<|sn'<|wr'<|mv' lk5 (ptS pt15)<|mv' lk6 (ptS pt16)<|mv' lk7 (ptS pt17)<|V' (v_build (SrcX_EraOf_98 (cvl (lkS lk15) rfl) rfl (cvl (lkS lk16) rfl) rfl (cvl (lkS lk17) rfl) rfl)) (ptS pt18)<|V' (v_fap0 lk3) (ptS pt19)<|V' (v_fap (lkS lk19)) (ptS pt20)<|E' (e_store (lkS lk20) (cvl (lkS lk18) rfl) (hga (hx_len hn) rfl) rfl (nb' rfl) rfl SrcX_sc5_3 (hs1 (hx_len hn))) ptn<|sn'<|?_
 refine wr'<|mv' lk0 (ptS pt22)<|s_calls (mp1 (lkS lk22) (mp1 lki mp0)) (tclock_e (.inr rfl) o11 e12 (hx_at hid)) (hx_set hid) (ptS pt23)<|mv' (lkS lk23) (ptS pt21)<|V' (v_ext (lkS lk21) gt0) (ptS pt24)<|V' (v_ext (lkS lk21) gt1) (ptS pt25)<|V' (v_fap0 lk3) (ptS pt26)<|V' (v_fap (lkS lk26)) (ptS pt27)<|E' (e_store (lkS lk27) (cvl (lkS lk24) rfl) (hga (hx_len hn) rfl) rfl (nb' rfl) rfl SrcX_sc8_1 (hs1 (hx_len hn))) ptn<|V' (v_fap0 lk3) (ptS pt28)<|V' (v_fap (lkS lk28)) (ptS pt29)<|E' (e_store (lkS lk29) (cvl (lkS lk25) rfl) (hga (hx_len hn) rfl) rfl (nb' rfl) rfl SrcX_sc9_1 (hs1 (hx_len hn))) ptn<|s_nil<|?_
 refine n_seq<|w_seq<|wr'<|V' (v_fap0 lk3) (ptS pt30)<|V' (v_fap (lkS lk30)) (ptS pt31)<|V' (v_loadp (lkS lk31) (hga (hx_len hn) rfl) gt9) (ptS pt32)<|V' (v_eql (lkS lk32) lki) (ptS pt33)<|sn'<|?_
 refine cd' (lkS lk33) (fun hc8=>?_) (fun hc8=>?_)
 ·rw [if_pos hc8] at hR
  refine w_reg<|mv' lk0 (ptS pt34)<|V' (v_nckp (lkS lk34)) (ptS pt35)<|V' (v_fap0 (lkS lk35)) (ptS pt36)<|E' (e_store (lkS lk36) (cvl lkb rfl) (hx_at hid) rfl (nb' rfl) rfl SrcX_sc1_1 (hx_set hid)) ptn<|sn'<|wr'<|V' (v_loadpA lk3 (hga (hx_len hn) rfl) SrcX_tk0_10 rfl) (ptS pt37)<|E' (e_store lk2 (cvl (lkS lk37) rfl) (hga (hx_len hn) rfl) rfl (nb' rfl) rfl SrcX_sc0_10 (hs0 (hx_len hn))) ptn<|sn'<|w_rets<|?_
  refine w_ret (rs1 (rr_c gt2 (hga (hx_len hn) rfl) (ld1 SrcX_tk0_10 rfl))) ?_
  exact ⟨_,_,rfl,hx_len hn,hx_lt hlt takE_ltb,rfl,by rw [hR] <;> rfl,by rw [hR] <;> rfl⟩
 rw [if_neg hc8] at hR
 refine w_skip<|n_seq<|wr'<|V' (v_loadpA lk3 (hga (hx_len hn) rfl) SrcX_tk0_10 rfl) (ptS pt37)<|E' (e_store lk2 (cvl (lkS lk37) rfl) (hga (hx_len hn) rfl) rfl (nb' rfl) rfl SrcX_sc0_10 (hs0 (hx_len hn))) ptn<|sn'<|w_rets<|w_ret (rs1 (rr_c gt2 (hga (hx_len hn) rfl) (ld1 SrcX_tk0_10 rfl)))<|?_
 exact ⟨_,_,rfl,hx_len hn,hx_lt hlt takE_ltb,rfl,by rw [hR] <;> rfl,by rw [hR] <;> rfl⟩
end Go.Proofs.YtgjchdhdopgkkaaGreatDoor
end
section
namespace Go.Proofs.YtgjchdhdopgkkaaGreatDoor
open Go.Ab Go.RowKit Civ
attribute [local simp] str_lt
section
theorem SrcR_Months_2 {τ:Operand→AV}{y0 y1 y2 y3 y4 y5 y6 y7 y8 y9 y10 y11 y12:Operand}{x0_0 x1_0 x2_0 x3_0 x4_0 x5_0 x6_0 x7_0 x8_0 x9_0 x10_0 x11_0 x12_0:AV}(h0:cellsV (τ y0)=some [x0_0]) (l0:[x0_0].all leaf=true) (h1:cellsV (τ y1)=some [x1_0]) (l1:[x1_0].all leaf=true) (h2:cellsV (τ y2)=some [x2_0]) (l2:[x2_0].all leaf=true) (h3:cellsV (τ y3)=some [x3_0]) (l3:[x3_0].all leaf=true) (h4:cellsV (τ y4)=some [x4_0]) (l4:[x4_0].all leaf=true) (h5:cellsV (τ y5)=some [x5_0]) (l5:[x5_0].all leaf=true) (h6:cellsV (τ y6)=some [x6_0]) (l6:[x6_0].all leaf=true) (h7:cellsV (τ y7)=some [x7_0]) (l7:[x7_0].all leaf=true) (h8:cellsV (τ y8)=some [x8_0]) (l8:[x8_0].all leaf=true) (h9:cellsV (τ y9)=some [x9_0]) (l9:[x9_0].all leaf=true) (h10:cellsV (τ y10)=some [x10_0]) (l10:[x10_0].all leaf=true) (h11:cellsV (τ y11)=some [x11_0]) (l11:[x11_0].all leaf=true) (h12:cellsV (τ y12)=some [x12_0]) (l12:[x12_0].all leaf=true):fillAV τ [(0,1,y0),(1,1,y1),(2,1,y2),(3,1,y3),(4,1,y4),(5,1,y5),(6,1,y6),(7,1,y7),(8,1,y8),(9,1,y9),(10,1,y10),(11,1,y11),(12,1,y12)] [(.v (.string ⟨#[]⟩)),(.v (.string ⟨#[]⟩)),(.v (.string ⟨#[]⟩)),(.v (.string ⟨#[]⟩)),(.v (.string ⟨#[]⟩)),(.v (.string ⟨#[]⟩)),(.v (.string ⟨#[]⟩)),(.v (.string ⟨#[]⟩)),(.v (.string ⟨#[]⟩)),(.v (.string ⟨#[]⟩)),(.v (.string ⟨#[]⟩)),(.v (.string ⟨#[]⟩)),(.v (.string ⟨#[]⟩))]=some [x0_0,x1_0,x2_0,x3_0,x4_0,x5_0,x6_0,x7_0,x8_0,x9_0,x10_0,x11_0,x12_0]:=by
 simp only [fillAV,h0,l0,h1,l1,h2,l2,h3,l3,h4,l4,h5,l5,h6,l6,h7,l7,h8,l8,h9,l9,h10,l10,h11,l11,h12,l12]
 rfl
theorem SrcR_Weekdays_2 {τ:Operand→AV}{y0 y1 y2 y3 y4 y5 y6:Operand}{x0_0 x1_0 x2_0 x3_0 x4_0 x5_0 x6_0:AV}(h0:cellsV (τ y0)=some [x0_0]) (l0:[x0_0].all leaf=true) (h1:cellsV (τ y1)=some [x1_0]) (l1:[x1_0].all leaf=true) (h2:cellsV (τ y2)=some [x2_0]) (l2:[x2_0].all leaf=true) (h3:cellsV (τ y3)=some [x3_0]) (l3:[x3_0].all leaf=true) (h4:cellsV (τ y4)=some [x4_0]) (l4:[x4_0].all leaf=true) (h5:cellsV (τ y5)=some [x5_0]) (l5:[x5_0].all leaf=true) (h6:cellsV (τ y6)=some [x6_0]) (l6:[x6_0].all leaf=true):fillAV τ [(0,1,y0),(1,1,y1),(2,1,y2),(3,1,y3),(4,1,y4),(5,1,y5),(6,1,y6)] [(.v (.string ⟨#[]⟩)),(.v (.string ⟨#[]⟩)),(.v (.string ⟨#[]⟩)),(.v (.string ⟨#[]⟩)),(.v (.string ⟨#[]⟩)),(.v (.string ⟨#[]⟩)),(.v (.string ⟨#[]⟩))]=some [x0_0,x1_0,x2_0,x3_0,x4_0,x5_0,x6_0]:=by
 simp only [fillAV,h0,l0,h1,l1,h2,l2,h3,l3,h4,l4,h5,l5,h6,l6]
 rfl
end
def c54:AC:=(.seq (.reg [Oo 0 (.mv (.const (.slice none 0 0)))]) (.seq (.reg [Oo 1 (.lit 9 1 13 [Ss,Ss,Ss,Ss,Ss,Ss,Ss,Ss,Ss,Ss,Ss,Ss,Ss] [(0,(1,(.const (.string ⟨#[]⟩)))),(1,(1,(.const (.string ⟨#[74,97,110]⟩)))),(2,(1,(.const (.string ⟨#[70,101,98]⟩)))),(3,(1,(.const (.string ⟨#[77,97,114]⟩)))),(4,(1,(.const (.string ⟨#[65,112,114]⟩)))),(5,(1,(.const (.string ⟨#[77,97,121]⟩)))),(6,(1,(.const (.string ⟨#[74,117,110]⟩)))),(7,(1,(.const (.string ⟨#[74,117,108]⟩)))),(8,(1,(.const (.string ⟨#[65,117,103]⟩)))),(9,(1,(.const (.string ⟨#[83,101,112]⟩)))),(10,(1,(.const (.string ⟨#[79,99,116]⟩)))),(11,(1,(.const (.string ⟨#[78,111,118]⟩)))),(12,(1,(.const (.string ⟨#[68,101,99]⟩))))]),Mv 0 1]) .ret))
theorem k54:compF Tryz.prog 54=some ⟨c54,[(.tmp 0)],2⟩:=by kernel_rfl
def c93:AC:=(.seq (.reg [Oo 0 (.mv (.const (.slice none 0 0)))]) (.seq (.reg [Oo 1 (.lit 9 1 7 [Ss,Ss,Ss,Ss,Ss,Ss,Ss] [(0,(1,(.const (.string ⟨#[83,117,110]⟩)))),(1,(1,(.const (.string ⟨#[77,111,110]⟩)))),(2,(1,(.const (.string ⟨#[84,117,101]⟩)))),(3,(1,(.const (.string ⟨#[87,101,100]⟩)))),(4,(1,(.const (.string ⟨#[84,104,117]⟩)))),(5,(1,(.const (.string ⟨#[70,114,105]⟩)))),(6,(1,(.const (.string ⟨#[83,97,116]⟩))))]),Mv 0 1]) .ret))
theorem k93:compF Tryz.prog 93=some ⟨c93,[(.tmp 0)],2⟩:=by kernel_rfl
abbrev wrA:AV:=.v (.iface 121 (.agg #[]))
def res (o:Option AV):AE:=match o with
 | none=>.pan wrA
 | some v=>.ret v
abbrev rdE (l:List ByteArray):Ent:=.mk 0 146 1 [.sl l.length 1 false (rows strC l)]
def RS (id:Nat) (h:AH) (o:Option (AV×List ByteArray)) (x:AE) (h':AH):Prop:=match o with
 | none=>x = .pan wrA ∧ ∃ l',h'=h.set id (rdE l')
 | some p=>x = .ret p.1∧h'=h.set id (rdE p.2)
theorem RS.a {f:FuncId}{as1:List AV}{id:Nat}{h:AH}{o:Option (AV×List ByteArray)}{p:AV×List ByteArray}(hc:ACalls Tryz.prog f as1 h (RS id h o)) (e:o=some p):ACalls Tryz.prog f as1 h fun x h'=>x = .ret p.1∧h'=h.set id (rdE p.2):=by
 subst e;exact hc
theorem RS.p {f:FuncId}{as1:List AV}{id:Nat}{h:AH}{o:Option (AV×List ByteArray)}(hc:ACalls Tryz.prog f as1 h (RS id h o)) (e:o=none):ACalls Tryz.prog f as1 h fun x h'=>x = .pan wrA ∧ ∃ l',h'=h.set id (rdE l'):=by
 subst e;exact hc
theorem months_a {h:AH}:ACalls Tryz.prog 54 [] h fun x h'=>h'=h∧x = .ret (.sl (⟨#[]⟩::monL).length 1 false (rows strC (⟨#[]⟩::monL))):=by
 refine tW' k54 fun N hn hlt hlA hbd=>?_
 simp only [tA',AV.bdL,AV.bd,and_true,true_and] at hbd ⊢
 refine wr'<|mv' lkn pt0<|sn'<|wr'<|E' (e_lit (SrcR_Months_2 (cvl lks rfl) rfl (cvl lks rfl) rfl (cvl lks rfl) rfl (cvl lks rfl) rfl (cvl lks rfl) rfl (cvl lks rfl) rfl (cvl lks rfl) rfl (cvl lks rfl) rfl (cvl lks rfl) rfl (cvl lks rfl) rfl (cvl lks rfl) rfl (cvl lks rfl) rfl (cvl lks rfl) rfl) (hl0 hn) ha0) pt1<|mv' lk1 pt0<|s_nil<|n_seqw (ALe.iceR (hga hn rfl) gt0 rfl (nb' rfl) pt0 (hs0 hn))<|w_rets<|w_ret (rs1 (rr_t gt0))<|rtW'<|?_
 exact Wk.refl _
theorem weekdays_a {h:AH}:ACalls Tryz.prog 93 [] h fun x h'=>h'=h∧x = .ret (.sl dayL.length 1 false (rows strC dayL)):=by
 refine tW' k93 fun N hn hlt hlA hbd=>?_
 simp only [tA',AV.bdL,AV.bd,and_true,true_and] at hbd ⊢
 refine wr'<|mv' lkn pt0<|sn'<|wr'<|E' (e_lit (SrcR_Weekdays_2 (cvl lks rfl) rfl (cvl lks rfl) rfl (cvl lks rfl) rfl (cvl lks rfl) rfl (cvl lks rfl) rfl (cvl lks rfl) rfl (cvl lks rfl) rfl) (hl0 hn) ha0) pt1<|mv' lk1 pt0<|s_nil<|n_seqw (ALe.iceR (hga hn rfl) gt0 rfl (nb' rfl) pt0 (hs0 hn))<|w_rets<|w_ret (rs1 (rr_t gt0))<|rtW'<|?_
 exact Wk.refl _
end Go.Proofs.YtgjchdhdopgkkaaGreatDoor
end
section
namespace Go.Proofs.YtgjchdhdopgkkaaGreatDoor
open Go.Ab Go.RowKit
section
theorem BldA_sc1_1 {a0 a1 c0:AV}{l:List AV}:setCells (a0::a1::l) 1 [c0]=a0::c0::l:=rfl
end
def c61:AC:=(.seq (.reg [Oo 4 (.mv (Ci 0)),Oo 5 (.mv (.const .nilIface))]) (.seq (.reg [Mv 6 0,Oo 7 (.call (.func 95) [(.tmp 6)])]) (.seq (.reg [Mv 8 0,Mv 9 0,Nk 10 9,Fa 11 1 10,Ld 12 11,Mv 13 1,Oo 14 (.app 5 1 1 (.tmp 12) (.tmp 13)),Nk 15 8,Fa 16 1 15,⟨none,none,(.store 1 (.tmp 16) (.tmp 14))⟩]) (.seq (.reg [Mv 17 1,Oo 18 (.len true (.tmp 17)),Mv 4 18,Oo 5 (.mv (.const .nilIface))]) .ret))))
theorem k61:compF Tryz.prog 61=some ⟨c61,[(.tmp 4),(.tmp 5)],19⟩:=by kernel_rfl
def c65:AC:=(.seq (.reg [Oo 2 (.mv (Ci 0))]) (.seq (.reg [Mv 3 0,Nk 4 3,Fa 5 1 4,Ld 6 5,Oo 7 (.len false (.tmp 6)),Mv 2 7]) .ret))
theorem k65:compF Tryz.prog 65=some ⟨c65,[(.tmp 2)],8⟩:=by kernel_rfl
abbrev byC (b:UInt8):List AV:=[.v (.int .u8 b.toNat)]
theorem by_lt {n:Nat}(l:Bs):AV.ltL n (rows byC l)=true:=rows_lt (fun _ _=>rfl) l
attribute [local simp] by_lt
theorem by_len1 : ∀ x,(byC x).length=1:=fun _=>rfl
theorem by_len (l:Bs):(rows byC l).length=l.length*1:=rows_len by_len1 l
theorem by_leaf (l:Bs):(rows byC l).all leaf=true:=rows_leaf (fun _=>rfl) l
theorem by_map (l:Bs):rows byC l=l.map fun b=>AV.v (.int .u8 b.toNat):=by
 induction l with
 | nil=>rfl
 | cons c l ih=>rw [show rows byC (c::l)=byC c++rows byC l from rfl,ih];rfl
theorem repL_by {w:World}{g:Gh}{l:Bs}{vs:List Value}:RepL w g (rows byC l) vs↔vs=l.map fun b=>Value.int .u8 b.toNat:=repL_v fun b:UInt8=>Value.int .u8 b.toNat
theorem lies_self {P:Program}{T c:Nat}(hs:P.cellsOf T≠0) (hc:1≤c):liesAt P P.depth T c 0 T 1=true:=by
 obtain ⟨d,hd⟩ : ∃ d,P.depth=d+1:=⟨_,rfl⟩
 have hsl:sameLayout P P.depth T T=true:=by rw [hd];unfold sameLayout;simp
 have hr:rowAt P (sameLayout P P.depth · T) P.depth T c 0 1=true:=by
  conv=>lhs;arg 3;rw [hd]
  unfold rowAt
  rw [if_neg hs]
  simp [hsl,hc]
 conv=>lhs;arg 2;rw [hd]
 unfold liesAt
 rw [hr];rfl
set_option maxHeartbeats 1000000 in
theorem cpcheck_fresh (b n:Nat) (w:World) (h0:w.cell? ⟨b,0,none⟩=some (.pointer none)) (hsh:w.shape? b=some (102,n)) (hn:2≤n) (hfz:w.frozen? ⟨b,0,none⟩=false) :
  Calls Tryz.prog 95 #[.pointer (some ⟨b,0,none⟩)] w fun e w'=>e = .returned (.tuple #[])∧w'=w.setCell ⟨b,0,none⟩ (.pointer (some ⟨b,0,none⟩)):=by
 obtain ⟨j,hj,hjs⟩:=Option.map_eq_some_iff.1 Tryz.Builder_Extra_156.sizeBuilder
 have hcs:Tryz.prog.cellsOf 102=2:=by kernel_rfl
 have hl:liesAt Tryz.prog Tryz.prog.depth 102 (n/Tryz.prog.cellsOf 102) 0 102 1=true:=lies_self (by rw [hcs];decide) (by rw [hcs];omega)
 go_enter Tryz.func95,Tryz.ntmps95
 go_wp2
 rw [Lib.run_to_unsafe w ⟨b,0,none⟩ Tryz.underlying99 Tryz.underlying156 hj (by rw [hjs];decide) hsh (by show 0<n;omega)]
 simp only [Result.andThen]
 rw [Oper.upon_value]
 go_wp2
 rw [run_callFunc_extern Tryz.func133 (by kernel_rfl) (by kernel_rfl) (by kernel_rfl) (e:=Extern.AbiNoEscape.same) (by kernel_rfl)]
 rw [Lib.run_noEscape]
 simp only [Result.andThen]
 rw [Oper.upon_value]
 go_wp2
 rw [Lib.run_from_unsafe w ⟨b,0,none⟩ Tryz.underlying156 Tryz.underlying99 hj hsh hl]
 simp only [Result.andThen]
 rw [Oper.upon_value]
 go_wp2
 go_end0
 exact ⟨rfl,rfl⟩
def bldP (id v0:Nat) (p:AV):Prop:=p = .v (.pointer none)∨p = .ptr id v0 0
theorem bldcheck_a {p B:AV}{id v0:Nat}{h:AH}(h1:h[id]?=some (.mk v0 102 2 [p,B])) (hp:bldP id v0 p) :
  ACalls Tryz.prog 95 [.ptr id v0 0] h fun r h'=>r = .ret (.tup [])∧h'=h.set id (.mk v0 102 2 [.ptr id v0 0,B]):=by
 refine ⟨by kernel_rfl,fun w g vs hs ha=>?_⟩
 simp only [RepL,Rep] at ha
 obtain ⟨u1,us1,e1,⟨b,cap,hl,rfl⟩,rfl⟩:=ha
 obtain rfl:vs = #[.pointer (some ⟨b,0,none⟩)]:=by cases vs;simp_all
 obtain ⟨A,cap',f1,fm,f3⟩:=hs.ent _ _ _ _ _ h1
 rw [hl] at f1
 simp only [Option.some.injEq,Prod.mk.injEq] at f1
 obtain ⟨rfl,rfl⟩:=f1
 rcases f3 with ⟨hz,_⟩ | ⟨b',arr,e,hc0,hd,hb,hsz,hle,hrl⟩
 ·cases hz
 cases e
 simp only [List.length_cons,List.length_nil,RepL] at hrl hle
 obtain ⟨u,us,e2,hu,u',us',rfl,hu',rfl⟩:=hrl
 have how:OwAt g h id b:=⟨v0,_,2,_,_,cap,h1,hl,hc0,rfl⟩
 have hcell:w.cell? ⟨b,0,none⟩=some u:=by
  rw [cell_of_row w b 0 arr _ _ hb]
  have:=congrArg (·[0]?) e2
  simpa using this
 rcases hp with rfl | rfl
 ·simp only [Rep] at hu
  subst hu
  obtain ⟨s1,n1,z1,_⟩:=hs.store h1 hl (k:=0) (c:=.ptr id v0 0) (u:=.pointer (some ⟨b,0,none⟩)) (by simp) (by simp only [Rep];exact ⟨b,cap,hl,rfl⟩)
  have hsh:w.shape? b=some (102,arr.size):=by simp [World.shape?,hb]
  refine (cpcheck_fresh b arr.size w hcell hsh (by simpa using hle) z1).mono ?_
  rintro e w' ⟨rfl,rfl⟩
  refine ⟨.ret (.tup []),_,g,?_,s1,Gh.le.refl g,⟨rfl,rfl,rfl,by simp [World.setCell],fun k hk ho=>heap_setCell_other _ _ _ _ (fun e=>ho ⟨id,by simpa [e] using how⟩)⟩,?_,rfl,rfl⟩
  ·simp only [EndR,Rep];exact ⟨#[],rfl,by simp only [RepL]⟩
  rintro k ⟨m,v,ty,s,c,b2,cap2,q1,q2,q3,q4⟩
  refine .inl ?_
  by_cases hm:m=id
  ·subst hm
   rw [List.getElem?_set_self (List.getElem?_eq_some_iff.1 h1).1] at q1
   cases q1
   exact ⟨m,_,_,_,_,b2,cap2,h1,q2,q3,q4⟩
  rw [List.getElem?_set_ne (Ne.symm hm)] at q1
  exact ⟨m,v,ty,s,c,b2,cap2,q1,q2,q3,q4⟩
 simp only [Rep] at hu
 obtain ⟨b2,cap2,l2,rfl⟩:=hu
 rw [hl] at l2
 cases l2
 refine (Any.Builder_copyCheck_used { Tryz.lays156 with } Tryz.Builder_Extra_156.toX72 b w hcell).mono ?_
 rintro e w' ⟨rfl,rfl⟩
 refine ⟨.ret (.tup []),h,g,?_,hs,Gh.le.refl g,Fr.refl _ _,fun k hk=>.inl hk,rfl,(hx_self h1).symm⟩
 simp only [EndR,Rep];exact ⟨#[],rfl,by simp only [RepL]⟩
theorem ltL_app2 {n:Nat} : ∀ {a b:List AV},AV.ltL n (a++b)=(AV.ltL n a&&AV.ltL n b)
 | [],b=>by simp [AV.ltL]
 | c::a,b=>by simp [AV.ltL,ltL_app2 (a:=a) (b:=b),Bool.and_assoc]
theorem bldWrite_a {p:AV}{L:Bs}{s:ByteArray}{id ib v0 v:Nat}{h:AH}(h1:h[id]?=some (.mk v0 102 2 [p,.own ib v L.length])) (h2:h[ib]?=some (.mk v 5 1 (rows byC L))) (hne:id≠ib) (hp:bldP id v0 p) (hz:L.length+s.size≤140737488355328) :
  ACalls Tryz.prog 61 [.ptr id v0 0,sv s] h fun r h'=>r = .ret (.tup [iv s.size,.v .nilIface])∧h'=(h.set id (.mk v0 102 2 [.ptr id v0 0,.own ib (v+1) (L++aB s).length])).set ib (.mk (v+1) 5 1 (rows byC (L++aB s))):=by
 have hid:id<h.length:=(List.getElem?_eq_some_iff.1 h1).1
 have hib:ib<h.length:=(List.getElem?_eq_some_iff.1 h2).1
 have hpl:p.lt h.length=true:=by rcases hp with rfl | rfl <;> simp [AV.lt,hid]
 refine tJ' k61 fun N hn hlt hlA hbd=>?_
 simp only [tA',AV.bdL,AV.bd,and_true,true_and] at hbd ⊢
 rw [hn] at hpl
 have hid':id<N:=by omega
 have hib':ib<N:=by omega
 refine aw_heap (h1:=(h.set id (.mk v0 102 2 [p,.own ib v L.length])).set ib (.mk v 5 1 (rows byC L))++[]) (by rw [hx2_self h1 h2]) ?_
 refine wr'<|mv' lki pt4<|mv' rfl pt5<|sn'<|wr'<|mv' lk0 pt6<|s_calls (mp1 lk6 mp0) (bldcheck_a (B:=.own ib v L.length) (hx2_at1 hne hid) hp) (hx2_set1 hne hid) pt7<|sn'<|wr'<|?_
 refine mv' lk0 pt8<|mv' lk0 pt9<|V' (v_nckp lk9) pt10<|V' (v_fap0 lk10) pt11<|V' (v_loadp lk11 (hx2_at1 hne hid) gt1) pt12<|mv' lk1 pt13<|?_
 refine E' (e_app (sc_str lk13) lk12 (hx2_at2 hib) (by_len _) (by omega) (by rw [←by_map];exact by_leaf _) (hx2_set2 hib)) pt14 ?_
 refine V' (v_nckp lk8) pt15<|V' (v_fap0 lk15) pt16<|E' (e_store lk16 (cvl lk14 rfl) (hx2_at1 hne hid) rfl (nb' rfl) rfl BldA_sc1_1 (hx2_set1 hne hid)) ptn<|sn'<|wr'<|mv' lk1 pt17<|V' (v_lenS lk17) pt18<|mv' lk18 pt4<|mv' rfl pt5<|sn'<|w_rets<|?_
 refine w_ret (rsn (rm1 (rr_t gt4) (rm1 (rr_t gt5) rm0))) ?_
 refine ⟨_,[],by simp only [List.append_nil];rfl,hx2_len hn,hx2_lt hlt (by simp [Ent.lt,AV.lt,AV.ltL, *]) (by rw [←by_map];simp [Ent.lt,by_lt,ltL_app2]),rfl,rfl,?_⟩
 rw [←by_map,←rows_app,List.length_append]
 rfl
theorem bldLen_a {p:AV}{L:Bs}{id ib v0 v:Nat}{h:AH}(h1:h[id]?=some (.mk v0 102 2 [p,.own ib v L.length])) :
  ACalls Tryz.prog 65 [.ptr id v0 0] h fun x h'=>h'=h∧x = .ret (iv L.length):=by
 refine tI' k65 fun N hn hlt hlA hbd=>?_
 simp only [tA',AV.bdL,AV.bd,and_true,true_and] at hbd ⊢
 refine wr'<|mv' lki pt2<|sn'<|wr'<|mv' lk0 pt3<|V' (v_nckp lk3) pt4<|V' (v_fap0 lk4) pt5<|V' (v_loadp lk5 (hx_app h1) gt1) pt6<|V' (v_lenO lk6) pt7<|mv' lk7 pt2<|s_nil<|?_
 exact n_seq<|w_rets<|w_ret (rs1 (rr_t gt2))<|rT' rfl
structure Turn1 (b:Nat) (w w':World):Prop where
 os:w'.os=w.os
 tape:w'.tape=w.tape
 output:w'.output=w.output
 size:w.heap.size≤w'.heap.size
 block : ∀ k,k<w.heap.size→k≠b→w'.heap[k]?=w.heap[k]?
set_option maxHeartbeats 1000000 in
theorem bstring_row (b g cap:Nat) (l:Bs) (cur:Array Value) (w:World) (hbk:w.cell? ⟨b,1,none⟩=some (.slice (some ⟨g,0,none⟩) l.length cap)) (hg:w.heap[g]?=some (.cells cur 5 (0,0))) (h0:l≠[]) (hnc:l.length≤cap) (hcm:cap≤maxLen) (hcs:cur.size=cap) (htake:cur.toList.take l.length=l.map fun x=>Value.int .u8 x.toNat) :
  Calls Tryz.prog 66 #[.pointer (some ⟨b,0,none⟩)] w fun e w'=>e = .returned (.string ⟨l.toArray⟩)∧Turn1 g w w':=by
 have hl0:l.length≠0:=by simpa using h0
 have c1:w.drew.cell? ⟨b,1,none⟩=some (.slice (some ⟨g,0,none⟩) l.length cap):=hbk
 have hSD:(Builtin.unsafeSliceData_ #[100] 132 #[.slice (some ⟨g,0,none⟩) l.length cap]).run Tryz.prog w.drew = .ok (.pointer (some ⟨g,0,none⟩)) w.drew :=
  Lib.run_unsafeSliceData_row _ _ _ _ _ _ (by omega)
 have hUS:(Builtin.unsafeString_ #[132,3] 9 #[.pointer (some ⟨g,0,none⟩),.int .i64 l.length]).run Tryz.prog w.drew = .ok (.string ⟨l.toArray⟩) (w.drew.freeze ⟨g,0,none⟩ l.length):=by
  refine Lib.run_unsafeString_row w.drew 132 3 9 5 Tryz.underlying132 (by kernel_rfl) g cur.size (by have hg':w.drew.heap[g]?=some (.cells cur 5 (0,0)):=hg;simp [World.shape?,hg']) l h0 (by omega) (by unfold maxLen at hcm;omega) ?_
  intro j x hx
  have hg':w.drew.heap[g]?=some (.cells cur 5 (0,0)):=hg
  rw [Addr.add_off,Nat.zero_add,cell_of_row w.drew g j cur _ _ hg']
  have:=congrArg (·[j]?) htake
  obtain ⟨hj,rfl⟩:=List.getElem?_eq_some_iff.1 hx
  simpa [List.getElem?_take,hj] using this
 have mixed:Tryz.prog.follows .mixedOrders=true:=by kernel_rfl
 go_enter Tryz.func66,Tryz.ntmps66
 go_wp2
 go_region_o
 all_goals (go_wp2;go_ret;refine ⟨rfl,?_⟩)
 all_goals
  refine ⟨?_,?_,?_,?_,fun k hk hne=>?_⟩ <;> (unfold World.freeze;rw [if_neg hl0]) <;> try rfl
  ·simp
  simp only [Array.getElem?_modify]
  rw [if_neg (fun e=>hne e.symm)];rfl
theorem SimH.drop1 {w w':World}{g:Gh}{h:AH}(hs:SimH w g h) (id:Nat) (hw : ∀ k,g.D k∨(∃ i,i≠id∧OwAt g h i k)→w'.heap[k]?=w.heap[k]?) (hsz:w.heap.size≤w'.heap.size):SimH w' g (h.set id .gone):=by
 have hget : ∀ {i v ty s:Nat} {c:List AV},(h.set id .gone)[i]?=some (.mk v ty s c)→i≠id∧h[i]?=some (.mk v ty s c):=by
  intro i v ty s c he
  by_cases hii:i=id
  ·subst hii
   rcases Nat.lt_or_ge i h.length with hl | hl
   ·rw [List.getElem?_set_self hl] at he;cases he
   rw [List.getElem?_eq_none (by simpa using hl)] at he;cases he
  rw [List.getElem?_set_ne (Ne.symm hii)] at he;exact ⟨hii,he⟩
 have how : ∀ i k,OwAt g (h.set id .gone) i k→i≠id∧OwAt g h i k:=by
  rintro i k ⟨v,ty,s,c,b,cap,e1,e2,e3,e4⟩
  exact ⟨(hget e1).1,v,ty,s,c,b,cap,(hget e1).2,e2,e3,e4⟩
 refine ⟨?_,fun i j k h1 h2=>hs.inj i j k (how i k h1).2 (how j k h2).2,fun k hk=>Nat.lt_of_lt_of_le (hs.lt k hk) hsz,?_,?_,hs.glob.mono (fun _ h=>h) (fun k hk=>hw k (.inl hk))⟩
 ·intro i v ty s cs he
  obtain ⟨hne,he'⟩:=hget he
  obtain ⟨A,cap,h1,h2,h3⟩:=hs.ent i v ty s cs he'
  refine ⟨A,cap,h1,h2,h3.mono (Gh.le.refl g) (fun _ _ _ h=>h) (fun k hk=>hw k (.inl hk)) (fun k hk h0=>hw k (.inr ⟨i,hne,?_⟩))⟩
  obtain ⟨a0,ea,rfl⟩:=Option.map_eq_some_iff.1 hk
  exact ⟨v,ty,s,cs,a0,cap,he',by rw [h1,ea],h0,rfl⟩
 ·intro i v l hl
  obtain ⟨f1,f2⟩:=hs.fresh i v l hl
  refine ⟨by simpa using f1,fun v' ty s c he=>f2 v' ty s c (hget he).2⟩
 intro i v l hl hfr
 by_cases hii:i=id
 ·subst hii
  rw [List.getElem?_set_self (hs.fresh _ _ _ hl).1] at hfr;cases hfr
 rw [List.getElem?_set_ne (Ne.symm hii)] at hfr;exact hs.free i v l hl hfr
theorem bldString_a {p:AV}{L:Bs}{id ib v0 v:Nat}{h:AH}(h1:h[id]?=some (.mk v0 102 2 [p,.own ib v L.length])) (h2:h[ib]?=some (.mk v 5 1 (rows byC L))) (hL:L≠[]) :
  ACalls Tryz.prog 66 [.ptr id v0 0] h fun r h'=>r = .ret (sv (bA L))∧h'=h.set ib .gone:=by
 refine ⟨by kernel_rfl,fun w g vs hs ha=>?_⟩
 simp only [RepL,Rep] at ha
 obtain ⟨u1,us1,e1,⟨b,cap,hl,rfl⟩,rfl⟩:=ha
 obtain rfl:vs = #[.pointer (some ⟨b,0,none⟩)]:=by cases vs;simp_all
 obtain ⟨A,cap',f1,fm,f3⟩:=hs.ent _ _ _ _ _ h1
 rw [hl] at f1
 simp only [Option.some.injEq,Prod.mk.injEq] at f1
 obtain ⟨rfl,rfl⟩:=f1
 rcases f3 with ⟨hz,_⟩ | ⟨b',arr,e,hc0,hd,hb,hsz,hle,hrl⟩
 ·cases hz
 cases e
 simp only [List.length_cons,List.length_nil,RepL,Rep] at hrl hle
 obtain ⟨u,us,e2,hu,u',us',rfl,⟨Ab,capb,lb,q1,q2,rfl⟩,rfl⟩:=hrl
 have hcell:w.cell? ⟨b,1,none⟩=some (.slice Ab L.length capb):=by
  rw [cell_of_row w b 1 arr _ _ hb]
  have:=congrArg (·[1]?) e2
  simpa using this
 obtain ⟨A2,cap2,k1,k2,k3⟩:=hs.ent _ _ _ _ _ h2
 rw [lb] at k1
 simp only [Option.some.injEq,Prod.mk.injEq] at k1
 obtain ⟨rfl,rfl⟩:=k1
 rcases k3 with ⟨hz,_⟩ | ⟨gb,cur,rfl,hc2,hd2,hb2,hsz2,hle2,hrl2⟩
 ·exact absurd hz (by rw [←List.length_eq_zero_iff,by_len];simp [hL])
 rw [by_len,Nat.mul_one] at hrl2 hle2
 have htake:=repL_by.1 hrl2
 have how:OwAt g h ib gb:=⟨v,_,1,_,_,capb,h2,lb,hc2,rfl⟩
 refine (bstring_row b gb capb L cur w hcell hb2 hL q1 q2 (by simpa using hsz2) htake).mono ?_
 rintro e w' ⟨rfl,ht⟩
 have hw : ∀ k,g.D k∨(∃ i,i≠ib∧OwAt g h i k)→w'.heap[k]?=w.heap[k]?:=by
  rintro k (hk | ⟨i,hne,hk⟩)
  ·exact ht.block k (hs.lt k hk) (fun e=>hd2 (e ▸ hk))
  refine ht.block k (hs.own_not_D ⟨i,hk⟩).2 (fun e=>hne ?_)
  subst e
  exact hs.inj i ib k hk how
 refine ⟨.ret (sv (bA L)),_,g,by simp only [EndR,Rep];rfl,SimH.drop1 hs ib hw ht.size,Gh.le.refl g,⟨ht.os,ht.tape,ht.output,ht.size,fun k hk ho=>ht.block k hk (fun e=>ho ⟨ib,e ▸ how⟩)⟩,?_,rfl,rfl⟩
 rintro k ⟨i,v',ty,s,c,b2,cap2,e1,e2,e3,e4⟩
 refine .inl ⟨i,v',ty,s,c,b2,cap2,?_,e2,e3,e4⟩
 by_cases hii:i=ib
 ·subst hii
  rw [List.getElem?_set_self (List.getElem?_eq_some_iff.1 h2).1] at e1;cases e1
 rw [List.getElem?_set_ne (Ne.symm hii)] at e1;exact e1
end Go.Proofs.YtgjchdhdopgkkaaGreatDoor
end
section
namespace Go.Proofs.YtgjchdhdopgkkaaGreatDoor
open Go.Ab Go.RowKit
attribute [local simp] str_lt
section
theorem LineD_Clone_5 {τ:Operand→AV}:fillAV τ [] []=some []:=rfl
end
def c94:AC:=(.seq (.reg [Oo 2 (.mv (Ci 0))]) (.seq (.seq (.reg [Mv 4 0,Oo 5 (.len true (.tmp 4)),Oo 6 (.mv (Ci 0))]) (.block 0 (.loop (.seq (.reg [Oo 7 (.bin .lss (.tmp 6) (.tmp 5))]) (.seq (.cond (.tmp 7) .skip (.exit 0)) (.seq (.block 1 (.seq (.reg [Mv 8 6,Mv 3 8]) (.seq (.reg [Mv 9 0,Mv 10 3,Oo 11 (.ix (.tmp 9) (.tmp 10)),Oo 12 (.call (.func 132) [(.tmp 11)]),Oo 13 (.un .not (.tmp 12)),Mv 14 13,Of 15 14 (.mv (.tmp 0)),Of 16 14 (.mv (.tmp 3)),Of 17 14 (.ix (.tmp 15) (.tmp 16)),Of 18 14 (.bin .eql (.tmp 17) (.const (.int .u8 34))),Oo 19 (.pick (.tmp 14) (.const (.bool true)) (.tmp 18))]) (.cond (.tmp 19) (.seq (.reg [Oo 2 (.mv (Ci 1))]) .ret) .skip)))) (.reg [Oo 20 (.bin .add (.tmp 6) (Ci 1)),Mv 6 20]))))))) (.seq (.seq (.reg [Mv 21 0,Oo 22 (.len true (.tmp 21)),Oo 23 (.bin .gtr (.tmp 22) (Ci 24))]) (.cond (.tmp 23) (.seq (.reg [Oo 2 (.mv (Ci 2))]) .ret) .skip)) (.seq (.reg [Oo 2 (.mv (Ci 0))]) .ret))))
theorem k94:compF Tryz.prog 94=some ⟨c94,[(.tmp 2)],24⟩:=by kernel_rfl
def c60:AC:=(.seq (.reg [Oo 1 (.box 67 3 (.tmp 0)),Oo 2 (.mv (Ci 0))]) (.seq (.block 0 (.seq (.reg [Fa 7 2 1,Ld 8 7,Oo 9 (.len false (.tmp 8)),Oo 10 (.bin .eql (.tmp 9) (Ci 0)),Mv 6 10]) (.cond (.tmp 6) (.seq (.reg [Oo 2 (.mv (Ci 1))]) .ret) (.seq (.reg [Fa 12 2 1,Ld 13 12,Oo 14 (.len false (.tmp 13)),Oo 15 (.bin .gtr (.tmp 14) (Ci 12)),Mv 11 15]) (.cond (.tmp 11) (.seq (.reg [Oo 2 (.mv (Ci 2))]) .ret) .skip))))) (.seq (.seq (.reg [Fa 16 2 1,Ld 17 16,Oo 18 (.len false (.tmp 17)),Oo 19 (.mv (Ci 0))]) (.block 1 (.loop (.seq (.reg [Oo 20 (.bin .lss (.tmp 19) (.tmp 18))]) (.seq (.cond (.tmp 20) .skip (.exit 1)) (.seq (.block 2 (.seq (.reg [Oo 21 (.ia 1 (.tmp 17) (.tmp 19)),Ld 22 21,Mv 4 22]) (.seq (.reg [Mv 23 4,Oo 24 (.call (.func 94) [(.tmp 23)]),Mv 5 24]) (.seq (.reg [Mv 25 5,Oo 26 (.bin .neq (.tmp 25) (Ci 0))]) (.cond (.tmp 26) (.seq (.reg [Mv 27 5,Mv 2 27]) .ret) .skip))))) (.reg [Oo 28 (.bin .add (.tmp 19) (Ci 1)),Mv 19 28]))))))) (.seq (.reg [Oo 2 (.mv (Ci 0))]) .ret))))
theorem k60:compF Tryz.prog 60=some ⟨c60,[(.tmp 2)],29⟩:=by kernel_rfl
def c63:AC:=(.seq (.reg [Oo 2 (.mv (.const (.string ⟨#[]⟩)))]) (.seq (.seq (.reg [Mv 3 0,Oo 4 (.bin .eql (.tmp 3) (.const (.string ⟨#[]⟩))),Mv 5 4,Of 6 5 (.mv (.tmp 0)),Of 7 5 (.call (.func 96) [(.tmp 6),(.const (.string ⟨#[32,9,35]⟩))]),Oo 8 (.pick (.tmp 5) (.const (.bool true)) (.tmp 7))]) (.cond (.tmp 8) (.seq (.reg [Mv 9 0,Oo 10 (.bin .add (.const (.string ⟨#[34]⟩)) (.tmp 9)),Oo 11 (.bin .add (.tmp 10) (.const (.string ⟨#[34]⟩))),Mv 2 11]) .ret) .skip)) (.seq (.reg [Mv 12 0,Mv 2 12]) .ret)))
theorem k63:compF Tryz.prog 63=some ⟨c63,[(.tmp 2)],13⟩:=by kernel_rfl
def c62:AC:=(.seq (.reg [Oo 2 (.mv (.const (.slice none 0 0)))]) (.seq (.seq (.reg [Mv 3 0,Oo 4 (.eqn false (.tmp 3))]) (.cond (.tmp 4) (.seq (.reg [Oo 2 (.mv (.const (.slice none 0 0)))]) .ret) .skip)) (.seq (.reg [Oo 5 (.lit 9 1 0 [] []),Mv 6 0,Oo 7 (.app 9 1 16 (.tmp 5) (.tmp 6)),Mv 2 7]) .ret)))
theorem k62:compF Tryz.prog 62=some ⟨c62,[(.tmp 2)],8⟩:=by kernel_rfl
def badN (n:Int):Bool:=!plnN n||decide (n=34)
def fieldE (f:ByteArray):Int:=if (aB f).any (fun c=>badN c.toNat)=true then 1 else if 24<f.size then 2 else 0
def firstE:List ByteArray→Int
 | []=>0
 | f::fs=>if fieldE f≠0 then fieldE f else firstE fs
def lineE (fs:List ByteArray):Int:=if fs.length=0 then 1 else if 12<fs.length then 2 else firstE fs
def quoN (n:Int):Bool:=blkN n||decide (n=35)
def quoB (f:ByteArray):Bool:=decide (f.size=0)||(aB f).any (fun c=>quoN c.toNat)
def textB (f:ByteArray):ByteArray:=if quoB f=true then bA [34]++f++bA [34] else f
theorem any_hit {p:Int→Bool}{s:ByteArray}{k:Nat}(h:k<s.size) (hp:p (byteAt s k).toNat=true):(aB s).any (fun c=>p c.toNat)=true:=by
 rw [←List.take_append_drop k (aB s),List.any_append,aB_at h]
 simp [hp]
theorem any_go {p:Int→Bool}{s:ByteArray}{k:Nat}(h:k<s.size) (hp:p (byteAt s k).toNat=false) (ht:((aB s).take k).any (fun c=>p c.toNat)=false):((aB s).take (k+1)).any (fun c=>p c.toNat)=false:=by
 rw [List.take_add,List.any_append,ht,aB_at h]
 simp [hp]
theorem any_end {p:Int→Bool}{s:ByteArray}{k:Nat}(h:s.size≤k) (ht:((aB s).take k).any (fun c=>p c.toNat)=false):(aB s).any (fun c=>p c.toNat)=false:=by
 rw [List.take_of_length_le (show (aB s).length≤k from h)] at ht;exact ht
theorem lnfieldE_a {f:ByteArray}{h:AH}(hf:f.size≤maxLen):ACalls Tryz.prog 94 [sv f] h fun x h'=>h'=h∧x = .ret (iv (fieldE f)):=by
 have hm:f.size≤9223372036854775807:=by simpa [maxLen] using hf
 refine tI' k94 fun N hn hlt hlA hbd=>?_
 simp only [tA',AV.bdL,AV.bd,and_true,true_and] at hbd ⊢
 refine wr'<|mv' lki pt2<|sn'<|w_seq<|wr'<|mv' lk0 pt4<|V' (v_lenS lk4) pt5<|mv' lki pt6<|sn'<|w_block<|?_
 refine w_lp (ι:=Nat) (fun (k:Nat)=>[(6,iv (k:Int)),(2,.any),(3,.any)]++rn' 7 14) (fun (k:Nat)=>[]) (fun (k:Nat)=>k≤f.size∧((aB f).take k).any (fun c=>badN c.toNat)=false) (fun (k:Nat)=>f.size-k) (0) (by exact ⟨Nat.zero_le _,rfl⟩) ?_
 rintro k hi1
 try simp only [setsT,setsE,z',s',rn',la',ln',Nat.reduceAdd]
 obtain ⟨hk1,hk2⟩:=hi1
 refine wr'<|V' (v_lss lk6 lk5) pt7<|sn'<|w_seq<|?_
 refine cd' lk7 (fun hc1=>?_) (fun hc1=>?_)
 ·have hk:k<f.size:=by omega
  refine w_skip<|n_seq<|w_seq<|w_block<|wr'<|mv' lk6 pt8<|mv' lk8 pt3<|sn'<|wr'<|mv' lk0 pt9<|mv' lk3 pt10<|?_
  refine V' (v_ix lk9 lk10 (by omega) (by omega)) pt11 ?_
  refine s_callp (mp1 lk11 mp0) (lnplain_a) pt12<|V' (v_notB lk12) pt13<|mv' lk13 pt14<|?_
  refine s_splitB gt14 pt14 pt14 (fun hg14=>?_) (fun hg14=>?_)
  ·have hb:badN (byteAt f k).toNat=true:=by have:=hg14;rw [Bool.not_eq_true'] at this;unfold badN;rw [show plnN (byteAt f k).toNat=false from this];rfl
   have hE:fieldE f=1:=if_pos (any_hit (p:=badN) hk hb)
   refine s_no gt14 pt15<|s_no gt14 pt16<|s_no gt14 pt17<|s_no gt14 pt18<|V' (v_pickT lk14 lkb) pt19<|sn'<|w_condT lk19<|wr'<|mv' lki pt2<|sn'<|w_rets<|?_
   refine r_blk<|r_thn<|r_thn<|r_blk<|r_thn<|w_ret (rs1 (rr_t gt2))<|rT'<|?_
   rw [hE]
  have hg14':plnN (byteAt f k).toNat=true:=by have:=hg14;rw [Bool.not_eq_false'] at this;exact this
  refine s_do gt14<|mv' lk0 pt15<|s_do gt14<|mv' lk3 pt16<|s_do gt14<|?_
  refine V' (v_ix lk15 lk16 (by omega) (by omega)) pt17 ?_
  refine s_do gt14<|V' (v_eql lk17 lki) pt18<|V' (v_pickF lk14 lk18) pt19<|sn'<|?_
  refine cd' lk19 (fun hc2=>?_) (fun hc2=>?_)
  ·have hb:badN (byteAt f k).toNat=true:=by unfold badN;rw [show decide (((byteAt f k).toNat:Int)=34)=true from decide_eq_true hc2];simp
   have hE:fieldE f=1:=if_pos (any_hit (p:=badN) hk hb)
   refine wr'<|mv' lki pt2<|sn'<|w_rets<|r_blk<|r_thn<|r_thn<|r_blk<|r_thn<|w_ret (rs1 (rr_t gt2))<|rT'<|?_
   rw [hE]
  have hb:badN (byteAt f k).toNat=false:=by unfold badN;rw [hg14',show decide (((byteAt f k).toNat:Int)=34)=false from decide_eq_false hc2];rfl
  refine w_skip<|n_blk<|n_seq<|w_reg<|?_
  refine V' (v_add lk6 lki (by omega) (by omega)) pt20 ?_
  refine mv' lk20 pt6<|s_nil<|n_thn<|?_
  refine lT' (k+1) (by (try dsimp only);exact ⟨by omega,any_go (p:=badN) hk hb hk2⟩)
 have hA:=any_end (p:=badN) (s:=f) (k:=k) (by omega) hk2
 refine w_exit<|x_thn<|x_thn<|x_blk<|n_seq<|w_seq<|wr'<|mv' lk0 pt21<|V' (v_lenS lk21) pt22<|V' (v_gtr lk22 lki) pt23<|sn'<|?_
 refine cd' lk23 (fun hc3=>?_) (fun hc3=>?_)
 ·refine wr'<|mv' lki pt2<|sn'<|w_rets<|r_thn<|w_ret (rs1 (rr_t gt2))<|rT'<|?_
  rw [fieldE,if_neg (by rw [hA];simp),if_pos (by omega)]
 refine w_skip<|n_seq<|wr'<|mv' lki pt2<|sn'<|w_rets<|w_ret (rs1 (rr_t gt2))<|rT'<|?_
 rw [fieldE,if_neg (by rw [hA];simp),if_neg (by omega)]
theorem firstE_at {fs:List ByteArray}{k:Nat}(h:k<fs.length):firstE (fs.drop k)=if fieldE fs[k]≠0 then fieldE fs[k] else firstE (fs.drop (k+1)):=by
 rw [List.drop_eq_getElem_cons h,firstE]
theorem lnlineE_a {n:Int}{b:Bool}{fs:List ByteArray}{full:Bool}{h:AH}(hfs : ∀ f∈fs,f.size≤maxLen):ACalls Tryz.prog 60 [.agg [iv n,bv b,.sl fs.length 1 full (rows strC fs)]] h fun x h'=>h'=h∧x = .ret (iv (lineE fs)):=by
 refine tI' k60 fun N hn hlt hlA hbd=>?_
 simp only [tA',AV.bdL,AV.bd,and_true,true_and] at hbd ⊢
 refine wr'<|E' (e_box (cvl lk0 rfl) rfl (hl0 hn) ha0) pt1<|mv' lki pt2<|sn'<|w_seq<|w_block<|wr'<|V' (v_fap0 lk1) pt7<|V' (v_loadp lk7 (hga hn rfl) gt2) pt8<|V' (v_lenL lk8) pt9<|V' (v_eql lk9 lki) pt10<|?_
 refine mv' lk10 pt6<|sn'<|?_
 refine cd' lk6 (fun hc1=>?_) (fun hc1=>?_)
 ·have hE:lineE fs=1:=if_pos (by omega)
  refine wr'<|mv' lki pt2<|sn'<|w_rets<|r_blk<|r_thn<|w_ret (rs1 (rr_t gt2))<|rT'<|?_
  rw [hE]
 refine wr'<|V' (v_fap0 lk1) pt12<|V' (v_loadp lk12 (hga hn rfl) gt2) pt13<|V' (v_lenL lk13) pt14<|V' (v_gtr lk14 lki) pt15<|mv' lk15 pt11<|sn'<|?_
 refine cd' lk11 (fun hc2=>?_) (fun hc2=>?_)
 ·have hE:lineE fs=2:=by rw [lineE,if_neg (by omega),if_pos (by omega)]
  refine wr'<|mv' lki pt2<|sn'<|w_rets<|r_blk<|r_thn<|w_ret (rs1 (rr_t gt2))<|rT'<|?_
  rw [hE]
 have hE:lineE fs=firstE fs:=by rw [lineE,if_neg (by omega),if_neg (by omega)]
 refine w_skip<|n_blk<|n_seq<|w_seq<|wr'<|V' (v_fap0 lk1) pt16<|V' (v_loadp lk16 (hga hn rfl) gt2) pt17<|V' (v_lenL lk17) pt18<|mv' lki pt19<|sn'<|w_block<|?_
 refine w_lp (ι:=Nat) (fun (k:Nat)=>[(19,iv (k:Int)),(2,.any),(4,.any),(5,.any)]++rn' 20 9) (fun (k:Nat)=>[]) (fun (k:Nat)=>k≤fs.length∧lineE fs=firstE (fs.drop k)) (fun (k:Nat)=>fs.length-k) (0) (by exact ⟨Nat.zero_le _,hE⟩) ?_
 rintro k hi1
 try simp only [setsT,setsE,z',s',rn',la',ln',Nat.reduceAdd]
 obtain ⟨hk1,hk2⟩:=hi1
 refine wr'<|V' (v_lss lk19 lk18) pt20<|sn'<|w_seq<|?_
 refine cd' lk20 (fun hc3=>?_) (fun hc3=>?_)
 ·have hk:k<fs.length:=by omega
  rw [firstE_at hk] at hk2
  refine w_skip<|n_seq<|w_seq<|w_block<|wr'<|?_
  refine V' (v_iaR lk17 lk19 str_len1 (nb' rfl) (by first | rfl | omega) (by omega) (by first | rfl | omega) rfl) pt21 ?_
  refine V' (v_loadr lk21 gt0) pt22<|mv' lk22 pt4<|sn'<|wr'<|mv' lk4 pt23<|s_callp (mp1 lk23 mp0) (lnfieldE_a (hfs _ (List.getElem_mem hk))) pt24<|mv' lk24 pt5<|sn'<|wr'<|mv' lk5 pt25<|?_
  refine V' (v_neq lk25 lki) pt26<|sn'<|?_
  refine cd' lk26 (fun hc4=>?_) (fun hc4=>?_)
  ·rw [if_pos hc4] at hk2
   refine wr'<|mv' lk5 pt27<|mv' lk27 pt2<|sn'<|w_rets<|r_blk<|r_thn<|r_thn<|r_blk<|r_thn<|w_ret (rs1 (rr_t gt2))<|rT'<|?_
   rw [hk2]
  rw [if_neg hc4] at hk2
  refine w_skip<|n_blk<|n_seq<|w_reg<|?_
  refine V' (v_add lk19 lki (by omega) (by omega)) pt28 ?_
  refine mv' lk28 pt19<|s_nil<|n_thn<|?_
  refine lT' (k+1) (by (try dsimp only);exact ⟨by omega,hk2⟩)
 rw [List.drop_of_length_le (by omega)] at hk2
 refine w_exit<|x_thn<|x_thn<|x_blk<|n_seq<|wr'<|mv' lki pt2<|sn'<|w_rets<|w_ret (rs1 (rr_t gt2))<|rT'<|?_
 rw [hk2];rfl
theorem containsAny_any (cs:Bs) : ∀ l:Bs,Lib.containsAny l cs=l.any (fun c=>cs.contains c)
 | []=>rfl
 | c::l=>by
  have ih:=containsAny_any cs l
  unfold Lib.containsAny at ih ⊢
  unfold Lib.indexAny
  by_cases hc:cs.contains c=true
  ·rw [if_pos hc,List.any_cons,hc];rfl
  rw [if_neg hc]
  have hc':cs.contains c=false:=by simpa using hc
  rw [List.any_cons,hc',Bool.false_or,←ih]
  have:=Lib.indexAny_ge cs l
  by_cases h1:Lib.indexAny l cs = -1
  ·rw [if_pos (by simpa using h1),h1]
  rw [if_neg (by simpa using h1)]
  rw [Bool.eq_iff_iff];simp;omega
theorem quo_mem (c:UInt8):([32,9,35]:Bs).contains c=quoN c.toNat:=by
 unfold quoN blkN
 rw [Bool.eq_iff_iff]
 simp only [List.contains_cons,List.contains_nil,Bool.or_false,Bool.or_eq_true,beq_iff_eq,decide_eq_true_eq]
 constructor
 ·rintro (rfl | rfl | rfl) <;> simp
 rintro ((h | h) | h)
 ·exact .inl (UInt8.toNat_inj.1 (by simpa using (show c.toNat=32 by omega)))
 ·exact .inr (.inl (UInt8.toNat_inj.1 (by simpa using (show c.toNat=9 by omega))))
 exact .inr (.inr (UInt8.toNat_inj.1 (by simpa using (show c.toNat=35 by omega))))
theorem strcontains_a {s cs:ByteArray}{h:AH}(hz:s.size≤8000) (hc:cs.size≤8000) (hs : ∀ (j:Nat) b,(aB s)[j]?=some b→b.toNat<128) (hcs : ∀ (j:Nat) b,(aB cs)[j]?=some b→b.toNat<128) :
  ACalls Tryz.prog 96 [sv s,sv cs] h fun x h'=>h'=h∧x = .ret (bv ((aB s).any fun c=>(aB cs).contains c)):=by
 refine ACalls.of_below (by kernel_rfl) fun w g vs hs' ha=>?_
 simp only [RepL,Rep] at ha
 obtain ⟨u1,us1,e1,rfl,u2,us2,rfl,rfl,rfl⟩:=ha
 obtain rfl:vs = #[.string s,.string cs]:=by cases vs;simp_all
 refine (Tryz.strings_ContainsAny (fun w=>by kernel_rfl) s cs w (by omega) (by omega) hs hcs).mono ?_
 rintro e w' ⟨rfl,hb⟩
 exact ⟨_,rfl,hb,by simp only [Rep];rw [containsAny_any];rfl⟩
theorem fieldE_ok {f:ByteArray}(h:fieldE f=0):(aB f).any (fun c=>badN c.toNat)=false∧f.size≤24:=by
 unfold fieldE at h
 split at h
 ·cases h
 rename_i h1
 split at h
 ·cases h
 exact ⟨by simpa using h1,by omega⟩
theorem badN_lt {n:Int}(h:badN n=false):n<128:=by
 unfold badN at h
 simp only [Bool.or_eq_false_iff,Bool.not_eq_false'] at h
 have h1:=h.1
 unfold plnN at h1
 simp at h1;omega
theorem fieldE_ascii {f:ByteArray}(h:fieldE f=0) (j:Nat) (b:UInt8) (hb:(aB f)[j]?=some b):b.toNat<128:=by
 have h1:=(fieldE_ok h).1
 rw [List.any_eq_false] at h1
 have:=h1 b (List.mem_of_getElem? hb)
 have:=badN_lt (n:=b.toNat) (by simpa using this)
 omega
theorem size_zero {f:ByteArray}:f=bA []↔f.size=0:=by
 constructor
 ·rintro rfl;rfl
 intro h
 rw [←bA_aB f,List.eq_nil_of_length_eq_zero (show (aB f).length=0 from h)]
theorem lntext_a {f:ByteArray}{h:AH}(hf:fieldE f=0):ACalls Tryz.prog 63 [sv f] h fun x h'=>h'=h∧x = .ret (sv (textB f)):=by
 obtain ⟨hf1,hf2⟩:=fieldE_ok hf
 refine tI' k63 fun N hn hlt hlA hbd=>?_
 simp only [tA',AV.bdL,AV.bd,and_true,true_and] at hbd ⊢
 refine wr'<|mv' lks pt2<|sn'<|w_seq<|wr'<|mv' lk0 pt3<|V' (v_eqlS lk3 lks) pt4<|mv' lk4 pt5<|?_
 refine sp' gt5 pt5 pt5 (fun hg5=>?_) (fun hg5=>?_)
 ·have hq:quoB f=true:=by unfold quoB;rw [show f.size=0 from size_zero.1 hg5];rfl
  refine s_no gt5 pt6<|s_no gt5 pt7<|V' (v_pickT lk5 lkb) pt8<|sn'<|w_condT lk8<|wr'<|mv' lk0 pt9<|?_
  refine V' (v_addS lks lk9 (by rw [show (⟨#[34]⟩:ByteArray).size=1 from rfl];omega)) pt10 ?_
  refine V' (v_addS lk10 lks (by rw [ByteArray.size_append,show (⟨#[34]⟩:ByteArray).size=1 from rfl];omega)) pt11 ?_
  refine mv' lk11 pt2<|sn'<|w_rets<|r_thn<|w_ret (rs1 (rr_t gt2))<|rT'<|?_
  rw [textB,if_pos hq];rfl
 have hz:f.size≠0:=fun e=>hg5 (size_zero.2 e)
 refine s_do gt5<|mv' lk0 pt6<|s_do gt5<|?_
 refine s_callp (mp1 lk6 (mp1 lks mp0)) (strcontains_a (by omega) (by decide) (fieldE_ascii hf) (by intro j b hb;have:=List.mem_of_getElem? hb;revert this;show b∈([32,9,35]:Bs)→_;simp;rintro (rfl | rfl | rfl) <;> decide)) pt7 ?_
 refine V' (v_pickF lk5 lk7) pt8<|sn'<|?_
 refine w_condB lk8 (fun hc1=>?_) (fun hc1=>?_)
 ·have hq:quoB f=true:=by
   unfold quoB
   have:(aB f).any (fun c=>([32,9,35]:Bs).contains c)=true:=hc1
   simp only [quo_mem] at this
   rw [this];simp
  refine wr'<|mv' lk0 pt9<|?_
  refine V' (v_addS lks lk9 (by rw [show (⟨#[34]⟩:ByteArray).size=1 from rfl];omega)) pt10 ?_
  refine V' (v_addS lk10 lks (by rw [ByteArray.size_append,show (⟨#[34]⟩:ByteArray).size=1 from rfl];omega)) pt11 ?_
  refine mv' lk11 pt2<|sn'<|w_rets<|r_thn<|w_ret (rs1 (rr_t gt2))<|rT'<|?_
  rw [textB,if_pos hq];rfl
 have hq:quoB f=false:=by
  unfold quoB
  have:(aB f).any (fun c=>([32,9,35]:Bs).contains c)=false:=hc1
  simp only [quo_mem] at this
  rw [this];simp [hz]
 refine w_skip<|n_seq<|wr'<|mv' lk0 pt12<|mv' lk12 pt2<|sn'<|w_rets<|w_ret (rs1 (rr_t gt2))<|rT'<|?_
 rw [textB,if_neg (by simp [hq])]
theorem lnclone_a {l:List ByteArray}{full:Bool}{h:AH}(hl:l.length≤3000000000000):ACalls Tryz.prog 62 [.sl l.length 1 full (rows strC l)] h fun r h' => ∃ v,r = .ret (.own h.length v l.length)∧h'=h++[.mk v 9 1 (rows strC l)]:=by
 refine tN' k62 fun N hn hlt hlA hbd=>?_
 simp only [tA',AV.bdL,AV.bd,and_true,true_and] at hbd ⊢
 refine wr'<|mv' lkn pt2<|sn'<|w_seq<|wr'<|mv' lk0 pt3<|?_
 refine s_eqn lk3 (fun _=>pt4) (fun bn3 hbn3=>?_)
 refine sn' ?_
 refine cd' lk4 (fun hc1=>?_) (fun hc1=>?_)
 ·refine wr'<|mv' lkn pt2<|s_nil<|n_seqw (ALe.own0 (d:=2) (st':=1) (ty:=9) rfl)<|w_rets<|r_thn<|w_ret (rs1 (rr_t gt2))<|?_
  have h0:l=[]:=List.eq_nil_of_length_eq_zero ((Nat.eq_zero_or_pos _).resolve_right (fun e=>by have:=hbn3 e;rw [hc1] at this;cases this))
  subst h0
  exact ⟨0,by simp,by simp [rows]⟩
 refine w_skip<|n_seq<|wr'<|E' (e_lit LineD_Clone_5 (hl0 hn) ha0) pt5<|mv' lk0 pt6<|?_
 refine E' (e_app (sc_sl lk6 (str_len _)) lk5 (hga hn rfl) rfl (by omega) (str_leaf _) (hs0 hn)) pt7 ?_
 refine mv' lk7 pt2<|sn'<|w_rets<|w_ret (rs1 (rr_t gt2))<|?_
 exact ⟨0+1,by simp [hn],by simp⟩
end Go.Proofs.YtgjchdhdopgkkaaGreatDoor
end
section
namespace Go.Proofs.YtgjchdhdopgkkaaGreatDoor
open Go.Ab Go.RowKit
attribute [local simp] str_lt ln_lt by_lt
section
theorem LineE_tk_3 {a0 a1 a2:AV}{l:List AV}:(a0::a1::a2::l).take 3=[a0,a1,a2]:=rfl
theorem LineE_sc0_3 {a0 a1 a2 c0 c1 c2:AV}{l:List AV}:setCells (a0::a1::a2::l) 0 [c0,c1,c2]=c0::c1::c2::l:=rfl
theorem LineE_tk0_3 {a0 a1 a2:AV}{l:List AV}:((a0::a1::a2::l).drop 0).take 3=[a0,a1,a2]:=rfl
end
def c23:AC:=(.seq (.reg [Oo 2 (.mv (.const (.string ⟨#[]⟩))),Oo 3 (.mv (Ci 0))]) (.seq (.seq (.reg [Mv 10 0,Oo 11 (.len false (.tmp 10)),Oo 12 (.bin .gtr (.tmp 11) (Ci 200))]) (.cond (.tmp 12) (.seq (.reg [Oo 2 (.mv (.const (.string ⟨#[]⟩))),Oo 3 (.mv (Ci 2))]) .ret) .skip)) (.seq (.reg [Oo 4 (.new 102 2 [(.v (.pointer none)),(.sl 0 0 true [])])]) (.seq (.seq (.reg [Mv 13 0,Oo 14 (.len false (.tmp 13)),Oo 15 (.mv (Ci 0))]) (.block 0 (.loop (.seq (.reg [Oo 16 (.bin .lss (.tmp 15) (.tmp 14))]) (.seq (.cond (.tmp 16) .skip (.exit 0)) (.seq (.block 1 (.seq (.reg [Oo 17 (.ia 3 (.tmp 13) (.tmp 15)),Oo 18 (.load true 3 (.tmp 17)),Oo 6 (.new 67 3 [(iv 0),(.v (.bool false)),(.sl 0 0 true [])]),⟨none,none,(.store 3 (.tmp 6) (.tmp 18))⟩]) (.seq (.seq (.reg [Oo 19 (.load true 3 (.tmp 6)),Oo 20 (.call (.func 60) [(.tmp 19)]),Mv 7 20]) (.seq (.reg [Mv 21 7,Oo 22 (.bin .neq (.tmp 21) (Ci 0))]) (.cond (.tmp 22) (.seq (.reg [Mv 23 7,Oo 2 (.mv (.const (.string ⟨#[]⟩))),Mv 3 23]) .ret) .skip))) (.seq (.seq (.reg [Fa 24 1 6,Ld 25 24]) (.cond (.tmp 25) (.reg [Oo 26 (.call (.func 61) [(.tmp 4),(.const (.string ⟨#[32]⟩))])]) .skip)) (.seq (.reg [Fa 27 2 6,Ld 28 27,Oo 29 (.call (.func 62) [(.tmp 28)]),Mv 8 29]) (.seq (.seq (.reg [Mv 30 8,Oo 31 (.len false (.tmp 30)),Oo 32 (.mv (Ci 0))]) (.block 2 (.loop (.seq (.reg [Oo 33 (.bin .lss (.tmp 32) (.tmp 31))]) (.seq (.cond (.tmp 33) .skip (.exit 2)) (.seq (.block 3 (.seq (.reg [Mv 34 32,Mv 9 34]) (.reg [Mv 35 8,Mv 36 9,Mv 37 8,Mv 38 9,Oo 39 (.ia 1 (.tmp 37) (.tmp 38)),Ld 40 39,Oo 41 (.call (.func 63) [(.tmp 40)]),Oo 42 (.ia 1 (.tmp 35) (.tmp 36)),⟨none,none,(.store 1 (.tmp 42) (.tmp 41))⟩]))) (.reg [Oo 43 (.bin .add (.tmp 32) (Ci 1)),Mv 32 43]))))))) (.reg [Mv 44 8,Oo 45 (.call (.func 64) [(.tmp 44),(.const (.string ⟨#[32]⟩))]),Oo 46 (.bin .add (.tmp 45) (.const (.string ⟨#[10]⟩))),Oo 47 (.call (.func 61) [(.tmp 4),(.tmp 46)])]))))))) (.reg [Oo 48 (.bin .add (.tmp 15) (Ci 1)),Mv 15 48]))))))) (.seq (.seq (.reg [Oo 49 (.call (.func 65) [(.tmp 4)]),Oo 50 (.bin .gtr (.tmp 49) (Ci 8000))]) (.cond (.tmp 50) (.seq (.reg [Oo 2 (.mv (.const (.string ⟨#[]⟩))),Oo 3 (.mv (Ci 2))]) .ret) .skip)) (.seq (.reg [Oo 51 (.call (.func 66) [(.tmp 4)]),Mv 2 51,Oo 3 (.mv (Ci 0))]) .ret))))))
theorem k23:compF Tryz.prog 23=some ⟨c23,[(.tmp 2),(.tmp 3)],52⟩:=by kernel_rfl
def joinS:List Bs→Bs
 | []=>[]
 | [a]=>a
 | a::b::l=>a++32::joinS (b::l)
theorem join_S : ∀ l:List Bs,Lib.join l [32]=joinS l
 | []=>rfl
 | [a]=>by simp [Lib.join,joinS,List.intercalate]
 | a::b::l=>by
  have:=join_S (b::l)
  unfold Lib.join at this ⊢
  rw [joinS,←this]
  simp [List.intercalate]
theorem joinS_len : ∀ (l:List Bs) (n:Nat),(∀ x∈l,x.length≤n)→(joinS l).length≤l.length*(n+1)
 | [],n,h=>Nat.zero_le _
 | [a],n,h=>by have:=h a (by simp);simp [joinS];omega
 | a::b::l,n,h=>by
  have h1:=h a (by simp)
  have h2:=joinS_len (b::l) n (fun x hx=>h x (by simp [hx]))
  rw [joinS]
  simp only [List.length_append,List.length_cons] at h2 ⊢
  rw [Nat.add_mul (l.length+1) 1]
  omega
def lineB (x:Ln):Bs:=(if x.2.1=true then [32] else [])++(joinS (x.2.2.map fun f=>aB (textB f))++[10])
def joinE:List Ln→Int
 | []=>0
 | x::xs=>if lineE x.2.2≠0 then lineE x.2.2 else joinE xs
def joinT (l:List Ln):Bs:=l.flatMap lineB
def joinV (l:List Ln):ByteArray×Int :=
 if 200<l.length then (bA [],2) else if joinE l≠0 then (bA [],joinE l) else if 8000<(joinT l).length then (bA [],2) else (bA (joinT l),0)
def okLns (l:List Ln):Prop := ∀ x∈l,∀ f∈x.2.2,f.size≤maxLen
theorem firstE_ok : ∀ {fs:List ByteArray},firstE fs=0 → ∀ f∈fs,fieldE f=0
 | [],_,f,hf=>by simp at hf
 | g::fs,h,f,hf=>by
  rw [firstE] at h
  split at h
  ·rename_i h1;exact absurd h h1
  rename_i h1
  rcases List.mem_cons.1 hf with rfl | hf
  ·exact Decidable.of_not_not h1
  exact firstE_ok h f hf
theorem lineE_ok {fs:List ByteArray}(h:lineE fs=0):0<fs.length∧fs.length≤12 ∧ ∀ f∈fs,fieldE f=0:=by
 unfold lineE at h
 split at h
 ·cases h
 split at h
 ·cases h
 exact ⟨by omega,by omega,firstE_ok h⟩
theorem textB_len {f:ByteArray}(h:fieldE f=0):(textB f).size≤26:=by
 have:=(fieldE_ok h).2
 unfold textB
 split
 ·rw [ByteArray.size_append,ByteArray.size_append,bA_size,List.length_singleton];omega
 omega
theorem joinF_len {fs:List ByteArray}(h:lineE fs=0):(joinS (fs.map fun f=>aB (textB f))).length≤324:=by
 obtain ⟨h1,h2,h3⟩:=lineE_ok h
 have:=joinS_len (fs.map fun f=>aB (textB f)) 26 (fun x hx=>by
  obtain ⟨f,hf,rfl⟩:=List.mem_map.1 hx
  exact textB_len (h3 f hf))
 rw [List.length_map] at this
 omega
theorem strjoinO_a {l:List ByteArray}{id v ty n:Nat}{h:AH}(hnl:l.length=n) (he:h[id]?=some (.mk v ty 1 (rows strC l))) (hl:0<l.length) (hz:l.length≤8000) (hj:(joinS (l.map aB)).length≤100000) :
  ACalls Tryz.prog 64 [.own id v n,sv (bA [32])] h fun x h'=>h'=h∧x = .ret (sv (bA (joinS (l.map aB)))):=by
 subst hnl
 refine ACalls.of_below (by kernel_rfl) fun w g vs hs ha=>?_
 simp only [RepL,Rep] at ha
 obtain ⟨u1,us1,e1,⟨A,cap,l1,q1,q2,rfl⟩,u2,us2,rfl,rfl,rfl⟩:=ha
 obtain rfl:vs = #[.slice A l.length cap,.string (bA [32])]:=by cases vs;simp_all
 obtain ⟨A',cap',f1,fm,f3⟩:=hs.ent _ _ _ _ _ he
 rw [l1] at f1
 simp only [Option.some.injEq,Prod.mk.injEq] at f1
 obtain ⟨rfl,rfl⟩:=f1
 rcases f3 with ⟨hz,_⟩ | ⟨b,arr,rfl,hc0,hd,hb,hsz,hle,hrl⟩
 ·have:=congrArg List.length hz
  rw [str_len] at this;simp at this;omega
 rw [str_len,Nat.mul_one] at hrl hle
 have htake:=repL_str.1 hrl
 have hJ:Lib.join (l.map (·.data.toList)) (bA [32]).data.toList=joinS (l.map aB):=join_S _
 refine (Tryz.strings_Join b 0 cap l (bA [32]) w ?_ (Array.getElem?_eq_some_iff.1 hb).1 (by omega) q1 (by rw [hJ];omega)).mono ?_
 ·intro j x hx
  obtain ⟨hj,rfl⟩:=List.getElem?_eq_some_iff.1 hx
  rw [cell_of_row w b (0+j) arr _ _ hb,Nat.zero_add]
  have:=congrArg (·[j]?) htake
  simpa [List.getElem?_take,hj] using this
 rintro e w' ⟨rfl,hbw⟩
 refine ⟨_,rfl,hbw,?_⟩
 simp only [Rep]
 rw [hJ];rfl
theorem joinE_at {l:List Ln}{k:Nat}(h:k<l.length):joinE (l.drop k)=if lineE (l[k]).2.2≠0 then lineE (l[k]).2.2 else joinE (l.drop (k+1)):=by
 rw [List.drop_eq_getElem_cons h,joinE]
theorem joinT_at {l:List Ln}{k:Nat}(h:k<l.length):joinT (l.drop k)=lineB l[k]++joinT (l.drop (k+1)):=by
 rw [List.drop_eq_getElem_cons h];rfl
def texted (fs:List ByteArray) (j:Nat):List ByteArray:=(fs.take j).map textB++fs.drop j
theorem texted_len {fs:List ByteArray}{j:Nat}:(texted fs j).length=fs.length:=by
 unfold texted
 simp;omega
theorem texted_end {fs:List ByteArray}:texted fs fs.length=fs.map textB:=by unfold texted;simp
theorem texted_at {fs:List ByteArray}{j:Nat}(h:j<fs.length) (h2:j<(texted fs j).length):(texted fs j)[j]=fs[j]:=by
 have e:(texted fs j)[j]?=some fs[j]:=by
  unfold texted
  rw [List.getElem?_append_right (by simp;omega)]
  simp only [List.length_map,List.length_take,List.getElem?_drop]
  rw [show j+(j-min j fs.length)=j by omega,List.getElem?_eq_getElem h]
 rw [List.getElem?_eq_getElem h2] at e
 exact Option.some.inj e
theorem texted_set {fs:List ByteArray}{j:Nat}(h:j<fs.length):(texted fs j).set j (textB fs[j])=texted fs (j+1):=by
 unfold texted
 rw [List.set_append_right _ _ (by simp;omega),List.drop_eq_getElem_cons h,List.take_succ_eq_append_getElem h,List.map_append,List.append_assoc]
 congr 1
 simp only [List.length_map,List.length_take]
 rw [show j-min j fs.length=0 by omega]
 rfl
set_option maxHeartbeats 2000000 in
theorem lnJoin_some {l:List Ln}{full:Bool}{h:AH}(hpos:0<l.length) (hok:okLns l):ACalls Tryz.prog 23 [.sl l.length 3 full (rows lnC l)] h fun x h'=>h'=h∧x = .ret (.tup [sv (joinV l).1,iv (joinV l).2]):=by
 refine tI' k23 fun N hn hlt hlA hbd=>?_
 simp only [tA',AV.bdL,AV.bd,and_true,true_and] at hbd ⊢
 refine wr'<|mv' lks pt2<|mv' lki pt3<|sn'<|w_seq<|wr'<|mv' lk0 pt10<|V' (v_lenL lk10) pt11<|V' (v_gtr lk11 lki) pt12<|sn'<|?_
 refine cd' lk12 (fun hc1=>?_) (fun hc1=>?_)
 ·have hV:joinV l=(bA [],2):=if_pos (by omega)
  refine wr'<|mv' lks pt2<|mv' lki pt3<|sn'<|w_rets<|r_thn<|w_ret (rsn (rm1 (rr_t gt2) (rm1 (rr_t gt3) rm0)))<|rT'<|?_
  rw [hV];rfl
 have hV:joinV l=if joinE l≠0 then (bA [],joinE l) else if 8000<(joinT l).length then (bA [],2) else (bA (joinT l),0):=if_neg (by omega)
 refine w_skip<|n_seq<|wr'<|E' (e_new (hl0 hn) ha0) pt4<|s_nil<|?_
 refine n_seqw (ALe.own0Cell (st':=1) (ty:=5) (hga hn rfl) gt1 (hl1 hn) pt1 (Eq.trans (congrArg (fun z=>List.set z _ _) ha1) (hs0 hn))) ?_
 refine w_seq<|wr'<|mv' lk0 pt13<|V' (v_lenL lk13) pt14<|mv' lki pt15<|sn'<|w_block<|?_
 refine w_lp (ι:=Nat×Bs×Nat×AV) (fun (x_:Nat×Bs×Nat×AV)=>match x_ with | ⟨k,T,v,p⟩=>[(15,iv (k:Int)),(2,.any),(3,.any)]++rn' 6 4++rn' 16 33) (fun (x_:Nat×Bs×Nat×AV)=>match x_ with | ⟨k,T,v,p⟩=>[(0,.mk 0 102 2 [p,.own (N+1) v T.length]),(1,.mk v 5 1 (rows byC T))]) (fun (x_:Nat×Bs×Nat×AV)=>match x_ with | ⟨k,T,v,p⟩=>k≤l.length∧bldP (N+0) 0 p∧joinE l=joinE (l.drop k)∧joinT l=T++joinT (l.drop k)∧T.length≤400*k) (fun (x_:Nat×Bs×Nat×AV)=>match x_ with | ⟨k,T,v,p⟩=>l.length-k) (⟨0,[],0,.v (.pointer none)⟩) (by exact ⟨Nat.zero_le _,.inl rfl,rfl,rfl,by simp⟩) ?_
 rintro ⟨k,T,v,p⟩ hi1
 try simp only [setsT,setsE,z',s',rn',la',ln',Nat.reduceAdd]
 obtain ⟨hk1,hp,hk3,hk4,hk5⟩:=hi1
 refine wr'<|V' (v_lss lk15 lk14) pt16<|sn'<|w_seq<|?_
 refine cd' lk16 (fun hc2=>?_) (fun hc2=>?_)
 ·have hk:k<l.length:=by omega
  rw [joinE_at hk] at hk3
  rw [joinT_at hk] at hk4
  have hfs:=hok _ (List.getElem_mem hk)
  refine w_skip<|n_seq<|w_seq<|w_block<|wr'<|?_
  refine V' (v_iaR lk13 lk15 ln_len1 (nb' rfl) (by first | rfl | omega) (by omega) (by first | rfl | omega) rfl) pt17 ?_
  refine V' (v_loadrA lk17 LineE_tk_3 rfl) pt18<|E' (e_new (hl2 hn) ha2) pt6<|E' (e_store lk6 (cvl lk18 rfl) (hga hn rfl) rfl (nb' rfl) rfl LineE_sc0_3 (hs2 hn)) ptn<|sn'<|w_seq<|wr'<|V' (v_loadpA lk6 (hga hn rfl) LineE_tk0_3 rfl) pt19<|s_callp (mp1 lk19 mp0) (lnlineE_a hfs) pt20<|mv' lk20 pt7<|sn'<|w_seq<|?_
  refine w_reg<|mv' lk7 pt21<|V' (v_neq lk21 lki) pt22<|sn'<|?_
  refine cd' lk22 (fun hc3=>?_) (fun hc3=>?_)
  ·rw [if_pos hc3] at hk3
   rw [if_pos (by rw [hk3];exact hc3),hk3] at hV
   refine wr'<|mv' lk7 pt23<|mv' lks pt2<|mv' lk23 pt3<|sn'<|w_rets<|r_thn<|r_blk<|r_thn<|r_thn<|r_blk<|r_thn<|?_
   refine w_ret (rsn (rm1 (rr_t gt2) (rm1 (rr_t gt3) rm0)))<|rT'<|?_
   rw [hV];rfl
  have hok0:lineE (l[k]).2.2=0:=Decidable.of_not_not hc3
  rw [if_neg (by rw [hok0];simp)] at hk3
  obtain ⟨he1,he2,he3⟩:=lineE_ok hok0
  have hjl:=joinF_len hok0
  have hlb:lineB l[k]=(if (l[k]).2.1=true then [32] else [])++(joinS ((l[k]).2.2.map fun f=>aB (textB f))++[10]):=rfl
  refine w_skip<|n_seq<|?_
  refine w_seqC (ι:=Bs×Nat×AV) (fun (x_:Bs×Nat×AV)=>match x_ with | ⟨T2,v2,p2⟩=>[(6,.ptr (N+2) 0 0)]++rn' 24 3) (fun (x_:Bs×Nat×AV)=>match x_ with | ⟨T2,v2,p2⟩=>[(0,.mk 0 102 2 [p2,.own (N+1) v2 T2.length]),(1,.mk v2 5 1 (rows byC T2))]) (fun (x_:Bs×Nat×AV)=>match x_ with | ⟨T2,v2,p2⟩=>bldP (N+0) 0 p2∧T2=T++(if (l[k]).2.1=true then [32] else [])) ?_ ?_
  ·try simp only [setsT,setsE,z',s',rn',la',ln',Nat.reduceAdd]
   refine wr'<|V' (v_fap0 lk6) pt24<|V' (v_loadp lk24 (hga hn rfl) gt1) pt25<|sn'<|?_
   refine cd' lk25 (fun hc4=>?_) (fun hc4=>?_)
   ·refine w_reg ?_
    refine s_call2 (mp1 lk4 (mp1 lks mp0)) (bldWrite_a (hga hn rfl) (hga hn rfl) (by omega) hp (by rw [show (⟨#[32]⟩:ByteArray).size=1 from rfl];omega)) (hs0 hn) (hs1 hn) pt26 ?_
    refine s_nil<|n_thn<|?_
    exact cT' (⟨T++[32],v+1,.ptr (N+0) 0 0⟩) (by exact ⟨.inr rfl,by rw [if_pos hc4]⟩)
   refine w_skip<|n_thn<|?_
   exact cT' (⟨T,v,p⟩) (by exact ⟨hp,by rw [if_neg (by rw [hc4];simp),List.append_nil]⟩)
  rintro ⟨T2,v2,p2⟩ hq15
  try simp only [setsT,setsE,z',s',rn',la',ln',Nat.reduceAdd]
  obtain ⟨hp2,hT2⟩:=hq15
  have hT2l:T2.length≤T.length+1:=by rw [hT2];split <;> simp
  refine wr'<|V' (v_fap0 lk6) pt27<|V' (v_loadp lk27 (hga hn rfl) gt2) pt28<|?_
  refine s_calla (mp1 lk28 mp0) (lnclone_a (by omega)) (hl3 hn) (fun _=>ha3) (fun _=>pt29) (fun va30=>?_)
  refine mv' lk29 pt8<|sn'<|w_seq<|wr'<|mv' lk8 pt30<|V' (v_lenO lk30) pt31<|mv' lki pt32<|sn'<|w_block<|?_
  refine w_lp (ι:=Nat) (fun (j:Nat)=>[(32,iv (j:Int)),(9,.any)]++rn' 33 11) (fun (j:Nat)=>[(3,.mk va30 9 1 (rows strC (texted (l[k]).2.2 j)))]) (fun (j:Nat)=>j≤(l[k]).2.2.length) (fun (j:Nat)=>(l[k]).2.2.length-j) (0) (by exact Nat.zero_le _) ?_
  rintro j hi2
  try simp only [setsT,setsE,z',s',rn',la',ln',Nat.reduceAdd]
  refine wr'<|V' (v_lss lk32 lk31) pt33<|sn'<|w_seq<|?_
  refine cd' lk33 (fun hc5=>?_) (fun hc5=>?_)
  ·have hj:j<(l[k]).2.2.length:=by omega
   have hjt:j<(texted (l[k]).2.2 j).length:=by rw [texted_len];exact hj
   have hat:=texted_at hj hjt
   have htl:=texted_len (fs:=(l[k]).2.2) (j:=j)
   refine w_skip<|n_seq<|w_seq<|w_block<|wr'<|mv' lk32 pt34<|mv' lk34 pt9<|sn'<|w_reg<|mv' lk8 pt35<|mv' lk9 pt36<|mv' lk8 pt37<|?_
   refine mv' lk9 pt38 ?_
   refine V' (v_iaOR (k:=j) lk37 lk38 (hga hn rfl) str_len1 (nb' rfl) (by first | rfl | omega) (by omega) (by first | rfl | (simp;done) | omega)) pt39 ?_
   refine V' (v_ldOR1 lk39 (hga hn rfl) str_len1 (by omega) rfl) pt40 ?_
   rw [hat]
   refine s_callp (mp1 lk40 mp0) (lntext_a (he3 _ (List.getElem_mem hj))) pt41 ?_
   refine V' (v_iaOR (k:=j) lk35 lk36 (hga hn rfl) str_len1 (nb' rfl) (by first | rfl | omega) (by omega) (by first | rfl | (simp;done) | omega)) pt42 ?_
   refine E' (e_stOR (z:=textB (l[k]).2.2[j]) lk42 (cvl lk41 rfl) (hga hn rfl) str_len1 rfl (by omega) (hs3 hn)) ptn ?_
   refine s_nil<|n_blk<|n_seq<|w_reg<|?_
   refine V' (v_add lk32 lki (by omega) (by omega)) pt43 ?_
   refine mv' lk43 pt32<|s_nil<|n_thn<|?_
   refine lU' (j+1) (by (try dsimp only);omega) (by (try dsimp only);(try simp only [setsT,setsE,z',s',rn',la',ln',Nat.reduceAdd]);exact ALe.same wA' (by rw [←texted_set hj]))
  have hje:j=(l[k]).2.2.length:=by omega
  subst hje
  rw [texted_end]
  refine w_exit<|x_thn<|x_thn<|x_blk<|n_seq<|w_reg<|mv' lk8 pt44<|?_
  refine s_callp (mp1 lk44 (mp1 lks mp0)) (strjoinO_a (l:=(l[k]).2.2.map textB) (List.length_map _) (hga hn rfl) (by rw [List.length_map];omega) (by rw [List.length_map];omega) (by rw [List.map_map];exact Nat.le_trans hjl (by decide))) pt45 ?_
  rw [List.map_map,show (aB ∘ textB)=fun f=>aB (textB f) from rfl]
  refine V' (v_addS lk45 lks (by rw [bA_size,show (⟨#[10]⟩:ByteArray).size=1 from rfl];omega)) pt46 ?_
  rw [show (⟨#[10]⟩:ByteArray)=bA [10] from rfl,bA_app]
  refine s_call2 (mp1 lk4 (mp1 lk46 mp0)) (bldWrite_a (hga hn rfl) (hga hn rfl) (by omega) hp2 (by rw [bA_size,List.length_append,List.length_singleton];omega)) (hs0 hn) (hs1 hn) pt47 ?_
  refine s_nil<|n_blk<|n_seq<|w_reg<|?_
  refine V' (v_add lk15 lki (by omega) (by omega)) pt48 ?_
  refine mv' lk48 pt15<|s_nil<|n_thn<|?_
  refine lU' (⟨k+1,T2++aB (bA (joinS ((l[k]).2.2.map fun f=>aB (textB f))++[10])),v2+1,.ptr (N+0) 0 0⟩) (by (try dsimp only);exact ⟨by omega,.inr rfl,hk3,by rw [hk4,hlb,hT2,aB_bA];simp [List.append_assoc],by rw [aB_bA,List.length_append,List.length_append,List.length_singleton];omega⟩) (by (try dsimp only);(try simp only [setsT,setsE,z',s',rn',la',ln',Nat.reduceAdd]);exact bk' 2 hn hlt)
 have hkl:k=l.length:=by omega
 rw [List.drop_of_length_le (by omega),joinE] at hk3
 rw [List.drop_of_length_le (by omega),show joinT []=[] from rfl,List.append_nil] at hk4
 rw [if_neg (by rw [hk3];simp),hk4] at hV
 refine w_exit<|x_thn<|x_thn<|x_blk<|n_seq<|w_seq<|wr'<|s_callp (mp1 lk4 mp0) (bldLen_a (hga hn rfl)) pt49<|V' (v_gtr lk49 lki) pt50<|sn'<|?_
 refine cd' lk50 (fun hc6=>?_) (fun hc6=>?_)
 ·rw [if_pos (by omega)] at hV
  refine wr'<|mv' lks pt2<|mv' lki pt3<|sn'<|w_rets<|r_thn<|w_ret (rsn (rm1 (rr_t gt2) (rm1 (rr_t gt3) rm0)))<|rT'<|?_
  rw [hV];rfl
 rw [if_neg (by omega)] at hV
 have hTne:T≠[]:=by
  intro e
  rw [e] at hk4
  cases l with
  | nil=>simp at hpos
  | cons x xs=>simp [joinT,lineB] at hk4
 refine w_skip<|n_seq<|wr'<|s_calls (mp1 lk4 mp0) (bldString_a (hga hn rfl) (hga hn rfl) hTne) (hs1 hn) pt51<|mv' lk51 pt2<|mv' lki pt3<|sn'<|w_rets<|w_ret (rsn (rm1 (rr_t gt2) (rm1 (rr_t gt3) rm0)))<|rT'<|?_
 rw [hV]
set_option maxHeartbeats 1000000 in
theorem bstring_nil (b:Nat) (w:World) (hbk:w.cell? ⟨b,1,none⟩=some (.slice none 0 0)) :
  Calls Tryz.prog 66 #[.pointer (some ⟨b,0,none⟩)] w fun e w'=>e = .returned (.string ⟨#[]⟩)∧w'=w.drew:=by
 have c1:w.drew.cell? ⟨b,1,none⟩=some (.slice none 0 0):=hbk
 have hSD:(Builtin.unsafeSliceData_ #[100] 132 #[.slice none 0 0]).run Tryz.prog w.drew = .ok (.pointer none) w.drew:=rfl
 have hUS:(Builtin.unsafeString_ #[132,3] 9 #[.pointer none,.int .i64 0]).run Tryz.prog w.drew = .ok (.string ⟨#[]⟩) w.drew :=
  Lib.run_unsafeString_none _ _ _ _ none
 have mixed:Tryz.prog.follows .mixedOrders=true:=by kernel_rfl
 go_enter Tryz.func66,Tryz.ntmps66
 go_wp2
 go_region_o
 all_goals (go_wp2;go_ret;exact ⟨rfl,rfl⟩)
theorem blen_nil (b:Nat) (w:World) (hbk:w.cell? ⟨b,1,none⟩=some (.slice none 0 0)) :
  Calls Tryz.prog 65 #[.pointer (some ⟨b,0,none⟩)] w fun e w'=>e = .returned (.int .i64 0)∧w'=w:=by
 go_enter Tryz.func65,Tryz.ntmps65
 go_wp2
 go_ret
 exact ⟨rfl,rfl⟩
set_option maxHeartbeats 1000000 in
theorem lnJoin_nilW (A:Option Addr) (c:Nat) (w:World) :
  Calls Tryz.prog 23 #[.slice A 0 c] w fun e w'=>e = .returned (.tuple #[.string ⟨#[]⟩,.int .i64 0])∧Below w.heap.size w w':=by
 go_enter Tryz.func23,Tryz.ntmps23
 go_wp2
 go_loopg [15] 1 (fun gk i wx=>i = .int .i64 0∧w.alloc (.cells #[.pointer none,.slice none 0 0] 102)=wx)
 case atStart=>exact ⟨rfl,rfl⟩
 case round =>
  obtain ⟨rfl,rfl⟩:=hrel
  go_wp2_with (first | (go_at_call 65;refine (blen_nil _ _ (by simp)).mono ?_;rintro e w1 ⟨rfl,rfl⟩) | (go_at_call 66;refine (bstring_nil _ _ (by simp)).mono ?_;rintro e w1 ⟨rfl,rfl⟩))
  go_ret2
  exact ⟨rfl,((Below.refl _ _).alloc (Nat.le_refl _) _).trans (Below.refl _ _).drew⟩
theorem lnJoin_a {l:List Ln}{full:Bool}{h:AH}(hok:okLns l):ACalls Tryz.prog 23 [.sl l.length 3 full (rows lnC l)] h fun x h'=>h'=h∧x = .ret (.tup [sv (joinV l).1,iv (joinV l).2]):=by
 rcases Nat.eq_zero_or_pos l.length with h0 | h0
 ·obtain rfl:l=[]:=List.length_eq_zero_iff.1 h0
  refine ACalls.of_below (by kernel_rfl) fun w g vs hs ha=>?_
  simp only [RepL,Rep] at ha
  obtain ⟨u1,us1,e1,⟨_,A,cap,rfl,_⟩,rfl⟩:=ha
  obtain rfl:vs = #[.slice A 0 cap]:=by cases vs;simp_all
  refine (lnJoin_nilW A cap w).mono ?_
  rintro e w' ⟨rfl,hb⟩
  refine ⟨_,rfl,hb,?_⟩
  simp only [Rep,RepL]
  exact ⟨_,rfl,_,_,rfl,rfl,_,_,rfl,rfl,rfl⟩
 exact lnJoin_some h0 hok
end Go.Proofs.YtgjchdhdopgkkaaGreatDoor
end
section
namespace Go.Proofs.YtgjchdhdopgkkaaGreatDoor
open Go.Ab Go.RowKit
attribute [local simp] str_lt ln_lt
def c10:AC:=(.seq (.reg [Oo 2 (.mv (.const (.string ⟨#[]⟩))),Oo 3 (.mv (Ci 0))]) (.seq (.seq (.reg [Mv 10 0,Oo 11 (.len false (.tmp 10)),Oo 12 (.bin .gtr (.tmp 11) (Ci 200))]) (.cond (.tmp 12) (.seq (.reg [Oo 2 (.mv (.const (.string ⟨#[]⟩))),Oo 3 (.mv (Ci 2))]) .ret) .skip)) (.seq (.reg [Oo 4 (.mv (.const (.string ⟨#[]⟩)))]) (.seq (.seq (.reg [Oo 5 (.mv (Ci 0))]) (.block 0 (.loop (.seq (.seq (.reg [Mv 13 5,Mv 14 0,Oo 15 (.len false (.tmp 14)),Oo 16 (.bin .lss (.tmp 13) (.tmp 15))]) (.cond (.tmp 16) .skip (.exit 0))) (.seq (.block 1 (.seq (.seq (.reg [Mv 19 0,Mv 20 5,Oo 21 (.ia 3 (.tmp 19) (.tmp 20)),Fa 22 2 21,Ld 23 22,Oo 24 (.len false (.tmp 23)),Oo 25 (.bin .eql (.tmp 24) (Ci 0))]) (.cond (.tmp 25) (.seq (.reg [Oo 2 (.mv (.const (.string ⟨#[]⟩))),Oo 3 (.mv (Ci 1))]) .ret) .skip)) (.seq (.seq (.reg [Mv 26 0,Mv 27 5,Oo 28 (.ia 3 (.tmp 26) (.tmp 27)),Fa 29 2 28,Ld 30 29,Oo 31 (.len false (.tmp 30)),Oo 32 (.bin .gtr (.tmp 31) (Ci 12))]) (.cond (.tmp 32) (.seq (.reg [Oo 2 (.mv (.const (.string ⟨#[]⟩))),Oo 3 (.mv (Ci 2))]) .ret) .skip)) (.seq (.seq (.reg [Mv 33 0,Mv 34 5,Oo 35 (.ia 3 (.tmp 33) (.tmp 34)),Fa 36 1 35,Ld 37 36]) (.cond (.tmp 37) (.reg [Mv 38 4,Oo 39 (.bin .add (.tmp 38) (.const (.string ⟨#[32]⟩))),Mv 4 39]) .skip)) (.seq (.seq (.reg [Oo 6 (.mv (Ci 0))]) (.block 2 (.loop (.seq (.seq (.reg [Mv 40 6,Mv 41 0,Mv 42 5,Oo 43 (.ia 3 (.tmp 41) (.tmp 42)),Fa 44 2 43,Ld 45 44,Oo 46 (.len false (.tmp 45)),Oo 47 (.bin .lss (.tmp 40) (.tmp 46))]) (.cond (.tmp 47) .skip (.exit 2))) (.seq (.block 3 (.seq (.reg [Mv 50 0,Mv 51 5,Oo 52 (.ia 3 (.tmp 50) (.tmp 51)),Fa 53 2 52,Ld 54 53,Mv 55 6,Oo 56 (.ia 1 (.tmp 54) (.tmp 55)),Ld 57 56,Mv 7 57]) (.seq (.reg [Mv 58 7,Oo 59 (.bin .eql (.tmp 58) (.const (.string ⟨#[]⟩))),Mv 8 59]) (.seq (.seq (.reg [Oo 9 (.mv (Ci 0))]) (.block 4 (.loop (.seq (.seq (.reg [Mv 60 9,Mv 61 7,Oo 62 (.len true (.tmp 61)),Oo 63 (.bin .lss (.tmp 60) (.tmp 62))]) (.cond (.tmp 63) .skip (.exit 4))) (.seq (.block 5 (.seq (.seq (.reg [Mv 66 7,Mv 67 9,Oo 68 (.ix (.tmp 66) (.tmp 67)),Oo 69 (.call (.func 27) [(.tmp 68)]),Oo 70 (.un .not (.tmp 69)),Mv 71 70,Of 72 71 (.mv (.tmp 7)),Of 73 71 (.mv (.tmp 9)),Of 74 71 (.ix (.tmp 72) (.tmp 73)),Of 75 71 (.bin .eql (.tmp 74) (.const (.int .u8 34))),Oo 76 (.pick (.tmp 71) (.const (.bool true)) (.tmp 75))]) (.cond (.tmp 76) (.seq (.reg [Oo 2 (.mv (.const (.string ⟨#[]⟩))),Oo 3 (.mv (Ci 1))]) .ret) .skip)) (.reg [Mv 77 8,Mv 78 77,Of 79 78 (.mv (.tmp 7)),Of 80 78 (.mv (.tmp 9)),Of 81 78 (.ix (.tmp 79) (.tmp 80)),Of 82 78 (.call (.func 28) [(.tmp 81)]),Oo 83 (.pick (.tmp 78) (.const (.bool true)) (.tmp 82)),Mv 84 83,Of 85 84 (.mv (.tmp 7)),Of 86 84 (.mv (.tmp 9)),Of 87 84 (.ix (.tmp 85) (.tmp 86)),Of 88 84 (.bin .eql (.tmp 87) (.const (.int .u8 35))),Oo 89 (.pick (.tmp 84) (.const (.bool true)) (.tmp 88)),Mv 8 89]))) (.reg [Mv 64 9,Oo 65 (.bin .add (.tmp 64) (Ci 1)),Mv 9 65])))))) (.seq (.seq (.reg [Mv 90 7,Oo 91 (.len true (.tmp 90)),Oo 92 (.bin .gtr (.tmp 91) (Ci 24))]) (.cond (.tmp 92) (.seq (.reg [Oo 2 (.mv (.const (.string ⟨#[]⟩))),Oo 3 (.mv (Ci 2))]) .ret) .skip)) (.seq (.seq (.reg [Mv 93 6,Oo 94 (.bin .gtr (.tmp 93) (Ci 0))]) (.cond (.tmp 94) (.reg [Mv 95 4,Oo 96 (.bin .add (.tmp 95) (.const (.string ⟨#[32]⟩))),Mv 4 96]) .skip)) (.seq (.seq (.reg [Mv 97 8]) (.cond (.tmp 97) (.reg [Mv 98 7,Oo 99 (.bin .add (.const (.string ⟨#[34]⟩)) (.tmp 98)),Oo 100 (.bin .add (.tmp 99) (.const (.string ⟨#[34]⟩))),Mv 7 100]) .skip)) (.reg [Mv 101 4,Mv 102 7,Oo 103 (.bin .add (.tmp 101) (.tmp 102)),Mv 4 103])))))))) (.reg [Mv 48 6,Oo 49 (.bin .add (.tmp 48) (Ci 1)),Mv 6 49])))))) (.reg [Mv 104 4,Oo 105 (.bin .add (.tmp 104) (.const (.string ⟨#[10]⟩))),Mv 4 105])))))) (.reg [Mv 17 5,Oo 18 (.bin .add (.tmp 17) (Ci 1)),Mv 5 18])))))) (.seq (.seq (.reg [Mv 106 4,Oo 107 (.len true (.tmp 106)),Oo 108 (.bin .gtr (.tmp 107) (Ci 8000))]) (.cond (.tmp 108) (.seq (.reg [Oo 2 (.mv (.const (.string ⟨#[]⟩))),Oo 3 (.mv (Ci 2))]) .ret) .skip)) (.seq (.reg [Mv 109 4,Mv 2 109,Oo 3 (.mv (Ci 0))]) .ret))))))
theorem k10:compF Tryz.prog 10=some ⟨c10,[(.tmp 2),(.tmp 3)],110⟩:=by kernel_rfl
theorem joinS_snoc : ∀ {l:List Bs}{x:Bs},joinS (l++[x])=if 0<l.length then joinS l++32::x else x
 | [],x=>rfl
 | [a],x=>rfl
 | a::b::l,x=>by
  have:=joinS_snoc (l:=b::l) (x:=x)
  rw [if_pos (by simp)] at this ⊢
  show a++32::joinS (b::l++[x])=(a++32::joinS (b::l))++32::x
  rw [this];simp
def quoT (f:ByteArray) (n:Nat):Bool:=decide (f.size=0)||((aB f).take n).any (fun c=>quoN c.toNat)
theorem quoT_succ {f:ByteArray}{n:Nat}(h:n<f.size):quoT f (n+1)=(quoT f n||quoN (byteAt f n).toNat):=by
 unfold quoT
 rw [List.take_add,List.any_append,aB_at h]
 simp [Bool.or_assoc]
theorem quoT_end {f:ByteArray}{n:Nat}(h:f.size≤n):quoT f n=quoB f:=by
 unfold quoT quoB
 rw [List.take_of_length_le (show (aB f).length≤n from h)]
theorem quoT_zero {f:ByteArray}:quoT f 0=decide (f.size=0):=by unfold quoT;simp
theorem fieldE_end {f:ByteArray}{k:Nat}(h:f.size≤k) (ht:((aB f).take k).any (fun c=>badN c.toNat)=false):fieldE f=if 24<f.size then 2 else 0:=by
 unfold fieldE
 rw [any_end (p:=badN) h ht];rfl
set_option maxHeartbeats 2000000 in
theorem rjoinOf_a {l:List Ln}{full:Bool}{h:AH}(hok:okLns l):ACalls Tryz.prog 10 [.sl l.length 3 full (rows lnC l)] h fun x h'=>h'=h∧x = .ret (.tup [sv (joinV l).1,iv (joinV l).2]):=by
 refine tI' k10 fun N hn hlt hlA hbd=>?_
 simp only [tA',AV.bdL,AV.bd,and_true,true_and] at hbd ⊢
 refine wr'<|mv' lks pt2<|mv' lki pt3<|sn'<|w_seq<|wr'<|mv' lk0 pt10<|V' (v_lenL lk10) pt11<|V' (v_gtr lk11 lki) pt12<|sn'<|?_
 refine cd' lk12 (fun hc1=>?_) (fun hc1=>?_)
 ·have hV:joinV l=(bA [],2):=if_pos (by omega)
  refine wr'<|mv' lks pt2<|mv' lki pt3<|sn'<|w_rets<|r_thn<|w_ret (rsn (rm1 (rr_t gt2) (rm1 (rr_t gt3) rm0)))<|rT'<|?_
  rw [hV];rfl
 have hV:joinV l=if joinE l≠0 then (bA [],joinE l) else if 8000<(joinT l).length then (bA [],2) else (bA (joinT l),0):=if_neg (by omega)
 refine w_skip<|n_seq<|wr'<|mv' lks pt4<|sn'<|w_seq<|wr'<|mv' lki pt5<|sn'<|w_block<|?_
 refine w_lp (ι:=Nat×Bs) (fun (x_:Nat×Bs)=>match x_ with | ⟨k,T⟩=>[(4,sv (bA T)),(5,iv (k:Int)),(2,.any),(3,.any)]++rn' 6 4++rn' 13 93) (fun (x_:Nat×Bs)=>match x_ with | ⟨k,T⟩=>[]) (fun (x_:Nat×Bs)=>match x_ with | ⟨k,T⟩=>k≤l.length∧joinE l=joinE (l.drop k)∧joinT l=T++joinT (l.drop k)∧T.length≤400*k) (fun (x_:Nat×Bs)=>match x_ with | ⟨k,T⟩=>l.length-k) (⟨0,[]⟩) (by exact ⟨Nat.zero_le _,rfl,rfl,by simp⟩) ?_
 rintro ⟨k,T⟩ hi1
 try simp only [setsT,setsE,z',s',rn',la',ln',Nat.reduceAdd]
 obtain ⟨hk1,hk3,hk4,hk5⟩:=hi1
 refine w_seq<|wr'<|mv' lk5 pt13<|mv' lk0 pt14<|V' (v_lenL lk14) pt15<|V' (v_lss lk13 lk15) pt16<|sn'<|?_
 refine cd' lk16 (fun hc2=>?_) (fun hc2=>?_)
 ·have hk:k<l.length:=by omega
  rw [joinE_at hk] at hk3
  rw [joinT_at hk] at hk4
  have hfs:=hok _ (List.getElem_mem hk)
  have hlb:lineB l[k]=(if (l[k]).2.1=true then [32] else [])++(joinS ((l[k]).2.2.map fun f=>aB (textB f))++[10]):=rfl
  refine w_skip<|n_seq<|w_seq<|w_block<|w_seq<|wr'<|mv' lk0 pt19<|mv' lk5 pt20<|?_
  refine V' (v_iaR lk19 lk20 ln_len1 (nb' rfl) (by first | rfl | omega) (by omega) (by first | rfl | omega) rfl) pt21 ?_
  refine V' (v_far lk21 dp2) pt22<|V' (v_loadr lk22 gt0) pt23<|?_
  refine V' ((by first | exact v_lenL lk23 | exact v_lenO lk23)) pt24 ?_
  refine V' (v_eql lk24 lki) pt25<|sn'<|?_
  refine cd' lk25 (fun hc3=>?_) (fun hc3=>?_)
  ·have hE:lineE (l[k]).2.2=1:=if_pos (by omega)
   rw [hE,if_pos (by decide)] at hk3
   rw [hk3,if_pos (by decide)] at hV
   refine wr'<|mv' lks pt2<|mv' lki pt3<|sn'<|w_rets<|r_thn<|r_blk<|r_thn<|r_thn<|r_blk<|r_thn<|w_ret (rsn (rm1 (rr_t gt2) (rm1 (rr_t gt3) rm0)))<|?_
   refine rT' ?_
   rw [hV];rfl
  refine w_skip<|n_seq<|w_seq<|wr'<|mv' lk0 pt26<|mv' lk5 pt27<|?_
  refine V' (v_iaR lk26 lk27 ln_len1 (nb' rfl) (by first | rfl | omega) (by omega) (by first | rfl | omega) rfl) pt28 ?_
  refine V' (v_far lk28 dp2) pt29<|V' (v_loadr lk29 gt0) pt30<|?_
  refine V' ((by first | exact v_lenL lk30 | exact v_lenO lk30)) pt31 ?_
  refine V' (v_gtr lk31 lki) pt32<|sn'<|?_
  refine cd' lk32 (fun hc4=>?_) (fun hc4=>?_)
  ·have hE:lineE (l[k]).2.2=2:=by rw [lineE,if_neg (by omega),if_pos (by omega)]
   rw [hE,if_pos (by decide)] at hk3
   rw [hk3,if_pos (by decide)] at hV
   refine wr'<|mv' lks pt2<|mv' lki pt3<|sn'<|w_rets<|r_thn<|r_blk<|r_thn<|r_thn<|r_blk<|r_thn<|w_ret (rsn (rm1 (rr_t gt2) (rm1 (rr_t gt3) rm0)))<|?_
   refine rT' ?_
   rw [hV];rfl
  have hE:lineE (l[k]).2.2=firstE (l[k]).2.2:=by rw [lineE,if_neg (by omega),if_neg (by omega)]
  rw [hE] at hk3
  refine w_skip<|n_seq<|?_
  refine w_seqC (ι:=Bs) (fun (T2:Bs)=>[(4,sv (bA T2))]++rn' 33 7) (fun (T2:Bs)=>[]) (fun (T2:Bs)=>T2=T++(if (l[k]).2.1=true then [32] else [])) ?_ ?_
  ·try simp only [setsT,setsE,z',s',rn',la',ln',Nat.reduceAdd]
   refine wr'<|mv' lk0 pt33<|mv' lk5 pt34<|?_
   refine V' (v_iaR lk33 lk34 ln_len1 (nb' rfl) (by first | rfl | omega) (by omega) (by first | rfl | omega) rfl) pt35 ?_
   refine V' (v_far lk35 dp1) pt36<|V' (v_loadr lk36 gt0) pt37<|sn'<|?_
   refine cd' lk37 (fun hc5=>?_) (fun hc5=>?_)
   ·refine w_reg<|mv' lk4 pt38<|?_
    refine V' (v_addS lk38 lks (by first | omega | (rw [bA_size,show (⟨#[32]⟩:ByteArray).size=1 from rfl];omega))) pt39 ?_
    rw [show (⟨#[32]⟩:ByteArray)=bA [32] from rfl,bA_app]
    refine mv' lk39 pt4<|s_nil<|n_thn<|?_
    exact cT' (T++[32]) (by rw [if_pos hc5])
   refine w_skip<|n_thn<|?_
   exact cT' (T) (by rw [if_neg (by rw [hc5];simp),List.append_nil])
  rintro T2 hq16
  try simp only [setsT,setsE,z',s',rn',la',ln',Nat.reduceAdd]
  have hT2l:T2.length≤T.length+1:=by rw [hq16];split <;> simp
  refine w_seq<|wr'<|mv' lki pt6<|sn'<|w_block<|?_
  refine w_lp (ι:=Nat×Bs) (fun (x_:Nat×Bs)=>match x_ with | ⟨j,T3⟩=>[(4,sv (bA T3)),(6,iv (j:Int)),(2,.any),(3,.any)]++rn' 7 3++rn' 40 64) (fun (x_:Nat×Bs)=>match x_ with | ⟨j,T3⟩=>[]) (fun (x_:Nat×Bs)=>match x_ with | ⟨j,T3⟩=>j≤(l[k]).2.2.length∧firstE (l[k]).2.2=firstE ((l[k]).2.2.drop j)∧T3=T2++joinS (((l[k]).2.2.take j).map fun f=>aB (textB f))∧T3.length≤T2.length+27*j) (fun (x_:Nat×Bs)=>match x_ with | ⟨j,T3⟩=>(l[k]).2.2.length-j) (⟨0,T2⟩) (by exact ⟨Nat.zero_le _,rfl,by simp [joinS],by omega⟩) ?_
  rintro ⟨j,T3⟩ hi2
  try simp only [setsT,setsE,z',s',rn',la',ln',Nat.reduceAdd]
  obtain ⟨hj1,hj2,hj3,hj4⟩:=hi2
  refine w_seq<|wr'<|mv' lk6 pt40<|mv' lk0 pt41<|mv' lk5 pt42<|?_
  refine V' (v_iaR lk41 lk42 ln_len1 (nb' rfl) (by first | rfl | omega) (by omega) (by first | rfl | omega) rfl) pt43 ?_
  refine V' (v_far lk43 dp2) pt44<|V' (v_loadr lk44 gt0) pt45<|?_
  refine V' ((by first | exact v_lenL lk45 | exact v_lenO lk45)) pt46 ?_
  refine V' (v_lss lk40 lk46) pt47<|sn'<|?_
  refine cd' lk47 (fun hc6=>?_) (fun hc6=>?_)
  ·have hj:j<(l[k]).2.2.length:=by omega
   rw [firstE_at hj] at hj2
   obtain ⟨f,hf⟩ : ∃ f,f=(l[k]).2.2[j]:=⟨_,rfl⟩
   have hfz:=hfs _ (List.getElem_mem hj)
   rw [←hf] at hj2 hfz
   have hfz':f.size≤9223372036854775807:=by simpa [maxLen] using hfz
   refine w_skip<|n_seq<|w_seq<|w_block<|wr'<|mv' lk0 pt50<|mv' lk5 pt51<|?_
   refine V' (v_iaR lk50 lk51 ln_len1 (nb' rfl) (by first | rfl | omega) (by omega) (by first | rfl | omega) rfl) pt52 ?_
   refine V' (v_far lk52 dp2) pt53<|V' (v_loadr lk53 gt0) pt54<|mv' lk6 pt55<|?_
   refine V' (v_iaR lk54 lk55 str_len1 (nb' rfl) (by first | rfl | omega) (by omega) (by first | rfl | omega) rfl) pt56 ?_
   refine V' (v_loadr lk56 gt0) pt57 ?_
   rw [←hf]
   refine mv' lk57 pt7<|sn'<|wr'<|mv' lk7 pt58<|V' (v_eqlS lk58 lks) pt59<|mv' lk59 pt8<|sn'<|w_seq<|wr'<|mv' lki pt9<|?_
   refine sn'<|w_block<|?_
   refine w_loop (ι:=Nat) (fun (n:Nat)=>[(8,bv (quoT f n)),(9,iv (n:Int)),(2,.any),(3,.any)]++rn' 60 30) (fun (n:Nat)=>[]) (fun (n:Nat)=>n≤f.size∧((aB f).take n).any (fun c=>badN c.toNat)=false) (fun (n:Nat)=>f.size-n) (0) (by exact ⟨Nat.zero_le _,rfl⟩) (by try simp only [setsT,setsE,z',s',rn',la',ln',Nat.reduceAdd];exact ALe.same (by repeat (first | exact wk0 | refine wka ?_ | refine wk1 rfl ?_ | refine wk1 (by first | rfl | (rw [quoT_zero];exact bvx (by first | exact decide_eq_decide.2 emp_size | simp [emp_size]))) ?_)) rfl) ?_
   rintro n hi3
   try simp only [setsT,setsE,z',s',rn',la',ln',Nat.reduceAdd]
   obtain ⟨hn1,hn2⟩:=hi3
   refine w_seq<|wr'<|mv' lk9 pt60<|mv' lk7 pt61<|V' (v_lenS lk61) pt62<|V' (v_lss lk60 lk62) pt63<|sn'<|?_
   refine cd' lk63 (fun hc7=>?_) (fun hc7=>?_)
   ·have hnk:n<f.size:=by omega
    refine w_skip<|n_seq<|?_
    refine w_seqC (ι:=Bool) (fun (b:Bool)=>[(8,bv b),(2,.any),(3,.any)]++rn' 66 24) (fun (b:Bool)=>[]) (fun (b:Bool)=>b=quoT f (n+1)∧badN (byteAt f n).toNat=false) ?_ ?_
    ·try simp only [setsT,setsE,z',s',rn',la',ln',Nat.reduceAdd]
     refine w_block<|w_seq<|wr'<|mv' lk7 pt66<|mv' lk9 pt67<|?_
     refine V' (v_ix lk66 lk67 (by omega) (by omega)) pt68 ?_
     refine s_callp (mp1 lk68 mp0) (risPlain_a) pt69<|V' (v_notB lk69) (ptS pt0)<|mv' (lkS lk0) (ptS pt1)<|?_
     refine s_splitB (gtS gt1) (ptS pt1) (ptS pt1) (fun hg71=>?_) (fun hg71=>?_)
     ·have hb:badN (byteAt f n).toNat=true:=by have:=hg71;rw [Bool.not_eq_true'] at this;unfold badN;rw [show plnN (byteAt f n).toNat=false from this];rfl
      have hFE:fieldE f=1:=if_pos (any_hit (p:=badN) hnk hb)
      rw [hFE,if_pos (by decide)] at hj2
      rw [hj2,if_pos (by decide)] at hk3
      rw [hk3,if_pos (by decide)] at hV
      refine s_no (gtS gt1) (ptS pt2)<|s_no (gtS gt1) (ptS pt3)<|s_no (gtS gt1) (ptS pt4)<|s_no (gtS gt1) (ptS pt5)<|V' (v_pickT (lkS lk1) lkb) (ptS pt6)<|sn'<|w_condT (lkS lk6)<|wr'<|mv' lks pt2<|mv' lki pt3<|sn'<|?_
      refine w_rets<|r_thn<|r_blk<|r_thn<|r_thn<|r_blk<|r_thn<|r_blk<|r_thn<|r_thn<|r_blk<|r_thn<|r_blk<|r_thn<|?_
      refine r_thn<|r_blk<|r_thn<|w_ret (rsn (rm1 (rr_t gt2) (rm1 (rr_t gt3) rm0)))<|rT'<|?_
      rw [hV];rfl
     have hg71':plnN (byteAt f n).toNat=true:=by have:=hg71;rw [Bool.not_eq_false'] at this;exact this
     refine s_do (gtS gt1)<|mv' lk7 (ptS pt2)<|s_do (gtS gt1)<|mv' lk9 (ptS pt3)<|s_do (gtS gt1)<|?_
     refine V' (v_ix (lkS lk2) (lkS lk3) (by omega) (by omega)) (ptS pt4) ?_
     refine s_do (gtS gt1)<|V' (v_eql (lkS lk4) lki) (ptS pt5)<|V' (v_pickF (lkS lk1) (lkS lk5)) (ptS pt6)<|sn'<|?_
     refine cd' (lkS lk6) (fun hc8=>?_) (fun hc8=>?_)
     ·have hb:badN (byteAt f n).toNat=true:=by unfold badN;rw [show decide (((byteAt f n).toNat:Int)=34)=true from decide_eq_true hc8];simp
      have hFE:fieldE f=1:=if_pos (any_hit (p:=badN) hnk hb)
      rw [hFE,if_pos (by decide)] at hj2
      rw [hj2,if_pos (by decide)] at hk3
      rw [hk3,if_pos (by decide)] at hV
      refine wr'<|mv' lks pt2<|mv' lki pt3<|sn'<|w_rets<|r_thn<|r_blk<|r_thn<|r_thn<|r_blk<|r_thn<|r_blk<|?_
      refine r_thn<|r_thn<|r_blk<|r_thn<|r_blk<|r_thn<|r_thn<|r_blk<|r_thn<|w_ret (rsn (rm1 (rr_t gt2) (rm1 (rr_t gt3) rm0)))<|rT'<|?_
      rw [hV];rfl
     have hb:badN (byteAt f n).toNat=false:=by unfold badN;rw [hg71',show decide (((byteAt f n).toNat:Int)=34)=false from decide_eq_false hc8];rfl
     have hqs:=quoT_succ (f:=f) (n:=n) hnk
     refine w_skip<|n_seq<|w_reg<|mv' lk8 (ptS pt7)<|mv' (lkS lk7) (ptS pt8)<|?_
     refine sp' (gtS gt8) (ptS pt8) (ptS pt8) (fun hg78=>?_) (fun hg78=>?_)
     ·refine s_no (gtS gt8) (ptS pt9)<|s_no (gtS gt8) (ptS pt10)<|s_no (gtS gt8) (ptS pt11)<|s_no (gtS gt8) (ptS pt12)<|V' (v_pickT (lkS lk8) lkb) (ptS pt13)<|mv' (lkS lk13) (ptS pt14)<|s_no (gtS gt14) (ptS pt15)<|s_no (gtS gt14) (ptS pt16)<|s_no (gtS gt14) (ptS pt17)<|s_no (gtS gt14) (ptS pt18)<|V' (v_pickT (lkS lk14) lkb) (ptS pt19)<|mv' (lkS lk19) pt8<|s_nil<|n_blk<|?_
      refine n_thn ?_
      exact cT' (true) (by exact ⟨by rw [hqs,hg78];rfl,hb⟩)
     refine s_do (gtS gt8)<|mv' lk7 (ptS pt9)<|s_do (gtS gt8)<|mv' lk9 (ptS pt10)<|s_do (gtS gt8)<|?_
     refine V' (v_ix (lkS lk9) (lkS lk10) (by omega) (by omega)) (ptS pt11) ?_
     refine s_do (gtS gt8)<|s_callp (mp1 (lkS lk11) mp0) (risBlank_a) (ptS pt12)<|V' (v_pickF (lkS lk8) (lkS lk12)) (ptS pt13)<|mv' (lkS lk13) (ptS pt14)<|?_
     refine s_splitB (gtS gt14) (ptS pt14) (ptS pt14) (fun hg84=>?_) (fun hg84=>?_)
     ·refine s_no (gtS gt14) (ptS pt15)<|s_no (gtS gt14) (ptS pt16)<|s_no (gtS gt14) (ptS pt17)<|s_no (gtS gt14) (ptS pt18)<|V' (v_pickT (lkS lk14) lkb) (ptS pt19)<|mv' (lkS lk19) pt8<|s_nil<|n_blk<|n_thn<|?_
      exact cT' (true) (by exact ⟨by rw [hqs];unfold quoN;rw [show blkN (byteAt f n).toNat=_ from hg84];simp,hb⟩)
     refine s_do (gtS gt14)<|mv' lk7 (ptS pt15)<|s_do (gtS gt14)<|mv' lk9 (ptS pt16)<|s_do (gtS gt14)<|?_
     refine V' (v_ix (lkS lk15) (lkS lk16) (by omega) (by omega)) (ptS pt17) ?_
     refine s_do (gtS gt14)<|V' (v_eql (lkS lk17) lki) (ptS pt18)<|V' (v_pickF (lkS lk14) (lkS lk18)) (ptS pt19)<|mv' (lkS lk19) pt8<|s_nil<|n_blk<|n_thn<|?_
     exact cT' (decide (((byteAt f n).toNat:Int)=35)) (by exact ⟨by rw [hqs,hg78];unfold quoN;rw [show blkN (byteAt f n).toNat=_ from hg84];simp,hb⟩)
    rintro b hq28
    try simp only [setsT,setsE,z',s',rn',la',ln',Nat.reduceAdd]
    obtain ⟨rfl,hb⟩:=hq28
    refine w_reg<|mv' lk9 pt64<|?_
    refine V' (v_add lk64 lki (by omega) (by omega)) pt65 ?_
    refine mv' lk65 pt9<|s_nil<|n_thn<|?_
    refine lT' (n+1) (by (try dsimp only);exact ⟨by omega,any_go (p:=badN) hnk hb hn2⟩)
   have hFE:=fieldE_end (f:=f) (k:=n) (by omega) hn2
   have hqe:=quoT_end (f:=f) (n:=n) (by omega)
   refine w_exit<|x_thn<|x_thn<|x_blk<|n_seq<|w_seq<|wr'<|mv' lk7 (ptS pt20)<|V' (v_lenS (lkS lk20)) (ptS pt21)<|V' (v_gtr (lkS lk21) lki) (ptS pt22)<|sn'<|?_
   refine cd' (lkS lk22) (fun hc9=>?_) (fun hc9=>?_)
   ·rw [if_pos (by omega)] at hFE
    rw [hFE,if_pos (by decide)] at hj2
    rw [hj2,if_pos (by decide)] at hk3
    rw [hk3,if_pos (by decide)] at hV
    refine wr'<|mv' lks pt2<|mv' lki pt3<|sn'<|w_rets<|r_thn<|r_blk<|r_thn<|r_thn<|r_blk<|r_thn<|r_blk<|?_
    refine r_thn<|r_thn<|r_blk<|r_thn<|w_ret (rsn (rm1 (rr_t gt2) (rm1 (rr_t gt3) rm0)))<|rT'<|?_
    rw [hV];rfl
   rw [if_neg (by omega)] at hFE
   rw [hFE,if_neg (by decide)] at hj2
   have htl:(textB f).size≤26:=textB_len hFE
   refine w_skip<|n_seq<|?_
   refine w_seqC (ι:=Bs) (fun (T4:Bs)=>[(4,sv (bA T4))]++rn' 93 4) (fun (T4:Bs)=>[]) (fun (T4:Bs)=>T4=T3++(if 0<j then [32] else [])) ?_ ?_
   ·try simp only [setsT,setsE,z',s',rn',la',ln',Nat.reduceAdd]
    refine wr'<|mv' lk6 (ptS pt23)<|V' (v_gtr (lkS lk23) lki) (ptS pt24)<|sn'<|?_
    refine cd' (lkS lk24) (fun hc10=>?_) (fun hc10=>?_)
    ·refine w_reg<|mv' lk4 (ptS pt25)<|?_
     refine V' (v_addS (lkS lk25) lks (by first | omega | (rw [bA_size,show (⟨#[32]⟩:ByteArray).size=1 from rfl];omega))) (ptS pt26) ?_
     rw [show (⟨#[32]⟩:ByteArray)=bA [32] from rfl,bA_app]
     refine mv' (lkS lk26) pt4<|s_nil<|n_thn<|?_
     exact cT' (T3++[32]) (by rw [if_pos (by omega)])
    refine w_skip<|n_thn<|?_
    exact cT' (T3) (by rw [if_neg (by omega),List.append_nil])
   rintro T4 hq34
   try simp only [setsT,setsE,z',s',rn',la',ln',Nat.reduceAdd]
   have hT4l:T4.length≤T3.length+1:=by rw [hq34];split <;> simp
   refine w_seqC (ι:=ByteArray) (fun (z:ByteArray)=>[(7,sv z)]++rn' 97 4) (fun (z:ByteArray)=>[]) (fun (z:ByteArray)=>z=textB f) ?_ ?_
   ·try simp only [setsT,setsE,z',s',rn',la',ln',Nat.reduceAdd]
    refine wr'<|mv' lk8 (ptS pt27)<|sn'<|?_
    refine cd' (lkS lk27) (fun hc11=>?_) (fun hc11=>?_)
    ·refine w_reg<|mv' lk7 (ptS pt28)<|?_
     refine V' (v_addS lks (lkS lk28) (by first | omega | (rw [show (⟨#[34]⟩:ByteArray).size=1 from rfl];omega))) (ptS pt29) ?_
     refine V' (v_addS (lkS lk29) lks (by first | omega | (rw [ByteArray.size_append,show (⟨#[34]⟩:ByteArray).size=1 from rfl];omega))) (ptS pt30) ?_
     refine mv' (lkS lk30) pt7<|s_nil<|n_thn<|?_
     exact cT' ((⟨#[34]⟩:ByteArray)++f++⟨#[34]⟩) (by unfold textB;rw [if_pos (by rw [←hqe];exact hc11)];rfl)
    refine w_skip<|n_thn<|?_
    exact cT' (f) (by unfold textB;rw [if_neg (by rw [←hqe,hc11];simp)])
   rintro z hq36
   try simp only [setsT,setsE,z',s',rn',la',ln',Nat.reduceAdd]
   subst hq36
   refine w_reg<|mv' lk4 (ptS pt31)<|mv' lk7 (ptS pt32)<|?_
   refine V' (v_addS (lkS lk31) (lkS lk32) (by rw [bA_size];omega)) (ptS pt33) ?_
   rw [show bA T4++textB f=bA (T4++aB (textB f)) from by rw [←bA_app,bA_aB]]
   refine mv' (lkS lk33) pt4<|s_nil<|n_blk<|n_seq<|w_reg<|mv' lk6 pt48<|?_
   refine V' (v_add lk48 lki (by omega) (by omega)) pt49 ?_
   refine mv' lk49 pt6<|s_nil<|n_thn<|?_
   refine lT' (⟨j+1,T4++aB (textB f)⟩) (by (try dsimp only);exact ⟨by omega,hj2,by rw [List.take_succ_eq_append_getElem hj,List.map_append,List.map_cons,List.map_nil,joinS_snoc,←hf,hq34,hj3,List.length_map,List.length_take];rcases Nat.eq_zero_or_pos j with h0 | h0;(subst h0;simp [joinS]);(rw [if_pos h0,if_pos (by omega)];simp [List.append_assoc]),by rw [List.length_append,aB_len];omega⟩)
  have hje:j=(l[k]).2.2.length:=by omega
  subst hje
  rw [List.drop_of_length_le (Nat.le_refl _)] at hj2
  rw [hj2,if_neg (show ¬firstE []≠0 by simp [firstE])] at hk3
  rw [List.take_of_length_le (Nat.le_refl _)] at hj3
  refine w_exit<|x_thn<|x_thn<|x_blk<|n_seq<|w_reg<|mv' lk4 (ptS pt34)<|?_
  refine V' (v_addS (lkS lk34) lks (by first | omega | (rw [bA_size,show (⟨#[10]⟩:ByteArray).size=1 from rfl];omega))) (ptS pt35) ?_
  rw [show (⟨#[10]⟩:ByteArray)=bA [10] from rfl,bA_app]
  refine mv' (lkS lk35) pt4<|s_nil<|n_blk<|n_seq<|w_reg<|mv' lk5 pt17<|?_
  refine V' (v_add lk17 lki (by omega) (by omega)) pt18 ?_
  refine mv' lk18 pt5<|s_nil<|n_thn<|?_
  refine lT' (⟨k+1,T3++[10]⟩) (by (try dsimp only);exact ⟨by omega,hk3,by rw [hk4,hlb,hj3,hq16];simp [List.append_assoc],by rw [List.length_append,List.length_singleton];omega⟩)
 rw [List.drop_of_length_le (by omega),joinE] at hk3
 rw [List.drop_of_length_le (by omega),show joinT []=[] from rfl,List.append_nil] at hk4
 rw [if_neg (by rw [hk3];simp),hk4] at hV
 refine w_exit<|x_thn<|x_thn<|x_blk<|n_seq<|w_seq<|wr'<|mv' lk4 (ptS pt36)<|V' (v_lenS (lkS lk36)) (ptS pt37)<|?_
 rw [bA_size]
 refine V' (v_gtr (lkS lk37) lki) (ptS pt38)<|sn'<|?_
 refine cd' (lkS lk38) (fun hc12=>?_) (fun hc12=>?_)
 ·rw [if_pos (by omega)] at hV
  refine wr'<|mv' lks pt2<|mv' lki pt3<|sn'<|w_rets<|r_thn<|w_ret (rsn (rm1 (rr_t gt2) (rm1 (rr_t gt3) rm0)))<|rT'<|?_
  rw [hV];rfl
 rw [if_neg (by omega)] at hV
 refine w_skip<|n_seq<|wr'<|mv' lk4 (ptS pt39)<|mv' (lkS lk39) pt2<|mv' lki pt3<|sn'<|w_rets<|w_ret (rsn (rm1 (rr_t gt2) (rm1 (rr_t gt3) rm0)))<|rT'<|?_
 rw [hV]
end Go.Proofs.YtgjchdhdopgkkaaGreatDoor
end
section
namespace Go.Proofs.YtgjchdhdopgkkaaGreatDoor
open Go.ChangeShapes Go.WideShapes Go.ChangeAt Go.RowKit
theorem own:ownKnob Tryz.prog.godebug=none:=by kernel_rfl
theorem laidOut:laidOutB Tryz.prog=true:=by kernel_rfl
theorem trodAll_below {H:Type}{enc:TypeId×Value→H}{P:Program}(hl:laidOutB P=true) {W W':World}(hb:Below W.heap.size W W') :
  ∀ (ts:List TypeId) (vs:List Value) (ds:List (DataW H)) (ps:List MemPlace),(ts.all fun t=>P.readableRec t&&decide (t<P.types.size))=true→(∀ x∈ps,x.block<W.heap.size) →
   DataW.TrodAll enc P W 0 (fun _=>true) true ts vs ds ps→DataW.TrodAll enc P W' 0 (fun b=>decide (b<W.heap.size)) true ts vs ds ps
 | [],[],[],ps,_,_,h=>h
 | t::ts,v::vs,d::ds,ps,hr,hlt,h=>by
  obtain ⟨p,q,h1,h2,rfl⟩:=h
  simp only [List.all_cons,Bool.and_eq_true,decide_eq_true_eq] at hr
  exact ⟨p,q,Below.trod hl hr.1.1 hr.1.2 h1 hb (fun x hx=>hlt x (List.mem_append.2 (.inl hx))),
   trodAll_below hl hb ts vs ds q hr.2 (fun x hx=>hlt x (List.mem_append.2 (.inr hx))) h2,rfl⟩
 | [],_::_,_,_,_,_,h=>by simp [DataW.TrodAll] at h
 | [],[],_::_,_,_,_,h=>by simp [DataW.TrodAll] at h
 | _::_,[],_,_,_,_,h=>by simp [DataW.TrodAll] at h
 | _::_,_::_,[],_,_,_,h=>by simp [DataW.TrodAll] at h
theorem law_post {H:Type}{enc:TypeId×Value→H}{P:Program}{f:Func}{s:ChangeSpec}{handsOn fresh:Bool}{W W':World}{args:Array Value}{ds gs:List (DataW H)}{before:List MemPlace}{tb:TypeId}
  (hl:laidOutB P=true) (hts:(f.params.toList.all fun t=>P.readableRec t&&decide (t<P.types.size))=true)
  (hrt:f.resultTypes = #[tb]) (htb:P.underlying tb=some .bool) (hvars:s.vars=[])
  (hs:s.fn H ds={ results:=[.lit (.bool true)],args:=ds })
  (hW:DataW.Whole enc P f.params.toList s.vars false W args.toList ds gs before) (hb:Below W.heap.size W W') :
  s.post enc P f false fresh handsOn false W args (.bool true) W':=by
 have hW':=hW
 obtain ⟨p,q,hA,hV,rfl,_,_⟩:=hW
 rw [hvars] at hV
 obtain ⟨rfl,rfl⟩:=trodVars_none hV
 have hlt : ∀ x∈p,x.block<W.heap.size:=fun x hx=>by simpa using hW'.lt x (List.mem_append.2 (.inl hx))
 have e1:s.fn H (ds++[])={ results:=[.lit (.bool true)],args:=ds }:=by simpa using hs
 refine ⟨ds,[],p++[],[],p,[],hW',?_,?_,?_,hb.frame _,fun h=>by cases h⟩
 ·rw [e1,hrt];exact trodAll_mk1 (shut_bool htb _)
 ·rw [e1];exact trodAll_below hl hb _ _ _ _ hts hlt hA
 ·rw [e1,hvars];exact rfl
end Go.Proofs.YtgjchdhdopgkkaaGreatDoor
end
section
namespace Go.Proofs.YtgjchdhdopgkkaaGreatDoor
open Go.ChangeShapes Go.WideShapes Go.ChangeAt Go.RowKit Go.Deep Go.Ab
inductive Ds where
 | int | str | bool
 | pair (a b:Ds)
 | slice (a:Ds)
@[reducible] def El:Ds→Type
 | .int=>Int
 | .str=>ByteArray
 | .bool=>Bool
 | .pair a b=>El a×El b
 | .slice a=>List (El a)
def Ds.size:Ds→Nat
 | .pair a b=>a.size+b.size
 | _=>1
theorem Ds.size_pos (d:Ds):0<d.size:=by
 induction d with
 | pair a b iha ihb=>simp only [Ds.size];omega
 | _=>simp [Ds.size]
def Rd (w:World) (B:Nat):(d:Ds)→List Value→El d→Prop
  | .int,cs,n=>cs=[.int .i64 n] ∧ -9223372036854775808≤n∧n≤9223372036854775807
  | .str,cs,s=>cs=[.string s]∧s.size≤maxLen
  | .bool,cs,b=>cs=[.bool b]
  | .pair a b,cs,p => ∃ c1 c2,cs=c1++c2∧Rd w B a c1 p.1∧Rd w B b c2 p.2
  | .slice a, cs, l => ∃ A c, cs = [.slice A l.length c] ∧ l.length ≤ c ∧ c ≤ maxLen ∧ (A = none → c = 0) ∧
      (0<l.length → ∃ b off,A=some ⟨b,off,none⟩∧b<B ∧ ∀ k (h:k<l.length),∃ r,(∀ j v,r[j]?=some v→w.cell? ⟨b,off+k*a.size+j,none⟩=some v)∧Rd w B a r l[k])
theorem Rd.length {w:World}{B:Nat} : ∀ {d:Ds}{cs:List Value}{x:El d},Rd w B d cs x→cs.length=d.size
 | .int,cs,x,h=>by rw [h.1];rfl
 | .str,cs,x,h=>by rw [h.1];rfl
 | .bool,cs,x,h=>by rw [show cs=_ from h];rfl
 | .pair a b,cs,x,⟨c1,c2,e,h1,h2⟩=>by rw [e,List.length_append,Rd.length h1,Rd.length h2];rfl
 | .slice a,cs,x,⟨A,c,e,_⟩=>by rw [e];rfl
theorem Rd.keep {w w':World}{B B':Nat}(hk : ∀ p:Addr,p.block<B→w'.cell? p=w.cell? p) (hB:B≤B') : ∀ {d:Ds}{cs:List Value}{x:El d},Rd w B d cs x→Rd w' B' d cs x
  | .int,cs,x,h=>h
  | .str,cs,x,h=>h
  | .bool,cs,x,h=>h
  | .pair a b,cs,x,⟨c1,c2,e,h1,h2⟩=>⟨c1,c2,e,Rd.keep hk hB h1,Rd.keep hk hB h2⟩
  | .slice a, cs, x, ⟨A, c, e, hl, hm, hA0, h⟩ => ⟨A, c, e, hl, hm, hA0, fun h0 => by
      obtain ⟨b,off,hA,hb,hi⟩:=h h0
      refine ⟨b,off,hA,by omega,fun k hk'=>?_⟩
      obtain ⟨r,hc,hr⟩:=hi k hk'
      exact ⟨r,fun j v hv=>(hk _ hb).trans (hc j v hv),Rd.keep hk hB hr⟩⟩
theorem Rd.below {w w':World}{B:Nat}{d:Ds}{cs:List Value}{x:El d}(h:Rd w B d cs x) (hb:Below B w w'):Rd w' B d cs x:=h.keep (fun p hp=>hb.cell hp) (Nat.le_refl _)
theorem Rd.more {w:World}{B B':Nat}{d:Ds}{cs:List Value}{x:El d}(h:Rd w B d cs x) (hB:B≤B'):Rd w B' d cs x:=h.keep (fun p hp=>rfl) hB
def fitsG (P:Program) (f:TypeId→Ds→Bool):List Field→Nat→Ds→Bool
 | [],_,_=>false
 | fd::fs,off,d=>match fs with
  | []=>fd.offset==off&&P.cellsOf fd.type==d.size&&f fd.type d
  | _::_=>match d with
   | .pair a b=>fd.offset==off&&P.cellsOf fd.type==a.size&&f fd.type a&&fitsG P f fs (off+a.size) b
   | _=>false
def fits (P:Program):Nat→TypeId→Ds→Bool
 | 0,_,_=>false
 | n+1,t,d =>
  match P.underlying t with
  | some (.int .i64)=>match d with
   | .int=>true
   | _=>false
  | some .string=>match d with
   | .str=>true
   | _=>false
  | some .bool=>match d with
   | .bool=>true
   | _=>false
  | some (.slice e)=>match d with
   | .slice a=>P.cellsOf e==a.size&&fits P n e a
   | _=>false
  | some (.struct fs)=>P.cellsOf t==d.size&&fitsG P (fits P n) fs.toList 0 d
  | _=>false
section
variable {H : Type} {enc : TypeId × Value → H} {P : Program} {w : World} {base : Nat} {spare : Nat → Bool} {held : Bool}
theorem spot_of_cell {w:World}{a:Addr}{v:Value}(h:w.cell? a=some v):a.spot=none:=by
 unfold World.cell? at h
 split at h
 ·split at h
  ·cases h
  ·rename_i hs;simpa using hs
 ·cases h
theorem list_of {α β:Type}{Q:Nat→β→α→Prop} : ∀ (n:Nat),(∀ i,i<n → ∃ r y,Q i r y) → ∃ l:List α,l.length=n ∧ ∀ i (h:i<l.length),∃ r,Q i r l[i]
 | 0,_=>⟨[],rfl,fun i h=>absurd h (by simp)⟩
 | n+1,h=>by
  obtain ⟨l,hl,hq⟩:=list_of n (fun i hi=>h i (by omega))
  obtain ⟨r,y,hy⟩:=h n (by omega)
  refine ⟨l++[y],by simp [hl],fun i hi=>?_⟩
  by_cases hin:i<l.length
  ·obtain ⟨r',h'⟩:=hq i hin
   exact ⟨r',by rw [List.getElem_append_left hin];exact h'⟩
  ·obtain rfl:i=n:=by simp at hi;omega
   exact ⟨r,by rw [List.getElem_append_right (by omega)];simpa [hl] using hy⟩
theorem rd_of_trod : ∀ (n:Nat) (t:TypeId) (d:Ds) (fuel:Nat) (cs:List Value) (x:DataW H×List MemPlace),fits P n t d=true→DataW.trod enc P w base spare held fuel t cs=some x → ∃ e:El d,Rd w w.heap.size d cs e
  | 0,t,d,fuel,cs,x,hf,h=>by simp [fits] at hf
  | n+1,t,d,fuel,cs,x,hf,h=>by
    unfold fits at hf
    split at hf
    · rename_i hu
      split at hf <;> try (cases hf;done)
      obtain ⟨m,rfl,_,hw⟩:=DataW.trod_int hu h
      exact ⟨m,rfl,by simpa [Lit.wf,IntKind.min,IntKind.max,IntKind.signed,IntKind.bits] using hw⟩
    · rename_i hu
      split at hf <;> try (cases hf;done)
      obtain ⟨s,rfl,_,hw⟩:=DataW.trod_string hu h
      exact ⟨s,rfl,hw⟩
    · rename_i hu
      split at hf <;> try (cases hf;done)
      obtain ⟨b,rfl,_⟩:=DataW.trod_bool hu h
      exact ⟨b,rfl⟩
    · rename_i e hu
      split at hf <;> try (cases hf;done)
      rename_i a
      simp only [Bool.and_eq_true,beq_iff_eq] at hf
      rcases open_slice hu h with ⟨rfl,_⟩ | ⟨ad,len,cap,m,k,D,Pl,rfl,hb,hl,hm,hmm,_,hi⟩
      · exact ⟨([]:List (El a)),none,0,rfl,Nat.le_refl _,by unfold maxLen;omega,fun _=>rfl,fun h0=>absurd h0 (by simp)⟩
      · have hlm:len≤m:=by rw [hmm];split <;> omega
        have hex : ∀ i,i<len → ∃ (r:List Value) (y:El a),(∀ j v,r[j]?=some v→w.cell? ((ad.add (i*a.size)).add j)=some v)∧r.length=a.size∧Rd w w.heap.size a r y:=by
          intro i hil
          obtain ⟨cs',hc,ht⟩:=hi i (by omega)
          rw [hf.1] at hc
          obtain ⟨_,hcl,hat⟩:=World.cells?_some hc
          obtain ⟨y,hy⟩:=rd_of_trod n e a k cs' _ hf.2 ht
          exact ⟨cs',y,fun j v hv=>by rw [hat j (by have:=(List.getElem?_eq_some_iff.1 hv).1;omega)];exact hv,hcl,hy⟩
        obtain ⟨l,hll,hl2⟩:=list_of len hex
        refine ⟨l,some ad,cap,by rw [hll],by omega,hm,fun h=>(by cases h),fun h0=>?_⟩
        obtain ⟨r0,hr0,hl0,_⟩:=hl2 0 h0
        have hp:=a.size_pos
        have hc0:=hr0 0 r0[0] (List.getElem?_eq_getElem (by omega))
        have hsp:ad.spot=none:=by
          have:=spot_of_cell hc0
          simpa [Addr.add] using this
        obtain ⟨b,off,sp⟩:=ad
        simp only at hsp
        subst hsp
        refine ⟨b,off,rfl,?_,fun k' hk'=>?_⟩
        · have:=block_lt_of_cell hc0
          simpa [Addr.add] using this
        · obtain ⟨r,hr1,_,hr2⟩:=hl2 k' hk'
          exact ⟨r,fun j v hv=>by have:=hr1 j v hv;simpa [Addr.add_lit] using this,hr2⟩
    · rename_i fs hu
      simp only [Bool.and_eq_true,beq_iff_eq] at hf
      obtain ⟨xs,m,_,_,hcl,hxl,hat⟩:=DataW.trod_struct hu h
      have key : ∀ (l : List Field) (off i : Nat) (d : Ds) (cs' : List Value), fitsG P (fits P n) l off d = true → cs'.length = d.size → cs.drop off = cs' → (∀ (j : Nat) (f : Field), l[j]? = some f → fs.toList[i + j]? = some f) →
          ∃ e:El d,Rd w w.heap.size d cs' e:=by
        intro l
        induction l with
        | nil=>intro off i d cs' hg;simp [fitsG] at hg
        | cons f l ih =>
          intro off i d cs' hg hcl' hd hj
          have hfi:fs[i]?=some f:=by have:=hj 0 f rfl;simpa using this
          have hlt:i<xs.length:=by rw [hxl];exact (Array.getElem?_eq_some_iff.1 hfi).1
          have ht:=hat i f hfi
          rw [List.getElem?_eq_getElem hlt] at ht
          cases l with
          | nil =>
            simp only [fitsG,Bool.and_eq_true,beq_iff_eq] at hg
            rw [hg.1.1,hg.1.2,hd,List.take_of_length_le (by omega)] at ht
            exact rd_of_trod n f.type d m cs' _ hg.2 ht
          | cons g l =>
            cases d with
            | pair a b =>
              simp only [fitsG,Bool.and_eq_true,beq_iff_eq] at hg
              obtain ⟨⟨⟨g1,g2⟩,g3⟩,g4⟩:=hg
              rw [g1,g2,hd] at ht
              obtain ⟨e1,he1⟩:=rd_of_trod n f.type a m _ _ g3 ht
              obtain ⟨e2,he2⟩:=ih (off+a.size) (i+1) b (cs'.drop a.size) g4 (by rw [List.length_drop,hcl'];simp [Ds.size]) (by rw [←hd,List.drop_drop]) (fun j f' hf'=>by have:=hj (j+1) f' (by simpa using hf');rw [←this];congr 1;omega)
              exact ⟨(e1,e2),cs'.take a.size,cs'.drop a.size,(List.take_append_drop _ _).symm,he1,he2⟩
            | _=>simp [fitsG] at hg
      exact key fs.toList 0 0 _ cs hf.2 (by rw [hcl,hf.1]) (by simp) (fun j f' hf'=>by simpa using hf')
    · cases hf
theorem rd_arg {d:Ds}{t:TypeId}{v:Value}{x:DataW H}{p:List MemPlace}(hf:fits P 20 t d=true) (h:DataW.Trod enc P w base spare held t v x p) : ∃ e:El d,Rd w w.heap.size d v.cells.toList e:=by
 obtain ⟨fuel,hf'⟩:=h
 exact rd_of_trod 20 t d fuel _ _ hf hf'
end
def avs:(d:Ds)→El d→List AV
 | .int,n=>[iv n]
 | .str,s=>[sv s]
 | .bool,b=>[bv b]
 | .pair a b,p=>avs a p.1++avs b p.2
 | .slice a,l=>[.sl (List.length l) a.size false (rows (avs a) l)]
theorem avs_len : ∀ (d:Ds) (x:El d),(avs d x).length=d.size
 | .int,_=>rfl
 | .str,_=>rfl
 | .bool,_=>rfl
 | .pair a b,p=>by simp only [avs,List.length_append,avs_len a,avs_len b,Ds.size]
 | .slice a,l=>rfl
def okD:(d:Ds)→El d→Prop
 | .int,n => -9223372036854775808≤n∧n≤9223372036854775807
 | .str,s=>ByteArray.size s≤maxLen
 | .bool,_=>True
 | .pair a b,p=>okD a p.1∧okD b p.2
 | .slice a,l => ∀ (k:Nat) (h:k<List.length l),okD a (l[k])
theorem Rd.ok {w:World}{B:Nat} : ∀ {d:Ds}{cs:List Value}{x:El d},Rd w B d cs x→okD d x
 | .int,cs,x,h=>h.2
 | .str,cs,x,h=>h.2
 | .bool,cs,x,h=>trivial
 | .pair a b,cs,x,⟨c1,c2,e,h1,h2⟩=>⟨Rd.ok h1,Rd.ok h2⟩
 | .slice a,cs,x,⟨A,c,e,hl,hm,h0,h⟩=>fun k hk=>by
  obtain ⟨b,off,_,_,hi⟩:=h (by omega)
  obtain ⟨r,_,hr⟩:=hi k hk
  exact Rd.ok hr
theorem RepC.append {w:World}{g:Gh} : ∀ {cs ds:List AV}{b off:Nat},RepC w g cs b off→RepC w g ds b (off+cs.length)→RepC w g (cs++ds) b off
 | [],ds,b,off,_,h=>by simpa using h
 | c::cs,ds,b,off,h,k=>by
  simp only [RepC,List.cons_append] at h ⊢
  refine ⟨h.1,RepC.append h.2 ?_⟩
  rw [show off+1+cs.length=off+(c::cs).length by simp;omega]
  exact k
theorem RepC.of_list {w:World}{g:Gh}{b:Nat} : ∀ {cs:List AV}{us:List Value}{off:Nat},RepL w g cs us→(∀ j v,us[j]?=some v→w.cell? ⟨b,off+j,none⟩=some v)→RepC w g cs b off
 | [],us,off,_,_=>by simp only [RepC]
 | c::cs,us,off,h,k=>by
  simp only [RepL] at h
  obtain ⟨u,us',rfl,h1,h2⟩:=h
  simp only [RepC]
  refine ⟨⟨u,k 0 u rfl,h1⟩,RepC.of_list h2 fun j v hv=>?_⟩
  have:=k (j+1) v (by simpa using hv)
  rw [show off+1+j=off+(j+1) by omega]
  exact this
theorem rep_rd {w:World}{B:Nat}{g:Gh}(hg : ∀ k,k<B→g.D k) : ∀ (d:Ds) (cs:List Value) (x:El d),Rd w B d cs x→RepL w g (avs d x) cs
 | .int,cs,x,h=>by rw [h.1];simp only [avs,RepL];exact ⟨_,[],rfl,by simp only [Rep],rfl⟩
 | .str,cs,x,h=>by rw [h.1];simp only [avs,RepL];exact ⟨_,[],rfl,by simp only [Rep],rfl⟩
 | .bool,cs,x,h=>by rw [show cs=_ from h];simp only [avs,RepL];exact ⟨_,[],rfl,by simp only [Rep],rfl⟩
 | .pair a b,cs,x,⟨c1,c2,e,h1,h2⟩=>by rw [e];simp only [avs];exact (rep_rd hg a c1 x.1 h1).append (rep_rd hg b c2 x.2 h2)
 | .slice a,cs,l,⟨A,c,e,hl,hm,h0,h⟩=>by
  rw [e]
  simp only [avs,RepL]
  refine ⟨_,[],rfl,?_,rfl⟩
  simp only [Rep]
  refine ⟨rows_len (avs_len a) l,A,c,rfl,hl,hm,fun h=>(by cases h),h0,fun hne=>?_⟩
  have hpos:0<List.length l:=by
   rcases Nat.eq_zero_or_pos (List.length l) with h' | h'
   ·have:l=[]:=List.eq_nil_of_length_eq_zero h'
    subst this;exact absurd rfl hne
   ·exact h'
  obtain ⟨b,off,eA,hb,hi⟩:=h hpos
  refine ⟨b,off,eA,hg b hb,?_⟩
  have key : ∀ (m:List (El a)) (o:Nat),(∀ k (hk:k<m.length),∃ r,(∀ j v,r[j]?=some v→w.cell? ⟨b,o+k*a.size+j,none⟩=some v)∧RepL w g (avs a m[k]) r)→RepC w g (rows (avs a) m) b o:=by
   intro m
   induction m with
   | nil=>intro o _;simp only [rows,List.flatMap_nil,RepC]
   | cons x m ih =>
    intro o hm'
    simp only [rows,List.flatMap_cons]
    obtain ⟨r,hr1,hr2⟩:=hm' 0 (by simp)
    refine RepC.append (RepC.of_list hr2 fun j v hv=>by have:=hr1 j v hv;simpa using this) ?_
    rw [avs_len]
    refine ih (o+a.size) fun k hk=>?_
    obtain ⟨r,hr1,hr2⟩:=hm' (k+1) (by simpa using hk)
    refine ⟨r,fun j v hv=>?_,by simpa using hr2⟩
    have:=hr1 j v hv
    rw [show o+a.size+k*a.size+j=o+(k+1)*a.size+j by rw [Nat.add_mul];omega]
    exact this
  exact key l off fun k hk=>by
   obtain ⟨r,hr1,hr2⟩:=hi k hk
   exact ⟨r,hr1,rep_rd hg a r _ hr2⟩
def g0 (w:World):Gh:=⟨fun k=>k<w.heap.size,fun _ _=>none,[]⟩
theorem sim0 (w:World) (hG:GlobW w):SimH w (g0 w) [] :=
 ⟨fun id ver ty s c h=>(by simp at h),fun i j k hi _=>by obtain ⟨_,_,_,_,_,_,h,_⟩:=hi;simp at h,fun k hk=>hk,fun id ver l h=>(by simp [g0] at h),fun id ver l h=>(by simp [g0] at h),⟨hG,hG.lt⟩⟩
theorem law_calls {P:Program}{f:FuncId}{args:List AV}(hc:ACalls P f args [] fun x h'=>h'=[]∧x = .ret (bv true)) {w:World}(hG:GlobW w) {vs:Array Value}(hr:RepL w (g0 w) args vs.toList) :
  Calls P f vs w fun e w'=>e = .returned (.bool true)∧Below w.heap.size w w':=by
 refine (hc.2 w (g0 w) vs (sim0 w hG) hr).mono ?_
 rintro e w' ⟨x,h',g',h1,h2,h3,h4,h5,rfl,rfl⟩
 cases e <;> simp only [EndR] at h1
 simp only [Rep] at h1
 refine ⟨by rw [h1],h4.os,h4.tape,h4.output,h4.size,fun k hk=>h4.block k hk ?_⟩
 rintro ⟨i,_,_,_,_,_,_,h,_⟩
 simp at h
section
variable {H : Type} {enc : TypeId × Value → H} {P : Program} {w : World} {base : Nat} {spare : Nat → Bool} {held : Bool}
theorem arg_struct (d:Ds) {t:TypeId}{v:Value}{x:DataW H}{p:List MemPlace}{fs:Array Field}{r:Reach}{b:Nat}(ht:P.underlying t=some (.struct fs)) (hf:fits P 20 t d=true) (hv:Value.okWide P w r b t v) (h:DataW.Trod enc P w base spare held t v x p) :
  ∃ e:El d,okD d e∧Rep w (g0 w) (.agg (avs d e)) v:=by
 obtain ⟨e,he⟩:=rd_arg hf h
 obtain ⟨cs,rfl,_⟩:=okWide_struct ht hv
 refine ⟨e,he.ok,?_⟩
 simp only [Rep]
 exact ⟨cs,rfl,rep_rd (fun k hk=>hk) d _ e he⟩
end
theorem repL1 {w:World}{g:Gh}{c:AV}{v:Value}{cs:List AV}{vs:List Value}(h:Rep w g c v) (hs:RepL w g cs vs):RepL w g (c::cs) (v::vs):=by simp only [RepL];exact ⟨v,vs,rfl,h,hs⟩
theorem repL0 {w:World}{g:Gh}:RepL w g [] []:=by simp only [RepL]
end Go.Proofs.YtgjchdhdopgkkaaGreatDoor
end
section
namespace Go.Proofs.YtgjchdhdopgkkaaGreatDoor
open Go.Ab
theorem runL_all {p:Int→Bool} : ∀ {l:Bs}{n:Nat},runL p l=some n → ∀ c∈l.take n,p c.toNat=true∧plnN c.toNat=true
 | [],n,h,c,hc=>by simp at hc
 | x::l,n,h,c,hc=>by
  unfold runL at h
  split at h
  ·rename_i hp
   split at h
   ·rename_i hq
    rw [Option.map_eq_some_iff] at h
    obtain ⟨m,hm,rfl⟩:=h
    rw [List.take_succ_cons] at hc
    rcases List.mem_cons.1 hc with rfl | hc
    ·exact ⟨hp,hq⟩
    ·exact runL_all hm c hc
   ·cases h
  ·cases h;simp at hc
theorem badN_iff {n:Int}:badN n=false↔plnN n=true∧n≠34:=by
 unfold badN;simp
theorem fieldL_good {l:Bs}{x:Nat×Nat×Nat}(h:fieldL l=some x) : ∀ c∈(l.drop x.1).take x.2.1,badN c.toNat=false:=by
 cases l with
 | nil=>cases h
 | cons c l =>
  by_cases hc:(c.toNat:Int)=34
  ·rw [fieldL,if_pos hc] at h
   cases hr:runL quoP l with
   | none=>rw [hr] at h;cases h
   | some n =>
    have:=runL_all hr
    rw [hr] at h
    simp only at h
    split at h
    ·cases h
    ·split at h
     ·cases h
     ·cases h
      intro y hy
      have:=this y (by simpa using hy)
      exact badN_iff.2 ⟨this.2,by have:=this.1;unfold quoP at this;simpa using this⟩
  ·rw [fieldL,if_neg hc] at h
   cases hr:runL fldP (c::l) with
   | none=>rw [hr] at h;cases h
   | some n =>
    have:=runL_all hr
    rw [hr] at h
    simp only at h
    split at h
    ·cases h
    ·cases h
     intro y hy
     have:=this y (by simpa using hy)
     exact badN_iff.2 ⟨this.2,by have:=this.1;unfold fldP at this;simp at this;exact this.2⟩
theorem fieldE_zero {f:ByteArray}(h1 : ∀ c∈aB f,badN c.toNat=false) (h2:f.size≤24):fieldE f=0:=by
 unfold fieldE
 rw [if_neg,if_neg (by omega)]
 rw [List.any_eq_true]
 rintro ⟨c,hc,hb⟩
 rw [h1 c hc] at hb;cases hb
theorem fieldE_all {f:ByteArray}(h:fieldE f=0):(∀ c∈aB f,badN c.toNat=false)∧f.size≤24:=by
 unfold fieldE at h
 split at h
 ·cases h
 ·rename_i h1
  split at h
  ·cases h
  ·refine ⟨fun c hc=>?_,by omega⟩
   cases hb:badN c.toNat
   ·rfl
   ·exact absurd (List.any_eq_true.2 ⟨c,hc,hb⟩) h1
theorem fldsL_good : ∀ {k:Nat}{acc:List ByteArray}{l:Bs},(∀ f∈acc,fieldE f=0)→acc.length≤12→(fldsL k acc l).2=0→(∀ f∈(fldsL k acc l).1,fieldE f=0)∧(fldsL k acc l).1.length≤12
 | 0,acc,l,h1,h2,_=>⟨h1,h2⟩
 | k+1,acc,l,h1,h2,h3=>by
  rw [fldsL] at h3 ⊢
  split at h3
  ·rename_i hm
   rw [if_pos hm]
   split at h3
   ·cases h3
   ·rename_i x hx
    split at h3
    ·cases h3
    ·rename_i hn
     rw [if_neg hn]
     refine fldsL_good (fun f hf=>?_) (by simp;omega) h3
     rcases List.mem_append.1 hf with hf | hf
     ·exact h1 f hf
     ·rw [List.mem_singleton] at hf
      subst hf
      refine fieldE_zero (fun c hc=>fieldL_good hx c hc) ?_
      unfold cutF
      rw [bA_size,List.length_take];omega
  ·rename_i hm
   rw [if_neg hm]
   exact ⟨h1,h2⟩
theorem lineL_good {x:Bs}(h:(lineL x).2=0) (hne:(lineL x).1≠[]):lineE (lineL x).1=0:=by
 obtain ⟨h1,h2⟩:=fldsL_good (k:=13) (acc:=[]) (l:=x) (fun f hf=>by simp at hf) (by simp) h
 unfold lineE
 have:0<(lineL x).1.length:=List.length_pos_iff.2 hne
 rw [if_neg (by omega),if_neg (by show ¬12<(fldsL 13 [] x).1.length;omega)]
 have : ∀ {fs:List ByteArray},(∀ f∈fs,fieldE f=0)→firstE fs=0:=by
  intro fs
  induction fs with
  | nil=>intro _;rfl
  | cons f fs ih =>
   intro h
   rw [firstE,if_neg (by rw [h f (by simp)];simp)]
   exact ih fun g hg=>h g (by simp [hg])
 exact this h1
theorem linesL_bad : ∀ {n:Int}{l:List Bs}{acc:List Ln},(linesL n l acc).2.2≠0→(linesL n l acc).1=[]
 | n,[],acc,h=>absurd rfl h
 | n,x::xs,acc,h=>by
  rw [linesL] at h ⊢
  split at h
  ·rename_i h1;rw [if_pos h1]
  ·rename_i h1;rw [if_neg h1];exact linesL_bad h
theorem linesL_good : ∀ {n:Int}{l:List Bs}{acc:List Ln},(∀ x∈acc,lineE x.2.2=0) → ∀ x∈(linesL n l acc).1,lineE x.2.2=0
 | n,[],acc,h=>h
 | n,y::ys,acc,h=>by
  rw [linesL]
  split
  ·intro x hx;simp at hx
  ·rename_i h1
   refine linesL_good fun x hx=>?_
   split at hx
   ·exact h x hx
   ·rename_i h2
    rcases List.mem_append.1 hx with hx | hx
    ·exact h x hx
    ·rw [List.mem_singleton] at hx
     subst hx
     exact lineL_good (Decidable.of_not_not h1) h2
theorem splitL_good {s:ByteArray} : ∀ x∈(splitL s).1,lineE x.2.2=0:=by
 have:=linesL_good (n:=1) (l:=cutC 10 (aB s)) (acc:=[]) (fun x hx=>by simp at hx)
 unfold splitL
 split
 ·intro x hx;simp at hx
 ·split
  ·exact this
  ·split
   ·intro x hx;simp at hx
   ·exact this
end Go.Proofs.YtgjchdhdopgkkaaGreatDoor
end
section
namespace Go.Proofs.YtgjchdhdopgkkaaGreatDoor
open Go.Ab
theorem parseV_bad {s:ByteArray}(h:(parseV s).2.2≠0):(parseV s).1=srcZ:=by
 unfold parseV at h ⊢
 split
 ·rfl
 ·rename_i h1
  rw [if_neg h1] at h
  unfold outP at h ⊢
  split
  ·rfl
  ·rename_i p hp
   rw [hp] at h
   simp only at h
   unfold endP at h ⊢
   split
   ·rfl
   ·rename_i h2
    rw [if_neg h2] at h
    split
    ·rfl
    ·rename_i h3;rw [if_neg h3] at h;exact absurd rfl h
theorem parseV_ok {s:ByteArray}(h:(parseV s).2.2=0):(splitL s).2.2=0∧runR (srcZ,false) (splitL s).1 = .inl ((parseV s).1,false)∧checkE (parseV s).1=0∧(parseV s).2.1=0:=by
 unfold parseV at h ⊢
 split
 ·rename_i h1;rw [if_pos h1] at h;exact absurd h h1
 ·rename_i h1
  rw [if_neg h1] at h
  unfold outP at h ⊢
  split
  ·rename_i n hp;rw [hp] at h;cases h
  ·rename_i p hp
   rw [hp] at h
   simp only at h
   unfold endP at h ⊢
   split
   ·rename_i h2;rw [if_pos h2] at h;cases h
   ·rename_i h2
    rw [if_neg h2] at h
    split
    ·rename_i h3;rw [if_pos h3] at h;exact absurd h h3
    ·rename_i h3
     exact ⟨Decidable.of_not_not h1,by rw [hp];simp only [Sum.inl.injEq];exact Prod.ext rfl (by simpa using h2),Decidable.of_not_not h3,rfl⟩
theorem parseV_eq (s:ByteArray):parseV s=if (splitL s).2.2≠0 then (srcZ,(splitL s).2.1,(splitL s).2.2) else outP (splitL s).1:=rfl
end Go.Proofs.YtgjchdhdopgkkaaGreatDoor
end
section
namespace Go.Proofs.YtgjchdhdopgkkaaGreatDoor
open Go.Ab Go.RowKit Civ
attribute [local simp] str_lt
section
theorem ShwA_clocked_10 {τ:Operand→AV}{y0 y1 y2 y3:Operand}{x0_0 x1_0 x2_0 x3_0:AV}(h0:cellsV (τ y0)=some [x0_0]) (l0:[x0_0].all leaf=true) (h1:cellsV (τ y1)=some [x1_0]) (l1:[x1_0].all leaf=true) (h2:cellsV (τ y2)=some [x2_0]) (l2:[x2_0].all leaf=true) (h3:cellsV (τ y3)=some [x3_0]) (l3:[x3_0].all leaf=true):fillAV τ [(0,1,y0),(1,1,y1),(2,1,y2),(3,1,y3)] [(.v (.string ⟨#[]⟩)),(.v (.string ⟨#[]⟩)),(.v (.string ⟨#[]⟩)),(.v (.string ⟨#[]⟩))]=some [x0_0,x1_0,x2_0,x3_0]:=by
 simp only [fillAV,h0,l0,h1,l1,h2,l2,h3,l3]
 rfl
theorem ShwA_lap0 { e:Ent}:([]:AH)++[e]=[e]:=rfl
theorem ShwA_lj0_1 { d0:Ent}:([]:AH)++[d0]=[d0]:=rfl
theorem ShwA_form_24 {τ:Operand→AV}{y0 y1 y2 y3 y4:Operand}{x0_0 x1_0 x2_0 x3_0 x4_0:AV}(h0:cellsV (τ y0)=some [x0_0]) (l0:[x0_0].all leaf=true) (h1:cellsV (τ y1)=some [x1_0]) (l1:[x1_0].all leaf=true) (h2:cellsV (τ y2)=some [x2_0]) (l2:[x2_0].all leaf=true) (h3:cellsV (τ y3)=some [x3_0]) (l3:[x3_0].all leaf=true) (h4:cellsV (τ y4)=some [x4_0]) (l4:[x4_0].all leaf=true):fillAV τ [(0,1,y0),(1,1,y1),(2,1,y2),(3,1,y3),(4,1,y4)] [(.v (.string ⟨#[]⟩)),(.v (.string ⟨#[]⟩)),(.v (.string ⟨#[]⟩)),(.v (.string ⟨#[]⟩)),(.v (.string ⟨#[]⟩))]=some [x0_0,x1_0,x2_0,x3_0,x4_0]:=by
 simp only [fillAV,h0,l0,h1,l1,h2,l2,h3,l3,h4,l4]
 rfl
end
def c53:AC:=(.seq (.reg [Oo 4 (.mv (.const (.string ⟨#[]⟩)))]) (.seq (.reg [Mv 6 0,Oo 7 (.call (.func 92) [(.tmp 6)]),Mv 5 7]) (.seq (.block 0 (.loop (.seq (.seq (.reg [Mv 8 5,Oo 9 (.len true (.tmp 8)),Mv 10 1,Oo 11 (.bin .lss (.tmp 9) (.tmp 10))]) (.cond (.tmp 11) .skip (.exit 0))) (.block 1 (.reg [Mv 12 5,Oo 13 (.bin .add (.const (.string ⟨#[48]⟩)) (.tmp 12)),Mv 5 13]))))) (.seq (.reg [Mv 14 5,Mv 4 14]) .ret))))
theorem k53:compF Tryz.prog 53=some ⟨c53,[(.tmp 4)],15⟩:=by kernel_rfl
def c57:AC:=(.seq (.reg [Oo 2 (.mv (.const (.string ⟨#[]⟩)))]) (.seq (.seq (.reg [Mv 4 0,Oo 5 (.bin .lss (.tmp 4) (Ci 0))]) (.cond (.tmp 5) (.seq (.reg [Mv 6 0,Oo 7 (.un .neg (.tmp 6)),Oo 8 (.call (.func 57) [(.tmp 7)]),Oo 9 (.bin .add (.const (.string ⟨#[45]⟩)) (.tmp 8)),Mv 2 9]) .ret) .skip)) (.seq (.reg [Mv 10 0,Oo 11 (.bin .quo (.tmp 10) (Ci 3600)),Oo 12 (.call (.func 92) [(.tmp 11)]),Oo 13 (.bin .add (.tmp 12) (.const (.string ⟨#[58]⟩))),Mv 14 0,Oo 15 (.bin .quo (.tmp 14) (Ci 60)),Oo 16 (.bin .rem (.tmp 15) (Ci 60)),Oo 17 (.call (.func 53) [(.tmp 16),(Ci 2)]),Oo 18 (.bin .add (.tmp 13) (.tmp 17)),Mv 3 18]) (.seq (.seq (.reg [Mv 19 0,Oo 20 (.bin .rem (.tmp 19) (Ci 60)),Oo 21 (.bin .gtr (.tmp 20) (Ci 0))]) (.cond (.tmp 21) (.reg [Mv 22 3,Mv 23 0,Oo 24 (.bin .rem (.tmp 23) (Ci 60)),Oo 25 (.call (.func 53) [(.tmp 24),(Ci 2)]),Oo 26 (.bin .add (.const (.string ⟨#[58]⟩)) (.tmp 25)),Oo 27 (.bin .add (.tmp 22) (.tmp 26)),Mv 3 27]) .skip)) (.seq (.reg [Mv 28 3,Mv 2 28]) .ret)))))
theorem k57:compF Tryz.prog 57=some ⟨c57,[(.tmp 2)],29⟩:=by kernel_rfl
def c56:AC:=(.seq (.reg [Oo 6 (.mv (.const (.string ⟨#[]⟩)))]) (.seq (.seq (.reg [Mv 7 1,Mv 8 2,Oo 9 (.bin .eql (.tmp 7) (.tmp 8))]) (.cond (.tmp 9) (.seq (.reg [Mv 10 0,Oo 11 (.call (.func 57) [(.tmp 10)]),Mv 6 11]) .ret) .skip)) (.seq (.drw [Mv 12 0,Oo 13 (.call (.func 57) [(.tmp 12)]),Oo 14 (.lit 9 1 4 [Ss,Ss,Ss,Ss] [(0,(1,(.const (.string ⟨#[]⟩)))),(1,(1,(.const (.string ⟨#[119]⟩)))),(2,(1,(.const (.string ⟨#[115]⟩)))),(3,(1,(.const (.string ⟨#[117]⟩))))]),Mv 15 1,Oo 16 (.ia 1 (.tmp 14) (.tmp 15)),Ld 17 16,Oo 18 (.bin .add (.tmp 13) (.tmp 17)),Mv 6 18] [] []) .ret)))
theorem k56:compF Tryz.prog 56=some ⟨c56,[(.tmp 6)],19⟩:=by kernel_rfl
def c58:AC:=(.seq (.reg [Oo 4 (.mv (.const (.string ⟨#[]⟩)))]) (.seq (.seq (.reg [Mv 5 0,Oo 6 (.bin .eql (.tmp 5) (.const (.string ⟨#[]⟩)))]) (.cond (.tmp 6) (.seq (.reg [Mv 7 1,Mv 4 7]) .ret) .skip)) (.seq (.reg [Mv 8 0,Mv 4 8]) .ret)))
theorem k58:compF Tryz.prog 58=some ⟨c58,[(.tmp 4)],9⟩:=by kernel_rfl
def c55:AC:=(.seq (.reg [Oo 1 (.box 46 3 (.tmp 0)),Oo 2 (.mv (.const (.string ⟨#[]⟩)))]) (.seq (.drw [Oo 5 (.call (.func 93) []),Fa 6 1 1,Ld 7 6,Oo 8 (.ia 1 (.tmp 5) (.tmp 7)),Ld 9 8,Mv 3 9] [] []) (.seq (.reg [Fa 10 2 1,Ld 11 10,Oo 12 (.call (.func 92) [(.tmp 11)]),Mv 4 12]) (.seq (.reg [Mv 13 4,Mv 14 3,Oo 15 (.bin .add (.const (.string ⟨#[108,97,115,116]⟩)) (.tmp 14)),Mv 16 3,Oo 17 (.bin .add (.tmp 16) (.const (.string ⟨#[62,61]⟩))),Mv 18 4,Oo 19 (.bin .add (.tmp 17) (.tmp 18)),Mv 20 3,Oo 21 (.bin .add (.tmp 20) (.const (.string ⟨#[60,61]⟩))),Mv 22 4,Oo 23 (.bin .add (.tmp 21) (.tmp 22)),Oo 24 (.lit 9 1 5 [Ss,Ss,Ss,Ss,Ss] [(0,(1,(.const (.string ⟨#[]⟩)))),(1,(1,(.tmp 13))),(2,(1,(.tmp 15))),(3,(1,(.tmp 19))),(4,(1,(.tmp 23)))]),Fa 25 0 1,Ld 26 25,Oo 27 (.ia 1 (.tmp 24) (.tmp 26)),Ld 28 27,Mv 2 28]) .ret))))
theorem k55:compF Tryz.prog 55=some ⟨c55,[(.tmp 2)],29⟩:=by kernel_rfl
def padI (n:Int) (k:Nat):Bs:=List.replicate (k-(Lib.itoa n).length) 48++Lib.itoa n
def spnQ (m:Int):Bs:=Lib.itoa (m/3600)++[58]++padI (m/60%60) 2++(if 0<m%60 then [58]++padI (m%60) 2 else [])
def spanT (n:Int):Bs:=if n<0 then [45]++spnQ (-n) else spnQ n
def clkS:List ByteArray:=[⟨#[]⟩,⟨#[119]⟩,⟨#[115]⟩,⟨#[117]⟩]
def clockT (n kind none:Int):ByteArray:=if kind=none then bA (spanT n) else bA (spanT n)++clkS.getD kind.toNat ⟨#[]⟩
def orT (s o:ByteArray):ByteArray:=if s=⟨#[]⟩ then o else s
def dayS (k:Int):ByteArray:=dayL.getD k.toNat ⟨#[]⟩
def formS (d:ByteArray) (n:Int):List ByteArray:=[⟨#[]⟩,bA (Lib.itoa n),⟨#[108,97,115,116]⟩++d,d++⟨#[62,61]⟩++bA (Lib.itoa n),d++⟨#[60,61]⟩++bA (Lib.itoa n)]
def formT (k w n:Int):ByteArray:=(formS (dayS w) n).getD k.toNat ⟨#[]⟩
theorem itoaL {n:Int}(h0 : -1000000000≤n) (h1:n≤1000000000):(Lib.itoa n).length≤21:=Lib.itoa_length_le n (by omega) (by omega)
theorem padI_len {n:Int}{k:Nat}(h0 : -1000000000≤n) (h1:n≤1000000000):(padI n k).length≤k+21:=by
 have:=itoaL h0 h1
 unfold padI
 rw [List.length_append,List.length_replicate];omega
theorem spnQ_len {m:Int}(h0:0≤m) (h1:m≤1000000000):(spnQ m).length≤80:=by
 have h2:=itoaL (n:=m/3600) (by omega) (by omega)
 have h3:=padI_len (n:=m/60%60) (k:=2) (by omega) (by omega)
 have h4:=padI_len (n:=m%60) (k:=2) (by omega) (by omega)
 unfold spnQ
 split <;> simp only [List.length_append,List.length_cons,List.length_nil] <;> omega
theorem spanT_len {n:Int}(h0 : -1000000000≤n) (h1:n≤1000000000):(spanT n).length≤90:=by
 unfold spanT
 split
 ·have:=spnQ_len (m := -n) (by omega) (by omega)
  simp only [List.length_append,List.length_cons,List.length_nil];omega
 have:=spnQ_len (m:=n) (by omega) (by omega)
 omega
theorem szc {a:UInt8}:(⟨#[a]⟩:ByteArray).size=1:=rfl
theorem padded_a {n:Int}{k:Nat}{h:AH}(h0 : -1000000000≤n) (h1:n≤1000000000) (hk:k≤10):ACalls Tryz.prog 53 [iv n,iv (k:Int)] h fun x h'=>h'=h∧x = .ret (sv (bA (padI n k))):=by
 have hL:=itoaL h0 h1
 refine tI' k53 fun N hn hlt hlA hbd=>?_
 simp only [tA',AV.bdL,AV.bd,and_true,true_and] at hbd ⊢
 refine wr'<|mv' lks pt4<|sn'<|wr'<|mv' lk0 pt6<|?_
 refine s_callp (mp1 lk6 mp0) (itoa_a (by omega) (by omega)) pt7 ?_
 refine mv' lk7 pt5<|sn'<|w_seq<|w_block<|?_
 refine w_lp (ι:=Nat) (fun (j:Nat)=>[(5,sv (bA (List.replicate j 48++Lib.itoa n)))]++rn' 8 6) (fun (j:Nat)=>[]) (fun (j:Nat)=>j≤k-(Lib.itoa n).length) (fun (j:Nat)=>k-(Lib.itoa n).length-j) (0) (by exact Nat.zero_le _) ?_
 rintro j hi1
 try simp only [setsT,setsE,z',s',rn',la',ln',Nat.reduceAdd]
 have hs:(bA (List.replicate j 48++Lib.itoa n)).size=j+(Lib.itoa n).length:=by rw [bA_size,List.length_append,List.length_replicate]
 refine w_seq<|wr'<|mv' lk5 pt8<|V' (v_lenS lk8) pt9<|mv' lk1 pt10<|V' (v_lss lk9 lk10) pt11<|sn'<|?_
 refine cd' lk11 (fun hc1=>?_) (fun hc1=>?_)
 ·rw [hs] at hc1
  refine w_skip<|n_seq<|w_block<|w_reg<|mv' lk5 pt12<|?_
  refine V' (v_addS lks lk12 (by rw [hs,szc];omega)) pt13 ?_
  refine mv' lk13 pt5<|s_nil<|n_blk<|n_thn<|?_
  refine lU' (j+1) (by (try dsimp only);omega) (by (try dsimp only);(try simp only [setsT,setsE,z',s',rn',la',ln',Nat.reduceAdd]);exact ALe.same (by repeat (first | exact wk0 | refine wka ?_ | refine wk1 rfl ?_ | refine wk1 (by first | rfl | exact ivx (by omega) | exact congrArg sv (by rw [List.replicate_succ];exact (bA_app [48] (List.replicate j 48++Lib.itoa n)).symm)) ?_)) rfl)
 rw [hs] at hc1
 obtain rfl:j=k-(Lib.itoa n).length:=by omega
 exact w_exit<|x_thn<|x_thn<|x_blk<|n_seq<|wr'<|mv' lk5 pt14<|mv' lk14 pt4<|sn'<|w_rets<|w_ret (rs1 (rr_t gt4))<|rT' rfl
theorem spanN_a {m:Int}{h:AH}(h0:0≤m) (h1:m≤1000000000):ACalls Tryz.prog 57 [iv m] h fun x h'=>h'=h∧x = .ret (sv (bA (spnQ m))):=by
 have hL:=itoaL (n:=m/3600) (by omega) (by omega)
 have hL2:=padI_len (n:=m/60%60) (k:=2) (by omega) (by omega)
 have hL3:=padI_len (n:=m%60) (k:=2) (by omega) (by omega)
 refine tI' k57 fun N hn hlt hlA hbd=>?_
 simp only [tA',AV.bdL,AV.bd,and_true,true_and] at hbd ⊢
 refine wr'<|mv' lks pt2<|sn'<|w_seq<|wr'<|mv' lk0 pt4<|V' (v_lss lk4 lki) pt5<|sn'<|?_
 refine w_condKF lk5 (by exact decide_eq_false (by omega)) ?_
 refine w_skip<|n_seq<|wr'<|mv' lk0 pt10<|?_
 refine V' (v_quo lk10 lki (by omega) (by omega) (by omega)) pt11 ?_
 refine s_callp (mp1 lk11 mp0) (itoa_a (by omega) (by omega)) pt12 ?_
 refine V' (v_addS lk12 lks (by rw [bA_size,szc];omega)) pt13 ?_
 refine mv' lk0 pt14 ?_
 refine V' (v_quo lk14 lki (by omega) (by omega) (by omega)) pt15 ?_
 refine V' (v_rem lk15 lki (by omega) (by omega)) pt16 ?_
 refine s_callp (mp1 lk16 (mp1 lki mp0)) (padded_a (k:=2) (by omega) (by omega) (by omega)) pt17 ?_
 refine V' (v_addS lk13 lk17 (by rw [ByteArray.size_append,bA_size,szc,bA_size];omega)) pt18 ?_
 refine mv' lk18 pt3<|sn'<|w_seq<|wr'<|mv' lk0 pt19<|?_
 refine V' (v_rem lk19 lki (by omega) (by omega)) pt20 ?_
 refine V' (v_gtr lk20 lki) pt21<|sn'<|?_
 refine cd' lk21 (fun hc2=>?_) (fun hc2=>?_)
 ·refine w_reg<|mv' lk3 pt22<|mv' lk0 pt23<|?_
  refine V' (v_rem lk23 lki (by omega) (by omega)) pt24 ?_
  refine s_callp (mp1 lk24 (mp1 lki mp0)) (padded_a (k:=2) (by omega) (by omega) (by omega)) pt25 ?_
  refine V' (v_addS lks lk25 (by rw [bA_size,szc];omega)) pt26 ?_
  refine V' (v_addS lk22 lk26 (by simp only [ByteArray.size_append,bA_size,szc];omega)) pt27 ?_
  refine mv' lk27 pt3<|sn'<|wr'<|mv' lk3 pt28<|mv' lk28 pt2<|sn'<|w_rets<|w_ret (rs1 (rr_t gt2))<|rT'<|?_
  exact congrArg sv (by unfold spnQ;rw [if_pos hc2];simp only [←bA_app];rfl)
 refine w_skip<|n_seq<|wr'<|mv' lk3 pt28<|mv' lk28 pt2<|sn'<|w_rets<|w_ret (rs1 (rr_t gt2))<|rT'<|?_
 exact congrArg sv (by unfold spnQ;rw [if_neg hc2,List.append_nil];simp only [←bA_app];rfl)
theorem spanM_a {n:Int}{h:AH}(h0 : -1000000000≤n) (h1:n<0):ACalls Tryz.prog 57 [iv n] h fun x h'=>h'=h∧x = .ret (sv (bA ([45]++spnQ (-n)))):=by
 have hL:=spnQ_len (m := -n) (by omega) (by omega)
 refine tI' k57 fun N hn hlt hlA hbd=>?_
 simp only [tA',AV.bdL,AV.bd,and_true,true_and] at hbd ⊢
 refine wr'<|mv' lks pt2<|sn'<|w_seq<|wr'<|mv' lk0 pt4<|V' (v_lss lk4 lki) pt5<|sn'<|?_
 refine w_condK lk5 (by exact decide_eq_true h1) ?_
 refine wr'<|mv' lk0 pt6<|?_
 refine V' (v_neg lk6 (by omega) (by omega)) pt7 ?_
 refine s_callp (mp1 lk7 mp0) (spanN_a (by omega) (by omega)) pt8 ?_
 refine V' (v_addS lks lk8 (by rw [bA_size,szc];omega)) pt9 ?_
 refine mv' lk9 pt2<|sn'<|w_rets<|r_thn<|w_ret (rs1 (rr_t gt2))<|rT'<|?_
 exact congrArg sv (bA_app [45] _)
theorem span_a {n:Int}{h:AH}(h0 : -1000000000≤n) (h1:n≤1000000000):ACalls Tryz.prog 57 [iv n] h fun x h'=>h'=h∧x = .ret (sv (bA (spanT n))):=by
 by_cases hn:n<0
 ·rw [show spanT n=[45]++spnQ (-n) from if_pos hn];exact spanM_a h0 hn
 rw [show spanT n=spnQ n from if_neg hn];exact spanN_a (by omega) h1
theorem or_a {s o:ByteArray}{h:AH}:ACalls Tryz.prog 58 [sv s,sv o] h fun x h'=>h'=h∧x = .ret (sv (orT s o)):=by
 refine tI' k58 fun N hn hlt hlA hbd=>?_
 simp only [tA',AV.bdL,AV.bd,and_true,true_and] at hbd ⊢
 refine wr'<|mv' lks pt4<|sn'<|w_seq<|wr'<|mv' lk0 pt5<|V' (v_eqlS lk5 lks) pt6<|sn'<|?_
 refine cd' lk6 (fun hc1=>?_) (fun hc1=>?_)
 ·refine wr'<|mv' lk1 pt7<|mv' lk7 pt4<|sn'<|w_rets<|r_thn<|w_ret (rs1 (rr_t gt4))<|rT'<|?_
  exact congrArg sv (if_pos hc1).symm
 refine w_skip<|n_seq<|wr'<|mv' lk0 pt8<|mv' lk8 pt4<|sn'<|w_rets<|w_ret (rs1 (rr_t gt4))<|rT'<|?_
 exact congrArg sv (if_neg hc1).symm
theorem clk_at : ∀ {k:Nat}(h:k<clkS.length),clkS[k].size≤1:=by decide
theorem clocked_a {n kind none:Int}{h:AH}(h0 : -1000000000≤n) (h1:n≤1000000000) (hk0:0≤kind) (hk1:kind≤3):ACalls Tryz.prog 56 [iv n,iv kind,iv none] h fun x h'=>h'=h∧x = .ret (sv (clockT n kind none)):=by
 have hL:=spanT_len h0 h1
 have hkl:kind.toNat<clkS.length:=by have:clkS.length=4:=rfl;omega
 have hcs:=clk_at hkl
 refine tI' k56 fun N hn hlt hlA hbd=>?_
 simp only [tA',AV.bdL,AV.bd,and_true,true_and] at hbd ⊢
 refine wr'<|mv' lks pt6<|sn'<|w_seq<|wr'<|mv' lk1 pt7<|mv' lk2 pt8<|V' (v_eql lk7 lk8) pt9<|sn'<|?_
 refine cd' lk9 (fun hc1=>?_) (fun hc1=>?_)
 ·refine wr'<|mv' lk0 pt10<|s_callp (mp1 lk10 mp0) (span_a h0 h1) pt11<|mv' lk11 pt6<|sn'<|w_rets<|r_thn<|w_ret (rs1 (rr_t gt6))<|rT'<|?_
  exact congrArg sv (if_pos hc1).symm
 refine w_skip<|n_seq<|w_seq<|w_drwE<|D' (v_mv lk0) pt12<|?_
 refine d_callp (mp1 lk12 mp0) (fun hE hX=>span_a h0 h1) pt13 ?_
 refine d_effI rfl rfl (hlk hn rfl) (l_litI (ShwA_clocked_10 (cvl lks rfl) rfl (cvl lks rfl) rfl (cvl lks rfl) rfl (cvl lks rfl) rfl) rfl) pt14 ShwA_lap0<|D' (v_mv lk1) pt15<|?_
 refine D' (v_iaR (k:=kind.toNat) (l:=clkS) (f:=strC) lk14 lk15 str_len1 (nb' rfl) (by first | rfl | first | exact hkl | omega) (by first | exact hkl | omega) (by first | rfl | omega) rfl) pt16 ?_
 refine D' (v_loadr lk16 gt0) pt17 ?_
 refine D' (v_addS lk13 lk17 (by rw [bA_size];omega)) pt18 ?_
 refine D' (v_mv lk18) pt6<|d_nil<|?_
 refine e_ent ShwA_lj0_1 ?_
 refine sn'<|w_rets<|w_ret (rs1 (rr_t gt6))<|rT'<|?_
 refine congrArg sv ?_;unfold clockT;rw [if_neg hc1,List.getD_eq_getElem?_getD,List.getElem?_eq_getElem hkl];rfl
theorem day_size {k:Int}:(dayS k).size≤3:=by
 unfold dayS
 have:k.toNat=0∨k.toNat=1∨k.toNat=2∨k.toNat=3∨k.toNat=4∨k.toNat=5∨k.toNat=6∨dayL.length≤k.toNat:=by have:dayL.length=7:=rfl;omega
 rcases this with h | h | h | h | h | h | h | h
 all_goals first | (rw [h];decide) | (rw [List.getD_eq_getElem?_getD,List.getElem?_eq_none h];decide)
theorem form_a' {k w n:Int}{h:AH}(hk0:0≤k) (hk1:k≤4) (hw0:0≤w) (hw1:w≤6) (h0 : -1000000000≤n) (h1:n≤1000000000):ACalls Tryz.prog 55 [.agg [iv k,iv w,iv n]] h fun x h'=>h'=h∧x = .ret (sv (formT k w n)):=by
 have hL:=itoaL h0 h1
 have hwl:w.toNat<dayL.length:=by have:dayL.length=7:=rfl;omega
 have hkl:k.toNat<(formS (dayS w) n).length:=by have:(formS (dayS w) n).length=5:=rfl;omega
 have hd:dayL[w.toNat]=dayS w:=by unfold dayS;rw [List.getD_eq_getElem?_getD,List.getElem?_eq_getElem hwl];rfl
 have hds:=day_size (k:=w)
 refine tI' k55 fun N hn hlt hlA hbd=>?_
 simp only [tA',AV.bdL,AV.bd,and_true,true_and] at hbd ⊢
 refine wr'<|E' (e_box (cvl lk0 rfl) rfl (hl0 hn) ha0) pt1<|mv' lks pt2<|sn'<|w_seq<|w_drwE<|?_
 refine d_callp mp0 (fun hE hX=>weekdays_a) pt5 ?_
 refine D' (v_fap0 lk1) pt6<|D' (v_loadp lk6 (hga hn rfl) gt1) pt7<|?_
 refine D' (v_iaR (k:=w.toNat) lk5 lk7 str_len1 (nb' rfl) (by first | rfl | first | exact hwl | omega) (by first | exact hwl | omega) (by first | rfl | omega) rfl) pt8 ?_
 refine D' (v_loadr lk8 gt0) pt9<|D' (v_mv lk9) pt3<|?_
 rw [hd]
 refine d_nil ?_
 refine e_nil ?_
 refine sn'<|wr'<|V' (v_fap0 lk1) pt10<|V' (v_loadp lk10 (hga hn rfl) gt2) pt11<|?_
 refine s_callp (mp1 lk11 mp0) (itoa_a (by omega) (by omega)) pt12 ?_
 refine mv' lk12 pt4<|sn'<|wr'<|mv' lk4 pt13<|mv' lk3 pt14<|?_
 refine V' (v_addS lks lk14 (by rw [show (⟨#[108,97,115,116]⟩:ByteArray).size=4 from rfl];omega)) pt15 ?_
 refine mv' lk3 pt16 ?_
 refine V' (v_addS lk16 lks (by rw [show (⟨#[62,61]⟩:ByteArray).size=2 from rfl];omega)) pt17 ?_
 refine mv' lk4 pt18 ?_
 refine V' (v_addS lk17 lk18 (by rw [ByteArray.size_append,show (⟨#[62,61]⟩:ByteArray).size=2 from rfl,bA_size];omega)) pt19 ?_
 refine mv' lk3 pt20 ?_
 refine V' (v_addS lk20 lks (by rw [show (⟨#[60,61]⟩:ByteArray).size=2 from rfl];omega)) pt21 ?_
 refine mv' lk4 pt22 ?_
 refine V' (v_addS lk21 lk22 (by rw [ByteArray.size_append,show (⟨#[60,61]⟩:ByteArray).size=2 from rfl,bA_size];omega)) pt23 ?_
 refine E' (e_lit (ShwA_form_24 (cvl lks rfl) rfl (cvl lk13 rfl) rfl (cvl lk15 rfl) rfl (cvl lk19 rfl) rfl (cvl lk23 rfl) rfl) (hl1 hn) ha1) pt24<|V' (v_fap0 lk1) pt25<|V' (v_loadp lk25 (hga hn rfl) gt0) pt26<|?_
 refine V' (v_iaOR (f:=strC) (k:=k.toNat) (l:=formS (dayS w) n) lk24 lk26 (hga hn rfl) str_len1 (nb' rfl) (by omega) hkl rfl) pt27 ?_
 refine V' (v_ldOR1 lk27 (hga hn rfl) str_len1 hkl rfl) pt28<|mv' lk28 pt2<|sn'<|w_rets<|w_ret (rs1 (rr_t gt2))<|rT'<|?_
 refine congrArg sv ?_;unfold formT;rw [List.getD_eq_getElem?_getD,List.getElem?_eq_getElem hkl];rfl
end Go.Proofs.YtgjchdhdopgkkaaGreatDoor
end
section
namespace Go.Proofs.YtgjchdhdopgkkaaGreatDoor
open Go.Ab Go.RowKit Civ
attribute [local simp] str_lt ln_lt era_lt
section
theorem ShwB_line_8 {τ:Operand→AV}{y0 y1:Operand}{x0_0 x1_0:AV}(h0:cellsV (τ y0)=some [x0_0]) (l0:[x0_0].all leaf=true) (h1:cellsV (τ y1)=some [x1_0]) (l1:[x1_0].all leaf=true):fillAV τ [(1,1,y0),(2,1,y1)] [(.v (.int .i64 0)),(.v (.bool false)),(.sl 0 0 true [])]=some [(.v (.int .i64 0)),x0_0,x1_0]:=by
 simp only [fillAV,h0,l0,h1,l1]
 rfl
theorem ShwB_line_9 {τ:Operand→AV}{y0:Operand}{x0_0 x0_1 x0_2:AV}(h0:cellsV (τ y0)=some [x0_0,x0_1,x0_2]) (l0:[x0_0,x0_1,x0_2].all leaf=true):fillAV τ [(0,3,y0)] [(.v (.int .i64 0)),(.v (.bool false)),(.sl 0 0 true [])]=some [x0_0,x0_1,x0_2]:=by
 simp only [fillAV,h0,l0]
 rfl
theorem ShwB_tk_3 {a0 a1 a2:AV}{l:List AV}:(a0::a1::a2::l).take 3=[a0,a1,a2]:=rfl
theorem ShwB_sc0_1 {a0 c0:AV}{l:List AV}:setCells (a0::l) 0 [c0]=c0::l:=rfl
theorem ShwB_tk4_3 {a0 a1 a2 a3 a4 a5 a6:AV}{l:List AV}:((a0::a1::a2::a3::a4::a5::a6::l).drop 4).take 3=[a4,a5,a6]:=rfl
theorem ShwB_rule_42 {τ:Operand→AV}{y0 y1 y2 y3 y4 y5 y6 y7 y8:Operand}{x0_0 x1_0 x2_0 x3_0 x4_0 x5_0 x6_0 x7_0 x8_0:AV}(h0:cellsV (τ y0)=some [x0_0]) (l0:[x0_0].all leaf=true) (h1:cellsV (τ y1)=some [x1_0]) (l1:[x1_0].all leaf=true) (h2:cellsV (τ y2)=some [x2_0]) (l2:[x2_0].all leaf=true) (h3:cellsV (τ y3)=some [x3_0]) (l3:[x3_0].all leaf=true) (h4:cellsV (τ y4)=some [x4_0]) (l4:[x4_0].all leaf=true) (h5:cellsV (τ y5)=some [x5_0]) (l5:[x5_0].all leaf=true) (h6:cellsV (τ y6)=some [x6_0]) (l6:[x6_0].all leaf=true) (h7:cellsV (τ y7)=some [x7_0]) (l7:[x7_0].all leaf=true) (h8:cellsV (τ y8)=some [x8_0]) (l8:[x8_0].all leaf=true):fillAV τ [(0,1,y0),(1,1,y1),(2,1,y2),(3,1,y3),(4,1,y4),(5,1,y5),(6,1,y6),(7,1,y7),(8,1,y8)] [(.v (.string ⟨#[]⟩)),(.v (.string ⟨#[]⟩)),(.v (.string ⟨#[]⟩)),(.v (.string ⟨#[]⟩)),(.v (.string ⟨#[]⟩)),(.v (.string ⟨#[]⟩)),(.v (.string ⟨#[]⟩)),(.v (.string ⟨#[]⟩)),(.v (.string ⟨#[]⟩))]=some [x0_0,x1_0,x2_0,x3_0,x4_0,x5_0,x6_0,x7_0,x8_0]:=by
 simp only [fillAV,h0,l0,h1,l1,h2,l2,h3,l3,h4,l4,h5,l5,h6,l6,h7,l7,h8,l8]
 rfl
theorem ShwB_lap0 { e:Ent}:([]:AH)++[e]=[e]:=rfl
theorem ShwB_lj1_1 {e0 d0:Ent}:([e0]:AH)++[d0]=[e0,d0]:=rfl
theorem ShwB_era_20 {τ:Operand→AV}{y0 y1 y2:Operand}{x0_0 x1_0 x2_0:AV}(h0:cellsV (τ y0)=some [x0_0]) (l0:[x0_0].all leaf=true) (h1:cellsV (τ y1)=some [x1_0]) (l1:[x1_0].all leaf=true) (h2:cellsV (τ y2)=some [x2_0]) (l2:[x2_0].all leaf=true):fillAV τ [(0,1,y0),(1,1,y1),(2,1,y2)] [(.v (.string ⟨#[]⟩)),(.v (.string ⟨#[]⟩)),(.v (.string ⟨#[]⟩))]=some [x0_0,x1_0,x2_0]:=by
 simp only [fillAV,h0,l0,h1,l1,h2,l2]
 rfl
theorem ShwB_tk5_5 {a0 a1 a2 a3 a4 a5 a6 a7 a8 a9:AV}{l:List AV}:((a0::a1::a2::a3::a4::a5::a6::a7::a8::a9::l).drop 5).take 5=[a5,a6,a7,a8,a9]:=rfl
theorem ShwB_sc0_5 {a0 a1 a2 a3 a4 c0 c1 c2 c3 c4:AV}{l:List AV}:setCells (a0::a1::a2::a3::a4::l) 0 [c0,c1,c2,c3,c4]=c0::c1::c2::c3::c4::l:=rfl
theorem ShwB_era_49 {τ:Operand→AV}{y0 y1 y2 y3:Operand}{x0_0 x1_0 x2_0 x3_0:AV}(h0:cellsV (τ y0)=some [x0_0]) (l0:[x0_0].all leaf=true) (h1:cellsV (τ y1)=some [x1_0]) (l1:[x1_0].all leaf=true) (h2:cellsV (τ y2)=some [x2_0]) (l2:[x2_0].all leaf=true) (h3:cellsV (τ y3)=some [x3_0]) (l3:[x3_0].all leaf=true):fillAV τ [(0,1,y0),(1,1,y1),(2,1,y2),(3,1,y3)] [(.v (.string ⟨#[]⟩)),(.v (.string ⟨#[]⟩)),(.v (.string ⟨#[]⟩)),(.v (.string ⟨#[]⟩))]=some [x0_0,x1_0,x2_0,x3_0]:=by
 simp only [fillAV,h0,l0,h1,l1,h2,l2,h3,l3]
 rfl
theorem ShwB_lj3_1 {e0 e1 e2 d0:Ent}:([e0,e1,e2]:AH)++[d0]=[e0,e1,e2,d0]:=rfl
theorem ShwB_tk_4 {a0 a1 a2 a3:AV}{l:List AV}:(a0::a1::a2::a3::l).take 4=[a0,a1,a2,a3]:=rfl
theorem ShwB_tk_10 {a0 a1 a2 a3 a4 a5 a6 a7 a8 a9:AV}{l:List AV}:(a0::a1::a2::a3::a4::a5::a6::a7::a8::a9::l).take 10=[a0,a1,a2,a3,a4,a5,a6,a7,a8,a9]:=rfl
theorem ShwB_sc0_10 {a0 a1 a2 a3 a4 a5 a6 a7 a8 a9 c0 c1 c2 c3 c4 c5 c6 c7 c8 c9:AV}{l:List AV}:setCells (a0::a1::a2::a3::a4::a5::a6::a7::a8::a9::l) 0 [c0,c1,c2,c3,c4,c5,c6,c7,c8,c9]=c0::c1::c2::c3::c4::c5::c6::c7::c8::c9::l:=rfl
theorem ShwB_tk0_10 {a0 a1 a2 a3 a4 a5 a6 a7 a8 a9:AV}{l:List AV}:((a0::a1::a2::a3::a4::a5::a6::a7::a8::a9::l).drop 0).take 10=[a0,a1,a2,a3,a4,a5,a6,a7,a8,a9]:=rfl
theorem ShwB_zone_20 {τ:Operand→AV}{y0 y1:Operand}{x0_0 x1_0:AV}(h0:cellsV (τ y0)=some [x0_0]) (l0:[x0_0].all leaf=true) (h1:cellsV (τ y1)=some [x1_0]) (l1:[x1_0].all leaf=true):fillAV τ [(0,1,y0),(1,1,y1)] [(.v (.string ⟨#[]⟩)),(.v (.string ⟨#[]⟩))]=some [x0_0,x1_0]:=by
 simp only [fillAV,h0,l0,h1,l1]
 rfl
end
def c22:AC:=(.reg [Mv 6 0,Mv 7 0,Nk 8 7,Fa 9 0 8,Ld 10 9,Mv 11 1,Mv 12 2,Oo 13 (.build [(iv 0),(.v (.bool false)),(.sl 0 0 true [])] [(1,(1,(.tmp 11))),(2,(1,(.tmp 12)))]),Oo 14 (.lit 67 3 1 [(iv 0),(.v (.bool false)),(.sl 0 0 true [])] [(0,(3,(.tmp 13)))]),Oo 15 (.app 67 3 40 (.tmp 10) (.tmp 14)),Nk 16 6,Fa 17 0 16,⟨none,none,(.store 1 (.tmp 17) (.tmp 15))⟩])
theorem k22:compF Tryz.prog 22=some ⟨c22,[],18⟩:=by kernel_rfl
def c20:AC:=(.seq (.reg [Oo 3 (.box 48 11 (.tmp 1))]) (.seq (.reg [Fa 5 2 3,Ld 6 5,Oo 7 (.call (.func 53) [(.tmp 6),(Ci 4)]),Mv 4 7]) (.seq (.seq (.reg [Fa 8 2 3,Ld 9 8]) (.block 0 (.seq (.reg [Fa 11 1 3,Ld 12 11,Oo 13 (.bin .eql (.tmp 9) (.tmp 12)),Mv 10 13]) (.cond (.tmp 10) (.reg [Oo 4 (.mv (.const (.string ⟨#[111,110,108,121]⟩)))]) (.seq (.reg [Oo 15 (.bin .eql (.tmp 9) (Ci 2100)),Mv 14 15]) (.cond (.tmp 14) (.reg [Oo 4 (.mv (.const (.string ⟨#[109,97,120]⟩)))]) .skip)))))) (.drw [Mv 16 0,Fa 17 0 3,Ld 18 17,Fa 19 1 3,Ld 20 19,Oo 21 (.call (.func 53) [(.tmp 20),(Ci 4)]),Mv 22 4,Oo 23 (.call (.func 54) []),Fa 24 3 3,Ld 25 24,Oo 26 (.ia 1 (.tmp 23) (.tmp 25)),Ld 27 26,Fa 28 4 3,Oo 29 (.load true 3 (.tmp 28)),Oo 30 (.call (.func 55) [(.tmp 29)]),Fa 31 7 3,Ld 32 31,Fa 33 8 3,Ld 34 33,Oo 35 (.call (.func 56) [(.tmp 32),(.tmp 34),(Ci 1)]),Fa 36 9 3,Ld 37 36,Oo 38 (.call (.func 57) [(.tmp 37)]),Fa 39 10 3,Ld 40 39,Oo 41 (.call (.func 58) [(.tmp 40),(.const (.string ⟨#[45]⟩))]),Oo 42 (.lit 9 1 9 [Ss,Ss,Ss,Ss,Ss,Ss,Ss,Ss,Ss] [(0,(1,(.const (.string ⟨#[82,117,108,101]⟩)))),(1,(1,(.tmp 18))),(2,(1,(.tmp 21))),(3,(1,(.tmp 22))),(4,(1,(.tmp 27))),(5,(1,(.tmp 30))),(6,(1,(.tmp 35))),(7,(1,(.tmp 38))),(8,(1,(.tmp 41)))])] [false] [Oo 43 (.call (.func 22) [(.tmp 16),(.const (.bool false)),(.tmp 42)])]))))
theorem k20:compF Tryz.prog 20=some ⟨c20,[],44⟩:=by kernel_rfl
def c59:AC:=(.seq (.reg [Oo 1 (.box 64 10 (.tmp 0)),Oo 2 (.mv (.const (.slice none 0 0)))]) (.seq (.reg [Fa 6 1 1,Ld 7 6,Oo 8 (.call (.func 58) [(.tmp 7),(.const (.string ⟨#[45]⟩))]),Mv 3 8]) (.seq (.seq (.reg [Fa 9 2 1,Ld 10 9,Oo 11 (.bin .gtr (.tmp 10) (Ci 0))]) (.cond (.tmp 11) (.reg [Fa 12 2 1,Ld 13 12,Oo 14 (.call (.func 57) [(.tmp 13)]),Mv 3 14]) .skip)) (.seq (.drw [Fa 15 0 1,Ld 16 15,Oo 17 (.call (.func 57) [(.tmp 16)]),Mv 18 3,Fa 19 3 1,Ld 20 19,Oo 21 (.lit 9 1 3 [Ss,Ss,Ss] [(0,(1,(.tmp 17))),(1,(1,(.tmp 18))),(2,(1,(.tmp 20)))]),Mv 4 21] [] []) (.seq (.seq (.reg [Fa 22 4 1,Ld 23 22,Oo 24 (.un .not (.tmp 23))]) (.cond (.tmp 24) (.seq (.reg [Fa 25 5 1,Oo 26 (.load true 5 (.tmp 25)),Oo 5 (.new 62 5 [(iv 0),(iv 0),(iv 0),(iv 0),(iv 0)]),⟨none,none,(.store 5 (.tmp 5) (.tmp 26))⟩]) (.drw [Mv 27 4,Fa 28 0 5,Fa 29 0 28,Ld 30 29,Oo 31 (.call (.func 53) [(.tmp 30),(Ci 4)]),Oo 32 (.call (.func 54) []),Fa 33 0 5,Fa 34 1 33,Ld 35 34,Oo 36 (.ia 1 (.tmp 32) (.tmp 35)),Ld 37 36,Fa 38 0 5,Fa 39 2 38,Ld 40 39,Oo 41 (.call (.func 92) [(.tmp 40)]),Fa 42 3 5,Ld 43 42,Fa 44 4 5,Ld 45 44,Oo 46 (.call (.func 56) [(.tmp 43),(.tmp 45),(Ci 2)]),Oo 47 (.lit 9 1 4 [Ss,Ss,Ss,Ss] [(0,(1,(.tmp 31))),(1,(1,(.tmp 37))),(2,(1,(.tmp 41))),(3,(1,(.tmp 46)))])] [false,false] [Oo 48 (.app 9 1 16 (.tmp 27) (.tmp 47)),Mv 4 48])) .skip)) (.seq (.reg [Mv 49 4,Mv 2 49]) .ret))))))
theorem k59:compF Tryz.prog 59=some ⟨c59,[(.tmp 2)],50⟩:=by kernel_rfl
def c21:AC:=(.seq (.reg [Oo 3 (.box 52 2 (.tmp 1))]) (.seq (.reg [Fa 7 1 3,Ld 8 7,Oo 9 (.len false (.tmp 8)),Oo 10 (.mv (Ci 0))]) (.block 0 (.loop (.seq (.reg [Oo 11 (.bin .lss (.tmp 10) (.tmp 9))]) (.seq (.cond (.tmp 11) .skip (.exit 0)) (.seq (.block 1 (.seq (.reg [Mv 12 10,Oo 13 (.ia 10 (.tmp 8) (.tmp 10)),Oo 14 (.load true 10 (.tmp 13)),Oo 5 (.new 64 10 [(iv 0),Ss,(iv 0),Ss,(.v (.bool false)),(iv 0),(iv 0),(iv 0),(iv 0),(iv 0)]),Mv 4 12,⟨none,none,(.store 10 (.tmp 5) (.tmp 14))⟩]) (.seq (.reg [Oo 15 (.load true 10 (.tmp 5)),Oo 16 (.call (.func 59) [(.tmp 15)]),Mv 6 16]) (.seq (.seq (.reg [Mv 17 4,Oo 18 (.bin .eql (.tmp 17) (Ci 0))]) (.cond (.tmp 18) (.reg [Fa 19 0 3,Ld 20 19,Oo 21 (.lit 9 1 2 [Ss,Ss] [(0,(1,(.const (.string ⟨#[90,111,110,101]⟩)))),(1,(1,(.tmp 20)))]),Mv 22 6,Oo 23 (.app 9 1 16 (.tmp 21) (.tmp 22)),Mv 6 23]) .skip)) (.reg [Mv 24 0,Mv 25 4,Oo 26 (.bin .gtr (.tmp 25) (Ci 0)),Mv 27 6,Oo 28 (.call (.func 22) [(.tmp 24),(.tmp 26),(.tmp 27)])]))))) (.reg [Oo 29 (.bin .add (.tmp 10) (Ci 1)),Mv 10 29]))))))))
theorem k21:compF Tryz.prog 21=some ⟨c21,[],30⟩:=by kernel_rfl
abbrev shP (B:Nat) (L:List Ln):Ent:=.mk 0 44 1 [.own B L.length L.length]
abbrev shL (L:List Ln):Ent:=.mk L.length 67 3 (rows lnC L)
theorem shP_lt {B n:Nat}{L:List Ln}(h:B<n):(shP B L).lt n=true:=by simp [Ent.lt,AV.lt,AV.ltL,h]
theorem shL_lt {n:Nat}{L:List Ln}:(shL L).lt n=true:=by simp [Ent.lt,ln_lt]
def toT (f t:Int):ByteArray:=if t=f then ⟨#[111,110,108,121]⟩ else if t=2100 then ⟨#[109,97,120]⟩ else bA (padI t 4)
def monS (k:Int):ByteArray:=((⟨#[]⟩:ByteArray)::monL).getD k.toNat ⟨#[]⟩
def ruleF (nm lt:ByteArray) (f t m k w n a c s:Int):List ByteArray:=[⟨#[82,117,108,101]⟩,nm,bA (padI f 4),toT f t,monS m,formT k w n,clockT a c 1,bA (spanT s),orT lt ⟨#[45]⟩]
theorem mon_at' {m:Int}(h1:m.toNat<((⟨#[]⟩:ByteArray)::monL).length):((⟨#[]⟩:ByteArray)::monL)[m.toNat]=monS m:=by
 unfold monS;rw [List.getD_eq_getElem?_getD,List.getElem?_eq_getElem h1];rfl
theorem shline_a {A B:Nat}{b:Bool}{fs:List ByteArray}{L:List Ln}{h:AH}(h1:h[A]?=some (shP B L)) (h2:h[B]?=some (shL L)) (hne:A≠B) (hl:L.length≤1000) :
  ACalls Tryz.prog 22 [.ptr A 0 0,bv b,.sl fs.length 1 false (rows strC fs)] h fun x h'=>x = .ret (.tup [])∧h'=(h.set A (shP B (L++[(0,b,fs)]))).set B (shL (L++[(0,b,fs)])):=by
 have hid:A<h.length:=(List.getElem?_eq_some_iff.1 h1).1
 have hib:B<h.length:=(List.getElem?_eq_some_iff.1 h2).1
 have hB:=hib
 have hlen:(L++[((0:Int),b,fs)]).length=L.length+1:=by simp
 refine tJ' k22 fun N hn hlt hlA hbd=>?_
 simp only [tA',AV.bdL,AV.bd,and_true,true_and] at hbd ⊢
 rw [hn] at hB
 refine aw_heap (h1:=(h.set A (shP B L)).set B (shL L)++[]) (by rw [hx2_self h1 h2]) ?_
 refine w_reg<|mv' lk0 pt6<|mv' lk0 pt7<|V' (v_nckp lk7) pt8<|V' (v_fap0 lk8) pt9<|V' (v_loadp lk9 (hx2_at1 hne hid) gt0) pt10<|mv' lk1 pt11<|mv' lk2 pt12<|V' (v_build (ShwB_line_8 (cvl lk11 rfl) rfl (cvl lk12 rfl) rfl)) pt13<|E' (e_lit (ShwB_line_9 (cvl lk13 rfl) rfl) (hl0 (hx2_len hn)) ha0) pt14<|?_
 refine E' (e_app (sc_own lk14 (hga (hx2_len hn) rfl) rfl ShwB_tk_3 (nb' rfl)) lk10 (hx2_at2 hib) (ln_len _) (by omega) rfl (hx2_set2 hib)) pt15 ?_
 refine V' (v_nckp lk6) pt16<|V' (v_fap0 lk16) pt17<|E' (e_store lk17 (cvl lk15 rfl) (hx2_at1 hne hid) rfl (nb' rfl) rfl ShwB_sc0_1 (hx2_set1 hne hid)) ptn<|s_nil<|w_end (rs0)<|?_
 refine ⟨_,_,rfl,hx2_len hn,hx2_lt hlt (by simp [Ent.lt,AV.lt,AV.ltL,hB]) (by simp [Ent.lt,AV.lt,AV.ltL,ln_lt,str_lt,ltL_app2]),rfl,rfl,?_⟩
 unfold shP shL
 rw [hlen,rows_app,rows_one]
theorem shrule_a {A B:Nat}{nm lt:ByteArray}{f t m k w n a c s:Int}{L:List Ln}{h:AH}(h1:h[A]?=some (shP B L)) (h2:h[B]?=some (shL L)) (hne:A≠B) (hl:L.length≤1000)
  (hf:0≤f∧f≤9999) (ht:0≤t∧t≤9999) (hm:1≤m∧m≤12) (hk:0≤k∧k≤4) (hw:0≤w∧w≤6) (hn':0≤n∧n≤1000) (ha:0≤a∧a≤1000000) (hc:0≤c∧c≤3) (hs:0≤s∧s≤1000000) :
  ACalls Tryz.prog 20 [.ptr A 0 0,.agg [sv nm,iv f,iv t,iv m,iv k,iv w,iv n,iv a,iv c,iv s,sv lt]] h fun x h'=>x = .ret (.tup [])∧h'=(h.set A (shP B (L++[(0,false,ruleF nm lt f t m k w n a c s)]))).set B (shL (L++[(0,false,ruleF nm lt f t m k w n a c s)])):=by
 have hid:A<h.length:=(List.getElem?_eq_some_iff.1 h1).1
 have hib:B<h.length:=(List.getElem?_eq_some_iff.1 h2).1
 have hB:=hib
 have hml:m.toNat<((⟨#[]⟩:ByteArray)::monL).length:=by have:((⟨#[]⟩:ByteArray)::monL).length=13:=rfl;omega
 refine tJ' k20 fun N hn hlt hlA hbd=>?_
 simp only [tA',AV.bdL,AV.bd,and_true,true_and] at hbd ⊢
 rw [hn] at hB
 refine aw_heap (h1:=(h.set A (shP B L)).set B (shL L)++[]) (by rw [hx2_self h1 h2]) ?_
 refine wr'<|E' (e_box (cvl lk1 rfl) rfl (hl0 (hx2_len hn)) ha0) pt3<|sn'<|wr'<|V' (v_fap0 lk3) pt5<|V' (v_loadp lk5 (hga (hx2_len hn) rfl) gt2) pt6<|?_
 refine s_callp (mp1 lk6 (mp1 lki mp0)) (padded_a (k:=4) (by omega) (by omega) (by omega)) pt7 ?_
 refine mv' lk7 pt4<|sn'<|?_
 refine w_seqC (ι:=Unit) (fun (u_:Unit)=>[(4,sv (toT f t))]++rn' 8 8) (fun (u_:Unit)=>[]) (fun (u_:Unit)=>True) ?_ ?_
 ·try simp only [setsT,setsE,z',s',rn',la',ln',Nat.reduceAdd]
  refine wr'<|V' (v_fap0 lk3) pt8<|V' (v_loadp lk8 (hga (hx2_len hn) rfl) gt2) pt9<|sn'<|w_block<|wr'<|V' (v_fap0 lk3) pt11<|V' (v_loadp lk11 (hga (hx2_len hn) rfl) gt1) pt12<|V' (v_eql lk9 lk12) pt13<|mv' lk13 pt10<|s_nil<|?_
  refine n_seq ?_
  refine cd' lk10 (fun hc1=>?_) (fun hc1=>?_)
  ·refine w_reg<|mv' lks pt4<|s_nil<|n_blk<|n_thn<|?_
   have hT:toT f t=⟨#[111,110,108,121]⟩:=if_pos hc1
   exact cT' (()) (by trivial) (by (try dsimp only);(try simp only [setsT,setsE,z',s',rn',la',ln',Nat.reduceAdd]);exact ALe.same (by repeat (first | exact wk0 | refine wka ?_ | refine wk1 rfl ?_ | refine wk1 (by first | rfl | exact congrArg sv hT) ?_)) rfl)
  refine wr'<|V' (v_eql lk9 lki) pt15<|mv' lk15 pt14<|sn'<|?_
  refine cd' lk14 (fun hc2=>?_) (fun hc2=>?_)
  ·refine w_reg<|mv' lks pt4<|s_nil<|n_blk<|n_thn<|?_
   have hT:toT f t=⟨#[109,97,120]⟩:=by unfold toT;rw [if_neg hc1,if_pos hc2]
   exact cT' (()) (by trivial) (by (try dsimp only);(try simp only [setsT,setsE,z',s',rn',la',ln',Nat.reduceAdd]);exact ALe.same (by repeat (first | exact wk0 | refine wka ?_ | refine wk1 rfl ?_ | refine wk1 (by first | rfl | exact congrArg sv hT) ?_)) rfl)
  refine w_skip<|n_blk<|n_thn<|?_
  have hT:toT f t=bA (padI t 4):=by unfold toT;rw [if_neg hc1,if_neg hc2]
  exact cT' (()) (by trivial) (by (try dsimp only);(try simp only [setsT,setsE,z',s',rn',la',ln',Nat.reduceAdd]);exact ALe.same (by repeat (first | exact wk0 | refine wka ?_ | refine wk1 rfl ?_ | refine wk1 (by first | rfl | exact congrArg sv hT) ?_)) rfl)
 rintro u_ hq6
 try simp only [setsT,setsE,z',s',rn',la',ln',Nat.reduceAdd]
 refine w_drwR []<|D' (v_mv lk0) pt16<|D' (v_fap0 lk3) pt17<|D' (v_loadp lk17 (hga (hx2_len hn) rfl) gt0) pt18<|D' (v_fap0 lk3) pt19<|D' (v_loadp lk19 (hga (hx2_len hn) rfl) gt1) pt20<|?_
 refine d_callp (mp1 lk20 (mp1 lki mp0)) (fun hE hX=>padded_a (k:=4) (by omega) (by omega) (by omega)) pt21 ?_
 refine D' (v_mv lk4) pt22 ?_
 refine d_callp mp0 (fun hE hX=>months_a) pt23 ?_
 refine D' (v_fap0 lk3) pt24<|D' (v_loadp lk24 (hga (hx2_len hn) rfl) gt3) pt25<|?_
 refine D' (v_iaR (k:=m.toNat) lk23 lk25 str_len1 (nb' rfl) (by first | rfl | first | exact hml | omega) (by first | exact hml | omega) (by first | rfl | omega) rfl) pt26 ?_
 refine D' (v_loadr lk26 gt0) pt27 ?_
 rw [mon_at' hml]
 refine D' (v_fap0 lk3) pt28<|D' (v_loadpA lk28 (hga (hx2_len hn) rfl) ShwB_tk4_3 rfl) pt29<|?_
 refine d_callp (mp1 lk29 mp0) (fun hE hX=>form_a' (by omega) (by omega) (by omega) (by omega) (by omega) (by omega)) pt30 ?_
 refine D' (v_fap0 lk3) pt31<|D' (v_loadp lk31 (hga (hx2_len hn) rfl) gt7) pt32<|D' (v_fap0 lk3) pt33<|D' (v_loadp lk33 (hga (hx2_len hn) rfl) gt8) pt34<|?_
 refine d_callp (mp1 lk32 (mp1 lk34 (mp1 lki mp0))) (fun hE hX=>clocked_a (by omega) (by omega) (by omega) (by omega)) pt35 ?_
 refine D' (v_fap0 lk3) pt36<|D' (v_loadp lk36 (hga (hx2_len hn) rfl) gt9) pt37<|?_
 refine d_callp (mp1 lk37 mp0) (fun hE hX=>span_a (by omega) (by omega)) pt38 ?_
 refine D' (v_fap0 lk3) pt39<|D' (v_loadp lk39 (hga (hx2_len hn) rfl) gt10) pt40<|?_
 refine d_callp (mp1 lk40 (mp1 lks mp0)) (fun hE hX=>or_a) pt41 ?_
 refine d_effI rfl rfl (hlk (hx2_len hn) rfl) (l_litI (ShwB_rule_42 (cvl lks rfl) rfl (cvl lk18 rfl) rfl (cvl lk21 rfl) rfl (cvl lk22 rfl) rfl (cvl lk27 rfl) rfl (cvl lk30 rfl) rfl (cvl lk35 rfl) rfl (cvl lk38 rfl) rfl (cvl lk41 rfl) rfl) rfl) pt42 ShwB_lap0<|d_nil<|k_e_ent ShwB_lj1_1<|?_
 refine k_call (mp1 lk16 (mp1 lkb (mp1 lk42 mp0))) (shline_a (fs:=ruleF nm lt f t m k w n a c s) (hx2_at1 hne hid) (hx2_at2 hib) hne hl) (by intro i hi;simp at hi) pt43 ?_
 refine k_nil<|w_end (rs0)<|?_
 refine ⟨_,_,(by rw [hx2_set1 hne hid,hx2_set2 hib]),hx2_len hn,hx2_lt hlt (shP_lt hB) shL_lt,rfl,rfl,rfl⟩
def eraF (sh:Int) (rl:ByteArray) (sa:Int) (fm:ByteArray) (op:Bool) (y m d a c:Int):List ByteArray :=
 [bA (spanT sh),if 0<sa then bA (spanT sa) else orT rl ⟨#[45]⟩,fm]++(if op=true then [] else [bA (padI y 4),monS m,bA (Lib.itoa d),clockT a c 2])
def shE (sh sa:Int) (op:Bool) (y m d a c:Int):Prop:=(-1000000≤sh∧sh≤1000000)∧(0≤sa∧sa≤1000000)∧(op=false→(0≤y∧y≤9999)∧(1≤m∧m≤12)∧(0≤d∧d≤1000)∧(0≤a∧a≤1000000)∧0≤c∧c≤3)
theorem shera_a {sh sa y m d a c:Int}{rl fm:ByteArray}{op:Bool}{h:AH}(hok:shE sh sa op y m d a c) :
  ACalls Tryz.prog 59 [.agg [iv sh,sv rl,iv sa,sv fm,bv op,iv y,iv m,iv d,iv a,iv c]] h fun x h'=>h'=h∧x = .ret (.sl (eraF sh rl sa fm op y m d a c).length 1 false (rows strC (eraF sh rl sa fm op y m d a c))):=by
 obtain ⟨hsh,hsa,hrest⟩:=hok
 refine tW' k59 fun N hn hlt hlA hbd=>?_
 simp only [tA',AV.bdL,AV.bd,and_true,true_and] at hbd ⊢
 refine wr'<|E' (e_box (cvl lk0 rfl) rfl (hl0 hn) ha0) pt1<|mv' lkn pt2<|sn'<|wr'<|V' (v_fap0 lk1) pt6<|V' (v_loadp lk6 (hga hn rfl) gt1) pt7<|s_callp (mp1 lk7 (mp1 lks mp0)) (or_a) pt8<|mv' lk8 pt3<|sn'<|?_
 refine w_seqC (ι:=Unit) (fun (u_:Unit)=>[(3,sv (if 0<sa then bA (spanT sa) else orT rl ⟨#[45]⟩))]++rn' 9 6) (fun (u_:Unit)=>[]) (fun (u_:Unit)=>True) ?_ ?_
 ·try simp only [setsT,setsE,z',s',rn',la',ln',Nat.reduceAdd]
  refine wr'<|V' (v_fap0 lk1) pt9<|V' (v_loadp lk9 (hga hn rfl) gt2) pt10<|V' (v_gtr lk10 lki) pt11<|sn'<|?_
  refine cd' lk11 (fun hc1=>?_) (fun hc1=>?_)
  ·refine w_reg<|V' (v_fap0 lk1) pt12<|V' (v_loadp lk12 (hga hn rfl) gt2) pt13<|?_
   refine s_callp (mp1 lk13 mp0) (span_a (by omega) (by omega)) pt14 ?_
   refine mv' lk14 pt3<|s_nil<|n_thn<|?_
   have hT:(if 0<sa then bA (spanT sa) else orT rl ⟨#[45]⟩)=bA (spanT sa):=if_pos hc1
   exact cT' (()) (by trivial) (by (try dsimp only);(try simp only [setsT,setsE,z',s',rn',la',ln',Nat.reduceAdd]);exact ALe.same (by repeat (first | exact wk0 | refine wka ?_ | refine wk1 rfl ?_ | refine wk1 (by first | rfl | exact congrArg sv hT) ?_)) rfl)
  refine w_skip<|n_thn<|?_
  have hT:(if 0<sa then bA (spanT sa) else orT rl ⟨#[45]⟩)=orT rl ⟨#[45]⟩:=if_neg hc1
  exact cT' (()) (by trivial) (by (try dsimp only);(try simp only [setsT,setsE,z',s',rn',la',ln',Nat.reduceAdd]);exact ALe.same (by repeat (first | exact wk0 | refine wka ?_ | refine wk1 rfl ?_ | refine wk1 (by first | rfl | exact congrArg sv hT) ?_)) rfl)
 rintro u_ hq4
 try simp only [setsT,setsE,z',s',rn',la',ln',Nat.reduceAdd]
 refine w_seq<|w_drwE<|D' (v_fap0 lk1) pt15<|D' (v_loadp lk15 (hga hn rfl) gt0) pt16<|?_
 refine d_callp (mp1 lk16 mp0) (fun hE hX=>span_a (by omega) (by omega)) pt17 ?_
 refine D' (v_mv lk3) pt18<|D' (v_fap0 lk1) pt19<|D' (v_loadp lk19 (hga hn rfl) gt3) pt20<|d_eff rfl rfl (hlk hn rfl) (l_lit (ShwB_era_20 (cvl lk17 rfl) rfl (cvl lk18 rfl) rfl (cvl lk20 rfl) rfl)) pt21 ShwB_lap0<|D' (v_mv lk21) pt4<|d_nil<|?_
 refine e_ent ShwB_lj1_1 ?_
 refine sn'<|w_seq<|wr'<|V' (v_fap0 lk1) pt22<|V' (v_loadp lk22 (hga hn rfl) gt4) pt23<|V' (v_notB lk23) pt24<|sn'<|?_
 refine w_condB lk24 (fun hc2=>?_) (fun hc2=>?_)
 ·obtain rfl:op=false:=by simpa using hc2
  obtain ⟨hy,hm,hd,ha,hc⟩:=hrest rfl
  have hml:m.toNat<((⟨#[]⟩:ByteArray)::monL).length:=by have:((⟨#[]⟩:ByteArray)::monL).length=13:=rfl;omega
  refine wr'<|V' (v_fap0 lk1) pt25<|V' (v_loadpA lk25 (hga hn rfl) ShwB_tk5_5 rfl) pt26<|E' (e_new (hl2 hn) ha2) pt5<|E' (e_store lk5 (cvl lk26 rfl) (hga hn rfl) rfl (nb' rfl) rfl ShwB_sc0_5 (hs2 hn)) ptn<|sn'<|w_drwE<|D' (v_mv lk4) pt27<|D' (v_fap0 lk5) pt28<|D' (v_fap0 lk28) pt29<|D' (v_loadp lk29 (hga hn rfl) gt0) pt30<|?_
  refine d_callp (mp1 lk30 (mp1 lki mp0)) (fun hE hX=>padded_a (k:=4) (by omega) (by omega) (by omega)) pt31 ?_
  refine d_callp mp0 (fun hE hX=>months_a) pt32 ?_
  refine D' (v_fap0 lk5) pt33<|D' (v_fap0 lk33) pt34<|D' (v_loadp lk34 (hga hn rfl) gt1) pt35<|?_
  refine D' (v_iaR (k:=m.toNat) lk32 lk35 str_len1 (nb' rfl) (by first | rfl | first | exact hml | omega) (by first | exact hml | omega) (by first | rfl | omega) rfl) pt36 ?_
  refine D' (v_loadr lk36 gt0) pt37 ?_
  rw [mon_at' hml]
  refine D' (v_fap0 lk5) pt38<|D' (v_fap0 lk38) pt39<|D' (v_loadp lk39 (hga hn rfl) gt2) pt40<|?_
  refine d_callp (mp1 lk40 mp0) (fun hE hX=>itoa_a (by omega) (by omega)) pt41 ?_
  refine D' (v_fap0 lk5) pt42<|D' (v_loadp lk42 (hga hn rfl) gt3) pt43<|D' (v_fap0 lk5) pt44<|D' (v_loadp lk44 (hga hn rfl) gt4) pt45<|?_
  refine d_callp (mp1 lk43 (mp1 lk45 (mp1 lki mp0))) (fun hE hX=>clocked_a (by omega) (by omega) (by omega) (by omega)) pt46 ?_
  refine d_eff rfl rfl (hlk hn rfl) (l_lit (ShwB_era_49 (cvl lk31 rfl) rfl (cvl lk37 rfl) rfl (cvl lk41 rfl) rfl (cvl lk46 rfl) rfl)) pt47 ShwB_lap0<|d_nil<|?_
  refine e_ent ShwB_lj3_1 ?_
  refine E' (e_app (sc_own lk47 (hga hn rfl) rfl ShwB_tk_4 (nb' rfl)) lk27 (hga hn rfl) rfl (by omega) rfl (hs1 hn)) pt48 ?_
  refine mv' lk48 pt4<|sn'<|wr'<|mv' lk4 pt49<|mv' lk49 pt2<|s_nil<|n_seqw (ALe.iceR (hga hn rfl) gt2 rfl (nb' rfl) pt2 (hs1 hn))<|w_rets<|w_ret (rs1 (rr_t gt2))<|rtW'<|?_
  exact Wk.refl _
 obtain rfl:op=true:=by simpa using hc2
 refine w_skip<|n_seq<|wr'<|mv' lk4 pt49<|mv' lk49 pt2<|s_nil<|n_seqw (ALe.iceR (hga hn rfl) gt2 rfl (nb' rfl) pt2 (hs1 hn))<|w_rets<|w_ret (rs1 (rr_t gt2))<|rtW'<|?_
 exact Wk.refl _
abbrev eraG (x:Era):List ByteArray:=eraF x.1 x.2.1 x.2.2.1 x.2.2.2.1 x.2.2.2.2.1 x.2.2.2.2.2.1.1 x.2.2.2.2.2.1.2.1 x.2.2.2.2.2.1.2.2 x.2.2.2.2.2.2.1 x.2.2.2.2.2.2.2
abbrev shX (x:Era):Prop:=shE x.1 x.2.2.1 x.2.2.2.2.1 x.2.2.2.2.2.1.1 x.2.2.2.2.2.1.2.1 x.2.2.2.2.2.1.2.2 x.2.2.2.2.2.2.1 x.2.2.2.2.2.2.2
theorem eraG_len (x:Era):(eraG x).length≤7:=by
 unfold eraG eraF
 rw [List.length_append]
 by_cases h:x.2.2.2.2.1=true
 ·rw [if_pos h];simp
 rw [if_neg h];simp
def zoneL (nm:ByteArray):List Era→List Ln
 | []=>[]
 | x::xs=>(0,false,[⟨#[90,111,110,101]⟩,nm]++eraG x)::xs.map fun y=>(0,true,eraG y)
theorem zoneL_len {nm:ByteArray}{es:List Era}:(zoneL nm es).length=es.length:=by
 cases es <;> simp [zoneL]
theorem zone_0 {nm:ByteArray}{es:List Era}(h:0<es.length):zoneL nm (es.take (0+1))=zoneL nm (es.take 0)++[((0:Int),decide (((0:Nat):Int)>0),[⟨#[90,111,110,101]⟩,nm]++eraG es[0])]:=by
 cases es with
 | nil=>cases h
 | cons x xs=>rfl
theorem zone_s {nm:ByteArray}{es:List Era}{j:Nat}(h:j<es.length) (h0:¬(j:Int)=0):zoneL nm (es.take (j+1))=zoneL nm (es.take j)++[((0:Int),decide ((j:Int)>0),eraG es[j])]:=by
 cases es with
 | nil=>cases h
 | cons x xs =>
  cases j with
  | zero=>exact absurd rfl h0
  | succ j =>
   have hj:j<xs.length:=by simpa using h
   rw [List.take_succ_cons,List.take_succ_cons,zoneL,zoneL,List.take_succ_eq_append_getElem hj,List.map_append]
   have:decide (((j+1:Nat):Int)>0)=true:=decide_eq_true (by omega)
   rw [this];rfl
end Go.Proofs.YtgjchdhdopgkkaaGreatDoor
end
