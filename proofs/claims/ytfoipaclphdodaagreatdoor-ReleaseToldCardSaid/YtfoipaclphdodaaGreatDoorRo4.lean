/-
  Part 4 of the proof: own lemmas and contracts on plain data. No condition beyond those that each lemma states.
-/
import Derived.Test.YtfoipaclphdodaaGreatDoorRo3
import Derived.Sort.Walk0
import Derived.Lib.Strings
import Derived.Shelf.SlSortCmp.NoneTotal
import Derived.Test.YtfoipaclphdodaaGreatDoorCards
import Derived.Test.YtfoipaclphdodaaGreatDoorTie
import Derived.Lay
import Derived.Handed
import Derived.SizedLaws
import Derived.Shelf.Vars
import Derived.SevenTiedAt
import Derived.LaidSub
import Derived.MakeChecks
set_option linter.all false
set_option maxRecDepth 1000000
set_option maxHeartbeats 4000000
namespace Go.Proofs.YtfoipaclphdodaaGreatDoor
section
open Go.Ab Go.RowKit Civ
attribute [local simp] ZbN Zcf Zb0 ZbD Zbq Zdm Zdo Zdh
def c54:AC:=(Sr [Oo 1 (.box 53 3 (t 0)),Mc 2 0] (Sr [Oo 22 (.load true 3 (t 1)),Cl 23 108 [(t 22)],Mv 3 23] (.seq (Sr [Mv 24 3,Bc 25 .neq 24 0] (Cd 25 (Sr [Mv 26 3,Mv 2 26] .ret) .skip)) (Sr [Oo 4 (.mv (.const (.slice none 0 0)))] (.seq (Sr [Mc 5 0] (.block 0 (.loop (.seq (Sr [Mv 27 5,Fa 28 1 1,Ld 29 28,Oo 30 (.len false (t 29)),Bn 31 .lss 27 30] (Cd 31 .skip (.exit 0))) (.seq (.block 1 (.reg [Mv 34 4,Fa 35 1 1,Ld 36 35,Mv 37 5,Oo 38 (.ia 2 (t 36) (t 37)),Fa 39 0 38,Ld 40 39,Oo 41 (.lit 9 1 1 [Ss] [(0,(1,(t 40)))]),Oo 42 (.app 9 1 16 (t 34) (t 41)),Mv 4 42])) (.reg [Mv 32 5,Bc 33 .add 32 1,Mv 5 33])))))) (.seq (Sr [Mc 6 0] (.block 2 (.loop (.seq (Sr [Mv 43 6,Fa 44 2 1,Ld 45 44,Oo 46 (.len false (t 45)),Bn 47 .lss 43 46] (Cd 47 .skip (.exit 2))) (.seq (.block 3 (.reg [Mv 50 4,Fa 51 2 1,Ld 52 51,Mv 53 6,Oo 54 (.ia 2 (t 52) (t 53)),Fa 55 1 54,Ld 56 55,Oo 57 (.lit 9 1 1 [Ss] [(0,(1,(t 56)))]),Oo 58 (.app 9 1 16 (t 50) (t 57)),Mv 4 58])) (.reg [Mv 48 6,Bc 49 .add 48 1,Mv 6 49])))))) (.seq (Sr [Mc 7 0] (.block 4 (.loop (.seq (Sr [Mv 59 7,Mv 60 4,Oo 61 (.len false (t 60)),Bn 62 .lss 59 61] (Cd 62 .skip (.exit 4))) (.seq (.block 5 (Sr [Mc 8 0] (.block 6 (.loop (.seq (Sr [Mv 65 8,Mv 66 7,Bn 67 .lss 65 66] (Cd 67 .skip (.exit 6))) (.seq (.block 7 (Sd [Mv 70 4,Mv 71 7,Oo 72 (.ia 1 (t 70) (t 71)),Ld 73 72,Mv 74 4,Mv 75 8,Oo 76 (.ia 1 (t 74) (t 75)),Ld 77 76,Bn 78 .eql 73 77] (Cd 78 (Sr [Mc 2 6] .ret) .skip))) (.reg [Mv 68 8,Bc 69 .add 68 1,Mv 8 69]))))))) (.reg [Mv 63 7,Bc 64 .add 63 1,Mv 7 64])))))) (.seq (Sr [Mc 9 0] (.block 8 (.loop (.seq (Sr [Mv 79 9,Fa 80 2 1,Ld 81 80,Oo 82 (.len false (t 81)),Bn 83 .lss 79 82] (Cd 83 .skip (.exit 8))) (.seq (.block 9 (Sd [Oo 86 (.load true 3 (t 1)),Fa 87 2 1,Ld 88 87,Mv 89 9,Oo 90 (.ia 2 (t 88) (t 89)),Fa 91 0 90,Ld 92 91,Cl 93 57 [(t 86),(t 92)],Bc 94 .lss 93 0] (Cd 94 (Sr [Mc 2 5] .ret) .skip))) (.reg [Mv 84 9,Bc 85 .add 84 1,Mv 9 85])))))) (.seq (Sr [Mc 10 0] (.block 10 (.loop (.seq (Sr [Mv 95 10,Fa 96 1 1,Ld 97 96,Oo 98 (.len false (t 97)),Bn 99 .lss 95 98] (Cd 99 .skip (.exit 10))) (.seq (.block 11 (Sr [Mc 11 0] (.block 12 (.loop (.seq (Sr [Mv 102 11,Fa 103 1 1,Ld 104 103,Mv 105 10,Oo 106 (.ia 2 (t 104) (t 105)),Fa 107 1 106,Ld 108 107,Oo 109 (.len false (t 108)),Bn 110 .lss 102 109] (Cd 110 .skip (.exit 12))) (.seq (.block 13 (Sr [Fa 113 1 1,Ld 114 113,Mv 115 10,Oo 116 (.ia 2 (t 114) (t 115)),Fa 117 1 116,Ld 118 117,Mv 119 11,Oo 120 (.ia 10 (t 118) (t 119)),Fa 121 1 120,Ld 122 121,Oo 123 (.bin .eql (t 122) (.const (.string ⟨#[]⟩))),Mv 12 123] (.seq (Sr [Mc 13 0] (.block 14 (.loop (.seq (Sr [Mv 124 13,Fa 125 0 1,Ld 126 125,Oo 127 (.len false (t 126)),Bn 128 .lss 124 127] (Cd 128 .skip (.exit 14))) (.seq (.block 15 (.drw [Mv 131 12,Mv 132 131,Of 133 132 (.fa 0 (t 1)),Of 134 132 (.load false 1 (t 133)),Of 135 132 (mt 13),Of 136 132 (.ia 11 (t 134) (t 135)),Of 137 132 (.fa 0 (t 136)),Of 138 132 (.load false 1 (t 137)),Of 139 132 (.fa 1 (t 1)),Of 140 132 (.load false 1 (t 139)),Of 141 132 (mt 10),Of 142 132 (.ia 2 (t 140) (t 141)),Of 143 132 (.fa 1 (t 142)),Of 144 132 (.load false 1 (t 143)),Of 145 132 (mt 11),Of 146 132 (.ia 10 (t 144) (t 145)),Of 147 132 (.fa 1 (t 146)),Of 148 132 (.load false 1 (t 147)),Of 149 132 (.bin .eql (t 138) (t 148)),Oo 150 (.pick (t 132) (.const (.bool true)) (t 149)),Mv 12 150] [] [])) (.reg [Mv 129 13,Bc 130 .add 129 1,Mv 13 130])))))) (Sr [Mv 151 12,Oo 152 (.un .not (t 151))] (Cd 152 (Sr [Mc 2 5] .ret) .skip))))) (.reg [Mv 111 11,Bc 112 .add 111 1,Mv 11 112]))))))) (.reg [Mv 100 10,Bc 101 .add 100 1,Mv 10 101])))))) (.seq (Sr [Mc 14 0] (.block 16 (.loop (.seq (Sr [Mv 153 14,Fa 154 1 1,Ld 155 154,Oo 156 (.len false (t 155)),Bn 157 .lss 153 156] (Cd 157 .skip (.exit 16))) (.seq (.block 17 (Sr [Mc 15 0] (.block 18 (.loop (.seq (Sr [Mv 160 15,Fa 161 1 1,Ld 162 161,Mv 163 14,Oo 164 (.ia 2 (t 162) (t 163)),Fa 165 1 164,Ld 166 165,Oo 167 (.len false (t 166)),Bn 168 .lss 160 167] (Cd 168 .skip (.exit 18))) (.seq (.block 19 (Sr [Fa 171 1 1,Ld 172 171,Mv 173 14,Oo 174 (.ia 2 (t 172) (t 173)),Fa 175 1 174,Ld 176 175,Mv 177 15,Oo 178 (.ia 10 (t 176) (t 177)),Oo 179 (.load true 10 (t 178)),Oo 16 (.new 144 10 [(iv 0),Ss,(iv 0),Ss,(.v (.bool false)),(iv 0),(iv 0),(iv 0),(iv 0),(iv 0)]),⟨none,none,(.store 10 (t 16) (t 179))⟩] (.seq (Sr [Fa 180 1 16,Ld 181 180,Oo 182 (.bin .eql (t 181) (.const (.string ⟨#[]⟩)))] (Cd 182 (.exit 19) .skip)) (Sr [Fa 184 0 1,Ld 185 184,Fa 186 1 16,Ld 187 186,Fa 188 0 16,Ld 189 188,Cl 190 109 [(t 185),(t 187),(t 189)],Mv 183 190,Ex 191 183 0,Ex 192 183 1,Mv 17 191,Mv 18 192] (Sr [Mv 193 18,Bc 194 .neq 193 0] (Cd 194 (Sr [Mv 195 18,Mv 2 195] .ret) .skip)))))) (.reg [Mv 169 15,Bc 170 .add 169 1,Mv 15 170]))))))) (.reg [Mv 158 14,Bc 159 .add 158 1,Mv 14 159])))))) (.seq (Sr [Mc 19 0] (.block 20 (.loop (.seq (Sr [Mv 196 19,Fa 197 1 1,Ld 198 197,Oo 199 (.len false (t 198)),Bn 200 .lss 196 199] (Cd 200 .skip (.exit 20))) (.seq (.block 21 (Sr [Fa 203 1 1,Ld 204 203,Mv 205 19,Oo 206 (.ia 2 (t 204) (t 205)),Oo 207 (.load true 2 (t 206)),Cl 208 110 [(t 207)],Mv 20 208] (Sr [Mc 21 1] (.block 22 (.loop (.seq (Sr [Mv 209 21,Mv 210 20,Oo 211 (.len false (t 210)),Bn 212 .lss 209 211] (Cd 212 .skip (.exit 22))) (.seq (.block 23 (Sd [Mv 215 20,Mv 216 21,Oo 217 (.ia 1 (t 215) (t 216)),Ld 218 217,Mv 219 20,Mv 220 21,Bc 221 .sub 220 1,Oo 222 (.ia 1 (t 219) (t 221)),Ld 223 222,Bn 224 .leq 218 223] (Cd 224 (Sr [Mc 2 4] .ret) .skip))) (.reg [Mv 213 21,Bc 214 .add 213 1,Mv 21 214])))))))) (.reg [Mv 201 19,Bc 202 .add 201 1,Mv 19 202])))))) (Sr [Mc 2 0] .ret))))))))))))
theorem k54:ZaA Tryz.prog 54=some ⟨c54,[(.tmp 2)],225⟩:=by kernel_rfl
theorem Zp8 {l:List ByteArray}{i:Nat}(hi:i<l.length) (h:(l.take i).Nodup) (hn : ∀ m (hm:m<l.length),m<i→l[m]≠l[i]):(l.take (i+1)).Nodup:=by
 rw[List.take_succ_eq_append_getElem hi,List.nodup_append]
 refine⟨h,by simp,fun x hx y hy=>?_⟩
 simp only[List.mem_singleton] at hy
 subst hy
 obtain⟨m,hm,rfl⟩:=List.getElem_of_mem hx
 rw[List.length_take] at hm
 rw[List.getElem_take]
 exact hn m om om
theorem Zs2 {l:List ByteArray}{i j:Nat}(hi:i<l.length) (hj:j<i) (h:l[i]=l[j]'(by omega)):¬l.Nodup:=fun hn=>List.pairwise_iff_getElem.1 hn j i om hi hj h.symm
theorem Zns {p:Era→Int}{l m r:List Era}{x:Era}(hl : ∀ y∈l,p y=0) (hm : ∀ y∈m,p y=0) (hx:p x≠0):ZaT p (l++(m++x::r))=p x:=by
 rw[Zfu,ZlZ (p:=fun x=>decide (p x≠0)) (fun y hy=>by simp[hl y hy]) (fun y hy=>by simp[hm y hy]) (by simp[hx])]
theorem Zid {p:Era→Int}{l:List Era}(h : ∀ y∈l,p y=0):ZaT p l=0:=by
 rw[Zfu,List.find?_eq_none.2 (fun y hy=>by simp[h y hy])]
theorem ZsF {a:List Rul}{z:List Zon}{k:List Lnk}{h:AH}(hok:Zkw (a,z,k)):Ac 54 [.agg (srcB a z k)] h (iv (Zbw (a,z,k))):=by
 refine tI' k54 fun N hn hlt _ hbd=>?_
 simp only[tb'] at hbd ⊢
 refine wr'<|E' (ZaU cv rfl hl0 ha0) pt<|mw<|Zak<|?_
 refine ZaS (ALe.icePtr gx gt1 (by simp) pt1 hs0) ?_
 refine wr'<|Vw (Zav lk Zme rfl)<|Zac mp (ZsG hok) pt<|ms<|Zab<|wm<|Vw (Za0 lk lki)<|sn'<|?_
 refine cd' lk (fun hc1=>?_) (fun hc1=>?_)
 ·have hZ:Zbw (a,z,k)=ZbW (a,z,k):=if_pos hc1
  refine wm<|mr<|Zaf<|Zad rz<|rT'<|?_
  rw[hZ]
 have hc:ZbW (a,z,k)=0:=Decidable.of_not_not hc1
 obtain⟨q1,q2,q3,q4,q5,q6,q7⟩:=ZcS hc
 simp only at q1 q2 q3 q4 q5 q6 q7
 have hZ:Zbw (a,z,k)=if ¬(ZbP z k).Nodup then 6 else if Zem (a,z,k)=true then 5 else if ZaT (errX a) (Zcr z)≠0 then ZaT (errX a) (Zcr z) else if (z.any fun z=>!risL (ZaI z.2))=true then 4 else 0:=by unfold Zbw;rw[if_neg (by rw[hc];simp)]
 have hokR:=Zkx hok
 have hnl:=ZeS z k
 refine za<|wr'<|mv' lkn pt4<|Zak<|ZaS (ALe.own0' (st':=1) (ty:=9) gt4 hl1 pt4 ha1)<|Zab<|wr'<|mv' lki pt5<|sn'<|Zae<|?_
 refine w_lp (ι:=Nat) (fun (i:Nat)=>[(4,.own (N+1) i i),(5,iv (i:Int))]++rn' 27 16) (fun (i:Nat)=>[(1,.mk i 9 1 (rows strC ((z.map (·.1)).take i)))]) (fun (i:Nat)=>i≤z.length) (fun (i:Nat)=>z.length-i) (0) (by exact Nat.zero_le _) ?_
 rintro i hi1
 try simp only[sm',Nat.reduceAdd]
 replace hi1:i≤z.length:=hi1
 have htl:((z.map (·.1)).take i).length=i:=by rw[List.length_take,List.length_map];omega
 refine Zab<|wm<|Vw (ZaR lk dp1)<|Vw (Zar lk gt)<|Vw (ZaB lk)<|Vw (ZaL lk lk)<|sn'<|?_
 refine cd' lk (fun hc2=>?_) (fun hc2=>?_)
 ·have hi:i<z.length:=by omega
  have htk:(z.map (·.1)).take (i+1)=(z.map (·.1)).take i++[z[i].1]:=by rw[List.take_succ_eq_append_getElem (by simpa using hi)];simp
  refine za<|Zab<|Zae<|Zap<|mw<|Vw (ZaR lk dp1)<|Vw (Zar lk gt)<|mw<|?_
  refine V' (ZaF lk lk Zbm nb ro om ro rfl) pt ?_
  refine Vw (ZaR lk dp0)<|Vw (Zar lk gt)<|E' (Zci (Zgg cv rfl) hl2 ha2) pt<|?_
  refine E' (Zbz (Zbh lk (hga hn rfl) rfl Zmf nb) lk (hga hn rfl) ((Zcy _).trans (by rw[htl])) om rfl hs1) pt ?_
  refine mw<|Zak<|Zau<|Zal<|Zap<|mw<|?_
  refine ad<|mw<|Zak<|Zax<|?_
  refine lU' (i+1) (by (try dsimp only);omega) (by refine zz ?_;exact bk' 2 hn hlt (by rw[htk,ZaG,Zgv];rfl))
 have hie:i=z.length:=by omega
 subst hie
 rw[show (z.map (·.1)).take z.length=z.map (·.1) from List.take_of_length_le (by simp)]
 refine Zaw<|Zaq<|Zaq<|ZaH<|Zal<|Zab<|wk'<|Zae<|?_
 refine Zde (ι:=Nat) (fun (j:Nat)=>[(4,.own (N+1) (z.length+j) (z.length+j)),(6,iv (j:Int))]++rn' 43 16) (fun (j:Nat)=>[(1,.mk (z.length+j) 9 1 (rows strC (z.map (·.1)++(k.map (·.2)).take j)))]) (fun (j:Nat)=>j≤k.length) (fun (j:Nat)=>k.length-j) (0) (by exact Nat.zero_le _) (by try simp only[sm',Nat.reduceAdd];exact ALe.same wA' (by rw[List.take_zero,List.append_nil];rfl)) ?_
 rintro j hi2
 try simp only[sm',Nat.reduceAdd]
 replace hi2:j≤k.length:=hi2
 have htl2:(z.map (·.1)++(k.map (·.2)).take j).length=z.length+j:=by rw[List.length_append,List.length_map,List.length_take,List.length_map];omega
 refine Zab<|wm<|Vw (ZaR lk dp2)<|Vw (Zar lk gt)<|Vw (ZaB lk)<|Vw (ZaL lk lk)<|sn'<|?_
 refine cd' lk (fun hc3=>?_) (fun hc3=>?_)
 ·have hj:j<k.length:=by omega
  have htk2:(k.map (·.2)).take (j+1)=(k.map (·.2)).take j++[k[j].2]:=by rw[List.take_succ_eq_append_getElem (by simpa using hj)];simp
  refine za<|Zab<|Zae<|Zap<|mw<|Vw (ZaR lk dp2)<|Vw (Zar lk gt)<|mw<|?_
  refine V' (ZaF lk lk Za9 nb ro om ro rfl) pt ?_
  refine Vw (ZaR lk dp1)<|Vw (Zar lk gt)<|E' (Zci (Zgf cv rfl) hl2 ha2) pt<|?_
  refine E' (Zbz (Zbh lk (hga hn rfl) rfl Zmf nb) lk (hga hn rfl) ((Zcy _).trans (by rw[htl2])) om rfl hs1) pt ?_
  refine mw<|Zak<|Zau<|Zal<|Zap<|mw<|?_
  refine ad<|mw<|Zak<|Zax<|?_
  refine lU' (j+1) (by (try dsimp only);omega) (by refine zz ?_;exact bk' 2 hn hlt (by simp only[htk2,ZaG,Zgv,List.append_assoc];rfl))
 have hje:j=k.length:=by omega
 subst hje
 rw[show (k.map (·.2)).take k.length=k.map (·.2) from List.take_of_length_le (by simp),show z.map (·.1)++k.map (·.2)=ZbP z k from rfl,←hnl]
 refine Zaw<|Zaq<|Zaq<|ZaH<|Zal<|Zab<|wk'<|Zae<|?_
 refine w_lp (ι:=Nat) (fun (i3:Nat)=>[(7,iv (i3:Int)),(2,.any),(8,.any)]++rn' 59 20) (fun (i3:Nat)=>[]) (fun (i3:Nat)=>i3≤(ZbP z k).length∧((ZbP z k).take i3).Nodup) (fun (i3:Nat)=>(ZbP z k).length-i3) (0) (by exact⟨Nat.zero_le _,by simp⟩) ?_
 rintro i3 hi3
 try simp only[sm',Nat.reduceAdd]
 obtain⟨hn3,hd3⟩:=hi3
 refine Zab<|wm<|mw<|Vw (ZbK lk)<|Vw (ZaL lk lk)<|sn'<|?_
 refine cd' lk (fun hc4=>?_) (fun hc4=>?_)
 ·have hi3':i3<(ZbP z k).length:=by omega
  refine za<|Zab<|Zae<|wk'<|Zae<|?_
  refine w_lp (ι:=Nat) (fun (j4:Nat)=>[(8,iv (j4:Int)),(2,.any)]++rn' 65 14) (fun (j4:Nat)=>[]) (fun (j4:Nat)=>j4≤i3 ∧ ∀ m (hm:m<(ZbP z k).length),m<j4→(ZbP z k)[m]≠(ZbP z k)[i3]) (fun (j4:Nat)=>i3-j4) (0) (by exact⟨Nat.zero_le _,fun m _ h=>by omega⟩) ?_
  rintro j4 hi4
  try simp only[sm',Nat.reduceAdd]
  obtain⟨hn4,hd4⟩:=hi4
  refine Zab<|wm<|mw<|Vw (ZaL lk lk)<|sn'<|?_
  refine cd' lk (fun hc5=>?_) (fun hc5=>?_)
  ·have hj4:j4<i3:=by omega
   refine za<|Zab<|Zae<|Zab<|ZaJ<|Dw vm<|Dw vm<|?_
   refine D' (ZaP lk lk gx ZbL nb ro om (by first | rfl | (simp;done) | omega)) pt ?_
   refine D' (Zcb lk gx ZbL om rfl) pt ?_
   refine Dw vm<|Dw vm<|?_
   refine D' (ZaP lk lk gx ZbL nb ro om (by first | rfl | (simp;done) | omega)) pt ?_
   refine D' (Zcb lk gx ZbL om rfl) pt ?_
   refine D' ((by first | exact Za6 lk lk | exact Zc3 lk lk)) pt ?_
   refine ZaM ?_
   refine ZaX ?_
   refine sn' ?_
   refine cd' lk (fun hc6=>?_) (fun hc6=>?_)
   ·have hnd:=Zs2 hi3' hj4 hc6
    refine wo<|Zao<|Zaf<|Zaf<|Zao<|Zao<|Zaf<|Zaf<|Zao<|?_
    refine Zaf<|Zad rz<|rT'<|?_
    rw[hZ,if_pos hnd]
   refine Zay<|Zau<|Zal<|Zap<|mw<|?_
   refine ad<|mw<|Zak<|Zax<|?_
   refine lT' (j4+1) (by (try dsimp only);refine⟨by omega,fun m hm h=>?_⟩;by_cases e:m=j4;(subst e;exact fun e=>hc6 e.symm);exact hd4 m hm om)
  have hje4:j4=i3:=by omega
  refine Zaw<|Zaq<|Zaq<|ZaH<|Zau<|Zal<|Zap<|mw<|?_
  refine ad<|mw<|Zak<|Zax<|?_
  refine lT' (i3+1) (by (try dsimp only);exact⟨by omega,Zp8 hi3' hd3 fun m hm h=>hd4 m hm om⟩)
 have hND:(ZbP z k).Nodup:=by rwa [List.take_of_length_le om] at hd3
 rw[if_neg (by simpa using hND)] at hZ
 refine Zaw<|Zaq<|Zaq<|ZaH<|Zal<|Zab<|wk'<|Zae<|?_
 refine w_lp (ι:=Nat) (fun (i5:Nat)=>[(9,iv (i5:Int)),(2,.any)]++rn' 79 16) (fun (i5:Nat)=>[]) (fun (i5:Nat)=>i5≤k.length ∧ ∀ m (hm:m<k.length),m<i5→¬Zdk z k[m].1<0) (fun (i5:Nat)=>k.length-i5) (0) (by exact⟨Nat.zero_le _,fun m _ h=>by omega⟩) ?_
 rintro i5 hi5
 try simp only[sm',Nat.reduceAdd]
 obtain⟨hn5,hd5⟩:=hi5
 refine Zab<|wm<|Vw (ZaR lk dp2)<|Vw (Zar lk gt)<|Vw (ZaB lk)<|Vw (ZaL lk lk)<|sn'<|?_
 refine cd' lk (fun hc7=>?_) (fun hc7=>?_)
 ·have hi5':i5<k.length:=by omega
  refine za<|Zab<|Zae<|Zab<|ZaJ<|Dw (Zav lk Zme rfl)<|Dw (ZaR lk dp2)<|Dw (Zar lk gt)<|Dw vm<|?_
  refine D' (ZaF lk lk Za9 nb ro om ro rfl) pt ?_
  refine Dw (ZaR lk dp0)<|Dw (Zar lk gt)<|?_
  refine ZaD mp (fun hE hX=>Zlo om) pt ?_
  refine Dw (ZaL lk lki)<|ZaM<|?_
  refine ZaX ?_
  refine sn' ?_
  refine cd' lk (fun hc8=>?_) (fun hc8=>?_)
  ·have hM:Zem (a,z,k)=true:=by unfold Zem;rw[Bool.or_eq_true];exact .inl (List.any_eq_true.2 ⟨_,List.getElem_mem hi5',decide_eq_true hc8⟩)
   refine wo<|Zao<|Zaf<|Zaf<|Zao<|Zaf<|Zad rz<|rT'<|?_
   rw[hZ,if_pos hM]
  refine Zay<|Zau<|Zal<|Zap<|mw<|?_
  refine ad<|mw<|Zak<|Zax<|?_
  refine lT' (i5+1) (by (try dsimp only);refine⟨by omega,fun m hm h=>?_⟩;by_cases e:m=i5;(subst e;exact hc8);exact hd5 m hm om)
 have hLk:(k.any fun l=>decide (Zdk z l.1<0))=false:=List.any_eq_false.2 fun x hx=>by obtain⟨m,hm,rfl⟩:=List.getElem_of_mem hx;simpa using hd5 m hm om
 have hMis:Zem (a,z,k)=(Zcr z).any (misP a):=by unfold Zem;rw[hLk,Bool.false_or]
 refine Zaw<|Zaq<|Zaq<|ZaH<|Zal<|Zab<|wk'<|Zae<|?_
 refine w_lp (ι:=Nat) (fun (i6:Nat)=>[(10,iv (i6:Int)),(2,.any)]++rn' 11 3++rn' 95 58) (fun (i6:Nat)=>[]) (fun (i6:Nat)=>i6≤z.length ∧ ∀ x∈Zcr (z.take i6),misP a x=false) (fun (i6:Nat)=>z.length-i6) (0) (by exact⟨Nat.zero_le _,fun x hx=>by cases hx⟩) ?_
 rintro i6 hi6
 try simp only[sm',Nat.reduceAdd]
 obtain⟨hn6,hd6⟩:=hi6
 refine Zab<|wm<|Vw (ZaR lk dp1)<|Vw (Zar lk gt)<|Vw (ZaB lk)<|Vw (ZaL lk lk)<|sn'<|?_
 refine cd' lk (fun hc9=>?_) (fun hc9=>?_)
 ·have hi6':i6<z.length:=by omega
  have hz3:=q4 _ (List.getElem_mem hi6')
  refine za<|Zab<|Zae<|wk'<|Zae<|?_
  refine w_lp (ι:=Nat) (fun (j7:Nat)=>[(11,iv (j7:Int)),(2,.any),(12,.any),(13,.any)]++rn' 102 51) (fun (j7:Nat)=>[]) (fun (j7:Nat)=>j7≤z[i6].2.length ∧ ∀ x∈z[i6].2.take j7,misP a x=false) (fun (j7:Nat)=>z[i6].2.length-j7) (0) (by exact⟨Nat.zero_le _,fun x hx=>by cases hx⟩) ?_
  rintro j7 hi7
  try simp only[sm',Nat.reduceAdd]
  obtain⟨hn7,hd7⟩:=hi7
  refine Zab<|wm<|Vw (ZaR lk dp1)<|Vw (Zar lk gt)<|mw<|?_
  refine V' (ZaF lk lk Zbm nb ro om ro rfl) pt ?_
  refine Vw (ZaR lk dp1)<|Vw (Zar lk gt)<|?_
  refine V' ((by first | exact ZaB lk | exact ZbK lk)) pt ?_
  refine Vw (ZaL lk lk)<|sn'<|?_
  refine cd' lk (fun hc10=>?_) (fun hc10=>?_)
  ·have hj7:j7<z[i6].2.length:=by omega
   refine za<|Zab<|Zae<|wr'<|Vw (ZaR lk dp1)<|Vw (Zar lk gt)<|mw<|?_
   refine V' (ZaF lk lk Zbm nb ro om ro rfl) pt ?_
   refine Vw (ZaR lk dp1)<|Vw (Zar lk gt)<|mw<|?_
   refine V' (ZaF lk lk Zb9 nb ro om ro rfl) pt ?_
   refine Vw (ZaR lk dp1)<|Vw (Zar lk gt)<|Vw (Zc3 lk lks)<|ms<|Zab<|wk'<|Zae<|?_
   refine Zde (ι:=Nat) (fun (n8:Nat)=>[(12,bv (decide (xRl z[i6].2[j7]=⟨#[]⟩)||(a.take n8).any fun r=>decide (r.1=xRl z[i6].2[j7]))),(13,iv (n8:Int))]++rn' 124 27) (fun (n8:Nat)=>[]) (fun (n8:Nat)=>n8≤a.length) (fun (n8:Nat)=>a.length-n8) (0) (by exact Nat.zero_le _) (by try simp only[sm',Nat.reduceAdd];exact ALe.same (by repeat (first | exact wk0 | refine wka ?_ | refine wk1 rfl ?_ | refine wk1 (by first | rfl | (rw[List.take_zero];simp)) ?_)) rfl) ?_
   rintro n8 hi8
   try simp only[sm',Nat.reduceAdd]
   replace hi8:n8≤a.length:=hi8
   refine Zab<|wm<|Vw (ZaR lk dp0)<|Vw (Zar lk gt)<|Vw (ZaB lk)<|Vw (ZaL lk lk)<|sn'<|?_
   refine cd' lk (fun hc11=>?_) (fun hc11=>?_)
   ·have hi8':n8<a.length:=by omega
    have hak:(a.take (n8+1)).any (fun r=>decide (r.1=xRl z[i6].2[j7]))=((a.take n8).any (fun r=>decide (r.1=xRl z[i6].2[j7]))||decide (a[n8].1=xRl z[i6].2[j7])):=by rw[List.take_succ_eq_append_getElem hi8',List.any_append];simp
    refine za<|Zab<|Zae<|ZaJ<|Dw vm<|Dw vm<|?_
    refine dq' (t:=132) gt pt pt (fun hg132=>?_) (fun hg132=>?_)
    ·refine dn<|dn<|dn<|dn<|dn<|dn<|dn<|dn<|dn<|dn<|dn<|dn<|dn<|dn<|?_
     refine dn<|dn<|dn<|Dw (Zai lk lkb)<|Dw vm<|ZaM<|?_
     refine ZaX ?_
     refine Zak<|Zau<|Zal<|Zap<|mw<|?_
     refine ad<|mw<|Zak<|Zax<|?_
     refine lU' (n8+1) (by (try dsimp only);omega) (by refine zz ?_;exact ALe.same (by repeat (first | exact wk0 | refine wka ?_ | refine wk1 rfl ?_ | refine wk1 (by first | rfl | exact ivx om | (rw[hak,←Bool.or_assoc,hg132];rfl)) ?_)) rfl)
    refine dO<|Dw (ZaR lk dp0)<|dO<|Dw (Zar lk gt)<|dO<|Dw vm<|dO<|?_
    refine D' (ZaF lk lk Zb8 nb ro om ro rfl) pt ?_
    refine dO<|Dw (ZaR lk dp0)<|dO<|Dw (Zar lk gt)<|dO<|Dw (ZaR lk dp1)<|dO<|Dw (Zar lk gt)<|dO<|Dw vm<|dO<|?_
    refine D' (ZaF lk lk Zbm nb ro om ro rfl) pt ?_
    refine dO<|Dw (ZaR lk dp1)<|dO<|Dw (Zar lk gt)<|dO<|Dw vm<|dO<|?_
    refine D' (ZaF lk lk Zb9 nb ro om ro rfl) pt ?_
    refine dO<|Dw (ZaR lk dp1)<|dO<|Dw (Zar lk gt)<|dO<|?_
    refine D' ((by first | exact Za6 lk lk | exact Zc3 lk lk)) pt ?_
    refine Dw (Zah lk lk)<|Dw vm<|ZaM<|?_
    refine ZaX ?_
    refine Zak<|Zau<|Zal<|Zap<|mw<|?_
    refine ad<|mw<|Zak<|Zax<|?_
    refine lU' (n8+1) (by (try dsimp only);omega) (by refine zz ?_;exact ALe.same (by repeat (first | exact wk0 | refine wka ?_ | refine wk1 rfl ?_ | refine wk1 (by first | rfl | exact ivx om | (rw[hak,←Bool.or_assoc,hg132];rfl)) ?_)) rfl)
   rw[List.take_of_length_le (show a.length≤n8 by omega)]
   obtain⟨rr,hrr⟩:=Zfv hi6' hj7
   refine Zaw<|Zaq<|Zaq<|ZaH<|Zal<|wm<|?_
   refine V' ((by first | exact v_not lk | exact Zaz lk)) pt ?_
   refine sn' ?_
   refine cd' lk (fun hc12=>?_) (fun hc12=>?_)
   ·have hmp:misP a z[i6].2[j7]=true:=by have:=hc12;rw[Bool.not_eq_true',Bool.or_eq_false_iff] at this;unfold misP;rw[Bool.and_eq_true];exact⟨decide_eq_true (of_decide_eq_false this.1),by rw[this.2];rfl⟩
    have hM:Zem (a,z,k)=true:=by rw[hMis,hrr];exact List.any_eq_true.2 ⟨_,by simp,hmp⟩
    refine wo<|Zao<|Zaf<|Zaf<|Zao<|Zao<|Zaf<|Zaf<|Zao<|?_
    refine Zaf<|Zad rz<|rT'<|?_
    rw[hZ,if_pos hM]
   have hmp:misP a z[i6].2[j7]=false:=by have:=hc12;rw[Bool.not_eq_false',Bool.or_eq_true] at this;unfold misP;rw[Bool.and_eq_false_iff];rcases this with h | h;exact .inl (decide_eq_false (fun e=>e (of_decide_eq_true h)));exact .inr (by rw[h];rfl)
   refine Zay<|Zau<|Zal<|Zap<|mw<|?_
   refine ad<|mw<|Zak<|Zax<|?_
   refine lT' (j7+1) (by (try dsimp only);refine⟨by omega,fun x hx=>?_⟩;rw[List.take_succ_eq_append_getElem hj7] at hx;rcases List.mem_append.1 hx with hx | hx;exact hd7 x hx;simp only[List.mem_singleton] at hx;subst hx;exact hmp)
  rw[List.take_of_length_le om] at hd7
  refine Zaw<|Zaq<|Zaq<|ZaH<|Zau<|Zal<|Zap<|mw<|?_
  refine ad<|mw<|Zak<|Zax<|?_
  refine lT' (i6+1) (by (try dsimp only);refine⟨by omega,fun x hx=>?_⟩;rw[ZgI hi6'] at hx;rcases List.mem_append.1 hx with hx | hx;exact hd6 x hx;exact hd7 x hx)
 rw[List.take_of_length_le om] at hd6
 have hM:Zem (a,z,k)=false:=by rw[hMis];exact List.any_eq_false.2 fun x hx=>by rw[hd6 x hx];simp
 rw[if_neg (by rw[hM];simp)] at hZ
 refine Zaw<|Zaq<|Zaq<|ZaH<|Zal<|Zab<|wk'<|Zae<|?_
 refine w_lp (ι:=Nat) (fun (i9:Nat)=>[(14,iv (i9:Int)),(2,.any)]++rn' 15 4++rn' 153 43) (fun (i9:Nat)=>[]) (fun (i9:Nat)=>i9≤z.length ∧ ∀ x∈Zcr (z.take i9),errX a x=0) (fun (i9:Nat)=>z.length-i9) (0) (by exact⟨Nat.zero_le _,fun x hx=>by cases hx⟩) ?_
 rintro i9 hi9
 try simp only[sm',Nat.reduceAdd]
 obtain⟨hn9,hd9⟩:=hi9
 refine Zab<|wm<|Vw (ZaR lk dp1)<|Vw (Zar lk gt)<|Vw (ZaB lk)<|Vw (ZaL lk lk)<|sn'<|?_
 refine cd' lk (fun hc13=>?_) (fun hc13=>?_)
 ·have hi9':i9<z.length:=by omega
  have hz9:=q4 _ (List.getElem_mem hi9')
  refine za<|Zab<|Zae<|wk'<|Zae<|?_
  refine w_lp (ι:=Nat) (fun (jx:Nat)=>[(15,iv (jx:Int)),(2,.any)]++rn' 16 3++rn' 160 36) (fun (jx:Nat)=>[]) (fun (jx:Nat)=>jx≤z[i9].2.length ∧ ∀ x∈z[i9].2.take jx,errX a x=0) (fun (jx:Nat)=>z[i9].2.length-jx) (0) (by exact⟨Nat.zero_le _,fun x hx=>by cases hx⟩) ?_
  rintro jx hi10
  try simp only[sm',Nat.reduceAdd]
  obtain⟨hnx,hdx⟩:=hi10
  refine Zab<|wm<|Vw (ZaR lk dp1)<|Vw (Zar lk gt)<|mw<|?_
  refine V' (ZaF lk lk Zbm nb ro om ro rfl) pt ?_
  refine Vw (ZaR lk dp1)<|Vw (Zar lk gt)<|?_
  refine V' ((by first | exact ZaB lk | exact ZbK lk)) pt ?_
  refine Vw (ZaL lk lk)<|sn'<|?_
  refine cd' lk (fun hc14=>?_) (fun hc14=>?_)
  ·have hjx:jx<z[i9].2.length:=by omega
   obtain⟨rx,hrx⟩:=Zfv hi9' hjx
   refine za<|Zab<|Zae<|wr'<|Vw (ZaR lk dp1)<|Vw (Zar lk gt)<|mw<|?_
   refine V' (ZaF lk lk Zbm nb ro om ro rfl) pt ?_
   refine Vw (ZaR lk dp1)<|Vw (Zar lk gt)<|mw<|?_
   refine V' (ZaF lk lk Zb9 nb ro om ro rfl) pt ?_
   refine Vw (Zav lk Zqx rfl)<|E' (Za3 hl2 ha2) pt<|E' (Zam lk cv gx rfl nb rfl ZnT hs2) ptn<|sn'<|Zab<|wr'<|fq<|Vw (Zaa lk gx gt1)<|Vw (Zc3 lk lks)<|sn'<|?_
   refine cd' lk (fun hc15=>?_) (fun hc15=>?_)
   ·have hP:errX a z[i9].2[jx]=0:=if_pos hc15
    refine Zaw<|Zaq<|ZaH<|Zal<|Zap<|mw<|?_
    refine ad<|mw<|Zak<|Zax<|?_
    refine lU' (jx+1) (by (try dsimp only);refine⟨by omega,fun x hx=>?_⟩;rw[List.take_succ_eq_append_getElem hjx] at hx;rcases List.mem_append.1 hx with hx | hx;exact hdx x hx;simp only[List.mem_singleton] at hx;subst hx;exact hP) (by refine zz ?_;exact bk' 2 hn hlt)
   have hP0:errX a z[i9].2[jx]=(Za2 a z[i9].2[jx].2.1 z[i9].2[jx].1).2:=if_neg hc15
   refine za<|wr'<|Vw (ZaR lk dp0)<|Vw (Zar lk gt)<|fq<|Vw (Zaa lk gx gt1)<|fq<|Vw (Zaa lk gx gt0)<|?_
   refine Zac mp (ZoK hokR om) pt ?_
   refine mw<|Vw (ZaW lk gt)<|Vw (ZaW lk gt)<|mw<|ms<|wm<|Vw (Za0 lk lki)<|sn'<|?_
   refine cd' lk (fun hc16=>?_) (fun hc16=>?_)
   ·have hF:ZaT (errX a) (Zcr z)=(Za2 a z[i9].2[jx].2.1 z[i9].2[jx].1).2:=by rw[hrx,Zns hd9 hdx (by rw[hP0];exact hc16),hP0]
    refine wm<|mr<|Zao<|Zaf<|Zaf<|Zao<|Zao<|Zaf<|Zaf<|?_
    refine Zao<|Zaf<|Zad rz<|rT'<|?_
    rw[hZ,hF,if_pos hc16]
   have hP:errX a z[i9].2[jx]=0:=by rw[hP0];exact Decidable.of_not_not hc16
   refine Zay<|Zau<|Zal<|Zap<|mw<|?_
   refine ad<|mw<|Zak<|Zax<|?_
   refine lU' (jx+1) (by (try dsimp only);refine⟨by omega,fun x hx=>?_⟩;rw[List.take_succ_eq_append_getElem hjx] at hx;rcases List.mem_append.1 hx with hx | hx;exact hdx x hx;simp only[List.mem_singleton] at hx;subst hx;exact hP) (by refine zz ?_;exact bk' 2 hn hlt)
  rw[List.take_of_length_le om] at hdx
  refine Zaw<|Zaq<|Zaq<|ZaH<|Zau<|Zal<|Zap<|mw<|?_
  refine ad<|mw<|Zak<|Zax<|?_
  refine lT' (i9+1) (by (try dsimp only);refine⟨by omega,fun x hx=>?_⟩;rw[ZgI hi9'] at hx;rcases List.mem_append.1 hx with hx | hx;exact hd9 x hx;exact hdx x hx)
 rw[List.take_of_length_le om] at hd9
 rw[Zid hd9,if_neg (by simp)] at hZ
 refine Zaw<|Zaq<|Zaq<|ZaH<|Zal<|Zab<|wk'<|Zae<|?_
 refine w_lp (ι:=Nat) (fun (ie:Nat)=>[(19,iv (ie:Int)),(2,.any),(20,.any),(21,.any)]++rn' 196 29) (fun (ie:Nat)=>[]) (fun (ie:Nat)=>ie≤z.length ∧ ∀ y∈z.take ie,risL (ZaI y.2)=true) (fun (ie:Nat)=>z.length-ie) (0) (by exact⟨Nat.zero_le _,fun x hx=>by cases hx⟩) ?_
 rintro ie hi11
 try simp only[sm',Nat.reduceAdd]
 obtain⟨hne,hde⟩:=hi11
 refine Zab<|wm<|Vw (ZaR lk dp1)<|Vw (Zar lk gt)<|Vw (ZaB lk)<|Vw (ZaL lk lk)<|sn'<|?_
 refine cd' lk (fun hc17=>?_) (fun hc17=>?_)
 ·have hie':ie<z.length:=by omega
  have hzo:=ZdL (s:=(a,z,k)) hc (List.getElem_mem hie')
  have hel:=ZcA z[ie].2
  have hel8:=hzo.len
  refine za<|Zab<|Zae<|wr'<|Vw (ZaR lk dp1)<|Vw (Zar lk gt)<|mw<|?_
  refine V' (ZaF lk lk Zbm nb ro om ro rfl) pt ?_
  refine Vw (Zav lk Zuy rfl)<|Zac mp (Zsz hzo) pt<|ms<|wk'<|Zae<|?_
  refine w_lp (ι:=Nat) (fun (m12:Nat)=>[(21,iv ((m12:Int)+1)),(2,.any)]++rn' 209 16) (fun (m12:Nat)=>[]) (fun (m12:Nat)=>(m12+1≤(ZaI z[ie].2).length∨m12=0) ∧ ∀ i (h:i+1<(ZaI z[ie].2).length),i<m12→(ZaI z[ie].2)[i]<(ZaI z[ie].2)[i+1]) (fun (m12:Nat)=>(ZaI z[ie].2).length-m12) (0) (by exact⟨.inr rfl,fun i _ h=>by omega⟩) ?_
  rintro m12 hi12
  try simp only[sm',Nat.reduceAdd]
  obtain⟨hn12,hd12⟩:=hi12
  refine Zab<|wm<|mv' lk (ptS pt)<|V' (ZaB (lkS lk)) (ptS pt)<|V' (ZaL lk (lkS lk)) (ptS pt)<|sn'<|?_
  first | refine w_cond (lkS lk) (fun hc18=>?_) (fun hc18=>?_) | refine Zas (lkS lk) (fun hc18=>?_) (fun hc18=>?_)
  ·have hm12:m12+1<(ZaI z[ie].2).length:=by omega
   refine za<|Zab<|Zae<|Zab<|ZaJ<|D' vm (ptS pt)<|D' vm (ptS pt)<|?_
   refine D' (ZaF (k:=m12+1) (lkS lk) (lkS lk) ZaV nb ro om ro rfl) (ptS pt) ?_
   refine D' (Zar (lkS lk) gt) (ptS pt)<|D' vm (ptS pt)<|D' vm (ptS pt)<|?_
   refine D' (Zba (lkS lk) lki om om) (ptS pt) ?_
   refine D' (ZaF (k:=m12) (lkS lk) (lkS lk) ZaV nb ro om ro rfl) (ptS pt) ?_
   refine D' (Zar (lkS lk) gt) (ptS pt)<|D' (ZcP (lkS lk) (lkS lk)) (ptS pt)<|ZaM<|?_
   refine ZaX ?_
   refine sn' ?_
   first | refine w_cond (lkS lk) (fun hc19=>?_) (fun hc19=>?_) | refine Zas (lkS lk) (fun hc19=>?_) (fun hc19=>?_)
   ·have hR:risL (ZaI z[ie].2)=false:=Zjj hm12 om
    refine wo<|Zao<|Zaf<|Zaf<|Zao<|Zao<|Zaf<|Zaf<|Zao<|?_
    refine Zaf<|Zad rz<|rT'<|?_
    rw[hZ,if_pos (List.any_eq_true.2 ⟨_,List.getElem_mem hie',by rw[hR];rfl⟩)]
   refine Zay<|Zau<|Zal<|Zap<|mv' lk (ptS pt)<|?_
   refine V' (Zb5 (lkS lk) lki om om) (ptS pt) ?_
   refine Vw (v_mv (lkS lk))<|Zak<|Zax<|?_
   refine lU' (m12+1) (by (try dsimp only);exact⟨by omega,fun i hi h=>by by_cases e:i=m12;(subst e;omega);exact hd12 i hi om⟩) (by refine zz ?_;exact ALe.same (by repeat (first | exact wk0 | refine wka ?_ | refine wk1 rfl ?_ | refine wk1 (by first | rfl | exact ivx om) ?_)) rfl)
  have hR:risL (ZaI z[ie].2)=true:=ZhT fun i hi=>hd12 i hi om
  refine Zaw<|Zaq<|Zaq<|ZaH<|Zau<|Zal<|Zap<|mw<|?_
  refine ad<|mw<|Zak<|Zax<|?_
  refine lT' (ie+1) (by (try dsimp only);refine⟨by omega,fun y hy=>?_⟩;rw[List.take_succ_eq_append_getElem hie'] at hy;rcases List.mem_append.1 hy with hy | hy;exact hde y hy;simp only[List.mem_singleton] at hy;subst hy;exact hR)
 rw[List.take_of_length_le om] at hde
 refine Zaw<|Zaq<|Zaq<|ZaH<|Zal<|wo<|Zad rz<|rT'<|?_
 rw[hZ,if_neg (by simp only[List.any_eq_true,not_exists,not_and];intro y hy;rw[hde y hy];simp)]
end
section
open Go.Ab Go.RowKit Civ
def txtS:Bs:=[82,117,108,101,32,101,117,32,49,57,56,49,32,109,97,120,32,77,97,114,32,108,97,115,116,83,117,110,32,49,58,48,48,117,32,49,58,48,48,32,83,10,82,117,108,101,32,101,117,32,49,57,57,54,32,109,97,120,32,79,99,116,32,108,97,115,116,83,117,110,32,49,58,48,48,117,32,48,32,45,10,90,111,110,101,32,72,101,114,101,47,84,111,119,110,32,48,58,49,48,32,45,32,76,77,84,32,49,56,56,48,32,74,97,110,32,49,32,48,10,32,32,49,58,48,48,32,101,117,32,67,69,37,115,84,10,76,105,110,107,32,72,101,114,101,47,84,111,119,110,32,79,108,100,10]
def nEu:ByteArray:=bA [101,117]
def nHt:ByteArray:=bA [72,101,114,101,47,84,111,119,110]
def nOld:ByteArray:=bA [79,108,100]
def rul0:List Rul:=[(nEu,1981,2100,3,(2,0,0),3600,3,3600,bA [83]),(nEu,1996,2100,10,(2,0,0),3600,3,0,bA [])]
def era0:Era:=(600,bA [],0,bA [76,77,84],false,((1880,1,1),0,2))
def era1:Era:=(3600,nEu,0,bA [67,69,37,115,84],true,((0,0,0),0,0))
def src0:Src:=(rul0,[(nHt,[era0,era1])],[(nHt,nOld)])
def Zk6 (l:List Bs):AV:=.sl l.length 1 false (l.map fun b=>sv (bA b))
def splV:AV:=.tup [.sl 5 3 false [iv 1,bv false,Zk6 [[82,117,108,101],[101,117],[49,57,56,49],[109,97,120],[77,97,114],[108,97,115,116,83,117,110],[49,58,48,48,117],[49,58,48,48],[83]],iv 2,bv false,Zk6 [[82,117,108,101],[101,117],[49,57,57,54],[109,97,120],[79,99,116],[108,97,115,116,83,117,110],[49,58,48,48,117],[48],[45]],iv 3,bv false,Zk6 [[90,111,110,101],[72,101,114,101,47,84,111,119,110],[48,58,49,48],[45],[76,77,84],[49,56,56,48],[74,97,110],[49],[48]],iv 4,bv true,Zk6 [[49,58,48,48],[101,117],[67,69,37,115,84]],iv 5,bv false,Zk6 [[76,105,110,107],[72,101,114,101,47,84,111,119,110],[79,108,100]]],iv 0,iv 0]
theorem spl_ev:evF Tryz.prog noO 1000 20 146 [sv (bA txtS)] []=some (.ret splV,[]):=by kernel_rfl
theorem prs_ev:evF Tryz.prog (orc 146 [sv (bA txtS)] splV) 1000 20 85 [sv (bA txtS)] []=some (.ret (.tup [.agg (srcC src0),iv 0,iv 0]),[]):=by kernel_rfl
theorem rp_txt {h:AH}:Ac 85 [sv (bA txtS)] h (.tup [.agg (srcC src0),iv 0,iv 0]) :=
 ACalls.ev 1000 20 (orc_ok fun h=>ACalls.ev 1000 20 noO_ok spl_ev) prs_ev
end
section
open Go.Ab Go.RowKit Civ
attribute [local simp] ZbN Zcf Zb0 ZbD Zbq Zdm Zdo Zdh
section
theorem ZjF {a0 a1 a2 c0 c1 c2:AV}{l:List AV}:setCells (a0::a1::a2::l) 0 [c0,c1,c2]=c0::c1::c2::l:=rfl
theorem ZjE {a0 a1 a2:AV}{l:List AV}:((a0::a1::a2::l).drop 0).take 3=[a0,a1,a2]:=rfl
end
def c40:AC:=(Sr [Oo 0 (.new 53 3 [nl,nl,nl])] (Sr [Oo 5 (.call (.func 85) [(.const (.string ⟨#[82,117,108,101,32,101,117,32,49,57,56,49,32,109,97,120,32,77,97,114,32,108,97,115,116,83,117,110,32,49,58,48,48,117,32,49,58,48,48,32,83,10,82,117,108,101,32,101,117,32,49,57,57,54,32,109,97,120,32,79,99,116,32,108,97,115,116,83,117,110,32,49,58,48,48,117,32,48,32,45,10,90,111,110,101,32,72,101,114,101,47,84,111,119,110,32,48,58,49,48,32,45,32,76,77,84,32,49,56,56,48,32,74,97,110,32,49,32,48,10,32,32,49,58,48,48,32,101,117,32,67,69,37,115,84,10,76,105,110,107,32,72,101,114,101,47,84,111,119,110,32,79,108,100,10]⟩))]),Mv 4 5,Ex 6 4 0,Ex 7 4 1,Ex 8 4 2,Oo 1 (.new 53 3 [nl,nl,nl]),⟨none,none,(.store 3 (t 1) (t 6))⟩,Mv 2 7,Mv 3 8] (Sr [Oo 9 (.load true 3 (t 1)),⟨none,none,(.store 3 (t 0) (t 9))⟩] .ret)))
theorem k40:ZaA Tryz.prog 40=some ⟨c40,[(.cell 0 true 3)],10⟩:=by kernel_rfl
theorem Zr9:Zkw src0:=by
 refine⟨fun r hr=>?_,fun z hz=>?_,fun l hl=>?_⟩
 ·simp only[src0,rul0,List.mem_cons,List.not_mem_nil,or_false] at hr
  rcases hr with rfl | rfl <;> exact⟨by decide,by decide⟩
 ·simp only[src0,List.mem_cons,List.not_mem_nil,or_false] at hz
  subst hz
  refine⟨by decide,fun x hx=>?_⟩
  simp only[List.mem_cons,List.not_mem_nil,or_false] at hx
  rcases hx with rfl | rfl <;> exact⟨by decide,by decide⟩
 simp only[src0,List.mem_cons,List.not_mem_nil,or_false] at hl
 subst hl;exact⟨by decide,by decide⟩
theorem ZoV {h:AH}:Ac 40 [] h (.agg (srcC src0)):=by
 refine tI' k40 fun N hn _ _ hbd=>?_
 simp only[tb'] at hbd ⊢
 refine wr'<|E' (Za3 hl0 ha0) pt<|sn'<|wr'<|Zac mp (rp_txt) pt<|mw<|Vw (ZaW lk gt)<|Vw (ZaW lk gt)<|Vw (ZaW lk gt)<|E' (Za3 hl1 ha1) pt<|E' (Zam lk cv gx rfl nb rfl ZjF hs1) ptn<|?_
 exact mw<|ms<|wr'<|Vw (Zaj lk gx ZjE rfl)<|E' (Zam lk cv gx rfl nb rfl ZjF hs0) ptn<|sr<|Zad (rs1 (rr_c gt gx (ld1 ZjE rfl)))<|rT' rfl
def insT (t:Trn):List Trn→List Trn
 | []=>[t]
 | u::l=>if t.1≤u.1 then t::u::l else u::insT t l
def insS:List Trn→List Trn
 | []=>[]
 | t::l=>insT t (insS l)
theorem Zh9 (t:Trn) : ∀ l:List Trn,(insT t l).Perm (t::l)
 | []=>.refl _
 | u::l=>by
  rw[insT]
  split
  ·exact .refl _
  exact ((Zh9 t l).cons u).trans (List.Perm.swap t u l)
theorem ZlR : ∀ l:List Trn,(insS l).Perm l
 | []=>.refl _
 | t::l=>(Zh9 t _).trans ((ZlR l).cons t)
theorem Zph {t:Trn} : ∀ {l:List Trn},l.Pairwise (fun a b=>a.1≤b.1)→(insT t l).Pairwise fun a b=>a.1≤b.1
 | [],_=>by simp[insT]
 | u::l,h=>by
  rw[insT]
  rw[List.pairwise_cons] at h
  split
  ·rename_i hle
   refine List.pairwise_cons.2 ⟨fun x hx=>?_,List.pairwise_cons.2 h⟩
   rcases List.mem_cons.1 hx with rfl | hx
   ·exact hle
   have:=h.1 x hx;omega
  rename_i hle
  refine List.pairwise_cons.2 ⟨fun x hx=>?_,Zph h.2⟩
  rcases List.mem_cons.1 ((Zh9 t l).mem_iff.1 hx) with rfl | hx
  ·omega
  exact h.1 x hx
theorem Zpi : ∀ l:List Trn,(insS l).Pairwise fun a b=>a.1≤b.1
 | []=>.nil
 | t::l=>Zph (Zpi l)
def Zlc (l:List Rul) (nm:ByteArray) (sh:Int):List Tim×Int :=
 if Zc5 l nm sh≠0 then ([],Zc5 l nm sh) else if gapB (insS (Zbd l nm))=true then ([],4) else if 1000<(insS (Zbd l nm)).length then ([],2) else (outV sh 0 (insS (Zbd l nm)),0)
theorem ZrU (l:List Rul) (nm:ByteArray) (sh:Int):Za2 l nm sh=Zlc l nm sh:=by
 unfold Zlc
 by_cases h:Zc5 l nm sh=0
 ·rw[if_neg (by simp[h]),Zkd h (ZlR _) (Zpi _)]
 rw[if_pos h,ZdD h]
theorem tim0_err:(Zlc rul0 nEu 3600).2=0:=by kernel_rfl
theorem chk0:Zbw src0=0:=by
 have h1:ZbW src0=0:=by kernel_rfl
 have h2:(ZbP src0.2.1 src0.2.2).Nodup:=by decide
 have h3:Zem src0=false:=by kernel_rfl
 have h4:ZaT (errX src0.1) (Zcr src0.2.1)=0:=by
  refine Zid fun y hy=>?_
  simp only[src0,Zcr,List.flatMap_cons,List.flatMap_nil,List.append_nil,List.mem_cons,List.not_mem_nil,or_false] at hy
  rcases hy with rfl | rfl
  ·rfl
  show (if nEu=⟨#[]⟩ then 0 else (Za2 rul0 nEu 3600).2)=0
  rw[ZrU,tim0_err];split <;> rfl
 have h5:(src0.2.1.any fun z=>!risL (ZaI z.2))=false:=by kernel_rfl
 unfold Zbw
 rw[if_neg (by simp[h1]),if_neg (by simpa using h2),if_neg (by simp[h3]),if_neg (by simp[h4]),if_neg (by simp[h5])]
end
section
open Go.Ab Civ
def ZsW:List Chg:=cutV (eraG era0 tMin []) (endV era0)++eraG era1 (endV era0) (Zlc rul0 nEu 3600).1
theorem ZsV:ZaZ rul0 tMin none [era0,era1]=ZsW:=by
 have e0:ZaK rul0 era0=[]:=if_pos (by decide)
 have e1:ZaK rul0 era1=(Zlc rul0 nEu 3600).1:=by
  unfold ZaK
  rw[if_neg (by decide),ZrU];rfl
 rw[ZaZ,ZaZ,e0,e1,if_neg (by decide)]
 unfold ZsW
 rw[show ZbE none tMin=tMin from rfl,show ZbE (some (endV era0)) tMin=endV era0 from by decide]
def tab0:Tab:=stV (inP ZsW)
theorem tab0_len:tab0.2.length=211:=by kernel_rfl
theorem tab0_ok1:locE tab0.1=0:=by kernel_rfl
theorem tab0_ok2:ZbZ tab0.2=0:=by kernel_rfl
theorem table0:Zdg rul0 [era0,era1]=tab0:=by
 have:=Zlh (s:=src0) (z:=(nHt,[era0,era1])) chk0 (by simp[src0])
 have e:stV (inP (ZaZ rul0 tMin none [era0,era1]))=Zdg rul0 [era0,era1]:=this
 rw[←e,ZsV];rfl
theorem of0:ofV src0 (nHt,[era0,era1])=(tab0,0):=by
 unfold ofV
 show tabR (Zdg rul0 [era0,era1])=_
 rw[table0]
 unfold tabR
 rw[if_neg (by rw[tab0_ok1];simp),if_neg (by rw[tab0_ok2];simp),if_neg (by rw[tab0_len];decide)]
theorem chkT0:ZbV tab0=0:=by
 have h:=Zg3 (rl:=rul0) (es:=[era0,era1]) (by
  have:=congrArg Prod.snd of0
  exact this)
 rwa [table0] at h
end
section
open Go.Ab Civ
attribute [local simp] ZbN Zcf Zb0 ZbD Zdh Zdm Zbq
section
theorem ZdO {a0 a1 a2 a3:AV}{l:List AV}:((a0::a1::a2::a3::l).drop 1).take 3=[a1,a2,a3]:=rfl
theorem ZgP {a0 a1 a2 c0 c1 c2:AV}{l:List AV}:setCells (a0::a1::a2::l) 0 [c0,c1,c2]=c0::c1::c2::l:=rfl
theorem Ze3 {a0 a1 a2:AV}{l:List AV}:((a0::a1::a2::l).drop 0).take 3=[a0,a1,a2]:=rfl
theorem ZuJ {τ:Operand→AV}:Zan τ [] [(iv 0),(iv 0),(.v (.string ⟨#[]⟩)),(.sl 0 0 true [])]=some [(iv 0),(iv 0),(.v (.string ⟨#[]⟩)),(.sl 0 0 true [])]:=rfl
theorem ZqP {a0 a1:AV}{l:List AV}:((a0::a1::l).drop 0).take 2=[a0,a1]:=rfl
theorem Zmm {a0 a1 a2 a3:AV}{l:List AV}:(a0::a1::a2::a3::l).take 4=[a0,a1,a2,a3]:=rfl
theorem Zdc {a0 a1 a2 a3 c0 c1 c2 c3:AV}{l:List AV}:setCells (a0::a1::a2::a3::l) 0 [c0,c1,c2,c3]=c0::c1::c2::c3::l:=rfl
theorem ZjS {τ:Operand→AV}:Zan τ [] [(iv 0),(iv 0),(.v (.string ⟨#[]⟩)),(.sl 0 0 true [])]=some [(iv 0),(iv 0),(.v (.string ⟨#[]⟩)),(.sl 0 0 true [])]:=rfl
theorem ZcL {a0 a1 a2 a3:AV}{l:List AV}:((a0::a1::a2::a3::l).drop 0).take 4=[a0,a1,a2,a3]:=rfl
theorem ZqU {τ:Operand→AV}:Zan τ [] [(iv 0),(iv 0),(.v (.string ⟨#[]⟩)),(.sl 0 0 true [])]=some [(iv 0),(iv 0),(.v (.string ⟨#[]⟩)),(.sl 0 0 true [])]:=rfl
theorem Zn8 {a0 b0:Int}{a1 b1:Int}{a2 b2:ByteArray}:Za8 [.int,.int,.str] [iv a0,iv a1,sv a2] [iv b0,iv b1,sv b2]=some (decide (a0=b0∧a1=b1∧a2=b2)):=by
 simp only[Za8,ZcG,if_true,ZbR,Option.some.injEq]
 simp only[Bool.decide_and,Bool.and_true]
 try (congr 1 <;> simp)
 try rfl
theorem ZqT {τ:Operand→AV}{y0 y1:Operand}{x0_0 x1_0 x1_1 x1_2:AV}(h0:Zat (τ y0)=some [x0_0]) (l0:[x0_0].all leaf=true) (h1:Zat (τ y1)=some [x1_0,x1_1,x1_2]) (l1:[x1_0,x1_1,x1_2].all leaf=true):Zan τ [(0,1,y0),(1,3,y1)] [(iv 0),(iv 0),(iv 0),(.v (.string ⟨#[]⟩))]=some [x0_0,x1_0,x1_1,x1_2]:=by
 simp only[Zan,h0,l0,h1,l1]
 rfl
theorem ZqS {τ:Operand→AV}{y0:Operand}{x0_0 x0_1 x0_2 x0_3:AV}(h0:Zat (τ y0)=some [x0_0,x0_1,x0_2,x0_3]) (l0:[x0_0,x0_1,x0_2,x0_3].all leaf=true):Zan τ [(0,4,y0)] [(iv 0),(iv 0),(iv 0),(.v (.string ⟨#[]⟩))]=some [x0_0,x0_1,x0_2,x0_3]:=by
 simp only[Zan,h0,l0]
 rfl
theorem ZuI { e:Ent}:([]:AH)++[e]=[e]:=rfl
theorem ZqR {e0 e1 e2 e3 e4 e5 d0:Ent}:([e0,e1,e2,e3,e4,e5]:AH)++[d0]=[e0,e1,e2,e3,e4,e5,d0]:=rfl
theorem ZqQ {a0 a1 a2 a3 c0:AV}{l:List AV}:setCells (a0::a1::a2::a3::l) 3 [c0]=a0::a1::a2::c0::l:=rfl
end
def c53:AC:=(Sr [Oo 2 (.box 53 3 (t 0)),Oo 3 (.box 94 2 (t 1)),Oo 4 (.new 38 4 [(iv 0),(iv 0),Ss,nl]),Mc 5 0] (Sr [Oo 10 (.build [(iv 0),(iv 0),Ss,nl] []),Oo 11 (.box 158 4 (t 10)),Mv 6 11] (.seq (Sd [Oo 12 (.load true 3 (t 2)),Oo 13 (.load true 2 (t 3)),Cl 14 104 [],Cl 15 103 [(t 12),(t 13),(t 14)],Oo 16 (.len false (t 15)),Mc 17 0] (.block 0 (.loop (Sr [Bn 18 .lss 17 16] (.seq (Cd 18 .skip (.exit 0)) (.seq (.block 1 (Sr [Mv 19 17,Oo 20 (.ia 4 (t 15) (t 17)),Oo 21 (.load true 4 (t 20)),Oo 8 (.new 163 4 [(iv 0),(iv 0),(iv 0),Ss]),Mv 7 19,⟨none,none,(.store 4 (t 8) (t 21))⟩] (.seq (Sd [Fa 22 0 8,Ld 23 22,Cl 24 105 [],Bn 25 .gtr 23 24] (Cd 25 (.exit 0) .skip)) (.seq (Sr [Fa 26 1 8,Oo 27 (.load true 3 (t 26)),Cl 28 106 [(t 27)],Mv 9 28] (Sr [Mv 29 9,Bc 30 .neq 29 0] (Cd 30 (Sr [Oo 31 (.build [(iv 0),(iv 0),Ss,nl] []),Mv 32 9,⟨none,none,(.store 4 (t 4) (t 31))⟩,Mv 5 32] .ret) .skip))) (.block 2 (Sr [Mv 34 7,Bc 35 .eql 34 0,Mv 33 35] (Cd 33 (.reg [Mv 36 6,Fa 37 1 8,Oo 38 (.load true 3 (t 37)),Nk 39 36,Fa 40 0 39,Fa 41 0 40,⟨none,none,(.store 3 (t 41) (t 38))⟩]) (.seq (.orPan (.drw [Fa 43 1 8,Oo 44 (.loadR true 3 (t 43)),Mv 45 6] [true,false,false] [Cl 46 107 [(t 45)],Oo 47 (.eqs true [.int,.int,.str] (t 44) (t 46)),Mv 42 47]) (t 45) 107 [Fa 43 1 8,Oo 44 (.load true 3 (t 43)),Mv 45 6,Mv 46 45,Mb 47 false,Mb 42 false] 46) (Cd 42 (.drw [Mv 48 6,Mv 49 6,Nk 50 49,Fa 51 0 50,Fa 52 3 51,Ld 53 52,Fa 54 0 8,Ld 55 54,Fa 56 1 8,Oo 57 (.load true 3 (t 56)),Oo 58 (.build [(iv 0),(iv 0),(iv 0),Ss] [(0,(1,(t 55))),(1,(3,(t 57)))]),Oo 59 (.lit 89 4 1 [(iv 0),(iv 0),(iv 0),Ss] [(0,(4,(t 58)))])] [false,false,false,false,false] [Oo 60 (.app 89 4 40 (t 53) (t 59)),Nk 61 48,Fa 62 0 61,Fa 63 3 62,Sc 63 60]) .skip))))))))) (.reg [Bc 64 .add 17 1,Mv 17 64]))))))) (.seq (Sr [Mv 65 6,Nk 66 65,Fa 67 0 66,Fa 68 3 67,Ld 69 68,Oo 70 (.len false (t 69)),Bc 71 .gtr 70 1000] (Cd 71 (Sr [Oo 72 (.build [(iv 0),(iv 0),Ss,nl] []),⟨none,none,(.store 4 (t 4) (t 72))⟩,Mc 5 2] .ret) .skip)) (Sr [Mv 73 6,Nk 74 73,Fa 75 0 74,Oo 76 (.load true 4 (t 75)),⟨none,none,(.store 4 (t 4) (t 76))⟩,Mc 5 0] .ret)))))
theorem k53:ZaA Tryz.prog 53=some ⟨c53,[(.cell 4 true 4),(.tmp 5)],77⟩:=by kernel_rfl
theorem last_eq : ∀ (F:Loc) (l:List Chg),Zd2 F l=lastL F l
 | F,[]=>rfl
 | F,c::l=>by
  rw[Zh7 (l:=c::l) (by simp)]
  unfold Zd2
  rw[List.getLast?_eq_getElem?,List.getElem?_eq_getElem (by simp)]
  rfl
theorem Zth {ps:List Chg}{i:Nat}(hi:i<ps.length) (h1 : ∀ c∈ps.take i,c.1≤tMax) (h2:ps[i].1≤tMax) (h3:ZbZ (ps.take i)=0) (h4:locE ps[i].2≠0):ZbZ (inP ps)=locE ps[i].2:=by
 have e:inP ps=(ps.take i++[ps[i]])++inP (ps.drop (i+1)):=by
  conv=>lhs;rw[←List.take_append_drop i ps]
  unfold inP
  rw[List.takeWhile_append_of_pos (fun c hc=>by have:=h1 c hc;simpa using this),List.drop_eq_getElem_cons hi,List.takeWhile_cons,if_pos (by simpa using h2),List.append_assoc]
  rfl
 have h5:=ZfY (c:=ps[i]) h3
 rw[e,Zh5 (by rw[h5];exact h4),h5]
theorem mlast_o {F:Loc}{l:List Chg}{id q v0 ver ty ty2:Nat}{h:AH}(h1:h[id]?=some (.mk v0 ty 4 [iv F.1,iv F.2.1,sv F.2.2,.own q ver l.length])) (h2:h[q]?=some (.mk ver ty2 4 (rows chgC l))) (hl:l.length≤9223372036854775807) :
  Ac 107 [.ptr id v0 0] h (.agg [iv (Zd2 F l).1,iv (Zd2 F l).2.1,sv (Zd2 F l).2.2]):=by
 have hid:id<h.length:=(List.getElem?_eq_some_iff.1 h1).1
 rw[last_eq]
 refine tI' k107 fun N hn _ _ hbd=>?_
 simp only[tb'] at hbd ⊢
 refine wr'<|E' (Za3 hl0 ha0) pt<|sn'<|Zab<|wm<|Vw (Zfi lk)<|fq<|fq<|Vw (Zaa lk (ZcF h1) gt3)<|Vw (ZbK lk)<|?_
 refine ms<|wm<|Vw (Zby lk lki)<|sn'<|?_
 refine cd' lk (fun hc1=>?_) (fun hc1=>?_)
 ·have hl0:0<l.length:=by omega
  refine wm<|Vw (Zfi lk)<|fq<|fq<|Vw (Zaa lk (ZcF h1) gt3)<|mw<|?_
  refine V' (Zba lk lki om om) pt ?_
  refine V' (ZaP (k:=l.length-1) lk lk (ZcF h2) Zbe nb ro om (by first | rfl | (simp;done) | omega)) pt ?_
  refine V' (Zbc lk) pt ?_
  refine V' (v_ldOFA lk (ZcF h2) Zbe om nb ZdO rfl) pt ?_
  refine E' (Zam lk cv gx rfl nb rfl ZgP hs0) ptn<|sr<|Zaf<|Zad (rs1 (rr_c gt gx (ld1 Ze3 rfl)))<|rT'<|?_
  rw[Zh7 hl0]
 have hl0:l=[]:=List.eq_nil_of_length_eq_zero om
 refine za<|wm<|Vw (Zfi lk)<|fq<|fq<|Vw (Zaj lk (ZcF h1) Ze3 rfl)<|E' (Zam lk cv gx rfl nb rfl ZgP hs0) ptn<|sr<|Zad (rs1 (rr_c gt gx (ld1 Ze3 rfl)))<|?_
 refine rT' ?_
 subst hl0;rfl
theorem mlast_r {F:Loc}{l:List Chg}{id q v0 ver ty ty2:Nat}{h:AH}(h1:h[id]?=some (.mk v0 ty 4 [iv F.1,iv F.2.1,sv F.2.2,.own q ver l.length])) (h2:h[q]?=some (.mk ver ty2 4 (rows chgC l))) (hl:l.length≤9223372036854775807) :
  ACalls Tryz.prog 107 [.ptr id v0 0] h fun x h'=>x=.ret (.agg [iv (Zd2 F l).1,iv (Zd2 F l).2.1,sv (Zd2 F l).2.2])∧h'=h:=(mlast_o h1 h2 hl).mono fun _ _ e=>⟨e.2,e.1⟩
theorem ZlF (fm lt:ByteArray) (sa:Int):(Zfb fm lt sa).size≤2*fm.size+lt.size:=by
 unfold Zfb
 have h1:=ZhC (s:=fm) (p:=[47])
 have h2:=ZhC (s:=fm) (p:=[37,115])
 have e:(aB lt).length=lt.size:=rfl
 split
 ·split <;> (rw[ZfB];omega)
 split
 ·rw[ZfB,List.length_append,List.length_append,e];omega
 omega
theorem ZlB {rl:List Rul}{f:Int} : ∀ (es:List Era) (prev:Option Int),(ZaZ rl f prev es).length≤1001*es.length
 | [],_=>by simp[ZaZ]
 | [x],prev=>by
  have h1:=Zf3 (x:=x) (b:=ZbE prev f) (ZaK rl x)
  have h2:=Zct (rl:=rl) (x:=x)
  rw[ZaZ,List.length_singleton];omega
 | x::y::es,prev=>by
  have h1:=Zf3 (x:=x) (b:=ZbE prev f) (ZaK rl x)
  have h2:=Zct (rl:=rl) (x:=x)
  have h3:=ZpA (eraG x (ZbE prev f) (ZaK rl x)) (endV x)
  have h4:=ZlB (rl:=rl) (f:=f) (y::es) (some (endV x))
  rw[ZaZ,List.length_append,List.length_cons]
  split
  ·rw[List.length_nil];omega
  omega
theorem Znz {rl:List Rul}{x:Era}{b:Int}(hx:ZbG (xFm x)=true) : ∀ c∈eraG x b (ZaK rl x),c.2.2.2.size≤72:=by
 have hf:=Zft hx
 intro c hc
 rcases List.mem_cons.1 hc with rfl | hc
 ·have key : ∀ (l:List Tim) (sa:Int) (lt:ByteArray),(∀ t∈l,t.2.2.size≤24)→lt.size≤24→(Zcw sa lt l b).2.size≤24:=by
   intro l
   induction l with
   | nil=>intro _ _ _ h;exact h
   | cons t l ih =>
    intro sa lt hl h
    rw[Zcw]
    split
    ·exact ih _ _ (fun u hu=>hl u (by simp[hu])) (hl t (by simp))
    exact ih _ _ (fun u hu=>hl u (by simp[hu])) h
  have:=key (ZaK rl x) (xSv x) ⟨#[]⟩ (fun t ht=>(ZeM ht).2.2) (by decide)
  have h2:=ZlF (xFm x) (Zcw (xSv x) ⟨#[]⟩ (ZaK rl x) b).2 (Zcw (xSv x) ⟨#[]⟩ (ZaK rl x) b).1
  show (Zfb _ _ _).size≤72
  omega
 obtain⟨t,ht,rfl⟩:=List.mem_map.1 hc
 have h3:=(ZeM (List.mem_filter.1 ht).1).2.2
 have h2:=ZlF (xFm x) t.2.2 t.2.1
 show (Zfb _ _ _).size≤72
 omega
theorem ZoS {rl:List Rul}{f:Int} : ∀ {es:List Era}{prev:Option Int},(∀ x∈es,ZbG (xFm x)=true) → ∀ c∈ZaZ rl f prev es,c.2.2.2.size≤72
 | [],_,_,c,h=>by cases h
 | [x],prev,hx,c,h=>Znz (hx x (by simp)) c h
 | x::y::es,prev,hx,c,h=>by
  rw[ZaZ] at h
  rcases List.mem_append.1 h with h | h
  ·split at h
   ·cases h
   exact Znz (hx x (by simp)) c ((List.takeWhile_sublist _).subset h)
  exact ZoS (fun z hz=>hx z (by simp[hz])) c h
def ofP (a:List Rul) (es:List Era):Tab×Int:=tabR (stV (inP (ZaZ a tMin none es)))
theorem ZfI {e:AV}:Wk (.tup [.agg [.v (.int .i64 0),.v (.int .i64 0),.v (.string ⟨#[]⟩),.sl 0 0 true []],e]) (.tup [tabA Zgz,e]):=Wk.tup (wkw (Wk.agg (wk1 rfl (wk1 rfl (wk1 rfl (wkw Wk.nilF wk0))))) (wk1 rfl wk0))
theorem tof_a {a:List Rul}{z:List Zon}{k:List Lnk}{nm:ByteArray}{es:List Era}{h:AH}(hok:okRs a) (ha:a.length≤9223372036854775807) (hz:okZ es) (hne:inP (ZaZ a tMin none es)≠[]) :
  Ac 53 [.agg (srcB a z k),.agg [sv nm,.sl es.length 10 false (rows eraC es)]] h (.tup [tabA (ofP a es).1,iv (ofP a es).2]):=by
 have hlen:=hz.len
 have hpl:=ZlB (rl:=a) (f:=tMin) es none
 have hps:=ZoS (rl:=a) (f:=tMin) (prev:=none) (es:=es) (fun x hx=>(hz.fm x hx).1)
 have hO:ofP a es=_:=tabR_st (.inr hne)
 have hparts : ∀ h:AH,ACalls Tryz.prog 103 [.agg (srcB a z k),.agg [sv nm,.sl es.length 10 false (rows eraC es)],iv tMin] h fun y h'=>h'=h∧y=.ret (.sl (ZaZ a tMin none es).length 4 false (rows chgC (ZaZ a tMin none es))):=fun h=>parts_a hok ha hz (by decide)
 generalize ZaZ a tMin none es=ps at hpl hps hne hO hparts
 refine tW' k53 fun N hn hlt _ hbd=>?_
 simp only[tb'] at hbd ⊢
 refine wr'<|E' (ZaU cv rfl hl0 ha0) pt<|E' (ZaU cv rfl hl1 ha1) pt<|E' (Za3 hl2 ha2) pt<|ms<|wr'<|Vw (ZaC ZuJ)<|E' (ZaU cv rfl hl3 ha3) pt<|mw<|Zak<|?_
 refine Zal<|Zab<|Zab<|ZaJ<|Dw (Zaj lk gx Ze3 rfl)<|Dw (Zaj lk gx ZqP rfl)<|?_
 refine ZaD mp0 (fun hE hX=>Zni) pt ?_
 refine ZaD mp (fun hE hX=>hparts _) pt ?_
 refine Dw (ZaB lk)<|Dw (v_mv lki)<|ZaM<|?_
 refine ZaX ?_
 refine Zak ?_
 refine ZaS (ALe.own0Cell (st':=4) (ty:=89) gx gt3 hl4 pt3 (Eq.trans (congrArg (fun z=>List.set z _ _) ha4) hs3)) ?_
 refine Zae ?_
 refine w_lp (ι:=Nat×Nat) (fun (x_:Nat×Nat)=>match x_ with | ⟨i,v⟩=>[(17,iv (i:Int)),(5,.any)]++rn' 7 3++rn' 18 47) (fun (x_:Nat×Nat)=>match x_ with | ⟨i,v⟩=>[(3,.mk 0 158 4 [iv (stV (ps.take i)).1.1,iv (stV (ps.take i)).1.2.1,sv (stV (ps.take i)).1.2.2,.own (N+4) v (stV (ps.take i)).2.length]),(4,.mk v 89 4 (rows chgC (stV (ps.take i)).2))]) (fun (x_:Nat×Nat)=>match x_ with | ⟨i,v⟩=>i≤ps.length∧(∀ c∈ps.take i,c.1≤tMax)∧ZbZ (ps.take i)=0) (fun (x_:Nat×Nat)=>match x_ with | ⟨i,v⟩=>ps.length-i) (⟨0,0⟩) (by exact⟨Nat.zero_le _,⟨fun c hc=>(by cases hc),rfl⟩⟩) ?_
 rintro⟨i,v⟩ hi1
 try simp only[sm',Nat.reduceAdd]
 obtain⟨hi1,hi2,hi3⟩:=hi1
 refine wr'<|Vw (ZaL lk lk)<|sn'<|Zab<|?_
 refine cd' lk (fun hc1=>?_) (fun hc1=>?_)
 ·have hi:i<ps.length:=by omega
  have hsz:=hps _ (List.getElem_mem hi)
  have hsl:=Zr6 (ps.take i)
  rw[List.length_take] at hsl
  have htk:=List.take_succ_eq_append_getElem hi
  refine za<|Zab<|Zae<|wm<|?_
  refine V' (ZaF lk lk Zbe nb ro om ro rfl) pt ?_
  refine Vw (Zav lk Zmm rfl)<|E' (Za3 hl5 ha5) pt<|mw<|E' (Zam lk cv gx rfl nb rfl Zdc hs5) ptn<|sn'<|Zab<|Zab<|ZaJ<|dg<|Dw (Zaa lk gx gt0)<|?_
  refine ZaD mp0 (fun hE hX=>most_a) pt ?_
  refine Dw (Zby lk lk)<|ZaM<|?_
  refine ZaX ?_
  refine sn' ?_
  refine cd' lk (fun hc2=>?_) (fun hc2=>?_)
  ·have hP:inP ps=ps.take i:=Zpj hi2 (fun hh=>by simp only[tMax];omega)
   refine Zaw<|Zaq<|x_pas (Nat.ne_of_beq_eq_false rfl)<|Zaq<|Zaq<|ZaH<|Zal<|Zab<|wm<|Vw (Zfi lk)<|fq<|fq<|?_
   refine Vw (Zaa lk gx gt3)<|Vw (ZbK lk)<|Vw (Zby lk lki)<|sn'<|?_
   refine cd' lk (fun hc6=>?_) (fun hc6=>?_)
   ·rw[hP,hi3,if_neg (by simp),if_pos om] at hO
    refine wr'<|Vw (ZaC ZjS)<|E' (Zam lk cv gx rfl nb rfl Zdc hs2) ptn<|mr<|Zaf<|Zad (rsn (rm1 (rr_c gt gx (ld1 ZcL rfl)) (rm1 (rr_t gt) rm0)))<|rtW'<|?_
    rw[hO];exact ZfI
   rw[hP,hi3,if_neg (by simp),if_neg om] at hO
   refine Zay ?_
   refine ZaS (ALe.iceCellR (hga hn rfl) (hga hn rfl) om gt3 (List.take_of_length_le (by rw[Zbu];exact Nat.le_refl _)) (by rw[Zbu];exact Nat.le_refl _) pt3 hs4 hs3) ?_
   refine wm<|Vw (Zfi lk)<|fq<|Vw (Zaj lk gx ZcL rfl)<|E' (Zam lk cv gx rfl nb rfl Zdc hs2) ptn<|mr<|Zad (rsn (rm1 (rr_c gt gx (ld1 ZcL rfl)) (rm1 (rr_t gt) rm0)))<|rtW'<|?_
   rw[hO];exact Wk.tup (wkw (Wk.agg (wk1 rfl (wk1 rfl (wk1 rfl (wkw Wk.full wk0))))) (wk1 rfl wk0))
  refine za<|Zab<|wr'<|fq<|Vw (Zaj lk gx ZdO rfl)<|?_
  refine Zac mp (Zng (by simp only[maxLen];omega)) pt ?_
  refine ms<|wm<|Vw (Za0 lk lki)<|sn'<|?_
  refine cd' lk (fun hc3=>?_) (fun hc3=>?_)
  ·have hlE:locE ps[i].2≠0:=hc3
   have hE:=Zth hi hi2 (by simp only[tMax];omega) hi3 hlE
   rw[hE,if_pos hlE] at hO
   refine wr'<|Vw (ZaC ZqU)<|mw<|E' (Zam lk cv gx rfl nb rfl Zdc hs2) ptn<|mr<|Zaf<|Zao<|Zaf<|Zaf<|Zao<|?_
   refine Zaf<|Zad (rsn (rm1 (rr_c gt gx (ld1 ZcL rfl)) (rm1 (rr_t gt) rm0)))<|rtW'<|?_
   rw[hO];exact ZfI
  have hlE:locE ps[i].2=0:=Decidable.of_not_not hc3
  have hlE2:ZbZ (ps.take (i+1))=0:=by rw[htk,ZfY hi3];exact hlE
  have hle2 : ∀ c∈ps.take (i+1),c.1≤tMax:=fun c hc=>by rw[htk] at hc;rcases List.mem_append.1 hc with hc | hc;exact hi2 c hc;simp only[List.mem_singleton] at hc;subst hc;simp only[tMax];omega
  refine za<|Zae<|wm<|Vw (Za6 lk lki)<|ms<|?_
  refine cd' lk (fun hc4=>?_) (fun hc4=>?_)
  ·obtain rfl:i=0:=by omega
   have hS:stV (ps.take (0+1))=(ps[0].2,[]):=by rw[htk];rfl
   refine Zap<|mw<|fq<|Vw (Zaj lk gx ZdO rfl)<|Vw (Zfi lk)<|fq<|fq<|E' (Zam lk cv gx rfl nb rfl ZgP hs3) ptn<|Zak<|Zau<|Zau<|Zal<|Zap<|?_
   refine ad<|mw<|Zak<|Zax<|?_
   refine lU' (⟨0+1,v⟩) (by (try dsimp only);exact⟨by omega,hle2,hlE2⟩) (by refine zz ?_;exact bk' 5 hn hlt (by rw[hS];rfl) (hT:=by simp[AV.lt,AV.ltL,Ent.lt]) (hE:=by simp[AV.lt,AV.ltL,Ent.lt]))
  have hnt:ps.take i≠[]:=List.ne_nil_of_length_pos (by rw[List.length_take];omega)
  have hS:=stV_snoc (c:=ps[i]) hnt
  rw[←htk] at hS
  refine Zab<|w_orl<|ZrH [N+5]<|dg<|?_
  refine d_ldP lk gx (ld1 ZdO rfl) (by simp) pt ?_
  refine Dw vm<|ZaM<|Znj<|?_
  refine k_call mp (mlast_r (F:=(stV (ps.take i)).1) (l:=(stV (ps.take i)).2) gx gx om) (by intro i hi;simp only[cond_true,List.mem_cons,List.not_mem_nil,or_false] at hi;subst hi;first | rfl | exact (hga hn rfl).trans (hga hn rfl).symm) pt ?_
  refine k_val rfl (ZfK lk lk Zn8) pt<|k_val rfl vm pt<|k_nil<|Zal<|?_
  refine cd' lk (fun hc5=>?_) (fun hc5=>?_)
  ·have hne5:¬ps[i].2=Zd2 (stV (ps.take i)).1 (stV (ps.take i)).2:=fun e=>hc5 (by rw[e];exact⟨rfl,rfl,rfl⟩)
   rw[if_neg hne5] at hS
   refine ZaJ<|Dw vm<|Dw vm<|Dw (Zfi lk)<|dg<|dg<|Dw (Zaa lk gx gt3)<|dg<|Dw (Zaa lk gx gt0)<|dg<|Dw (Zaj lk gx ZdO rfl)<|Dw (ZaC (ZqT cv rfl cv rfl))<|Zc0 rfl rfl (hlk hn rfl) (ZfZ (ZqS cv rfl)) pt ZuI<|ZaM<|?_
   refine ZcZ ZqR ?_
   refine E' (Zbz (Zbh lk gx rfl Zmm nb) lk gx (Zbu _) om rfl hs4) pt ?_
   refine Vw (Zfi lk)<|fq<|fq<|E' (Zam lk cv gx rfl nb rfl ZqQ hs3) ptn<|Zak<|Zau<|Zau<|Zal<|Zap<|?_
   refine ad<|mw<|Zak<|Zax<|?_
   refine lU' (⟨i+1,v+1⟩) (by (try dsimp only);exact⟨by omega,hle2,hlE2⟩) (by refine zz ?_;exact bk' 5 hn hlt (by rw[hS,List.length_append,ZaG,Zbn];rfl) (hT:=by simp[AV.lt,AV.ltL,Ent.lt]) (hE:=by simp[AV.lt,AV.ltL,Ent.lt]))
  have hne5:ps[i].2=Zd2 (stV (ps.take i)).1 (stV (ps.take i)).2:=by obtain⟨x1,x2,x3⟩:=Decidable.of_not_not hc5;exact Prod.ext x1 (Prod.ext x2 x3)
  rw[if_pos hne5,List.append_nil] at hS
  refine Zay<|Zau<|Zau<|Zal<|Zap<|?_
  refine ad<|mw<|Zak<|Zax<|?_
  refine lU' (⟨i+1,v⟩) (by (try dsimp only);exact⟨by omega,hle2,hlE2⟩) (by refine zz ?_;exact bk' 5 hn hlt (by rw[hS];rfl) (hT:=by simp[AV.lt,AV.ltL,Ent.lt]) (hE:=by simp[AV.lt,AV.ltL,Ent.lt]))
 have hP:inP ps=ps.take i:=Zpj hi2 (fun hh=>absurd hh om)
 have hsl:=Zr6 (ps.take i)
 rw[List.length_take] at hsl
 refine Zaw<|Zaq<|Zaq<|ZaH<|Zal<|Zab<|wm<|Vw (Zfi lk)<|fq<|fq<|Vw (Zaa lk gx gt3)<|Vw (ZbK lk)<|?_
 refine Vw (Zby lk lki)<|sn'<|?_
 refine cd' lk (fun hc6=>?_) (fun hc6=>?_)
 ·rw[hP,hi3,if_neg (by simp),if_pos om] at hO
  refine wr'<|Vw (ZaC ZjS)<|E' (Zam lk cv gx rfl nb rfl Zdc hs2) ptn<|mr<|Zaf<|Zad (rsn (rm1 (rr_c gt gx (ld1 ZcL rfl)) (rm1 (rr_t gt) rm0)))<|rtW'<|?_
  rw[hO];exact ZfI
 rw[hP,hi3,if_neg (by simp),if_neg om] at hO
 refine Zay ?_
 refine ZaS (ALe.iceCellR (hga hn rfl) (hga hn rfl) om gt3 (List.take_of_length_le (by rw[Zbu];exact Nat.le_refl _)) (by rw[Zbu];exact Nat.le_refl _) pt3 hs4 hs3) ?_
 refine wm<|Vw (Zfi lk)<|fq<|Vw (Zaj lk gx ZcL rfl)<|E' (Zam lk cv gx rfl nb rfl Zdc hs2) ptn<|mr<|Zad (rsn (rm1 (rr_c gt gx (ld1 ZcL rfl)) (rm1 (rr_t gt) rm0)))<|rtW'<|?_
 rw[hO];exact Wk.tup (wkw (Wk.agg (wk1 rfl (wk1 rfl (wk1 rfl (wkw Wk.full wk0))))) (wk1 rfl wk0))
end
section
open Go.Ab Go.RowKit Civ
attribute [local simp] ZbN Zcf Zb0 ZbD Zbq Zdm Zdo tms_lt
section
theorem Zb4 {a0 a1 a2:AV}{l:List AV}:((a0::a1::a2::l).drop 0).take 3=[a0,a1,a2]:=rfl
theorem ZqM {a0 a1:AV}{l:List AV}:((a0::a1::l).drop 0).take 2=[a0,a1]:=rfl
theorem ZdN {a0 a1 a2 a3 c0 c1 c2 c3:AV}{l:List AV}:setCells (a0::a1::a2::a3::l) 0 [c0,c1,c2,c3]=c0::c1::c2::c3::l:=rfl
theorem ZiA {τ:Operand→AV}{y0:Operand}{x0_0:AV}(h0:Zat (τ y0)=some [x0_0]) (l0:[x0_0].all leaf=true):Zan τ [(0,1,y0)] [(iv 0)]=some [x0_0]:=by
 simp only[Zan,h0,l0]
 rfl
theorem ZuH {a0:AV}{l:List AV}:(a0::l).take 1=[a0]:=rfl
theorem Zdb {a0 a1 a2 a3:AV}{l:List AV}:((a0::a1::a2::a3::l).drop 0).take 4=[a0,a1,a2,a3]:=rfl
theorem Ziz {τ:Operand→AV}{y0:Operand}{x0_0 x0_1 x0_2:AV}(h0:Zat (τ y0)=some [x0_0,x0_1,x0_2]) (l0:[x0_0,x0_1,x0_2].all leaf=true):Zan τ [(0,3,y0)] [(iv 0),(iv 0),(.v (.string ⟨#[]⟩)),(.sl 0 0 true [])]=some [x0_0,x0_1,x0_2,(.sl 0 0 true [])]:=by
 simp only[Zan,h0,l0]
 rfl
theorem Zgm { e:Ent}:([]:AH)++[e]=[e]:=rfl
theorem ZqO {e0 e1 e2 e3 e4 d0:Ent}:([e0,e1,e2,e3,e4]:AH)++[d0]=[e0,e1,e2,e3,e4,d0]:=rfl
theorem Ze2 {a0 a1 a2 c0 c1 c2:AV}{l:List AV}:setCells (a0::a1::a2::l) 0 [c0,c1,c2]=c0::c1::c2::l:=rfl
theorem ZqN {e0 e1 e2 e3 e4 e5 e6 e7 d0:Ent}:([e0,e1,e2,e3,e4,e5,e6,e7]:AH)++[d0]=[e0,e1,e2,e3,e4,e5,e6,e7,d0]:=rfl
theorem Zn6 {a0 b0:Int}{a1 b1:Int}{a2 b2:ByteArray}:Za8 [.int,.int,.str] [iv a0,iv a1,sv a2] [iv b0,iv b1,sv b2]=some (decide (a0=b0∧a1=b1∧a2=b2)):=by
 simp only[Za8,ZcG,if_true,ZbR,Option.some.injEq]
 simp only[Bool.decide_and,Bool.and_true]
 try (congr 1 <;> simp)
 try rfl
theorem Zej {τ:Operand→AV}{y0 y1:Operand}{x0_0 x1_0 x1_1 x1_2:AV}(h0:Zat (τ y0)=some [x0_0]) (l0:[x0_0].all leaf=true) (h1:Zat (τ y1)=some [x1_0,x1_1,x1_2]) (l1:[x1_0,x1_1,x1_2].all leaf=true):Zan τ [(0,1,y0),(1,3,y1)] [(iv 0),(iv 0),(iv 0),(.v (.string ⟨#[]⟩))]=some [x0_0,x1_0,x1_1,x1_2]:=by
 simp only[Zan,h0,l0,h1,l1]
 rfl
theorem Zei {τ:Operand→AV}{y0:Operand}{x0_0 x0_1 x0_2 x0_3:AV}(h0:Zat (τ y0)=some [x0_0,x0_1,x0_2,x0_3]) (l0:[x0_0,x0_1,x0_2,x0_3].all leaf=true):Zan τ [(0,4,y0)] [(iv 0),(iv 0),(iv 0),(.v (.string ⟨#[]⟩))]=some [x0_0,x0_1,x0_2,x0_3]:=by
 simp only[Zan,h0,l0]
 rfl
theorem ZjQ {e0 e1 e2 e3 e4 e5 e6 e7 e8 d0:Ent}:([e0,e1,e2,e3,e4,e5,e6,e7,e8]:AH)++[d0]=[e0,e1,e2,e3,e4,e5,e6,e7,e8,d0]:=rfl
theorem Zmj {a0 a1 a2 a3:AV}{l:List AV}:(a0::a1::a2::a3::l).take 4=[a0,a1,a2,a3]:=rfl
theorem ZjP {a0 a1 a2 a3 c0:AV}{l:List AV}:setCells (a0::a1::a2::a3::l) 3 [c0]=a0::a1::a2::c0::l:=rfl
theorem Zeh {τ:Operand→AV}:Zan τ [] [(iv 0),(iv 0),(.v (.string ⟨#[]⟩)),(.sl 0 0 true [])]=some [(iv 0),(iv 0),(.v (.string ⟨#[]⟩)),(.sl 0 0 true [])]:=rfl
end
def c56:AC:=(Sr [Oo 2 (.box 53 3 (t 0)),Oo 3 (.box 94 2 (t 1)),Oo 4 (.new 38 4 [(iv 0),(iv 0),Ss,nl]),Mc 5 0] (Sr [Oo 17 (.load true 3 (t 2)),Oo 18 (.load true 2 (t 3)),Cl 19 111 [(t 17),(t 18)],Oo 6 (.new 171 4 [Ss,nl,nl,nl]),⟨none,none,(.store 4 (t 6) (t 19))⟩] (Sr [Oo 7 (.mv (.const (.slice none 0 0)))] (.seq (Sr [Mc 8 0] (.block 0 (.loop (.seq (Sr [Mv 20 8,Fa 21 3 6,Ld 22 21,Oo 23 (.len false (t 22)),Bn 24 .lss 20 23] (Cd 24 .skip (.exit 0))) (.seq (.block 1 (Sr [Mc 9 0] (.block 2 (.loop (.seq (Sr [Mv 27 9,Fa 28 3 6,Ld 29 28,Mv 30 8,Oo 31 (.ia 1 (t 29) (t 30)),Ld 32 31,Oo 33 (.len false (t 32)),Bn 34 .lss 27 33] (Cd 34 .skip (.exit 2))) (.seq (.block 3 (.reg [Mv 37 7,Fa 38 3 6,Ld 39 38,Mv 40 8,Oo 41 (.ia 1 (t 39) (t 40)),Ld 42 41,Mv 43 9,Oo 44 (.ia 3 (t 42) (t 43)),Fa 45 0 44,Ld 46 45,Oo 47 (.lit 3 1 1 [(iv 0)] [(0,(1,(t 46)))]),Oo 48 (.app 3 1 8 (t 37) (t 47)),Mv 7 48])) (.reg [Mv 35 9,Bc 36 .add 35 1,Mv 9 36]))))))) (.reg [Mv 25 8,Bc 26 .add 25 1,Mv 8 26])))))) (Sr [Mv 49 7,Fa 50 2 6,Ld 51 50,Oo 52 (.app 3 1 8 (t 49) (t 51)),Mv 7 52] (.seq (Sr [Mc 10 1] (.block 4 (.loop (.seq (Sr [Mv 53 10,Mv 54 7,Oo 55 (.len false (t 54)),Bn 56 .lss 53 55] (Cd 56 .skip (.exit 4))) (.seq (.block 5 (Sr [Mv 59 10,Mv 11 59] (.block 6 (.loop (.seq (Sd [Mv 60 11,Bc 61 .gtr 60 0,Mv 62 61,Ot 63 62 (mt 7),Ot 64 62 (mt 11),Ot 65 62 (.ia 1 (t 63) (t 64)),Ot 66 62 (.load false 1 (t 65)),Ot 67 62 (mt 7),Ot 68 62 (mt 11),Ot 69 62 (.bin .sub (t 68) (Ci 1)),Ot 70 62 (.ia 1 (t 67) (t 69)),Ot 71 62 (.load false 1 (t 70)),Ot 72 62 (.bin .lss (t 66) (t 71)),Oo 73 (.pick (t 62) (t 72) (.const (.bool false)))] (Cd 73 .skip (.exit 6))) (.seq (.block 7 (.drw [Mv 76 7,Mv 77 11,Mv 78 7,Mv 79 11,Bc 80 .sub 79 1,Mv 81 7,Mv 82 11,Bc 83 .sub 82 1,Oo 84 (.ia 1 (t 81) (t 83)),Ld 85 84,Mv 86 7,Mv 87 11,Oo 88 (.ia 1 (t 86) (t 87)),Ld 89 88,Oo 90 (.ia 1 (t 76) (t 77))] [false,false,false] [Sc 90 85,Oo 91 (.ia 1 (t 78) (t 80)),Sc 91 89])) (.reg [Mv 74 11,Bc 75 .sub 74 1,Mv 11 75]))))))) (.reg [Mv 57 10,Bc 58 .add 57 1,Mv 10 58])))))) (.seq (.drw [Oo 92 (.load true 4 (t 6)),Cl 93 113 [],Cl 94 112 [(t 92),(t 93)],Oo 95 (.build [(iv 0),(iv 0),Ss,nl] [(0,(3,(t 94)))]),Oo 12 (.new 38 4 [(iv 0),(iv 0),Ss,nl])] [false] [⟨none,none,(.store 4 (t 12) (t 95))⟩]) (Sr [Fa 96 0 12,Oo 97 (.load true 3 (t 96)),Oo 13 (.new 35 3 [(iv 0),(iv 0),Ss]),⟨none,none,(.store 3 (t 13) (t 97))⟩] (Sr [Oo 98 (.load true 3 (t 13)),Cl 99 114 [(t 98)],Mv 14 99] (.seq (Sr [Mc 15 0] (.block 8 (.loop (.seq (Sr [Mv 100 15,Mv 101 7,Oo 102 (.len false (t 101)),Bn 103 .lss 100 102] (Cd 103 .skip (.exit 8))) (.seq (.block 9 (.seq (Sd [Mv 106 7,Mv 107 15,Oo 108 (.ia 1 (t 106) (t 107)),Ld 109 108,Cl 110 113 [],Bn 111 .leq 109 110,Mv 112 111,Of 113 112 (mt 7),Of 114 112 (mt 15),Of 115 112 (.ia 1 (t 113) (t 114)),Of 116 112 (.load false 1 (t 115)),Of 117 112 (.call (.func 115) []),Of 118 112 (.bin .gtr (t 116) (t 117)),Oo 119 (.pick (t 112) (.const (.bool true)) (t 118))] (Cd 119 (.exit 9) .skip)) (.seq (.drw [Oo 120 (.load true 4 (t 6)),Mv 121 7,Mv 122 15,Oo 123 (.ia 1 (t 121) (t 122)),Ld 124 123,Cl 125 112 [(t 120),(t 124)],Oo 16 (.new 35 3 [(iv 0),(iv 0),Ss])] [false] [⟨none,none,(.store 3 (t 16) (t 125))⟩]) (.seq (Sr [Oo 126 (.load true 3 (t 16)),Oo 127 (.load true 3 (t 13)),Oo 128 (.eqs false [.int,.int,.str] (t 126) (t 127))] (Cd 128 (.exit 9) .skip)) (.seq (Sr [Mv 129 14,Bc 130 .eql 129 0] (Cd 130 (.reg [Oo 131 (.load true 3 (t 16)),Cl 132 114 [(t 131)],Mv 14 132]) .skip)) (.seq (.drw [Fa 133 3 12,Ld 134 133,Mv 135 7,Mv 136 15,Oo 137 (.ia 1 (t 135) (t 136)),Ld 138 137,Oo 139 (.load true 3 (t 16)),Oo 140 (.build [(iv 0),(iv 0),(iv 0),Ss] [(0,(1,(t 138))),(1,(3,(t 139)))]),Oo 141 (.lit 89 4 1 [(iv 0),(iv 0),(iv 0),Ss] [(0,(4,(t 140)))])] [false,false,false] [Oo 142 (.app 89 4 40 (t 134) (t 141)),Fa 143 3 12,Sc 143 142]) (.reg [Oo 144 (.load true 3 (t 16)),⟨none,none,(.store 3 (t 13) (t 144))⟩]))))))) (.reg [Mv 104 15,Bc 105 .add 104 1,Mv 15 105])))))) (.seq (Sr [Mv 145 14,Bc 146 .eql 145 0,Mv 147 146,Ot 148 147 (.fa 3 (t 12)),Ot 149 147 (.load false 1 (t 148)),Ot 150 147 (.len false (t 149)),Ot 151 147 (.bin .gtr (t 150) (Ci 1000)),Oo 152 (.pick (t 147) (t 151) (.const (.bool false)))] (Cd 152 (.reg [Mc 14 2]) .skip)) (.seq (Sr [Mv 153 14,Bc 154 .neq 153 0] (Cd 154 (Sr [Oo 155 (.build [(iv 0),(iv 0),Ss,nl] []),Mv 156 14,⟨none,none,(.store 4 (t 4) (t 155))⟩,Mv 5 156] .ret) .skip)) (Sr [Oo 157 (.load true 4 (t 12)),⟨none,none,(.store 4 (t 4) (t 157))⟩,Mc 5 0] .ret)))))))))))))
theorem k56:ZaA Tryz.prog 56=some ⟨c56,[(.cell 4 true 4),(.tmp 5)],158⟩:=by kernel_rfl
theorem Zpx {rl:List Rul}{x:Era}{b:Int}(hx:ZbG (xFm x)=true):(Zfd rl x b).2.2.size≤72 :=
 Znz (rl:=rl) (b:=b) hx (b,Zfd rl x b) List.mem_cons_self
theorem ZrR {rl:List Rul}{n:Int} : ∀ {es:List Era},(∀ x∈es,ZbG (xFm x)=true)→(Za4 rl es n).2.2.size≤72
 | [],_=>by show (0:Nat)≤72;omega
 | [x],h=>Zpx (h x (by simp))
 | x::y::es,h=>by
  rw[Za4]
  split
  ·exact ZrR fun z hz=>h z (by simp[hz])
  exact Zpx (h x (by simp))
def Zm0 (a:List Rul) (es:List Era):List Int:=es.flatMap fun x=>(ZaK a x).map (·.1)
theorem Zlk (a:List Rul) : ∀ es:List Era,(Zm0 a es).length=cntV a es
 | []=>rfl
 | x::es=>by unfold Zm0;rw[List.flatMap_cons,List.length_append,List.length_map,cntV];exact congrArg _ (Zlk a es)
theorem ZpV (a:List Rul) (es:List Era) (x:Era):Zm0 a (es++[x])=Zm0 a es++(ZaK a x).map (·.1):=by
 unfold Zm0;rw[List.flatMap_append,List.flatMap_cons,List.flatMap_nil,List.append_nil]
theorem inT_no1 {x:Int}(h:x≤tMin):inT x=false:=decide_eq_false om
theorem inT_no2 {x:Int}(h:tMax<x):inT x=false:=decide_eq_false om
theorem inT_yes {x:Int}(h1:¬x≤tMin) (h2:¬tMax<x):inT x=true:=decide_eq_true om
theorem take1_pw {r:Int→Int→Prop}(l:List Int):(l.take 1).Pairwise r:=by cases l <;> simp
theorem leI_tot (a b:Int):a≤b∨b≤a:=by omega
theorem leI_tr (a b c:Int):a≤b→b≤c→a≤c:=by omega
theorem ZpY {a:List Rul}{z:List Zon}{k:List Lnk}{nm:ByteArray}{es:List Era}{h:AH}(hok:okRs a) (ha:a.length≤9223372036854775807) (hz:okZ es) :
  Ac 56 [.agg (srcB a z k),.agg [sv nm,.sl es.length 10 false (rows eraC es)]] h (.tup [tabA (tabR (Zdg a es)).1,iv (tabR (Zdg a es)).2]):=by
 have hlen:=hz.len
 have hel:=ZcA es
 have htsz : ∀ n,(Za4 a es n).2.2.size≤maxLen:=fun n=>by have:=ZrR (rl:=a) (n:=n) (es:=es) (fun x hx=>(hz.fm x hx).1);simp only[maxLen];omega
 refine tW' k56 fun N hn hlt _ hbd=>?_
 simp only[tb'] at hbd ⊢
 refine wr'<|E' (ZaU cv rfl hl0 ha0) pt<|E' (ZaU cv rfl hl1 ha1) pt<|E' (Za3 hl2 ha2) pt<|ms<|wr'<|Vw (Zaj lk gx Zb4 rfl)<|Vw (Zaj lk gx ZqM rfl)<|Zac mp (rtell_a hok ha hz) pt<|E' (Za3 hl3 ha3) pt<|?_
 refine E' (Zam lk6 (cvl lk19 rfl) gx rfl nb rfl ZdN hs3) ptn<|sn'<|wr'<|mv' lkn pt7<|Zak<|ZaS (ALe.own0' (st':=1) (ty:=3) gt7 hl4 pt7 ha4)<|Zab<|wr'<|mv' lki pt8<|sn'<|?_
 refine Zae ?_
 refine w_lp (ι:=Nat×List Int×Nat) (fun (x_:Nat×List Int×Nat)=>match x_ with | ⟨kk,L,v⟩=>[(7,.own (N+4) v L.length),(8,iv (kk:Int)),(9,.any)]++rn' 20 29) (fun (x_:Nat×List Int×Nat)=>match x_ with | ⟨kk,L,v⟩=>[(4,.mk v 3 1 (rows intC L))]) (fun (x_:Nat×List Int×Nat)=>match x_ with | ⟨kk,L,v⟩=>kk≤es.length∧L=Zm0 a (es.take kk)) (fun (x_:Nat×List Int×Nat)=>match x_ with | ⟨kk,L,v⟩=>es.length-kk) (⟨0,[],0⟩) (by exact⟨Nat.zero_le _,rfl⟩) ?_
 rintro⟨kk,L,v⟩ hi1
 try simp only[sm',Nat.reduceAdd]
 obtain⟨hk1,hk2⟩:=hi1
 have hL1:=Zlk a (es.take kk)
 have hL2:=ZnH a (es.take kk)
 rw[List.length_take] at hL2
 rw[←hk2] at hL1
 refine Zab<|wm<|fq<|Vw (Zaa lk gx gt3)<|Vw (ZaB lk)<|Vw (ZaL lk lk)<|sn'<|?_
 refine cd' lk (fun hc1=>?_) (fun hc1=>?_)
 ·have hk:kk<es.length:=by omega
  have htl:=Zct (rl:=a) (x:=es[kk])
  refine za<|Zab<|Zae<|wk'<|Zae<|?_
  refine w_lp (ι:=Nat×List Int×Nat) (fun (x_:Nat×List Int×Nat)=>match x_ with | ⟨j,M,w⟩=>[(7,.own (N+4) w M.length),(9,iv (j:Int))]++rn' 27 22) (fun (x_:Nat×List Int×Nat)=>match x_ with | ⟨j,M,w⟩=>[(4,.mk w 3 1 (rows intC M))]) (fun (x_:Nat×List Int×Nat)=>match x_ with | ⟨j,M,w⟩=>j≤(ZaK a es[kk]).length∧M=L++((ZaK a es[kk]).take j).map (·.1)) (fun (x_:Nat×List Int×Nat)=>match x_ with | ⟨j,M,w⟩=>(ZaK a es[kk]).length-j) (⟨0,L,v⟩) (by exact⟨Nat.zero_le _,by simp⟩) ?_
  rintro⟨j,M,w⟩ hi2
  try simp only[sm',Nat.reduceAdd]
  obtain⟨hj1,hj2⟩:=hi2
  have hM1:M.length=L.length+j:=by rw[hj2,List.length_append,List.length_map,List.length_take];omega
  refine Zab<|wm<|fq<|Vw (Zaa lk gx gt3)<|mw<|?_
  refine V' (ZaF lk lk ZdT nb ro om ro rfl) pt ?_
  refine Vw (Zar lk gt)<|Vw (ZaB lk)<|Vw (ZaL lk lk)<|sn'<|?_
  refine cd' lk (fun hc2=>?_) (fun hc2=>?_)
  ·have hj:j<(ZaK a es[kk]).length:=by omega
   refine za<|Zab<|Zae<|Zap<|mw<|fq<|Vw (Zaa lk gx gt3)<|mw<|?_
   refine V' (ZaF lk lk ZdT nb ro om ro rfl) pt ?_
   refine Vw (Zar lk gt)<|mw<|?_
   refine V' (ZaF lk lk Zc7 nb ro om ro rfl) pt ?_
   refine Vw (ZaR lk dp0)<|Vw (Zar lk gt)<|E' (Zci (ZiA cv rfl) hl5 ha5) pt<|?_
   refine E' (Zbz (Zbh lk gx rfl ZuH nb) lk gx (ZdC _) om rfl hs4) pt ?_
   refine mw<|Zak<|Zau<|Zal<|Zap<|mw<|?_
   refine ad<|mw<|Zak<|Zax<|?_
   refine lU' (⟨j+1,M++[(ZaK a es[kk])[j].1],w+1⟩) (by (try dsimp only);exact⟨by omega,by rw[List.take_succ_eq_append_getElem hj,List.map_append,←List.append_assoc,←hj2];rfl⟩) (by refine zz ?_;exact bkE' 5 hn hlt (by repeat (first | exact wk0 | refine wka ?_ | refine wk1 rfl ?_ | refine wk1 (by first | rfl | exact ivx om | (rw[List.length_append];rfl)) ?_)) (by rw[ZaG,Zbn];rfl) (hT:=by simp[AV.lt,AV.ltL,Ent.lt]) (hE:=by simp[AV.lt,AV.ltL,Ent.lt]))
  refine Zaw<|Zaq<|Zaq<|ZaH<|Zau<|Zal<|Zap<|mw<|?_
  refine ad<|mw<|Zak<|Zax<|?_
  refine lT' (⟨kk+1,M,w⟩) (by (try dsimp only);exact⟨by omega,by rw[hj2,List.take_of_length_le (show (ZaK a es[kk]).length≤j by omega),List.take_succ_eq_append_getElem hk,ZpV,←hk2]⟩)
 have hL3:L=Zm0 a es:=by rw[hk2,List.take_of_length_le om]
 refine Zaw<|Zaq<|Zaq<|ZaH<|Zal<|wm<|fq<|Vw (Zaa lk gx gt2)<|?_
 refine E' (Zbz (Zkm lk (ZdC _)) lk gx (ZdC _) om (int_leaf _) hs4) pt ?_
 refine ms<|Zab<|wk'<|Zae<|?_
 refine Zde (ι:=Nat×List Int×Nat) (fun (x_:Nat×List Int×Nat)=>match x_ with | ⟨i,M,w⟩=>[(7,.own (N+4) w M.length),(10,iv (i:Int)),(11,.any)]++rn' 53 39) (fun (x_:Nat×List Int×Nat)=>match x_ with | ⟨i,M,w⟩=>[(4,.mk w 3 1 (rows intC M))]) (fun (x_:Nat×List Int×Nat)=>match x_ with | ⟨i,M,w⟩=>1≤i∧M.Perm (Zdp a es)∧(M.take i).Pairwise (· ≤ ·)) (fun (x_:Nat×List Int×Nat)=>match x_ with | ⟨i,M,w⟩=>(Zdp a es).length+1-i) (⟨1,L++ZaI es,v+1⟩) (by exact⟨Nat.le_refl _,(by rw[hL3];exact List.Perm.refl _),take1_pw _⟩) (by try simp only[sm',Nat.reduceAdd];exact ALe.same (by repeat (first | exact wk0 | refine wka ?_ | refine wk1 rfl ?_ | refine wk1 (by first | rfl | exact ivx om | (rw[List.length_append])) ?_)) (by first | (rw[ZaG];done) | (rw[ZaG];rfl))) ?_
 rintro⟨i,M,w⟩ hi3
 try simp only[sm',Nat.reduceAdd]
 obtain⟨hm1,hm2,hm3⟩:=hi3
 have hML:=hm2.length_eq
 have hsl:=Zsa a es
 have hcl:=ZnH a es
 refine Zab<|wm<|mw<|Vw (ZbK lk)<|Vw (ZaL lk lk)<|sn'<|?_
 refine cd' lk (fun hc3=>?_) (fun hc3=>?_)
 ·have hi:i<M.length:=by omega
  refine za<|Zab<|Zae<|wm<|ms<|Zae<|?_
  refine w_lp (ι:=Nat×List Int) (fun (x_:Nat×List Int)=>match x_ with | ⟨q,K⟩=>[(7,.own (N+4) w K.length),(11,iv (q:Int))]++rn' 60 32) (fun (x_:Nat×List Int)=>match x_ with | ⟨q,K⟩=>[(4,.mk w 3 1 (rows intC K))]) (fun (x_:Nat×List Int)=>match x_ with | ⟨q,K⟩=>q≤i∧K.Perm M∧insR (· ≤ ·) i q K) (fun (x_:Nat×List Int)=>match x_ with | ⟨q,K⟩=>q) (⟨i,M⟩) (by exact⟨Nat.le_refl _,List.Perm.refl _,ZgE hi hm3⟩) ?_
  rintro⟨q,K⟩ hi4
  try simp only[sm',Nat.reduceAdd]
  obtain⟨hq1,hq2,hq3⟩:=hi4
  have hKL:=hq2.length_eq
  refine Zab<|Zab<|ZaJ<|Dw vm<|Dw (Zby lk lki)<|Dw vm<|?_
  refine dq' (t:=62) gt pt pt (fun hg62=>?_) (fun hg62=>?_)
  ·obtain⟨j,rfl⟩ : ∃ j,q=j+1:=⟨q-1,by omega⟩
   have hz3:j+1<K.length:=by omega
   refine dO<|Dw vm<|dO<|Dw vm<|dO<|?_
   refine D' (ZaP (k:=j+1) lk lk gx ZaV nb ro om (by first | rfl | (simp;done) | omega)) pt ?_
   refine d_do gt ?_
   refine D' (Zcb lk gx ZaV om rfl) pt ?_
   refine dO<|Dw vm<|dO<|Dw vm<|dO<|?_
   refine D' (Zba lk lki om om) pt ?_
   refine d_do gt ?_
   refine D' (ZaP (k:=j) lk lk gx ZaV nb ro om (by first | rfl | (simp;done) | omega)) pt ?_
   refine d_do gt ?_
   refine D' (Zcb lk gx ZaV om rfl) pt ?_
   refine dO<|Dw (ZaL lk lk)<|Dw (Zai lk lk)<|ZaM<|?_
   refine ZaX ?_
   refine sn' ?_
   refine cd' lk (fun hc4=>?_) (fun hc4=>?_)
   ·have hz6:¬K[j]≤K[j+1]:=by omega
    obtain⟨hz4,hz5⟩:=Zia leI_tot hq3 hz3 hz6
    refine za<|Zab<|Zae<|ZaJ<|Dw vm<|Dw vm<|Dw vm<|Dw vm<|?_
    refine D' (Zba lk lki om om) pt ?_
    refine Dw vm<|Dw vm<|?_
    refine D' (Zba lk lki om om) pt ?_
    refine D' (ZaP (k:=j) lk lk gx ZaV nb ro om (by first | rfl | (simp;done) | omega)) pt ?_
    refine D' (Zcb lk gx ZaV om rfl) pt ?_
    refine Dw vm<|Dw vm<|?_
    refine D' (ZaP (k:=j+1) lk lk gx ZaV nb ro om (by first | rfl | (simp;done) | omega)) pt ?_
    refine D' (Zcb lk gx ZaV om rfl) pt ?_
    refine D' (ZaP (k:=j+1) lk lk gx ZaV nb ro om (by first | rfl | (simp;done) | omega)) pt ?_
    refine ZaM ?_
    refine ZaX ?_
    refine E' (Zf5 (z:=K[j]) lk cv gx ZaV rfl om hs4) ptn ?_
    refine V' (ZaP (k:=j) lk lk gx ZaV nb (by first | rfl | first | omega | (rw[List.length_set];omega)) (by first | omega | (rw[List.length_set];omega)) (by first | rfl | (simp;done) | first | omega | (rw[List.length_set];omega))) pt ?_
    refine E' (Zf5 (z:=K[j+1]) lk cv gx ZaV rfl (by first | omega | (rw[List.length_set];omega)) hs4) ptn ?_
    refine Zak<|Zau<|Zal<|Zap<|mw<|?_
    refine V' (Zba lk lki om om) pt ?_
    refine mw<|Zak<|Zax<|?_
    refine lU' (⟨j,(K.set (j+1) K[j]).set j K[j+1]⟩) (by (try dsimp only);exact⟨by omega,hz5.trans hq2,hz4⟩) (by refine zz ?_;exact ALe.same (by repeat (first | exact wk0 | refine wka ?_ | refine wk1 rfl ?_ | refine wk1 (by first | rfl | exact ivx om | (simp;done)) ?_)) rfl)
   have hz7:K[j]≤K[j+1]:=by omega
   have hz6:=ZgC leI_tr hq3 hz3 hz7
   refine Zaw<|Zaq<|Zaq<|ZaH<|Zau<|Zal<|Zap<|mw<|?_
   refine ad<|mw<|Zak<|Zax<|?_
   refine lT' (⟨i+1,K,w⟩) (by (try dsimp only);exact⟨by omega,hq2.trans hm2,hz6⟩)
  obtain rfl:q=0:=by omega
  have hz6:=ZgD hq3
  refine dn<|dn<|dn<|dn<|dn<|dn<|dn<|dn<|dn<|dn<|Dw (Zah lk lkb)<|ZaM<|?_
  refine ZaX ?_
  refine sn'<|ZaO lk<|Zaw<|Zaq<|Zaq<|ZaH<|Zau<|Zal<|Zap<|mw<|?_
  refine ad<|mw<|Zak<|Zax<|?_
  refine lT' (⟨i+1,K,w⟩) (by (try dsimp only);exact⟨by omega,hq2.trans hm2,hz6⟩)
 rw[List.take_of_length_le om] at hm3
 have hTab:=ZsA (rl:=a) (es:=es) hm2 hm3
 have hTR:=Zr1 (Zel (Za4 a es) M)
 rw[hTab] at hTR
 have hT1:(Zdg a es).1=Za4 a es tMin:=by rw[←hTab];rfl
 have hT2:(Zdg a es).2=chgs (Za4 a es) M:=by rw[←hTab];rfl
 rw[hT1,hT2] at hTR
 refine Zaw<|Zaq<|Zaq<|ZaH<|Zal<|Zab<|ZaJ<|Dw (Zaj lk gx Zdb rfl)<|?_
 refine ZaD mp0 (fun hE hX=>Zji) pt ?_
 refine ZaD mp (fun hE hX=>Zsp hz) pt ?_
 refine Dw (ZaC (Ziz cv rfl))<|Zc0 rfl rfl (hlk hn rfl) (Zh8) pt Zgm<|ZaM<|?_
 refine ZcZ ZqO ?_
 refine E' (Zam lk cv gx rfl nb rfl ZdN hs5) ptn<|sn'<|wr'<|fq<|Vw (Zaj lk gx Zb4 rfl)<|E' (Za3 hl6 ha6) pt<|E' (Zam lk cv gx rfl nb rfl Ze2 hs6) ptn<|sn'<|wr'<|Vw (Zaj lk gx Zb4 rfl)<|?_
 refine Zac mp (ZfW (htsz _)) pt<|ms<|Zab<|wm<|Zak<|?_
 refine ZaS (ALe.own0Cell (st':=4) (ty:=89) gx gt3 hl7 pt3 (Eq.trans (congrArg (fun z=>List.set z _ _) ha7) hs5)) ?_
 refine Zae ?_
 refine Zde (ι:=Nat×Nat) (fun (x_:Nat×Nat)=>match x_ with | ⟨i5,v5⟩=>[(14,iv (rbad (Za4 a es tMin) (chgs (Za4 a es) (M.take i5)))),(15,iv (i5:Int)),(16,.any)]++rn' 100 45) (fun (x_:Nat×Nat)=>match x_ with | ⟨i5,v5⟩=>[(5,.mk 0 38 4 [iv (Za4 a es tMin).1,iv (Za4 a es tMin).2.1,sv (Za4 a es tMin).2.2,.own (N+7) v5 (chgs (Za4 a es) (M.take i5)).length]),(6,.mk 0 35 3 (locC3 (Zd2 (Za4 a es tMin) (chgs (Za4 a es) (M.take i5))))),(7,.mk v5 89 4 (rows chgC (chgs (Za4 a es) (M.take i5))))]) (fun (x_:Nat×Nat)=>match x_ with | ⟨i5,v5⟩=>i5≤M.length) (fun (x_:Nat×Nat)=>match x_ with | ⟨i5,v5⟩=>M.length-i5) (⟨0,0⟩) (by exact Nat.zero_le _) (by try simp only[sm',Nat.reduceAdd];exact ALe.same (by repeat (first | exact wk0 | refine wka ?_ | refine wk1 rfl ?_ | refine wk1 (by first | rfl | exact ivx (ZoO _).symm | exact ivx (by rw[List.take_zero,chgs_nil,ZoO])) ?_)) rfl) ?_
 rintro⟨i5,v5⟩ hi5
 try simp only[sm',Nat.reduceAdd]
 replace hi5:i5≤M.length:=hi5
 have hcL:=chgs_len (g:=Za4 a es) (M.take i5)
 rw[List.length_take] at hcL
 refine Zab<|wm<|mw<|Vw (ZbK lk)<|Vw (ZaL lk lk)<|sn'<|?_
 refine cd' lk (fun hc5=>?_) (fun hc5=>?_)
 ·have hi:i5<M.length:=by omega
  have htk:=List.take_succ_eq_append_getElem hi
  refine za<|Zab<|Zae<|Zab<|Zab<|ZaJ<|Dw vm<|Dw vm<|?_
  refine D' (ZaP lk lk gx ZaV nb ro om (by first | rfl | (simp;done) | omega)) pt ?_
  refine D' (Zcb lk gx ZaV om rfl) pt ?_
  refine ZaD mp0 (fun hE hX=>Zji) pt ?_
  refine Dw (ZcP lk lk)<|Dw vm<|?_
  refine dq' (t:=112) gt pt pt (fun hg112=>?_) (fun hg112=>?_)
  ·have hC:chgs (Za4 a es) (M.take (i5+1))=chgs (Za4 a es) (M.take i5):=by rw[htk];exact ZpE (inT_no1 hg112)
   refine dn<|dn<|dn<|dn<|dn<|dn<|Dw (Zai lk lkb)<|ZaM<|?_
   refine ZaX ?_
   refine sn'<|ZaQ lk<|Zaw<|Zaq<|ZaH<|Zal<|Zap<|mw<|?_
   refine ad<|mw<|Zak<|Zax<|?_
   refine lU' (⟨i5+1,v5⟩) (by (try dsimp only);omega) (by refine zz ?_;exact ALe.same (by repeat (first | exact wk0 | refine wka ?_ | refine wk1 rfl ?_ | refine wk1 (by first | rfl | exact ivx om | (rw[hC];done) | (rw[hC,hB];done) | (rw[hC,hB];rfl)) ?_)) (by first | (rw[hC];done) | (rw[hC];rfl)))
  refine dO<|Dw vm<|dO<|Dw vm<|dO<|?_
  refine D' (ZaP lk lk gx ZaV nb ro om (by first | rfl | (simp;done) | omega)) pt ?_
  refine d_do gt ?_
  refine D' (Zcb lk gx ZaV om rfl) pt ?_
  refine d_do gt ?_
  refine ZaD mp0 (fun hE hX=>Zsr) pt ?_
  refine dO<|Dw (Zby lk lk)<|Dw (Zah lk lk)<|ZaM<|?_
  refine ZaX ?_
  refine sn' ?_
  refine cd' lk (fun hc6=>?_) (fun hc6=>?_)
  ·have hC:chgs (Za4 a es) (M.take (i5+1))=chgs (Za4 a es) (M.take i5):=by rw[htk];exact ZpE (inT_no2 hc6)
   refine Zaw<|Zaq<|ZaH<|Zal<|Zap<|mw<|?_
   refine ad<|mw<|Zak<|Zax<|?_
   refine lU' (⟨i5+1,v5⟩) (by (try dsimp only);omega) (by refine zz ?_;exact ALe.same (by repeat (first | exact wk0 | refine wka ?_ | refine wk1 rfl ?_ | refine wk1 (by first | rfl | exact ivx om | (rw[hC];done) | (rw[hC,hB];done) | (rw[hC,hB];rfl)) ?_)) (by first | (rw[hC];done) | (rw[hC];rfl)))
  have hI:inT M[i5]=true:=inT_yes hg112 hc6
  refine za<|Zab<|ZaJ<|Dw (Zaj lk gx Zdb rfl)<|Dw vm<|Dw vm<|?_
  refine D' (ZaP lk lk gx ZaV nb ro om (by first | rfl | (simp;done) | omega)) pt ?_
  refine D' (Zcb lk gx ZaV om rfl) pt ?_
  refine ZaD mp (fun hE hX=>Zsp hz) pt ?_
  refine Zc0 rfl rfl (hlk hn rfl) (Zh8) pt Zgm<|ZaM<|?_
  refine ZcZ ZqN ?_
  refine E' (Zam lk cv gx rfl nb rfl Ze2 hs8) ptn<|sn'<|Zab<|wr'<|Vw (Zaj lk gx Zb4 rfl)<|Vw (Zaj lk gx Zb4 rfl)<|Vw (Zk8 lk lk Zn6)<|sn'<|?_
  refine cd' lk (fun hc7=>?_) (fun hc7=>?_)
  ·have hw:Za4 a es M[i5]=Zd2 (Za4 a es tMin) (chgs (Za4 a es) (M.take i5)):=by obtain⟨x1,x2,x3⟩:=hc7;exact Prod.ext x1 (Prod.ext x2 x3)
   have hC:chgs (Za4 a es) (M.take (i5+1))=chgs (Za4 a es) (M.take i5):=by rw[htk];exact Zuc hI hw
   refine Zaw<|Zaq<|ZaH<|Zal<|Zap<|mw<|?_
   refine ad<|mw<|Zak<|Zax<|?_
   refine lU' (⟨i5+1,v5⟩) (by (try dsimp only);omega) (by refine zz ?_;exact bkE' 8 hn hlt (by repeat (first | exact wk0 | refine wka ?_ | refine wk1 rfl ?_ | refine wk1 (by first | rfl | exact ivx om | (rw[hC];done) | (rw[hC,hB];done) | (rw[hC,hB];rfl)) ?_)) (by first | (rw[hC];done) | (rw[hC];rfl)) (hT:=by simp[AV.lt,AV.ltL,Ent.lt]) (hE:=by simp[AV.lt,AV.ltL,Ent.lt]))
  have hw:¬Za4 a es M[i5]=Zd2 (Za4 a es tMin) (chgs (Za4 a es) (M.take i5)):=fun e=>hc7 (by rw[e];exact⟨rfl,rfl,rfl⟩)
  have hC:chgs (Za4 a es) (M.take (i5+1))=chgs (Za4 a es) (M.take i5)++[(M[i5],Za4 a es M[i5])]:=by rw[htk];exact chgs_new hI hw
  have hB:=ZsH (Za4 a es tMin) (chgs (Za4 a es) (M.take i5)) (M[i5],Za4 a es M[i5])
  have hW:=Zqe (Za4 a es tMin) (chgs (Za4 a es) (M.take i5)) (M[i5],Za4 a es M[i5])
  refine za<|Zab<|wm<|Vw (Za6 lk lki)<|sn'<|?_
  refine cd' lk (fun hc8=>?_) (fun hc8=>?_)
  ·rw[if_pos hc8] at hB
   refine Zap<|Vw (Zaj lk gx Zb4 rfl)<|Zac mp (ZfW (htsz _)) pt<|ms<|Zab<|ZaJ<|dg<|Dw (Zaa lk gx gt3)<|Dw vm<|Dw vm<|?_
   refine D' (ZaP lk lk gx ZaV nb ro om (by first | rfl | (simp;done) | omega)) pt ?_
   refine D' (Zcb lk gx ZaV om rfl) pt ?_
   refine Dw (Zaj lk gx Zb4 rfl)<|Dw (ZaC (Zej cv rfl cv rfl))<|Zc0 rfl rfl (hlk hn rfl) (ZfZ (Zei cv rfl)) pt Zgm<|ZaM<|?_
   refine ZcZ ZjQ ?_
   refine E' (Zbz (Zbh lk gx rfl Zmj nb) lk gx (Zbu _) om rfl hs7) pt ?_
   refine fq<|E' (Zam lk cv gx rfl nb rfl ZjP hs5) ptn<|sn'<|Zap<|Vw (Zaj lk gx Zb4 rfl)<|E' (Zam lk cv gx rfl nb rfl Ze2 hs6) ptn<|Zak<|Zau<|Zal<|Zap<|mw<|?_
   refine ad<|mw<|Zak<|Zax<|?_
   refine lU' (⟨i5+1,v5+1⟩) (by (try dsimp only);omega) (by refine zz ?_;exact bkE' 8 hn hlt (by repeat (first | exact wk0 | refine wka ?_ | refine wk1 rfl ?_ | refine wk1 (by first | rfl | exact ivx om | (rw[hC];done) | (rw[hC,hB];done) | (rw[hC,hB];rfl)) ?_)) (by rw[hC,hW,List.length_append,ZaG,Zbn];rfl) (hT:=by simp[AV.lt,AV.ltL,Ent.lt]) (hE:=by simp[AV.lt,AV.ltL,Ent.lt]))
  rw[if_neg hc8] at hB
  refine za<|Zab<|ZaJ<|dg<|Dw (Zaa lk gx gt3)<|Dw vm<|Dw vm<|?_
  refine D' (ZaP lk lk gx ZaV nb ro om (by first | rfl | (simp;done) | omega)) pt ?_
  refine D' (Zcb lk gx ZaV om rfl) pt ?_
  refine Dw (Zaj lk gx Zb4 rfl)<|Dw (ZaC (Zej cv rfl cv rfl))<|Zc0 rfl rfl (hlk hn rfl) (ZfZ (Zei cv rfl)) pt Zgm<|ZaM<|?_
  refine ZcZ ZjQ ?_
  refine E' (Zbz (Zbh lk gx rfl Zmj nb) lk gx (Zbu _) om rfl hs7) pt ?_
  refine fq<|E' (Zam lk cv gx rfl nb rfl ZjP hs5) ptn<|sn'<|Zap<|Vw (Zaj lk gx Zb4 rfl)<|E' (Zam lk cv gx rfl nb rfl Ze2 hs6) ptn<|Zak<|Zau<|Zal<|Zap<|mw<|?_
  refine ad<|mw<|Zak<|Zax<|?_
  refine lU' (⟨i5+1,v5+1⟩) (by (try dsimp only);omega) (by refine zz ?_;exact bkE' 8 hn hlt (by repeat (first | exact wk0 | refine wka ?_ | refine wk1 rfl ?_ | refine wk1 (by first | rfl | exact ivx om | (rw[hC];done) | (rw[hC,hB];done) | (rw[hC,hB];rfl)) ?_)) (by rw[hC,hW,List.length_append,ZaG,Zbn];rfl) (hT:=by simp[AV.lt,AV.ltL,Ent.lt]) (hE:=by simp[AV.lt,AV.ltL,Ent.lt]))
 have hi:M.take i5=M:=List.take_of_length_le om
 rw[hi] at *
 refine Zaw<|Zaq<|Zaq<|ZaH<|Zal<|Zab<|wm<|Vw (Za6 lk lki)<|mw<|?_
 refine sp' (t:=147) gt pt pt (fun hg147=>?_) (fun hg147=>?_)
 ·refine sd<|fq<|sd<|Vw (Zaa lk gx gt3)<|sd<|Vw (ZbK lk)<|sd<|Vw (Zby lk lki)<|Vw (Zai lk lk)<|sn'<|?_
  refine cd' lk (fun hc9=>?_) (fun hc9=>?_)
  ·rw[if_neg (fun e=>e hg147),if_pos om] at hTR
   refine Zap<|ms<|Zab<|wm<|Vw (Za0 lk lki)<|sn'<|?_
   refine Zgr lk (by rfl) ?_
   refine wr'<|Vw (ZaC Zeh)<|mw<|E' (Zam lk cv gx rfl nb rfl ZdN hs2) ptn<|mr<|Zaf<|Zad (rsn (rm1 (rr_c gt gx (ld1 Zdb rfl)) (rm1 (rr_t gt) rm0)))<|rtW'<|?_
   rw[hTR];exact ZfI
  rw[if_neg (fun e=>e hg147),if_neg om] at hTR
  refine za<|Zab<|wm<|Vw (Za0 lk lki)<|sn'<|?_
  refine ZeL lk (by exact decide_eq_false (fun e=>e hg147)) ?_
  refine Zay ?_
  refine ZaS (ALe.iceCellR (hga hn rfl) (hga hn rfl) om gt3 (List.take_of_length_le (by rw[Zbu];exact Nat.le_refl _)) (by rw[Zbu];exact Nat.le_refl _) pt3 hs7 hs5) ?_
  refine wr'<|Vw (Zaj lk gx Zdb rfl)<|E' (Zam lk cv gx rfl nb rfl ZdN hs2) ptn<|mr<|Zad (rsn (rm1 (rr_c gt gx (ld1 Zdb rfl)) (rm1 (rr_t gt) rm0)))<|rtW'<|?_
  rw[hTR];show Wk _ (.tup [tabA (Zdg a es),iv 0]);rw[show Zdg a es=(Za4 a es tMin,chgs (Za4 a es) M) from Prod.ext hT1 hT2];exact Wk.tup (wkw (Wk.agg (wk1 rfl (wk1 rfl (wk1 rfl (wkw Wk.full wk0))))) (wk1 rfl wk0))
 rw[if_pos hg147] at hTR
 refine so<|so<|so<|so<|Vw (Zah lk lkb)<|sn'<|ZaO lk<|za<|Zab<|wm<|?_
 refine Vw (Za0 lk lki)<|sn'<|?_
 refine Zgr lk (by exact decide_eq_true hg147) ?_
 refine wr'<|Vw (ZaC Zeh)<|mw<|E' (Zam lk cv gx rfl nb rfl ZdN hs2) ptn<|mr<|Zaf<|Zad (rsn (rm1 (rr_c gt gx (ld1 Zdb rfl)) (rm1 (rr_t gt) rm0)))<|rtW'<|?_
 rw[hTR];exact ZfI
end
section
open Go.Ab Go.RowKit Civ
attribute [local simp] ZbN Zcf Zb0 ZbD Zbq Zdm Zdo Zdh
theorem okT_chk0 {t:Tab}(h:ZbV t=0):okT t:=by
 obtain⟨_,h2,h3⟩:=Zqt h
 have e:=Zti h2
 refine⟨by simp only[maxLen];omega,fun x hx=>?_⟩
 have:=Zti (h3 x hx).2
 simp only[maxLen];omega
end
section
open Go
def ltS (a b:ByteArray):Bool:=Op.bytesLess a.toList b.toList
theorem ZgB {a b:ByteArray}:ltS a b=true↔a.data.toList<b.data.toList:=by
 unfold ltS;rw[bytesLess_eq,Lib.toList_data,Lib.toList_data];simp
theorem Zh4 (a:ByteArray):ltS a a=false:=by
 rw[Bool.eq_false_iff,ne_eq,ZgB];exact List.lt_irrefl _
theorem Zha {a b c:ByteArray}(h1:ltS a b=true) (h2:ltS b c=true):ltS a c=true:=by
 rw[ZgB] at *;exact List.lt_trans h1 h2
theorem ZdB {a b:ByteArray}(h:ltS a b=true):ltS b a=false:=by
 rw[Bool.eq_false_iff,ne_eq,ZgB];rw[ZgB] at h;exact List.lt_asymm h
theorem ZjA {a b:ByteArray}(h:a.data.toList=b.data.toList):a=b:=by
 cases a;cases b;simp at h;congr 1
theorem Znd {a b:ByteArray}(h1:ltS a b=false) (h2:ltS b a=false):a=b:=by
 rw[Bool.eq_false_iff,ne_eq,ZgB,List.not_lt] at *
 exact ZjA (List.le_antisymm h2 h1)
theorem Zo5 {a b:ByteArray}(h:ltS a b=true):a≠b:=fun e=>by subst e;rw[Zh4] at h;cases h
theorem ZlN {a b c:ByteArray}(h1:ltS b a=false) (h2:ltS b c=true):ltS a c=true:=by
 cases h:ltS a b with
 | true=>exact Zha h h2
 | false=>rw[Znd h h1];exact h2
theorem ZlM {a b:ByteArray}(h:a≠b):ltS a b=true∨ltS b a=true:=by
 cases h1:ltS a b with
 | true=>exact .inl rfl
 | false =>
  cases h2:ltS b a with
  | true=>exact .inr rfl
  | false=>exact absurd (Znd h1 h2) h
theorem Zh6 (a b:ByteArray):(Op.bytesLess a.toList b.toList||a.toList==b.toList)=!ltS b a:=by
 have e:(a.toList==b.toList)=decide (a=b):=by
  rw[Bool.eq_iff_iff,beq_iff_eq,decide_eq_true_iff]
  exact⟨fun h=>ZjA (by rwa [Lib.toList_data,Lib.toList_data] at h),fun h=>by rw[h]⟩
 rw[e]
 show (ltS a b||decide (a=b))=!ltS b a
 by_cases h:a=b
 ·subst h;simp[Zh4]
 ·rcases ZlM h with h1 | h1
  ·rw[h1,ZdB h1];simp
  ·rw[h1,ZdB h1];simp[h]
def cmpS (a b:ByteArray):Int:=if ltS a b=true then -1 else if ltS b a=true then 1 else 0
theorem ZeX {a b:ByteArray}:cmpS a b<0↔ltS a b=true:=by unfold cmpS;split <;> (try split) <;> simp_all
theorem Zt0 {a b:ByteArray}:cmpS a b=0↔a=b:=by
 unfold cmpS
 constructor
 ·intro h
  split at h
  ·cases h
  ·split at h
   ·cases h
   ·exact Znd (by simp_all) (by simp_all)
 ·rintro rfl;rw[Zh4];simp
theorem ZpD {a b:ByteArray}:0<cmpS a b↔ltS b a=true:=by
 unfold cmpS
 cases h1:ltS a b with
 | true=>simp[ZdB h1]
 | false=>cases h2:ltS b a <;> simp
section
variable {α : Type}
def risN (l:List (ByteArray×α)):Prop:=l.Pairwise fun a b=>ltS a.1 b.1=true
def ZbY:List (ByteArray×α)→ByteArray→Option α
 | [],_=>none
 | n::l,nm=>if n.1=nm then some n.2 else ZbY l nm
def hasN (l:List (ByteArray×α)) (nm:ByteArray):Bool:=l.any fun n=>decide (n.1=nm)
def idxN (l:List (ByteArray×α)) (nm:ByteArray):Nat:=l.findIdx fun n=>decide (n.1=nm)
def posN (l:List (ByteArray×α)) (nm:ByteArray):Nat:=l.findIdx fun n=>!ltS n.1 nm
def insN (l:List (ByteArray×α)) (n:ByteArray×α):List (ByteArray×α):=l.take (posN l n.1)++n::l.drop (posN l n.1)
theorem Zez : ∀ (l:List (ByteArray×α)) (nm:ByteArray),hasN l nm=(ZbY l nm).isSome
 | [],_=>rfl
 | n::l,nm=>by
  have ih:=Zez l nm
  unfold hasN at ih ⊢
  rw[List.any_cons,ZbY,ih]
  split
  ·rename_i h;simp[h]
  ·rename_i h;simp[h]
theorem Ztw (n:ByteArray×α) (l:List (ByteArray×α)) (nm:ByteArray):hasN (n::l) nm=(decide (n.1=nm)||hasN l nm):=rfl
theorem Zd4 {l:List (ByteArray×α)}{nm:ByteArray}:hasN l nm=true↔nm∈l.map (·.1):=by
 unfold hasN;simp only[List.any_eq_true,decide_eq_true_eq,List.mem_map]
theorem ZeT {l:List (ByteArray×α)}{nm:ByteArray}:ZbY l nm=none↔nm ∉ l.map (·.1):=by
 rw[←Zd4,Zez];cases ZbY l nm <;> simp
theorem Zey : ∀ {l:List (ByteArray×α)}{nm:ByteArray}{t:α},ZbY l nm=some t→(nm,t)∈l
 | n::l,nm,t,h=>by
  rw[ZbY] at h
  split at h
  ·rename_i e;subst e;cases h;exact List.mem_cons_self
  ·exact List.mem_cons_of_mem _ (Zey h)
theorem ZdI {n m:ByteArray×α}{l:List (ByteArray×α)}(h:risN (n::l)) (hm:m∈l):ltS n.1 m.1=true:=(List.pairwise_cons.1 h).1 m hm
theorem ZfS {n:ByteArray×α}{l:List (ByteArray×α)}(h:risN (n::l)):risN l:=(List.pairwise_cons.1 h).2
theorem ZlI : ∀ {l:List (ByteArray×α)}{nm:ByteArray}{t:α},risN l→(nm,t)∈l→ZbY l nm=some t
 | n::l,nm,t,hr,h=>by
  rw[ZbY]
  rcases List.mem_cons.1 h with rfl | h
  ·rw[if_pos rfl]
  ·rw[if_neg (Zo5 (ZdI hr h))]
   exact ZlI (ZfS hr) h
theorem ZeO {l:List (ByteArray×α)}(h:risN l):(l.map (·.1)).Nodup:=List.pairwise_map.2 (h.imp fun h=>Zo5 h)
theorem Zsu : ∀ {l m:List (ByteArray×α)},risN l→risN m→(∀ nm,ZbY l nm=ZbY m nm)→l=m
 | [],[],_,_,_=>rfl
 | [],n::m,_,_,h=>by have:=h n.1;rw[ZbY,ZbY,if_pos rfl] at this;cases this
 | n::l,[],_,_,h=>by have:=h n.1;rw[ZbY,ZbY,if_pos rfl] at this;cases this
 | n::l,k::m,hl,hm,h=>by
  have key:n.1=k.1:=by
   refine Decidable.byContradiction fun hne=>?_
   rcases ZlM hne with h1 | h1
   ·have:=h n.1
    rw[ZbY,if_pos rfl,ZbY,if_neg (Ne.symm hne)] at this
    have h2:=ZdI hm (Zey this.symm)
    have:=ZdB h1;rw[h2] at this;cases this
   ·have:=h k.1
    rw[ZbY,if_neg hne,ZbY,if_pos rfl] at this
    have h2:=ZdI hl (Zey this)
    have:=ZdB h1;rw[h2] at this;cases this
  have hv:n.2=k.2:=by
   have:=h n.1
   rw[ZbY,if_pos rfl,ZbY,if_pos key.symm] at this
   exact Option.some.inj this
  have e:n=k:=Prod.ext key hv
  subst e
  refine congrArg _ (Zsu (ZfS hl) (ZfS hm) fun nm=>?_)
  by_cases hn:n.1=nm
  ·subst hn
   rw[ZeT.2 fun hx=>?_,ZeT.2 fun hx=>?_]
   ·obtain⟨x,hx,e⟩:=List.mem_map.1 hx;exact Zo5 (ZdI hm hx) e.symm
   ·obtain⟨x,hx,e⟩:=List.mem_map.1 hx;exact Zo5 (ZdI hl hx) e.symm
  ·have:=h nm
   rwa [ZbY,if_neg hn,ZbY,if_neg hn] at this
theorem pos_is {l:List (ByteArray×α)}{nm:ByteArray}{i:Nat}(hi:i≤l.length) (h1 : ∀ k (h:k<l.length),k<i→ltS l[k].1 nm=true) (h2 : ∀ k (h:k<l.length),i≤k→ltS l[k].1 nm=false):posN l nm=i:=by
 unfold posN
 rcases Nat.lt_or_ge i l.length with hlt | hge
 ·rw[List.findIdx_eq hlt]
  exact⟨by rw[h2 i hlt (Nat.le_refl _)];rfl,fun j hj=>by rw[h1 j om hj];rfl⟩
 ·rw[List.findIdx_eq_length.2 fun x hx=>by obtain⟨k,hk,rfl⟩:=List.getElem_of_mem hx;rw[h1 k hk om];rfl]
  omega
theorem pos_le (l:List (ByteArray×α)) (nm:ByteArray):posN l nm≤l.length:=List.findIdx_le_length
theorem Ztr {l:List (ByteArray×α)}{nm:ByteArray}(h:hasN l nm=true) : ∃ hi:idxN l nm<l.length,l[idxN l nm].1=nm:=by
 have hi:idxN l nm<l.length:=List.findIdx_lt_length.2 (by unfold hasN at h;simpa using h)
 have:=List.findIdx_getElem (w:=hi)
 exact⟨hi,of_decide_eq_true this⟩
theorem pos_low {l:List (ByteArray×α)}{nm:ByteArray}{k:Nat}(h:k<posN l nm):ltS (l[k]'(Nat.lt_of_lt_of_le h (pos_le l nm))).1 nm=true:=by
 have:=List.not_of_lt_findIdx h
 simpa using this
theorem pos_high {l:List (ByteArray×α)}(hr:risN l) {nm:ByteArray}{k:Nat}(hk:k<l.length) (h:posN l nm≤k):ltS l[k].1 nm=false:=by
 have hp:posN l nm<l.length:=by omega
 have h0:ltS l[posN l nm].1 nm=false:=by
  have:=List.findIdx_getElem (w:=hp)
  rw[Bool.not_eq_true'] at this;exact this
 rcases Nat.lt_or_ge (posN l nm) k with e | e
 ·have:=List.pairwise_iff_getElem.1 hr _ _ hp hk e
  cases h1:ltS l[k].1 nm with
  | false=>rfl
  | true=>rw[Zha this h1] at h0;cases h0
 ·have:posN l nm=k:=by omega
  subst this;exact h0
theorem ZsQ {l:List (ByteArray×α)}(hr:risN l) {nm:ByteArray}(h:hasN l nm=true):posN l nm=idxN l nm:=by
 obtain⟨hi,he⟩:=Ztr h
 refine pos_is (Nat.le_of_lt hi) (fun k hk hlt=>?_) fun k hk hge=>?_
 ·have:=List.pairwise_iff_getElem.1 hr _ _ hk hi hlt
  rwa [he] at this
 ·rcases Nat.lt_or_ge (idxN l nm) k with e | e
  ·have:=List.pairwise_iff_getElem.1 hr _ _ hi hk e
   rw[he] at this;exact ZdB this
  ·have:idxN l nm=k:=by omega
   subst this;rw[he];exact Zh4 _
theorem ZsR {l:List (ByteArray×α)}(hr:risN l) {nm:ByteArray}:hasN l nm=true ↔ ∃ h:posN l nm<l.length,l[posN l nm].1=nm:=by
 constructor
 ·intro h
  obtain⟨hi,he⟩:=Ztr h
  have e:=ZsQ hr h
  exact⟨by rw[e];exact hi,by simp only[e];exact he⟩
 ·rintro⟨h,he⟩
  rw[Zd4]
  exact List.mem_map.2 ⟨_,List.getElem_mem h,he⟩
theorem look_idx {l:List (ByteArray×α)}{nm:ByteArray}:ZbY l nm=(l[idxN l nm]?).map (·.2):=by
 unfold idxN
 induction l with
 | nil=>rfl
 | cons n l ih =>
  rw[ZbY,List.findIdx_cons]
  split
  ·rename_i h;simp[h]
  ·rename_i h;simp[h,ih]
theorem Zst {l m:List (ByteArray×α)}(h:risN l) (e:m.map (·.1)=l.map (·.1)):risN m:=by
 have:(l.map (·.1)).Pairwise fun a b=>ltS a b=true:=List.pairwise_map.2 h
 rw[←e] at this
 exact List.pairwise_map.1 this
theorem ris_ins {l:List (ByteArray×α)}{n:ByteArray×α}(hr:risN l) (h:hasN l n.1=false):risN (insN l n):=by
 unfold insN risN
 rw[List.pairwise_append,List.pairwise_cons]
 have hlow : ∀ a∈l.take (posN l n.1),ltS a.1 n.1=true:=fun a ha=>by
  obtain⟨k,hk,rfl⟩:=List.getElem_of_mem ha
  rw[List.length_take] at hk
  rw[List.getElem_take]
  exact pos_low om
 have hhigh : ∀ b∈l.drop (posN l n.1),ltS n.1 b.1=true:=fun b hb=>by
  obtain⟨k,hk,rfl⟩:=List.getElem_of_mem hb
  rw[List.length_drop] at hk
  rw[List.getElem_drop]
  have h1:=pos_high hr (show posN l n.1+k<l.length by omega) (Nat.le_add_right _ _)
  refine (ZlM (fun e=>?_)).resolve_right (by rw[h1];simp)
  have:hasN l n.1=true:=Zd4.2 (List.mem_map.2 ⟨_,List.getElem_mem _,e.symm⟩)
  rw[h] at this;cases this
 refine⟨hr.sublist (List.take_sublist _ _),⟨hhigh,hr.sublist (List.drop_sublist _ _)⟩,fun a ha b hb=>?_⟩
 rcases List.mem_cons.1 hb with rfl | hb
 ·exact hlow a ha
 ·exact Zha (hlow a ha) (hhigh b hb)
def patchN {π:Type}(pe:α→π→Int) (pv:α→π→α):List (ByteArray×α)→List (ByteArray×π)→List (ByteArray×α)×Int
 | l,[]=>(l,0)
 | l,p::ps=>match ZbY l p.1 with
  | none=>(l,5)
  | some t=>if pe t p.2≠0 then (l,pe t p.2) else patchN pe pv (l.set (idxN l p.1) (p.1,pv t p.2)) ps
section
variable {π : Type} [DecidableEq α]
def betD (r s:List (ByteArray×α)):List ByteArray:=(r.filter fun n=>!hasN s n.1).map (·.1)
def betP (r s:List (ByteArray×α)):List (ByteArray×α):=s.filter fun n=>!hasN r n.1
def betF (pd:α→α→π) (r:List (ByteArray×α)) (n:ByteArray×α):Option (ByteArray×π):=match ZbY r n.1 with
 | none=>none
 | some t=>if t=n.2 then none else some (n.1,pd t n.2)
def betT (pd:α→α→π) (r s:List (ByteArray×α)):List (ByteArray×π):=s.filterMap (betF pd r)
theorem Zl9 {pd:α→α→π}{r:List (ByteArray×α)}{n:ByteArray×α}{p:ByteArray×π}(h:betF pd r n=some p):p.1=n.1 ∧ ∃ t,ZbY r n.1=some t∧t≠n.2∧p.2=pd t n.2:=by
 unfold betF at h
 split at h
 ·cases h
 ·rename_i t ht
  split at h
  ·cases h
  ·rename_i hne;cases h;exact⟨rfl,t,ht,hne,rfl⟩
end
end
end
section
open Go.Ab Civ
abbrev Nam:=ByteArray×Tab
abbrev Rel:=List Nam×List Lnk
abbrev NPt:=ByteArray×Pat
abbrev Upd:=List ByteArray×List Nam×List NPt×List Lnk
def rel0:Rel:=([],[])
def upd0:Upd:=([],[],[],[])
def Zc6 (p:Option ByteArray) (nm:ByteArray):Bool:=match p with
 | none=>true
 | some q=>ltS q nm
def chkN:Option ByteArray→List Nam→Int
 | _,[]=>0
 | p,n::l=>if Zch n.1=false then 1 else if ZbV n.2≠0 then ZbV n.2 else if Zc6 p n.1=false then 4 else chkN (some n.1) l
def chkL (t:List Nam):Option ByteArray→List Lnk→Int
 | _,[]=>0
 | p,l::ls=>if Zch l.2=false then 1 else if Zc6 p l.2=false then 4 else if hasN t l.2=true then 6 else if hasN t l.1=false then 5 else chkL t (some l.2) ls
def Zbb (r:Rel):Int:=if 20<r.1.length∨20<r.2.length then 2 else if chkN none r.1≠0 then chkN none r.1 else chkL r.1 none r.2
def Zgw {α:Type}(f:α→ByteArray) (l:List α):Nat→Option ByteArray
 | 0=>none
 | i+1=>(l[i]?).map f
theorem ZeQ {α:Type}{f:α→ByteArray}{l:List α}{i:Nat}(h:i<l.length):Zgw f l (i+1)=some (f l[i]):=by
 show (l[i]?).map f=_
 rw[List.getElem?_eq_getElem h];rfl
theorem chkN_at {p:Option ByteArray}{l:List Nam}{i:Nat}(h:i<l.length):chkN p (l.drop i)=if Zch l[i].1=false then 1 else if ZbV l[i].2≠0 then ZbV l[i].2 else if Zc6 p l[i].1=false then 4 else chkN (Zgw (·.1) l (i+1)) (l.drop (i+1)):=by
 rw[List.drop_eq_getElem_cons h,ZeQ h];rfl
theorem chkL_at {t:List Nam}{p:Option ByteArray}{l:List Lnk}{i:Nat}(h:i<l.length):chkL t p (l.drop i)=if Zch l[i].2=false then 1 else if Zc6 p l[i].2=false then 4 else if hasN t l[i].2=true then 6 else if hasN t l[i].1=false then 5 else chkL t (Zgw (·.2) l (i+1)) (l.drop (i+1)):=by
 rw[List.drop_eq_getElem_cons h,ZeQ h];rfl
theorem ZnI : ∀ {l:List Nam}{p:Option ByteArray},chkN p l=0→(∀ n∈l,Zch n.1=true∧ZbV n.2=0)∧risN l ∧ ∀ n∈l,Zc6 p n.1=true
 | [],_,_=>⟨fun n hn=>(by cases hn),.nil,fun n hn=>(by cases hn)⟩
 | m::l,p,h=>by
  rw[chkN] at h
  split at h
  ·cases h
  rename_i h1
  split at h
  ·rename_i h2;exact absurd h h2
  rename_i h2
  split at h
  ·cases h
  rename_i h3
  obtain⟨a,b,c⟩:=ZnI h
  have h3':Zc6 p m.1=true:=by simpa using h3
  refine⟨fun n hn=>?_,List.pairwise_cons.2 ⟨c,b⟩,fun n hn=>?_⟩
  ·rcases List.mem_cons.1 hn with rfl | hn
   ·exact⟨by simpa using h1,Decidable.of_not_not h2⟩
   ·exact a n hn
  ·rcases List.mem_cons.1 hn with rfl | hn
   ·exact h3'
   ·have:=c n hn
    cases p with
    | none=>rfl
    | some q=>exact Zha h3' this
theorem Zt8 : ∀ {l:List Nam}{p:Option ByteArray},(∀ n∈l,Zch n.1=true∧ZbV n.2=0)→risN l→(∀ n∈l,Zc6 p n.1=true)→chkN p l=0
 | [],_,_,_,_=>rfl
 | m::l,p,h1,h2,h3=>by
  obtain⟨a,b⟩:=h1 m (by simp)
  rw[chkN,if_neg (by simp[a]),if_neg (by simp[b]),if_neg (by simp[h3 m (by simp)])]
  exact Zt8 (fun n hn=>h1 n (by simp[hn])) (ZfS h2) fun n hn=>ZdI h2 hn
def risL2 (l:List Lnk):Prop:=l.Pairwise fun a b=>ltS a.2 b.2=true
theorem Zt9 {t:List Nam} : ∀ {l:List Lnk}{p:Option ByteArray},chkL t p l=0→(∀ n∈l,Zch n.2=true∧hasN t n.2=false∧hasN t n.1=true)∧risL2 l ∧ ∀ n∈l,Zc6 p n.2=true
 | [],_,_=>⟨fun n hn=>(by cases hn),.nil,fun n hn=>(by cases hn)⟩
 | m::l,p,h=>by
  rw[chkL] at h
  split at h
  ·cases h
  rename_i h1
  split at h
  ·cases h
  rename_i h2
  split at h
  ·cases h
  rename_i h3
  split at h
  ·cases h
  rename_i h4
  obtain⟨a,b,c⟩:=Zt9 h
  have h3':Zc6 p m.2=true:=by simpa using h2
  refine⟨fun n hn=>?_,List.pairwise_cons.2 ⟨c,b⟩,fun n hn=>?_⟩
  ·rcases List.mem_cons.1 hn with rfl | hn
   ·exact⟨by simpa using h1,by simpa using h3,by simpa using h4⟩
   ·exact a n hn
  ·rcases List.mem_cons.1 hn with rfl | hn
   ·exact h3'
   ·have:=c n hn
    cases p with
    | none=>rfl
    | some q=>exact Zha h3' this
theorem Zua {t:List Nam} : ∀ {l:List Lnk}{p:Option ByteArray},(∀ n∈l,Zch n.2=true∧hasN t n.2=false∧hasN t n.1=true)→risL2 l→(∀ n∈l,Zc6 p n.2=true)→chkL t p l=0
 | [],_,_,_,_=>rfl
 | m::l,p,h1,h2,h3=>by
  obtain⟨a,b,c⟩:=h1 m (by simp)
  rw[chkL,if_neg (by simp[a]),if_neg (by simp[h3 m (by simp)]),if_neg (by simp[b]),if_neg (by simp[c])]
  exact Zua (fun n hn=>h1 n (by simp[hn])) (List.pairwise_cons.1 h2).2 (List.pairwise_cons.1 h2).1
theorem Zin {r:Rel}(h:Zbb r=0):r.1.length≤20∧r.2.length≤20∧chkN none r.1=0∧chkL r.1 none r.2=0:=by
 unfold Zbb at h
 split at h
 ·cases h
 rename_i h1
 split at h
 ·rename_i h2;exact absurd h h2
 rename_i h2
 exact⟨by omega,by omega,Decidable.of_not_not h2,h⟩
theorem Zcj {r:Rel}(h:Zbb r=0):r.1.length≤20∧r.2.length≤20∧(∀ n∈r.1,Zch n.1=true∧ZbV n.2=0)∧risN r.1∧(∀ n∈r.2,Zch n.2=true∧hasN r.1 n.2=false∧hasN r.1 n.1=true)∧risL2 r.2:=by
 obtain⟨h1,h2,h3,h4⟩:=Zin h
 obtain⟨a,b,_⟩:=ZnI h3
 obtain⟨c,d,_⟩:=Zt9 h4
 exact⟨h1,h2,a,b,c,d⟩
def betU (r s:Rel):Upd:=(betD r.1 s.1,betP r.1 s.1,betT ZdA r.1 s.1,s.2)
def Zf7 (r s:Rel):Upd×Int:=if Zbb r≠0 then (upd0,Zbb r) else if Zbb s≠0 then (upd0,Zbb s) else (betU r s,0)
def tgtR (k:List Lnk) (nm:ByteArray):ByteArray:=match k[k.findIdx fun l=>decide (l.2=nm)]? with
 | some l=>l.1
 | none=>nm
def Zfc (r:Rel) (nm:ByteArray):Tab×Int:=if Zbb r≠0 then (Zgz,Zbb r) else match ZbY r.1 (tgtR r.2 nm) with
 | none=>(Zgz,5)
 | some t=>(t,0)
end
section
open Go.Ab Civ
section
variable {α : Type}
def srtN (l:List (ByteArray×α)):List (ByteArray×α):=l.foldl insN []
theorem Zpg (l:List (ByteArray×α)) (n:ByteArray×α):(insN l n).Perm (n::l):=by
 unfold insN
 refine List.perm_middle.trans ?_
 rw[List.take_append_drop]
theorem Zic : ∀ {l acc:List (ByteArray×α)},risN acc→((acc++l).map (·.1)).Nodup→risN (l.foldl insN acc)∧(l.foldl insN acc).Perm (acc++l)
 | [],acc,h,_=>⟨h,by simp⟩
 | n::l,acc,h,hn=>by
  have hp:=Zpg acc n
  have hno:hasN acc n.1=false:=by
   rw[Bool.eq_false_iff,ne_eq,Zd4]
   intro hm
   rw[List.map_append,List.map_cons,List.nodup_append] at hn
   exact hn.2.2 n.1 hm n.1 (by simp) rfl
  have hp2:(insN acc n++l).Perm (acc++n::l):=(hp.append_right l).trans (by
   rw[List.cons_append];exact List.perm_middle.symm)
  obtain⟨h1,h2⟩:=Zic (l:=l) (ris_ins h hno) (((hp2.map (·.1)).nodup_iff).2 hn)
  exact⟨h1,h2.trans hp2⟩
theorem Zkh {l:List (ByteArray×α)}(h:(l.map (·.1)).Nodup):risN (srtN l):=(Zic .nil (by simpa using h)).1
theorem ZdE {l:List (ByteArray×α)}(h:(l.map (·.1)).Nodup):(srtN l).Perm l:=(Zic (l:=l) (acc:=[]) .nil (by simpa using h)).2
theorem Zte {l m:List (ByteArray×α)}(h:(l.map (·.1)).Nodup) (hp:l.Perm m) (x:ByteArray):ZbY l x=ZbY m x:=by
 have key : ∀ {l:List (ByteArray×α)} {t:α},(l.map (·.1)).Nodup→(x,t)∈l→ZbY l x=some t:=by
  intro l t
  induction l with
  | nil=>intro _ h;cases h
  | cons n l ih =>
   intro hn hm
   rw[List.map_cons,List.nodup_cons] at hn
   rw[ZbY]
   rcases List.mem_cons.1 hm with rfl | hm
   ·rw[if_pos rfl]
   ·rw[if_neg fun e=>hn.1 (by rw[e];exact List.mem_map.2 ⟨_,hm,rfl⟩)];exact ih hn.2 hm
 cases h1:ZbY l x with
 | some t=>exact (key ((hp.map (·.1)).nodup_iff.1 h) (hp.mem_iff.1 (Zey h1))).symm
 | none=>exact (ZeT.2 fun hm=>ZeT.1 h1 ((hp.map (·.1)).mem_iff.2 hm)).symm
theorem ris_perm {l m:List (ByteArray×α)}(h1:risN l) (h2:risN m) (hp:l.Perm m):l=m:=Zsu h1 h2 fun x=>Zte (ZeO h1) hp x
theorem Zr7 {l m:List (ByteArray×α)}(hn:(l.map (·.1)).Nodup) (hp:m.Perm l) (hs:m.Pairwise fun a b=>ltS b.1 a.1=false):m=srtN l:=by
 refine ris_perm ?_ (Zkh hn) (hp.trans (ZdE hn).symm)
 have hnm:m.Pairwise fun a b=>a.1≠b.1:=(List.pairwise_map (f:=Prod.fst)).1 ((hp.map Prod.fst).nodup_iff.2 hn)
 exact (hs.and hnm).imp fun h=>(ZlM h.2).resolve_right (by rw[h.1];simp)
end
def sw (l:Lnk):Lnk:=(l.2,l.1)
def srtL (k:List Lnk):List Lnk:=(srtN (k.map sw)).map sw
theorem sw_sw:sw ∘ sw=id:=by funext x;rfl
theorem Zkf (k:List Lnk):(k.map sw).map (·.1)=k.map (·.2):=by rw[List.map_map];rfl
theorem Zli {k:List Lnk}(h:(k.map (·.2)).Nodup):(srtL k).Perm k:=by
 have:=((ZdE (l:=k.map sw) (by rw[Zkf];exact h)).map sw)
 rw[List.map_map,sw_sw,List.map_id] at this
 exact this
theorem srtL_ris {k:List Lnk}(h:(k.map (·.2)).Nodup):risL2 (srtL k):=by
 have:=Zkh (l:=k.map sw) (by rw[Zkf];exact h)
 exact List.pairwise_map.2 this
theorem Zr8 {k m:List Lnk}(hn:(k.map (·.2)).Nodup) (hp:m.Perm k) (hs:m.Pairwise fun a b=>ltS b.2 a.2=false):m=srtL k:=by
 have:=Zr7 (l:=k.map sw) (m:=m.map sw) (by rw[Zkf];exact hn) (hp.map sw) (List.pairwise_map.2 hs)
 unfold srtL
 rw[←this,List.map_map,sw_sw,List.map_id]
def mapT (s:Src) (zs:List Zon):List Nam:=zs.map fun z=>(z.1,(ofV s z).1)
def errT (s:Src) (zs:List Zon):Int:=ZaT (fun z=>(ofV s z).2) zs
def Zex (s:Src):Rel×Int:=if Zbw s≠0 then (rel0,Zbw s) else if errT s (srtN s.2.1)≠0 then (rel0,errT s (srtN s.2.1)) else ((mapT s (srtN s.2.1),srtL s.2.2),0)
theorem Zqb (s:Src) (zs:List Zon):(mapT s zs).map (·.1)=zs.map (·.1):=by unfold mapT;rw[List.map_map];rfl
theorem make_ok {s:Src}(h:(Zex s).2=0):Zbw s=0∧errT s (srtN s.2.1)=0∧(Zex s).1=(mapT s (srtN s.2.1),srtL s.2.2):=by
 unfold Zex at h ⊢
 split at h
 ·rename_i h1;exact absurd h h1
 rename_i h1
 split at h
 ·rename_i h2;exact absurd h h2
 rename_i h2
 rw[if_neg h1,if_neg h2]
 exact⟨Decidable.of_not_not h1,Decidable.of_not_not h2,rfl⟩
theorem Zfs {s:Src}(h:Zbw s=0):(s.2.1.map (·.1)).Nodup∧(s.2.2.map (·.2)).Nodup ∧ ∀ a∈s.2.1.map (·.1),∀ b∈s.2.2.map (·.2),a≠b:=by
 have:=(ZgK h).2.1
 unfold ZbP at this
 rw[List.nodup_append] at this
 exact this
theorem ZsT {z:List Zon}{nm:ByteArray}(h:¬Zdk z nm<0):nm∈z.map (·.1):=by
 unfold Zdk at h
 rw[Zts] at h
 simp only[Bool.not_eq_false,List.any_eq_true,decide_eq_true_eq] at h
 obtain⟨x,hx,e⟩:=h
 exact List.mem_map.2 ⟨x,hx,e⟩
theorem Zqc {s:Src}(h:(Zex s).2=0):Zbb (Zex s).1=0:=by
 obtain⟨h1,h2,h3⟩:=make_ok h
 obtain⟨n1,n2,n3⟩:=Zfs h1
 obtain⟨hE,_,hM,_,_⟩:=ZgK h1
 obtain⟨_,q2,q3,_,_,q6,q7⟩:=ZcS hE
 have hp:=ZdE n1
 have hpl:=Zli n2
 rw[h3]
 unfold Zbb
 have hnm:=Zqb s (srtN s.2.1)
 have hle:(mapT s (srtN s.2.1)).length=s.2.1.length:=by unfold mapT;rw[List.length_map,hp.length_eq]
 have hr:risN (mapT s (srtN s.2.1)):=Zst (l:=(srtN s.2.1).map fun z=>(z.1,(ofV s z).1)) (by
  show List.Pairwise _ _
  rw[List.pairwise_map];exact Zkh n1) rfl
 have hhas : ∀ x,hasN (mapT s (srtN s.2.1)) x=true↔x∈s.2.1.map (·.1):=fun x=>by rw[Zd4,hnm,(hp.map (·.1)).mem_iff]
 rw[if_neg (by rw[hle];show ¬(_∨20<(srtL s.2.2).length);rw[hpl.length_eq];omega)]
 have hc:chkN none (mapT s (srtN s.2.1))=0:=Zt8 (fun n hn=>by
  unfold mapT at hn
  obtain⟨z,hz,rfl⟩:=List.mem_map.1 hn
  have hz':=hp.mem_iff.1 hz
  refine⟨?_,?_⟩
  ·have:=q6 z hz'
   unfold Zek at this
   split at this
   ·cases this
   ·rename_i hh;exact Decidable.byContradiction fun hb=>hh (.inl hb)
  ·exact Zr0 (Zcu h2 z hz)) hr fun n hn=>rfl
 rw[if_neg (by simpa using hc)]
 refine Zua (fun l hl=>?_) (srtL_ris n2) fun n hn=>rfl
 have hl':=hpl.mem_iff.1 hl
 have hk:=q7 l hl'
 refine⟨?_,?_,?_⟩
 ·unfold ZdK at hk
  split at hk
  ·cases hk
  ·rename_i hh;exact (Decidable.of_not_not hh).2
 ·rw[Bool.eq_false_iff,ne_eq,hhas]
  exact fun hm=>n3 _ hm l.2 (List.mem_map.2 ⟨l,hl',rfl⟩) rfl
 ·rw[hhas]
  unfold Zem at hM
  rw[Bool.or_eq_false_iff] at hM
  have:=List.any_eq_false.1 hM.1 l hl'
  exact ZsT (by simpa using this)
end
section
open Go.Ab Go.RowKit Civ
attribute [local simp] Zbq ZbD
abbrev namC (n:Nam):List AV:=[sv n.1,iv n.2.1.1,iv n.2.1.2.1,sv n.2.1.2.2,chS n.2.2]
theorem Zev {n:Nat}(l:List Nam):AV.ltL n (rows namC l)=true:=Zcz (fun n x=>by simp[AV.ltL,AV.lt,Zbq]) l
attribute [local simp] Zev
theorem ZaY : ∀ x,(namC x).length=5:=fun _=>rfl
theorem Zcq (l:List Nam):(rows namC l).length=l.length*5:=Zbr ZaY l
abbrev nptC (p:NPt):List AV:=[sv p.1,iv p.2.1.1,iv p.2.1.2.1,sv p.2.1.2.2,iv p.2.2.1,iv p.2.2.2.1,chS p.2.2.2.2]
theorem ZlE {n:Nat}(l:List NPt):AV.ltL n (rows nptC l)=true:=Zcz (fun n x=>by simp[AV.ltL,AV.lt,Zbq]) l
attribute [local simp] ZlE
theorem Zo0 : ∀ x,(nptC x).length=7:=fun _=>rfl
theorem Zm9 (l:List NPt):(rows nptC l).length=l.length*7:=Zbr Zo0 l
abbrev relC (r:Rel):List AV:=[.sl r.1.length 5 false (rows namC r.1),.sl r.2.length 2 false (rows lnkC r.2)]
def okNam (n:Nam):Prop:=n.1.size≤maxLen∧okT n.2
def ZiV (r:Rel):Prop:=(∀ n∈r.1,okNam n) ∧ ∀ l∈r.2,l.1.size≤maxLen∧l.2.size≤maxLen
section
theorem ZiO {a0 a1 a2 a3 a4:AV}{l:List AV}:(a0::a1::a2::a3::a4::l).take 5=[a0,a1,a2,a3,a4]:=rfl
theorem Zrt {a0 a1 a2 a3 a4 c0 c1 c2 c3 c4:AV}{l:List AV}:setCells (a0::a1::a2::a3::a4::l) 0 [c0,c1,c2,c3,c4]=c0::c1::c2::c3::c4::l:=rfl
theorem Zrs {a0 a1 a2 a3 a4:AV}{l:List AV}:((a0::a1::a2::a3::a4::l).drop 1).take 4=[a1,a2,a3,a4]:=rfl
theorem ZuQ {a0 a1:AV}{l:List AV}:(a0::a1::l).take 2=[a0,a1]:=rfl
theorem Zru {a0 a1 c0 c1:AV}{l:List AV}:setCells (a0::a1::l) 0 [c0,c1]=c0::c1::l:=rfl
end
def c101:AC:=(Sr [Mb 2 false] (Sr [Mv 3 0,Mv 4 0,Bn 5 .neq 3 4,Mv 2 5] .ret))
theorem k101:ZaA Tryz.prog 101=some ⟨c101,[(.tmp 2)],6⟩:=by kernel_rfl
def c50:AC:=(Sr [Mc 4 0] (Sr [Mv 7 0,Cl 8 101 [(t 7)],Mv 5 8] (Sr [Mv 9 1,Cl 10 101 [(t 9)],Mv 6 10] (.seq (Sr [Mv 11 5] (Cd 11 (.seq (Sr [Mv 12 6] (Cd 12 (Sr [Mc 4 0] .ret) .skip)) (Sr [Oo 4 (.mv (.const (.int .i64 (-1))))] .ret)) .skip)) (.seq (Sr [Mv 13 6] (Cd 13 (Sr [Mc 4 1] .ret) .skip)) (.seq (Sr [Mv 14 0,Mv 15 1,Bn 16 .lss 14 15] (Cd 16 (Sr [Oo 4 (.mv (.const (.int .i64 (-1))))] .ret) .skip)) (.seq (Sr [Mv 17 0,Mv 18 1,Bn 19 .gtr 17 18] (Cd 19 (Sr [Mc 4 1] .ret) .skip)) (Sr [Mc 4 0] .ret))))))))
theorem k50:ZaA Tryz.prog 50=some ⟨c50,[(.tmp 4)],20⟩:=by kernel_rfl
def c123:AC:=(Sr [Oo 2 (.box 40 5 (t 0)),Mc 4 0] (Sr [Fa 5 0 2,Ld 6 5,Mv 7 1,Cl 8 50 [(t 6),(t 7)],Mv 4 8] .ret))
theorem k123:ZaA Tryz.prog 123=some ⟨c123,[(.tmp 4)],9⟩:=by kernel_rfl
def c122:AC:=(Sr [Mc 6 0,Mb 7 false] (Sr [Mv 12 0,Oo 13 (.len false (t 12)),Mv 8 13] (Sr [Mv 14 8,Mc 9 0,Mv 10 14] (.seq (.block 0 (.loop (.seq (Sr [Mv 15 9,Mv 16 10,Bn 17 .lss 15 16] (Cd 17 .skip (.exit 0))) (.block 1 (Sr [Mv 18 9,Mv 19 10,Bn 20 .add 18 19,Oo 21 (.cvi .u64 (t 20)),Oo 22 (.bin .shr (t 21) (.const (.int .u64 1))),Oo 23 (.cvi .i64 (t 22)),Mv 11 23] (Sr [Mv 24 2,Mv 25 0,Mv 26 11,Oo 27 (.ia 5 (t 25) (t 26)),Oo 28 (.load true 5 (t 27)),Mv 29 1,Oo 30 (.call (t 24) [(t 28),(t 29)]),Bc 31 .lss 30 0] (Cd 31 (.reg [Mv 32 11,Bc 33 .add 32 1,Mv 9 33]) (.reg [Mv 34 11,Mv 10 34])))))))) (Sr [Mv 35 9,Mv 36 9,Mv 37 8,Bn 38 .lss 36 37,Mv 39 38,Ot 40 39 (mt 2),Ot 41 39 (mt 0),Ot 42 39 (mt 9),Ot 43 39 (.ia 5 (t 41) (t 42)),Ot 44 39 (.load true 5 (t 43)),Ot 45 39 (mt 1),Ot 46 39 (.call (t 40) [(t 44),(t 45)]),Ot 47 39 (.bin .eql (t 46) (Ci 0)),Oo 48 (.pick (t 39) (t 47) (.const (.bool false))),Mv 6 35,Mv 7 48] .ret)))))
theorem k122:ZaA Tryz.prog 122=some ⟨c122,[(.tmp 6),(.tmp 7)],49⟩:=by kernel_rfl
def c61:AC:=(Sr [Mc 4 0,Mb 5 false] (Sr [Mv 6 0,Mv 7 1,Cl 8 122 [(t 6),(t 7),(.func 123)],Ex 9 8 0,Ex 10 8 1,Mv 4 9,Mv 5 10] .ret))
theorem k61:ZaA Tryz.prog 61=some ⟨c61,[(.tmp 4),(.tmp 5)],11⟩:=by kernel_rfl
def c17:AC:=(Sr [Oo 1 (.box 25 2 (t 0)),Mc 2 0] (.seq (Sr [Fa 12 0 1,Ld 13 12,Oo 14 (.len false (t 13)),Bc 15 .gtr 14 20,Mv 16 15,Of 17 16 (.fa 1 (t 1)),Of 18 16 (.load false 1 (t 17)),Of 19 16 (.len false (t 18)),Of 20 16 (.bin .gtr (t 19) (Ci 20)),Oo 21 (.pick (t 16) (.const (.bool true)) (t 20))] (Cd 21 (Sr [Mc 2 2] .ret) .skip)) (.seq (Sr [Fa 22 0 1,Ld 23 22,Oo 24 (.len false (t 23)),Mc 25 0] (.block 0 (.loop (Sr [Bn 26 .lss 25 24] (.seq (Cd 26 .skip (.exit 0)) (.seq (.block 1 (Sr [Mv 27 25,Oo 28 (.ia 5 (t 23) (t 25)),Oo 29 (.load true 5 (t 28)),Oo 4 (.new 40 5 [Ss,(iv 0),(iv 0),Ss,nl]),Mv 3 27,⟨none,none,(.store 5 (t 4) (t 29))⟩] (.seq (Sr [Fa 30 0 4,Ld 31 30,Cl 32 59 [(t 31)],Oo 33 (.un .not (t 32))] (Cd 33 (Sr [Mc 2 1] .ret) .skip)) (.seq (Sr [Fa 34 1 4,Oo 35 (.load true 4 (t 34)),Cl 36 60 [(t 35)],Mv 5 36] (Sr [Mv 37 5,Bc 38 .neq 37 0] (Cd 38 (Sr [Mv 39 5,Mv 2 39] .ret) .skip))) (Sd [Mv 40 3,Bc 41 .gtr 40 0,Mv 42 41,Ot 43 42 (.fa 0 (t 4)),Ot 44 42 (.load false 1 (t 43)),Ot 45 42 (.fa 0 (t 1)),Ot 46 42 (.load false 1 (t 45)),Ot 47 42 (mt 3),Ot 48 42 (.bin .sub (t 47) (Ci 1)),Ot 49 42 (.ia 5 (t 46) (t 48)),Ot 50 42 (.fa 0 (t 49)),Ot 51 42 (.load false 1 (t 50)),Ot 52 42 (.bin .leq (t 44) (t 51)),Oo 53 (.pick (t 42) (t 52) (.const (.bool false)))] (Cd 53 (Sr [Mc 2 4] .ret) .skip)))))) (.reg [Bc 54 .add 25 1,Mv 25 54]))))))) (.seq (Sr [Fa 55 1 1,Ld 56 55,Oo 57 (.len false (t 56)),Mc 58 0] (.block 2 (.loop (Sr [Bn 59 .lss 58 57] (.seq (Cd 59 .skip (.exit 2)) (.seq (.block 3 (Sr [Mv 60 58,Oo 61 (.ia 2 (t 56) (t 58)),Oo 62 (.load true 2 (t 61)),Oo 7 (.new 97 2 [Ss,Ss]),Mv 6 60,⟨none,none,(.store 2 (t 7) (t 62))⟩] (Sr [Fa 64 0 1,Ld 65 64,Fa 66 1 7,Ld 67 66,Cl 68 61 [(t 65),(t 67)],Mv 63 68,Ex 69 63 0,Ex 70 63 1,Mv 8 69,Mv 9 70] (Sr [Fa 72 0 1,Ld 73 72,Fa 74 0 7,Ld 75 74,Cl 76 61 [(t 73),(t 75)],Mv 71 76,Ex 77 71 0,Ex 78 71 1,Mv 10 77,Mv 11 78] (.block 4 (Sr [Fa 80 1 7,Ld 81 80,Cl 82 59 [(t 81)],Oo 83 (.un .not (t 82)),Mv 79 83] (Cd 79 (Sr [Mc 2 1] .ret) (Sd [Mv 85 6,Bc 86 .gtr 85 0,Mv 87 86,Ot 88 87 (.fa 1 (t 7)),Ot 89 87 (.load false 1 (t 88)),Ot 90 87 (.fa 1 (t 1)),Ot 91 87 (.load false 1 (t 90)),Ot 92 87 (mt 6),Ot 93 87 (.bin .sub (t 92) (Ci 1)),Ot 94 87 (.ia 2 (t 91) (t 93)),Ot 95 87 (.fa 1 (t 94)),Ot 96 87 (.load false 1 (t 95)),Ot 97 87 (.bin .leq (t 89) (t 96)),Oo 98 (.pick (t 87) (t 97) (.const (.bool false))),Mv 84 98] (Cd 84 (Sr [Mc 2 4] .ret) (Sr [Mv 100 9,Mv 99 100] (Cd 99 (Sr [Mc 2 6] .ret) (Sr [Mv 102 11,Oo 103 (.un .not (t 102)),Mv 101 103] (Cd 101 (Sr [Mc 2 5] .ret) .skip))))))))))))) (.reg [Bc 104 .add 58 1,Mv 58 104]))))))) (Sr [Mc 2 0] .ret)))))
theorem k17:ZaA Tryz.prog 17=some ⟨c17,[(.tmp 2)],105⟩:=by kernel_rfl
theorem Zto {a:ByteArray}{h:AH}:Ac 101 [sv a] h (bv false):=by
 refine tI' k101 fun N hn _ _ hbd=>?_
 simp only[tb'] at hbd ⊢
 refine wk'<|wm<|mw<|Vw (Zc2 lk lk)<|mr<|?_
 refine Zad rz<|rT'<|?_
 refine bvx ?_;simp
theorem ZtV {a b:ByteArray}{h:AH}:Ac 50 [sv a,sv b] h (iv (cmpS a b)):=by
 refine tI' k50 fun N hn _ _ hbd=>?_
 simp only[tb'] at hbd ⊢
 refine wk'<|wm<|Zac mp (Zto) pt<|ms<|wr'<|?_
 refine mw<|Zac mp (Zto) pt<|ms<|Zab<|wk'<|ZaO lk<|za<|?_
 refine Zab<|wk'<|ZaO lk<|za<|Zab<|wm<|mw<|?_
 refine Vw (v_lssS lk lk)<|sn'<|?_
 refine Zas lk (fun hc4=>?_) (fun hc4=>?_)
 ·have hl:ltS a b=true:=hc4
  refine wo<|Zaf<|Zad rz<|rT'<|?_
  refine ivx ?_;unfold cmpS;rw[if_pos hl]
 have hl:ltS a b=false:=hc4
 refine za<|Zab<|wm<|mw<|Vw (v_gtrS lk lk)<|sn'<|?_
 refine Zas lk (fun hc5=>?_) (fun hc5=>?_)
 ·have hg:ltS b a=true:=by have:=hc5;rwa [Zh6,Bool.not_not] at this
  refine wo<|Zaf<|Zad rz<|rT'<|?_
  refine ivx ?_;unfold cmpS;rw[if_neg (by rw[hl];simp),if_pos hg]
 have hg:ltS b a=false:=by have:=hc5;rwa [Zh6,Bool.not_not] at this
 refine za<|wo<|Zad rz<|rT'<|?_
 refine ivx ?_;unfold cmpS;rw[if_neg (by rw[hl];simp),if_neg (by rw[hg];simp)]
theorem ZlA {n:Nam}{nm:ByteArray}{h:AH}:Ac 123 [.agg (namC n),sv nm] h (iv (cmpS n.1 nm)):=by
 refine tI' k123 fun N hn _ _ hbd=>?_
 simp only[tb'] at hbd ⊢
 refine wr'<|E' (ZaU cv rfl hl0 ha0) pt<|ms<|wr'<|fq<|Vw (Zaa lk gx gt0)<|mw<|Zac mp (ZtV) pt<|mw<|Zak<|?_
 exact Zal<|Za1<|Zad rz<|rT' rfl
theorem mid_val {i j:Nat}(h:i+j≤4611686018427387904):IntKind.i64.wrap ((IntKind.u64.wrap ((i:Int)+(j:Int))).fdiv (2 ^ (min (1:Int).toNat IntKind.u64.bits)))=(((i+j)/2:Nat):Int):=by
 have e1:IntKind.u64.wrap ((i:Int)+(j:Int))=(i:Int)+(j:Int):=by
  have h2:((i:Int)+j)%2 ^ 64=(i:Int)+j:=Int.emod_eq_of_lt om om
  show (let r:=((i:Int)+j)%2 ^ 64;if (false&&decide (r≥2 ^ 63))=true then r-2 ^ 64 else r)=_
  simp only[Bool.false_and,Bool.false_eq_true,if_false]
  exact h2
 have e2:(2:Int) ^ (min (1:Int).toNat IntKind.u64.bits)=2:=by decide
 rw[e1,e2,Int.fdiv_eq_ediv_of_nonneg _ om,w64 om om]
 omega
theorem low_of {t:List Nam}(hr:risN t) {nm:ByteArray}{q k:Nat}(hq:q<t.length) (h:ltS t[q].1 nm=true) (hk:k≤q):ltS (t[k]'(by omega)).1 nm=true:=by
 rcases Nat.lt_or_ge k q with e | e
 ·exact Zha (List.pairwise_iff_getElem.1 hr _ _ om hq e) h
 obtain rfl:k=q:=by omega
 exact h
theorem high_of {t:List Nam}(hr:risN t) {nm:ByteArray}{q k:Nat}(hk:k<t.length) (hq:q≤k) (h:ltS (t[q]'(by omega)).1 nm=false):ltS t[k].1 nm=false:=by
 rcases Nat.lt_or_ge q k with e | e
 ·cases h1:ltS t[k].1 nm with
  | false=>rfl
  | true=>rw[Zha (List.pairwise_iff_getElem.1 hr _ _ om hk e) h1] at h;cases h
 obtain rfl:q=k:=by omega
 exact h
theorem Zug {t:List Nam}{nm:ByteArray}{full:Bool}{h:AH}(hr:risN t) (hl:t.length≤1000000) :
  Ac 122 [.sl t.length 5 full (rows namC t),sv nm,.v (.func (.func 123) #[] #[])] h (.tup [iv (posN t nm),bv (hasN t nm)]):=by
 refine tI' k122 fun N hn hlt _ hbd=>?_
 simp only[tb'] at hbd ⊢
 refine wm<|ms<|wm<|Vw (ZaB lk)<|ms<|Zab<|?_
 refine Zap<|mw<|mw<|ms<|Zab<|Zae<|?_
 refine w_lp (ι:=Nat×Nat) (fun (x_:Nat×Nat)=>match x_ with | ⟨i,j⟩=>[(9,iv (i:Int)),(10,iv (j:Int)),(11,.any)]++rn' 15 20) (fun (x_:Nat×Nat)=>match x_ with | ⟨i,j⟩=>[]) (fun (x_:Nat×Nat)=>match x_ with | ⟨i,j⟩=>i≤j∧j≤t.length∧(∀ k (hk:k<t.length),k<i→ltS t[k].1 nm=true) ∧ ∀ k (hk:k<t.length),j≤k→ltS t[k].1 nm=false) (fun (x_:Nat×Nat)=>match x_ with | ⟨i,j⟩=>j-i) (⟨0,t.length⟩) (by exact⟨Nat.zero_le _,Nat.le_refl _,fun k _ h=>by omega,fun k hk h=>by omega⟩) ?_
 rintro⟨i,j⟩ hi1
 try simp only[sm',Nat.reduceAdd]
 obtain⟨hi1,hi2,hi3,hi4⟩:=hi1
 refine Zab<|wm<|mw<|Vw (ZaL lk lk)<|sn'<|?_
 refine cd' lk (fun hc1=>?_) (fun hc1=>?_)
 ·have hij:i<j:=by omega
  have hq:(i+j)/2<t.length:=by omega
  refine za<|Zae<|wm<|mw<|?_
  refine V' (Zb5 lk lk om om) pt ?_
  refine V' (v_cvi lk) pt ?_
  refine V' (v_shr lk lki om) pt ?_
  refine V' (v_cvi lk) pt ?_
  rw[mid_val om]
  refine ms<|wm<|mw<|mw<|?_
  refine V' (ZaF (k:=(i+j)/2) lk lk ZaY nb ro om ro rfl) pt ?_
  refine Vw (Zav lk ZiO rfl)<|mw<|Zfp lk mp (ZlA (n:=t[(i+j)/2])) pt<|Vw (ZaL lk lki)<|sn'<|?_
  refine cd' lk (fun hc2=>?_) (fun hc2=>?_)
  ·have hlt:ltS t[(i+j)/2].1 nm=true:=ZeX.1 hc2
   refine Zap<|mw<|?_
   refine ad<|mw<|Zak<|Zau<|Zax<|?_
   refine lU' (⟨(i+j)/2+1,j⟩) (by (try dsimp only);exact⟨by omega,hi2,fun k hk h=>low_of hr hq hlt om,hi4⟩) (by refine zz ?_;exact ALe.same (by repeat (first | exact wk0 | refine wka ?_ | refine wk1 rfl ?_ | refine wk1 (by first | rfl | exact ivx om) ?_)) rfl)
  have hlt:ltS t[(i+j)/2].1 nm=false:=by rw[Bool.eq_false_iff,ne_eq,←ZeX];exact hc2
  refine Zap<|mw<|mw<|Zak<|Zau<|Zax<|?_
  refine lU' (⟨i,(i+j)/2⟩) (by (try dsimp only);exact⟨by omega,by omega,hi3,fun k hk h=>high_of hr hk h hlt⟩) (by refine zz ?_;exact ALe.same (by repeat (first | exact wk0 | refine wka ?_ | refine wk1 rfl ?_ | refine wk1 (by first | rfl | exact ivx om) ?_)) rfl)
 obtain rfl:i=j:=by omega
 have hpos:posN t nm=i:=pos_is hi2 hi3 hi4
 refine Zaw<|Zaq<|Zaq<|ZaH<|Zal<|wm<|mw<|mw<|Vw (ZaL lk lk)<|mw<|?_
 refine sp' (t:=39) gt pt pt (fun hg39=>?_) (fun hg39=>?_)
 ·have hi:i<t.length:=by omega
  have hhas:hasN t nm=decide (t[i].1=nm):=by rw[Bool.eq_iff_iff,ZsR hr,decide_eq_true_iff];constructor;(rintro⟨h1,h2⟩;simpa only [hpos] using h2);(intro h2;exact⟨by rw[hpos];exact hi,by simpa only [hpos] using h2⟩)
  refine sd<|mw<|sd<|mw<|sd<|mw<|sd<|?_
  refine V' (ZaF (k:=i) lk lk ZaY nb ro om ro rfl) pt ?_
  refine sd<|Vw (Zav lk ZiO rfl)<|sd<|mw<|sd<|Zfp lk mp (ZlA (n:=t[i])) pt<|sd<|Vw (Za6 lk lki)<|Vw (Zai lk lk)<|mw<|mr<|?_
  refine Zad ry<|rT'<|?_
  rw[hpos,hhas];refine congrArg (fun b=>AV.tup [iv (i:Int),bv b]) ?_;rw[Bool.eq_iff_iff,decide_eq_true_iff,decide_eq_true_iff];exact Zt0
 have hhas:hasN t nm=false:=by rw[Bool.eq_false_iff,ne_eq,ZsR hr];rintro⟨h1,_⟩;omega
 refine so<|so<|so<|so<|so<|so<|so<|so<|Vw (Zah lk lkb)<|mw<|mr<|?_
 refine Zad ry<|rT'<|?_
 rw[hpos,hhas]
theorem ZhX {t:List Nam}{nm:ByteArray}{full:Bool}{h:AH}(hr:risN t) (hl:t.length≤1000000) :
  Ac 61 [.sl t.length 5 full (rows namC t),sv nm] h (.tup [iv (posN t nm),bv (hasN t nm)]):=by
 refine tI' k61 fun N hn _ _ hbd=>?_
 simp only[tb'] at hbd ⊢
 refine wm<|ms<|wm<|mw<|Zac mp (Zug hr hl) pt<|Vw (ZaW lk gt)<|Vw (ZaW lk gt)<|mw<|?_
 exact mr<|Zad ry<|rT' rfl
theorem Zio {r:Rel}(h:20<r.1.length∨20<r.2.length):Zbb r=2:=if_pos h
theorem ZfA {r:Rel}(h:¬(20<r.1.length∨20<r.2.length)) (h2:chkN none r.1≠0):Zbb r=chkN none r.1:=by unfold Zbb;rw[if_neg h,if_pos h2]
theorem Zl8 {r:Rel}(h:¬(20<r.1.length∨20<r.2.length)) (h2:chkN none r.1=0):Zbb r=chkL r.1 none r.2:=by unfold Zbb;rw[if_neg h,if_neg (by simpa using h2)]
theorem ZsE {t:List Nam}{k:List Lnk}{f1 f2:Bool}{h:AH}(hok:ZiV (t,k)):Ac 17 [.agg [.sl t.length 5 f1 (rows namC t),.sl k.length 2 f2 (rows lnkC k)]] h (iv (Zbb (t,k))):=by
 refine tI' k17 fun N hn hlt _ hbd=>?_
 simp only[tb'] at hbd ⊢
 refine wr'<|E' (ZaU cv rfl hl0 ha0) pt<|ms<|Zab<|wr'<|fq<|Vw (Zaa lk gx gt0)<|Vw (ZaB lk)<|Vw (Zby lk lki)<|mw<|?_
 refine sp' (t:=16) gt pt pt (fun hg16=>?_) (fun hg16=>?_)
 ·have hR:Zbb (t,k)=2:=Zio (.inl (by show 20<t.length;omega))
  refine so<|so<|so<|so<|Vw (Zai lk lkb)<|sn'<|ZaQ lk<|wo<|?_
  refine Zaf<|Zad rz<|rT'<|?_
  rw[hR]
 refine sd<|fq<|sd<|Vw (Zaa lk gx gt1)<|sd<|Vw (ZaB lk)<|sd<|Vw (Zby lk lki)<|Vw (Zah lk lk)<|sn'<|?_
 refine cd' lk (fun hc1=>?_) (fun hc1=>?_)
 ·have hR:Zbb (t,k)=2:=Zio (.inr (by show 20<k.length;omega))
  refine wo<|Zaf<|Zad rz<|rT'<|?_
  rw[hR]
 have hno:¬(20<t.length∨20<k.length):=by omega
 refine za<|Zab<|wr'<|fq<|Vw (Zaa lk gx gt0)<|Vw (ZaB lk)<|ms<|Zae<|?_
 refine w_lp (ι:=Nat) (fun (i:Nat)=>[(25,iv (i:Int))]++rn' 2 4++rn' 26 29) (fun (i:Nat)=>[]) (fun (i:Nat)=>i≤t.length∧chkN none t=chkN (Zgw (·.1) t i) (t.drop i)) (fun (i:Nat)=>t.length-i) (0) (by exact⟨Nat.zero_le _,rfl⟩) ?_
 rintro i hi1
 try simp only[sm',Nat.reduceAdd]
 obtain⟨hi1,hi2⟩:=hi1
 refine wr'<|Vw (ZaL lk lk)<|sn'<|Zab<|?_
 refine cd' lk (fun hc2=>?_) (fun hc2=>?_)
 ·have hi:i<t.length:=by omega
  have hn_:=hok.1 _ (List.getElem_mem hi)
  rw[chkN_at hi] at hi2
  refine za<|Zab<|Zae<|wm<|?_
  refine V' (ZaF lk lk ZaY nb ro om ro rfl) pt ?_
  refine Vw (Zav lk ZiO rfl)<|E' (Za3 hl1 ha1) pt<|mw<|E' (Zam lk cv gx rfl nb rfl Zrt hs1) ptn<|sn'<|Zab<|wr'<|fq<|Vw (Zaa lk gx gt0)<|Zac mp (Zh2 hn_.1) pt<|Vw (Zaz lk)<|Zak<|?_
  refine Zal ?_
  refine Zas lk (fun hc3=>?_) (fun hc3=>?_)
  ·have hb:Zch t[i].1=false:=by simpa using hc3
   rw[if_pos hb] at hi2
   refine wo<|Zaf<|Zao<|Zaf<|Zaf<|Zao<|Zaf<|Zad rz<|rT'<|?_
   rw[ZfA (r:=(t,k)) hno (by rw[hi2];decide),hi2]
  have hb:Zch t[i].1=true:=by simpa using hc3
  rw[if_neg (by rw[hb];simp)] at hi2
  refine za<|Zab<|wr'<|fq<|Vw (Zaj lk gx Zrs rfl)<|Zac mp (check_a (l:=t[i].2.2) hn_.2.1 hn_.2.2) pt<|ms<|wm<|?_
  refine Vw (Za0 lk lki)<|sn'<|?_
  refine cd' lk (fun hc4=>?_) (fun hc4=>?_)
  ·have hv:ZbV t[i].2≠0:=hc4
   rw[if_pos hv] at hi2
   refine wm<|mr<|Zaf<|Zao<|Zaf<|Zaf<|Zao<|Zaf<|Zad rz<|?_
   refine rT' ?_
   rw[ZfA (r:=(t,k)) hno (by rw[hi2];exact hv),hi2]
  have hv:¬ZbV t[i].2≠0:=hc4
  rw[if_neg hv] at hi2
  refine za<|Zab<|ZaJ<|Dw vm<|Dw (Zby lk lki)<|Dw vm<|?_
  refine dq' (t:=42) gt pt pt (fun hg42=>?_) (fun hg42=>?_)
  ·have hp:Zgw (·.1) t i=some (t[i-1]'(by omega)).1:=by have:=ZeQ (f:=(·.1)) (l:=t) (i:=i-1) om;rwa [show i-1+1=i by omega] at this
   refine dO<|dg<|dO<|Dw (Zaa lk gx gt0)<|dO<|dg<|dO<|Dw (Zaa lk gx gt0)<|dO<|Dw vm<|dO<|?_
   refine D' (Zba lk lki om om) pt ?_
   refine d_do gt ?_
   refine D' (ZaF (k:=i-1) lk lk ZaY nb ro om ro rfl) pt ?_
   refine dO<|Dw (ZaR lk dp0)<|dO<|Dw (Zar lk gt)<|dO<|Dw (v_leqS lk lk)<|Dw (Zai lk lk)<|ZaM<|?_
   refine ZaX ?_
   refine sn' ?_
   refine Zas lk (fun hc5=>?_) (fun hc5=>?_)
   ·have hA:Zc6 (Zgw (·.1) t i) t[i].1=false:=by rw[hp];have:=hc5;rw[Zh6,Bool.not_eq_true'] at this;exact this
    rw[if_pos hA] at hi2
    refine wo<|Zao<|Zaf<|Zaf<|Zao<|Zaf<|Zad rz<|rT'<|?_
    rw[ZfA (r:=(t,k)) hno (by rw[hi2];decide),hi2]
   have hA:Zc6 (Zgw (·.1) t i) t[i].1=true:=by rw[hp];have:=hc5;rw[Zh6,Bool.not_eq_false'] at this;exact this
   refine Zay<|Zau<|Zal<|Zap<|?_
   refine ad<|mw<|Zak<|Zax<|?_
   refine lU' (i+1) (by (try dsimp only);exact⟨by omega,by rw[hi2,if_neg (by rw[hA];simp)]⟩) (by refine zz ?_;exact bk' 1 hn hlt)
  have hA:Zc6 (Zgw (·.1) t i) t[i].1=true:=by obtain rfl:i=0:=om;rfl
  refine dn<|dn<|dn<|dn<|dn<|dn<|dn<|dn<|dn<|dn<|Dw (Zah lk lkb)<|ZaM<|?_
  refine ZaX ?_
  refine sn'<|ZaO lk<|Zay<|Zau<|Zal<|Zap<|?_
  refine ad<|mw<|Zak<|Zax<|?_
  refine lU' (i+1) (by (try dsimp only);exact⟨by omega,by rw[hi2,if_neg (by rw[hA];simp)]⟩) (by refine zz ?_;exact bk' 1 hn hlt)
 rw[List.drop_of_length_le (show t.length≤i by omega)] at hi2
 have hN:chkN none t=0:=by rw[hi2];rfl
 have hC:=Zl8 (r:=(t,k)) hno hN
 obtain⟨_,hr,_⟩:=ZnI hN
 have hr':risN t:=hr
 refine Zaw<|Zaq<|Zaq<|ZaH<|Zal<|Zab<|wr'<|fq<|Vw (Zaa lk gx gt1)<|Vw (ZaB lk)<|ms<|?_
 refine Zae ?_
 refine w_lp (ι:=Nat) (fun (j:Nat)=>[(58,iv (j:Int)),(2,.any)]++rn' 6 6++rn' 59 46) (fun (j:Nat)=>[]) (fun (j:Nat)=>j≤k.length∧chkL t none k=chkL t (Zgw (·.2) k j) (k.drop j)) (fun (j:Nat)=>k.length-j) (0) (by exact⟨Nat.zero_le _,rfl⟩) ?_
 rintro j hi2
 try simp only[sm',Nat.reduceAdd]
 obtain⟨hj1,hj2⟩:=hi2
 refine wr'<|Vw (ZaL lk lk)<|sn'<|Zab<|?_
 refine cd' lk (fun hc6=>?_) (fun hc6=>?_)
 ·have hj:j<k.length:=by omega
  have hln:=hok.2 _ (List.getElem_mem hj)
  rw[chkL_at hj] at hj2
  refine za<|Zab<|Zae<|wm<|?_
  refine V' (ZaF lk lk Za9 nb ro om ro rfl) pt ?_
  refine Vw (Zav lk ZuQ rfl)<|E' (Za3 hl1 ha1) pt<|mw<|E' (Zam lk cv gx rfl nb rfl Zru hs1) ptn<|sn'<|wr'<|fq<|Vw (Zaa lk gx gt0)<|fq<|Vw (Zaa lk gx gt1)<|?_
  refine Zac mp (ZhX hr' om) pt ?_
  refine mw<|Vw (ZaW lk gt)<|Vw (ZaW lk gt)<|mw<|ms<|wr'<|fq<|Vw (Zaa lk gx gt0)<|fq<|Vw (Zaa lk gx gt0)<|?_
  refine Zac mp (ZhX hr' om) pt ?_
  refine mw<|Vw (ZaW lk gt)<|Vw (ZaW lk gt)<|mw<|ms<|Zae<|wr'<|fq<|Vw (Zaa lk gx gt1)<|Zac mp (Zh2 hln.2) pt<|Vw (Zaz lk)<|?_
  refine ms<|?_
  refine Zas lk (fun hc7=>?_) (fun hc7=>?_)
  ·have hb:Zch k[j].2=false:=by simpa using hc7
   rw[if_pos hb] at hj2
   refine wo<|Zao<|Zao<|Zaf<|Zaf<|Zao<|Zaf<|Zad rz<|rT'<|?_
   rw[hC];exact ivx hj2.symm
  have hb:Zch k[j].2=true:=by simpa using hc7
  rw[if_neg (by rw[hb];simp)] at hj2
  refine Zab<|ZaJ<|Dw vm<|Dw (Zby lk lki)<|Dw vm<|?_
  refine dq' (t:=87) gt pt pt (fun hg87=>?_) (fun hg87=>?_)
  ·have hp:Zgw (·.2) k j=some (k[j-1]'(by omega)).2:=by have:=ZeQ (f:=(·.2)) (l:=k) (i:=j-1) om;rwa [show j-1+1=j by omega] at this
   refine dO<|dg<|dO<|Dw (Zaa lk gx gt1)<|dO<|dg<|dO<|Dw (Zaa lk gx gt1)<|dO<|Dw vm<|dO<|?_
   refine D' (Zba lk lki om om) pt ?_
   refine d_do gt ?_
   refine D' (ZaF (k:=j-1) lk lk Za9 nb ro om ro rfl) pt ?_
   refine dO<|Dw (ZaR lk dp1)<|dO<|Dw (Zar lk gt)<|dO<|Dw (v_leqS lk lk)<|Dw (Zai lk lk)<|Dw vm<|ZaM<|?_
   refine ZaX ?_
   refine sn' ?_
   refine Zas lk (fun hc8=>?_) (fun hc8=>?_)
   ·have hA:Zc6 (Zgw (·.2) k j) k[j].2=false:=by rw[hp];have:=hc8;rw[Zh6,Bool.not_eq_true'] at this;exact this
    rw[if_pos hA] at hj2
    refine wo<|Zao<|Zao<|Zaf<|Zaf<|Zao<|Zaf<|Zad rz<|rT'<|?_
    rw[hC];exact ivx hj2.symm
   have hA:Zc6 (Zgw (·.2) k j) k[j].2=true:=by rw[hp];have:=hc8;rw[Zh6,Bool.not_eq_false'] at this;exact this
   refine wm<|ms<|?_
   refine Zas lk (fun hc9=>?_) (fun hc9=>?_)
   ·rw[if_neg (by rw[hA];simp),if_pos hc9] at hj2
    refine wo<|Zao<|Zao<|Zaf<|Zaf<|Zao<|Zaf<|Zad rz<|rT'<|?_
    rw[hC];exact ivx hj2.symm
   rw[if_neg (by rw[hA];simp),if_neg (by rw[hc9];simp)] at hj2
   refine wm<|Vw (Zaz lk)<|ms<|?_
   refine Zas lk (fun hc10=>?_) (fun hc10=>?_)
   ·rw[if_pos (by simpa using hc10)] at hj2
    refine wo<|Zao<|Zao<|Zaf<|Zaf<|Zao<|Zaf<|Zad rz<|rT'<|?_
    rw[hC];exact ivx hj2.symm
   rw[if_neg (by simpa using hc10)] at hj2
   refine Zay<|Zau<|Zau<|Zal<|Zap<|?_
   refine ad<|mw<|Zak<|Zax<|?_
   refine lU' (j+1) (by (try dsimp only);exact⟨by omega,hj2⟩) (by refine zz ?_;exact bk' 1 hn hlt)
  have hA:Zc6 (Zgw (·.2) k j) k[j].2=true:=by obtain rfl:j=0:=om;rfl
  refine dn<|dn<|dn<|dn<|dn<|dn<|dn<|dn<|dn<|dn<|Dw (Zah lk lkb)<|Dw vm<|ZaM<|?_
  refine ZaX ?_
  refine sn'<|ZaO lk<|wm<|ms<|?_
  refine Zas lk (fun hc9=>?_) (fun hc9=>?_)
  ·rw[if_neg (by rw[hA];simp),if_pos hc9] at hj2
   refine wo<|Zao<|Zao<|Zaf<|Zaf<|Zao<|Zaf<|Zad rz<|rT'<|?_
   rw[hC];exact ivx hj2.symm
  rw[if_neg (by rw[hA];simp),if_neg (by rw[hc9];simp)] at hj2
  refine wm<|Vw (Zaz lk)<|ms<|?_
  refine Zas lk (fun hc10=>?_) (fun hc10=>?_)
  ·rw[if_pos (by simpa using hc10)] at hj2
   refine wo<|Zao<|Zao<|Zaf<|Zaf<|Zao<|Zaf<|Zad rz<|rT'<|?_
   rw[hC];exact ivx hj2.symm
  rw[if_neg (by simpa using hc10)] at hj2
  refine Zay<|Zau<|Zau<|Zal<|Zap<|?_
  refine ad<|mw<|Zak<|Zax<|?_
  refine lU' (j+1) (by (try dsimp only);exact⟨by omega,hj2⟩) (by refine zz ?_;exact bk' 1 hn hlt)
 rw[List.drop_of_length_le (show k.length≤j by omega)] at hj2
 refine Zaw<|Zaq<|Zaq<|ZaH<|Zal<|wo<|Zad rz<|rT'<|?_
 rw[hC];exact ivx hj2.symm
end
section
open Go.Ab Go.RowKit Civ
attribute [local simp] Zbq Zev ZbD ZlE Zdh
section
theorem ZkY {τ:Operand→AV}:Zan τ [] []=some []:=rfl
theorem Zol {τ:Operand→AV}:Zan τ [] []=some []:=rfl
theorem ZgW {a0 a1 a2:AV}{l:List AV}:((a0::a1::a2::l).drop 0).take 3=[a0,a1,a2]:=rfl
theorem Zrr {τ:Operand→AV}{y0 y1:Operand}{x0_0 x0_1 x0_2 x1_0:AV}(h0:Zat (τ y0)=some [x0_0,x0_1,x0_2]) (l0:[x0_0,x0_1,x0_2].all leaf=true) (h1:Zat (τ y1)=some [x1_0]) (l1:[x1_0].all leaf=true):Zan τ [(0,3,y0),(3,1,y1)] [(iv 0),(iv 0),(.v (.string ⟨#[]⟩)),(.sl 0 0 true [])]=some [x0_0,x0_1,x0_2,x1_0]:=by
 simp only[Zan,h0,l0,h1,l1]
 rfl
theorem ZbT {a0 a1 a2 a3 c0 c1 c2 c3:AV}{l:List AV}:setCells (a0::a1::a2::a3::l) 0 [c0,c1,c2,c3]=c0::c1::c2::c3::l:=rfl
theorem ZbS {a0 a1 a2 a3:AV}{l:List AV}:((a0::a1::a2::a3::l).drop 0).take 4=[a0,a1,a2,a3]:=rfl
theorem ZeJ {a0 a1 a2 a3:AV}{l:List AV}:(a0::a1::a2::a3::l).take 4=[a0,a1,a2,a3]:=rfl
theorem ZmA {a0 b0:Int}{a1 b1:Int}{a2 b2:Int}{a3 b3:ByteArray}:Za8 [.int,.int,.int,.str] [iv a0,iv a1,iv a2,sv a3] [iv b0,iv b1,iv b2,sv b3]=some (decide (a0=b0∧a1=b1∧a2=b2∧a3=b3)):=by
 simp only[Za8,ZcG,if_true,ZbR,Option.some.injEq]
 simp only[Bool.decide_and,Bool.and_true]
 try (congr 1 <;> simp)
 try rfl
theorem Zok {a0 b0:Int}{a1 b1:Int}{a2 b2:ByteArray}:Za8 [.int,.int,.str] [iv a0,iv a1,sv a2] [iv b0,iv b1,sv b2]=some (decide (a0=b0∧a1=b1∧a2=b2)):=by
 simp only[Za8,ZcG,if_true,ZbR,Option.some.injEq]
 simp only[Bool.decide_and,Bool.and_true]
 try (congr 1 <;> simp)
 try rfl
theorem Zj3 {a0 c0:AV}{l:List AV}:setCells (a0::l) 0 [c0]=c0::l:=rfl
theorem ZmB {τ:Operand→AV}:Zan τ [] [(iv 0),(iv 0),(.v (.string ⟨#[]⟩)),(.sl 0 0 true [])]=some [(iv 0),(iv 0),(.v (.string ⟨#[]⟩)),(.sl 0 0 true [])]:=rfl
theorem ZcN {a0 a1:AV}{l:List AV}:((a0::a1::l).drop 0).take 2=[a0,a1]:=rfl
theorem Zom {τ:Operand→AV}:Zan τ [] [(iv 0),(iv 0),(.v (.string ⟨#[]⟩)),(.sl 0 0 true [])]=some [(iv 0),(iv 0),(.v (.string ⟨#[]⟩)),(.sl 0 0 true [])]:=rfl
theorem ZmC {τ:Operand→AV}:Zan τ [] [(iv 0),(iv 0),(.v (.string ⟨#[]⟩)),(.sl 0 0 true [])]=some [(iv 0),(iv 0),(.v (.string ⟨#[]⟩)),(.sl 0 0 true [])]:=rfl
theorem Zi4 {τ:Operand→AV}{y0:Operand}{x0_0:AV}(h0:Zat (τ y0)=some [x0_0]) (l0:[x0_0].all leaf=true):Zan τ [(3,1,y0)] [(.sl 0 0 true []),(.sl 0 0 true []),(.sl 0 0 true []),(.sl 0 0 true [])]=some [(.sl 0 0 true []),(.sl 0 0 true []),(.sl 0 0 true []),x0_0]:=by
 simp only[Zan,h0,l0]
 rfl
theorem ZiJ {a0 a1 a2 a3 a4:AV}{l:List AV}:(a0::a1::a2::a3::a4::l).take 5=[a0,a1,a2,a3,a4]:=rfl
theorem Zj2 {a0 a1 a2 a3 a4 c0 c1 c2 c3 c4:AV}{l:List AV}:setCells (a0::a1::a2::a3::a4::l) 0 [c0,c1,c2,c3,c4]=c0::c1::c2::c3::c4::l:=rfl
theorem ZiN {τ:Operand→AV}{y0:Operand}{x0_0:AV}(h0:Zat (τ y0)=some [x0_0]) (l0:[x0_0].all leaf=true):Zan τ [(0,1,y0)] [(.v (.string ⟨#[]⟩))]=some [x0_0]:=by
 simp only[Zan,h0,l0]
 rfl
theorem ZuP {a0:AV}{l:List AV}:(a0::l).take 1=[a0]:=rfl
theorem ZgV {a0 a1 a2 a3 a4:AV}{l:List AV}:((a0::a1::a2::a3::a4::l).drop 1).take 4=[a1,a2,a3,a4]:=rfl
theorem ZiM {τ:Operand→AV}{y0 y1:Operand}{x0_0 x1_0 x1_1 x1_2 x1_3:AV}(h0:Zat (τ y0)=some [x0_0]) (l0:[x0_0].all leaf=true) (h1:Zat (τ y1)=some [x1_0,x1_1,x1_2,x1_3]) (l1:[x1_0,x1_1,x1_2,x1_3].all leaf=true):Zan τ [(0,1,y0),(1,4,y1)] [(.v (.string ⟨#[]⟩)),(iv 0),(iv 0),(.v (.string ⟨#[]⟩)),(.sl 0 0 true [])]=some [x0_0,x1_0,x1_1,x1_2,x1_3]:=by
 simp only[Zan,h0,l0,h1,l1]
 rfl
theorem ZiL {τ:Operand→AV}{y0:Operand}{x0_0 x0_1 x0_2 x0_3 x0_4:AV}(h0:Zat (τ y0)=some [x0_0,x0_1,x0_2,x0_3,x0_4]) (l0:[x0_0,x0_1,x0_2,x0_3,x0_4].all leaf=true):Zan τ [(0,5,y0)] [(.v (.string ⟨#[]⟩)),(iv 0),(iv 0),(.v (.string ⟨#[]⟩)),(.sl 0 0 true [])]=some [x0_0,x0_1,x0_2,x0_3,x0_4]:=by
 simp only[Zan,h0,l0]
 rfl
theorem Zmz { e:Ent}:([]:AH)++[e]=[e]:=rfl
theorem Zj4 {e0 e1 e2 e3 e4 e5 e6 e7 d0:Ent}:([e0,e1,e2,e3,e4,e5,e6,e7]:AH)++[d0]=[e0,e1,e2,e3,e4,e5,e6,e7,d0]:=rfl
theorem Zrp {a0 a1 c0:AV}{l:List AV}:setCells (a0::a1::l) 1 [c0]=a0::c0::l:=rfl
theorem ZiK {τ:Operand→AV}{y0 y1:Operand}{x0_0 x1_0 x1_1 x1_2 x1_3 x1_4 x1_5:AV}(h0:Zat (τ y0)=some [x0_0]) (l0:[x0_0].all leaf=true) (h1:Zat (τ y1)=some [x1_0,x1_1,x1_2,x1_3,x1_4,x1_5]) (l1:[x1_0,x1_1,x1_2,x1_3,x1_4,x1_5].all leaf=true):Zan τ [(0,1,y0),(1,6,y1)] [(.v (.string ⟨#[]⟩)),(iv 0),(iv 0),(.v (.string ⟨#[]⟩)),(iv 0),(iv 0),(.sl 0 0 true [])]=some [x0_0,x1_0,x1_1,x1_2,x1_3,x1_4,x1_5]:=by
 simp only[Zan,h0,l0,h1,l1]
 rfl
theorem Zhp {τ:Operand→AV}{y0:Operand}{x0_0 x0_1 x0_2 x0_3 x0_4 x0_5 x0_6:AV}(h0:Zat (τ y0)=some [x0_0,x0_1,x0_2,x0_3,x0_4,x0_5,x0_6]) (l0:[x0_0,x0_1,x0_2,x0_3,x0_4,x0_5,x0_6].all leaf=true):Zan τ [(0,7,y0)] [(.v (.string ⟨#[]⟩)),(iv 0),(iv 0),(.v (.string ⟨#[]⟩)),(iv 0),(iv 0),(.sl 0 0 true [])]=some [x0_0,x0_1,x0_2,x0_3,x0_4,x0_5,x0_6]:=by
 simp only[Zan,h0,l0]
 rfl
theorem ZuO {a0 a1 a2 a3 a4 a5 a6:AV}{l:List AV}:(a0::a1::a2::a3::a4::a5::a6::l).take 7=[a0,a1,a2,a3,a4,a5,a6]:=rfl
theorem Zro {a0 a1 a2 c0:AV}{l:List AV}:setCells (a0::a1::a2::l) 2 [c0]=a0::a1::c0::l:=rfl
theorem Zoo {τ:Operand→AV}{y0 y1:Operand}{x0_0 x0_1 x1_0 x1_1:AV}(h0:Zat (τ y0)=some [x0_0,x0_1]) (l0:[x0_0,x0_1].all leaf=true) (h1:Zat (τ y1)=some [x1_0,x1_1]) (l1:[x1_0,x1_1].all leaf=true):Zan τ [(0,2,y0),(2,2,y1)] [(.sl 0 0 true []),(.sl 0 0 true []),(.sl 0 0 true []),(.sl 0 0 true [])]=some [x0_0,x0_1,x1_0,x1_1]:=by
 simp only[Zan,h0,l0,h1,l1]
 rfl
theorem Zrq {a0 a1 c0 c1:AV}{l:List AV}:setCells (a0::a1::l) 0 [c0,c1]=c0::c1::l:=rfl
theorem ZmD {τ:Operand→AV}:Zan τ [] [(.sl 0 0 true []),(.sl 0 0 true []),(.sl 0 0 true []),(.sl 0 0 true [])]=some [(.sl 0 0 true []),(.sl 0 0 true []),(.sl 0 0 true []),(.sl 0 0 true [])]:=rfl
end
def c47:AC:=(Sr [Oo 2 (.mv (.const (.slice none 0 0)))] (.seq (Sr [Mv 3 0,Oo 4 (.eqn false (t 3))] (Cd 4 (Sr [Oo 2 (.mv (.const (.slice none 0 0)))] .ret) .skip)) (Sr [Oo 5 (.lit 97 2 0 [] []),Mv 6 0,Oo 7 (.app 97 2 32 (t 5) (t 6)),Mv 2 7] .ret)))
theorem k47:ZaA Tryz.prog 47=some ⟨c47,[(.tmp 2)],8⟩:=by kernel_rfl
def c44:AC:=(Sr [Oo 1 (.box 38 4 (t 0)),Oo 2 (.new 38 4 [(iv 0),(iv 0),Ss,nl])] (.seq (.drw [Fa 3 0 1,Oo 4 (.load true 3 (t 3)),Fa 5 3 1,Ld 6 5,Cl 7 89 [(t 6)],Oo 8 (.build [(iv 0),(iv 0),Ss,nl] [(0,(3,(t 4))),(3,(1,(t 7)))])] [false] [⟨none,none,(.store 4 (t 2) (t 8))⟩]) .ret))
theorem k44:ZaA Tryz.prog 44=some ⟨c44,[(.cell 2 true 4)],9⟩:=by kernel_rfl
def c151:AC:=(Sr [Mb 4 false] (.seq (Sr [Mv 6 0,Oo 7 (.len false (t 6)),Mv 8 1,Oo 9 (.len false (t 8)),Bn 10 .neq 7 9] (Cd 10 (Sr [Mb 4 false] .ret) .skip)) (.seq (Sr [Mv 11 0,Oo 12 (.len false (t 11)),Mc 13 0] (.block 0 (.loop (Sr [Bn 14 .lss 13 12] (.seq (Cd 14 .skip (.exit 0)) (.seq (.block 1 (Sr [Mv 15 13,Mv 5 15] (Sd [Mv 16 0,Mv 17 5,Oo 18 (.ia 4 (t 16) (t 17)),Oo 19 (.load true 4 (t 18)),Mv 20 1,Mv 21 5,Oo 22 (.ia 4 (t 20) (t 21)),Oo 23 (.load true 4 (t 22)),Oo 24 (.eqs true [.int,.int,.int,.str] (t 19) (t 23))] (Cd 24 (Sr [Mb 4 false] .ret) .skip)))) (.reg [Bc 25 .add 13 1,Mv 13 25]))))))) (Sr [Mb 4 true] .ret))))
theorem k151:ZaA Tryz.prog 151=some ⟨c151,[(.tmp 4)],26⟩:=by kernel_rfl
def c86:AC:=(Sr [Oo 2 (.box 38 4 (t 0)),Oo 3 (.box 38 4 (t 1)),Mb 4 false] (Sr [Fa 5 0 2,Oo 6 (.load true 3 (t 5)),Fa 7 0 3,Oo 8 (.load true 3 (t 7)),Oo 9 (.eqs false [.int,.int,.str] (t 6) (t 8)),Mv 10 9,Ot 11 10 (.fa 3 (t 2)),Ot 12 10 (.load false 1 (t 11)),Ot 13 10 (.fa 3 (t 3)),Ot 14 10 (.load false 1 (t 13)),Ot 15 10 (.call (.func 151) [(t 12),(t 14)]),Oo 16 (.pick (t 10) (t 15) (.const (.bool false))),Mv 4 16] .ret))
theorem k86:ZaA Tryz.prog 86=some ⟨c86,[(.tmp 4)],17⟩:=by kernel_rfl
def c88:AC:=(Sr [Oo 2 (.box 97 2 (t 0)),Mb 3 false] (Sr [Fa 4 1 2,Ld 5 4,Ld 6 1,Bn 7 .eql 5 6,Mv 3 7] .ret))
theorem k88:ZaA Tryz.prog 88=some ⟨c88,[(.tmp 3)],8⟩:=by kernel_rfl
def c43:AC:=(Sr [Oo 2 (.box 25 2 (t 0)),Oo 3 (.box 9 1 (t 1)),Oo 4 (.new 38 4 [(iv 0),(iv 0),Ss,nl]),Mb 5 false] (Sr [Fa 9 1 2,Ld 10 9,Oo 11 (.mkfn 88 [(t 3)]),Cl 12 87 [(t 10),(t 11)],Mv 6 12] (.seq (Sr [Mv 13 6,Bc 14 .geq 13 0] (Cd 14 (.reg [Fa 15 1 2,Ld 16 15,Mv 17 6,Oo 18 (.ia 2 (t 16) (t 17)),Fa 19 0 18,Ld 20 19,Sc 3 20]) .skip)) (Sr [Fa 22 0 2,Ld 23 22,Ld 24 3,Cl 25 61 [(t 23),(t 24)],Mv 21 25,Ex 26 21 0,Ex 27 21 1,Mv 7 26,Mv 8 27] (.seq (Sr [Mv 28 8,Oo 29 (.un .not (t 28))] (Cd 29 (Sr [Oo 30 (.build [(iv 0),(iv 0),Ss,nl] []),⟨none,none,(.store 4 (t 4) (t 30))⟩,Mb 5 false] .ret) .skip)) (Sr [Fa 31 0 2,Ld 32 31,Mv 33 7,Oo 34 (.ia 5 (t 32) (t 33)),Fa 35 1 34,Oo 36 (.load true 4 (t 35)),⟨none,none,(.store 4 (t 4) (t 36))⟩,Mb 5 true] .ret))))))
theorem k43:ZaA Tryz.prog 43=some ⟨c43,[(.cell 4 true 4),(.tmp 5)],37⟩:=by kernel_rfl
def c11:AC:=(Sr [Oo 2 (.box 25 2 (t 0)),Oo 4 (.new 38 4 [(iv 0),(iv 0),Ss,nl]),Mc 5 0] (.seq (Sr [Oo 9 (.load true 2 (t 2)),Cl 10 17 [(t 9)],Mv 6 10] (Sr [Mv 11 6,Bc 12 .neq 11 0] (Cd 12 (Sr [Oo 13 (.build [(iv 0),(iv 0),Ss,nl] []),Mv 14 6,⟨none,none,(.store 4 (t 4) (t 13))⟩,Mv 5 14] .ret) .skip))) (Sr [Oo 16 (.load true 2 (t 2)),Mv 17 1,Cl 18 43 [(t 16),(t 17)],Mv 15 18,Ex 19 15 0,Ex 20 15 1,Oo 7 (.new 38 4 [(iv 0),(iv 0),Ss,nl]),⟨none,none,(.store 4 (t 7) (t 19))⟩,Mv 8 20] (.seq (Sr [Mv 21 8,Oo 22 (.un .not (t 21))] (Cd 22 (Sr [Oo 23 (.build [(iv 0),(iv 0),Ss,nl] []),⟨none,none,(.store 4 (t 4) (t 23))⟩,Mc 5 5] .ret) .skip)) (Sr [Oo 24 (.load true 4 (t 7)),Cl 25 44 [(t 24)],⟨none,none,(.store 4 (t 4) (t 25))⟩,Mc 5 0] .ret)))))
theorem k11:ZaA Tryz.prog 11=some ⟨c11,[(.cell 4 true 4),(.tmp 5)],26⟩:=by kernel_rfl
def c42:AC:=(Sr [Oo 2 (.box 25 2 (t 0)),Oo 3 (.box 25 2 (t 1)),Oo 4 (.new 30 4 [nl,nl,nl,nl])] (Sr [Fa 14 1 3,Ld 15 14,Cl 16 47 [(t 15)],Oo 17 (.build [nl,nl,nl,nl] [(3,(1,(t 16)))]),Oo 5 (.new 30 4 [nl,nl,nl,nl]),⟨none,none,(.store 4 (t 5) (t 17))⟩] (.seq (Sr [Fa 18 0 2,Ld 19 18,Oo 20 (.len false (t 19)),Mc 21 0] (.block 0 (.loop (Sr [Bn 22 .lss 21 20] (.seq (Cd 22 .skip (.exit 0)) (.seq (.block 1 (Sr [Oo 23 (.ia 5 (t 19) (t 21)),Oo 24 (.load true 5 (t 23)),Oo 7 (.new 40 5 [Ss,(iv 0),(iv 0),Ss,nl]),⟨none,none,(.store 5 (t 7) (t 24))⟩] (Sr [Fa 26 0 3,Ld 27 26,Fa 28 0 7,Ld 29 28,Cl 30 61 [(t 27),(t 29)],Mv 25 30,Ex 31 25 0,Ex 32 25 1,Mv 8 31,Mv 9 32] (Sr [Mv 33 9,Oo 34 (.un .not (t 33))] (Cd 34 (.reg [Fa 35 0 5,Ld 36 35,Fa 37 0 7,Ld 38 37,Oo 39 (.lit 9 1 1 [Ss] [(0,(1,(t 38)))]),Oo 40 (.app 9 1 16 (t 36) (t 39)),Fa 41 0 5,Sc 41 40]) .skip))))) (.reg [Bc 42 .add 21 1,Mv 21 42]))))))) (.seq (Sr [Fa 43 0 3,Ld 44 43,Oo 45 (.len false (t 44)),Mc 46 0] (.block 2 (.loop (Sr [Bn 47 .lss 46 45] (.seq (Cd 47 .skip (.exit 2)) (.seq (.block 3 (Sr [Oo 48 (.ia 5 (t 44) (t 46)),Oo 49 (.load true 5 (t 48)),Oo 11 (.new 40 5 [Ss,(iv 0),(iv 0),Ss,nl]),⟨none,none,(.store 5 (t 11) (t 49))⟩] (Sr [Fa 51 0 2,Ld 52 51,Fa 53 0 11,Ld 54 53,Cl 55 61 [(t 52),(t 54)],Mv 50 55,Ex 56 50 0,Ex 57 50 1,Mv 12 56,Mv 13 57] (.block 4 (Sr [Mv 59 13,Oo 60 (.un .not (t 59)),Mv 58 60] (Cd 58 (.drw [Fa 61 1 5,Ld 62 61,Fa 63 0 11,Ld 64 63,Fa 65 1 11,Oo 66 (.load true 4 (t 65)),Cl 67 44 [(t 66)],Oo 68 (.build [Ss,(iv 0),(iv 0),Ss,nl] [(0,(1,(t 64))),(1,(4,(t 67)))]),Oo 69 (.lit 40 5 1 [Ss,(iv 0),(iv 0),Ss,nl] [(0,(5,(t 68)))])] [false,false,false] [Oo 70 (.app 40 5 72 (t 62) (t 69)),Fa 71 1 5,Sc 71 70]) (Sd [Fa 73 0 2,Ld 74 73,Mv 75 12,Oo 76 (.ia 5 (t 74) (t 75)),Fa 77 1 76,Oo 78 (.load true 4 (t 77)),Fa 79 1 11,Oo 80 (.load true 4 (t 79)),Cl 81 86 [(t 78),(t 80)],Oo 82 (.un .not (t 81)),Mv 72 82] (Cd 72 (.drw [Fa 83 2 5,Ld 84 83,Fa 85 0 11,Ld 86 85,Fa 87 0 2,Ld 88 87,Mv 89 12,Oo 90 (.ia 5 (t 88) (t 89)),Fa 91 1 90,Oo 92 (.load true 4 (t 91)),Fa 93 1 11,Oo 94 (.load true 4 (t 93)),Cl 95 74 [(t 92),(t 94)],Oo 96 (.build [Ss,(iv 0),(iv 0),Ss,(iv 0),(iv 0),nl] [(0,(1,(t 86))),(1,(6,(t 95)))]),Oo 97 (.lit 44 7 1 [Ss,(iv 0),(iv 0),Ss,(iv 0),(iv 0),nl] [(0,(7,(t 96)))])] [false,false,false] [Oo 98 (.app 44 7 88 (t 84) (t 97)),Fa 99 2 5,Sc 99 98]) .skip)))))))) (.reg [Bc 100 .add 46 1,Mv 46 100]))))))) (Sr [Oo 101 (.load true 4 (t 5)),⟨none,none,(.store 4 (t 4) (t 101))⟩] .ret)))))
theorem k42:ZaA Tryz.prog 42=some ⟨c42,[(.cell 4 true 4)],102⟩:=by kernel_rfl
def c10:AC:=(Sr [Oo 2 (.box 25 2 (t 0)),Oo 3 (.box 25 2 (t 1)),Oo 4 (.new 30 4 [nl,nl,nl,nl]),Mc 5 0] (.seq (Sr [Oo 9 (.load true 2 (t 2)),Oo 10 (.load true 2 (t 3)),Oo 11 (.lit 25 2 2 [nl,nl,nl,nl] [(0,(2,(t 9))),(2,(2,(t 10)))]),Oo 12 (.len false (t 11)),Mc 13 0] (.block 0 (.loop (Sr [Bn 14 .lss 13 12] (.seq (Cd 14 .skip (.exit 0)) (.seq (.block 1 (Sr [Oo 15 (.ia 2 (t 11) (t 13)),Oo 16 (.load true 2 (t 15)),Oo 7 (.new 25 2 [nl,nl]),⟨none,none,(.store 2 (t 7) (t 16))⟩] (Sr [Oo 17 (.load true 2 (t 7)),Cl 18 17 [(t 17)],Mv 8 18] (Sr [Mv 19 8,Bc 20 .neq 19 0] (Cd 20 (Sr [Oo 21 (.build [nl,nl,nl,nl] []),Mv 22 8,⟨none,none,(.store 4 (t 4) (t 21))⟩,Mv 5 22] .ret) .skip))))) (.reg [Bc 23 .add 13 1,Mv 13 23]))))))) (Sr [Oo 24 (.load true 2 (t 2)),Oo 25 (.load true 2 (t 3)),Cl 26 42 [(t 24),(t 25)],⟨none,none,(.store 4 (t 4) (t 26))⟩,Mc 5 0] .ret)))
theorem k10:ZaA Tryz.prog 10=some ⟨c10,[(.cell 4 true 4),(.tmp 5)],27⟩:=by kernel_rfl
theorem clone_q {l:List Chg}{full:Bool}{h:AH}(hl:l.length≤3000000000000):ACalls Tryz.prog 89 [.sl l.length 4 full (rows chgC l)] h fun r h'=>h'=h∧r=.ret (chS l):=by
 refine tW' k89 fun N hn _ _ hbd=>?_
 simp only[tb'] at hbd ⊢
 refine wk'<|Zab<|wm<|?_
 refine Zsk lk (fun _=>pt) (fun bn3 hbn3=>?_)
 refine sn' ?_
 refine cd' lk (fun hc1=>?_) (fun hc1=>?_)
 ·refine wo<|Zaf<|Zad rz<|rtW'<|?_
  have h0:l=[]:=List.eq_nil_of_length_eq_zero ((Nat.eq_zero_or_pos _).resolve_right (fun e=>by have:=hbn3 e;rw[hc1] at this;cases this))
  subst h0
  exact Wk.nilF
 refine za<|wr'<|E' (Zci ZkY hl0 ha0) pt<|mw<|?_
 refine E' (Zbz (Zkm lk (Zbu _)) lk gx rfl om (ZhD _) hs0) pt ?_
 refine mw<|Zak<|?_
 refine ZaS (ALe.iceN (hga hn rfl) gt2 (show List.take _ _=rows chgC l from by rw[List.nil_append,Nat.zero_add];exact List.take_of_length_le (by rw[Zbu];exact Nat.le_refl _)) (by rw[List.nil_append,Nat.zero_add,Zbu];exact Nat.le_refl _) (by exact Nat.zero_add _) pt2 hs0) ?_
 refine Za1<|Zad rz<|rtW'<|?_
 exact Wk.refl _
theorem lclone_q {l:List Lnk}{full:Bool}{h:AH}(hl:l.length≤3000000000000):ACalls Tryz.prog 47 [.sl l.length 2 full (rows lnkC l)] h fun r h'=>h'=h∧r=.ret (.sl l.length 2 false (rows lnkC l)):=by
 refine tW' k47 fun N hn _ _ hbd=>?_
 simp only[tb'] at hbd ⊢
 refine wk'<|Zab<|wm<|?_
 refine Zsk lk (fun _=>pt) (fun bn3 hbn3=>?_)
 refine sn' ?_
 refine cd' lk (fun hc1=>?_) (fun hc1=>?_)
 ·refine wo<|Zaf<|Zad rz<|rtW'<|?_
  have h0:l=[]:=List.eq_nil_of_length_eq_zero ((Nat.eq_zero_or_pos _).resolve_right (fun e=>by have:=hbn3 e;rw[hc1] at this;cases this))
  subst h0
  exact Wk.nilF
 refine za<|wr'<|E' (Zci Zol hl0 ha0) pt<|mw<|?_
 refine E' (Zbz (Zkm lk (Zd0 _)) lk gx rfl om (Zpa _) hs0) pt ?_
 refine mw<|Zak<|?_
 refine ZaS (ALe.iceN (hga hn rfl) gt2 (show List.take _ _=rows lnkC l from by rw[List.nil_append,Nat.zero_add];exact List.take_of_length_le (by rw[Zd0];exact Nat.le_refl _)) (by rw[List.nil_append,Nat.zero_add,Zd0];exact Nat.le_refl _) (by exact Nat.zero_add _) pt2 hs0) ?_
 refine Za1<|Zad rz<|rtW'<|?_
 exact Wk.refl _
theorem rown_a {t:Tab}{full:Bool}{h:AH}(hl:t.2.length≤3000000000000):Ac 44 [.agg [iv t.1.1,iv t.1.2.1,sv t.1.2.2,.sl t.2.length 4 full (rows chgC t.2)]] h (tabA t):=by
 refine tI' k44 fun N hn _ _ hbd=>?_
 simp only[tb'] at hbd ⊢
 refine wr'<|E' (ZaU cv rfl hl0 ha0) pt<|E' (Za3 hl1 ha1) pt<|sn'<|Zab<|ZaJ<|dg<|Dw (Zaj lk gx ZgW rfl)<|dg<|Dw (Zaa lk gx gt3)<|?_
 refine ZaD mp (fun hE hX=>clone_q hl) pt ?_
 refine Dw (ZaC (Zrr cv rfl cv rfl))<|ZaM<|?_
 refine ZaX ?_
 exact E' (Zam lk cv gx rfl nb rfl ZbT hs1) ptn<|sr<|Zad (rs1 (rr_c gt gx (ld1 ZbS rfl)))<|rT' rfl
theorem equalC_a {l m:List Chg}{f1 f2:Bool}{h:AH}:Ac 151 [.sl l.length 4 f1 (rows chgC l),.sl m.length 4 f2 (rows chgC m)] h (bv (decide (l=m))):=by
 refine tI' k151 fun N hn _ _ hbd=>?_
 simp only[tb'] at hbd ⊢
 refine wk'<|Zab<|wm<|Vw (ZaB lk)<|mw<|Vw (ZaB lk)<|Vw (Za0 lk lk)<|Zak<|?_
 refine Zal ?_
 refine cd' lk (fun hc1=>?_) (fun hc1=>?_)
 ·refine wo<|Zaf<|Zad rz<|rT'<|?_
  refine bvx (decide_eq_false (fun e=>hc1 (by rw[e]))).symm
 refine za<|Zab<|wm<|Vw (ZaB lk)<|ms<|Zae<|?_
 refine w_lp (ι:=Nat) (fun (k:Nat)=>[(13,iv (k:Int)),(4,.any),(5,.any)]++rn' 14 12) (fun (k:Nat)=>[]) (fun (k:Nat)=>k≤l.length∧l.length=m.length∧l.take k=m.take k) (fun (k:Nat)=>l.length-k) (0) (by exact⟨by omega,by omega,by simp⟩) ?_
 rintro k hi1
 try simp only[sm',Nat.reduceAdd]
 obtain⟨hk1,hk2,hk3⟩:=hi1
 refine wr'<|Vw (ZaL lk lk)<|sn'<|Zab<|?_
 refine cd' lk (fun hc2=>?_) (fun hc2=>?_)
 ·refine za<|Zab<|Zae<|wm<|ms<|Zab<|ZaJ<|Dw vm<|Dw vm<|?_
  refine D' (ZaF lk lk Zbe nb ro om ro rfl) pt ?_
  refine Dw (Zav lk ZeJ rfl)<|Dw vm<|Dw vm<|?_
  refine D' (ZaF lk lk Zbe nb ro om ro rfl) pt ?_
  refine Dw (Zav lk ZeJ rfl)<|Dw (ZfK lk lk ZmA)<|ZaM<|?_
  refine ZaX ?_
  refine sn' ?_
  refine cd' lk (fun hc3=>?_) (fun hc3=>?_)
  ·refine wo<|Zao<|Zaf<|Zaf<|Zao<|Zaf<|Zad rz<|rT'<|?_
   refine bvx (decide_eq_false (fun e=>hc3 (by subst e;simp))).symm
  refine Zay<|Zau<|Zal<|Zap<|?_
  refine ad<|mw<|Zak<|Zax<|?_
  refine lT' (k+1) (by (try dsimp only);exact⟨by omega,hk2,Zld om om hk3 (ZnJ (Decidable.of_not_not hc3))⟩)
 refine Zaw<|Zaq<|Zaq<|ZaH<|Zal<|wo<|Zad rz<|rT'<|?_
 refine bvx (decide_eq_true ?_).symm
 rw[List.take_of_length_le om,List.take_of_length_le om] at hk3
 exact hk3
theorem rsame_a {t u:Tab}{f1 f2:Bool}{h:AH}:Ac 86 [.agg [iv t.1.1,iv t.1.2.1,sv t.1.2.2,.sl t.2.length 4 f1 (rows chgC t.2)],.agg [iv u.1.1,iv u.1.2.1,sv u.1.2.2,.sl u.2.length 4 f2 (rows chgC u.2)]] h (bv (decide (t=u))):=by
 refine tI' k86 fun N hn _ _ hbd=>?_
 simp only[tb'] at hbd ⊢
 refine wr'<|E' (ZaU cv rfl hl0 ha0) pt<|E' (ZaU cv rfl hl1 ha1) pt<|ms<|wr'<|fq<|Vw (Zaj lk gx ZgW rfl)<|fq<|Vw (Zaj lk gx ZgW rfl)<|Vw (Zk8 lk lk Zok)<|?_
 refine mv' lk pt ?_
 refine sp' (t:=10) gt pt pt (fun hg10=>?_) (fun hg10=>?_)
 ·have h1:t.1=u.1:=by obtain⟨x1,x2,x3⟩:=hg10;exact Prod.ext x1 (Prod.ext x2 x3)
  refine sd<|fq<|sd<|Vw (Zaa lk gx gt3)<|sd<|fq<|sd<|Vw (Zaa lk gx gt3)<|sd<|Zac mp (equalC_a) pt<|Vw (Zai lk lk)<|ms<|?_
  refine Za1<|Zad rz<|rT'<|?_
  refine bvx ?_;rw[Bool.eq_iff_iff,decide_eq_true_iff,decide_eq_true_iff];exact⟨fun e=>Prod.ext h1 e,fun e=>by rw[e]⟩
 refine so<|so<|so<|so<|so<|Vw (Zah lk lkb)<|mr<|Zad rz<|rT'<|?_
 refine bvx (decide_eq_false fun e=>hg10 (by rw[e];exact⟨rfl,rfl,rfl⟩)).symm
theorem lookR1_a {nm:ByteArray}{l:Lnk}{id:Nat}{h:AH}(he:h[id]?=some (.mk 0 9 1 [sv nm])):Ac 88 [.agg (lnkC l),.ptr id 0 0] h (bv (decide (l.2=nm))):=by
 refine tI' k88 fun N hn _ _ hbd=>?_
 simp only[tb'] at hbd ⊢
 refine wr'<|E' (ZaU cv rfl hl0 ha0) pt<|ms<|wr'<|fq<|Vw (Zaa lk gx gt1)<|Vw (Zaa lk (ZcF he) gt0)<|Vw (Zc3 lk lk)<|mw<|Zak<|?_
 exact Zal<|Za1<|Zad rz<|rT' rfl
theorem ZoQ {t:List Nam}(hr:risN t) {nm:ByteArray}(h:hasN t nm=true) : ∃ hp:posN t nm<t.length,ZbY t nm=some t[posN t nm].2:=by
 obtain⟨hi,he⟩:=Ztr h
 have e:=ZsQ hr h
 refine⟨by rw[e];exact hi,?_⟩
 rw[look_idx,List.getElem?_eq_getElem hi]
 simp only[e,Option.map_some]
theorem tgtR_yes {k:List Lnk}{nm:ByteArray}(h:k.findIdx (fun l:Lnk=>decide (l.2=nm))<k.length):tgtR k nm=k[k.findIdx fun l:Lnk=>decide (l.2=nm)].1:=by
 unfold tgtR;rw[List.getElem?_eq_getElem h]
theorem tgtR_no {k:List Lnk}{nm:ByteArray}(h:¬k.findIdx (fun l:Lnk=>decide (l.2=nm))<k.length):tgtR k nm=nm:=by
 unfold tgtR;rw[List.getElem?_eq_none (Nat.le_of_not_lt h)]
def Zee (r:Rel) (nm:ByteArray):Tab×Bool:=match ZbY r.1 (tgtR r.2 nm) with
 | none=>(Zgz,false)
 | some t=>(t,true)
theorem Zo7 {t:List Nam}{nm:ByteArray}(hb:hasN t nm=false):ZbY t nm=none:=by rw[Zez] at hb;simpa using hb
theorem Ztg {t:List Nam}{k:List Lnk}{nm:ByteArray}(hb:hasN t (tgtR k nm)=false):Zee (t,k) nm=(Zgz,false):=by
 unfold Zee;dsimp only;rw[Zo7 hb]
theorem betF_no {r:List Nam}{n:Nam}(hb:hasN r n.1=false):betF ZdA r n=none:=by
 unfold betF;rw[Zo7 hb]
theorem ZhH {e:AV}:Wk (.tup [.agg [.v (.int .i64 0),.v (.int .i64 0),.v (.string ⟨#[]⟩),.sl 0 0 true []],e]) (.tup [tabA Zgz,e]):=Wk.tup (wkw (Wk.agg (wk1 rfl (wk1 rfl (wk1 rfl (wkw Wk.nilF wk0))))) (wk1 rfl wk0))
theorem lookR_a {t:List Nam}{k:List Lnk}{nm:ByteArray}{h:AH}(hr:risN t) (hl:t.length≤1000000) (hk:k.length≤9223372036854775807) :
  Ac 43 [.agg [.sl t.length 5 false (rows namC t),.sl k.length 2 false (rows lnkC k)],sv nm] h (.tup [tabA (Zee (t,k) nm).1,bv (Zee (t,k) nm).2]):=by
 have hkk:=hk
 refine tW' k43 fun N hn _ _ hbd=>?_
 simp only[tb'] at hbd ⊢
 refine wr'<|E' (ZaU cv rfl hl0 ha0) pt<|E' (ZaU cv rfl hl1 ha1) pt<|E' (Za3 hl2 ha2) pt<|ms<|wr'<|fq<|Vw (Zaa lk gx gt1)<|Vw (Zg1 mp)<|?_
 refine Zac mp (Zpf (p:=fun l:Lnk=>decide (l.2=nm)) (fun c _ E=>lookR1_a (ZcF gx)) hkk) pt ?_
 refine ms<|?_
 refine Zg0 (ι:=Unit) (fun (x:Unit)=>[]++rn' 13 8) (fun (x:Unit)=>[(1,.mk 0 9 1 [sv (tgtR k nm)])]) (fun (x:Unit)=>True) ?_ ?_
 ·try simp only[sm',Nat.reduceAdd]
  refine wm<|Vw (Zeq lk lki)<|sn'<|?_
  refine cd' lk (fun hc1=>?_) (fun hc1=>?_)
  ·have hlt':k.findIdx (fun l:Lnk=>decide (l.2=nm))<k.length:=by unfold idxV at hc1;split at hc1;assumption;omega
   have hix:idxV (fun l:Lnk=>decide (l.2=nm)) k=((k.findIdx fun l:Lnk=>decide (l.2=nm):Nat):Int):=if_pos hlt'
   have hT:=tgtR_yes hlt'
   refine Zap<|fq<|Vw (Zaa lk gx gt1)<|mw<|?_
   refine V' (ZaF (k:=k.findIdx fun l:Lnk=>decide (l.2=nm)) lk lk Za9 nb ro om ro rfl) pt ?_
   refine Vw (ZaR lk dp0)<|Vw (Zar lk gt)<|E' (Zam lk cv gx rfl nb rfl Zj3 hs1) ptn<|Zak<|Zax<|?_
   exact cT' (()) (by trivial) (by refine zz ?_;exact ALe.same wA' (by rw[hT];first | rfl | done))
  have hlt':¬k.findIdx (fun l:Lnk=>decide (l.2=nm))<k.length:=fun h=>hc1 (by unfold idxV;rw[if_pos h];omega)
  have hT:=tgtR_no hlt'
  refine Zay<|Zax<|?_
  exact cT' (()) (by trivial) (by refine zz ?_;exact ALe.same wA' (by rw[hT];first | rfl | done))
 rintro x hq4
 try simp only[sm',Nat.reduceAdd]
 refine wr'<|fq<|Vw (Zaa lk gx gt0)<|Vw (Zaa lk gx gt0)<|Zac mp (ZhX hr hl) pt<|mw<|Vw (ZaW lk gt)<|Vw (ZaW lk gt)<|mw<|ms<|Zab<|?_
 refine wm<|Vw (Zaz lk)<|sn'<|?_
 refine Zas lk (fun hc2=>?_) (fun hc2=>?_)
 ·have hb:hasN t (tgtR k nm)=false:=by simpa using hc2
  have hL:=Ztg hb
  refine wr'<|Vw (ZaC ZmB)<|E' (Zam lk cv gx rfl nb rfl ZbT hs2) ptn<|mr<|Zaf<|Zad (rsn (rm1 (rr_c gt gx (ld1 ZbS rfl)) (rm1 (rr_t gt) rm0)))<|rtW'<|?_
  rw[hL];exact ZhH
 have hb:hasN t (tgtR k nm)=true:=by simpa using hc2
 obtain⟨hp,hkl⟩:=ZoQ hr hb
 have hL:Zee (t,k) nm=(t[posN t (tgtR k nm)].2,true):=by unfold Zee;dsimp only;rw[hkl]
 refine za<|wr'<|fq<|Vw (Zaa lk gx gt0)<|mw<|?_
 refine V' (ZaF (k:=posN t (tgtR k nm)) lk lk ZaY nb ro om ro rfl) pt ?_
 refine Vw (ZaR lk dp1)<|Vw (Zav lk ZeJ rfl)<|E' (Zam lk cv gx rfl nb rfl ZbT hs2) ptn<|mr<|Zad (rsn (rm1 (rr_c gt gx (ld1 ZbS rfl)) (rm1 (rr_t gt) rm0)))<|rtW'<|?_
 rw[hL];exact Wk.refl _
theorem Znt {t:List Nam}{k:List Lnk}{nm:ByteArray}{h:AH}(hok:ZiV (t,k)) (hk:k.length≤9223372036854775807) :
  Ac 11 [.agg [.sl t.length 5 false (rows namC t),.sl k.length 2 false (rows lnkC k)],sv nm] h (.tup [tabA (Zfc (t,k) nm).1,iv (Zfc (t,k) nm).2]):=by
 have hkk:=hk
 refine tW' k11 fun N hn _ _ hbd=>?_
 simp only[tb'] at hbd ⊢
 refine wr'<|E' (ZaU cv rfl hl0 ha0) pt<|E' (Za3 hl1 ha1) pt<|ms<|Zab<|wr'<|Vw (Zaj lk gx ZcN rfl)<|Zac mp (ZsE hok) pt<|mw<|Zak<|?_
 refine Zal<|wm<|Vw (Za0 lk lki)<|sn'<|?_
 refine cd' lk (fun hc1=>?_) (fun hc1=>?_)
 ·have hF:Zfc (t,k) nm=(Zgz,Zbb (t,k)):=if_pos hc1
  refine wr'<|Vw (ZaC Zom)<|mw<|E' (Zam lk cv gx rfl nb rfl ZbT hs1) ptn<|mr<|Zaf<|Zad (rsn (rm1 (rr_c gt gx (ld1 ZbS rfl)) (rm1 (rr_t gt) rm0)))<|rtW'<|?_
  rw[hF];exact ZhH
 have h0:Zbb (t,k)=0:=Decidable.of_not_not hc1
 obtain⟨a1,a2,a3,a4,a5,a6⟩:=Zcj h0
 simp only at a1 a2 a3 a4
 refine za<|wr'<|Vw (Zaj lk gx ZcN rfl)<|mw<|?_
 refine Zac mp (lookR_a a4 om hkk) pt ?_
 refine mw<|Vw (ZaW lk gt)<|Vw (ZaW lk gt)<|E' (Za3 hl2 ha2) pt<|E' (Zam lk cv gx rfl nb rfl ZbT hs2) ptn<|ms<|Zab<|wm<|Vw (Zaz lk)<|Zak<|?_
 refine Zal ?_
 refine Zas lk (fun hc2=>?_) (fun hc2=>?_)
 ·have hb:(Zee (t,k) nm).2=false:=by simpa using hc2
  have hF:Zfc (t,k) nm=(Zgz,5):=by unfold Zfc;rw[if_neg hc1];unfold Zee at hb;split at hb;(rename_i e;first | rw[e] | rfl);cases hb
  refine wr'<|Vw (ZaC ZmC)<|E' (Zam lk cv gx rfl nb rfl ZbT hs1) ptn<|mr<|Zaf<|Zad (rsn (rm1 (rr_c gt gx (ld1 ZbS rfl)) (rm1 (rr_t gt) rm0)))<|rtW'<|?_
  rw[hF];exact ZhH
 have hb:(Zee (t,k) nm).2=true:=by simpa using hc2
 have hF:Zfc (t,k) nm=((Zee (t,k) nm).1,0)∧ZbV (Zee (t,k) nm).1=0:=by unfold Zfc;rw[if_neg hc1];unfold Zee at hb ⊢;split at hb;cases hb;(rename_i u e;(try rw[e]);exact⟨rfl,(a3 _ (Zey e)).2⟩)
 have hlen:=ZgL hF.2
 refine za<|wr'<|Vw (Zaj lk gx ZbS rfl)<|?_
 refine Zac mp (rown_a om) pt ?_
 refine E' (Zam lk cv gx rfl nb rfl ZbT hs1) ptn<|mr<|Zad (rsn (rm1 (rr_c gt gx (ld1 ZbS rfl)) (rm1 (rr_t gt) rm0)))<|rtW'<|?_
 rw[hF.1];exact Wk.refl _
abbrev updC (u:Upd):List AV:=[.sl u.1.length 1 false (rows strC u.1),.sl u.2.1.length 5 false (rows namC u.2.1),.sl u.2.2.1.length 7 false (rows nptC u.2.2.1),.sl u.2.2.2.length 2 false (rows lnkC u.2.2.2)]
theorem Zum (l s:List Nam) (n:Nam):betD (l++[n]) s=betD l s++(if hasN s n.1=true then [] else [n.1]):=by
 unfold betD
 rw[List.filter_append,List.map_append]
 congr 1
 cases h:hasN s n.1 <;> simp[h]
theorem Zul (r l:List Nam) (n:Nam):betP r (l++[n])=betP r l++(if hasN r n.1=true then [] else [n]):=by
 unfold betP
 rw[List.filter_append]
 congr 1
 cases h:hasN r n.1 <;> simp[h]
theorem Zuj (r l:List Nam) (n:Nam):betT ZdA r (l++[n])=betT ZdA r l++(betF ZdA r n).toList:=by
 unfold betT
 rw[List.filterMap_append]
 congr 1
 try (cases h:betF ZdA r n <;> simp[h])
theorem ZpJ (l s:List Nam):(betD l s).length≤l.length:=by unfold betD;rw[List.length_map];exact List.length_filter_le _ _
theorem ZpI (r l:List Nam):(betP r l).length≤l.length:=List.length_filter_le _ _
theorem ZpH (r l:List Nam):(betT ZdA r l).length≤l.length:=List.length_filterMap_le _ _
theorem betR_a {r s:Rel}{h:AH}(hr:Zbb r=0) (hs:Zbb s=0) :
  Ac 42 [.agg [.sl r.1.length 5 false (rows namC r.1),.sl r.2.length 2 false (rows lnkC r.2)],.agg [.sl s.1.length 5 false (rows namC s.1),.sl s.2.length 2 false (rows lnkC s.2)]] h (.agg (updC (betU r s))):=by
 obtain⟨a1,a2,a3,a4,a5,a6⟩:=Zcj hr
 obtain⟨b1,b2,b3,b4,b5,b6⟩:=Zcj hs
 refine tI' k42 fun N hn hlt _ hbd=>?_
 simp only[tb'] at hbd ⊢
 refine wr'<|E' (ZaU cv rfl hl0 ha0) pt<|E' (ZaU cv rfl hl1 ha1) pt<|E' (Za3 hl2 ha2) pt<|sn'<|wr'<|fq<|Vw (Zaa lk gx gt1)<|?_
 refine Zac mp (lclone_q om) pt ?_
 refine Vw (ZaC (Zi4 cv rfl))<|E' (Za3 hl3 ha3) pt<|E' (Zam lk cv gx rfl nb rfl ZbT hs3) ptn<|Zak<|?_
 refine ZaS (ALe.trans (ALe.own0Cell (st':=1) (ty:=9) gx gt0 hl4 pt0 (Eq.trans (congrArg (fun z=>List.set z _ _) ha4) hs3)) (ALe.trans (ALe.own0Cell (st':=5) (ty:=40) gx gt1 hl5 pt1 (Eq.trans (congrArg (fun z=>List.set z _ _) ha5) hs3)) (ALe.own0Cell (st':=7) (ty:=44) gx gt2 hl6 pt2 (Eq.trans (congrArg (fun z=>List.set z _ _) ha6) hs3)))) ?_
 refine Zab<|wr'<|fq<|Vw (Zaa lk gx gt0)<|Vw (ZaB lk)<|ms<|Zae<|?_
 refine w_lp (ι:=Nat×Nat) (fun (x_:Nat×Nat)=>match x_ with | ⟨i,v⟩=>[(21,iv (i:Int))]++rn' 7 3++rn' 22 21) (fun (x_:Nat×Nat)=>match x_ with | ⟨i,v⟩=>[(3,.mk 0 30 4 [.own (N+4) v (betD (r.1.take i) s.1).length,.own (N+5) 0 0,.own (N+6) 0 0,.sl s.2.length 2 false (rows lnkC s.2)]),(4,.mk v 9 1 (rows strC (betD (r.1.take i) s.1)))]) (fun (x_:Nat×Nat)=>match x_ with | ⟨i,v⟩=>i≤r.1.length) (fun (x_:Nat×Nat)=>match x_ with | ⟨i,v⟩=>r.1.length-i) (⟨0,0⟩) (by exact Nat.zero_le _) ?_
 rintro⟨i,v⟩ hi1
 try simp only[sm',Nat.reduceAdd]
 replace hi1:i≤r.1.length:=hi1
 have hdl:=ZpJ (r.1.take i) s.1
 rw[List.length_take] at hdl
 refine wr'<|Vw (ZaL lk lk)<|sn'<|Zab<|?_
 refine cd' lk (fun hc1=>?_) (fun hc1=>?_)
 ·have hi:i<r.1.length:=by omega
  have hst:=Zum (r.1.take i) s.1 r.1[i]
  rw[←List.take_succ_eq_append_getElem hi] at hst
  refine za<|Zab<|Zae<|wr'<|?_
  refine V' (ZaF lk lk ZaY nb ro om ro rfl) pt ?_
  refine Vw (Zav lk ZiJ rfl)<|E' (Za3 hl7 ha7) pt<|E' (Zam lk cv gx rfl nb rfl Zj2 hs7) ptn<|sn'<|wr'<|fq<|Vw (Zaa lk gx gt0)<|fq<|Vw (Zaa lk gx gt0)<|?_
  refine Zac mp (ZhX b4 om) pt ?_
  refine mw<|Vw (ZaW lk gt)<|Vw (ZaW lk gt)<|mw<|ms<|wm<|Vw (Zaz lk)<|sn'<|?_
  refine Zas lk (fun hc2=>?_) (fun hc2=>?_)
  ·have hb:hasN s.1 r.1[i].1=false:=by simpa using hc2
   rw[if_neg (by rw[hb];simp)] at hst
   refine Zap<|fq<|Vw (Zaa lk gx gt0)<|fq<|Vw (Zaa lk gx gt0)<|E' (Zci (ZiN cv rfl) hl8 ha8) pt<|?_
   refine E' (Zbz (Zbh lk gx rfl ZuP nb) lk gx (Zcy _) om rfl hs4) pt ?_
   refine fq<|E' (Zam lk cv gx rfl nb rfl Zj3 hs3) ptn<|Zak<|Zau<|Zal<|Zap<|?_
   refine ad<|mw<|Zak<|Zax<|?_
   refine lU' (⟨i+1,v+1⟩) (by (try dsimp only);omega) (by refine zz ?_;exact bk' 7 hn hlt (by rw[hst,List.length_append,ZaG];rfl) (hT:=by simp[AV.lt,AV.ltL,Ent.lt]) (hE:=by simp[AV.lt,AV.ltL,Ent.lt]))
  have hb:hasN s.1 r.1[i].1=true:=by simpa using hc2
  rw[if_pos hb,List.append_nil] at hst
  refine Zay<|Zau<|Zal<|Zap<|?_
  refine ad<|mw<|Zak<|Zax<|?_
  refine lU' (⟨i+1,v⟩) (by (try dsimp only);omega) (by refine zz ?_;exact bk' 7 hn hlt (by rw[hst];rfl) (hT:=by simp[AV.lt,AV.ltL,Ent.lt]) (hE:=by simp[AV.lt,AV.ltL,Ent.lt]))
 rw[List.take_of_length_le (show r.1.length≤i by omega)] at *
 refine Zaw<|Zaq<|Zaq<|ZaH<|Zal<|Zab<|wr'<|fq<|Vw (Zaa lk gx gt0)<|Vw (ZaB lk)<|ms<|?_
 refine Zae ?_
 refine w_lp (ι:=Nat×Nat×Nat) (fun (x_:Nat×Nat×Nat)=>match x_ with | ⟨j,p,q⟩=>[(46,iv (j:Int))]++rn' 11 3++rn' 47 54) (fun (x_:Nat×Nat×Nat)=>match x_ with | ⟨j,p,q⟩=>[(3,.mk 0 30 4 [.own (N+4) v (betD r.1 s.1).length,.own (N+5) p (betP r.1 (s.1.take j)).length,.own (N+6) q (betT ZdA r.1 (s.1.take j)).length,.sl s.2.length 2 false (rows lnkC s.2)]),(5,.mk p 40 5 (rows namC (betP r.1 (s.1.take j)))),(6,.mk q 44 7 (rows nptC (betT ZdA r.1 (s.1.take j))))]) (fun (x_:Nat×Nat×Nat)=>match x_ with | ⟨j,p,q⟩=>j≤s.1.length) (fun (x_:Nat×Nat×Nat)=>match x_ with | ⟨j,p,q⟩=>s.1.length-j) (⟨0,0,0⟩) (by exact Nat.zero_le _) ?_
 rintro⟨j,p,q⟩ hi2
 try simp only[sm',Nat.reduceAdd]
 replace hi2:j≤s.1.length:=hi2
 have hpl:=ZpI r.1 (s.1.take j)
 have hql:=ZpH r.1 (s.1.take j)
 rw[List.length_take] at hpl hql
 refine wr'<|Vw (ZaL lk lk)<|sn'<|Zab<|?_
 refine cd' lk (fun hc3=>?_) (fun hc3=>?_)
 ·have hj:j<s.1.length:=by omega
  have hsP:=Zul r.1 (s.1.take j) s.1[j]
  have hsT:=Zuj r.1 (s.1.take j) s.1[j]
  rw[←List.take_succ_eq_append_getElem hj] at hsP hsT
  have hlu:=ZgL (b3 _ (List.getElem_mem hj)).2
  refine za<|Zab<|Zae<|wr'<|?_
  refine V' (ZaF lk lk ZaY nb ro om ro rfl) pt ?_
  refine Vw (Zav lk ZiJ rfl)<|E' (Za3 hl7 ha7) pt<|E' (Zam lk cv gx rfl nb rfl Zj2 hs7) ptn<|sn'<|wr'<|fq<|Vw (Zaa lk gx gt0)<|fq<|Vw (Zaa lk gx gt0)<|?_
  refine Zac mp (ZhX a4 om) pt ?_
  refine mw<|Vw (ZaW lk gt)<|Vw (ZaW lk gt)<|mw<|ms<|Zae<|wm<|Vw (Zaz lk)<|mw<|Zak<|?_
  refine Zal ?_
  refine Zas lk (fun hc4=>?_) (fun hc4=>?_)
  ·have hb:hasN r.1 s.1[j].1=false:=by simpa using hc4
   have hF:=betF_no hb
   rw[if_neg (by rw[hb];simp)] at hsP
   rw[hF] at hsT
   replace hsT:betT ZdA r.1 (s.1.take (j+1))=betT ZdA r.1 (s.1.take j):=hsT.trans (List.append_nil _)
   refine ZaJ<|dg<|Dw (Zaa lk gx gt1)<|dg<|Dw (Zaa lk gx gt0)<|dg<|Dw (Zaj lk gx ZgV rfl)<|?_
   refine ZaD mp (fun hE hX=>rown_a om) pt ?_
   refine Dw (ZaC (ZiM cv rfl cv rfl))<|Zc0 rfl rfl (hlk hn rfl) (ZfZ (ZiL cv rfl)) pt Zmz<|ZaM<|?_
   refine ZcZ Zj4 ?_
   refine E' (Zbz (Zbh lk gx rfl ZiJ nb) lk gx (Zcq _) om rfl hs5) pt ?_
   refine fq<|E' (Zam lk cv gx rfl nb rfl Zrp hs3) ptn<|Zak<|Zau<|Zau<|Zal<|Zap<|?_
   refine ad<|mw<|Zak<|Zax<|?_
   refine lU' (⟨j+1,p+1,q⟩) (by (try dsimp only);omega) (by refine zz ?_;exact bk' 7 hn hlt (by rw[hsP,hsT,List.length_append,ZaG];rfl) (hT:=by simp[AV.lt,AV.ltL,Ent.lt]) (hE:=by simp[AV.lt,AV.ltL,Ent.lt]))
  have hb:hasN r.1 s.1[j].1=true:=by simpa using hc4
  obtain⟨hp,hkl⟩:=ZoQ a4 hb
  have hlr:=ZgL (a3 _ (List.getElem_mem hp)).2
  rw[if_pos hb,List.append_nil] at hsP
  refine Zab<|ZaJ<|dg<|Dw (Zaa lk gx gt0)<|Dw vm<|?_
  refine D' (ZaF (k:=posN r.1 s.1[j].1) lk lk ZaY nb ro om ro rfl) pt ?_
  refine Dw (ZaR lk dp1)<|Dw (Zav lk ZeJ rfl)<|dg<|Dw (Zaj lk gx ZgV rfl)<|?_
  refine ZaD mp (fun hE hX=>rsame_a) pt ?_
  refine Dw (Zaz lk)<|Dw vm<|ZaM<|?_
  refine ZaX ?_
  refine sn' ?_
  refine Zas lk (fun hc5=>?_) (fun hc5=>?_)
  ·have hne:¬r.1[posN r.1 s.1[j].1].2=s.1[j].2:=by simpa using hc5
   have hF:betF ZdA r.1 s.1[j]=some (s.1[j].1,ZdA r.1[posN r.1 s.1[j].1].2 s.1[j].2):=by unfold betF;rw[hkl];dsimp only;rw[if_neg hne]
   rw[hF] at hsT
   refine ZaJ<|dg<|Dw (Zaa lk gx gt2)<|dg<|Dw (Zaa lk gx gt0)<|dg<|Dw (Zaa lk gx gt0)<|Dw vm<|?_
   refine D' (ZaF (k:=posN r.1 s.1[j].1) lk lk ZaY nb ro om ro rfl) pt ?_
   refine Dw (ZaR lk dp1)<|Dw (Zav lk ZeJ rfl)<|dg<|Dw (Zaj lk gx ZgV rfl)<|?_
   refine ZaD mp (fun hE hX=>Zui (t:=r.1[posN r.1 s.1[j].1].2) (u:=s.1[j].2) om om) pt ?_
   refine Dw (ZaC (ZiK cv rfl cv rfl))<|Zc0 rfl rfl (hlk hn rfl) (ZfZ (Zhp cv rfl)) pt Zmz<|ZaM<|?_
   refine ZcZ Zj4 ?_
   refine E' (Zbz (Zbh lk gx rfl ZuO nb) lk gx (Zm9 _) om rfl hs6) pt ?_
   refine fq<|E' (Zam lk cv gx rfl nb rfl Zro hs3) ptn<|Zak<|Zau<|Zau<|Zal<|Zap<|?_
   refine ad<|mw<|Zak<|Zax<|?_
   refine lU' (⟨j+1,p,q+1⟩) (by (try dsimp only);omega) (by refine zz ?_;exact bk' 7 hn hlt (by rw[hsP,hsT,List.length_append,ZaG];rfl) (hT:=by simp[AV.lt,AV.ltL,Ent.lt]) (hE:=by simp[AV.lt,AV.ltL,Ent.lt]))
  have hne:r.1[posN r.1 s.1[j].1].2=s.1[j].2:=by simpa using hc5
  have hF:betF ZdA r.1 s.1[j]=none:=by unfold betF;rw[hkl];dsimp only;rw[if_pos hne]
  rw[hF] at hsT
  replace hsT:betT ZdA r.1 (s.1.take (j+1))=betT ZdA r.1 (s.1.take j):=hsT.trans (List.append_nil _)
  refine Zay<|Zau<|Zau<|Zal<|Zap<|?_
  refine ad<|mw<|Zak<|Zax<|?_
  refine lU' (⟨j+1,p,q⟩) (by (try dsimp only);omega) (by refine zz ?_;exact bk' 7 hn hlt (by rw[hsP,hsT];rfl) (hT:=by simp[AV.lt,AV.ltL,Ent.lt]) (hE:=by simp[AV.lt,AV.ltL,Ent.lt]))
 rw[List.take_of_length_le (show s.1.length≤j by omega)] at *
 refine Zaw<|Zaq<|Zaq<|ZaH<|?_
 refine ZaS (ALe.trans (ALe.iceCellR (hga hn rfl) (hga hn rfl) om gt0 (List.take_of_length_le (by rw[Zcy];exact Nat.le_refl _)) (by rw[Zcy];exact Nat.le_refl _) pt0 hs4 hs3) (ALe.trans (ALe.iceCellR (hga hn rfl) (hga hn rfl) om gt1 (List.take_of_length_le (by rw[Zcq];exact Nat.le_refl _)) (by rw[Zcq];exact Nat.le_refl _) pt1 hs5 hs3) (ALe.iceCellR (hga hn rfl) (hga hn rfl) om gt2 (List.take_of_length_le (by rw[Zm9];exact Nat.le_refl _)) (by rw[Zm9];exact Nat.le_refl _) pt2 hs6 hs3))) ?_
 exact wr'<|Vw (Zaj lk gx ZbS rfl)<|E' (Zam lk cv gx rfl nb rfl ZbT hs2) ptn<|sr<|Zad (rs1 (rr_c gt gx (ld1 ZbS rfl)))<|rT' rfl
theorem rel_lt {n:Nat}(l:List Rel):AV.ltL n (rows relC l)=true:=Zcz (fun n x=>by simp[AV.ltL,AV.lt,Zev,ZbD]) l
attribute [local simp] rel_lt
theorem diffU_at {r s:Rel}{k:Nat}(hk:k<[r,s].length) (h0 : ∀ j (hj:j<[r,s].length),j<k→Zbb [r,s][j]=0) (h:Zbb [r,s][k]≠0):Zf7 r s=(upd0,Zbb [r,s][k]):=by
 match k,hk with
 | 0,_=>exact if_pos h
 | 1,_ =>
  have h1:Zbb r=0:=h0 0 (by simp) om
  have h2:Zbb s≠0:=h
  unfold Zf7
  rw[if_neg (by simpa using h1),if_pos h2];rfl
theorem diffU_ok {r s:Rel}(h0 : ∀ j (hj:j<[r,s].length),Zbb [r,s][j]=0):Zbb r=0∧Zbb s=0∧Zf7 r s=(betU r s,0):=by
 have h1:Zbb r=0:=h0 0 (by simp)
 have h2:Zbb s=0:=h0 1 (by simp)
 refine⟨h1,h2,?_⟩
 unfold Zf7
 rw[if_neg (by simpa using h1),if_neg (by simpa using h2)]
theorem wk_upd0 {e:AV}:Wk (.tup [.agg [.sl 0 0 true [],.sl 0 0 true [],.sl 0 0 true [],.sl 0 0 true []],e]) (.tup [.agg (updC upd0),e]):=Wk.tup (wkw (Wk.agg (wkw Wk.nilF (wkw Wk.nilF (wkw Wk.nilF (wkw Wk.nilF wk0))))) (wk1 rfl wk0))
theorem ZtP {r s:Rel}{h:AH}(hr:ZiV r) (hs:ZiV s) :
  Ac 10 [.agg [.sl r.1.length 5 false (rows namC r.1),.sl r.2.length 2 false (rows lnkC r.2)],.agg [.sl s.1.length 5 false (rows namC s.1),.sl s.2.length 2 false (rows lnkC s.2)]] h (.tup [.agg (updC (Zf7 r s).1),iv (Zf7 r s).2]):=by
 refine tW' k10 fun N hn hlt _ hbd=>?_
 simp only[tb'] at hbd ⊢
 refine wr'<|E' (ZaU cv rfl hl0 ha0) pt<|E' (ZaU cv rfl hl1 ha1) pt<|E' (Za3 hl2 ha2) pt<|ms<|Zab<|wr'<|Vw (Zaj lk gx ZcN rfl)<|Vw (Zaj lk gx ZcN rfl)<|E' (Zci (Zoo cv rfl cv rfl) hl3 ha3) pt<|?_
 refine Vw (ZbK lk)<|ms<|Zae<|?_
 refine w_lp (ι:=Nat) (fun (k:Nat)=>[(13,iv (k:Int)),(5,.any),(7,.any),(8,.any)]++rn' 14 10) (fun (k:Nat)=>[(3,.mk 0 25 2 (rows relC [r,s]))]) (fun (k:Nat)=>k≤[r,s].length ∧ ∀ j (hj:j<[r,s].length),j<k→Zbb [r,s][j]=0) (fun (k:Nat)=>2-k) (0) (by exact⟨by simp,fun j hj h0=>by omega⟩) ?_
 rintro k hi1
 try simp only[sm',Nat.reduceAdd]
 obtain⟨hk1,hk2⟩:=hi1
 have hlen:[r,s].length=2:=rfl
 refine wr'<|Vw (ZaL lk lk)<|sn'<|Zab<|?_
 refine cd' lk (fun hc1=>?_) (fun hc1=>?_)
 ·have hk:k<[r,s].length:=by omega
  have hok:ZiV [r,s][k]:=by
   match k,hk with
   | 0,_=>exact hr
   | 1,_=>exact hs
  refine za<|Zab<|Zae<|wr'<|?_
  refine V' (ZaP lk lk gx (fun _=>rfl) nb ro om (by first | rfl | (simp;done) | omega)) pt ?_
  refine V' (Zep lk gx (fun _=>rfl) om rfl) pt ?_
  refine E' (Za3 hl4 ha4) pt<|E' (Zam lk cv gx rfl nb rfl Zrq hs4) ptn<|sn'<|wr'<|Vw (Zaj lk gx ZcN rfl)<|Zac mp (ZsE (t:=[r,s][k].1) (k:=[r,s][k].2) hok) pt<|ms<|wm<|?_
  refine Vw (Za0 lk lki)<|sn'<|?_
  refine cd' lk (fun hc2=>?_) (fun hc2=>?_)
  ·refine wr'<|Vw (ZaC ZmD)<|mw<|E' (Zam lk cv gx rfl nb rfl ZbT hs2) ptn<|mr<|Zao<|Zaf<|Zaf<|Zao<|Zaf<|?_
   refine Zad (rsn (rm1 (rr_c gt gx (ld1 ZbS rfl)) (rm1 (rr_t gt) rm0)))<|rtW'<|?_
   have hE:=diffU_at hk hk2 hc2
   rw[hE];exact wk_upd0
  refine Zay<|Zau<|Zal<|Zap<|?_
  refine ad<|mw<|Zak<|Zax<|?_
  refine lU' (k+1) (by (try dsimp only);exact⟨by omega,fun j hj h0=>by by_cases e:j=k;subst e;exact Decidable.of_not_not hc2;exact hk2 j hj om⟩) (by refine zz ?_;exact bk' 4 hn hlt (hT:=by simp[AV.lt,AV.ltL,Ent.lt]) (hE:=by simp[AV.lt,AV.ltL,Ent.lt]))
 refine Zaw<|Zaq<|Zaq<|ZaH<|Zal<|?_
 have hz:=diffU_ok (r:=r) (s:=s) fun j hj=>hk2 j hj om
 refine wr'<|Vw (Zaj lk gx ZcN rfl)<|Vw (Zaj lk gx ZcN rfl)<|Zac mp (betR_a hz.1 hz.2.1) pt<|E' (Zam lk cv gx rfl nb rfl ZbT hs2) ptn<|mr<|Zad (rsn (rm1 (rr_c gt gx (ld1 ZbS rfl)) (rm1 (rr_t gt) rm0)))<|rtW'<|?_
 rw[hz.2.2];exact Wk.refl _
end
end Go.Proofs.YtfoipaclphdodaaGreatDoor
namespace Go.Ab
section
open Go.RowKit Go.Sort
section
variable {P : Program}
theorem ACalls.of_turnB {f:FuncId}{args:List AV}{h:AH}{id ver ty st:Nat}{cells:List AV}{R':List AV→Prop}(he:enters P f=true) (hi:h[id]?=some (.mk ver ty st cells)) (hne:cells≠[])
  (hc : ∀ w g (vs:Array Value) b cap arr,SimH w g h→RepL w g args vs.toList→g.loc id ver=some (some ⟨b,0,none⟩,cap)→w.heap[b]?=some (.cells arr ty (0,0))→arr.size=cap*st→cells.length≤arr.size→RepL w g cells (arr.toList.take cells.length) →
   Calls P f vs w fun e w'=>e=.returned (.tuple #[]) ∧ ∃ (cells':List AV) (vs':List Value) (arr':Array Value),R' cells'∧RepL w g cells' vs'∧w'.heap[b]?=some (.cells arr' ty (0,0))∧arr'.size=arr.size∧vs'.length=cells.length∧arr'.toList.take cells.length=vs' ∧
    w'.os=w.os∧w'.tape=w.tape∧w'.output=w.output∧w.heap.size≤w'.heap.size ∧ ∀ k,k<w.heap.size→k≠b→w'.heap[k]?=w.heap[k]?) :
  ACalls P f args h fun x h'=>x=.ret (.tup []) ∧ ∃ cells',R' cells'∧h'=h.set id (.mk ver ty st cells'):=by
 refine⟨he,fun w g vs hs ha=>?_⟩
 obtain⟨A,cap,f1,fm,f3⟩:=hs.ent _ _ _ _ _ hi
 rcases f3 with ⟨e,_⟩ | ⟨b,arr,rfl,hc0,hd,hb,hsz,hle,hrl⟩
 ·exact absurd e hne
 have hid:id<h.length:=(List.getElem?_eq_some_iff.1 hi).1
 have how:OwAt g h id b:=⟨ver,ty,st,cells,_,cap,hi,f1,hc0,rfl⟩
 refine (hc w g vs b cap arr hs ha f1 hb hsz hle hrl).mono ?_
 rintro e w' ⟨rfl,cells',vs',arr',hR,hRep,h1,h2,h3,h4,h5,h6,h7,h8,h9⟩
 have hother : ∀ j,g.D j∨(∃ i,i≠id∧OwAt g h i j)∨(∃ i,RwAt h i j)→w'.heap[j]?=w.heap[j]?:=by
  rintro j (hj | ⟨i,hne',hj⟩ | ⟨i,hj⟩)
  rotate_left 2
  ·exact h9 j (hs.own_not_D (.inr ⟨i,hj⟩)).2 (fun e=>by subst e;exact hs.own_ne_raw how hj)
  ·exact h9 j (hs.lt j hj) (fun e=>hd (e ▸ hj))
  ·exact h9 j (hs.own_not_D (.inl ⟨i,hj⟩)).2 (fun e=>hne' (hs.inj i id j hj (e ▸ how)))
 obtain⟨k1,k2,k3⟩:=hs.put (w':=w') (g':=g) (h':=h.set id (.mk ver ty st cells')) id ver ty st cells' (some ⟨b,0,none⟩) cap
  (fun i hne'=>by rw[List.getElem?_set_ne (Ne.symm hne')]) (by rw[List.getElem?_set_self hid]) (by simp) rfl (fun _ _ _ h=>h) (fun _ _ _ h=>.inl h) f1 (fun v l hv=>(hs.fresh _ _ _ hv).2 _ _ _ _ hi) hother h8 fm
  (.inr ⟨b,arr',rfl,hc0,hd,h1,by rw[h2,hsz],by rw[←hRep.length,h3,h2];exact hle,by rw[←hRep.length,h3,h4];exact RepL.mono (Gh.le.refl g) (fun j hj=>hother j (.inl hj)) _ _ hRep⟩)
  (fun j hj _ i hne' ho=>by
   simp at hj
   subst hj
   exact hne' (hs.inj i id _ ho how)) (fun k hk _ _=>by simp at hk;subst hk;exact .inl ⟨id,how⟩)
 refine⟨.ret (.tup []),_,g,?_,k1,k2,⟨h5,h6,h7,h8,fun k hk hn=>h9 k hk (fun e=>hn (.inl ⟨id,e ▸ how⟩))⟩,fun k hk=>?_,rfl,_,hR,rfl⟩
 ·simp only[EndR,Rep];exact⟨#[],rfl,by simp only[RepL]⟩
 ·rcases k3 k hk with ho | ⟨ho,_⟩
  ·exact .inl ho
  ·simp at ho;subst ho;exact .inl (.inl ⟨id,how⟩)
end
section
variable {P : Program} {α β : Type}
theorem Zlr {w:World}{g:Gh}{f:α→List AV}{enc:β→List Value}{pr:β→α}{k:Nat}(hf : ∀ x,(f x).length=k) (hrep : ∀ x vs,RepL w g (f x) vs → ∃ y:β,pr y=x∧enc y=vs) :
  ∀ (l:List α) (us:List Value),RepL w g (rows f l) us → ∃ L:List β,L.map pr=l∧L.flatMap enc=us ∧ ∀ y∈L,RepL w g (f (pr y)) (enc y)
 | [],us,h=>by
  have:us=[]:=by simpa [rows,RepL] using h
  subst this;exact⟨[],rfl,rfl,fun y hy=>by cases hy⟩
 | x::l,us,h=>by
  have h':RepL w g (f x++rows f l) us:=h
  have h1:=h'.take k
  have h2:=h'.drop k
  rw[List.take_left' (hf x)] at h1
  rw[List.drop_left' (hf x)] at h2
  obtain⟨y,rfl,e⟩:=hrep x _ h1
  obtain⟨L,rfl,e2,h3⟩:=Zlr hf hrep l _ h2
  refine⟨y::L,rfl,by rw[List.flatMap_cons,e,e2,List.take_append_drop],fun z hz=>?_⟩
  rcases List.mem_cons.1 hz with rfl | hz
  ·rw[e];exact h1
  ·exact h3 z hz
theorem Zlu {w:World}{g:Gh}{f:α→List AV}{enc:β→List Value}{pr:β→α} : ∀ (L:List β),(∀ y∈L,RepL w g (f (pr y)) (enc y))→RepL w g (rows f (L.map pr)) (L.flatMap enc)
 | [],_=>by simp[rows,RepL]
 | y::L,h=>RepL.append (h y (by simp)) (Zlu L fun z hz=>h z (by simp[hz]))
theorem sort_b [Inhabited β] {ρ:Go.Shelf.Ren}(LL:Go.Proofs.SlLaysF0.n6 P ρ) {k:Nat}(hk0:0<k) (aE : ∀ w,(isAgg (ρ.t 24)).run P w=.ok true w) (zE : ∀ w,(Go.sizeOf (ρ.t 24)).run P w=.ok k w) {enc:β→List Value}(hk : ∀ x,(enc x).length=k) (h1 : ∀ x,∀ v∈enc x,v.oneCell'=true) {cf:β→β→Int}(hO:SWO (Go.Proofs.ltOf cf)) {g0:Nat}
  (eg : ∀ args w,(callFunc g0 args).run P w=.ok (.enter g0 args) w) (hcmp : ∀ blk off size w,Go.Proofs.CmpLays P g0 #[] enc k cf blk off size w) {f:α→List AV} {pr:β→α} (hf : ∀ x,(f x).length=k) (hrep : ∀ w g x vs,RepL w g (f x) vs → ∃ y:β,pr y=x∧enc y=vs) {r:α→α→Prop} (hr0 : ∀ x y,Go.Proofs.ltOf cf y x=false→r (pr x) (pr y))
  {h:AH} {id ver ty:Nat} {l:List α} (hi:h[id]?=some (.mk ver ty k (rows f l))) (hl:l≠[]) (hz:l.length<4611686018427387904) (he:enters P (ρ.f 6)=true) :
  ACalls P (ρ.f 6) [.own id ver l.length,.v (.func (.func g0) #[] #[])] h fun x h'=>x=.ret (.tup []) ∧ ∃ l':List α,l'.Perm l∧l'.Pairwise r∧h'=h.set id (.mk ver ty k (rows f l')):=by
 have hlen:=Zbr (f:=f) (st:=k) hf l
 have hpos:0<l.length:=List.length_pos_iff.2 hl
 refine (ACalls.of_turnB (R':=fun cs => ∃ l':List α,l'.Perm l∧l'.Pairwise r∧cs=rows f l') he hi ?_ ?_).mono ?_
 ·intro e
  have:=congrArg List.length e
  rw[hlen] at this
  have h0:0<l.length*k:=Nat.mul_pos hpos hk0
  simp at this;omega
 ·intro w g vs b cap arr hs ha hloc hb hsz hle hr
  simp only[RepL,Rep,hloc] at ha
  obtain⟨u1,us1,e1,⟨A,c,e2,hn1,hn2,rfl⟩,u2,us2,rfl,rfl,rfl⟩:=ha
  simp only[Option.some.injEq,Prod.mk.injEq] at e2
  obtain⟨rfl,rfl⟩:=e2
  obtain rfl:vs = #[.slice (some ⟨b,0,none⟩) l.length cap,.func (.func g0) #[] #[]]:=by cases vs;simp_all
  obtain⟨L,rfl,hr0',hrL⟩:=Zlr hf (hrep w g) l _ hr
  rw[hlen] at hr0'
  rw[List.length_map] at hr0' hlen hpos
  have hr':arr.toList.take (L.length*k)=L.flatMap enc:=hr0'.symm
  have hll:(L.map pr).length=L.length:=List.length_map _
  rw[hll] at hz
  have hblk:b<w.heap.size:=(Array.getElem?_eq_some_iff.1 hb).1
  have hflat:=ZeU hk0 hk L.toArray
  have hgetF : ∀ (d:Array β) (t:Nat),t<d.size*k→(Go.Sort.flatK enc k d).toList[t]?=some (Go.Sort.flatK enc k d)[t]!:=by
   intro d t ht
   have hs:t<(Go.Sort.flatK enc k d).size:=by simpa using ht
   rw[getElem!_pos _ t hs,Array.getElem?_toList,Array.getElem?_eq_getElem hs]
  have hH:Go.Sort.HoldsK enc k w b 0 L.toArray:=by
   intro j hj
   have hj':j<L.length*k:=by simpa using hj
   rw[Nat.zero_add]
   refine⟨?_,frozen_of_row w b j arr ty hb⟩
   rw[cell_of_row w b j arr ty (0,0) hb,←Array.getElem?_toList]
   have h5:arr.toList[j]?=(L.flatMap enc)[j]?:=by rw[←hr',List.getElem?_take_of_lt hj']
   rw[h5,show L.flatMap enc=(Go.Sort.flatK enc k L.toArray).toList from hflat.symm,hgetF _ _ (by simpa using hj')];rfl
  rw[hll]
  refine (Go.Proofs.AnyQ.slices_SortFunc LL k aE zE enc hk h1 cf hO g0 #[] b 0 cap L.toArray w eg (hcmp b 0 L.toArray.size w) hH hblk (by simpa using hz)).mono ?_
  rintro e w' ⟨rfl,d',n,os,⟨p1,_,p3⟩,hso,rfl⟩
  have hds:d'.size=L.length:=by simpa using p1
  have hw' : ∀ j,j<w.heap.size→(Go.Proofs.sortWorldK enc k w b 0 n d' os).heap[j]?=(w.heap.modify b (onCells (putCells _root_.id 0 (Go.Sort.flatK enc k d'))))[j]?:=by
   intro j hj
   show ((w.heap.modify b (onCells (putCells _root_.id 0 (Go.Sort.flatK enc k d'))))++os)[j]?=_
   rw[Array.getElem?_append_left (by simpa using hj)]
  have hsz2:arr.size=(putCells _root_.id 0 (Go.Sort.flatK enc k d') arr).size:=by simp[putCells]
  have hperm:d'.toList.Perm L:=by
   have e1:d'.extract 0 L.toArray.size=d':=by rw[←p1];simp
   have e2:L.toArray.extract 0 L.toArray.size=L.toArray:=by simp
   rw[e1,e2] at p3
   simpa using p3
  refine⟨rfl,rows f (d'.toList.map pr),d'.toList.flatMap enc,putCells _root_.id 0 (Go.Sort.flatK enc k d') arr,⟨d'.toList.map pr,hperm.map pr,?_,rfl⟩,Zlu _ (fun y hy=>hrL y (hperm.mem_iff.1 hy)),?_,hsz2.symm,?_,?_,rfl,rfl,rfl,?_,?_⟩
  ·rw[List.pairwise_map]
   refine List.pairwise_iff_getElem.2 fun i j hi hj hij=>hr0 _ _ ?_
   have:=hso i j (Nat.zero_le _) hij (by simpa [hds] using hj)
   rw[getElem!_pos d' j (by simpa using hj),getElem!_pos d' i (by simpa using hi)] at this
   simpa using this
  ·rw[hw' b hblk,Array.getElem?_modify,if_pos rfl,hb];rfl
  ·rw[ZcH hk,hlen,Array.length_toList,hds]
  ·rw[hlen]
   apply List.ext_getElem?
   intro t
   by_cases ht:t<L.length*k
   ·have ht2:t<d'.size*k:=by rw[hds];exact ht
    have hta:t<arr.size:=by rw[hlen] at hle;omega
    rw[List.getElem?_take_of_lt ht,←ZeU hk0 hk d',hgetF d' t ht2]
    unfold putCells
    rw[Array.getElem?_toList,Array.getElem?_mapIdx,Array.getElem?_eq_getElem hta,Option.map_some,if_pos ⟨Nat.zero_le _,by simpa using ht2⟩]
    rfl
   ·rw[List.getElem?_eq_none (by simp;omega),List.getElem?_eq_none (by rw[ZcH hk,Array.length_toList,hds];omega)]
  ·show w.heap.size≤((w.heap.modify b (onCells (putCells _root_.id 0 (Go.Sort.flatK enc k d'))))++os).size
   simp
  ·intro j hj hjb
   rw[hw' j hj,Array.getElem?_modify,if_neg (Ne.symm hjb)]
 ·rintro x h' ⟨rfl,cs,⟨l',hp,hs,rfl⟩,rfl⟩
  exact⟨rfl,l',hp,hs,rfl⟩
end
end
end Go.Ab
section
namespace Go.Ab
section
variable {P : Program} {n0 : Nat} {h : AH}
theorem ALe.own1 {T:List AV}{d st st' ty:Nat}{cs:List AV}(hd:T[d]?=some (.sl 0 st true cs)):ALe n0 T h (T.set d (.own h.length 1 0)) (h++[.mk 1 ty st' []]):=fun w0 S0 g0 a w g s=>by
 obtain⟨u,hu,hr⟩:=s.tmps.get hd
 simp only[Rep] at hr
 obtain⟨_,A,cap,rfl,_,_,hc,_,_⟩:=hr
 obtain rfl:cap=0:=(hc trivial).symm
 obtain⟨h1,h2,h3⟩:=s.sim.add0 (w':=w) A ty st' (fun _ _=>rfl) (Nat.le_refl _)
 obtain⟨r1,r2,r3⟩:=h1.renew (id:=h.length) (v':=1) (by simp) (fun v l hv=>by
  have:=(h1.fresh h.length v l hv).2 _ _ _ _ (by rw[List.getElem?_append_right (Nat.le_refl _),Nat.sub_self];rfl)
  omega) A ty st'
 have hset':(h++[Ent.mk 0 ty st' []]).set h.length (Ent.mk 1 ty st' [])=h++[Ent.mk 1 ty st' []]:=by
  rw[List.set_append_right _ _ (Nat.le_refl _),Nat.sub_self];rfl
 rw[hset'] at r1 r3
 have htm:=RepL.mono (h2.trans r2) (fun _ _=>rfl) _ _ s.tmps
 have hset:=htm.set (k:=d) (c:=.own h.length 1 0) (u:=.slice A 0 0) (ZbX (Nat.le_refl _) (by simp[maxLen]))
 have hself:a.tmps.toList.set d (.slice A 0 0)=a.tmps.toList:=by
  apply List.ext_getElem?
  intro j
  by_cases hj:j=d
  ·subst hj
   have:j<a.tmps.toList.length:=(List.getElem?_eq_some_iff.1 hu).1
   rw[List.getElem?_set_self this,hu]
  rw[List.getElem?_set_ne (Ne.symm hj)]
 rw[hself] at hset
 exact⟨_,hset,s.defers,r1,s.fr,(s.le.trans h2).trans r2,s.bd,fun k hk=>(h3 k (r3 k hk)).elim (s.ow k) (fun h=>.inr (Nat.le_trans s.fr.size h))⟩
theorem ALe.own1' {T T':List AV}{h':AH}{d st st' ty id:Nat}{cs:List AV}(hd:T[d]?=some (.sl 0 st true cs)) (hl:h.length=id) (hp:aPut T (some d) (.own id 1 0)=T') (hh:h++[.mk 1 ty st' []]=h'):ALe n0 T h T' h':=by
 subst hl hp hh
 exact ALe.own1 hd
theorem ALe.addFreeR {T:List AV}{h':AH}(hh:h++[.free]=h'):ALe n0 T h T h':=by
 subst hh
 exact ALe.addFree
end
end Go.Ab
namespace Go.Proofs.YtfoipaclphdodaaGreatDoor
open Go.Ab Go.RowKit Civ Go.Sort
attribute [local simp] ZbN Zcf Zb0 ZbD Zbq Zev
section
theorem Zoh {τ:Operand→AV}:Zan τ [] []=some []:=rfl
theorem Zoj {τ:Operand→AV}:Zan τ [] []=some []:=rfl
theorem Zrl {a0 a1 a2:AV}{l:List AV}:((a0::a1::a2::l).drop 0).take 3=[a0,a1,a2]:=rfl
theorem Zoi {τ:Operand→AV}:Zan τ [] [(.sl 0 0 true []),(.sl 0 0 true [])]=some [(.sl 0 0 true []),(.sl 0 0 true [])]:=rfl
theorem ZdQ {a0 a1 c0 c1:AV}{l:List AV}:setCells (a0::a1::l) 0 [c0,c1]=c0::c1::l:=rfl
theorem ZdP {a0 a1:AV}{l:List AV}:((a0::a1::l).drop 0).take 2=[a0,a1]:=rfl
theorem Zmy {τ:Operand→AV}{y0:Operand}{x0_0:AV}(h0:Zat (τ y0)=some [x0_0]) (l0:[x0_0].all leaf=true):Zan τ [(1,1,y0)] [(.sl 0 0 true []),(.sl 0 0 true [])]=some [(.sl 0 0 true []),x0_0]:=by
 simp only[Zan,h0,l0]
 rfl
theorem ZuN {a0 a1:AV}{l:List AV}:(a0::a1::l).take 2=[a0,a1]:=rfl
theorem ZuM {a0 a1 a2:AV}{l:List AV}:(a0::a1::a2::l).take 3=[a0,a1,a2]:=rfl
theorem Zrm {a0 a1 a2 a3 c0 c1 c2 c3:AV}{l:List AV}:setCells (a0::a1::a2::a3::l) 0 [c0,c1,c2,c3]=c0::c1::c2::c3::l:=rfl
theorem Zmx {τ:Operand→AV}:Zan τ [] [(.sl 0 0 true []),(.sl 0 0 true [])]=some [(.sl 0 0 true []),(.sl 0 0 true [])]:=rfl
theorem Zrk {a0 a1 a2 a3:AV}{l:List AV}:((a0::a1::a2::a3::l).drop 0).take 4=[a0,a1,a2,a3]:=rfl
theorem Zmw {τ:Operand→AV}{y0 y1:Operand}{x0_0 x1_0 x1_1 x1_2 x1_3:AV}(h0:Zat (τ y0)=some [x0_0]) (l0:[x0_0].all leaf=true) (h1:Zat (τ y1)=some [x1_0,x1_1,x1_2,x1_3]) (l1:[x1_0,x1_1,x1_2,x1_3].all leaf=true):Zan τ [(0,1,y0),(1,4,y1)] [(.v (.string ⟨#[]⟩)),(iv 0),(iv 0),(.v (.string ⟨#[]⟩)),(.sl 0 0 true [])]=some [x0_0,x1_0,x1_1,x1_2,x1_3]:=by
 simp only[Zan,h0,l0,h1,l1]
 rfl
theorem Zmv {τ:Operand→AV}{y0:Operand}{x0_0 x0_1 x0_2 x0_3 x0_4:AV}(h0:Zat (τ y0)=some [x0_0,x0_1,x0_2,x0_3,x0_4]) (l0:[x0_0,x0_1,x0_2,x0_3,x0_4].all leaf=true):Zan τ [(0,5,y0)] [(.v (.string ⟨#[]⟩)),(iv 0),(iv 0),(.v (.string ⟨#[]⟩)),(.sl 0 0 true [])]=some [x0_0,x0_1,x0_2,x0_3,x0_4]:=by
 simp only[Zan,h0,l0]
 rfl
theorem ZuL {a0 a1 a2 a3 a4:AV}{l:List AV}:(a0::a1::a2::a3::a4::l).take 5=[a0,a1,a2,a3,a4]:=rfl
theorem Zrn {a0 c0:AV}{l:List AV}:setCells (a0::l) 0 [c0]=c0::l:=rfl
end
def c46:AC:=(Sr [Oo 2 (.mv (.const (.slice none 0 0)))] (.seq (Sr [Mv 3 0,Oo 4 (.eqn false (t 3))] (Cd 4 (Sr [Oo 2 (.mv (.const (.slice none 0 0)))] .ret) .skip)) (Sr [Oo 5 (.lit 94 2 0 [] []),Mv 6 0,Oo 7 (.app 94 2 40 (t 5) (t 6)),Mv 2 7] .ret)))
theorem k46:ZaA Tryz.prog 46=some ⟨c46,[(.tmp 2)],8⟩:=by kernel_rfl
def c14:AC:=(Sr [Oo 1 (.box 53 3 (t 0)),Oo 2 (.new 25 2 [nl,nl]),Mc 3 0] (.seq (Sr [Oo 12 (.load true 3 (t 1)),Cl 13 45 [(t 12)],Mv 4 13] (Sr [Mv 14 4,Bc 15 .neq 14 0] (Cd 15 (Sr [Oo 16 (.build [nl,nl] []),Mv 17 4,⟨none,none,(.store 2 (t 2) (t 16))⟩,Mv 3 17] .ret) .skip))) (.seq (.drwU [[],[],[],[0,1,2],[0,1,2],[],[],[]] [Fa 18 1 1,Ld 19 18,Cl 20 46 [(t 19)],Fa 21 2 1,Ld 22 21,Cl 23 47 [(t 22)],Mv 5 20,Mv 6 23]) (Sr [Mv 24 5,Cl 25 48 [(t 24),(.func 49)]] (Sr [Mv 26 6,Cl 27 51 [(t 26),(.func 52)]] (Sr [Mv 28 6,Oo 29 (.build [nl,nl] [(1,(1,(t 28)))]),Oo 7 (.new 25 2 [nl,nl]),⟨none,none,(.store 2 (t 7) (t 29))⟩] (.seq (Sr [Mv 30 5,Oo 31 (.len false (t 30)),Mc 32 0] (.block 0 (.loop (Sr [Bn 33 .lss 32 31] (.seq (Cd 33 .skip (.exit 0)) (.seq (.block 1 (Sr [Oo 34 (.ia 2 (t 30) (t 32)),Oo 35 (.load true 2 (t 34)),Oo 9 (.new 94 2 [Ss,nl]),⟨none,none,(.store 2 (t 9) (t 35))⟩] (Sr [Oo 37 (.load true 3 (t 1)),Oo 38 (.load true 2 (t 9)),Cl 39 53 [(t 37),(t 38)],Mv 36 39,Ex 40 36 0,Ex 41 36 1,Oo 10 (.new 38 4 [(iv 0),(iv 0),Ss,nl]),⟨none,none,(.store 4 (t 10) (t 40))⟩,Mv 11 41] (.seq (Sr [Mv 42 11,Bc 43 .neq 42 0] (Cd 43 (Sr [Oo 44 (.build [nl,nl] []),Mv 45 11,⟨none,none,(.store 2 (t 2) (t 44))⟩,Mv 3 45] .ret) .skip)) (.reg [Fa 46 0 7,Ld 47 46,Fa 48 0 9,Ld 49 48,Oo 50 (.load true 4 (t 10)),Oo 51 (.build [Ss,(iv 0),(iv 0),Ss,nl] [(0,(1,(t 49))),(1,(4,(t 50)))]),Oo 52 (.lit 40 5 1 [Ss,(iv 0),(iv 0),Ss,nl] [(0,(5,(t 51)))]),Oo 53 (.app 40 5 72 (t 47) (t 52)),Fa 54 0 7,Sc 54 53]))))) (.reg [Bc 55 .add 32 1,Mv 32 55]))))))) (Sr [Oo 56 (.load true 2 (t 7)),⟨none,none,(.store 2 (t 2) (t 56))⟩,Mc 3 0] .ret))))))))
theorem k14:ZeE Tryz.prog (none) 14=some ⟨c14,[(.cell 2 true 2),(.tmp 3)],57⟩:=by kernel_rfl
theorem cloneZ_a {l:List Zon}{full:Bool}{h:AH}{id:Nat}(hl:l.length≤300000000000) (hf:h[id]?=some .free):ACalls Tryz.prog 46 [.sl l.length 2 full (rows zonC l)] h fun r h'=>r=.ret (.own id 1 l.length)∧h'=h.set id (.mk 1 94 2 (rows zonC l)):=by
 have hid:id<h.length:=(List.getElem?_eq_some_iff.1 hf).1
 refine tJ' k46 fun N hn hlt _ hbd=>?_
 simp only[tb'] at hbd ⊢
 refine wk'<|Zab<|wm<|?_
 refine Zsk lk (fun _=>pt) (fun bn3 hbn3=>?_)
 refine sn' ?_
 refine cd' lk (fun hc1=>?_) (fun hc1=>?_)
 ·refine wr'<|mv' lkn pt2<|Zak<|ZaS ((ALe.own1' (st':=2) (ty:=94) gt2 hl0 pt2 ha0).trans (ALe.moveLast hf hn gt2 pt2 rfl))<|Za1<|Zaf<|Zad (rs1 (rr_t gt2))<|?_
  have h0:l=[]:=List.eq_nil_of_length_eq_zero ((Nat.eq_zero_or_pos _).resolve_right (fun e=>by have:=hbn3 e;rw[hc1] at this;cases this))
  subst h0
  exact⟨_,[.gone],rfl,by simp[hn],Ztt hlt (by simp[Ent.lt,AV.ltL]),by simp[AE.lt,AV.lt];omega,rfl,rfl⟩
 refine za<|wr'<|E' (Zci Zoh hl0 ha0) pt<|mw<|?_
 refine E' (Zbz (Zkm lk (ZmN _)) lk gx rfl om (ZdH (fun _=>rfl) _) hs0) pt ?_
 refine mv' lk7 pt2<|Zak<|ZaS (ALe.moveLast hf hn gt2 pt2 rfl)<|Za1<|Zad (rs1 (rr_t gt2))<|?_
 exact⟨_,[.gone],rfl,by simp[hn],Ztt hlt (by simp[Ent.lt,Zb0]),by simp[AE.lt,AV.lt];omega,by simp,by simp⟩
theorem cloneK_a {l:List Lnk}{full:Bool}{h:AH}{id:Nat}(hl:l.length≤300000000000) (hf:h[id]?=some .free):ACalls Tryz.prog 47 [.sl l.length 2 full (rows lnkC l)] h fun r h'=>r=.ret (.own id 1 l.length)∧h'=h.set id (.mk 1 97 2 (rows lnkC l)):=by
 have hid:id<h.length:=(List.getElem?_eq_some_iff.1 hf).1
 refine tJ' k47 fun N hn hlt _ hbd=>?_
 simp only[tb'] at hbd ⊢
 refine wk'<|Zab<|wm<|?_
 refine Zsk lk (fun _=>pt) (fun bn3 hbn3=>?_)
 refine sn' ?_
 refine cd' lk (fun hc1=>?_) (fun hc1=>?_)
 ·refine wr'<|mv' lkn pt2<|Zak<|ZaS ((ALe.own1' (st':=2) (ty:=97) gt2 hl0 pt2 ha0).trans (ALe.moveLast hf hn gt2 pt2 rfl))<|Za1<|Zaf<|Zad (rs1 (rr_t gt2))<|?_
  have h0:l=[]:=List.eq_nil_of_length_eq_zero ((Nat.eq_zero_or_pos _).resolve_right (fun e=>by have:=hbn3 e;rw[hc1] at this;cases this))
  subst h0
  exact⟨_,[.gone],rfl,by simp[hn],Ztt hlt (by simp[Ent.lt,AV.ltL]),by simp[AE.lt,AV.lt];omega,rfl,rfl⟩
 refine za<|wr'<|E' (Zci Zoj hl0 ha0) pt<|mw<|?_
 refine E' (Zbz (Zkm lk (Zd0 _)) lk gx rfl om (Zpa _) hs0) pt ?_
 refine mv' lk7 pt2<|Zak<|ZaS (ALe.moveLast hf hn gt2 pt2 rfl)<|Za1<|Zad (rs1 (rr_t gt2))<|?_
 exact⟨_,[.gone],rfl,by simp[hn],Ztt hlt (by simp[Ent.lt,ZbD]),by simp[AE.lt,AV.lt];omega,by simp,by simp⟩
theorem isNaNS (a:ByteArray) (w:World):Calls Tryz.prog 101 #[.string a] w fun e w'=>e=.returned (.bool false)∧w'=w:=by
 go_enter Tryz.func101,Tryz.ntmps101
 go_wp2
 go_ret
 exact⟨by simp,rfl⟩
theorem cmpStr (a b:ByteArray) (w:World):Calls Tryz.prog 50 #[.string a,.string b] w fun e w'=>e=.returned (.int .i64 (cmpS a b))∧w'=w:=by
 cases h1:Op.bytesLess a.toList b.toList
 ·have h3:=Zh6 a b
  rw[h1,Bool.false_or] at h3
  unfold cmpS
  rw[if_neg (show ¬ltS a b=true by unfold ltS;rw[h1];simp)]
  have hv : ∀ w,(binOp .gtr 9 (.string a) (.string b)).run Tryz.prog w=.ok (.bool (ltS b a)) w:=fun w=>by
   obtain⟨v,hv,e⟩:=ZoJ (P:=Tryz.prog) (op:=.gtr) (a:=a) (b:=b) rfl 9 w
   cases e
   rw[h1,Bool.false_or,h3,Bool.not_not] at hv
   exact hv
  cases h2:ltS b a <;> rw[h2] at hv
  all_goals
   go_enter Tryz.func50,Tryz.ntmps50
   go_wp2_with (go_at_call 101;refine (isNaNS _ _).mono ?_;rintro e w' ⟨rfl,rfl⟩)
   go_ret
   exact⟨rfl,rfl⟩
 unfold cmpS
 rw[if_pos (show ltS a b=true from h1)]
 go_enter Tryz.func50,Tryz.ntmps50
 go_wp2_with (go_at_call 101;refine (isNaNS _ _).mono ?_;rintro e w' ⟨rfl,rfl⟩)
 go_ret
 exact⟨rfl,rfl⟩
theorem ZpC {β:Type}(nm:β→ByteArray):SWO (Go.Proofs.ltOf fun x y=>cmpS (nm x) (nm y)):=by
 have e : ∀ x y,Go.Proofs.ltOf (fun x y=>cmpS (nm x) (nm y)) x y=ltS (nm x) (nm y):=fun x y=>by
  unfold Go.Proofs.ltOf
  rw[Bool.eq_iff_iff,decide_eq_true_eq];exact ZeX
 refine⟨fun x=>?_,fun x y z h1 h2=>?_,fun x y z h1 h2=>?_⟩ <;> simp only[e] at *
 ·exact Zh4 _
 ·exact Zha h1 h2
 cases h:ltS (nm x) (nm z) with
 | false=>rfl
 | true=>rw[ZlN h1 h] at h2;cases h2
theorem Zt1 {β:Type}{nm:β→ByteArray}{x y:β}(h:Go.Proofs.ltOf (fun x y=>cmpS (nm x) (nm y)) y x=false):ltS (nm y) (nm x)=false:=by
 unfold Go.Proofs.ltOf at h
 rw[decide_eq_false_iff_not,ZeX] at h
 simpa using h
def lnkV (l:Lnk):List Value:=[.string l.1,.string l.2]
abbrev ZonW:=Zon×Option Addr×Nat
def zonV (z:ZonW):List Value:=[.string z.1.1,.slice z.2.1 z.1.2.length z.2.2]
theorem ZtY (x y:ZonW) (w:World):Calls Tryz.prog 49 #[.agg (zonV x).toArray,.agg (zonV y).toArray] w fun e w'=>e=.returned (.int .i64 (cmpS x.1.1 y.1.1)) ∧ ∃ q os,w'=grow (w.drewN q) os:=by
 obtain⟨⟨a,l⟩,A,c⟩:=x
 obtain⟨⟨b,m⟩,B,d⟩:=y
 simp only[zonV]
 go_enter Tryz.func49,Tryz.ntmps49
 go_wp2_with (go_at_call 50;refine (cmpStr _ _ _).mono ?_;rintro e w' ⟨rfl,rfl⟩)
 go_ret
 refine⟨rfl,?_⟩
 rw[alloc_eq_grow,alloc_eq_grow,grow_grow]
 exact⟨0,_,rfl⟩
theorem Zt2 (x y:Lnk) (w:World):Calls Tryz.prog 52 #[.agg (lnkV x).toArray,.agg (lnkV y).toArray] w fun e w'=>e=.returned (.int .i64 (cmpS x.2 y.2)) ∧ ∃ q os,w'=grow (w.drewN q) os:=by
 obtain⟨a,b⟩:=x
 obtain⟨c,d⟩:=y
 simp only[lnkV]
 go_enter Tryz.func52,Tryz.ntmps52
 go_wp2_with (go_at_call 50;refine (cmpStr _ _ _).mono ?_;rintro e w' ⟨rfl,rfl⟩)
 go_ret
 refine⟨rfl,?_⟩
 rw[alloc_eq_grow,alloc_eq_grow,grow_grow]
 exact⟨0,_,rfl⟩
theorem sortZ0 {h:AH}{id ver:Nat}{f:Value}:Ac 48 [.own id ver 0,.v f] h (.tup []):=by
 refine ACalls.of_below (by kernel_rfl) fun w g vs hs ha=>?_
 simp only[RepL,Rep] at ha
 obtain⟨u1,us1,e1,⟨A,c,_,_,_,rfl⟩,u2,us2,e2,e3,rfl⟩:=ha
 subst e3 e2
 obtain rfl:vs = #[.slice A 0 c,u2]:=by cases vs;simp_all
 refine (Go.Proofs.AnyF.slices_SortFunc_none Tryz.sl9z A c _ w).mono ?_
 rintro e w' ⟨rfl,rfl⟩
 refine⟨_,rfl,Below.refl _ _,?_⟩
 simp only[Rep,RepL]
 exact⟨_,rfl,rfl⟩
theorem sortK0 {h:AH}{id ver:Nat}{f:Value}:Ac 51 [.own id ver 0,.v f] h (.tup []):=by
 refine ACalls.of_below (by kernel_rfl) fun w g vs hs ha=>?_
 simp only[RepL,Rep] at ha
 obtain⟨u1,us1,e1,⟨A,c,_,_,_,rfl⟩,u2,us2,e2,e3,rfl⟩:=ha
 subst e3 e2
 obtain rfl:vs = #[.slice A 0 c,u2]:=by cases vs;simp_all
 refine (Go.Proofs.AnyF.slices_SortFunc_none Tryz.sl9l A c _ w).mono ?_
 rintro e w' ⟨rfl,rfl⟩
 refine⟨_,rfl,Below.refl _ _,?_⟩
 simp only[Rep,RepL]
 exact⟨_,rfl,rfl⟩
theorem ZoI {h:AH}{id:Nat}{e:Ent}(hi:h[id]?=some e):h.set id e=h:=by
 apply List.ext_getElem?
 intro j
 by_cases hj:j=id
 ·subst hj
  rw[List.getElem?_set_self (List.getElem?_eq_some_iff.1 hi).1,hi]
 rw[List.getElem?_set_ne (Ne.symm hj)]
theorem sortZ_a {h:AH}{id ver ty:Nat}{l:List Zon}(hi:h[id]?=some (.mk ver ty 2 (rows zonC l))) (hn:(l.map (·.1)).Nodup) (hz:l.length<4611686018427387904) :
  ACalls Tryz.prog 48 [.own id ver l.length,.v (.func (.func 49) #[] #[])] h fun x h'=>x=.ret (.tup [])∧h'=h.set id (.mk ver ty 2 (rows zonC (srtN l))):=by
 by_cases hl:l=[]
 ·subst hl
  refine sortZ0.mono ?_
  rintro x h' ⟨rfl,rfl⟩
  exact⟨rfl,(ZoI hi).symm⟩
 refine (sort_b (P:=Tryz.prog) Tryz.sl9z (k:=2) om (fun w=>by kernel_rfl) (fun w=>by kernel_rfl) (enc:=zonV) (fun _=>rfl) (fun t v hv=>?_) (ZpC fun x:ZonW=>x.1.1) (g0:=49) (fun args w=>?_) (fun blk off size w m os dk hd x y=>ZtY x y _) (f:=zonC) (pr:=fun x=>x.1) (fun _=>rfl) (fun w g x vs hv=>?_) (r:=fun a b=>ltS b.1 a.1=false) (fun x y hxy=>Zt1 (nm:=fun x:ZonW=>x.1.1) hxy) hi hl hz (by kernel_rfl)).mono ?_
 ·unfold zonV at hv
  simp only[List.mem_cons,List.not_mem_nil,or_false] at hv
  rcases hv with rfl | rfl <;> rfl
 ·exact Zd6 (by kernel_rfl) args w
 ·simp only[RepL,Rep] at hv
  obtain⟨u1,us1,rfl,rfl,u2,us2,rfl,⟨_,A,c,rfl,_⟩,rfl⟩:=hv
  exact⟨(x,A,c),rfl,rfl⟩
 rintro x h' ⟨rfl,l',hp,hs,rfl⟩
 rw[Zr7 hn hp hs]
 exact⟨rfl,rfl⟩
theorem sortK_a {h:AH}{id ver ty:Nat}{l:List Lnk}(hi:h[id]?=some (.mk ver ty 2 (rows lnkC l))) (hn:(l.map (·.2)).Nodup) (hz:l.length<4611686018427387904) :
  ACalls Tryz.prog 51 [.own id ver l.length,.v (.func (.func 52) #[] #[])] h fun x h'=>x=.ret (.tup [])∧h'=h.set id (.mk ver ty 2 (rows lnkC (srtL l))):=by
 by_cases hl:l=[]
 ·subst hl
  refine sortK0.mono ?_
  rintro x h' ⟨rfl,rfl⟩
  exact⟨rfl,(ZoI hi).symm⟩
 refine (sort_a (P:=Tryz.prog) Tryz.sl9l (k:=2) om (fun w=>by kernel_rfl) (fun w=>by kernel_rfl) (enc:=lnkV) (fun _=>rfl) (fun t v hv=>?_) (ZpC fun x:Lnk=>x.2) (g0:=52) (fun args w=>?_) (fun blk off size w m os dk hd x y=>Zt2 x y _) hi hl hz (by kernel_rfl)).mono ?_
 ·unfold lnkV at hv
  simp only[List.mem_cons,List.not_mem_nil,or_false] at hv
  rcases hv with rfl | rfl <;> rfl
 ·exact Zd6 (by kernel_rfl) args w
 rintro x h' ⟨rfl,l',hp,hs,rfl⟩
 rw[Zr8 hn hp (List.pairwise_iff_getElem.2 fun i j hi hj hij=>Zt1 (nm:=fun x:Lnk=>x.2) (hs i j hi hj hij))]
 exact⟨rfl,rfl⟩
theorem tofV_a {a:List Rul}{z:List Zon}{k:List Lnk}{x:Zon}{h:AH}(hok:Zkw (a,z,k)) (hz0:Zbw (a,z,k)=0) (hm:x∈z) :
  ACalls Tryz.prog 53 [.agg (srcB a z k),.agg [sv x.1,.sl x.2.length 10 false (rows eraC x.2)]] h fun y h'=>h'=h∧y=.ret (.tup [tabA (ofV (a,z,k) x).1,iv (ofV (a,z,k) x).2]):=by
 have hE:=ZhE hz0
 have hal:=(ZcS hE).1
 simp only at hal
 obtain⟨⟨pl,hpl⟩,_⟩:=ZoT hz0 hm tMin
 have hne:inP (ZaZ a tMin none x.2)≠[]:=by rw[show ZaZ a tMin none x.2=_ from hpl];unfold inP;rw[List.takeWhile_cons,if_pos (decide_eq_true (by show tMin≤tMax;decide))];simp
 have hF:ofV (a,z,k) x=ofP a x.2:=by unfold ofV ofP;rw[←Zlh hz0 hm]
 rw[hF]
 exact tof_a (Zkx hok) om (ZdL hE hm) hne
theorem ZlJ (s:Src) {zs:List Zon}{i:Nat}(h:i<zs.length):mapT s (zs.take (i+1))=mapT s (zs.take i)++[(zs[i].1,(ofV s zs[i]).1)]:=by
 unfold mapT
 rw[List.take_succ_eq_append_getElem h,List.map_append];rfl
theorem Zdv (s:Src) (zs:List Zon):(mapT s zs).length=zs.length:=List.length_map _
theorem ZlL {s:Src}(h0:Zbw s=0) {e:Int}(he:errT s (srtN s.2.1)=e) (hne:e≠0):Zex s=(rel0,e):=by
 subst he
 unfold Zex
 rw[if_neg (by simpa using h0),if_pos hne]
theorem Zo4 {s:Src}(h0:Zbw s=0) (hE:errT s (srtN s.2.1)=0):Zex s=((mapT s (srtN s.2.1),srtL s.2.2),0):=by
 unfold Zex
 rw[if_neg (by simpa using h0),if_neg (by simpa using hE)]
theorem Zj8 {e:AV}:Wk (.tup [.agg [.sl 0 0 true [],.sl 0 0 true []],e]) (.tup [.agg (relC rel0),e]):=Wk.tup (wkw (Wk.agg (wkw Wk.nilF (wkw Wk.nilF wk0))) (wk1 rfl wk0))
theorem make_a {a:List Rul}{z:List Zon}{k:List Lnk}{h:AH}(hok:Zkw (a,z,k)) :
  Ac 14 [.agg (srcB a z k)] h (.tup [.agg (relC (Zex (a,z,k)).1),iv (Zex (a,z,k)).2]):=by
 refine tUW' k14 fun N hn hlt _ hbd=>?_
 simp only[tb'] at hbd ⊢
 refine wr'<|E' (ZaU cv rfl hl0 ha0) pt<|E' (Za3 hl1 ha1) pt<|ms<|Zab<|wr'<|Vw (Zaj lk gx Zrl rfl)<|Zac mp (zcheck_a hok) pt<|mw<|Zak<|?_
 refine Zal<|wm<|Vw (Za0 lk lki)<|sn'<|?_
 refine cd' lk (fun hc1=>?_) (fun hc1=>?_)
 ·have hM:Zex (a,z,k)=(rel0,Zbw (a,z,k)):=if_pos hc1
  refine wr'<|Vw (ZaC Zoi)<|mw<|E' (Zam lk cv gx rfl nb rfl ZdQ hs1) ptn<|mr<|Zaf<|Zad (rsn (rm1 (rr_c gt gx (ld1 ZdP rfl)) (rm1 (rr_t gt) rm0)))<|rtW'<|?_
  rw[hM];exact Zj8
 have h0:Zbw (a,z,k)=0:=Decidable.of_not_not hc1
 obtain⟨n1,n2,n3⟩:=Zfs h0
 obtain⟨q1,q2,q3,q4,q5,q6,q7⟩:=ZcS (ZhE h0)
 simp only at q1 q2 q3 q4 q5 q6 q7 n1 n2
 have hpz:=ZdE n1
 have hpk:=Zli n2
 have hzl:=hpz.length_eq
 have hkl:=hpk.length_eq
 refine Zay ?_
 refine ZaS (ALe.trans (ALe.icePtr gx gt1 (by simp) pt1 hs0) (ALe.trans (ALe.addFreeR ha2) (ALe.addFreeR ha3))) ?_
 refine Zab<|ZrG<|uf (ZaR lk dp1)<|uf (Zar lk gt)<|?_
 refine Zka mp gx (fun hU hUe=>cloneZ_a om hUe) nh hs2 pt ?_
 refine uf (ZaR lk dp2)<|uf (Zar lk gt)<|?_
 refine Zka mp gx (fun hU hUe=>cloneK_a om hUe) nh hs3 pt ?_
 refine uf vm<|uf vm<|u_nil<|Zal<|wm<|?_
 refine Zkn mp (sortZ_a gx n1 om) hs2 pt ?_
 refine Zak ?_
 refine ZaS (ALe.iceN (hga hn rfl) gt5 (List.take_of_length_le (by rw[ZmN];omega)) (by rw[ZmN];omega) (by exact hzl.symm) pt5 hs2) ?_
 refine wm<|?_
 refine Zkn mp (sortK_a gx n2 om) hs3 pt ?_
 refine Zak ?_
 refine ZaS (ALe.iceN (hga hn rfl) gt6 (List.take_of_length_le (by rw[Zd0];omega)) (by rw[Zd0];omega) (by exact hkl.symm) pt6 hs3) ?_
 refine wm<|Vw (ZaC (Zmy cv rfl))<|E' (Za3 hl4 ha4) pt<|E' (Zam lk cv gx rfl nb rfl ZdQ hs4) ptn<|Zak<|?_
 refine ZaS (ALe.own0Cell (st':=5) (ty:=40) gx gt0 hl5 pt0 (Eq.trans (congrArg (fun z=>List.set z _ _) ha5) hs4)) ?_
 refine Zab<|wm<|Vw (ZaB lk)<|ms<|Zae<|?_
 refine w_lp (ι:=Nat×Nat) (fun (x_:Nat×Nat)=>match x_ with | ⟨i,v⟩=>[(32,iv (i:Int)),(3,.any)]++rn' 9 3++rn' 33 23) (fun (x_:Nat×Nat)=>match x_ with | ⟨i,v⟩=>[(4,.mk 0 25 2 [.own (N+5) v (mapT (a,z,k) ((srtN z).take i)).length,.sl (srtL k).length 2 false (rows lnkC (srtL k))]),(5,.mk v 40 5 (rows namC (mapT (a,z,k) ((srtN z).take i))))]) (fun (x_:Nat×Nat)=>match x_ with | ⟨i,v⟩=>i≤(srtN z).length∧errT (a,z,k) (srtN z)=errT (a,z,k) ((srtN z).drop i)) (fun (x_:Nat×Nat)=>match x_ with | ⟨i,v⟩=>(srtN z).length-i) (⟨0,0⟩) (by exact⟨Nat.zero_le _,rfl⟩) ?_
 rintro⟨i,v⟩ hi1
 try simp only[sm',Nat.reduceAdd]
 obtain⟨hi1,hi2⟩:=hi1
 refine wr'<|Vw (ZaL lk lk)<|sn'<|Zab<|?_
 refine cd' lk (fun hc2=>?_) (fun hc2=>?_)
 ·have hi:i<(srtN z).length:=by omega
  have hst:=ZlJ (a,z,k) hi
  have hml:=Zdv (a,z,k) ((srtN z).take i)
  rw[List.length_take] at hml
  have hmem:=hpz.mem_iff.1 (List.getElem_mem hi)
  unfold errT at hi2
  rw[Zcl hi] at hi2
  refine za<|Zab<|Zae<|wr'<|?_
  refine V' (ZaF lk lk Zbm nb ro om ro rfl) pt ?_
  refine Vw (Zav lk ZuN rfl)<|E' (Za3 hl6 ha6) pt<|E' (Zam lk cv gx rfl nb rfl ZdQ hs6) ptn<|sn'<|wr'<|Vw (Zav lk ZuM rfl)<|Vw (Zaj lk gx ZdP rfl)<|Zac mp (tofV_a hok h0 hmem) pt<|mw<|Vw (ZaW lk gt)<|Vw (ZaW lk gt)<|E' (Za3 hl7 ha7) pt<|?_
  refine E' (Zam lk cv gx rfl nb rfl Zrm hs7) ptn<|ms<|Zab<|wm<|Vw (Za0 lk lki)<|sn'<|?_
  refine cd' lk (fun hc3=>?_) (fun hc3=>?_)
  ·rw[if_pos hc3] at hi2
   have hM:=ZlL h0 hi2 hc3
   refine wr'<|Vw (ZaC Zmx)<|mw<|E' (Zam lk cv gx rfl nb rfl ZdQ hs1) ptn<|mr<|Zaf<|Zao<|Zaf<|Zaf<|Zao<|?_
   refine Zaf<|Zad (rsn (rm1 (rr_c gt gx (ld1 ZdP rfl)) (rm1 (rr_t gt) rm0)))<|rtW'<|?_
   rw[hM];exact Zj8
  rw[if_neg hc3] at hi2
  refine za<|Zap<|fq<|Vw (Zaa lk gx gt0)<|fq<|Vw (Zaa lk gx gt0)<|Vw (Zaj lk gx Zrk rfl)<|Vw (ZaC (Zmw cv rfl cv rfl))<|E' (Zci (Zmv cv rfl) hl8 ha8) pt<|?_
  refine E' (Zbz (Zbh lk gx rfl ZuL nb) lk gx (Zcq _) om rfl hs5) pt ?_
  refine fq<|E' (Zam lk cv gx rfl nb rfl Zrn hs4) ptn<|Zak<|Zau<|Zal<|Zap<|?_
  refine ad<|mw<|Zak<|Zax<|?_
  refine lU' (⟨i+1,v+1⟩) (by (try dsimp only);exact⟨by omega,hi2⟩) (by refine zz ?_;exact bk' 6 hn hlt (by rw[hst,List.length_append,ZaG];rfl) (hT:=by simp[AV.lt,AV.ltL,Ent.lt]) (hE:=by simp[AV.lt,AV.ltL,Ent.lt]))
 rw[List.drop_of_length_le (show (srtN z).length≤i by omega)] at hi2
 have hM:=Zo4 h0 hi2
 rw[List.take_of_length_le (show (srtN z).length≤i by omega)]
 refine Zaw<|Zaq<|Zaq<|ZaH<|?_
 refine ZaS (ALe.iceCellR (hga hn rfl) (hga hn rfl) om gt0 (List.take_of_length_le (by rw[Zcq];exact Nat.le_refl _)) (by rw[Zcq];exact Nat.le_refl _) pt0 hs5 hs4) ?_
 refine wr'<|Vw (Zaj lk gx ZdP rfl)<|E' (Zam lk cv gx rfl nb rfl ZdQ hs1) ptn<|mr<|Zad (rsn (rm1 (rr_c gt gx (ld1 ZdP rfl)) (rm1 (rr_t gt) rm0)))<|rtW'<|?_
 rw[hM];exact Wk.refl _
end Go.Proofs.YtfoipaclphdodaaGreatDoor
end
namespace Go.Proofs.YtfoipaclphdodaaGreatDoor
section
open Go.Ab Go.RowKit Civ
attribute [local simp] Zbq Zev
def c210:AC:=(Sr [Oo 6 (.mv (.const (.slice none 0 0)))] (Sr [Mv 10 0,Mv 11 1,Oo 12 (.slc 5 (t 10) (some (t 11)) none none)] (Sr [Mv 13 2,Oo 14 (.len false (t 13)),Mv 7 14] (.seq (Sr [Mv 15 7,Bc 16 .eql 15 0] (Cd 16 (Sr [Mv 17 0,Mv 6 17] .ret) .skip)) (Sr [Mv 18 0,Oo 19 (.len false (t 18)),Mv 8 19] (.seq (Sr [Mv 20 1,Mv 21 8,Bn 22 .eql 20 21] (Cd 22 (Sr [Mv 23 0,Mv 24 2,Oo 25 (.app 40 5 72 (t 23) (t 24)),Mv 6 25] .ret) .skip)) (.seq (Sr [Mv 26 8,Mv 27 7,Bn 28 .add 26 27,Mv 29 0,Oo 30 (.cap (t 29)),Bn 31 .gtr 28 30] (Cd 31 (Sr [Mv 32 0,Mv 33 1,Oo 34 (.slc 5 (t 32) none (some (t 33)) none),Mv 35 8,Mv 36 7,Bn 37 .add 35 36,Mv 38 1,Bn 39 .sub 37 38,Oo 40 (.appz 40 5 72 (t 34) (t 39)),Mv 9 40] (.seq (.cond (Ci 0) .skip .skip) (.seq (.cond (Ci 0) .skip .skip) (Sr [Mv 55 9,Mv 6 55] .ret)))) .skip)) (Sr [Mv 56 0,Mv 57 8,Mv 58 7,Bn 59 .add 57 58,Oo 60 (.slc 5 (t 56) none (some (t 59)) none),Mv 0 60] (.seq (Sr [Mv 61 2,Mv 62 0,Mv 63 1,Mv 64 7,Bn 65 .add 63 64,Oo 66 (.slc 5 (t 62) (some (t 65)) none none),Cl 67 262 [(t 61),(t 66)],Oo 68 (.un .not (t 67))] (Cd 68 (.seq (.cond (Ci 0) .skip .skip) (.seq (.cond (Ci 0) .skip .skip) (Sr [Mv 83 0,Mv 6 83] .ret))) .skip)) (.seq (.cond (Ci 0) .skip .skip) (Sr [Mv 89 0,Mv 90 1,Oo 91 (.slc 5 (t 89) (some (t 90)) none none),Mv 92 7,Cl 93 263 [(t 91),(t 92)]] (Sr [Mv 94 0,Mv 6 94] .ret))))))))))))
theorem k210:ZeE Tryz.prog (none) 210=some ⟨c210,[(.tmp 6)],95⟩:=by kernel_rfl
theorem Ztp {n:Nam}{id v ty:Nat}{h:AH}(he:h[id]?=some (.mk v ty 5 (namC n))):Ac 210 [.sl ([]:List Nam).length 5 true (rows namC []),iv 0,.own id v 1] h (.sl 1 5 false (rows namC [n])):=by
 refine tUW' k210 fun N hn _ _ hbd=>?_
 simp only[tb'] at hbd ⊢
 refine wk'<|wm<|mw<|?_
 refine V' (v_lo lk lk ZaY ro (by (try simp only[List.length_nil]);omega) ro) pt ?_
 refine sn'<|wm<|Vw (ZbK lk)<|ms<|Zab<|wm<|Vw (Za6 lk lki)<|?_
 refine sn' ?_
 refine ZeL lk (by exact decide_eq_false om) ?_
 refine za<|wm<|Vw (ZaB lk)<|ms<|Zab<|wm<|mw<|?_
 refine Vw (Za6 lk lk)<|sn'<|?_
 refine Zgr lk (by exact decide_eq_true (by simp)) ?_
 refine wm<|mw<|?_
 refine E' (e_app0 (Zbh lk (ZcF he) rfl rfl (Nat.le_refl _)) lk (by (try simp only[List.length_nil]);omega) rfl hl0 ha0) pt ?_
 refine mv' lk25 pt6<|Zak<|ZaS (ALe.iceR gx gt6 (List.take_of_length_le (Nat.le_refl _)) (Nat.le_refl _) pt6 hs0)<|Za1<|Zaf<|Zad (rs1 (rr_t gt6))<|rtW'<|?_
 exact Wk.refl _
end
section
open Go.Ab Go.RowKit Civ
def rel1:Rel:=([(nHt,tab0)],[(nHt,nOld)])
def upd1:Upd:=([],[(nHt,tab0)],[],[(nHt,nOld)])
theorem make0:Zex src0=(rel1,0):=by
 have hs:srtN src0.2.1=src0.2.1:=rfl
 have h1:errT src0 (srtN src0.2.1)=0:=by
  rw[hs]
  show (if (ofV src0 (nHt,[era0,era1])).2≠0 then _ else (0:Int))=0
  rw[of0];rfl
 rw[Zex,if_neg (by rw[chk0];simp),if_neg (by rw[h1];simp),hs]
 show (([(nHt,(ofV src0 (nHt,[era0,era1])).1)],srtL src0.2.2),(0:Int))=_
 rw[of0];rfl
theorem chkR1:Zbb rel1=0:=by
 have:=Zqc (s:=src0) (by rw[make0])
 rwa [make0] at this
theorem diff0:Zf7 rel0 rel1=(upd1,0):=by
 rw[Zf7,if_neg (by decide),if_neg (by rw[chkR1];simp)];rfl
theorem Zky:ZiV rel1:=⟨fun n hn=>by
 simp only[rel1,List.mem_cons,List.not_mem_nil,or_false] at hn
 subst hn
 exact⟨by decide,okT_chk0 chkT0⟩,fun l hl=>by
 simp only[rel1,List.mem_cons,List.not_mem_nil,or_false] at hl
 subst hl
 exact⟨by decide,by decide⟩⟩
theorem rchk1 {h:AH}:Ac 17 [.agg (relC rel1)] h (iv 0):=by
 have:=ZsE (t:=rel1.1) (k:=rel1.2) (f1:=false) (f2:=false) (h:=h) Zky
 rw[show Zbb (rel1.1,rel1.2)=0 from chkR1] at this
 exact this
def orcI:CE:=fun f ats h=>bif Nat.beq f 210 then (match ats with
 | [x,y,.own id v 1]=>bif AV.eqbL [x,y] [.sl 0 0 true [],iv 0]&&Zhe h[id]? (some (.mk v 40 5 (namC (nHt,tab0)))) then some (.ret (.sl 1 5 false (rows namC [(nHt,tab0)])),h) else none
 | _=>none) else none
theorem orcI_ok:Zcn Tryz.prog orcI:=fun f ats h x h1 he=>by
 unfold orcI at he
 cases hf:Nat.beq f 210 with
 | false=>rw[hf] at he;cases he
 | true =>
  rw[hf] at he
  simp only[cond_true] at he
  split at he <;> try (cases he;done)
  rename_i a b id v
  cases hb:AV.eqbL [a,b] [.sl 0 0 true [],iv 0]&&Zhe h[id]? (some (.mk v 40 5 (namC (nHt,tab0)))) with
  | false=>rw[hb] at he;cases he
  | true =>
   rw[hb] at he
   cases he
   rw[Bool.and_eq_true] at hb
   have e1:=AV.eqbL_eq hb.1
   have e2:=Zif hb.2
   have e3:=Nat.eq_of_beq_eq_true hf
   simp only[List.cons.injEq,and_true] at e1
   obtain⟨rfl,rfl⟩:=e1
   subst e3
   exact ACalls.wk (wkw Wk.nil (wk1 rfl (wk1 rfl wk0))) (Ztp e2)
def orc1:CE:=orcs (orc 17 [.agg (relC rel1)] (iv 0)) orcI
theorem app_ev:evF Tryz.prog orc1 1000 20 18 [.agg [.sl 0 0 true [],.sl 0 0 true []],.agg (updC upd1)] []=some (.ret (.tup [.agg (relC rel1),iv 0]),[]):=by kernel_rfl
theorem app1 {h:AH}:Ac 18 [.agg [.sl 0 0 true [],.sl 0 0 true []],.agg (updC upd1)] h (.tup [.agg (relC rel1),iv 0]) :=
 ACalls.ev 1000 20 (orcs_ok (orc_ok fun h=>rchk1) orcI_ok) app_ev (hl:=by kernel_rfl) (hc:=by kernel_rfl)
end
section
open Go.Ab Go.RowKit Civ
attribute [local simp] Zbq Zev ZbD Zdh
section
theorem Zms {a0 a1 a2 a3:AV}{l:List AV}:(a0::a1::a2::a3::l).take 4=[a0,a1,a2,a3]:=rfl
theorem Zmt {a0 a1:AV}{l:List AV}:(a0::a1::l).take 2=[a0,a1]:=rfl
theorem Zrf {a0 b0:ByteArray}{a1 b1:ByteArray}:Za8 [.str,.str] [sv a0,sv a1] [sv b0,sv b1]=some (decide (a0=b0∧a1=b1)):=by
 simp only[Za8,ZcG,if_true,ZbR,Option.some.injEq]
 simp only[Bool.decide_and,Bool.and_true]
 try (congr 1 <;> simp)
 try rfl
end
def c58:AC:=(Sr [Mc 4 0] (.seq (Sr [Mc 5 0] (.block 0 (.loop (.seq (Sr [Mv 6 5,Mv 7 0,Oo 8 (.len true (t 7)),Bn 9 .lss 6 8,Mv 10 9,Ot 11 10 (mt 5),Ot 12 10 (mt 1),Ot 13 10 (.len true (t 12)),Ot 14 10 (.bin .lss (t 11) (t 13)),Oo 15 (.pick (t 10) (t 14) (.const (.bool false)))] (Cd 15 .skip (.exit 0))) (.seq (.block 1 (.seq (Sd [Mv 18 0,Mv 19 5,Oo 20 (.ix (t 18) (t 19)),Mv 21 1,Mv 22 5,Oo 23 (.ix (t 21) (t 22)),Bn 24 .lss 20 23] (Cd 24 (Sr [Oo 4 (.mv (.const (.int .i64 (-1))))] .ret) .skip)) (Sd [Mv 25 0,Mv 26 5,Oo 27 (.ix (t 25) (t 26)),Mv 28 1,Mv 29 5,Oo 30 (.ix (t 28) (t 29)),Bn 31 .gtr 27 30] (Cd 31 (Sr [Mc 4 1] .ret) .skip)))) (.reg [Mv 16 5,Bc 17 .add 16 1,Mv 5 17])))))) (.seq (Sr [Mv 32 0,Oo 33 (.len true (t 32)),Mv 34 1,Oo 35 (.len true (t 34)),Bn 36 .lss 33 35] (Cd 36 (Sr [Oo 4 (.mv (.const (.int .i64 (-1))))] .ret) .skip)) (.seq (Sr [Mv 37 0,Oo 38 (.len true (t 37)),Mv 39 1,Oo 40 (.len true (t 39)),Bn 41 .gtr 38 40] (Cd 41 (Sr [Mc 4 1] .ret) .skip)) (Sr [Mc 4 0] .ret)))))
theorem k58:ZaA Tryz.prog 58=some ⟨c58,[(.tmp 4)],42⟩:=by kernel_rfl
def c12:AC:=(Sr [Mc 4 0] (.seq (Sr [Mc 5 0] (.block 0 (.loop (.seq (Sr [Mv 6 5,Mv 7 0,Oo 8 (.len false (t 7)),Bn 9 .lss 6 8] (Cd 9 .skip (.exit 0))) (.seq (.block 1 (Sr [Mv 12 0,Mv 13 5,Oo 14 (.ia 5 (t 12) (t 13)),Fa 15 0 14,Ld 16 15,Mv 17 1,Bn 18 .eql 16 17] (Cd 18 (Sr [Mv 19 5,Mv 4 19] .ret) .skip))) (.reg [Mv 10 5,Bc 11 .add 10 1,Mv 5 11])))))) (Sr [Oo 4 (.mv (.const (.int .i64 (-1))))] .ret)))
theorem k12:ZaA Tryz.prog 12=some ⟨c12,[(.tmp 4)],20⟩:=by kernel_rfl
def c67:AC:=(Sr [Mb 4 false] (.seq (Sr [Mv 6 0,Oo 7 (.len false (t 6)),Mv 8 1,Oo 9 (.len false (t 8)),Bn 10 .neq 7 9] (Cd 10 (Sr [Mb 4 false] .ret) .skip)) (.seq (Sr [Mc 5 0] (.block 0 (.loop (.seq (Sr [Mv 11 5,Mv 12 0,Oo 13 (.len false (t 12)),Bn 14 .lss 11 13] (Cd 14 .skip (.exit 0))) (.seq (.block 1 (Sd [Mv 17 0,Mv 18 5,Oo 19 (.ia 5 (t 17) (t 18)),Fa 20 0 19,Ld 21 20,Mv 22 1,Mv 23 5,Oo 24 (.ia 5 (t 22) (t 23)),Fa 25 0 24,Ld 26 25,Bn 27 .neq 21 26,Mv 28 27,Of 29 28 (mt 0),Of 30 28 (mt 5),Of 31 28 (.ia 5 (t 29) (t 30)),Of 32 28 (.fa 1 (t 31)),Of 33 28 (.load true 4 (t 32)),Of 34 28 (mt 1),Of 35 28 (mt 5),Of 36 28 (.ia 5 (t 34) (t 35)),Of 37 28 (.fa 1 (t 36)),Of 38 28 (.load true 4 (t 37)),Of 39 28 (.call (.func 13) [(t 33),(t 38)]),Of 40 28 (.un .not (t 39)),Oo 41 (.pick (t 28) (.const (.bool true)) (t 40))] (Cd 41 (Sr [Mb 4 false] .ret) .skip))) (.reg [Mv 15 5,Bc 16 .add 15 1,Mv 5 16])))))) (Sr [Mb 4 true] .ret))))
theorem k67:ZaA Tryz.prog 67=some ⟨c67,[(.tmp 4)],42⟩:=by kernel_rfl
def c25:AC:=(Sr [Oo 2 (.box 25 2 (t 0)),Oo 3 (.box 25 2 (t 1)),Mb 4 false] (.seq (Sr [Fa 6 0 2,Ld 7 6,Fa 8 0 3,Ld 9 8,Cl 10 67 [(t 7),(t 9)],Oo 11 (.un .not (t 10)),Mv 12 11,Of 13 12 (.fa 1 (t 2)),Of 14 12 (.load false 1 (t 13)),Of 15 12 (.len false (t 14)),Of 16 12 (.fa 1 (t 3)),Of 17 12 (.load false 1 (t 16)),Of 18 12 (.len false (t 17)),Of 19 12 (.bin .neq (t 15) (t 18)),Oo 20 (.pick (t 12) (.const (.bool true)) (t 19))] (Cd 20 (Sr [Mb 4 false] .ret) .skip)) (.seq (Sr [Mc 5 0] (.block 0 (.loop (.seq (Sr [Mv 21 5,Fa 22 1 2,Ld 23 22,Oo 24 (.len false (t 23)),Bn 25 .lss 21 24] (Cd 25 .skip (.exit 0))) (.seq (.block 1 (Sd [Fa 28 1 2,Ld 29 28,Mv 30 5,Oo 31 (.ia 2 (t 29) (t 30)),Oo 32 (.load true 2 (t 31)),Fa 33 1 3,Ld 34 33,Mv 35 5,Oo 36 (.ia 2 (t 34) (t 35)),Oo 37 (.load true 2 (t 36)),Oo 38 (.eqs true [.str,.str] (t 32) (t 37))] (Cd 38 (Sr [Mb 4 false] .ret) .skip))) (.reg [Mv 26 5,Bc 27 .add 26 1,Mv 5 27])))))) (Sr [Mb 4 true] .ret))))
theorem k25:ZaA Tryz.prog 25=some ⟨c25,[(.tmp 4)],39⟩:=by kernel_rfl
def cmpD:List UInt8→List UInt8→Int
 | [],[]=>0
 | [],_::_ => -1
 | _::_,[]=>1
 | x::xs,y::ys=>if x<y then -1 else if y<x then 1 else cmpD xs ys
theorem Zt3 : ∀ (x y:List UInt8),cmpD x y=if x<y then -1 else if y<x then 1 else 0
 | [],[]=>by simp[cmpD]
 | [],y::ys=>by simp[cmpD]
 | x::xs,[]=>by simp[cmpD]
 | x::xs,y::ys=>by
  rw[cmpD,Zt3 xs ys]
  simp only[List.cons_lt_cons_iff]
  by_cases h1:x<y
  ·rw[if_pos h1,if_pos (.inl h1)]
  rw[if_neg h1]
  by_cases h2:y<x
  ·rw[if_pos h2,if_neg,if_pos (.inl h2)]
   rintro (h | ⟨rfl,h⟩)
   ·exact h1 h
   exact h1 h2
  rw[if_neg h2]
  have e:x=y:=by
   rw[UInt8.lt_iff_toNat_lt] at h1 h2
   exact UInt8.toNat_inj.1 om
  subst e
  simp only[h1,false_or,true_and]
def cmpB (a b:ByteArray) (i:Nat):Int:=cmpD (a.data.toList.drop i) (b.data.toList.drop i)
theorem Zt4 (a b:ByteArray):cmpS a b=cmpB a b 0:=by
 unfold cmpB cmpS
 rw[List.drop_zero,List.drop_zero,Zt3]
 simp only[ZgB]
theorem Zuf {s:ByteArray}{i:Nat}(h:i<s.size):s.data.toList[i]'(by simpa using h)=Zbg s i:=by
 unfold Zbg;rw[List.getD_eq_getElem?_getD,List.getElem?_eq_getElem (by simpa using h)];rfl
theorem Zij {a b:ByteArray}{i:Nat}(h1:i<a.size) (h2:i<b.size):cmpB a b i=if ((Zbg a i).toNat:Int)<((Zbg b i).toNat:Int) then -1 else if ((Zbg b i).toNat:Int)<((Zbg a i).toNat:Int) then 1 else cmpB a b (i+1):=by
 unfold cmpB
 rw[List.drop_eq_getElem_cons (show i<a.data.toList.length by simpa using h1),List.drop_eq_getElem_cons (show i<b.data.toList.length by simpa using h2),cmpD,Zuf h1,Zuf h2]
 simp only[UInt8.lt_iff_toNat_lt,Int.ofNat_lt]
theorem cmpB_l {a b:ByteArray}{i:Nat}(h1:a.size≤i) (h2:i<b.size):cmpB a b i = -1:=by
 unfold cmpB
 rw[List.drop_of_length_le (show a.data.toList.length≤i by simpa using h1),List.drop_eq_getElem_cons (show i<b.data.toList.length by simpa using h2)];rfl
theorem cmpB_r {a b:ByteArray}{i:Nat}(h1:i<a.size) (h2:b.size≤i):cmpB a b i=1:=by
 unfold cmpB
 rw[List.drop_of_length_le (show b.data.toList.length≤i by simpa using h2),List.drop_eq_getElem_cons (show i<a.data.toList.length by simpa using h1)];rfl
theorem cmpB_e {a b:ByteArray}{i:Nat}(h1:a.size≤i) (h2:b.size≤i):cmpB a b i=0:=by
 unfold cmpB
 rw[List.drop_of_length_le (show a.data.toList.length≤i by simpa using h1),List.drop_of_length_le (show b.data.toList.length≤i by simpa using h2)];rfl
theorem ZhK {a b:ByteArray}{h:AH}(hs:a.size≤maxLen):Ac 58 [sv a,sv b] h (iv (cmpS a b)):=by
 have hs':a.size≤9223372036854775807:=by simpa [maxLen] using hs
 refine tI' k58 fun N hn _ _ hbd=>?_
 simp only[tb'] at hbd ⊢
 refine wk'<|Zab<|wk'<|Zae<|?_
 refine w_lp (ι:=Nat) (fun (i:Nat)=>[(5,iv (i:Int)),(4,.any)]++rn' 6 26) (fun (i:Nat)=>[]) (fun (i:Nat)=>i≤a.size∧i≤b.size∧cmpS a b=cmpB a b i) (fun (i:Nat)=>a.size-i) (0) (by exact⟨Nat.zero_le _,Nat.zero_le _,Zt4 a b⟩) ?_
 rintro i hi1
 try simp only[sm',Nat.reduceAdd]
 obtain⟨hk1,hk2,hk3⟩:=hi1
 refine Zab<|wm<|mw<|Vw (ZbU lk)<|Vw (ZaL lk lk)<|mw<|?_
 refine sp' (t:=10) gt pt pt (fun hg10=>?_) (fun hg10=>?_)
 ·refine sd<|mw<|sd<|mw<|sd<|Vw (ZbU lk)<|sd<|Vw (ZaL lk lk)<|Vw (Zai lk lk)<|sn'<|?_
  refine cd' lk (fun hc1=>?_) (fun hc1=>?_)
  ·refine za<|Zab<|Zae<|Zab<|Zab<|ZaJ<|Dw vm<|Dw vm<|?_
   refine D' (v_ix lk lk om om) pt ?_
   refine Dw vm<|Dw vm<|?_
   refine D' (v_ix lk lk om om) pt ?_
   refine Dw (ZaL lk lk)<|ZaM<|?_
   refine ZaX ?_
   refine sn' ?_
   refine cd' lk (fun hc2=>?_) (fun hc2=>?_)
   ·replace hc2:((Zbg a i).toNat:Int)<((Zbg b i).toNat:Int):=hc2
    rw[Zij om om,if_pos hc2] at hk3
    refine wo<|Zaf<|Zao<|Zaf<|Zaf<|Zao<|Zaf<|Zad rz<|rT'<|?_
    exact ivx hk3.symm
   replace hc2:¬((Zbg a i).toNat:Int)<((Zbg b i).toNat:Int):=hc2
   refine za<|Zab<|ZaJ<|Dw vm<|Dw vm<|?_
   refine D' (v_ix lk lk om om) pt ?_
   refine Dw vm<|Dw vm<|?_
   refine D' (v_ix lk lk om om) pt ?_
   refine Dw (Zby lk lk)<|ZaM<|?_
   refine ZaX ?_
   refine sn' ?_
   refine cd' lk (fun hc3=>?_) (fun hc3=>?_)
   ·replace hc3:((Zbg b i).toNat:Int)<((Zbg a i).toNat:Int):=hc3
    rw[Zij om om,if_neg hc2,if_pos hc3] at hk3
    refine wo<|Zao<|Zaf<|Zaf<|Zao<|Zaf<|Zad rz<|rT'<|?_
    exact ivx hk3.symm
   replace hc3:¬((Zbg b i).toNat:Int)<((Zbg a i).toNat:Int):=hc3
   rw[Zij om om,if_neg hc2,if_neg hc3] at hk3
   refine Zay<|Zau<|Zal<|Zap<|mw<|?_
   refine ad<|mw<|Zak<|Zax<|?_
   refine lT' (i+1) (by (try dsimp only);exact⟨by omega,by omega,hk3⟩)
  refine Zaw<|Zaq<|Zaq<|ZaH<|Zal<|Zab<|wm<|Vw (ZbU lk)<|mw<|Vw (ZbU lk)<|Vw (ZaL lk lk)<|Zak<|?_
  refine Zal ?_
  refine cd' lk (fun hc4=>?_) (fun hc4=>?_)
  ·rw[cmpB_l om om] at hk3
   refine wo<|Zaf<|Zad rz<|rT'<|?_
   exact ivx hk3.symm
  refine za<|Zab<|wm<|Vw (ZbU lk)<|mw<|Vw (ZbU lk)<|Vw (Zby lk lk)<|sn'<|?_
  refine cd' lk (fun hc5=>?_) (fun hc5=>?_)
  ·rw[cmpB_r om om] at hk3
   refine wo<|Zaf<|Zad rz<|rT'<|?_
   exact ivx hk3.symm
  rw[cmpB_e om om] at hk3
  refine za<|wo<|Zad rz<|rT'<|?_
  exact ivx hk3.symm
 refine so<|so<|so<|so<|Vw (Zah lk lkb)<|sn'<|ZaO lk<|Zaw<|Zaq<|Zaq<|ZaH<|Zal<|Zab<|?_
 refine wm<|Vw (ZbU lk)<|mw<|Vw (ZbU lk)<|Vw (ZaL lk lk)<|sn'<|?_
 refine cd' lk (fun hc4=>?_) (fun hc4=>?_)
 ·rw[cmpB_l om om] at hk3
  refine wo<|Zaf<|Zad rz<|rT'<|?_
  exact ivx hk3.symm
 refine za<|Zab<|wm<|Vw (ZbU lk)<|mw<|Vw (ZbU lk)<|Vw (Zby lk lk)<|sn'<|?_
 refine cd' lk (fun hc5=>?_) (fun hc5=>?_)
 ·rw[cmpB_r om om] at hk3
  refine wo<|Zaf<|Zad rz<|rT'<|?_
  exact ivx hk3.symm
 rw[cmpB_e om om] at hk3
 refine za<|wo<|Zad rz<|rT'<|?_
 exact ivx hk3.symm
def atN (t:List Nam) (nm:ByteArray):Int:=idxV (fun n:Nam=>decide (n.1=nm)) t
theorem Zjg {t:List Nam}{nm:ByteArray}{f1:Bool}{h:AH}:Ac 12 [.sl t.length 5 f1 (rows namC t),sv nm] h (iv (atN t nm)):=by
 refine tI' k12 fun N hn _ _ hbd=>?_
 simp only[tb'] at hbd ⊢
 refine wk'<|Zab<|wk'<|Zae<|?_
 refine w_lp (ι:=Nat) (fun (i:Nat)=>[(5,iv (i:Int)),(4,.any)]++rn' 6 14) (fun (i:Nat)=>[]) (fun (i:Nat)=>i≤t.length ∧ ∀ j (hj:j<t.length),j<i→decide (t[j].1=nm)=false) (fun (i:Nat)=>t.length-i) (0) (by exact⟨by omega,fun j hj h0=>absurd h0 om⟩) ?_
 rintro i hi1
 try simp only[sm',Nat.reduceAdd]
 obtain⟨hk1,hk2⟩:=hi1
 refine Zab<|wm<|mw<|Vw (ZaB lk)<|Vw (ZaL lk lk)<|sn'<|?_
 refine cd' lk (fun hc1=>?_) (fun hc1=>?_)
 ·have hk:i<t.length:=by omega
  refine za<|Zab<|Zae<|wm<|mw<|?_
  refine V' (ZaF lk lk ZaY nb ro om ro rfl) pt ?_
  refine Vw (ZaR lk dp0)<|Vw (Zar lk gt)<|mw<|Vw (Zc3 lk lk)<|sn'<|?_
  refine cd' lk (fun hc2=>?_) (fun hc2=>?_)
  ·refine wm<|mr<|Zao<|Zaf<|Zaf<|Zao<|Zaf<|Zad rz<|rT'<|?_
   refine ivx ?_
   have hi:t.findIdx (fun n:Nam=>decide (n.1=nm))=i:=(List.findIdx_eq hk).2 ⟨decide_eq_true hc2,fun j hj=>hk2 j om hj⟩
   unfold atN idxV;rw[if_pos (by rw[hi];exact hk),hi]
  refine Zay<|Zau<|Zal<|Zap<|mw<|?_
  refine ad<|mw<|Zak<|Zax<|?_
  refine lT' (i+1) (by (try dsimp only);refine⟨by omega,fun j hj h0=>?_⟩;by_cases e:j=i;(subst e;exact decide_eq_false hc2);exact hk2 j hj om)
 refine Zaw<|Zaq<|Zaq<|ZaH<|Zal<|wo<|Zad rz<|rT'<|?_
 refine ivx ?_
 have hi:t.findIdx (fun n:Nam=>decide (n.1=nm))=t.length:=List.findIdx_eq_length.2 fun n hn=>by obtain⟨j,hj,rfl⟩:=List.getElem_of_mem hn;exact hk2 j hj om
 unfold atN idxV;rw[if_neg om]
theorem Zur {t:List Nam}{nm:ByteArray}:decide (0≤atN t nm)=hasN t nm:=Zdx _ _
section
set_option synthInstance.maxSize 4000
instance decNam:DecidableEq Nam:=inferInstanceAs (DecidableEq (ByteArray×Tab))
instance decNams:DecidableEq (List Nam):=inferInstance
instance decRel:DecidableEq Rel:=inferInstanceAs (DecidableEq (List Nam×List Lnk))
end
theorem Zjd {α:Type}{l m:List α}{k:Nat}(h1:k<l.length) (h2:k<m.length) (h:l.take k=m.take k) (he:l[k]=m[k]):l.take (k+1)=m.take (k+1):=by
 rw[List.take_succ_eq_append_getElem h1,List.take_succ_eq_append_getElem h2,h,he]
theorem Zlq {t u:List Nam}{f1 f2:Bool}{h:AH}:Ac 67 [.sl t.length 5 f1 (rows namC t),.sl u.length 5 f2 (rows namC u)] h (bv (decide (t=u))):=by
 refine tI' k67 fun N hn _ _ hbd=>?_
 simp only[tb'] at hbd ⊢
 refine wk'<|Zab<|wm<|Vw (ZaB lk)<|mw<|Vw (ZaB lk)<|Vw (Za0 lk lk)<|Zak<|?_
 refine Zal ?_
 refine cd' lk (fun hc1=>?_) (fun hc1=>?_)
 ·have hne:¬t=u:=fun e=>by subst e;exact hc1 rfl
  refine wo<|Zaf<|Zad rz<|rT'<|?_
  exact bvx (decide_eq_false hne).symm
 refine za<|Zab<|wk'<|Zae<|?_
 refine w_lp (ι:=Nat) (fun (i:Nat)=>[(5,iv (i:Int)),(4,.any)]++rn' 11 31) (fun (i:Nat)=>[]) (fun (i:Nat)=>i≤t.length∧t.length=u.length∧t.take i=u.take i) (fun (i:Nat)=>t.length-i) (0) (by exact⟨by omega,by omega,by simp⟩) ?_
 rintro i hi1
 try simp only[sm',Nat.reduceAdd]
 obtain⟨hk1,hk2,hk3⟩:=hi1
 refine Zab<|wm<|mw<|Vw (ZaB lk)<|Vw (ZaL lk lk)<|sn'<|?_
 refine cd' lk (fun hc2=>?_) (fun hc2=>?_)
 ·have hi:i<t.length:=by omega
  have hi':i<u.length:=by omega
  refine za<|Zab<|Zae<|Zab<|ZaJ<|Dw vm<|Dw vm<|?_
  refine D' (ZaF lk lk ZaY nb ro om ro rfl) pt ?_
  refine Dw (ZaR lk dp0)<|Dw (Zar lk gt)<|Dw vm<|Dw vm<|?_
  refine D' (ZaF lk lk ZaY nb ro om ro rfl) pt ?_
  refine Dw (ZaR lk dp0)<|Dw (Zar lk gt)<|?_
  refine D' ((by first | exact Za0 lk lk | exact Zc2 lk lk)) pt ?_
  refine D' vm pt ?_
  refine dq' (t:=28) gt pt pt (fun hg28=>?_) (fun hg28=>?_)
  ·have hne:¬t=u:=fun e=>by subst e;exact hg28 rfl
   refine dn<|dn<|dn<|dn<|dn<|dn<|dn<|dn<|dn<|dn<|dn<|dn<|Dw (Zai lk lkb)<|ZaM<|?_
   refine ZaX ?_
   refine sn'<|ZaQ lk<|wo<|Zao<|Zaf<|Zaf<|Zao<|Zaf<|?_
   refine Zad rz<|rT'<|?_
   exact bvx (decide_eq_false hne).symm
  refine dO<|Dw vm<|dO<|Dw vm<|dO<|?_
  refine D' (ZaF lk lk ZaY nb ro om ro rfl) pt ?_
  refine dO<|Dw (ZaR lk dp1)<|dO<|Dw (Zav lk Zms rfl)<|dO<|Dw vm<|dO<|Dw vm<|dO<|?_
  refine D' (ZaF lk lk ZaY nb ro om ro rfl) pt ?_
  refine dO<|Dw (ZaR lk dp1)<|dO<|Dw (Zav lk Zms rfl)<|dO<|?_
  refine ZaD mp (fun hE hX=>Zm2 (t:=t[i].2) (u:=u[i].2)) pt ?_
  refine dO<|Dw (Zaz lk)<|Dw (Zah lk lk)<|ZaM<|?_
  refine ZaX ?_
  refine sn' ?_
  refine Zas lk (fun hc3=>?_) (fun hc3=>?_)
  ·have hne:¬t=u:=fun e=>by subst e;simp at hc3
   refine wo<|Zao<|Zaf<|Zaf<|Zao<|Zaf<|Zad rz<|rT'<|?_
   exact bvx (decide_eq_false hne).symm
  have hst:=Zjd hi hi' hk3 (Prod.ext (Decidable.of_not_not hg28) (by simpa using hc3))
  refine Zay<|Zau<|Zal<|Zap<|mw<|?_
  refine ad<|mw<|Zak<|Zax<|?_
  refine lT' (i+1) (by (try dsimp only);exact⟨by omega,hk2,hst⟩)
 rw[List.take_of_length_le (show t.length≤i by omega),List.take_of_length_le (show u.length≤i by omega)] at hk3
 refine Zaw<|Zaq<|Zaq<|ZaH<|Zal<|wo<|Zad rz<|rT'<|?_
 exact bvx (decide_eq_true hk3).symm
theorem lnk_ext {a b:Lnk}(h:a.1=b.1∧a.2=b.2):a=b:=Prod.ext h.1 h.2
theorem ZpZ {t u:List Nam}{k m:List Lnk}{f1 f2 f3 f4:Bool}{h:AH}:Ac 25 [.agg [.sl t.length 5 f1 (rows namC t),.sl k.length 2 f2 (rows lnkC k)],.agg [.sl u.length 5 f3 (rows namC u),.sl m.length 2 f4 (rows lnkC m)]] h (bv (decide ((t,k)=(u,m)))):=by
 refine tI' k25 fun N hn _ _ hbd=>?_
 simp only[tb'] at hbd ⊢
 refine wr'<|E' (ZaU cv rfl hl0 ha0) pt<|E' (ZaU cv rfl hl1 ha1) pt<|ms<|Zab<|wr'<|fq<|Vw (Zaa lk gx gt0)<|fq<|Vw (Zaa lk gx gt0)<|?_
 refine Zac mp (Zlq) pt<|Vw (Zaz lk)<|mw<|?_
 refine ZaN (t:=12) gt pt pt (fun hg12=>?_) (fun hg12=>?_)
 ·have hne:¬(t,k)=(u,m):=fun e=>by cases e;simp at hg12
  refine so<|so<|so<|so<|so<|so<|so<|Vw (Zai lk lkb)<|sn'<|ZaQ lk<|wm<|?_
  refine sr<|Zaf<|Zad rz<|rT'<|?_
  exact bvx (decide_eq_false hne).symm
 have htu:t=u:=by simpa using hg12
 refine sd<|fq<|sd<|Vw (Zaa lk gx gt1)<|sd<|Vw (ZaB lk)<|sd<|fq<|sd<|Vw (Zaa lk gx gt1)<|sd<|Vw (ZaB lk)<|sd<|Vw (Za0 lk lk)<|?_
 refine Vw (Zah lk lk)<|sn'<|?_
 refine cd' lk (fun hc1=>?_) (fun hc1=>?_)
 ·have hne:¬(t,k)=(u,m):=fun e=>by cases e;exact hc1 rfl
  refine wo<|Zaf<|Zad rz<|rT'<|?_
  exact bvx (decide_eq_false hne).symm
 refine za<|Zab<|wk'<|Zae<|?_
 refine w_lp (ι:=Nat) (fun (i:Nat)=>[(5,iv (i:Int)),(4,.any)]++rn' 21 18) (fun (i:Nat)=>[]) (fun (i:Nat)=>i≤k.length∧k.length=m.length∧k.take i=m.take i) (fun (i:Nat)=>k.length-i) (0) (by exact⟨by omega,by omega,by simp⟩) ?_
 rintro i hi1
 try simp only[sm',Nat.reduceAdd]
 obtain⟨hk1,hk2,hk3⟩:=hi1
 refine Zab<|wm<|fq<|Vw (Zaa lk gx gt1)<|Vw (ZaB lk)<|Vw (ZaL lk lk)<|sn'<|?_
 refine cd' lk (fun hc2=>?_) (fun hc2=>?_)
 ·have hi:i<k.length:=by omega
  have hi':i<m.length:=by omega
  refine za<|Zab<|Zae<|Zab<|ZaJ<|dg<|Dw (Zaa lk gx gt1)<|Dw vm<|?_
  refine D' (ZaF lk lk Za9 nb ro om ro rfl) pt ?_
  refine Dw (Zav lk Zmt rfl)<|dg<|Dw (Zaa lk gx gt1)<|Dw vm<|?_
  refine D' (ZaF lk lk Za9 nb ro om ro rfl) pt ?_
  refine Dw (Zav lk Zmt rfl)<|Dw (ZfK lk lk Zrf)<|ZaM<|?_
  refine ZaX ?_
  refine sn' ?_
  refine cd' lk (fun hc3=>?_) (fun hc3=>?_)
  ·have hne:¬(t,k)=(u,m):=fun e=>by cases e;exact hc3 ⟨rfl,rfl⟩
   refine wo<|Zao<|Zaf<|Zaf<|Zao<|Zaf<|Zad rz<|rT'<|?_
   exact bvx (decide_eq_false hne).symm
  have hst:=Zjd hi hi' hk3 (lnk_ext (Decidable.of_not_not hc3))
  refine Zay<|Zau<|Zal<|Zap<|mw<|?_
  refine ad<|mw<|Zak<|Zax<|?_
  refine lT' (i+1) (by (try dsimp only);exact⟨by omega,hk2,hst⟩)
 rw[List.take_of_length_le (show k.length≤i by omega),List.take_of_length_le (show m.length≤i by omega)] at hk3
 refine Zaw<|Zaq<|Zaq<|ZaH<|Zal<|wo<|Zad rz<|rT'<|?_
 exact bvx (decide_eq_true (by rw[htu,hk3])).symm
end
section
open Go.Ab Go.RowKit Civ
attribute [local simp] Zbq Zev ZbD ZbN Zcf Zb0
section
theorem Zj0 {a0 a1 a2 a3 a4:AV}{l:List AV}:((a0::a1::a2::a3::a4::l).drop 0).take 5=[a0,a1,a2,a3,a4]:=rfl
theorem Zho {τ:Operand→AV}{y0:Operand}{x0_0 x0_1 x0_2 x0_3 x0_4:AV}(h0:Zat (τ y0)=some [x0_0,x0_1,x0_2,x0_3,x0_4]) (l0:[x0_0,x0_1,x0_2,x0_3,x0_4].all leaf=true):Zan τ [(0,5,y0)] [(.v (.string ⟨#[]⟩)),(iv 0),(iv 0),(.v (.string ⟨#[]⟩)),(.sl 0 0 true [])]=some [x0_0,x0_1,x0_2,x0_3,x0_4]:=by
 simp only[Zan,h0,l0]
 rfl
theorem ZeI {a0 a1 a2 a3 a4:AV}{l:List AV}:(a0::a1::a2::a3::a4::l).take 5=[a0,a1,a2,a3,a4]:=rfl
theorem Zc1 {τ:Operand→AV}{y0:Operand}{x0_0 x0_1 x0_2 x0_3 x0_4:AV}(h0:Zat (τ y0)=some [x0_0,x0_1,x0_2,x0_3,x0_4]) (l0:[x0_0,x0_1,x0_2,x0_3,x0_4].all leaf=true):Zan τ [(0,5,y0)] [(.v (.string ⟨#[]⟩)),(iv 0),(iv 0),(.v (.string ⟨#[]⟩)),(.sl 0 0 true [])]=some [x0_0,x0_1,x0_2,x0_3,x0_4]:=by
 simp only[Zan,h0,l0]
 rfl
theorem Zhn {τ:Operand→AV}{y0:Operand}{x0_0 x0_1 x0_2 x0_3 x0_4:AV}(h0:Zat (τ y0)=some [x0_0,x0_1,x0_2,x0_3,x0_4]) (l0:[x0_0,x0_1,x0_2,x0_3,x0_4].all leaf=true):Zan τ [(0,5,y0)] [(.v (.string ⟨#[]⟩)),(iv 0),(iv 0),(.v (.string ⟨#[]⟩)),(.sl 0 0 true [])]=some [x0_0,x0_1,x0_2,x0_3,x0_4]:=by
 simp only[Zan,h0,l0]
 rfl
theorem ZgT {a0 a1 a2:AV}{l:List AV}:((a0::a1::a2::l).drop 0).take 3=[a0,a1,a2]:=rfl
theorem ZkX {τ:Operand→AV}:Zan τ [] [(.sl 0 0 true []),(.sl 0 0 true [])]=some [(.sl 0 0 true []),(.sl 0 0 true [])]:=rfl
theorem ZgU {a0 a1 c0 c1:AV}{l:List AV}:setCells (a0::a1::l) 0 [c0,c1]=c0::c1::l:=rfl
theorem Zfa {a0 a1:AV}{l:List AV}:((a0::a1::l).drop 0).take 2=[a0,a1]:=rfl
theorem Zi3 {τ:Operand→AV}{y0:Operand}{x0_0:AV}(h0:Zat (τ y0)=some [x0_0]) (l0:[x0_0].all leaf=true):Zan τ [(0,1,y0)] [(.v (.string ⟨#[]⟩)),(iv 0),(iv 0),(.v (.string ⟨#[]⟩)),(.sl 0 0 true [])]=some [x0_0,(iv 0),(iv 0),(.v (.string ⟨#[]⟩)),(.sl 0 0 true [])]:=by
 simp only[Zan,h0,l0]
 rfl
theorem Zrj {a0 c0:AV}{l:List AV}:setCells (a0::l) 0 [c0]=c0::l:=rfl
theorem ZiI {a0 a1:AV}{l:List AV}:(a0::a1::l).take 2=[a0,a1]:=rfl
theorem Zmu { e:Ent}:([]:AH)++[e]=[e]:=rfl
theorem Zj1 {e0 e1 e2 e3 e4 d0:Ent}:([e0,e1,e2,e3,e4]:AH)++[d0]=[e0,e1,e2,e3,e4,d0]:=rfl
theorem Zri {a0 a1 a2 a3 c0 c1 c2 c3:AV}{l:List AV}:setCells (a0::a1::a2::a3::l) 0 [c0,c1,c2,c3]=c0::c1::c2::c3::l:=rfl
theorem Zi2 {τ:Operand→AV}:Zan τ [] [(.sl 0 0 true []),(.sl 0 0 true [])]=some [(.sl 0 0 true []),(.sl 0 0 true [])]:=rfl
theorem Zrg {a0 a1 a2 a3:AV}{l:List AV}:((a0::a1::a2::a3::l).drop 0).take 4=[a0,a1,a2,a3]:=rfl
theorem Zi1 {τ:Operand→AV}{y0:Operand}{x0_0 x0_1:AV}(h0:Zat (τ y0)=some [x0_0,x0_1]) (l0:[x0_0,x0_1].all leaf=true):Zan τ [(0,2,y0)] [(.v (.string ⟨#[]⟩)),(.v (.string ⟨#[]⟩))]=some [x0_0,x0_1]:=by
 simp only[Zan,h0,l0]
 rfl
theorem Zrh {a0 a1 c0:AV}{l:List AV}:setCells (a0::a1::l) 1 [c0]=a0::c0::l:=rfl
end
def c55:AC:=(Sr [Oo 3 (.box 40 5 (t 1)),Oo 4 (.mv (.const (.slice none 0 0)))] (Sr [Oo 5 (.mv (.const (.slice none 0 0)))] (Sr [Mb 6 false] (.seq (Sr [Mc 7 0] (.block 0 (.loop (.seq (Sr [Mv 8 7,Mv 9 0,Oo 10 (.len false (t 9)),Bn 11 .lss 8 10] (Cd 11 .skip (.exit 0))) (.seq (.block 1 (.seq (Sd [Mv 14 6,Oo 15 (.un .not (t 14)),Mv 16 15,Ot 17 16 (mt 0),Ot 18 16 (mt 7),Ot 19 16 (.ia 5 (t 17) (t 18)),Ot 20 16 (.fa 0 (t 19)),Ot 21 16 (.load false 1 (t 20)),Ot 22 16 (.fa 0 (t 3)),Ot 23 16 (.load false 1 (t 22)),Ot 24 16 (.call (.func 58) [(t 21),(t 23)]),Ot 25 16 (.bin .gtr (t 24) (Ci 0)),Oo 26 (.pick (t 16) (t 25) (.const (.bool false)))] (Cd 26 (Sr [Mv 27 5,Oo 28 (.load true 5 (t 3)),Oo 29 (.lit 40 5 1 [Ss,(iv 0),(iv 0),Ss,nl] [(0,(5,(t 28)))]),Oo 30 (.app 40 5 72 (t 27) (t 29)),Mv 5 30] (.reg [Mb 6 true])) .skip)) (.reg [Mv 31 5,Mv 32 0,Mv 33 7,Oo 34 (.ia 5 (t 32) (t 33)),Oo 35 (.load true 5 (t 34)),Oo 36 (.lit 40 5 1 [Ss,(iv 0),(iv 0),Ss,nl] [(0,(5,(t 35)))]),Oo 37 (.app 40 5 72 (t 31) (t 36)),Mv 5 37]))) (.reg [Mv 12 7,Bc 13 .add 12 1,Mv 7 13])))))) (.seq (Sr [Mv 38 6,Oo 39 (.un .not (t 38))] (Cd 39 (.reg [Mv 40 5,Oo 41 (.load true 5 (t 3)),Oo 42 (.lit 40 5 1 [Ss,(iv 0),(iv 0),Ss,nl] [(0,(5,(t 41)))]),Oo 43 (.app 40 5 72 (t 40) (t 42)),Mv 5 43]) .skip)) (Sr [Mv 44 5,Mv 4 44] .ret))))))
theorem k55:ZaA Tryz.prog 55=some ⟨c55,[(.tmp 4)],45⟩:=by kernel_rfl
def c15:AC:=(Sr [Oo 1 (.box 53 3 (t 0)),Oo 2 (.new 25 2 [nl,nl]),Mc 3 0] (Sr [Oo 12 (.load true 3 (t 1)),Cl 13 54 [(t 12)],Mv 4 13] (.seq (Sr [Mv 14 4,Bc 15 .neq 14 0] (Cd 15 (Sr [Oo 16 (.build [nl,nl] []),Mv 17 4,⟨none,none,(.store 2 (t 2) (t 16))⟩,Mv 3 17] .ret) .skip)) (Sr [Oo 5 (.new 25 2 [nl,nl])] (.seq (Sr [Mc 6 0] (.block 0 (.loop (.seq (Sr [Mv 18 6,Fa 19 1 1,Ld 20 19,Oo 21 (.len false (t 20)),Bn 22 .lss 18 21] (Cd 22 .skip (.exit 0))) (.seq (.block 1 (.drwU [[],[],[0,1],[0,1],[0,1,2,3],[0,1],[0,1],[0,1],[0,1],[],[],[]] [Fa 25 0 5,Ld 26 25,Fa 27 1 1,Ld 28 27,Mv 29 6,Oo 30 (.ia 2 (t 28) (t 29)),Fa 31 0 30,Ld 32 31,Oo 33 (.build [Ss,(iv 0),(iv 0),Ss,nl] [(0,(1,(t 32)))]),Cl 34 55 [(t 26),(t 33)],Fa 35 0 5,Sc 35 34])) (.reg [Mv 23 6,Bc 24 .add 23 1,Mv 6 24])))))) (.seq (Sr [Mc 7 0] (.block 2 (.loop (.seq (Sr [Mv 36 7,Fa 37 0 5,Ld 38 37,Oo 39 (.len false (t 38)),Bn 40 .lss 36 39] (Cd 40 .skip (.exit 2))) (.seq (.block 3 (.seq (.drw [Oo 44 (.load true 3 (t 1)),Fa 45 1 1,Ld 46 45,Oo 47 (.load true 3 (t 1)),Fa 48 0 5,Ld 49 48,Mv 50 7,Oo 51 (.ia 5 (t 49) (t 50)),Fa 52 0 51,Ld 53 52,Cl 54 57 [(t 47),(t 53)],Oo 55 (.ia 2 (t 46) (t 54)),Oo 56 (.load true 2 (t 55)),Cl 57 56 [(t 44),(t 56)],Mv 43 57,Ex 58 43 0,Ex 59 43 1,Oo 8 (.new 38 4 [(iv 0),(iv 0),Ss,nl])] [false,false] [⟨none,none,(.store 4 (t 8) (t 58))⟩,Mv 9 59]) (.seq (Sr [Mv 60 9,Bc 61 .neq 60 0] (Cd 61 (Sr [Oo 62 (.build [nl,nl] []),Mv 63 9,⟨none,none,(.store 2 (t 2) (t 62))⟩,Mv 3 63] .ret) .skip)) (.reg [Fa 64 0 5,Ld 65 64,Mv 66 7,Oo 67 (.load true 4 (t 8)),Oo 68 (.ia 5 (t 65) (t 66)),Fa 69 1 68,⟨none,none,(.store 4 (t 69) (t 67))⟩])))) (.reg [Mv 41 7,Bc 42 .add 41 1,Mv 7 42])))))) (.seq (Sr [Mc 10 0] (.block 4 (.loop (.seq (Sr [Mv 70 10,Fa 71 2 1,Ld 72 71,Oo 73 (.len false (t 72)),Bn 74 .lss 70 73] (Cd 74 .skip (.exit 4))) (.seq (.block 5 (.seq (.drw [Fa 77 1 5,Ld 78 77,Fa 79 2 1,Ld 80 79,Mv 81 10,Oo 82 (.ia 2 (t 80) (t 81)),Oo 83 (.load true 2 (t 82)),Oo 84 (.lit 97 2 1 [Ss,Ss] [(0,(2,(t 83)))])] [false,false,false] [Oo 85 (.app 97 2 32 (t 78) (t 84)),Fa 86 1 5,Sc 86 85]) (Sr [Mv 87 10,Mv 11 87] (.block 6 (.loop (.seq (Sd [Mv 88 11,Bc 89 .gtr 88 0,Mv 90 89,Ot 91 90 (.fa 1 (t 5)),Ot 92 90 (.load false 1 (t 91)),Ot 93 90 (mt 11),Ot 94 90 (.ia 2 (t 92) (t 93)),Ot 95 90 (.fa 1 (t 94)),Ot 96 90 (.load false 1 (t 95)),Ot 97 90 (.fa 1 (t 5)),Ot 98 90 (.load false 1 (t 97)),Ot 99 90 (mt 11),Ot 100 90 (.bin .sub (t 99) (Ci 1)),Ot 101 90 (.ia 2 (t 98) (t 100)),Ot 102 90 (.fa 1 (t 101)),Ot 103 90 (.load false 1 (t 102)),Ot 104 90 (.call (.func 58) [(t 96),(t 103)]),Ot 105 90 (.bin .lss (t 104) (Ci 0)),Oo 106 (.pick (t 90) (t 105) (.const (.bool false)))] (Cd 106 .skip (.exit 6))) (.seq (.block 7 (.drw [Fa 109 1 5,Ld 110 109,Mv 111 11,Fa 112 1 5,Oo 113 (.loadR false 1 (t 112)),Mv 114 11,Bc 115 .sub 114 1,Fa 116 1 5,Ld 117 116,Mv 118 11,Bc 119 .sub 118 1,Oo 120 (.ia 2 (t 117) (t 119)),Oo 121 (.load true 2 (t 120)),Fa 122 1 5,Ld 123 122,Mv 124 11,Oo 125 (.ia 2 (t 123) (t 124)),Oo 126 (.load true 2 (t 125)),Oo 127 (.ia 2 (t 110) (t 111))] [true,false,false] [⟨none,none,(.store 2 (t 127) (t 121))⟩,Oo 128 (.ia 2 (t 113) (t 115)),⟨none,none,(.store 2 (t 128) (t 126))⟩])) (.reg [Mv 107 11,Bc 108 .sub 107 1,Mv 11 108])))))))) (.reg [Mv 75 10,Bc 76 .add 75 1,Mv 10 76])))))) (Sr [Oo 129 (.load true 2 (t 5)),⟨none,none,(.store 2 (t 2) (t 129))⟩,Mc 3 0] .ret))))))))
theorem k15:ZeE Tryz.prog (some [12]) 15=some ⟨c15,[(.cell 2 true 2),(.tmp 3)],130⟩:=by kernel_rfl
def qR (t:List Nam) (n:Nam):Nat:=t.findIdx fun x=>ltS n.1 x.1
def insQ (t:List Nam) (n:Nam):List Nam:=t.take (qR t n)++n::t.drop (qR t n)
theorem qR_le (t:List Nam) (n:Nam):qR t n≤t.length:=List.findIdx_le_length
theorem qR_ins : ∀ {t:List Nam}{n:Nam},hasN t n.1=false→qR t n=posN t n.1
 | [],n,_=>rfl
 | x::t,n,h=>by
  rw[Ztw,Bool.or_eq_false_iff,decide_eq_false_iff_not] at h
  have ih:=qR_ins h.2
  unfold qR posN at ih ⊢
  rw[List.findIdx_cons,List.findIdx_cons,ih]
  have:ltS n.1 x.1=!ltS x.1 n.1:=by
   rcases ZlM h.1 with e | e
   ·rw[e,ZdB e];rfl
   rw[e,ZdB e];rfl
  rw[this]
theorem insQ_ins {t:List Nam}{n:Nam}(h:hasN t n.1=false):insQ t n=insN t n:=by unfold insQ insN;rw[qR_ins h]
theorem ZkC (t:List Nam) (n:Nam):(insQ t n).length=t.length+1:=by
 have:=qR_le t n
 unfold insQ
 rw[List.length_append,List.length_take,List.length_cons,List.length_drop];omega
def Zet (t:List Nam) (n:Nam) (i:Nat):List Nam:=if qR t n<i then t.take (qR t n)++n::(t.drop (qR t n)).take (i-qR t n) else t.take i
theorem ZsM {t:List Nam}{n:Nam}{i:Nat}(hi:i≤t.length):(Zet t n i).length=if qR t n<i then i+1 else i:=by
 unfold Zet
 split
 ·rw[List.length_append,List.length_take,List.length_cons,List.length_take,List.length_drop];omega
 rw[List.length_take];omega
theorem qR_yes {t:List Nam}{n:Nam}{i:Nat}(hi:i<t.length) (h:¬qR t n<i) (hc:0<cmpS t[i].1 n.1):qR t n=i :=
 (List.findIdx_eq hi).2 ⟨ZpD.1 hc,fun j hj=>by
  have:=List.not_of_lt_findIdx (xs:=t) (p:=fun x=>ltS n.1 x.1) (i:=j) (by unfold qR at h;omega)
  simpa using this⟩
theorem qR_no {t:List Nam}{n:Nam}{i:Nat}(hi:i<t.length) (h:¬qR t n<i) (hc:¬0<cmpS t[i].1 n.1):¬qR t n<i+1:=fun hlt=>by
 have e:qR t n=i:=by omega
 have hq:t.findIdx (fun x=>ltS n.1 x.1)<t.length:=by unfold qR at e;omega
 have:=List.findIdx_getElem (w:=hq)
 have e2:t.findIdx (fun x=>ltS n.1 x.1)=i:=e
 simp only[e2] at this
 exact hc (ZpD.2 this)
theorem ZsJ {t:List Nam}{n:Nam}{i:Nat}(h:qR t n<i) (hi:i<t.length):Zet t n (i+1)=Zet t n i++[t[i]]:=by
 unfold Zet
 rw[if_pos om,if_pos h,List.append_assoc,List.cons_append,show i+1-qR t n=i-qR t n+1 by omega,List.take_succ_eq_append_getElem (by rw[List.length_drop];omega),List.getElem_drop]
 simp only[show qR t n+(i-qR t n)=i by omega]
theorem ZsK {t:List Nam}{n:Nam}{i:Nat}(h:¬qR t n<i+1) (hi:i<t.length):Zet t n (i+1)=Zet t n i++[t[i]]:=by
 unfold Zet
 rw[if_neg h,if_neg om,List.take_succ_eq_append_getElem hi]
theorem ZsL {t:List Nam}{n:Nam}{i:Nat}(h:qR t n=i) (hi:i<t.length):Zet t n (i+1)=(Zet t n i++[n])++[t[i]]:=by
 unfold Zet
 rw[if_pos om,if_neg om,h,show i+1-i=1 by omega,List.drop_eq_getElem_cons hi,List.append_assoc]
 rfl
theorem ZsN {t:List Nam}{n:Nam}(h:qR t n<t.length):Zet t n t.length=insQ t n:=by
 unfold Zet insQ
 rw[if_pos h,List.take_of_length_le (l:=t.drop (qR t n)) (by rw[List.length_drop];omega)]
theorem ZsO {t:List Nam}{n:Nam}(h:¬qR t n<t.length):Zet t n t.length++[n]=insQ t n:=by
 have e:qR t n=t.length:=by have:=qR_le t n;omega
 unfold Zet insQ
 rw[if_neg h,e,List.take_of_length_le (Nat.le_refl _),List.drop_of_length_le (Nat.le_refl _)]
theorem rput0 {t:List Nam}{n:Nam}{id v:Nat}{h:AH}(he:h[id]?=some (.mk v 40 5 (rows namC t))) (hl:t.length≤1000) (hs : ∀ x∈t,x.1.size≤maxLen) :
  ACalls Tryz.prog 55 [.own id v t.length,.agg (namC n)] h fun x h' => ∃ z j u,h'=h++z∧z[j]?=some (.mk u 40 5 (rows namC (insQ t n)))∧x=.ret (.own (h.length+j) u (insQ t n).length):=by
 refine tN' k55 fun N hn hlt _ hbd=>?_
 simp only[tb'] at hbd ⊢
 have hidN:id<N:=by rw[←hn];exact (List.getElem?_eq_some_iff.1 he).1
 refine wr'<|E' (ZaU (cvl lk1 rfl) rfl hl0 ha0) pt3<|mv' lkn pt4<|sn'<|wr'<|mv' lkn pt5<|Zak<|ZaS (ALe.own0' (st':=5) (ty:=40) gt5 hl1 pt5 ha1)<|wr'<|mv' lkb pt6<|?_
 refine sn'<|Zab<|wk'<|Zae<|?_
 refine w_lp (ι:=Nat×Nat) (fun (x_:Nat×Nat)=>match x_ with | ⟨i,w⟩=>[(5,.own (N+1) w (Zet t n i).length),(6,bv (decide (qR t n<i))),(7,iv (i:Int))]++rn' 8 30) (fun (x_:Nat×Nat)=>match x_ with | ⟨i,w⟩=>[(1,.mk w 40 5 (rows namC (Zet t n i)))]) (fun (x_:Nat×Nat)=>match x_ with | ⟨i,w⟩=>i≤t.length) (fun (x_:Nat×Nat)=>match x_ with | ⟨i,w⟩=>t.length-i) (⟨0,0⟩) (by exact Nat.zero_le _) ?_
 rintro⟨i,w⟩ hi1
 try simp only[sm',Nat.reduceAdd]
 replace hi1:i≤t.length:=hi1
 have hpl:=ZsM hi1 (n:=n)
 refine Zab<|wm<|mw<|Vw (ZbK lk)<|Vw (ZaL lk lk)<|sn'<|?_
 refine cd' lk (fun hc1=>?_) (fun hc1=>?_)
 ·have hi:i<t.length:=by omega
  have hti:=hs _ (List.getElem_mem hi)
  refine za<|Zab<|Zae<|Zab<|Zab<|ZaJ<|Dw vm<|?_
  refine D' ((by first | exact v_not lk | exact Zaz lk)) pt ?_
  refine D' vm pt ?_
  refine dq' (t:=16) gt pt pt (fun hg16=>?_) (fun hg16=>?_)
  ·have hq:¬qR t n<i:=by simpa using hg16
   rw[if_neg hq] at hpl
   refine dO<|Dw vm<|dO<|Dw vm<|dO<|?_
   refine D' (ZaP lk lk (ZcF he) ZaY nb ro om (by first | rfl | (simp;done) | omega)) pt ?_
   refine dO<|Dw (Zbc lk)<|dO<|?_
   refine D' (Zcc lk (ZcF he) ZaY om nb gt0) pt ?_
   refine dO<|dg<|dO<|Dw (Zaa lk gx gt0)<|dO<|?_
   refine ZaD mp (fun hE hX=>ZhK hti) pt ?_
   refine dO<|Dw (Zby lk lki)<|Dw (Zai lk lk)<|ZaM<|?_
   refine ZaX ?_
   refine sn' ?_
   refine cd' lk (fun hc2=>?_) (fun hc2=>?_)
   ·have hqi:=qR_yes hi hq om
    have hstp:=ZsL hqi hi
    refine wm<|Vw (Zaj lk gx Zj0 rfl)<|E' (Zci (Zho cv rfl) hl2 ha2) pt<|?_
    refine E' (Zbz (Zbh lk gx rfl ZeI nb) lk gx (Zcq _) om rfl hs1) pt ?_
    refine ms<|Zap<|ms<|Zap<|mw<|mw<|mw<|?_
    refine V' (ZaP lk lk (ZcF he) ZaY nb ro om (by first | rfl | (simp;done) | omega)) pt ?_
    refine V' (Zep lk (ZcF he) ZaY om rfl) pt ?_
    refine E' (Zci (Zc1 cv rfl) hl3 ha3) pt ?_
    refine E' (Zbz (Zbh lk (hga hn rfl) rfl ZeI nb) lk (hga hn rfl) (by rw[List.length_append,Zcq,show ([sv n.1,iv n.2.1.1,iv n.2.1.2.1,sv n.2.1.2.2,chS n.2.2]:List AV).length=5 from rfl];omega) om rfl hs1) pt ?_
    refine mw<|Zak<|Zau<|Zal<|Zap<|mw<|?_
    refine ad<|mw<|Zak<|Zax<|?_
    refine lU' (⟨i+1,w+1+1⟩) (by (try dsimp only);omega) (by refine zz ?_;exact bkE' 2 hn hlt (by repeat (first | exact wk0 | refine wka ?_ | refine wk1 rfl ?_ | refine wk1 (by first | rfl | exact ivx om | exact bvx (decide_eq_true om) | exact bvx (decide_eq_decide.2 om) | exact bvx (Eq.trans (decide_eq_decide.2 om) hg16) | (rw[hstp,List.length_append];rfl) | (rw[hstp,List.length_append,List.length_append];rfl)) ?_)) (by rw[hstp,ZaG,ZaG];rfl))
   have hqn:=qR_no hi hq om
   have hstp:=ZsK hqn hi
   refine za<|Zap<|mw<|mw<|mw<|?_
   refine V' (ZaP lk lk (ZcF he) ZaY nb ro om (by first | rfl | (simp;done) | omega)) pt ?_
   refine V' (Zep lk (ZcF he) ZaY om rfl) pt ?_
   refine E' (Zci (Zc1 cv rfl) hl2 ha2) pt ?_
   refine E' (Zbz (Zbh lk gx rfl ZeI nb) lk gx (Zcq _) om rfl hs1) pt ?_
   refine mw<|Zak<|Zau<|Zal<|Zap<|mw<|?_
   refine ad<|mw<|Zak<|Zax<|?_
   refine lU' (⟨i+1,w+1⟩) (by (try dsimp only);omega) (by refine zz ?_;exact bkE' 2 hn hlt (by repeat (first | exact wk0 | refine wka ?_ | refine wk1 rfl ?_ | refine wk1 (by first | rfl | exact ivx om | exact bvx (decide_eq_true om) | exact bvx (decide_eq_decide.2 om) | exact bvx (Eq.trans (decide_eq_decide.2 om) hg16) | (rw[hstp,List.length_append];rfl) | (rw[hstp,List.length_append,List.length_append];rfl)) ?_)) (by rw[hstp,ZaG];rfl))
  have hq:qR t n<i:=by simpa using hg16
  rw[if_pos hq] at hpl
  have hstp:=ZsJ hq hi
  refine dn<|dn<|dn<|dn<|dn<|dn<|dn<|dn<|dn<|Dw (Zah lk lkb)<|ZaM<|?_
  refine ZaX ?_
  refine sn'<|ZaO lk<|za<|Zap<|mw<|mw<|mw<|?_
  refine V' (ZaP lk lk (ZcF he) ZaY nb ro om (by first | rfl | (simp;done) | omega)) pt ?_
  refine V' (Zep lk (ZcF he) ZaY om rfl) pt ?_
  refine E' (Zci (Zc1 cv rfl) hl2 ha2) pt ?_
  refine E' (Zbz (Zbh lk gx rfl ZeI nb) lk gx (Zcq _) om rfl hs1) pt ?_
  refine mw<|Zak<|Zau<|Zal<|Zap<|mw<|?_
  refine ad<|mw<|Zak<|Zax<|?_
  refine lU' (⟨i+1,w+1⟩) (by (try dsimp only);omega) (by refine zz ?_;exact bkE' 2 hn hlt (by repeat (first | exact wk0 | refine wka ?_ | refine wk1 rfl ?_ | refine wk1 (by first | rfl | exact ivx om | exact bvx (decide_eq_true om) | exact bvx (decide_eq_decide.2 om) | exact bvx (Eq.trans (decide_eq_decide.2 om) hg16) | (rw[hstp,List.length_append];rfl) | (rw[hstp,List.length_append,List.length_append];rfl)) ?_)) (by rw[hstp,ZaG];rfl))
 obtain rfl:i=t.length:=by omega
 refine Zaw<|Zaq<|Zaq<|ZaH<|Zal<|Zab<|wm<|?_
 refine V' ((by first | exact v_not lk | exact Zaz lk)) pt ?_
 refine sn' ?_
 refine cd' lk (fun hc3=>?_) (fun hc3=>?_)
 ·have hq:¬qR t n<t.length:=by simpa using hc3
  rw[if_neg hq] at hpl
  have hend:=ZsO hq
  refine Zap<|mw<|Vw (Zaj lk gx Zj0 rfl)<|E' (Zci (Zhn cv rfl) hl2 ha2) pt<|?_
  refine E' (Zbz (Zbh lk gx rfl ZeI nb) lk gx (Zcq _) om rfl hs1) pt ?_
  refine ms<|wm<|mr<|Zad rz<|?_
  refine⟨_,1,_,rfl,(by rw[←hend,ZaG];rfl),?_⟩;rw[hn,←hend,List.length_append];rfl
 have hq:qR t n<t.length:=by simpa using hc3
 have hend:=ZsN hq
 refine za<|wm<|mr<|Zad rz<|?_
 refine⟨_,1,_,rfl,(by rw[←hend];rfl),?_⟩;rw[hn,←hend]
theorem rput_t {t:List Nam}{n:Nam}{id v:Nat}{h:AH}(he:h[id]?=some (.mk v 40 5 (rows namC t))) (hl:t.length≤1000) (hs : ∀ x∈t,x.1.size≤maxLen) :
  ACalls Tryz.prog 55 [.own id v t.length,.agg (namC n)] h fun x h'=>x=.ret (.own id (v+1) (t.length+1))∧h'=h.set id (.mk (v+1) 40 5 (rows namC (insQ t n))):=by
 have:=ACalls.turnTo he (Zev _) (rput0 (n:=n) he hl hs)
 rw[ZkC] at this
 exact this
def nz (x:Zon):Nam:=(x.1,Zgz)
def ZhL (l:List Zon):List Nam:=(l.map nz).foldl insQ []
theorem ZpR {l:List Zon}{i:Nat}(h:i<l.length):ZhL (l.take (i+1))=insQ (ZhL (l.take i)) (nz l[i]):=by
 unfold ZhL;rw[List.take_succ_eq_append_getElem h,List.map_append,List.foldl_append];rfl
theorem ZlW : ∀ (l acc:List Nam),(l.foldl insQ acc).length=acc.length+l.length
 | [],acc=>rfl
 | n::l,acc=>by rw[List.foldl_cons,ZlW,ZkC,List.length_cons];omega
theorem ZrZ (l:List Zon):(ZhL l).length=l.length:=by unfold ZhL;rw[ZlW,List.length_map,List.length_nil,Nat.zero_add]
theorem insQ_mem {t:List Nam}{n x:Nam}(h:x∈insQ t n):x=n∨x∈t:=by
 unfold insQ at h
 rcases List.mem_append.1 h with h | h
 ·exact .inr (List.mem_of_mem_take h)
 rcases List.mem_cons.1 h with h | h
 ·exact .inl h
 exact .inr (List.mem_of_mem_drop h)
theorem ZlV {x:Nam} : ∀ {l acc:List Nam},x∈l.foldl insQ acc→x∈acc∨x∈l
 | [],acc,h=>.inl h
 | n::l,acc,h=>by
  rcases ZlV (l:=l) h with h | h
  ·rcases insQ_mem h with rfl | h
   ·exact .inr (by simp)
   exact .inl h
  exact .inr (List.mem_cons_of_mem _ h)
theorem tabs1_sz {l:List Zon}{i:Nat}(h : ∀ x∈l,x.1.size≤maxLen) : ∀ x∈ZhL (l.take i),x.1.size≤maxLen:=fun x hx=>by
 rcases ZlV hx with hx | hx
 ·cases hx
 obtain⟨y,hy,rfl⟩:=List.mem_map.1 hx
 exact h y (List.mem_of_mem_take hy)
theorem ZlX : ∀ {l acc:List Nam},((acc++l).map (·.1)).Nodup→l.foldl insQ acc=l.foldl insN acc
 | [],acc,_=>rfl
 | n::l,acc,hn=>by
  have hno:hasN acc n.1=false:=by
   rw[Bool.eq_false_iff,ne_eq,Zd4]
   intro hm
   rw[List.map_append,List.map_cons,List.nodup_append] at hn
   exact hn.2.2 n.1 hm n.1 (by simp) rfl
  have hp2:(insN acc n++l).Perm (acc++n::l):=((Zpg acc n).append_right l).trans (by
   rw[List.cons_append];exact List.perm_middle.symm)
  rw[List.foldl_cons,List.foldl_cons,insQ_ins hno,ZlX (((hp2.map (·.1)).nodup_iff).2 hn)]
theorem tabs1_eq {l:List Zon}(hn:(l.map (·.1)).Nodup):ZhL l=(srtN l).map nz:=by
 have hnm:(l.map nz).map (·.1)=l.map (·.1):=by rw[List.map_map];rfl
 have h1:ZhL l=srtN (l.map nz):=ZlX (by rw[List.nil_append,hnm];exact hn)
 rw[h1]
 refine (Zr7 (by rw[hnm];exact hn) ((ZdE hn).map nz) ?_).symm
 have:=Zkh hn
 exact List.pairwise_map.2 (this.imp fun h=>ZdB h)
def tab2 (s:Src) (zs:List Zon) (i:Nat):List Nam:=mapT s (zs.take i)++(zs.drop i).map nz
theorem ZfN (s:Src) (zs:List Zon) (i:Nat):(tab2 s zs i).length=zs.length:=by
 unfold tab2;rw[List.length_append,Zdv,List.length_take,List.length_map,List.length_drop];omega
theorem Zr4 {s:Src}{zs:List Zon}{i:Nat}(h:i<zs.length):(tab2 s zs i)[i]'(by rw[ZfN];exact h)=nz zs[i]:=by
 have hl:(mapT s (zs.take i)).length=i:=by rw[Zdv,List.length_take];omega
 unfold tab2
 rw[List.getElem_append_right om]
 simp only[hl,Nat.sub_self,List.getElem_map,List.getElem_drop,Nat.add_zero]
theorem Zr3 {s:Src}{zs:List Zon}{i:Nat}(h:i<zs.length):(tab2 s zs i).set i (((tab2 s zs i)[i]'(by rw[ZfN];exact h)).1,(ofV s zs[i]).1)=tab2 s zs (i+1):=by
 have hl:(mapT s (zs.take i)).length=i:=by rw[Zdv,List.length_take];omega
 rw[Zr4 h]
 unfold tab2
 rw[List.set_append_right _ _ om,hl,Nat.sub_self,List.drop_eq_getElem_cons h,List.map_cons,List.set_cons_zero,ZlJ s h,List.append_assoc]
 rfl
theorem tab2_end (s:Src) (zs:List Zon):tab2 s zs zs.length=mapT s zs:=by
 unfold tab2
 rw[List.take_length,List.drop_length];simp
theorem ZsS {z:List Zon}{x:Zon}(hn:(z.map (·.1)).Nodup) (hx:x∈z) : ∃ p,∃ hp:p<z.length,Zdk z x.1=(p:Int)∧z[p]=x:=by
 obtain⟨p,hp,rfl⟩:=List.getElem_of_mem hx
 refine⟨p,hp,?_,rfl⟩
 have hf:z.findIdx (fun y:Zon=>decide (y.1=z[p].1))=p:=(List.findIdx_eq hp).2 ⟨by simp,fun j hj=>by
  rw[decide_eq_false_iff_not]
  intro e
  have:=List.pairwise_iff_getElem.1 hn j p (by simp;omega) (by simpa using hp) hj
  simp only[List.getElem_map] at this
  exact this e⟩
 unfold Zdk idxV
 rw[hf,if_pos hp]
theorem lnk_refl {a b:Lnk}:ltS b.2 a.2=false∨ltS a.2 b.2=false:=by
 cases h:ltS b.2 a.2 with
 | false=>exact .inl rfl
 | true=>exact .inr (ZdB h)
theorem lnk_tr {a b c:Lnk}(h1:ltS b.2 a.2=false) (h2:ltS c.2 b.2=false):ltS c.2 a.2=false:=by
 cases h:ltS c.2 a.2 with
 | false=>rfl
 | true=>rw[ZlN h2 h] at h1;cases h1
def leL (a b:Lnk):Prop:=ltS b.2 a.2=false
theorem Zsq {l:List Nam}{k:Nat}(hk:k<l.length):(rows namC l).set (k*5) (sv l[k].1)=rows namC l:=by
 have h1:rows namC l=rows namC (l.take k)++(namC l[k]++rows namC (l.drop (k+1))):=by
  have:l=l.take k++(l[k]::l.drop (k+1)):=by rw[←List.drop_eq_getElem_cons hk,List.take_append_drop]
  calc rows namC l=rows namC (l.take k++(l[k]::l.drop (k+1))):=by rw[←this]
   _=_:=by rw[ZaG];simp only[rows,List.flatMap_cons]
 have h2:(rows namC (l.take k)).length=k*5:=by rw[Zcq,List.length_take,Nat.min_eq_left om]
 rw[h1,List.set_append_right _ _ om,h2,Nat.sub_self];rfl
theorem e_stNT {T:List AV}{x y:Operand}{id v ty s k:Nat}{l:List Nam}{tb:Tab}{h h':AH}(hx:Zag T x=.ptr id v (k*5+1)) (hc:Zat (Zag T y)=some [iv tb.1.1,iv tb.1.2.1,sv tb.1.2.2,chS tb.2]) (he:h[id]?=some (.mk v ty s (rows namC l))) (hk:k<l.length) (hh:h.set id (.mk v ty s (rows namC (l.set k (l[k].1,tb))))=h') :
  aeff h (Zag T) (.store 4 x y)=some (.v undef,h'):=by
 refine Zam hx hc he rfl (by rw[Zcq];omega) rfl ?_ hh
 have:=ZoL (f:=namC) (st:=5) ZaY hk (l[k].1,tb)
 rw[←this]
 simp only[namC,setCells]
 rw[Zsq hk]
theorem rmake_a {a:List Rul}{z:List Zon}{k:List Lnk}{h:AH}(hok:Zkw (a,z,k)) :
  Ac 15 [.agg (srcB a z k)] h (.tup [.agg (relC (Zex (a,z,k)).1),iv (Zex (a,z,k)).2]):=by
 refine tUW' k15 fun N hn hlt _ hbd=>?_
 simp only[tb'] at hbd ⊢
 refine wr'<|E' (ZaU cv rfl hl0 ha0) pt<|E' (Za3 hl1 ha1) pt<|ms<|wr'<|Vw (Zaj lk gx ZgT rfl)<|Zac mp (ZsF hok) pt<|ms<|?_
 refine Zab<|wm<|Vw (Za0 lk lki)<|sn'<|?_
 refine cd' lk (fun hc1=>?_) (fun hc1=>?_)
 ·have hM:Zex (a,z,k)=(rel0,Zbw (a,z,k)):=if_pos hc1
  refine wr'<|Vw (ZaC ZkX)<|mw<|E' (Zam lk cv gx rfl nb rfl ZgU hs1) ptn<|mr<|Zaf<|Zad (rsn (rm1 (rr_c gt gx (ld1 Zfa rfl)) (rm1 (rr_t gt) rm0)))<|rtW'<|?_
  rw[hM];exact Zj8
 have h0:Zbw (a,z,k)=0:=Decidable.of_not_not hc1
 obtain⟨n1,n2,n3⟩:=Zfs h0
 have hchk:=ZhE h0
 obtain⟨q1,q2,q3,q4,q5,q6,q7⟩:=ZcS hchk
 simp only at q1 q2 q3 q4 q5 q6 q7 n1 n2
 have hpz:=ZdE n1
 have hzl:=hpz.length_eq
 have hzs : ∀ x∈z,x.1.size≤maxLen:=fun x hx=>(hok.2.1 x hx).1
 refine za<|wr'<|E' (Za3 hl2 ha2) pt<|Zak<|?_
 refine ZaS (ALe.trans (ALe.own0Cell (st':=5) (ty:=40) gx gt0 hl3 pt0 (Eq.trans (congrArg (fun z=>List.set z _ _) ha3) hs2)) (ALe.own0Cell (st':=2) (ty:=97) gx gt1 hl4 pt1 (Eq.trans (congrArg (fun z=>List.set z _ _) ha4) hs2))) ?_
 refine Zab<|wk'<|Zae<|?_
 refine w_lp (ι:=Nat×Nat) (fun (x_:Nat×Nat)=>match x_ with | ⟨i,v⟩=>[(6,iv (i:Int))]++rn' 18 18) (fun (x_:Nat×Nat)=>match x_ with | ⟨i,v⟩=>[(2,.mk 0 25 2 [.own (N+3) v (ZhL (z.take i)).length,.own (N+4) 0 0]),(3,.mk v 40 5 (rows namC (ZhL (z.take i))))]) (fun (x_:Nat×Nat)=>match x_ with | ⟨i,v⟩=>i≤z.length) (fun (x_:Nat×Nat)=>match x_ with | ⟨i,v⟩=>z.length-i) (⟨0,0⟩) (by exact Nat.zero_le _) ?_
 rintro⟨i,v⟩ hi1
 try simp only[sm',Nat.reduceAdd]
 replace hi1:i≤z.length:=hi1
 have htl:=ZrZ (z.take i)
 rw[List.length_take] at htl
 refine Zab<|wm<|fq<|Vw (Zaa lk gx gt1)<|Vw (ZaB lk)<|Vw (ZaL lk lk)<|sn'<|?_
 refine cd' lk (fun hc2=>?_) (fun hc2=>?_)
 ·have hi:i<z.length:=by omega
  have hst:=ZpR hi
  refine za<|Zab<|Zae<|ZrG<|uf (Zjb lk)<|?_
  refine u_rdn rfl (Zaa lk gx gt0) (hx_l rfl) hl5 nh pt ?_
  refine u_fr rfl (Zjb lk) pt ?_
  refine u_rdn rfl (Zaa lk gx gt1) (hx_l rfl) hl5 nh pt ?_
  refine u_fr rfl vm pt ?_
  refine u_fr rfl (ZaF lk lk Zbm nb ro om ro rfl) pt ?_
  refine uf (ZaR lk dp0)<|uf (Zar lk gt)<|uf (ZaC (Zi3 cv rfl))<|?_
  refine Zka mp gx (fun hU hUe=>ACalls.wk (wk1 rfl (wkw (Wk.agg (wk1 rfl (wk1 rfl (wk1 rfl (wk1 rfl (wkw Wk.nilF wk0)))))) wk0)) (rput_t (n:=nz z[i]) hUe om (tabs1_sz hzs))) nh hs3 pt ?_
  refine u_fr rfl (Zjb lk) pt ?_
  refine u_st (Zam lk cv gx rfl nb rfl Zrj hs2) lk nh ptn ?_
  refine u_nil<|Zau<|Zal<|Zap<|mw<|?_
  refine ad<|mw<|Zak<|Zax<|?_
  refine lU' (⟨i+1,v+1⟩) (by (try dsimp only);omega) (by refine zz ?_;exact ALe.same wA' (by rw[hst,ZkC]))
 have hT:ZhL (z.take i)=(srtN z).map nz:=by rw[List.take_of_length_le (show z.length≤i by omega)];exact tabs1_eq n1
 rw[hT]
 refine Zaw<|Zaq<|Zaq<|ZaH<|Zal<|Zab<|wk'<|Zae<|?_
 refine w_lp (ι:=Nat) (fun (i:Nat)=>[(7,iv (i:Int)),(3,.any),(8,.any),(9,.any)]++rn' 36 34) (fun (i:Nat)=>[(2,.mk 0 25 2 [.own (N+3) v (tab2 (a,z,k) (srtN z) i).length,.own (N+4) 0 0]),(3,.mk v 40 5 (rows namC (tab2 (a,z,k) (srtN z) i)))]) (fun (i:Nat)=>i≤(srtN z).length∧errT (a,z,k) (srtN z)=errT (a,z,k) ((srtN z).drop i)) (fun (i:Nat)=>(srtN z).length-i) (0) (by exact⟨Nat.zero_le _,rfl⟩) ?_
 rintro i hi2
 try simp only[sm',Nat.reduceAdd]
 obtain⟨hi1,hi2⟩:=hi2
 have htl:=ZfN (a,z,k) (srtN z) i
 refine Zab<|wm<|fq<|Vw (Zaa lk gx gt0)<|Vw (ZbK lk)<|Vw (ZaL lk lk)<|sn'<|?_
 refine cd' lk (fun hc3=>?_) (fun hc3=>?_)
 ·have hi:i<(srtN z).length:=by omega
  have hmem:=hpz.mem_iff.1 (List.getElem_mem hi)
  obtain⟨p,hp,hpl,hpe⟩:=ZsS n1 hmem
  have hnm:((tab2 (a,z,k) (srtN z) i)[i]'(by omega)).1=(srtN z)[i].1:=by rw[Zr4 hi];rfl
  have hst:=Zr3 (s:=(a,z,k)) hi
  unfold errT at hi2
  rw[Zcl hi,←hpe] at hi2
  rw[←hpe] at hst
  refine za<|Zab<|Zae<|Zab<|ZaJ<|Dw (Zaj lk gx ZgT rfl)<|dg<|Dw (Zaa lk gx gt1)<|Dw (Zaj lk gx ZgT rfl)<|dg<|Dw (Zaa lk gx gt0)<|Dw vm<|?_
  refine D' (ZaP lk lk gx ZaY nb ro om (by first | rfl | (simp;done) | omega)) pt ?_
  refine D' (Zbc lk) pt ?_
  refine D' (Zcc lk gx ZaY om nb gt0) pt ?_
  refine ZaD mp (fun hE hX=>Zlo om) pt ?_
  rw[hnm,hpl]
  refine D' (ZaF (k:=p) lk lk Zbm nb ro om ro rfl) pt ?_
  refine D' (Zav lk ZiI rfl) pt ?_
  refine ZaD mp (fun hE hX=>ZpY (k:=k) (Zkx hok) om (ZdL hchk (List.getElem_mem hp))) pt ?_
  refine Dw vm<|Dw (ZaW lk gt)<|Dw (ZaW lk gt)<|Zc0 rfl rfl (hlk hn rfl) (Zh8) pt Zmu<|ZaM<|?_
  refine ZcZ Zj1 ?_
  refine E' (Zam lk cv gx rfl nb rfl Zri hs5) ptn<|ms<|Zab<|wm<|Vw (Za0 lk lki)<|sn'<|?_
  refine cd' lk (fun hc4=>?_) (fun hc4=>?_)
  ·have hv:(ofV (a,z,k) z[p]).2≠0:=hc4
   rw[if_pos hv] at hi2
   have hM:=ZlL h0 hi2 hv
   refine wr'<|Vw (ZaC Zi2)<|mw<|E' (Zam lk cv gx rfl nb rfl ZgU hs1) ptn<|mr<|Zaf<|Zao<|Zaf<|Zaf<|Zao<|?_
   refine Zaf<|Zad (rsn (rm1 (rr_c gt gx (ld1 Zfa rfl)) (rm1 (rr_t gt) rm0)))<|rtW'<|?_
   rw[hM];exact Zj8
  have hv:¬(ofV (a,z,k) z[p]).2≠0:=hc4
  rw[if_neg hv] at hi2
  refine za<|Zap<|fq<|Vw (Zaa lk gx gt0)<|mw<|Vw (Zaj lk gx Zrg rfl)<|?_
  refine V' (ZaP lk lk gx ZaY nb ro om (by first | rfl | (simp;done) | omega)) pt ?_
  refine V' (Zbc lk) pt ?_
  refine E' (e_stNT (tb:=(ofV (a,z,k) z[p]).1) lk cv gx om hs3) ptn ?_
  refine Zak<|Zau<|Zal<|Zap<|mw<|?_
  refine ad<|mw<|Zak<|Zax<|?_
  refine lU' (i+1) (by (try dsimp only);exact⟨by omega,hi2⟩) (by refine zz ?_;exact bk' 5 hn hlt (by rw[hst,ZfN,ZfN];rfl) (hT:=by simp[AV.lt,AV.ltL,Ent.lt]) (hE:=by simp[AV.lt,AV.ltL,Ent.lt]))
 obtain rfl:i=(srtN z).length:=by omega
 rw[List.drop_of_length_le (Nat.le_refl _)] at hi2
 have hM:=Zo4 h0 hi2
 rw[tab2_end,Zdv]
 refine Zaw<|Zaq<|Zaq<|ZaH<|Zal<|Zab<|wk'<|Zae<|?_
 refine w_lp (ι:=Nat×List Lnk×Nat) (fun (x_:Nat×List Lnk×Nat)=>match x_ with | ⟨i,M,w⟩=>[(10,iv (i:Int)),(11,.any)]++rn' 70 59) (fun (x_:Nat×List Lnk×Nat)=>match x_ with | ⟨i,M,w⟩=>[(2,.mk 0 25 2 [.own (N+3) v (srtN z).length,.own (N+4) w M.length]),(4,.mk w 97 2 (rows lnkC M))]) (fun (x_:Nat×List Lnk×Nat)=>match x_ with | ⟨i,M,w⟩=>i≤k.length∧M.Perm (k.take i)∧M.Pairwise leL) (fun (x_:Nat×List Lnk×Nat)=>match x_ with | ⟨i,M,w⟩=>k.length-i) (⟨0,[],0⟩) (by exact⟨Nat.zero_le _,List.Perm.refl _,.nil⟩) ?_
 rintro⟨i,M,w⟩ hi3
 try simp only[sm',Nat.reduceAdd]
 obtain⟨hm1,hm2,hm3⟩:=hi3
 have hML:=hm2.length_eq
 rw[List.length_take] at hML
 refine Zab<|wm<|fq<|Vw (Zaa lk gx gt2)<|Vw (ZaB lk)<|Vw (ZaL lk lk)<|sn'<|?_
 refine cd' lk (fun hc5=>?_) (fun hc5=>?_)
 ·have hi:i<k.length:=by omega
  refine za<|Zab<|Zae<|Zab<|ZaJ<|dg<|Dw (Zaa lk gx gt1)<|dg<|Dw (Zaa lk gx gt2)<|Dw vm<|?_
  refine D' (ZaF lk lk Za9 nb ro om ro rfl) pt ?_
  refine Dw (Zav lk ZiI rfl)<|Zc0 rfl rfl (hlk hn rfl) (ZfZ (Zi1 cv rfl)) pt Zmu<|ZaM<|?_
  refine ZcZ Zj1 ?_
  refine E' (Zbz (Zbh lk gx rfl ZiI nb) lk gx (Zd0 _) om rfl hs4) pt ?_
  refine fq<|E' (Zam lk cv gx rfl nb rfl Zrh hs2) ptn<|sn'<|wm<|ms<|Zae<|?_
  refine Zde (ι:=Nat×List Lnk) (fun (x_:Nat×List Lnk)=>match x_ with | ⟨q,K⟩=>[(11,iv (q:Int))]++rn' 88 41) (fun (x_:Nat×List Lnk)=>match x_ with | ⟨q,K⟩=>[(2,.mk 0 25 2 [.own (N+3) v (srtN z).length,.own (N+4) (w+1) K.length]),(4,.mk (w+1) 97 2 (rows lnkC K))]) (fun (x_:Nat×List Lnk)=>match x_ with | ⟨q,K⟩=>q≤i∧K.Perm (k.take (i+1))∧insR leL i q K) (fun (x_:Nat×List Lnk)=>match x_ with | ⟨q,K⟩=>q) (⟨i,M++[k[i]]⟩) (by exact⟨Nat.le_refl _,(by rw[List.take_succ_eq_append_getElem hi];exact hm2.append_right _),ZgE (by rw[List.length_append,List.length_singleton];omega) (by rw[List.take_left' om];exact hm3)⟩) (by try simp only[sm',Nat.reduceAdd];exact ALe.same wA' (by first | (rw[ZaG,List.length_append];done) | (rw[ZaG,List.length_append];rfl))) ?_
  rintro⟨q,K⟩ hi4
  try simp only[sm',Nat.reduceAdd]
  obtain⟨hq1,hq2,hq3⟩:=hi4
  have hKL:=hq2.length_eq
  rw[List.length_take] at hKL
  have hsz : ∀ x∈K,x.2.size≤maxLen:=fun x hx=>(hok.2.2 x (List.mem_of_mem_take (hq2.mem_iff.1 hx))).2
  refine Zab<|Zab<|ZaJ<|Dw vm<|Dw (Zby lk lki)<|Dw vm<|?_
  refine dq' (t:=90) gt pt pt (fun hg90=>?_) (fun hg90=>?_)
  ·obtain⟨j,rfl⟩ : ∃ j,q=j+1:=⟨q-1,by omega⟩
   have hz3:j+1<K.length:=by omega
   refine dO<|dg<|dO<|Dw (Zaa lk gx gt1)<|dO<|Dw vm<|dO<|?_
   refine D' (ZaP (k:=j+1) lk lk gx Za9 nb ro om (by first | rfl | (simp;done) | omega)) pt ?_
   refine dO<|Dw (Zbc lk)<|dO<|?_
   refine D' (Zcc lk gx Za9 om nb gt1) pt ?_
   refine dO<|dg<|dO<|Dw (Zaa lk gx gt1)<|dO<|Dw vm<|dO<|?_
   refine D' (Zba lk lki om om) pt ?_
   refine d_do gt ?_
   refine D' (ZaP (k:=j) lk lk gx Za9 nb ro om (by first | rfl | (simp;done) | omega)) pt ?_
   refine dO<|Dw (Zbc lk)<|dO<|?_
   refine D' (Zcc lk gx Za9 om nb gt1) pt ?_
   refine d_do gt ?_
   refine ZaD mp (fun hE hX=>ZhK (hsz _ (List.getElem_mem om))) pt ?_
   refine dO<|Dw (ZaL lk lki)<|Dw (Zai lk lk)<|ZaM<|?_
   refine ZaX ?_
   refine sn' ?_
   refine cd' lk (fun hc6=>?_) (fun hc6=>?_)
   ·have hlt_:ltS K[j+1].2 K[j].2=true:=ZeX.1 hc6
    obtain⟨hk1,hk2⟩:=Zia (r:=leL) (fun _ _=>lnk_refl) hq3 hz3 (by unfold leL;rw[hlt_];simp)
    refine za<|Zab<|Zae<|ZrH [N+2]<|dg<|Dw (Zaa lk gx gt1)<|Dw vm<|dg<|?_
    refine d_ldP lk gx (ld0 gt) (by simp) pt ?_
    refine D' vm pt ?_
    refine D' (Zba lk lki om om) pt ?_
    refine dg<|Dw (Zaa lk gx gt1)<|Dw vm<|?_
    refine D' (Zba lk lki om om) pt ?_
    refine D' (ZaP (k:=j) lk lk gx Za9 nb ro om (by first | rfl | (simp;done) | omega)) pt ?_
    refine D' (Zep lk gx Za9 om rfl) pt ?_
    refine dg<|Dw (Zaa lk gx gt1)<|Dw vm<|?_
    refine D' (ZaP (k:=j+1) lk lk gx Za9 nb ro om (by first | rfl | (simp;done) | omega)) pt ?_
    refine D' (Zep lk gx Za9 om rfl) pt ?_
    refine D' (ZaP (k:=j+1) lk lk gx Za9 nb ro om (by first | rfl | (simp;done) | omega)) pt ?_
    refine ZaM<|Znj<|?_
    refine k_eff rfl rfl (Zf5 (z:=K[j]) lk cv gx Za9 rfl om hs4) (by intro i hi;simp only[cond_true,List.mem_cons,List.not_mem_nil,or_false] at hi;subst hi;first | rfl | exact (hga hn rfl).trans (hga hn rfl).symm) ptn ?_
    refine k_val rfl (ZaP (k:=j) lk lk gx Za9 nb (by first | rfl | first | omega | (rw[List.length_set];omega)) (by first | omega | (rw[List.length_set];omega)) (by first | rfl | (simp;done) | first | omega | (rw[List.length_set];omega))) pt ?_
    refine k_eff rfl rfl (Zf5 (z:=K[j+1]) lk cv gx Za9 rfl (by first | omega | (rw[List.length_set];omega)) hs4) (by intro i hi;simp at hi) ptn ?_
    refine k_nil<|Zau<|Zal<|Zap<|mw<|?_
    refine V' (Zba lk lki om om) pt ?_
    refine mw<|Zak<|Zax<|?_
    refine lU' (⟨j,(K.set (j+1) K[j]).set j K[j+1]⟩) (by (try dsimp only);exact⟨by omega,hk2.trans hq2,hk1⟩) (by refine zz ?_;exact ALe.same wA' (by rw[List.length_set,List.length_set]))
   have hge_:ltS K[j+1].2 K[j].2=false:=by rw[Bool.eq_false_iff,ne_eq,←ZeX];exact hc6
   have hend:=ZgC (r:=leL) (fun _ _ _=>lnk_tr) hq3 hz3 hge_
   refine Zaw<|Zaq<|Zaq<|ZaH<|Zau<|Zal<|Zap<|mw<|?_
   refine ad<|mw<|Zak<|Zax<|?_
   refine lU' (⟨i+1,K,w+1⟩) (by (try dsimp only);exact⟨by omega,hq2,(by rwa [List.take_of_length_le om] at hend)⟩) (by refine zz ?_;exact bk' 5 hn hlt (hT:=by simp[AV.lt,AV.ltL,Ent.lt]) (hE:=by simp[AV.lt,AV.ltL,Ent.lt]))
  obtain rfl:q=0:=by omega
  have hend:=ZgD hq3
  refine dn<|dn<|dn<|dn<|dn<|dn<|dn<|dn<|dn<|dn<|dn<|dn<|dn<|dn<|?_
  refine dn<|Dw (Zah lk lkb)<|ZaM<|?_
  refine ZaX ?_
  refine sn'<|ZaO lk<|Zaw<|Zaq<|Zaq<|ZaH<|Zau<|Zal<|Zap<|mw<|?_
  refine ad<|mw<|Zak<|Zax<|?_
  refine lU' (⟨i+1,K,w+1⟩) (by (try dsimp only);exact⟨by omega,hq2,(by rwa [List.take_of_length_le om] at hend)⟩) (by refine zz ?_;exact bk' 5 hn hlt (hT:=by simp[AV.lt,AV.ltL,Ent.lt]) (hE:=by simp[AV.lt,AV.ltL,Ent.lt]))
 obtain rfl:M=srtL k:=by rw[List.take_of_length_le (show k.length≤i by omega)] at hm2;exact Zr8 n2 hm2 hm3
 refine Zaw<|Zaq<|Zaq<|ZaH<|?_
 refine ZaS (ALe.trans (ALe.iceCellR (hga hn rfl) (hga hn rfl) om gt0 (List.take_of_length_le (by rw[Zcq,Zdv];exact Nat.le_refl _)) (by rw[Zcq,Zdv];exact Nat.le_refl _) pt0 hs3 hs2) (ALe.iceCellR (hga hn rfl) (hga hn rfl) om gt1 (List.take_of_length_le (by rw[Zd0];exact Nat.le_refl _)) (by rw[Zd0];exact Nat.le_refl _) pt1 hs4 hs2)) ?_
 refine wr'<|Vw (Zaj lk gx Zfa rfl)<|E' (Zam lk cv gx rfl nb rfl ZgU hs1) ptn<|mr<|Zad (rsn (rm1 (rr_c gt gx (ld1 Zfa rfl)) (rm1 (rr_t gt) rm0)))<|rtW'<|?_
 rw[hM];dsimp only [relC];rw[Zdv];exact Wk.refl _
end
section
open Go.Ab Go.RowKit Civ
attribute [local simp] Zbq Zev ZbD ZlE ZbN Zcf Zb0 Zdh
section
theorem Ze9 {a0 a1 c0 c1:AV}{l:List AV}:setCells (a0::a1::l) 0 [c0,c1]=c0::c1::l:=rfl
theorem Zcv {a0 a1:AV}{l:List AV}:((a0::a1::l).drop 0).take 2=[a0,a1]:=rfl
theorem Zfh {τ:Operand→AV}:Zan τ [] [(.sl 0 0 true []),(.sl 0 0 true [])]=some [(.sl 0 0 true []),(.sl 0 0 true [])]:=rfl
theorem ZgS {a0 a1 a2 a3 c0 c1 c2 c3:AV}{l:List AV}:setCells (a0::a1::a2::a3::l) 0 [c0,c1,c2,c3]=c0::c1::c2::c3::l:=rfl
theorem Zfg {τ:Operand→AV}:Zan τ [] [(.sl 0 0 true []),(.sl 0 0 true [])]=some [(.sl 0 0 true []),(.sl 0 0 true [])]:=rfl
theorem ZjZ {a0 a1 a2 a3:AV}{l:List AV}:((a0::a1::a2::a3::l).drop 0).take 4=[a0,a1,a2,a3]:=rfl
theorem ZuK {a0 a1 a2 a3:AV}{l:List AV}:(a0::a1::a2::a3::l).take 4=[a0,a1,a2,a3]:=rfl
end
def c41:AC:=(Sr [Oo 0 (.new 25 2 [nl,nl])] (Sr [Cl 4 40 [],Cl 5 15 [(t 4)],Mv 3 5,Ex 6 3 0,Ex 7 3 1,Oo 1 (.new 25 2 [nl,nl]),⟨none,none,(.store 2 (t 1) (t 6))⟩,Mv 2 7] (Sr [Oo 8 (.load true 2 (t 1)),⟨none,none,(.store 2 (t 0) (t 8))⟩] .ret)))
theorem k41:ZaA Tryz.prog 41=some ⟨c41,[(.cell 0 true 2)],9⟩:=by kernel_rfl
def c9:AC:=(Sr [Mb 0 false] (Sr [Cl 12 40 [],Cl 13 14 [(t 12)],Mv 11 13,Ex 14 11 0,Ex 15 11 1,Oo 1 (.new 25 2 [nl,nl]),⟨none,none,(.store 2 (t 1) (t 14))⟩,Mv 2 15] (Sr [Oo 17 (.build [nl,nl] []),Oo 18 (.load true 2 (t 1)),Cl 19 10 [(t 17),(t 18)],Mv 16 19,Ex 20 16 0,Ex 21 16 1,Oo 3 (.new 30 4 [nl,nl,nl,nl]),⟨none,none,(.store 4 (t 3) (t 20))⟩,Mv 4 21] (Sr [Oo 23 (.build [nl,nl] []),Oo 24 (.load true 4 (t 3)),Cl 25 18 [(t 23),(t 24)],Mv 22 25,Ex 26 22 0,Ex 27 22 1,Oo 5 (.new 25 2 [nl,nl]),⟨none,none,(.store 2 (t 5) (t 26))⟩,Mv 6 27] (Sr [Oo 29 (.load true 2 (t 1)),Oo 30 (.call (.func 11) [(t 29),(.const (.string ⟨#[79,108,100]⟩))]),Mv 28 30,Ex 31 28 0,Ex 32 28 1,Oo 7 (.new 38 4 [(iv 0),(iv 0),Ss,nl]),⟨none,none,(.store 4 (t 7) (t 31))⟩,Mv 8 32] (Sr [Oo 34 (.load true 2 (t 1)),Oo 35 (.call (.func 11) [(t 34),(.const (.string ⟨#[78,101,119]⟩))]),Mv 33 35,Ex 36 33 0,Ex 37 33 1,Oo 9 (.new 38 4 [(iv 0),(iv 0),Ss,nl]),⟨none,none,(.store 4 (t 9) (t 36))⟩,Mv 10 37] (Sd [Mv 38 2,Bc 39 .eql 38 0,Mv 40 39,Ot 41 40 (mt 4),Ot 42 40 (.bin .eql (t 41) (Ci 0)),Oo 43 (.pick (t 40) (t 42) (.const (.bool false))),Mv 44 43,Ot 45 44 (mt 6),Ot 46 44 (.bin .eql (t 45) (Ci 0)),Oo 47 (.pick (t 44) (t 46) (.const (.bool false))),Mv 48 47,Ot 49 48 (mt 8),Ot 50 48 (.bin .eql (t 49) (Ci 0)),Oo 51 (.pick (t 48) (t 50) (.const (.bool false))),Mv 52 51,Ot 53 52 (mt 10),Ot 54 52 (.bin .eql (t 53) (Ci 5)),Oo 55 (.pick (t 52) (t 54) (.const (.bool false))),Mv 56 55,Ot 57 56 (.load true 2 (t 1)),Ot 58 56 (.call (.func 17) [(t 57)]),Ot 59 56 (.bin .eql (t 58) (Ci 0)),Oo 60 (.pick (t 56) (t 59) (.const (.bool false))),Mv 61 60,Ot 62 61 (.load true 2 (t 1)),Ot 63 61 (.call (.func 41) []),Ot 64 61 (.call (.func 25) [(t 62),(t 63)]),Oo 65 (.pick (t 61) (t 64) (.const (.bool false))),Mv 66 65,Ot 67 66 (.load true 2 (t 5)),Ot 68 66 (.call (.func 41) []),Ot 69 66 (.call (.func 25) [(t 67),(t 68)]),Oo 70 (.pick (t 66) (t 69) (.const (.bool false))),Mv 71 70,Ot 72 71 (.fa 1 (t 3)),Ot 73 71 (.load false 1 (t 72)),Ot 74 71 (.len false (t 73)),Ot 75 71 (.bin .eql (t 74) (Ci 1)),Oo 76 (.pick (t 71) (t 75) (.const (.bool false))),Mv 77 76,Ot 78 77 (.load true 4 (t 7)),Ot 79 77 (.call (.func 41) []),Ot 80 77 (.fld false 0 1 (t 79)),Ot 81 77 (.ia 5 (t 80) (Ci 0)),Ot 82 77 (.fa 1 (t 81)),Ot 83 77 (.load true 4 (t 82)),Ot 84 77 (.call (.func 13) [(t 78),(t 83)]),Oo 85 (.pick (t 77) (t 84) (.const (.bool false))),Mv 0 85] .ret)))))))
theorem k9:ZaA Tryz.prog 9=some ⟨c9,[(.tmp 0)],86⟩:=by kernel_rfl
def nNew:ByteArray:=bA [78,101,119]
theorem mk1 {h:AH}:Ac 14 [.agg (srcC src0)] h (.tup [.agg (relC rel1),iv 0]):=by
 have:=make_a (a:=src0.1) (z:=src0.2.1) (k:=src0.2.2) (h:=h) Zr9
 rw[show (src0.1,src0.2.1,src0.2.2)=src0 from rfl,make0] at this
 exact this
theorem rmk1 {h:AH}:Ac 15 [.agg (srcC src0)] h (.tup [.agg (relC rel1),iv 0]):=by
 have:=rmake_a (a:=src0.1) (z:=src0.2.1) (k:=src0.2.2) (h:=h) Zr9
 rw[show (src0.1,src0.2.1,src0.2.2)=src0 from rfl,make0] at this
 exact this
theorem dif1 {h:AH}:Ac 10 [.agg [.sl 0 0 true [],.sl 0 0 true []],.agg (relC rel1)] h (.tup [.agg (updC upd1),iv 0]):=by
 have:=ZtP (r:=rel0) (s:=rel1) (h:=h) ⟨fun _ h=>(by cases h),fun _ h=>(by cases h)⟩ Zky
 rw[diff0] at this
 exact ACalls.wk (wkw (Wk.agg (wkw Wk.nilF (wkw Wk.nilF wk0))) (wk1 rfl wk0)) this
theorem findR1:Zfc rel1 nOld=(tab0,0):=by
 rw[Zfc,if_neg (by rw[chkR1];simp)];rfl
theorem findR2:Zfc rel1 nNew=(Zgz,5):=by
 rw[Zfc,if_neg (by rw[chkR1];simp)];rfl
theorem fnd1 {h:AH}:Ac 11 [.agg (relC rel1),sv nOld] h (.tup [tabA tab0,iv 0]):=by
 have:=Znt (t:=rel1.1) (k:=rel1.2) (nm:=nOld) (h:=h) Zky (by decide)
 rw[show (rel1.1,rel1.2)=rel1 from rfl,findR1] at this
 exact this
theorem fnd2 {h:AH}:Ac 11 [.agg (relC rel1),sv nNew] h (.tup [tabA Zgz,iv 5]):=by
 have:=Znt (t:=rel1.1) (k:=rel1.2) (nm:=nNew) (h:=h) Zky (by decide)
 rw[show (rel1.1,rel1.2)=rel1 from rfl,findR2] at this
 exact this
theorem Ztb {h:AH}:Ac 41 [] h (.agg (relC rel1)):=by
 refine tI' k41 fun N hn _ _ hbd=>?_
 simp only[tb'] at hbd ⊢
 refine wr'<|E' (Za3 hl0 ha0) pt<|sn'<|wr'<|Zac mp0 (ZoV) pt<|Zac mp (rmk1) pt<|mw<|Vw (ZaW lk gt)<|Vw (ZaW lk gt)<|E' (Za3 hl1 ha1) pt<|E' (Zam lk cv gx rfl nb rfl Ze9 hs1) ptn<|?_
 exact ms<|wr'<|Vw (Zaj lk gx Zcv rfl)<|E' (Zam lk cv gx rfl nb rfl Ze9 hs0) ptn<|sr<|Zad (rs1 (rr_c gt gx (ld1 Zcv rfl)))<|rT' rfl
theorem same1 {h:AH}:Ac 25 [.agg (relC rel1),.agg (relC rel1)] h (bv true):=by
 have:=ZpZ (t:=rel1.1) (u:=rel1.1) (k:=rel1.2) (m:=rel1.2) (f1:=false) (f2:=false) (f3:=false) (f4:=false) (h:=h)
 rw[decide_eq_true rfl] at this
 exact this
theorem stab1 {h:AH}:Ac 13 [tabA tab0,tabA tab0] h (bv true):=by
 have:=Zm2 (t:=tab0) (u:=tab0) (f1:=false) (f2:=false) (h:=h)
 rw[decide_eq_true rfl] at this
 exact this
theorem Zp1 {h:AH}:Ac 9 [] h (bv true):=by
 refine tI' k9 fun N hn _ _ hbd=>?_
 simp only[tb'] at hbd ⊢
 refine wk'<|wr'<|Zac mp0 (ZoV) pt<|Zac mp (mk1) pt<|mw<|Vw (ZaW lk gt)<|Vw (ZaW lk gt)<|E' (Za3 hl0 ha0) pt<|E' (Zam lk cv gx rfl nb rfl Ze9 hs0) ptn<|?_
 refine ms<|wr'<|Vw (ZaC Zfh)<|Vw (Zaj lk gx Zcv rfl)<|Zac mp (dif1) pt<|mw<|Vw (ZaW lk gt)<|Vw (ZaW lk gt)<|E' (Za3 hl1 ha1) pt<|E' (Zam lk cv gx rfl nb rfl ZgS hs1) ptn<|mw<|?_
 refine sn'<|wr'<|Vw (ZaC Zfg)<|Vw (Zaj lk gx ZjZ rfl)<|Zac mp (app1) pt<|mw<|Vw (ZaW lk gt)<|Vw (ZaW lk gt)<|E' (Za3 hl2 ha2) pt<|E' (Zam lk cv gx rfl nb rfl Ze9 hs2) ptn<|mw<|Zak<|?_
 refine Zal<|wr'<|Vw (Zaj lk gx Zcv rfl)<|Zac mp (fnd1) pt<|mw<|Vw (ZaW lk gt)<|Vw (ZaW lk gt)<|E' (Za3 hl3 ha3) pt<|E' (Zam lk cv gx rfl nb rfl ZgS hs3) ptn<|ms<|Zab<|?_
 refine Zap<|Vw (Zaj lk gx Zcv rfl)<|Zac mp (fnd2) pt<|mw<|Vw (ZaW lk gt)<|Vw (ZaW lk gt)<|E' (Za3 hl4 ha4) pt<|E' (Zam lk cv gx rfl nb rfl ZgS hs4) ptn<|ms<|Zab<|ZaJ<|Dw vm<|?_
 refine Dw (Za6 lk lki)<|Dw vm<|?_
 refine Zfx (t:=40) gt (b:=true) (by rfl) pt ?_
 refine dO<|Dw vm<|dO<|Dw (Za6 lk lki)<|Dw (Zai lk lk)<|Dw vm<|?_
 refine Zfx (t:=44) gt (b:=true) (by rfl) pt ?_
 refine dO<|Dw vm<|dO<|Dw (Za6 lk lki)<|Dw (Zai lk lk)<|Dw vm<|?_
 refine Zfx (t:=48) gt (b:=true) (by rfl) pt ?_
 refine dO<|Dw vm<|dO<|Dw (Za6 lk lki)<|Dw (Zai lk lk)<|Dw vm<|?_
 refine Zfx (t:=52) gt (b:=true) (by rfl) pt ?_
 refine dO<|Dw vm<|dO<|Dw (Za6 lk lki)<|Dw (Zai lk lk)<|Dw vm<|?_
 refine Zfx (t:=56) gt (b:=true) (by rfl) pt ?_
 refine dO<|Dw (Zaj lk gx Zcv rfl)<|dO<|?_
 refine ZaD mp (fun hE hX=>rchk1) pt ?_
 refine dO<|Dw (Za6 lk lki)<|Dw (Zai lk lk)<|Dw vm<|?_
 refine Zfx (t:=61) gt (b:=true) (by rfl) pt ?_
 refine dO<|Dw (Zaj lk gx Zcv rfl)<|dO<|?_
 refine ZaD mp0 (fun hE hX=>Ztb) pt ?_
 refine d_do gt ?_
 refine ZaD mp (fun hE hX=>same1) pt ?_
 refine Dw (Zai lk lk)<|Dw vm<|dO<|Dw (Zaj lk gx Zcv rfl)<|dO<|?_
 refine ZaD mp0 (fun hE hX=>Ztb) pt ?_
 refine d_do gt ?_
 refine ZaD mp (fun hE hX=>same1) pt ?_
 refine Dw (Zai lk lk)<|Dw vm<|dO<|dg<|dO<|Dw (Zaa lk gx gt1)<|dO<|Dw (ZaB lk)<|dO<|Dw (Za6 lk lki)<|Dw (Zai lk lk)<|Dw vm<|?_
 refine Zfx (t:=77) gt (b:=true) (by rfl) pt ?_
 refine dO<|Dw (Zaj lk gx ZjZ rfl)<|dO<|?_
 refine ZaD mp0 (fun hE hX=>Ztb) pt ?_
 refine dO<|Dw (v_fld lk gt)<|dO<|?_
 refine D' (ZaF (k:=0) lk lki ZaY nb (by first | rfl | first | omega | decide) (by first | omega | decide) ro rfl) pt ?_
 refine dO<|Dw (ZaR lk dp1)<|dO<|Dw (Zav lk ZuK rfl)<|dO<|?_
 refine ZaD mp (fun hE hX=>stab1) pt ?_
 refine Dw (Zai lk lk)<|Dw vm<|ZaM<|?_
 refine ZaX ?_
 exact sr<|Zad rz<|rT' rfl
end
section
open Go.Ab Go.RowKit Civ
attribute [local simp] Zbq Zev ZbD ZlE ZbN Zcf Zb0 Zdh
def c7:AC:=(Sr [Oo 2 (.box 53 3 (t 0)),Mb 4 false] (.seq (Sr [Cl 10 9 [],Oo 11 (.un .not (t 10)),Mv 12 11,Of 13 12 (.call (.func 26) []),Of 14 12 (.un .not (t 13)),Oo 15 (.pick (t 12) (.const (.bool true)) (t 14))] (Cd 15 (Sr [Mb 4 false] .ret) .skip)) (Sr [Oo 17 (.load true 3 (t 2)),Cl 18 14 [(t 17)],Mv 16 18,Ex 19 16 0,Ex 20 16 1,Oo 5 (.new 25 2 [nl,nl]),⟨none,none,(.store 2 (t 5) (t 19))⟩,Mv 6 20] (.seq (Sr [Mv 21 6,Bc 22 .neq 21 0] (Cd 22 (Sr [Fa 23 0 5,Ld 24 23,Oo 25 (.len false (t 24)),Bc 26 .eql 25 0,Mv 4 26] .ret) .skip)) (Sr [Oo 28 (.load true 2 (t 5)),Mv 29 1,Cl 30 11 [(t 28),(t 29)],Mv 27 30,Ex 31 27 0,Ex 32 27 1,Oo 7 (.new 38 4 [(iv 0),(iv 0),Ss,nl]),⟨none,none,(.store 4 (t 7) (t 31))⟩,Mv 6 32] (Sr [Oo 34 (.load true 3 (t 2)),Mv 35 1,Cl 36 27 [(t 34),(t 35)],Mv 33 36,Ex 37 33 0,Ex 38 33 1,Oo 8 (.new 38 4 [(iv 0),(iv 0),Ss,nl]),⟨none,none,(.store 4 (t 8) (t 37))⟩,Mv 9 38] (Sr [Mv 39 6,Mv 40 9,Bn 41 .eql 39 40,Mv 42 41,Ot 43 42 (.load true 4 (t 7)),Ot 44 42 (.load true 4 (t 8)),Ot 45 42 (.call (.func 13) [(t 43),(t 44)]),Oo 46 (.pick (t 42) (t 45) (.const (.bool false))),Mv 4 46] .ret)))))))
theorem k7:ZaA Tryz.prog 7=some ⟨c7,[(.tmp 4)],47⟩:=by kernel_rfl
def c4:AC:=(Sr [Oo 1 (.box 53 3 (t 0)),Mb 2 false] (Sr [Oo 8 (.load true 3 (t 1)),Cl 9 14 [(t 8)],Mv 7 9,Ex 10 7 0,Ex 11 7 1,Oo 3 (.new 25 2 [nl,nl]),⟨none,none,(.store 2 (t 3) (t 10))⟩,Mv 4 11] (Sr [Oo 13 (.load true 3 (t 1)),Cl 14 15 [(t 13)],Mv 12 14,Ex 15 12 0,Ex 16 12 1,Oo 5 (.new 25 2 [nl,nl]),⟨none,none,(.store 2 (t 5) (t 15))⟩,Mv 6 16] (Sr [Cl 17 9 [],Mv 18 17,Ot 19 18 (.load true 2 (t 3)),Ot 20 18 (mt 4),Ot 21 18 (mt 6),Ot 22 18 (.load true 2 (t 5)),Ot 23 18 (.call (.func 16) [(t 19),(t 20),(t 21),(t 22)]),Oo 24 (.pick (t 18) (t 23) (.const (.bool false))),Mv 25 24,Ot 26 25 (mt 4),Ot 27 25 (.bin .neq (t 26) (Ci 0)),Ot 28 25 (mt 27),Of 29 28 (.load true 2 (t 3)),Of 30 28 (.call (.func 17) [(t 29)]),Of 31 28 (.bin .eql (t 30) (Ci 0)),Ot 32 25 (.pick (t 28) (.const (.bool true)) (t 31)),Oo 33 (.pick (t 25) (t 32) (.const (.bool false))),Mv 2 33] .ret))))
theorem k4:ZaA Tryz.prog 4=some ⟨c4,[(.tmp 2)],34⟩:=by kernel_rfl
end
section
open Go.Ab Go.RowKit Civ
attribute [local simp] Zbq Zev ZbD ZlE Zdh
section
theorem Ze8 {a0 a1:AV}{l:List AV}:((a0::a1::l).drop 0).take 2=[a0,a1]:=rfl
theorem ZgR {a0 a1 a2 a3 c0 c1 c2 c3:AV}{l:List AV}:setCells (a0::a1::a2::a3::l) 0 [c0,c1,c2,c3]=c0::c1::c2::c3::l:=rfl
theorem ZfF {τ:Operand→AV}:Zan τ [] []=some []:=rfl
theorem ZfE {τ:Operand→AV}{y0:Operand}{x0_0:AV}(h0:Zat (τ y0)=some [x0_0]) (l0:[x0_0].all leaf=true):Zan τ [(0,1,y0)] [(.v (.string ⟨#[]⟩))]=some [x0_0]:=by
 simp only[Zan,h0,l0]
 rfl
theorem Zmq {a0:AV}{l:List AV}:(a0::l).take 1=[a0]:=rfl
theorem ZfD {τ:Operand→AV}{y0:Operand}{x0_0:AV}(h0:Zat (τ y0)=some [x0_0]) (l0:[x0_0].all leaf=true):Zan τ [(0,1,y0)] [(.v (.string ⟨#[]⟩))]=some [x0_0]:=by
 simp only[Zan,h0,l0]
 rfl
theorem Zmr { e:Ent}:([]:AH)++[e]=[e]:=rfl
theorem Zre {e0 e1 e2 e3 d0:Ent}:([e0,e1,e2,e3]:AH)++[d0]=[e0,e1,e2,e3,d0]:=rfl
theorem Zrd {e0 e1 e2 e3 e4 d0:Ent}:([e0,e1,e2,e3,e4]:AH)++[d0]=[e0,e1,e2,e3,e4,d0]:=rfl
theorem ZjY {a0 a1 a2 a3:AV}{l:List AV}:((a0::a1::a2::a3::l).drop 0).take 4=[a0,a1,a2,a3]:=rfl
end
def c3:AC:=(Sr [Oo 2 (.box 25 2 (t 0)),Oo 3 (.box 25 2 (t 1)),Mb 4 false] (.seq (Sr [Cl 16 9 [],Oo 17 (.un .not (t 16))] (Cd 17 (Sr [Mb 4 false] .ret) .skip)) (Sr [Oo 19 (.load true 2 (t 2)),Oo 20 (.load true 2 (t 3)),Cl 21 10 [(t 19),(t 20)],Mv 18 21,Ex 22 18 0,Ex 23 18 1,Oo 5 (.new 30 4 [nl,nl,nl,nl]),⟨none,none,(.store 4 (t 5) (t 22))⟩,Mv 6 23] (.seq (Sr [Mv 24 6,Bc 25 .neq 24 0] (Cd 25 (Sr [Fa 26 3 5,Ld 27 26,Oo 28 (.len false (t 27)),Bc 29 .eql 28 0,Mv 4 29] .ret) .skip)) (Sr [Oo 30 (.lit 9 1 0 [] []),Fa 31 0 5,Ld 32 31,Oo 33 (.app 9 1 16 (t 30) (t 32)),Mv 7 33] (.seq (Sr [Mc 8 0] (.block 0 (.loop (.seq (Sr [Mv 34 8,Fa 35 1 5,Ld 36 35,Oo 37 (.len false (t 36)),Bn 38 .lss 34 37] (Cd 38 .skip (.exit 0))) (.seq (.block 1 (.reg [Mv 41 7,Fa 42 1 5,Ld 43 42,Mv 44 8,Oo 45 (.ia 5 (t 43) (t 44)),Fa 46 0 45,Ld 47 46,Oo 48 (.lit 9 1 1 [Ss] [(0,(1,(t 47)))]),Oo 49 (.app 9 1 16 (t 41) (t 48)),Mv 7 49])) (.reg [Mv 39 8,Bc 40 .add 39 1,Mv 8 40])))))) (.seq (Sr [Mc 9 0] (.block 2 (.loop (.seq (Sr [Mv 50 9,Fa 51 2 5,Ld 52 51,Oo 53 (.len false (t 52)),Bn 54 .lss 50 53] (Cd 54 .skip (.exit 2))) (.seq (.block 3 (.reg [Mv 57 7,Fa 58 2 5,Ld 59 58,Mv 60 9,Oo 61 (.ia 7 (t 59) (t 60)),Fa 62 0 61,Ld 63 62,Oo 64 (.lit 9 1 1 [Ss] [(0,(1,(t 63)))]),Oo 65 (.app 9 1 16 (t 57) (t 64)),Mv 7 65])) (.reg [Mv 55 9,Bc 56 .add 55 1,Mv 9 56])))))) (.seq (Sr [Mc 10 0] (.block 4 (.loop (.seq (Sr [Mv 66 10,Mv 67 7,Oo 68 (.len false (t 67)),Bn 69 .lss 66 68] (Cd 69 .skip (.exit 4))) (.seq (.block 5 (.seq (Sr [Mc 11 0] (.block 6 (.loop (.seq (Sr [Mv 72 11,Mv 73 10,Bn 74 .lss 72 73] (Cd 74 .skip (.exit 6))) (.seq (.block 7 (Sd [Mv 77 7,Mv 78 10,Oo 79 (.ia 1 (t 77) (t 78)),Ld 80 79,Mv 81 7,Mv 82 11,Oo 83 (.ia 1 (t 81) (t 82)),Ld 84 83,Bn 85 .eql 80 84] (Cd 85 (Sr [Mb 4 false] .ret) .skip))) (.reg [Mv 75 11,Bc 76 .add 75 1,Mv 11 76])))))) (.seq (.drw [Oo 87 (.load true 2 (t 2)),Mv 88 7,Mv 89 10,Oo 90 (.ia 1 (t 88) (t 89)),Ld 91 90,Cl 92 11 [(t 87),(t 91)],Mv 86 92,Ex 93 86 0,Ex 94 86 1,Oo 12 (.new 38 4 [(iv 0),(iv 0),Ss,nl])] [false,false] [⟨none,none,(.store 4 (t 12) (t 93))⟩,Mv 13 94]) (.seq (.drw [Oo 96 (.load true 2 (t 3)),Mv 97 7,Mv 98 10,Oo 99 (.ia 1 (t 97) (t 98)),Ld 100 99,Cl 101 11 [(t 96),(t 100)],Mv 95 101,Ex 102 95 0,Ex 103 95 1,Oo 14 (.new 38 4 [(iv 0),(iv 0),Ss,nl])] [false,false] [⟨none,none,(.store 4 (t 14) (t 102))⟩,Mv 15 103]) (Sd [Mv 104 13,Bc 105 .eql 104 0,Mv 106 105,Ot 107 106 (mt 15),Ot 108 106 (.bin .eql (t 107) (Ci 0)),Oo 109 (.pick (t 106) (t 108) (.const (.bool false))),Mv 110 109,Ot 111 110 (.fa 0 (t 2)),Ot 112 110 (.load false 1 (t 111)),Ot 113 110 (mt 7),Ot 114 110 (mt 10),Ot 115 110 (.ia 1 (t 113) (t 114)),Ot 116 110 (.load false 1 (t 115)),Ot 117 110 (.call (.func 12) [(t 112),(t 116)]),Ot 118 110 (.bin .geq (t 117) (Ci 0)),Oo 119 (.pick (t 110) (t 118) (.const (.bool false))),Mv 120 119,Ot 121 120 (.fa 0 (t 3)),Ot 122 120 (.load false 1 (t 121)),Ot 123 120 (mt 7),Ot 124 120 (mt 10),Ot 125 120 (.ia 1 (t 123) (t 124)),Ot 126 120 (.load false 1 (t 125)),Ot 127 120 (.call (.func 12) [(t 122),(t 126)]),Ot 128 120 (.bin .geq (t 127) (Ci 0)),Oo 129 (.pick (t 120) (t 128) (.const (.bool false))),Mv 130 129,Ot 131 130 (.load true 4 (t 12)),Ot 132 130 (.load true 4 (t 14)),Ot 133 130 (.call (.func 13) [(t 131),(t 132)]),Oo 134 (.pick (t 130) (t 133) (.const (.bool false)))] (Cd 134 (Sr [Mb 4 false] .ret) .skip)))))) (.reg [Mv 70 10,Bc 71 .add 70 1,Mv 10 71])))))) (Sr [Mb 4 true] .ret)))))))))
theorem k3:ZaA Tryz.prog 3=some ⟨c3,[(.tmp 4)],135⟩:=by kernel_rfl
def Zhi (r s:Rel):List ByteArray:=betD r.1 s.1++(betP r.1 s.1).map (·.1)++(betT ZdA r.1 s.1).map (·.1)
theorem Zuk {r s:List Nam}{p:NPt}(hs:risN s) (h:p∈betT ZdA r s) : ∃ t u,ZbY r p.1=some t∧ZbY s p.1=some u∧t≠u:=by
 unfold betT at h
 obtain⟨n,hn,he⟩:=List.mem_filterMap.1 h
 obtain⟨e,t,ht,hne⟩:=Zl9 he
 refine⟨t,n.2,by rw[e];exact ht,by rw[e];exact ZlI hs hn,hne.1⟩
theorem ZmZ {α β γ:Type}{f:α→Option β}{g:β→γ}{k:α→γ}(h : ∀ a b,f a=some b→g b=k a) : ∀ l:List α,List.Sublist ((l.filterMap f).map g) (l.map k)
 | []=>by simp
 | a::l=>by
  rw[List.filterMap_cons,List.map_cons]
  split
  ·exact (ZmZ h l).cons _
  rename_i b hb
  rw[List.map_cons,h a b hb]
  exact (ZmZ h l).cons_cons _
theorem ZpN {r s:Rel}(hr:risN r.1) (hs:risN s.1):(Zhi r s).Nodup:=by
 have h1:(betD r.1 s.1).Nodup:=(ZeO hr).sublist (List.filter_sublist.map _)
 have h2:((betP r.1 s.1).map (·.1)).Nodup:=(ZeO hs).sublist (List.filter_sublist.map _)
 have h3:((betT ZdA r.1 s.1).map (·.1)).Nodup:=(ZeO hs).sublist (ZmZ (fun a b h=>(Zl9 h).1) _)
 have d1 : ∀ x∈betD r.1 s.1,hasN s.1 x=false:=fun x hx=>by
  obtain⟨n,hn,rfl⟩:=List.mem_map.1 hx
  have:=(List.mem_filter.1 hn).2
  simpa using this
 have d2 : ∀ x∈(betP r.1 s.1).map (·.1),hasN r.1 x=false∧hasN s.1 x=true:=fun x hx=>by
  obtain⟨n,hn,rfl⟩:=List.mem_map.1 hx
  obtain⟨h1,h2⟩:=List.mem_filter.1 hn
  exact⟨by simpa using h2,Zd4.2 (List.mem_map.2 ⟨n,h1,rfl⟩)⟩
 have d3 : ∀ x∈(betT ZdA r.1 s.1).map (·.1),hasN r.1 x=true∧hasN s.1 x=true:=fun x hx=>by
  obtain⟨p,hp,rfl⟩:=List.mem_map.1 hx
  obtain⟨t,u,ht,hu,_⟩:=Zuk hs hp
  rw[Zez,Zez,ht,hu];exact⟨rfl,rfl⟩
 unfold Zhi
 rw[List.nodup_append,List.nodup_append]
 refine⟨⟨h1,h2,fun x hx y hy e=>?_⟩,h3,fun x hx y hy e=>?_⟩
 ·subst e;have:=(d2 x hy).2;rw[d1 x hx] at this;cases this
 subst e
 rcases List.mem_append.1 hx with hx | hx
 ·have:=(d3 x hy).2;rw[d1 x hx] at this;cases this
 have:=(d3 x hy).1;rw[(d2 x hx).1] at this;cases this
theorem told_ne {r s:Rel}(hr:risN r.1) (hs:risN s.1) {i k:Nat}(hi:i<(Zhi r s).length) (hk:k<i):(Zhi r s)[i]≠(Zhi r s)[k] :=
 fun e=>List.pairwise_iff_getElem.1 (ZpN hr hs) k i om hi hk e.symm
theorem ZrY {r:Rel}(h:Zbb r=0) {x:ByteArray}(hx:hasN r.1 x=true):tgtR r.2 x=x:=by
 obtain⟨_,_,_,_,a5,_⟩:=Zcj h
 unfold tgtR
 have hf:r.2.findIdx (fun l:Lnk=>decide (l.2=x))=r.2.length:=List.findIdx_eq_length.2 fun l hl=>by
  rw[decide_eq_false_iff_not]
  intro e
  have:=(a5 l hl).2.1
  rw[e,hx] at this;cases this
 rw[hf,List.getElem?_eq_none (Nat.le_refl _)]
theorem told_two {r s:Rel}(hr:Zbb r=0) (hs:Zbb s=0) {x:ByteArray}(hx:x∈Zhi r s) (h1:hasN r.1 x=true) (h2:hasN s.1 x=true):¬(Zfc r x).1=(Zfc s x).1:=by
 obtain⟨_,_,_,a4,_,_⟩:=Zcj hr
 obtain⟨_,_,_,b4,_,_⟩:=Zcj hs
 unfold Zhi at hx
 rcases List.mem_append.1 hx with hx | hx
 ·rcases List.mem_append.1 hx with hx | hx
  ·obtain⟨n,hn,rfl⟩:=List.mem_map.1 hx
   have:=(List.mem_filter.1 hn).2
   rw[h2] at this;cases this
  obtain⟨n,hn,rfl⟩:=List.mem_map.1 hx
  have:=(List.mem_filter.1 hn).2
  rw[h1] at this;cases this
 obtain⟨p,hp,rfl⟩:=List.mem_map.1 hx
 obtain⟨t,u,ht,hu,hne⟩:=Zuk b4 hp
 unfold Zfc
 rw[if_neg (by simpa using hr),if_neg (by simpa using hs),ZrY hr h1,ZrY hs h2,ht,hu]
 exact hne
theorem diff_ok {r s:Rel}(h:(Zf7 r s).2=0):Zbb r=0∧Zbb s=0∧(Zf7 r s).1=betU r s:=by
 unfold Zf7 at h ⊢
 split at h
 ·rename_i h1;exact absurd h h1
 rename_i h1
 split at h
 ·rename_i h2;exact absurd h h2
 rename_i h2
 rw[if_neg h1,if_neg h2]
 exact⟨Decidable.of_not_not h1,Decidable.of_not_not h2,rfl⟩
theorem diff_bad {r s:Rel}(h:(Zf7 r s).2≠0):(Zf7 r s).1=upd0:=by
 unfold Zf7 at h ⊢
 split
 ·rfl
 rename_i h1
 rw[if_neg h1] at h
 split
 ·rfl
 rename_i h2
 rw[if_neg h2] at h
 exact absurd rfl h
theorem find_t {r:Rel}{x:ByteArray}{h:AH}(hok:ZiV r) (hc:Zbb r=0):ACalls Tryz.prog 11 [.agg (relC r),sv x] h fun y h'=>h'=h∧y=.ret (.tup [tabA (Zfc r x).1,iv (Zfc r x).2]):=by
 obtain⟨_,a2,_⟩:=Zcj hc
 exact Znt (t:=r.1) (k:=r.2) hok om
theorem told_len {r s:Rel}(hr:Zbb r=0) (hs:Zbb s=0):(betU r s).1.length≤20∧(betU r s).2.1.length≤20∧(betU r s).2.2.1.length≤20:=by
 obtain⟨a1,_⟩:=Zin hr
 obtain⟨b1,_⟩:=Zin hs
 have h1:=ZpJ r.1 s.1
 have h2:=ZpI r.1 s.1
 have h3:=ZpH r.1 s.1
 refine⟨Nat.le_trans h1 a1,Nat.le_trans h2 b1,Nat.le_trans h3 b1⟩
theorem told_w {r s:Rel}{h:AH}(hr:ZiV r) (hs:ZiV s):Ac 3 [.agg (relC r),.agg (relC s)] h (bv true):=by
 refine tI' k3 fun N hn hlt _ hbd=>?_
 simp only[tb'] at hbd ⊢
 refine wr'<|E' (ZaU cv rfl hl0 ha0) pt<|E' (ZaU cv rfl hl1 ha1) pt<|ms<|Zab<|wr'<|Zac mp0 (Zp1) pt<|Vw (Zaz lk)<|sn'<|?_
 refine ZaO lk<|za<|wr'<|Vw (Zaj lk gx Ze8 rfl)<|Vw (Zaj lk gx Ze8 rfl)<|Zac mp (ZtP hr hs) pt<|mw<|Vw (ZaW lk gt)<|Vw (ZaW lk gt)<|E' (Za3 hl2 ha2) pt<|E' (Zam lk cv gx rfl nb rfl ZgR hs2) ptn<|mw<|?_
 refine sn'<|Zab<|wm<|Vw (Za0 lk lki)<|sn'<|?_
 refine cd' lk (fun hc2=>?_) (fun hc2=>?_)
 ·have hb:=diff_bad hc2
  refine wr'<|fq<|Vw (Zaa lk gx gt3)<|Vw (ZaB lk)<|Vw (Za6 lk lki)<|mr<|Zaf<|Zad rz<|rT'<|?_
  exact bvx (decide_eq_true (by rw[hb];rfl))
 obtain⟨hcr,hcs,hd⟩:=diff_ok (Decidable.of_not_not hc2)
 rw[hd]
 obtain⟨l1_,l2_,l3_⟩:=told_len hcr hcs
 obtain⟨_,_,_,a4,_,_⟩:=Zcj hcr
 obtain⟨_,_,_,b4,_,_⟩:=Zcj hcs
 refine za<|wr'<|E' (Zci ZfF hl3 ha3) pt<|fq<|Vw (Zaa lk gx gt0)<|?_
 refine E' (Zbz (Zkm lk (Zcy _)) lk gx rfl om (str_leaf _) hs3) pt ?_
 refine ms<|Zab<|wk'<|Zae<|?_
 refine Zde (ι:=Nat×List ByteArray×Nat) (fun (x_:Nat×List ByteArray×Nat)=>match x_ with | ⟨i,M,v⟩=>[(7,.own (N+3) v M.length),(8,iv (i:Int))]++rn' 34 16) (fun (x_:Nat×List ByteArray×Nat)=>match x_ with | ⟨i,M,v⟩=>[(3,.mk v 9 1 (rows strC M))]) (fun (x_:Nat×List ByteArray×Nat)=>match x_ with | ⟨i,M,v⟩=>i≤(betU r s).2.1.length∧M=(betU r s).1++((betU r s).2.1.take i).map (·.1)) (fun (x_:Nat×List ByteArray×Nat)=>match x_ with | ⟨i,M,v⟩=>(betU r s).2.1.length-i) (⟨0,(betU r s).1,1⟩) (by exact⟨Nat.zero_le _,by simp⟩) (by try simp only[sm',Nat.reduceAdd];exact ALe.same (by repeat (first | exact wk0 | refine wka ?_ | refine wk1 rfl ?_ | refine wk1 (by first | rfl | simp) ?_)) (by simp)) ?_
 rintro⟨i,M,v⟩ hi1
 try simp only[sm',Nat.reduceAdd]
 obtain⟨hi1,hM⟩:=hi1
 have hln:M.length≤40:=by rw[hM,List.length_append,List.length_map,List.length_take];omega
 refine Zab<|wm<|fq<|Vw (Zaa lk gx gt1)<|Vw (ZaB lk)<|Vw (ZaL lk lk)<|sn'<|?_
 refine cd' lk (fun hc3=>?_) (fun hc3=>?_)
 ·have hi:i<(betU r s).2.1.length:=by omega
  refine za<|Zab<|Zae<|Zap<|mw<|fq<|Vw (Zaa lk gx gt1)<|mw<|?_
  refine V' (ZaF lk lk ZaY nb ro om ro rfl) pt ?_
  refine Vw (ZaR lk dp0)<|Vw (Zar lk gt)<|E' (Zci (ZfE cv rfl) hl4 ha4) pt<|?_
  refine E' (Zbz (Zbh lk gx rfl Zmq nb) lk gx (Zcy _) om rfl hs3) pt ?_
  refine mw<|Zak<|Zau<|Zal<|Zap<|mw<|?_
  refine ad<|mw<|Zak<|Zax<|?_
  refine lU' (⟨i+1,M++[(betU r s).2.1[i].1],v+1⟩) (by (try dsimp only);exact⟨by omega,by rw[List.take_succ_eq_append_getElem hi,List.map_append,←List.append_assoc,←hM];rfl⟩) (by refine zz ?_;exact bkE' 4 hn hlt (by repeat (first | exact wk0 | refine wka ?_ | refine wk1 rfl ?_ | refine wk1 (by first | rfl | exact ivx om | (rw[List.length_append];rfl)) ?_)) (by rw[ZaG,Zbn];rfl) (hT:=by simp[AV.lt,AV.ltL,Ent.lt]) (hE:=by simp[AV.lt,AV.ltL,Ent.lt]))
 rw[List.take_of_length_le (show (betU r s).2.1.length≤i by omega)] at hM
 refine Zaw<|Zaq<|Zaq<|ZaH<|Zal<|Zab<|wk'<|Zae<|?_
 refine w_lp (ι:=Nat×List ByteArray×Nat) (fun (x_:Nat×List ByteArray×Nat)=>match x_ with | ⟨j,K,w⟩=>[(7,.own (N+3) w K.length),(9,iv (j:Int))]++rn' 50 16) (fun (x_:Nat×List ByteArray×Nat)=>match x_ with | ⟨j,K,w⟩=>[(3,.mk w 9 1 (rows strC K))]) (fun (x_:Nat×List ByteArray×Nat)=>match x_ with | ⟨j,K,w⟩=>j≤(betU r s).2.2.1.length∧K=M++((betU r s).2.2.1.take j).map (·.1)) (fun (x_:Nat×List ByteArray×Nat)=>match x_ with | ⟨j,K,w⟩=>(betU r s).2.2.1.length-j) (⟨0,M,v⟩) (by exact⟨Nat.zero_le _,by simp⟩) ?_
 rintro⟨j,K,w⟩ hi2
 try simp only[sm',Nat.reduceAdd]
 obtain⟨hj1,hK⟩:=hi2
 have hln2:K.length≤80:=by rw[hK,List.length_append,List.length_map,List.length_take];omega
 refine Zab<|wm<|fq<|Vw (Zaa lk gx gt2)<|Vw (ZaB lk)<|Vw (ZaL lk lk)<|sn'<|?_
 refine cd' lk (fun hc4=>?_) (fun hc4=>?_)
 ·have hj:j<(betU r s).2.2.1.length:=by omega
  refine za<|Zab<|Zae<|Zap<|mw<|fq<|Vw (Zaa lk gx gt2)<|mw<|?_
  refine V' (ZaF lk lk Zo0 nb ro om ro rfl) pt ?_
  refine Vw (ZaR lk dp0)<|Vw (Zar lk gt)<|E' (Zci (ZfD cv rfl) hl4 ha4) pt<|?_
  refine E' (Zbz (Zbh lk gx rfl Zmq nb) lk gx (Zcy _) om rfl hs3) pt ?_
  refine mw<|Zak<|Zau<|Zal<|Zap<|mw<|?_
  refine ad<|mw<|Zak<|Zax<|?_
  refine lU' (⟨j+1,K++[(betU r s).2.2.1[j].1],w+1⟩) (by (try dsimp only);exact⟨by omega,by rw[List.take_succ_eq_append_getElem hj,List.map_append,←List.append_assoc,←hK];rfl⟩) (by refine zz ?_;exact bkE' 4 hn hlt (by repeat (first | exact wk0 | refine wka ?_ | refine wk1 rfl ?_ | refine wk1 (by first | rfl | exact ivx om | (rw[List.length_append];rfl)) ?_)) (by rw[ZaG,Zbn];rfl) (hT:=by simp[AV.lt,AV.ltL,Ent.lt]) (hE:=by simp[AV.lt,AV.ltL,Ent.lt]))
 rw[List.take_of_length_le (show (betU r s).2.2.1.length≤j by omega)] at hK
 have hTL:K=Zhi r s:=by rw[hK,hM];rfl
 subst hTL
 refine Zaw<|Zaq<|Zaq<|ZaH<|Zal<|Zab<|wk'<|Zae<|?_
 refine w_lp (ι:=Nat) (fun (i:Nat)=>[(10,iv (i:Int)),(4,.any)]++rn' 11 5++rn' 66 69) (fun (i:Nat)=>[]) (fun (i:Nat)=>i≤(Zhi r s).length) (fun (i:Nat)=>(Zhi r s).length-i) (0) (by exact Nat.zero_le _) ?_
 rintro i hi3
 try simp only[sm',Nat.reduceAdd]
 replace hi3:i≤(Zhi r s).length:=hi3
 refine Zab<|wm<|mw<|Vw (ZbK lk)<|Vw (ZaL lk lk)<|sn'<|?_
 refine cd' lk (fun hc5=>?_) (fun hc5=>?_)
 ·have hi:i<(Zhi r s).length:=by omega
  have hmem:=List.getElem_mem hi
  refine za<|Zab<|Zae<|Zab<|wk'<|Zae<|?_
  refine w_lp (ι:=Nat) (fun (k:Nat)=>[(11,iv (k:Int)),(4,.any)]++rn' 72 14) (fun (k:Nat)=>[]) (fun (k:Nat)=>k≤i) (fun (k:Nat)=>i-k) (0) (by exact Nat.zero_le _) ?_
  rintro k hi4
  try simp only[sm',Nat.reduceAdd]
  replace hi4:k≤i:=hi4
  refine Zab<|wm<|mw<|Vw (ZaL lk lk)<|sn'<|?_
  refine cd' lk (fun hc6=>?_) (fun hc6=>?_)
  ·have hk:k<i:=by omega
   refine za<|Zab<|Zae<|Zab<|ZaJ<|Dw vm<|Dw vm<|?_
   refine D' (ZaP lk lk gx ZbL nb ro om (by first | rfl | (simp;done) | omega)) pt ?_
   refine D' (Zcb lk gx ZbL om rfl) pt ?_
   refine Dw vm<|Dw vm<|?_
   refine D' (ZaP lk lk gx ZbL nb ro om (by first | rfl | (simp;done) | omega)) pt ?_
   refine D' (Zcb lk gx ZbL om rfl) pt ?_
   refine D' ((by first | exact Za6 lk lk | exact Zc3 lk lk)) pt ?_
   refine ZaM ?_
   refine ZaX ?_
   refine sn' ?_
   refine ZeL lk (by exact decide_eq_false (told_ne a4 b4 hi hk)) ?_
   refine Zay<|Zau<|Zal<|Zap<|mw<|?_
   refine ad<|mw<|Zak<|Zax<|?_
   refine lT' (k+1) (by (try dsimp only);omega)
  refine Zaw<|Zaq<|Zaq<|ZaH<|Zal<|Zab<|ZaJ<|Dw (Zaj lk gx Ze8 rfl)<|Dw vm<|Dw vm<|?_
  refine D' (ZaP lk lk gx ZbL nb ro om (by first | rfl | (simp;done) | omega)) pt ?_
  refine D' (Zcb lk gx ZbL om rfl) pt ?_
  refine ZaD mp (fun hE hX=>find_t hr hcr) pt ?_
  refine Dw vm<|Dw (ZaW lk gt)<|Dw (ZaW lk gt)<|Zc0 rfl rfl (hlk hn rfl) (Zh8) pt Zmr<|ZaM<|?_
  refine ZcZ Zre ?_
  refine E' (Zam lk cv gx rfl nb rfl ZgR hs4) ptn<|ms<|Zab<|ZaJ<|Dw (Zaj lk gx Ze8 rfl)<|Dw vm<|Dw vm<|?_
  refine D' (ZaP lk lk gx ZbL nb ro om (by first | rfl | (simp;done) | omega)) pt ?_
  refine D' (Zcb lk gx ZbL om rfl) pt ?_
  refine ZaD mp (fun hE hX=>find_t hs hcs) pt ?_
  refine Dw vm<|Dw (ZaW lk gt)<|Dw (ZaW lk gt)<|Zc0 rfl rfl (hlk hn rfl) (Zh8) pt Zmr<|ZaM<|?_
  refine ZcZ Zrd ?_
  refine E' (Zam lk cv gx rfl nb rfl ZgR hs5) ptn<|ms<|Zab<|ZaJ<|Dw vm<|Dw (Za6 lk lki)<|Dw vm<|?_
  refine dq' (t:=106) gt pt pt (fun hg106=>?_) (fun hg106=>?_)
  ·refine dO<|Dw vm<|dO<|Dw (Za6 lk lki)<|Dw (Zai lk lk)<|Dw vm<|?_
   refine dq' (t:=110) gt pt pt (fun hg110=>?_) (fun hg110=>?_)
   ·refine dO<|dg<|dO<|Dw (Zaa lk gx gt0)<|dO<|Dw vm<|dO<|Dw vm<|dO<|?_
    refine D' (ZaP lk lk gx ZbL nb ro om (by first | rfl | (simp;done) | omega)) pt ?_
    refine d_do gt ?_
    refine D' (Zcb lk gx ZbL om rfl) pt ?_
    refine d_do gt ?_
    refine ZaD mp (fun hE hX=>Zjg) pt ?_
    refine dO<|Dw (Zeq lk lki)<|Dw (Zai lk lk)<|Dw vm<|?_
    refine dq' (t:=120) gt pt pt (fun hg120=>?_) (fun hg120=>?_)
    ·refine dO<|dg<|dO<|Dw (Zaa lk gx gt0)<|dO<|Dw vm<|dO<|Dw vm<|dO<|?_
     refine D' (ZaP lk lk gx ZbL nb ro om (by first | rfl | (simp;done) | omega)) pt ?_
     refine d_do gt ?_
     refine D' (Zcb lk gx ZbL om rfl) pt ?_
     refine d_do gt ?_
     refine ZaD mp (fun hE hX=>Zjg) pt ?_
     refine dO<|Dw (Zeq lk lki)<|Dw (Zai lk lk)<|Dw vm<|?_
     refine dq' (t:=130) gt pt pt (fun hg130=>?_) (fun hg130=>?_)
     ·refine dO<|Dw (Zaj lk gx ZjY rfl)<|dO<|Dw (Zaj lk gx ZjY rfl)<|dO<|?_
      refine ZaD mp (fun hE hX=>Zm2) pt ?_
      refine Dw (Zai lk lk)<|ZaM<|?_
      refine ZaX ?_
      refine sn' ?_
      refine ZeL lk (by exact decide_eq_false (told_two hcr hcs hmem (by rw[←Zur];exact decide_eq_true hg120) (by rw[←Zur];exact decide_eq_true hg130))) ?_
      refine Zay<|Zau<|Zal<|Zap<|mw<|?_
      refine ad<|mw<|Zak<|Zax<|?_
      refine lU' (i+1) (by (try dsimp only);omega) (by refine zz ?_;exact bk' 4 hn hlt (hT:=by simp[AV.lt,AV.ltL,Ent.lt]) (hE:=by simp[AV.lt,AV.ltL,Ent.lt]))
     refine dn<|dn<|dn<|Dw (Zah lk lkb)<|ZaM<|?_
     refine ZaX ?_
     refine sn'<|ZaO lk<|Zay<|Zau<|Zal<|Zap<|mw<|?_
     refine ad<|mw<|Zak<|Zax<|?_
     refine lU' (i+1) (by (try dsimp only);omega) (by refine zz ?_;exact bk' 4 hn hlt (hT:=by simp[AV.lt,AV.ltL,Ent.lt]) (hE:=by simp[AV.lt,AV.ltL,Ent.lt]))
    refine dn<|dn<|dn<|dn<|dn<|dn<|dn<|dn<|Dw (Zah lk lkb)<|Dw vm<|dn<|dn<|dn<|Dw (Zah lk lkb)<|?_
    refine ZaM ?_
    refine ZaX ?_
    refine sn'<|ZaO lk<|Zay<|Zau<|Zal<|Zap<|mw<|?_
    refine ad<|mw<|Zak<|Zax<|?_
    refine lU' (i+1) (by (try dsimp only);omega) (by refine zz ?_;exact bk' 4 hn hlt (hT:=by simp[AV.lt,AV.ltL,Ent.lt]) (hE:=by simp[AV.lt,AV.ltL,Ent.lt]))
   refine dn<|dn<|dn<|dn<|dn<|dn<|dn<|dn<|Dw (Zah lk lkb)<|Dw vm<|dn<|dn<|dn<|dn<|?_
   refine dn<|dn<|dn<|dn<|Dw (Zah lk lkb)<|Dw vm<|dn<|dn<|dn<|Dw (Zah lk lkb)<|ZaM<|?_
   refine ZaX ?_
   refine sn'<|ZaO lk<|Zay<|Zau<|Zal<|Zap<|mw<|?_
   refine ad<|mw<|Zak<|Zax<|?_
   refine lU' (i+1) (by (try dsimp only);omega) (by refine zz ?_;exact bk' 4 hn hlt (hT:=by simp[AV.lt,AV.ltL,Ent.lt]) (hE:=by simp[AV.lt,AV.ltL,Ent.lt]))
  refine dn<|dn<|Dw (Zah lk lkb)<|Dw vm<|dn<|dn<|dn<|dn<|dn<|dn<|dn<|dn<|Dw (Zah lk lkb)<|Dw vm<|?_
  refine dn<|dn<|dn<|dn<|dn<|dn<|dn<|dn<|Dw (Zah lk lkb)<|Dw vm<|dn<|dn<|dn<|Dw (Zah lk lkb)<|?_
  refine ZaM ?_
  refine ZaX ?_
  refine sn'<|ZaO lk<|Zay<|Zau<|Zal<|Zap<|mw<|?_
  refine ad<|mw<|Zak<|Zax<|?_
  refine lU' (i+1) (by (try dsimp only);omega) (by refine zz ?_;exact bk' 4 hn hlt (hT:=by simp[AV.lt,AV.ltL,Ent.lt]) (hE:=by simp[AV.lt,AV.ltL,Ent.lt]))
 exact Zaw<|Zaq<|Zaq<|ZaH<|Zal<|wo<|Zad rz<|rT' rfl
end
section
open Go.Ab Go.RowKit Civ
abbrev LnkD:Ds:=.pair .str .str
end
end Go.Proofs.YtfoipaclphdodaaGreatDoor
section
namespace Go
variable {H : Type} {enc : TypeId × Value → H}
theorem Zno {a:Assume}{C:Checked}{os:Os}{f:FuncId}{fn:Func}{s:ChangeSpec}{apart fresh handsOn again:Bool}{laid:List (String×DataW Unit)}
  (own:ownKnob C.prog.godebug=none) (started:os.Started) (noInit:C.prog.inits.idxOf? f=none) (hfn:C.prog.funcs[f]?=some fn)
  (witness : ∃ (w:World) (tape:Tape) (i:Input),w.os=os∧(w.forCall tape i).Shaped C.prog∧i.vars=[]∧Input.okWide C.prog (w.forCall tape i) .any w.heap.size f i ∧
   ((s.pre enc C.prog fn [] apart (w.forCall tape i).memory i.args∧laidMetH C.prog laid (w.forCall tape i).memory)∧sizedMet enc C.prog fn (OpenSpec.ofChange s) apart (w.forCall tape i).memory i.args)∧a.holds C.prog (lone (Frame.enter C.prog f i.args .normal) [] (w.forCall tape i)))
  (contract : ∀ (W:World) (base:Nat) (args:Array Value) (ds gs:List (DataW H)) (before:List MemPlace),
   (∀ (j:Nat) t v,fn.params[j]?=some t→args[j]?=some v→Value.okWide C.prog W .any base t v) →
   DataW.Whole enc C.prog fn.params.toList s.vars apart W args.toList ds gs before →
   (DataW.weightsEach C.prog (fn.params.toList++s.plain.varTypes C.prog) (ds++gs)).all (· ≤ reachBytes)=true →
   laidMetH C.prog laid W→W.ShapedOpen C.prog →
   Calls C.prog f args W fun e W' => ∃ v,e=.returned v∧s.post enc C.prog fn apart fresh handsOn again W args v W') :
  ReturnsInHanded a C os f .any (fun w args=>(s.pre enc C.prog fn [] apart w args∧laidMetH C.prog laid w)∧sizedMet enc C.prog fn (OpenSpec.ofChange s) apart w args) (s.post enc C.prog fn apart fresh handsOn again):=by
 refine returnsInHanded_of_calls own started noInit witness ?_
 intro w tape i _ hsh _ hok hpre hholds
 obtain⟨_,_,_,fn',hfn',_,_,_,_,hval⟩:=hok
 have e:fn'=fn:=Option.some.inj (hfn'.symm.trans hfn)
 subst e
 obtain⟨⟨⟨ds,gs,before,hw,hc⟩,hx⟩,hz⟩:=hpre
 have hw':=DataW.Whole.of_heap (w':=w.forCall tape i) (by rfl) hw
 refine (contract (w.forCall tape i) w.heap.size i.args ds gs before hval hw' (hz.weights hw) (hx.of_heap (by rfl)) hsh).mono fun e W' ⟨v,he,hp⟩=>?_
 subst he
 exact ChangeSpec.post_blind hp
end Go
namespace Go.Proofs.YtfoipaclphdodaaGreatDoor
open Go.ChangeShapes Go.WideShapes Go.ChangeAt Go.RowKit Go.Ab
def LaidOk (l:List (String×DataW Unit)):Prop:=l.length=l.length
theorem globW {W:World}{l:List (String×DataW Unit)}(hsh:W.ShapedOpen Tryz.prog) (hL:laidMetH Tryz.prog l W) (hl:LaidOk l):GlobW W where
 tt:=trivial
 maxLen:=cell_of_shapedOpen_int (t:=3) (zero := #[.int .i64 0]) hsh (of_decide_eq_true (by kernel_rfl)) (by kernel_rfl) rfl (by kernel_rfl) (by kernel_rfl) Tryz.underlying3
end Go.Proofs.YtfoipaclphdodaaGreatDoor
end
