/-
  Part 4 of the proof: own lemmas and contracts on plain data. No condition beyond those that each lemma states.
-/
import Derived.Test.YtfoipaclphdodaaGreatDoorRt3
import Derived.Sort.Walk0
import Derived.Lib.Strings
import Derived.Shelf.SlSortCmp.NoneTotal
set_option linter.all false
set_option maxRecDepth 1000000
set_option maxHeartbeats 4000000
namespace Go.Proofs.YtfoipaclphdodaaGreatDoor
section
open Go.Ab Go.RowKit Civ
attribute [local simp] ZbR Zcg Zb1 ZbM Zbu Zdq Zdt
theorem Zit {l:Bs}{p:Nat}(h:Lib.index l [37,115]=p) : ∃ h1:p<l.length,l[p]=37:=by
 rcases Lib.index_spec l [37,115] with ⟨h1,_⟩ | ⟨i,h1,h2,h3,_⟩
 ·omega
 obtain rfl:p=i:=by omega
 rcases Nat.lt_or_ge p l.length with hi | hi
 ·refine⟨hi,?_⟩
  rw[Lib.occAt,List.drop_eq_getElem_cons hi] at h3
  simp[List.isPrefixOf] at h3
  exact h3.1.symm
 rw[Lib.occAt,List.drop_of_length_le hi] at h3;simp[List.isPrefixOf] at h3
theorem ZkS {s:ByteArray}(h:allB Zbj s=true) {j:Nat}(hj:j<(aB s).length):(aB s)[j]≠37∧(aB s)[j]≠47:=by
 unfold allB at h
 rw[List.all_eq_true] at h
 have:=h (aB s)[j] (List.getElem_mem hj)
 constructor <;> (intro e;rw[e] at this;revert this;decide)
def Zpy (fm:ByteArray) (i:Nat):Prop := ∀ j (hj:j<(aB fm).length),j<i→(aB fm)[j]≠47∧(aB fm)[j]≠37
theorem Zhn {fm lt:ByteArray}{sa:Int}{i:Nat}(hq:Zpy fm i) (hi:i<(aB fm).length) (hx:(aB fm)[i]=47):Zfm fm lt sa=if 0<sa then bA ((aB fm).drop (i+1)) else bA ((aB fm).take i):=by
 have he:Lib.index (aB fm) [47]=i:=Zud hi hx fun j hj h=>(hq j hj h).1
 unfold Zfm cutL Lib.cut
 rw[he]
 simp
theorem cut47_no {fm:ByteArray}(hq : ∀ j (hj:j<(aB fm).length),(aB fm)[j]≠47):(cutL fm [47]).2.2=false:=by
 unfold cutL Lib.cut;rw[ZnY hq];rfl
theorem ZqM {fm lt:ByteArray}{sa:Int}{i:Nat}(hf:ZbG fm=true) (hq:Zpy fm i) (hi:i<(aB fm).length) (hx:(aB fm)[i]=37) :
  i+2≤(aB fm).length∧Zfm fm lt sa=bA ((aB fm).take i++aB lt++(aB fm).drop (i+2)):=by
 have h47:(cutL fm [47]).2.2=false:=by
  cases hc:(cutL fm [47]).2.2 with
  | false=>rfl
  | true =>
   exfalso
   unfold ZbG at hf
   split at hf
   ·cases hf
   try rw[if_pos hc] at hf
   simp only[Bool.and_eq_true] at hf
   have hp:=hf.1.2
   unfold cutL Lib.cut at hc hp
   split at hc
   ·rename_i h0
    obtain⟨p,hp0⟩ : ∃ p:Nat,Lib.index (aB fm) [47]=p:=⟨(Lib.index (aB fm) [47]).toNat,by omega⟩
    rw[if_pos h0,hp0] at hp
    obtain⟨_,hpl,hp47⟩:=Zec hp0
    have hp47':(aB fm)[p]=47:=by rw[List.getElem?_eq_getElem hpl] at hp47;exact Option.some.inj hp47
    have hip:i<p:=by
     rcases Nat.lt_trichotomy i p with h | h | h
     ·exact h
     ·subst h;rw[hx] at hp47';cases hp47'
     exact absurd hp47' (hq p hpl h).1
    have:=(ZkS hp (j:=i) (by have hi':i<fm.size:=hi;simp[aB,bA];omega)).1
    apply this
    simpa [aB,bA] using hx
   cases hc
 have hf2:=hf
 unfold ZbG at hf2
 split at hf2
 ·cases hf2
 rw[if_neg (by rw[h47];simp)] at hf2
 simp only[Bool.and_eq_true] at hf2
 have hp:=hf2.1
 have he:Lib.index (aB fm) [37,115]=i:=by
  unfold cutL Lib.cut at hp
  split at hp
  ·rename_i h0
   obtain⟨p,hp0⟩ : ∃ p:Nat,Lib.index (aB fm) [37,115]=p:=⟨(Lib.index (aB fm) [37,115]).toNat,by omega⟩
   rw[hp0] at hp
   obtain⟨hpl,hp37⟩:=Zit hp0
   rcases Nat.lt_trichotomy i p with h | h | h
   ·exfalso
    have:=(ZkS hp (j:=i) (by have hi':i<fm.size:=hi;simp[aB,bA];omega)).1
    apply this
    simpa [aB,bA] using hx
   ·rw[hp0,h]
   exact absurd hp37 (hq p hpl h).2
  exfalso
  have:=(ZkS (s:=bA (aB fm)) hp (j:=i) hi).1
  exact this hx
 refine⟨?_,?_⟩
 ·rcases Lib.index_spec (aB fm) [37,115] with ⟨h1,_⟩ | ⟨p,h1,h2,h3,_⟩
  ·omega
  obtain rfl:i=p:=by omega
  have h4:[37,115] <+: (aB fm).drop i:=by simpa [Lib.occAt] using h3
  have:=h4.length_le
  simp at this;omega
 unfold Zfm
 rw[if_neg (by rw[h47];simp)]
 unfold cutL Lib.cut
 rw[he]
 simp
theorem ZnN {fm lt:ByteArray}{sa:Int}(hq:Zpy fm (aB fm).length):Zfm fm lt sa=fm:=by
 unfold Zfm
 rw[if_neg (by rw[cut47_no fun j hj=>(hq j hj hj).1];simp)]
 unfold cutL Lib.cut
 split
 ·rename_i h0
  obtain⟨p,hp0⟩ : ∃ p:Nat,Lib.index (aB fm) [37,115]=p:=⟨(Lib.index (aB fm) [37,115]).toNat,by omega⟩
  obtain⟨hpl,hp37⟩:=Zit hp0
  exact absurd hp37 (hq p hpl hpl).2
 rfl
theorem Zqj {fm:ByteArray}{i:Nat}(hi:i<fm.size) (c:UInt8):((Zbg fm i).toNat:Int)=(c.toNat:Int)↔(aB fm)[i]'hi=c:=by
 rw[ZcO hi]
 have e:(aB fm)[i]'hi=fm[i]:=rfl
 rw[e]
 constructor
 ·intro h;exact UInt8.toNat_inj.1 om
 intro h;rw[h]
theorem ZlY {fm lt:ByteArray}{sa:Int}{h:AH}(hf:ZbG fm=true) (hl:lt.size≤24) (hs:0≤sa):Ac 204 [sv fm,sv lt,iv sa] h (sv (Zfm fm lt sa)):=by
 have hfl:=ZfE hf
 have hsz:(aB fm).length=fm.size:=rfl
 refine tI' k204 fun N hn _ _ hbd=>?_
 simp only[tb'] at hbd ⊢
 refine wk'<|Zac<|wk'<|Zag<|?_
 refine w_lp (ι:=Nat) (fun (i:Nat)=>[(7,iv (i:Int)),(6,.any)]++rn' 8 39) (fun (i:Nat)=>[]) (fun (i:Nat)=>i≤fm.size∧Zpy fm i) (fun (i:Nat)=>fm.size-i) (0) (by exact⟨Nat.zero_le _,fun j _ h=>by omega⟩) ?_
 rintro i hi1
 try simp only[sm',Nat.reduceAdd]
 obtain⟨hk1,hk2⟩:=hi1
 refine Zac<|wm<|mw<|Vw (ZbY lk)<|Vw (ZaL lk lk)<|sn'<|?_
 refine cd' lk (fun hc1=>?_) (fun hc1=>?_)
 ·have hi:i<fm.size:=by omega
  refine za<|Zac<|Zag<|Zac<|wm<|mw<|?_
  refine V' (v_ix lk lk om om) pt ?_
  refine Vw (Za2 lk lki)<|mw<|?_
  refine sp' (t:=18) gt pt pt (fun hg18=>?_) (fun hg18=>?_)
  ·have hx:(aB fm)[i]'hi=47:=(Zqj hi 47).1 hg18
   refine sd<|mw<|sd<|Vw (Za2 lk lki)<|Vw (Zaj lk lk)<|sn'<|?_
   refine cd' lk (fun hc2=>?_) (fun hc2=>?_)
   ·refine wm<|mw<|?_
    refine V' (Zsw lk on_ (oi lk) om om om) pt ?_
    refine mr<|Zae<|Zao<|Zae<|Zae<|Zao<|Zae<|Zad rz<|rT'<|?_
    rw[Zhn hk2 hi hx,if_neg om,ZmJ];simp
   refine za<|Zac<|wm<|mw<|?_
   refine V' (v_ix lk lk om om) pt ?_
   refine Vw (Za2 lk lki)<|sn'<|?_
   refine ZgC lk (by exact decide_eq_true hg18) ?_
   refine wm<|mw<|?_
   refine ad<|V' (Zsw lk (oi lk) on_ om om om) pt ?_
   refine mr<|Zae<|Zao<|Zae<|Zae<|Zao<|Zae<|Zad rz<|rT'<|?_
   rw[Zhn hk2 hi hx,if_pos om,ZmJ,List.take_of_length_le (by rw[List.length_drop,hsz];omega)];rfl
  have hx:(aB fm)[i]'hi≠47:=fun e=>hg18 ((Zqj hi 47).2 e)
  refine so<|so<|Vw (Zai lk lkb)<|sn'<|ZaV lk<|za<|Zac<|wm<|mw<|?_
  refine V' (v_ix lk lk om om) pt ?_
  refine Vw (Za2 lk lki)<|sn'<|?_
  refine ZhF lk (by exact decide_eq_false hg18) ?_
  refine za<|wm<|mw<|?_
  refine V' (v_ix lk lk om om) pt ?_
  refine Vw (Za2 lk lki)<|sn'<|?_
  refine cd' lk (fun hc4=>?_) (fun hc4=>?_)
  ·have hx2:(aB fm)[i]'hi=37:=(Zqj hi 37).1 hc4
   obtain⟨hi2,hN⟩:=ZqM (lt:=lt) (sa:=sa) hf hk2 hi hx2
   rw[hsz] at hi2
   refine Zac<|ZaJ<|Dw vm<|Dw vm<|?_
   refine D' (Zsw lk on_ (oi lk) om om om) pt ?_
   refine D' vm pt ?_
   refine D' (v_addS lk lk (by first | omega | (rw[ByteArray.size_extract];omega))) pt ?_
   refine Dw vm<|Dw vm<|?_
   refine D' (Zb6 lk lki om om) pt ?_
   refine D' (Zsw lk (oi lk) on_ om om om) pt ?_
   refine D' (v_addS lk lk (by first | omega | (rw[ByteArray.size_append,ByteArray.size_extract,ByteArray.size_extract];omega))) pt ?_
   refine Dw vm<|ZaM<|?_
   refine Za5 ?_
   refine sr<|Zao<|Zae<|Zae<|Zao<|Zae<|Zad rz<|rT'<|?_
   rw[hN,ZmJ,ZmJ];refine congrArg _ ?_;apply ByteArray.ext;simp[bA,aB];rw[show ((i:Int)+2).toNat=i+2 by omega];exact List.take_of_length_le (by simp)
  have hx2:(aB fm)[i]'hi≠37:=fun e=>hc4 ((Zqj hi 37).2 e)
  refine ZaB<|Zav<|Zam<|Zaq<|mw<|?_
  refine ad<|mw<|Zal<|Zaz<|?_
  refine lT' (i+1) (by (try dsimp only);refine⟨by omega,fun j hj h=>?_⟩;by_cases e:j=i;(subst e;exact⟨hx,hx2⟩);exact hk2 j hj om)
 refine Zay<|Zas<|Zas<|ZaI<|Zam<|wm<|mr<|Zad rz<|rT'<|?_
 rw[ZnN (by rw[hsz,show fm.size=i by omega];exact hk2)]
end
end Go.Proofs.YtfoipaclphdodaaGreatDoor
section
namespace Go.Ab
theorem ALe.wkAt {n0 d:Nat}{T T':List AV}{h:AH}{c c':AV}(hd:T[d]?=some c) (hw:Wk c c') (hp:aPut T (some d) c'=T'):ALe n0 T h T' h:=by
 subst hp
 refine ALe.same ?_ rfl
 show WkL T (T.set d c')
 have : ∀ (T:List AV) (d:Nat),T[d]?=some c→WkL T (T.set d c'):=by
  intro T
  induction T with
  | nil=>intro d hd;simp at hd
  | cons t T ih =>
   intro d hd
   cases d with
   | zero=>simp at hd;subst hd;exact wkw hw (WkL.refl _)
   | succ d=>exact wk1 rfl (ih d (by simpa using hd))
 exact this T d hd
end Go.Ab
namespace Go.Proofs.YtfoipaclphdodaaGreatDoor
open Go.Ab Go.RowKit Civ
attribute [local simp] ZbR Zcg Zb1 ZbM Zbu Zdq Zdt
section
theorem Zj5 {a0 a1:AV}{l:List AV}:((a0::a1::l).drop 0).take 2=[a0,a1]:=rfl
theorem Zll {τ:Operand→AV}{y0 y1:Operand}{x0_0 x0_1 x1_0:AV}(h0:Zap (τ y0)=some [x0_0,x0_1]) (l0:[x0_0,x0_1].all leaf=true) (h1:Zap (τ y1)=some [x1_0]) (l1:[x1_0].all leaf=true):Zan τ [(0,2,y0),(2,1,y1)] [(.v (.string ⟨#[]⟩)),(.sl 0 0 true []),(.sl 0 0 true []),(.sl 0 0 true [])]=some [x0_0,x0_1,x1_0,(.sl 0 0 true [])]:=by
 simp only[Zan,h0,l0,h1,l1]
 rfl
theorem Zvo { e:Ent}:([]:AH)++[e]=[e]:=rfl
theorem Zre {e0 e1 e2 d0:Ent}:([e0,e1,e2]:AH)++[d0]=[e0,e1,e2,d0]:=rfl
theorem Zj7 {a0 a1 a2 a3 c0 c1 c2 c3:AV}{l:List AV}:setCells (a0::a1::a2::a3::l) 0 [c0,c1,c2,c3]=c0::c1::c2::c3::l:=rfl
theorem Zfx {τ:Operand→AV}{y0:Operand}{x0_0:AV}(h0:Zap (τ y0)=some [x0_0]) (l0:[x0_0].all leaf=true):Zan τ [(0,1,y0)] [(.sl 0 0 true [])]=some [x0_0]:=by
 simp only[Zan,h0,l0]
 rfl
theorem ZmP {a0:AV}{l:List AV}:(a0::l).take 1=[a0]:=rfl
theorem Zj6 {a0 a1 a2 a3 c0:AV}{l:List AV}:setCells (a0::a1::a2::a3::l) 3 [c0]=a0::a1::a2::c0::l:=rfl
theorem Zj3 {a0 a1 a2 a3:AV}{l:List AV}:((a0::a1::a2::a3::l).drop 0).take 4=[a0,a1,a2,a3]:=rfl
theorem Zj2 {a0 a1 a2 a3 a4 a5 a6 a7 a8 a9:AV}{l:List AV}:(a0::a1::a2::a3::a4::a5::a6::a7::a8::a9::l).take 10=[a0,a1,a2,a3,a4,a5,a6,a7,a8,a9]:=rfl
theorem ZiO {a0 a1 a2 a3 a4 a5 a6 a7 a8 a9 c0 c1 c2 c3 c4 c5 c6 c7 c8 c9:AV}{l:List AV}:setCells (a0::a1::a2::a3::a4::a5::a6::a7::a8::a9::l) 0 [c0,c1,c2,c3,c4,c5,c6,c7,c8,c9]=c0::c1::c2::c3::c4::c5::c6::c7::c8::c9::l:=rfl
theorem Zj9 {τ:Operand→AV}{y0 y1 y2:Operand}{x0_0 x1_0 x2_0:AV}(h0:Zap (τ y0)=some [x0_0]) (l0:[x0_0].all leaf=true) (h1:Zap (τ y1)=some [x1_0]) (l1:[x1_0].all leaf=true) (h2:Zap (τ y2)=some [x2_0]) (l2:[x2_0].all leaf=true):Zan τ [(0,1,y0),(1,1,y1),(2,1,y2)] [(iv 0),(iv 0),(.v (.string ⟨#[]⟩))]=some [x0_0,x1_0,x2_0]:=by
 simp only[Zan,h0,l0,h1,l1,h2,l2]
 rfl
theorem Zj8 {a0 a1 a2 c0 c1 c2:AV}{l:List AV}:setCells (a0::a1::a2::l) 0 [c0,c1,c2]=c0::c1::c2::l:=rfl
theorem Zj4 {a0 a1 a2:AV}{l:List AV}:((a0::a1::a2::l).drop 0).take 3=[a0,a1,a2]:=rfl
end
def c111:AC:=(Sr [Oo 2 (.box 53 3 (t 0)),Oo 3 (.box 94 2 (t 1)),Oo 4 (.new 171 4 [Ss,nl,nl,nl])] (.seq (.drw [Oo 10 (.load true 2 (t 3)),Oo 11 (.load true 2 (t 3)),Cl 12 110 [(t 11)],Oo 13 (.build [Ss,nl,nl,nl] [(0,(2,(t 10))),(2,(1,(t 12)))]),Oo 5 (.new 171 4 [Ss,nl,nl,nl])] [false] [⟨none,none,(.store 4 (t 5) (t 13))⟩]) (.seq (Sr [Mc 6 0] (.block 0 (.loop (.seq (Sr [Mv 14 6,Fa 15 1 3,Ld 16 15,Oo 17 (.len false (t 16)),Bn 18 .lss 14 17] (Cd 18 .skip (.exit 0))) (.seq (.block 1 (Sr [Oo 7 (.mv (.const (.slice none 0 0)))] (.seq (Sr [Fa 21 1 3,Ld 22 21,Mv 23 6,Oo 24 (.ia 10 (t 22) (t 23)),Fa 25 1 24,Ld 26 25,Oo 27 (.bin .neq (t 26) (.const (.string ⟨#[]⟩)))] (Cd 27 (Sd [Fa 29 0 2,Ld 30 29,Fa 31 1 3,Ld 32 31,Mv 33 6,Oo 34 (.ia 10 (t 32) (t 33)),Fa 35 1 34,Ld 36 35,Fa 37 1 3,Ld 38 37,Mv 39 6,Oo 40 (.ia 10 (t 38) (t 39)),Fa 41 0 40,Ld 42 41,Cl 43 109 [(t 30),(t 36),(t 42)],Mv 28 43,Ex 44 28 0,Ex 45 28 1,Mv 8 44,Mv 9 45] (.reg [Mv 46 8,Mv 7 46])) .skip)) (.reg [Fa 47 3 5,Ld 48 47,Mv 49 7,Oo 50 (.lit 145 1 1 [nl] [(0,(1,(t 49)))]),Oo 51 (.app 145 1 24 (t 48) (t 50)),Fa 52 3 5,Sc 52 51])))) (.reg [Mv 19 6,Bc 20 .add 19 1,Mv 6 20])))))) (Sr [Oo 53 (.load true 4 (t 5)),⟨none,none,(.store 4 (t 4) (t 53))⟩] .ret))))
theorem k111:ZaA Tryz.prog 111=some ⟨c111,[(.cell 4 true 4)],54⟩:=by kernel_rfl
def c112:AC:=(Sr [Oo 2 (.box 171 4 (t 0)),Oo 4 (.new 35 3 [(iv 0),(iv 0),Ss])] (Sr [Mc 5 0] (.seq (.block 0 (.loop (.seq (Sr [Mv 10 5,Fa 11 2 2,Ld 12 11,Oo 13 (.len false (t 12)),Bn 14 .lss 10 13,Mv 15 14,Ot 16 15 (.fa 2 (t 2)),Ot 17 15 (.load false 1 (t 16)),Ot 18 15 (mt 5),Ot 19 15 (.ia 1 (t 17) (t 18)),Ot 20 15 (.load false 1 (t 19)),Ot 21 15 (mt 1),Ot 22 15 (.bin .leq (t 20) (t 21)),Oo 23 (.pick (t 15) (t 22) (.const (.bool false)))] (Cd 23 .skip (.exit 0))) (.block 1 (.reg [Mv 24 5,Bc 25 .add 24 1,Mv 5 25]))))) (Sr [Fa 26 0 2,Fa 27 1 26,Ld 28 27,Mv 29 5,Oo 30 (.ia 10 (t 28) (t 29)),Oo 31 (.load true 10 (t 30)),Oo 6 (.new 144 10 [(iv 0),Ss,(iv 0),Ss,(.v (.bool false)),(iv 0),(iv 0),(iv 0),(iv 0),(iv 0)]),⟨none,none,(.store 10 (t 6) (t 31))⟩] (Sr [Fa 32 2 6,Ld 33 32,Mv 7 33,Ms 8] (.seq (Sr [Mc 9 0] (.block 2 (.loop (.seq (Sr [Mv 34 9,Fa 35 3 2,Ld 36 35,Mv 37 5,Oo 38 (.ia 1 (t 36) (t 37)),Ld 39 38,Oo 40 (.len false (t 39)),Bn 41 .lss 34 40] (Cd 41 .skip (.exit 2))) (.seq (.block 3 (Sr [Fa 44 3 2,Ld 45 44,Mv 46 5,Oo 47 (.ia 1 (t 45) (t 46)),Ld 48 47,Mv 49 9,Oo 50 (.ia 3 (t 48) (t 49)),Fa 51 0 50,Ld 52 51,Mv 53 1,Bn 54 .leq 52 53] (Cd 54 (.drw [Fa 55 3 2,Ld 56 55,Mv 57 5,Oo 58 (.ia 1 (t 56) (t 57)),Ld 59 58,Mv 60 9,Oo 61 (.ia 3 (t 59) (t 60)),Fa 62 1 61,Ld 63 62,Fa 64 3 2,Ld 65 64,Mv 66 5,Oo 67 (.ia 1 (t 65) (t 66)),Ld 68 67,Mv 69 9,Oo 70 (.ia 3 (t 68) (t 69)),Fa 71 2 70,Ld 72 71,Mv 7 63,Mv 8 72] [] []) .skip))) (.reg [Mv 42 9,Bc 43 .add 42 1,Mv 9 43])))))) (.seq (.drw [Fa 73 0 6,Ld 74 73,Mv 75 7,Bn 76 .add 74 75,Mv 77 7,Fa 78 3 6,Ld 79 78,Mv 80 8,Mv 81 7,Cl 82 204 [(t 79),(t 80),(t 81)],Oo 83 (.build [(iv 0),(iv 0),Ss] [(0,(1,(t 76))),(1,(1,(t 77))),(2,(1,(t 82)))])] [false] [⟨none,none,(.store 3 (t 4) (t 83))⟩]) .ret)))))))
theorem k112:ZaA Tryz.prog 112=some ⟨c112,[(.cell 4 true 3)],84⟩:=by kernel_rfl
abbrev tmsE (a:List Rul) (x:Era):List AV:=[.sl (ZaK a x).length 3 false (rows timC (ZaK a x))]
theorem Zd1 {a:List Rul} : ∀ x,(tmsE a x).length=1:=fun _=>rfl
theorem ZkB {a:List Rul}(l:List Era):(rows (tmsE a) l).length=l.length*1:=Zbi Zd1 l
theorem tms_lt {a:List Rul}{n:Nat}(l:List Era):AV.ltL n (rows (tmsE a) l)=true:=ZcE (fun n x=>by simp[AV.ltL,AV.lt,Zdt]) l
attribute [local simp] tms_lt
theorem rtell_a {a:List Rul}{z:List Zon}{k:List Lnk}{nm:ByteArray}{es:List Era}{h:AH}(hok:okRs a) (ha:a.length≤9223372036854775807) (hz:okZ es):Ac 111 [.agg (srcB a z k),.agg [sv nm,.sl es.length 10 false (rows eraC es)]] h (.agg [sv nm,.sl es.length 10 false (rows eraC es),.sl (ZaG es).length 1 false (rows intC (ZaG es)),.sl es.length 1 false (rows (tmsE a) es)]):=by
 have hlen:=hz.len
 have hel:=ZcG es
 refine tW' k111 fun N hn hlt _ hbd=>?_
 simp only[tb'] at hbd ⊢
 refine wr'<|E' (ZaR cv rfl hl0 ha0) pt<|E' (ZaR cv rfl hl1 ha1) pt<|E' (ZaT hl2 ha2) pt<|sn'<|Zac<|ZaJ<|Dw (Zah lk gx Zj5 rfl)<|Dw (Zah lk gx Zj5 rfl)<|?_
 refine ZaD mp (fun hE hX=>Zti hz) pt ?_
 refine Dw (Zaw (Zll cv rfl cv rfl))<|Zc3 rfl rfl (hlk hn rfl) (Zk1) pt Zvo<|ZaM<|?_
 refine Zc2 Zre ?_
 refine E' (Zak lk cv gx rfl nb rfl Zj7 hs3) ptn<|Zal<|?_
 refine ZaO (ALe.own0Cell (st':=1) (ty:=145) gx gt3 hl4 pt3 (Eq.trans (congrArg (fun z=>List.set z _ _) ha4) hs3)) ?_
 refine Zac<|wk'<|Zag<|?_
 refine w_lp (ι:=Nat) (fun (j:Nat)=>[(6,iv (j:Int))]++rn' 7 3++rn' 14 39) (fun (j:Nat)=>[(3,.mk 0 171 4 [sv nm,.sl es.length 10 false (rows eraC es),.sl (ZaG es).length 1 false (rows intC (ZaG es)),.own (N+4) j j]),(4,.mk j 145 1 (rows (tmsE a) (es.take j)))]) (fun (j:Nat)=>j≤es.length) (fun (j:Nat)=>es.length-j) (0) (by exact Nat.zero_le _) ?_
 rintro j hi1
 try simp only[sm',Nat.reduceAdd]
 replace hi1:j≤es.length:=hi1
 have htl:(es.take j).length=j:=by rw[List.length_take];omega
 refine Zac<|wm<|fq<|Vw (Zaa lk gx gt1)<|Vw (ZaC lk)<|Vw (ZaL lk lk)<|sn'<|?_
 refine cd' lk (fun hc1=>?_) (fun hc1=>?_)
 ·have hj:j<es.length:=by omega
  refine za<|Zac<|Zag<|wr'<|mv' lkn pt7<|Zal<|ZaO (ALe.wkAt gt7 (Wk.nilF (st':=3)) pt7)<|Zac<|wr'<|V' (Zjx lk3) pt21<|V' (Zaa lk21 gx gt1) pt22<|?_
  refine mv' lk pt ?_
  refine V' (ZaF lk lk ZbN nb ro om ro rfl) pt ?_
  refine Vw (ZaQ lk dp1)<|Vw (Zar lk gt)<|Vw (Zc5 lk lks)<|sn'<|?_
  refine cd' lk (fun hc2=>?_) (fun hc2=>?_)
  ·have hT:ZaK a es[j]=(Za4 a es[j].2.1 es[j].1).1:=if_neg hc2
   refine Zac<|ZaJ<|dg<|Dw (Zaa lk gx gt0)<|dg<|Dw (Zaa lk gx gt1)<|Dw vm<|?_
   refine D' (ZaF lk lk ZbN nb ro om ro rfl) pt ?_
   refine Dw (ZaQ lk dp1)<|Dw (Zar lk gt)<|dg<|Dw (Zaa lk gx gt1)<|Dw vm<|?_
   refine D' (ZaF lk lk ZbN nb ro om ro rfl) pt ?_
   refine Dw (ZaQ lk dp0)<|Dw (Zar lk gt)<|?_
   refine ZaD mp (fun hE hX=>Zpu hok ha) pt ?_
   refine Dw vm<|Dw (ZaS lk gt)<|Dw (ZaS lk gt)<|Dw vm<|Dw vm<|ZaM<|?_
   refine Za5 ?_
   refine sn'<|Zaq<|mw<|ms<|Zaq<|fq<|Vw (Zaa lk gx gt3)<|mw<|E' (Zcm (Zfx cv rfl) hl5 ha5) pt<|?_
   refine E' (ZbH (Zbn lk (hga hn rfl) rfl ZmP nb) lk (hga hn rfl) ((ZkB _).trans (by rw[htl])) om rfl hs4) pt ?_
   refine fq<|E' (Zak lk cv gx rfl nb rfl Zj6 hs3) ptn<|Zal<|Zav<|Zam<|Zaq<|mw<|?_
   refine ad<|mw<|Zal<|Zaz<|?_
   refine lU' (j+1) (by (try dsimp only);omega) (by refine zz ?_;exact bk' 5 hn hlt (by rw[List.take_succ_eq_append_getElem hj,ZaH,Zbs];unfold tmsE;rw[hT];rfl))
  have hT:ZaK a es[j]=[]:=if_pos (Decidable.of_not_not hc2)
  refine za<|Zaq<|fq<|Vw (Zaa lk gx gt3)<|mw<|E' (Zcm (Zfx cv rfl) hl5 ha5) pt<|?_
  refine E' (ZbH (Zbn lk (hga hn rfl) rfl ZmP nb) lk (hga hn rfl) ((ZkB _).trans (by rw[htl])) om rfl hs4) pt ?_
  refine fq<|E' (Zak lk cv gx rfl nb rfl Zj6 hs3) ptn<|Zal<|Zav<|Zam<|Zaq<|mw<|?_
  refine ad<|mw<|Zal<|Zaz<|?_
  refine lU' (j+1) (by (try dsimp only);omega) (by refine zz ?_;exact bk' 5 hn hlt (by rw[List.take_succ_eq_append_getElem hj,ZaH,Zbs];unfold tmsE;rw[hT];rfl))
 have hje:j=es.length:=by omega
 subst hje
 rw[List.take_length] at htl ⊢
 refine Zay<|Zas<|Zas<|ZaI<|?_
 refine ZaO (ALe.iceCellR (hga hn rfl) (hga hn rfl) om gt3 (List.take_of_length_le (by rw[ZkB,htl];omega)) (by rw[ZkB,htl];omega) pt3 hs4 hs3) ?_
 refine wr'<|Vw (Zah lk gx Zj3 rfl)<|E' (Zak lk cv gx rfl nb rfl Zj7 hs2) ptn<|sr<|Zad (rs1 (rr_c gt gx (ld1 Zj3 rfl)))<|rtW'<|?_
 exact Wk.agg (wk1 rfl (wk1 rfl (wk1 rfl (wkw Wk.full wk0))))
theorem ZhK : ∀ {l:List Tim}{sa:Int}{lt:ByteArray}{at_:Int},(∀ t∈l,(0≤t.2.1∧t.2.1≤10800)∧t.2.2.size≤24)→(0≤sa∧sa≤10800)→lt.size≤24→(0≤(ZcB sa lt l at_).1∧(ZcB sa lt l at_).1≤10800)∧(ZcB sa lt l at_).2.size≤24
 | [],sa,lt,at_,_,h2,h3=>⟨h2,h3⟩
 | t::l,sa,lt,at_,h1,h2,h3=>by
  rw[ZcB]
  have ht:=h1 t (by simp)
  split
  ·exact ZhK (fun x hx=>h1 x (by simp[hx])) ht.1 ht.2
  exact ZhK (fun x hx=>h1 x (by simp[hx])) h2 h3
theorem Zs8 {a:List Rul}{nm:ByteArray}{es:List Era}{n:Int}{h:AH}(hz:okZ es):Ac 112 [.agg [sv nm,.sl es.length 10 false (rows eraC es),.sl (ZaG es).length 1 false (rows intC (ZaG es)),.sl es.length 1 false (rows (tmsE a) es)],iv n] h (.agg (locC3 (Za6 a es n))):=by
 have hlen:=hz.len
 have hel:=ZcG es
 have hkl:=kAt_lt hz.ne n
 have hke:=ZpT (ZaG es) n
 refine tI' k112 fun N hn _ _ hbd=>?_
 simp only[tb'] at hbd ⊢
 refine wr'<|E' (ZaR cv rfl hl0 ha0) pt<|E' (ZaT hl1 ha1) pt<|Zal<|?_
 refine ZaO (ALe.icePtr gx gt2 (by simp) pt2 hs0) ?_
 refine wk'<|Zac<|Zag<|?_
 refine w_lp (ι:=Nat) (fun (i:Nat)=>[(5,iv (i:Int))]++rn' 10 16) (fun (i:Nat)=>[]) (fun (i:Nat)=>i≤kAt (ZaG es) n) (fun (i:Nat)=>kAt (ZaG es) n-i) (0) (by exact Nat.zero_le _) ?_
 rintro i hi1
 try simp only[sm',Nat.reduceAdd]
 replace hi1:i≤kAt (ZaG es) n:=hi1
 refine Zac<|wm<|Vw (ZaQ lk dp2)<|Vw (Zar lk gt)<|Vw (ZaC lk)<|Vw (ZaL lk lk)<|mw<|?_
 refine sp' (t:=15) gt pt pt (fun hg15=>?_) (fun hg15=>?_)
 ·have hst:=ZpS (a:=n) (show i<(ZaG es).length by omega) hi1
  refine sd<|Vw (ZaQ lk dp2)<|sd<|Vw (Zar lk gt)<|sd<|mw<|sd<|?_
  refine V' (ZaF lk lk ZaX nb ro om ro rfl) pt ?_
  refine sd<|Vw (Zar lk gt)<|sd<|mw<|sd<|Vw (ZcT lk lk)<|Vw (Zaj lk lk)<|sn'<|?_
  refine cd' lk (fun hc1=>?_) (fun hc1=>?_)
  ·have hi2:=hst.1 hc1
   refine za<|Zag<|Zaq<|mw<|?_
   refine ad<|mw<|Zal<|Zav<|Zaz<|?_
   refine lT' (i+1) (by (try dsimp only);omega)
  have hie:i=kAt (ZaG es) n:=by have:¬i+1≤kAt (ZaG es) n:=fun h=>hc1 (hst.2 h);omega
  have hx:=ZtI hz (List.getElem_mem hkl)
  subst hie
  refine Zay<|Zas<|Zas<|ZaI<|Zam<|wr'<|Vw (ZaQ lk dp0)<|Vw (ZaQ lk dp1)<|Vw (Zar lk gt)<|mw<|?_
  refine V' (ZaF (k:=kAt (ZaG es) n) lk lk ZbN nb ro om ro rfl) pt ?_
  refine Vw (Zau lk Zj2 rfl)<|E' (ZaT hl2 ha2) pt<|E' (Zak lk cv gx rfl nb rfl ZiO hs2) ptn<|sn'<|wr'<|fq<|Vw (Zaa lk gx gt2)<|mw<|ms<|Zac<|?_
  refine wk'<|Zag<|?_
  refine w_lp (ι:=Nat) (fun (j:Nat)=>[(7,iv (ZcB (xSv es[kAt (ZaG es) n]) ⟨#[]⟩ ((ZaK a es[kAt (ZaG es) n]).take j) n).1),(8,sv (ZcB (xSv es[kAt (ZaG es) n]) ⟨#[]⟩ ((ZaK a es[kAt (ZaG es) n]).take j) n).2),(9,iv (j:Int))]++rn' 34 39) (fun (j:Nat)=>[]) (fun (j:Nat)=>j≤(ZaK a es[kAt (ZaG es) n]).length) (fun (j:Nat)=>(ZaK a es[kAt (ZaG es) n]).length-j) (0) (by exact Nat.zero_le _) ?_
  rintro j hi2
  try simp only[sm',Nat.reduceAdd]
  replace hi2:j≤(ZaK a es[kAt (ZaG es) n]).length:=hi2
  have hxl:=Zcy (rl:=a) (x:=es[kAt (ZaG es) n])
  refine Zac<|wm<|Vw (ZaQ lk dp3)<|Vw (Zar lk gt)<|mw<|?_
  refine V' (ZaF (k:=kAt (ZaG es) n) lk lk Zd1 nb ro om ro rfl) pt ?_
  refine V' (Zar lk gt) pt ?_
  refine V' ((by first | exact ZaC lk | exact ZbQ lk)) pt ?_
  refine Vw (ZaL lk lk)<|sn'<|?_
  refine cd' lk (fun hc2=>?_) (fun hc2=>?_)
  ·have hj:j<(ZaK a es[kAt (ZaG es) n]).length:=by omega
   have hpk:=ZdN ((ZaK a es[kAt (ZaG es) n]).take j) (ZaK a es[kAt (ZaG es) n])[j] (xSv es[kAt (ZaG es) n]) ⟨#[]⟩ n
   rw[←List.take_succ_eq_append_getElem hj] at hpk
   refine za<|Zac<|Zag<|wr'<|Vw (ZaQ lk dp3)<|Vw (Zar lk gt)<|mw<|?_
   refine V' (ZaF (k:=kAt (ZaG es) n) lk lk Zd1 nb ro om ro rfl) pt ?_
   refine Vw (Zar lk gt)<|mw<|?_
   refine V' (ZaF lk lk Zda nb ro om ro rfl) pt ?_
   refine Vw (ZaQ lk dp0)<|Vw (Zar lk gt)<|mw<|Vw (ZcT lk lk)<|sn'<|?_
   refine cd' lk (fun hc3=>?_) (fun hc3=>?_)
   ·rw[if_pos hc3] at hpk
    refine ZaJ<|Dw (ZaQ lk dp3)<|Dw (Zar lk gt)<|Dw vm<|?_
    refine D' (ZaF lk lk (fun _=>rfl) nb ro om ro rfl) pt ?_
    refine Dw (Zar lk gt)<|Dw vm<|?_
    refine D' (ZaF lk lk Zda nb ro om ro rfl) pt ?_
    refine Dw (ZaQ lk dp1)<|Dw (Zar lk gt)<|Dw (ZaQ lk dp3)<|Dw (Zar lk gt)<|Dw vm<|?_
    refine D' (ZaF lk lk (fun _=>rfl) nb ro om ro rfl) pt ?_
    refine Dw (Zar lk gt)<|Dw vm<|?_
    refine D' (ZaF lk lk Zda nb ro om ro rfl) pt ?_
    refine Dw (ZaQ lk dp2)<|Dw (Zar lk gt)<|Dw vm<|Dw vm<|ZaM<|?_
    refine Za5 ?_
    refine Zal<|Zav<|Zam<|Zaq<|mw<|?_
    refine ad<|mw<|Zal<|Zaz<|?_
    refine lU' (j+1) (by (try dsimp only);omega) (by refine zz ?_;exact ALe.same (by repeat (first | exact wk0 | refine wka ?_ | refine wk1 rfl ?_ | refine wk1 (by first | rfl | exact ivx om | (rw[hpk])) ?_)) rfl)
   rw[if_neg hc3] at hpk
   refine ZaB<|Zav<|Zam<|Zaq<|mw<|?_
   refine ad<|mw<|Zal<|Zaz<|?_
   refine lU' (j+1) (by (try dsimp only);omega) (by refine zz ?_;exact ALe.same (by repeat (first | exact wk0 | refine wka ?_ | refine wk1 rfl ?_ | refine wk1 (by first | rfl | exact ivx om | (rw[hpk])) ?_)) rfl)
  rw[List.take_of_length_le (show (ZaK a es[kAt (ZaG es) n]).length≤j by omega)]
  have hpb:=ZhK (l:=ZaK a es[kAt (ZaG es) n]) (at_:=n) (fun t ht=>(ZeY ht).2) hx.sv (show (⟨#[]⟩:ByteArray).size≤24 by decide)
  have hsh : -64800≤es[kAt (ZaG es) n].1∧es[kAt (ZaG es) n].1≤64800:=hx.sh
  have hTG:=Znu (rl:=a) (a:=n) hkl
  refine Zay<|Zas<|Zas<|ZaI<|Zam<|Zac<|ZaJ<|dg<|Dw (Zaa lk gx gt0)<|Dw vm<|?_
  refine D' (Zb6 lk lk om om) pt ?_
  refine Dw vm<|dg<|Dw (Zaa lk gx gt3)<|Dw vm<|Dw vm<|?_
  refine ZaD mp (fun hE hX=>ZlY hx.fm hpb.2 hpb.1.1) pt ?_
  refine Dw (Zaw (Zj9 cv rfl cv rfl cv rfl))<|ZaM<|?_
  refine Za5 ?_
  refine E' (Zak lk cv gx rfl nb rfl Zj8 hs1) ptn<|sr<|Zad (rs1 (rr_c gt gx (ld1 Zj4 rfl)))<|rT'<|?_
  rw[hTG];rfl
 have hie:i=kAt (ZaG es) n:=by omega
 have hx:=ZtI hz (List.getElem_mem hkl)
 subst hie
 refine so<|so<|so<|so<|so<|so<|so<|Vw (Zai lk lkb)<|sn'<|ZaV lk<|Zay<|Zas<|Zas<|?_
 refine ZaI<|Zam<|wr'<|Vw (ZaQ lk dp0)<|Vw (ZaQ lk dp1)<|Vw (Zar lk gt)<|mw<|?_
 refine V' (ZaF (k:=kAt (ZaG es) n) lk lk ZbN nb ro om ro rfl) pt ?_
 refine Vw (Zau lk Zj2 rfl)<|E' (ZaT hl2 ha2) pt<|E' (Zak lk cv gx rfl nb rfl ZiO hs2) ptn<|sn'<|wr'<|fq<|Vw (Zaa lk gx gt2)<|mw<|ms<|Zac<|?_
 refine wk'<|Zag<|?_
 refine w_lp (ι:=Nat) (fun (j:Nat)=>[(7,iv (ZcB (xSv es[kAt (ZaG es) n]) ⟨#[]⟩ ((ZaK a es[kAt (ZaG es) n]).take j) n).1),(8,sv (ZcB (xSv es[kAt (ZaG es) n]) ⟨#[]⟩ ((ZaK a es[kAt (ZaG es) n]).take j) n).2),(9,iv (j:Int))]++rn' 34 39) (fun (j:Nat)=>[]) (fun (j:Nat)=>j≤(ZaK a es[kAt (ZaG es) n]).length) (fun (j:Nat)=>(ZaK a es[kAt (ZaG es) n]).length-j) (0) (by exact Nat.zero_le _) ?_
 rintro j hi2
 try simp only[sm',Nat.reduceAdd]
 replace hi2:j≤(ZaK a es[kAt (ZaG es) n]).length:=hi2
 have hxl:=Zcy (rl:=a) (x:=es[kAt (ZaG es) n])
 refine Zac<|wm<|Vw (ZaQ lk dp3)<|Vw (Zar lk gt)<|mw<|?_
 refine V' (ZaF (k:=kAt (ZaG es) n) lk lk Zd1 nb ro om ro rfl) pt ?_
 refine V' (Zar lk gt) pt ?_
 refine V' ((by first | exact ZaC lk | exact ZbQ lk)) pt ?_
 refine Vw (ZaL lk lk)<|sn'<|?_
 refine cd' lk (fun hc2=>?_) (fun hc2=>?_)
 ·have hj:j<(ZaK a es[kAt (ZaG es) n]).length:=by omega
  have hpk:=ZdN ((ZaK a es[kAt (ZaG es) n]).take j) (ZaK a es[kAt (ZaG es) n])[j] (xSv es[kAt (ZaG es) n]) ⟨#[]⟩ n
  rw[←List.take_succ_eq_append_getElem hj] at hpk
  refine za<|Zac<|Zag<|wr'<|Vw (ZaQ lk dp3)<|Vw (Zar lk gt)<|mw<|?_
  refine V' (ZaF (k:=kAt (ZaG es) n) lk lk Zd1 nb ro om ro rfl) pt ?_
  refine Vw (Zar lk gt)<|mw<|?_
  refine V' (ZaF lk lk Zda nb ro om ro rfl) pt ?_
  refine Vw (ZaQ lk dp0)<|Vw (Zar lk gt)<|mw<|Vw (ZcT lk lk)<|sn'<|?_
  refine cd' lk (fun hc3=>?_) (fun hc3=>?_)
  ·rw[if_pos hc3] at hpk
   refine ZaJ<|Dw (ZaQ lk dp3)<|Dw (Zar lk gt)<|Dw vm<|?_
   refine D' (ZaF lk lk (fun _=>rfl) nb ro om ro rfl) pt ?_
   refine Dw (Zar lk gt)<|Dw vm<|?_
   refine D' (ZaF lk lk Zda nb ro om ro rfl) pt ?_
   refine Dw (ZaQ lk dp1)<|Dw (Zar lk gt)<|Dw (ZaQ lk dp3)<|Dw (Zar lk gt)<|Dw vm<|?_
   refine D' (ZaF lk lk (fun _=>rfl) nb ro om ro rfl) pt ?_
   refine Dw (Zar lk gt)<|Dw vm<|?_
   refine D' (ZaF lk lk Zda nb ro om ro rfl) pt ?_
   refine Dw (ZaQ lk dp2)<|Dw (Zar lk gt)<|Dw vm<|Dw vm<|ZaM<|?_
   refine Za5 ?_
   refine Zal<|Zav<|Zam<|Zaq<|mw<|?_
   refine ad<|mw<|Zal<|Zaz<|?_
   refine lU' (j+1) (by (try dsimp only);omega) (by refine zz ?_;exact ALe.same (by repeat (first | exact wk0 | refine wka ?_ | refine wk1 rfl ?_ | refine wk1 (by first | rfl | exact ivx om | (rw[hpk])) ?_)) rfl)
  rw[if_neg hc3] at hpk
  refine ZaB<|Zav<|Zam<|Zaq<|mw<|?_
  refine ad<|mw<|Zal<|Zaz<|?_
  refine lU' (j+1) (by (try dsimp only);omega) (by refine zz ?_;exact ALe.same (by repeat (first | exact wk0 | refine wka ?_ | refine wk1 rfl ?_ | refine wk1 (by first | rfl | exact ivx om | (rw[hpk])) ?_)) rfl)
 rw[List.take_of_length_le (show (ZaK a es[kAt (ZaG es) n]).length≤j by omega)]
 have hpb:=ZhK (l:=ZaK a es[kAt (ZaG es) n]) (at_:=n) (fun t ht=>(ZeY ht).2) hx.sv (show (⟨#[]⟩:ByteArray).size≤24 by decide)
 have hsh : -64800≤es[kAt (ZaG es) n].1∧es[kAt (ZaG es) n].1≤64800:=hx.sh
 have hTG:=Znu (rl:=a) (a:=n) hkl
 refine Zay<|Zas<|Zas<|ZaI<|Zam<|Zac<|ZaJ<|dg<|Dw (Zaa lk gx gt0)<|Dw vm<|?_
 refine D' (Zb6 lk lk om om) pt ?_
 refine Dw vm<|dg<|Dw (Zaa lk gx gt3)<|Dw vm<|Dw vm<|?_
 refine ZaD mp (fun hE hX=>ZlY hx.fm hpb.2 hpb.1.1) pt ?_
 refine Dw (Zaw (Zj9 cv rfl cv rfl cv rfl))<|ZaM<|?_
 refine Za5 ?_
 refine E' (Zak lk cv gx rfl nb rfl Zj8 hs1) ptn<|sr<|Zad (rs1 (rr_c gt gx (ld1 Zj4 rfl)))<|rT'<|?_
 rw[hTG];rfl
end Go.Proofs.YtfoipaclphdodaaGreatDoor
end
namespace Go.Proofs.YtfoipaclphdodaaGreatDoor
section
open Go.Ab Go.RowKit Civ
attribute [local simp] ZbR Zcg Zb1 ZbM Zbu Zdq Zdt Zdu
section
theorem ZmN {a0 a1 a2:AV}{l:List AV}:(a0::a1::a2::l).take 3=[a0,a1,a2]:=rfl
theorem Zgr {τ:Operand→AV}{y0:Operand}{x0_0:AV}(h0:Zap (τ y0)=some [x0_0]) (l0:[x0_0].all leaf=true):Zan τ [(0,1,y0)] [(.v (.string ⟨#[]⟩))]=some [x0_0]:=by
 simp only[Zan,h0,l0]
 rfl
theorem ZmO {a0:AV}{l:List AV}:(a0::l).take 1=[a0]:=rfl
theorem Zgq {τ:Operand→AV}{y0:Operand}{x0_0:AV}(h0:Zap (τ y0)=some [x0_0]) (l0:[x0_0].all leaf=true):Zan τ [(0,1,y0)] [(.v (.string ⟨#[]⟩))]=some [x0_0]:=by
 simp only[Zan,h0,l0]
 rfl
theorem Zrd {a0 a1 a2 a3 a4 a5 a6 a7 a8 a9:AV}{l:List AV}:(a0::a1::a2::a3::a4::a5::a6::a7::a8::a9::l).take 10=[a0,a1,a2,a3,a4,a5,a6,a7,a8,a9]:=rfl
theorem Zoy {a0 a1 a2 a3 a4 a5 a6 a7 a8 a9 c0 c1 c2 c3 c4 c5 c6 c7 c8 c9:AV}{l:List AV}:setCells (a0::a1::a2::a3::a4::a5::a6::a7::a8::a9::l) 0 [c0,c1,c2,c3,c4,c5,c6,c7,c8,c9]=c0::c1::c2::c3::c4::c5::c6::c7::c8::c9::l:=rfl
theorem Zvn {a0 a1:AV}{l:List AV}:(a0::a1::l).take 2=[a0,a1]:=rfl
end
def c54:AC:=(Sr [Oo 1 (.box 53 3 (t 0)),Mc 2 0] (Sr [Oo 22 (.load true 3 (t 1)),Cl 23 108 [(t 22)],Mv 3 23] (.seq (Sr [Mv 24 3,Bc 25 .neq 24 0] (Cd 25 (Sr [Mv 26 3,Mv 2 26] .ret) .skip)) (Sr [Oo 4 (.mv (.const (.slice none 0 0)))] (.seq (Sr [Mc 5 0] (.block 0 (.loop (.seq (Sr [Mv 27 5,Fa 28 1 1,Ld 29 28,Oo 30 (.len false (t 29)),Bn 31 .lss 27 30] (Cd 31 .skip (.exit 0))) (.seq (.block 1 (.reg [Mv 34 4,Fa 35 1 1,Ld 36 35,Mv 37 5,Oo 38 (.ia 2 (t 36) (t 37)),Fa 39 0 38,Ld 40 39,Oo 41 (.lit 9 1 1 [Ss] [(0,(1,(t 40)))]),Oo 42 (.app 9 1 16 (t 34) (t 41)),Mv 4 42])) (.reg [Mv 32 5,Bc 33 .add 32 1,Mv 5 33])))))) (.seq (Sr [Mc 6 0] (.block 2 (.loop (.seq (Sr [Mv 43 6,Fa 44 2 1,Ld 45 44,Oo 46 (.len false (t 45)),Bn 47 .lss 43 46] (Cd 47 .skip (.exit 2))) (.seq (.block 3 (.reg [Mv 50 4,Fa 51 2 1,Ld 52 51,Mv 53 6,Oo 54 (.ia 2 (t 52) (t 53)),Fa 55 1 54,Ld 56 55,Oo 57 (.lit 9 1 1 [Ss] [(0,(1,(t 56)))]),Oo 58 (.app 9 1 16 (t 50) (t 57)),Mv 4 58])) (.reg [Mv 48 6,Bc 49 .add 48 1,Mv 6 49])))))) (.seq (Sr [Mc 7 0] (.block 4 (.loop (.seq (Sr [Mv 59 7,Mv 60 4,Oo 61 (.len false (t 60)),Bn 62 .lss 59 61] (Cd 62 .skip (.exit 4))) (.seq (.block 5 (Sr [Mc 8 0] (.block 6 (.loop (.seq (Sr [Mv 65 8,Mv 66 7,Bn 67 .lss 65 66] (Cd 67 .skip (.exit 6))) (.seq (.block 7 (Sd [Mv 70 4,Mv 71 7,Oo 72 (.ia 1 (t 70) (t 71)),Ld 73 72,Mv 74 4,Mv 75 8,Oo 76 (.ia 1 (t 74) (t 75)),Ld 77 76,Bn 78 .eql 73 77] (Cd 78 (Sr [Mc 2 6] .ret) .skip))) (.reg [Mv 68 8,Bc 69 .add 68 1,Mv 8 69]))))))) (.reg [Mv 63 7,Bc 64 .add 63 1,Mv 7 64])))))) (.seq (Sr [Mc 9 0] (.block 8 (.loop (.seq (Sr [Mv 79 9,Fa 80 2 1,Ld 81 80,Oo 82 (.len false (t 81)),Bn 83 .lss 79 82] (Cd 83 .skip (.exit 8))) (.seq (.block 9 (Sd [Oo 86 (.load true 3 (t 1)),Fa 87 2 1,Ld 88 87,Mv 89 9,Oo 90 (.ia 2 (t 88) (t 89)),Fa 91 0 90,Ld 92 91,Cl 93 57 [(t 86),(t 92)],Bc 94 .lss 93 0] (Cd 94 (Sr [Mc 2 5] .ret) .skip))) (.reg [Mv 84 9,Bc 85 .add 84 1,Mv 9 85])))))) (.seq (Sr [Mc 10 0] (.block 10 (.loop (.seq (Sr [Mv 95 10,Fa 96 1 1,Ld 97 96,Oo 98 (.len false (t 97)),Bn 99 .lss 95 98] (Cd 99 .skip (.exit 10))) (.seq (.block 11 (Sr [Mc 11 0] (.block 12 (.loop (.seq (Sr [Mv 102 11,Fa 103 1 1,Ld 104 103,Mv 105 10,Oo 106 (.ia 2 (t 104) (t 105)),Fa 107 1 106,Ld 108 107,Oo 109 (.len false (t 108)),Bn 110 .lss 102 109] (Cd 110 .skip (.exit 12))) (.seq (.block 13 (Sr [Fa 113 1 1,Ld 114 113,Mv 115 10,Oo 116 (.ia 2 (t 114) (t 115)),Fa 117 1 116,Ld 118 117,Mv 119 11,Oo 120 (.ia 10 (t 118) (t 119)),Fa 121 1 120,Ld 122 121,Oo 123 (.bin .eql (t 122) (.const (.string ⟨#[]⟩))),Mv 12 123] (.seq (Sr [Mc 13 0] (.block 14 (.loop (.seq (Sr [Mv 124 13,Fa 125 0 1,Ld 126 125,Oo 127 (.len false (t 126)),Bn 128 .lss 124 127] (Cd 128 .skip (.exit 14))) (.seq (.block 15 (.drw [Mv 131 12,Mv 132 131,Of 133 132 (.fa 0 (t 1)),Of 134 132 (.load false 1 (t 133)),Of 135 132 (mt 13),Of 136 132 (.ia 11 (t 134) (t 135)),Of 137 132 (.fa 0 (t 136)),Of 138 132 (.load false 1 (t 137)),Of 139 132 (.fa 1 (t 1)),Of 140 132 (.load false 1 (t 139)),Of 141 132 (mt 10),Of 142 132 (.ia 2 (t 140) (t 141)),Of 143 132 (.fa 1 (t 142)),Of 144 132 (.load false 1 (t 143)),Of 145 132 (mt 11),Of 146 132 (.ia 10 (t 144) (t 145)),Of 147 132 (.fa 1 (t 146)),Of 148 132 (.load false 1 (t 147)),Of 149 132 (.bin .eql (t 138) (t 148)),Oo 150 (.pick (t 132) (.const (.bool true)) (t 149)),Mv 12 150] [] [])) (.reg [Mv 129 13,Bc 130 .add 129 1,Mv 13 130])))))) (Sr [Mv 151 12,Oo 152 (.un .not (t 151))] (Cd 152 (Sr [Mc 2 5] .ret) .skip))))) (.reg [Mv 111 11,Bc 112 .add 111 1,Mv 11 112]))))))) (.reg [Mv 100 10,Bc 101 .add 100 1,Mv 10 101])))))) (.seq (Sr [Mc 14 0] (.block 16 (.loop (.seq (Sr [Mv 153 14,Fa 154 1 1,Ld 155 154,Oo 156 (.len false (t 155)),Bn 157 .lss 153 156] (Cd 157 .skip (.exit 16))) (.seq (.block 17 (Sr [Mc 15 0] (.block 18 (.loop (.seq (Sr [Mv 160 15,Fa 161 1 1,Ld 162 161,Mv 163 14,Oo 164 (.ia 2 (t 162) (t 163)),Fa 165 1 164,Ld 166 165,Oo 167 (.len false (t 166)),Bn 168 .lss 160 167] (Cd 168 .skip (.exit 18))) (.seq (.block 19 (Sr [Fa 171 1 1,Ld 172 171,Mv 173 14,Oo 174 (.ia 2 (t 172) (t 173)),Fa 175 1 174,Ld 176 175,Mv 177 15,Oo 178 (.ia 10 (t 176) (t 177)),Oo 179 (.load true 10 (t 178)),Oo 16 (.new 144 10 [(iv 0),Ss,(iv 0),Ss,(.v (.bool false)),(iv 0),(iv 0),(iv 0),(iv 0),(iv 0)]),⟨none,none,(.store 10 (t 16) (t 179))⟩] (.seq (Sr [Fa 180 1 16,Ld 181 180,Oo 182 (.bin .eql (t 181) (.const (.string ⟨#[]⟩)))] (Cd 182 (.exit 19) .skip)) (Sr [Fa 184 0 1,Ld 185 184,Fa 186 1 16,Ld 187 186,Fa 188 0 16,Ld 189 188,Cl 190 109 [(t 185),(t 187),(t 189)],Mv 183 190,Ex 191 183 0,Ex 192 183 1,Mv 17 191,Mv 18 192] (Sr [Mv 193 18,Bc 194 .neq 193 0] (Cd 194 (Sr [Mv 195 18,Mv 2 195] .ret) .skip)))))) (.reg [Mv 169 15,Bc 170 .add 169 1,Mv 15 170]))))))) (.reg [Mv 158 14,Bc 159 .add 158 1,Mv 14 159])))))) (.seq (Sr [Mc 19 0] (.block 20 (.loop (.seq (Sr [Mv 196 19,Fa 197 1 1,Ld 198 197,Oo 199 (.len false (t 198)),Bn 200 .lss 196 199] (Cd 200 .skip (.exit 20))) (.seq (.block 21 (Sr [Fa 203 1 1,Ld 204 203,Mv 205 19,Oo 206 (.ia 2 (t 204) (t 205)),Oo 207 (.load true 2 (t 206)),Cl 208 110 [(t 207)],Mv 20 208] (Sr [Mc 21 1] (.block 22 (.loop (.seq (Sr [Mv 209 21,Mv 210 20,Oo 211 (.len false (t 210)),Bn 212 .lss 209 211] (Cd 212 .skip (.exit 22))) (.seq (.block 23 (Sd [Mv 215 20,Mv 216 21,Oo 217 (.ia 1 (t 215) (t 216)),Ld 218 217,Mv 219 20,Mv 220 21,Bc 221 .sub 220 1,Oo 222 (.ia 1 (t 219) (t 221)),Ld 223 222,Bn 224 .leq 218 223] (Cd 224 (Sr [Mc 2 4] .ret) .skip))) (.reg [Mv 213 21,Bc 214 .add 213 1,Mv 21 214])))))))) (.reg [Mv 201 19,Bc 202 .add 201 1,Mv 19 202])))))) (Sr [Mc 2 0] .ret))))))))))))
theorem k54:ZaA Tryz.prog 54=some ⟨c54,[(.tmp 2)],225⟩:=by kernel_rfl
theorem ZqL {l:List ByteArray}{i:Nat}(hi:i<l.length) (h:(l.take i).Nodup) (hn : ∀ m (hm:m<l.length),m<i→l[m]≠l[i]):(l.take (i+1)).Nodup:=by
 rw[List.take_succ_eq_append_getElem hi,List.nodup_append]
 refine⟨h,by simp,fun x hx y hy=>?_⟩
 simp only[List.mem_singleton] at hy
 subst hy
 obtain⟨m,hm,rfl⟩:=List.getElem_of_mem hx
 rw[List.length_take] at hm
 rw[List.getElem_take]
 exact hn m om om
theorem ZtM {l:List ByteArray}{i j:Nat}(hi:i<l.length) (hj:j<i) (h:l[i]=l[j]'(by omega)):¬l.Nodup:=fun hn=>List.pairwise_iff_getElem.1 hn j i om hi hj h.symm
theorem Zn5 {p:Era→Int}{l m r:List Era}{x:Era}(hl : ∀ y∈l,p y=0) (hm : ∀ y∈m,p y=0) (hx:p x≠0):ZaU p (l++(m++x::r))=p x:=by
 rw[ZfF,Zmy (p:=fun x=>decide (p x≠0)) (fun y hy=>by simp[hl y hy]) (fun y hy=>by simp[hm y hy]) (by simp[hx])]
theorem Ziw {p:Era→Int}{l:List Era}(h : ∀ y∈l,p y=0):ZaU p l=0:=by
 rw[ZfF,List.find?_eq_none.2 (fun y hy=>by simp[h y hy])]
theorem Zto {a:List Rul}{z:List Zon}{k:List Lnk}{h:AH}(hok:Zf8 (a,z,k)):Ac 54 [.agg (srcB a z k)] h (iv (Zbf (a,z,k))):=by
 refine tI' k54 fun N hn hlt _ hbd=>?_
 simp only[tb'] at hbd ⊢
 refine wr'<|E' (ZaR cv rfl hl0 ha0) pt<|mw<|Zal<|?_
 refine ZaO (ALe.icePtr gx gt1 (by simp) pt1 hs0) ?_
 refine wr'<|Vw (Zau lk ZmN rfl)<|Zab mp (Ztp hok) pt<|ms<|Zac<|wm<|Vw (Za0 lk lki)<|sn'<|?_
 refine cd' lk (fun hc1=>?_) (fun hc1=>?_)
 ·have hZ:Zbf (a,z,k)=ZbV (a,z,k):=if_pos hc1
  refine wm<|mr<|Zae<|Zad rz<|rT'<|?_
  rw[hZ]
 have hc:ZbV (a,z,k)=0:=Decidable.of_not_not hc1
 obtain⟨q1,q2,q3,q4,q5,q6,q7⟩:=Zci hc
 simp only at q1 q2 q3 q4 q5 q6 q7
 have hZ:Zbf (a,z,k)=if ¬(ZbT z k).Nodup then 6 else if Zey (a,z,k)=true then 5 else if ZaU (errX a) (Zcw z)≠0 then ZaU (errX a) (Zcw z) else if (z.any fun z=>!risL (ZaG z.2))=true then 4 else 0:=by unfold Zbf;rw[if_neg (by rw[hc];simp)]
 have hokR:=Zij hok
 have hnl:=Ze3 z k
 refine za<|wr'<|mv' lkn pt4<|Zal<|ZaO (ALe.own0' (st':=1) (ty:=9) gt4 hl1 pt4 ha1)<|Zac<|wr'<|mv' lki pt5<|sn'<|Zag<|?_
 refine w_lp (ι:=Nat) (fun (i:Nat)=>[(4,.own (N+1) i i),(5,iv (i:Int))]++rn' 27 16) (fun (i:Nat)=>[(1,.mk i 9 1 (rows strC ((z.map (·.1)).take i)))]) (fun (i:Nat)=>i≤z.length) (fun (i:Nat)=>z.length-i) (0) (by exact Nat.zero_le _) ?_
 rintro i hi1
 try simp only[sm',Nat.reduceAdd]
 replace hi1:i≤z.length:=hi1
 have htl:((z.map (·.1)).take i).length=i:=by rw[List.length_take,List.length_map];omega
 refine Zac<|wm<|Vw (ZaQ lk dp1)<|Vw (Zar lk gt)<|Vw (ZaC lk)<|Vw (ZaL lk lk)<|sn'<|?_
 refine cd' lk (fun hc2=>?_) (fun hc2=>?_)
 ·have hi:i<z.length:=by omega
  have htk:(z.map (·.1)).take (i+1)=(z.map (·.1)).take i++[z[i].1]:=by rw[List.take_succ_eq_append_getElem (by simpa using hi)];simp
  refine za<|Zac<|Zag<|Zaq<|mw<|Vw (ZaQ lk dp1)<|Vw (Zar lk gt)<|mw<|?_
  refine V' (ZaF lk lk Zbm nb ro om ro rfl) pt ?_
  refine Vw (ZaQ lk dp0)<|Vw (Zar lk gt)<|E' (Zcm (Zgr cv rfl) hl2 ha2) pt<|?_
  refine E' (ZbH (Zbn lk (hga hn rfl) rfl ZmO nb) lk (hga hn rfl) ((Zdm _).trans (by rw[htl])) om rfl hs1) pt ?_
  refine mw<|Zal<|Zav<|Zam<|Zaq<|mw<|?_
  refine ad<|mw<|Zal<|Zaz<|?_
  refine lU' (i+1) (by (try dsimp only);omega) (by refine zz ?_;exact bk' 2 hn hlt (by rw[htk,ZaH,ZgG];rfl))
 have hie:i=z.length:=by omega
 subst hie
 rw[show (z.map (·.1)).take z.length=z.map (·.1) from List.take_of_length_le (by simp)]
 refine Zay<|Zas<|Zas<|ZaI<|Zam<|Zac<|wk'<|Zag<|?_
 refine Zds (ι:=Nat) (fun (j:Nat)=>[(4,.own (N+1) (z.length+j) (z.length+j)),(6,iv (j:Int))]++rn' 43 16) (fun (j:Nat)=>[(1,.mk (z.length+j) 9 1 (rows strC (z.map (·.1)++(k.map (·.2)).take j)))]) (fun (j:Nat)=>j≤k.length) (fun (j:Nat)=>k.length-j) (0) (by exact Nat.zero_le _) (by try simp only[sm',Nat.reduceAdd];exact ALe.same wA' (by rw[List.take_zero,List.append_nil];rfl)) ?_
 rintro j hi2
 try simp only[sm',Nat.reduceAdd]
 replace hi2:j≤k.length:=hi2
 have htl2:(z.map (·.1)++(k.map (·.2)).take j).length=z.length+j:=by rw[List.length_append,List.length_map,List.length_take,List.length_map];omega
 refine Zac<|wm<|Vw (ZaQ lk dp2)<|Vw (Zar lk gt)<|Vw (ZaC lk)<|Vw (ZaL lk lk)<|sn'<|?_
 refine cd' lk (fun hc3=>?_) (fun hc3=>?_)
 ·have hj:j<k.length:=by omega
  have htk2:(k.map (·.2)).take (j+1)=(k.map (·.2)).take j++[k[j].2]:=by rw[List.take_succ_eq_append_getElem (by simpa using hj)];simp
  refine za<|Zac<|Zag<|Zaq<|mw<|Vw (ZaQ lk dp2)<|Vw (Zar lk gt)<|mw<|?_
  refine V' (ZaF lk lk Za9 nb ro om ro rfl) pt ?_
  refine Vw (ZaQ lk dp1)<|Vw (Zar lk gt)<|E' (Zcm (Zgq cv rfl) hl2 ha2) pt<|?_
  refine E' (ZbH (Zbn lk (hga hn rfl) rfl ZmO nb) lk (hga hn rfl) ((Zdm _).trans (by rw[htl2])) om rfl hs1) pt ?_
  refine mw<|Zal<|Zav<|Zam<|Zaq<|mw<|?_
  refine ad<|mw<|Zal<|Zaz<|?_
  refine lU' (j+1) (by (try dsimp only);omega) (by refine zz ?_;exact bk' 2 hn hlt (by simp only[htk2,ZaH,ZgG,List.append_assoc];rfl))
 have hje:j=k.length:=by omega
 subst hje
 rw[show (k.map (·.2)).take k.length=k.map (·.2) from List.take_of_length_le (by simp),show z.map (·.1)++k.map (·.2)=ZbT z k from rfl,←hnl]
 refine Zay<|Zas<|Zas<|ZaI<|Zam<|Zac<|wk'<|Zag<|?_
 refine w_lp (ι:=Nat) (fun (i3:Nat)=>[(7,iv (i3:Int)),(2,.any),(8,.any)]++rn' 59 20) (fun (i3:Nat)=>[]) (fun (i3:Nat)=>i3≤(ZbT z k).length∧((ZbT z k).take i3).Nodup) (fun (i3:Nat)=>(ZbT z k).length-i3) (0) (by exact⟨Nat.zero_le _,by simp⟩) ?_
 rintro i3 hi3
 try simp only[sm',Nat.reduceAdd]
 obtain⟨hn3,hd3⟩:=hi3
 refine Zac<|wm<|mw<|Vw (ZbQ lk)<|Vw (ZaL lk lk)<|sn'<|?_
 refine cd' lk (fun hc4=>?_) (fun hc4=>?_)
 ·have hi3':i3<(ZbT z k).length:=by omega
  refine za<|Zac<|Zag<|wk'<|Zag<|?_
  refine w_lp (ι:=Nat) (fun (j4:Nat)=>[(8,iv (j4:Int)),(2,.any)]++rn' 65 14) (fun (j4:Nat)=>[]) (fun (j4:Nat)=>j4≤i3 ∧ ∀ m (hm:m<(ZbT z k).length),m<j4→(ZbT z k)[m]≠(ZbT z k)[i3]) (fun (j4:Nat)=>i3-j4) (0) (by exact⟨Nat.zero_le _,fun m _ h=>by omega⟩) ?_
  rintro j4 hi4
  try simp only[sm',Nat.reduceAdd]
  obtain⟨hn4,hd4⟩:=hi4
  refine Zac<|wm<|mw<|Vw (ZaL lk lk)<|sn'<|?_
  refine cd' lk (fun hc5=>?_) (fun hc5=>?_)
  ·have hj4:j4<i3:=by omega
   refine za<|Zac<|Zag<|Zac<|ZaJ<|Dw vm<|Dw vm<|?_
   refine D' (ZaW lk lk gx ZfY nb ro om (by first | rfl | (simp;done) | omega)) pt ?_
   refine D' (Zdi lk gx ZfY om rfl) pt ?_
   refine Dw vm<|Dw vm<|?_
   refine D' (ZaW lk lk gx ZfY nb ro om (by first | rfl | (simp;done) | omega)) pt ?_
   refine D' (Zdi lk gx ZfY om rfl) pt ?_
   refine D' ((by first | exact Za2 lk lk | exact Zdk lk lk)) pt ?_
   refine ZaM ?_
   refine Za5 ?_
   refine sn' ?_
   refine cd' lk (fun hc6=>?_) (fun hc6=>?_)
   ·have hnd:=ZtM hi3' hj4 hc6
    refine wo<|Zao<|Zae<|Zae<|Zao<|Zao<|Zae<|Zae<|Zao<|?_
    refine Zae<|Zad rz<|rT'<|?_
    rw[hZ,if_pos hnd]
   refine ZaB<|Zav<|Zam<|Zaq<|mw<|?_
   refine ad<|mw<|Zal<|Zaz<|?_
   refine lT' (j4+1) (by (try dsimp only);refine⟨by omega,fun m hm h=>?_⟩;by_cases e:m=j4;(subst e;exact fun e=>hc6 e.symm);exact hd4 m hm om)
  have hje4:j4=i3:=by omega
  refine Zay<|Zas<|Zas<|ZaI<|Zav<|Zam<|Zaq<|mw<|?_
  refine ad<|mw<|Zal<|Zaz<|?_
  refine lT' (i3+1) (by (try dsimp only);exact⟨by omega,ZqL hi3' hd3 fun m hm h=>hd4 m hm om⟩)
 have hND:(ZbT z k).Nodup:=by rwa [List.take_of_length_le om] at hd3
 rw[if_neg (by simpa using hND)] at hZ
 refine Zay<|Zas<|Zas<|ZaI<|Zam<|Zac<|wk'<|Zag<|?_
 refine w_lp (ι:=Nat) (fun (i5:Nat)=>[(9,iv (i5:Int)),(2,.any)]++rn' 79 16) (fun (i5:Nat)=>[]) (fun (i5:Nat)=>i5≤k.length ∧ ∀ m (hm:m<k.length),m<i5→¬Zc8 z k[m].1<0) (fun (i5:Nat)=>k.length-i5) (0) (by exact⟨Nat.zero_le _,fun m _ h=>by omega⟩) ?_
 rintro i5 hi5
 try simp only[sm',Nat.reduceAdd]
 obtain⟨hn5,hd5⟩:=hi5
 refine Zac<|wm<|Vw (ZaQ lk dp2)<|Vw (Zar lk gt)<|Vw (ZaC lk)<|Vw (ZaL lk lk)<|sn'<|?_
 refine cd' lk (fun hc7=>?_) (fun hc7=>?_)
 ·have hi5':i5<k.length:=by omega
  refine za<|Zac<|Zag<|Zac<|ZaJ<|Dw (Zau lk ZmN rfl)<|Dw (ZaQ lk dp2)<|Dw (Zar lk gt)<|Dw vm<|?_
  refine D' (ZaF lk lk Za9 nb ro om ro rfl) pt ?_
  refine Dw (ZaQ lk dp0)<|Dw (Zar lk gt)<|?_
  refine ZaD mp (fun hE hX=>ZlU om) pt ?_
  refine Dw (ZaL lk lki)<|ZaM<|?_
  refine Za5 ?_
  refine sn' ?_
  refine cd' lk (fun hc8=>?_) (fun hc8=>?_)
  ·have hM:Zey (a,z,k)=true:=by unfold Zey;rw[Bool.or_eq_true];exact .inl (List.any_eq_true.2 ⟨_,List.getElem_mem hi5',decide_eq_true hc8⟩)
   refine wo<|Zao<|Zae<|Zae<|Zao<|Zae<|Zad rz<|rT'<|?_
   rw[hZ,if_pos hM]
  refine ZaB<|Zav<|Zam<|Zaq<|mw<|?_
  refine ad<|mw<|Zal<|Zaz<|?_
  refine lT' (i5+1) (by (try dsimp only);refine⟨by omega,fun m hm h=>?_⟩;by_cases e:m=i5;(subst e;exact hc8);exact hd5 m hm om)
 have hLk:(k.any fun l=>decide (Zc8 z l.1<0))=false:=List.any_eq_false.2 fun x hx=>by obtain⟨m,hm,rfl⟩:=List.getElem_of_mem hx;simpa using hd5 m hm om
 have hMis:Zey (a,z,k)=(Zcw z).any (misP a):=by unfold Zey;rw[hLk,Bool.false_or]
 refine Zay<|Zas<|Zas<|ZaI<|Zam<|Zac<|wk'<|Zag<|?_
 refine w_lp (ι:=Nat) (fun (i6:Nat)=>[(10,iv (i6:Int)),(2,.any)]++rn' 11 3++rn' 95 58) (fun (i6:Nat)=>[]) (fun (i6:Nat)=>i6≤z.length ∧ ∀ x∈Zcw (z.take i6),misP a x=false) (fun (i6:Nat)=>z.length-i6) (0) (by exact⟨Nat.zero_le _,fun x hx=>by cases hx⟩) ?_
 rintro i6 hi6
 try simp only[sm',Nat.reduceAdd]
 obtain⟨hn6,hd6⟩:=hi6
 refine Zac<|wm<|Vw (ZaQ lk dp1)<|Vw (Zar lk gt)<|Vw (ZaC lk)<|Vw (ZaL lk lk)<|sn'<|?_
 refine cd' lk (fun hc9=>?_) (fun hc9=>?_)
 ·have hi6':i6<z.length:=by omega
  have hz3:=q4 _ (List.getElem_mem hi6')
  refine za<|Zac<|Zag<|wk'<|Zag<|?_
  refine w_lp (ι:=Nat) (fun (j7:Nat)=>[(11,iv (j7:Int)),(2,.any),(12,.any),(13,.any)]++rn' 102 51) (fun (j7:Nat)=>[]) (fun (j7:Nat)=>j7≤z[i6].2.length ∧ ∀ x∈z[i6].2.take j7,misP a x=false) (fun (j7:Nat)=>z[i6].2.length-j7) (0) (by exact⟨Nat.zero_le _,fun x hx=>by cases hx⟩) ?_
  rintro j7 hi7
  try simp only[sm',Nat.reduceAdd]
  obtain⟨hn7,hd7⟩:=hi7
  refine Zac<|wm<|Vw (ZaQ lk dp1)<|Vw (Zar lk gt)<|mw<|?_
  refine V' (ZaF lk lk Zbm nb ro om ro rfl) pt ?_
  refine Vw (ZaQ lk dp1)<|Vw (Zar lk gt)<|?_
  refine V' ((by first | exact ZaC lk | exact ZbQ lk)) pt ?_
  refine Vw (ZaL lk lk)<|sn'<|?_
  refine cd' lk (fun hc10=>?_) (fun hc10=>?_)
  ·have hj7:j7<z[i6].2.length:=by omega
   refine za<|Zac<|Zag<|wr'<|Vw (ZaQ lk dp1)<|Vw (Zar lk gt)<|mw<|?_
   refine V' (ZaF lk lk Zbm nb ro om ro rfl) pt ?_
   refine Vw (ZaQ lk dp1)<|Vw (Zar lk gt)<|mw<|?_
   refine V' (ZaF lk lk ZbN nb ro om ro rfl) pt ?_
   refine Vw (ZaQ lk dp1)<|Vw (Zar lk gt)<|Vw (Zdk lk lks)<|ms<|Zac<|wk'<|Zag<|?_
   refine Zds (ι:=Nat) (fun (n8:Nat)=>[(12,bv (decide (xRl z[i6].2[j7]=⟨#[]⟩)||(a.take n8).any fun r=>decide (r.1=xRl z[i6].2[j7]))),(13,iv (n8:Int))]++rn' 124 27) (fun (n8:Nat)=>[]) (fun (n8:Nat)=>n8≤a.length) (fun (n8:Nat)=>a.length-n8) (0) (by exact Nat.zero_le _) (by try simp only[sm',Nat.reduceAdd];exact ALe.same (by repeat (first | exact wk0 | refine wka ?_ | refine wk1 rfl ?_ | refine wk1 (by first | rfl | (rw[List.take_zero];simp)) ?_)) rfl) ?_
   rintro n8 hi8
   try simp only[sm',Nat.reduceAdd]
   replace hi8:n8≤a.length:=hi8
   refine Zac<|wm<|Vw (ZaQ lk dp0)<|Vw (Zar lk gt)<|Vw (ZaC lk)<|Vw (ZaL lk lk)<|sn'<|?_
   refine cd' lk (fun hc11=>?_) (fun hc11=>?_)
   ·have hi8':n8<a.length:=by omega
    have hak:(a.take (n8+1)).any (fun r=>decide (r.1=xRl z[i6].2[j7]))=((a.take n8).any (fun r=>decide (r.1=xRl z[i6].2[j7]))||decide (a[n8].1=xRl z[i6].2[j7])):=by rw[List.take_succ_eq_append_getElem hi8',List.any_append];simp
    refine za<|Zac<|Zag<|ZaJ<|Dw vm<|Dw vm<|?_
    refine dq' (t:=132) gt pt pt (fun hg132=>?_) (fun hg132=>?_)
    ·refine dn<|dn<|dn<|dn<|dn<|dn<|dn<|dn<|dn<|dn<|dn<|dn<|dn<|dn<|?_
     refine dn<|dn<|dn<|Dw (Zaj lk lkb)<|Dw vm<|ZaM<|?_
     refine Za5 ?_
     refine Zal<|Zav<|Zam<|Zaq<|mw<|?_
     refine ad<|mw<|Zal<|Zaz<|?_
     refine lU' (n8+1) (by (try dsimp only);omega) (by refine zz ?_;exact ALe.same (by repeat (first | exact wk0 | refine wka ?_ | refine wk1 rfl ?_ | refine wk1 (by first | rfl | exact ivx om | (rw[hak,←Bool.or_assoc,hg132];rfl)) ?_)) rfl)
    refine dO<|Dw (ZaQ lk dp0)<|dO<|Dw (Zar lk gt)<|dO<|Dw vm<|dO<|?_
    refine D' (ZaF lk lk Zb9 nb ro om ro rfl) pt ?_
    refine dO<|Dw (ZaQ lk dp0)<|dO<|Dw (Zar lk gt)<|dO<|Dw (ZaQ lk dp1)<|dO<|Dw (Zar lk gt)<|dO<|Dw vm<|dO<|?_
    refine D' (ZaF lk lk Zbm nb ro om ro rfl) pt ?_
    refine dO<|Dw (ZaQ lk dp1)<|dO<|Dw (Zar lk gt)<|dO<|Dw vm<|dO<|?_
    refine D' (ZaF lk lk ZbN nb ro om ro rfl) pt ?_
    refine dO<|Dw (ZaQ lk dp1)<|dO<|Dw (Zar lk gt)<|dO<|?_
    refine D' ((by first | exact Za2 lk lk | exact Zdk lk lk)) pt ?_
    refine Dw (Zai lk lk)<|Dw vm<|ZaM<|?_
    refine Za5 ?_
    refine Zal<|Zav<|Zam<|Zaq<|mw<|?_
    refine ad<|mw<|Zal<|Zaz<|?_
    refine lU' (n8+1) (by (try dsimp only);omega) (by refine zz ?_;exact ALe.same (by repeat (first | exact wk0 | refine wka ?_ | refine wk1 rfl ?_ | refine wk1 (by first | rfl | exact ivx om | (rw[hak,←Bool.or_assoc,hg132];rfl)) ?_)) rfl)
   rw[List.take_of_length_le (show a.length≤n8 by omega)]
   obtain⟨rr,hrr⟩:=ZfG hi6' hj7
   refine Zay<|Zas<|Zas<|ZaI<|Zam<|wm<|?_
   refine V' ((by first | exact v_not lk | exact Zax lk)) pt ?_
   refine sn' ?_
   refine cd' lk (fun hc12=>?_) (fun hc12=>?_)
   ·have hmp:misP a z[i6].2[j7]=true:=by have:=hc12;rw[Bool.not_eq_true',Bool.or_eq_false_iff] at this;unfold misP;rw[Bool.and_eq_true];exact⟨decide_eq_true (of_decide_eq_false this.1),by rw[this.2];rfl⟩
    have hM:Zey (a,z,k)=true:=by rw[hMis,hrr];exact List.any_eq_true.2 ⟨_,by simp,hmp⟩
    refine wo<|Zao<|Zae<|Zae<|Zao<|Zao<|Zae<|Zae<|Zao<|?_
    refine Zae<|Zad rz<|rT'<|?_
    rw[hZ,if_pos hM]
   have hmp:misP a z[i6].2[j7]=false:=by have:=hc12;rw[Bool.not_eq_false',Bool.or_eq_true] at this;unfold misP;rw[Bool.and_eq_false_iff];rcases this with h | h;exact .inl (decide_eq_false (fun e=>e (of_decide_eq_true h)));exact .inr (by rw[h];rfl)
   refine ZaB<|Zav<|Zam<|Zaq<|mw<|?_
   refine ad<|mw<|Zal<|Zaz<|?_
   refine lT' (j7+1) (by (try dsimp only);refine⟨by omega,fun x hx=>?_⟩;rw[List.take_succ_eq_append_getElem hj7] at hx;rcases List.mem_append.1 hx with hx | hx;exact hd7 x hx;simp only[List.mem_singleton] at hx;subst hx;exact hmp)
  rw[List.take_of_length_le om] at hd7
  refine Zay<|Zas<|Zas<|ZaI<|Zav<|Zam<|Zaq<|mw<|?_
  refine ad<|mw<|Zal<|Zaz<|?_
  refine lT' (i6+1) (by (try dsimp only);refine⟨by omega,fun x hx=>?_⟩;rw[ZgW hi6'] at hx;rcases List.mem_append.1 hx with hx | hx;exact hd6 x hx;exact hd7 x hx)
 rw[List.take_of_length_le om] at hd6
 have hM:Zey (a,z,k)=false:=by rw[hMis];exact List.any_eq_false.2 fun x hx=>by rw[hd6 x hx];simp
 rw[if_neg (by rw[hM];simp)] at hZ
 refine Zay<|Zas<|Zas<|ZaI<|Zam<|Zac<|wk'<|Zag<|?_
 refine w_lp (ι:=Nat) (fun (i9:Nat)=>[(14,iv (i9:Int)),(2,.any)]++rn' 15 4++rn' 153 43) (fun (i9:Nat)=>[]) (fun (i9:Nat)=>i9≤z.length ∧ ∀ x∈Zcw (z.take i9),errX a x=0) (fun (i9:Nat)=>z.length-i9) (0) (by exact⟨Nat.zero_le _,fun x hx=>by cases hx⟩) ?_
 rintro i9 hi9
 try simp only[sm',Nat.reduceAdd]
 obtain⟨hn9,hd9⟩:=hi9
 refine Zac<|wm<|Vw (ZaQ lk dp1)<|Vw (Zar lk gt)<|Vw (ZaC lk)<|Vw (ZaL lk lk)<|sn'<|?_
 refine cd' lk (fun hc13=>?_) (fun hc13=>?_)
 ·have hi9':i9<z.length:=by omega
  have hz9:=q4 _ (List.getElem_mem hi9')
  refine za<|Zac<|Zag<|wk'<|Zag<|?_
  refine w_lp (ι:=Nat) (fun (jx:Nat)=>[(15,iv (jx:Int)),(2,.any)]++rn' 16 3++rn' 160 36) (fun (jx:Nat)=>[]) (fun (jx:Nat)=>jx≤z[i9].2.length ∧ ∀ x∈z[i9].2.take jx,errX a x=0) (fun (jx:Nat)=>z[i9].2.length-jx) (0) (by exact⟨Nat.zero_le _,fun x hx=>by cases hx⟩) ?_
  rintro jx hi10
  try simp only[sm',Nat.reduceAdd]
  obtain⟨hnx,hdx⟩:=hi10
  refine Zac<|wm<|Vw (ZaQ lk dp1)<|Vw (Zar lk gt)<|mw<|?_
  refine V' (ZaF lk lk Zbm nb ro om ro rfl) pt ?_
  refine Vw (ZaQ lk dp1)<|Vw (Zar lk gt)<|?_
  refine V' ((by first | exact ZaC lk | exact ZbQ lk)) pt ?_
  refine Vw (ZaL lk lk)<|sn'<|?_
  refine cd' lk (fun hc14=>?_) (fun hc14=>?_)
  ·have hjx:jx<z[i9].2.length:=by omega
   obtain⟨rx,hrx⟩:=ZfG hi9' hjx
   refine za<|Zac<|Zag<|wr'<|Vw (ZaQ lk dp1)<|Vw (Zar lk gt)<|mw<|?_
   refine V' (ZaF lk lk Zbm nb ro om ro rfl) pt ?_
   refine Vw (ZaQ lk dp1)<|Vw (Zar lk gt)<|mw<|?_
   refine V' (ZaF lk lk ZbN nb ro om ro rfl) pt ?_
   refine Vw (Zau lk Zrd rfl)<|E' (ZaT hl2 ha2) pt<|E' (Zak lk cv gx rfl nb rfl Zoy hs2) ptn<|sn'<|Zac<|wr'<|fq<|Vw (Zaa lk gx gt1)<|Vw (Zdk lk lks)<|sn'<|?_
   refine cd' lk (fun hc15=>?_) (fun hc15=>?_)
   ·have hP:errX a z[i9].2[jx]=0:=if_pos hc15
    refine Zay<|Zas<|ZaI<|Zam<|Zaq<|mw<|?_
    refine ad<|mw<|Zal<|Zaz<|?_
    refine lU' (jx+1) (by (try dsimp only);refine⟨by omega,fun x hx=>?_⟩;rw[List.take_succ_eq_append_getElem hjx] at hx;rcases List.mem_append.1 hx with hx | hx;exact hdx x hx;simp only[List.mem_singleton] at hx;subst hx;exact hP) (by refine zz ?_;exact bk' 2 hn hlt)
   have hP0:errX a z[i9].2[jx]=(Za4 a z[i9].2[jx].2.1 z[i9].2[jx].1).2:=if_neg hc15
   refine za<|wr'<|Vw (ZaQ lk dp0)<|Vw (Zar lk gt)<|fq<|Vw (Zaa lk gx gt1)<|fq<|Vw (Zaa lk gx gt0)<|?_
   refine Zab mp (Zpu hokR om) pt ?_
   refine mw<|Vw (ZaS lk gt)<|Vw (ZaS lk gt)<|mw<|ms<|wm<|Vw (Za0 lk lki)<|sn'<|?_
   refine cd' lk (fun hc16=>?_) (fun hc16=>?_)
   ·have hF:ZaU (errX a) (Zcw z)=(Za4 a z[i9].2[jx].2.1 z[i9].2[jx].1).2:=by rw[hrx,Zn5 hd9 hdx (by rw[hP0];exact hc16),hP0]
    refine wm<|mr<|Zao<|Zae<|Zae<|Zao<|Zao<|Zae<|Zae<|?_
    refine Zao<|Zae<|Zad rz<|rT'<|?_
    rw[hZ,hF,if_pos hc16]
   have hP:errX a z[i9].2[jx]=0:=by rw[hP0];exact Decidable.of_not_not hc16
   refine ZaB<|Zav<|Zam<|Zaq<|mw<|?_
   refine ad<|mw<|Zal<|Zaz<|?_
   refine lU' (jx+1) (by (try dsimp only);refine⟨by omega,fun x hx=>?_⟩;rw[List.take_succ_eq_append_getElem hjx] at hx;rcases List.mem_append.1 hx with hx | hx;exact hdx x hx;simp only[List.mem_singleton] at hx;subst hx;exact hP) (by refine zz ?_;exact bk' 2 hn hlt)
  rw[List.take_of_length_le om] at hdx
  refine Zay<|Zas<|Zas<|ZaI<|Zav<|Zam<|Zaq<|mw<|?_
  refine ad<|mw<|Zal<|Zaz<|?_
  refine lT' (i9+1) (by (try dsimp only);refine⟨by omega,fun x hx=>?_⟩;rw[ZgW hi9'] at hx;rcases List.mem_append.1 hx with hx | hx;exact hd9 x hx;exact hdx x hx)
 rw[List.take_of_length_le om] at hd9
 rw[Ziw hd9,if_neg (by simp)] at hZ
 refine Zay<|Zas<|Zas<|ZaI<|Zam<|Zac<|wk'<|Zag<|?_
 refine w_lp (ι:=Nat) (fun (ie:Nat)=>[(19,iv (ie:Int)),(2,.any),(20,.any),(21,.any)]++rn' 196 29) (fun (ie:Nat)=>[]) (fun (ie:Nat)=>ie≤z.length ∧ ∀ y∈z.take ie,risL (ZaG y.2)=true) (fun (ie:Nat)=>z.length-ie) (0) (by exact⟨Nat.zero_le _,fun x hx=>by cases hx⟩) ?_
 rintro ie hi11
 try simp only[sm',Nat.reduceAdd]
 obtain⟨hne,hde⟩:=hi11
 refine Zac<|wm<|Vw (ZaQ lk dp1)<|Vw (Zar lk gt)<|Vw (ZaC lk)<|Vw (ZaL lk lk)<|sn'<|?_
 refine cd' lk (fun hc17=>?_) (fun hc17=>?_)
 ·have hie':ie<z.length:=by omega
  have hzo:=Zdd (s:=(a,z,k)) hc (List.getElem_mem hie')
  have hel:=ZcG z[ie].2
  have hel8:=hzo.len
  refine za<|Zac<|Zag<|wr'<|Vw (ZaQ lk dp1)<|Vw (Zar lk gt)<|mw<|?_
  refine V' (ZaF lk lk Zbm nb ro om ro rfl) pt ?_
  refine Vw (Zau lk Zvn rfl)<|Zab mp (Zti hzo) pt<|ms<|wk'<|Zag<|?_
  refine w_lp (ι:=Nat) (fun (m12:Nat)=>[(21,iv ((m12:Int)+1)),(2,.any)]++rn' 209 16) (fun (m12:Nat)=>[]) (fun (m12:Nat)=>(m12+1≤(ZaG z[ie].2).length∨m12=0) ∧ ∀ i (h:i+1<(ZaG z[ie].2).length),i<m12→(ZaG z[ie].2)[i]<(ZaG z[ie].2)[i+1]) (fun (m12:Nat)=>(ZaG z[ie].2).length-m12) (0) (by exact⟨.inr rfl,fun i _ h=>by omega⟩) ?_
  rintro m12 hi12
  try simp only[sm',Nat.reduceAdd]
  obtain⟨hn12,hd12⟩:=hi12
  refine Zac<|wm<|mv' lk (ptS pt)<|V' (ZaC (lkS lk)) (ptS pt)<|V' (ZaL lk (lkS lk)) (ptS pt)<|sn'<|?_
  first | refine w_cond (lkS lk) (fun hc18=>?_) (fun hc18=>?_) | refine Zat (lkS lk) (fun hc18=>?_) (fun hc18=>?_)
  ·have hm12:m12+1<(ZaG z[ie].2).length:=by omega
   refine za<|Zac<|Zag<|Zac<|ZaJ<|D' vm (ptS pt)<|D' vm (ptS pt)<|?_
   refine D' (ZaF (k:=m12+1) (lkS lk) (lkS lk) ZaX nb ro om ro rfl) (ptS pt) ?_
   refine D' (Zar (lkS lk) gt) (ptS pt)<|D' vm (ptS pt)<|D' vm (ptS pt)<|?_
   refine D' (Zbb (lkS lk) lki om om) (ptS pt) ?_
   refine D' (ZaF (k:=m12) (lkS lk) (lkS lk) ZaX nb ro om ro rfl) (ptS pt) ?_
   refine D' (Zar (lkS lk) gt) (ptS pt)<|D' (ZcT (lkS lk) (lkS lk)) (ptS pt)<|ZaM<|?_
   refine Za5 ?_
   refine sn' ?_
   first | refine w_cond (lkS lk) (fun hc19=>?_) (fun hc19=>?_) | refine Zat (lkS lk) (fun hc19=>?_) (fun hc19=>?_)
   ·have hR:risL (ZaG z[ie].2)=false:=ZjE hm12 om
    refine wo<|Zao<|Zae<|Zae<|Zao<|Zao<|Zae<|Zae<|Zao<|?_
    refine Zae<|Zad rz<|rT'<|?_
    rw[hZ,if_pos (List.any_eq_true.2 ⟨_,List.getElem_mem hie',by rw[hR];rfl⟩)]
   refine ZaB<|Zav<|Zam<|Zaq<|mv' lk (ptS pt)<|?_
   refine V' (Zb6 (lkS lk) lki om om) (ptS pt) ?_
   refine Vw (v_mv (lkS lk))<|Zal<|Zaz<|?_
   refine lU' (m12+1) (by (try dsimp only);exact⟨by omega,fun i hi h=>by by_cases e:i=m12;(subst e;omega);exact hd12 i hi om⟩) (by refine zz ?_;exact ALe.same (by repeat (first | exact wk0 | refine wka ?_ | refine wk1 rfl ?_ | refine wk1 (by first | rfl | exact ivx om) ?_)) rfl)
  have hR:risL (ZaG z[ie].2)=true:=Zib fun i hi=>hd12 i hi om
  refine Zay<|Zas<|Zas<|ZaI<|Zav<|Zam<|Zaq<|mw<|?_
  refine ad<|mw<|Zal<|Zaz<|?_
  refine lT' (ie+1) (by (try dsimp only);refine⟨by omega,fun y hy=>?_⟩;rw[List.take_succ_eq_append_getElem hie'] at hy;rcases List.mem_append.1 hy with hy | hy;exact hde y hy;simp only[List.mem_singleton] at hy;subst hy;exact hR)
 rw[List.take_of_length_le om] at hde
 refine Zay<|Zas<|Zas<|ZaI<|Zam<|wo<|Zad rz<|rT'<|?_
 rw[hZ,if_neg (by simp only[List.any_eq_true,not_exists,not_and];intro y hy;rw[hde y hy];simp)]
end
section
open Go.Ab Go.RowKit Civ
def txtS:Bs:=[82,117,108,101,32,101,117,32,49,57,56,49,32,109,97,120,32,77,97,114,32,108,97,115,116,83,117,110,32,49,58,48,48,117,32,49,58,48,48,32,83,10,82,117,108,101,32,101,117,32,49,57,57,54,32,109,97,120,32,79,99,116,32,108,97,115,116,83,117,110,32,49,58,48,48,117,32,48,32,45,10,90,111,110,101,32,72,101,114,101,47,84,111,119,110,32,48,58,49,48,32,45,32,76,77,84,32,49,56,56,48,32,74,97,110,32,49,32,48,10,32,32,49,58,48,48,32,101,117,32,67,69,37,115,84,10,76,105,110,107,32,72,101,114,101,47,84,111,119,110,32,79,108,100,10]
def nEu:ByteArray:=bA [101,117]
def nHt:ByteArray:=bA [72,101,114,101,47,84,111,119,110]
def nOld:ByteArray:=bA [79,108,100]
def rul0:List Rul:=[(nEu,1981,2100,3,(2,0,0),3600,3,3600,bA [83]),(nEu,1996,2100,10,(2,0,0),3600,3,0,bA [])]
def era0:Era:=(600,bA [],0,bA [76,77,84],false,((1880,1,1),0,2))
def era1:Era:=(3600,nEu,0,bA [67,69,37,115,84],true,((0,0,0),0,0))
def src0:Src:=(rul0,[(nHt,[era0,era1])],[(nHt,nOld)])
def ZlC (l:List Bs):AV:=.sl l.length 1 false (l.map fun b=>sv (bA b))
def splV:AV:=.tup [.sl 5 3 false [iv 1,bv false,ZlC [[82,117,108,101],[101,117],[49,57,56,49],[109,97,120],[77,97,114],[108,97,115,116,83,117,110],[49,58,48,48,117],[49,58,48,48],[83]],iv 2,bv false,ZlC [[82,117,108,101],[101,117],[49,57,57,54],[109,97,120],[79,99,116],[108,97,115,116,83,117,110],[49,58,48,48,117],[48],[45]],iv 3,bv false,ZlC [[90,111,110,101],[72,101,114,101,47,84,111,119,110],[48,58,49,48],[45],[76,77,84],[49,56,56,48],[74,97,110],[49],[48]],iv 4,bv true,ZlC [[49,58,48,48],[101,117],[67,69,37,115,84]],iv 5,bv false,ZlC [[76,105,110,107],[72,101,114,101,47,84,111,119,110],[79,108,100]]],iv 0,iv 0]
theorem spl_ev:evF Tryz.prog noO 1000 20 146 [sv (bA txtS)] []=some (.ret splV,[]):=by kernel_rfl
theorem prs_ev:evF Tryz.prog (orc 146 [sv (bA txtS)] splV) 1000 20 85 [sv (bA txtS)] []=some (.ret (.tup [.agg (srcC src0),iv 0,iv 0]),[]):=by kernel_rfl
theorem rp_txt {h:AH}:Ac 85 [sv (bA txtS)] h (.tup [.agg (srcC src0),iv 0,iv 0]) :=
 ACalls.ev 1000 20 (orc_ok fun h=>ACalls.ev 1000 20 noO_ok spl_ev) prs_ev
end
section
open Go.Ab Go.RowKit Civ
attribute [local simp] ZbR Zcg Zb1 ZbM Zbu Zdq Zdt Zdu
section
theorem Zj1 {a0 a1 a2 c0 c1 c2:AV}{l:List AV}:setCells (a0::a1::a2::l) 0 [c0,c1,c2]=c0::c1::c2::l:=rfl
theorem Zj0 {a0 a1 a2:AV}{l:List AV}:((a0::a1::a2::l).drop 0).take 3=[a0,a1,a2]:=rfl
end
def c40:AC:=(Sr [Oo 0 (.new 53 3 [nl,nl,nl])] (Sr [Oo 5 (.call (.func 85) [(.const (.string ⟨#[82,117,108,101,32,101,117,32,49,57,56,49,32,109,97,120,32,77,97,114,32,108,97,115,116,83,117,110,32,49,58,48,48,117,32,49,58,48,48,32,83,10,82,117,108,101,32,101,117,32,49,57,57,54,32,109,97,120,32,79,99,116,32,108,97,115,116,83,117,110,32,49,58,48,48,117,32,48,32,45,10,90,111,110,101,32,72,101,114,101,47,84,111,119,110,32,48,58,49,48,32,45,32,76,77,84,32,49,56,56,48,32,74,97,110,32,49,32,48,10,32,32,49,58,48,48,32,101,117,32,67,69,37,115,84,10,76,105,110,107,32,72,101,114,101,47,84,111,119,110,32,79,108,100,10]⟩))]),Mv 4 5,Ex 6 4 0,Ex 7 4 1,Ex 8 4 2,Oo 1 (.new 53 3 [nl,nl,nl]),⟨none,none,(.store 3 (t 1) (t 6))⟩,Mv 2 7,Mv 3 8] (Sr [Oo 9 (.load true 3 (t 1)),⟨none,none,(.store 3 (t 0) (t 9))⟩] .ret)))
theorem k40:ZaA Tryz.prog 40=some ⟨c40,[(.cell 0 true 3)],10⟩:=by kernel_rfl
theorem Znz:Zf8 src0:=by
 refine⟨fun r hr=>?_,fun z hz=>?_,fun l hl=>?_⟩
 ·simp only[src0,rul0,List.mem_cons,List.not_mem_nil,or_false] at hr
  rcases hr with rfl | rfl <;> exact⟨by decide,by decide⟩
 ·simp only[src0,List.mem_cons,List.not_mem_nil,or_false] at hz
  subst hz
  refine⟨by decide,fun x hx=>?_⟩
  simp only[List.mem_cons,List.not_mem_nil,or_false] at hx
  rcases hx with rfl | rfl <;> exact⟨by decide,by decide⟩
 simp only[src0,List.mem_cons,List.not_mem_nil,or_false] at hl
 subst hl;exact⟨by decide,by decide⟩
theorem ZkU {h:AH}:Ac 40 [] h (.agg (srcC src0)):=by
 refine tI' k40 fun N hn _ _ hbd=>?_
 simp only[tb'] at hbd ⊢
 refine wr'<|E' (ZaT hl0 ha0) pt<|sn'<|wr'<|Zab mp (rp_txt) pt<|mw<|Vw (ZaS lk gt)<|Vw (ZaS lk gt)<|Vw (ZaS lk gt)<|E' (ZaT hl1 ha1) pt<|E' (Zak lk cv gx rfl nb rfl Zj1 hs1) ptn<|?_
 exact mw<|ms<|wr'<|Vw (Zah lk gx Zj0 rfl)<|E' (Zak lk cv gx rfl nb rfl Zj1 hs0) ptn<|sr<|Zad (rs1 (rr_c gt gx (ld1 Zj0 rfl)))<|rT' rfl
def insT (t:Trn):List Trn→List Trn
 | []=>[t]
 | u::l=>if t.1≤u.1 then t::u::l else u::insT t l
def insS:List Trn→List Trn
 | []=>[]
 | t::l=>insT t (insS l)
theorem Zir (t:Trn) : ∀ l:List Trn,(insT t l).Perm (t::l)
 | []=>.refl _
 | u::l=>by
  rw[insT]
  split
  ·exact .refl _
  exact ((Zir t l).cons u).trans (List.Perm.swap t u l)
theorem Zmq : ∀ l:List Trn,(insS l).Perm l
 | []=>.refl _
 | t::l=>(Zir t _).trans ((Zmq l).cons t)
theorem ZpV {t:Trn} : ∀ {l:List Trn},l.Pairwise (fun a b=>a.1≤b.1)→(insT t l).Pairwise fun a b=>a.1≤b.1
 | [],_=>by simp[insT]
 | u::l,h=>by
  rw[insT]
  rw[List.pairwise_cons] at h
  split
  ·rename_i hle
   refine List.pairwise_cons.2 ⟨fun x hx=>?_,List.pairwise_cons.2 h⟩
   rcases List.mem_cons.1 hx with rfl | hx
   ·exact hle
   have:=h.1 x hx;omega
  rename_i hle
  refine List.pairwise_cons.2 ⟨fun x hx=>?_,ZpV h.2⟩
  rcases List.mem_cons.1 ((Zir t l).mem_iff.1 hx) with rfl | hx
  ·omega
  exact h.1 x hx
theorem ZpW : ∀ l:List Trn,(insS l).Pairwise fun a b=>a.1≤b.1
 | []=>.nil
 | t::l=>ZpV (ZpW l)
def ZlH (l:List Rul) (nm:ByteArray) (sh:Int):List Tim×Int :=
 if Zc7 l nm sh≠0 then ([],Zc7 l nm sh) else if gapB (insS (Zbd l nm))=true then ([],4) else if 1000<(insS (Zbd l nm)).length then ([],2) else (outV sh 0 (insS (Zbd l nm)),0)
theorem ZsH (l:List Rul) (nm:ByteArray) (sh:Int):Za4 l nm sh=ZlH l nm sh:=by
 unfold ZlH
 by_cases h:Zc7 l nm sh=0
 ·rw[if_neg (by simp[h]),ZkC h (Zmq _) (ZpW _)]
 rw[if_pos h,ZdJ h]
theorem tim0_err:(ZlH rul0 nEu 3600).2=0:=by kernel_rfl
theorem chk0:Zbf src0=0:=by
 have h1:ZbV src0=0:=by kernel_rfl
 have h2:(ZbT src0.2.1 src0.2.2).Nodup:=by decide
 have h3:Zey src0=false:=by kernel_rfl
 have h4:ZaU (errX src0.1) (Zcw src0.2.1)=0:=by
  refine Ziw fun y hy=>?_
  simp only[src0,Zcw,List.flatMap_cons,List.flatMap_nil,List.append_nil,List.mem_cons,List.not_mem_nil,or_false] at hy
  rcases hy with rfl | rfl
  ·rfl
  show (if nEu=⟨#[]⟩ then 0 else (Za4 rul0 nEu 3600).2)=0
  rw[ZsH,tim0_err];split <;> rfl
 have h5:(src0.2.1.any fun z=>!risL (ZaG z.2))=false:=by kernel_rfl
 unfold Zbf
 rw[if_neg (by simp[h1]),if_neg (by simpa using h2),if_neg (by simp[h3]),if_neg (by simp[h4]),if_neg (by simp[h5])]
end
section
open Go.Ab Go.RowKit Civ
attribute [local simp] ZbR Zcg Zb1 ZbM Zbu Zdq Zdt Zdu
theorem find0:Zcp src0 nOld=((nHt,[era0,era1]),0):=by
 unfold Zcp;rw[if_neg (by simp[chk0])];kernel_rfl
end
section
open Go.Ab Civ
def ZtF:List Chg:=cutV (eraG era0 tMin []) (endV era0)++eraG era1 (endV era0) (ZlH rul0 nEu 3600).1
theorem ZtE:ZaZ rul0 tMin none [era0,era1]=ZtF:=by
 have e0:ZaK rul0 era0=[]:=if_pos (by decide)
 have e1:ZaK rul0 era1=(ZlH rul0 nEu 3600).1:=by
  unfold ZaK
  rw[if_neg (by decide),ZsH];rfl
 rw[ZaZ,ZaZ,e0,e1,if_neg (by decide)]
 unfold ZtF
 rw[show ZbE none tMin=tMin from rfl,show ZbE (some (endV era0)) tMin=endV era0 from by decide]
def tab0:Tab:=stV (inP ZtF)
theorem Zqv:tab0.1=(600,0,bA [76,77,84]):=by kernel_rfl
theorem Zpq:tab0.2.length=211:=by kernel_rfl
theorem tab0_ok1:locE tab0.1=0:=by kernel_rfl
theorem tab0_ok2:Zb0 tab0.2=0:=by kernel_rfl
theorem table0:Zdl rul0 [era0,era1]=tab0:=by
 have:=Zh3 (s:=src0) (z:=(nHt,[era0,era1])) chk0 (by simp[src0])
 have e:stV (inP (ZaZ rul0 tMin none [era0,era1]))=Zdl rul0 [era0,era1]:=this
 rw[←e,ZtE];rfl
theorem of0:ofV src0 (nHt,[era0,era1])=(tab0,0):=by
 unfold ofV
 show tabR (Zdl rul0 [era0,era1])=_
 rw[table0]
 unfold tabR
 rw[if_neg (by rw[tab0_ok1];simp),if_neg (by rw[tab0_ok2];simp),if_neg (by rw[Zpq];decide)]
theorem comp0:ZiB src0 nOld=(tab0,0):=by
 unfold ZiB
 rw[find0,if_neg (by simp),of0]
theorem chkT0:Zbo tab0=0:=by
 have h:=Zhh (rl:=rul0) (es:=[era0,era1]) (by
  have:=congrArg Prod.snd of0
  exact this)
 rwa [table0] at h
theorem ZlJ:ZfU ZfZ 100=(7200,3600,⟨#[66]⟩):=by kernel_rfl
theorem ZlI:ZfU ZfZ 99=(3600,0,⟨#[65]⟩):=by kernel_rfl
theorem ZjV:Zbo ZfZ=0:=by kernel_rfl
end
section
open Go.Ab Civ
attribute [local simp] ZbR Zcg Zb1 ZbM Zdu Zdq Zbu
section
theorem ZdW {a0 a1 a2 a3:AV}{l:List AV}:((a0::a1::a2::a3::l).drop 1).take 3=[a1,a2,a3]:=rfl
theorem Zg4 {a0 a1 a2 c0 c1 c2:AV}{l:List AV}:setCells (a0::a1::a2::l) 0 [c0,c1,c2]=c0::c1::c2::l:=rfl
theorem Zdg {a0 a1 a2:AV}{l:List AV}:((a0::a1::a2::l).drop 0).take 3=[a0,a1,a2]:=rfl
theorem Zvz {τ:Operand→AV}:Zan τ [] [(iv 0),(iv 0),(.v (.string ⟨#[]⟩)),(.sl 0 0 true [])]=some [(iv 0),(iv 0),(.v (.string ⟨#[]⟩)),(.sl 0 0 true [])]:=rfl
theorem Zke {a0 a1:AV}{l:List AV}:((a0::a1::l).drop 0).take 2=[a0,a1]:=rfl
theorem ZmY {a0 a1 a2 a3:AV}{l:List AV}:(a0::a1::a2::a3::l).take 4=[a0,a1,a2,a3]:=rfl
theorem Zcz {a0 a1 a2 a3 c0 c1 c2 c3:AV}{l:List AV}:setCells (a0::a1::a2::a3::l) 0 [c0,c1,c2,c3]=c0::c1::c2::c3::l:=rfl
theorem Zkf {τ:Operand→AV}:Zan τ [] [(iv 0),(iv 0),(.v (.string ⟨#[]⟩)),(.sl 0 0 true [])]=some [(iv 0),(iv 0),(.v (.string ⟨#[]⟩)),(.sl 0 0 true [])]:=rfl
theorem Zcl {a0 a1 a2 a3:AV}{l:List AV}:((a0::a1::a2::a3::l).drop 0).take 4=[a0,a1,a2,a3]:=rfl
theorem ZrE {τ:Operand→AV}:Zan τ [] [(iv 0),(iv 0),(.v (.string ⟨#[]⟩)),(.sl 0 0 true [])]=some [(iv 0),(iv 0),(.v (.string ⟨#[]⟩)),(.sl 0 0 true [])]:=rfl
theorem ZoO {a0 b0:Int}{a1 b1:Int}{a2 b2:ByteArray}:Za3 [.int,.int,.str] [iv a0,iv a1,sv a2] [iv b0,iv b1,sv b2]=some (decide (a0=b0∧a1=b1∧a2=b2)):=by
 simp only[Za3,ZcF,if_true,ZbO,Option.some.injEq]
 simp only[Bool.decide_and,Bool.and_true]
 try (congr 1 <;> simp)
 try rfl
theorem ZrD {τ:Operand→AV}{y0 y1:Operand}{x0_0 x1_0 x1_1 x1_2:AV}(h0:Zap (τ y0)=some [x0_0]) (l0:[x0_0].all leaf=true) (h1:Zap (τ y1)=some [x1_0,x1_1,x1_2]) (l1:[x1_0,x1_1,x1_2].all leaf=true):Zan τ [(0,1,y0),(1,3,y1)] [(iv 0),(iv 0),(iv 0),(.v (.string ⟨#[]⟩))]=some [x0_0,x1_0,x1_1,x1_2]:=by
 simp only[Zan,h0,l0,h1,l1]
 rfl
theorem ZrC {τ:Operand→AV}{y0:Operand}{x0_0 x0_1 x0_2 x0_3:AV}(h0:Zap (τ y0)=some [x0_0,x0_1,x0_2,x0_3]) (l0:[x0_0,x0_1,x0_2,x0_3].all leaf=true):Zan τ [(0,4,y0)] [(iv 0),(iv 0),(iv 0),(.v (.string ⟨#[]⟩))]=some [x0_0,x0_1,x0_2,x0_3]:=by
 simp only[Zan,h0,l0]
 rfl
theorem Zvy { e:Ent}:([]:AH)++[e]=[e]:=rfl
theorem ZrB {e0 e1 e2 e3 e4 e5 d0:Ent}:([e0,e1,e2,e3,e4,e5]:AH)++[d0]=[e0,e1,e2,e3,e4,e5,d0]:=rfl
theorem Zrz {a0 a1 a2 a3 c0:AV}{l:List AV}:setCells (a0::a1::a2::a3::l) 3 [c0]=a0::a1::a2::c0::l:=rfl
theorem ZrA {a0 a1 c0 c1:AV}{l:List AV}:setCells (a0::a1::l) 0 [c0,c1]=c0::c1::l:=rfl
theorem ZiU {τ:Operand→AV}:Zan τ [] [(iv 0),(iv 0),(.v (.string ⟨#[]⟩)),(.sl 0 0 true [])]=some [(iv 0),(iv 0),(.v (.string ⟨#[]⟩)),(.sl 0 0 true [])]:=rfl
end
def c53:AC:=(Sr [Oo 2 (.box 53 3 (t 0)),Oo 3 (.box 94 2 (t 1)),Oo 4 (.new 38 4 [(iv 0),(iv 0),Ss,nl]),Mc 5 0] (Sr [Oo 10 (.build [(iv 0),(iv 0),Ss,nl] []),Oo 11 (.box 158 4 (t 10)),Mv 6 11] (.seq (Sd [Oo 12 (.load true 3 (t 2)),Oo 13 (.load true 2 (t 3)),Cl 14 104 [],Cl 15 103 [(t 12),(t 13),(t 14)],Oo 16 (.len false (t 15)),Mc 17 0] (.block 0 (.loop (Sr [Bn 18 .lss 17 16] (.seq (Cd 18 .skip (.exit 0)) (.seq (.block 1 (Sr [Mv 19 17,Oo 20 (.ia 4 (t 15) (t 17)),Oo 21 (.load true 4 (t 20)),Oo 8 (.new 163 4 [(iv 0),(iv 0),(iv 0),Ss]),Mv 7 19,⟨none,none,(.store 4 (t 8) (t 21))⟩] (.seq (Sd [Fa 22 0 8,Ld 23 22,Cl 24 105 [],Bn 25 .gtr 23 24] (Cd 25 (.exit 0) .skip)) (.seq (Sr [Fa 26 1 8,Oo 27 (.load true 3 (t 26)),Cl 28 106 [(t 27)],Mv 9 28] (Sr [Mv 29 9,Bc 30 .neq 29 0] (Cd 30 (Sr [Oo 31 (.build [(iv 0),(iv 0),Ss,nl] []),Mv 32 9,⟨none,none,(.store 4 (t 4) (t 31))⟩,Mv 5 32] .ret) .skip))) (.block 2 (Sr [Mv 34 7,Bc 35 .eql 34 0,Mv 33 35] (Cd 33 (.reg [Mv 36 6,Fa 37 1 8,Oo 38 (.load true 3 (t 37)),Nk 39 36,Fa 40 0 39,Fa 41 0 40,⟨none,none,(.store 3 (t 41) (t 38))⟩]) (.seq (.orPan (.drw [Fa 43 1 8,Oo 44 (.loadR true 3 (t 43)),Mv 45 6] [true,false,false] [Cl 46 107 [(t 45)],Oo 47 (.eqs true [.int,.int,.str] (t 44) (t 46)),Mv 42 47]) (t 45) 107 [Fa 43 1 8,Oo 44 (.load true 3 (t 43)),Mv 45 6,Mv 46 45,Mb 47 false,Mb 42 false] 46) (Cd 42 (.drw [Mv 48 6,Mv 49 6,Nk 50 49,Fa 51 0 50,Fa 52 3 51,Ld 53 52,Fa 54 0 8,Ld 55 54,Fa 56 1 8,Oo 57 (.load true 3 (t 56)),Oo 58 (.build [(iv 0),(iv 0),(iv 0),Ss] [(0,(1,(t 55))),(1,(3,(t 57)))]),Oo 59 (.lit 89 4 1 [(iv 0),(iv 0),(iv 0),Ss] [(0,(4,(t 58)))])] [false,false,false,false,false] [Oo 60 (.app 89 4 40 (t 53) (t 59)),Nk 61 48,Fa 62 0 61,Fa 63 3 62,Sc 63 60]) .skip))))))))) (.reg [Bc 64 .add 17 1,Mv 17 64]))))))) (.seq (Sr [Mv 65 6,Nk 66 65,Fa 67 0 66,Fa 68 3 67,Ld 69 68,Oo 70 (.len false (t 69)),Bc 71 .gtr 70 1000] (Cd 71 (Sr [Oo 72 (.build [(iv 0),(iv 0),Ss,nl] []),⟨none,none,(.store 4 (t 4) (t 72))⟩,Mc 5 2] .ret) .skip)) (Sr [Mv 73 6,Nk 74 73,Fa 75 0 74,Oo 76 (.load true 4 (t 75)),⟨none,none,(.store 4 (t 4) (t 76))⟩,Mc 5 0] .ret)))))
theorem k53:ZaA Tryz.prog 53=some ⟨c53,[(.cell 4 true 4),(.tmp 5)],77⟩:=by kernel_rfl
def c27:AC:=(Sr [Oo 2 (.box 53 3 (t 0)),Oo 4 (.new 38 4 [(iv 0),(iv 0),Ss,nl]),Mc 5 0] (Sr [Oo 9 (.load true 3 (t 2)),Mv 10 1,Cl 11 71 [(t 9),(t 10)],Mv 8 11,Ex 12 8 0,Ex 13 8 1,Oo 6 (.new 94 2 [Ss,nl]),⟨none,none,(.store 2 (t 6) (t 12))⟩,Mv 7 13] (.seq (Sr [Mv 14 7,Bc 15 .neq 14 0] (Cd 15 (Sr [Oo 16 (.build [(iv 0),(iv 0),Ss,nl] []),Mv 17 7,⟨none,none,(.store 4 (t 4) (t 16))⟩,Mv 5 17] .ret) .skip)) (Sr [Oo 18 (.load true 3 (t 2)),Oo 19 (.load true 2 (t 6)),Cl 20 53 [(t 18),(t 19)],Ex 21 20 0,Ex 22 20 1,⟨none,none,(.store 4 (t 4) (t 21))⟩,Mv 5 22] .ret))))
theorem k27:ZaA Tryz.prog 27=some ⟨c27,[(.cell 4 true 4),(.tmp 5)],23⟩:=by kernel_rfl
theorem last_eq : ∀ (F:Loc) (l:List Chg),Zeb F l=Zmp F l
 | F,[]=>rfl
 | F,c::l=>by
  rw[Zga (l:=c::l) (by simp)]
  unfold Zeb
  rw[List.getLast?_eq_getElem?,List.getElem?_eq_getElem (by simp)]
  rfl
theorem Zt4 {ps:List Chg}{i:Nat}(hi:i<ps.length) (h1 : ∀ c∈ps.take i,c.1≤tMax) (h2:ps[i].1≤tMax) (h3:Zb0 (ps.take i)=0) (h4:locE ps[i].2≠0):Zb0 (inP ps)=locE ps[i].2:=by
 have e:inP ps=(ps.take i++[ps[i]])++inP (ps.drop (i+1)):=by
  conv=>lhs;rw[←List.take_append_drop i ps]
  unfold inP
  rw[List.takeWhile_append_of_pos (fun c hc=>by have:=h1 c hc;simpa using this),List.drop_eq_getElem_cons hi,List.takeWhile_cons,if_pos (by simpa using h2),List.append_assoc]
  rfl
 have h5:=Zf9 (c:=ps[i]) h3
 rw[e,Zip (by rw[h5];exact h4),h5]
theorem mlast_o {F:Loc}{l:List Chg}{id q v0 ver ty ty2:Nat}{h:AH}(h1:h[id]?=some (.mk v0 ty 4 [iv F.1,iv F.2.1,sv F.2.2,.own q ver l.length])) (h2:h[q]?=some (.mk ver ty2 4 (rows chgC l))) (hl:l.length≤9223372036854775807) :
  Ac 107 [.ptr id v0 0] h (.agg [iv (Zeb F l).1,iv (Zeb F l).2.1,sv (Zeb F l).2.2]):=by
 have hid:id<h.length:=(List.getElem?_eq_some_iff.1 h1).1
 rw[last_eq]
 refine tI' k107 fun N hn _ _ hbd=>?_
 simp only[tb'] at hbd ⊢
 refine wr'<|E' (ZaT hl0 ha0) pt<|sn'<|Zac<|wm<|Vw (ZdI lk)<|fq<|fq<|Vw (Zaa lk (Zcf h1) gt3)<|Vw (ZbQ lk)<|?_
 refine ms<|wm<|Vw (Zbw lk lki)<|sn'<|?_
 refine cd' lk (fun hc1=>?_) (fun hc1=>?_)
 ·have hl0:0<l.length:=by omega
  refine wm<|Vw (ZdI lk)<|fq<|fq<|Vw (Zaa lk (Zcf h1) gt3)<|mw<|?_
  refine V' (Zbb lk lki om om) pt ?_
  refine V' (ZaW (k:=l.length-1) lk lk (Zcf h2) Za1 nb ro om (by first | rfl | (simp;done) | omega)) pt ?_
  refine V' (Zbc lk) pt ?_
  refine V' (v_ldOFA lk (Zcf h2) Za1 om nb ZdW rfl) pt ?_
  refine E' (Zak lk cv gx rfl nb rfl Zg4 hs0) ptn<|sr<|Zae<|Zad (rs1 (rr_c gt gx (ld1 Zdg rfl)))<|rT'<|?_
  rw[Zga hl0]
 have hl0:l=[]:=List.eq_nil_of_length_eq_zero om
 refine za<|wm<|Vw (ZdI lk)<|fq<|fq<|Vw (Zah lk (Zcf h1) Zdg rfl)<|E' (Zak lk cv gx rfl nb rfl Zg4 hs0) ptn<|sr<|Zad (rs1 (rr_c gt gx (ld1 Zdg rfl)))<|?_
 refine rT' ?_
 subst hl0;rfl
theorem mlast_r {F:Loc}{l:List Chg}{id q v0 ver ty ty2:Nat}{h:AH}(h1:h[id]?=some (.mk v0 ty 4 [iv F.1,iv F.2.1,sv F.2.2,.own q ver l.length])) (h2:h[q]?=some (.mk ver ty2 4 (rows chgC l))) (hl:l.length≤9223372036854775807) :
  ACalls Tryz.prog 107 [.ptr id v0 0] h fun x h'=>x=.ret (.agg [iv (Zeb F l).1,iv (Zeb F l).2.1,sv (Zeb F l).2.2])∧h'=h:=(mlast_o h1 h2 hl).mono fun _ _ e=>⟨e.2,e.1⟩
theorem Zmd (fm lt:ByteArray) (sa:Int):(Zfm fm lt sa).size≤2*fm.size+lt.size:=by
 unfold Zfm
 have h1:=ZhS (s:=fm) (p:=[47])
 have h2:=ZhS (s:=fm) (p:=[37,115])
 have e:(aB lt).length=lt.size:=rfl
 split
 ·split <;> (rw[ZfL];omega)
 split
 ·rw[ZfL,List.length_append,List.length_append,e];omega
 omega
theorem Zl8 {rl:List Rul}{f:Int} : ∀ (es:List Era) (prev:Option Int),(ZaZ rl f prev es).length≤1001*es.length
 | [],_=>by simp[ZaZ]
 | [x],prev=>by
  have h1:=Zgf (x:=x) (b:=ZbE prev f) (ZaK rl x)
  have h2:=Zcy (rl:=rl) (x:=x)
  rw[ZaZ,List.length_singleton];omega
 | x::y::es,prev=>by
  have h1:=Zgf (x:=x) (b:=ZbE prev f) (ZaK rl x)
  have h2:=Zcy (rl:=rl) (x:=x)
  have h3:=Zqe (eraG x (ZbE prev f) (ZaK rl x)) (endV x)
  have h4:=Zl8 (rl:=rl) (f:=f) (y::es) (some (endV x))
  rw[ZaZ,List.length_append,List.length_cons]
  split
  ·rw[List.length_nil];omega
  omega
theorem Zoc {rl:List Rul}{x:Era}{b:Int}(hx:ZbG (xFm x)=true) : ∀ c∈eraG x b (ZaK rl x),c.2.2.2.size≤72:=by
 have hf:=ZfE hx
 intro c hc
 rcases List.mem_cons.1 hc with rfl | hc
 ·have key : ∀ (l:List Tim) (sa:Int) (lt:ByteArray),(∀ t∈l,t.2.2.size≤24)→lt.size≤24→(ZcB sa lt l b).2.size≤24:=by
   intro l
   induction l with
   | nil=>intro _ _ _ h;exact h
   | cons t l ih =>
    intro sa lt hl h
    rw[ZcB]
    split
    ·exact ih _ _ (fun u hu=>hl u (by simp[hu])) (hl t (by simp))
    exact ih _ _ (fun u hu=>hl u (by simp[hu])) h
  have:=key (ZaK rl x) (xSv x) ⟨#[]⟩ (fun t ht=>(ZeY ht).2.2) (by decide)
  have h2:=Zmd (xFm x) (ZcB (xSv x) ⟨#[]⟩ (ZaK rl x) b).2 (ZcB (xSv x) ⟨#[]⟩ (ZaK rl x) b).1
  show (Zfm _ _ _).size≤72
  omega
 obtain⟨t,ht,rfl⟩:=List.mem_map.1 hc
 have h3:=(ZeY (List.mem_filter.1 ht).1).2.2
 have h2:=Zmd (xFm x) t.2.2 t.2.1
 show (Zfm _ _ _).size≤72
 omega
theorem ZpB {rl:List Rul}{f:Int} : ∀ {es:List Era}{prev:Option Int},(∀ x∈es,ZbG (xFm x)=true) → ∀ c∈ZaZ rl f prev es,c.2.2.2.size≤72
 | [],_,_,c,h=>by cases h
 | [x],prev,hx,c,h=>Zoc (hx x (by simp)) c h
 | x::y::es,prev,hx,c,h=>by
  rw[ZaZ] at h
  rcases List.mem_append.1 h with h | h
  ·split at h
   ·cases h
   exact Zoc (hx x (by simp)) c ((List.takeWhile_sublist _).subset h)
  exact ZpB (fun z hz=>hx z (by simp[hz])) c h
def ofP (a:List Rul) (es:List Era):Tab×Int:=tabR (stV (inP (ZaZ a tMin none es)))
theorem ZeX {e:AV}:Wk (.tup [.agg [.v (.int .i64 0),.v (.int .i64 0),.v (.string ⟨#[]⟩),.sl 0 0 true []],e]) (.tup [tabA ZfC,e]):=Wk.tup (wkw (Wk.agg (wk1 rfl (wk1 rfl (wk1 rfl (wkw Wk.nilF wk0))))) (wk1 rfl wk0))
theorem tof_a {a:List Rul}{z:List Zon}{k:List Lnk}{nm:ByteArray}{es:List Era}{h:AH}(hok:okRs a) (ha:a.length≤9223372036854775807) (hz:okZ es) (hne:inP (ZaZ a tMin none es)≠[]) :
  Ac 53 [.agg (srcB a z k),.agg [sv nm,.sl es.length 10 false (rows eraC es)]] h (.tup [tabA (ofP a es).1,iv (ofP a es).2]):=by
 have hlen:=hz.len
 have hpl:=Zl8 (rl:=a) (f:=tMin) es none
 have hps:=ZpB (rl:=a) (f:=tMin) (prev:=none) (es:=es) (fun x hx=>(hz.fm x hx).1)
 have hO:ofP a es=_:=tabR_st (.inr hne)
 have hparts : ∀ h:AH,ACalls Tryz.prog 103 [.agg (srcB a z k),.agg [sv nm,.sl es.length 10 false (rows eraC es)],iv tMin] h fun y h'=>h'=h∧y=.ret (.sl (ZaZ a tMin none es).length 4 false (rows chgC (ZaZ a tMin none es))):=fun h=>parts_a hok ha hz (by decide)
 generalize ZaZ a tMin none es=ps at hpl hps hne hO hparts
 refine tW' k53 fun N hn hlt _ hbd=>?_
 simp only[tb'] at hbd ⊢
 refine wr'<|E' (ZaR cv rfl hl0 ha0) pt<|E' (ZaR cv rfl hl1 ha1) pt<|E' (ZaT hl2 ha2) pt<|ms<|wr'<|Vw (Zaw Zvz)<|E' (ZaR cv rfl hl3 ha3) pt<|mw<|Zal<|?_
 refine Zam<|Zac<|Zac<|ZaJ<|Dw (Zah lk gx Zdg rfl)<|Dw (Zah lk gx Zke rfl)<|?_
 refine ZaD mp0 (fun hE hX=>ZnV) pt ?_
 refine ZaD mp (fun hE hX=>hparts _) pt ?_
 refine Dw (ZaC lk)<|Dw (v_mv lki)<|ZaM<|?_
 refine Za5 ?_
 refine Zal ?_
 refine ZaO (ALe.own0Cell (st':=4) (ty:=89) gx gt3 hl4 pt3 (Eq.trans (congrArg (fun z=>List.set z _ _) ha4) hs3)) ?_
 refine Zag ?_
 refine w_lp (ι:=Nat×Nat) (fun (x_:Nat×Nat)=>match x_ with | ⟨i,v⟩=>[(17,iv (i:Int)),(5,.any)]++rn' 7 3++rn' 18 47) (fun (x_:Nat×Nat)=>match x_ with | ⟨i,v⟩=>[(3,.mk 0 158 4 [iv (stV (ps.take i)).1.1,iv (stV (ps.take i)).1.2.1,sv (stV (ps.take i)).1.2.2,.own (N+4) v (stV (ps.take i)).2.length]),(4,.mk v 89 4 (rows chgC (stV (ps.take i)).2))]) (fun (x_:Nat×Nat)=>match x_ with | ⟨i,v⟩=>i≤ps.length∧(∀ c∈ps.take i,c.1≤tMax)∧Zb0 (ps.take i)=0) (fun (x_:Nat×Nat)=>match x_ with | ⟨i,v⟩=>ps.length-i) (⟨0,0⟩) (by exact⟨Nat.zero_le _,⟨fun c hc=>(by cases hc),rfl⟩⟩) ?_
 rintro⟨i,v⟩ hi1
 try simp only[sm',Nat.reduceAdd]
 obtain⟨hi1,hi2,hi3⟩:=hi1
 refine wr'<|Vw (ZaL lk lk)<|sn'<|Zac<|?_
 refine cd' lk (fun hc1=>?_) (fun hc1=>?_)
 ·have hi:i<ps.length:=by omega
  have hsz:=hps _ (List.getElem_mem hi)
  have hsl:=ZsS (ps.take i)
  rw[List.length_take] at hsl
  have htk:=List.take_succ_eq_append_getElem hi
  refine za<|Zac<|Zag<|wm<|?_
  refine V' (ZaF lk lk Za1 nb ro om ro rfl) pt ?_
  refine Vw (Zau lk ZmY rfl)<|E' (ZaT hl5 ha5) pt<|mw<|E' (Zak lk cv gx rfl nb rfl Zcz hs5) ptn<|sn'<|Zac<|Zac<|ZaJ<|dg<|Dw (Zaa lk gx gt0)<|?_
  refine ZaD mp0 (fun hE hX=>most_a) pt ?_
  refine Dw (Zbw lk lk)<|ZaM<|?_
  refine Za5 ?_
  refine sn' ?_
  refine cd' lk (fun hc2=>?_) (fun hc2=>?_)
  ·have hP:inP ps=ps.take i:=ZpX hi2 (fun hh=>by simp only[tMax];omega)
   refine Zay<|Zas<|x_pas (Nat.ne_of_beq_eq_false rfl)<|Zas<|Zas<|ZaI<|Zam<|Zac<|wm<|Vw (ZdI lk)<|fq<|fq<|?_
   refine Vw (Zaa lk gx gt3)<|Vw (ZbQ lk)<|Vw (Zbw lk lki)<|sn'<|?_
   refine cd' lk (fun hc6=>?_) (fun hc6=>?_)
   ·rw[hP,hi3,if_neg (by simp),if_pos om] at hO
    refine wr'<|Vw (Zaw Zkf)<|E' (Zak lk cv gx rfl nb rfl Zcz hs2) ptn<|mr<|Zae<|Zad (rsn (rm1 (rr_c gt gx (ld1 Zcl rfl)) (rm1 (rr_t gt) rm0)))<|rtW'<|?_
    rw[hO];exact ZeX
   rw[hP,hi3,if_neg (by simp),if_neg om] at hO
   refine ZaB ?_
   refine ZaO (ALe.iceCellR (hga hn rfl) (hga hn rfl) om gt3 (List.take_of_length_le (by rw[Zbx];exact Nat.le_refl _)) (by rw[Zbx];exact Nat.le_refl _) pt3 hs4 hs3) ?_
   refine wm<|Vw (ZdI lk)<|fq<|Vw (Zah lk gx Zcl rfl)<|E' (Zak lk cv gx rfl nb rfl Zcz hs2) ptn<|mr<|Zad (rsn (rm1 (rr_c gt gx (ld1 Zcl rfl)) (rm1 (rr_t gt) rm0)))<|rtW'<|?_
   rw[hO];exact Wk.tup (wkw (Wk.agg (wk1 rfl (wk1 rfl (wk1 rfl (wkw Wk.full wk0))))) (wk1 rfl wk0))
  refine za<|Zac<|wr'<|fq<|Vw (Zah lk gx ZdW rfl)<|?_
  refine Zab mp (ZnT (by simp only[maxLen];omega)) pt ?_
  refine ms<|wm<|Vw (Za0 lk lki)<|sn'<|?_
  refine cd' lk (fun hc3=>?_) (fun hc3=>?_)
  ·have hlE:locE ps[i].2≠0:=hc3
   have hE:=Zt4 hi hi2 (by simp only[tMax];omega) hi3 hlE
   rw[hE,if_pos hlE] at hO
   refine wr'<|Vw (Zaw ZrE)<|mw<|E' (Zak lk cv gx rfl nb rfl Zcz hs2) ptn<|mr<|Zae<|Zao<|Zae<|Zae<|Zao<|?_
   refine Zae<|Zad (rsn (rm1 (rr_c gt gx (ld1 Zcl rfl)) (rm1 (rr_t gt) rm0)))<|rtW'<|?_
   rw[hO];exact ZeX
  have hlE:locE ps[i].2=0:=Decidable.of_not_not hc3
  have hlE2:Zb0 (ps.take (i+1))=0:=by rw[htk,Zf9 hi3];exact hlE
  have hle2 : ∀ c∈ps.take (i+1),c.1≤tMax:=fun c hc=>by rw[htk] at hc;rcases List.mem_append.1 hc with hc | hc;exact hi2 c hc;simp only[List.mem_singleton] at hc;subst hc;simp only[tMax];omega
  refine za<|Zag<|wm<|Vw (Za2 lk lki)<|ms<|?_
  refine cd' lk (fun hc4=>?_) (fun hc4=>?_)
  ·obtain rfl:i=0:=by omega
   have hS:stV (ps.take (0+1))=(ps[0].2,[]):=by rw[htk];rfl
   refine Zaq<|mw<|fq<|Vw (Zah lk gx ZdW rfl)<|Vw (ZdI lk)<|fq<|fq<|E' (Zak lk cv gx rfl nb rfl Zg4 hs3) ptn<|Zal<|Zav<|Zav<|Zam<|Zaq<|?_
   refine ad<|mw<|Zal<|Zaz<|?_
   refine lU' (⟨0+1,v⟩) (by (try dsimp only);exact⟨by omega,hle2,hlE2⟩) (by refine zz ?_;exact bk' 5 hn hlt (by rw[hS];rfl) (hT:=by simp[AV.lt,AV.ltL,Ent.lt]) (hE:=by simp[AV.lt,AV.ltL,Ent.lt]))
  have hnt:ps.take i≠[]:=List.ne_nil_of_length_pos (by rw[List.length_take];omega)
  have hS:=stV_snoc (c:=ps[i]) hnt
  rw[←htk] at hS
  refine Zac<|w_orl<|Zst [N+5]<|dg<|?_
  refine d_ldP lk gx (ld1 ZdW rfl) (by simp) pt ?_
  refine Dw vm<|ZaM<|ZnW<|?_
  refine k_call mp (mlast_r (F:=(stV (ps.take i)).1) (l:=(stV (ps.take i)).2) gx gx om) (by intro i hi;simp only[cond_true,List.mem_cons,List.not_mem_nil,or_false] at hi;subst hi;first | rfl | exact (hga hn rfl).trans (hga hn rfl).symm) pt ?_
  refine k_val rfl (ZfR lk lk ZoO) pt<|k_val rfl vm pt<|k_nil<|Zam<|?_
  refine cd' lk (fun hc5=>?_) (fun hc5=>?_)
  ·have hne5:¬ps[i].2=Zeb (stV (ps.take i)).1 (stV (ps.take i)).2:=fun e=>hc5 (by rw[e];exact⟨rfl,rfl,rfl⟩)
   rw[if_neg hne5] at hS
   refine ZaJ<|Dw vm<|Dw vm<|Dw (ZdI lk)<|dg<|dg<|Dw (Zaa lk gx gt3)<|dg<|Dw (Zaa lk gx gt0)<|dg<|Dw (Zah lk gx ZdW rfl)<|Dw (Zaw (ZrD cv rfl cv rfl))<|Zc3 rfl rfl (hlk hn rfl) (Zgb (ZrC cv rfl)) pt Zvy<|ZaM<|?_
   refine Zc2 ZrB ?_
   refine E' (ZbH (Zbn lk gx rfl ZmY nb) lk gx (Zbx _) om rfl hs4) pt ?_
   refine Vw (ZdI lk)<|fq<|fq<|E' (Zak lk cv gx rfl nb rfl Zrz hs3) ptn<|Zal<|Zav<|Zav<|Zam<|Zaq<|?_
   refine ad<|mw<|Zal<|Zaz<|?_
   refine lU' (⟨i+1,v+1⟩) (by (try dsimp only);exact⟨by omega,hle2,hlE2⟩) (by refine zz ?_;exact bk' 5 hn hlt (by rw[hS,List.length_append,ZaH,Zbs];rfl) (hT:=by simp[AV.lt,AV.ltL,Ent.lt]) (hE:=by simp[AV.lt,AV.ltL,Ent.lt]))
  have hne5:ps[i].2=Zeb (stV (ps.take i)).1 (stV (ps.take i)).2:=by obtain⟨x1,x2,x3⟩:=Decidable.of_not_not hc5;exact Prod.ext x1 (Prod.ext x2 x3)
  rw[if_pos hne5,List.append_nil] at hS
  refine ZaB<|Zav<|Zav<|Zam<|Zaq<|?_
  refine ad<|mw<|Zal<|Zaz<|?_
  refine lU' (⟨i+1,v⟩) (by (try dsimp only);exact⟨by omega,hle2,hlE2⟩) (by refine zz ?_;exact bk' 5 hn hlt (by rw[hS];rfl) (hT:=by simp[AV.lt,AV.ltL,Ent.lt]) (hE:=by simp[AV.lt,AV.ltL,Ent.lt]))
 have hP:inP ps=ps.take i:=ZpX hi2 (fun hh=>absurd hh om)
 have hsl:=ZsS (ps.take i)
 rw[List.length_take] at hsl
 refine Zay<|Zas<|Zas<|ZaI<|Zam<|Zac<|wm<|Vw (ZdI lk)<|fq<|fq<|Vw (Zaa lk gx gt3)<|Vw (ZbQ lk)<|?_
 refine Vw (Zbw lk lki)<|sn'<|?_
 refine cd' lk (fun hc6=>?_) (fun hc6=>?_)
 ·rw[hP,hi3,if_neg (by simp),if_pos om] at hO
  refine wr'<|Vw (Zaw Zkf)<|E' (Zak lk cv gx rfl nb rfl Zcz hs2) ptn<|mr<|Zae<|Zad (rsn (rm1 (rr_c gt gx (ld1 Zcl rfl)) (rm1 (rr_t gt) rm0)))<|rtW'<|?_
  rw[hO];exact ZeX
 rw[hP,hi3,if_neg (by simp),if_neg om] at hO
 refine ZaB ?_
 refine ZaO (ALe.iceCellR (hga hn rfl) (hga hn rfl) om gt3 (List.take_of_length_le (by rw[Zbx];exact Nat.le_refl _)) (by rw[Zbx];exact Nat.le_refl _) pt3 hs4 hs3) ?_
 refine wm<|Vw (ZdI lk)<|fq<|Vw (Zah lk gx Zcl rfl)<|E' (Zak lk cv gx rfl nb rfl Zcz hs2) ptn<|mr<|Zad (rsn (rm1 (rr_c gt gx (ld1 Zcl rfl)) (rm1 (rr_t gt) rm0)))<|rtW'<|?_
 rw[hO];exact Wk.tup (wkw (Wk.agg (wk1 rfl (wk1 rfl (wk1 rfl (wkw Wk.full wk0))))) (wk1 rfl wk0))
theorem comp_a {a:List Rul}{z:List Zon}{k:List Lnk}{nm:ByteArray}{h:AH}(hok:Zf8 (a,z,k)) :
  Ac 27 [.agg (srcB a z k),sv nm] h (.tup [tabA (ZiB (a,z,k) nm).1,iv (ZiB (a,z,k) nm).2]):=by
 refine tW' k27 fun N hn _ _ hbd=>?_
 simp only[tb'] at hbd ⊢
 refine wr'<|E' (ZaR cv rfl hl0 ha0) pt<|E' (ZaT hl1 ha1) pt<|ms<|wr'<|Vw (Zah lk gx Zdg rfl)<|mw<|Zab mp (zfind_a hok) pt<|mw<|Vw (ZaS lk gt)<|?_
 refine Vw (ZaS lk gt)<|E' (ZaT hl2 ha2) pt<|E' (Zak lk cv gx rfl nb rfl ZrA hs2) ptn<|ms<|Zac<|wm<|Vw (Za0 lk lki)<|sn'<|?_
 refine cd' lk (fun hc1=>?_) (fun hc1=>?_)
 ·have hF:ZiB (a,z,k) nm=(ZfC,(Zcp (a,z,k) nm).2):=if_pos hc1
  refine wr'<|Vw (Zaw ZiU)<|mw<|E' (Zak lk cv gx rfl nb rfl Zcz hs1) ptn<|mr<|Zae<|Zad (rsn (rm1 (rr_c gt gx (ld1 Zcl rfl)) (rm1 (rr_t gt) rm0)))<|rtW'<|?_
  rw[hF];exact ZeX
 have hf0:(Zcp (a,z,k) nm).2=0:=Decidable.of_not_not hc1
 obtain⟨hz0,hm,_⟩:=Zuq hf0
 have hE:=Ze8 hz0
 have hal:=(Zci hE).1
 simp only at hal
 obtain⟨⟨pl,hpl⟩,_⟩:=ZkT hz0 hm tMin
 have hne:inP (ZaZ a tMin none (Zcp (a,z,k) nm).1.2)≠[]:=by rw[show ZaZ a tMin none (Zcp (a,z,k) nm).1.2=_ from hpl];unfold inP;rw[List.takeWhile_cons,if_pos (decide_eq_true (by show tMin≤tMax;decide))];simp
 have hF:ZiB (a,z,k) nm=ofP a (Zcp (a,z,k) nm).1.2:=by unfold ZiB;rw[if_neg hc1];unfold ofV ofP;rw[←Zh3 hz0 hm]
 refine za<|wr'<|Vw (Zah lk gx Zdg rfl)<|Vw (Zah lk gx Zke rfl)<|?_
 refine Zab mp (tof_a (Zij hok) om (Zdd hE hm) hne) pt ?_
 refine Vw (ZaS lk gt)<|Vw (ZaS lk gt)<|E' (Zak lk cv gx rfl nb rfl Zcz hs1) ptn<|mr<|Zad (rsn (rm1 (rr_c gt gx (ld1 Zcl rfl)) (rm1 (rr_t gt) rm0)))<|rtW'<|?_
 rw[hF];exact Wk.refl _
end
section
open Go.Ab Go.RowKit Civ
attribute [local simp] ZbR Zcg Zb1 ZbM Zbu Zdq Zdt tms_lt
section
theorem Zb5 {a0 a1 a2:AV}{l:List AV}:((a0::a1::a2::l).drop 0).take 3=[a0,a1,a2]:=rfl
theorem Zru {a0 a1:AV}{l:List AV}:((a0::a1::l).drop 0).take 2=[a0,a1]:=rfl
theorem ZdU {a0 a1 a2 a3 c0 c1 c2 c3:AV}{l:List AV}:setCells (a0::a1::a2::a3::l) 0 [c0,c1,c2,c3]=c0::c1::c2::c3::l:=rfl
theorem ZiT {τ:Operand→AV}{y0:Operand}{x0_0:AV}(h0:Zap (τ y0)=some [x0_0]) (l0:[x0_0].all leaf=true):Zan τ [(0,1,y0)] [(iv 0)]=some [x0_0]:=by
 simp only[Zan,h0,l0]
 rfl
theorem Zvx {a0:AV}{l:List AV}:(a0::l).take 1=[a0]:=rfl
theorem Zdf {a0 a1 a2 a3:AV}{l:List AV}:((a0::a1::a2::a3::l).drop 0).take 4=[a0,a1,a2,a3]:=rfl
theorem ZiS {τ:Operand→AV}{y0:Operand}{x0_0 x0_1 x0_2:AV}(h0:Zap (τ y0)=some [x0_0,x0_1,x0_2]) (l0:[x0_0,x0_1,x0_2].all leaf=true):Zan τ [(0,3,y0)] [(iv 0),(iv 0),(.v (.string ⟨#[]⟩)),(.sl 0 0 true [])]=some [x0_0,x0_1,x0_2,(.sl 0 0 true [])]:=by
 simp only[Zan,h0,l0]
 rfl
theorem Zgx { e:Ent}:([]:AH)++[e]=[e]:=rfl
theorem Zrw {e0 e1 e2 e3 e4 d0:Ent}:([e0,e1,e2,e3,e4]:AH)++[d0]=[e0,e1,e2,e3,e4,d0]:=rfl
theorem Zfe {a0 a1 a2 c0 c1 c2:AV}{l:List AV}:setCells (a0::a1::a2::l) 0 [c0,c1,c2]=c0::c1::c2::l:=rfl
theorem Zrv {e0 e1 e2 e3 e4 e5 e6 e7 d0:Ent}:([e0,e1,e2,e3,e4,e5,e6,e7]:AH)++[d0]=[e0,e1,e2,e3,e4,e5,e6,e7,d0]:=rfl
theorem ZoM {a0 b0:Int}{a1 b1:Int}{a2 b2:ByteArray}:Za3 [.int,.int,.str] [iv a0,iv a1,sv a2] [iv b0,iv b1,sv b2]=some (decide (a0=b0∧a1=b1∧a2=b2)):=by
 simp only[Za3,ZcF,if_true,ZbO,Option.some.injEq]
 simp only[Bool.decide_and,Bool.and_true]
 try (congr 1 <;> simp)
 try rfl
theorem Zev {τ:Operand→AV}{y0 y1:Operand}{x0_0 x1_0 x1_1 x1_2:AV}(h0:Zap (τ y0)=some [x0_0]) (l0:[x0_0].all leaf=true) (h1:Zap (τ y1)=some [x1_0,x1_1,x1_2]) (l1:[x1_0,x1_1,x1_2].all leaf=true):Zan τ [(0,1,y0),(1,3,y1)] [(iv 0),(iv 0),(iv 0),(.v (.string ⟨#[]⟩))]=some [x0_0,x1_0,x1_1,x1_2]:=by
 simp only[Zan,h0,l0,h1,l1]
 rfl
theorem Zeu {τ:Operand→AV}{y0:Operand}{x0_0 x0_1 x0_2 x0_3:AV}(h0:Zap (τ y0)=some [x0_0,x0_1,x0_2,x0_3]) (l0:[x0_0,x0_1,x0_2,x0_3].all leaf=true):Zan τ [(0,4,y0)] [(iv 0),(iv 0),(iv 0),(.v (.string ⟨#[]⟩))]=some [x0_0,x0_1,x0_2,x0_3]:=by
 simp only[Zan,h0,l0]
 rfl
theorem Zkc {e0 e1 e2 e3 e4 e5 e6 e7 e8 d0:Ent}:([e0,e1,e2,e3,e4,e5,e6,e7,e8]:AH)++[d0]=[e0,e1,e2,e3,e4,e5,e6,e7,e8,d0]:=rfl
theorem ZmT {a0 a1 a2 a3:AV}{l:List AV}:(a0::a1::a2::a3::l).take 4=[a0,a1,a2,a3]:=rfl
theorem Zkb {a0 a1 a2 a3 c0:AV}{l:List AV}:setCells (a0::a1::a2::a3::l) 3 [c0]=a0::a1::a2::c0::l:=rfl
theorem Zet {τ:Operand→AV}:Zan τ [] [(iv 0),(iv 0),(.v (.string ⟨#[]⟩)),(.sl 0 0 true [])]=some [(iv 0),(iv 0),(.v (.string ⟨#[]⟩)),(.sl 0 0 true [])]:=rfl
end
def c56:AC:=(Sr [Oo 2 (.box 53 3 (t 0)),Oo 3 (.box 94 2 (t 1)),Oo 4 (.new 38 4 [(iv 0),(iv 0),Ss,nl]),Mc 5 0] (Sr [Oo 17 (.load true 3 (t 2)),Oo 18 (.load true 2 (t 3)),Cl 19 111 [(t 17),(t 18)],Oo 6 (.new 171 4 [Ss,nl,nl,nl]),⟨none,none,(.store 4 (t 6) (t 19))⟩] (Sr [Oo 7 (.mv (.const (.slice none 0 0)))] (.seq (Sr [Mc 8 0] (.block 0 (.loop (.seq (Sr [Mv 20 8,Fa 21 3 6,Ld 22 21,Oo 23 (.len false (t 22)),Bn 24 .lss 20 23] (Cd 24 .skip (.exit 0))) (.seq (.block 1 (Sr [Mc 9 0] (.block 2 (.loop (.seq (Sr [Mv 27 9,Fa 28 3 6,Ld 29 28,Mv 30 8,Oo 31 (.ia 1 (t 29) (t 30)),Ld 32 31,Oo 33 (.len false (t 32)),Bn 34 .lss 27 33] (Cd 34 .skip (.exit 2))) (.seq (.block 3 (.reg [Mv 37 7,Fa 38 3 6,Ld 39 38,Mv 40 8,Oo 41 (.ia 1 (t 39) (t 40)),Ld 42 41,Mv 43 9,Oo 44 (.ia 3 (t 42) (t 43)),Fa 45 0 44,Ld 46 45,Oo 47 (.lit 3 1 1 [(iv 0)] [(0,(1,(t 46)))]),Oo 48 (.app 3 1 8 (t 37) (t 47)),Mv 7 48])) (.reg [Mv 35 9,Bc 36 .add 35 1,Mv 9 36]))))))) (.reg [Mv 25 8,Bc 26 .add 25 1,Mv 8 26])))))) (Sr [Mv 49 7,Fa 50 2 6,Ld 51 50,Oo 52 (.app 3 1 8 (t 49) (t 51)),Mv 7 52] (.seq (Sr [Mc 10 1] (.block 4 (.loop (.seq (Sr [Mv 53 10,Mv 54 7,Oo 55 (.len false (t 54)),Bn 56 .lss 53 55] (Cd 56 .skip (.exit 4))) (.seq (.block 5 (Sr [Mv 59 10,Mv 11 59] (.block 6 (.loop (.seq (Sd [Mv 60 11,Bc 61 .gtr 60 0,Mv 62 61,Ot 63 62 (mt 7),Ot 64 62 (mt 11),Ot 65 62 (.ia 1 (t 63) (t 64)),Ot 66 62 (.load false 1 (t 65)),Ot 67 62 (mt 7),Ot 68 62 (mt 11),Ot 69 62 (.bin .sub (t 68) (Ci 1)),Ot 70 62 (.ia 1 (t 67) (t 69)),Ot 71 62 (.load false 1 (t 70)),Ot 72 62 (.bin .lss (t 66) (t 71)),Oo 73 (.pick (t 62) (t 72) (.const (.bool false)))] (Cd 73 .skip (.exit 6))) (.seq (.block 7 (.drw [Mv 76 7,Mv 77 11,Mv 78 7,Mv 79 11,Bc 80 .sub 79 1,Mv 81 7,Mv 82 11,Bc 83 .sub 82 1,Oo 84 (.ia 1 (t 81) (t 83)),Ld 85 84,Mv 86 7,Mv 87 11,Oo 88 (.ia 1 (t 86) (t 87)),Ld 89 88,Oo 90 (.ia 1 (t 76) (t 77))] [false,false,false] [Sc 90 85,Oo 91 (.ia 1 (t 78) (t 80)),Sc 91 89])) (.reg [Mv 74 11,Bc 75 .sub 74 1,Mv 11 75]))))))) (.reg [Mv 57 10,Bc 58 .add 57 1,Mv 10 58])))))) (.seq (.drw [Oo 92 (.load true 4 (t 6)),Cl 93 113 [],Cl 94 112 [(t 92),(t 93)],Oo 95 (.build [(iv 0),(iv 0),Ss,nl] [(0,(3,(t 94)))]),Oo 12 (.new 38 4 [(iv 0),(iv 0),Ss,nl])] [false] [⟨none,none,(.store 4 (t 12) (t 95))⟩]) (Sr [Fa 96 0 12,Oo 97 (.load true 3 (t 96)),Oo 13 (.new 35 3 [(iv 0),(iv 0),Ss]),⟨none,none,(.store 3 (t 13) (t 97))⟩] (Sr [Oo 98 (.load true 3 (t 13)),Cl 99 114 [(t 98)],Mv 14 99] (.seq (Sr [Mc 15 0] (.block 8 (.loop (.seq (Sr [Mv 100 15,Mv 101 7,Oo 102 (.len false (t 101)),Bn 103 .lss 100 102] (Cd 103 .skip (.exit 8))) (.seq (.block 9 (.seq (Sd [Mv 106 7,Mv 107 15,Oo 108 (.ia 1 (t 106) (t 107)),Ld 109 108,Cl 110 113 [],Bn 111 .leq 109 110,Mv 112 111,Of 113 112 (mt 7),Of 114 112 (mt 15),Of 115 112 (.ia 1 (t 113) (t 114)),Of 116 112 (.load false 1 (t 115)),Of 117 112 (.call (.func 115) []),Of 118 112 (.bin .gtr (t 116) (t 117)),Oo 119 (.pick (t 112) (.const (.bool true)) (t 118))] (Cd 119 (.exit 9) .skip)) (.seq (.drw [Oo 120 (.load true 4 (t 6)),Mv 121 7,Mv 122 15,Oo 123 (.ia 1 (t 121) (t 122)),Ld 124 123,Cl 125 112 [(t 120),(t 124)],Oo 16 (.new 35 3 [(iv 0),(iv 0),Ss])] [false] [⟨none,none,(.store 3 (t 16) (t 125))⟩]) (.seq (Sr [Oo 126 (.load true 3 (t 16)),Oo 127 (.load true 3 (t 13)),Oo 128 (.eqs false [.int,.int,.str] (t 126) (t 127))] (Cd 128 (.exit 9) .skip)) (.seq (Sr [Mv 129 14,Bc 130 .eql 129 0] (Cd 130 (.reg [Oo 131 (.load true 3 (t 16)),Cl 132 114 [(t 131)],Mv 14 132]) .skip)) (.seq (.drw [Fa 133 3 12,Ld 134 133,Mv 135 7,Mv 136 15,Oo 137 (.ia 1 (t 135) (t 136)),Ld 138 137,Oo 139 (.load true 3 (t 16)),Oo 140 (.build [(iv 0),(iv 0),(iv 0),Ss] [(0,(1,(t 138))),(1,(3,(t 139)))]),Oo 141 (.lit 89 4 1 [(iv 0),(iv 0),(iv 0),Ss] [(0,(4,(t 140)))])] [false,false,false] [Oo 142 (.app 89 4 40 (t 134) (t 141)),Fa 143 3 12,Sc 143 142]) (.reg [Oo 144 (.load true 3 (t 16)),⟨none,none,(.store 3 (t 13) (t 144))⟩]))))))) (.reg [Mv 104 15,Bc 105 .add 104 1,Mv 15 105])))))) (.seq (Sr [Mv 145 14,Bc 146 .eql 145 0,Mv 147 146,Ot 148 147 (.fa 3 (t 12)),Ot 149 147 (.load false 1 (t 148)),Ot 150 147 (.len false (t 149)),Ot 151 147 (.bin .gtr (t 150) (Ci 1000)),Oo 152 (.pick (t 147) (t 151) (.const (.bool false)))] (Cd 152 (.reg [Mc 14 2]) .skip)) (.seq (Sr [Mv 153 14,Bc 154 .neq 153 0] (Cd 154 (Sr [Oo 155 (.build [(iv 0),(iv 0),Ss,nl] []),Mv 156 14,⟨none,none,(.store 4 (t 4) (t 155))⟩,Mv 5 156] .ret) .skip)) (Sr [Oo 157 (.load true 4 (t 12)),⟨none,none,(.store 4 (t 4) (t 157))⟩,Mc 5 0] .ret)))))))))))))
theorem k56:ZaA Tryz.prog 56=some ⟨c56,[(.cell 4 true 4),(.tmp 5)],158⟩:=by kernel_rfl
theorem Zqb {rl:List Rul}{x:Era}{b:Int}(hx:ZbG (xFm x)=true):(Zfn rl x b).2.2.size≤72 :=
 Zoc (rl:=rl) (b:=b) hx (b,Zfn rl x b) List.mem_cons_self
theorem ZsD {rl:List Rul}{n:Int} : ∀ {es:List Era},(∀ x∈es,ZbG (xFm x)=true)→(Za6 rl es n).2.2.size≤72
 | [],_=>by show (0:Nat)≤72;omega
 | [x],h=>Zqb (h x (by simp))
 | x::y::es,h=>by
  rw[Za6]
  split
  ·exact ZsD fun z hz=>h z (by simp[hz])
  exact Zqb (h x (by simp))
def ZnA (a:List Rul) (es:List Era):List Int:=es.flatMap fun x=>(ZaK a x).map (·.1)
theorem ZlQ (a:List Rul) : ∀ es:List Era,(ZnA a es).length=cntV a es
 | []=>rfl
 | x::es=>by unfold ZnA;rw[List.flatMap_cons,List.length_append,List.length_map,cntV];exact congrArg _ (ZlQ a es)
theorem Zqx (a:List Rul) (es:List Era) (x:Era):ZnA a (es++[x])=ZnA a es++(ZaK a x).map (·.1):=by
 unfold ZnA;rw[List.flatMap_append,List.flatMap_cons,List.flatMap_nil,List.append_nil]
theorem inT_no1 {x:Int}(h:x≤tMin):inT x=false:=decide_eq_false om
theorem inT_no2 {x:Int}(h:tMax<x):inT x=false:=decide_eq_false om
theorem inT_yes {x:Int}(h1:¬x≤tMin) (h2:¬tMax<x):inT x=true:=decide_eq_true om
theorem take1_pw {r:Int→Int→Prop}(l:List Int):(l.take 1).Pairwise r:=by cases l <;> simp
theorem leI_tot (a b:Int):a≤b∨b≤a:=by omega
theorem leI_tr (a b c:Int):a≤b→b≤c→a≤c:=by omega
theorem ZqB {a:List Rul}{z:List Zon}{k:List Lnk}{nm:ByteArray}{es:List Era}{h:AH}(hok:okRs a) (ha:a.length≤9223372036854775807) (hz:okZ es) :
  Ac 56 [.agg (srcB a z k),.agg [sv nm,.sl es.length 10 false (rows eraC es)]] h (.tup [tabA (tabR (Zdl a es)).1,iv (tabR (Zdl a es)).2]):=by
 have hlen:=hz.len
 have hel:=ZcG es
 have htsz : ∀ n,(Za6 a es n).2.2.size≤maxLen:=fun n=>by have:=ZsD (rl:=a) (n:=n) (es:=es) (fun x hx=>(hz.fm x hx).1);simp only[maxLen];omega
 refine tW' k56 fun N hn hlt _ hbd=>?_
 simp only[tb'] at hbd ⊢
 refine wr'<|E' (ZaR cv rfl hl0 ha0) pt<|E' (ZaR cv rfl hl1 ha1) pt<|E' (ZaT hl2 ha2) pt<|ms<|wr'<|Vw (Zah lk gx Zb5 rfl)<|Vw (Zah lk gx Zru rfl)<|Zab mp (rtell_a hok ha hz) pt<|E' (ZaT hl3 ha3) pt<|?_
 refine E' (Zak lk6 (cvl lk19 rfl) gx rfl nb rfl ZdU hs3) ptn<|sn'<|wr'<|mv' lkn pt7<|Zal<|ZaO (ALe.own0' (st':=1) (ty:=3) gt7 hl4 pt7 ha4)<|Zac<|wr'<|mv' lki pt8<|sn'<|?_
 refine Zag ?_
 refine w_lp (ι:=Nat×List Int×Nat) (fun (x_:Nat×List Int×Nat)=>match x_ with | ⟨kk,L,v⟩=>[(7,.own (N+4) v L.length),(8,iv (kk:Int)),(9,.any)]++rn' 20 29) (fun (x_:Nat×List Int×Nat)=>match x_ with | ⟨kk,L,v⟩=>[(4,.mk v 3 1 (rows intC L))]) (fun (x_:Nat×List Int×Nat)=>match x_ with | ⟨kk,L,v⟩=>kk≤es.length∧L=ZnA a (es.take kk)) (fun (x_:Nat×List Int×Nat)=>match x_ with | ⟨kk,L,v⟩=>es.length-kk) (⟨0,[],0⟩) (by exact⟨Nat.zero_le _,rfl⟩) ?_
 rintro⟨kk,L,v⟩ hi1
 try simp only[sm',Nat.reduceAdd]
 obtain⟨hk1,hk2⟩:=hi1
 have hL1:=ZlQ a (es.take kk)
 have hL2:=Zok a (es.take kk)
 rw[List.length_take] at hL2
 rw[←hk2] at hL1
 refine Zac<|wm<|fq<|Vw (Zaa lk gx gt3)<|Vw (ZaC lk)<|Vw (ZaL lk lk)<|sn'<|?_
 refine cd' lk (fun hc1=>?_) (fun hc1=>?_)
 ·have hk:kk<es.length:=by omega
  have htl:=Zcy (rl:=a) (x:=es[kk])
  refine za<|Zac<|Zag<|wk'<|Zag<|?_
  refine w_lp (ι:=Nat×List Int×Nat) (fun (x_:Nat×List Int×Nat)=>match x_ with | ⟨j,M,w⟩=>[(7,.own (N+4) w M.length),(9,iv (j:Int))]++rn' 27 22) (fun (x_:Nat×List Int×Nat)=>match x_ with | ⟨j,M,w⟩=>[(4,.mk w 3 1 (rows intC M))]) (fun (x_:Nat×List Int×Nat)=>match x_ with | ⟨j,M,w⟩=>j≤(ZaK a es[kk]).length∧M=L++((ZaK a es[kk]).take j).map (·.1)) (fun (x_:Nat×List Int×Nat)=>match x_ with | ⟨j,M,w⟩=>(ZaK a es[kk]).length-j) (⟨0,L,v⟩) (by exact⟨Nat.zero_le _,by simp⟩) ?_
  rintro⟨j,M,w⟩ hi2
  try simp only[sm',Nat.reduceAdd]
  obtain⟨hj1,hj2⟩:=hi2
  have hM1:M.length=L.length+j:=by rw[hj2,List.length_append,List.length_map,List.length_take];omega
  refine Zac<|wm<|fq<|Vw (Zaa lk gx gt3)<|mw<|?_
  refine V' (ZaF lk lk Zd1 nb ro om ro rfl) pt ?_
  refine Vw (Zar lk gt)<|Vw (ZaC lk)<|Vw (ZaL lk lk)<|sn'<|?_
  refine cd' lk (fun hc2=>?_) (fun hc2=>?_)
  ·have hj:j<(ZaK a es[kk]).length:=by omega
   refine za<|Zac<|Zag<|Zaq<|mw<|fq<|Vw (Zaa lk gx gt3)<|mw<|?_
   refine V' (ZaF lk lk Zd1 nb ro om ro rfl) pt ?_
   refine Vw (Zar lk gt)<|mw<|?_
   refine V' (ZaF lk lk Zda nb ro om ro rfl) pt ?_
   refine Vw (ZaQ lk dp0)<|Vw (Zar lk gt)<|E' (Zcm (ZiT cv rfl) hl5 ha5) pt<|?_
   refine E' (ZbH (Zbn lk gx rfl Zvx nb) lk gx (ZdH _) om rfl hs4) pt ?_
   refine mw<|Zal<|Zav<|Zam<|Zaq<|mw<|?_
   refine ad<|mw<|Zal<|Zaz<|?_
   refine lU' (⟨j+1,M++[(ZaK a es[kk])[j].1],w+1⟩) (by (try dsimp only);exact⟨by omega,by rw[List.take_succ_eq_append_getElem hj,List.map_append,←List.append_assoc,←hj2];rfl⟩) (by refine zz ?_;exact bkE' 5 hn hlt (by repeat (first | exact wk0 | refine wka ?_ | refine wk1 rfl ?_ | refine wk1 (by first | rfl | exact ivx om | (rw[List.length_append];rfl)) ?_)) (by rw[ZaH,Zbs];rfl) (hT:=by simp[AV.lt,AV.ltL,Ent.lt]) (hE:=by simp[AV.lt,AV.ltL,Ent.lt]))
  refine Zay<|Zas<|Zas<|ZaI<|Zav<|Zam<|Zaq<|mw<|?_
  refine ad<|mw<|Zal<|Zaz<|?_
  refine lT' (⟨kk+1,M,w⟩) (by (try dsimp only);exact⟨by omega,by rw[hj2,List.take_of_length_le (show (ZaK a es[kk]).length≤j by omega),List.take_succ_eq_append_getElem hk,Zqx,←hk2]⟩)
 have hL3:L=ZnA a es:=by rw[hk2,List.take_of_length_le om]
 refine Zay<|Zas<|Zas<|ZaI<|Zam<|wm<|fq<|Vw (Zaa lk gx gt2)<|?_
 refine E' (ZbH (ZkK lk (ZdH _)) lk gx (ZdH _) om (int_leaf _) hs4) pt ?_
 refine ms<|Zac<|wk'<|Zag<|?_
 refine Zds (ι:=Nat×List Int×Nat) (fun (x_:Nat×List Int×Nat)=>match x_ with | ⟨i,M,w⟩=>[(7,.own (N+4) w M.length),(10,iv (i:Int)),(11,.any)]++rn' 53 39) (fun (x_:Nat×List Int×Nat)=>match x_ with | ⟨i,M,w⟩=>[(4,.mk w 3 1 (rows intC M))]) (fun (x_:Nat×List Int×Nat)=>match x_ with | ⟨i,M,w⟩=>1≤i∧M.Perm (Zdv a es)∧(M.take i).Pairwise (· ≤ ·)) (fun (x_:Nat×List Int×Nat)=>match x_ with | ⟨i,M,w⟩=>(Zdv a es).length+1-i) (⟨1,L++ZaG es,v+1⟩) (by exact⟨Nat.le_refl _,(by rw[hL3];exact List.Perm.refl _),take1_pw _⟩) (by try simp only[sm',Nat.reduceAdd];exact ALe.same (by repeat (first | exact wk0 | refine wka ?_ | refine wk1 rfl ?_ | refine wk1 (by first | rfl | exact ivx om | (rw[List.length_append])) ?_)) (by first | (rw[ZaH];done) | (rw[ZaH];rfl))) ?_
 rintro⟨i,M,w⟩ hi3
 try simp only[sm',Nat.reduceAdd]
 obtain⟨hm1,hm2,hm3⟩:=hi3
 have hML:=hm2.length_eq
 have hsl:=ZsV a es
 have hcl:=Zok a es
 refine Zac<|wm<|mw<|Vw (ZbQ lk)<|Vw (ZaL lk lk)<|sn'<|?_
 refine cd' lk (fun hc3=>?_) (fun hc3=>?_)
 ·have hi:i<M.length:=by omega
  refine za<|Zac<|Zag<|wm<|ms<|Zag<|?_
  refine w_lp (ι:=Nat×List Int) (fun (x_:Nat×List Int)=>match x_ with | ⟨q,K⟩=>[(7,.own (N+4) w K.length),(11,iv (q:Int))]++rn' 60 32) (fun (x_:Nat×List Int)=>match x_ with | ⟨q,K⟩=>[(4,.mk w 3 1 (rows intC K))]) (fun (x_:Nat×List Int)=>match x_ with | ⟨q,K⟩=>q≤i∧K.Perm M∧insR (· ≤ ·) i q K) (fun (x_:Nat×List Int)=>match x_ with | ⟨q,K⟩=>q) (⟨i,M⟩) (by exact⟨Nat.le_refl _,List.Perm.refl _,ZgR hi hm3⟩) ?_
  rintro⟨q,K⟩ hi4
  try simp only[sm',Nat.reduceAdd]
  obtain⟨hq1,hq2,hq3⟩:=hi4
  have hKL:=hq2.length_eq
  refine Zac<|Zac<|ZaJ<|Dw vm<|Dw (Zbw lk lki)<|Dw vm<|?_
  refine dq' (t:=62) gt pt pt (fun hg62=>?_) (fun hg62=>?_)
  ·obtain⟨j,rfl⟩ : ∃ j,q=j+1:=⟨q-1,by omega⟩
   have hz3:j+1<K.length:=by omega
   refine dO<|Dw vm<|dO<|Dw vm<|dO<|?_
   refine D' (ZaW (k:=j+1) lk lk gx ZaX nb ro om (by first | rfl | (simp;done) | omega)) pt ?_
   refine d_do gt ?_
   refine D' (Zdi lk gx ZaX om rfl) pt ?_
   refine dO<|Dw vm<|dO<|Dw vm<|dO<|?_
   refine D' (Zbb lk lki om om) pt ?_
   refine d_do gt ?_
   refine D' (ZaW (k:=j) lk lk gx ZaX nb ro om (by first | rfl | (simp;done) | omega)) pt ?_
   refine d_do gt ?_
   refine D' (Zdi lk gx ZaX om rfl) pt ?_
   refine dO<|Dw (ZaL lk lk)<|Dw (Zaj lk lk)<|ZaM<|?_
   refine Za5 ?_
   refine sn' ?_
   refine cd' lk (fun hc4=>?_) (fun hc4=>?_)
   ·have hz6:¬K[j]≤K[j+1]:=by omega
    obtain⟨hz4,hz5⟩:=Zis leI_tot hq3 hz3 hz6
    refine za<|Zac<|Zag<|ZaJ<|Dw vm<|Dw vm<|Dw vm<|Dw vm<|?_
    refine D' (Zbb lk lki om om) pt ?_
    refine Dw vm<|Dw vm<|?_
    refine D' (Zbb lk lki om om) pt ?_
    refine D' (ZaW (k:=j) lk lk gx ZaX nb ro om (by first | rfl | (simp;done) | omega)) pt ?_
    refine D' (Zdi lk gx ZaX om rfl) pt ?_
    refine Dw vm<|Dw vm<|?_
    refine D' (ZaW (k:=j+1) lk lk gx ZaX nb ro om (by first | rfl | (simp;done) | omega)) pt ?_
    refine D' (Zdi lk gx ZaX om rfl) pt ?_
    refine D' (ZaW (k:=j+1) lk lk gx ZaX nb ro om (by first | rfl | (simp;done) | omega)) pt ?_
    refine ZaM ?_
    refine Za5 ?_
    refine E' (Zgh (z:=K[j]) lk cv gx ZaX rfl om hs4) ptn ?_
    refine V' (ZaW (k:=j) lk lk gx ZaX nb (by first | rfl | first | omega | (rw[List.length_set];omega)) (by first | omega | (rw[List.length_set];omega)) (by first | rfl | (simp;done) | first | omega | (rw[List.length_set];omega))) pt ?_
    refine E' (Zgh (z:=K[j+1]) lk cv gx ZaX rfl (by first | omega | (rw[List.length_set];omega)) hs4) ptn ?_
    refine Zal<|Zav<|Zam<|Zaq<|mw<|?_
    refine V' (Zbb lk lki om om) pt ?_
    refine mw<|Zal<|Zaz<|?_
    refine lU' (⟨j,(K.set (j+1) K[j]).set j K[j+1]⟩) (by (try dsimp only);exact⟨by omega,hz5.trans hq2,hz4⟩) (by refine zz ?_;exact ALe.same (by repeat (first | exact wk0 | refine wka ?_ | refine wk1 rfl ?_ | refine wk1 (by first | rfl | exact ivx om | (simp;done)) ?_)) rfl)
   have hz7:K[j]≤K[j+1]:=by omega
   have hz6:=ZgP leI_tr hq3 hz3 hz7
   refine Zay<|Zas<|Zas<|ZaI<|Zav<|Zam<|Zaq<|mw<|?_
   refine ad<|mw<|Zal<|Zaz<|?_
   refine lT' (⟨i+1,K,w⟩) (by (try dsimp only);exact⟨by omega,hq2.trans hm2,hz6⟩)
  obtain rfl:q=0:=by omega
  have hz6:=ZgQ hq3
  refine dn<|dn<|dn<|dn<|dn<|dn<|dn<|dn<|dn<|dn<|Dw (Zai lk lkb)<|ZaM<|?_
  refine Za5 ?_
  refine sn'<|ZaV lk<|Zay<|Zas<|Zas<|ZaI<|Zav<|Zam<|Zaq<|mw<|?_
  refine ad<|mw<|Zal<|Zaz<|?_
  refine lT' (⟨i+1,K,w⟩) (by (try dsimp only);exact⟨by omega,hq2.trans hm2,hz6⟩)
 rw[List.take_of_length_le om] at hm3
 have hTab:=Ztj (rl:=a) (es:=es) hm2 hm3
 have hTR:=ZsN (Zex (Za6 a es) M)
 rw[hTab] at hTR
 have hT1:(Zdl a es).1=Za6 a es tMin:=by rw[←hTab];rfl
 have hT2:(Zdl a es).2=chgs (Za6 a es) M:=by rw[←hTab];rfl
 rw[hT1,hT2] at hTR
 refine Zay<|Zas<|Zas<|ZaI<|Zam<|Zac<|ZaJ<|Dw (Zah lk gx Zdf rfl)<|?_
 refine ZaD mp0 (fun hE hX=>ZjD) pt ?_
 refine ZaD mp (fun hE hX=>Zs8 hz) pt ?_
 refine Dw (Zaw (ZiS cv rfl))<|Zc3 rfl rfl (hlk hn rfl) (Zk1) pt Zgx<|ZaM<|?_
 refine Zc2 Zrw ?_
 refine E' (Zak lk cv gx rfl nb rfl ZdU hs5) ptn<|sn'<|wr'<|fq<|Vw (Zah lk gx Zb5 rfl)<|E' (ZaT hl6 ha6) pt<|E' (Zak lk cv gx rfl nb rfl Zfe hs6) ptn<|sn'<|wr'<|Vw (Zah lk gx Zb5 rfl)<|?_
 refine Zab mp (Zf6 (htsz _)) pt<|ms<|Zac<|wm<|Zal<|?_
 refine ZaO (ALe.own0Cell (st':=4) (ty:=89) gx gt3 hl7 pt3 (Eq.trans (congrArg (fun z=>List.set z _ _) ha7) hs5)) ?_
 refine Zag ?_
 refine Zds (ι:=Nat×Nat) (fun (x_:Nat×Nat)=>match x_ with | ⟨i5,v5⟩=>[(14,iv (rbad (Za6 a es tMin) (chgs (Za6 a es) (M.take i5)))),(15,iv (i5:Int)),(16,.any)]++rn' 100 45) (fun (x_:Nat×Nat)=>match x_ with | ⟨i5,v5⟩=>[(5,.mk 0 38 4 [iv (Za6 a es tMin).1,iv (Za6 a es tMin).2.1,sv (Za6 a es tMin).2.2,.own (N+7) v5 (chgs (Za6 a es) (M.take i5)).length]),(6,.mk 0 35 3 (locC3 (Zeb (Za6 a es tMin) (chgs (Za6 a es) (M.take i5))))),(7,.mk v5 89 4 (rows chgC (chgs (Za6 a es) (M.take i5))))]) (fun (x_:Nat×Nat)=>match x_ with | ⟨i5,v5⟩=>i5≤M.length) (fun (x_:Nat×Nat)=>match x_ with | ⟨i5,v5⟩=>M.length-i5) (⟨0,0⟩) (by exact Nat.zero_le _) (by try simp only[sm',Nat.reduceAdd];exact ALe.same (by repeat (first | exact wk0 | refine wka ?_ | refine wk1 rfl ?_ | refine wk1 (by first | rfl | exact ivx (Zpx _).symm | exact ivx (by rw[List.take_zero,chgs_nil,Zpx])) ?_)) rfl) ?_
 rintro⟨i5,v5⟩ hi5
 try simp only[sm',Nat.reduceAdd]
 replace hi5:i5≤M.length:=hi5
 have hcL:=chgs_len (g:=Za6 a es) (M.take i5)
 rw[List.length_take] at hcL
 refine Zac<|wm<|mw<|Vw (ZbQ lk)<|Vw (ZaL lk lk)<|sn'<|?_
 refine cd' lk (fun hc5=>?_) (fun hc5=>?_)
 ·have hi:i5<M.length:=by omega
  have htk:=List.take_succ_eq_append_getElem hi
  refine za<|Zac<|Zag<|Zac<|Zac<|ZaJ<|Dw vm<|Dw vm<|?_
  refine D' (ZaW lk lk gx ZaX nb ro om (by first | rfl | (simp;done) | omega)) pt ?_
  refine D' (Zdi lk gx ZaX om rfl) pt ?_
  refine ZaD mp0 (fun hE hX=>ZjD) pt ?_
  refine Dw (ZcT lk lk)<|Dw vm<|?_
  refine dq' (t:=112) gt pt pt (fun hg112=>?_) (fun hg112=>?_)
  ·have hC:chgs (Za6 a es) (M.take (i5+1))=chgs (Za6 a es) (M.take i5):=by rw[htk];exact Zqi (inT_no1 hg112)
   refine dn<|dn<|dn<|dn<|dn<|dn<|Dw (Zaj lk lkb)<|ZaM<|?_
   refine Za5 ?_
   refine sn'<|ZaP lk<|Zay<|Zas<|ZaI<|Zam<|Zaq<|mw<|?_
   refine ad<|mw<|Zal<|Zaz<|?_
   refine lU' (⟨i5+1,v5⟩) (by (try dsimp only);omega) (by refine zz ?_;exact ALe.same (by repeat (first | exact wk0 | refine wka ?_ | refine wk1 rfl ?_ | refine wk1 (by first | rfl | exact ivx om | (rw[hC];done) | (rw[hC,hB];done) | (rw[hC,hB];rfl)) ?_)) (by first | (rw[hC];done) | (rw[hC];rfl)))
  refine dO<|Dw vm<|dO<|Dw vm<|dO<|?_
  refine D' (ZaW lk lk gx ZaX nb ro om (by first | rfl | (simp;done) | omega)) pt ?_
  refine d_do gt ?_
  refine D' (Zdi lk gx ZaX om rfl) pt ?_
  refine d_do gt ?_
  refine ZaD mp0 (fun hE hX=>Zta) pt ?_
  refine dO<|Dw (Zbw lk lk)<|Dw (Zai lk lk)<|ZaM<|?_
  refine Za5 ?_
  refine sn' ?_
  refine cd' lk (fun hc6=>?_) (fun hc6=>?_)
  ·have hC:chgs (Za6 a es) (M.take (i5+1))=chgs (Za6 a es) (M.take i5):=by rw[htk];exact Zqi (inT_no2 hc6)
   refine Zay<|Zas<|ZaI<|Zam<|Zaq<|mw<|?_
   refine ad<|mw<|Zal<|Zaz<|?_
   refine lU' (⟨i5+1,v5⟩) (by (try dsimp only);omega) (by refine zz ?_;exact ALe.same (by repeat (first | exact wk0 | refine wka ?_ | refine wk1 rfl ?_ | refine wk1 (by first | rfl | exact ivx om | (rw[hC];done) | (rw[hC,hB];done) | (rw[hC,hB];rfl)) ?_)) (by first | (rw[hC];done) | (rw[hC];rfl)))
  have hI:inT M[i5]=true:=inT_yes hg112 hc6
  refine za<|Zac<|ZaJ<|Dw (Zah lk gx Zdf rfl)<|Dw vm<|Dw vm<|?_
  refine D' (ZaW lk lk gx ZaX nb ro om (by first | rfl | (simp;done) | omega)) pt ?_
  refine D' (Zdi lk gx ZaX om rfl) pt ?_
  refine ZaD mp (fun hE hX=>Zs8 hz) pt ?_
  refine Zc3 rfl rfl (hlk hn rfl) (Zk1) pt Zgx<|ZaM<|?_
  refine Zc2 Zrv ?_
  refine E' (Zak lk cv gx rfl nb rfl Zfe hs8) ptn<|sn'<|Zac<|wr'<|Vw (Zah lk gx Zb5 rfl)<|Vw (Zah lk gx Zb5 rfl)<|Vw (Zhf lk lk ZoM)<|sn'<|?_
  refine cd' lk (fun hc7=>?_) (fun hc7=>?_)
  ·have hw:Za6 a es M[i5]=Zeb (Za6 a es tMin) (chgs (Za6 a es) (M.take i5)):=by obtain⟨x1,x2,x3⟩:=hc7;exact Prod.ext x1 (Prod.ext x2 x3)
   have hC:chgs (Za6 a es) (M.take (i5+1))=chgs (Za6 a es) (M.take i5):=by rw[htk];exact Zu1 hI hw
   refine Zay<|Zas<|ZaI<|Zam<|Zaq<|mw<|?_
   refine ad<|mw<|Zal<|Zaz<|?_
   refine lU' (⟨i5+1,v5⟩) (by (try dsimp only);omega) (by refine zz ?_;exact bkE' 8 hn hlt (by repeat (first | exact wk0 | refine wka ?_ | refine wk1 rfl ?_ | refine wk1 (by first | rfl | exact ivx om | (rw[hC];done) | (rw[hC,hB];done) | (rw[hC,hB];rfl)) ?_)) (by first | (rw[hC];done) | (rw[hC];rfl)) (hT:=by simp[AV.lt,AV.ltL,Ent.lt]) (hE:=by simp[AV.lt,AV.ltL,Ent.lt]))
  have hw:¬Za6 a es M[i5]=Zeb (Za6 a es tMin) (chgs (Za6 a es) (M.take i5)):=fun e=>hc7 (by rw[e];exact⟨rfl,rfl,rfl⟩)
  have hC:chgs (Za6 a es) (M.take (i5+1))=chgs (Za6 a es) (M.take i5)++[(M[i5],Za6 a es M[i5])]:=by rw[htk];exact chgs_new hI hw
  have hB:=Ztq (Za6 a es tMin) (chgs (Za6 a es) (M.take i5)) (M[i5],Za6 a es M[i5])
  have hW:=ZqR (Za6 a es tMin) (chgs (Za6 a es) (M.take i5)) (M[i5],Za6 a es M[i5])
  refine za<|Zac<|wm<|Vw (Za2 lk lki)<|sn'<|?_
  refine cd' lk (fun hc8=>?_) (fun hc8=>?_)
  ·rw[if_pos hc8] at hB
   refine Zaq<|Vw (Zah lk gx Zb5 rfl)<|Zab mp (Zf6 (htsz _)) pt<|ms<|Zac<|ZaJ<|dg<|Dw (Zaa lk gx gt3)<|Dw vm<|Dw vm<|?_
   refine D' (ZaW lk lk gx ZaX nb ro om (by first | rfl | (simp;done) | omega)) pt ?_
   refine D' (Zdi lk gx ZaX om rfl) pt ?_
   refine Dw (Zah lk gx Zb5 rfl)<|Dw (Zaw (Zev cv rfl cv rfl))<|Zc3 rfl rfl (hlk hn rfl) (Zgb (Zeu cv rfl)) pt Zgx<|ZaM<|?_
   refine Zc2 Zkc ?_
   refine E' (ZbH (Zbn lk gx rfl ZmT nb) lk gx (Zbx _) om rfl hs7) pt ?_
   refine fq<|E' (Zak lk cv gx rfl nb rfl Zkb hs5) ptn<|sn'<|Zaq<|Vw (Zah lk gx Zb5 rfl)<|E' (Zak lk cv gx rfl nb rfl Zfe hs6) ptn<|Zal<|Zav<|Zam<|Zaq<|mw<|?_
   refine ad<|mw<|Zal<|Zaz<|?_
   refine lU' (⟨i5+1,v5+1⟩) (by (try dsimp only);omega) (by refine zz ?_;exact bkE' 8 hn hlt (by repeat (first | exact wk0 | refine wka ?_ | refine wk1 rfl ?_ | refine wk1 (by first | rfl | exact ivx om | (rw[hC];done) | (rw[hC,hB];done) | (rw[hC,hB];rfl)) ?_)) (by rw[hC,hW,List.length_append,ZaH,Zbs];rfl) (hT:=by simp[AV.lt,AV.ltL,Ent.lt]) (hE:=by simp[AV.lt,AV.ltL,Ent.lt]))
  rw[if_neg hc8] at hB
  refine za<|Zac<|ZaJ<|dg<|Dw (Zaa lk gx gt3)<|Dw vm<|Dw vm<|?_
  refine D' (ZaW lk lk gx ZaX nb ro om (by first | rfl | (simp;done) | omega)) pt ?_
  refine D' (Zdi lk gx ZaX om rfl) pt ?_
  refine Dw (Zah lk gx Zb5 rfl)<|Dw (Zaw (Zev cv rfl cv rfl))<|Zc3 rfl rfl (hlk hn rfl) (Zgb (Zeu cv rfl)) pt Zgx<|ZaM<|?_
  refine Zc2 Zkc ?_
  refine E' (ZbH (Zbn lk gx rfl ZmT nb) lk gx (Zbx _) om rfl hs7) pt ?_
  refine fq<|E' (Zak lk cv gx rfl nb rfl Zkb hs5) ptn<|sn'<|Zaq<|Vw (Zah lk gx Zb5 rfl)<|E' (Zak lk cv gx rfl nb rfl Zfe hs6) ptn<|Zal<|Zav<|Zam<|Zaq<|mw<|?_
  refine ad<|mw<|Zal<|Zaz<|?_
  refine lU' (⟨i5+1,v5+1⟩) (by (try dsimp only);omega) (by refine zz ?_;exact bkE' 8 hn hlt (by repeat (first | exact wk0 | refine wka ?_ | refine wk1 rfl ?_ | refine wk1 (by first | rfl | exact ivx om | (rw[hC];done) | (rw[hC,hB];done) | (rw[hC,hB];rfl)) ?_)) (by rw[hC,hW,List.length_append,ZaH,Zbs];rfl) (hT:=by simp[AV.lt,AV.ltL,Ent.lt]) (hE:=by simp[AV.lt,AV.ltL,Ent.lt]))
 have hi:M.take i5=M:=List.take_of_length_le om
 rw[hi] at *
 refine Zay<|Zas<|Zas<|ZaI<|Zam<|Zac<|wm<|Vw (Za2 lk lki)<|mw<|?_
 refine sp' (t:=147) gt pt pt (fun hg147=>?_) (fun hg147=>?_)
 ·refine sd<|fq<|sd<|Vw (Zaa lk gx gt3)<|sd<|Vw (ZbQ lk)<|sd<|Vw (Zbw lk lki)<|Vw (Zaj lk lk)<|sn'<|?_
  refine cd' lk (fun hc9=>?_) (fun hc9=>?_)
  ·rw[if_neg (fun e=>e hg147),if_pos om] at hTR
   refine Zaq<|ms<|Zac<|wm<|Vw (Za0 lk lki)<|sn'<|?_
   refine ZgC lk (by rfl) ?_
   refine wr'<|Vw (Zaw Zet)<|mw<|E' (Zak lk cv gx rfl nb rfl ZdU hs2) ptn<|mr<|Zae<|Zad (rsn (rm1 (rr_c gt gx (ld1 Zdf rfl)) (rm1 (rr_t gt) rm0)))<|rtW'<|?_
   rw[hTR];exact ZeX
  rw[if_neg (fun e=>e hg147),if_neg om] at hTR
  refine za<|Zac<|wm<|Vw (Za0 lk lki)<|sn'<|?_
  refine ZhF lk (by exact decide_eq_false (fun e=>e hg147)) ?_
  refine ZaB ?_
  refine ZaO (ALe.iceCellR (hga hn rfl) (hga hn rfl) om gt3 (List.take_of_length_le (by rw[Zbx];exact Nat.le_refl _)) (by rw[Zbx];exact Nat.le_refl _) pt3 hs7 hs5) ?_
  refine wr'<|Vw (Zah lk gx Zdf rfl)<|E' (Zak lk cv gx rfl nb rfl ZdU hs2) ptn<|mr<|Zad (rsn (rm1 (rr_c gt gx (ld1 Zdf rfl)) (rm1 (rr_t gt) rm0)))<|rtW'<|?_
  rw[hTR];show Wk _ (.tup [tabA (Zdl a es),iv 0]);rw[show Zdl a es=(Za6 a es tMin,chgs (Za6 a es) M) from Prod.ext hT1 hT2];exact Wk.tup (wkw (Wk.agg (wk1 rfl (wk1 rfl (wk1 rfl (wkw Wk.full wk0))))) (wk1 rfl wk0))
 rw[if_pos hg147] at hTR
 refine so<|so<|so<|so<|Vw (Zai lk lkb)<|sn'<|ZaV lk<|za<|Zac<|wm<|?_
 refine Vw (Za0 lk lki)<|sn'<|?_
 refine ZgC lk (by exact decide_eq_true hg147) ?_
 refine wr'<|Vw (Zaw Zet)<|mw<|E' (Zak lk cv gx rfl nb rfl ZdU hs2) ptn<|mr<|Zae<|Zad (rsn (rm1 (rr_c gt gx (ld1 Zdf rfl)) (rm1 (rr_t gt) rm0)))<|rtW'<|?_
 rw[hTR];exact ZeX
end
section
open Go.Ab Go.RowKit Civ
attribute [local simp] ZbR Zcg Zb1 ZbM Zbu Zdq Zdt Zdu
section
theorem ZoQ {a0 a1 a2 a3 c0 c1 c2 c3:AV}{l:List AV}:setCells (a0::a1::a2::a3::l) 0 [c0,c1,c2,c3]=c0::c1::c2::c3::l:=rfl
theorem ZiV {a0 a1 a2 c0 c1 c2:AV}{l:List AV}:setCells (a0::a1::a2::l) 0 [c0,c1,c2]=c0::c1::c2::l:=rfl
theorem ZoP {a0 a1 a2 a3:AV}{l:List AV}:((a0::a1::a2::a3::l).drop 0).take 4=[a0,a1,a2,a3]:=rfl
theorem Zen {a0 a1 a2:AV}{l:List AV}:((a0::a1::a2::l).drop 0).take 3=[a0,a1,a2]:=rfl
theorem ZfN {τ:Operand→AV}{y0 y1:Operand}{x0_0 x1_0:AV}(h0:Zap (τ y0)=some [x0_0]) (l0:[x0_0].all leaf=true) (h1:Zap (τ y1)=some [x1_0]) (l1:[x1_0].all leaf=true):Zan τ [(0,1,y0),(2,1,y1)] [(iv 0),(iv 0),(.v (.string ⟨#[]⟩))]=some [x0_0,(iv 0),x1_0]:=by
 simp only[Zan,h0,l0,h1,l1]
 rfl
theorem ZeR {a0 b0:Int}{a1 b1:Int}{a2 b2:ByteArray}:Za3 [.int,.int,.str] [iv a0,iv a1,sv a2] [iv b0,iv b1,sv b2]=some (decide (a0=b0∧a1=b1∧a2=b2)):=by
 simp only[Za3,ZcF,if_true,ZbO,Option.some.injEq]
 simp only[Bool.decide_and,Bool.and_true]
 try (congr 1 <;> simp)
 try rfl
theorem ZrF {a0 a1 a2:AV}{l:List AV}:(a0::a1::a2::l).take 3=[a0,a1,a2]:=rfl
end
def c26:AC:=(Sr [Mb 0 false] (Sr [Cl 8 40 [],Oo 9 (.call (.func 27) [(t 8),(.const (.string ⟨#[79,108,100]⟩))]),Mv 7 9,Ex 10 7 0,Ex 11 7 1,Oo 1 (.new 38 4 [(iv 0),(iv 0),Ss,nl]),⟨none,none,(.store 4 (t 1) (t 10))⟩,Mv 2 11] (Sr [Cl 13 70 [],Cl 14 69 [(t 13),(Ci 100)],Mv 12 14,Ex 15 12 0,Ex 16 12 1,Oo 3 (.new 35 3 [(iv 0),(iv 0),Ss]),⟨none,none,(.store 3 (t 3) (t 15))⟩,Mv 4 16] (Sr [Cl 18 70 [],Cl 19 69 [(t 18),(Ci 99)],Mv 17 19,Ex 20 17 0,Ex 21 17 1,Oo 5 (.new 35 3 [(iv 0),(iv 0),Ss]),⟨none,none,(.store 3 (t 5) (t 20))⟩,Mv 6 21] (Sd [Mv 22 2,Bc 23 .eql 22 0,Mv 24 23,Ot 25 24 (mt 4),Ot 26 24 (.bin .eql (t 25) (Ci 0)),Oo 27 (.pick (t 24) (t 26) (.const (.bool false))),Mv 28 27,Ot 29 28 (mt 6),Ot 30 28 (.bin .eql (t 29) (Ci 0)),Oo 31 (.pick (t 28) (t 30) (.const (.bool false))),Mv 32 31,Ot 33 32 (.load true 4 (t 1)),Ot 34 32 (.call (.func 60) [(t 33)]),Ot 35 32 (.bin .eql (t 34) (Ci 0)),Oo 36 (.pick (t 32) (t 35) (.const (.bool false))),Mv 37 36,Ot 38 37 (.fa 0 (t 1)),Ot 39 37 (.load true 3 (t 38)),Ot 40 37 (.build [(iv 0),(iv 0),Ss] [(0,(1,(Ci 600))),(2,(1,(.const (.string ⟨#[76,77,84]⟩))))]),Ot 41 37 (.eqs false [.int,.int,.str] (t 39) (t 40)),Oo 42 (.pick (t 37) (t 41) (.const (.bool false))),Mv 43 42,Ot 44 43 (.fa 3 (t 1)),Ot 45 43 (.load false 1 (t 44)),Ot 46 43 (.len false (t 45)),Ot 47 43 (.bin .eql (t 46) (Ci 211)),Oo 48 (.pick (t 43) (t 47) (.const (.bool false))),Mv 49 48,Ot 50 49 (.load true 3 (t 3)),Ot 51 49 (.call (.func 70) []),Ot 52 49 (.fld false 3 1 (t 51)),Ot 53 49 (.ia 4 (t 52) (Ci 0)),Ot 54 49 (.fa 1 (t 53)),Ot 55 49 (.load true 3 (t 54)),Ot 56 49 (.eqs false [.int,.int,.str] (t 50) (t 55)),Oo 57 (.pick (t 49) (t 56) (.const (.bool false))),Mv 58 57,Ot 59 58 (.load true 3 (t 5)),Ot 60 58 (.call (.func 70) []),Ot 61 58 (.fld true 0 3 (t 60)),Ot 62 58 (.eqs false [.int,.int,.str] (t 59) (t 61)),Oo 63 (.pick (t 58) (t 62) (.const (.bool false))),Mv 0 63] .ret)))))
theorem k26:ZaA Tryz.prog 26=some ⟨c26,[(.tmp 0)],64⟩:=by kernel_rfl
theorem ZkV {t:Tab}(h:Zbo t=0):okT t:=by
 obtain⟨_,h2,h3⟩:=Zq8 h
 have e:=Zt5 h2
 refine⟨by simp only[maxLen];omega,fun x hx=>?_⟩
 have:=Zt5 (h3 x hx).2
 simp only[maxLen];omega
def lkL (t:Tab) (n:Int):Loc:=if Zbo t=0∧ZdE n=true then ZfU t n else (0,0,⟨#[]⟩)
def lkE (t:Tab) (n:Int):Int:=if Zbo t≠0 then Zbo t else if ZdE n=true then 0 else 3
theorem lk_in {t:Tab}{n:Int}(h:Zbo t=0) (hn:ZdE n=true):lkL t n=ZfU t n∧lkE t n=0:=⟨if_pos ⟨h,hn⟩,by unfold lkE;rw[if_neg (by simpa using h),if_pos hn]⟩
theorem ZsE {t:Tab}{n:Int}{full:Bool}{h:AH}(ht:okT t):Ac 69 [.agg [iv t.1.1,iv t.1.2.1,sv t.1.2.2,.sl t.2.length 4 full (rows chgC t.2)],iv n] h (.tup [.agg (locC (lkL t n)),iv (lkE t n)]):=tlook_a ht
theorem tl1 {h:AH}:Ac 69 [tabA ZfZ,iv 100] h (.tup [.agg (locC (7200,3600,⟨#[66]⟩)),iv 0]):=by
 have:=ZsE (t:=ZfZ) (n:=100) (full:=false) (h:=h) Zmb
 obtain⟨e1,e2⟩:=lk_in ZjV (show ZdE 100=true from by decide)
 rw[e1,e2,ZlJ] at this
 exact this
theorem tl2 {h:AH}:Ac 69 [tabA ZfZ,iv 99] h (.tup [.agg (locC (3600,0,⟨#[65]⟩)),iv 0]):=by
 have:=ZsE (t:=ZfZ) (n:=99) (full:=false) (h:=h) Zmb
 obtain⟨e1,e2⟩:=lk_in ZjV (show ZdE 99=true from by decide)
 rw[e1,e2,ZlI] at this
 exact this
theorem tcomp0 {h:AH}:Ac 27 [.agg (srcC src0),sv nOld] h (.tup [tabA tab0,iv 0]):=by
 have:=comp_a (a:=src0.1) (z:=src0.2.1) (k:=src0.2.2) (nm:=nOld) (h:=h) Znz
 rw[show (src0.1,src0.2.1,src0.2.2)=src0 from rfl,comp0] at this
 exact this
theorem tchk0 {h:AH}:Ac 60 [tabA tab0] h (iv 0):=by
 have ho:=ZkV chkT0
 have:=Zoo (a:=tab0.1.1) (b:=tab0.1.2.1) (c:=tab0.1.2.2) (l:=tab0.2) (full:=false) (h:=h) ho.1 ho.2
 rw[show Zbo ((tab0.1.1,tab0.1.2.1,tab0.1.2.2),tab0.2)=0 from chkT0] at this
 exact this
theorem tbegun_a {h:AH}:Ac 26 [] h (bv true):=by
 refine tI' k26 fun N hn _ _ hbd=>?_
 simp only[tb'] at hbd ⊢
 refine wk'<|wr'<|Zab mp0 (ZkU) pt<|Zab mp (tcomp0) pt<|mw<|Vw (ZaS lk gt)<|Vw (ZaS lk gt)<|E' (ZaT hl0 ha0) pt<|E' (Zak lk cv gx rfl nb rfl ZoQ hs0) ptn<|?_
 refine ms<|wr'<|Zab mp0 (ZkJ) pt<|Zab mp (tl1) pt<|mw<|Vw (ZaS lk gt)<|Vw (ZaS lk gt)<|E' (ZaT hl1 ha1) pt<|E' (Zak lk cv gx rfl nb rfl ZiV hs1) ptn<|mw<|Zal<|?_
 refine Zam<|wr'<|Zab mp0 (ZkJ) pt<|Zab mp (tl2) pt<|mw<|Vw (ZaS lk gt)<|Vw (ZaS lk gt)<|E' (ZaT hl2 ha2) pt<|E' (Zak lk cv gx rfl nb rfl ZiV hs2) ptn<|ms<|Zac<|?_
 refine ZaJ<|Dw vm<|Dw (Za2 lk lki)<|Dw vm<|?_
 refine ZcH (t:=24) gt (b:=true) (by rfl) pt ?_
 refine dO<|Dw vm<|dO<|Dw (Za2 lk lki)<|Dw (Zaj lk lk)<|Dw vm<|?_
 refine ZcH (t:=28) gt (b:=true) (by rfl) pt ?_
 refine dO<|Dw vm<|dO<|Dw (Za2 lk lki)<|Dw (Zaj lk lk)<|Dw vm<|?_
 refine ZcH (t:=32) gt (b:=true) (by rfl) pt ?_
 refine dO<|Dw (Zah lk gx ZoP rfl)<|dO<|?_
 refine ZaD mp (fun hE hX=>tchk0) pt ?_
 refine dO<|Dw (Za2 lk lki)<|Dw (Zaj lk lk)<|Dw vm<|?_
 refine ZcH (t:=37) gt (b:=true) (by rfl) pt ?_
 refine dO<|dg<|dO<|Dw (Zah lk gx Zen rfl)<|dO<|Dw (Zaw (ZfN (cvl lki rfl) rfl (cvl lks rfl) rfl))<|dO<|Dw (Zhf lk lk ZeR)<|Dw (Zaj lk lk)<|Dw vm<|?_
 refine ZcH (t:=43) gt (b:=true) (by exact decide_eq_true (by rw[Zqv];exact⟨rfl,rfl,rfl⟩)) pt ?_
 refine dO<|dg<|dO<|Dw (Zaa lk gx gt3)<|dO<|Dw (ZaC lk)<|dO<|Dw (Za2 lk lki)<|Dw (Zaj lk lk)<|Dw vm<|?_
 refine ZcH (t:=49) gt (b:=true) (by exact decide_eq_true (by rw[Zpq];rfl)) pt ?_
 refine dO<|Dw (Zah lk gx Zen rfl)<|dO<|?_
 refine ZaD mp0 (fun hE hX=>ZkJ) pt ?_
 refine dO<|Dw (v_fld lk gt)<|dO<|?_
 refine D' (ZaF (k:=0) lk lki Za1 nb (by first | rfl | first | omega | decide) (by first | omega | decide) ro rfl) pt ?_
 refine dO<|Dw (ZaQ lk dp1)<|dO<|Dw (Zau lk ZrF rfl)<|dO<|Dw (Zhf lk lk ZeR)<|Dw (Zaj lk lk)<|Dw vm<|?_
 refine ZcH (t:=58) gt (b:=true) (by rfl) pt ?_
 refine dO<|Dw (Zah lk gx Zen rfl)<|dO<|?_
 refine ZaD mp0 (fun hE hX=>ZkJ) pt ?_
 refine dO<|Dw (v_fldA lk Zen rfl)<|dO<|Dw (Zhf lk lk ZeR)<|Dw (Zaj lk lk)<|Dw vm<|ZaM<|?_
 refine Za5 ?_
 exact sr<|Zad rz<|rT' rfl
end
section
open Go
def ltS (a b:ByteArray):Bool:=Op.bytesLess a.toList b.toList
theorem ZgO {a b:ByteArray}:ltS a b=true↔a.data.toList<b.data.toList:=by
 unfold ltS;rw[bytesLess_eq,Lib.toList_data,Lib.toList_data];simp
theorem Zin (a:ByteArray):ltS a a=false:=by
 rw[Bool.eq_false_iff,ne_eq,ZgO];exact List.lt_irrefl _
theorem Zho {a b c:ByteArray}(h1:ltS a b=true) (h2:ltS b c=true):ltS a c=true:=by
 rw[ZgO] at *;exact List.lt_trans h1 h2
theorem ZdG {a b:ByteArray}(h:ltS a b=true):ltS b a=false:=by
 rw[Bool.eq_false_iff,ne_eq,ZgO];rw[ZgO] at h;exact List.lt_asymm h
theorem ZjW {a b:ByteArray}(h:a.data.toList=b.data.toList):a=b:=by
 cases a;cases b;simp at h;congr 1
theorem ZnQ {a b:ByteArray}(h1:ltS a b=false) (h2:ltS b a=false):a=b:=by
 rw[Bool.eq_false_iff,ne_eq,ZgO,List.not_lt] at *
 exact ZjW (List.le_antisymm h2 h1)
theorem ZtZ {a b:ByteArray}(h:ltS a b=true):a≠b:=fun e=>by subst e;rw[Zin] at h;cases h
theorem Zml {a b c:ByteArray}(h1:ltS b a=false) (h2:ltS b c=true):ltS a c=true:=by
 cases h:ltS a b with
 | true=>exact Zho h h2
 | false=>rw[ZnQ h h1];exact h2
theorem Zmk {a b:ByteArray}(h:a≠b):ltS a b=true∨ltS b a=true:=by
 cases h1:ltS a b with
 | true=>exact .inl rfl
 | false =>
  cases h2:ltS b a with
  | true=>exact .inr rfl
  | false=>exact absurd (ZnQ h1 h2) h
theorem Ziq (a b:ByteArray):(Op.bytesLess a.toList b.toList||a.toList==b.toList)=!ltS b a:=by
 have e:(a.toList==b.toList)=decide (a=b):=by
  rw[Bool.eq_iff_iff,beq_iff_eq,decide_eq_true_iff]
  exact⟨fun h=>ZjW (by rwa [Lib.toList_data,Lib.toList_data] at h),fun h=>by rw[h]⟩
 rw[e]
 show (ltS a b||decide (a=b))=!ltS b a
 by_cases h:a=b
 ·subst h;simp[Zin]
 ·rcases Zmk h with h1 | h1
  ·rw[h1,ZdG h1];simp
  ·rw[h1,ZdG h1];simp[h]
def cmpS (a b:ByteArray):Int:=if ltS a b=true then -1 else if ltS b a=true then 1 else 0
theorem Ze7 {a b:ByteArray}:cmpS a b<0↔ltS a b=true:=by unfold cmpS;split <;> (try split) <;> simp_all
theorem ZuP {a b:ByteArray}:cmpS a b=0↔a=b:=by
 unfold cmpS
 constructor
 ·intro h
  split at h
  ·cases h
  ·split at h
   ·cases h
   ·exact ZnQ (by simp_all) (by simp_all)
 ·rintro rfl;rw[Zin];simp
theorem Zqh {a b:ByteArray}:0<cmpS a b↔ltS b a=true:=by
 unfold cmpS
 cases h1:ltS a b with
 | true=>simp[ZdG h1]
 | false=>cases h2:ltS b a <;> simp
section
variable {α : Type}
def risN (l:List (ByteArray×α)):Prop:=l.Pairwise fun a b=>ltS a.1 b.1=true
def ZbP:List (ByteArray×α)→ByteArray→Option α
 | [],_=>none
 | n::l,nm=>if n.1=nm then some n.2 else ZbP l nm
def hasN (l:List (ByteArray×α)) (nm:ByteArray):Bool:=l.any fun n=>decide (n.1=nm)
def idxN (l:List (ByteArray×α)) (nm:ByteArray):Nat:=l.findIdx fun n=>decide (n.1=nm)
def posN (l:List (ByteArray×α)) (nm:ByteArray):Nat:=l.findIdx fun n=>!ltS n.1 nm
def insN (l:List (ByteArray×α)) (n:ByteArray×α):List (ByteArray×α):=l.take (posN l n.1)++n::l.drop (posN l n.1)
theorem Ziu : ∀ (l:List (ByteArray×α)) (nm:ByteArray),hasN l nm=(ZbP l nm).isSome
 | [],_=>rfl
 | n::l,nm=>by
  have ih:=Ziu l nm
  unfold hasN at ih ⊢
  rw[List.any_cons,ZbP,ih]
  split
  ·rename_i h;simp[h]
  ·rename_i h;simp[h]
theorem Zuj (n:ByteArray×α) (l:List (ByteArray×α)) (nm:ByteArray):hasN (n::l) nm=(decide (n.1=nm)||hasN l nm):=rfl
theorem Zee {l:List (ByteArray×α)}{nm:ByteArray}:hasN l nm=true↔nm∈l.map (·.1):=by
 unfold hasN;simp only[List.any_eq_true,decide_eq_true_eq,List.mem_map]
theorem Ze4 {l:List (ByteArray×α)}{nm:ByteArray}:ZbP l nm=none↔nm ∉ l.map (·.1):=by
 rw[←Zee,Ziu];cases ZbP l nm <;> simp
theorem ZdO : ∀ {l:List (ByteArray×α)}{nm:ByteArray}{t:α},ZbP l nm=some t→(nm,t)∈l
 | n::l,nm,t,h=>by
  rw[ZbP] at h
  split at h
  ·rename_i e;subst e;cases h;exact List.mem_cons_self
  ·exact List.mem_cons_of_mem _ (ZdO h)
theorem ZeE {n m:ByteArray×α}{l:List (ByteArray×α)}(h:risN (n::l)) (hm:m∈l):ltS n.1 m.1=true:=(List.pairwise_cons.1 h).1 m hm
theorem Zia {n:ByteArray×α}{l:List (ByteArray×α)}(h:risN (n::l)):risN l:=(List.pairwise_cons.1 h).2
theorem ZgI {l:List (ByteArray×α)}(h:risN l):(l.map (·.1)).Nodup:=List.pairwise_map.2 (h.imp fun h=>ZtZ h)
theorem Ztd : ∀ {l m:List (ByteArray×α)},risN l→risN m→(∀ nm,ZbP l nm=ZbP m nm)→l=m
 | [],[],_,_,_=>rfl
 | [],n::m,_,_,h=>by have:=h n.1;rw[ZbP,ZbP,if_pos rfl] at this;cases this
 | n::l,[],_,_,h=>by have:=h n.1;rw[ZbP,ZbP,if_pos rfl] at this;cases this
 | n::l,k::m,hl,hm,h=>by
  have key:n.1=k.1:=by
   refine Decidable.byContradiction fun hne=>?_
   rcases Zmk hne with h1 | h1
   ·have:=h n.1
    rw[ZbP,if_pos rfl,ZbP,if_neg (Ne.symm hne)] at this
    have h2:=ZeE hm (ZdO this.symm)
    have:=ZdG h1;rw[h2] at this;cases this
   ·have:=h k.1
    rw[ZbP,if_neg hne,ZbP,if_pos rfl] at this
    have h2:=ZeE hl (ZdO this)
    have:=ZdG h1;rw[h2] at this;cases this
  have hv:n.2=k.2:=by
   have:=h n.1
   rw[ZbP,if_pos rfl,ZbP,if_pos key.symm] at this
   exact Option.some.inj this
  have e:n=k:=Prod.ext key hv
  subst e
  refine congrArg _ (Ztd (Zia hl) (Zia hm) fun nm=>?_)
  by_cases hn:n.1=nm
  ·subst hn
   rw[Ze4.2 fun hx=>?_,Ze4.2 fun hx=>?_]
   ·obtain⟨x,hx,e⟩:=List.mem_map.1 hx;exact ZtZ (ZeE hm hx) e.symm
   ·obtain⟨x,hx,e⟩:=List.mem_map.1 hx;exact ZtZ (ZeE hl hx) e.symm
  ·have:=h nm
   rwa [ZbP,if_neg hn,ZbP,if_neg hn] at this
theorem pos_is {l:List (ByteArray×α)}{nm:ByteArray}{i:Nat}(hi:i≤l.length) (h1 : ∀ k (h:k<l.length),k<i→ltS l[k].1 nm=true) (h2 : ∀ k (h:k<l.length),i≤k→ltS l[k].1 nm=false):posN l nm=i:=by
 unfold posN
 rcases Nat.lt_or_ge i l.length with hlt | hge
 ·rw[List.findIdx_eq hlt]
  exact⟨by rw[h2 i hlt (Nat.le_refl _)];rfl,fun j hj=>by rw[h1 j om hj];rfl⟩
 ·rw[List.findIdx_eq_length.2 fun x hx=>by obtain⟨k,hk,rfl⟩:=List.getElem_of_mem hx;rw[h1 k hk om];rfl]
  omega
theorem pos_le (l:List (ByteArray×α)) (nm:ByteArray):posN l nm≤l.length:=List.findIdx_le_length
theorem Zue {l:List (ByteArray×α)}{nm:ByteArray}(h:hasN l nm=true) : ∃ hi:idxN l nm<l.length,l[idxN l nm].1=nm:=by
 have hi:idxN l nm<l.length:=List.findIdx_lt_length.2 (by unfold hasN at h;simpa using h)
 have:=List.findIdx_getElem (w:=hi)
 exact⟨hi,of_decide_eq_true this⟩
theorem pos_low {l:List (ByteArray×α)}{nm:ByteArray}{k:Nat}(h:k<posN l nm):ltS (l[k]'(Nat.lt_of_lt_of_le h (pos_le l nm))).1 nm=true:=by
 have:=List.not_of_lt_findIdx h
 simpa using this
theorem pos_high {l:List (ByteArray×α)}(hr:risN l) {nm:ByteArray}{k:Nat}(hk:k<l.length) (h:posN l nm≤k):ltS l[k].1 nm=false:=by
 have hp:posN l nm<l.length:=by omega
 have h0:ltS l[posN l nm].1 nm=false:=by
  have:=List.findIdx_getElem (w:=hp)
  rw[Bool.not_eq_true'] at this;exact this
 rcases Nat.lt_or_ge (posN l nm) k with e | e
 ·have:=List.pairwise_iff_getElem.1 hr _ _ hp hk e
  cases h1:ltS l[k].1 nm with
  | false=>rfl
  | true=>rw[Zho this h1] at h0;cases h0
 ·have:posN l nm=k:=by omega
  subst this;exact h0
theorem Ztz {l:List (ByteArray×α)}(hr:risN l) {nm:ByteArray}(h:hasN l nm=true):posN l nm=idxN l nm:=by
 obtain⟨hi,he⟩:=Zue h
 refine pos_is (Nat.le_of_lt hi) (fun k hk hlt=>?_) fun k hk hge=>?_
 ·have:=List.pairwise_iff_getElem.1 hr _ _ hk hi hlt
  rwa [he] at this
 ·rcases Nat.lt_or_ge (idxN l nm) k with e | e
  ·have:=List.pairwise_iff_getElem.1 hr _ _ hi hk e
   rw[he] at this;exact ZdG this
  ·have:idxN l nm=k:=by omega
   subst this;rw[he];exact Zin _
theorem ZtA {l:List (ByteArray×α)}(hr:risN l) {nm:ByteArray}:hasN l nm=true ↔ ∃ h:posN l nm<l.length,l[posN l nm].1=nm:=by
 constructor
 ·intro h
  obtain⟨hi,he⟩:=Zue h
  have e:=Ztz hr h
  exact⟨by rw[e];exact hi,by simp only[e];exact he⟩
 ·rintro⟨h,he⟩
  rw[Zee]
  exact List.mem_map.2 ⟨_,List.getElem_mem h,he⟩
theorem ZpL {l:List (ByteArray×α)}{nm:ByteArray}:ZbP l nm=(l[idxN l nm]?).map (·.2):=by
 unfold idxN
 induction l with
 | nil=>rfl
 | cons n l ih =>
  rw[ZbP,List.findIdx_cons]
  split
  ·rename_i h;simp[h]
  ·rename_i h;simp[h,ih]
theorem Ztc {l m:List (ByteArray×α)}(h:risN l) (e:m.map (·.1)=l.map (·.1)):risN m:=by
 have:(l.map (·.1)).Pairwise fun a b=>ltS a b=true:=List.pairwise_map.2 h
 rw[←e] at this
 exact List.pairwise_map.1 this
theorem ris_ins {l:List (ByteArray×α)}{n:ByteArray×α}(hr:risN l) (h:hasN l n.1=false):risN (insN l n):=by
 unfold insN risN
 rw[List.pairwise_append,List.pairwise_cons]
 have hlow : ∀ a∈l.take (posN l n.1),ltS a.1 n.1=true:=fun a ha=>by
  obtain⟨k,hk,rfl⟩:=List.getElem_of_mem ha
  rw[List.length_take] at hk
  rw[List.getElem_take]
  exact pos_low om
 have hhigh : ∀ b∈l.drop (posN l n.1),ltS n.1 b.1=true:=fun b hb=>by
  obtain⟨k,hk,rfl⟩:=List.getElem_of_mem hb
  rw[List.length_drop] at hk
  rw[List.getElem_drop]
  have h1:=pos_high hr (show posN l n.1+k<l.length by omega) (Nat.le_add_right _ _)
  refine (Zmk (fun e=>?_)).resolve_right (by rw[h1];simp)
  have:hasN l n.1=true:=Zee.2 (List.mem_map.2 ⟨_,List.getElem_mem _,e.symm⟩)
  rw[h] at this;cases this
 refine⟨hr.sublist (List.take_sublist _ _),⟨hhigh,hr.sublist (List.drop_sublist _ _)⟩,fun a ha b hb=>?_⟩
 rcases List.mem_cons.1 hb with rfl | hb
 ·exact hlow a ha
 ·exact Zho (hlow a ha) (hhigh b hb)
def patchN {π:Type}(pe:α→π→Int) (pv:α→π→α):List (ByteArray×α)→List (ByteArray×π)→List (ByteArray×α)×Int
 | l,[]=>(l,0)
 | l,p::ps=>match ZbP l p.1 with
  | none=>(l,5)
  | some t=>if pe t p.2≠0 then (l,pe t p.2) else patchN pe pv (l.set (idxN l p.1) (p.1,pv t p.2)) ps
section
variable {π : Type} [DecidableEq α]
def betD (r s:List (ByteArray×α)):List ByteArray:=(r.filter fun n=>!hasN s n.1).map (·.1)
def betP (r s:List (ByteArray×α)):List (ByteArray×α):=s.filter fun n=>!hasN r n.1
def betF (pd:α→α→π) (r:List (ByteArray×α)) (n:ByteArray×α):Option (ByteArray×π):=match ZbP r n.1 with
 | none=>none
 | some t=>if t=n.2 then none else some (n.1,pd t n.2)
def betT (pd:α→α→π) (r s:List (ByteArray×α)):List (ByteArray×π):=s.filterMap (betF pd r)
end
end
end
section
open Go.Ab Civ
abbrev Nam:=ByteArray×Tab
abbrev Rel:=List Nam×List Lnk
abbrev NPt:=ByteArray×Pat
abbrev Upd:=List ByteArray×List Nam×List NPt×List Lnk
def rel0:Rel:=([],[])
def upd0:Upd:=([],[],[],[])
def Zc9 (p:Option ByteArray) (nm:ByteArray):Bool:=match p with
 | none=>true
 | some q=>ltS q nm
def chkN:Option ByteArray→List Nam→Int
 | _,[]=>0
 | p,n::l=>if Zcc n.1=false then 1 else if Zbo n.2≠0 then Zbo n.2 else if Zc9 p n.1=false then 4 else chkN (some n.1) l
def chkL (t:List Nam):Option ByteArray→List Lnk→Int
 | _,[]=>0
 | p,l::ls=>if Zcc l.2=false then 1 else if Zc9 p l.2=false then 4 else if hasN t l.2=true then 6 else if hasN t l.1=false then 5 else chkL t (some l.2) ls
def Zbp (r:Rel):Int:=if 20<r.1.length∨20<r.2.length then 2 else if chkN none r.1≠0 then chkN none r.1 else chkL r.1 none r.2
def ZgJ {α:Type}(f:α→ByteArray) (l:List α):Nat→Option ByteArray
 | 0=>none
 | i+1=>(l[i]?).map f
theorem Ze1 {α:Type}{f:α→ByteArray}{l:List α}{i:Nat}(h:i<l.length):ZgJ f l (i+1)=some (f l[i]):=by
 show (l[i]?).map f=_
 rw[List.getElem?_eq_getElem h];rfl
theorem chkN_at {p:Option ByteArray}{l:List Nam}{i:Nat}(h:i<l.length):chkN p (l.drop i)=if Zcc l[i].1=false then 1 else if Zbo l[i].2≠0 then Zbo l[i].2 else if Zc9 p l[i].1=false then 4 else chkN (ZgJ (·.1) l (i+1)) (l.drop (i+1)):=by
 rw[List.drop_eq_getElem_cons h,Ze1 h];rfl
theorem chkL_at {t:List Nam}{p:Option ByteArray}{l:List Lnk}{i:Nat}(h:i<l.length):chkL t p (l.drop i)=if Zcc l[i].2=false then 1 else if Zc9 p l[i].2=false then 4 else if hasN t l[i].2=true then 6 else if hasN t l[i].1=false then 5 else chkL t (ZgJ (·.2) l (i+1)) (l.drop (i+1)):=by
 rw[List.drop_eq_getElem_cons h,Ze1 h];rfl
theorem Zol : ∀ {l:List Nam}{p:Option ByteArray},chkN p l=0→(∀ n∈l,Zcc n.1=true∧Zbo n.2=0)∧risN l ∧ ∀ n∈l,Zc9 p n.1=true
 | [],_,_=>⟨fun n hn=>(by cases hn),.nil,fun n hn=>(by cases hn)⟩
 | m::l,p,h=>by
  rw[chkN] at h
  split at h
  ·cases h
  rename_i h1
  split at h
  ·rename_i h2;exact absurd h h2
  rename_i h2
  split at h
  ·cases h
  rename_i h3
  obtain⟨a,b,c⟩:=Zol h
  have h3':Zc9 p m.1=true:=by simpa using h3
  refine⟨fun n hn=>?_,List.pairwise_cons.2 ⟨c,b⟩,fun n hn=>?_⟩
  ·rcases List.mem_cons.1 hn with rfl | hn
   ·exact⟨by simpa using h1,Decidable.of_not_not h2⟩
   ·exact a n hn
  ·rcases List.mem_cons.1 hn with rfl | hn
   ·exact h3'
   ·have:=c n hn
    cases p with
    | none=>rfl
    | some q=>exact Zho h3' this
theorem ZuX : ∀ {l:List Nam}{p:Option ByteArray},(∀ n∈l,Zcc n.1=true∧Zbo n.2=0)→risN l→(∀ n∈l,Zc9 p n.1=true)→chkN p l=0
 | [],_,_,_,_=>rfl
 | m::l,p,h1,h2,h3=>by
  obtain⟨a,b⟩:=h1 m (by simp)
  rw[chkN,if_neg (by simp[a]),if_neg (by simp[b]),if_neg (by simp[h3 m (by simp)])]
  exact ZuX (fun n hn=>h1 n (by simp[hn])) (Zia h2) fun n hn=>ZeE h2 hn
def risL2 (l:List Lnk):Prop:=l.Pairwise fun a b=>ltS a.2 b.2=true
theorem ZuY {t:List Nam} : ∀ {l:List Lnk}{p:Option ByteArray},chkL t p l=0→(∀ n∈l,Zcc n.2=true∧hasN t n.2=false∧hasN t n.1=true)∧risL2 l ∧ ∀ n∈l,Zc9 p n.2=true
 | [],_,_=>⟨fun n hn=>(by cases hn),.nil,fun n hn=>(by cases hn)⟩
 | m::l,p,h=>by
  rw[chkL] at h
  split at h
  ·cases h
  rename_i h1
  split at h
  ·cases h
  rename_i h2
  split at h
  ·cases h
  rename_i h3
  split at h
  ·cases h
  rename_i h4
  obtain⟨a,b,c⟩:=ZuY h
  have h3':Zc9 p m.2=true:=by simpa using h2
  refine⟨fun n hn=>?_,List.pairwise_cons.2 ⟨c,b⟩,fun n hn=>?_⟩
  ·rcases List.mem_cons.1 hn with rfl | hn
   ·exact⟨by simpa using h1,by simpa using h3,by simpa using h4⟩
   ·exact a n hn
  ·rcases List.mem_cons.1 hn with rfl | hn
   ·exact h3'
   ·have:=c n hn
    cases p with
    | none=>rfl
    | some q=>exact Zho h3' this
theorem ZuZ {t:List Nam} : ∀ {l:List Lnk}{p:Option ByteArray},(∀ n∈l,Zcc n.2=true∧hasN t n.2=false∧hasN t n.1=true)→risL2 l→(∀ n∈l,Zc9 p n.2=true)→chkL t p l=0
 | [],_,_,_,_=>rfl
 | m::l,p,h1,h2,h3=>by
  obtain⟨a,b,c⟩:=h1 m (by simp)
  rw[chkL,if_neg (by simp[a]),if_neg (by simp[h3 m (by simp)]),if_neg (by simp[b]),if_neg (by simp[c])]
  exact ZuZ (fun n hn=>h1 n (by simp[hn])) (List.pairwise_cons.1 h2).2 (List.pairwise_cons.1 h2).1
theorem Zu3 {r:Rel}(h:Zbp r=0):r.1.length≤20∧r.2.length≤20∧chkN none r.1=0∧chkL r.1 none r.2=0:=by
 unfold Zbp at h
 split at h
 ·cases h
 rename_i h1
 split at h
 ·rename_i h2;exact absurd h h2
 rename_i h2
 exact⟨by omega,by omega,Decidable.of_not_not h2,h⟩
theorem ZdQ {r:Rel}(h:Zbp r=0):r.1.length≤20∧r.2.length≤20∧(∀ n∈r.1,Zcc n.1=true∧Zbo n.2=0)∧risN r.1∧(∀ n∈r.2,Zcc n.2=true∧hasN r.1 n.2=false∧hasN r.1 n.1=true)∧risL2 r.2:=by
 obtain⟨h1,h2,h3,h4⟩:=Zu3 h
 obtain⟨a,b,_⟩:=Zol h3
 obtain⟨c,d,_⟩:=ZuY h4
 exact⟨h1,h2,a,b,c,d⟩
def betU (r s:Rel):Upd:=(betD r.1 s.1,betP r.1 s.1,betT ZeH r.1 s.1,s.2)
def ZmC (r s:Rel):Upd×Int:=if Zbp r≠0 then (upd0,Zbp r) else if Zbp s≠0 then (upd0,Zbp s) else (betU r s,0)
def tgtR (k:List Lnk) (nm:ByteArray):ByteArray:=match k[k.findIdx fun l=>decide (l.2=nm)]? with
 | some l=>l.1
 | none=>nm
def ZgU (r:Rel) (nm:ByteArray):Tab×Int:=if Zbp r≠0 then (ZfC,Zbp r) else match ZbP r.1 (tgtR r.2 nm) with
 | none=>(ZfC,5)
 | some t=>(t,0)
end
section
open Go.Ab Civ
section
variable {α : Type}
def srtN (l:List (ByteArray×α)):List (ByteArray×α):=l.foldl insN []
theorem ZpU (l:List (ByteArray×α)) (n:ByteArray×α):(insN l n).Perm (n::l):=by
 unfold insN
 refine List.perm_middle.trans ?_
 rw[List.take_append_drop]
theorem Ziv : ∀ {l acc:List (ByteArray×α)},risN acc→((acc++l).map (·.1)).Nodup→risN (l.foldl insN acc)∧(l.foldl insN acc).Perm (acc++l)
 | [],acc,h,_=>⟨h,by simp⟩
 | n::l,acc,h,hn=>by
  have hp:=ZpU acc n
  have hno:hasN acc n.1=false:=by
   rw[Bool.eq_false_iff,ne_eq,Zee]
   intro hm
   rw[List.map_append,List.map_cons,List.nodup_append] at hn
   exact hn.2.2 n.1 hm n.1 (by simp) rfl
  have hp2:(insN acc n++l).Perm (acc++n::l):=(hp.append_right l).trans (by
   rw[List.cons_append];exact List.perm_middle.symm)
  obtain⟨h1,h2⟩:=Ziv (l:=l) (ris_ins h hno) (((hp2.map (·.1)).nodup_iff).2 hn)
  exact⟨h1,h2.trans hp2⟩
theorem ZgH {l:List (ByteArray×α)}(h:(l.map (·.1)).Nodup):risN (srtN l):=(Ziv .nil (by simpa using h)).1
theorem ZcD {l:List (ByteArray×α)}(h:(l.map (·.1)).Nodup):(srtN l).Perm l:=(Ziv (l:=l) (acc:=[]) .nil (by simpa using h)).2
theorem Zio {l m:List (ByteArray×α)}(h:(l.map (·.1)).Nodup) (hp:l.Perm m) (x:ByteArray):ZbP l x=ZbP m x:=by
 have key : ∀ {l:List (ByteArray×α)} {t:α},(l.map (·.1)).Nodup→(x,t)∈l→ZbP l x=some t:=by
  intro l t
  induction l with
  | nil=>intro _ h;cases h
  | cons n l ih =>
   intro hn hm
   rw[List.map_cons,List.nodup_cons] at hn
   rw[ZbP]
   rcases List.mem_cons.1 hm with rfl | hm
   ·rw[if_pos rfl]
   ·rw[if_neg fun e=>hn.1 (by rw[e];exact List.mem_map.2 ⟨_,hm,rfl⟩)];exact ih hn.2 hm
 cases h1:ZbP l x with
 | some t=>exact (key ((hp.map (·.1)).nodup_iff.1 h) (hp.mem_iff.1 (ZdO h1))).symm
 | none=>exact (Ze4.2 fun hm=>Ze4.1 h1 ((hp.map (·.1)).mem_iff.2 hm)).symm
theorem ris_perm {l m:List (ByteArray×α)}(h1:risN l) (h2:risN m) (hp:l.Perm m):l=m:=Ztd h1 h2 fun x=>Zio (ZgI h1) hp x
theorem ZsT {l m:List (ByteArray×α)}(hn:(l.map (·.1)).Nodup) (hp:m.Perm l) (hs:m.Pairwise fun a b=>ltS b.1 a.1=false):m=srtN l:=by
 refine ris_perm ?_ (ZgH hn) (hp.trans (ZcD hn).symm)
 have hnm:m.Pairwise fun a b=>a.1≠b.1:=(List.pairwise_map (f:=Prod.fst)).1 ((hp.map Prod.fst).nodup_iff.2 hn)
 exact (hs.and hnm).imp fun h=>(Zmk h.2).resolve_right (by rw[h.1];simp)
end
def sw (l:Lnk):Lnk:=(l.2,l.1)
def srtL (k:List Lnk):List Lnk:=(srtN (k.map sw)).map sw
theorem sw_sw:sw ∘ sw=id:=by funext x;rfl
theorem ZfW (k:List Lnk):(k.map sw).map (·.1)=k.map (·.2):=by rw[List.map_map];rfl
theorem ZkD : ∀ (k:List Lnk) (nm:ByteArray),tgtR k nm=(ZbP (k.map sw) nm).getD nm
 | [],nm=>rfl
 | l::k,nm=>by
  have ih:=ZkD k nm
  unfold tgtR at ih ⊢
  rw[List.findIdx_cons,List.map_cons,ZbP]
  by_cases h:l.2=nm
  ·simp only[h,decide_true,cond_true,List.getElem?_cons_zero]
   rw[if_pos (show (sw l).1=nm from h)];rfl
  ·simp only[h,decide_false,cond_false,List.getElem?_cons_succ]
   rw[if_neg (show ¬(sw l).1=nm from h)];exact ih
theorem ZlO {k:List Lnk}(h:(k.map (·.2)).Nodup):(srtL k).Perm k:=by
 have:=((ZcD (l:=k.map sw) (by rw[ZfW];exact h)).map sw)
 rw[List.map_map,sw_sw,List.map_id] at this
 exact this
theorem srtL_ris {k:List Lnk}(h:(k.map (·.2)).Nodup):risL2 (srtL k):=by
 have:=ZgH (l:=k.map sw) (by rw[ZfW];exact h)
 exact List.pairwise_map.2 this
theorem ZsU {k m:List Lnk}(hn:(k.map (·.2)).Nodup) (hp:m.Perm k) (hs:m.Pairwise fun a b=>ltS b.2 a.2=false):m=srtL k:=by
 have:=ZsT (l:=k.map sw) (m:=m.map sw) (by rw[ZfW];exact hn) (hp.map sw) (List.pairwise_map.2 hs)
 unfold srtL
 rw[←this,List.map_map,sw_sw,List.map_id]
theorem tgt_srt {k:List Lnk}(h:(k.map (·.2)).Nodup) (nm:ByteArray):tgtR (srtL k) nm=tgtR k nm:=by
 rw[ZkD,ZkD]
 unfold srtL
 rw[List.map_map,sw_sw,List.map_id,Zio (ZgH (l:=k.map sw) (by rw[ZfW];exact h) |> ZgI) (ZcD (by rw[ZfW];exact h))]
def mapT (s:Src) (zs:List Zon):List Nam:=zs.map fun z=>(z.1,(ofV s z).1)
def errT (s:Src) (zs:List Zon):Int:=ZaU (fun z=>(ofV s z).2) zs
def Zcv (s:Src):Rel×Int:=if Zbf s≠0 then (rel0,Zbf s) else if errT s (srtN s.2.1)≠0 then (rel0,errT s (srtN s.2.1)) else ((mapT s (srtN s.2.1),srtL s.2.2),0)
theorem ZqO (s:Src) (zs:List Zon):(mapT s zs).map (·.1)=zs.map (·.1):=by unfold mapT;rw[List.map_map];rfl
theorem Zmh (s:Src) : ∀ (zs:List Zon) (x:ByteArray),ZbP (mapT s zs) x=(ZbP zs x).map fun es=>(ofV s (x,es)).1
 | [],x=>rfl
 | z::zs,x=>by
  show ZbP ((z.1,(ofV s z).1)::mapT s zs) x=_
  rw[ZbP,ZbP]
  by_cases h:z.1=x
  ·subst h;rw[if_pos rfl,if_pos rfl];rfl
  ·rw[if_neg h,if_neg h];exact Zmh s zs x
theorem ZtW {s:Src}(h:(Zcv s).2=0):Zbf s=0∧errT s (srtN s.2.1)=0∧(Zcv s).1=(mapT s (srtN s.2.1),srtL s.2.2):=by
 unfold Zcv at h ⊢
 split at h
 ·rename_i h1;exact absurd h h1
 rename_i h1
 split at h
 ·rename_i h2;exact absurd h h2
 rename_i h2
 rw[if_neg h1,if_neg h2]
 exact⟨Decidable.of_not_not h1,Decidable.of_not_not h2,rfl⟩
theorem make_bad {s:Src}(h:(Zcv s).2≠0):(Zcv s).1=rel0:=by
 unfold Zcv at h ⊢
 split
 ·rfl
 rename_i h1
 rw[if_neg h1] at h
 split
 ·rfl
 rename_i h2
 rw[if_neg h2] at h
 exact absurd rfl h
theorem Zd8 {s:Src}(h:Zbf s=0):(s.2.1.map (·.1)).Nodup∧(s.2.2.map (·.2)).Nodup ∧ ∀ a∈s.2.1.map (·.1),∀ b∈s.2.2.map (·.2),a≠b:=by
 have:=(ZgY h).2.1
 unfold ZbT at this
 rw[List.nodup_append] at this
 exact this
theorem ZtC {z:List Zon}{nm:ByteArray}(h:¬Zc8 z nm<0):nm∈z.map (·.1):=by
 unfold Zc8 at h
 rw[Zuf] at h
 simp only[Bool.not_eq_false,List.any_eq_true,decide_eq_true_eq] at h
 obtain⟨x,hx,e⟩:=h
 exact List.mem_map.2 ⟨x,hx,e⟩
theorem ZgN {s:Src}(h:(Zcv s).2=0):Zbp (Zcv s).1=0:=by
 obtain⟨h1,h2,h3⟩:=ZtW h
 obtain⟨n1,n2,n3⟩:=Zd8 h1
 obtain⟨hE,_,hM,_,_⟩:=ZgY h1
 obtain⟨_,q2,q3,_,_,q6,q7⟩:=Zci hE
 have hp:=ZcD n1
 have hpl:=ZlO n2
 rw[h3]
 unfold Zbp
 have hnm:=ZqO s (srtN s.2.1)
 have hle:(mapT s (srtN s.2.1)).length=s.2.1.length:=by unfold mapT;rw[List.length_map,hp.length_eq]
 have hr:risN (mapT s (srtN s.2.1)):=Ztc (l:=(srtN s.2.1).map fun z=>(z.1,(ofV s z).1)) (by
  show List.Pairwise _ _
  rw[List.pairwise_map];exact ZgH n1) rfl
 have hhas : ∀ x,hasN (mapT s (srtN s.2.1)) x=true↔x∈s.2.1.map (·.1):=fun x=>by rw[Zee,hnm,(hp.map (·.1)).mem_iff]
 rw[if_neg (by rw[hle];show ¬(_∨20<(srtL s.2.2).length);rw[hpl.length_eq];omega)]
 have hc:chkN none (mapT s (srtN s.2.1))=0:=ZuX (fun n hn=>by
  unfold mapT at hn
  obtain⟨z,hz,rfl⟩:=List.mem_map.1 hn
  have hz':=hp.mem_iff.1 hz
  refine⟨?_,?_⟩
  ·have:=q6 z hz'
   unfold Zew at this
   split at this
   ·cases this
   ·rename_i hh;exact Decidable.byContradiction fun hb=>hh (.inl hb)
  ·exact ZsM (Zck h2 z hz)) hr fun n hn=>rfl
 rw[if_neg (by simpa using hc)]
 refine ZuZ (fun l hl=>?_) (srtL_ris n2) fun n hn=>rfl
 have hl':=hpl.mem_iff.1 hl
 have hk:=q7 l hl'
 refine⟨?_,?_,?_⟩
 ·unfold ZdP at hk
  split at hk
  ·cases hk
  ·rename_i hh;exact (Decidable.of_not_not hh).2
 ·rw[Bool.eq_false_iff,ne_eq,hhas]
  exact fun hm=>n3 _ hm l.2 (List.mem_map.2 ⟨l,hl',rfl⟩) rfl
 ·rw[hhas]
  unfold Zey at hM
  rw[Bool.or_eq_false_iff] at hM
  have:=List.any_eq_false.1 hM.1 l hl'
  exact ZtC (by simpa using this)
theorem Zur {s:Src}{nm:ByteArray}(h:Zbf s=0):Zcp s nm=match ZbP s.2.1 (tgtR s.2.2 nm) with
  | none=>(zonO,5)
  | some es=>((tgtR s.2.2 nm,es),0):=by
 have ht:tgtV s nm=tgtR s.2.2 nm:=rfl
 unfold Zcp
 rw[if_neg (by simpa using h),ht,ZpL]
 unfold idxN
 generalize tgtR s.2.2 nm=x
 cases he:s.2.1[s.2.1.findIdx fun z=>decide (z.1=x)]? with
 | none=>rfl
 | some z =>
  obtain⟨hlt,hz⟩:=List.getElem?_eq_some_iff.1 he
  have:=List.findIdx_getElem (w:=hlt)
  rw[hz] at this
  have:=of_decide_eq_true this
  subst this;rfl
theorem ZtX {s:Src}{nm:ByteArray}(h:(Zcv s).2=0):ZgU (Zcv s).1 nm=ZiB s nm:=by
 obtain⟨h1,h2,h3⟩:=ZtW h
 obtain⟨n1,n2,n3⟩:=Zd8 h1
 unfold ZgU ZiB
 rw[if_neg (by simpa using ZgN h),h3]
 dsimp only
 rw[tgt_srt n2,Zmh,Zio (ZgI (ZgH n1)) (ZcD n1),Zur h1]
 cases he:ZbP s.2.1 (tgtR s.2.2 nm) with
 | none=>rfl
 | some es =>
  have hz:=Zck h2 _ ((ZcD n1).mem_iff.2 (ZdO he))
  show ((ofV s (tgtR s.2.2 nm,es)).1,(0:Int))=ofV s (tgtR s.2.2 nm,es)
  exact Prod.ext rfl hz.symm
end
section
open Go.Ab Go.RowKit Civ
attribute [local simp] Zbu ZbM
abbrev namC (n:Nam):List AV:=[sv n.1,iv n.2.1.1,iv n.2.1.2.1,sv n.2.1.2.2,chS n.2.2]
theorem Zfu {n:Nat}(l:List Nam):AV.ltL n (rows namC l)=true:=ZcE (fun n x=>by simp[AV.ltL,AV.lt,Zbu]) l
attribute [local simp] Zfu
theorem Za8 : ∀ x,(namC x).length=5:=fun _=>rfl
theorem Zcu (l:List Nam):(rows namC l).length=l.length*5:=Zbi Za8 l
abbrev nptC (p:NPt):List AV:=[sv p.1,iv p.2.1.1,iv p.2.1.2.1,sv p.2.1.2.2,iv p.2.2.1,iv p.2.2.2.1,chS p.2.2.2.2]
theorem ZpF {n:Nat}(l:List NPt):AV.ltL n (rows nptC l)=true:=ZcE (fun n x=>by simp[AV.ltL,AV.lt,Zbu]) l
attribute [local simp] ZpF
theorem npt_len1 : ∀ x,(nptC x).length=7:=fun _=>rfl
theorem ZnM (l:List NPt):(rows nptC l).length=l.length*7:=Zbi npt_len1 l
abbrev relC (r:Rel):List AV:=[.sl r.1.length 5 false (rows namC r.1),.sl r.2.length 2 false (rows lnkC r.2)]
def okNam (n:Nam):Prop:=n.1.size≤maxLen∧okT n.2
def ZnL (r:Rel):Prop:=(∀ n∈r.1,okNam n) ∧ ∀ l∈r.2,l.1.size≤maxLen∧l.2.size≤maxLen
section
theorem Zi9 {a0 a1 a2 a3 a4:AV}{l:List AV}:(a0::a1::a2::a3::a4::l).take 5=[a0,a1,a2,a3,a4]:=rfl
theorem Zse {a0 a1 a2 a3 a4 c0 c1 c2 c3 c4:AV}{l:List AV}:setCells (a0::a1::a2::a3::a4::l) 0 [c0,c1,c2,c3,c4]=c0::c1::c2::c3::c4::l:=rfl
theorem Zsd {a0 a1 a2 a3 a4:AV}{l:List AV}:((a0::a1::a2::a3::a4::l).drop 1).take 4=[a1,a2,a3,a4]:=rfl
theorem ZvG {a0 a1:AV}{l:List AV}:(a0::a1::l).take 2=[a0,a1]:=rfl
theorem Zsf {a0 a1 c0 c1:AV}{l:List AV}:setCells (a0::a1::l) 0 [c0,c1]=c0::c1::l:=rfl
end
def c101:AC:=(Sr [Mb 2 false] (Sr [Mv 3 0,Mv 4 0,Bn 5 .neq 3 4,Mv 2 5] .ret))
theorem k101:ZaA Tryz.prog 101=some ⟨c101,[(.tmp 2)],6⟩:=by kernel_rfl
def c50:AC:=(Sr [Mc 4 0] (Sr [Mv 7 0,Cl 8 101 [(t 7)],Mv 5 8] (Sr [Mv 9 1,Cl 10 101 [(t 9)],Mv 6 10] (.seq (Sr [Mv 11 5] (Cd 11 (.seq (Sr [Mv 12 6] (Cd 12 (Sr [Mc 4 0] .ret) .skip)) (Sr [Oo 4 (.mv (.const (.int .i64 (-1))))] .ret)) .skip)) (.seq (Sr [Mv 13 6] (Cd 13 (Sr [Mc 4 1] .ret) .skip)) (.seq (Sr [Mv 14 0,Mv 15 1,Bn 16 .lss 14 15] (Cd 16 (Sr [Oo 4 (.mv (.const (.int .i64 (-1))))] .ret) .skip)) (.seq (Sr [Mv 17 0,Mv 18 1,Bn 19 .gtr 17 18] (Cd 19 (Sr [Mc 4 1] .ret) .skip)) (Sr [Mc 4 0] .ret))))))))
theorem k50:ZaA Tryz.prog 50=some ⟨c50,[(.tmp 4)],20⟩:=by kernel_rfl
def c123:AC:=(Sr [Oo 2 (.box 40 5 (t 0)),Mc 4 0] (Sr [Fa 5 0 2,Ld 6 5,Mv 7 1,Cl 8 50 [(t 6),(t 7)],Mv 4 8] .ret))
theorem k123:ZaA Tryz.prog 123=some ⟨c123,[(.tmp 4)],9⟩:=by kernel_rfl
def c122:AC:=(Sr [Mc 6 0,Mb 7 false] (Sr [Mv 12 0,Oo 13 (.len false (t 12)),Mv 8 13] (Sr [Mv 14 8,Mc 9 0,Mv 10 14] (.seq (.block 0 (.loop (.seq (Sr [Mv 15 9,Mv 16 10,Bn 17 .lss 15 16] (Cd 17 .skip (.exit 0))) (.block 1 (Sr [Mv 18 9,Mv 19 10,Bn 20 .add 18 19,Oo 21 (.cvi .u64 (t 20)),Oo 22 (.bin .shr (t 21) (.const (.int .u64 1))),Oo 23 (.cvi .i64 (t 22)),Mv 11 23] (Sr [Mv 24 2,Mv 25 0,Mv 26 11,Oo 27 (.ia 5 (t 25) (t 26)),Oo 28 (.load true 5 (t 27)),Mv 29 1,Oo 30 (.call (t 24) [(t 28),(t 29)]),Bc 31 .lss 30 0] (Cd 31 (.reg [Mv 32 11,Bc 33 .add 32 1,Mv 9 33]) (.reg [Mv 34 11,Mv 10 34])))))))) (Sr [Mv 35 9,Mv 36 9,Mv 37 8,Bn 38 .lss 36 37,Mv 39 38,Ot 40 39 (mt 2),Ot 41 39 (mt 0),Ot 42 39 (mt 9),Ot 43 39 (.ia 5 (t 41) (t 42)),Ot 44 39 (.load true 5 (t 43)),Ot 45 39 (mt 1),Ot 46 39 (.call (t 40) [(t 44),(t 45)]),Ot 47 39 (.bin .eql (t 46) (Ci 0)),Oo 48 (.pick (t 39) (t 47) (.const (.bool false))),Mv 6 35,Mv 7 48] .ret)))))
theorem k122:ZaA Tryz.prog 122=some ⟨c122,[(.tmp 6),(.tmp 7)],49⟩:=by kernel_rfl
def c61:AC:=(Sr [Mc 4 0,Mb 5 false] (Sr [Mv 6 0,Mv 7 1,Cl 8 122 [(t 6),(t 7),(.func 123)],Ex 9 8 0,Ex 10 8 1,Mv 4 9,Mv 5 10] .ret))
theorem k61:ZaA Tryz.prog 61=some ⟨c61,[(.tmp 4),(.tmp 5)],11⟩:=by kernel_rfl
def c17:AC:=(Sr [Oo 1 (.box 25 2 (t 0)),Mc 2 0] (.seq (Sr [Fa 12 0 1,Ld 13 12,Oo 14 (.len false (t 13)),Bc 15 .gtr 14 20,Mv 16 15,Of 17 16 (.fa 1 (t 1)),Of 18 16 (.load false 1 (t 17)),Of 19 16 (.len false (t 18)),Of 20 16 (.bin .gtr (t 19) (Ci 20)),Oo 21 (.pick (t 16) (.const (.bool true)) (t 20))] (Cd 21 (Sr [Mc 2 2] .ret) .skip)) (.seq (Sr [Fa 22 0 1,Ld 23 22,Oo 24 (.len false (t 23)),Mc 25 0] (.block 0 (.loop (Sr [Bn 26 .lss 25 24] (.seq (Cd 26 .skip (.exit 0)) (.seq (.block 1 (Sr [Mv 27 25,Oo 28 (.ia 5 (t 23) (t 25)),Oo 29 (.load true 5 (t 28)),Oo 4 (.new 40 5 [Ss,(iv 0),(iv 0),Ss,nl]),Mv 3 27,⟨none,none,(.store 5 (t 4) (t 29))⟩] (.seq (Sr [Fa 30 0 4,Ld 31 30,Cl 32 59 [(t 31)],Oo 33 (.un .not (t 32))] (Cd 33 (Sr [Mc 2 1] .ret) .skip)) (.seq (Sr [Fa 34 1 4,Oo 35 (.load true 4 (t 34)),Cl 36 60 [(t 35)],Mv 5 36] (Sr [Mv 37 5,Bc 38 .neq 37 0] (Cd 38 (Sr [Mv 39 5,Mv 2 39] .ret) .skip))) (Sd [Mv 40 3,Bc 41 .gtr 40 0,Mv 42 41,Ot 43 42 (.fa 0 (t 4)),Ot 44 42 (.load false 1 (t 43)),Ot 45 42 (.fa 0 (t 1)),Ot 46 42 (.load false 1 (t 45)),Ot 47 42 (mt 3),Ot 48 42 (.bin .sub (t 47) (Ci 1)),Ot 49 42 (.ia 5 (t 46) (t 48)),Ot 50 42 (.fa 0 (t 49)),Ot 51 42 (.load false 1 (t 50)),Ot 52 42 (.bin .leq (t 44) (t 51)),Oo 53 (.pick (t 42) (t 52) (.const (.bool false)))] (Cd 53 (Sr [Mc 2 4] .ret) .skip)))))) (.reg [Bc 54 .add 25 1,Mv 25 54]))))))) (.seq (Sr [Fa 55 1 1,Ld 56 55,Oo 57 (.len false (t 56)),Mc 58 0] (.block 2 (.loop (Sr [Bn 59 .lss 58 57] (.seq (Cd 59 .skip (.exit 2)) (.seq (.block 3 (Sr [Mv 60 58,Oo 61 (.ia 2 (t 56) (t 58)),Oo 62 (.load true 2 (t 61)),Oo 7 (.new 97 2 [Ss,Ss]),Mv 6 60,⟨none,none,(.store 2 (t 7) (t 62))⟩] (Sr [Fa 64 0 1,Ld 65 64,Fa 66 1 7,Ld 67 66,Cl 68 61 [(t 65),(t 67)],Mv 63 68,Ex 69 63 0,Ex 70 63 1,Mv 8 69,Mv 9 70] (Sr [Fa 72 0 1,Ld 73 72,Fa 74 0 7,Ld 75 74,Cl 76 61 [(t 73),(t 75)],Mv 71 76,Ex 77 71 0,Ex 78 71 1,Mv 10 77,Mv 11 78] (.block 4 (Sr [Fa 80 1 7,Ld 81 80,Cl 82 59 [(t 81)],Oo 83 (.un .not (t 82)),Mv 79 83] (Cd 79 (Sr [Mc 2 1] .ret) (Sd [Mv 85 6,Bc 86 .gtr 85 0,Mv 87 86,Ot 88 87 (.fa 1 (t 7)),Ot 89 87 (.load false 1 (t 88)),Ot 90 87 (.fa 1 (t 1)),Ot 91 87 (.load false 1 (t 90)),Ot 92 87 (mt 6),Ot 93 87 (.bin .sub (t 92) (Ci 1)),Ot 94 87 (.ia 2 (t 91) (t 93)),Ot 95 87 (.fa 1 (t 94)),Ot 96 87 (.load false 1 (t 95)),Ot 97 87 (.bin .leq (t 89) (t 96)),Oo 98 (.pick (t 87) (t 97) (.const (.bool false))),Mv 84 98] (Cd 84 (Sr [Mc 2 4] .ret) (Sr [Mv 100 9,Mv 99 100] (Cd 99 (Sr [Mc 2 6] .ret) (Sr [Mv 102 11,Oo 103 (.un .not (t 102)),Mv 101 103] (Cd 101 (Sr [Mc 2 5] .ret) .skip))))))))))))) (.reg [Bc 104 .add 58 1,Mv 58 104]))))))) (Sr [Mc 2 0] .ret)))))
theorem k17:ZaA Tryz.prog 17=some ⟨c17,[(.tmp 2)],105⟩:=by kernel_rfl
theorem Zub {a:ByteArray}{h:AH}:Ac 101 [sv a] h (bv false):=by
 refine tI' k101 fun N hn _ _ hbd=>?_
 simp only[tb'] at hbd ⊢
 refine wk'<|wm<|mw<|Vw (Zc5 lk lk)<|mr<|?_
 refine Zad rz<|rT'<|?_
 refine bvx ?_;simp
theorem ZuK {a b:ByteArray}{h:AH}:Ac 50 [sv a,sv b] h (iv (cmpS a b)):=by
 refine tI' k50 fun N hn _ _ hbd=>?_
 simp only[tb'] at hbd ⊢
 refine wk'<|wm<|Zab mp (Zub) pt<|ms<|wr'<|?_
 refine mw<|Zab mp (Zub) pt<|ms<|Zac<|wk'<|ZaV lk<|za<|?_
 refine Zac<|wk'<|ZaV lk<|za<|Zac<|wm<|mw<|?_
 refine Vw (v_lssS lk lk)<|sn'<|?_
 refine Zat lk (fun hc4=>?_) (fun hc4=>?_)
 ·have hl:ltS a b=true:=hc4
  refine wo<|Zae<|Zad rz<|rT'<|?_
  refine ivx ?_;unfold cmpS;rw[if_pos hl]
 have hl:ltS a b=false:=hc4
 refine za<|Zac<|wm<|mw<|Vw (v_gtrS lk lk)<|sn'<|?_
 refine Zat lk (fun hc5=>?_) (fun hc5=>?_)
 ·have hg:ltS b a=true:=by have:=hc5;rwa [Ziq,Bool.not_not] at this
  refine wo<|Zae<|Zad rz<|rT'<|?_
  refine ivx ?_;unfold cmpS;rw[if_neg (by rw[hl];simp),if_pos hg]
 have hg:ltS b a=false:=by have:=hc5;rwa [Ziq,Bool.not_not] at this
 refine za<|wo<|Zad rz<|rT'<|?_
 refine ivx ?_;unfold cmpS;rw[if_neg (by rw[hl];simp),if_neg (by rw[hg];simp)]
theorem Zl7 {n:Nam}{nm:ByteArray}{h:AH}:Ac 123 [.agg (namC n),sv nm] h (iv (cmpS n.1 nm)):=by
 refine tI' k123 fun N hn _ _ hbd=>?_
 simp only[tb'] at hbd ⊢
 refine wr'<|E' (ZaR cv rfl hl0 ha0) pt<|ms<|wr'<|fq<|Vw (Zaa lk gx gt0)<|mw<|Zab mp (ZuK) pt<|mw<|Zal<|?_
 exact Zam<|ZaY<|Zad rz<|rT' rfl
theorem mid_val {i j:Nat}(h:i+j≤4611686018427387904):IntKind.i64.wrap ((IntKind.u64.wrap ((i:Int)+(j:Int))).fdiv (2 ^ (min (1:Int).toNat IntKind.u64.bits)))=(((i+j)/2:Nat):Int):=by
 have e1:IntKind.u64.wrap ((i:Int)+(j:Int))=(i:Int)+(j:Int):=by
  have h2:((i:Int)+j)%2 ^ 64=(i:Int)+j:=Int.emod_eq_of_lt om om
  show (let r:=((i:Int)+j)%2 ^ 64;if (false&&decide (r≥2 ^ 63))=true then r-2 ^ 64 else r)=_
  simp only[Bool.false_and,Bool.false_eq_true,if_false]
  exact h2
 have e2:(2:Int) ^ (min (1:Int).toNat IntKind.u64.bits)=2:=by decide
 rw[e1,e2,Int.fdiv_eq_ediv_of_nonneg _ om,w64 om om]
 omega
theorem low_of {t:List Nam}(hr:risN t) {nm:ByteArray}{q k:Nat}(hq:q<t.length) (h:ltS t[q].1 nm=true) (hk:k≤q):ltS (t[k]'(by omega)).1 nm=true:=by
 rcases Nat.lt_or_ge k q with e | e
 ·exact Zho (List.pairwise_iff_getElem.1 hr _ _ om hq e) h
 obtain rfl:k=q:=by omega
 exact h
theorem high_of {t:List Nam}(hr:risN t) {nm:ByteArray}{q k:Nat}(hk:k<t.length) (hq:q≤k) (h:ltS (t[q]'(by omega)).1 nm=false):ltS t[k].1 nm=false:=by
 rcases Nat.lt_or_ge q k with e | e
 ·cases h1:ltS t[k].1 nm with
  | false=>rfl
  | true=>rw[Zho (List.pairwise_iff_getElem.1 hr _ _ om hk e) h1] at h;cases h
 obtain rfl:q=k:=by omega
 exact h
theorem Zu6 {t:List Nam}{nm:ByteArray}{full:Bool}{h:AH}(hr:risN t) (hl:t.length≤1000000) :
  Ac 122 [.sl t.length 5 full (rows namC t),sv nm,.v (.func (.func 123) #[] #[])] h (.tup [iv (posN t nm),bv (hasN t nm)]):=by
 refine tI' k122 fun N hn hlt _ hbd=>?_
 simp only[tb'] at hbd ⊢
 refine wm<|ms<|wm<|Vw (ZaC lk)<|ms<|Zac<|?_
 refine Zaq<|mw<|mw<|ms<|Zac<|Zag<|?_
 refine w_lp (ι:=Nat×Nat) (fun (x_:Nat×Nat)=>match x_ with | ⟨i,j⟩=>[(9,iv (i:Int)),(10,iv (j:Int)),(11,.any)]++rn' 15 20) (fun (x_:Nat×Nat)=>match x_ with | ⟨i,j⟩=>[]) (fun (x_:Nat×Nat)=>match x_ with | ⟨i,j⟩=>i≤j∧j≤t.length∧(∀ k (hk:k<t.length),k<i→ltS t[k].1 nm=true) ∧ ∀ k (hk:k<t.length),j≤k→ltS t[k].1 nm=false) (fun (x_:Nat×Nat)=>match x_ with | ⟨i,j⟩=>j-i) (⟨0,t.length⟩) (by exact⟨Nat.zero_le _,Nat.le_refl _,fun k _ h=>by omega,fun k hk h=>by omega⟩) ?_
 rintro⟨i,j⟩ hi1
 try simp only[sm',Nat.reduceAdd]
 obtain⟨hi1,hi2,hi3,hi4⟩:=hi1
 refine Zac<|wm<|mw<|Vw (ZaL lk lk)<|sn'<|?_
 refine cd' lk (fun hc1=>?_) (fun hc1=>?_)
 ·have hij:i<j:=by omega
  have hq:(i+j)/2<t.length:=by omega
  refine za<|Zag<|wm<|mw<|?_
  refine V' (Zb6 lk lk om om) pt ?_
  refine V' (v_cvi lk) pt ?_
  refine V' (v_shr lk lki om) pt ?_
  refine V' (v_cvi lk) pt ?_
  rw[mid_val om]
  refine ms<|wm<|mw<|mw<|?_
  refine V' (ZaF (k:=(i+j)/2) lk lk Za8 nb ro om ro rfl) pt ?_
  refine Vw (Zau lk Zi9 rfl)<|mw<|ZfA lk mp (Zl7 (n:=t[(i+j)/2])) pt<|Vw (ZaL lk lki)<|sn'<|?_
  refine cd' lk (fun hc2=>?_) (fun hc2=>?_)
  ·have hlt:ltS t[(i+j)/2].1 nm=true:=Ze7.1 hc2
   refine Zaq<|mw<|?_
   refine ad<|mw<|Zal<|Zav<|Zaz<|?_
   refine lU' (⟨(i+j)/2+1,j⟩) (by (try dsimp only);exact⟨by omega,hi2,fun k hk h=>low_of hr hq hlt om,hi4⟩) (by refine zz ?_;exact ALe.same (by repeat (first | exact wk0 | refine wka ?_ | refine wk1 rfl ?_ | refine wk1 (by first | rfl | exact ivx om) ?_)) rfl)
  have hlt:ltS t[(i+j)/2].1 nm=false:=by rw[Bool.eq_false_iff,ne_eq,←Ze7];exact hc2
  refine Zaq<|mw<|mw<|Zal<|Zav<|Zaz<|?_
  refine lU' (⟨i,(i+j)/2⟩) (by (try dsimp only);exact⟨by omega,by omega,hi3,fun k hk h=>high_of hr hk h hlt⟩) (by refine zz ?_;exact ALe.same (by repeat (first | exact wk0 | refine wka ?_ | refine wk1 rfl ?_ | refine wk1 (by first | rfl | exact ivx om) ?_)) rfl)
 obtain rfl:i=j:=by omega
 have hpos:posN t nm=i:=pos_is hi2 hi3 hi4
 refine Zay<|Zas<|Zas<|ZaI<|Zam<|wm<|mw<|mw<|Vw (ZaL lk lk)<|mw<|?_
 refine sp' (t:=39) gt pt pt (fun hg39=>?_) (fun hg39=>?_)
 ·have hi:i<t.length:=by omega
  have hhas:hasN t nm=decide (t[i].1=nm):=by rw[Bool.eq_iff_iff,ZtA hr,decide_eq_true_iff];constructor;(rintro⟨h1,h2⟩;simpa only [hpos] using h2);(intro h2;exact⟨by rw[hpos];exact hi,by simpa only [hpos] using h2⟩)
  refine sd<|mw<|sd<|mw<|sd<|mw<|sd<|?_
  refine V' (ZaF (k:=i) lk lk Za8 nb ro om ro rfl) pt ?_
  refine sd<|Vw (Zau lk Zi9 rfl)<|sd<|mw<|sd<|ZfA lk mp (Zl7 (n:=t[i])) pt<|sd<|Vw (Za2 lk lki)<|Vw (Zaj lk lk)<|mw<|mr<|?_
  refine Zad ry<|rT'<|?_
  rw[hpos,hhas];refine congrArg (fun b=>AV.tup [iv (i:Int),bv b]) ?_;rw[Bool.eq_iff_iff,decide_eq_true_iff,decide_eq_true_iff];exact ZuP
 have hhas:hasN t nm=false:=by rw[Bool.eq_false_iff,ne_eq,ZtA hr];rintro⟨h1,_⟩;omega
 refine so<|so<|so<|so<|so<|so<|so<|so<|Vw (Zai lk lkb)<|mw<|mr<|?_
 refine Zad ry<|rT'<|?_
 rw[hpos,hhas]
theorem Zif {t:List Nam}{nm:ByteArray}{full:Bool}{h:AH}(hr:risN t) (hl:t.length≤1000000) :
  Ac 61 [.sl t.length 5 full (rows namC t),sv nm] h (.tup [iv (posN t nm),bv (hasN t nm)]):=by
 refine tI' k61 fun N hn _ _ hbd=>?_
 simp only[tb'] at hbd ⊢
 refine wm<|ms<|wm<|mw<|Zab mp (Zu6 hr hl) pt<|Vw (ZaS lk gt)<|Vw (ZaS lk gt)<|mw<|?_
 exact mr<|Zad ry<|rT' rfl
theorem ZiH {r:Rel}(h:20<r.1.length∨20<r.2.length):Zbp r=2:=if_pos h
theorem ZfK {r:Rel}(h:¬(20<r.1.length∨20<r.2.length)) (h2:chkN none r.1≠0):Zbp r=chkN none r.1:=by unfold Zbp;rw[if_neg h,if_pos h2]
theorem ZmI {r:Rel}(h:¬(20<r.1.length∨20<r.2.length)) (h2:chkN none r.1=0):Zbp r=chkL r.1 none r.2:=by unfold Zbp;rw[if_neg h,if_neg (by simpa using h2)]
theorem Ztn {t:List Nam}{k:List Lnk}{f1 f2:Bool}{h:AH}(hok:ZnL (t,k)):Ac 17 [.agg [.sl t.length 5 f1 (rows namC t),.sl k.length 2 f2 (rows lnkC k)]] h (iv (Zbp (t,k))):=by
 refine tI' k17 fun N hn hlt _ hbd=>?_
 simp only[tb'] at hbd ⊢
 refine wr'<|E' (ZaR cv rfl hl0 ha0) pt<|ms<|Zac<|wr'<|fq<|Vw (Zaa lk gx gt0)<|Vw (ZaC lk)<|Vw (Zbw lk lki)<|mw<|?_
 refine sp' (t:=16) gt pt pt (fun hg16=>?_) (fun hg16=>?_)
 ·have hR:Zbp (t,k)=2:=ZiH (.inl (by show 20<t.length;omega))
  refine so<|so<|so<|so<|Vw (Zaj lk lkb)<|sn'<|ZaP lk<|wo<|?_
  refine Zae<|Zad rz<|rT'<|?_
  rw[hR]
 refine sd<|fq<|sd<|Vw (Zaa lk gx gt1)<|sd<|Vw (ZaC lk)<|sd<|Vw (Zbw lk lki)<|Vw (Zai lk lk)<|sn'<|?_
 refine cd' lk (fun hc1=>?_) (fun hc1=>?_)
 ·have hR:Zbp (t,k)=2:=ZiH (.inr (by show 20<k.length;omega))
  refine wo<|Zae<|Zad rz<|rT'<|?_
  rw[hR]
 have hno:¬(20<t.length∨20<k.length):=by omega
 refine za<|Zac<|wr'<|fq<|Vw (Zaa lk gx gt0)<|Vw (ZaC lk)<|ms<|Zag<|?_
 refine w_lp (ι:=Nat) (fun (i:Nat)=>[(25,iv (i:Int))]++rn' 2 4++rn' 26 29) (fun (i:Nat)=>[]) (fun (i:Nat)=>i≤t.length∧chkN none t=chkN (ZgJ (·.1) t i) (t.drop i)) (fun (i:Nat)=>t.length-i) (0) (by exact⟨Nat.zero_le _,rfl⟩) ?_
 rintro i hi1
 try simp only[sm',Nat.reduceAdd]
 obtain⟨hi1,hi2⟩:=hi1
 refine wr'<|Vw (ZaL lk lk)<|sn'<|Zac<|?_
 refine cd' lk (fun hc2=>?_) (fun hc2=>?_)
 ·have hi:i<t.length:=by omega
  have hn_:=hok.1 _ (List.getElem_mem hi)
  rw[chkN_at hi] at hi2
  refine za<|Zac<|Zag<|wm<|?_
  refine V' (ZaF lk lk Za8 nb ro om ro rfl) pt ?_
  refine Vw (Zau lk Zi9 rfl)<|E' (ZaT hl1 ha1) pt<|mw<|E' (Zak lk cv gx rfl nb rfl Zse hs1) ptn<|sn'<|Zac<|wr'<|fq<|Vw (Zaa lk gx gt0)<|Zab mp (Zil hn_.1) pt<|Vw (Zax lk)<|Zal<|?_
  refine Zam ?_
  refine Zat lk (fun hc3=>?_) (fun hc3=>?_)
  ·have hb:Zcc t[i].1=false:=by simpa using hc3
   rw[if_pos hb] at hi2
   refine wo<|Zae<|Zao<|Zae<|Zae<|Zao<|Zae<|Zad rz<|rT'<|?_
   rw[ZfK (r:=(t,k)) hno (by rw[hi2];decide),hi2]
  have hb:Zcc t[i].1=true:=by simpa using hc3
  rw[if_neg (by rw[hb];simp)] at hi2
  refine za<|Zac<|wr'<|fq<|Vw (Zah lk gx Zsd rfl)<|Zab mp (Zoo (l:=t[i].2.2) hn_.2.1 hn_.2.2) pt<|ms<|wm<|?_
  refine Vw (Za0 lk lki)<|sn'<|?_
  refine cd' lk (fun hc4=>?_) (fun hc4=>?_)
  ·have hv:Zbo t[i].2≠0:=hc4
   rw[if_pos hv] at hi2
   refine wm<|mr<|Zae<|Zao<|Zae<|Zae<|Zao<|Zae<|Zad rz<|?_
   refine rT' ?_
   rw[ZfK (r:=(t,k)) hno (by rw[hi2];exact hv),hi2]
  have hv:¬Zbo t[i].2≠0:=hc4
  rw[if_neg hv] at hi2
  refine za<|Zac<|ZaJ<|Dw vm<|Dw (Zbw lk lki)<|Dw vm<|?_
  refine dq' (t:=42) gt pt pt (fun hg42=>?_) (fun hg42=>?_)
  ·have hp:ZgJ (·.1) t i=some (t[i-1]'(by omega)).1:=by have:=Ze1 (f:=(·.1)) (l:=t) (i:=i-1) om;rwa [show i-1+1=i by omega] at this
   refine dO<|dg<|dO<|Dw (Zaa lk gx gt0)<|dO<|dg<|dO<|Dw (Zaa lk gx gt0)<|dO<|Dw vm<|dO<|?_
   refine D' (Zbb lk lki om om) pt ?_
   refine d_do gt ?_
   refine D' (ZaF (k:=i-1) lk lk Za8 nb ro om ro rfl) pt ?_
   refine dO<|Dw (ZaQ lk dp0)<|dO<|Dw (Zar lk gt)<|dO<|Dw (v_leqS lk lk)<|Dw (Zaj lk lk)<|ZaM<|?_
   refine Za5 ?_
   refine sn' ?_
   refine Zat lk (fun hc5=>?_) (fun hc5=>?_)
   ·have hA:Zc9 (ZgJ (·.1) t i) t[i].1=false:=by rw[hp];have:=hc5;rw[Ziq,Bool.not_eq_true'] at this;exact this
    rw[if_pos hA] at hi2
    refine wo<|Zao<|Zae<|Zae<|Zao<|Zae<|Zad rz<|rT'<|?_
    rw[ZfK (r:=(t,k)) hno (by rw[hi2];decide),hi2]
   have hA:Zc9 (ZgJ (·.1) t i) t[i].1=true:=by rw[hp];have:=hc5;rw[Ziq,Bool.not_eq_false'] at this;exact this
   refine ZaB<|Zav<|Zam<|Zaq<|?_
   refine ad<|mw<|Zal<|Zaz<|?_
   refine lU' (i+1) (by (try dsimp only);exact⟨by omega,by rw[hi2,if_neg (by rw[hA];simp)]⟩) (by refine zz ?_;exact bk' 1 hn hlt)
  have hA:Zc9 (ZgJ (·.1) t i) t[i].1=true:=by obtain rfl:i=0:=om;rfl
  refine dn<|dn<|dn<|dn<|dn<|dn<|dn<|dn<|dn<|dn<|Dw (Zai lk lkb)<|ZaM<|?_
  refine Za5 ?_
  refine sn'<|ZaV lk<|ZaB<|Zav<|Zam<|Zaq<|?_
  refine ad<|mw<|Zal<|Zaz<|?_
  refine lU' (i+1) (by (try dsimp only);exact⟨by omega,by rw[hi2,if_neg (by rw[hA];simp)]⟩) (by refine zz ?_;exact bk' 1 hn hlt)
 rw[List.drop_of_length_le (show t.length≤i by omega)] at hi2
 have hN:chkN none t=0:=by rw[hi2];rfl
 have hC:=ZmI (r:=(t,k)) hno hN
 obtain⟨_,hr,_⟩:=Zol hN
 have hr':risN t:=hr
 refine Zay<|Zas<|Zas<|ZaI<|Zam<|Zac<|wr'<|fq<|Vw (Zaa lk gx gt1)<|Vw (ZaC lk)<|ms<|?_
 refine Zag ?_
 refine w_lp (ι:=Nat) (fun (j:Nat)=>[(58,iv (j:Int)),(2,.any)]++rn' 6 6++rn' 59 46) (fun (j:Nat)=>[]) (fun (j:Nat)=>j≤k.length∧chkL t none k=chkL t (ZgJ (·.2) k j) (k.drop j)) (fun (j:Nat)=>k.length-j) (0) (by exact⟨Nat.zero_le _,rfl⟩) ?_
 rintro j hi2
 try simp only[sm',Nat.reduceAdd]
 obtain⟨hj1,hj2⟩:=hi2
 refine wr'<|Vw (ZaL lk lk)<|sn'<|Zac<|?_
 refine cd' lk (fun hc6=>?_) (fun hc6=>?_)
 ·have hj:j<k.length:=by omega
  have hln:=hok.2 _ (List.getElem_mem hj)
  rw[chkL_at hj] at hj2
  refine za<|Zac<|Zag<|wm<|?_
  refine V' (ZaF lk lk Za9 nb ro om ro rfl) pt ?_
  refine Vw (Zau lk ZvG rfl)<|E' (ZaT hl1 ha1) pt<|mw<|E' (Zak lk cv gx rfl nb rfl Zsf hs1) ptn<|sn'<|wr'<|fq<|Vw (Zaa lk gx gt0)<|fq<|Vw (Zaa lk gx gt1)<|?_
  refine Zab mp (Zif hr' om) pt ?_
  refine mw<|Vw (ZaS lk gt)<|Vw (ZaS lk gt)<|mw<|ms<|wr'<|fq<|Vw (Zaa lk gx gt0)<|fq<|Vw (Zaa lk gx gt0)<|?_
  refine Zab mp (Zif hr' om) pt ?_
  refine mw<|Vw (ZaS lk gt)<|Vw (ZaS lk gt)<|mw<|ms<|Zag<|wr'<|fq<|Vw (Zaa lk gx gt1)<|Zab mp (Zil hln.2) pt<|Vw (Zax lk)<|?_
  refine ms<|?_
  refine Zat lk (fun hc7=>?_) (fun hc7=>?_)
  ·have hb:Zcc k[j].2=false:=by simpa using hc7
   rw[if_pos hb] at hj2
   refine wo<|Zao<|Zao<|Zae<|Zae<|Zao<|Zae<|Zad rz<|rT'<|?_
   rw[hC];exact ivx hj2.symm
  have hb:Zcc k[j].2=true:=by simpa using hc7
  rw[if_neg (by rw[hb];simp)] at hj2
  refine Zac<|ZaJ<|Dw vm<|Dw (Zbw lk lki)<|Dw vm<|?_
  refine dq' (t:=87) gt pt pt (fun hg87=>?_) (fun hg87=>?_)
  ·have hp:ZgJ (·.2) k j=some (k[j-1]'(by omega)).2:=by have:=Ze1 (f:=(·.2)) (l:=k) (i:=j-1) om;rwa [show j-1+1=j by omega] at this
   refine dO<|dg<|dO<|Dw (Zaa lk gx gt1)<|dO<|dg<|dO<|Dw (Zaa lk gx gt1)<|dO<|Dw vm<|dO<|?_
   refine D' (Zbb lk lki om om) pt ?_
   refine d_do gt ?_
   refine D' (ZaF (k:=j-1) lk lk Za9 nb ro om ro rfl) pt ?_
   refine dO<|Dw (ZaQ lk dp1)<|dO<|Dw (Zar lk gt)<|dO<|Dw (v_leqS lk lk)<|Dw (Zaj lk lk)<|Dw vm<|ZaM<|?_
   refine Za5 ?_
   refine sn' ?_
   refine Zat lk (fun hc8=>?_) (fun hc8=>?_)
   ·have hA:Zc9 (ZgJ (·.2) k j) k[j].2=false:=by rw[hp];have:=hc8;rw[Ziq,Bool.not_eq_true'] at this;exact this
    rw[if_pos hA] at hj2
    refine wo<|Zao<|Zao<|Zae<|Zae<|Zao<|Zae<|Zad rz<|rT'<|?_
    rw[hC];exact ivx hj2.symm
   have hA:Zc9 (ZgJ (·.2) k j) k[j].2=true:=by rw[hp];have:=hc8;rw[Ziq,Bool.not_eq_false'] at this;exact this
   refine wm<|ms<|?_
   refine Zat lk (fun hc9=>?_) (fun hc9=>?_)
   ·rw[if_neg (by rw[hA];simp),if_pos hc9] at hj2
    refine wo<|Zao<|Zao<|Zae<|Zae<|Zao<|Zae<|Zad rz<|rT'<|?_
    rw[hC];exact ivx hj2.symm
   rw[if_neg (by rw[hA];simp),if_neg (by rw[hc9];simp)] at hj2
   refine wm<|Vw (Zax lk)<|ms<|?_
   refine Zat lk (fun hc10=>?_) (fun hc10=>?_)
   ·rw[if_pos (by simpa using hc10)] at hj2
    refine wo<|Zao<|Zao<|Zae<|Zae<|Zao<|Zae<|Zad rz<|rT'<|?_
    rw[hC];exact ivx hj2.symm
   rw[if_neg (by simpa using hc10)] at hj2
   refine ZaB<|Zav<|Zav<|Zam<|Zaq<|?_
   refine ad<|mw<|Zal<|Zaz<|?_
   refine lU' (j+1) (by (try dsimp only);exact⟨by omega,hj2⟩) (by refine zz ?_;exact bk' 1 hn hlt)
  have hA:Zc9 (ZgJ (·.2) k j) k[j].2=true:=by obtain rfl:j=0:=om;rfl
  refine dn<|dn<|dn<|dn<|dn<|dn<|dn<|dn<|dn<|dn<|Dw (Zai lk lkb)<|Dw vm<|ZaM<|?_
  refine Za5 ?_
  refine sn'<|ZaV lk<|wm<|ms<|?_
  refine Zat lk (fun hc9=>?_) (fun hc9=>?_)
  ·rw[if_neg (by rw[hA];simp),if_pos hc9] at hj2
   refine wo<|Zao<|Zao<|Zae<|Zae<|Zao<|Zae<|Zad rz<|rT'<|?_
   rw[hC];exact ivx hj2.symm
  rw[if_neg (by rw[hA];simp),if_neg (by rw[hc9];simp)] at hj2
  refine wm<|Vw (Zax lk)<|ms<|?_
  refine Zat lk (fun hc10=>?_) (fun hc10=>?_)
  ·rw[if_pos (by simpa using hc10)] at hj2
   refine wo<|Zao<|Zao<|Zae<|Zae<|Zao<|Zae<|Zad rz<|rT'<|?_
   rw[hC];exact ivx hj2.symm
  rw[if_neg (by simpa using hc10)] at hj2
  refine ZaB<|Zav<|Zav<|Zam<|Zaq<|?_
  refine ad<|mw<|Zal<|Zaz<|?_
  refine lU' (j+1) (by (try dsimp only);exact⟨by omega,hj2⟩) (by refine zz ?_;exact bk' 1 hn hlt)
 rw[List.drop_of_length_le (show k.length≤j by omega)] at hj2
 refine Zay<|Zas<|Zas<|ZaI<|Zam<|wo<|Zad rz<|rT'<|?_
 rw[hC];exact ivx hj2.symm
end
section
open Go.Ab Go.RowKit Civ
attribute [local simp] Zbu Zfu ZbM ZpF Zdu
section
theorem Zlt {τ:Operand→AV}:Zan τ [] []=some []:=rfl
theorem Zo3 {τ:Operand→AV}:Zan τ [] []=some []:=rfl
theorem Zha {a0 a1 a2:AV}{l:List AV}:((a0::a1::a2::l).drop 0).take 3=[a0,a1,a2]:=rfl
theorem Zsc {τ:Operand→AV}{y0 y1:Operand}{x0_0 x0_1 x0_2 x1_0:AV}(h0:Zap (τ y0)=some [x0_0,x0_1,x0_2]) (l0:[x0_0,x0_1,x0_2].all leaf=true) (h1:Zap (τ y1)=some [x1_0]) (l1:[x1_0].all leaf=true):Zan τ [(0,3,y0),(3,1,y1)] [(iv 0),(iv 0),(.v (.string ⟨#[]⟩)),(.sl 0 0 true [])]=some [x0_0,x0_1,x0_2,x1_0]:=by
 simp only[Zan,h0,l0,h1,l1]
 rfl
theorem ZbX {a0 a1 a2 a3 c0 c1 c2 c3:AV}{l:List AV}:setCells (a0::a1::a2::a3::l) 0 [c0,c1,c2,c3]=c0::c1::c2::c3::l:=rfl
theorem ZbW {a0 a1 a2 a3:AV}{l:List AV}:((a0::a1::a2::a3::l).drop 0).take 4=[a0,a1,a2,a3]:=rfl
theorem ZeT {a0 a1 a2 a3:AV}{l:List AV}:(a0::a1::a2::a3::l).take 4=[a0,a1,a2,a3]:=rfl
theorem Zna {a0 b0:Int}{a1 b1:Int}{a2 b2:Int}{a3 b3:ByteArray}:Za3 [.int,.int,.int,.str] [iv a0,iv a1,iv a2,sv a3] [iv b0,iv b1,iv b2,sv b3]=some (decide (a0=b0∧a1=b1∧a2=b2∧a3=b3)):=by
 simp only[Za3,ZcF,if_true,ZbO,Option.some.injEq]
 simp only[Bool.decide_and,Bool.and_true]
 try (congr 1 <;> simp)
 try rfl
theorem Zo2 {a0 b0:Int}{a1 b1:Int}{a2 b2:ByteArray}:Za3 [.int,.int,.str] [iv a0,iv a1,sv a2] [iv b0,iv b1,sv b2]=some (decide (a0=b0∧a1=b1∧a2=b2)):=by
 simp only[Za3,ZcF,if_true,ZbO,Option.some.injEq]
 simp only[Bool.decide_and,Bool.and_true]
 try (congr 1 <;> simp)
 try rfl
theorem Zks {a0 c0:AV}{l:List AV}:setCells (a0::l) 0 [c0]=c0::l:=rfl
theorem Znb {τ:Operand→AV}:Zan τ [] [(iv 0),(iv 0),(.v (.string ⟨#[]⟩)),(.sl 0 0 true [])]=some [(iv 0),(iv 0),(.v (.string ⟨#[]⟩)),(.sl 0 0 true [])]:=rfl
theorem ZcR {a0 a1:AV}{l:List AV}:((a0::a1::l).drop 0).take 2=[a0,a1]:=rfl
theorem Zo4 {τ:Operand→AV}:Zan τ [] [(iv 0),(iv 0),(.v (.string ⟨#[]⟩)),(.sl 0 0 true [])]=some [(iv 0),(iv 0),(.v (.string ⟨#[]⟩)),(.sl 0 0 true [])]:=rfl
theorem Znc {τ:Operand→AV}:Zan τ [] [(iv 0),(iv 0),(.v (.string ⟨#[]⟩)),(.sl 0 0 true [])]=some [(iv 0),(iv 0),(.v (.string ⟨#[]⟩)),(.sl 0 0 true [])]:=rfl
theorem Zjp {τ:Operand→AV}{y0:Operand}{x0_0:AV}(h0:Zap (τ y0)=some [x0_0]) (l0:[x0_0].all leaf=true):Zan τ [(3,1,y0)] [(.sl 0 0 true []),(.sl 0 0 true []),(.sl 0 0 true []),(.sl 0 0 true [])]=some [(.sl 0 0 true []),(.sl 0 0 true []),(.sl 0 0 true []),x0_0]:=by
 simp only[Zan,h0,l0]
 rfl
theorem Zi4 {a0 a1 a2 a3 a4:AV}{l:List AV}:(a0::a1::a2::a3::a4::l).take 5=[a0,a1,a2,a3,a4]:=rfl
theorem Zkr {a0 a1 a2 a3 a4 c0 c1 c2 c3 c4:AV}{l:List AV}:setCells (a0::a1::a2::a3::a4::l) 0 [c0,c1,c2,c3,c4]=c0::c1::c2::c3::c4::l:=rfl
theorem Zi8 {τ:Operand→AV}{y0:Operand}{x0_0:AV}(h0:Zap (τ y0)=some [x0_0]) (l0:[x0_0].all leaf=true):Zan τ [(0,1,y0)] [(.v (.string ⟨#[]⟩))]=some [x0_0]:=by
 simp only[Zan,h0,l0]
 rfl
theorem ZvF {a0:AV}{l:List AV}:(a0::l).take 1=[a0]:=rfl
theorem Zg9 {a0 a1 a2 a3 a4:AV}{l:List AV}:((a0::a1::a2::a3::a4::l).drop 1).take 4=[a1,a2,a3,a4]:=rfl
theorem Zi7 {τ:Operand→AV}{y0 y1:Operand}{x0_0 x1_0 x1_1 x1_2 x1_3:AV}(h0:Zap (τ y0)=some [x0_0]) (l0:[x0_0].all leaf=true) (h1:Zap (τ y1)=some [x1_0,x1_1,x1_2,x1_3]) (l1:[x1_0,x1_1,x1_2,x1_3].all leaf=true):Zan τ [(0,1,y0),(1,4,y1)] [(.v (.string ⟨#[]⟩)),(iv 0),(iv 0),(.v (.string ⟨#[]⟩)),(.sl 0 0 true [])]=some [x0_0,x1_0,x1_1,x1_2,x1_3]:=by
 simp only[Zan,h0,l0,h1,l1]
 rfl
theorem Zi6 {τ:Operand→AV}{y0:Operand}{x0_0 x0_1 x0_2 x0_3 x0_4:AV}(h0:Zap (τ y0)=some [x0_0,x0_1,x0_2,x0_3,x0_4]) (l0:[x0_0,x0_1,x0_2,x0_3,x0_4].all leaf=true):Zan τ [(0,5,y0)] [(.v (.string ⟨#[]⟩)),(iv 0),(iv 0),(.v (.string ⟨#[]⟩)),(.sl 0 0 true [])]=some [x0_0,x0_1,x0_2,x0_3,x0_4]:=by
 simp only[Zan,h0,l0]
 rfl
theorem Zm9 { e:Ent}:([]:AH)++[e]=[e]:=rfl
theorem Zkt {e0 e1 e2 e3 e4 e5 e6 e7 d0:Ent}:([e0,e1,e2,e3,e4,e5,e6,e7]:AH)++[d0]=[e0,e1,e2,e3,e4,e5,e6,e7,d0]:=rfl
theorem Zsa {a0 a1 c0:AV}{l:List AV}:setCells (a0::a1::l) 1 [c0]=a0::c0::l:=rfl
theorem Zi5 {τ:Operand→AV}{y0 y1:Operand}{x0_0 x1_0 x1_1 x1_2 x1_3 x1_4 x1_5:AV}(h0:Zap (τ y0)=some [x0_0]) (l0:[x0_0].all leaf=true) (h1:Zap (τ y1)=some [x1_0,x1_1,x1_2,x1_3,x1_4,x1_5]) (l1:[x1_0,x1_1,x1_2,x1_3,x1_4,x1_5].all leaf=true):Zan τ [(0,1,y0),(1,6,y1)] [(.v (.string ⟨#[]⟩)),(iv 0),(iv 0),(.v (.string ⟨#[]⟩)),(iv 0),(iv 0),(.sl 0 0 true [])]=some [x0_0,x1_0,x1_1,x1_2,x1_3,x1_4,x1_5]:=by
 simp only[Zan,h0,l0,h1,l1]
 rfl
theorem ZhD {τ:Operand→AV}{y0:Operand}{x0_0 x0_1 x0_2 x0_3 x0_4 x0_5 x0_6:AV}(h0:Zap (τ y0)=some [x0_0,x0_1,x0_2,x0_3,x0_4,x0_5,x0_6]) (l0:[x0_0,x0_1,x0_2,x0_3,x0_4,x0_5,x0_6].all leaf=true):Zan τ [(0,7,y0)] [(.v (.string ⟨#[]⟩)),(iv 0),(iv 0),(.v (.string ⟨#[]⟩)),(iv 0),(iv 0),(.sl 0 0 true [])]=some [x0_0,x0_1,x0_2,x0_3,x0_4,x0_5,x0_6]:=by
 simp only[Zan,h0,l0]
 rfl
theorem ZvE {a0 a1 a2 a3 a4 a5 a6:AV}{l:List AV}:(a0::a1::a2::a3::a4::a5::a6::l).take 7=[a0,a1,a2,a3,a4,a5,a6]:=rfl
theorem Zr9 {a0 a1 a2 c0:AV}{l:List AV}:setCells (a0::a1::a2::l) 2 [c0]=a0::a1::c0::l:=rfl
theorem Zo5 {τ:Operand→AV}{y0 y1:Operand}{x0_0 x0_1 x1_0 x1_1:AV}(h0:Zap (τ y0)=some [x0_0,x0_1]) (l0:[x0_0,x0_1].all leaf=true) (h1:Zap (τ y1)=some [x1_0,x1_1]) (l1:[x1_0,x1_1].all leaf=true):Zan τ [(0,2,y0),(2,2,y1)] [(.sl 0 0 true []),(.sl 0 0 true []),(.sl 0 0 true []),(.sl 0 0 true [])]=some [x0_0,x0_1,x1_0,x1_1]:=by
 simp only[Zan,h0,l0,h1,l1]
 rfl
theorem Zsb {a0 a1 c0 c1:AV}{l:List AV}:setCells (a0::a1::l) 0 [c0,c1]=c0::c1::l:=rfl
theorem Znd {τ:Operand→AV}:Zan τ [] [(.sl 0 0 true []),(.sl 0 0 true []),(.sl 0 0 true []),(.sl 0 0 true [])]=some [(.sl 0 0 true []),(.sl 0 0 true []),(.sl 0 0 true []),(.sl 0 0 true [])]:=rfl
end
def c47:AC:=(Sr [Oo 2 (.mv (.const (.slice none 0 0)))] (.seq (Sr [Mv 3 0,Oo 4 (.eqn false (t 3))] (Cd 4 (Sr [Oo 2 (.mv (.const (.slice none 0 0)))] .ret) .skip)) (Sr [Oo 5 (.lit 97 2 0 [] []),Mv 6 0,Oo 7 (.app 97 2 32 (t 5) (t 6)),Mv 2 7] .ret)))
theorem k47:ZaA Tryz.prog 47=some ⟨c47,[(.tmp 2)],8⟩:=by kernel_rfl
def c44:AC:=(Sr [Oo 1 (.box 38 4 (t 0)),Oo 2 (.new 38 4 [(iv 0),(iv 0),Ss,nl])] (.seq (.drw [Fa 3 0 1,Oo 4 (.load true 3 (t 3)),Fa 5 3 1,Ld 6 5,Cl 7 89 [(t 6)],Oo 8 (.build [(iv 0),(iv 0),Ss,nl] [(0,(3,(t 4))),(3,(1,(t 7)))])] [false] [⟨none,none,(.store 4 (t 2) (t 8))⟩]) .ret))
theorem k44:ZaA Tryz.prog 44=some ⟨c44,[(.cell 2 true 4)],9⟩:=by kernel_rfl
def c151:AC:=(Sr [Mb 4 false] (.seq (Sr [Mv 6 0,Oo 7 (.len false (t 6)),Mv 8 1,Oo 9 (.len false (t 8)),Bn 10 .neq 7 9] (Cd 10 (Sr [Mb 4 false] .ret) .skip)) (.seq (Sr [Mv 11 0,Oo 12 (.len false (t 11)),Mc 13 0] (.block 0 (.loop (Sr [Bn 14 .lss 13 12] (.seq (Cd 14 .skip (.exit 0)) (.seq (.block 1 (Sr [Mv 15 13,Mv 5 15] (Sd [Mv 16 0,Mv 17 5,Oo 18 (.ia 4 (t 16) (t 17)),Oo 19 (.load true 4 (t 18)),Mv 20 1,Mv 21 5,Oo 22 (.ia 4 (t 20) (t 21)),Oo 23 (.load true 4 (t 22)),Oo 24 (.eqs true [.int,.int,.int,.str] (t 19) (t 23))] (Cd 24 (Sr [Mb 4 false] .ret) .skip)))) (.reg [Bc 25 .add 13 1,Mv 13 25]))))))) (Sr [Mb 4 true] .ret))))
theorem k151:ZaA Tryz.prog 151=some ⟨c151,[(.tmp 4)],26⟩:=by kernel_rfl
def c86:AC:=(Sr [Oo 2 (.box 38 4 (t 0)),Oo 3 (.box 38 4 (t 1)),Mb 4 false] (Sr [Fa 5 0 2,Oo 6 (.load true 3 (t 5)),Fa 7 0 3,Oo 8 (.load true 3 (t 7)),Oo 9 (.eqs false [.int,.int,.str] (t 6) (t 8)),Mv 10 9,Ot 11 10 (.fa 3 (t 2)),Ot 12 10 (.load false 1 (t 11)),Ot 13 10 (.fa 3 (t 3)),Ot 14 10 (.load false 1 (t 13)),Ot 15 10 (.call (.func 151) [(t 12),(t 14)]),Oo 16 (.pick (t 10) (t 15) (.const (.bool false))),Mv 4 16] .ret))
theorem k86:ZaA Tryz.prog 86=some ⟨c86,[(.tmp 4)],17⟩:=by kernel_rfl
def c88:AC:=(Sr [Oo 2 (.box 97 2 (t 0)),Mb 3 false] (Sr [Fa 4 1 2,Ld 5 4,Ld 6 1,Bn 7 .eql 5 6,Mv 3 7] .ret))
theorem k88:ZaA Tryz.prog 88=some ⟨c88,[(.tmp 3)],8⟩:=by kernel_rfl
def c43:AC:=(Sr [Oo 2 (.box 25 2 (t 0)),Oo 3 (.box 9 1 (t 1)),Oo 4 (.new 38 4 [(iv 0),(iv 0),Ss,nl]),Mb 5 false] (Sr [Fa 9 1 2,Ld 10 9,Oo 11 (.mkfn 88 [(t 3)]),Cl 12 87 [(t 10),(t 11)],Mv 6 12] (.seq (Sr [Mv 13 6,Bc 14 .geq 13 0] (Cd 14 (.reg [Fa 15 1 2,Ld 16 15,Mv 17 6,Oo 18 (.ia 2 (t 16) (t 17)),Fa 19 0 18,Ld 20 19,Sc 3 20]) .skip)) (Sr [Fa 22 0 2,Ld 23 22,Ld 24 3,Cl 25 61 [(t 23),(t 24)],Mv 21 25,Ex 26 21 0,Ex 27 21 1,Mv 7 26,Mv 8 27] (.seq (Sr [Mv 28 8,Oo 29 (.un .not (t 28))] (Cd 29 (Sr [Oo 30 (.build [(iv 0),(iv 0),Ss,nl] []),⟨none,none,(.store 4 (t 4) (t 30))⟩,Mb 5 false] .ret) .skip)) (Sr [Fa 31 0 2,Ld 32 31,Mv 33 7,Oo 34 (.ia 5 (t 32) (t 33)),Fa 35 1 34,Oo 36 (.load true 4 (t 35)),⟨none,none,(.store 4 (t 4) (t 36))⟩,Mb 5 true] .ret))))))
theorem k43:ZaA Tryz.prog 43=some ⟨c43,[(.cell 4 true 4),(.tmp 5)],37⟩:=by kernel_rfl
def c11:AC:=(Sr [Oo 2 (.box 25 2 (t 0)),Oo 4 (.new 38 4 [(iv 0),(iv 0),Ss,nl]),Mc 5 0] (.seq (Sr [Oo 9 (.load true 2 (t 2)),Cl 10 17 [(t 9)],Mv 6 10] (Sr [Mv 11 6,Bc 12 .neq 11 0] (Cd 12 (Sr [Oo 13 (.build [(iv 0),(iv 0),Ss,nl] []),Mv 14 6,⟨none,none,(.store 4 (t 4) (t 13))⟩,Mv 5 14] .ret) .skip))) (Sr [Oo 16 (.load true 2 (t 2)),Mv 17 1,Cl 18 43 [(t 16),(t 17)],Mv 15 18,Ex 19 15 0,Ex 20 15 1,Oo 7 (.new 38 4 [(iv 0),(iv 0),Ss,nl]),⟨none,none,(.store 4 (t 7) (t 19))⟩,Mv 8 20] (.seq (Sr [Mv 21 8,Oo 22 (.un .not (t 21))] (Cd 22 (Sr [Oo 23 (.build [(iv 0),(iv 0),Ss,nl] []),⟨none,none,(.store 4 (t 4) (t 23))⟩,Mc 5 5] .ret) .skip)) (Sr [Oo 24 (.load true 4 (t 7)),Cl 25 44 [(t 24)],⟨none,none,(.store 4 (t 4) (t 25))⟩,Mc 5 0] .ret)))))
theorem k11:ZaA Tryz.prog 11=some ⟨c11,[(.cell 4 true 4),(.tmp 5)],26⟩:=by kernel_rfl
def c42:AC:=(Sr [Oo 2 (.box 25 2 (t 0)),Oo 3 (.box 25 2 (t 1)),Oo 4 (.new 30 4 [nl,nl,nl,nl])] (Sr [Fa 14 1 3,Ld 15 14,Cl 16 47 [(t 15)],Oo 17 (.build [nl,nl,nl,nl] [(3,(1,(t 16)))]),Oo 5 (.new 30 4 [nl,nl,nl,nl]),⟨none,none,(.store 4 (t 5) (t 17))⟩] (.seq (Sr [Fa 18 0 2,Ld 19 18,Oo 20 (.len false (t 19)),Mc 21 0] (.block 0 (.loop (Sr [Bn 22 .lss 21 20] (.seq (Cd 22 .skip (.exit 0)) (.seq (.block 1 (Sr [Oo 23 (.ia 5 (t 19) (t 21)),Oo 24 (.load true 5 (t 23)),Oo 7 (.new 40 5 [Ss,(iv 0),(iv 0),Ss,nl]),⟨none,none,(.store 5 (t 7) (t 24))⟩] (Sr [Fa 26 0 3,Ld 27 26,Fa 28 0 7,Ld 29 28,Cl 30 61 [(t 27),(t 29)],Mv 25 30,Ex 31 25 0,Ex 32 25 1,Mv 8 31,Mv 9 32] (Sr [Mv 33 9,Oo 34 (.un .not (t 33))] (Cd 34 (.reg [Fa 35 0 5,Ld 36 35,Fa 37 0 7,Ld 38 37,Oo 39 (.lit 9 1 1 [Ss] [(0,(1,(t 38)))]),Oo 40 (.app 9 1 16 (t 36) (t 39)),Fa 41 0 5,Sc 41 40]) .skip))))) (.reg [Bc 42 .add 21 1,Mv 21 42]))))))) (.seq (Sr [Fa 43 0 3,Ld 44 43,Oo 45 (.len false (t 44)),Mc 46 0] (.block 2 (.loop (Sr [Bn 47 .lss 46 45] (.seq (Cd 47 .skip (.exit 2)) (.seq (.block 3 (Sr [Oo 48 (.ia 5 (t 44) (t 46)),Oo 49 (.load true 5 (t 48)),Oo 11 (.new 40 5 [Ss,(iv 0),(iv 0),Ss,nl]),⟨none,none,(.store 5 (t 11) (t 49))⟩] (Sr [Fa 51 0 2,Ld 52 51,Fa 53 0 11,Ld 54 53,Cl 55 61 [(t 52),(t 54)],Mv 50 55,Ex 56 50 0,Ex 57 50 1,Mv 12 56,Mv 13 57] (.block 4 (Sr [Mv 59 13,Oo 60 (.un .not (t 59)),Mv 58 60] (Cd 58 (.drw [Fa 61 1 5,Ld 62 61,Fa 63 0 11,Ld 64 63,Fa 65 1 11,Oo 66 (.load true 4 (t 65)),Cl 67 44 [(t 66)],Oo 68 (.build [Ss,(iv 0),(iv 0),Ss,nl] [(0,(1,(t 64))),(1,(4,(t 67)))]),Oo 69 (.lit 40 5 1 [Ss,(iv 0),(iv 0),Ss,nl] [(0,(5,(t 68)))])] [false,false,false] [Oo 70 (.app 40 5 72 (t 62) (t 69)),Fa 71 1 5,Sc 71 70]) (Sd [Fa 73 0 2,Ld 74 73,Mv 75 12,Oo 76 (.ia 5 (t 74) (t 75)),Fa 77 1 76,Oo 78 (.load true 4 (t 77)),Fa 79 1 11,Oo 80 (.load true 4 (t 79)),Cl 81 86 [(t 78),(t 80)],Oo 82 (.un .not (t 81)),Mv 72 82] (Cd 72 (.drw [Fa 83 2 5,Ld 84 83,Fa 85 0 11,Ld 86 85,Fa 87 0 2,Ld 88 87,Mv 89 12,Oo 90 (.ia 5 (t 88) (t 89)),Fa 91 1 90,Oo 92 (.load true 4 (t 91)),Fa 93 1 11,Oo 94 (.load true 4 (t 93)),Cl 95 74 [(t 92),(t 94)],Oo 96 (.build [Ss,(iv 0),(iv 0),Ss,(iv 0),(iv 0),nl] [(0,(1,(t 86))),(1,(6,(t 95)))]),Oo 97 (.lit 44 7 1 [Ss,(iv 0),(iv 0),Ss,(iv 0),(iv 0),nl] [(0,(7,(t 96)))])] [false,false,false] [Oo 98 (.app 44 7 88 (t 84) (t 97)),Fa 99 2 5,Sc 99 98]) .skip)))))))) (.reg [Bc 100 .add 46 1,Mv 46 100]))))))) (Sr [Oo 101 (.load true 4 (t 5)),⟨none,none,(.store 4 (t 4) (t 101))⟩] .ret)))))
theorem k42:ZaA Tryz.prog 42=some ⟨c42,[(.cell 4 true 4)],102⟩:=by kernel_rfl
def c10:AC:=(Sr [Oo 2 (.box 25 2 (t 0)),Oo 3 (.box 25 2 (t 1)),Oo 4 (.new 30 4 [nl,nl,nl,nl]),Mc 5 0] (.seq (Sr [Oo 9 (.load true 2 (t 2)),Oo 10 (.load true 2 (t 3)),Oo 11 (.lit 25 2 2 [nl,nl,nl,nl] [(0,(2,(t 9))),(2,(2,(t 10)))]),Oo 12 (.len false (t 11)),Mc 13 0] (.block 0 (.loop (Sr [Bn 14 .lss 13 12] (.seq (Cd 14 .skip (.exit 0)) (.seq (.block 1 (Sr [Oo 15 (.ia 2 (t 11) (t 13)),Oo 16 (.load true 2 (t 15)),Oo 7 (.new 25 2 [nl,nl]),⟨none,none,(.store 2 (t 7) (t 16))⟩] (Sr [Oo 17 (.load true 2 (t 7)),Cl 18 17 [(t 17)],Mv 8 18] (Sr [Mv 19 8,Bc 20 .neq 19 0] (Cd 20 (Sr [Oo 21 (.build [nl,nl,nl,nl] []),Mv 22 8,⟨none,none,(.store 4 (t 4) (t 21))⟩,Mv 5 22] .ret) .skip))))) (.reg [Bc 23 .add 13 1,Mv 13 23]))))))) (Sr [Oo 24 (.load true 2 (t 2)),Oo 25 (.load true 2 (t 3)),Cl 26 42 [(t 24),(t 25)],⟨none,none,(.store 4 (t 4) (t 26))⟩,Mc 5 0] .ret)))
theorem k10:ZaA Tryz.prog 10=some ⟨c10,[(.cell 4 true 4),(.tmp 5)],27⟩:=by kernel_rfl
theorem clone_q {l:List Chg}{full:Bool}{h:AH}(hl:l.length≤3000000000000):ACalls Tryz.prog 89 [.sl l.length 4 full (rows chgC l)] h fun r h'=>h'=h∧r=.ret (chS l):=by
 refine tW' k89 fun N hn _ _ hbd=>?_
 simp only[tb'] at hbd ⊢
 refine wk'<|Zac<|wm<|?_
 refine Zqy lk (fun _=>pt) (fun bn3 hbn3=>?_)
 refine sn' ?_
 refine cd' lk (fun hc1=>?_) (fun hc1=>?_)
 ·refine wo<|Zae<|Zad rz<|rtW'<|?_
  have h0:l=[]:=List.eq_nil_of_length_eq_zero ((Nat.eq_zero_or_pos _).resolve_right (fun e=>by have:=hbn3 e;rw[hc1] at this;cases this))
  subst h0
  exact Wk.nilF
 refine za<|wr'<|E' (Zcm Zlt hl0 ha0) pt<|mw<|?_
 refine E' (ZbH (ZkK lk (Zbx _)) lk gx rfl om (ZhT _) hs0) pt ?_
 refine mw<|Zal<|?_
 refine ZaO (ALe.iceN (hga hn rfl) gt2 (show List.take _ _=rows chgC l from by rw[List.nil_append,Nat.zero_add];exact List.take_of_length_le (by rw[Zbx];exact Nat.le_refl _)) (by rw[List.nil_append,Nat.zero_add,Zbx];exact Nat.le_refl _) (by exact Nat.zero_add _) pt2 hs0) ?_
 refine ZaY<|Zad rz<|rtW'<|?_
 exact Wk.refl _
theorem lclone_q {l:List Lnk}{full:Bool}{h:AH}(hl:l.length≤3000000000000):ACalls Tryz.prog 47 [.sl l.length 2 full (rows lnkC l)] h fun r h'=>h'=h∧r=.ret (.sl l.length 2 false (rows lnkC l)):=by
 refine tW' k47 fun N hn _ _ hbd=>?_
 simp only[tb'] at hbd ⊢
 refine wk'<|Zac<|wm<|?_
 refine Zqy lk (fun _=>pt) (fun bn3 hbn3=>?_)
 refine sn' ?_
 refine cd' lk (fun hc1=>?_) (fun hc1=>?_)
 ·refine wo<|Zae<|Zad rz<|rtW'<|?_
  have h0:l=[]:=List.eq_nil_of_length_eq_zero ((Nat.eq_zero_or_pos _).resolve_right (fun e=>by have:=hbn3 e;rw[hc1] at this;cases this))
  subst h0
  exact Wk.nilF
 refine za<|wr'<|E' (Zcm Zo3 hl0 ha0) pt<|mw<|?_
 refine E' (ZbH (ZkK lk (Zd9 _)) lk gx rfl om (ZpP _) hs0) pt ?_
 refine mw<|Zal<|?_
 refine ZaO (ALe.iceN (hga hn rfl) gt2 (show List.take _ _=rows lnkC l from by rw[List.nil_append,Nat.zero_add];exact List.take_of_length_le (by rw[Zd9];exact Nat.le_refl _)) (by rw[List.nil_append,Nat.zero_add,Zd9];exact Nat.le_refl _) (by exact Nat.zero_add _) pt2 hs0) ?_
 refine ZaY<|Zad rz<|rtW'<|?_
 exact Wk.refl _
theorem rown_a {t:Tab}{full:Bool}{h:AH}(hl:t.2.length≤3000000000000):Ac 44 [.agg [iv t.1.1,iv t.1.2.1,sv t.1.2.2,.sl t.2.length 4 full (rows chgC t.2)]] h (tabA t):=by
 refine tI' k44 fun N hn _ _ hbd=>?_
 simp only[tb'] at hbd ⊢
 refine wr'<|E' (ZaR cv rfl hl0 ha0) pt<|E' (ZaT hl1 ha1) pt<|sn'<|Zac<|ZaJ<|dg<|Dw (Zah lk gx Zha rfl)<|dg<|Dw (Zaa lk gx gt3)<|?_
 refine ZaD mp (fun hE hX=>clone_q hl) pt ?_
 refine Dw (Zaw (Zsc cv rfl cv rfl))<|ZaM<|?_
 refine Za5 ?_
 exact E' (Zak lk cv gx rfl nb rfl ZbX hs1) ptn<|sr<|Zad (rs1 (rr_c gt gx (ld1 ZbW rfl)))<|rT' rfl
theorem equalC_a {l m:List Chg}{f1 f2:Bool}{h:AH}:Ac 151 [.sl l.length 4 f1 (rows chgC l),.sl m.length 4 f2 (rows chgC m)] h (bv (decide (l=m))):=by
 refine tI' k151 fun N hn _ _ hbd=>?_
 simp only[tb'] at hbd ⊢
 refine wk'<|Zac<|wm<|Vw (ZaC lk)<|mw<|Vw (ZaC lk)<|Vw (Za0 lk lk)<|Zal<|?_
 refine Zam ?_
 refine cd' lk (fun hc1=>?_) (fun hc1=>?_)
 ·refine wo<|Zae<|Zad rz<|rT'<|?_
  refine bvx (decide_eq_false (fun e=>hc1 (by rw[e]))).symm
 refine za<|Zac<|wm<|Vw (ZaC lk)<|ms<|Zag<|?_
 refine w_lp (ι:=Nat) (fun (k:Nat)=>[(13,iv (k:Int)),(4,.any),(5,.any)]++rn' 14 12) (fun (k:Nat)=>[]) (fun (k:Nat)=>k≤l.length∧l.length=m.length∧l.take k=m.take k) (fun (k:Nat)=>l.length-k) (0) (by exact⟨by omega,by omega,by simp⟩) ?_
 rintro k hi1
 try simp only[sm',Nat.reduceAdd]
 obtain⟨hk1,hk2,hk3⟩:=hi1
 refine wr'<|Vw (ZaL lk lk)<|sn'<|Zac<|?_
 refine cd' lk (fun hc2=>?_) (fun hc2=>?_)
 ·refine za<|Zac<|Zag<|wm<|ms<|Zac<|ZaJ<|Dw vm<|Dw vm<|?_
  refine D' (ZaF lk lk Za1 nb ro om ro rfl) pt ?_
  refine Dw (Zau lk ZeT rfl)<|Dw vm<|Dw vm<|?_
  refine D' (ZaF lk lk Za1 nb ro om ro rfl) pt ?_
  refine Dw (Zau lk ZeT rfl)<|Dw (ZfR lk lk Zna)<|ZaM<|?_
  refine Za5 ?_
  refine sn' ?_
  refine cd' lk (fun hc3=>?_) (fun hc3=>?_)
  ·refine wo<|Zao<|Zae<|Zae<|Zao<|Zae<|Zad rz<|rT'<|?_
   refine bvx (decide_eq_false (fun e=>hc3 (by subst e;simp))).symm
  refine ZaB<|Zav<|Zam<|Zaq<|?_
  refine ad<|mw<|Zal<|Zaz<|?_
  refine lT' (k+1) (by (try dsimp only);exact⟨by omega,hk2,ZlK om om hk3 (Zom (Decidable.of_not_not hc3))⟩)
 refine Zay<|Zas<|Zas<|ZaI<|Zam<|wo<|Zad rz<|rT'<|?_
 refine bvx (decide_eq_true ?_).symm
 rw[List.take_of_length_le om,List.take_of_length_le om] at hk3
 exact hk3
theorem rsame_a {t u:Tab}{f1 f2:Bool}{h:AH}:Ac 86 [.agg [iv t.1.1,iv t.1.2.1,sv t.1.2.2,.sl t.2.length 4 f1 (rows chgC t.2)],.agg [iv u.1.1,iv u.1.2.1,sv u.1.2.2,.sl u.2.length 4 f2 (rows chgC u.2)]] h (bv (decide (t=u))):=by
 refine tI' k86 fun N hn _ _ hbd=>?_
 simp only[tb'] at hbd ⊢
 refine wr'<|E' (ZaR cv rfl hl0 ha0) pt<|E' (ZaR cv rfl hl1 ha1) pt<|ms<|wr'<|fq<|Vw (Zah lk gx Zha rfl)<|fq<|Vw (Zah lk gx Zha rfl)<|Vw (Zhf lk lk Zo2)<|?_
 refine mv' lk pt ?_
 refine sp' (t:=10) gt pt pt (fun hg10=>?_) (fun hg10=>?_)
 ·have h1:t.1=u.1:=by obtain⟨x1,x2,x3⟩:=hg10;exact Prod.ext x1 (Prod.ext x2 x3)
  refine sd<|fq<|sd<|Vw (Zaa lk gx gt3)<|sd<|fq<|sd<|Vw (Zaa lk gx gt3)<|sd<|Zab mp (equalC_a) pt<|Vw (Zaj lk lk)<|ms<|?_
  refine ZaY<|Zad rz<|rT'<|?_
  refine bvx ?_;rw[Bool.eq_iff_iff,decide_eq_true_iff,decide_eq_true_iff];exact⟨fun e=>Prod.ext h1 e,fun e=>by rw[e]⟩
 refine so<|so<|so<|so<|so<|Vw (Zai lk lkb)<|mr<|Zad rz<|rT'<|?_
 refine bvx (decide_eq_false fun e=>hg10 (by rw[e];exact⟨rfl,rfl,rfl⟩)).symm
theorem lookR1_a {nm:ByteArray}{l:Lnk}{id:Nat}{h:AH}(he:h[id]?=some (.mk 0 9 1 [sv nm])):Ac 88 [.agg (lnkC l),.ptr id 0 0] h (bv (decide (l.2=nm))):=by
 refine tI' k88 fun N hn _ _ hbd=>?_
 simp only[tb'] at hbd ⊢
 refine wr'<|E' (ZaR cv rfl hl0 ha0) pt<|ms<|wr'<|fq<|Vw (Zaa lk gx gt1)<|Vw (Zaa lk (Zcf he) gt0)<|Vw (Zdk lk lk)<|mw<|Zal<|?_
 exact Zam<|ZaY<|Zad rz<|rT' rfl
theorem Zpz {t:List Nam}(hr:risN t) {nm:ByteArray}(h:hasN t nm=true) : ∃ hp:posN t nm<t.length,ZbP t nm=some t[posN t nm].2:=by
 obtain⟨hi,he⟩:=Zue h
 have e:=Ztz hr h
 refine⟨by rw[e];exact hi,?_⟩
 rw[ZpL,List.getElem?_eq_getElem hi]
 simp only[e,Option.map_some]
theorem tgtR_yes {k:List Lnk}{nm:ByteArray}(h:k.findIdx (fun l:Lnk=>decide (l.2=nm))<k.length):tgtR k nm=k[k.findIdx fun l:Lnk=>decide (l.2=nm)].1:=by
 unfold tgtR;rw[List.getElem?_eq_getElem h]
theorem tgtR_no {k:List Lnk}{nm:ByteArray}(h:¬k.findIdx (fun l:Lnk=>decide (l.2=nm))<k.length):tgtR k nm=nm:=by
 unfold tgtR;rw[List.getElem?_eq_none (Nat.le_of_not_lt h)]
def Zeq (r:Rel) (nm:ByteArray):Tab×Bool:=match ZbP r.1 (tgtR r.2 nm) with
 | none=>(ZfC,false)
 | some t=>(t,true)
theorem ZpM {t:List Nam}{nm:ByteArray}(hb:hasN t nm=false):ZbP t nm=none:=by rw[Ziu] at hb;simpa using hb
theorem Zt3 {t:List Nam}{k:List Lnk}{nm:ByteArray}(hb:hasN t (tgtR k nm)=false):Zeq (t,k) nm=(ZfC,false):=by
 unfold Zeq;dsimp only;rw[ZpM hb]
theorem betF_no {r:List Nam}{n:Nam}(hb:hasN r n.1=false):betF ZeH r n=none:=by
 unfold betF;rw[ZpM hb]
theorem ZhW {e:AV}:Wk (.tup [.agg [.v (.int .i64 0),.v (.int .i64 0),.v (.string ⟨#[]⟩),.sl 0 0 true []],e]) (.tup [tabA ZfC,e]):=Wk.tup (wkw (Wk.agg (wk1 rfl (wk1 rfl (wk1 rfl (wkw Wk.nilF wk0))))) (wk1 rfl wk0))
theorem lookR_a {t:List Nam}{k:List Lnk}{nm:ByteArray}{h:AH}(hr:risN t) (hl:t.length≤1000000) (hk:k.length≤9223372036854775807) :
  Ac 43 [.agg [.sl t.length 5 false (rows namC t),.sl k.length 2 false (rows lnkC k)],sv nm] h (.tup [tabA (Zeq (t,k) nm).1,bv (Zeq (t,k) nm).2]):=by
 have hkk:=hk
 refine tW' k43 fun N hn _ _ hbd=>?_
 simp only[tb'] at hbd ⊢
 refine wr'<|E' (ZaR cv rfl hl0 ha0) pt<|E' (ZaR cv rfl hl1 ha1) pt<|E' (ZaT hl2 ha2) pt<|ms<|wr'<|fq<|Vw (Zaa lk gx gt1)<|Vw (Zfs mp)<|?_
 refine Zab mp (Zk2 (p:=fun l:Lnk=>decide (l.2=nm)) (fun c _ E=>lookR1_a (Zcf gx)) hkk) pt ?_
 refine ms<|?_
 refine Zhe (ι:=Unit) (fun (x:Unit)=>[]++rn' 13 8) (fun (x:Unit)=>[(1,.mk 0 9 1 [sv (tgtR k nm)])]) (fun (x:Unit)=>True) ?_ ?_
 ·try simp only[sm',Nat.reduceAdd]
  refine wm<|Vw (Zfl lk lki)<|sn'<|?_
  refine cd' lk (fun hc1=>?_) (fun hc1=>?_)
  ·have hlt':k.findIdx (fun l:Lnk=>decide (l.2=nm))<k.length:=by unfold idxV at hc1;split at hc1;assumption;omega
   have hix:idxV (fun l:Lnk=>decide (l.2=nm)) k=((k.findIdx fun l:Lnk=>decide (l.2=nm):Nat):Int):=if_pos hlt'
   have hT:=tgtR_yes hlt'
   refine Zaq<|fq<|Vw (Zaa lk gx gt1)<|mw<|?_
   refine V' (ZaF (k:=k.findIdx fun l:Lnk=>decide (l.2=nm)) lk lk Za9 nb ro om ro rfl) pt ?_
   refine Vw (ZaQ lk dp0)<|Vw (Zar lk gt)<|E' (Zak lk cv gx rfl nb rfl Zks hs1) ptn<|Zal<|Zaz<|?_
   exact cT' (()) (by trivial) (by refine zz ?_;exact ALe.same wA' (by rw[hT];first | rfl | done))
  have hlt':¬k.findIdx (fun l:Lnk=>decide (l.2=nm))<k.length:=fun h=>hc1 (by unfold idxV;rw[if_pos h];omega)
  have hT:=tgtR_no hlt'
  refine ZaB<|Zaz<|?_
  exact cT' (()) (by trivial) (by refine zz ?_;exact ALe.same wA' (by rw[hT];first | rfl | done))
 rintro x hq4
 try simp only[sm',Nat.reduceAdd]
 refine wr'<|fq<|Vw (Zaa lk gx gt0)<|Vw (Zaa lk gx gt0)<|Zab mp (Zif hr hl) pt<|mw<|Vw (ZaS lk gt)<|Vw (ZaS lk gt)<|mw<|ms<|Zac<|?_
 refine wm<|Vw (Zax lk)<|sn'<|?_
 refine Zat lk (fun hc2=>?_) (fun hc2=>?_)
 ·have hb:hasN t (tgtR k nm)=false:=by simpa using hc2
  have hL:=Zt3 hb
  refine wr'<|Vw (Zaw Znb)<|E' (Zak lk cv gx rfl nb rfl ZbX hs2) ptn<|mr<|Zae<|Zad (rsn (rm1 (rr_c gt gx (ld1 ZbW rfl)) (rm1 (rr_t gt) rm0)))<|rtW'<|?_
  rw[hL];exact ZhW
 have hb:hasN t (tgtR k nm)=true:=by simpa using hc2
 obtain⟨hp,hkl⟩:=Zpz hr hb
 have hL:Zeq (t,k) nm=(t[posN t (tgtR k nm)].2,true):=by unfold Zeq;dsimp only;rw[hkl]
 refine za<|wr'<|fq<|Vw (Zaa lk gx gt0)<|mw<|?_
 refine V' (ZaF (k:=posN t (tgtR k nm)) lk lk Za8 nb ro om ro rfl) pt ?_
 refine Vw (ZaQ lk dp1)<|Vw (Zau lk ZeT rfl)<|E' (Zak lk cv gx rfl nb rfl ZbX hs2) ptn<|mr<|Zad (rsn (rm1 (rr_c gt gx (ld1 ZbW rfl)) (rm1 (rr_t gt) rm0)))<|rtW'<|?_
 rw[hL];exact Wk.refl _
theorem Zn6 {t:List Nam}{k:List Lnk}{nm:ByteArray}{h:AH}(hok:ZnL (t,k)) (hk:k.length≤9223372036854775807) :
  Ac 11 [.agg [.sl t.length 5 false (rows namC t),.sl k.length 2 false (rows lnkC k)],sv nm] h (.tup [tabA (ZgU (t,k) nm).1,iv (ZgU (t,k) nm).2]):=by
 have hkk:=hk
 refine tW' k11 fun N hn _ _ hbd=>?_
 simp only[tb'] at hbd ⊢
 refine wr'<|E' (ZaR cv rfl hl0 ha0) pt<|E' (ZaT hl1 ha1) pt<|ms<|Zac<|wr'<|Vw (Zah lk gx ZcR rfl)<|Zab mp (Ztn hok) pt<|mw<|Zal<|?_
 refine Zam<|wm<|Vw (Za0 lk lki)<|sn'<|?_
 refine cd' lk (fun hc1=>?_) (fun hc1=>?_)
 ·have hF:ZgU (t,k) nm=(ZfC,Zbp (t,k)):=if_pos hc1
  refine wr'<|Vw (Zaw Zo4)<|mw<|E' (Zak lk cv gx rfl nb rfl ZbX hs1) ptn<|mr<|Zae<|Zad (rsn (rm1 (rr_c gt gx (ld1 ZbW rfl)) (rm1 (rr_t gt) rm0)))<|rtW'<|?_
  rw[hF];exact ZhW
 have h0:Zbp (t,k)=0:=Decidable.of_not_not hc1
 obtain⟨a1,a2,a3,a4,a5,a6⟩:=ZdQ h0
 simp only at a1 a2 a3 a4
 refine za<|wr'<|Vw (Zah lk gx ZcR rfl)<|mw<|?_
 refine Zab mp (lookR_a a4 om hkk) pt ?_
 refine mw<|Vw (ZaS lk gt)<|Vw (ZaS lk gt)<|E' (ZaT hl2 ha2) pt<|E' (Zak lk cv gx rfl nb rfl ZbX hs2) ptn<|ms<|Zac<|wm<|Vw (Zax lk)<|Zal<|?_
 refine Zam ?_
 refine Zat lk (fun hc2=>?_) (fun hc2=>?_)
 ·have hb:(Zeq (t,k) nm).2=false:=by simpa using hc2
  have hF:ZgU (t,k) nm=(ZfC,5):=by unfold ZgU;rw[if_neg hc1];unfold Zeq at hb;split at hb;(rename_i e;first | rw[e] | rfl);cases hb
  refine wr'<|Vw (Zaw Znc)<|E' (Zak lk cv gx rfl nb rfl ZbX hs1) ptn<|mr<|Zae<|Zad (rsn (rm1 (rr_c gt gx (ld1 ZbW rfl)) (rm1 (rr_t gt) rm0)))<|rtW'<|?_
  rw[hF];exact ZhW
 have hb:(Zeq (t,k) nm).2=true:=by simpa using hc2
 have hF:ZgU (t,k) nm=((Zeq (t,k) nm).1,0)∧Zbo (Zeq (t,k) nm).1=0:=by unfold ZgU;rw[if_neg hc1];unfold Zeq at hb ⊢;split at hb;cases hb;(rename_i u e;(try rw[e]);exact⟨rfl,(a3 _ (ZdO e)).2⟩)
 have hlen:=Ze9 hF.2
 refine za<|wr'<|Vw (Zah lk gx ZbW rfl)<|?_
 refine Zab mp (rown_a om) pt ?_
 refine E' (Zak lk cv gx rfl nb rfl ZbX hs1) ptn<|mr<|Zad (rsn (rm1 (rr_c gt gx (ld1 ZbW rfl)) (rm1 (rr_t gt) rm0)))<|rtW'<|?_
 rw[hF.1];exact Wk.refl _
abbrev updC (u:Upd):List AV:=[.sl u.1.length 1 false (rows strC u.1),.sl u.2.1.length 5 false (rows namC u.2.1),.sl u.2.2.1.length 7 false (rows nptC u.2.2.1),.sl u.2.2.2.length 2 false (rows lnkC u.2.2.2)]
theorem Zvb (l s:List Nam) (n:Nam):betD (l++[n]) s=betD l s++(if hasN s n.1=true then [] else [n.1]):=by
 unfold betD
 rw[List.filter_append,List.map_append]
 congr 1
 cases h:hasN s n.1 <;> simp[h]
theorem Zva (r l:List Nam) (n:Nam):betP r (l++[n])=betP r l++(if hasN r n.1=true then [] else [n]):=by
 unfold betP
 rw[List.filter_append]
 congr 1
 cases h:hasN r n.1 <;> simp[h]
theorem Zu9 (r l:List Nam) (n:Nam):betT ZeH r (l++[n])=betT ZeH r l++(betF ZeH r n).toList:=by
 unfold betT
 rw[List.filterMap_append]
 congr 1
 try (cases h:betF ZeH r n <;> simp[h])
theorem betD_len (l s:List Nam):(betD l s).length≤l.length:=by unfold betD;rw[List.length_map];exact List.length_filter_le _ _
theorem betP_len (r l:List Nam):(betP r l).length≤l.length:=List.length_filter_le _ _
theorem betT_len (r l:List Nam):(betT ZeH r l).length≤l.length:=List.length_filterMap_le _ _
theorem betR_a {r s:Rel}{h:AH}(hr:Zbp r=0) (hs:Zbp s=0) :
  Ac 42 [.agg [.sl r.1.length 5 false (rows namC r.1),.sl r.2.length 2 false (rows lnkC r.2)],.agg [.sl s.1.length 5 false (rows namC s.1),.sl s.2.length 2 false (rows lnkC s.2)]] h (.agg (updC (betU r s))):=by
 obtain⟨a1,a2,a3,a4,a5,a6⟩:=ZdQ hr
 obtain⟨b1,b2,b3,b4,b5,b6⟩:=ZdQ hs
 refine tI' k42 fun N hn hlt _ hbd=>?_
 simp only[tb'] at hbd ⊢
 refine wr'<|E' (ZaR cv rfl hl0 ha0) pt<|E' (ZaR cv rfl hl1 ha1) pt<|E' (ZaT hl2 ha2) pt<|sn'<|wr'<|fq<|Vw (Zaa lk gx gt1)<|?_
 refine Zab mp (lclone_q om) pt ?_
 refine Vw (Zaw (Zjp cv rfl))<|E' (ZaT hl3 ha3) pt<|E' (Zak lk cv gx rfl nb rfl ZbX hs3) ptn<|Zal<|?_
 refine ZaO (ALe.trans (ALe.own0Cell (st':=1) (ty:=9) gx gt0 hl4 pt0 (Eq.trans (congrArg (fun z=>List.set z _ _) ha4) hs3)) (ALe.trans (ALe.own0Cell (st':=5) (ty:=40) gx gt1 hl5 pt1 (Eq.trans (congrArg (fun z=>List.set z _ _) ha5) hs3)) (ALe.own0Cell (st':=7) (ty:=44) gx gt2 hl6 pt2 (Eq.trans (congrArg (fun z=>List.set z _ _) ha6) hs3)))) ?_
 refine Zac<|wr'<|fq<|Vw (Zaa lk gx gt0)<|Vw (ZaC lk)<|ms<|Zag<|?_
 refine w_lp (ι:=Nat×Nat) (fun (x_:Nat×Nat)=>match x_ with | ⟨i,v⟩=>[(21,iv (i:Int))]++rn' 7 3++rn' 22 21) (fun (x_:Nat×Nat)=>match x_ with | ⟨i,v⟩=>[(3,.mk 0 30 4 [.own (N+4) v (betD (r.1.take i) s.1).length,.own (N+5) 0 0,.own (N+6) 0 0,.sl s.2.length 2 false (rows lnkC s.2)]),(4,.mk v 9 1 (rows strC (betD (r.1.take i) s.1)))]) (fun (x_:Nat×Nat)=>match x_ with | ⟨i,v⟩=>i≤r.1.length) (fun (x_:Nat×Nat)=>match x_ with | ⟨i,v⟩=>r.1.length-i) (⟨0,0⟩) (by exact Nat.zero_le _) ?_
 rintro⟨i,v⟩ hi1
 try simp only[sm',Nat.reduceAdd]
 replace hi1:i≤r.1.length:=hi1
 have hdl:=betD_len (r.1.take i) s.1
 rw[List.length_take] at hdl
 refine wr'<|Vw (ZaL lk lk)<|sn'<|Zac<|?_
 refine cd' lk (fun hc1=>?_) (fun hc1=>?_)
 ·have hi:i<r.1.length:=by omega
  have hst:=Zvb (r.1.take i) s.1 r.1[i]
  rw[←List.take_succ_eq_append_getElem hi] at hst
  refine za<|Zac<|Zag<|wr'<|?_
  refine V' (ZaF lk lk Za8 nb ro om ro rfl) pt ?_
  refine Vw (Zau lk Zi4 rfl)<|E' (ZaT hl7 ha7) pt<|E' (Zak lk cv gx rfl nb rfl Zkr hs7) ptn<|sn'<|wr'<|fq<|Vw (Zaa lk gx gt0)<|fq<|Vw (Zaa lk gx gt0)<|?_
  refine Zab mp (Zif b4 om) pt ?_
  refine mw<|Vw (ZaS lk gt)<|Vw (ZaS lk gt)<|mw<|ms<|wm<|Vw (Zax lk)<|sn'<|?_
  refine Zat lk (fun hc2=>?_) (fun hc2=>?_)
  ·have hb:hasN s.1 r.1[i].1=false:=by simpa using hc2
   rw[if_neg (by rw[hb];simp)] at hst
   refine Zaq<|fq<|Vw (Zaa lk gx gt0)<|fq<|Vw (Zaa lk gx gt0)<|E' (Zcm (Zi8 cv rfl) hl8 ha8) pt<|?_
   refine E' (ZbH (Zbn lk gx rfl ZvF nb) lk gx (Zdm _) om rfl hs4) pt ?_
   refine fq<|E' (Zak lk cv gx rfl nb rfl Zks hs3) ptn<|Zal<|Zav<|Zam<|Zaq<|?_
   refine ad<|mw<|Zal<|Zaz<|?_
   refine lU' (⟨i+1,v+1⟩) (by (try dsimp only);omega) (by refine zz ?_;exact bk' 7 hn hlt (by rw[hst,List.length_append,ZaH];rfl) (hT:=by simp[AV.lt,AV.ltL,Ent.lt]) (hE:=by simp[AV.lt,AV.ltL,Ent.lt]))
  have hb:hasN s.1 r.1[i].1=true:=by simpa using hc2
  rw[if_pos hb,List.append_nil] at hst
  refine ZaB<|Zav<|Zam<|Zaq<|?_
  refine ad<|mw<|Zal<|Zaz<|?_
  refine lU' (⟨i+1,v⟩) (by (try dsimp only);omega) (by refine zz ?_;exact bk' 7 hn hlt (by rw[hst];rfl) (hT:=by simp[AV.lt,AV.ltL,Ent.lt]) (hE:=by simp[AV.lt,AV.ltL,Ent.lt]))
 rw[List.take_of_length_le (show r.1.length≤i by omega)] at *
 refine Zay<|Zas<|Zas<|ZaI<|Zam<|Zac<|wr'<|fq<|Vw (Zaa lk gx gt0)<|Vw (ZaC lk)<|ms<|?_
 refine Zag ?_
 refine w_lp (ι:=Nat×Nat×Nat) (fun (x_:Nat×Nat×Nat)=>match x_ with | ⟨j,p,q⟩=>[(46,iv (j:Int))]++rn' 11 3++rn' 47 54) (fun (x_:Nat×Nat×Nat)=>match x_ with | ⟨j,p,q⟩=>[(3,.mk 0 30 4 [.own (N+4) v (betD r.1 s.1).length,.own (N+5) p (betP r.1 (s.1.take j)).length,.own (N+6) q (betT ZeH r.1 (s.1.take j)).length,.sl s.2.length 2 false (rows lnkC s.2)]),(5,.mk p 40 5 (rows namC (betP r.1 (s.1.take j)))),(6,.mk q 44 7 (rows nptC (betT ZeH r.1 (s.1.take j))))]) (fun (x_:Nat×Nat×Nat)=>match x_ with | ⟨j,p,q⟩=>j≤s.1.length) (fun (x_:Nat×Nat×Nat)=>match x_ with | ⟨j,p,q⟩=>s.1.length-j) (⟨0,0,0⟩) (by exact Nat.zero_le _) ?_
 rintro⟨j,p,q⟩ hi2
 try simp only[sm',Nat.reduceAdd]
 replace hi2:j≤s.1.length:=hi2
 have hpl:=betP_len r.1 (s.1.take j)
 have hql:=betT_len r.1 (s.1.take j)
 rw[List.length_take] at hpl hql
 refine wr'<|Vw (ZaL lk lk)<|sn'<|Zac<|?_
 refine cd' lk (fun hc3=>?_) (fun hc3=>?_)
 ·have hj:j<s.1.length:=by omega
  have hsP:=Zva r.1 (s.1.take j) s.1[j]
  have hsT:=Zu9 r.1 (s.1.take j) s.1[j]
  rw[←List.take_succ_eq_append_getElem hj] at hsP hsT
  have hlu:=Ze9 (b3 _ (List.getElem_mem hj)).2
  refine za<|Zac<|Zag<|wr'<|?_
  refine V' (ZaF lk lk Za8 nb ro om ro rfl) pt ?_
  refine Vw (Zau lk Zi4 rfl)<|E' (ZaT hl7 ha7) pt<|E' (Zak lk cv gx rfl nb rfl Zkr hs7) ptn<|sn'<|wr'<|fq<|Vw (Zaa lk gx gt0)<|fq<|Vw (Zaa lk gx gt0)<|?_
  refine Zab mp (Zif a4 om) pt ?_
  refine mw<|Vw (ZaS lk gt)<|Vw (ZaS lk gt)<|mw<|ms<|Zag<|wm<|Vw (Zax lk)<|mw<|Zal<|?_
  refine Zam ?_
  refine Zat lk (fun hc4=>?_) (fun hc4=>?_)
  ·have hb:hasN r.1 s.1[j].1=false:=by simpa using hc4
   have hF:=betF_no hb
   rw[if_neg (by rw[hb];simp)] at hsP
   rw[hF] at hsT
   replace hsT:betT ZeH r.1 (s.1.take (j+1))=betT ZeH r.1 (s.1.take j):=hsT.trans (List.append_nil _)
   refine ZaJ<|dg<|Dw (Zaa lk gx gt1)<|dg<|Dw (Zaa lk gx gt0)<|dg<|Dw (Zah lk gx Zg9 rfl)<|?_
   refine ZaD mp (fun hE hX=>rown_a om) pt ?_
   refine Dw (Zaw (Zi7 cv rfl cv rfl))<|Zc3 rfl rfl (hlk hn rfl) (Zgb (Zi6 cv rfl)) pt Zm9<|ZaM<|?_
   refine Zc2 Zkt ?_
   refine E' (ZbH (Zbn lk gx rfl Zi4 nb) lk gx (Zcu _) om rfl hs5) pt ?_
   refine fq<|E' (Zak lk cv gx rfl nb rfl Zsa hs3) ptn<|Zal<|Zav<|Zav<|Zam<|Zaq<|?_
   refine ad<|mw<|Zal<|Zaz<|?_
   refine lU' (⟨j+1,p+1,q⟩) (by (try dsimp only);omega) (by refine zz ?_;exact bk' 7 hn hlt (by rw[hsP,hsT,List.length_append,ZaH];rfl) (hT:=by simp[AV.lt,AV.ltL,Ent.lt]) (hE:=by simp[AV.lt,AV.ltL,Ent.lt]))
  have hb:hasN r.1 s.1[j].1=true:=by simpa using hc4
  obtain⟨hp,hkl⟩:=Zpz a4 hb
  have hlr:=Ze9 (a3 _ (List.getElem_mem hp)).2
  rw[if_pos hb,List.append_nil] at hsP
  refine Zac<|ZaJ<|dg<|Dw (Zaa lk gx gt0)<|Dw vm<|?_
  refine D' (ZaF (k:=posN r.1 s.1[j].1) lk lk Za8 nb ro om ro rfl) pt ?_
  refine Dw (ZaQ lk dp1)<|Dw (Zau lk ZeT rfl)<|dg<|Dw (Zah lk gx Zg9 rfl)<|?_
  refine ZaD mp (fun hE hX=>rsame_a) pt ?_
  refine Dw (Zax lk)<|Dw vm<|ZaM<|?_
  refine Za5 ?_
  refine sn' ?_
  refine Zat lk (fun hc5=>?_) (fun hc5=>?_)
  ·have hne:¬r.1[posN r.1 s.1[j].1].2=s.1[j].2:=by simpa using hc5
   have hF:betF ZeH r.1 s.1[j]=some (s.1[j].1,ZeH r.1[posN r.1 s.1[j].1].2 s.1[j].2):=by unfold betF;rw[hkl];dsimp only;rw[if_neg hne]
   rw[hF] at hsT
   refine ZaJ<|dg<|Dw (Zaa lk gx gt2)<|dg<|Dw (Zaa lk gx gt0)<|dg<|Dw (Zaa lk gx gt0)<|Dw vm<|?_
   refine D' (ZaF (k:=posN r.1 s.1[j].1) lk lk Za8 nb ro om ro rfl) pt ?_
   refine Dw (ZaQ lk dp1)<|Dw (Zau lk ZeT rfl)<|dg<|Dw (Zah lk gx Zg9 rfl)<|?_
   refine ZaD mp (fun hE hX=>Zu8 (t:=r.1[posN r.1 s.1[j].1].2) (u:=s.1[j].2) om om) pt ?_
   refine Dw (Zaw (Zi5 cv rfl cv rfl))<|Zc3 rfl rfl (hlk hn rfl) (Zgb (ZhD cv rfl)) pt Zm9<|ZaM<|?_
   refine Zc2 Zkt ?_
   refine E' (ZbH (Zbn lk gx rfl ZvE nb) lk gx (ZnM _) om rfl hs6) pt ?_
   refine fq<|E' (Zak lk cv gx rfl nb rfl Zr9 hs3) ptn<|Zal<|Zav<|Zav<|Zam<|Zaq<|?_
   refine ad<|mw<|Zal<|Zaz<|?_
   refine lU' (⟨j+1,p,q+1⟩) (by (try dsimp only);omega) (by refine zz ?_;exact bk' 7 hn hlt (by rw[hsP,hsT,List.length_append,ZaH];rfl) (hT:=by simp[AV.lt,AV.ltL,Ent.lt]) (hE:=by simp[AV.lt,AV.ltL,Ent.lt]))
  have hne:r.1[posN r.1 s.1[j].1].2=s.1[j].2:=by simpa using hc5
  have hF:betF ZeH r.1 s.1[j]=none:=by unfold betF;rw[hkl];dsimp only;rw[if_pos hne]
  rw[hF] at hsT
  replace hsT:betT ZeH r.1 (s.1.take (j+1))=betT ZeH r.1 (s.1.take j):=hsT.trans (List.append_nil _)
  refine ZaB<|Zav<|Zav<|Zam<|Zaq<|?_
  refine ad<|mw<|Zal<|Zaz<|?_
  refine lU' (⟨j+1,p,q⟩) (by (try dsimp only);omega) (by refine zz ?_;exact bk' 7 hn hlt (by rw[hsP,hsT];rfl) (hT:=by simp[AV.lt,AV.ltL,Ent.lt]) (hE:=by simp[AV.lt,AV.ltL,Ent.lt]))
 rw[List.take_of_length_le (show s.1.length≤j by omega)] at *
 refine Zay<|Zas<|Zas<|ZaI<|?_
 refine ZaO (ALe.trans (ALe.iceCellR (hga hn rfl) (hga hn rfl) om gt0 (List.take_of_length_le (by rw[Zdm];exact Nat.le_refl _)) (by rw[Zdm];exact Nat.le_refl _) pt0 hs4 hs3) (ALe.trans (ALe.iceCellR (hga hn rfl) (hga hn rfl) om gt1 (List.take_of_length_le (by rw[Zcu];exact Nat.le_refl _)) (by rw[Zcu];exact Nat.le_refl _) pt1 hs5 hs3) (ALe.iceCellR (hga hn rfl) (hga hn rfl) om gt2 (List.take_of_length_le (by rw[ZnM];exact Nat.le_refl _)) (by rw[ZnM];exact Nat.le_refl _) pt2 hs6 hs3))) ?_
 exact wr'<|Vw (Zah lk gx ZbW rfl)<|E' (Zak lk cv gx rfl nb rfl ZbX hs2) ptn<|sr<|Zad (rs1 (rr_c gt gx (ld1 ZbW rfl)))<|rT' rfl
theorem rel_lt {n:Nat}(l:List Rel):AV.ltL n (rows relC l)=true:=ZcE (fun n x=>by simp[AV.ltL,AV.lt,Zfu,ZbM]) l
attribute [local simp] rel_lt
theorem diffU_at {r s:Rel}{k:Nat}(hk:k<[r,s].length) (h0 : ∀ j (hj:j<[r,s].length),j<k→Zbp [r,s][j]=0) (h:Zbp [r,s][k]≠0):ZmC r s=(upd0,Zbp [r,s][k]):=by
 match k,hk with
 | 0,_=>exact if_pos h
 | 1,_ =>
  have h1:Zbp r=0:=h0 0 (by simp) om
  have h2:Zbp s≠0:=h
  unfold ZmC
  rw[if_neg (by simpa using h1),if_pos h2];rfl
theorem diffU_ok {r s:Rel}(h0 : ∀ j (hj:j<[r,s].length),Zbp [r,s][j]=0):Zbp r=0∧Zbp s=0∧ZmC r s=(betU r s,0):=by
 have h1:Zbp r=0:=h0 0 (by simp)
 have h2:Zbp s=0:=h0 1 (by simp)
 refine⟨h1,h2,?_⟩
 unfold ZmC
 rw[if_neg (by simpa using h1),if_neg (by simpa using h2)]
theorem wk_upd0 {e:AV}:Wk (.tup [.agg [.sl 0 0 true [],.sl 0 0 true [],.sl 0 0 true [],.sl 0 0 true []],e]) (.tup [.agg (updC upd0),e]):=Wk.tup (wkw (Wk.agg (wkw Wk.nilF (wkw Wk.nilF (wkw Wk.nilF (wkw Wk.nilF wk0))))) (wk1 rfl wk0))
theorem diffR_a {r s:Rel}{h:AH}(hr:ZnL r) (hs:ZnL s) :
  Ac 10 [.agg [.sl r.1.length 5 false (rows namC r.1),.sl r.2.length 2 false (rows lnkC r.2)],.agg [.sl s.1.length 5 false (rows namC s.1),.sl s.2.length 2 false (rows lnkC s.2)]] h (.tup [.agg (updC (ZmC r s).1),iv (ZmC r s).2]):=by
 refine tW' k10 fun N hn hlt _ hbd=>?_
 simp only[tb'] at hbd ⊢
 refine wr'<|E' (ZaR cv rfl hl0 ha0) pt<|E' (ZaR cv rfl hl1 ha1) pt<|E' (ZaT hl2 ha2) pt<|ms<|Zac<|wr'<|Vw (Zah lk gx ZcR rfl)<|Vw (Zah lk gx ZcR rfl)<|E' (Zcm (Zo5 cv rfl cv rfl) hl3 ha3) pt<|?_
 refine Vw (ZbQ lk)<|ms<|Zag<|?_
 refine w_lp (ι:=Nat) (fun (k:Nat)=>[(13,iv (k:Int)),(5,.any),(7,.any),(8,.any)]++rn' 14 10) (fun (k:Nat)=>[(3,.mk 0 25 2 (rows relC [r,s]))]) (fun (k:Nat)=>k≤[r,s].length ∧ ∀ j (hj:j<[r,s].length),j<k→Zbp [r,s][j]=0) (fun (k:Nat)=>2-k) (0) (by exact⟨by simp,fun j hj h0=>by omega⟩) ?_
 rintro k hi1
 try simp only[sm',Nat.reduceAdd]
 obtain⟨hk1,hk2⟩:=hi1
 have hlen:[r,s].length=2:=rfl
 refine wr'<|Vw (ZaL lk lk)<|sn'<|Zac<|?_
 refine cd' lk (fun hc1=>?_) (fun hc1=>?_)
 ·have hk:k<[r,s].length:=by omega
  have hok:ZnL [r,s][k]:=by
   match k,hk with
   | 0,_=>exact hr
   | 1,_=>exact hs
  refine za<|Zac<|Zag<|wr'<|?_
  refine V' (ZaW lk lk gx (fun _=>rfl) nb ro om (by first | rfl | (simp;done) | omega)) pt ?_
  refine V' (ZeB lk gx (fun _=>rfl) om rfl) pt ?_
  refine E' (ZaT hl4 ha4) pt<|E' (Zak lk cv gx rfl nb rfl Zsb hs4) ptn<|sn'<|wr'<|Vw (Zah lk gx ZcR rfl)<|Zab mp (Ztn (t:=[r,s][k].1) (k:=[r,s][k].2) hok) pt<|ms<|wm<|?_
  refine Vw (Za0 lk lki)<|sn'<|?_
  refine cd' lk (fun hc2=>?_) (fun hc2=>?_)
  ·refine wr'<|Vw (Zaw Znd)<|mw<|E' (Zak lk cv gx rfl nb rfl ZbX hs2) ptn<|mr<|Zao<|Zae<|Zae<|Zao<|Zae<|?_
   refine Zad (rsn (rm1 (rr_c gt gx (ld1 ZbW rfl)) (rm1 (rr_t gt) rm0)))<|rtW'<|?_
   have hE:=diffU_at hk hk2 hc2
   rw[hE];exact wk_upd0
  refine ZaB<|Zav<|Zam<|Zaq<|?_
  refine ad<|mw<|Zal<|Zaz<|?_
  refine lU' (k+1) (by (try dsimp only);exact⟨by omega,fun j hj h0=>by by_cases e:j=k;subst e;exact Decidable.of_not_not hc2;exact hk2 j hj om⟩) (by refine zz ?_;exact bk' 4 hn hlt (hT:=by simp[AV.lt,AV.ltL,Ent.lt]) (hE:=by simp[AV.lt,AV.ltL,Ent.lt]))
 refine Zay<|Zas<|Zas<|ZaI<|Zam<|?_
 have hz:=diffU_ok (r:=r) (s:=s) fun j hj=>hk2 j hj om
 refine wr'<|Vw (Zah lk gx ZcR rfl)<|Vw (Zah lk gx ZcR rfl)<|Zab mp (betR_a hz.1 hz.2.1) pt<|E' (Zak lk cv gx rfl nb rfl ZbX hs2) ptn<|mr<|Zad (rsn (rm1 (rr_c gt gx (ld1 ZbW rfl)) (rm1 (rr_t gt) rm0)))<|rtW'<|?_
 rw[hz.2.2];exact Wk.refl _
end
end Go.Proofs.YtfoipaclphdodaaGreatDoor
namespace Go.Ab
section
open Go.RowKit Go.Sort
section
variable {P : Program}
theorem ACalls.of_turnB {f:FuncId}{args:List AV}{h:AH}{id ver ty st:Nat}{cells:List AV}{R':List AV→Prop}(he:enters P f=true) (hi:h[id]?=some (.mk ver ty st cells)) (hne:cells≠[])
  (hc : ∀ w g (vs:Array Value) b cap arr,SimH w g h→RepL w g args vs.toList→g.loc id ver=some (some ⟨b,0,none⟩,cap)→w.heap[b]?=some (.cells arr ty (0,0))→arr.size=cap*st→cells.length≤arr.size→RepL w g cells (arr.toList.take cells.length) →
   Calls P f vs w fun e w'=>e=.returned (.tuple #[]) ∧ ∃ (cells':List AV) (vs':List Value) (arr':Array Value),R' cells'∧RepL w g cells' vs'∧w'.heap[b]?=some (.cells arr' ty (0,0))∧arr'.size=arr.size∧vs'.length=cells.length∧arr'.toList.take cells.length=vs' ∧
    w'.os=w.os∧w'.tape=w.tape∧w'.output=w.output∧w.heap.size≤w'.heap.size ∧ ∀ k,k<w.heap.size→k≠b→w'.heap[k]?=w.heap[k]?) :
  ACalls P f args h fun x h'=>x=.ret (.tup []) ∧ ∃ cells',R' cells'∧h'=h.set id (.mk ver ty st cells'):=by
 refine⟨he,fun w g vs hs ha=>?_⟩
 obtain⟨A,cap,f1,fm,f3⟩:=hs.ent _ _ _ _ _ hi
 rcases f3 with ⟨e,_⟩ | ⟨b,arr,rfl,hc0,hd,hb,hsz,hle,hrl⟩
 ·exact absurd e hne
 have hid:id<h.length:=(List.getElem?_eq_some_iff.1 hi).1
 have how:OwAt g h id b:=⟨ver,ty,st,cells,_,cap,hi,f1,hc0,rfl⟩
 refine (hc w g vs b cap arr hs ha f1 hb hsz hle hrl).mono ?_
 rintro e w' ⟨rfl,cells',vs',arr',hR,hRep,h1,h2,h3,h4,h5,h6,h7,h8,h9⟩
 have hother : ∀ j,g.D j∨(∃ i,i≠id∧OwAt g h i j)∨(∃ i,RwAt h i j)→w'.heap[j]?=w.heap[j]?:=by
  rintro j (hj | ⟨i,hne',hj⟩ | ⟨i,hj⟩)
  rotate_left 2
  ·exact h9 j (hs.own_not_D (.inr ⟨i,hj⟩)).2 (fun e=>by subst e;exact hs.own_ne_raw how hj)
  ·exact h9 j (hs.lt j hj) (fun e=>hd (e ▸ hj))
  ·exact h9 j (hs.own_not_D (.inl ⟨i,hj⟩)).2 (fun e=>hne' (hs.inj i id j hj (e ▸ how)))
 obtain⟨k1,k2,k3⟩:=hs.put (w':=w') (g':=g) (h':=h.set id (.mk ver ty st cells')) id ver ty st cells' (some ⟨b,0,none⟩) cap
  (fun i hne'=>by rw[List.getElem?_set_ne (Ne.symm hne')]) (by rw[List.getElem?_set_self hid]) (by simp) rfl (fun _ _ _ h=>h) (fun _ _ _ h=>.inl h) f1 (fun v l hv=>(hs.fresh _ _ _ hv).2 _ _ _ _ hi) hother h8 fm
  (.inr ⟨b,arr',rfl,hc0,hd,h1,by rw[h2,hsz],by rw[←hRep.length,h3,h2];exact hle,by rw[←hRep.length,h3,h4];exact RepL.mono (Gh.le.refl g) (fun j hj=>hother j (.inl hj)) _ _ hRep⟩)
  (fun j hj _ i hne' ho=>by
   simp at hj
   subst hj
   exact hne' (hs.inj i id _ ho how)) (fun k hk _ _=>by simp at hk;subst hk;exact .inl ⟨id,how⟩)
 refine⟨.ret (.tup []),_,g,?_,k1,k2,⟨h5,h6,h7,h8,fun k hk hn=>h9 k hk (fun e=>hn (.inl ⟨id,e ▸ how⟩))⟩,fun k hk=>?_,rfl,_,hR,rfl⟩
 ·simp only[EndR,Rep];exact⟨#[],rfl,by simp only[RepL]⟩
 ·rcases k3 k hk with ho | ⟨ho,_⟩
  ·exact .inl ho
  ·simp at ho;subst ho;exact .inl (.inl ⟨id,how⟩)
end
section
variable {P : Program} {α β : Type}
theorem ZlX {w:World}{g:Gh}{f:α→List AV}{enc:β→List Value}{pr:β→α}{k:Nat}(hf : ∀ x,(f x).length=k) (hrep : ∀ x vs,RepL w g (f x) vs → ∃ y:β,pr y=x∧enc y=vs) :
  ∀ (l:List α) (us:List Value),RepL w g (rows f l) us → ∃ L:List β,L.map pr=l∧L.flatMap enc=us ∧ ∀ y∈L,RepL w g (f (pr y)) (enc y)
 | [],us,h=>by
  have:us=[]:=by simpa [rows,RepL] using h
  subst this;exact⟨[],rfl,rfl,fun y hy=>by cases hy⟩
 | x::l,us,h=>by
  have h':RepL w g (f x++rows f l) us:=h
  have h1:=h'.take k
  have h2:=h'.drop k
  rw[List.take_left' (hf x)] at h1
  rw[List.drop_left' (hf x)] at h2
  obtain⟨y,rfl,e⟩:=hrep x _ h1
  obtain⟨L,rfl,e2,h3⟩:=ZlX hf hrep l _ h2
  refine⟨y::L,rfl,by rw[List.flatMap_cons,e,e2,List.take_append_drop],fun z hz=>?_⟩
  rcases List.mem_cons.1 hz with rfl | hz
  ·rw[e];exact h1
  ·exact h3 z hz
theorem Zl0 {w:World}{g:Gh}{f:α→List AV}{enc:β→List Value}{pr:β→α} : ∀ (L:List β),(∀ y∈L,RepL w g (f (pr y)) (enc y))→RepL w g (rows f (L.map pr)) (L.flatMap enc)
 | [],_=>by simp[rows,RepL]
 | y::L,h=>RepL.append (h y (by simp)) (Zl0 L fun z hz=>h z (by simp[hz]))
theorem sort_b [Inhabited β] {ρ:Go.Shelf.Ren}(LL:Go.Proofs.SlLaysF0.n6 P ρ) {k:Nat}(hk0:0<k) (aE : ∀ w,(isAgg (ρ.t 24)).run P w=.ok true w) (zE : ∀ w,(Go.sizeOf (ρ.t 24)).run P w=.ok k w) {enc:β→List Value}(hk : ∀ x,(enc x).length=k) (h1 : ∀ x,∀ v∈enc x,v.oneCell'=true) {cf:β→β→Int}(hO:SWO (Go.Proofs.ltOf cf)) {g0:Nat}
  (eg : ∀ args w,(callFunc g0 args).run P w=.ok (.enter g0 args) w) (hcmp : ∀ blk off size w,Go.Proofs.CmpLays P g0 #[] enc k cf blk off size w) {f:α→List AV} {pr:β→α} (hf : ∀ x,(f x).length=k) (hrep : ∀ w g x vs,RepL w g (f x) vs → ∃ y:β,pr y=x∧enc y=vs) {r:α→α→Prop} (hr0 : ∀ x y,Go.Proofs.ltOf cf y x=false→r (pr x) (pr y))
  {h:AH} {id ver ty:Nat} {l:List α} (hi:h[id]?=some (.mk ver ty k (rows f l))) (hl:l≠[]) (hz:l.length<4611686018427387904) (he:enters P (ρ.f 6)=true) :
  ACalls P (ρ.f 6) [.own id ver l.length,.v (.func (.func g0) #[] #[])] h fun x h'=>x=.ret (.tup []) ∧ ∃ l':List α,l'.Perm l∧l'.Pairwise r∧h'=h.set id (.mk ver ty k (rows f l')):=by
 have hlen:=Zbi (f:=f) (st:=k) hf l
 have hpos:0<l.length:=List.length_pos_iff.2 hl
 refine (ACalls.of_turnB (R':=fun cs => ∃ l':List α,l'.Perm l∧l'.Pairwise r∧cs=rows f l') he hi ?_ ?_).mono ?_
 ·intro e
  have:=congrArg List.length e
  rw[hlen] at this
  have h0:0<l.length*k:=Nat.mul_pos hpos hk0
  simp at this;omega
 ·intro w g vs b cap arr hs ha hloc hb hsz hle hr
  simp only[RepL,Rep,hloc] at ha
  obtain⟨u1,us1,e1,⟨A,c,e2,hn1,hn2,rfl⟩,u2,us2,rfl,rfl,rfl⟩:=ha
  simp only[Option.some.injEq,Prod.mk.injEq] at e2
  obtain⟨rfl,rfl⟩:=e2
  obtain rfl:vs = #[.slice (some ⟨b,0,none⟩) l.length cap,.func (.func g0) #[] #[]]:=by cases vs;simp_all
  obtain⟨L,rfl,hr0',hrL⟩:=ZlX hf (hrep w g) l _ hr
  rw[hlen] at hr0'
  rw[List.length_map] at hr0' hlen hpos
  have hr':arr.toList.take (L.length*k)=L.flatMap enc:=hr0'.symm
  have hll:(L.map pr).length=L.length:=List.length_map _
  rw[hll] at hz
  have hblk:b<w.heap.size:=(Array.getElem?_eq_some_iff.1 hb).1
  have hflat:=Ze5 hk0 hk L.toArray
  have hgetF : ∀ (d:Array β) (t:Nat),t<d.size*k→(Go.Sort.flatK enc k d).toList[t]?=some (Go.Sort.flatK enc k d)[t]!:=by
   intro d t ht
   have hs:t<(Go.Sort.flatK enc k d).size:=by simpa using ht
   rw[getElem!_pos _ t hs,Array.getElem?_toList,Array.getElem?_eq_getElem hs]
  have hH:Go.Sort.HoldsK enc k w b 0 L.toArray:=by
   intro j hj
   have hj':j<L.length*k:=by simpa using hj
   rw[Nat.zero_add]
   refine⟨?_,frozen_of_row w b j arr ty hb⟩
   rw[cell_of_row w b j arr ty (0,0) hb,←Array.getElem?_toList]
   have h5:arr.toList[j]?=(L.flatMap enc)[j]?:=by rw[←hr',List.getElem?_take_of_lt hj']
   rw[h5,show L.flatMap enc=(Go.Sort.flatK enc k L.toArray).toList from hflat.symm,hgetF _ _ (by simpa using hj')];rfl
  rw[hll]
  refine (Go.Proofs.AnyQ.slices_SortFunc LL k aE zE enc hk h1 cf hO g0 #[] b 0 cap L.toArray w eg (hcmp b 0 L.toArray.size w) hH hblk (by simpa using hz)).mono ?_
  rintro e w' ⟨rfl,d',n,os,⟨p1,_,p3⟩,hso,rfl⟩
  have hds:d'.size=L.length:=by simpa using p1
  have hw' : ∀ j,j<w.heap.size→(Go.Proofs.sortWorldK enc k w b 0 n d' os).heap[j]?=(w.heap.modify b (onCells (putCells _root_.id 0 (Go.Sort.flatK enc k d'))))[j]?:=by
   intro j hj
   show ((w.heap.modify b (onCells (putCells _root_.id 0 (Go.Sort.flatK enc k d'))))++os)[j]?=_
   rw[Array.getElem?_append_left (by simpa using hj)]
  have hsz2:arr.size=(putCells _root_.id 0 (Go.Sort.flatK enc k d') arr).size:=by simp[putCells]
  have hperm:d'.toList.Perm L:=by
   have e1:d'.extract 0 L.toArray.size=d':=by rw[←p1];simp
   have e2:L.toArray.extract 0 L.toArray.size=L.toArray:=by simp
   rw[e1,e2] at p3
   simpa using p3
  refine⟨rfl,rows f (d'.toList.map pr),d'.toList.flatMap enc,putCells _root_.id 0 (Go.Sort.flatK enc k d') arr,⟨d'.toList.map pr,hperm.map pr,?_,rfl⟩,Zl0 _ (fun y hy=>hrL y (hperm.mem_iff.1 hy)),?_,hsz2.symm,?_,?_,rfl,rfl,rfl,?_,?_⟩
  ·rw[List.pairwise_map]
   refine List.pairwise_iff_getElem.2 fun i j hi hj hij=>hr0 _ _ ?_
   have:=hso i j (Nat.zero_le _) hij (by simpa [hds] using hj)
   rw[getElem!_pos d' j (by simpa using hj),getElem!_pos d' i (by simpa using hi)] at this
   simpa using this
  ·rw[hw' b hblk,Array.getElem?_modify,if_pos rfl,hb];rfl
  ·rw[ZcM hk,hlen,Array.length_toList,hds]
  ·rw[hlen]
   apply List.ext_getElem?
   intro t
   by_cases ht:t<L.length*k
   ·have ht2:t<d'.size*k:=by rw[hds];exact ht
    have hta:t<arr.size:=by rw[hlen] at hle;omega
    rw[List.getElem?_take_of_lt ht,←Ze5 hk0 hk d',hgetF d' t ht2]
    unfold putCells
    rw[Array.getElem?_toList,Array.getElem?_mapIdx,Array.getElem?_eq_getElem hta,Option.map_some,if_pos ⟨Nat.zero_le _,by simpa using ht2⟩]
    rfl
   ·rw[List.getElem?_eq_none (by simp;omega),List.getElem?_eq_none (by rw[ZcM hk,Array.length_toList,hds];omega)]
  ·show w.heap.size≤((w.heap.modify b (onCells (putCells _root_.id 0 (Go.Sort.flatK enc k d'))))++os).size
   simp
  ·intro j hj hjb
   rw[hw' j hj,Array.getElem?_modify,if_neg (Ne.symm hjb)]
 ·rintro x h' ⟨rfl,cs,⟨l',hp,hs,rfl⟩,rfl⟩
  exact⟨rfl,l',hp,hs,rfl⟩
end
end
end Go.Ab
section
namespace Go.Ab
section
variable {P : Program} {n0 : Nat} {h : AH}
theorem ALe.own1 {T:List AV}{d st st' ty:Nat}{cs:List AV}(hd:T[d]?=some (.sl 0 st true cs)):ALe n0 T h (T.set d (.own h.length 1 0)) (h++[.mk 1 ty st' []]):=fun w0 S0 g0 a w g s=>by
 obtain⟨u,hu,hr⟩:=s.tmps.get hd
 simp only[Rep] at hr
 obtain⟨_,A,cap,rfl,_,_,hc,_,_⟩:=hr
 obtain rfl:cap=0:=(hc trivial).symm
 obtain⟨h1,h2,h3⟩:=s.sim.add0 (w':=w) A ty st' (fun _ _=>rfl) (Nat.le_refl _)
 obtain⟨r1,r2,r3⟩:=h1.renew (id:=h.length) (v':=1) (by simp) (fun v l hv=>by
  have:=(h1.fresh h.length v l hv).2 _ _ _ _ (by rw[List.getElem?_append_right (Nat.le_refl _),Nat.sub_self];rfl)
  omega) A ty st'
 have hset':(h++[Ent.mk 0 ty st' []]).set h.length (Ent.mk 1 ty st' [])=h++[Ent.mk 1 ty st' []]:=by
  rw[List.set_append_right _ _ (Nat.le_refl _),Nat.sub_self];rfl
 rw[hset'] at r1 r3
 have htm:=RepL.mono (h2.trans r2) (fun _ _=>rfl) _ _ s.tmps
 have hset:=htm.set (k:=d) (c:=.own h.length 1 0) (u:=.slice A 0 0) (ZbZ (Nat.le_refl _) (by simp[maxLen]))
 have hself:a.tmps.toList.set d (.slice A 0 0)=a.tmps.toList:=by
  apply List.ext_getElem?
  intro j
  by_cases hj:j=d
  ·subst hj
   have:j<a.tmps.toList.length:=(List.getElem?_eq_some_iff.1 hu).1
   rw[List.getElem?_set_self this,hu]
  rw[List.getElem?_set_ne (Ne.symm hj)]
 rw[hself] at hset
 exact⟨_,hset,s.defers,r1,s.fr,(s.le.trans h2).trans r2,s.bd,fun k hk=>(h3 k (r3 k hk)).elim (s.ow k) (fun h=>.inr (Nat.le_trans s.fr.size h))⟩
theorem ALe.own1' {T T':List AV}{h':AH}{d st st' ty id:Nat}{cs:List AV}(hd:T[d]?=some (.sl 0 st true cs)) (hl:h.length=id) (hp:aPut T (some d) (.own id 1 0)=T') (hh:h++[.mk 1 ty st' []]=h'):ALe n0 T h T' h':=by
 subst hl hp hh
 exact ALe.own1 hd
theorem ALe.addFreeR {T:List AV}{h':AH}(hh:h++[.free]=h'):ALe n0 T h T h':=by
 subst hh
 exact ALe.addFree
end
end Go.Ab
namespace Go.Proofs.YtfoipaclphdodaaGreatDoor
open Go.Ab Go.RowKit Civ Go.Sort
attribute [local simp] ZbR Zcg Zb1 ZbM Zbu Zfu
section
theorem ZoZ {τ:Operand→AV}:Zan τ [] []=some []:=rfl
theorem Zo1 {τ:Operand→AV}:Zan τ [] []=some []:=rfl
theorem Zr6 {a0 a1 a2:AV}{l:List AV}:((a0::a1::a2::l).drop 0).take 3=[a0,a1,a2]:=rfl
theorem Zo0 {τ:Operand→AV}:Zan τ [] [(.sl 0 0 true []),(.sl 0 0 true [])]=some [(.sl 0 0 true []),(.sl 0 0 true [])]:=rfl
theorem ZdY {a0 a1 c0 c1:AV}{l:List AV}:setCells (a0::a1::l) 0 [c0,c1]=c0::c1::l:=rfl
theorem ZdX {a0 a1:AV}{l:List AV}:((a0::a1::l).drop 0).take 2=[a0,a1]:=rfl
theorem Zm8 {τ:Operand→AV}{y0:Operand}{x0_0:AV}(h0:Zap (τ y0)=some [x0_0]) (l0:[x0_0].all leaf=true):Zan τ [(1,1,y0)] [(.sl 0 0 true []),(.sl 0 0 true [])]=some [(.sl 0 0 true []),x0_0]:=by
 simp only[Zan,h0,l0]
 rfl
theorem ZvD {a0 a1:AV}{l:List AV}:(a0::a1::l).take 2=[a0,a1]:=rfl
theorem ZvC {a0 a1 a2:AV}{l:List AV}:(a0::a1::a2::l).take 3=[a0,a1,a2]:=rfl
theorem Zr7 {a0 a1 a2 a3 c0 c1 c2 c3:AV}{l:List AV}:setCells (a0::a1::a2::a3::l) 0 [c0,c1,c2,c3]=c0::c1::c2::c3::l:=rfl
theorem Zm7 {τ:Operand→AV}:Zan τ [] [(.sl 0 0 true []),(.sl 0 0 true [])]=some [(.sl 0 0 true []),(.sl 0 0 true [])]:=rfl
theorem Zr5 {a0 a1 a2 a3:AV}{l:List AV}:((a0::a1::a2::a3::l).drop 0).take 4=[a0,a1,a2,a3]:=rfl
theorem Zm6 {τ:Operand→AV}{y0 y1:Operand}{x0_0 x1_0 x1_1 x1_2 x1_3:AV}(h0:Zap (τ y0)=some [x0_0]) (l0:[x0_0].all leaf=true) (h1:Zap (τ y1)=some [x1_0,x1_1,x1_2,x1_3]) (l1:[x1_0,x1_1,x1_2,x1_3].all leaf=true):Zan τ [(0,1,y0),(1,4,y1)] [(.v (.string ⟨#[]⟩)),(iv 0),(iv 0),(.v (.string ⟨#[]⟩)),(.sl 0 0 true [])]=some [x0_0,x1_0,x1_1,x1_2,x1_3]:=by
 simp only[Zan,h0,l0,h1,l1]
 rfl
theorem Zm5 {τ:Operand→AV}{y0:Operand}{x0_0 x0_1 x0_2 x0_3 x0_4:AV}(h0:Zap (τ y0)=some [x0_0,x0_1,x0_2,x0_3,x0_4]) (l0:[x0_0,x0_1,x0_2,x0_3,x0_4].all leaf=true):Zan τ [(0,5,y0)] [(.v (.string ⟨#[]⟩)),(iv 0),(iv 0),(.v (.string ⟨#[]⟩)),(.sl 0 0 true [])]=some [x0_0,x0_1,x0_2,x0_3,x0_4]:=by
 simp only[Zan,h0,l0]
 rfl
theorem ZvB {a0 a1 a2 a3 a4:AV}{l:List AV}:(a0::a1::a2::a3::a4::l).take 5=[a0,a1,a2,a3,a4]:=rfl
theorem Zr8 {a0 c0:AV}{l:List AV}:setCells (a0::l) 0 [c0]=c0::l:=rfl
end
def c46:AC:=(Sr [Oo 2 (.mv (.const (.slice none 0 0)))] (.seq (Sr [Mv 3 0,Oo 4 (.eqn false (t 3))] (Cd 4 (Sr [Oo 2 (.mv (.const (.slice none 0 0)))] .ret) .skip)) (Sr [Oo 5 (.lit 94 2 0 [] []),Mv 6 0,Oo 7 (.app 94 2 40 (t 5) (t 6)),Mv 2 7] .ret)))
theorem k46:ZaA Tryz.prog 46=some ⟨c46,[(.tmp 2)],8⟩:=by kernel_rfl
def c14:AC:=(Sr [Oo 1 (.box 53 3 (t 0)),Oo 2 (.new 25 2 [nl,nl]),Mc 3 0] (.seq (Sr [Oo 12 (.load true 3 (t 1)),Cl 13 45 [(t 12)],Mv 4 13] (Sr [Mv 14 4,Bc 15 .neq 14 0] (Cd 15 (Sr [Oo 16 (.build [nl,nl] []),Mv 17 4,⟨none,none,(.store 2 (t 2) (t 16))⟩,Mv 3 17] .ret) .skip))) (.seq (.drwU [[],[],[],[0,1,2],[0,1,2],[],[],[]] [Fa 18 1 1,Ld 19 18,Cl 20 46 [(t 19)],Fa 21 2 1,Ld 22 21,Cl 23 47 [(t 22)],Mv 5 20,Mv 6 23]) (Sr [Mv 24 5,Cl 25 48 [(t 24),(.func 49)]] (Sr [Mv 26 6,Cl 27 51 [(t 26),(.func 52)]] (Sr [Mv 28 6,Oo 29 (.build [nl,nl] [(1,(1,(t 28)))]),Oo 7 (.new 25 2 [nl,nl]),⟨none,none,(.store 2 (t 7) (t 29))⟩] (.seq (Sr [Mv 30 5,Oo 31 (.len false (t 30)),Mc 32 0] (.block 0 (.loop (Sr [Bn 33 .lss 32 31] (.seq (Cd 33 .skip (.exit 0)) (.seq (.block 1 (Sr [Oo 34 (.ia 2 (t 30) (t 32)),Oo 35 (.load true 2 (t 34)),Oo 9 (.new 94 2 [Ss,nl]),⟨none,none,(.store 2 (t 9) (t 35))⟩] (Sr [Oo 37 (.load true 3 (t 1)),Oo 38 (.load true 2 (t 9)),Cl 39 53 [(t 37),(t 38)],Mv 36 39,Ex 40 36 0,Ex 41 36 1,Oo 10 (.new 38 4 [(iv 0),(iv 0),Ss,nl]),⟨none,none,(.store 4 (t 10) (t 40))⟩,Mv 11 41] (.seq (Sr [Mv 42 11,Bc 43 .neq 42 0] (Cd 43 (Sr [Oo 44 (.build [nl,nl] []),Mv 45 11,⟨none,none,(.store 2 (t 2) (t 44))⟩,Mv 3 45] .ret) .skip)) (.reg [Fa 46 0 7,Ld 47 46,Fa 48 0 9,Ld 49 48,Oo 50 (.load true 4 (t 10)),Oo 51 (.build [Ss,(iv 0),(iv 0),Ss,nl] [(0,(1,(t 49))),(1,(4,(t 50)))]),Oo 52 (.lit 40 5 1 [Ss,(iv 0),(iv 0),Ss,nl] [(0,(5,(t 51)))]),Oo 53 (.app 40 5 72 (t 47) (t 52)),Fa 54 0 7,Sc 54 53]))))) (.reg [Bc 55 .add 32 1,Mv 32 55]))))))) (Sr [Oo 56 (.load true 2 (t 7)),⟨none,none,(.store 2 (t 2) (t 56))⟩,Mc 3 0] .ret))))))))
theorem k14:ZeN Tryz.prog (none) 14=some ⟨c14,[(.cell 2 true 2),(.tmp 3)],57⟩:=by kernel_rfl
theorem cloneZ_a {l:List Zon}{full:Bool}{h:AH}{id:Nat}(hl:l.length≤300000000000) (hf:h[id]?=some .free):ACalls Tryz.prog 46 [.sl l.length 2 full (rows zonC l)] h fun r h'=>r=.ret (.own id 1 l.length)∧h'=h.set id (.mk 1 94 2 (rows zonC l)):=by
 have hid:id<h.length:=(List.getElem?_eq_some_iff.1 hf).1
 refine tJ' k46 fun N hn hlt _ hbd=>?_
 simp only[tb'] at hbd ⊢
 refine wk'<|Zac<|wm<|?_
 refine Zqy lk (fun _=>pt) (fun bn3 hbn3=>?_)
 refine sn' ?_
 refine cd' lk (fun hc1=>?_) (fun hc1=>?_)
 ·refine wr'<|mv' lkn pt2<|Zal<|ZaO ((ALe.own1' (st':=2) (ty:=94) gt2 hl0 pt2 ha0).trans (ALe.moveLast hf hn gt2 pt2 rfl))<|ZaY<|Zae<|Zad (rs1 (rr_t gt2))<|?_
  have h0:l=[]:=List.eq_nil_of_length_eq_zero ((Nat.eq_zero_or_pos _).resolve_right (fun e=>by have:=hbn3 e;rw[hc1] at this;cases this))
  subst h0
  exact⟨_,[.gone],rfl,by simp[hn],Zug hlt (by simp[Ent.lt,AV.ltL]),by simp[AE.lt,AV.lt];omega,rfl,rfl⟩
 refine za<|wr'<|E' (Zcm ZoZ hl0 ha0) pt<|mw<|?_
 refine E' (ZbH (ZkK lk (Znn _)) lk gx rfl om (ZdM (fun _=>rfl) _) hs0) pt ?_
 refine mv' lk7 pt2<|Zal<|ZaO (ALe.moveLast hf hn gt2 pt2 rfl)<|ZaY<|Zad (rs1 (rr_t gt2))<|?_
 exact⟨_,[.gone],rfl,by simp[hn],Zug hlt (by simp[Ent.lt,Zb1]),by simp[AE.lt,AV.lt];omega,by simp,by simp⟩
theorem cloneK_a {l:List Lnk}{full:Bool}{h:AH}{id:Nat}(hl:l.length≤300000000000) (hf:h[id]?=some .free):ACalls Tryz.prog 47 [.sl l.length 2 full (rows lnkC l)] h fun r h'=>r=.ret (.own id 1 l.length)∧h'=h.set id (.mk 1 97 2 (rows lnkC l)):=by
 have hid:id<h.length:=(List.getElem?_eq_some_iff.1 hf).1
 refine tJ' k47 fun N hn hlt _ hbd=>?_
 simp only[tb'] at hbd ⊢
 refine wk'<|Zac<|wm<|?_
 refine Zqy lk (fun _=>pt) (fun bn3 hbn3=>?_)
 refine sn' ?_
 refine cd' lk (fun hc1=>?_) (fun hc1=>?_)
 ·refine wr'<|mv' lkn pt2<|Zal<|ZaO ((ALe.own1' (st':=2) (ty:=97) gt2 hl0 pt2 ha0).trans (ALe.moveLast hf hn gt2 pt2 rfl))<|ZaY<|Zae<|Zad (rs1 (rr_t gt2))<|?_
  have h0:l=[]:=List.eq_nil_of_length_eq_zero ((Nat.eq_zero_or_pos _).resolve_right (fun e=>by have:=hbn3 e;rw[hc1] at this;cases this))
  subst h0
  exact⟨_,[.gone],rfl,by simp[hn],Zug hlt (by simp[Ent.lt,AV.ltL]),by simp[AE.lt,AV.lt];omega,rfl,rfl⟩
 refine za<|wr'<|E' (Zcm Zo1 hl0 ha0) pt<|mw<|?_
 refine E' (ZbH (ZkK lk (Zd9 _)) lk gx rfl om (ZpP _) hs0) pt ?_
 refine mv' lk7 pt2<|Zal<|ZaO (ALe.moveLast hf hn gt2 pt2 rfl)<|ZaY<|Zad (rs1 (rr_t gt2))<|?_
 exact⟨_,[.gone],rfl,by simp[hn],Zug hlt (by simp[Ent.lt,ZbM]),by simp[AE.lt,AV.lt];omega,by simp,by simp⟩
theorem isNaNS (a:ByteArray) (w:World):Calls Tryz.prog 101 #[.string a] w fun e w'=>e=.returned (.bool false)∧w'=w:=by
 go_enter Tryz.func101,Tryz.ntmps101
 go_wp2
 go_ret
 exact⟨by simp,rfl⟩
theorem cmpStr (a b:ByteArray) (w:World):Calls Tryz.prog 50 #[.string a,.string b] w fun e w'=>e=.returned (.int .i64 (cmpS a b))∧w'=w:=by
 cases h1:Op.bytesLess a.toList b.toList
 ·have h3:=Ziq a b
  rw[h1,Bool.false_or] at h3
  unfold cmpS
  rw[if_neg (show ¬ltS a b=true by unfold ltS;rw[h1];simp)]
  have hv : ∀ w,(binOp .gtr 9 (.string a) (.string b)).run Tryz.prog w=.ok (.bool (ltS b a)) w:=fun w=>by
   obtain⟨v,hv,e⟩:=Zpt (P:=Tryz.prog) (op:=.gtr) (a:=a) (b:=b) rfl 9 w
   cases e
   rw[h1,Bool.false_or,h3,Bool.not_not] at hv
   exact hv
  cases h2:ltS b a <;> rw[h2] at hv
  all_goals
   go_enter Tryz.func50,Tryz.ntmps50
   go_wp2_with (go_at_call 101;refine (isNaNS _ _).mono ?_;rintro e w' ⟨rfl,rfl⟩)
   go_ret
   exact⟨rfl,rfl⟩
 unfold cmpS
 rw[if_pos (show ltS a b=true from h1)]
 go_enter Tryz.func50,Tryz.ntmps50
 go_wp2_with (go_at_call 101;refine (isNaNS _ _).mono ?_;rintro e w' ⟨rfl,rfl⟩)
 go_ret
 exact⟨rfl,rfl⟩
theorem Zqg {β:Type}(nm:β→ByteArray):SWO (Go.Proofs.ltOf fun x y=>cmpS (nm x) (nm y)):=by
 have e : ∀ x y,Go.Proofs.ltOf (fun x y=>cmpS (nm x) (nm y)) x y=ltS (nm x) (nm y):=fun x y=>by
  unfold Go.Proofs.ltOf
  rw[Bool.eq_iff_iff,decide_eq_true_eq];exact Ze7
 refine⟨fun x=>?_,fun x y z h1 h2=>?_,fun x y z h1 h2=>?_⟩ <;> simp only[e] at *
 ·exact Zin _
 ·exact Zho h1 h2
 cases h:ltS (nm x) (nm z) with
 | false=>rfl
 | true=>rw[Zml h1 h] at h2;cases h2
theorem ZuQ {β:Type}{nm:β→ByteArray}{x y:β}(h:Go.Proofs.ltOf (fun x y=>cmpS (nm x) (nm y)) y x=false):ltS (nm y) (nm x)=false:=by
 unfold Go.Proofs.ltOf at h
 rw[decide_eq_false_iff_not,Ze7] at h
 simpa using h
def lnkV (l:Lnk):List Value:=[.string l.1,.string l.2]
abbrev ZonW:=Zon×Option Addr×Nat
def zonV (z:ZonW):List Value:=[.string z.1.1,.slice z.2.1 z.1.2.length z.2.2]
theorem ZuN (x y:ZonW) (w:World):Calls Tryz.prog 49 #[.agg (zonV x).toArray,.agg (zonV y).toArray] w fun e w'=>e=.returned (.int .i64 (cmpS x.1.1 y.1.1)) ∧ ∃ q os,w'=grow (w.drewN q) os:=by
 obtain⟨⟨a,l⟩,A,c⟩:=x
 obtain⟨⟨b,m⟩,B,d⟩:=y
 simp only[zonV]
 go_enter Tryz.func49,Tryz.ntmps49
 go_wp2_with (go_at_call 50;refine (cmpStr _ _ _).mono ?_;rintro e w' ⟨rfl,rfl⟩)
 go_ret
 refine⟨rfl,?_⟩
 rw[alloc_eq_grow,alloc_eq_grow,grow_grow]
 exact⟨0,_,rfl⟩
theorem ZuR (x y:Lnk) (w:World):Calls Tryz.prog 52 #[.agg (lnkV x).toArray,.agg (lnkV y).toArray] w fun e w'=>e=.returned (.int .i64 (cmpS x.2 y.2)) ∧ ∃ q os,w'=grow (w.drewN q) os:=by
 obtain⟨a,b⟩:=x
 obtain⟨c,d⟩:=y
 simp only[lnkV]
 go_enter Tryz.func52,Tryz.ntmps52
 go_wp2_with (go_at_call 50;refine (cmpStr _ _ _).mono ?_;rintro e w' ⟨rfl,rfl⟩)
 go_ret
 refine⟨rfl,?_⟩
 rw[alloc_eq_grow,alloc_eq_grow,grow_grow]
 exact⟨0,_,rfl⟩
theorem sortZ0 {h:AH}{id ver:Nat}{f:Value}:Ac 48 [.own id ver 0,.v f] h (.tup []):=by
 refine ACalls.of_below (by kernel_rfl) fun w g vs hs ha=>?_
 simp only[RepL,Rep] at ha
 obtain⟨u1,us1,e1,⟨A,c,_,_,_,rfl⟩,u2,us2,e2,e3,rfl⟩:=ha
 subst e3 e2
 obtain rfl:vs = #[.slice A 0 c,u2]:=by cases vs;simp_all
 refine (Go.Proofs.AnyF.slices_SortFunc_none Tryz.sl9z A c _ w).mono ?_
 rintro e w' ⟨rfl,rfl⟩
 refine⟨_,rfl,Below.refl _ _,?_⟩
 simp only[Rep,RepL]
 exact⟨_,rfl,rfl⟩
theorem sortK0 {h:AH}{id ver:Nat}{f:Value}:Ac 51 [.own id ver 0,.v f] h (.tup []):=by
 refine ACalls.of_below (by kernel_rfl) fun w g vs hs ha=>?_
 simp only[RepL,Rep] at ha
 obtain⟨u1,us1,e1,⟨A,c,_,_,_,rfl⟩,u2,us2,e2,e3,rfl⟩:=ha
 subst e3 e2
 obtain rfl:vs = #[.slice A 0 c,u2]:=by cases vs;simp_all
 refine (Go.Proofs.AnyF.slices_SortFunc_none Tryz.sl9l A c _ w).mono ?_
 rintro e w' ⟨rfl,rfl⟩
 refine⟨_,rfl,Below.refl _ _,?_⟩
 simp only[Rep,RepL]
 exact⟨_,rfl,rfl⟩
theorem Zps {h:AH}{id:Nat}{e:Ent}(hi:h[id]?=some e):h.set id e=h:=by
 apply List.ext_getElem?
 intro j
 by_cases hj:j=id
 ·subst hj
  rw[List.getElem?_set_self (List.getElem?_eq_some_iff.1 hi).1,hi]
 rw[List.getElem?_set_ne (Ne.symm hj)]
theorem sortZ_a {h:AH}{id ver ty:Nat}{l:List Zon}(hi:h[id]?=some (.mk ver ty 2 (rows zonC l))) (hn:(l.map (·.1)).Nodup) (hz:l.length<4611686018427387904) :
  ACalls Tryz.prog 48 [.own id ver l.length,.v (.func (.func 49) #[] #[])] h fun x h'=>x=.ret (.tup [])∧h'=h.set id (.mk ver ty 2 (rows zonC (srtN l))):=by
 by_cases hl:l=[]
 ·subst hl
  refine sortZ0.mono ?_
  rintro x h' ⟨rfl,rfl⟩
  exact⟨rfl,(Zps hi).symm⟩
 refine (sort_b (P:=Tryz.prog) Tryz.sl9z (k:=2) om (fun w=>by kernel_rfl) (fun w=>by kernel_rfl) (enc:=zonV) (fun _=>rfl) (fun t v hv=>?_) (Zqg fun x:ZonW=>x.1.1) (g0:=49) (fun args w=>?_) (fun blk off size w m os dk hd x y=>ZuN x y _) (f:=zonC) (pr:=fun x=>x.1) (fun _=>rfl) (fun w g x vs hv=>?_) (r:=fun a b=>ltS b.1 a.1=false) (fun x y hxy=>ZuQ (nm:=fun x:ZonW=>x.1.1) hxy) hi hl hz (by kernel_rfl)).mono ?_
 ·unfold zonV at hv
  simp only[List.mem_cons,List.not_mem_nil,or_false] at hv
  rcases hv with rfl | rfl <;> rfl
 ·exact Zeh (by kernel_rfl) args w
 ·simp only[RepL,Rep] at hv
  obtain⟨u1,us1,rfl,rfl,u2,us2,rfl,⟨_,A,c,rfl,_⟩,rfl⟩:=hv
  exact⟨(x,A,c),rfl,rfl⟩
 rintro x h' ⟨rfl,l',hp,hs,rfl⟩
 rw[ZsT hn hp hs]
 exact⟨rfl,rfl⟩
theorem sortK_a {h:AH}{id ver ty:Nat}{l:List Lnk}(hi:h[id]?=some (.mk ver ty 2 (rows lnkC l))) (hn:(l.map (·.2)).Nodup) (hz:l.length<4611686018427387904) :
  ACalls Tryz.prog 51 [.own id ver l.length,.v (.func (.func 52) #[] #[])] h fun x h'=>x=.ret (.tup [])∧h'=h.set id (.mk ver ty 2 (rows lnkC (srtL l))):=by
 by_cases hl:l=[]
 ·subst hl
  refine sortK0.mono ?_
  rintro x h' ⟨rfl,rfl⟩
  exact⟨rfl,(Zps hi).symm⟩
 refine (sort_a (P:=Tryz.prog) Tryz.sl9l (k:=2) om (fun w=>by kernel_rfl) (fun w=>by kernel_rfl) (enc:=lnkV) (fun _=>rfl) (fun t v hv=>?_) (Zqg fun x:Lnk=>x.2) (g0:=52) (fun args w=>?_) (fun blk off size w m os dk hd x y=>ZuR x y _) hi hl hz (by kernel_rfl)).mono ?_
 ·unfold lnkV at hv
  simp only[List.mem_cons,List.not_mem_nil,or_false] at hv
  rcases hv with rfl | rfl <;> rfl
 ·exact Zeh (by kernel_rfl) args w
 rintro x h' ⟨rfl,l',hp,hs,rfl⟩
 rw[ZsU hn hp (List.pairwise_iff_getElem.2 fun i j hi hj hij=>ZuQ (nm:=fun x:Lnk=>x.2) (hs i j hi hj hij))]
 exact⟨rfl,rfl⟩
theorem tofV_a {a:List Rul}{z:List Zon}{k:List Lnk}{x:Zon}{h:AH}(hok:Zf8 (a,z,k)) (hz0:Zbf (a,z,k)=0) (hm:x∈z) :
  ACalls Tryz.prog 53 [.agg (srcB a z k),.agg [sv x.1,.sl x.2.length 10 false (rows eraC x.2)]] h fun y h'=>h'=h∧y=.ret (.tup [tabA (ofV (a,z,k) x).1,iv (ofV (a,z,k) x).2]):=by
 have hE:=Ze8 hz0
 have hal:=(Zci hE).1
 simp only at hal
 obtain⟨⟨pl,hpl⟩,_⟩:=ZkT hz0 hm tMin
 have hne:inP (ZaZ a tMin none x.2)≠[]:=by rw[show ZaZ a tMin none x.2=_ from hpl];unfold inP;rw[List.takeWhile_cons,if_pos (decide_eq_true (by show tMin≤tMax;decide))];simp
 have hF:ofV (a,z,k) x=ofP a x.2:=by unfold ofV ofP;rw[←Zh3 hz0 hm]
 rw[hF]
 exact tof_a (Zij hok) om (Zdd hE hm) hne
theorem Zmg (s:Src) {zs:List Zon}{i:Nat}(h:i<zs.length):mapT s (zs.take (i+1))=mapT s (zs.take i)++[(zs[i].1,(ofV s zs[i]).1)]:=by
 unfold mapT
 rw[List.take_succ_eq_append_getElem h,List.map_append];rfl
theorem ZdB (s:Src) (zs:List Zon):(mapT s zs).length=zs.length:=List.length_map _
theorem Zmj {s:Src}(h0:Zbf s=0) {e:Int}(he:errT s (srtN s.2.1)=e) (hne:e≠0):Zcv s=(rel0,e):=by
 subst he
 unfold Zcv
 rw[if_neg (by simpa using h0),if_pos hne]
theorem ZpJ {s:Src}(h0:Zbf s=0) (hE:errT s (srtN s.2.1)=0):Zcv s=((mapT s (srtN s.2.1),srtL s.2.2),0):=by
 unfold Zcv
 rw[if_neg (by simpa using h0),if_neg (by simpa using hE)]
theorem Zkx {e:AV}:Wk (.tup [.agg [.sl 0 0 true [],.sl 0 0 true []],e]) (.tup [.agg (relC rel0),e]):=Wk.tup (wkw (Wk.agg (wkw Wk.nilF (wkw Wk.nilF wk0))) (wk1 rfl wk0))
theorem make_a {a:List Rul}{z:List Zon}{k:List Lnk}{h:AH}(hok:Zf8 (a,z,k)) :
  Ac 14 [.agg (srcB a z k)] h (.tup [.agg (relC (Zcv (a,z,k)).1),iv (Zcv (a,z,k)).2]):=by
 refine tUW' k14 fun N hn hlt _ hbd=>?_
 simp only[tb'] at hbd ⊢
 refine wr'<|E' (ZaR cv rfl hl0 ha0) pt<|E' (ZaT hl1 ha1) pt<|ms<|Zac<|wr'<|Vw (Zah lk gx Zr6 rfl)<|Zab mp (Zpd hok) pt<|mw<|Zal<|?_
 refine Zam<|wm<|Vw (Za0 lk lki)<|sn'<|?_
 refine cd' lk (fun hc1=>?_) (fun hc1=>?_)
 ·have hM:Zcv (a,z,k)=(rel0,Zbf (a,z,k)):=if_pos hc1
  refine wr'<|Vw (Zaw Zo0)<|mw<|E' (Zak lk cv gx rfl nb rfl ZdY hs1) ptn<|mr<|Zae<|Zad (rsn (rm1 (rr_c gt gx (ld1 ZdX rfl)) (rm1 (rr_t gt) rm0)))<|rtW'<|?_
  rw[hM];exact Zkx
 have h0:Zbf (a,z,k)=0:=Decidable.of_not_not hc1
 obtain⟨n1,n2,n3⟩:=Zd8 h0
 obtain⟨q1,q2,q3,q4,q5,q6,q7⟩:=Zci (Ze8 h0)
 simp only at q1 q2 q3 q4 q5 q6 q7 n1 n2
 have hpz:=ZcD n1
 have hpk:=ZlO n2
 have hzl:=hpz.length_eq
 have hkl:=hpk.length_eq
 refine ZaB ?_
 refine ZaO (ALe.trans (ALe.icePtr gx gt1 (by simp) pt1 hs0) (ALe.trans (ALe.addFreeR ha2) (ALe.addFreeR ha3))) ?_
 refine Zac<|Zss<|uf (ZaQ lk dp1)<|uf (Zar lk gt)<|?_
 refine Zkz mp gx (fun hU hUe=>cloneZ_a om hUe) nh hs2 pt ?_
 refine uf (ZaQ lk dp2)<|uf (Zar lk gt)<|?_
 refine Zkz mp gx (fun hU hUe=>cloneK_a om hUe) nh hs3 pt ?_
 refine uf vm<|uf vm<|u_nil<|Zam<|wm<|?_
 refine ZkL mp (sortZ_a gx n1 om) hs2 pt ?_
 refine Zal ?_
 refine ZaO (ALe.iceN (hga hn rfl) gt5 (List.take_of_length_le (by rw[Znn];omega)) (by rw[Znn];omega) (by exact hzl.symm) pt5 hs2) ?_
 refine wm<|?_
 refine ZkL mp (sortK_a gx n2 om) hs3 pt ?_
 refine Zal ?_
 refine ZaO (ALe.iceN (hga hn rfl) gt6 (List.take_of_length_le (by rw[Zd9];omega)) (by rw[Zd9];omega) (by exact hkl.symm) pt6 hs3) ?_
 refine wm<|Vw (Zaw (Zm8 cv rfl))<|E' (ZaT hl4 ha4) pt<|E' (Zak lk cv gx rfl nb rfl ZdY hs4) ptn<|Zal<|?_
 refine ZaO (ALe.own0Cell (st':=5) (ty:=40) gx gt0 hl5 pt0 (Eq.trans (congrArg (fun z=>List.set z _ _) ha5) hs4)) ?_
 refine Zac<|wm<|Vw (ZaC lk)<|ms<|Zag<|?_
 refine w_lp (ι:=Nat×Nat) (fun (x_:Nat×Nat)=>match x_ with | ⟨i,v⟩=>[(32,iv (i:Int)),(3,.any)]++rn' 9 3++rn' 33 23) (fun (x_:Nat×Nat)=>match x_ with | ⟨i,v⟩=>[(4,.mk 0 25 2 [.own (N+5) v (mapT (a,z,k) ((srtN z).take i)).length,.sl (srtL k).length 2 false (rows lnkC (srtL k))]),(5,.mk v 40 5 (rows namC (mapT (a,z,k) ((srtN z).take i))))]) (fun (x_:Nat×Nat)=>match x_ with | ⟨i,v⟩=>i≤(srtN z).length∧errT (a,z,k) (srtN z)=errT (a,z,k) ((srtN z).drop i)) (fun (x_:Nat×Nat)=>match x_ with | ⟨i,v⟩=>(srtN z).length-i) (⟨0,0⟩) (by exact⟨Nat.zero_le _,rfl⟩) ?_
 rintro⟨i,v⟩ hi1
 try simp only[sm',Nat.reduceAdd]
 obtain⟨hi1,hi2⟩:=hi1
 refine wr'<|Vw (ZaL lk lk)<|sn'<|Zac<|?_
 refine cd' lk (fun hc2=>?_) (fun hc2=>?_)
 ·have hi:i<(srtN z).length:=by omega
  have hst:=Zmg (a,z,k) hi
  have hml:=ZdB (a,z,k) ((srtN z).take i)
  rw[List.length_take] at hml
  have hmem:=hpz.mem_iff.1 (List.getElem_mem hi)
  unfold errT at hi2
  rw[Zco hi] at hi2
  refine za<|Zac<|Zag<|wr'<|?_
  refine V' (ZaF lk lk Zbm nb ro om ro rfl) pt ?_
  refine Vw (Zau lk ZvD rfl)<|E' (ZaT hl6 ha6) pt<|E' (Zak lk cv gx rfl nb rfl ZdY hs6) ptn<|sn'<|wr'<|Vw (Zau lk ZvC rfl)<|Vw (Zah lk gx ZdX rfl)<|Zab mp (tofV_a hok h0 hmem) pt<|mw<|Vw (ZaS lk gt)<|Vw (ZaS lk gt)<|E' (ZaT hl7 ha7) pt<|?_
  refine E' (Zak lk cv gx rfl nb rfl Zr7 hs7) ptn<|ms<|Zac<|wm<|Vw (Za0 lk lki)<|sn'<|?_
  refine cd' lk (fun hc3=>?_) (fun hc3=>?_)
  ·rw[if_pos hc3] at hi2
   have hM:=Zmj h0 hi2 hc3
   refine wr'<|Vw (Zaw Zm7)<|mw<|E' (Zak lk cv gx rfl nb rfl ZdY hs1) ptn<|mr<|Zae<|Zao<|Zae<|Zae<|Zao<|?_
   refine Zae<|Zad (rsn (rm1 (rr_c gt gx (ld1 ZdX rfl)) (rm1 (rr_t gt) rm0)))<|rtW'<|?_
   rw[hM];exact Zkx
  rw[if_neg hc3] at hi2
  refine za<|Zaq<|fq<|Vw (Zaa lk gx gt0)<|fq<|Vw (Zaa lk gx gt0)<|Vw (Zah lk gx Zr5 rfl)<|Vw (Zaw (Zm6 cv rfl cv rfl))<|E' (Zcm (Zm5 cv rfl) hl8 ha8) pt<|?_
  refine E' (ZbH (Zbn lk gx rfl ZvB nb) lk gx (Zcu _) om rfl hs5) pt ?_
  refine fq<|E' (Zak lk cv gx rfl nb rfl Zr8 hs4) ptn<|Zal<|Zav<|Zam<|Zaq<|?_
  refine ad<|mw<|Zal<|Zaz<|?_
  refine lU' (⟨i+1,v+1⟩) (by (try dsimp only);exact⟨by omega,hi2⟩) (by refine zz ?_;exact bk' 6 hn hlt (by rw[hst,List.length_append,ZaH];rfl) (hT:=by simp[AV.lt,AV.ltL,Ent.lt]) (hE:=by simp[AV.lt,AV.ltL,Ent.lt]))
 rw[List.drop_of_length_le (show (srtN z).length≤i by omega)] at hi2
 have hM:=ZpJ h0 hi2
 rw[List.take_of_length_le (show (srtN z).length≤i by omega)]
 refine Zay<|Zas<|Zas<|ZaI<|?_
 refine ZaO (ALe.iceCellR (hga hn rfl) (hga hn rfl) om gt0 (List.take_of_length_le (by rw[Zcu];exact Nat.le_refl _)) (by rw[Zcu];exact Nat.le_refl _) pt0 hs5 hs4) ?_
 refine wr'<|Vw (Zah lk gx ZdX rfl)<|E' (Zak lk cv gx rfl nb rfl ZdY hs1) ptn<|mr<|Zad (rsn (rm1 (rr_c gt gx (ld1 ZdX rfl)) (rm1 (rr_t gt) rm0)))<|rtW'<|?_
 rw[hM];exact Wk.refl _
end Go.Proofs.YtfoipaclphdodaaGreatDoor
end
namespace Go.Proofs.YtfoipaclphdodaaGreatDoor
section
open Go.Ab Go.RowKit Civ
attribute [local simp] Zbu Zfu
def c210:AC:=(Sr [Oo 6 (.mv (.const (.slice none 0 0)))] (Sr [Mv 10 0,Mv 11 1,Oo 12 (.slc 5 (t 10) (some (t 11)) none none)] (Sr [Mv 13 2,Oo 14 (.len false (t 13)),Mv 7 14] (.seq (Sr [Mv 15 7,Bc 16 .eql 15 0] (Cd 16 (Sr [Mv 17 0,Mv 6 17] .ret) .skip)) (Sr [Mv 18 0,Oo 19 (.len false (t 18)),Mv 8 19] (.seq (Sr [Mv 20 1,Mv 21 8,Bn 22 .eql 20 21] (Cd 22 (Sr [Mv 23 0,Mv 24 2,Oo 25 (.app 40 5 72 (t 23) (t 24)),Mv 6 25] .ret) .skip)) (.seq (Sr [Mv 26 8,Mv 27 7,Bn 28 .add 26 27,Mv 29 0,Oo 30 (.cap (t 29)),Bn 31 .gtr 28 30] (Cd 31 (Sr [Mv 32 0,Mv 33 1,Oo 34 (.slc 5 (t 32) none (some (t 33)) none),Mv 35 8,Mv 36 7,Bn 37 .add 35 36,Mv 38 1,Bn 39 .sub 37 38,Oo 40 (.appz 40 5 72 (t 34) (t 39)),Mv 9 40] (.seq (.cond (Ci 0) .skip .skip) (.seq (.cond (Ci 0) .skip .skip) (Sr [Mv 55 9,Mv 6 55] .ret)))) .skip)) (Sr [Mv 56 0,Mv 57 8,Mv 58 7,Bn 59 .add 57 58,Oo 60 (.slc 5 (t 56) none (some (t 59)) none),Mv 0 60] (.seq (Sr [Mv 61 2,Mv 62 0,Mv 63 1,Mv 64 7,Bn 65 .add 63 64,Oo 66 (.slc 5 (t 62) (some (t 65)) none none),Cl 67 262 [(t 61),(t 66)],Oo 68 (.un .not (t 67))] (Cd 68 (.seq (.cond (Ci 0) .skip .skip) (.seq (.cond (Ci 0) .skip .skip) (Sr [Mv 83 0,Mv 6 83] .ret))) .skip)) (.seq (.cond (Ci 0) .skip .skip) (Sr [Mv 89 0,Mv 90 1,Oo 91 (.slc 5 (t 89) (some (t 90)) none none),Mv 92 7,Cl 93 263 [(t 91),(t 92)]] (Sr [Mv 94 0,Mv 6 94] .ret))))))))))))
theorem k210:ZeN Tryz.prog (none) 210=some ⟨c210,[(.tmp 6)],95⟩:=by kernel_rfl
theorem Zuc {n:Nam}{id v ty:Nat}{h:AH}(he:h[id]?=some (.mk v ty 5 (namC n))):Ac 210 [.sl ([]:List Nam).length 5 true (rows namC []),iv 0,.own id v 1] h (.sl 1 5 false (rows namC [n])):=by
 refine tUW' k210 fun N hn _ _ hbd=>?_
 simp only[tb'] at hbd ⊢
 refine wk'<|wm<|mw<|?_
 refine V' (v_lo lk lk Za8 ro (by (try simp only[List.length_nil]);omega) ro) pt ?_
 refine sn'<|wm<|Vw (ZbQ lk)<|ms<|Zac<|wm<|Vw (Za2 lk lki)<|?_
 refine sn' ?_
 refine ZhF lk (by exact decide_eq_false om) ?_
 refine za<|wm<|Vw (ZaC lk)<|ms<|Zac<|wm<|mw<|?_
 refine Vw (Za2 lk lk)<|sn'<|?_
 refine ZgC lk (by exact decide_eq_true (by simp)) ?_
 refine wm<|mw<|?_
 refine E' (e_app0 (Zbn lk (Zcf he) rfl rfl (Nat.le_refl _)) lk (by (try simp only[List.length_nil]);omega) rfl hl0 ha0) pt ?_
 refine mv' lk25 pt6<|Zal<|ZaO (ALe.iceR gx gt6 (List.take_of_length_le (Nat.le_refl _)) (Nat.le_refl _) pt6 hs0)<|ZaY<|Zae<|Zad (rs1 (rr_t gt6))<|rtW'<|?_
 exact Wk.refl _
end
section
open Go.Ab Go.RowKit Civ
def rel1:Rel:=([(nHt,tab0)],[(nHt,nOld)])
def upd1:Upd:=([],[(nHt,tab0)],[],[(nHt,nOld)])
theorem make0:Zcv src0=(rel1,0):=by
 have hs:srtN src0.2.1=src0.2.1:=rfl
 have h1:errT src0 (srtN src0.2.1)=0:=by
  rw[hs]
  show (if (ofV src0 (nHt,[era0,era1])).2≠0 then _ else (0:Int))=0
  rw[of0];rfl
 rw[Zcv,if_neg (by rw[chk0];simp),if_neg (by rw[h1];simp),hs]
 show (([(nHt,(ofV src0 (nHt,[era0,era1])).1)],srtL src0.2.2),(0:Int))=_
 rw[of0];rfl
theorem chkR1:Zbp rel1=0:=by
 have:=ZgN (s:=src0) (by rw[make0])
 rwa [make0] at this
theorem diff0:ZmC rel0 rel1=(upd1,0):=by
 rw[ZmC,if_neg (by decide),if_neg (by rw[chkR1];simp)];rfl
theorem ZkW:ZnL rel1:=⟨fun n hn=>by
 simp only[rel1,List.mem_cons,List.not_mem_nil,or_false] at hn
 subst hn
 exact⟨by decide,ZkV chkT0⟩,fun l hl=>by
 simp only[rel1,List.mem_cons,List.not_mem_nil,or_false] at hl
 subst hl
 exact⟨by decide,by decide⟩⟩
theorem rchk1 {h:AH}:Ac 17 [.agg (relC rel1)] h (iv 0):=by
 have:=Ztn (t:=rel1.1) (k:=rel1.2) (f1:=false) (f2:=false) (h:=h) ZkW
 rw[show Zbp (rel1.1,rel1.2)=0 from chkR1] at this
 exact this
def orcI:CE:=fun f ats h=>bif Nat.beq f 210 then (match ats with
 | [x,y,.own id v 1]=>bif AV.eqbL [x,y] [.sl 0 0 true [],iv 0]&&Zhs h[id]? (some (.mk v 40 5 (namC (nHt,tab0)))) then some (.ret (.sl 1 5 false (rows namC [(nHt,tab0)])),h) else none
 | _=>none) else none
theorem orcI_ok:Zcr Tryz.prog orcI:=fun f ats h x h1 he=>by
 unfold orcI at he
 cases hf:Nat.beq f 210 with
 | false=>rw[hf] at he;cases he
 | true =>
  rw[hf] at he
  simp only[cond_true] at he
  split at he <;> try (cases he;done)
  rename_i a b id v
  cases hb:AV.eqbL [a,b] [.sl 0 0 true [],iv 0]&&Zhs h[id]? (some (.mk v 40 5 (namC (nHt,tab0)))) with
  | false=>rw[hb] at he;cases he
  | true =>
   rw[hb] at he
   cases he
   rw[Bool.and_eq_true] at hb
   have e1:=AV.eqbL_eq hb.1
   have e2:=Ziy hb.2
   have e3:=Nat.eq_of_beq_eq_true hf
   simp only[List.cons.injEq,and_true] at e1
   obtain⟨rfl,rfl⟩:=e1
   subst e3
   exact ACalls.wk (wkw Wk.nil (wk1 rfl (wk1 rfl wk0))) (Zuc e2)
def orc1:CE:=orcs (orc 17 [.agg (relC rel1)] (iv 0)) orcI
theorem app_ev:evF Tryz.prog orc1 1000 20 18 [.agg [.sl 0 0 true [],.sl 0 0 true []],.agg (updC upd1)] []=some (.ret (.tup [.agg (relC rel1),iv 0]),[]):=by kernel_rfl
theorem app1 {h:AH}:Ac 18 [.agg [.sl 0 0 true [],.sl 0 0 true []],.agg (updC upd1)] h (.tup [.agg (relC rel1),iv 0]) :=
 ACalls.ev 1000 20 (orcs_ok (orc_ok fun h=>rchk1) orcI_ok) app_ev (hl:=by kernel_rfl) (hc:=by kernel_rfl)
end
section
open Go.Ab Go.RowKit Civ
attribute [local simp] Zbu Zfu ZbM Zdu
section
theorem Zm2 {a0 a1 a2 a3:AV}{l:List AV}:(a0::a1::a2::a3::l).take 4=[a0,a1,a2,a3]:=rfl
theorem Zm3 {a0 a1:AV}{l:List AV}:(a0::a1::l).take 2=[a0,a1]:=rfl
theorem Zr0 {a0 b0:ByteArray}{a1 b1:ByteArray}:Za3 [.str,.str] [sv a0,sv a1] [sv b0,sv b1]=some (decide (a0=b0∧a1=b1)):=by
 simp only[Za3,ZcF,if_true,ZbO,Option.some.injEq]
 simp only[Bool.decide_and,Bool.and_true]
 try (congr 1 <;> simp)
 try rfl
end
def c58:AC:=(Sr [Mc 4 0] (.seq (Sr [Mc 5 0] (.block 0 (.loop (.seq (Sr [Mv 6 5,Mv 7 0,Oo 8 (.len true (t 7)),Bn 9 .lss 6 8,Mv 10 9,Ot 11 10 (mt 5),Ot 12 10 (mt 1),Ot 13 10 (.len true (t 12)),Ot 14 10 (.bin .lss (t 11) (t 13)),Oo 15 (.pick (t 10) (t 14) (.const (.bool false)))] (Cd 15 .skip (.exit 0))) (.seq (.block 1 (.seq (Sd [Mv 18 0,Mv 19 5,Oo 20 (.ix (t 18) (t 19)),Mv 21 1,Mv 22 5,Oo 23 (.ix (t 21) (t 22)),Bn 24 .lss 20 23] (Cd 24 (Sr [Oo 4 (.mv (.const (.int .i64 (-1))))] .ret) .skip)) (Sd [Mv 25 0,Mv 26 5,Oo 27 (.ix (t 25) (t 26)),Mv 28 1,Mv 29 5,Oo 30 (.ix (t 28) (t 29)),Bn 31 .gtr 27 30] (Cd 31 (Sr [Mc 4 1] .ret) .skip)))) (.reg [Mv 16 5,Bc 17 .add 16 1,Mv 5 17])))))) (.seq (Sr [Mv 32 0,Oo 33 (.len true (t 32)),Mv 34 1,Oo 35 (.len true (t 34)),Bn 36 .lss 33 35] (Cd 36 (Sr [Oo 4 (.mv (.const (.int .i64 (-1))))] .ret) .skip)) (.seq (Sr [Mv 37 0,Oo 38 (.len true (t 37)),Mv 39 1,Oo 40 (.len true (t 39)),Bn 41 .gtr 38 40] (Cd 41 (Sr [Mc 4 1] .ret) .skip)) (Sr [Mc 4 0] .ret)))))
theorem k58:ZaA Tryz.prog 58=some ⟨c58,[(.tmp 4)],42⟩:=by kernel_rfl
def c67:AC:=(Sr [Mb 4 false] (.seq (Sr [Mv 6 0,Oo 7 (.len false (t 6)),Mv 8 1,Oo 9 (.len false (t 8)),Bn 10 .neq 7 9] (Cd 10 (Sr [Mb 4 false] .ret) .skip)) (.seq (Sr [Mc 5 0] (.block 0 (.loop (.seq (Sr [Mv 11 5,Mv 12 0,Oo 13 (.len false (t 12)),Bn 14 .lss 11 13] (Cd 14 .skip (.exit 0))) (.seq (.block 1 (Sd [Mv 17 0,Mv 18 5,Oo 19 (.ia 5 (t 17) (t 18)),Fa 20 0 19,Ld 21 20,Mv 22 1,Mv 23 5,Oo 24 (.ia 5 (t 22) (t 23)),Fa 25 0 24,Ld 26 25,Bn 27 .neq 21 26,Mv 28 27,Of 29 28 (mt 0),Of 30 28 (mt 5),Of 31 28 (.ia 5 (t 29) (t 30)),Of 32 28 (.fa 1 (t 31)),Of 33 28 (.load true 4 (t 32)),Of 34 28 (mt 1),Of 35 28 (mt 5),Of 36 28 (.ia 5 (t 34) (t 35)),Of 37 28 (.fa 1 (t 36)),Of 38 28 (.load true 4 (t 37)),Of 39 28 (.call (.func 13) [(t 33),(t 38)]),Of 40 28 (.un .not (t 39)),Oo 41 (.pick (t 28) (.const (.bool true)) (t 40))] (Cd 41 (Sr [Mb 4 false] .ret) .skip))) (.reg [Mv 15 5,Bc 16 .add 15 1,Mv 5 16])))))) (Sr [Mb 4 true] .ret))))
theorem k67:ZaA Tryz.prog 67=some ⟨c67,[(.tmp 4)],42⟩:=by kernel_rfl
def c25:AC:=(Sr [Oo 2 (.box 25 2 (t 0)),Oo 3 (.box 25 2 (t 1)),Mb 4 false] (.seq (Sr [Fa 6 0 2,Ld 7 6,Fa 8 0 3,Ld 9 8,Cl 10 67 [(t 7),(t 9)],Oo 11 (.un .not (t 10)),Mv 12 11,Of 13 12 (.fa 1 (t 2)),Of 14 12 (.load false 1 (t 13)),Of 15 12 (.len false (t 14)),Of 16 12 (.fa 1 (t 3)),Of 17 12 (.load false 1 (t 16)),Of 18 12 (.len false (t 17)),Of 19 12 (.bin .neq (t 15) (t 18)),Oo 20 (.pick (t 12) (.const (.bool true)) (t 19))] (Cd 20 (Sr [Mb 4 false] .ret) .skip)) (.seq (Sr [Mc 5 0] (.block 0 (.loop (.seq (Sr [Mv 21 5,Fa 22 1 2,Ld 23 22,Oo 24 (.len false (t 23)),Bn 25 .lss 21 24] (Cd 25 .skip (.exit 0))) (.seq (.block 1 (Sd [Fa 28 1 2,Ld 29 28,Mv 30 5,Oo 31 (.ia 2 (t 29) (t 30)),Oo 32 (.load true 2 (t 31)),Fa 33 1 3,Ld 34 33,Mv 35 5,Oo 36 (.ia 2 (t 34) (t 35)),Oo 37 (.load true 2 (t 36)),Oo 38 (.eqs true [.str,.str] (t 32) (t 37))] (Cd 38 (Sr [Mb 4 false] .ret) .skip))) (.reg [Mv 26 5,Bc 27 .add 26 1,Mv 5 27])))))) (Sr [Mb 4 true] .ret))))
theorem k25:ZaA Tryz.prog 25=some ⟨c25,[(.tmp 4)],39⟩:=by kernel_rfl
def cmpD:List UInt8→List UInt8→Int
 | [],[]=>0
 | [],_::_ => -1
 | _::_,[]=>1
 | x::xs,y::ys=>if x<y then -1 else if y<x then 1 else cmpD xs ys
theorem ZuS : ∀ (x y:List UInt8),cmpD x y=if x<y then -1 else if y<x then 1 else 0
 | [],[]=>by simp[cmpD]
 | [],y::ys=>by simp[cmpD]
 | x::xs,[]=>by simp[cmpD]
 | x::xs,y::ys=>by
  rw[cmpD,ZuS xs ys]
  simp only[List.cons_lt_cons_iff]
  by_cases h1:x<y
  ·rw[if_pos h1,if_pos (.inl h1)]
  rw[if_neg h1]
  by_cases h2:y<x
  ·rw[if_pos h2,if_neg,if_pos (.inl h2)]
   rintro (h | ⟨rfl,h⟩)
   ·exact h1 h
   exact h1 h2
  rw[if_neg h2]
  have e:x=y:=by
   rw[UInt8.lt_iff_toNat_lt] at h1 h2
   exact UInt8.toNat_inj.1 om
  subst e
  simp only[h1,false_or,true_and]
def cmpB (a b:ByteArray) (i:Nat):Int:=cmpD (a.data.toList.drop i) (b.data.toList.drop i)
theorem ZuT (a b:ByteArray):cmpS a b=cmpB a b 0:=by
 unfold cmpB cmpS
 rw[List.drop_zero,List.drop_zero,ZuS]
 simp only[ZgO]
theorem Zu5 {s:ByteArray}{i:Nat}(h:i<s.size):s.data.toList[i]'(by simpa using h)=Zbg s i:=by
 unfold Zbg;rw[List.getD_eq_getElem?_getD,List.getElem?_eq_getElem (by simpa using h)];rfl
theorem ZiD {a b:ByteArray}{i:Nat}(h1:i<a.size) (h2:i<b.size):cmpB a b i=if ((Zbg a i).toNat:Int)<((Zbg b i).toNat:Int) then -1 else if ((Zbg b i).toNat:Int)<((Zbg a i).toNat:Int) then 1 else cmpB a b (i+1):=by
 unfold cmpB
 rw[List.drop_eq_getElem_cons (show i<a.data.toList.length by simpa using h1),List.drop_eq_getElem_cons (show i<b.data.toList.length by simpa using h2),cmpD,Zu5 h1,Zu5 h2]
 simp only[UInt8.lt_iff_toNat_lt,Int.ofNat_lt]
theorem cmpB_l {a b:ByteArray}{i:Nat}(h1:a.size≤i) (h2:i<b.size):cmpB a b i = -1:=by
 unfold cmpB
 rw[List.drop_of_length_le (show a.data.toList.length≤i by simpa using h1),List.drop_eq_getElem_cons (show i<b.data.toList.length by simpa using h2)];rfl
theorem cmpB_r {a b:ByteArray}{i:Nat}(h1:i<a.size) (h2:b.size≤i):cmpB a b i=1:=by
 unfold cmpB
 rw[List.drop_of_length_le (show b.data.toList.length≤i by simpa using h2),List.drop_eq_getElem_cons (show i<a.data.toList.length by simpa using h1)];rfl
theorem cmpB_e {a b:ByteArray}{i:Nat}(h1:a.size≤i) (h2:b.size≤i):cmpB a b i=0:=by
 unfold cmpB
 rw[List.drop_of_length_le (show a.data.toList.length≤i by simpa using h1),List.drop_of_length_le (show b.data.toList.length≤i by simpa using h2)];rfl
theorem ZhZ {a b:ByteArray}{h:AH}(hs:a.size≤maxLen):Ac 58 [sv a,sv b] h (iv (cmpS a b)):=by
 have hs':a.size≤9223372036854775807:=by simpa [maxLen] using hs
 refine tI' k58 fun N hn _ _ hbd=>?_
 simp only[tb'] at hbd ⊢
 refine wk'<|Zac<|wk'<|Zag<|?_
 refine w_lp (ι:=Nat) (fun (i:Nat)=>[(5,iv (i:Int)),(4,.any)]++rn' 6 26) (fun (i:Nat)=>[]) (fun (i:Nat)=>i≤a.size∧i≤b.size∧cmpS a b=cmpB a b i) (fun (i:Nat)=>a.size-i) (0) (by exact⟨Nat.zero_le _,Nat.zero_le _,ZuT a b⟩) ?_
 rintro i hi1
 try simp only[sm',Nat.reduceAdd]
 obtain⟨hk1,hk2,hk3⟩:=hi1
 refine Zac<|wm<|mw<|Vw (ZbY lk)<|Vw (ZaL lk lk)<|mw<|?_
 refine sp' (t:=10) gt pt pt (fun hg10=>?_) (fun hg10=>?_)
 ·refine sd<|mw<|sd<|mw<|sd<|Vw (ZbY lk)<|sd<|Vw (ZaL lk lk)<|Vw (Zaj lk lk)<|sn'<|?_
  refine cd' lk (fun hc1=>?_) (fun hc1=>?_)
  ·refine za<|Zac<|Zag<|Zac<|Zac<|ZaJ<|Dw vm<|Dw vm<|?_
   refine D' (v_ix lk lk om om) pt ?_
   refine Dw vm<|Dw vm<|?_
   refine D' (v_ix lk lk om om) pt ?_
   refine Dw (ZaL lk lk)<|ZaM<|?_
   refine Za5 ?_
   refine sn' ?_
   refine cd' lk (fun hc2=>?_) (fun hc2=>?_)
   ·replace hc2:((Zbg a i).toNat:Int)<((Zbg b i).toNat:Int):=hc2
    rw[ZiD om om,if_pos hc2] at hk3
    refine wo<|Zae<|Zao<|Zae<|Zae<|Zao<|Zae<|Zad rz<|rT'<|?_
    exact ivx hk3.symm
   replace hc2:¬((Zbg a i).toNat:Int)<((Zbg b i).toNat:Int):=hc2
   refine za<|Zac<|ZaJ<|Dw vm<|Dw vm<|?_
   refine D' (v_ix lk lk om om) pt ?_
   refine Dw vm<|Dw vm<|?_
   refine D' (v_ix lk lk om om) pt ?_
   refine Dw (Zbw lk lk)<|ZaM<|?_
   refine Za5 ?_
   refine sn' ?_
   refine cd' lk (fun hc3=>?_) (fun hc3=>?_)
   ·replace hc3:((Zbg b i).toNat:Int)<((Zbg a i).toNat:Int):=hc3
    rw[ZiD om om,if_neg hc2,if_pos hc3] at hk3
    refine wo<|Zao<|Zae<|Zae<|Zao<|Zae<|Zad rz<|rT'<|?_
    exact ivx hk3.symm
   replace hc3:¬((Zbg b i).toNat:Int)<((Zbg a i).toNat:Int):=hc3
   rw[ZiD om om,if_neg hc2,if_neg hc3] at hk3
   refine ZaB<|Zav<|Zam<|Zaq<|mw<|?_
   refine ad<|mw<|Zal<|Zaz<|?_
   refine lT' (i+1) (by (try dsimp only);exact⟨by omega,by omega,hk3⟩)
  refine Zay<|Zas<|Zas<|ZaI<|Zam<|Zac<|wm<|Vw (ZbY lk)<|mw<|Vw (ZbY lk)<|Vw (ZaL lk lk)<|Zal<|?_
  refine Zam ?_
  refine cd' lk (fun hc4=>?_) (fun hc4=>?_)
  ·rw[cmpB_l om om] at hk3
   refine wo<|Zae<|Zad rz<|rT'<|?_
   exact ivx hk3.symm
  refine za<|Zac<|wm<|Vw (ZbY lk)<|mw<|Vw (ZbY lk)<|Vw (Zbw lk lk)<|sn'<|?_
  refine cd' lk (fun hc5=>?_) (fun hc5=>?_)
  ·rw[cmpB_r om om] at hk3
   refine wo<|Zae<|Zad rz<|rT'<|?_
   exact ivx hk3.symm
  rw[cmpB_e om om] at hk3
  refine za<|wo<|Zad rz<|rT'<|?_
  exact ivx hk3.symm
 refine so<|so<|so<|so<|Vw (Zai lk lkb)<|sn'<|ZaV lk<|Zay<|Zas<|Zas<|ZaI<|Zam<|Zac<|?_
 refine wm<|Vw (ZbY lk)<|mw<|Vw (ZbY lk)<|Vw (ZaL lk lk)<|sn'<|?_
 refine cd' lk (fun hc4=>?_) (fun hc4=>?_)
 ·rw[cmpB_l om om] at hk3
  refine wo<|Zae<|Zad rz<|rT'<|?_
  exact ivx hk3.symm
 refine za<|Zac<|wm<|Vw (ZbY lk)<|mw<|Vw (ZbY lk)<|Vw (Zbw lk lk)<|sn'<|?_
 refine cd' lk (fun hc5=>?_) (fun hc5=>?_)
 ·rw[cmpB_r om om] at hk3
  refine wo<|Zae<|Zad rz<|rT'<|?_
  exact ivx hk3.symm
 rw[cmpB_e om om] at hk3
 refine za<|wo<|Zad rz<|rT'<|?_
 exact ivx hk3.symm
section
set_option synthInstance.maxSize 4000
instance decNam:DecidableEq Nam:=inferInstanceAs (DecidableEq (ByteArray×Tab))
instance decNams:DecidableEq (List Nam):=inferInstance
instance decRel:DecidableEq Rel:=inferInstanceAs (DecidableEq (List Nam×List Lnk))
end
theorem Zjz {α:Type}{l m:List α}{k:Nat}(h1:k<l.length) (h2:k<m.length) (h:l.take k=m.take k) (he:l[k]=m[k]):l.take (k+1)=m.take (k+1):=by
 rw[List.take_succ_eq_append_getElem h1,List.take_succ_eq_append_getElem h2,h,he]
theorem ZlW {t u:List Nam}{f1 f2:Bool}{h:AH}:Ac 67 [.sl t.length 5 f1 (rows namC t),.sl u.length 5 f2 (rows namC u)] h (bv (decide (t=u))):=by
 refine tI' k67 fun N hn _ _ hbd=>?_
 simp only[tb'] at hbd ⊢
 refine wk'<|Zac<|wm<|Vw (ZaC lk)<|mw<|Vw (ZaC lk)<|Vw (Za0 lk lk)<|Zal<|?_
 refine Zam ?_
 refine cd' lk (fun hc1=>?_) (fun hc1=>?_)
 ·have hne:¬t=u:=fun e=>by subst e;exact hc1 rfl
  refine wo<|Zae<|Zad rz<|rT'<|?_
  exact bvx (decide_eq_false hne).symm
 refine za<|Zac<|wk'<|Zag<|?_
 refine w_lp (ι:=Nat) (fun (i:Nat)=>[(5,iv (i:Int)),(4,.any)]++rn' 11 31) (fun (i:Nat)=>[]) (fun (i:Nat)=>i≤t.length∧t.length=u.length∧t.take i=u.take i) (fun (i:Nat)=>t.length-i) (0) (by exact⟨by omega,by omega,by simp⟩) ?_
 rintro i hi1
 try simp only[sm',Nat.reduceAdd]
 obtain⟨hk1,hk2,hk3⟩:=hi1
 refine Zac<|wm<|mw<|Vw (ZaC lk)<|Vw (ZaL lk lk)<|sn'<|?_
 refine cd' lk (fun hc2=>?_) (fun hc2=>?_)
 ·have hi:i<t.length:=by omega
  have hi':i<u.length:=by omega
  refine za<|Zac<|Zag<|Zac<|ZaJ<|Dw vm<|Dw vm<|?_
  refine D' (ZaF lk lk Za8 nb ro om ro rfl) pt ?_
  refine Dw (ZaQ lk dp0)<|Dw (Zar lk gt)<|Dw vm<|Dw vm<|?_
  refine D' (ZaF lk lk Za8 nb ro om ro rfl) pt ?_
  refine Dw (ZaQ lk dp0)<|Dw (Zar lk gt)<|?_
  refine D' ((by first | exact Za0 lk lk | exact Zc5 lk lk)) pt ?_
  refine D' vm pt ?_
  refine dq' (t:=28) gt pt pt (fun hg28=>?_) (fun hg28=>?_)
  ·have hne:¬t=u:=fun e=>by subst e;exact hg28 rfl
   refine dn<|dn<|dn<|dn<|dn<|dn<|dn<|dn<|dn<|dn<|dn<|dn<|Dw (Zaj lk lkb)<|ZaM<|?_
   refine Za5 ?_
   refine sn'<|ZaP lk<|wo<|Zao<|Zae<|Zae<|Zao<|Zae<|?_
   refine Zad rz<|rT'<|?_
   exact bvx (decide_eq_false hne).symm
  refine dO<|Dw vm<|dO<|Dw vm<|dO<|?_
  refine D' (ZaF lk lk Za8 nb ro om ro rfl) pt ?_
  refine dO<|Dw (ZaQ lk dp1)<|dO<|Dw (Zau lk Zm2 rfl)<|dO<|Dw vm<|dO<|Dw vm<|dO<|?_
  refine D' (ZaF lk lk Za8 nb ro om ro rfl) pt ?_
  refine dO<|Dw (ZaQ lk dp1)<|dO<|Dw (Zau lk Zm2 rfl)<|dO<|?_
  refine ZaD mp (fun hE hX=>ZnC (t:=t[i].2) (u:=u[i].2)) pt ?_
  refine dO<|Dw (Zax lk)<|Dw (Zai lk lk)<|ZaM<|?_
  refine Za5 ?_
  refine sn' ?_
  refine Zat lk (fun hc3=>?_) (fun hc3=>?_)
  ·have hne:¬t=u:=fun e=>by subst e;simp at hc3
   refine wo<|Zao<|Zae<|Zae<|Zao<|Zae<|Zad rz<|rT'<|?_
   exact bvx (decide_eq_false hne).symm
  have hst:=Zjz hi hi' hk3 (Prod.ext (Decidable.of_not_not hg28) (by simpa using hc3))
  refine ZaB<|Zav<|Zam<|Zaq<|mw<|?_
  refine ad<|mw<|Zal<|Zaz<|?_
  refine lT' (i+1) (by (try dsimp only);exact⟨by omega,hk2,hst⟩)
 rw[List.take_of_length_le (show t.length≤i by omega),List.take_of_length_le (show u.length≤i by omega)] at hk3
 refine Zay<|Zas<|Zas<|ZaI<|Zam<|wo<|Zad rz<|rT'<|?_
 exact bvx (decide_eq_true hk3).symm
theorem lnk_ext {a b:Lnk}(h:a.1=b.1∧a.2=b.2):a=b:=Prod.ext h.1 h.2
theorem ZqC {t u:List Nam}{k m:List Lnk}{f1 f2 f3 f4:Bool}{h:AH}:Ac 25 [.agg [.sl t.length 5 f1 (rows namC t),.sl k.length 2 f2 (rows lnkC k)],.agg [.sl u.length 5 f3 (rows namC u),.sl m.length 2 f4 (rows lnkC m)]] h (bv (decide ((t,k)=(u,m)))):=by
 refine tI' k25 fun N hn _ _ hbd=>?_
 simp only[tb'] at hbd ⊢
 refine wr'<|E' (ZaR cv rfl hl0 ha0) pt<|E' (ZaR cv rfl hl1 ha1) pt<|ms<|Zac<|wr'<|fq<|Vw (Zaa lk gx gt0)<|fq<|Vw (Zaa lk gx gt0)<|?_
 refine Zab mp (ZlW) pt<|Vw (Zax lk)<|mw<|?_
 refine ZaN (t:=12) gt pt pt (fun hg12=>?_) (fun hg12=>?_)
 ·have hne:¬(t,k)=(u,m):=fun e=>by cases e;simp at hg12
  refine so<|so<|so<|so<|so<|so<|so<|Vw (Zaj lk lkb)<|sn'<|ZaP lk<|wm<|?_
  refine sr<|Zae<|Zad rz<|rT'<|?_
  exact bvx (decide_eq_false hne).symm
 have htu:t=u:=by simpa using hg12
 refine sd<|fq<|sd<|Vw (Zaa lk gx gt1)<|sd<|Vw (ZaC lk)<|sd<|fq<|sd<|Vw (Zaa lk gx gt1)<|sd<|Vw (ZaC lk)<|sd<|Vw (Za0 lk lk)<|?_
 refine Vw (Zai lk lk)<|sn'<|?_
 refine cd' lk (fun hc1=>?_) (fun hc1=>?_)
 ·have hne:¬(t,k)=(u,m):=fun e=>by cases e;exact hc1 rfl
  refine wo<|Zae<|Zad rz<|rT'<|?_
  exact bvx (decide_eq_false hne).symm
 refine za<|Zac<|wk'<|Zag<|?_
 refine w_lp (ι:=Nat) (fun (i:Nat)=>[(5,iv (i:Int)),(4,.any)]++rn' 21 18) (fun (i:Nat)=>[]) (fun (i:Nat)=>i≤k.length∧k.length=m.length∧k.take i=m.take i) (fun (i:Nat)=>k.length-i) (0) (by exact⟨by omega,by omega,by simp⟩) ?_
 rintro i hi1
 try simp only[sm',Nat.reduceAdd]
 obtain⟨hk1,hk2,hk3⟩:=hi1
 refine Zac<|wm<|fq<|Vw (Zaa lk gx gt1)<|Vw (ZaC lk)<|Vw (ZaL lk lk)<|sn'<|?_
 refine cd' lk (fun hc2=>?_) (fun hc2=>?_)
 ·have hi:i<k.length:=by omega
  have hi':i<m.length:=by omega
  refine za<|Zac<|Zag<|Zac<|ZaJ<|dg<|Dw (Zaa lk gx gt1)<|Dw vm<|?_
  refine D' (ZaF lk lk Za9 nb ro om ro rfl) pt ?_
  refine Dw (Zau lk Zm3 rfl)<|dg<|Dw (Zaa lk gx gt1)<|Dw vm<|?_
  refine D' (ZaF lk lk Za9 nb ro om ro rfl) pt ?_
  refine Dw (Zau lk Zm3 rfl)<|Dw (ZfR lk lk Zr0)<|ZaM<|?_
  refine Za5 ?_
  refine sn' ?_
  refine cd' lk (fun hc3=>?_) (fun hc3=>?_)
  ·have hne:¬(t,k)=(u,m):=fun e=>by cases e;exact hc3 ⟨rfl,rfl⟩
   refine wo<|Zao<|Zae<|Zae<|Zao<|Zae<|Zad rz<|rT'<|?_
   exact bvx (decide_eq_false hne).symm
  have hst:=Zjz hi hi' hk3 (lnk_ext (Decidable.of_not_not hc3))
  refine ZaB<|Zav<|Zam<|Zaq<|mw<|?_
  refine ad<|mw<|Zal<|Zaz<|?_
  refine lT' (i+1) (by (try dsimp only);exact⟨by omega,hk2,hst⟩)
 rw[List.take_of_length_le (show k.length≤i by omega),List.take_of_length_le (show m.length≤i by omega)] at hk3
 refine Zay<|Zas<|Zas<|ZaI<|Zam<|wo<|Zad rz<|rT'<|?_
 exact bvx (decide_eq_true (by rw[htu,hk3])).symm
end
section
open Go.Ab Go.RowKit Civ
attribute [local simp] Zbu Zfu ZbM ZbR Zcg Zb1
section
theorem Zkp {a0 a1 a2 a3 a4:AV}{l:List AV}:((a0::a1::a2::a3::a4::l).drop 0).take 5=[a0,a1,a2,a3,a4]:=rfl
theorem ZhC {τ:Operand→AV}{y0:Operand}{x0_0 x0_1 x0_2 x0_3 x0_4:AV}(h0:Zap (τ y0)=some [x0_0,x0_1,x0_2,x0_3,x0_4]) (l0:[x0_0,x0_1,x0_2,x0_3,x0_4].all leaf=true):Zan τ [(0,5,y0)] [(.v (.string ⟨#[]⟩)),(iv 0),(iv 0),(.v (.string ⟨#[]⟩)),(.sl 0 0 true [])]=some [x0_0,x0_1,x0_2,x0_3,x0_4]:=by
 simp only[Zan,h0,l0]
 rfl
theorem ZeS {a0 a1 a2 a3 a4:AV}{l:List AV}:(a0::a1::a2::a3::a4::l).take 5=[a0,a1,a2,a3,a4]:=rfl
theorem Zc4 {τ:Operand→AV}{y0:Operand}{x0_0 x0_1 x0_2 x0_3 x0_4:AV}(h0:Zap (τ y0)=some [x0_0,x0_1,x0_2,x0_3,x0_4]) (l0:[x0_0,x0_1,x0_2,x0_3,x0_4].all leaf=true):Zan τ [(0,5,y0)] [(.v (.string ⟨#[]⟩)),(iv 0),(iv 0),(.v (.string ⟨#[]⟩)),(.sl 0 0 true [])]=some [x0_0,x0_1,x0_2,x0_3,x0_4]:=by
 simp only[Zan,h0,l0]
 rfl
theorem ZhB {τ:Operand→AV}{y0:Operand}{x0_0 x0_1 x0_2 x0_3 x0_4:AV}(h0:Zap (τ y0)=some [x0_0,x0_1,x0_2,x0_3,x0_4]) (l0:[x0_0,x0_1,x0_2,x0_3,x0_4].all leaf=true):Zan τ [(0,5,y0)] [(.v (.string ⟨#[]⟩)),(iv 0),(iv 0),(.v (.string ⟨#[]⟩)),(.sl 0 0 true [])]=some [x0_0,x0_1,x0_2,x0_3,x0_4]:=by
 simp only[Zan,h0,l0]
 rfl
theorem Zg7 {a0 a1 a2:AV}{l:List AV}:((a0::a1::a2::l).drop 0).take 3=[a0,a1,a2]:=rfl
theorem Zls {τ:Operand→AV}:Zan τ [] [(.sl 0 0 true []),(.sl 0 0 true [])]=some [(.sl 0 0 true []),(.sl 0 0 true [])]:=rfl
theorem Zg8 {a0 a1 c0 c1:AV}{l:List AV}:setCells (a0::a1::l) 0 [c0,c1]=c0::c1::l:=rfl
theorem Zfk {a0 a1:AV}{l:List AV}:((a0::a1::l).drop 0).take 2=[a0,a1]:=rfl
theorem Zjo {τ:Operand→AV}{y0:Operand}{x0_0:AV}(h0:Zap (τ y0)=some [x0_0]) (l0:[x0_0].all leaf=true):Zan τ [(0,1,y0)] [(.v (.string ⟨#[]⟩)),(iv 0),(iv 0),(.v (.string ⟨#[]⟩)),(.sl 0 0 true [])]=some [x0_0,(iv 0),(iv 0),(.v (.string ⟨#[]⟩)),(.sl 0 0 true [])]:=by
 simp only[Zan,h0,l0]
 rfl
theorem Zr4 {a0 c0:AV}{l:List AV}:setCells (a0::l) 0 [c0]=c0::l:=rfl
theorem Zi3 {a0 a1:AV}{l:List AV}:(a0::a1::l).take 2=[a0,a1]:=rfl
theorem Zm4 { e:Ent}:([]:AH)++[e]=[e]:=rfl
theorem Zkq {e0 e1 e2 e3 e4 d0:Ent}:([e0,e1,e2,e3,e4]:AH)++[d0]=[e0,e1,e2,e3,e4,d0]:=rfl
theorem Zr3 {a0 a1 a2 a3 c0 c1 c2 c3:AV}{l:List AV}:setCells (a0::a1::a2::a3::l) 0 [c0,c1,c2,c3]=c0::c1::c2::c3::l:=rfl
theorem Zjn {τ:Operand→AV}:Zan τ [] [(.sl 0 0 true []),(.sl 0 0 true [])]=some [(.sl 0 0 true []),(.sl 0 0 true [])]:=rfl
theorem Zr1 {a0 a1 a2 a3:AV}{l:List AV}:((a0::a1::a2::a3::l).drop 0).take 4=[a0,a1,a2,a3]:=rfl
theorem Zjm {τ:Operand→AV}{y0:Operand}{x0_0 x0_1:AV}(h0:Zap (τ y0)=some [x0_0,x0_1]) (l0:[x0_0,x0_1].all leaf=true):Zan τ [(0,2,y0)] [(.v (.string ⟨#[]⟩)),(.v (.string ⟨#[]⟩))]=some [x0_0,x0_1]:=by
 simp only[Zan,h0,l0]
 rfl
theorem Zr2 {a0 a1 c0:AV}{l:List AV}:setCells (a0::a1::l) 1 [c0]=a0::c0::l:=rfl
end
def c55:AC:=(Sr [Oo 3 (.box 40 5 (t 1)),Oo 4 (.mv (.const (.slice none 0 0)))] (Sr [Oo 5 (.mv (.const (.slice none 0 0)))] (Sr [Mb 6 false] (.seq (Sr [Mc 7 0] (.block 0 (.loop (.seq (Sr [Mv 8 7,Mv 9 0,Oo 10 (.len false (t 9)),Bn 11 .lss 8 10] (Cd 11 .skip (.exit 0))) (.seq (.block 1 (.seq (Sd [Mv 14 6,Oo 15 (.un .not (t 14)),Mv 16 15,Ot 17 16 (mt 0),Ot 18 16 (mt 7),Ot 19 16 (.ia 5 (t 17) (t 18)),Ot 20 16 (.fa 0 (t 19)),Ot 21 16 (.load false 1 (t 20)),Ot 22 16 (.fa 0 (t 3)),Ot 23 16 (.load false 1 (t 22)),Ot 24 16 (.call (.func 58) [(t 21),(t 23)]),Ot 25 16 (.bin .gtr (t 24) (Ci 0)),Oo 26 (.pick (t 16) (t 25) (.const (.bool false)))] (Cd 26 (Sr [Mv 27 5,Oo 28 (.load true 5 (t 3)),Oo 29 (.lit 40 5 1 [Ss,(iv 0),(iv 0),Ss,nl] [(0,(5,(t 28)))]),Oo 30 (.app 40 5 72 (t 27) (t 29)),Mv 5 30] (.reg [Mb 6 true])) .skip)) (.reg [Mv 31 5,Mv 32 0,Mv 33 7,Oo 34 (.ia 5 (t 32) (t 33)),Oo 35 (.load true 5 (t 34)),Oo 36 (.lit 40 5 1 [Ss,(iv 0),(iv 0),Ss,nl] [(0,(5,(t 35)))]),Oo 37 (.app 40 5 72 (t 31) (t 36)),Mv 5 37]))) (.reg [Mv 12 7,Bc 13 .add 12 1,Mv 7 13])))))) (.seq (Sr [Mv 38 6,Oo 39 (.un .not (t 38))] (Cd 39 (.reg [Mv 40 5,Oo 41 (.load true 5 (t 3)),Oo 42 (.lit 40 5 1 [Ss,(iv 0),(iv 0),Ss,nl] [(0,(5,(t 41)))]),Oo 43 (.app 40 5 72 (t 40) (t 42)),Mv 5 43]) .skip)) (Sr [Mv 44 5,Mv 4 44] .ret))))))
theorem k55:ZaA Tryz.prog 55=some ⟨c55,[(.tmp 4)],45⟩:=by kernel_rfl
def c15:AC:=(Sr [Oo 1 (.box 53 3 (t 0)),Oo 2 (.new 25 2 [nl,nl]),Mc 3 0] (Sr [Oo 12 (.load true 3 (t 1)),Cl 13 54 [(t 12)],Mv 4 13] (.seq (Sr [Mv 14 4,Bc 15 .neq 14 0] (Cd 15 (Sr [Oo 16 (.build [nl,nl] []),Mv 17 4,⟨none,none,(.store 2 (t 2) (t 16))⟩,Mv 3 17] .ret) .skip)) (Sr [Oo 5 (.new 25 2 [nl,nl])] (.seq (Sr [Mc 6 0] (.block 0 (.loop (.seq (Sr [Mv 18 6,Fa 19 1 1,Ld 20 19,Oo 21 (.len false (t 20)),Bn 22 .lss 18 21] (Cd 22 .skip (.exit 0))) (.seq (.block 1 (.drwU [[],[],[0,1],[0,1],[0,1,2,3],[0,1],[0,1],[0,1],[0,1],[],[],[]] [Fa 25 0 5,Ld 26 25,Fa 27 1 1,Ld 28 27,Mv 29 6,Oo 30 (.ia 2 (t 28) (t 29)),Fa 31 0 30,Ld 32 31,Oo 33 (.build [Ss,(iv 0),(iv 0),Ss,nl] [(0,(1,(t 32)))]),Cl 34 55 [(t 26),(t 33)],Fa 35 0 5,Sc 35 34])) (.reg [Mv 23 6,Bc 24 .add 23 1,Mv 6 24])))))) (.seq (Sr [Mc 7 0] (.block 2 (.loop (.seq (Sr [Mv 36 7,Fa 37 0 5,Ld 38 37,Oo 39 (.len false (t 38)),Bn 40 .lss 36 39] (Cd 40 .skip (.exit 2))) (.seq (.block 3 (.seq (.drw [Oo 44 (.load true 3 (t 1)),Fa 45 1 1,Ld 46 45,Oo 47 (.load true 3 (t 1)),Fa 48 0 5,Ld 49 48,Mv 50 7,Oo 51 (.ia 5 (t 49) (t 50)),Fa 52 0 51,Ld 53 52,Cl 54 57 [(t 47),(t 53)],Oo 55 (.ia 2 (t 46) (t 54)),Oo 56 (.load true 2 (t 55)),Cl 57 56 [(t 44),(t 56)],Mv 43 57,Ex 58 43 0,Ex 59 43 1,Oo 8 (.new 38 4 [(iv 0),(iv 0),Ss,nl])] [false,false] [⟨none,none,(.store 4 (t 8) (t 58))⟩,Mv 9 59]) (.seq (Sr [Mv 60 9,Bc 61 .neq 60 0] (Cd 61 (Sr [Oo 62 (.build [nl,nl] []),Mv 63 9,⟨none,none,(.store 2 (t 2) (t 62))⟩,Mv 3 63] .ret) .skip)) (.reg [Fa 64 0 5,Ld 65 64,Mv 66 7,Oo 67 (.load true 4 (t 8)),Oo 68 (.ia 5 (t 65) (t 66)),Fa 69 1 68,⟨none,none,(.store 4 (t 69) (t 67))⟩])))) (.reg [Mv 41 7,Bc 42 .add 41 1,Mv 7 42])))))) (.seq (Sr [Mc 10 0] (.block 4 (.loop (.seq (Sr [Mv 70 10,Fa 71 2 1,Ld 72 71,Oo 73 (.len false (t 72)),Bn 74 .lss 70 73] (Cd 74 .skip (.exit 4))) (.seq (.block 5 (.seq (.drw [Fa 77 1 5,Ld 78 77,Fa 79 2 1,Ld 80 79,Mv 81 10,Oo 82 (.ia 2 (t 80) (t 81)),Oo 83 (.load true 2 (t 82)),Oo 84 (.lit 97 2 1 [Ss,Ss] [(0,(2,(t 83)))])] [false,false,false] [Oo 85 (.app 97 2 32 (t 78) (t 84)),Fa 86 1 5,Sc 86 85]) (Sr [Mv 87 10,Mv 11 87] (.block 6 (.loop (.seq (Sd [Mv 88 11,Bc 89 .gtr 88 0,Mv 90 89,Ot 91 90 (.fa 1 (t 5)),Ot 92 90 (.load false 1 (t 91)),Ot 93 90 (mt 11),Ot 94 90 (.ia 2 (t 92) (t 93)),Ot 95 90 (.fa 1 (t 94)),Ot 96 90 (.load false 1 (t 95)),Ot 97 90 (.fa 1 (t 5)),Ot 98 90 (.load false 1 (t 97)),Ot 99 90 (mt 11),Ot 100 90 (.bin .sub (t 99) (Ci 1)),Ot 101 90 (.ia 2 (t 98) (t 100)),Ot 102 90 (.fa 1 (t 101)),Ot 103 90 (.load false 1 (t 102)),Ot 104 90 (.call (.func 58) [(t 96),(t 103)]),Ot 105 90 (.bin .lss (t 104) (Ci 0)),Oo 106 (.pick (t 90) (t 105) (.const (.bool false)))] (Cd 106 .skip (.exit 6))) (.seq (.block 7 (.drw [Fa 109 1 5,Ld 110 109,Mv 111 11,Fa 112 1 5,Oo 113 (.loadR false 1 (t 112)),Mv 114 11,Bc 115 .sub 114 1,Fa 116 1 5,Ld 117 116,Mv 118 11,Bc 119 .sub 118 1,Oo 120 (.ia 2 (t 117) (t 119)),Oo 121 (.load true 2 (t 120)),Fa 122 1 5,Ld 123 122,Mv 124 11,Oo 125 (.ia 2 (t 123) (t 124)),Oo 126 (.load true 2 (t 125)),Oo 127 (.ia 2 (t 110) (t 111))] [true,false,false] [⟨none,none,(.store 2 (t 127) (t 121))⟩,Oo 128 (.ia 2 (t 113) (t 115)),⟨none,none,(.store 2 (t 128) (t 126))⟩])) (.reg [Mv 107 11,Bc 108 .sub 107 1,Mv 11 108])))))))) (.reg [Mv 75 10,Bc 76 .add 75 1,Mv 10 76])))))) (Sr [Oo 129 (.load true 2 (t 5)),⟨none,none,(.store 2 (t 2) (t 129))⟩,Mc 3 0] .ret))))))))
theorem k15:ZeN Tryz.prog (some [12]) 15=some ⟨c15,[(.cell 2 true 2),(.tmp 3)],130⟩:=by kernel_rfl
def qR (t:List Nam) (n:Nam):Nat:=t.findIdx fun x=>ltS n.1 x.1
def insQ (t:List Nam) (n:Nam):List Nam:=t.take (qR t n)++n::t.drop (qR t n)
theorem qR_le (t:List Nam) (n:Nam):qR t n≤t.length:=List.findIdx_le_length
theorem qR_ins : ∀ {t:List Nam}{n:Nam},hasN t n.1=false→qR t n=posN t n.1
 | [],n,_=>rfl
 | x::t,n,h=>by
  rw[Zuj,Bool.or_eq_false_iff,decide_eq_false_iff_not] at h
  have ih:=qR_ins h.2
  unfold qR posN at ih ⊢
  rw[List.findIdx_cons,List.findIdx_cons,ih]
  have:ltS n.1 x.1=!ltS x.1 n.1:=by
   rcases Zmk h.1 with e | e
   ·rw[e,ZdG e];rfl
   rw[e,ZdG e];rfl
  rw[this]
theorem insQ_ins {t:List Nam}{n:Nam}(h:hasN t n.1=false):insQ t n=insN t n:=by unfold insQ insN;rw[qR_ins h]
theorem Zk3 (t:List Nam) (n:Nam):(insQ t n).length=t.length+1:=by
 have:=qR_le t n
 unfold insQ
 rw[List.length_append,List.length_take,List.length_cons,List.length_drop];omega
def ZeF (t:List Nam) (n:Nam) (i:Nat):List Nam:=if qR t n<i then t.take (qR t n)++n::(t.drop (qR t n)).take (i-qR t n) else t.take i
theorem Ztv {t:List Nam}{n:Nam}{i:Nat}(hi:i≤t.length):(ZeF t n i).length=if qR t n<i then i+1 else i:=by
 unfold ZeF
 split
 ·rw[List.length_append,List.length_take,List.length_cons,List.length_take,List.length_drop];omega
 rw[List.length_take];omega
theorem qR_yes {t:List Nam}{n:Nam}{i:Nat}(hi:i<t.length) (h:¬qR t n<i) (hc:0<cmpS t[i].1 n.1):qR t n=i :=
 (List.findIdx_eq hi).2 ⟨Zqh.1 hc,fun j hj=>by
  have:=List.not_of_lt_findIdx (xs:=t) (p:=fun x=>ltS n.1 x.1) (i:=j) (by unfold qR at h;omega)
  simpa using this⟩
theorem qR_no {t:List Nam}{n:Nam}{i:Nat}(hi:i<t.length) (h:¬qR t n<i) (hc:¬0<cmpS t[i].1 n.1):¬qR t n<i+1:=fun hlt=>by
 have e:qR t n=i:=by omega
 have hq:t.findIdx (fun x=>ltS n.1 x.1)<t.length:=by unfold qR at e;omega
 have:=List.findIdx_getElem (w:=hq)
 have e2:t.findIdx (fun x=>ltS n.1 x.1)=i:=e
 simp only[e2] at this
 exact hc (Zqh.2 this)
theorem Zts {t:List Nam}{n:Nam}{i:Nat}(h:qR t n<i) (hi:i<t.length):ZeF t n (i+1)=ZeF t n i++[t[i]]:=by
 unfold ZeF
 rw[if_pos om,if_pos h,List.append_assoc,List.cons_append,show i+1-qR t n=i-qR t n+1 by omega,List.take_succ_eq_append_getElem (by rw[List.length_drop];omega),List.getElem_drop]
 simp only[show qR t n+(i-qR t n)=i by omega]
theorem Ztt {t:List Nam}{n:Nam}{i:Nat}(h:¬qR t n<i+1) (hi:i<t.length):ZeF t n (i+1)=ZeF t n i++[t[i]]:=by
 unfold ZeF
 rw[if_neg h,if_neg om,List.take_succ_eq_append_getElem hi]
theorem Ztu {t:List Nam}{n:Nam}{i:Nat}(h:qR t n=i) (hi:i<t.length):ZeF t n (i+1)=(ZeF t n i++[n])++[t[i]]:=by
 unfold ZeF
 rw[if_pos om,if_neg om,h,show i+1-i=1 by omega,List.drop_eq_getElem_cons hi,List.append_assoc]
 rfl
theorem Ztw {t:List Nam}{n:Nam}(h:qR t n<t.length):ZeF t n t.length=insQ t n:=by
 unfold ZeF insQ
 rw[if_pos h,List.take_of_length_le (l:=t.drop (qR t n)) (by rw[List.length_drop];omega)]
theorem Ztx {t:List Nam}{n:Nam}(h:¬qR t n<t.length):ZeF t n t.length++[n]=insQ t n:=by
 have e:qR t n=t.length:=by have:=qR_le t n;omega
 unfold ZeF insQ
 rw[if_neg h,e,List.take_of_length_le (Nat.le_refl _),List.drop_of_length_le (Nat.le_refl _)]
theorem rput0 {t:List Nam}{n:Nam}{id v:Nat}{h:AH}(he:h[id]?=some (.mk v 40 5 (rows namC t))) (hl:t.length≤1000) (hs : ∀ x∈t,x.1.size≤maxLen) :
  ACalls Tryz.prog 55 [.own id v t.length,.agg (namC n)] h fun x h' => ∃ z j u,h'=h++z∧z[j]?=some (.mk u 40 5 (rows namC (insQ t n)))∧x=.ret (.own (h.length+j) u (insQ t n).length):=by
 refine tN' k55 fun N hn hlt _ hbd=>?_
 simp only[tb'] at hbd ⊢
 have hidN:id<N:=by rw[←hn];exact (List.getElem?_eq_some_iff.1 he).1
 refine wr'<|E' (ZaR (cvl lk1 rfl) rfl hl0 ha0) pt3<|mv' lkn pt4<|sn'<|wr'<|mv' lkn pt5<|Zal<|ZaO (ALe.own0' (st':=5) (ty:=40) gt5 hl1 pt5 ha1)<|wr'<|mv' lkb pt6<|?_
 refine sn'<|Zac<|wk'<|Zag<|?_
 refine w_lp (ι:=Nat×Nat) (fun (x_:Nat×Nat)=>match x_ with | ⟨i,w⟩=>[(5,.own (N+1) w (ZeF t n i).length),(6,bv (decide (qR t n<i))),(7,iv (i:Int))]++rn' 8 30) (fun (x_:Nat×Nat)=>match x_ with | ⟨i,w⟩=>[(1,.mk w 40 5 (rows namC (ZeF t n i)))]) (fun (x_:Nat×Nat)=>match x_ with | ⟨i,w⟩=>i≤t.length) (fun (x_:Nat×Nat)=>match x_ with | ⟨i,w⟩=>t.length-i) (⟨0,0⟩) (by exact Nat.zero_le _) ?_
 rintro⟨i,w⟩ hi1
 try simp only[sm',Nat.reduceAdd]
 replace hi1:i≤t.length:=hi1
 have hpl:=Ztv hi1 (n:=n)
 refine Zac<|wm<|mw<|Vw (ZbQ lk)<|Vw (ZaL lk lk)<|sn'<|?_
 refine cd' lk (fun hc1=>?_) (fun hc1=>?_)
 ·have hi:i<t.length:=by omega
  have hti:=hs _ (List.getElem_mem hi)
  refine za<|Zac<|Zag<|Zac<|Zac<|ZaJ<|Dw vm<|?_
  refine D' ((by first | exact v_not lk | exact Zax lk)) pt ?_
  refine D' vm pt ?_
  refine dq' (t:=16) gt pt pt (fun hg16=>?_) (fun hg16=>?_)
  ·have hq:¬qR t n<i:=by simpa using hg16
   rw[if_neg hq] at hpl
   refine dO<|Dw vm<|dO<|Dw vm<|dO<|?_
   refine D' (ZaW lk lk (Zcf he) Za8 nb ro om (by first | rfl | (simp;done) | omega)) pt ?_
   refine dO<|Dw (Zbc lk)<|dO<|?_
   refine D' (Zcd lk (Zcf he) Za8 om nb gt0) pt ?_
   refine dO<|dg<|dO<|Dw (Zaa lk gx gt0)<|dO<|?_
   refine ZaD mp (fun hE hX=>ZhZ hti) pt ?_
   refine dO<|Dw (Zbw lk lki)<|Dw (Zaj lk lk)<|ZaM<|?_
   refine Za5 ?_
   refine sn' ?_
   refine cd' lk (fun hc2=>?_) (fun hc2=>?_)
   ·have hqi:=qR_yes hi hq om
    have hstp:=Ztu hqi hi
    refine wm<|Vw (Zah lk gx Zkp rfl)<|E' (Zcm (ZhC cv rfl) hl2 ha2) pt<|?_
    refine E' (ZbH (Zbn lk gx rfl ZeS nb) lk gx (Zcu _) om rfl hs1) pt ?_
    refine ms<|Zaq<|ms<|Zaq<|mw<|mw<|mw<|?_
    refine V' (ZaW lk lk (Zcf he) Za8 nb ro om (by first | rfl | (simp;done) | omega)) pt ?_
    refine V' (ZeB lk (Zcf he) Za8 om rfl) pt ?_
    refine E' (Zcm (Zc4 cv rfl) hl3 ha3) pt ?_
    refine E' (ZbH (Zbn lk (hga hn rfl) rfl ZeS nb) lk (hga hn rfl) (by rw[List.length_append,Zcu,show ([sv n.1,iv n.2.1.1,iv n.2.1.2.1,sv n.2.1.2.2,chS n.2.2]:List AV).length=5 from rfl];omega) om rfl hs1) pt ?_
    refine mw<|Zal<|Zav<|Zam<|Zaq<|mw<|?_
    refine ad<|mw<|Zal<|Zaz<|?_
    refine lU' (⟨i+1,w+1+1⟩) (by (try dsimp only);omega) (by refine zz ?_;exact bkE' 2 hn hlt (by repeat (first | exact wk0 | refine wka ?_ | refine wk1 rfl ?_ | refine wk1 (by first | rfl | exact ivx om | exact bvx (decide_eq_true om) | exact bvx (decide_eq_decide.2 om) | exact bvx (Eq.trans (decide_eq_decide.2 om) hg16) | (rw[hstp,List.length_append];rfl) | (rw[hstp,List.length_append,List.length_append];rfl)) ?_)) (by rw[hstp,ZaH,ZaH];rfl))
   have hqn:=qR_no hi hq om
   have hstp:=Ztt hqn hi
   refine za<|Zaq<|mw<|mw<|mw<|?_
   refine V' (ZaW lk lk (Zcf he) Za8 nb ro om (by first | rfl | (simp;done) | omega)) pt ?_
   refine V' (ZeB lk (Zcf he) Za8 om rfl) pt ?_
   refine E' (Zcm (Zc4 cv rfl) hl2 ha2) pt ?_
   refine E' (ZbH (Zbn lk gx rfl ZeS nb) lk gx (Zcu _) om rfl hs1) pt ?_
   refine mw<|Zal<|Zav<|Zam<|Zaq<|mw<|?_
   refine ad<|mw<|Zal<|Zaz<|?_
   refine lU' (⟨i+1,w+1⟩) (by (try dsimp only);omega) (by refine zz ?_;exact bkE' 2 hn hlt (by repeat (first | exact wk0 | refine wka ?_ | refine wk1 rfl ?_ | refine wk1 (by first | rfl | exact ivx om | exact bvx (decide_eq_true om) | exact bvx (decide_eq_decide.2 om) | exact bvx (Eq.trans (decide_eq_decide.2 om) hg16) | (rw[hstp,List.length_append];rfl) | (rw[hstp,List.length_append,List.length_append];rfl)) ?_)) (by rw[hstp,ZaH];rfl))
  have hq:qR t n<i:=by simpa using hg16
  rw[if_pos hq] at hpl
  have hstp:=Zts hq hi
  refine dn<|dn<|dn<|dn<|dn<|dn<|dn<|dn<|dn<|Dw (Zai lk lkb)<|ZaM<|?_
  refine Za5 ?_
  refine sn'<|ZaV lk<|za<|Zaq<|mw<|mw<|mw<|?_
  refine V' (ZaW lk lk (Zcf he) Za8 nb ro om (by first | rfl | (simp;done) | omega)) pt ?_
  refine V' (ZeB lk (Zcf he) Za8 om rfl) pt ?_
  refine E' (Zcm (Zc4 cv rfl) hl2 ha2) pt ?_
  refine E' (ZbH (Zbn lk gx rfl ZeS nb) lk gx (Zcu _) om rfl hs1) pt ?_
  refine mw<|Zal<|Zav<|Zam<|Zaq<|mw<|?_
  refine ad<|mw<|Zal<|Zaz<|?_
  refine lU' (⟨i+1,w+1⟩) (by (try dsimp only);omega) (by refine zz ?_;exact bkE' 2 hn hlt (by repeat (first | exact wk0 | refine wka ?_ | refine wk1 rfl ?_ | refine wk1 (by first | rfl | exact ivx om | exact bvx (decide_eq_true om) | exact bvx (decide_eq_decide.2 om) | exact bvx (Eq.trans (decide_eq_decide.2 om) hg16) | (rw[hstp,List.length_append];rfl) | (rw[hstp,List.length_append,List.length_append];rfl)) ?_)) (by rw[hstp,ZaH];rfl))
 obtain rfl:i=t.length:=by omega
 refine Zay<|Zas<|Zas<|ZaI<|Zam<|Zac<|wm<|?_
 refine V' ((by first | exact v_not lk | exact Zax lk)) pt ?_
 refine sn' ?_
 refine cd' lk (fun hc3=>?_) (fun hc3=>?_)
 ·have hq:¬qR t n<t.length:=by simpa using hc3
  rw[if_neg hq] at hpl
  have hend:=Ztx hq
  refine Zaq<|mw<|Vw (Zah lk gx Zkp rfl)<|E' (Zcm (ZhB cv rfl) hl2 ha2) pt<|?_
  refine E' (ZbH (Zbn lk gx rfl ZeS nb) lk gx (Zcu _) om rfl hs1) pt ?_
  refine ms<|wm<|mr<|Zad rz<|?_
  refine⟨_,1,_,rfl,(by rw[←hend,ZaH];rfl),?_⟩;rw[hn,←hend,List.length_append];rfl
 have hq:qR t n<t.length:=by simpa using hc3
 have hend:=Ztw hq
 refine za<|wm<|mr<|Zad rz<|?_
 refine⟨_,1,_,rfl,(by rw[←hend];rfl),?_⟩;rw[hn,←hend]
theorem rput_t {t:List Nam}{n:Nam}{id v:Nat}{h:AH}(he:h[id]?=some (.mk v 40 5 (rows namC t))) (hl:t.length≤1000) (hs : ∀ x∈t,x.1.size≤maxLen) :
  ACalls Tryz.prog 55 [.own id v t.length,.agg (namC n)] h fun x h'=>x=.ret (.own id (v+1) (t.length+1))∧h'=h.set id (.mk (v+1) 40 5 (rows namC (insQ t n))):=by
 have:=ACalls.turnTo he (Zfu _) (rput0 (n:=n) he hl hs)
 rw[Zk3] at this
 exact this
def nz (x:Zon):Nam:=(x.1,ZfC)
def Zh0 (l:List Zon):List Nam:=(l.map nz).foldl insQ []
theorem Zqs {l:List Zon}{i:Nat}(h:i<l.length):Zh0 (l.take (i+1))=insQ (Zh0 (l.take i)) (nz l[i]):=by
 unfold Zh0;rw[List.take_succ_eq_append_getElem h,List.map_append,List.foldl_append];rfl
theorem Zmv : ∀ (l acc:List Nam),(l.foldl insQ acc).length=acc.length+l.length
 | [],acc=>rfl
 | n::l,acc=>by rw[List.foldl_cons,Zmv,Zk3,List.length_cons];omega
theorem ZsL (l:List Zon):(Zh0 l).length=l.length:=by unfold Zh0;rw[Zmv,List.length_map,List.length_nil,Nat.zero_add]
theorem insQ_mem {t:List Nam}{n x:Nam}(h:x∈insQ t n):x=n∨x∈t:=by
 unfold insQ at h
 rcases List.mem_append.1 h with h | h
 ·exact .inr (List.mem_of_mem_take h)
 rcases List.mem_cons.1 h with h | h
 ·exact .inl h
 exact .inr (List.mem_of_mem_drop h)
theorem Zmu {x:Nam} : ∀ {l acc:List Nam},x∈l.foldl insQ acc→x∈acc∨x∈l
 | [],acc,h=>.inl h
 | n::l,acc,h=>by
  rcases Zmu (l:=l) h with h | h
  ·rcases insQ_mem h with rfl | h
   ·exact .inr (by simp)
   exact .inl h
  exact .inr (List.mem_cons_of_mem _ h)
theorem tabs1_sz {l:List Zon}{i:Nat}(h : ∀ x∈l,x.1.size≤maxLen) : ∀ x∈Zh0 (l.take i),x.1.size≤maxLen:=fun x hx=>by
 rcases Zmu hx with hx | hx
 ·cases hx
 obtain⟨y,hy,rfl⟩:=List.mem_map.1 hx
 exact h y (List.mem_of_mem_take hy)
theorem Zmw : ∀ {l acc:List Nam},((acc++l).map (·.1)).Nodup→l.foldl insQ acc=l.foldl insN acc
 | [],acc,_=>rfl
 | n::l,acc,hn=>by
  have hno:hasN acc n.1=false:=by
   rw[Bool.eq_false_iff,ne_eq,Zee]
   intro hm
   rw[List.map_append,List.map_cons,List.nodup_append] at hn
   exact hn.2.2 n.1 hm n.1 (by simp) rfl
  have hp2:(insN acc n++l).Perm (acc++n::l):=((ZpU acc n).append_right l).trans (by
   rw[List.cons_append];exact List.perm_middle.symm)
  rw[List.foldl_cons,List.foldl_cons,insQ_ins hno,Zmw (((hp2.map (·.1)).nodup_iff).2 hn)]
theorem tabs1_eq {l:List Zon}(hn:(l.map (·.1)).Nodup):Zh0 l=(srtN l).map nz:=by
 have hnm:(l.map nz).map (·.1)=l.map (·.1):=by rw[List.map_map];rfl
 have h1:Zh0 l=srtN (l.map nz):=Zmw (by rw[List.nil_append,hnm];exact hn)
 rw[h1]
 refine (ZsT (by rw[hnm];exact hn) ((ZcD hn).map nz) ?_).symm
 have:=ZgH hn
 exact List.pairwise_map.2 (this.imp fun h=>ZdG h)
def tab2 (s:Src) (zs:List Zon) (i:Nat):List Nam:=mapT s (zs.take i)++(zs.drop i).map nz
theorem ZfV (s:Src) (zs:List Zon) (i:Nat):(tab2 s zs i).length=zs.length:=by
 unfold tab2;rw[List.length_append,ZdB,List.length_take,List.length_map,List.length_drop];omega
theorem ZsQ {s:Src}{zs:List Zon}{i:Nat}(h:i<zs.length):(tab2 s zs i)[i]'(by rw[ZfV];exact h)=nz zs[i]:=by
 have hl:(mapT s (zs.take i)).length=i:=by rw[ZdB,List.length_take];omega
 unfold tab2
 rw[List.getElem_append_right om]
 simp only[hl,Nat.sub_self,List.getElem_map,List.getElem_drop,Nat.add_zero]
theorem ZsP {s:Src}{zs:List Zon}{i:Nat}(h:i<zs.length):(tab2 s zs i).set i (((tab2 s zs i)[i]'(by rw[ZfV];exact h)).1,(ofV s zs[i]).1)=tab2 s zs (i+1):=by
 have hl:(mapT s (zs.take i)).length=i:=by rw[ZdB,List.length_take];omega
 rw[ZsQ h]
 unfold tab2
 rw[List.set_append_right _ _ om,hl,Nat.sub_self,List.drop_eq_getElem_cons h,List.map_cons,List.set_cons_zero,Zmg s h,List.append_assoc]
 rfl
theorem tab2_end (s:Src) (zs:List Zon):tab2 s zs zs.length=mapT s zs:=by
 unfold tab2
 rw[List.take_length,List.drop_length];simp
theorem ZtB {z:List Zon}{x:Zon}(hn:(z.map (·.1)).Nodup) (hx:x∈z) : ∃ p,∃ hp:p<z.length,Zc8 z x.1=(p:Int)∧z[p]=x:=by
 obtain⟨p,hp,rfl⟩:=List.getElem_of_mem hx
 refine⟨p,hp,?_,rfl⟩
 have hf:z.findIdx (fun y:Zon=>decide (y.1=z[p].1))=p:=(List.findIdx_eq hp).2 ⟨by simp,fun j hj=>by
  rw[decide_eq_false_iff_not]
  intro e
  have:=List.pairwise_iff_getElem.1 hn j p (by simp;omega) (by simpa using hp) hj
  simp only[List.getElem_map] at this
  exact this e⟩
 unfold Zc8 idxV
 rw[hf,if_pos hp]
theorem lnk_refl {a b:Lnk}:ltS b.2 a.2=false∨ltS a.2 b.2=false:=by
 cases h:ltS b.2 a.2 with
 | false=>exact .inl rfl
 | true=>exact .inr (ZdG h)
theorem lnk_tr {a b c:Lnk}(h1:ltS b.2 a.2=false) (h2:ltS c.2 b.2=false):ltS c.2 a.2=false:=by
 cases h:ltS c.2 a.2 with
 | false=>rfl
 | true=>rw[Zml h2 h] at h1;cases h1
def leL (a b:Lnk):Prop:=ltS b.2 a.2=false
theorem Zs9 {l:List Nam}{k:Nat}(hk:k<l.length):(rows namC l).set (k*5) (sv l[k].1)=rows namC l:=by
 have h1:rows namC l=rows namC (l.take k)++(namC l[k]++rows namC (l.drop (k+1))):=by
  have:l=l.take k++(l[k]::l.drop (k+1)):=by rw[←List.drop_eq_getElem_cons hk,List.take_append_drop]
  calc rows namC l=rows namC (l.take k++(l[k]::l.drop (k+1))):=by rw[←this]
   _=_:=by rw[ZaH];simp only[rows,List.flatMap_cons]
 have h2:(rows namC (l.take k)).length=k*5:=by rw[Zcu,List.length_take,Nat.min_eq_left om]
 rw[h1,List.set_append_right _ _ om,h2,Nat.sub_self];rfl
theorem e_stNT {T:List AV}{x y:Operand}{id v ty s k:Nat}{l:List Nam}{tb:Tab}{h h':AH}(hx:Zaf T x=.ptr id v (k*5+1)) (hc:Zap (Zaf T y)=some [iv tb.1.1,iv tb.1.2.1,sv tb.1.2.2,chS tb.2]) (he:h[id]?=some (.mk v ty s (rows namC l))) (hk:k<l.length) (hh:h.set id (.mk v ty s (rows namC (l.set k (l[k].1,tb))))=h') :
  aeff h (Zaf T) (.store 4 x y)=some (.v undef,h'):=by
 refine Zak hx hc he rfl (by rw[Zcu];omega) rfl ?_ hh
 have:=Zpv (f:=namC) (st:=5) Za8 hk (l[k].1,tb)
 rw[←this]
 simp only[namC,setCells]
 rw[Zs9 hk]
end
end Go.Proofs.YtfoipaclphdodaaGreatDoor
