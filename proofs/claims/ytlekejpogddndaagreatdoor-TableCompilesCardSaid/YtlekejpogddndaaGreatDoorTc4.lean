/-
  Part 4 of the proof: own lemmas and contracts on plain data. No condition beyond those that each lemma states.
-/
import Derived.Test.YtlekejpogddndaaGreatDoorTc3
set_option linter.all false
set_option maxRecDepth 1000000
set_option maxHeartbeats 4000000
section
namespace Go.Proofs.YtlekejpogddndaaGreatDoor
open Go.Ab Go.RowKit Civ
theorem vm {T:List AV}{h:AH}{x:Operand}{c:AV}[i:Lk T x c]:aval h (Zan T) (.mv x)=some c:=v_mv lk
theorem so {P:Program}{Kp:AV→List AV→AH→Prop}{rest:List AOper}{T U:List AV}{h:AH}{K:List AV→AH→Prop}{d:Option Nat}{op:AOp}{t:Nat}{b:Bool}[i:Gt T t (.v (.bool (!b)))][j:Pt T d (.v undef) U](hk:arun P Kp rest U h K):arun P Kp (⟨d,some (t,b),op⟩::rest) T h K:=s_no gt pt hk
theorem uf {P:Program}{h0:AH}{q:List (List Nat)}{rest:List AOper}{tc:List (Bool×List Nat)}{T U:List AV}{h:AH}{K:List AV→AH→Prop}{d:Option Nat}{c:AV}{op:AOp}(hv:aval [] (Zan T) op=some c)[j:Pt T d c U](hk:Zcy P h0 q.tail rest (tc++[(false,[])]) U h K)(hn:plainU op=true:=by rfl):Zcy P h0 q (⟨d,none,op⟩::rest) tc T h K:=u_fr hn hv pt hk
attribute [local simp] Zbw ZbM ZbG ZbL Zcv Zd3 Zeb
theorem Zh0 {fm lt:ByteArray}{sa:Int}{i:Nat}(hq:ZpM fm i) (hi:i<(aB fm).length) (hx:(aB fm)[i]=47):Zf7 fm lt sa=if 0<sa then bA ((aB fm).drop (i+1)) else bA ((aB fm).take i):=by
 have he:Lib.index (aB fm) [47]=i:=Zt7 hi hx fun j hj h=>(hq j hj h).1
 unfold Zf7 cutL Lib.cut
 rw[he]
 simp
theorem cut47_no {fm:ByteArray}(hq : ∀ j (hj:j<(aB fm).length),(aB fm)[j]≠47):(cutL fm [47]).2.2=false:=by
 unfold cutL Lib.cut;rw[Zot hq];rfl
theorem ZqY {fm lt:ByteArray}{sa:Int}{i:Nat}(hf:Zbx fm=true) (hq:ZpM fm i) (hi:i<(aB fm).length) (hx:(aB fm)[i]=37) :
  i+2≤(aB fm).length∧Zf7 fm lt sa=bA ((aB fm).take i++aB lt++(aB fm).drop (i+2)):=by
 have h47:(cutL fm [47]).2.2=false:=by
  cases hc:(cutL fm [47]).2.2 with
  | false=>rfl
  | true =>
   exfalso
   unfold Zbx at hf
   split at hf
   ·cases hf
   try rw[if_pos hc] at hf
   simp only[Bool.and_eq_true] at hf
   have hp:=hf.1.2
   unfold cutL Lib.cut at hc hp
   split at hc
   ·rename_i h0
    obtain⟨p,hp0⟩ : ∃ p:Nat,Lib.index (aB fm) [47]=p:=⟨(Lib.index (aB fm) [47]).toNat,by omega⟩
    rw[if_pos h0,hp0] at hp
    obtain⟨_,hpl,hp47⟩:=ZeW hp0
    have hp47':(aB fm)[p]=47:=by rw[List.getElem?_eq_getElem hpl] at hp47;exact Option.some.inj hp47
    have hip:i<p:=by
     rcases Nat.lt_trichotomy i p with h | h | h
     ·exact h
     ·subst h;rw[hx] at hp47';cases hp47'
     exact absurd hp47' (hq p hpl h).1
    have:=(ZlF hp (j:=i) (by have hi':i<fm.size:=hi;simp[aB,bA];omega)).1
    apply this
    simpa [aB,bA] using hx
   cases hc
 have hf2:=hf
 unfold Zbx at hf2
 split at hf2
 ·cases hf2
 rw[if_neg (by rw[h47];simp)] at hf2
 simp only[Bool.and_eq_true] at hf2
 have hp:=hf2.1
 have he:Lib.index (aB fm) [37,115]=i:=by
  unfold cutL Lib.cut at hp
  split at hp
  ·rename_i h0
   obtain⟨p,hp0⟩ : ∃ p:Nat,Lib.index (aB fm) [37,115]=p:=⟨(Lib.index (aB fm) [37,115]).toNat,by omega⟩
   rw[hp0] at hp
   obtain⟨hpl,hp37⟩:=Zi9 hp0
   rcases Nat.lt_trichotomy i p with h | h | h
   ·exfalso
    have:=(ZlF hp (j:=i) (by have hi':i<fm.size:=hi;simp[aB,bA];omega)).1
    apply this
    simpa [aB,bA] using hx
   ·rw[hp0,h]
   exact absurd hp37 (hq p hpl h).2
  exfalso
  have:=(ZlF (s:=bA (aB fm)) hp (j:=i) hi).1
  exact this hx
 refine⟨?_,?_⟩
 ·rcases Lib.index_spec (aB fm) [37,115] with ⟨h1,_⟩ | ⟨p,h1,h2,h3,_⟩
  ·omega
  obtain rfl:i=p:=by omega
  have h4:[37,115] <+: (aB fm).drop i:=by simpa [Lib.occAt] using h3
  have:=h4.length_le
  simp at this;omega
 unfold Zf7
 rw[if_neg (by rw[h47];simp)]
 unfold cutL Lib.cut
 rw[he]
 simp
theorem Zof {fm lt:ByteArray}{sa:Int}(hq:ZpM fm (aB fm).length):Zf7 fm lt sa=fm:=by
 unfold Zf7
 rw[if_neg (by rw[cut47_no fun j hj=>(hq j hj hj).1];simp)]
 unfold cutL Lib.cut
 split
 ·rename_i h0
  obtain⟨p,hp0⟩ : ∃ p:Nat,Lib.index (aB fm) [37,115]=p:=⟨(Lib.index (aB fm) [37,115]).toNat,by omega⟩
  obtain⟨hpl,hp37⟩:=Zi9 hp0
  exact absurd hp37 (hq p hpl hpl).2
 rfl
theorem Zqs {fm:ByteArray}{i:Nat}(hi:i<fm.size) (c:UInt8):((ZaM fm i).toNat:Int)=(c.toNat:Int)↔(aB fm)[i]'hi=c:=by
 rw[ZcW hi]
 have e:(aB fm)[i]'hi=fm[i]:=rfl
 rw[e]
 constructor
 ·intro h;exact UInt8.toNat_inj.1 om
 intro h;rw[h]
theorem ZmG {fm lt:ByteArray}{sa:Int}{h:AH}(hf:Zbx fm=true) (hl:lt.size≤24) (hs:0≤sa):Ac 155 [sv fm,sv lt,iv sa] h (sv (Zf7 fm lt sa)):=by
 have hfl:=Zgp hf
 have hsz:(aB fm).length=fm.size:=rfl
 refine tI' k155 fun N hn hlt hlA hbd=>?_
 simp only[tb'] at hbd ⊢
 refine wr'<|mw<|sn'<|Zag<|wr'<|mw<|sn'<|Zam<|?_
 refine w_lp (ι:=Nat) (fun (i:Nat)=>[(7,iv (i:Int)),(6,.any)]++rn' 8 39) (fun (i:Nat)=>[]) (fun (i:Nat)=>i≤fm.size∧ZpM fm i) (fun (i:Nat)=>fm.size-i) (0) (by exact⟨Nat.zero_le _,fun j _ h=>by omega⟩) ?_
 rintro i hi1
 try simp only[sm',Nat.reduceAdd]
 obtain⟨hk1,hk2⟩:=hi1
 refine Zag<|wr'<|mw<|mw<|Vw (Zbo lk)<|Vw (ZaZ lk lk)<|sn'<|?_
 refine cd' lk (fun hc1=>?_) (fun hc1=>?_)
 ·have hi:i<fm.size:=by omega
  refine Zad<|Zae<|Zag<|Zam<|Zag<|wr'<|mw<|mw<|?_
  refine V' (v_ix lk lk om om) pt ?_
  refine Vw (ZaX lk lki)<|mw<|?_
  refine sp' (t:=18) gt pt pt (fun hg18=>?_) (fun hg18=>?_)
  ·have hx:(aB fm)[i]'hi=47:=(Zqs hi 47).1 hg18
   refine s_do gt<|mw<|s_do gt<|Vw (ZaX lk lki)<|Vw (Zal lk lk)<|sn'<|?_
   refine cd' lk (fun hc2=>?_) (fun hc2=>?_)
   ·refine wr'<|mw<|mw<|?_
    refine V' (Zdy lk on_ (oi lk) om om om) pt ?_
    refine mw<|sn'<|Zaa<|Zai<|Zas<|Zai<|Zai<|Zas<|Zai<|Zah rz<|rT'<|?_
    rw[Zh0 hk2 hi hx,if_neg om,Zha];simp
   refine Zad<|Zae<|Zag<|wr'<|mw<|mw<|?_
   refine V' (v_ix lk lk om om) pt ?_
   refine Vw (ZaX lk lki)<|sn'<|?_
   refine Zc6 lk (by exact decide_eq_true hg18) ?_
   refine wr'<|mw<|mw<|?_
   refine V' (Zax lk lki om om) pt ?_
   refine V' (Zdy lk (oi lk) on_ om om om) pt ?_
   refine mw<|sn'<|Zaa<|Zai<|Zas<|Zai<|Zai<|Zas<|Zai<|Zah rz<|rT'<|?_
   rw[Zh0 hk2 hi hx,if_pos om,Zha,List.take_of_length_le (by rw[List.length_drop,hsz];omega)];rfl
  have hx:(aB fm)[i]'hi≠47:=fun e=>hg18 ((Zqs hi 47).2 e)
  refine so<|so<|Vw (Zak lk lkb)<|sn'<|ZaT lk<|Zad<|Zae<|Zag<|wr'<|mw<|mw<|?_
  refine V' (v_ix lk lk om om) pt ?_
  refine Vw (ZaX lk lki)<|sn'<|?_
  refine Zc5 lk (by exact decide_eq_false hg18) ?_
  refine Zad<|Zae<|wr'<|mw<|mw<|?_
  refine V' (v_ix lk lk om om) pt ?_
  refine Vw (ZaX lk lki)<|sn'<|?_
  refine cd' lk (fun hc4=>?_) (fun hc4=>?_)
  ·have hx2:(aB fm)[i]'hi=37:=(Zqs hi 37).1 hc4
   obtain⟨hi2,hN⟩:=ZqY (lt:=lt) (sa:=sa) hf hk2 hi hx2
   rw[hsz] at hi2
   refine Zag<|Za2<|Dw vm<|Dw vm<|?_
   refine D' (Zdy lk on_ (oi lk) om om om) pt ?_
   refine D' vm pt ?_
   refine D' (Zpt lk lk (by first | omega | (rw[ByteArray.size_extract];omega))) pt ?_
   refine Dw vm<|Dw vm<|?_
   refine D' (Zax lk lki om om) pt ?_
   refine D' (Zdy lk (oi lk) on_ om om om) pt ?_
   refine D' (Zpt lk lk (by first | omega | (rw[ByteArray.size_append,ByteArray.size_extract,ByteArray.size_extract];omega))) pt ?_
   refine Dw vm<|Za8<|?_
   refine Zby ?_
   refine sn'<|Zaa<|Zas<|Zai<|Zai<|Zas<|Zai<|Zah rz<|rT'<|?_
   rw[hN,Zha,Zha];refine congrArg _ ?_;apply ByteArray.ext;simp[bA,aB];rw[show ((i:Int)+2).toNat=i+2 by omega];exact List.take_of_length_le (by simp)
  have hx2:(aB fm)[i]'hi≠37:=fun e=>hc4 ((Zqs hi 37).2 e)
  refine Zad<|ZaA<|Zae<|Zat<|mw<|?_
  refine V' (Zax lk lki om om) pt ?_
  refine mw<|Zaq<|ZaB<|?_
  refine lT' (i+1) (by (try dsimp only);refine⟨by omega,fun j hj h=>?_⟩;by_cases e:j=i;(subst e;exact⟨hx,hx2⟩);exact hk2 j hj om)
 refine ZaD<|Zay<|Zay<|ZaU<|Zae<|wr'<|mw<|mw<|sn'<|Zaa<|Zah rz<|rT'<|?_
 rw[Zof (by rw[hsz,show fm.size=i by omega];exact hk2)]
end Go.Proofs.YtlekejpogddndaaGreatDoor
end
section
namespace Go.Ab
theorem ALe.wkAt {n0 d:Nat}{T T':List AV}{h:AH}{c c':AV}(hd:T[d]?=some c) (hw:Wk c c') (hp:aPut T (some d) c'=T'):ALe n0 T h T' h:=by
 subst hp
 refine ALe.same ?_ rfl
 show WkL T (T.set d c')
 have : ∀ (T:List AV) (d:Nat),T[d]?=some c→WkL T (T.set d c'):=by
  intro T
  induction T with
  | nil=>intro d hd;simp at hd
  | cons t T ih =>
   intro d hd
   cases d with
   | zero=>simp at hd;subst hd;exact wkw hw (WkL.refl _)
   | succ d=>exact wk1 rfl (ih d (by simpa using hd))
 exact this T d hd
end Go.Ab
namespace Go.Proofs.YtlekejpogddndaaGreatDoor
open Go.Ab Go.RowKit Civ
attribute [local simp] Zbw ZbM ZbG ZbL Zcv Zd3 Zeb
section
theorem ZkP {a0 a1:AV}{l:List AV}:((a0::a1::l).drop 0).take 2=[a0,a1]:=rfl
theorem Zl3 {τ:Operand→AV}{y0 y1:Operand}{x0_0 x0_1 x1_0:AV}(h0:Zav (τ y0)=some [x0_0,x0_1]) (l0:[x0_0,x0_1].all leaf=true) (h1:Zav (τ y1)=some [x1_0]) (l1:[x1_0].all leaf=true):Zau τ [(0,2,y0),(2,1,y1)] [(.v (.string ⟨#[]⟩)),(.sl 0 0 true []),(.sl 0 0 true []),(.sl 0 0 true [])]=some [x0_0,x0_1,x1_0,(.sl 0 0 true [])]:=by
 simp only[Zau,h0,l0,h1,l1]
 rfl
theorem ZuU { e:Ent}:([]:AH)++[e]=[e]:=rfl
theorem Zrs {e0 e1 e2 d0:Ent}:([e0,e1,e2]:AH)++[d0]=[e0,e1,e2,d0]:=rfl
theorem ZkR {a0 a1 a2 a3 c0 c1 c2 c3:AV}{l:List AV}:setCells (a0::a1::a2::a3::l) 0 [c0,c1,c2,c3]=c0::c1::c2::c3::l:=rfl
theorem Zgg {τ:Operand→AV}{y0:Operand}{x0_0:AV}(h0:Zav (τ y0)=some [x0_0]) (l0:[x0_0].all leaf=true):Zau τ [(0,1,y0)] [(.sl 0 0 true [])]=some [x0_0]:=by
 simp only[Zau,h0,l0]
 rfl
theorem Znu {a0:AV}{l:List AV}:(a0::l).take 1=[a0]:=rfl
theorem ZkQ {a0 a1 a2 a3 c0:AV}{l:List AV}:setCells (a0::a1::a2::a3::l) 3 [c0]=a0::a1::a2::c0::l:=rfl
theorem ZkN {a0 a1 a2 a3:AV}{l:List AV}:((a0::a1::a2::a3::l).drop 0).take 4=[a0,a1,a2,a3]:=rfl
theorem ZkM {a0 a1 a2 a3 a4 a5 a6 a7 a8 a9:AV}{l:List AV}:(a0::a1::a2::a3::a4::a5::a6::a7::a8::a9::l).take 10=[a0,a1,a2,a3,a4,a5,a6,a7,a8,a9]:=rfl
theorem Zjo {a0 a1 a2 a3 a4 a5 a6 a7 a8 a9 c0 c1 c2 c3 c4 c5 c6 c7 c8 c9:AV}{l:List AV}:setCells (a0::a1::a2::a3::a4::a5::a6::a7::a8::a9::l) 0 [c0,c1,c2,c3,c4,c5,c6,c7,c8,c9]=c0::c1::c2::c3::c4::c5::c6::c7::c8::c9::l:=rfl
theorem ZkT {τ:Operand→AV}{y0 y1 y2:Operand}{x0_0 x1_0 x2_0:AV}(h0:Zav (τ y0)=some [x0_0]) (l0:[x0_0].all leaf=true) (h1:Zav (τ y1)=some [x1_0]) (l1:[x1_0].all leaf=true) (h2:Zav (τ y2)=some [x2_0]) (l2:[x2_0].all leaf=true):Zau τ [(0,1,y0),(1,1,y1),(2,1,y2)] [(.v (.int .i64 0)),(.v (.int .i64 0)),(.v (.string ⟨#[]⟩))]=some [x0_0,x1_0,x2_0]:=by
 simp only[Zau,h0,l0,h1,l1,h2,l2]
 rfl
theorem ZkS {a0 a1 a2 c0 c1 c2:AV}{l:List AV}:setCells (a0::a1::a2::l) 0 [c0,c1,c2]=c0::c1::c2::l:=rfl
theorem ZkO {a0 a1 a2:AV}{l:List AV}:((a0::a1::a2::l).drop 0).take 3=[a0,a1,a2]:=rfl
end
def c83:AC:=(Sr [Oo 2 (.box 26 3 (.tmp 0)),Oo 3 (.box 53 2 (.tmp 1)),Oo 4 (.new 133 4 [Ss,(.sl 0 0 true []),(.sl 0 0 true []),(.sl 0 0 true [])])] (.seq (.drw [Oo 10 (.load true 2 (.tmp 3)),Oo 11 (.load true 2 (.tmp 3)),Cl 12 82 [(.tmp 11)],Oo 13 (.build [Ss,(.sl 0 0 true []),(.sl 0 0 true []),(.sl 0 0 true [])] [(0,(2,(.tmp 10))),(2,(1,(.tmp 12)))]),Oo 5 (.new 133 4 [Ss,(.sl 0 0 true []),(.sl 0 0 true []),(.sl 0 0 true [])])] [false] [⟨none,none,(.store 4 (.tmp 5) (.tmp 13))⟩]) (.seq (Sr [Mc 6 0] (.block 0 (.loop (.seq (Sr [Mv 14 6,Fa 15 1 3,Ld 16 15,Oo 17 (.len false (.tmp 16)),Bn 18 .lss 14 17] (Cd 18 .skip (.exit 0))) (.seq (.block 1 (Sr [Oo 7 (.mv (.const (.slice none 0 0)))] (.seq (Sr [Fa 21 1 3,Ld 22 21,Mv 23 6,Oo 24 (.ia 10 (.tmp 22) (.tmp 23)),Fa 25 1 24,Ld 26 25,Oo 27 (.bin .neq (.tmp 26) (.const (.string ⟨#[]⟩)))] (Cd 27 (Sd [Fa 29 0 2,Ld 30 29,Fa 31 1 3,Ld 32 31,Mv 33 6,Oo 34 (.ia 10 (.tmp 32) (.tmp 33)),Fa 35 1 34,Ld 36 35,Fa 37 1 3,Ld 38 37,Mv 39 6,Oo 40 (.ia 10 (.tmp 38) (.tmp 39)),Fa 41 0 40,Ld 42 41,Cl 43 81 [(.tmp 30),(.tmp 36),(.tmp 42)],Mv 28 43,Ex 44 28 0,Ex 45 28 1,Mv 8 44,Mv 9 45] (.reg [Mv 46 8,Mv 7 46])) .skip)) (.reg [Fa 47 3 5,Ld 48 47,Mv 49 7,Oo 50 (.lit 64 1 1 [(.sl 0 0 true [])] [(0,(1,(.tmp 49)))]),Oo 51 (.app 64 1 24 (.tmp 48) (.tmp 50)),Fa 52 3 5,Sc 52 51])))) (.reg [Mv 19 6,Bc 20 .add 19 1,Mv 6 20])))))) (Sr [Oo 53 (.load true 4 (.tmp 5)),⟨none,none,(.store 4 (.tmp 4) (.tmp 53))⟩] .ret))))
theorem k83:ZaE Tryz.prog 83=some ⟨c83,[(.cell 4 true 4)],54⟩:=by kernel_rfl
def c84:AC:=(Sr [Oo 2 (.box 133 4 (.tmp 0)),Oo 4 (.new 29 3 [(iv 0),(iv 0),Ss])] (Sr [Mc 5 0] (.seq (.block 0 (.loop (.seq (Sr [Mv 10 5,Fa 11 2 2,Ld 12 11,Oo 13 (.len false (.tmp 12)),Bn 14 .lss 10 13,Mv 15 14,Ot 16 15 (.fa 2 (.tmp 2)),Ot 17 15 (.load false 1 (.tmp 16)),Ot 18 15 (mt 5),Ot 19 15 (.ia 1 (.tmp 17) (.tmp 18)),Ot 20 15 (.load false 1 (.tmp 19)),Ot 21 15 (mt 1),Ot 22 15 (.bin .leq (.tmp 20) (.tmp 21)),Oo 23 (.pick (.tmp 15) (.tmp 22) (.const (.bool false)))] (Cd 23 .skip (.exit 0))) (.block 1 (.reg [Mv 24 5,Bc 25 .add 24 1,Mv 5 25]))))) (Sr [Fa 26 0 2,Fa 27 1 26,Ld 28 27,Mv 29 5,Oo 30 (.ia 10 (.tmp 28) (.tmp 29)),Oo 31 (.load true 10 (.tmp 30)),Oo 6 (.new 63 10 [(iv 0),Ss,(iv 0),Ss,(.v (.bool false)),(iv 0),(iv 0),(iv 0),(iv 0),(iv 0)]),⟨none,none,(.store 10 (.tmp 6) (.tmp 31))⟩] (Sr [Fa 32 2 6,Ld 33 32,Mv 7 33,Ms 8] (.seq (Sr [Mc 9 0] (.block 2 (.loop (.seq (Sr [Mv 34 9,Fa 35 3 2,Ld 36 35,Mv 37 5,Oo 38 (.ia 1 (.tmp 36) (.tmp 37)),Ld 39 38,Oo 40 (.len false (.tmp 39)),Bn 41 .lss 34 40] (Cd 41 .skip (.exit 2))) (.seq (.block 3 (Sr [Fa 44 3 2,Ld 45 44,Mv 46 5,Oo 47 (.ia 1 (.tmp 45) (.tmp 46)),Ld 48 47,Mv 49 9,Oo 50 (.ia 3 (.tmp 48) (.tmp 49)),Fa 51 0 50,Ld 52 51,Mv 53 1,Bn 54 .leq 52 53] (Cd 54 (.drw [Fa 55 3 2,Ld 56 55,Mv 57 5,Oo 58 (.ia 1 (.tmp 56) (.tmp 57)),Ld 59 58,Mv 60 9,Oo 61 (.ia 3 (.tmp 59) (.tmp 60)),Fa 62 1 61,Ld 63 62,Fa 64 3 2,Ld 65 64,Mv 66 5,Oo 67 (.ia 1 (.tmp 65) (.tmp 66)),Ld 68 67,Mv 69 9,Oo 70 (.ia 3 (.tmp 68) (.tmp 69)),Fa 71 2 70,Ld 72 71,Mv 7 63,Mv 8 72] [] []) .skip))) (.reg [Mv 42 9,Bc 43 .add 42 1,Mv 9 43])))))) (.seq (.drw [Fa 73 0 6,Ld 74 73,Mv 75 7,Bn 76 .add 74 75,Mv 77 7,Fa 78 3 6,Ld 79 78,Mv 80 8,Mv 81 7,Cl 82 155 [(.tmp 79),(.tmp 80),(.tmp 81)],Oo 83 (.build [(iv 0),(iv 0),Ss] [(0,(1,(.tmp 76))),(1,(1,(.tmp 77))),(2,(1,(.tmp 82)))])] [false] [⟨none,none,(.store 3 (.tmp 4) (.tmp 83))⟩]) .ret)))))))
theorem k84:ZaE Tryz.prog 84=some ⟨c84,[(.cell 4 true 3)],84⟩:=by kernel_rfl
abbrev tmsE (a:List Rul) (x:Era):List AV:=[.sl (ZaP a x).length 3 false (rows timC (ZaP a x))]
theorem ZeM {a:List Rul} : ∀ x,(tmsE a x).length=1:=fun _=>rfl
theorem Zlm {a:List Rul}(l:List Era):(rows (tmsE a) l).length=l.length*1:=Zbh ZeM l
theorem tms_lt {a:List Rul}{n:Nat}(l:List Era):AV.ltL n (rows (tmsE a) l)=true:=ZdC (fun n x=>by simp[AV.ltL,AV.lt,Zeb]) l
attribute [local simp] tms_lt
theorem rtell_a {a:List Rul}{z:List Zon}{k:List Lnk}{nm:ByteArray}{es:List Era}{h:AH}(hok:okRs a) (ha:a.length≤9223372036854775807) (hz:okZ es):Ac 83 [.agg (srcB a z k),.agg [sv nm,.sl es.length 10 false (rows eraC es)]] h (.agg [sv nm,.sl es.length 10 false (rows eraC es),.sl (ZaN es).length 1 false (rows intC (ZaN es)),.sl es.length 1 false (rows (tmsE a) es)]):=by
 have hlen:=hz.len
 have hel:=Zc9 es
 refine tW' k83 fun N hn hlt hlA hbd=>?_
 simp only[tb'] at hbd ⊢
 refine wr'<|E' (Zbc cv rfl (hl0 hn) ha0) pt<|E' (Zbc cv rfl (hl1 hn) ha1) pt<|E' (Za7 (hl2 hn) ha2) pt<|sn'<|Zag<|Za2<|Dw (Zao lk gx ZkP rfl)<|Dw (Zao lk gx ZkP rfl)<|?_
 refine ZaV mp (fun hE hX=>Zti hz) pt ?_
 refine Dw (Zaw (Zl3 cv rfl cv rfl))<|Zep rfl rfl (hlk hn rfl) (Zoq) pt ZuU<|Za8<|?_
 refine Zez Zrs ?_
 refine E' (Zaj lk cv gx rfl (nb' rfl) rfl ZkR (hs3 hn)) ptn<|Zaq<|?_
 refine Za1 (ALe.own0Cell (st':=1) (ty:=64) gx gt3 (hl4 hn) pt3 (Eq.trans (congrArg (fun z=>List.set z _ _) ha4) (hs3 hn))) ?_
 refine Zag<|wr'<|mw<|sn'<|Zam<|?_
 refine w_lp (ι:=Nat) (fun (j:Nat)=>[(6,iv (j:Int))]++rn' 7 3++rn' 14 39) (fun (j:Nat)=>[(3,.mk 0 133 4 [sv nm,.sl es.length 10 false (rows eraC es),.sl (ZaN es).length 1 false (rows intC (ZaN es)),.own (N+4) j j]),(4,.mk j 64 1 (rows (tmsE a) (es.take j)))]) (fun (j:Nat)=>j≤es.length) (fun (j:Nat)=>es.length-j) (0) (by exact Nat.zero_le _) ?_
 rintro j hi1
 try simp only[sm',Nat.reduceAdd]
 replace hi1:j≤es.length:=hi1
 have htl:(es.take j).length=j:=by rw[List.length_take];omega
 refine Zag<|wr'<|mw<|Vw (Zac lk)<|Vw (Zab lk gx gt1)<|Vw (ZaG lk)<|Vw (ZaZ lk lk)<|sn'<|?_
 refine cd' lk (fun hc1=>?_) (fun hc1=>?_)
 ·have hj:j<es.length:=by omega
  refine Zad<|Zae<|Zag<|Zam<|wr'<|mv' lkn pt7<|Zaq<|Za1 (ALe.wkAt gt7 (Wk.nilF (st':=3)) pt7)<|Zag<|wr'<|V' (Zac lk3) pt21<|V' (Zab lk21 gx gt1) pt22<|?_
  refine mv' lk pt ?_
  refine V' (ZaJ lk lk Zb5 (nb' rfl) ro om ro rfl) pt ?_
  refine Vw (ZaR lk dp1)<|Vw (Zar lk gt)<|Vw (ZcF lk lks)<|sn'<|?_
  refine cd' lk (fun hc2=>?_) (fun hc2=>?_)
  ·have hT:ZaP a es[j]=(Zbe a es[j].2.1 es[j].1).1:=if_neg hc2
   refine Zag<|Za2<|Dw (Zac lk)<|Dw (Zab lk gx gt0)<|Dw (Zac lk)<|Dw (Zab lk gx gt1)<|Dw vm<|?_
   refine D' (ZaJ lk lk Zb5 (nb' rfl) ro om ro rfl) pt ?_
   refine Dw (ZaR lk dp1)<|Dw (Zar lk gt)<|Dw (Zac lk)<|Dw (Zab lk gx gt1)<|Dw vm<|?_
   refine D' (ZaJ lk lk Zb5 (nb' rfl) ro om ro rfl) pt ?_
   refine Dw (ZaR lk dp0)<|Dw (Zar lk gt)<|?_
   refine ZaV mp (fun hE hX=>ZpJ hok ha) pt ?_
   refine Dw vm<|Dw (Zbi lk gt)<|Dw (Zbi lk gt)<|Dw vm<|Dw vm<|Za8<|?_
   refine Zby ?_
   refine sn'<|Zat<|mw<|mw<|sn'<|Zat<|Vw (Zac lk)<|Vw (Zab lk gx gt3)<|mw<|E' (Zda (Zgg cv rfl) (hl5 hn) ha5) pt<|?_
   refine E' (Zce (ZbF lk gx rfl Znu (nb' rfl)) lk gx ((Zlm _).trans (by rw[htl])) om rfl (hs4 hn)) pt ?_
   refine Vw (Zac lk)<|E' (Zaj lk cv gx rfl (nb' rfl) rfl ZkQ (hs3 hn)) ptn<|Zaq<|ZaA<|Zae<|Zat<|mw<|?_
   refine V' (Zax lk lki om om) pt ?_
   refine mw<|Zaq<|ZaB<|?_
   refine lU' (j+1) (by (try dsimp only);omega) (by (try dsimp only);(try simp only[sm',Nat.reduceAdd]);exact bk' 5 hn hlt (by rw[List.take_succ_eq_append_getElem hj,ZaO,Za5];unfold tmsE;rw[hT];rfl))
  have hT:ZaP a es[j]=[]:=if_pos (Decidable.of_not_not hc2)
  refine Zad<|Zae<|Zat<|Vw (Zac lk)<|Vw (Zab lk gx gt3)<|mw<|E' (Zda (Zgg cv rfl) (hl5 hn) ha5) pt<|?_
  refine E' (Zce (ZbF lk gx rfl Znu (nb' rfl)) lk gx ((Zlm _).trans (by rw[htl])) om rfl (hs4 hn)) pt ?_
  refine Vw (Zac lk)<|E' (Zaj lk cv gx rfl (nb' rfl) rfl ZkQ (hs3 hn)) ptn<|Zaq<|ZaA<|Zae<|Zat<|mw<|?_
  refine V' (Zax lk lki om om) pt ?_
  refine mw<|Zaq<|ZaB<|?_
  refine lU' (j+1) (by (try dsimp only);omega) (by (try dsimp only);(try simp only[sm',Nat.reduceAdd]);exact bk' 5 hn hlt (by rw[List.take_succ_eq_append_getElem hj,ZaO,Za5];unfold tmsE;rw[hT];rfl))
 have hje:j=es.length:=by omega
 subst hje
 rw[List.take_length] at htl ⊢
 refine ZaD<|Zay<|Zay<|ZaU<|?_
 refine Za1 (ALe.iceCellR gx gx om gt3 (List.take_of_length_le (by rw[Zlm,htl];omega)) (by rw[Zlm,htl];omega) pt3 (hs4 hn) (hs3 hn)) ?_
 refine wr'<|Vw (Zao lk gx ZkN rfl)<|E' (Zaj lk cv gx rfl (nb' rfl) rfl ZkR (hs2 hn)) ptn<|sn'<|Zaa<|Zah (rs1 (rr_c gt gx (ld1 ZkN rfl)))<|rtW'<|?_
 exact Wk.agg (wk1 rfl (wk1 rfl (wk1 rfl (wkw Wk.full wk0))))
theorem Zil : ∀ {l:List Tim}{sa:Int}{lt:ByteArray}{at_:Int},(∀ t∈l,(0≤t.2.1∧t.2.1≤10800)∧t.2.2.size≤24)→(0≤sa∧sa≤10800)→lt.size≤24→(0≤(Zc1 sa lt l at_).1∧(Zc1 sa lt l at_).1≤10800)∧(Zc1 sa lt l at_).2.size≤24
 | [],sa,lt,at_,_,h2,h3=>⟨h2,h3⟩
 | t::l,sa,lt,at_,h1,h2,h3=>by
  rw[Zc1]
  have ht:=h1 t (by simp)
  split
  ·exact Zil (fun x hx=>h1 x (by simp[hx])) ht.1 ht.2
  exact Zil (fun x hx=>h1 x (by simp[hx])) h2 h3
theorem Ztc {a:List Rul}{nm:ByteArray}{es:List Era}{n:Int}{h:AH}(hz:okZ es):Ac 84 [.agg [sv nm,.sl es.length 10 false (rows eraC es),.sl (ZaN es).length 1 false (rows intC (ZaN es)),.sl es.length 1 false (rows (tmsE a) es)],iv n] h (.agg (locC3 (Zbf a es n))):=by
 have hlen:=hz.len
 have hel:=Zc9 es
 have hkl:=kAt_lt hz.ne n
 have hke:=Zp5 (ZaN es) n
 refine tI' k84 fun N hn hlt hlA hbd=>?_
 simp only[tb'] at hbd ⊢
 refine wr'<|E' (Zbc cv rfl (hl0 hn) ha0) pt<|E' (Za7 (hl1 hn) ha1) pt<|Zaq<|?_
 refine Za1 (ALe.icePtr gx gt2 (by simp) pt2 (hs0 hn)) ?_
 refine wr'<|mw<|sn'<|Zag<|Zam<|?_
 refine w_lp (ι:=Nat) (fun (i:Nat)=>[(5,iv (i:Int))]++rn' 10 16) (fun (i:Nat)=>[]) (fun (i:Nat)=>i≤kAt (ZaN es) n) (fun (i:Nat)=>kAt (ZaN es) n-i) (0) (by exact Nat.zero_le _) ?_
 rintro i hi1
 try simp only[sm',Nat.reduceAdd]
 replace hi1:i≤kAt (ZaN es) n:=hi1
 refine Zag<|wr'<|mw<|Vw (ZaR lk dp2)<|Vw (Zar lk gt)<|Vw (ZaG lk)<|Vw (ZaZ lk lk)<|mw<|?_
 refine sp' (t:=15) gt pt pt (fun hg15=>?_) (fun hg15=>?_)
 ·have hst:=Zp4 (a:=n) (show i<(ZaN es).length by omega) hi1
  refine s_do gt<|Vw (ZaR lk dp2)<|s_do gt<|Vw (Zar lk gt)<|s_do gt<|mw<|s_do gt<|?_
  refine V' (ZaJ lk lk Za6 (nb' rfl) ro om ro rfl) pt ?_
  refine s_do gt<|Vw (Zar lk gt)<|s_do gt<|mw<|s_do gt<|Vw (Zc0 lk lk)<|Vw (Zal lk lk)<|sn'<|?_
  refine cd' lk (fun hc1=>?_) (fun hc1=>?_)
  ·have hi2:=hst.1 hc1
   refine Zad<|Zae<|Zam<|Zat<|mw<|?_
   refine V' (Zax lk lki om om) pt ?_
   refine mw<|Zaq<|ZaA<|ZaB<|?_
   refine lT' (i+1) (by (try dsimp only);omega)
  have hie:i=kAt (ZaN es) n:=by have:¬i+1≤kAt (ZaN es) n:=fun h=>hc1 (hst.2 h);omega
  have hx:=ZtB hz (List.getElem_mem hkl)
  subst hie
  refine ZaD<|Zay<|Zay<|ZaU<|Zae<|wr'<|Vw (ZaR lk dp0)<|Vw (ZaR lk dp1)<|Vw (Zar lk gt)<|mw<|?_
  refine V' (ZaJ (k:=kAt (ZaN es) n) lk lk Zb5 (nb' rfl) ro om ro rfl) pt ?_
  refine Vw (ZaF lk ZkM rfl)<|E' (Za7 (hl2 hn) ha2) pt<|E' (Zaj lk cv gx rfl (nb' rfl) rfl Zjo (hs2 hn)) ptn<|sn'<|wr'<|Vw (Zac lk)<|Vw (Zab lk gx gt2)<|mw<|mw<|sn'<|Zag<|?_
  refine wr'<|mw<|sn'<|Zam<|?_
  refine w_lp (ι:=Nat) (fun (j:Nat)=>[(7,iv (Zc1 (xSv es[kAt (ZaN es) n]) ⟨#[]⟩ ((ZaP a es[kAt (ZaN es) n]).take j) n).1),(8,sv (Zc1 (xSv es[kAt (ZaN es) n]) ⟨#[]⟩ ((ZaP a es[kAt (ZaN es) n]).take j) n).2),(9,iv (j:Int))]++rn' 34 39) (fun (j:Nat)=>[]) (fun (j:Nat)=>j≤(ZaP a es[kAt (ZaN es) n]).length) (fun (j:Nat)=>(ZaP a es[kAt (ZaN es) n]).length-j) (0) (by exact Nat.zero_le _) ?_
  rintro j hi2
  try simp only[sm',Nat.reduceAdd]
  replace hi2:j≤(ZaP a es[kAt (ZaN es) n]).length:=hi2
  have hxl:=ZcV (rl:=a) (x:=es[kAt (ZaN es) n])
  refine Zag<|wr'<|mw<|Vw (ZaR lk dp3)<|Vw (Zar lk gt)<|mw<|?_
  refine V' (ZaJ (k:=kAt (ZaN es) n) lk lk ZeM (nb' rfl) ro om ro rfl) pt ?_
  refine V' (Zar lk gt) pt ?_
  refine V' ((by first | exact ZaG lk | exact Zb7 lk)) pt ?_
  refine Vw (ZaZ lk lk)<|sn'<|?_
  refine cd' lk (fun hc2=>?_) (fun hc2=>?_)
  ·have hj:j<(ZaP a es[kAt (ZaN es) n]).length:=by omega
   have hpk:=Zey ((ZaP a es[kAt (ZaN es) n]).take j) (ZaP a es[kAt (ZaN es) n])[j] (xSv es[kAt (ZaN es) n]) ⟨#[]⟩ n
   rw[←List.take_succ_eq_append_getElem hj] at hpk
   refine Zad<|Zae<|Zag<|Zam<|wr'<|Vw (ZaR lk dp3)<|Vw (Zar lk gt)<|mw<|?_
   refine V' (ZaJ (k:=kAt (ZaN es) n) lk lk ZeM (nb' rfl) ro om ro rfl) pt ?_
   refine Vw (Zar lk gt)<|mw<|?_
   refine V' (ZaJ lk lk ZdJ (nb' rfl) ro om ro rfl) pt ?_
   refine Vw (ZaR lk dp0)<|Vw (Zar lk gt)<|mw<|Vw (Zc0 lk lk)<|sn'<|?_
   refine cd' lk (fun hc3=>?_) (fun hc3=>?_)
   ·rw[if_pos hc3] at hpk
    refine Za2<|Dw (ZaR lk dp3)<|Dw (Zar lk gt)<|Dw vm<|?_
    refine D' (ZaJ lk lk (fun _=>rfl) (nb' rfl) ro om ro rfl) pt ?_
    refine Dw (Zar lk gt)<|Dw vm<|?_
    refine D' (ZaJ lk lk ZdJ (nb' rfl) ro om ro rfl) pt ?_
    refine Dw (ZaR lk dp1)<|Dw (Zar lk gt)<|Dw (ZaR lk dp3)<|Dw (Zar lk gt)<|Dw vm<|?_
    refine D' (ZaJ lk lk (fun _=>rfl) (nb' rfl) ro om ro rfl) pt ?_
    refine Dw (Zar lk gt)<|Dw vm<|?_
    refine D' (ZaJ lk lk ZdJ (nb' rfl) ro om ro rfl) pt ?_
    refine Dw (ZaR lk dp2)<|Dw (Zar lk gt)<|Dw vm<|Dw vm<|Za8<|?_
    refine Zby ?_
    refine Zaq<|ZaA<|Zae<|Zat<|mw<|?_
    refine V' (Zax lk lki om om) pt ?_
    refine mw<|Zaq<|ZaB<|?_
    refine lU' (j+1) (by (try dsimp only);omega) (by (try dsimp only);(try simp only[sm',Nat.reduceAdd]);exact ALe.same (by repeat (first | exact wk0 | refine wka ?_ | refine wk1 rfl ?_ | refine wk1 (by first | rfl | exact ivx om | (rw[hpk])) ?_)) rfl)
   rw[if_neg hc3] at hpk
   refine Zad<|ZaA<|Zae<|Zat<|mw<|?_
   refine V' (Zax lk lki om om) pt ?_
   refine mw<|Zaq<|ZaB<|?_
   refine lU' (j+1) (by (try dsimp only);omega) (by (try dsimp only);(try simp only[sm',Nat.reduceAdd]);exact ALe.same (by repeat (first | exact wk0 | refine wka ?_ | refine wk1 rfl ?_ | refine wk1 (by first | rfl | exact ivx om | (rw[hpk])) ?_)) rfl)
  rw[List.take_of_length_le (show (ZaP a es[kAt (ZaN es) n]).length≤j by omega)]
  have hpb:=Zil (l:=ZaP a es[kAt (ZaN es) n]) (at_:=n) (fun t ht=>(ZfM ht).2) hx.sv (show (⟨#[]⟩:ByteArray).size≤24 by decide)
  have hsh : -64800≤es[kAt (ZaN es) n].1∧es[kAt (ZaN es) n].1≤64800:=hx.sh
  have hTG:=ZnX (rl:=a) (a:=n) hkl
  refine ZaD<|Zay<|Zay<|ZaU<|Zae<|Zag<|Za2<|Dw (Zac lk)<|Dw (Zab lk gx gt0)<|Dw vm<|?_
  refine D' (Zax lk lk om om) pt ?_
  refine Dw vm<|Dw (Zac lk)<|Dw (Zab lk gx gt3)<|Dw vm<|Dw vm<|?_
  refine ZaV mp (fun hE hX=>ZmG hx.fm hpb.2 hpb.1.1) pt ?_
  refine Dw (Zaw (ZkT cv rfl cv rfl cv rfl))<|Za8<|?_
  refine Zby ?_
  refine E' (Zaj lk cv gx rfl (nb' rfl) rfl ZkS (hs1 hn)) ptn<|sn'<|Zaa<|Zah (rs1 (rr_c gt gx (ld1 ZkO rfl)))<|rT'<|?_
  rw[hTG];rfl
 have hie:i=kAt (ZaN es) n:=by omega
 have hx:=ZtB hz (List.getElem_mem hkl)
 subst hie
 refine so<|so<|so<|so<|so<|so<|so<|Vw (Zak lk lkb)<|sn'<|ZaT lk<|ZaD<|Zay<|Zay<|?_
 refine ZaU<|Zae<|wr'<|Vw (ZaR lk dp0)<|Vw (ZaR lk dp1)<|Vw (Zar lk gt)<|mw<|?_
 refine V' (ZaJ (k:=kAt (ZaN es) n) lk lk Zb5 (nb' rfl) ro om ro rfl) pt ?_
 refine Vw (ZaF lk ZkM rfl)<|E' (Za7 (hl2 hn) ha2) pt<|E' (Zaj lk cv gx rfl (nb' rfl) rfl Zjo (hs2 hn)) ptn<|sn'<|wr'<|Vw (Zac lk)<|Vw (Zab lk gx gt2)<|mw<|mw<|sn'<|Zag<|?_
 refine wr'<|mw<|sn'<|Zam<|?_
 refine w_lp (ι:=Nat) (fun (j:Nat)=>[(7,iv (Zc1 (xSv es[kAt (ZaN es) n]) ⟨#[]⟩ ((ZaP a es[kAt (ZaN es) n]).take j) n).1),(8,sv (Zc1 (xSv es[kAt (ZaN es) n]) ⟨#[]⟩ ((ZaP a es[kAt (ZaN es) n]).take j) n).2),(9,iv (j:Int))]++rn' 34 39) (fun (j:Nat)=>[]) (fun (j:Nat)=>j≤(ZaP a es[kAt (ZaN es) n]).length) (fun (j:Nat)=>(ZaP a es[kAt (ZaN es) n]).length-j) (0) (by exact Nat.zero_le _) ?_
 rintro j hi2
 try simp only[sm',Nat.reduceAdd]
 replace hi2:j≤(ZaP a es[kAt (ZaN es) n]).length:=hi2
 have hxl:=ZcV (rl:=a) (x:=es[kAt (ZaN es) n])
 refine Zag<|wr'<|mw<|Vw (ZaR lk dp3)<|Vw (Zar lk gt)<|mw<|?_
 refine V' (ZaJ (k:=kAt (ZaN es) n) lk lk ZeM (nb' rfl) ro om ro rfl) pt ?_
 refine V' (Zar lk gt) pt ?_
 refine V' ((by first | exact ZaG lk | exact Zb7 lk)) pt ?_
 refine Vw (ZaZ lk lk)<|sn'<|?_
 refine cd' lk (fun hc2=>?_) (fun hc2=>?_)
 ·have hj:j<(ZaP a es[kAt (ZaN es) n]).length:=by omega
  have hpk:=Zey ((ZaP a es[kAt (ZaN es) n]).take j) (ZaP a es[kAt (ZaN es) n])[j] (xSv es[kAt (ZaN es) n]) ⟨#[]⟩ n
  rw[←List.take_succ_eq_append_getElem hj] at hpk
  refine Zad<|Zae<|Zag<|Zam<|wr'<|Vw (ZaR lk dp3)<|Vw (Zar lk gt)<|mw<|?_
  refine V' (ZaJ (k:=kAt (ZaN es) n) lk lk ZeM (nb' rfl) ro om ro rfl) pt ?_
  refine Vw (Zar lk gt)<|mw<|?_
  refine V' (ZaJ lk lk ZdJ (nb' rfl) ro om ro rfl) pt ?_
  refine Vw (ZaR lk dp0)<|Vw (Zar lk gt)<|mw<|Vw (Zc0 lk lk)<|sn'<|?_
  refine cd' lk (fun hc3=>?_) (fun hc3=>?_)
  ·rw[if_pos hc3] at hpk
   refine Za2<|Dw (ZaR lk dp3)<|Dw (Zar lk gt)<|Dw vm<|?_
   refine D' (ZaJ lk lk (fun _=>rfl) (nb' rfl) ro om ro rfl) pt ?_
   refine Dw (Zar lk gt)<|Dw vm<|?_
   refine D' (ZaJ lk lk ZdJ (nb' rfl) ro om ro rfl) pt ?_
   refine Dw (ZaR lk dp1)<|Dw (Zar lk gt)<|Dw (ZaR lk dp3)<|Dw (Zar lk gt)<|Dw vm<|?_
   refine D' (ZaJ lk lk (fun _=>rfl) (nb' rfl) ro om ro rfl) pt ?_
   refine Dw (Zar lk gt)<|Dw vm<|?_
   refine D' (ZaJ lk lk ZdJ (nb' rfl) ro om ro rfl) pt ?_
   refine Dw (ZaR lk dp2)<|Dw (Zar lk gt)<|Dw vm<|Dw vm<|Za8<|?_
   refine Zby ?_
   refine Zaq<|ZaA<|Zae<|Zat<|mw<|?_
   refine V' (Zax lk lki om om) pt ?_
   refine mw<|Zaq<|ZaB<|?_
   refine lU' (j+1) (by (try dsimp only);omega) (by (try dsimp only);(try simp only[sm',Nat.reduceAdd]);exact ALe.same (by repeat (first | exact wk0 | refine wka ?_ | refine wk1 rfl ?_ | refine wk1 (by first | rfl | exact ivx om | (rw[hpk])) ?_)) rfl)
  rw[if_neg hc3] at hpk
  refine Zad<|ZaA<|Zae<|Zat<|mw<|?_
  refine V' (Zax lk lki om om) pt ?_
  refine mw<|Zaq<|ZaB<|?_
  refine lU' (j+1) (by (try dsimp only);omega) (by (try dsimp only);(try simp only[sm',Nat.reduceAdd]);exact ALe.same (by repeat (first | exact wk0 | refine wka ?_ | refine wk1 rfl ?_ | refine wk1 (by first | rfl | exact ivx om | (rw[hpk])) ?_)) rfl)
 rw[List.take_of_length_le (show (ZaP a es[kAt (ZaN es) n]).length≤j by omega)]
 have hpb:=Zil (l:=ZaP a es[kAt (ZaN es) n]) (at_:=n) (fun t ht=>(ZfM ht).2) hx.sv (show (⟨#[]⟩:ByteArray).size≤24 by decide)
 have hsh : -64800≤es[kAt (ZaN es) n].1∧es[kAt (ZaN es) n].1≤64800:=hx.sh
 have hTG:=ZnX (rl:=a) (a:=n) hkl
 refine ZaD<|Zay<|Zay<|ZaU<|Zae<|Zag<|Za2<|Dw (Zac lk)<|Dw (Zab lk gx gt0)<|Dw vm<|?_
 refine D' (Zax lk lk om om) pt ?_
 refine Dw vm<|Dw (Zac lk)<|Dw (Zab lk gx gt3)<|Dw vm<|Dw vm<|?_
 refine ZaV mp (fun hE hX=>ZmG hx.fm hpb.2 hpb.1.1) pt ?_
 refine Dw (Zaw (ZkT cv rfl cv rfl cv rfl))<|Za8<|?_
 refine Zby ?_
 refine E' (Zaj lk cv gx rfl (nb' rfl) rfl ZkS (hs1 hn)) ptn<|sn'<|Zaa<|Zah (rs1 (rr_c gt gx (ld1 ZkO rfl)))<|rT'<|?_
 rw[hTG];rfl
end Go.Proofs.YtlekejpogddndaaGreatDoor
end
section
namespace Go.Proofs.YtlekejpogddndaaGreatDoor
open Go.Ab Go.RowKit Civ
attribute [local simp] Zbw ZbM ZbG ZbL Zcv Zd3 Zeb Zb9
section
theorem Zns {a0 a1 a2:AV}{l:List AV}:(a0::a1::a2::l).take 3=[a0,a1,a2]:=rfl
theorem Zhg {τ:Operand→AV}{y0:Operand}{x0_0:AV}(h0:Zav (τ y0)=some [x0_0]) (l0:[x0_0].all leaf=true):Zau τ [(0,1,y0)] [(.v (.string ⟨#[]⟩))]=some [x0_0]:=by
 simp only[Zau,h0,l0]
 rfl
theorem Znt {a0:AV}{l:List AV}:(a0::l).take 1=[a0]:=rfl
theorem Zhf {τ:Operand→AV}{y0:Operand}{x0_0:AV}(h0:Zav (τ y0)=some [x0_0]) (l0:[x0_0].all leaf=true):Zau τ [(0,1,y0)] [(.v (.string ⟨#[]⟩))]=some [x0_0]:=by
 simp only[Zau,h0,l0]
 rfl
theorem Zrr {a0 a1 a2 a3 a4 a5 a6 a7 a8 a9:AV}{l:List AV}:(a0::a1::a2::a3::a4::a5::a6::a7::a8::a9::l).take 10=[a0,a1,a2,a3,a4,a5,a6,a7,a8,a9]:=rfl
theorem ZoU {a0 a1 a2 a3 a4 a5 a6 a7 a8 a9 c0 c1 c2 c3 c4 c5 c6 c7 c8 c9:AV}{l:List AV}:setCells (a0::a1::a2::a3::a4::a5::a6::a7::a8::a9::l) 0 [c0,c1,c2,c3,c4,c5,c6,c7,c8,c9]=c0::c1::c2::c3::c4::c5::c6::c7::c8::c9::l:=rfl
theorem ZuT {a0 a1:AV}{l:List AV}:(a0::a1::l).take 2=[a0,a1]:=rfl
end
def c25:AC:=(Sr [Oo 1 (.box 26 3 (.tmp 0)),Mc 2 0] (Sr [Oo 22 (.load true 3 (.tmp 1)),Cl 23 79 [(.tmp 22)],Mv 3 23] (.seq (Sr [Mv 24 3,Bc 25 .neq 24 0] (Cd 25 (Sr [Mv 26 3,Mv 2 26] .ret) .skip)) (Sr [Oo 4 (.mv (.const (.slice none 0 0)))] (.seq (Sr [Mc 5 0] (.block 0 (.loop (.seq (Sr [Mv 27 5,Fa 28 1 1,Ld 29 28,Oo 30 (.len false (.tmp 29)),Bn 31 .lss 27 30] (Cd 31 .skip (.exit 0))) (.seq (.block 1 (.reg [Mv 34 4,Fa 35 1 1,Ld 36 35,Mv 37 5,Oo 38 (.ia 2 (.tmp 36) (.tmp 37)),Fa 39 0 38,Ld 40 39,Oo 41 (.lit 9 1 1 [Ss] [(0,(1,(.tmp 40)))]),Oo 42 (.app 9 1 16 (.tmp 34) (.tmp 41)),Mv 4 42])) (.reg [Mv 32 5,Bc 33 .add 32 1,Mv 5 33])))))) (.seq (Sr [Mc 6 0] (.block 2 (.loop (.seq (Sr [Mv 43 6,Fa 44 2 1,Ld 45 44,Oo 46 (.len false (.tmp 45)),Bn 47 .lss 43 46] (Cd 47 .skip (.exit 2))) (.seq (.block 3 (.reg [Mv 50 4,Fa 51 2 1,Ld 52 51,Mv 53 6,Oo 54 (.ia 2 (.tmp 52) (.tmp 53)),Fa 55 1 54,Ld 56 55,Oo 57 (.lit 9 1 1 [Ss] [(0,(1,(.tmp 56)))]),Oo 58 (.app 9 1 16 (.tmp 50) (.tmp 57)),Mv 4 58])) (.reg [Mv 48 6,Bc 49 .add 48 1,Mv 6 49])))))) (.seq (Sr [Mc 7 0] (.block 4 (.loop (.seq (Sr [Mv 59 7,Mv 60 4,Oo 61 (.len false (.tmp 60)),Bn 62 .lss 59 61] (Cd 62 .skip (.exit 4))) (.seq (.block 5 (Sr [Mc 8 0] (.block 6 (.loop (.seq (Sr [Mv 65 8,Mv 66 7,Bn 67 .lss 65 66] (Cd 67 .skip (.exit 6))) (.seq (.block 7 (Sd [Mv 70 4,Mv 71 7,Oo 72 (.ia 1 (.tmp 70) (.tmp 71)),Ld 73 72,Mv 74 4,Mv 75 8,Oo 76 (.ia 1 (.tmp 74) (.tmp 75)),Ld 77 76,Bn 78 .eql 73 77] (Cd 78 (Sr [Mc 2 6] .ret) .skip))) (.reg [Mv 68 8,Bc 69 .add 68 1,Mv 8 69]))))))) (.reg [Mv 63 7,Bc 64 .add 63 1,Mv 7 64])))))) (.seq (Sr [Mc 9 0] (.block 8 (.loop (.seq (Sr [Mv 79 9,Fa 80 2 1,Ld 81 80,Oo 82 (.len false (.tmp 81)),Bn 83 .lss 79 82] (Cd 83 .skip (.exit 8))) (.seq (.block 9 (Sd [Oo 86 (.load true 3 (.tmp 1)),Fa 87 2 1,Ld 88 87,Mv 89 9,Oo 90 (.ia 2 (.tmp 88) (.tmp 89)),Fa 91 0 90,Ld 92 91,Cl 93 80 [(.tmp 86),(.tmp 92)],Bc 94 .lss 93 0] (Cd 94 (Sr [Mc 2 5] .ret) .skip))) (.reg [Mv 84 9,Bc 85 .add 84 1,Mv 9 85])))))) (.seq (Sr [Mc 10 0] (.block 10 (.loop (.seq (Sr [Mv 95 10,Fa 96 1 1,Ld 97 96,Oo 98 (.len false (.tmp 97)),Bn 99 .lss 95 98] (Cd 99 .skip (.exit 10))) (.seq (.block 11 (Sr [Mc 11 0] (.block 12 (.loop (.seq (Sr [Mv 102 11,Fa 103 1 1,Ld 104 103,Mv 105 10,Oo 106 (.ia 2 (.tmp 104) (.tmp 105)),Fa 107 1 106,Ld 108 107,Oo 109 (.len false (.tmp 108)),Bn 110 .lss 102 109] (Cd 110 .skip (.exit 12))) (.seq (.block 13 (Sr [Fa 113 1 1,Ld 114 113,Mv 115 10,Oo 116 (.ia 2 (.tmp 114) (.tmp 115)),Fa 117 1 116,Ld 118 117,Mv 119 11,Oo 120 (.ia 10 (.tmp 118) (.tmp 119)),Fa 121 1 120,Ld 122 121,Oo 123 (.bin .eql (.tmp 122) (.const (.string ⟨#[]⟩))),Mv 12 123] (.seq (Sr [Mc 13 0] (.block 14 (.loop (.seq (Sr [Mv 124 13,Fa 125 0 1,Ld 126 125,Oo 127 (.len false (.tmp 126)),Bn 128 .lss 124 127] (Cd 128 .skip (.exit 14))) (.seq (.block 15 (.drw [Mv 131 12,Mv 132 131,Of 133 132 (.fa 0 (.tmp 1)),Of 134 132 (.load false 1 (.tmp 133)),Of 135 132 (mt 13),Of 136 132 (.ia 11 (.tmp 134) (.tmp 135)),Of 137 132 (.fa 0 (.tmp 136)),Of 138 132 (.load false 1 (.tmp 137)),Of 139 132 (.fa 1 (.tmp 1)),Of 140 132 (.load false 1 (.tmp 139)),Of 141 132 (mt 10),Of 142 132 (.ia 2 (.tmp 140) (.tmp 141)),Of 143 132 (.fa 1 (.tmp 142)),Of 144 132 (.load false 1 (.tmp 143)),Of 145 132 (mt 11),Of 146 132 (.ia 10 (.tmp 144) (.tmp 145)),Of 147 132 (.fa 1 (.tmp 146)),Of 148 132 (.load false 1 (.tmp 147)),Of 149 132 (.bin .eql (.tmp 138) (.tmp 148)),Oo 150 (.pick (.tmp 132) (.const (.bool true)) (.tmp 149)),Mv 12 150] [] [])) (.reg [Mv 129 13,Bc 130 .add 129 1,Mv 13 130])))))) (Sr [Mv 151 12,Oo 152 (.un .not (.tmp 151))] (Cd 152 (Sr [Mc 2 5] .ret) .skip))))) (.reg [Mv 111 11,Bc 112 .add 111 1,Mv 11 112]))))))) (.reg [Mv 100 10,Bc 101 .add 100 1,Mv 10 101])))))) (.seq (Sr [Mc 14 0] (.block 16 (.loop (.seq (Sr [Mv 153 14,Fa 154 1 1,Ld 155 154,Oo 156 (.len false (.tmp 155)),Bn 157 .lss 153 156] (Cd 157 .skip (.exit 16))) (.seq (.block 17 (Sr [Mc 15 0] (.block 18 (.loop (.seq (Sr [Mv 160 15,Fa 161 1 1,Ld 162 161,Mv 163 14,Oo 164 (.ia 2 (.tmp 162) (.tmp 163)),Fa 165 1 164,Ld 166 165,Oo 167 (.len false (.tmp 166)),Bn 168 .lss 160 167] (Cd 168 .skip (.exit 18))) (.seq (.block 19 (Sr [Fa 171 1 1,Ld 172 171,Mv 173 14,Oo 174 (.ia 2 (.tmp 172) (.tmp 173)),Fa 175 1 174,Ld 176 175,Mv 177 15,Oo 178 (.ia 10 (.tmp 176) (.tmp 177)),Oo 179 (.load true 10 (.tmp 178)),Oo 16 (.new 63 10 [(iv 0),Ss,(iv 0),Ss,(.v (.bool false)),(iv 0),(iv 0),(iv 0),(iv 0),(iv 0)]),⟨none,none,(.store 10 (.tmp 16) (.tmp 179))⟩] (.seq (Sr [Fa 180 1 16,Ld 181 180,Oo 182 (.bin .eql (.tmp 181) (.const (.string ⟨#[]⟩)))] (Cd 182 (.exit 19) .skip)) (Sr [Fa 184 0 1,Ld 185 184,Fa 186 1 16,Ld 187 186,Fa 188 0 16,Ld 189 188,Cl 190 81 [(.tmp 185),(.tmp 187),(.tmp 189)],Mv 183 190,Ex 191 183 0,Ex 192 183 1,Mv 17 191,Mv 18 192] (Sr [Mv 193 18,Bc 194 .neq 193 0] (Cd 194 (Sr [Mv 195 18,Mv 2 195] .ret) .skip)))))) (.reg [Mv 169 15,Bc 170 .add 169 1,Mv 15 170]))))))) (.reg [Mv 158 14,Bc 159 .add 158 1,Mv 14 159])))))) (.seq (Sr [Mc 19 0] (.block 20 (.loop (.seq (Sr [Mv 196 19,Fa 197 1 1,Ld 198 197,Oo 199 (.len false (.tmp 198)),Bn 200 .lss 196 199] (Cd 200 .skip (.exit 20))) (.seq (.block 21 (Sr [Fa 203 1 1,Ld 204 203,Mv 205 19,Oo 206 (.ia 2 (.tmp 204) (.tmp 205)),Oo 207 (.load true 2 (.tmp 206)),Cl 208 82 [(.tmp 207)],Mv 20 208] (Sr [Mc 21 1] (.block 22 (.loop (.seq (Sr [Mv 209 21,Mv 210 20,Oo 211 (.len false (.tmp 210)),Bn 212 .lss 209 211] (Cd 212 .skip (.exit 22))) (.seq (.block 23 (Sd [Mv 215 20,Mv 216 21,Oo 217 (.ia 1 (.tmp 215) (.tmp 216)),Ld 218 217,Mv 219 20,Mv 220 21,Bc 221 .sub 220 1,Oo 222 (.ia 1 (.tmp 219) (.tmp 221)),Ld 223 222,Bn 224 .leq 218 223] (Cd 224 (Sr [Mc 2 4] .ret) .skip))) (.reg [Mv 213 21,Bc 214 .add 213 1,Mv 21 214])))))))) (.reg [Mv 201 19,Bc 202 .add 201 1,Mv 19 202])))))) (Sr [Mc 2 0] .ret))))))))))))
theorem k25:ZaE Tryz.prog 25=some ⟨c25,[(.tmp 2)],225⟩:=by kernel_rfl
theorem ZqX {l:List ByteArray}{i:Nat}(hi:i<l.length) (h:(l.take i).Nodup) (hn : ∀ m (hm:m<l.length),m<i→l[m]≠l[i]):(l.take (i+1)).Nodup:=by
 rw[List.take_succ_eq_append_getElem hi,List.nodup_append]
 refine⟨h,by simp,fun x hx y hy=>?_⟩
 simp only[List.mem_singleton] at hy
 subst hy
 obtain⟨m,hm,rfl⟩:=List.getElem_of_mem hx
 rw[List.length_take] at hm
 rw[List.getElem_take]
 exact hn m om om
theorem ZtG {l:List ByteArray}{i j:Nat}(hi:i<l.length) (hj:j<i) (h:l[i]=l[j]'(by omega)):¬l.Nodup:=fun hn=>List.pairwise_iff_getElem.1 hn j i om hi hj h.symm
theorem ZoA {p:Era→Int}{l m r:List Era}{x:Era}(hl : ∀ y∈l,p y=0) (hm : ∀ y∈m,p y=0) (hx:p x≠0):Za3 p (l++(m++x::r))=p x:=by
 rw[Zgq,Znb (p:=fun x=>decide (p x≠0)) (fun y hy=>by simp[hl y hy]) (fun y hy=>by simp[hm y hy]) (by simp[hx])]
theorem Zja {p:Era→Int}{l:List Era}(h : ∀ y∈l,p y=0):Za3 p l=0:=by
 rw[Zgq,List.find?_eq_none.2 (fun y hy=>by simp[h y hy])]
theorem Ztn {a:List Rul}{z:List Zon}{k:List Lnk}{h:AH}(hok:Zft (a,z,k)):Ac 25 [.agg (srcB a z k)] h (iv (ZbO (a,z,k))):=by
 refine tI' k25 fun N hn hlt hlA hbd=>?_
 simp only[tb'] at hbd ⊢
 refine wr'<|E' (Zbc cv rfl (hl0 hn) ha0) pt<|mw<|Zaq<|?_
 refine Za1 (ALe.icePtr gx gt1 (by simp) pt1 (hs0 hn)) ?_
 refine wr'<|Vw (ZaF lk Zns rfl)<|Zaf mp (ZmL hok) pt<|mw<|sn'<|Zag<|wr'<|mw<|Vw (Za9 lk lki)<|sn'<|?_
 refine cd' lk (fun hc1=>?_) (fun hc1=>?_)
 ·have hZ:ZbO (a,z,k)=ZbU (a,z,k):=if_pos hc1
  refine wr'<|mw<|mw<|sn'<|Zaa<|Zai<|Zah rz<|rT'<|?_
  rw[hZ]
 have hc:ZbU (a,z,k)=0:=Decidable.of_not_not hc1
 obtain⟨q1,q2,q3,q4,q5,q6,q7⟩:=Zdv hc
 simp only at q1 q2 q3 q4 q5 q6 q7
 have hZ:ZbO (a,z,k)=if ¬(Zci z k).Nodup then 6 else if Zfu (a,z,k)=true then 5 else if Za3 (errX a) (ZcT z)≠0 then Za3 (errX a) (ZcT z) else if (z.any fun z=>!risL (ZaN z.2))=true then 4 else 0:=by unfold ZbO;rw[if_neg (by rw[hc];simp)]
 have hokR:=ZlG hok
 have hnl:=ZfQ z k
 refine Zad<|Zae<|wr'<|mv' lkn pt4<|Zaq<|Za1 (ALe.own0' (st':=1) (ty:=9) gt4 (hl1 hn) pt4 ha1)<|Zag<|wr'<|mv' lki pt5<|sn'<|Zam<|?_
 refine w_lp (ι:=Nat) (fun (i:Nat)=>[(4,.own (N+1) i i),(5,iv (i:Int))]++rn' 27 16) (fun (i:Nat)=>[(1,.mk i 9 1 (rows strC ((z.map (·.1)).take i)))]) (fun (i:Nat)=>i≤z.length) (fun (i:Nat)=>z.length-i) (0) (by exact Nat.zero_le _) ?_
 rintro i hi1
 try simp only[sm',Nat.reduceAdd]
 replace hi1:i≤z.length:=hi1
 have htl:((z.map (·.1)).take i).length=i:=by rw[List.length_take,List.length_map];omega
 refine Zag<|wr'<|mw<|Vw (ZaR lk dp1)<|Vw (Zar lk gt)<|Vw (ZaG lk)<|Vw (ZaZ lk lk)<|sn'<|?_
 refine cd' lk (fun hc2=>?_) (fun hc2=>?_)
 ·have hi:i<z.length:=by omega
  have htk:(z.map (·.1)).take (i+1)=(z.map (·.1)).take i++[z[i].1]:=by rw[List.take_succ_eq_append_getElem (by simpa using hi)];simp
  refine Zad<|Zae<|Zag<|Zam<|Zat<|mw<|Vw (ZaR lk dp1)<|Vw (Zar lk gt)<|mw<|?_
  refine V' (ZaJ lk lk ZbI (nb' rfl) ro om ro rfl) pt ?_
  refine Vw (ZaR lk dp0)<|Vw (Zar lk gt)<|E' (Zda (Zhg cv rfl) (hl2 hn) ha2) pt<|?_
  refine E' (Zce (ZbF lk gx rfl Znt (nb' rfl)) lk gx ((Zd0 _).trans (by rw[htl])) om rfl (hs1 hn)) pt ?_
  refine mw<|Zaq<|ZaA<|Zae<|Zat<|mw<|?_
  refine V' (Zax lk lki om om) pt ?_
  refine mw<|Zaq<|ZaB<|?_
  refine lU' (i+1) (by (try dsimp only);omega) (by (try dsimp only);(try simp only[sm',Nat.reduceAdd]);exact bk' 2 hn hlt (by rw[htk,ZaO,Zhz];rfl))
 have hie:i=z.length:=by omega
 subst hie
 rw[show (z.map (·.1)).take z.length=z.map (·.1) from List.take_of_length_le (by simp)]
 refine ZaD<|Zay<|Zay<|ZaU<|Zae<|Zag<|wr'<|mw<|sn'<|Zam<|?_
 refine Zeq (ι:=Nat) (fun (j:Nat)=>[(4,.own (N+1) (z.length+j) (z.length+j)),(6,iv (j:Int))]++rn' 43 16) (fun (j:Nat)=>[(1,.mk (z.length+j) 9 1 (rows strC (z.map (·.1)++(k.map (·.2)).take j)))]) (fun (j:Nat)=>j≤k.length) (fun (j:Nat)=>k.length-j) (0) (by exact Nat.zero_le _) (by try simp only[sm',Nat.reduceAdd];exact ALe.same wA' (by rw[List.take_zero,List.append_nil];rfl)) ?_
 rintro j hi2
 try simp only[sm',Nat.reduceAdd]
 replace hi2:j≤k.length:=hi2
 have htl2:(z.map (·.1)++(k.map (·.2)).take j).length=z.length+j:=by rw[List.length_append,List.length_map,List.length_take,List.length_map];omega
 refine Zag<|wr'<|mw<|Vw (ZaR lk dp2)<|Vw (Zar lk gt)<|Vw (ZaG lk)<|Vw (ZaZ lk lk)<|sn'<|?_
 refine cd' lk (fun hc3=>?_) (fun hc3=>?_)
 ·have hj:j<k.length:=by omega
  have htk2:(k.map (·.2)).take (j+1)=(k.map (·.2)).take j++[k[j].2]:=by rw[List.take_succ_eq_append_getElem (by simpa using hj)];simp
  refine Zad<|Zae<|Zag<|Zam<|Zat<|mw<|Vw (ZaR lk dp2)<|Vw (Zar lk gt)<|mw<|?_
  refine V' (ZaJ lk lk ZcM (nb' rfl) ro om ro rfl) pt ?_
  refine Vw (ZaR lk dp1)<|Vw (Zar lk gt)<|E' (Zda (Zhf cv rfl) (hl2 hn) ha2) pt<|?_
  refine E' (Zce (ZbF lk gx rfl Znt (nb' rfl)) lk gx ((Zd0 _).trans (by rw[htl2])) om rfl (hs1 hn)) pt ?_
  refine mw<|Zaq<|ZaA<|Zae<|Zat<|mw<|?_
  refine V' (Zax lk lki om om) pt ?_
  refine mw<|Zaq<|ZaB<|?_
  refine lU' (j+1) (by (try dsimp only);omega) (by (try dsimp only);(try simp only[sm',Nat.reduceAdd]);exact bk' 2 hn hlt (by simp only[htk2,ZaO,Zhz,List.append_assoc];rfl))
 have hje:j=k.length:=by omega
 subst hje
 rw[show (k.map (·.2)).take k.length=k.map (·.2) from List.take_of_length_le (by simp),show z.map (·.1)++k.map (·.2)=Zci z k from rfl,←hnl]
 refine ZaD<|Zay<|Zay<|ZaU<|Zae<|Zag<|wr'<|mw<|sn'<|Zam<|?_
 refine w_lp (ι:=Nat) (fun (i3:Nat)=>[(7,iv (i3:Int)),(2,.any),(8,.any)]++rn' 59 20) (fun (i3:Nat)=>[]) (fun (i3:Nat)=>i3≤(Zci z k).length∧((Zci z k).take i3).Nodup) (fun (i3:Nat)=>(Zci z k).length-i3) (0) (by exact⟨Nat.zero_le _,by simp⟩) ?_
 rintro i3 hi3
 try simp only[sm',Nat.reduceAdd]
 obtain⟨hn3,hd3⟩:=hi3
 refine Zag<|wr'<|mw<|mw<|Vw (Zb7 lk)<|Vw (ZaZ lk lk)<|sn'<|?_
 refine cd' lk (fun hc4=>?_) (fun hc4=>?_)
 ·have hi3':i3<(Zci z k).length:=by omega
  refine Zad<|Zae<|Zag<|Zam<|wr'<|mw<|sn'<|Zam<|?_
  refine w_lp (ι:=Nat) (fun (j4:Nat)=>[(8,iv (j4:Int)),(2,.any)]++rn' 65 14) (fun (j4:Nat)=>[]) (fun (j4:Nat)=>j4≤i3 ∧ ∀ m (hm:m<(Zci z k).length),m<j4→(Zci z k)[m]≠(Zci z k)[i3]) (fun (j4:Nat)=>i3-j4) (0) (by exact⟨Nat.zero_le _,fun m _ h=>by omega⟩) ?_
  rintro j4 hi4
  try simp only[sm',Nat.reduceAdd]
  obtain⟨hn4,hd4⟩:=hi4
  refine Zag<|wr'<|mw<|mw<|Vw (ZaZ lk lk)<|sn'<|?_
  refine cd' lk (fun hc5=>?_) (fun hc5=>?_)
  ·have hj4:j4<i3:=by omega
   refine Zad<|Zae<|Zag<|Zam<|Zag<|Za2<|Dw vm<|Dw vm<|?_
   refine D' (Zbq lk lk gx ZbJ (nb' rfl) ro om (by first | rfl | (simp;done) | omega)) pt ?_
   refine D' (ZdU lk gx ZbJ om rfl) pt ?_
   refine Dw vm<|Dw vm<|?_
   refine D' (Zbq lk lk gx ZbJ (nb' rfl) ro om (by first | rfl | (simp;done) | omega)) pt ?_
   refine D' (ZdU lk gx ZbJ om rfl) pt ?_
   refine D' ((by first | exact ZaX lk lk | exact Zch lk lk)) pt ?_
   refine Za8 ?_
   refine Zby ?_
   refine sn' ?_
   refine cd' lk (fun hc6=>?_) (fun hc6=>?_)
   ·have hnd:=ZtG hi3' hj4 hc6
    refine wr'<|mw<|sn'<|Zaa<|Zas<|Zai<|Zai<|Zas<|Zas<|Zai<|Zai<|Zas<|?_
    refine Zai<|Zah rz<|rT'<|?_
    rw[hZ,if_pos hnd]
   refine Zad<|ZaA<|Zae<|Zat<|mw<|?_
   refine V' (Zax lk lki om om) pt ?_
   refine mw<|Zaq<|ZaB<|?_
   refine lT' (j4+1) (by (try dsimp only);refine⟨by omega,fun m hm h=>?_⟩;by_cases e:m=j4;(subst e;exact fun e=>hc6 e.symm);exact hd4 m hm om)
  have hje4:j4=i3:=by omega
  refine ZaD<|Zay<|Zay<|ZaU<|ZaA<|Zae<|Zat<|mw<|?_
  refine V' (Zax lk lki om om) pt ?_
  refine mw<|Zaq<|ZaB<|?_
  refine lT' (i3+1) (by (try dsimp only);exact⟨by omega,ZqX hi3' hd3 fun m hm h=>hd4 m hm om⟩)
 have hND:(Zci z k).Nodup:=by rwa [List.take_of_length_le om] at hd3
 rw[if_neg (by simpa using hND)] at hZ
 refine ZaD<|Zay<|Zay<|ZaU<|Zae<|Zag<|wr'<|mw<|sn'<|Zam<|?_
 refine w_lp (ι:=Nat) (fun (i5:Nat)=>[(9,iv (i5:Int)),(2,.any)]++rn' 79 16) (fun (i5:Nat)=>[]) (fun (i5:Nat)=>i5≤k.length ∧ ∀ m (hm:m<k.length),m<i5→¬Zfb z k[m].1<0) (fun (i5:Nat)=>k.length-i5) (0) (by exact⟨Nat.zero_le _,fun m _ h=>by omega⟩) ?_
 rintro i5 hi5
 try simp only[sm',Nat.reduceAdd]
 obtain⟨hn5,hd5⟩:=hi5
 refine Zag<|wr'<|mw<|Vw (ZaR lk dp2)<|Vw (Zar lk gt)<|Vw (ZaG lk)<|Vw (ZaZ lk lk)<|sn'<|?_
 refine cd' lk (fun hc7=>?_) (fun hc7=>?_)
 ·have hi5':i5<k.length:=by omega
  refine Zad<|Zae<|Zag<|Zam<|Zag<|Za2<|Dw (ZaF lk Zns rfl)<|Dw (ZaR lk dp2)<|Dw (Zar lk gt)<|Dw vm<|?_
  refine D' (ZaJ lk lk ZcM (nb' rfl) ro om ro rfl) pt ?_
  refine Dw (ZaR lk dp0)<|Dw (Zar lk gt)<|?_
  refine ZaV mp (fun hE hX=>ZiN om) pt ?_
  refine Dw (ZaZ lk lki)<|Za8<|?_
  refine Zby ?_
  refine sn' ?_
  refine cd' lk (fun hc8=>?_) (fun hc8=>?_)
  ·have hM:Zfu (a,z,k)=true:=by unfold Zfu;rw[Bool.or_eq_true];exact .inl (List.any_eq_true.2 ⟨_,List.getElem_mem hi5',decide_eq_true hc8⟩)
   refine wr'<|mw<|sn'<|Zaa<|Zas<|Zai<|Zai<|Zas<|Zai<|Zah rz<|rT'<|?_
   rw[hZ,if_pos hM]
  refine Zad<|ZaA<|Zae<|Zat<|mw<|?_
  refine V' (Zax lk lki om om) pt ?_
  refine mw<|Zaq<|ZaB<|?_
  refine lT' (i5+1) (by (try dsimp only);refine⟨by omega,fun m hm h=>?_⟩;by_cases e:m=i5;(subst e;exact hc8);exact hd5 m hm om)
 have hLk:(k.any fun l=>decide (Zfb z l.1<0))=false:=List.any_eq_false.2 fun x hx=>by obtain⟨m,hm,rfl⟩:=List.getElem_of_mem hx;simpa using hd5 m hm om
 have hMis:Zfu (a,z,k)=(ZcT z).any (misP a):=by unfold Zfu;rw[hLk,Bool.false_or]
 refine ZaD<|Zay<|Zay<|ZaU<|Zae<|Zag<|wr'<|mw<|sn'<|Zam<|?_
 refine w_lp (ι:=Nat) (fun (i6:Nat)=>[(10,iv (i6:Int)),(2,.any)]++rn' 11 3++rn' 95 58) (fun (i6:Nat)=>[]) (fun (i6:Nat)=>i6≤z.length ∧ ∀ x∈ZcT (z.take i6),misP a x=false) (fun (i6:Nat)=>z.length-i6) (0) (by exact⟨Nat.zero_le _,fun x hx=>by cases hx⟩) ?_
 rintro i6 hi6
 try simp only[sm',Nat.reduceAdd]
 obtain⟨hn6,hd6⟩:=hi6
 refine Zag<|wr'<|mw<|Vw (ZaR lk dp1)<|Vw (Zar lk gt)<|Vw (ZaG lk)<|Vw (ZaZ lk lk)<|sn'<|?_
 refine cd' lk (fun hc9=>?_) (fun hc9=>?_)
 ·have hi6':i6<z.length:=by omega
  have hz3:=q4 _ (List.getElem_mem hi6')
  refine Zad<|Zae<|Zag<|Zam<|wr'<|mw<|sn'<|Zam<|?_
  refine w_lp (ι:=Nat) (fun (j7:Nat)=>[(11,iv (j7:Int)),(2,.any),(12,.any),(13,.any)]++rn' 102 51) (fun (j7:Nat)=>[]) (fun (j7:Nat)=>j7≤z[i6].2.length ∧ ∀ x∈z[i6].2.take j7,misP a x=false) (fun (j7:Nat)=>z[i6].2.length-j7) (0) (by exact⟨Nat.zero_le _,fun x hx=>by cases hx⟩) ?_
  rintro j7 hi7
  try simp only[sm',Nat.reduceAdd]
  obtain⟨hn7,hd7⟩:=hi7
  refine Zag<|wr'<|mw<|Vw (ZaR lk dp1)<|Vw (Zar lk gt)<|mw<|?_
  refine V' (ZaJ lk lk ZbI (nb' rfl) ro om ro rfl) pt ?_
  refine Vw (ZaR lk dp1)<|Vw (Zar lk gt)<|?_
  refine V' ((by first | exact ZaG lk | exact Zb7 lk)) pt ?_
  refine Vw (ZaZ lk lk)<|sn'<|?_
  refine cd' lk (fun hc10=>?_) (fun hc10=>?_)
  ·have hj7:j7<z[i6].2.length:=by omega
   refine Zad<|Zae<|Zag<|Zam<|wr'<|Vw (ZaR lk dp1)<|Vw (Zar lk gt)<|mw<|?_
   refine V' (ZaJ lk lk ZbI (nb' rfl) ro om ro rfl) pt ?_
   refine Vw (ZaR lk dp1)<|Vw (Zar lk gt)<|mw<|?_
   refine V' (ZaJ lk lk Zb5 (nb' rfl) ro om ro rfl) pt ?_
   refine Vw (ZaR lk dp1)<|Vw (Zar lk gt)<|Vw (Zch lk lks)<|mw<|sn'<|Zag<|wr'<|mw<|sn'<|Zam<|?_
   refine Zeq (ι:=Nat) (fun (n8:Nat)=>[(12,bv (decide (xRl z[i6].2[j7]=⟨#[]⟩)||(a.take n8).any fun r=>decide (r.1=xRl z[i6].2[j7]))),(13,iv (n8:Int))]++rn' 124 27) (fun (n8:Nat)=>[]) (fun (n8:Nat)=>n8≤a.length) (fun (n8:Nat)=>a.length-n8) (0) (by exact Nat.zero_le _) (by try simp only[sm',Nat.reduceAdd];exact ALe.same (by repeat (first | exact wk0 | refine wka ?_ | refine wk1 rfl ?_ | refine wk1 (by first | rfl | (rw[List.take_zero];simp)) ?_)) rfl) ?_
   rintro n8 hi8
   try simp only[sm',Nat.reduceAdd]
   replace hi8:n8≤a.length:=hi8
   refine Zag<|wr'<|mw<|Vw (ZaR lk dp0)<|Vw (Zar lk gt)<|Vw (ZaG lk)<|Vw (ZaZ lk lk)<|sn'<|?_
   refine cd' lk (fun hc11=>?_) (fun hc11=>?_)
   ·have hi8':n8<a.length:=by omega
    have hak:(a.take (n8+1)).any (fun r=>decide (r.1=xRl z[i6].2[j7]))=((a.take n8).any (fun r=>decide (r.1=xRl z[i6].2[j7]))||decide (a[n8].1=xRl z[i6].2[j7])):=by rw[List.take_succ_eq_append_getElem hi8',List.any_append];simp
    refine Zad<|Zae<|Zag<|Zam<|Za2<|Dw vm<|Dw vm<|?_
    refine dq' (t:=132) gt pt pt (fun hg132=>?_) (fun hg132=>?_)
    ·refine d_no gt pt<|d_no gt pt<|d_no gt pt<|d_no gt pt<|d_no gt pt<|d_no gt pt<|d_no gt pt<|d_no gt pt<|d_no gt pt<|d_no gt pt<|d_no gt pt<|d_no gt pt<|d_no gt pt<|d_no gt pt<|?_
     refine d_no gt pt<|d_no gt pt<|d_no gt pt<|Dw (Zal lk lkb)<|Dw vm<|Za8<|?_
     refine Zby ?_
     refine Zaq<|ZaA<|Zae<|Zat<|mw<|?_
     refine V' (Zax lk lki om om) pt ?_
     refine mw<|Zaq<|ZaB<|?_
     refine lU' (n8+1) (by (try dsimp only);omega) (by (try dsimp only);(try simp only[sm',Nat.reduceAdd]);exact ALe.same (by repeat (first | exact wk0 | refine wka ?_ | refine wk1 rfl ?_ | refine wk1 (by first | rfl | exact ivx om | (rw[hak,←Bool.or_assoc,hg132];rfl)) ?_)) rfl)
    refine d_do gt<|Dw (ZaR lk dp0)<|d_do gt<|Dw (Zar lk gt)<|d_do gt<|Dw vm<|d_do gt<|?_
    refine D' (ZaJ lk lk Zck (nb' rfl) ro om ro rfl) pt ?_
    refine d_do gt<|Dw (ZaR lk dp0)<|d_do gt<|Dw (Zar lk gt)<|d_do gt<|Dw (ZaR lk dp1)<|d_do gt<|Dw (Zar lk gt)<|d_do gt<|Dw vm<|d_do gt<|?_
    refine D' (ZaJ lk lk ZbI (nb' rfl) ro om ro rfl) pt ?_
    refine d_do gt<|Dw (ZaR lk dp1)<|d_do gt<|Dw (Zar lk gt)<|d_do gt<|Dw vm<|d_do gt<|?_
    refine D' (ZaJ lk lk Zb5 (nb' rfl) ro om ro rfl) pt ?_
    refine d_do gt<|Dw (ZaR lk dp1)<|d_do gt<|Dw (Zar lk gt)<|d_do gt<|?_
    refine D' ((by first | exact ZaX lk lk | exact Zch lk lk)) pt ?_
    refine Dw (Zak lk lk)<|Dw vm<|Za8<|?_
    refine Zby ?_
    refine Zaq<|ZaA<|Zae<|Zat<|mw<|?_
    refine V' (Zax lk lki om om) pt ?_
    refine mw<|Zaq<|ZaB<|?_
    refine lU' (n8+1) (by (try dsimp only);omega) (by (try dsimp only);(try simp only[sm',Nat.reduceAdd]);exact ALe.same (by repeat (first | exact wk0 | refine wka ?_ | refine wk1 rfl ?_ | refine wk1 (by first | rfl | exact ivx om | (rw[hak,←Bool.or_assoc,hg132];rfl)) ?_)) rfl)
   rw[List.take_of_length_le (show a.length≤n8 by omega)]
   obtain⟨rr,hrr⟩:=Zgr hi6' hj7
   refine ZaD<|Zay<|Zay<|ZaU<|Zae<|wr'<|mw<|?_
   refine V' ((by first | exact v_not lk | exact ZaC lk)) pt ?_
   refine sn' ?_
   refine cd' lk (fun hc12=>?_) (fun hc12=>?_)
   ·have hmp:misP a z[i6].2[j7]=true:=by have:=hc12;rw[Bool.not_eq_true',Bool.or_eq_false_iff] at this;unfold misP;rw[Bool.and_eq_true];exact⟨decide_eq_true (of_decide_eq_false this.1),by rw[this.2];rfl⟩
    have hM:Zfu (a,z,k)=true:=by rw[hMis,hrr];exact List.any_eq_true.2 ⟨_,by simp,hmp⟩
    refine wr'<|mw<|sn'<|Zaa<|Zas<|Zai<|Zai<|Zas<|Zas<|Zai<|Zai<|Zas<|?_
    refine Zai<|Zah rz<|rT'<|?_
    rw[hZ,if_pos hM]
   have hmp:misP a z[i6].2[j7]=false:=by have:=hc12;rw[Bool.not_eq_false',Bool.or_eq_true] at this;unfold misP;rw[Bool.and_eq_false_iff];rcases this with h | h;exact .inl (decide_eq_false (fun e=>e (of_decide_eq_true h)));exact .inr (by rw[h];rfl)
   refine Zad<|ZaA<|Zae<|Zat<|mw<|?_
   refine V' (Zax lk lki om om) pt ?_
   refine mw<|Zaq<|ZaB<|?_
   refine lT' (j7+1) (by (try dsimp only);refine⟨by omega,fun x hx=>?_⟩;rw[List.take_succ_eq_append_getElem hj7] at hx;rcases List.mem_append.1 hx with hx | hx;exact hd7 x hx;simp only[List.mem_singleton] at hx;subst hx;exact hmp)
  rw[List.take_of_length_le om] at hd7
  refine ZaD<|Zay<|Zay<|ZaU<|ZaA<|Zae<|Zat<|mw<|?_
  refine V' (Zax lk lki om om) pt ?_
  refine mw<|Zaq<|ZaB<|?_
  refine lT' (i6+1) (by (try dsimp only);refine⟨by omega,fun x hx=>?_⟩;rw[ZhI hi6'] at hx;rcases List.mem_append.1 hx with hx | hx;exact hd6 x hx;exact hd7 x hx)
 rw[List.take_of_length_le om] at hd6
 have hM:Zfu (a,z,k)=false:=by rw[hMis];exact List.any_eq_false.2 fun x hx=>by rw[hd6 x hx];simp
 rw[if_neg (by rw[hM];simp)] at hZ
 refine ZaD<|Zay<|Zay<|ZaU<|Zae<|Zag<|wr'<|mw<|sn'<|Zam<|?_
 refine w_lp (ι:=Nat) (fun (i9:Nat)=>[(14,iv (i9:Int)),(2,.any)]++rn' 15 4++rn' 153 43) (fun (i9:Nat)=>[]) (fun (i9:Nat)=>i9≤z.length ∧ ∀ x∈ZcT (z.take i9),errX a x=0) (fun (i9:Nat)=>z.length-i9) (0) (by exact⟨Nat.zero_le _,fun x hx=>by cases hx⟩) ?_
 rintro i9 hi9
 try simp only[sm',Nat.reduceAdd]
 obtain⟨hn9,hd9⟩:=hi9
 refine Zag<|wr'<|mw<|Vw (ZaR lk dp1)<|Vw (Zar lk gt)<|Vw (ZaG lk)<|Vw (ZaZ lk lk)<|sn'<|?_
 refine cd' lk (fun hc13=>?_) (fun hc13=>?_)
 ·have hi9':i9<z.length:=by omega
  have hz9:=q4 _ (List.getElem_mem hi9')
  refine Zad<|Zae<|Zag<|Zam<|wr'<|mw<|sn'<|Zam<|?_
  refine w_lp (ι:=Nat) (fun (jx:Nat)=>[(15,iv (jx:Int)),(2,.any)]++rn' 16 3++rn' 160 36) (fun (jx:Nat)=>[]) (fun (jx:Nat)=>jx≤z[i9].2.length ∧ ∀ x∈z[i9].2.take jx,errX a x=0) (fun (jx:Nat)=>z[i9].2.length-jx) (0) (by exact⟨Nat.zero_le _,fun x hx=>by cases hx⟩) ?_
  rintro jx hi10
  try simp only[sm',Nat.reduceAdd]
  obtain⟨hnx,hdx⟩:=hi10
  refine Zag<|wr'<|mw<|Vw (ZaR lk dp1)<|Vw (Zar lk gt)<|mw<|?_
  refine V' (ZaJ lk lk ZbI (nb' rfl) ro om ro rfl) pt ?_
  refine Vw (ZaR lk dp1)<|Vw (Zar lk gt)<|?_
  refine V' ((by first | exact ZaG lk | exact Zb7 lk)) pt ?_
  refine Vw (ZaZ lk lk)<|sn'<|?_
  refine cd' lk (fun hc14=>?_) (fun hc14=>?_)
  ·have hjx:jx<z[i9].2.length:=by omega
   obtain⟨rx,hrx⟩:=Zgr hi9' hjx
   refine Zad<|Zae<|Zag<|Zam<|wr'<|Vw (ZaR lk dp1)<|Vw (Zar lk gt)<|mw<|?_
   refine V' (ZaJ lk lk ZbI (nb' rfl) ro om ro rfl) pt ?_
   refine Vw (ZaR lk dp1)<|Vw (Zar lk gt)<|mw<|?_
   refine V' (ZaJ lk lk Zb5 (nb' rfl) ro om ro rfl) pt ?_
   refine Vw (ZaF lk Zrr rfl)<|E' (Za7 (hl2 hn) ha2) pt<|E' (Zaj lk cv gx rfl (nb' rfl) rfl ZoU (hs2 hn)) ptn<|sn'<|Zag<|wr'<|Vw (Zac lk)<|Vw (Zab lk gx gt1)<|Vw (Zch lk lks)<|sn'<|?_
   refine cd' lk (fun hc15=>?_) (fun hc15=>?_)
   ·have hP:errX a z[i9].2[jx]=0:=if_pos hc15
    refine ZaD<|Zay<|ZaU<|Zae<|Zat<|mw<|?_
    refine V' (Zax lk lki om om) pt ?_
    refine mw<|Zaq<|ZaB<|?_
    refine lU' (jx+1) (by (try dsimp only);refine⟨by omega,fun x hx=>?_⟩;rw[List.take_succ_eq_append_getElem hjx] at hx;rcases List.mem_append.1 hx with hx | hx;exact hdx x hx;simp only[List.mem_singleton] at hx;subst hx;exact hP) (by (try dsimp only);(try simp only[sm',Nat.reduceAdd]);exact bk' 2 hn hlt)
   have hP0:errX a z[i9].2[jx]=(Zbe a z[i9].2[jx].2.1 z[i9].2[jx].1).2:=if_neg hc15
   refine Zad<|Zae<|wr'<|Vw (ZaR lk dp0)<|Vw (Zar lk gt)<|Vw (Zac lk)<|Vw (Zab lk gx gt1)<|Vw (Zac lk)<|Vw (Zab lk gx gt0)<|?_
   refine Zaf mp (ZpJ hokR om) pt ?_
   refine mw<|Vw (Zbi lk gt)<|Vw (Zbi lk gt)<|mw<|mw<|sn'<|wr'<|mw<|Vw (Za9 lk lki)<|sn'<|?_
   refine cd' lk (fun hc16=>?_) (fun hc16=>?_)
   ·have hF:Za3 (errX a) (ZcT z)=(Zbe a z[i9].2[jx].2.1 z[i9].2[jx].1).2:=by rw[hrx,ZoA hd9 hdx (by rw[hP0];exact hc16),hP0]
    refine wr'<|mw<|mw<|sn'<|Zaa<|Zas<|Zai<|Zai<|Zas<|Zas<|Zai<|Zai<|?_
    refine Zas<|Zai<|Zah rz<|rT'<|?_
    rw[hZ,hF,if_pos hc16]
   have hP:errX a z[i9].2[jx]=0:=by rw[hP0];exact Decidable.of_not_not hc16
   refine Zad<|ZaA<|Zae<|Zat<|mw<|?_
   refine V' (Zax lk lki om om) pt ?_
   refine mw<|Zaq<|ZaB<|?_
   refine lU' (jx+1) (by (try dsimp only);refine⟨by omega,fun x hx=>?_⟩;rw[List.take_succ_eq_append_getElem hjx] at hx;rcases List.mem_append.1 hx with hx | hx;exact hdx x hx;simp only[List.mem_singleton] at hx;subst hx;exact hP) (by (try dsimp only);(try simp only[sm',Nat.reduceAdd]);exact bk' 2 hn hlt)
  rw[List.take_of_length_le om] at hdx
  refine ZaD<|Zay<|Zay<|ZaU<|ZaA<|Zae<|Zat<|mw<|?_
  refine V' (Zax lk lki om om) pt ?_
  refine mw<|Zaq<|ZaB<|?_
  refine lT' (i9+1) (by (try dsimp only);refine⟨by omega,fun x hx=>?_⟩;rw[ZhI hi9'] at hx;rcases List.mem_append.1 hx with hx | hx;exact hd9 x hx;exact hdx x hx)
 rw[List.take_of_length_le om] at hd9
 rw[Zja hd9,if_neg (by simp)] at hZ
 refine ZaD<|Zay<|Zay<|ZaU<|Zae<|Zag<|wr'<|mw<|sn'<|Zam<|?_
 refine w_lp (ι:=Nat) (fun (ie:Nat)=>[(19,iv (ie:Int)),(2,.any),(20,.any),(21,.any)]++rn' 196 29) (fun (ie:Nat)=>[]) (fun (ie:Nat)=>ie≤z.length ∧ ∀ y∈z.take ie,risL (ZaN y.2)=true) (fun (ie:Nat)=>z.length-ie) (0) (by exact⟨Nat.zero_le _,fun x hx=>by cases hx⟩) ?_
 rintro ie hi11
 try simp only[sm',Nat.reduceAdd]
 obtain⟨hne,hde⟩:=hi11
 refine Zag<|wr'<|mw<|Vw (ZaR lk dp1)<|Vw (Zar lk gt)<|Vw (ZaG lk)<|Vw (ZaZ lk lk)<|sn'<|?_
 refine cd' lk (fun hc17=>?_) (fun hc17=>?_)
 ·have hie':ie<z.length:=by omega
  have hzo:=ZeA (s:=(a,z,k)) hc (List.getElem_mem hie')
  have hel:=Zc9 z[ie].2
  have hel8:=hzo.len
  refine Zad<|Zae<|Zag<|Zam<|wr'<|Vw (ZaR lk dp1)<|Vw (Zar lk gt)<|mw<|?_
  refine V' (ZaJ lk lk ZbI (nb' rfl) ro om ro rfl) pt ?_
  refine Vw (ZaF lk ZuT rfl)<|Zaf mp (Zti hzo) pt<|mw<|sn'<|wr'<|mw<|sn'<|Zam<|?_
  refine w_lp (ι:=Nat) (fun (m12:Nat)=>[(21,iv ((m12:Int)+1)),(2,.any)]++rn' 209 16) (fun (m12:Nat)=>[]) (fun (m12:Nat)=>(m12+1≤(ZaN z[ie].2).length∨m12=0) ∧ ∀ i (h:i+1<(ZaN z[ie].2).length),i<m12→(ZaN z[ie].2)[i]<(ZaN z[ie].2)[i+1]) (fun (m12:Nat)=>(ZaN z[ie].2).length-m12) (0) (by exact⟨.inr rfl,fun i _ h=>by omega⟩) ?_
  rintro m12 hi12
  try simp only[sm',Nat.reduceAdd]
  obtain⟨hn12,hd12⟩:=hi12
  refine Zag<|wr'<|mw<|mv' lk (ptS pt)<|V' (ZaG (lkS lk)) (ptS pt)<|V' (ZaZ lk (lkS lk)) (ptS pt)<|sn'<|?_
  first | refine w_cond (lkS lk) (fun hc18=>?_) (fun hc18=>?_) | refine Zaz (lkS lk) (fun hc18=>?_) (fun hc18=>?_)
  ·have hm12:m12+1<(ZaN z[ie].2).length:=by omega
   refine Zad<|Zae<|Zag<|Zam<|Zag<|Za2<|D' vm (ptS pt)<|D' vm (ptS pt)<|?_
   refine D' (ZaJ (k:=m12+1) (lkS lk) (lkS lk) Za6 (nb' rfl) ro om ro rfl) (ptS pt) ?_
   refine D' (Zar (lkS lk) gt) (ptS pt)<|D' vm (ptS pt)<|D' vm (ptS pt)<|?_
   refine D' (Zbm (lkS lk) lki om om) (ptS pt) ?_
   refine D' (ZaJ (k:=m12) (lkS lk) (lkS lk) Za6 (nb' rfl) ro om ro rfl) (ptS pt) ?_
   refine D' (Zar (lkS lk) gt) (ptS pt)<|D' (Zc0 (lkS lk) (lkS lk)) (ptS pt)<|Za8<|?_
   refine Zby ?_
   refine sn' ?_
   first | refine w_cond (lkS lk) (fun hc19=>?_) (fun hc19=>?_) | refine Zaz (lkS lk) (fun hc19=>?_) (fun hc19=>?_)
   ·have hR:risL (ZaN z[ie].2)=false:=Zkb hm12 om
    refine wr'<|mw<|sn'<|Zaa<|Zas<|Zai<|Zai<|Zas<|Zas<|Zai<|Zai<|Zas<|?_
    refine Zai<|Zah rz<|rT'<|?_
    rw[hZ,if_pos (List.any_eq_true.2 ⟨_,List.getElem_mem hie',by rw[hR];rfl⟩)]
   refine Zad<|ZaA<|Zae<|Zat<|mv' lk (ptS pt)<|?_
   refine V' (Zax (lkS lk) lki om om) (ptS pt) ?_
   refine Vw (v_mv (lkS lk))<|Zaq<|ZaB<|?_
   refine lU' (m12+1) (by (try dsimp only);exact⟨by omega,fun i hi h=>by by_cases e:i=m12;(subst e;omega);exact hd12 i hi om⟩) (by (try dsimp only);(try simp only[sm',Nat.reduceAdd]);exact ALe.same (by repeat (first | exact wk0 | refine wka ?_ | refine wk1 rfl ?_ | refine wk1 (by first | rfl | exact ivx om) ?_)) rfl)
  have hR:risL (ZaN z[ie].2)=true:=ZiS fun i hi=>hd12 i hi om
  refine ZaD<|Zay<|Zay<|ZaU<|ZaA<|Zae<|Zat<|mw<|?_
  refine V' (Zax lk lki om om) pt ?_
  refine mw<|Zaq<|ZaB<|?_
  refine lT' (ie+1) (by (try dsimp only);refine⟨by omega,fun y hy=>?_⟩;rw[List.take_succ_eq_append_getElem hie'] at hy;rcases List.mem_append.1 hy with hy | hy;exact hde y hy;simp only[List.mem_singleton] at hy;subst hy;exact hR)
 rw[List.take_of_length_le om] at hde
 refine ZaD<|Zay<|Zay<|ZaU<|Zae<|wr'<|mw<|sn'<|Zaa<|Zah rz<|rT'<|?_
 rw[hZ,if_neg (by simp only[List.any_eq_true,not_exists,not_and];intro y hy;rw[hde y hy];simp)]
end Go.Proofs.YtlekejpogddndaaGreatDoor
end
section
namespace Go.Proofs.YtlekejpogddndaaGreatDoor
open Go.Ab
abbrev PS:=Src×Bool
def ZcQ (x:Era):Bool:=x.2.2.2.2.1
def Zqx:List Zon→Era→List Zon
 | [],_=>[]
 | [z],x=>[(z.1,z.2++[x])]
 | z::y::l,x=>z::Zqx (y::l) x
theorem Zgx (l:List Zon) (z:Zon) (x:Era):Zqx (l++[z]) x=l++[(z.1,z.2++[x])]:=by
 induction l with
 | nil=>rfl
 | cons a l ih =>
  cases l with
  | nil=>rfl
  | cons b l=>exact congrArg (a :: ·) ih
def ruleA:ByteArray:=bA [82,117,108,101]
def zoneA:ByteArray:=bA [90,111,110,101]
def linkA:ByteArray:=bA [76,105,110,107]
def ZcO (p:Src) (x:Era):PS:=((p.1,Zqx p.2.1 x,p.2.2),!ZcQ x)
def ZuF (p:PS):RM PS :=
 if p.2=true then Zb6 rEra fun x=>retR (ZcO p.1 x)
 else Zb6 ZeQ fun w =>
  if w=ruleA then Zb6 rRule fun r=>retR ((p.1.1++[r],p.1.2.1,p.1.2.2),false)
  else if w=zoneA then Zb6 Ztq fun n=>Zb6 rEra fun x=>retR (ZcO (p.1.1,p.1.2.1++[(n,[])],p.1.2.2) x)
  else if w=linkA then Zb6 Ztq fun a=>Zb6 Ztq fun b=>retR ((p.1.1,p.1.2.1,p.1.2.2++[(a,b)]),false)
  else ZcR none
def Ze4 (p:PS):TS→PS×TS :=
 if p.2=true then Zcf tEra fun x=>ret2 (ZcO p.1 x)
 else Zcf ZaY fun w =>
  if w=ruleA then Zcf Zlq fun r=>ret2 ((p.1.1++[r],p.1.2.1,p.1.2.2),false)
  else if w=zoneA then Zcf Zfo fun n=>Zcf tEra fun x=>ret2 (ZcO (p.1.1,p.1.2.1++[(n,[])],p.1.2.2) x)
  else if w=linkA then Zcf Zfo fun a=>Zcf Zfo fun b=>ret2 ((p.1.1,p.1.2.1,p.1.2.2++[(a,b)]),false)
  else fun t=>(p,bad t)
theorem Zqw (p:PS):Agr (Ze4 p) (ZuF p):=by
 unfold Ze4 ZuF
 split
 ·exact agr_era.bind fun x=>Agr.ret _
 ·refine agr_next.bind fun w=>?_
  split
  ·exact agr_rule.bind fun r=>Agr.ret _
  ·split
   ·exact agr_name.bind fun n=>agr_era.bind fun x=>Agr.ret _
   ·split
    ·exact agr_name.bind fun a=>agr_name.bind fun b=>Agr.ret _
    ·exact Agr.lift (fun t h=>rfl) (fun l=>rfl)
def Zm1 (p:PS) (x:Ln):Option PS:=if x.2.1≠p.2 then none else match ZuF p x.2.2 with
 | some (q,[])=>some q
 | _=>none
def badT (p:PS) (x:Ln):Prop:=(Ze4 p (x.2.2,false)).2.2=true∨(Ze4 p (x.2.2,false)).2.1≠[]∨x.2.1≠p.2
theorem ZtZ {p:PS}{x:Ln}(h:badT p x):Zm1 p x=none:=by
 unfold Zm1
 by_cases hi:x.2.1=p.2
 ·rw[if_neg (by simp[hi])]
  have hA:=(Zqw p x.2.2).2
  unfold badT at h
  revert hA
  cases hb:ZuF p x.2.2 with
  | none=>intro;rfl
  | some q =>
   obtain⟨q,l⟩:=q
   intro hA
   simp only at hA
   rw[hA] at h
   cases l with
   | nil=>simp[hi] at h
   | cons c l=>rfl
 ·rw[if_pos hi]
theorem lineR_ok {p:PS}{x:Ln}(h:¬badT p x):Zm1 p x=some (Ze4 p (x.2.2,false)).1:=by
 unfold Zm1
 unfold badT at h
 simp only[not_or,Decidable.not_not] at h
 obtain⟨h1,h2,h3⟩:=h
 rw[if_neg (by simp[h3])]
 have hA:=(Zqw p x.2.2).2
 revert hA
 cases hb:ZuF p x.2.2 with
 | none=>intro hA;exact absurd hA h1
 | some q =>
  obtain⟨q,l⟩:=q
  intro hA
  simp only at hA
  rw[hA] at h2 ⊢
  simp only at h2
  subst h2
  rfl
def runR:PS→List Ln→PS ⊕ Int
 | p,[]=>.inl p
 | p,x::l=>match Zm1 p x with
  | none=>.inr x.1
  | some q=>runR q l
def srcZ:Src:=([],[],[])
def endP (p:PS):Src×Int×Int:=if p.2=true then (srcZ,0,1) else if ZbU p.1≠0 then (srcZ,0,ZbU p.1) else (p.1,0,0)
def outP (l:List Ln):Src×Int×Int:=match runR (srcZ,false) l with
 | .inr n=>(srcZ,n,1)
 | .inl p=>endP p
def ZbX (s:ByteArray):Src×Int×Int:=if (Zcc s).2.2≠0 then (srcZ,(Zcc s).2.1,(Zcc s).2.2) else outP (Zcc s).1
theorem runR_at {l:List Ln}{k:Nat}(h:k<l.length) (p:PS):runR p (l.drop k)=match Zm1 p l[k] with
  | none=>.inr l[k].1
  | some q=>runR q (l.drop (k+1)):=by
 rw[List.drop_eq_getElem_cons h,runR]
end Go.Proofs.YtlekejpogddndaaGreatDoor
end
section
namespace Go.Proofs.YtlekejpogddndaaGreatDoor
open Go.Ab Go.RowKit Civ
attribute [local simp] Zb9
section
theorem ZcZ {a0 a1 c0:AV}{l:List AV}:setCells (a0::a1::l) 1 [c0]=a0::c0::l:=rfl
theorem Zr0 {a0 c0:AV}{l:List AV}:setCells (a0::l) 0 [c0]=c0::l:=rfl
end
def c200:AC:=(Sr [Ms 2] (.seq (Sr [Mv 4 0,Nk 5 4,Fa 6 1 5,Ld 7 6,Mv 8 7,Of 9 8 (mt 0),Of 10 8 (.nck (.tmp 9)),Of 11 8 (.fa 0 (.tmp 10)),Of 12 8 (.load false 1 (.tmp 11)),Of 13 8 (.len false (.tmp 12)),Of 14 8 (.bin .eql (.tmp 13) (Ci 0)),Oo 15 (.pick (.tmp 8) (.const (.bool true)) (.tmp 14))] (Cd 15 (Sr [Mv 16 0,Nk 17 16,Fa 18 1 17,⟨none,none,(.store 1 (.tmp 18) (.const (.bool true)))⟩] (Sr [Ms 2] .ret)) .skip)) (Sr [Mv 19 0,Nk 20 19,Fa 21 0 20,Ld 22 21,Oo 23 (.ia 1 (.tmp 22) (Ci 0)),Ld 24 23,Mv 3 24] (Sr [Mv 25 0,Mv 26 0,Nk 27 26,Fa 28 0 27,Ld 29 28,Oo 30 (.slc 1 (.tmp 29) (some (Ci 1)) none none),Nk 31 25,Fa 32 0 31,Sc 32 30] (Sr [Mv 33 3,Mv 2 33] .ret)))))
theorem k200:ZaE Tryz.prog 200=some ⟨c200,[(.tmp 2)],34⟩:=by kernel_rfl
def c274:AC:=(Sr [Mc 8 0] (.seq (Sr [Mv 11 1,Oo 12 (.len true (.tmp 11)),Mv 13 2,Mv 14 3,Cl 15 73 [(.tmp 12),(.tmp 13),(.tmp 14)],Oo 16 (.un .not (.tmp 15))] (Cd 16 (Sr [Mv 17 0,Nk 18 17,Fa 19 1 18,⟨none,none,(.store 1 (.tmp 19) (.const (.bool true)))⟩] (Sr [Mc 8 0] .ret)) .skip)) (Sr [Mc 9 0] (.seq (Sr [Mc 10 0] (.block 0 (.loop (.seq (Sr [Mv 20 10,Mv 21 1,Oo 22 (.len true (.tmp 21)),Bn 23 .lss 20 22] (Cd 23 .skip (.exit 0))) (.seq (.block 1 (.seq (Sr [Mv 26 1,Mv 27 10,Oo 28 (.ix (.tmp 26) (.tmp 27)),Cl 29 191 [(.tmp 28)],Oo 30 (.un .not (.tmp 29))] (Cd 30 (Sr [Mv 31 0,Nk 32 31,Fa 33 1 32,⟨none,none,(.store 1 (.tmp 33) (.const (.bool true)))⟩] (Sr [Mc 8 0] .ret)) .skip)) (.reg [Mv 34 9,Oo 35 (.bin .mul (Ci 10) (.tmp 34)),Mv 36 1,Mv 37 10,Oo 38 (.ix (.tmp 36) (.tmp 37)),Oo 39 (.cvi .i64 (.tmp 38)),Bn 40 .add 35 39,Bc 41 .sub 40 48,Mv 9 41]))) (.reg [Mv 24 10,Bc 25 .add 24 1,Mv 10 25])))))) (Sr [Mv 42 9,Mv 8 42] .ret)))))
theorem k274:ZaE Tryz.prog 274=some ⟨c274,[(.tmp 8)],43⟩:=by kernel_rfl
def c203:AC:=(Sr [Ms 2] (Sr [Mv 4 0,Cl 5 200 [(.tmp 4)],Mv 3 5] (.seq (Sr [Mv 6 3,Cl 7 115 [(.tmp 6)],Oo 8 (.un .not (.tmp 7))] (Cd 8 (.reg [Mv 9 0,Nk 10 9,Fa 11 1 10,⟨none,none,(.store 1 (.tmp 11) (.const (.bool true)))⟩]) .skip)) (Sr [Mv 12 3,Mv 2 12] .ret))))
theorem k203:ZaE Tryz.prog 203=some ⟨c203,[(.tmp 2)],13⟩:=by kernel_rfl
def c308:AC:=(Sr [Mc 4 0] (.seq (Sr [Mc 5 0] (.block 0 (.loop (.seq (Sr [Mv 6 5,Bc 7 .add 6 3,Mv 8 0,Oo 9 (.len true (.tmp 8)),Bn 10 .leq 7 9,Mv 11 10,Ot 12 11 (mt 1),Ot 13 11 (.len true (.tmp 12)),Ot 14 11 (.bin .eql (.tmp 13) (Ci 3)),Oo 15 (.pick (.tmp 11) (.tmp 14) (.const (.bool false)))] (Cd 15 .skip (.exit 0))) (.seq (.block 1 (Sr [Mv 18 0,Mv 19 5,Mv 20 5,Bc 21 .add 20 3,Oo 22 (.sls (.tmp 18) (some (.tmp 19)) (some (.tmp 21))),Mv 23 1,Bn 24 .eql 22 23] (Cd 24 (Sr [Mv 25 5,Bc 26 .quo 25 3,Mv 4 26] .ret) .skip))) (.reg [Mv 16 5,Bc 17 .add 16 3,Mv 5 17])))))) (Sr [Oo 4 (.mv (.const (.int .i64 (-1))))] .ret)))
theorem k308:ZaE Tryz.prog 308=some ⟨c308,[(.tmp 4)],27⟩:=by kernel_rfl
def c275:AC:=(Sr [Mc 2 0] (Sr [Mv 4 0,Cl 5 200 [(.tmp 4)],Oo 6 (.call (.func 308) [(.const (.string ⟨#[74,97,110,70,101,98,77,97,114,65,112,114,77,97,121,74,117,110,74,117,108,65,117,103,83,101,112,79,99,116,78,111,118,68,101,99]⟩)),(.tmp 5)]),Mv 3 6] (.seq (Sr [Mv 7 3,Bc 8 .lss 7 0] (Cd 8 (.reg [Mv 9 0,Nk 10 9,Fa 11 1 10,⟨none,none,(.store 1 (.tmp 11) (.const (.bool true)))⟩]) .skip)) (Sr [Mv 12 3,Bc 13 .add 12 1,Mv 2 13] .ret))))
theorem k275:ZaE Tryz.prog 275=some ⟨c275,[(.tmp 2)],14⟩:=by kernel_rfl
def c309:AC:=(Sr [Mc 4 0] (Sr [Mv 6 1,Oo 7 (.call (.func 308) [(.const (.string ⟨#[83,117,110,77,111,110,84,117,101,87,101,100,84,104,117,70,114,105,83,97,116]⟩)),(.tmp 6)]),Mv 5 7] (.seq (Sr [Mv 8 5,Bc 9 .lss 8 0] (Cd 9 (Sr [Mv 10 0,Nk 11 10,Fa 12 1 11,⟨none,none,(.store 1 (.tmp 12) (.const (.bool true)))⟩] (Sr [Mc 4 0] .ret)) .skip)) (Sr [Mv 13 5,Mv 4 13] .ret))))
theorem k309:ZaE Tryz.prog 309=some ⟨c309,[(.tmp 4)],14⟩:=by kernel_rfl
def c307:AC:=(Sr [Mc 4 0] (Sr [Mv 6 0,Mv 7 1,Cl 8 274 [(.tmp 6),(.tmp 7),(Ci 2),(Ci 2)],Mv 5 8] (.seq (Sr [Mv 9 5,Bc 10 .gtr 9 59] (Cd 10 (.reg [Mv 11 0,Nk 12 11,Fa 13 1 12,⟨none,none,(.store 1 (.tmp 13) (.const (.bool true)))⟩]) .skip)) (Sr [Mv 14 5,Mv 4 14] .ret))))
theorem k307:ZaE Tryz.prog 307=some ⟨c307,[(.tmp 4)],15⟩:=by kernel_rfl
abbrev takE (t:TS):Ent:=.mk 0 250 2 [.sl t.1.length 1 false (rows strC t.1),bv t.2]
theorem ZaS {l:List ByteArray}{b:Bool}{n:Nat}:(Ent.mk 0 250 2 [.sl l.length 1 false (rows strC l),.v (.bool b)]).lt n=true:=by simp[Ent.lt,AV.lt,AV.ltL,Zb9]
theorem tnext_b {l:List ByteArray}{b:Bool}{id:Nat}{h:AH}(h1:h[id]?=some (takE (l,b))):ACalls Tryz.prog 200 [.ptr id 0 0] h fun x h'=>x=.ret (sv (ZaY (l,b)).1)∧h'=h.set id (takE (ZaY (l,b)).2):=by
 have hid:id<h.length:=(List.getElem?_eq_some_iff.1 h1).1
 refine tJ' k200 fun N hn hlt hlA hbd=>?_
 simp only[tb'] at hbd ⊢
 refine Zd6 (h1:=h.set id (.mk 0 250 2 [.sl l.length 1 false (rows strC l),bv b])++[]) (by rw[Zdg h1]) ?_
 refine wr'<|mw<|sn'<|Zag<|wr'<|mw<|Vw (ZbE lk)<|Vw (Zac lk)<|Vw (Zab lk (Zbb hid) gt1)<|mw<|?_
 refine ZaK (t:=8) gt pt pt (fun hg8=>?_) (fun hg8=>?_)
 ·have hb:b=true:=hg8
  have hT:ZaY (l,b)=(⟨#[]⟩,l,true):=if_pos (.inl hb)
  refine so<|so<|so<|so<|so<|so<|Vw (Zal lk lkb)<|sn'<|ZaH lk<|wr'<|mw<|Vw (ZbE lk)<|?_
  refine Vw (Zac lk)<|E' (Zaj lk (cvl lkb rfl) (Zbb hid) rfl (nb' rfl) rfl ZcZ (ZaQ hid)) ptn<|sn'<|wr'<|mw<|sn'<|Zaa<|Zai<|Zah rz<|?_
  exact⟨_,_,rfl,Zap hn,Zca hlt ZaS,rfl,by rw[hT],by rw[hT]⟩
 have hb:b=false:=by simpa using hg8
 refine s_do gt<|mw<|s_do gt<|Vw (ZbE lk)<|s_do gt<|Vw (Zac lk)<|s_do gt<|Vw (Zab lk (Zbb hid) gt0)<|s_do gt<|Vw (ZaG lk)<|s_do gt<|Vw (ZaX lk lki)<|Vw (Zak lk lk)<|Zaq<|?_
 refine Zae ?_
 refine cd' lk (fun hc1=>?_) (fun hc1=>?_)
 ·have hT:ZaY (l,b)=(⟨#[]⟩,l,true):=if_pos (.inr (List.eq_nil_of_length_eq_zero (show l.length=0 by have hc1':(l.length:Int)=0:=hc1;omega)))
  refine wr'<|mw<|Vw (ZbE lk)<|Vw (Zac lk)<|E' (Zaj lk (cvl lkb rfl) (Zbb hid) rfl (nb' rfl) rfl ZcZ (ZaQ hid)) ptn<|sn'<|wr'<|mw<|sn'<|Zaa<|?_
  refine Zai<|Zah rz<|?_
  exact⟨_,_,rfl,Zap hn,Zca hlt ZaS,rfl,by rw[hT],by rw[hT]⟩
 have hlen:0<l.length:=by have hc1':¬(l.length:Int)=0:=hc1;omega
 have hne:l≠[]:=by intro e;rw[e] at hlen;cases hlen
 have hT:ZaY (l,b)=(l[0],l.drop 1,b):=by
  cases l with
  | nil=>exact absurd rfl hne
  | cons a l=>subst hb;rfl
 refine Zad<|Zae<|wr'<|mw<|Vw (ZbE lk)<|Vw (Zac lk)<|Vw (Zab lk (Zbb hid) gt0)<|?_
 refine V' (ZaJ (k:=0) lk lki ZbJ (nb' rfl) ro om ro rfl) pt ?_
 refine Vw (Zar lk gt)<|mw<|sn'<|wr'<|mw<|mw<|Vw (ZbE lk)<|Vw (Zac lk)<|Vw (Zab lk (Zbb hid) gt0)<|?_
 refine V' (v_lo (k:=1) lk lki ZbJ ro om ro) pt ?_
 refine Vw (ZbE lk)<|Vw (Zac lk)<|E' (Zaj lk cv (Zbb hid) rfl (nb' rfl) rfl Zr0 (ZaQ hid)) ptn<|sn'<|wr'<|mw<|mw<|sn'<|Zaa<|Zah rz<|?_
 exact⟨_,_,rfl,Zap hn,Zca hlt ZaS,rfl,by rw[hT],by rw[hT]⟩
theorem ZnY {t:TS}{id:Nat}{h:AH}(h1:h[id]?=some (takE t)):ACalls Tryz.prog 200 [.ptr id 0 0] h fun x h'=>x=.ret (sv (ZaY t).1)∧h'=h.set id (takE (ZaY t).2):=tnext_b h1
theorem ZoG {n:Int}(h:digB n=true):48≤n∧n≤57:=by unfold digB at h;simpa using h
theorem Zea {s:ByteArray}{a b:Int}{t:TS}{id:Nat}{h:AH}(hb4:b≤4) (h1:h[id]?=some (takE t)):ACalls Tryz.prog 274 [.ptr id 0 0,sv s,iv a,iv b] h fun x h'=>x=.ret (iv (tNum s a b t).1)∧h'=h.set id (takE (tNum s a b t).2):=by
 obtain⟨l,bd⟩:=t
 have hid:id<h.length:=(List.getElem?_eq_some_iff.1 h1).1
 refine tJ' k274 fun N hn hlt hlA hbd=>?_
 simp only[tb'] at hbd ⊢
 refine Zd6 (h1:=h.set id (takE (l,bd))++[]) (by rw[Zdg h1]) ?_
 refine wr'<|mw<|sn'<|Zag<|wr'<|mw<|Vw (Zbo lk)<|mw<|mw<|Zaf mp (Zba) pt<|Vw (ZaC lk)<|?_
 refine sn' ?_
 refine Zaz lk (fun hc1=>?_) (fun hc1=>?_)
 ·have hw:¬wi s.size a b=true:=by simpa using hc1
  have hT:tNum s a b (l,bd)=(0,l,true):=ZdY (if_neg (fun e=>hw e.1))
  refine wr'<|mw<|Vw (ZbE lk)<|Vw (Zac lk)<|E' (Zaj lk (cvl lkb rfl) (Zbb hid) rfl (nb' rfl) rfl ZcZ (ZaQ hid)) ptn<|sn'<|wr'<|mw<|sn'<|Zaa<|?_
  refine Zai<|Zah rz<|?_
  exact⟨_,_,rfl,Zap hn,Zca hlt ZaS,rfl,by rw[hT],by rw[hT]⟩
 have hw:wi s.size a b=true:=by simpa using hc1
 have hz:s.size≤4:=by unfold wi at hw;simp at hw;omega
 refine Zad<|Zae<|wr'<|mw<|sn'<|Zag<|wr'<|mw<|sn'<|Zam<|?_
 refine w_lp (ι:=Nat×Int) (fun (x_:Nat×Int)=>match x_ with | ⟨k,n⟩=>[(9,iv n),(10,iv (k:Int)),(8,.any)]++rn' 20 22) (fun (x_:Nat×Int)=>match x_ with | ⟨k,n⟩=>[]) (fun (x_:Nat×Int)=>match x_ with | ⟨k,n⟩=>k≤s.size∧0≤n∧n<10 ^ k∧decL 0 (aB s)=decL n ((aB s).drop k) ∧ ∀ j (hj:j<s.size),j<k→digB s[j].toNat=true) (fun (x_:Nat×Int)=>match x_ with | ⟨k,n⟩=>s.size-k) (⟨0,0⟩) (by exact⟨by omega,by omega,by decide,rfl,fun j hj h0=>absurd h0 om⟩) ?_
 rintro⟨k,n⟩ hi1
 try simp only[sm',Nat.reduceAdd]
 obtain⟨hk1,hk2,hk3,hk4,hk5⟩:=hi1
 refine Zag<|wr'<|mw<|mw<|Vw (Zbo lk)<|Vw (ZaZ lk lk)<|sn'<|?_
 refine cd' lk (fun hc2=>?_) (fun hc2=>?_)
 ·have hk:k<s.size:=by omega
  have hbb:=ZfE s k
  have hbk:ZaM s k=s[k]:=ZcW hk
  have hp:(10:Int) ^ k≤1000:=by
   have:k=0∨k=1∨k=2∨k=3:=by omega
   rcases this with rfl | rfl | rfl | rfl <;> decide
  refine Zad<|Zae<|Zag<|Zam<|Zag<|wr'<|mw<|mw<|?_
  refine V' (v_ix lk lk om om) pt ?_
  refine Zaf mp (Zex hbb.1 hbb.2) pt<|Vw (ZaC lk)<|sn'<|?_
  refine Zaz lk (fun hc3=>?_) (fun hc3=>?_)
  ·have hd:digB s[k].toNat=false:=by rw[←hbk];simpa using hc3
   have hT:tNum s a b (l,bd)=(0,l,true):=ZdY (if_neg (fun e=>by have:=Zjn hk hd;rw[e.2] at this;cases this))
   refine wr'<|mw<|Vw (ZbE lk)<|Vw (Zac lk)<|E' (Zaj lk (cvl lkb rfl) (Zbb hid) rfl (nb' rfl) rfl ZcZ (ZaQ hid)) ptn<|sn'<|wr'<|mw<|sn'<|Zaa<|?_
   refine Zai<|Zas<|Zai<|Zai<|Zas<|Zai<|Zah rz<|?_
   exact⟨_,_,rfl,Zap hn,Zca hlt ZaS,rfl,by rw[hT],by rw[hT]⟩
  have hd:digB (ZaM s k).toNat=true:=by simpa using hc3
  have hdb:48≤((ZaM s (k:Int).toNat).toNat:Int)∧((ZaM s (k:Int).toNat).toNat:Int)≤57:=ZoG hd
  have hdb2:=ZoG hd
  refine Zad<|Zae<|Zat<|mw<|?_
  refine V' (Zer lki lk om om) pt ?_
  refine mw<|mw<|?_
  refine V' (v_ix lk lk om om) pt ?_
  refine V' (Ziy lk om om) pt ?_
  refine V' (Zax lk lk om om) pt ?_
  refine V' (Zbm lk lki om om) pt ?_
  refine mw<|Zaq<|ZaA<|Zae<|Zat<|mw<|?_
  refine V' (Zax lk lki om om) pt ?_
  refine mw<|Zaq<|ZaB<|?_
  refine lT' (⟨k+1,10*n+(ZaM s k).toNat-48⟩) (by (try dsimp only);refine⟨by omega,by omega,by rw[Int.pow_succ];omega,by rw[hk4,ZfG hk,decL],fun j hj h0=>?_⟩;rcases Nat.lt_or_ge j k with e | e;exact hk5 j hj e;obtain rfl:j=k:=om;rw[←hbk];exact hd)
 have hT:tNum s a b (l,bd)=(n,l,bd):=ZdX (by
  unfold numV
  rw[if_pos ⟨hw,Zhb fun j hj=>hk5 j hj om⟩,hk4,Znr om];rfl)
 refine ZaD<|Zay<|Zay<|ZaU<|Zae<|wr'<|mw<|mw<|sn'<|Zaa<|Zah rz<|?_
 exact⟨_,_,rfl,Zap hn,Zca hlt ZaS,rfl,by rw[hT],by rw[hT]⟩
theorem tname_a {t:TS}{id:Nat}{h:AH}(hz:(ZaY t).1.size≤maxLen) (h1:h[id]?=some (takE t)):ACalls Tryz.prog 203 [.ptr id 0 0] h fun x h'=>x=.ret (sv (Zfo t).1)∧h'=h.set id (takE (Zfo t).2):=by
 have hid:id<h.length:=(List.getElem?_eq_some_iff.1 h1).1
 refine tJ' k203 fun N hn hlt hlA hbd=>?_
 simp only[tb'] at hbd ⊢
 refine Zd6 (h1:=h.set id (takE t)++[]) (by rw[Zdg h1]) ?_
 refine wr'<|mw<|sn'<|wr'<|mw<|ZaW mp (ZnY (Zbb hid)) (ZaQ hid) pt<|mw<|sn'<|Zag<|Zag<|?_
 refine Zat<|mw<|Zaf mp (Zdr hz) pt<|Vw (ZaC lk)<|sn'<|?_
 refine Zaz lk (fun hc1=>?_) (fun hc1=>?_)
 ·refine Zat<|mw<|Vw (ZbE lk)<|Vw (Zac lk)<|E' (Zaj lk (cvl lkb rfl) (Zbb hid) rfl (nb' rfl) rfl ZcZ (ZaQ hid)) ptn<|sn'<|wr'<|mw<|mw<|sn'<|Zaa<|?_
  refine Zah rz ?_
  exact⟨_,_,rfl,Zap hn,Zca hlt ZaS,rfl,rfl,by unfold Zfo;rw[if_neg (by simpa using hc1)]⟩
 refine Zad<|Zae<|wr'<|mw<|mw<|sn'<|Zaa<|Zah rz<|?_
 exact⟨_,_,rfl,Zap hn,Zca hlt ZaS,rfl,rfl,by unfold Zfo;rw[if_pos (by simpa using hc1)]⟩
theorem idxL_at {l:List ByteArray}{s:ByteArray}{d:Int}{k:Nat}(h:k<l.length):idxL (l.drop k) s (d+k)=if s=l[k] then some (d+k) else idxL (l.drop (k+1)) s (d+(k+1:Nat)):=by
 rw[List.drop_eq_getElem_cons h,idxL]
 congr 2
 push_cast;omega
theorem Zt8 {s:ByteArray} : ∀ {l:List ByteArray}{d:Int},(∀ x∈l,s≠x)→idxL l s d=none
 | [],_,_=>rfl
 | x::l,d,h=>by rw[idxL,if_neg (h x (by simp))];exact Zt8 fun y hy=>h y (by simp[hy])
theorem Zou {s:ByteArray} : ∀ {l:List ByteArray}{d:Int},idxL l s d=(idxL l s 0).map (· + d)
 | [],_=>rfl
 | x::l,d=>by
  rw[idxL,idxL]
  split
  ·simp
  rw[Zou (l:=l) (d:=d+1),Zou (l:=l) (d:=0+1),Option.map_map];congr 1;funext y;simp;omega
theorem ZpB {nl:List ByteArray}{all s:ByteArray}{h:AH}(hl:nl.length≤20) (hz:all.size=3*nl.length) (h3 : ∀ x∈nl,x.size=3) (hx : ∀ k (hk:k<nl.length),all.extract (3*k) (3*k+3)=nl[k]):Ac 308 [sv all,sv s] h (iv ((idxL nl s 0).getD (-1))):=by
 refine tI' k308 fun N hn hlt hlA hbd=>?_
 simp only[tb'] at hbd ⊢
 refine wr'<|mw<|sn'<|Zag<|wr'<|mw<|sn'<|Zam<|?_
 refine w_lp (ι:=Nat) (fun (k:Nat)=>[(5,iv ((3*k:Nat):Int)),(4,.any)]++rn' 6 21) (fun (k:Nat)=>[]) (fun (k:Nat)=>k≤nl.length∧idxL nl s 0=idxL (nl.drop k) s (0+(k:Int))) (fun (k:Nat)=>nl.length-k) (0) (by exact⟨Nat.zero_le _,by simp⟩) ?_
 rintro k hi1
 try simp only[sm',Nat.reduceAdd]
 obtain⟨hk1,hk2⟩:=hi1
 refine Zag<|wr'<|mw<|?_
 refine V' (Zax lk lki om om) pt ?_
 refine mw<|Vw (Zbo lk)<|Vw (Zc0 lk lk)<|mw<|?_
 refine sp' (t:=11) gt pt pt (fun hg11=>?_) (fun hg11=>?_)
 ·have hk:k<nl.length:=by omega
  rw[idxL_at hk] at hk2
  refine s_do gt<|mw<|s_do gt<|Vw (Zbo lk)<|s_do gt<|Vw (ZaX lk lki)<|Vw (Zal lk lk)<|sn'<|?_
  refine cd' lk (fun hc1=>?_) (fun hc1=>?_)
  ·have he:=hx k hk
   refine Zad<|Zae<|Zag<|Zam<|wr'<|mw<|mw<|mw<|?_
   refine V' (Zax lk lki om om) pt ?_
   refine V' (Zdy lk (oi lk) (oi lk) om om om) pt ?_
   refine mw<|Vw (Zch lk lk)<|sn'<|?_
   refine cd' lk (fun hc2=>?_) (fun hc2=>?_)
   ·have hc2':s=nl[k]:=by rw[←he];exact hc2.symm
    rw[if_pos hc2'] at hk2
    refine wr'<|mw<|?_
    refine V' (ZgF lk lki om om om) pt ?_
    refine mw<|sn'<|Zaa<|Zas<|Zai<|Zai<|Zas<|Zai<|Zah rz<|rT'<|?_
    refine ivx ?_;rw[hk2];simp
   have hc2':¬s=nl[k]:=by rw[←he];exact fun e=>hc2 e.symm
   rw[if_neg hc2'] at hk2
   refine Zad<|ZaA<|Zae<|Zat<|mw<|?_
   refine V' (Zax lk lki om om) pt ?_
   refine mw<|Zaq<|ZaB<|?_
   refine lT' (k+1) (by (try dsimp only);exact⟨by omega,by rw[hk2]⟩)
  refine ZaD<|Zay<|Zay<|ZaU<|Zae<|wr'<|mw<|sn'<|Zaa<|Zah rz<|rT'<|?_
  refine ivx ?_;rw[Zt8 (l:=nl) (d:=0) (fun x hx e=>hc1 (by rw[e,h3 x hx];rfl))];rfl
 refine so<|so<|so<|Vw (Zak lk lkb)<|sn'<|ZaT lk<|ZaD<|Zay<|Zay<|ZaU<|Zae<|wr'<|?_
 refine mw<|sn'<|Zaa<|Zah rz<|rT'<|?_
 refine ivx ?_;rw[List.drop_of_length_le om] at hk2;rw[hk2];rfl
def monA:ByteArray:=bA [74,97,110,70,101,98,77,97,114,65,112,114,77,97,121,74,117,110,74,117,108,65,117,103,83,101,112,79,99,116,78,111,118,68,101,99]
def dayA:ByteArray:=bA [83,117,110,77,111,110,84,117,101,87,101,100,84,104,117,70,114,105,83,97,116]
theorem mon_at : ∀ k (hk:k<monL.length),monA.extract (3*k) (3*k+3)=monL[k]:=by decide
theorem day_at : ∀ k (hk:k<dayL.length),dayA.extract (3*k) (3*k+3)=dayL[k]:=by decide
theorem mon_3 : ∀ x∈monL,x.size=3:=by decide
theorem day_3 : ∀ x∈dayL,x.size=3:=by decide
theorem Zov {s:ByteArray} : ∀ {l:List ByteArray}{d n:Int},idxL l s d=some n→d≤n∧n<d+l.length
 | [],_,_,h=>by cases h
 | x::l,d,n,h=>by
  rw[idxL] at h
  split at h
  ·cases h;simp;omega
  have:=Zov h;simp;omega
theorem tmonth_a {t:TS}{id:Nat}{h:AH}(h1:h[id]?=some (takE t)):ACalls Tryz.prog 275 [.ptr id 0 0] h fun x h'=>x=.ret (iv (ZdZ t).1)∧h'=h.set id (takE (ZdZ t).2):=by
 have hid:id<h.length:=(List.getElem?_eq_some_iff.1 h1).1
 have hM:idxL monL (ZaY t).1 1=(idxL monL (ZaY t).1 0).map (· + 1):=Zou
 obtain⟨o,ho⟩ : ∃ o,o=idxL monL (ZaY t).1 0:=⟨_,rfl⟩
 rw[←ho] at hM
 have hbd : ∀ n,o=some n→0≤n∧n<12:=fun n e=>by have:=Zov (ho.symm.trans e);have h12:(monL.length:Int)=12:=rfl;omega
 refine tJ' k275 fun N hn hlt hlA hbd=>?_
 simp only[tb'] at hbd ⊢
 refine Zd6 (h1:=h.set id (takE t)++[]) (by rw[Zdg h1]) ?_
 refine wr'<|mw<|sn'<|wr'<|mw<|ZaW mp (ZnY (Zbb hid)) (ZaQ hid) pt<|?_
 refine Zaf mp (ZpB (nl:=monL) (all:=monA) (by decide) (by decide) mon_3 mon_at) pt ?_
 rw[←ho]
 have hcase:(o=none) ∨ ∃ n,o=some n:=by cases o <;> simp
 have hgd : -1≤o.getD (-1)∧o.getD (-1)<12:=by rcases hcase with rfl | ⟨n,rfl⟩;exact⟨by decide,by decide⟩;have:=hbd n rfl;exact⟨by simp;omega,by simp;omega⟩
 refine mw<|sn'<|Zag<|wr'<|mw<|Vw (ZaZ lk lki)<|sn'<|?_
 refine cd' lk (fun hc1=>?_) (fun hc1=>?_)
 ·refine Zat<|mw<|Vw (ZbE lk)<|Vw (Zac lk)<|E' (Zaj lk (cvl lkb rfl) (Zbb hid) rfl (nb' rfl) rfl ZcZ (ZaQ hid)) ptn<|sn'<|wr'<|mw<|?_
  refine V' (Zax lk lki om om) pt ?_
  refine mw<|sn'<|Zaa<|Zah rz<|?_
  have ho2:o=none:=by rcases hcase with e | ⟨n,rfl⟩;exact e;have:=hbd n rfl;simp at hc1;omega
  have hT:ZdZ t=(0,bad (ZaY t).2):=by unfold ZdZ;rw[hM,ho2];rfl
  exact⟨_,_,rfl,Zap hn,Zca hlt ZaS,rfl,by rw[hT,ho2];rfl,by rw[hT]⟩
 refine Zad<|Zae<|wr'<|mw<|?_
 refine V' (Zax lk lki om om) pt ?_
 refine mw<|sn'<|Zaa<|Zah rz<|?_
 obtain⟨n,rfl⟩ : ∃ n,o=some n:=by rcases hcase with rfl | e;exact absurd (by decide:(-1:Int)<0) hc1;exact e
 have hT:ZdZ t=(n+1,(ZaY t).2):=by unfold ZdZ;rw[hM];rfl
 exact⟨_,_,rfl,Zap hn,Zca hlt ZaS,rfl,by rw[hT];rfl,by rw[hT]⟩
theorem Ziz {s:ByteArray}{t:TS}{id:Nat}{h:AH}(h1:h[id]?=some (takE t)):ACalls Tryz.prog 309 [.ptr id 0 0,sv s] h fun x h'=>x=.ret (iv (Zet s t).1)∧h'=h.set id (takE (Zet s t).2):=by
 have hid:id<h.length:=(List.getElem?_eq_some_iff.1 h1).1
 obtain⟨o,ho⟩ : ∃ o,o=idxL dayL s 0:=⟨_,rfl⟩
 have hbd : ∀ n,o=some n→0≤n∧n<7:=fun n e=>by have:=Zov (ho.symm.trans e);have h7:(dayL.length:Int)=7:=rfl;omega
 refine tJ' k309 fun N hn hlt hlA hbd=>?_
 simp only[tb'] at hbd ⊢
 refine Zd6 (h1:=h.set id (takE t)++[]) (by rw[Zdg h1]) ?_
 refine wr'<|mw<|sn'<|wr'<|mw<|?_
 refine Zaf mp (ZpB (nl:=dayL) (all:=dayA) (by decide) (by decide) day_3 day_at) pt ?_
 rw[←ho]
 have hcase:(o=none) ∨ ∃ n,o=some n:=by cases o <;> simp
 refine mw<|sn'<|Zag<|wr'<|mw<|Vw (ZaZ lk lki)<|sn'<|?_
 refine cd' lk (fun hc1=>?_) (fun hc1=>?_)
 ·refine wr'<|mw<|Vw (ZbE lk)<|Vw (Zac lk)<|E' (Zaj lk (cvl lkb rfl) (Zbb hid) rfl (nb' rfl) rfl ZcZ (ZaQ hid)) ptn<|sn'<|wr'<|mw<|sn'<|Zaa<|?_
  refine Zai<|Zah rz<|?_
  have ho2:o=none:=by rcases hcase with e | ⟨n,rfl⟩;exact e;have:=hbd n rfl;simp at hc1;omega
  have hT:Zet s t=(0,bad t):=by unfold Zet;rw[←ho,ho2]
  exact⟨_,_,rfl,Zap hn,Zca hlt ZaS,rfl,by rw[hT],by rw[hT]⟩
 refine Zad<|Zae<|wr'<|mw<|mw<|sn'<|Zaa<|Zah rz<|?_
 obtain⟨n,rfl⟩ : ∃ n,o=some n:=by rcases hcase with rfl | e;exact absurd (by decide:(-1:Int)<0) hc1;exact e
 have hT:Zet s t=(n,t):=by unfold Zet;rw[←ho]
 exact⟨_,_,rfl,Zap hn,Zca hlt ZaS,rfl,by rw[hT];rfl,by rw[hT]⟩
theorem Zsz {s:ByteArray}{t:TS}{id:Nat}{h:AH}(h1:h[id]?=some (takE t)):ACalls Tryz.prog 307 [.ptr id 0 0,sv s] h fun x h'=>x=.ret (iv (tSix s t).1)∧h'=h.set id (takE (tSix s t).2):=by
 have hid:id<h.length:=(List.getElem?_eq_some_iff.1 h1).1
 refine tJ' k307 fun N hn hlt hlA hbd=>?_
 simp only[tb'] at hbd ⊢
 refine Zd6 (h1:=h.set id (takE t)++[]) (by rw[Zdg h1]) ?_
 refine wr'<|mw<|sn'<|wr'<|mw<|mw<|?_
 refine ZaW mp (Zea om (Zbb hid)) (ZaQ hid) pt ?_
 refine mw<|sn'<|Zag<|wr'<|mw<|Vw (Zbz lk lki)<|sn'<|?_
 refine cd' lk (fun hc1=>?_) (fun hc1=>?_)
 ·refine Zat<|mw<|Vw (ZbE lk)<|Vw (Zac lk)<|E' (Zaj lk (cvl lkb rfl) (Zbb hid) rfl (nb' rfl) rfl ZcZ (ZaQ hid)) ptn<|sn'<|wr'<|mw<|mw<|sn'<|Zaa<|?_
  refine Zah rz ?_
  exact⟨_,_,rfl,Zap hn,Zca hlt ZaS,rfl,rfl,by unfold tSix;rw[if_pos om]⟩
 refine Zad<|Zae<|wr'<|mw<|mw<|sn'<|Zaa<|Zah rz<|?_
 exact⟨_,_,rfl,Zap hn,Zca hlt ZaS,rfl,rfl,by unfold tSix;rw[if_neg om]⟩
end Go.Proofs.YtlekejpogddndaaGreatDoor
end
section
namespace Go.Proofs.YtlekejpogddndaaGreatDoor
open Go.Ab Go.RowKit Civ
attribute [local simp] Zb9
section
theorem Zh6 {τ:Operand→AV}{y0:Operand}{x0_0:AV}(h0:Zav (τ y0)=some [x0_0]) (l0:[x0_0].all leaf=true):Zau τ [(0,1,y0)] [(.v (.string ⟨#[]⟩))]=some [x0_0]:=by
 simp only[Zau,h0,l0]
 rfl
theorem ZnF {a0:AV}{l:List AV}:(a0::l).take 1=[a0]:=rfl
theorem Zk9 {a0 a1 c0:AV}{l:List AV}:setCells (a0::a1::l) 1 [c0]=a0::c0::l:=rfl
theorem ZnG {τ:Operand→AV}{y0 y1:Operand}{x0_0 x1_0:AV}(h0:Zav (τ y0)=some [x0_0]) (l0:[x0_0].all leaf=true) (h1:Zav (τ y1)=some [x1_0]) (l1:[x1_0].all leaf=true):Zau τ [(0,1,y0),(1,1,y1)] [(.v (.int .i64 0)),(.v (.int .i64 0)),(.v (.int .i64 0))]=some [x0_0,x1_0,(.v (.int .i64 0))]:=by
 simp only[Zau,h0,l0,h1,l1]
 rfl
theorem ZbD {a0 a1 a2 c0 c1 c2:AV}{l:List AV}:setCells (a0::a1::a2::l) 0 [c0,c1,c2]=c0::c1::c2::l:=rfl
theorem ZbC {a0 a1 a2:AV}{l:List AV}:((a0::a1::a2::l).drop 0).take 3=[a0,a1,a2]:=rfl
theorem Zej {τ:Operand→AV}{y0 y1 y2:Operand}{x0_0 x1_0 x2_0:AV}(h0:Zav (τ y0)=some [x0_0]) (l0:[x0_0].all leaf=true) (h1:Zav (τ y1)=some [x1_0]) (l1:[x1_0].all leaf=true) (h2:Zav (τ y2)=some [x2_0]) (l2:[x2_0].all leaf=true):Zau τ [(0,1,y0),(1,1,y1),(2,1,y2)] [(.v (.int .i64 0)),(.v (.int .i64 0)),(.v (.int .i64 0))]=some [x0_0,x1_0,x2_0]:=by
 simp only[Zau,h0,l0,h1,l1,h2,l2]
 rfl
theorem Zla {a0 c0:AV}{l:List AV}:setCells (a0::l) 0 [c0]=c0::l:=rfl
theorem ZcY {τ:Operand→AV}{y0 y1:Operand}{x0_0 x1_0:AV}(h0:Zav (τ y0)=some [x0_0]) (l0:[x0_0].all leaf=true) (h1:Zav (τ y1)=some [x1_0]) (l1:[x1_0].all leaf=true):Zau τ [(0,1,y0),(2,1,y1)] [(.v (.int .i64 0)),(.v (.int .i64 0)),(.v (.int .i64 0))]=some [x0_0,(.v (.int .i64 0)),x1_0]:=by
 simp only[Zau,h0,l0,h1,l1]
 rfl
end
def c277:AC:=(Sr [Oo 2 (.new 34 3 [(iv 0),(iv 0),(iv 0)])] (Sr [Mv 5 0,Cl 6 200 [(.tmp 5)],Mv 3 6] (.seq (Sr [Mv 7 3,Oo 8 (.len true (.tmp 7)),Bc 9 .geq 8 4,Mv 10 9,Ot 11 10 (mt 3),Ot 12 10 (.sls (.tmp 11) none (some (Ci 4))),Ot 13 10 (.bin .eql (.tmp 12) (.const (.string ⟨#[108,97,115,116]⟩))),Oo 14 (.pick (.tmp 10) (.tmp 13) (.const (.bool false)))] (Cd 14 (Sr [Mv 15 0,Mv 16 3,Oo 17 (.sls (.tmp 16) (some (Ci 4)) none),Cl 18 309 [(.tmp 15),(.tmp 17)],Oo 19 (.build [(iv 0),(iv 0),(iv 0)] [(0,(1,(Ci 2))),(1,(1,(.tmp 18)))]),⟨none,none,(.store 3 (.tmp 2) (.tmp 19))⟩] .ret) .skip)) (.seq (Sr [Mv 20 3,Oo 21 (.len true (.tmp 20)),Bc 22 .gtr 21 5,Mv 23 22,Ot 24 23 (mt 3),Ot 25 23 (.ix (.tmp 24) (Ci 4)),Ot 26 23 (.bin .eql (.tmp 25) (.const (.int .u8 61))),Oo 27 (.pick (.tmp 23) (.tmp 26) (.const (.bool false))),Mv 28 27,Ot 29 28 (mt 3),Ot 30 28 (.ix (.tmp 29) (Ci 3)),Ot 31 28 (.bin .eql (.tmp 30) (.const (.int .u8 62))),Ot 32 28 (mt 31),Of 33 32 (mt 3),Of 34 32 (.ix (.tmp 33) (Ci 3)),Of 35 32 (.bin .eql (.tmp 34) (.const (.int .u8 60))),Ot 36 28 (.pick (.tmp 32) (.const (.bool true)) (.tmp 35)),Oo 37 (.pick (.tmp 28) (.tmp 36) (.const (.bool false)))] (Cd 37 (.seq (.drwU [[],[0],[0],[],[0,1,2,3],[0,1,2,3,4],[0,1,2,3,4],[],[],[0,1,2,3,4,5,6,7,8],[]] [Mv 38 0,Mv 39 3,Oo 40 (.sls (.tmp 39) none (some (Ci 3))),Cl 41 309 [(.tmp 38),(.tmp 40)],Mv 42 0,Mv 43 3,Oo 44 (.sls (.tmp 43) (some (Ci 5)) none),Cl 45 274 [(.tmp 42),(.tmp 44),(Ci 1),(Ci 2)],Oo 46 (.build [(iv 0),(iv 0),(iv 0)] [(0,(1,(Ci 3))),(1,(1,(.tmp 41))),(2,(1,(.tmp 45)))]),Oo 4 (.new 34 3 [(iv 0),(iv 0),(iv 0)]),⟨none,none,(.store 3 (.tmp 4) (.tmp 46))⟩]) (.seq (Sr [Mv 47 3,Oo 48 (.ix (.tmp 47) (Ci 3)),Oo 49 (.bin .eql (.tmp 48) (.const (.int .u8 60)))] (Cd 49 (.reg [Fa 50 0 4,⟨none,none,(.store 1 (.tmp 50) (Ci 4))⟩]) .skip)) (Sr [Oo 51 (.load true 3 (.tmp 4)),⟨none,none,(.store 3 (.tmp 2) (.tmp 51))⟩] .ret))) .skip)) (Sr [Mv 52 0,Mv 53 3,Cl 54 274 [(.tmp 52),(.tmp 53),(Ci 1),(Ci 2)],Oo 55 (.build [(iv 0),(iv 0),(iv 0)] [(0,(1,(Ci 1))),(2,(1,(.tmp 54)))]),⟨none,none,(.store 3 (.tmp 2) (.tmp 55))⟩] .ret)))))
theorem k277:ZaE Tryz.prog 277=some ⟨c277,[(.cell 2 true 3)],56⟩:=by kernel_rfl
def c273:AC:=(Sr [Mc 4 0] (.seq (Sr [Mv 9 1,Oo 10 (.bin .eql (.tmp 9) (.const (.string ⟨#[48]⟩)))] (Cd 10 (Sr [Mc 4 0] .ret) .skip)) (Sr [Oo 5 (.mv (.const (.slice none 0 0)))] (Sr [Mc 6 0] (.seq (Sr [Mc 7 0] (.block 0 (.loop (.seq (Sr [Mv 11 7,Mv 12 1,Oo 13 (.len true (.tmp 12)),Bn 14 .leq 11 13] (Cd 14 .skip (.exit 0))) (.seq (.block 1 (Sr [Mv 17 7,Mv 18 1,Oo 19 (.len true (.tmp 18)),Bn 20 .eql 17 19,Mv 21 20,Of 22 21 (mt 1),Of 23 21 (mt 7),Of 24 21 (.ix (.tmp 22) (.tmp 23)),Of 25 21 (.bin .eql (.tmp 24) (.const (.int .u8 58))),Oo 26 (.pick (.tmp 21) (.const (.bool true)) (.tmp 25))] (Cd 26 (Sr [Mv 27 5,Mv 28 1,Mv 29 6,Mv 30 7,Oo 31 (.sls (.tmp 28) (some (.tmp 29)) (some (.tmp 30))),Oo 32 (.lit 9 1 1 [Ss] [(0,(1,(.tmp 31)))]),Oo 33 (.app 9 1 16 (.tmp 27) (.tmp 32)),Mv 5 33] (.reg [Mv 34 7,Bc 35 .add 34 1,Mv 6 35])) .skip))) (.reg [Mv 15 7,Bc 16 .add 15 1,Mv 7 16])))))) (.seq (Sr [Mv 36 5,Oo 37 (.len false (.tmp 36)),Bc 38 .neq 37 2,Mv 39 38,Ot 40 39 (mt 5),Ot 41 39 (.len false (.tmp 40)),Ot 42 39 (.bin .neq (.tmp 41) (Ci 3)),Oo 43 (.pick (.tmp 39) (.tmp 42) (.const (.bool false)))] (Cd 43 (Sr [Mv 44 0,Nk 45 44,Fa 46 1 45,⟨none,none,(.store 1 (.tmp 46) (.const (.bool true)))⟩] (Sr [Mc 4 0] .ret)) .skip)) (.seq (.drwU [[],[0],[0],[0],[],[],[0,1,2,3,4,5],[0,1,2,3,4,5,6],[0,1,2,3,4,5,6],[0,1,2,3,4,5,6],[5],[5],[],[]] [Mv 47 0,Mv 48 5,Oo 49 (.ia 1 (.tmp 48) (Ci 0)),Ld 50 49,Cl 51 274 [(.tmp 47),(.tmp 50),(Ci 1),(Ci 2)],Oo 52 (.bin .mul (Ci 3600) (.tmp 51)),Mv 53 0,Mv 54 5,Oo 55 (.ia 1 (.tmp 54) (Ci 1)),Ld 56 55,Cl 57 307 [(.tmp 53),(.tmp 56)],Oo 58 (.bin .mul (Ci 60) (.tmp 57)),Bn 59 .add 52 58,Mv 8 59]) (.seq (Sr [Mv 60 5,Oo 61 (.len false (.tmp 60)),Bc 62 .eql 61 3] (Cd 62 (.reg [Mv 63 8,Mv 64 0,Mv 65 5,Oo 66 (.ia 1 (.tmp 65) (Ci 2)),Ld 67 66,Cl 68 307 [(.tmp 64),(.tmp 67)],Bn 69 .add 63 68,Mv 8 69]) .skip)) (Sr [Mv 70 8,Mv 4 70] .ret)))))))))
theorem k273:ZaE Tryz.prog 273=some ⟨c273,[(.tmp 4)],71⟩:=by kernel_rfl
def c276:AC:=(Sr [Mc 4 0,Mc 5 0] (Sr [Mv 9 0,Cl 10 200 [(.tmp 9)],Mv 6 10] (Sr [Mv 11 1,Mv 7 11] (.seq (Sr [Mv 12 6,Oo 13 (.bin .neq (.tmp 12) (.const (.string ⟨#[]⟩)))] (Cd 13 (.seq (Sr [Mc 8 1] (.block 0 (.loop (.seq (Sr [Mv 14 8,Bc 15 .leq 14 3] (Cd 15 .skip (.exit 0))) (.seq (.block 1 (Sd [Mv 18 6,Mv 19 6,Oo 20 (.len true (.tmp 19)),Bc 21 .sub 20 1,Oo 22 (.ix (.tmp 18) (.tmp 21)),Mv 23 8,Oo 24 (.ix (.const (.string ⟨#[63,119,115,117]⟩)) (.tmp 23)),Bn 25 .eql 22 24] (Cd 25 (.reg [Mv 26 8,Mv 7 26]) .skip))) (.reg [Mv 16 8,Bc 17 .add 16 1,Mv 8 17])))))) (Sr [Mv 27 6,Mv 28 6,Oo 29 (.len true (.tmp 28)),Bc 30 .sub 29 1,Oo 31 (.ix (.tmp 27) (.tmp 30)),Cl 32 191 [(.tmp 31)],Oo 33 (.un .not (.tmp 32))] (Cd 33 (.seq (Sd [Mv 34 6,Mv 35 6,Oo 36 (.len true (.tmp 35)),Bc 37 .sub 36 1,Oo 38 (.ix (.tmp 34) (.tmp 37)),Mv 39 7,Oo 40 (.ix (.const (.string ⟨#[63,119,115,117]⟩)) (.tmp 39)),Bn 41 .neq 38 40] (Cd 41 (.reg [Mv 42 0,Nk 43 42,Fa 44 1 43,⟨none,none,(.store 1 (.tmp 44) (.const (.bool true)))⟩]) .skip)) (.reg [Mv 45 6,Mv 46 6,Oo 47 (.len true (.tmp 46)),Bc 48 .sub 47 1,Oo 49 (.sls (.tmp 45) none (some (.tmp 48))),Mv 6 49])) .skip))) .skip)) (Sr [Mv 50 0,Mv 51 6,Cl 52 273 [(.tmp 50),(.tmp 51)],Mv 53 7,Mv 4 52,Mv 5 53] .ret)))))
theorem k276:ZaE Tryz.prog 276=some ⟨c276,[(.tmp 4),(.tmp 5)],54⟩:=by kernel_rfl
theorem Zup : ∀ {l:Bs}{n:Int},(∀ c∈l,digB c.toNat=true)→0≤n→0≤decL n l∧decL n l+1≤(n+1)*10 ^ l.length
 | [],n,h,h0=>by simp[decL];omega
 | c::l,n,h,h0=>by
  have hd:=ZoG (h c (by simp))
  obtain⟨i1,i2⟩:=Zup (l:=l) (n:=10*n+c.toNat-48) (fun x hx=>h x (by simp[hx])) om
  refine⟨i1,Int.le_trans i2 ?_⟩
  rw[List.length_cons,Int.pow_succ,Int.mul_comm (10 ^ l.length) 10,←Int.mul_assoc]
  exact Int.mul_le_mul_of_nonneg_right om (by exact_mod_cast Nat.zero_le (10 ^ l.length))
theorem numV_bd {s:ByteArray}{a b n:Int}(h:numV s a b=some n) (hb:b≤4):0≤n∧n<10000∧s.size≤4:=by
 obtain⟨h1,h2,rfl⟩:=ZmU h
 have hz:s.size≤4:=by unfold wi at h1;simp at h1;omega
 have hl:(aB s).length≤4:=by rw[ZeD];exact hz
 have:=Zup (l:=aB s) (n:=0) (fun c hc=>Zl0 (l:=aB s) h2 hc) om
 have hp:(10:Int) ^ (aB s).length≤10000:=by
  obtain⟨m,hm⟩ : ∃ m,m=(aB s).length:=⟨_,rfl⟩
  rw[←hm] at hl ⊢
  have:m=0∨m=1∨m=2∨m=3∨m=4:=by omega
  rcases this with rfl | rfl | rfl | rfl | rfl <;> decide
 omega
theorem ZiH {s:ByteArray}{a b:Int}{t:TS}(hb:b≤4):0≤(tNum s a b t).1∧(tNum s a b t).1<10000:=by
 unfold tNum
 split
 ·rename_i n hn;have:=numV_bd hn hb;exact⟨this.1,this.2.1⟩
 show (0:Int)≤0∧(0:Int)<10000;decide
theorem Zhx {s:ByteArray}{t:TS}:0≤(tSix s t).1∧(tSix s t).1<10000:=ZiH om
theorem ZqH {l:List ByteArray}{t:TS}(h:l.length=2):Zfn (l.map aB) t=(3600*(tNum l[0] 1 2 t).1+60*(tSix l[1] (tNum l[0] 1 2 t).2).1,(tSix l[1] (tNum l[0] 1 2 t).2).2):=by
 match l,h with
 | [a,b],_=>rfl
theorem Zmu {l:List ByteArray}{t:TS}(h:l.length=3):Zfn (l.map aB) t=(3600*(tNum l[0] 1 2 t).1+60*(tSix l[1] (tNum l[0] 1 2 t).2).1+(tSix l[2] (tSix l[1] (tNum l[0] 1 2 t).2).2).1,(tSix l[2] (tSix l[1] (tNum l[0] 1 2 t).2).2).2):=by
 match l,h with
 | [a,b,c],_=>rfl
theorem ZqI {l:List Bs}{t:TS}(h2:l.length≠2) (h3:l.length≠3):Zfn l t=(0,bad t):=by
 unfold Zfn
 split
 ·exact absurd rfl h2
 ·exact absurd rfl h3
 rfl
theorem ZiA {s:ByteArray}{t:TS}{id:Nat}{h:AH}(hz:s.size≤24) (h1:h[id]?=some (takE t)):ACalls Tryz.prog 273 [.ptr id 0 0,sv s] h fun x h'=>x=.ret (iv (ZbS s t).1)∧h'=h.set id (takE (ZbS s t).2):=by
 have hid:id<h.length:=(List.getElem?_eq_some_iff.1 h1).1
 refine tJ' k273 fun N hn hlt hlA hbd=>?_
 simp only[tb'] at hbd ⊢
 refine Zd6 (h1:=h.set id (takE t)++[]) (by rw[Zdg h1]) ?_
 refine wr'<|mw<|sn'<|Zag<|wr'<|mw<|Vw (Zch lk lks)<|sn'<|?_
 refine cd' lk (fun hc1=>?_) (fun hc1=>?_)
 ·have hT:ZbS s t=(0,t):=if_pos hc1
  refine wr'<|mw<|sn'<|Zaa<|Zai<|Zah rz<|?_
  exact⟨_,_,rfl,Zap hn,Zca hlt ZaS,rfl,by rw[hT],by rw[hT]⟩
 have hT0:ZbS s t=Zfn (cutC 58 (aB s)) t:=if_neg hc1
 refine Zad<|Zae<|wr'<|mv' lkn pt5<|Zaq<|Za1 (ALe.own0' (st':=1) (ty:=9) gt5 (hl0 (Zap hn)) pt5 ha0)<|wr'<|mv' lki pt6<|sn'<|Zag<|Zag<|?_
 refine Zat<|mw<|sn'<|Zam<|?_
 refine w_lp (ι:=Nat×Nat×List ByteArray×Nat) (fun (x_:Nat×Nat×List ByteArray×Nat)=>match x_ with | ⟨f,i,ps,v⟩=>[(5,.own (N+0) v ps.length),(6,iv (f:Int)),(7,iv (i:Int))]++rn' 11 25) (fun (x_:Nat×Nat×List ByteArray×Nat)=>match x_ with | ⟨f,i,ps,v⟩=>[(0,.mk v 9 1 (rows strC ps))]) (fun (x_:Nat×Nat×List ByteArray×Nat)=>match x_ with | ⟨f,i,ps,v⟩=>i≤s.size+1∧f≤i∧ps.length≤i∧(i≤s.size→clean 58 s f i∧cutC 58 (aB s)=ps.map aB++cutC 58 ((aB s).drop f))∧(i=s.size+1→cutC 58 (aB s)=ps.map aB)) (fun (x_:Nat×Nat×List ByteArray×Nat)=>match x_ with | ⟨f,i,ps,v⟩=>s.size+1-i) (⟨0,0,[],0⟩) (by exact⟨by omega,by omega,by simp,fun _=>⟨Zdj,rfl⟩,fun h=>by omega⟩) ?_
 rintro⟨f,i,ps,v⟩ hi1
 try simp only[sm',Nat.reduceAdd]
 obtain⟨hk1,hk2,hk3,hk4,hk5⟩:=hi1
 refine Zag<|wr'<|mw<|mw<|Vw (Zbo lk)<|Vw (Zc0 lk lk)<|sn'<|?_
 refine cd' lk (fun hc2=>?_) (fun hc2=>?_)
 ·have hi:i≤s.size:=by omega
  obtain⟨hk6,hk7⟩:=hk4 hi
  refine Zad<|Zae<|Zag<|Zam<|wr'<|mw<|mw<|Vw (Zbo lk)<|Vw (ZaX lk lk)<|mw<|?_
  refine sp' (t:=21) gt pt pt (fun hg21=>?_) (fun hg21=>?_)
  ·have hie:i=s.size:=by omega
   have hseg:cutC 58 (aB s)=(ps++[s.extract f i]).map aB:=by rw[hk7,Znl hk6 hk2 hie];simp
   refine so<|so<|so<|so<|Vw (Zal lk lkb)<|sn'<|ZaH lk<|wr'<|mw<|mw<|mw<|mw<|?_
   refine V' (Zdy lk (oi lk) (oi lk) om om om) pt ?_
   refine E' (Zda (Zh6 cv rfl) (hl1 (Zap hn)) ha1) pt ?_
   refine E' (Zce (ZbF lk (hga (Zap hn) rfl) rfl ZnF (nb' rfl)) lk (hga (Zap hn) rfl) (Zd0 _) om rfl (hs0 (Zap hn))) pt ?_
   refine mw<|sn'<|Zat<|mw<|?_
   refine V' (Zax lk lki om om) pt ?_
   refine mw<|Zaq<|ZaA<|Zae<|Zat<|mw<|?_
   refine V' (Zax lk lki om om) pt ?_
   refine mw<|Zaq<|ZaB<|?_
   refine lU' (⟨i+1,i+1,ps++[s.extract f i],v+1⟩) (by (try dsimp only);exact⟨by omega,by omega,by simp;omega,fun h=>by omega,fun _=>hseg⟩) (by (try dsimp only);(try simp only[sm',Nat.reduceAdd]);exact bkE' 1 (Zap hn) (Zca hlt ZaS) (by repeat (first | exact wk0 | refine wka ?_ | refine wk1 rfl ?_ | refine wk1 (by first | rfl | exact ivx om | (simp;done)) ?_)) (by simp only[ZaO,Za5,strC];rfl))
  have hilt:i<s.size:=by omega
  refine s_do gt<|mw<|s_do gt<|mw<|s_do gt<|?_
  refine V' (v_ix lk lk om om) pt ?_
  refine s_do gt<|Vw (ZaX lk lki)<|Vw (Zak lk lk)<|sn'<|?_
  refine cd' lk (fun hc3=>?_) (fun hc3=>?_)
  ·have hx:ZaM s i=58:=Zjj (n:=58) om hc3
   have hseg:cutC 58 (aB s)=(ps++[s.extract f i]).map aB++cutC 58 ((aB s).drop (i+1)):=by rw[hk7,Zqm hk6 hk2 hilt hx];simp
   refine wr'<|mw<|mw<|mw<|mw<|?_
   refine V' (Zdy lk (oi lk) (oi lk) om om om) pt ?_
   refine E' (Zda (Zh6 cv rfl) (hl1 (Zap hn)) ha1) pt ?_
   refine E' (Zce (ZbF lk (hga (Zap hn) rfl) rfl ZnF (nb' rfl)) lk (hga (Zap hn) rfl) (Zd0 _) om rfl (hs0 (Zap hn))) pt ?_
   refine mw<|sn'<|Zat<|mw<|?_
   refine V' (Zax lk lki om om) pt ?_
   refine mw<|Zaq<|ZaA<|Zae<|Zat<|mw<|?_
   refine V' (Zax lk lki om om) pt ?_
   refine mw<|Zaq<|ZaB<|?_
   refine lU' (⟨i+1,i+1,ps++[s.extract f i],v+1⟩) (by (try dsimp only);exact⟨by omega,by omega,by simp;omega,fun h=>⟨Zdj,hseg⟩,fun h=>by omega⟩) (by (try dsimp only);(try simp only[sm',Nat.reduceAdd]);exact bkE' 1 (Zap hn) (Zca hlt ZaS) (by repeat (first | exact wk0 | refine wka ?_ | refine wk1 rfl ?_ | refine wk1 (by first | rfl | exact ivx om | (simp;done)) ?_)) (by simp only[ZaO,Za5,strC];rfl))
  have hx:ZaM s i≠58:=ZlW (n:=58) om hc3
  refine Zad<|ZaA<|Zae<|Zat<|mw<|?_
  refine V' (Zax lk lki om om) pt ?_
  refine mw<|Zaq<|ZaB<|?_
  refine lU' (⟨f,i+1,ps,v⟩) (by (try dsimp only);exact⟨by omega,by omega,by omega,fun h=>⟨Zqp hk6 hk2 hilt hx,hk7⟩,fun h=>by omega⟩) (by (try dsimp only);(try simp only[sm',Nat.reduceAdd]);exact ALe.same (by repeat (first | exact wk0 | refine wka ?_ | refine wk1 rfl ?_ | refine wk1 (by first | rfl | exact ivx om | (simp;done)) ?_)) rfl)
 have hC:=hk5 om
 rw[hC] at hT0
 have hps:ps.length≤25:=by omega
 refine ZaD<|Zay<|Zay<|ZaU<|Zae<|Zag<|wr'<|mw<|Vw (Zb7 lk)<|Vw (Za9 lk lki)<|mw<|?_
 refine sp' (t:=39) gt pt pt (fun hg39=>?_) (fun hg39=>?_)
 ·refine s_do gt<|mw<|s_do gt<|Vw (Zb7 lk)<|s_do gt<|Vw (Za9 lk lki)<|Vw (Zal lk lk)<|sn'<|?_
  refine cd' lk (fun hc4=>?_) (fun hc4=>?_)
  ·rw[ZqI (by rw[List.length_map];omega) (by rw[List.length_map];omega)] at hT0
   refine wr'<|mw<|Vw (ZbE lk)<|Vw (Zac lk)<|E' (Zaj lk (cvl lkb rfl) (Zbb hid) rfl (nb' rfl) rfl Zk9 (ZaQ hid)) ptn<|sn'<|wr'<|mw<|sn'<|Zaa<|?_
   refine Zai<|Zah rz<|?_
   exact⟨_,_,rfl,Zap hn,Zca hlt ZaS,rfl,by rw[hT0],by rw[hT0]⟩
  have hl3:ps.length=3:=by omega
  have hl0:2≤ps.length:=by omega
  rw[Zmu hl3] at hT0
  refine Zad ?_
  refine Za1 (ALe.iceR (hga (Zap hn) rfl) gt5 (List.take_of_length_le (by rw[Zbh ZbJ];first | exact Nat.le_refl _ | omega)) (by rw[Zbh ZbJ];first | exact Nat.le_refl _ | omega) pt5 (hs0 (Zap hn))) ?_
  refine Zag<|Zcg<|uf vm<|uf vm<|?_
  refine u_fr rfl (ZaJ (k:=0) lk lki ZbJ (nb' rfl) ro om ro rfl) pt ?_
  refine u_fr rfl (Zar lk gt) pt ?_
  refine Zdf mp (Zbb hid) (fun hU hUe=>Zea om hUe) nh (ZaQ hid) pt ?_
  have hb1:=ZiH (s:=ps[0]) (a:=1) (b:=2) (t:=t) om
  refine u_fr rfl (Zer lki lk om om) pt ?_
  refine uf vm<|uf vm<|?_
  refine u_fr rfl (ZaJ (k:=1) lk lki ZbJ (nb' rfl) ro om ro rfl) pt ?_
  refine u_fr rfl (Zar lk gt) pt ?_
  refine Zdf mp (Zbb hid) (fun hU hUe=>Zsz hUe) nh (ZaQ hid) pt ?_
  have hb2:=Zhx (s:=ps[1]) (t:=(tNum ps[0] 1 2 t).2)
  refine u_fr rfl (Zer lki lk om om) pt ?_
  refine u_fr rfl (Zax lk lk om om) pt ?_
  refine uf vm<|Zdo<|Zae<|Zag<|wr'<|mw<|Vw (ZaG lk)<|Vw (ZaX lk lki)<|sn'<|?_
  refine Zc6 lk (by simp[hl3]) ?_
  refine Zat<|mw<|mw<|mw<|?_
  refine V' (ZaJ (k:=2) lk lki ZbJ (nb' rfl) ro om ro rfl) pt ?_
  refine Vw (Zar lk gt)<|ZaW mp (Zsz (Zbb hid)) (ZaQ hid) pt<|?_
  have hb3:=Zhx (s:=ps[2]) (t:=(tSix ps[1] (tNum ps[0] 1 2 t).2).2)
  refine V' (Zax lk lk om om) pt ?_
  refine mw<|sn'<|wr'<|mw<|mw<|sn'<|Zaa<|Zah rz<|?_
  exact⟨_,_,rfl,Zap hn,Zca hlt ZaS,rfl,by rw[hT0] <;> rfl,by rw[hT0] <;> rfl⟩
 have hl2:ps.length=2:=by omega
 have hl0:2≤ps.length:=by omega
 rw[ZqH hl2] at hT0
 refine so<|so<|so<|Vw (Zak lk lkb)<|sn'<|ZaT lk<|Zad<|?_
 refine Za1 (ALe.iceR (hga (Zap hn) rfl) gt5 (List.take_of_length_le (by rw[Zbh ZbJ];first | exact Nat.le_refl _ | omega)) (by rw[Zbh ZbJ];first | exact Nat.le_refl _ | omega) pt5 (hs0 (Zap hn))) ?_
 refine Zag<|Zcg<|uf vm<|uf vm<|?_
 refine u_fr rfl (ZaJ (k:=0) lk lki ZbJ (nb' rfl) ro om ro rfl) pt ?_
 refine u_fr rfl (Zar lk gt) pt ?_
 refine Zdf mp (Zbb hid) (fun hU hUe=>Zea om hUe) nh (ZaQ hid) pt ?_
 have hb1:=ZiH (s:=ps[0]) (a:=1) (b:=2) (t:=t) om
 refine u_fr rfl (Zer lki lk om om) pt ?_
 refine uf vm<|uf vm<|?_
 refine u_fr rfl (ZaJ (k:=1) lk lki ZbJ (nb' rfl) ro om ro rfl) pt ?_
 refine u_fr rfl (Zar lk gt) pt ?_
 refine Zdf mp (Zbb hid) (fun hU hUe=>Zsz hUe) nh (ZaQ hid) pt ?_
 have hb2:=Zhx (s:=ps[1]) (t:=(tNum ps[0] 1 2 t).2)
 refine u_fr rfl (Zer lki lk om om) pt ?_
 refine u_fr rfl (Zax lk lk om om) pt ?_
 refine uf vm<|Zdo<|Zae<|Zag<|wr'<|mw<|Vw (ZaG lk)<|Vw (ZaX lk lki)<|sn'<|?_
 refine Zc5 lk (by simp[hl2]) ?_
 refine Zad<|Zae<|wr'<|mw<|mw<|sn'<|Zaa<|Zah rz<|?_
 exact⟨_,_,rfl,Zap hn,Zca hlt ZaS,rfl,by rw[hT0] <;> rfl,by rw[hT0] <;> rfl⟩
theorem Zdz {t t1:TS}{s:ByteArray}{id:Nat}{h:AH}(he:ZaY t=(s,t1)) (h1:h[id]?=some (takE t)):ACalls Tryz.prog 200 [.ptr id 0 0] h fun x h'=>x=.ret (sv s)∧h'=h.set id (takE t1):=by
 have:=ZnY h1
 rw[he] at this
 exact this
theorem ZfU {s:ByteArray}{k:Nat}{n:Int}(h:¬((ZaM s (k:Int).toNat).toNat:Int)=n):Zc3 s k≠n:=h
theorem tform_a {t:TS}{id:Nat}{h:AH}(hz:(ZaY t).1.size≤24) (h1:h[id]?=some (takE t)):ACalls Tryz.prog 277 [.ptr id 0 0] h fun x h'=>x=.ret (.agg [iv (Zhy t).1.1,iv (Zhy t).1.2.1,iv (Zhy t).1.2.2])∧h'=h.set id (takE (Zhy t).2):=by
 have hid:id<h.length:=(List.getElem?_eq_some_iff.1 h1).1
 obtain⟨s,t1,he⟩ : ∃ s t1,ZaY t=(s,t1):=⟨_,_,rfl⟩
 have hF:Zhy t=Zb8 s t1:=by unfold Zhy;rw[he]
 rw[he] at hz
 replace hz:s.size≤24:=hz
 obtain⟨q,hq⟩ : ∃ q,q=Zeo s:=⟨_,rfl⟩
 have hK:Zeo s=if 4≤s.size∧s.extract 0 4=bA [108,97,115,116] then 2 else if 5<s.size∧Zc3 s 4=61∧Zc3 s 3=62 then 3 else if 5<s.size∧Zc3 s 4=61∧Zc3 s 3=60 then 4 else 1:=rfl
 refine tJ' k277 fun N hn hlt hlA hbd=>?_
 simp only[tb'] at hbd ⊢
 refine Zd6 (h1:=h.set id (takE t)++[]) (by rw[Zdg h1]) ?_
 refine wr'<|E' (Za7 (hl0 (Zap hn)) ha0) pt<|sn'<|wr'<|mw<|ZaW mp (Zdz he (Zbb hid)) (ZaQ hid) pt<|mw<|sn'<|Zag<|Zag<|?_
 refine Zat<|mw<|Vw (Zbo lk)<|Vw (Zf6 lk lki)<|mw<|?_
 refine sp' (t:=10) gt pt pt (fun hg10=>?_) (fun hg10=>?_)
 ·refine s_do gt<|mw<|s_do gt<|?_
  refine V' (Zdy lk on_ (oi lki) om om om) pt ?_
  refine s_do gt<|Vw (Zch lk lks)<|Vw (Zal lk lk)<|sn'<|?_
  refine cd' lk (fun hc1=>?_) (fun hc1=>?_)
  ·have hk:Zeo s=2:=by rw[hK];exact if_pos ⟨by omega,hc1⟩
   have hT:Zhy t=((2,(Zet (s.extract 4 s.size) t1).1,0),(Zet (s.extract 4 s.size) t1).2):=by rw[hF];unfold Zb8;rw[if_pos hk]
   refine wr'<|mw<|mw<|?_
   refine V' (Zdy lk (oi lki) on_ om om om) pt ?_
   refine ZaW mp (Ziz (Zbb hid)) (ZaQ hid) pt<|Vw (Zaw (ZnG (cvl lki rfl) rfl cv rfl))<|E' (Zaj lk cv (hga (Zap hn) rfl) rfl (nb' rfl) rfl ZbD (hs0 (Zap hn))) ptn<|sn'<|Zaa<|Zai<|Zah (rs1 (rr_c gt (hga (Zap hn) rfl) (ld1 ZbC rfl)))<|?_
   exact⟨_,_,rfl,Zap hn,Zca hlt ZaS,rfl,by rw[hT] <;> rfl,by rw[hT] <;> rfl⟩
  have hn2:¬(4≤s.size∧s.extract 0 4=bA [108,97,115,116]):=fun e=>hc1 e.2
  rw[if_neg hn2] at hK
  refine Zad<|Zae<|Zag<|wr'<|mw<|Vw (Zbo lk)<|Vw (Zbz lk lki)<|mw<|?_
  refine sp' (t:=23) gt pt pt (fun hg23=>?_) (fun hg23=>?_)
  ·refine s_do gt<|mw<|s_do gt<|?_
   refine V' (v_ix lk lki om om) pt ?_
   refine s_do gt<|Vw (ZaX lk lki)<|Vw (Zal lk lk)<|mw<|?_
   refine sp' (t:=28) gt pt pt (fun hg28=>?_) (fun hg28=>?_)
   ·refine s_do gt<|mw<|s_do gt<|?_
    refine V' (v_ix lk lki om om) pt ?_
    refine s_do gt<|Vw (ZaX lk lki)<|s_do gt<|mw<|?_
    refine sp' (t:=32) gt pt pt (fun hg32=>?_) (fun hg32=>?_)
    ·have hk:Zeo s=3:=by rw[hK];exact if_pos ⟨by omega,hg28,hg32⟩
     refine so<|so<|so<|s_do gt<|Vw (Zal lk lkb)<|Vw (Zal lk lk)<|sn'<|ZaH lk<|Zag<|Zcg<|uf vm<|uf vm<|?_
     refine u_fr rfl (Zdy lk on_ (oi lki) om om om) pt ?_
     refine Zdf mp (Zbb hid) (fun hU hUe=>Ziz hUe) nh (ZaQ hid) pt ?_
     refine uf vm<|uf vm<|?_
     refine u_fr rfl (Zdy lk (oi lki) on_ om om om) pt ?_
     refine Zdf mp (Zbb hid) (fun hU hUe=>Zea om hUe) nh (ZaQ hid) pt ?_
     refine u_fr rfl (Zaw (Zej (cvl lki rfl) rfl cv rfl cv rfl)) pt ?_
     refine u_al rfl (Za7 (hl1 (Zap hn)) ha1) (hl1 (Zap hn)) nh pt ?_
     refine u_st (Zaj lk cv (hga (Zap hn) rfl) rfl (nb' rfl) rfl ZbD (hs1 (Zap hn))) lk nh ptn ?_
     refine Zdo<|Zae<|Zag<|wr'<|mw<|?_
     refine V' (v_ix lk lki om om) pt ?_
     refine Vw (ZaX lk lki)<|sn'<|?_
     refine Zc5 lk (by exact decide_eq_false (by rw[hg32];decide)) ?_
     refine Zad<|Zae<|wr'<|Vw (Zao lk (hga (Zap hn) rfl) ZbC rfl)<|E' (Zaj lk cv (hga (Zap hn) rfl) rfl (nb' rfl) rfl ZbD (hs0 (Zap hn))) ptn<|sn'<|Zaa<|Zai<|Zah (rs1 (rr_c gt (hga (Zap hn) rfl) (ld1 ZbC rfl)))<|?_
     exact⟨_,_,rfl,Zap hn,Zca hlt ZaS,rfl,by rw[hF];unfold Zb8;rw[hk] <;> rfl,by rw[hF];unfold Zb8;rw[hk] <;> rfl⟩
    have h3:Zc3 s 3≠62:=ZfU hg32
    refine s_do gt<|mw<|s_do gt<|?_
    refine V' (v_ix lk lki om om) pt ?_
    refine s_do gt<|Vw (ZaX lk lki)<|s_do gt<|Vw (Zak lk lk)<|Vw (Zal lk lk)<|sn'<|?_
    refine cd' lk (fun hc2=>?_) (fun hc2=>?_)
    ·have hk:Zeo s=4:=by rw[hK,if_neg (fun e=>h3 e.2.2)];exact if_pos ⟨by omega,hg28,hc2⟩
     refine Zag<|Zcg<|uf vm<|uf vm<|?_
     refine u_fr rfl (Zdy lk on_ (oi lki) om om om) pt ?_
     refine Zdf mp (Zbb hid) (fun hU hUe=>Ziz hUe) nh (ZaQ hid) pt ?_
     refine uf vm<|uf vm<|?_
     refine u_fr rfl (Zdy lk (oi lki) on_ om om om) pt ?_
     refine Zdf mp (Zbb hid) (fun hU hUe=>Zea om hUe) nh (ZaQ hid) pt ?_
     refine u_fr rfl (Zaw (Zej (cvl lki rfl) rfl cv rfl cv rfl)) pt ?_
     refine u_al rfl (Za7 (hl1 (Zap hn)) ha1) (hl1 (Zap hn)) nh pt ?_
     refine u_st (Zaj lk cv (hga (Zap hn) rfl) rfl (nb' rfl) rfl ZbD (hs1 (Zap hn))) lk nh ptn ?_
     refine Zdo<|Zae<|Zag<|wr'<|mw<|?_
     refine V' (v_ix lk lki om om) pt ?_
     refine Vw (ZaX lk lki)<|sn'<|?_
     refine Zc6 lk (by exact decide_eq_true hc2) ?_
     refine Zat<|Vw (Zac lk)<|E' (Zaj lk (cvl lki rfl) (hga (Zap hn) rfl) rfl (nb' rfl) rfl Zla (hs1 (Zap hn))) ptn<|sn'<|wr'<|Vw (Zao lk (hga (Zap hn) rfl) ZbC rfl)<|E' (Zaj lk cv (hga (Zap hn) rfl) rfl (nb' rfl) rfl ZbD (hs0 (Zap hn))) ptn<|sn'<|Zaa<|Zai<|Zah (rs1 (rr_c gt (hga (Zap hn) rfl) (ld1 ZbC rfl)))<|?_
     exact⟨_,_,rfl,Zap hn,Zca hlt ZaS,rfl,by rw[hF];unfold Zb8;rw[hk] <;> rfl,by rw[hF];unfold Zb8;rw[hk] <;> rfl⟩
    have h3':Zc3 s 3≠60:=ZfU hc2
    have hk:Zeo s=1:=by rw[hK,if_neg (fun e=>h3 e.2.2),if_neg (fun e=>h3' e.2.2)]
    refine Zad<|Zae<|wr'<|mw<|mw<|?_
    refine ZaW mp (Zea om (Zbb hid)) (ZaQ hid) pt ?_
    refine Vw (Zaw (ZcY (cvl lki rfl) rfl cv rfl))<|E' (Zaj lk cv (hga (Zap hn) rfl) rfl (nb' rfl) rfl ZbD (hs0 (Zap hn))) ptn<|sn'<|Zaa<|Zah (rs1 (rr_c gt (hga (Zap hn) rfl) (ld1 ZbC rfl)))<|?_
    exact⟨_,_,rfl,Zap hn,Zca hlt ZaS,rfl,by rw[hF];unfold Zb8;rw[hk] <;> rfl,by rw[hF];unfold Zb8;rw[hk] <;> rfl⟩
   have h4:Zc3 s 4≠61:=ZfU hg28
   have hk:Zeo s=1:=by rw[hK,if_neg (fun e=>h4 e.2.1),if_neg (fun e=>h4 e.2.1)]
   refine so<|so<|so<|so<|s_nu gt pt<|s_nu gt pt<|s_nu gt pt<|so<|Vw (Zak lk lkb)<|sn'<|ZaT lk<|Zad<|Zae<|?_
   refine wr'<|mw<|mw<|?_
   refine ZaW mp (Zea om (Zbb hid)) (ZaQ hid) pt ?_
   refine Vw (Zaw (ZcY (cvl lki rfl) rfl cv rfl))<|E' (Zaj lk cv (hga (Zap hn) rfl) rfl (nb' rfl) rfl ZbD (hs0 (Zap hn))) ptn<|sn'<|Zaa<|Zah (rs1 (rr_c gt (hga (Zap hn) rfl) (ld1 ZbC rfl)))<|?_
   exact⟨_,_,rfl,Zap hn,Zca hlt ZaS,rfl,by rw[hF];unfold Zb8;rw[hk] <;> rfl,by rw[hF];unfold Zb8;rw[hk] <;> rfl⟩
  have hk:Zeo s=1:=by rw[hK,if_neg om,if_neg om]
  refine so<|so<|so<|Vw (Zak lk lkb)<|mw<|so<|so<|so<|so<|s_nu gt pt<|s_nu gt pt<|s_nu gt pt<|so<|Vw (Zak lk lkb)<|?_
  refine sn'<|ZaT lk<|Zad<|Zae<|wr'<|mw<|mw<|?_
  refine ZaW mp (Zea om (Zbb hid)) (ZaQ hid) pt ?_
  refine Vw (Zaw (ZcY (cvl lki rfl) rfl cv rfl))<|E' (Zaj lk cv (hga (Zap hn) rfl) rfl (nb' rfl) rfl ZbD (hs0 (Zap hn))) ptn<|sn'<|Zaa<|Zah (rs1 (rr_c gt (hga (Zap hn) rfl) (ld1 ZbC rfl)))<|?_
  exact⟨_,_,rfl,Zap hn,Zca hlt ZaS,rfl,by rw[hF];unfold Zb8;rw[hk] <;> rfl,by rw[hF];unfold Zb8;rw[hk] <;> rfl⟩
 have hn2:¬(4≤s.size∧s.extract 0 4=bA [108,97,115,116]):=fun e=>by omega
 rw[if_neg hn2] at hK
 refine so<|so<|so<|Vw (Zak lk lkb)<|sn'<|ZaT lk<|Zad<|Zae<|Zag<|wr'<|mw<|Vw (Zbo lk)<|?_
 refine Vw (Zbz lk lki)<|mw<|?_
 refine sp' (t:=23) gt pt pt (fun hg23=>?_) (fun hg23=>?_)
 ·refine s_do gt<|mw<|s_do gt<|?_
  refine V' (v_ix lk lki om om) pt ?_
  refine s_do gt<|Vw (ZaX lk lki)<|Vw (Zal lk lk)<|mw<|?_
  refine sp' (t:=28) gt pt pt (fun hg28=>?_) (fun hg28=>?_)
  ·refine s_do gt<|mw<|s_do gt<|?_
   refine V' (v_ix lk lki om om) pt ?_
   refine s_do gt<|Vw (ZaX lk lki)<|s_do gt<|mw<|?_
   refine sp' (t:=32) gt pt pt (fun hg32=>?_) (fun hg32=>?_)
   ·have hk:Zeo s=3:=by rw[hK];exact if_pos ⟨by omega,hg28,hg32⟩
    refine so<|so<|so<|s_do gt<|Vw (Zal lk lkb)<|Vw (Zal lk lk)<|sn'<|ZaH lk<|Zag<|Zcg<|uf vm<|uf vm<|?_
    refine u_fr rfl (Zdy lk on_ (oi lki) om om om) pt ?_
    refine Zdf mp (Zbb hid) (fun hU hUe=>Ziz hUe) nh (ZaQ hid) pt ?_
    refine uf vm<|uf vm<|?_
    refine u_fr rfl (Zdy lk (oi lki) on_ om om om) pt ?_
    refine Zdf mp (Zbb hid) (fun hU hUe=>Zea om hUe) nh (ZaQ hid) pt ?_
    refine u_fr rfl (Zaw (Zej (cvl lki rfl) rfl cv rfl cv rfl)) pt ?_
    refine u_al rfl (Za7 (hl1 (Zap hn)) ha1) (hl1 (Zap hn)) nh pt ?_
    refine u_st (Zaj lk cv (hga (Zap hn) rfl) rfl (nb' rfl) rfl ZbD (hs1 (Zap hn))) lk nh ptn ?_
    refine Zdo<|Zae<|Zag<|wr'<|mw<|?_
    refine V' (v_ix lk lki om om) pt ?_
    refine Vw (ZaX lk lki)<|sn'<|?_
    refine Zc5 lk (by exact decide_eq_false (by rw[hg32];decide)) ?_
    refine Zad<|Zae<|wr'<|Vw (Zao lk (hga (Zap hn) rfl) ZbC rfl)<|E' (Zaj lk cv (hga (Zap hn) rfl) rfl (nb' rfl) rfl ZbD (hs0 (Zap hn))) ptn<|sn'<|Zaa<|Zai<|Zah (rs1 (rr_c gt (hga (Zap hn) rfl) (ld1 ZbC rfl)))<|?_
    exact⟨_,_,rfl,Zap hn,Zca hlt ZaS,rfl,by rw[hF];unfold Zb8;rw[hk] <;> rfl,by rw[hF];unfold Zb8;rw[hk] <;> rfl⟩
   have h3:Zc3 s 3≠62:=ZfU hg32
   refine s_do gt<|mw<|s_do gt<|?_
   refine V' (v_ix lk lki om om) pt ?_
   refine s_do gt<|Vw (ZaX lk lki)<|s_do gt<|Vw (Zak lk lk)<|Vw (Zal lk lk)<|sn'<|?_
   refine cd' lk (fun hc2=>?_) (fun hc2=>?_)
   ·have hk:Zeo s=4:=by rw[hK,if_neg (fun e=>h3 e.2.2)];exact if_pos ⟨by omega,hg28,hc2⟩
    refine Zag<|Zcg<|uf vm<|uf vm<|?_
    refine u_fr rfl (Zdy lk on_ (oi lki) om om om) pt ?_
    refine Zdf mp (Zbb hid) (fun hU hUe=>Ziz hUe) nh (ZaQ hid) pt ?_
    refine uf vm<|uf vm<|?_
    refine u_fr rfl (Zdy lk (oi lki) on_ om om om) pt ?_
    refine Zdf mp (Zbb hid) (fun hU hUe=>Zea om hUe) nh (ZaQ hid) pt ?_
    refine u_fr rfl (Zaw (Zej (cvl lki rfl) rfl cv rfl cv rfl)) pt ?_
    refine u_al rfl (Za7 (hl1 (Zap hn)) ha1) (hl1 (Zap hn)) nh pt ?_
    refine u_st (Zaj lk cv (hga (Zap hn) rfl) rfl (nb' rfl) rfl ZbD (hs1 (Zap hn))) lk nh ptn ?_
    refine Zdo<|Zae<|Zag<|wr'<|mw<|?_
    refine V' (v_ix lk lki om om) pt ?_
    refine Vw (ZaX lk lki)<|sn'<|?_
    refine Zc6 lk (by exact decide_eq_true hc2) ?_
    refine Zat<|Vw (Zac lk)<|E' (Zaj lk (cvl lki rfl) (hga (Zap hn) rfl) rfl (nb' rfl) rfl Zla (hs1 (Zap hn))) ptn<|sn'<|wr'<|Vw (Zao lk (hga (Zap hn) rfl) ZbC rfl)<|E' (Zaj lk cv (hga (Zap hn) rfl) rfl (nb' rfl) rfl ZbD (hs0 (Zap hn))) ptn<|sn'<|Zaa<|Zai<|Zah (rs1 (rr_c gt (hga (Zap hn) rfl) (ld1 ZbC rfl)))<|?_
    exact⟨_,_,rfl,Zap hn,Zca hlt ZaS,rfl,by rw[hF];unfold Zb8;rw[hk] <;> rfl,by rw[hF];unfold Zb8;rw[hk] <;> rfl⟩
   have h3':Zc3 s 3≠60:=ZfU hc2
   have hk:Zeo s=1:=by rw[hK,if_neg (fun e=>h3 e.2.2),if_neg (fun e=>h3' e.2.2)]
   refine Zad<|Zae<|wr'<|mw<|mw<|?_
   refine ZaW mp (Zea om (Zbb hid)) (ZaQ hid) pt ?_
   refine Vw (Zaw (ZcY (cvl lki rfl) rfl cv rfl))<|E' (Zaj lk cv (hga (Zap hn) rfl) rfl (nb' rfl) rfl ZbD (hs0 (Zap hn))) ptn<|sn'<|Zaa<|Zah (rs1 (rr_c gt (hga (Zap hn) rfl) (ld1 ZbC rfl)))<|?_
   exact⟨_,_,rfl,Zap hn,Zca hlt ZaS,rfl,by rw[hF];unfold Zb8;rw[hk] <;> rfl,by rw[hF];unfold Zb8;rw[hk] <;> rfl⟩
  have h4:Zc3 s 4≠61:=ZfU hg28
  have hk:Zeo s=1:=by rw[hK,if_neg (fun e=>h4 e.2.1),if_neg (fun e=>h4 e.2.1)]
  refine so<|so<|so<|so<|s_nu gt pt<|s_nu gt pt<|s_nu gt pt<|so<|Vw (Zak lk lkb)<|sn'<|ZaT lk<|Zad<|Zae<|?_
  refine wr'<|mw<|mw<|?_
  refine ZaW mp (Zea om (Zbb hid)) (ZaQ hid) pt ?_
  refine Vw (Zaw (ZcY (cvl lki rfl) rfl cv rfl))<|E' (Zaj lk cv (hga (Zap hn) rfl) rfl (nb' rfl) rfl ZbD (hs0 (Zap hn))) ptn<|sn'<|Zaa<|Zah (rs1 (rr_c gt (hga (Zap hn) rfl) (ld1 ZbC rfl)))<|?_
  exact⟨_,_,rfl,Zap hn,Zca hlt ZaS,rfl,by rw[hF];unfold Zb8;rw[hk] <;> rfl,by rw[hF];unfold Zb8;rw[hk] <;> rfl⟩
 have hk:Zeo s=1:=by rw[hK,if_neg om,if_neg om]
 refine so<|so<|so<|Vw (Zak lk lkb)<|mw<|so<|so<|so<|so<|s_nu gt pt<|s_nu gt pt<|s_nu gt pt<|so<|Vw (Zak lk lkb)<|?_
 refine sn'<|ZaT lk<|Zad<|Zae<|wr'<|mw<|mw<|?_
 refine ZaW mp (Zea om (Zbb hid)) (ZaQ hid) pt ?_
 refine Vw (Zaw (ZcY (cvl lki rfl) rfl cv rfl))<|E' (Zaj lk cv (hga (Zap hn) rfl) rfl (nb' rfl) rfl ZbD (hs0 (Zap hn))) ptn<|sn'<|Zaa<|Zah (rs1 (rr_c gt (hga (Zap hn) rfl) (ld1 ZbC rfl)))<|?_
 exact⟨_,_,rfl,Zap hn,Zca hlt ZaS,rfl,by rw[hF];unfold Zb8;rw[hk] <;> rfl,by rw[hF];unfold Zb8;rw[hk] <;> rfl⟩
theorem Zp2 {c d:Int}(hd:d=1∨d=2) : ∀ k:Nat,k≤3→1≤ZdM c d k∧ZdM c d k≤3
 | 0,_=>by unfold ZdM;omega
 | k+1,h=>by
  have:=Zp2 (c:=c) hd k om
  unfold ZdM
  split <;> omega
theorem tclock_a {d:Int}{t:TS}{id:Nat}{h:AH}(hd:d=1∨d=2) (hz:(ZaY t).1.size≤24) (h1:h[id]?=some (takE t)):ACalls Tryz.prog 276 [.ptr id 0 0,iv d] h fun x h'=>x=.ret (.tup [iv (Zdq d t).1.1,iv (Zdq d t).1.2])∧h'=h.set id (takE (Zdq d t).2):=by
 have hid:id<h.length:=(List.getElem?_eq_some_iff.1 h1).1
 obtain⟨s,t1,he⟩ : ∃ s t1,ZaY t=(s,t1):=⟨_,_,rfl⟩
 have hF:Zdq d t=Zem d s t1:=by unfold Zdq;rw[he]
 rw[he] at hz
 replace hz:s.size≤24:=hz
 have hem:=Ze0 (f:=s)
 have hkb:=Zp2 (c:=Zc2 s) hd 3 om
 have hws:(⟨#[63,119,115,117]⟩:ByteArray).size=4:=rfl
 refine tJ' k276 fun N hn hlt hlA hbd=>?_
 simp only[tb'] at hbd ⊢
 refine Zd6 (h1:=h.set id (takE t)++[]) (by rw[Zdg h1]) ?_
 refine wr'<|mw<|mw<|sn'<|wr'<|mw<|ZaW mp (Zdz he (Zbb hid)) (ZaQ hid) pt<|mw<|sn'<|Zag<|?_
 refine Zat<|mw<|mw<|sn'<|Zag<|wr'<|mw<|Vw (ZcF lk lks)<|sn'<|?_
 refine cd' lk (fun hc1=>?_) (fun hc1=>?_)
 ·have h0:s.size≠0:=fun e=>hc1 (hem.2 e)
  have hL:((ZaM s ((s.size:Int)-1).toNat).toNat:Int)=Zc2 s:=by unfold Zc2 Zc3;congr 2;congr 1;omega
  have hbl:(0:Int)≤((ZaM s ((s.size:Int)-1).toNat).toNat:Int)∧((ZaM s ((s.size:Int)-1).toNat).toNat:Int)≤255:=ZfE _ _
  refine Zag<|wr'<|mw<|sn'<|Zam<|?_
  refine w_lp (ι:=Nat) (fun (k:Nat)=>[(7,iv (ZdM (Zc2 s) d k)),(8,iv ((k+1:Nat):Int))]++rn' 14 13) (fun (k:Nat)=>[]) (fun (k:Nat)=>k≤3) (fun (k:Nat)=>3-k) (0) om ?_
  rintro k hi1
  try simp only[sm',Nat.reduceAdd]
  refine Zag<|wr'<|mw<|Vw (Zc0 lk lki)<|sn'<|?_
  refine cd' lk (fun hc2=>?_) (fun hc2=>?_)
  ·have hk:k+1≤3:=by omega
   refine Zad<|Zae<|Zag<|Zam<|Zag<|Za2<|Dw vm<|Dw vm<|Dw (Zbo lk)<|?_
   refine D' (Zbm lk lki om om) pt ?_
   refine D' (v_ix lk lk om om) pt ?_
   refine D' vm pt ?_
   refine D' (v_ix lks lk om om) pt ?_
   refine Dw (ZaX lk lk)<|Za8<|?_
   refine Zby ?_
   refine sn' ?_
   refine cd' lk (fun hc3=>?_) (fun hc3=>?_)
   ·have hkk:ZdM (Zc2 s) d (k+1)=((k+1:Nat):Int):=by unfold ZdM;exact if_pos (hL.symm.trans hc3)
    refine Zat<|mw<|mw<|Zaq<|ZaA<|Zae<|Zat<|mw<|?_
    refine V' (Zax lk lki om om) pt ?_
    refine mw<|Zaq<|ZaB<|?_
    refine lU' (k+1) (by (try dsimp only);omega) (by (try dsimp only);(try simp only[sm',Nat.reduceAdd]);exact ALe.same (by repeat (first | exact wk0 | refine wka ?_ | refine wk1 rfl ?_ | refine wk1 (by first | rfl | exact ivx om | exact ivx hkk.symm) ?_)) rfl)
   have hkk:ZdM (Zc2 s) d (k+1)=ZdM (Zc2 s) d k:=by rw[ZdM,if_neg (show ¬Zc2 s=Zc3 wsuA (k+1) from fun e=>hc3 (hL.trans e))]
   refine Zad<|ZaA<|Zae<|Zat<|mw<|?_
   refine V' (Zax lk lki om om) pt ?_
   refine mw<|Zaq<|ZaB<|?_
   refine lU' (k+1) (by (try dsimp only);omega) (by (try dsimp only);(try simp only[sm',Nat.reduceAdd]);exact ALe.same (by repeat (first | exact wk0 | refine wka ?_ | refine wk1 rfl ?_ | refine wk1 (by first | rfl | exact ivx om | exact ivx hkk.symm) ?_)) rfl)
  have hk3:k=3:=by omega
  subst hk3
  refine ZaD<|Zay<|Zay<|ZaU<|Zae<|wr'<|mw<|mw<|Vw (Zbo lk)<|?_
  refine V' (Zbm lk lki om om) pt ?_
  refine V' (v_ix lk lk om om) pt ?_
  refine Zaf mp (Zex hbl.1 hbl.2) pt<|Vw (ZaC lk)<|sn'<|?_
  refine Zaz lk (fun hc4=>?_) (fun hc4=>?_)
  ·have hdg:¬digB (Zc2 s)=true:=by rw[←hL];simpa using hc4
   refine Zag<|Zag<|Za2<|Dw vm<|Dw vm<|Dw (Zbo lk)<|?_
   refine D' (Zbm lk lki om om) pt ?_
   refine D' (v_ix lk lk om om) pt ?_
   refine D' vm pt ?_
   refine D' (v_ix lks lk om om) pt ?_
   refine Dw (Za9 lk lk)<|Za8<|?_
   refine Zby ?_
   refine sn' ?_
   refine cd' lk (fun hc5=>?_) (fun hc5=>?_)
   ·have hne:¬Zc2 s=Zc3 wsuA (ZdM (Zc2 s) d 3).toNat:=fun e=>hc5 (hL.trans e)
    have hT:Zdq d t=(((ZbS (s.extract 0 (s.size-1)) (bad t1)).1,ZdM (Zc2 s) d 3),(ZbS (s.extract 0 (s.size-1)) (bad t1)).2):=by rw[hF];unfold Zem;rw[if_neg h0,if_neg hdg];simp only[if_neg hne]
    refine Zat<|mw<|Vw (ZbE lk)<|Vw (Zac lk)<|E' (Zaj lk (cvl lkb rfl) (Zbb hid) rfl (nb' rfl) rfl Zk9 (ZaQ hid)) ptn<|sn'<|Zat<|mw<|mw<|Vw (Zbo lk)<|?_
    refine V' (Zbm lk lki om om) pt ?_
    refine V' (Zdy lk on_ (oi lk) om om om) pt ?_
    rw[show s.extract (Int.toNat 0) ((s.size:Int)-1).toNat=s.extract 0 (s.size-1) by congr 1;omega]
    refine mw<|sn'<|wr'<|mw<|mw<|?_
    refine ZaW mp (ZiA (t:=bad t1) (by first | assumption | (rw[ByteArray.size_extract];omega)) (Zbb hid)) (ZaQ hid) pt ?_
    refine mw<|mw<|mw<|sn'<|Zaa<|Zah ry<|?_
    exact⟨_,_,rfl,Zap hn,Zca hlt ZaS,rfl,by rw[hT] <;> rfl,by rw[hT] <;> rfl⟩
   have hne:Zc2 s=Zc3 wsuA (ZdM (Zc2 s) d 3).toNat:=hL.symm.trans (Decidable.of_not_not hc5)
   have hT:Zdq d t=(((ZbS (s.extract 0 (s.size-1)) t1).1,ZdM (Zc2 s) d 3),(ZbS (s.extract 0 (s.size-1)) t1).2):=by rw[hF];unfold Zem;rw[if_neg h0,if_neg hdg];simp only[if_pos hne]
   refine Zad<|Zae<|Zat<|mw<|mw<|Vw (Zbo lk)<|?_
   refine V' (Zbm lk lki om om) pt ?_
   refine V' (Zdy lk on_ (oi lk) om om om) pt ?_
   rw[show s.extract (Int.toNat 0) ((s.size:Int)-1).toNat=s.extract 0 (s.size-1) by congr 1;omega]
   refine mw<|sn'<|wr'<|mw<|mw<|?_
   refine ZaW mp (ZiA (t:=t1) (by first | assumption | (rw[ByteArray.size_extract];omega)) (Zbb hid)) (ZaQ hid) pt ?_
   refine mw<|mw<|mw<|sn'<|Zaa<|Zah ry<|?_
   exact⟨_,_,rfl,Zap hn,Zca hlt ZaS,rfl,by rw[hT] <;> rfl,by rw[hT] <;> rfl⟩
  have hdg:digB (Zc2 s)=true:=by rw[←hL];simpa using hc4
  have hT:Zdq d t=(((ZbS s t1).1,ZdM (Zc2 s) d 3),(ZbS s t1).2):=by rw[hF];unfold Zem;rw[if_neg h0,if_pos hdg]
  refine Zad<|Zae<|wr'<|mw<|mw<|?_
  refine ZaW mp (ZiA (t:=t1) (by first | assumption | (rw[ByteArray.size_extract];omega)) (Zbb hid)) (ZaQ hid) pt ?_
  refine mw<|mw<|mw<|sn'<|Zaa<|Zah ry<|?_
  exact⟨_,_,rfl,Zap hn,Zca hlt ZaS,rfl,by rw[hT] <;> rfl,by rw[hT] <;> rfl⟩
 have h0:s.size=0:=hem.1 (Decidable.of_not_not hc1)
 have hT:Zdq d t=(((ZbS s t1).1,d),(ZbS s t1).2):=by rw[hF];exact if_pos h0
 refine Zad<|Zae<|wr'<|mw<|mw<|?_
 refine ZaW mp (ZiA (t:=t1) (by first | assumption | (rw[ByteArray.size_extract];omega)) (Zbb hid)) (ZaQ hid) pt ?_
 refine mw<|mw<|mw<|sn'<|Zaa<|Zah ry<|?_
 exact⟨_,_,rfl,Zap hn,Zca hlt ZaS,rfl,by rw[hT] <;> rfl,by rw[hT] <;> rfl⟩
end Go.Proofs.YtlekejpogddndaaGreatDoor
end
section
namespace Go.Proofs.YtlekejpogddndaaGreatDoor
open Go.Ab Go.RowKit Civ
attribute [local simp] Zb9
section
theorem Zf1 {a0 c0:AV}{l:List AV}:setCells (a0::l) 0 [c0]=c0::l:=rfl
theorem Zb0 {a0 a1 c0:AV}{l:List AV}:setCells (a0::a1::l) 1 [c0]=a0::c0::l:=rfl
theorem ZeK {a0 a1 a2 c0:AV}{l:List AV}:setCells (a0::a1::a2::l) 2 [c0]=a0::a1::c0::l:=rfl
theorem Zk8 {a0 a1 a2 a3 c0:AV}{l:List AV}:setCells (a0::a1::a2::a3::l) 3 [c0]=a0::a1::a2::c0::l:=rfl
theorem ZrY {a0 a1 a2 a3 a4 a5 a6 c0 c1 c2:AV}{l:List AV}:setCells (a0::a1::a2::a3::a4::a5::a6::l) 4 [c0,c1,c2]=a0::a1::a2::a3::c0::c1::c2::l:=rfl
theorem ZrW {a0 a1 a2 a3 a4 a5 a6 a7 c0:AV}{l:List AV}:setCells (a0::a1::a2::a3::a4::a5::a6::a7::l) 7 [c0]=a0::a1::a2::a3::a4::a5::a6::c0::l:=rfl
theorem Zk7 {a0 a1 a2 a3 a4 a5 a6 a7 a8 c0:AV}{l:List AV}:setCells (a0::a1::a2::a3::a4::a5::a6::a7::a8::l) 8 [c0]=a0::a1::a2::a3::a4::a5::a6::a7::c0::l:=rfl
theorem Zk6 {a0 a1 a2 a3 a4 a5 a6 a7 a8 a9 c0:AV}{l:List AV}:setCells (a0::a1::a2::a3::a4::a5::a6::a7::a8::a9::l) 9 [c0]=a0::a1::a2::a3::a4::a5::a6::a7::a8::c0::l:=rfl
theorem Zgz {a0 a1 a2 a3 a4 a5 a6 a7 a8 a9 a10 c0:AV}{l:List AV}:setCells (a0::a1::a2::a3::a4::a5::a6::a7::a8::a9::a10::l) 10 [c0]=a0::a1::a2::a3::a4::a5::a6::a7::a8::a9::c0::l:=rfl
theorem Zcz {a0 a1 a2 a3 a4 a5 a6 a7 a8 a9 a10:AV}{l:List AV}:((a0::a1::a2::a3::a4::a5::a6::a7::a8::a9::a10::l).drop 0).take 11=[a0,a1,a2,a3,a4,a5,a6,a7,a8,a9,a10]:=rfl
theorem Ze8 {a0 a1 a2 a3 a4 a5 a6 a7 a8 a9 a10 c0 c1 c2 c3 c4 c5 c6 c7 c8 c9 c10:AV}{l:List AV}:setCells (a0::a1::a2::a3::a4::a5::a6::a7::a8::a9::a10::l) 0 [c0,c1,c2,c3,c4,c5,c6,c7,c8,c9,c10]=c0::c1::c2::c3::c4::c5::c6::c7::c8::c9::c10::l:=rfl
theorem ZrZ {a0 a1 a2 a3 a4 c0:AV}{l:List AV}:setCells (a0::a1::a2::a3::a4::l) 4 [c0]=a0::a1::a2::a3::c0::l:=rfl
theorem Zdm {a0 a1 a2 a3 a4 a5 a6 a7 a8 a9:AV}{l:List AV}:((a0::a1::a2::a3::a4::a5::a6::a7::a8::a9::l).drop 0).take 10=[a0,a1,a2,a3,a4,a5,a6,a7,a8,a9]:=rfl
theorem ZgA {a0 a1 a2 a3 a4 a5 a6 a7 a8 a9 c0 c1 c2 c3 c4 c5 c6 c7 c8 c9:AV}{l:List AV}:setCells (a0::a1::a2::a3::a4::a5::a6::a7::a8::a9::l) 0 [c0,c1,c2,c3,c4,c5,c6,c7,c8,c9]=c0::c1::c2::c3::c4::c5::c6::c7::c8::c9::l:=rfl
theorem Zma {τ:Operand→AV}{y0 y1 y2:Operand}{x0_0 x1_0 x2_0:AV}(h0:Zav (τ y0)=some [x0_0]) (l0:[x0_0].all leaf=true) (h1:Zav (τ y1)=some [x1_0]) (l1:[x1_0].all leaf=true) (h2:Zav (τ y2)=some [x2_0]) (l2:[x2_0].all leaf=true):Zau τ [(0,1,y0),(1,1,y1),(2,1,y2)] [(.v (.int .i64 0)),(.v (.int .i64 0)),(.v (.int .i64 0))]=some [x0_0,x1_0,x2_0]:=by
 simp only[Zau,h0,l0,h1,l1,h2,l2]
 rfl
theorem ZrX {a0 a1 a2 a3 a4 a5 a6 a7 c0 c1 c2:AV}{l:List AV}:setCells (a0::a1::a2::a3::a4::a5::a6::a7::l) 5 [c0,c1,c2]=a0::a1::a2::a3::a4::c0::c1::c2::l:=rfl
end
def c202:AC:=(Sr [Oo 2 (.new 36 11 [Ss,(iv 0),(iv 0),(iv 0),(iv 0),(iv 0),(iv 0),(iv 0),(iv 0),(iv 0),Ss])] (Sr [Oo 3 (.new 36 11 [Ss,(iv 0),(iv 0),(iv 0),(iv 0),(iv 0),(iv 0),(iv 0),(iv 0),(iv 0),Ss])] (Sr [Mv 5 0,Cl 6 203 [(.tmp 5)],Fa 7 0 3,Sc 7 6] (Sr [Mv 8 0,Mv 9 0,Cl 10 200 [(.tmp 9)],Cl 11 274 [(.tmp 8),(.tmp 10),(Ci 4),(Ci 4)],Fa 12 1 3,Sc 12 11] (Sr [Mv 13 0,Cl 14 200 [(.tmp 13)],Mv 4 14] (.seq (Sr [Mv 15 4] (.block 0 (Sr [Oo 21 (.bin .eql (.tmp 15) (.const (.string ⟨#[111,110,108,121]⟩))),Mv 20 21] (Cd 20 (.reg [Fa 22 1 3,Ld 23 22,Fa 24 2 3,Sc 24 23]) (Sr [Oo 26 (.bin .eql (.tmp 15) (.const (.string ⟨#[109,97,120]⟩))),Mv 25 26] (Cd 25 (.reg [Fa 27 2 3,⟨none,none,(.store 1 (.tmp 27) (Ci 2100))⟩]) (.reg [Mv 16 0,Mv 17 4,Cl 18 274 [(.tmp 16),(.tmp 17),(Ci 4),(Ci 4)],Fa 19 2 3,Sc 19 18]))))))) (Sr [Mv 28 0,Cl 29 275 [(.tmp 28)],Fa 30 3 3,Sc 30 29] (Sr [Mv 31 0,Cl 32 277 [(.tmp 31)],Fa 33 4 3,⟨none,none,(.store 3 (.tmp 33) (.tmp 32))⟩] (Sr [Mv 35 0,Cl 36 276 [(.tmp 35),(Ci 1)],Mv 34 36,Ex 37 34 0,Ex 38 34 1,Fa 39 7 3,Sc 39 37,Fa 40 8 3,Sc 40 38] (Sr [Mv 41 0,Mv 42 0,Cl 43 200 [(.tmp 42)],Cl 44 273 [(.tmp 41),(.tmp 43)],Fa 45 9 3,Sc 45 44] (Sr [Mv 46 0,Cl 47 200 [(.tmp 46)],Mv 4 47] (.seq (Sr [Mv 48 4,Oo 49 (.bin .eql (.tmp 48) (.const (.string ⟨#[]⟩))),Mv 50 49,Of 51 50 (mt 4),Of 52 50 (.bin .neq (.tmp 51) (.const (.string ⟨#[45]⟩))),Of 53 50 (mt 52),Ot 54 53 (mt 4),Ot 55 53 (.call (.func 224) [(.tmp 54)]),Ot 56 53 (.un .not (.tmp 55)),Of 57 50 (.pick (.tmp 53) (.tmp 56) (.const (.bool false))),Oo 58 (.pick (.tmp 50) (.const (.bool true)) (.tmp 57))] (Cd 58 (.reg [Mv 59 0,Nk 60 59,Fa 61 1 60,⟨none,none,(.store 1 (.tmp 61) (.const (.bool true)))⟩]) .skip)) (.seq (Sr [Mv 62 4,Oo 63 (.bin .neq (.tmp 62) (.const (.string ⟨#[45]⟩)))] (Cd 63 (.reg [Mv 64 4,Fa 65 10 3,Sc 65 64]) .skip)) (Sr [Oo 66 (.load true 11 (.tmp 3)),⟨none,none,(.store 11 (.tmp 2) (.tmp 66))⟩] .ret))))))))))))))
theorem k202:ZaE Tryz.prog 202=some ⟨c202,[(.cell 2 true 11)],67⟩:=by kernel_rfl
def c201:AC:=(Sr [Oo 2 (.new 63 10 [(iv 0),Ss,(iv 0),Ss,(.v (.bool false)),(iv 0),(iv 0),(iv 0),(iv 0),(iv 0)])] (Sr [Oo 3 (.new 63 10 [(iv 0),Ss,(iv 0),Ss,(.v (.bool false)),(iv 0),(iv 0),(iv 0),(iv 0),(iv 0)])] (Sr [Mv 8 0,Cl 9 200 [(.tmp 8)],Mv 4 9] (.seq (Sr [Mv 10 4,Oo 11 (.bin .neq (.tmp 10) (.const (.string ⟨#[]⟩))),Mv 12 11,Ot 13 12 (mt 4),Ot 14 12 (.ix (.tmp 13) (Ci 0)),Ot 15 12 (.bin .eql (.tmp 14) (.const (.int .u8 45))),Oo 16 (.pick (.tmp 12) (.tmp 15) (.const (.bool false)))] (Cd 16 (.reg [Mv 17 0,Mv 18 4,Oo 19 (.sls (.tmp 18) (some (Ci 1)) none),Cl 20 273 [(.tmp 17),(.tmp 19)],Oo 21 (.un .neg (.tmp 20)),Fa 22 0 3,Sc 22 21]) (.reg [Mv 23 0,Mv 24 4,Cl 25 273 [(.tmp 23),(.tmp 24)],Fa 26 0 3,Sc 26 25]))) (Sr [Mv 27 0,Cl 28 200 [(.tmp 27)],Mv 4 28] (.seq (.block 0 (Sr [Mv 38 4,Oo 39 (.bin .eql (.tmp 38) (.const (.string ⟨#[45]⟩))),Mv 37 39] (Cd 37 .skip (Sr [Mv 41 4,Oo 42 (.bin .neq (.tmp 41) (.const (.string ⟨#[]⟩))),Mv 43 42,Ot 44 43 (mt 4),Ot 45 43 (.ix (.tmp 44) (Ci 0)),Ot 46 43 (.call (.func 191) [(.tmp 45)]),Oo 47 (.pick (.tmp 43) (.tmp 46) (.const (.bool false))),Mv 40 47] (Cd 40 (.seq (Sr [Mv 48 4,Oo 49 (.bin .eql (.tmp 48) (.const (.string ⟨#[48]⟩)))] (Cd 49 (.reg [Mv 50 0,Nk 51 50,Fa 52 1 51,⟨none,none,(.store 1 (.tmp 52) (.const (.bool true)))⟩]) .skip)) (.reg [Mv 53 0,Mv 54 4,Cl 55 273 [(.tmp 53),(.tmp 54)],Fa 56 2 3,Sc 56 55])) (.seq (Sr [Mv 29 4,Cl 30 115 [(.tmp 29)],Oo 31 (.un .not (.tmp 30))] (Cd 31 (.reg [Mv 32 0,Nk 33 32,Fa 34 1 33,⟨none,none,(.store 1 (.tmp 34) (.const (.bool true)))⟩]) .skip)) (.reg [Mv 35 4,Fa 36 1 3,Sc 36 35]))))))) (Sr [Mv 57 0,Cl 58 200 [(.tmp 57)],Fa 59 3 3,Sc 59 58] (.seq (Sr [Fa 60 3 3,Ld 61 60,Cl 62 225 [(.tmp 61)],Oo 63 (.un .not (.tmp 62))] (Cd 63 (.reg [Mv 64 0,Nk 65 64,Fa 66 1 65,⟨none,none,(.store 1 (.tmp 66) (.const (.bool true)))⟩]) .skip)) (.seq (Sr [Mv 67 0,Nk 68 67,Fa 69 0 68,Ld 70 69,Oo 71 (.len false (.tmp 70)),Bc 72 .eql 71 0] (Cd 72 (Sr [Fa 73 4 3,⟨none,none,(.store 1 (.tmp 73) (.const (.bool true)))⟩] (Sr [Oo 74 (.load true 10 (.tmp 3)),⟨none,none,(.store 10 (.tmp 2) (.tmp 74))⟩] .ret)) .skip)) (Sr [Mv 75 0,Mv 76 0,Cl 77 200 [(.tmp 76)],Cl 78 274 [(.tmp 75),(.tmp 77),(Ci 4),(Ci 4)],Mv 5 78] (Sr [Mv 79 0,Cl 80 275 [(.tmp 79)],Mv 6 80] (Sr [Mv 81 0,Mv 82 0,Cl 83 200 [(.tmp 82)],Cl 84 274 [(.tmp 81),(.tmp 83),(Ci 1),(Ci 2)],Mv 7 84] (Sr [Mv 85 5,Mv 86 6,Mv 87 7,Oo 88 (.build [(iv 0),(iv 0),(iv 0)] [(0,(1,(.tmp 85))),(1,(1,(.tmp 86))),(2,(1,(.tmp 87)))]),Fa 89 5 3,Fa 90 0 89,⟨none,none,(.store 3 (.tmp 90) (.tmp 88))⟩] (Sr [Mv 92 0,Cl 93 276 [(.tmp 92),(Ci 2)],Mv 91 93,Ex 94 91 0,Ex 95 91 1,Fa 96 5 3,Fa 97 3 96,Sc 97 94,Fa 98 5 3,Fa 99 4 98,Sc 99 95] (.seq (Sr [Fa 100 5 3,Fa 101 4 100,Ld 102 101,Bc 103 .eql 102 1] (Cd 103 (.reg [Mv 104 0,Nk 105 104,Fa 106 1 105,⟨none,none,(.store 1 (.tmp 106) (.const (.bool true)))⟩]) .skip)) (Sr [Oo 107 (.load true 10 (.tmp 3)),⟨none,none,(.store 10 (.tmp 2) (.tmp 107))⟩] .ret))))))))))))))))
theorem k201:ZaE Tryz.prog 201=some ⟨c201,[(.cell 2 true 10)],108⟩:=by kernel_rfl
def okTS (t:TS):Prop := ∀ x∈t.1,x.size≤24
theorem Zgm {t u:TS}(h:u.1=t.1) (ho:okTS t):okTS u:=by unfold okTS;rw[h];exact ho
theorem Zbk {t u:TS}{s:ByteArray}(ho:okTS t) (e:ZaY t=(s,u)):s.size≤24∧okTS u:=by
 unfold ZaY at e
 split at e
 ·cases e;exact⟨by decide,ho⟩
 rename_i hn
 obtain⟨l,b⟩:=t
 cases l with
 | nil=>exact absurd (.inr rfl) hn
 | cons x l=>cases e;exact⟨ho x (by simp),fun y hy=>ho y (by simp only[List.mem_cons];exact .inr hy)⟩
theorem tNum_fst {s:ByteArray}{a b:Int}{t:TS}:(tNum s a b t).2.1=t.1:=by unfold tNum;split <;> rfl
theorem Zmt {s:ByteArray}{t:TS}:(Zet s t).2.1=t.1:=by unfold Zet;split <;> rfl
theorem tSix_fst {s:ByteArray}{t:TS}:(tSix s t).2.1=t.1:=by unfold tSix;dsimp only;split <;> exact tNum_fst
theorem tSpan_fst {s:ByteArray}{t:TS}:(ZbS s t).2.1=t.1:=by
 unfold ZbS
 split
 ·rfl
 unfold Zfn
 split
 ·exact tSix_fst.trans tNum_fst
 ·exact tSix_fst.trans (tSix_fst.trans tNum_fst)
 rfl
theorem ZqJ {s:ByteArray}{t:TS}:(Zb8 s t).2.1=t.1:=by
 unfold Zb8
 split
 ·exact Zmt
 split
 ·exact tNum_fst
 exact tNum_fst.trans Zmt
theorem Zn3 {d:Int}{s:ByteArray}{t:TS}:(Zem d s t).2.1=t.1:=by
 unfold Zem
 split
 ·exact tSpan_fst
 split
 ·exact tSpan_fst
 refine tSpan_fst.trans ?_
 split <;> rfl
theorem tTo_fst {f:Int}{s:ByteArray}{t:TS}:(tTo f s t).2.1=t.1:=by
 unfold tTo
 split
 ·rfl
 split
 ·rfl
 exact tNum_fst
theorem ZgX {t u:TS}{s:ByteArray}(ho:okTS t) (e:Zfo t=(s,u)):okTS u:=by
 obtain⟨x,v,ev⟩ : ∃ x v,ZaY t=(x,v):=⟨_,_,rfl⟩
 unfold Zfo at e
 rw[ev] at e
 have:=(Zbk ho ev).2
 simp only[Prod.mk.injEq] at e
 obtain⟨_,e2⟩:=e
 subst e2
 split
 ·exact this
 exact this
theorem ZhC {t u:TS}{n:Int}(ho:okTS t) (e:ZdZ t=(n,u)):okTS u:=by
 obtain⟨x,v,ev⟩ : ∃ x v,ZaY t=(x,v):=⟨_,_,rfl⟩
 unfold ZdZ at e
 rw[ev] at e
 have:=(Zbk ho ev).2
 split at e <;> cases e <;> exact this
theorem Zin {s:ByteArray}{a b n:Int}{t u:TS}(ho:okTS t) (e:tNum s a b t=(n,u)):okTS u:=Zgm (by have := @tNum_fst s a b t;rw[e] at this;exact this) ho
theorem Zi0 {s:ByteArray}{n:Int}{t u:TS}(ho:okTS t) (e:ZbS s t=(n,u)):okTS u:=Zgm (by have := @tSpan_fst s t;rw[e] at this;exact this) ho
theorem ZtC {f:Int}{s:ByteArray}{n:Int}{t u:TS}(ho:okTS t) (e:tTo f s t=(n,u)):okTS u:=Zgm (by have := @tTo_fst f s t;rw[e] at this;exact this) ho
theorem ZmR {n:Frm}{t u:TS}(ho:okTS t) (e:Zhy t=(n,u)):okTS u:=by
 obtain⟨x,v,ev⟩ : ∃ x v,ZaY t=(x,v):=⟨_,_,rfl⟩
 unfold Zhy at e
 rw[ev] at e
 exact Zgm (by have := @ZqJ x v;rw[e] at this;exact this) (Zbk ho ev).2
theorem ZhD {d:Int}{n:Int×Int}{t u:TS}(ho:okTS t) (e:Zdq d t=(n,u)):okTS u:=by
 obtain⟨x,v,ev⟩ : ∃ x v,ZaY t=(x,v):=⟨_,_,rfl⟩
 unfold Zdq at e
 rw[ev] at e
 exact Zgm (by have := @Zn3 d x v;rw[e] at this;exact this) (Zbk ho ev).2
theorem Zll {t t1:TS}{s:ByteArray}{id:Nat}{h:AH}(ho:okTS t) (he:Zfo t=(s,t1)) (h1:h[id]?=some (takE t)):ACalls Tryz.prog 203 [.ptr id 0 0] h fun x h'=>x=.ret (sv s)∧h'=h.set id (takE t1):=by
 have:=tname_a (by have:=(Zbk ho (s:=(ZaY t).1) (u:=(ZaY t).2) rfl).1;unfold maxLen;omega) h1
 rw[he] at this
 exact this
theorem Zpz {s:ByteArray}{a b n:Int}{t t1:TS}{id:Nat}{h:AH}(hb:b≤4) (he:tNum s a b t=(n,t1)) (h1:h[id]?=some (takE t)):ACalls Tryz.prog 274 [.ptr id 0 0,sv s,iv a,iv b] h fun x h'=>x=.ret (iv n)∧h'=h.set id (takE t1):=by
 have:=Zea (s:=s) (a:=a) hb h1
 rw[he] at this
 exact this
theorem ZpA {n:Int}{t t1:TS}{id:Nat}{h:AH}(he:ZdZ t=(n,t1)) (h1:h[id]?=some (takE t)):ACalls Tryz.prog 275 [.ptr id 0 0] h fun x h'=>x=.ret (iv n)∧h'=h.set id (takE t1):=by
 have:=tmonth_a h1
 rw[he] at this
 exact this
theorem tform_e {n:Frm}{t t1:TS}{id:Nat}{h:AH}(ho:okTS t) (he:Zhy t=(n,t1)) (h1:h[id]?=some (takE t)):ACalls Tryz.prog 277 [.ptr id 0 0] h fun x h'=>x=.ret (.agg [iv n.1,iv n.2.1,iv n.2.2])∧h'=h.set id (takE t1):=by
 have:=tform_a (Zbk ho (s:=(ZaY t).1) (u:=(ZaY t).2) rfl).1 h1
 rw[he] at this
 exact this
theorem ZpC {d:Int}{n:Int×Int}{t t1:TS}{id:Nat}{h:AH}(hd:d=1∨d=2) (ho:okTS t) (he:Zdq d t=(n,t1)) (h1:h[id]?=some (takE t)):ACalls Tryz.prog 276 [.ptr id 0 0,iv d] h fun x h'=>x=.ret (.tup [iv n.1,iv n.2])∧h'=h.set id (takE t1):=by
 have:=tclock_a hd (Zbk ho (s:=(ZaY t).1) (u:=(ZaY t).2) rfl).1 h1
 rw[he] at this
 exact this
theorem Zhv {s:ByteArray}{n:Int}{t t1:TS}{id:Nat}{h:AH}(hz:s.size≤24) (he:ZbS s t=(n,t1)) (h1:h[id]?=some (takE t)):ACalls Tryz.prog 273 [.ptr id 0 0,sv s] h fun x h'=>x=.ret (iv n)∧h'=h.set id (takE t1):=by
 have:=ZiA hz h1
 rw[he] at this
 exact this
theorem trule_a {t:TS}{id:Nat}{h:AH}(ho:okTS t) (h1:h[id]?=some (takE t)):ACalls Tryz.prog 202 [.ptr id 0 0] h fun x h'=>x=.ret (.agg (rulC (Zlq t).1))∧h'=h.set id (takE (Zlq t).2):=by
 have hid:id<h.length:=(List.getElem?_eq_some_iff.1 h1).1
 obtain⟨nm,t1,e1⟩ : ∃ a b,Zfo t=(a,b):=⟨_,_,rfl⟩
 have o1:=ZgX ho e1
 obtain⟨s2,t2,e2⟩ : ∃ a b,ZaY t1=(a,b):=⟨_,_,rfl⟩
 obtain⟨z2,o2⟩:=Zbk o1 e2
 obtain⟨f,t3,e3⟩ : ∃ a b,tNum s2 4 4 t2=(a,b):=⟨_,_,rfl⟩
 have o3:=Zin o2 e3
 obtain⟨s4,t4,e4⟩ : ∃ a b,ZaY t3=(a,b):=⟨_,_,rfl⟩
 obtain⟨z4,o4⟩:=Zbk o3 e4
 obtain⟨yr,t5,e5⟩ : ∃ a b,tTo f s4 t4=(a,b):=⟨_,_,rfl⟩
 have o5:=ZtC o4 e5
 obtain⟨m,t6,e6⟩ : ∃ a b,ZdZ t5=(a,b):=⟨_,_,rfl⟩
 have o6:=ZhC o5 e6
 obtain⟨k,t7,e7⟩ : ∃ a b,Zhy t6=(a,b):=⟨_,_,rfl⟩
 have o7:=ZmR o6 e7
 obtain⟨c,t8,e8⟩ : ∃ a b,Zdq 1 t7=(a,b):=⟨_,_,rfl⟩
 have o8:=ZhD o7 e8
 obtain⟨s9,t9,e9⟩ : ∃ a b,ZaY t8=(a,b):=⟨_,_,rfl⟩
 obtain⟨z9,o9⟩:=Zbk o8 e9
 obtain⟨svd,t10,e10⟩ : ∃ a b,ZbS s9 t9=(a,b):=⟨_,_,rfl⟩
 have o10:=Zi0 o9 e10
 obtain⟨s11,t11,e11⟩ : ∃ a b,ZaY t10=(a,b):=⟨_,_,rfl⟩
 obtain⟨z11,o11⟩:=Zbk o10 e11
 have hR:Zlq t=((nm,f,yr,m,k,c.1,c.2,svd,(ZdB t10).1),(ZdB t10).2):=by
  simp only[Zlq,Zcf,ret2,ZsO,tToN,ZsQ,e1,e2,e3,e4,e5,e6,e7,e8,e9,e10]
 have hL:ZdB t10=(if s11=bA [45] then ⟨#[]⟩ else s11,if Zfw s11=true then t11 else bad t11):=by unfold ZdB;rw[e11]
 refine tJ' k202 fun N hn hlt hlA hbd=>?_
 simp only[tb'] at hbd ⊢
 refine Zd6 (h1:=h.set id (takE t)++[]) (by rw[Zdg h1]) ?_
 refine wr'<|E' (Za7 (hl0 (Zap hn)) ha0) pt<|sn'<|wr'<|E' (Za7 (hl1 (Zap hn)) ha1) pt<|sn'<|wr'<|mw<|ZaW mp (Zll ho e1 (Zbb hid)) (ZaQ hid) pt<|?_
 refine Vw (Zac lk)<|E' (Zaj lk cv (hga (Zap hn) rfl) rfl (nb' rfl) rfl Zf1 (hs1 (Zap hn))) ptn<|sn'<|wr'<|mw<|mw<|ZaW mp (Zdz e2 (Zbb hid)) (ZaQ hid) pt<|?_
 refine ZaW mp (Zpz om e3 (Zbb hid)) (ZaQ hid) pt ?_
 refine Vw (Zac lk)<|E' (Zaj lk cv (hga (Zap hn) rfl) rfl (nb' rfl) rfl Zb0 (hs1 (Zap hn))) ptn<|sn'<|wr'<|mw<|ZaW mp (Zdz e4 (Zbb hid)) (ZaQ hid) pt<|mw<|sn'<|?_
 refine Zpq (ι:=Unit) (fun (u:Unit)=>[]++rn' 15 13) (fun (u:Unit)=>h.set id (takE t5)++[.mk 0 36 11 [sv ⟨#[]⟩,iv 0,iv 0,iv 0,iv 0,iv 0,iv 0,iv 0,iv 0,iv 0,sv ⟨#[]⟩],.mk 0 36 11 [sv nm,iv f,iv yr,iv 0,iv 0,iv 0,iv 0,iv 0,iv 0,iv 0,sv ⟨#[]⟩]]) (fun (u:Unit)=>True) ?_ ?_
 ·try simp only[sm',Nat.reduceAdd]
  refine wr'<|mw<|sn'<|Zam<|wr'<|Vw (Zch lk lks)<|mw<|sn'<|?_
  refine cd' lk (fun hc1=>?_) (fun hc1=>?_)
  ·have hq:yr=f∧t5=t4:=by rw[tTo,if_pos (show s4=ZtA from hc1)] at e5;cases e5;exact⟨rfl,rfl⟩
   obtain⟨rfl,rfl⟩:=hq
   refine Zat<|Vw (Zac lk)<|Vw (Zab lk (hga (Zap hn) rfl) gt1)<|Vw (Zac lk)<|E' (Zaj lk cv (hga (Zap hn) rfl) rfl (nb' rfl) rfl ZeK (hs1 (Zap hn))) ptn<|Zaq<|ZaA<|ZaB<|?_
   exact cT' (()) (by trivial)
  refine wr'<|Vw (Zch lk lks)<|mw<|sn'<|?_
  refine cd' lk (fun hc2=>?_) (fun hc2=>?_)
  ·have hq:yr=2100∧t5=t4:=by rw[tTo,if_neg (show ¬s4=ZtA from hc1),if_pos (show s4=maxA from hc2)] at e5;cases e5;exact⟨rfl,rfl⟩
   obtain⟨rfl,rfl⟩:=hq
   refine Zat<|Vw (Zac lk)<|E' (Zaj lk (cvl lki rfl) (hga (Zap hn) rfl) rfl (nb' rfl) rfl ZeK (hs1 (Zap hn))) ptn<|Zaq<|ZaA<|ZaB<|?_
   exact cT' (()) (by trivial)
  have hq:tNum s4 4 4 t4=(yr,t5):=by rw[tTo,if_neg (show ¬s4=ZtA from hc1),if_neg (show ¬s4=maxA from hc2)] at e5;exact e5
  refine Zat<|mw<|mw<|?_
  refine ZaW mp (Zpz om hq (Zbb hid)) (ZaQ hid) pt ?_
  refine Vw (Zac lk)<|E' (Zaj lk cv (hga (Zap hn) rfl) rfl (nb' rfl) rfl ZeK (hs1 (Zap hn))) ptn<|Zaq<|ZaA<|ZaB<|?_
  exact cT' (()) (by trivial)
 rintro u hq9
 try simp only[sm',Nat.reduceAdd]
 refine wr'<|mw<|ZaW mp (ZpA e6 (Zbb hid)) (ZaQ hid) pt<|Vw (Zac lk)<|E' (Zaj lk cv (hga (Zap hn) rfl) rfl (nb' rfl) rfl Zk8 (hs1 (Zap hn))) ptn<|sn'<|wr'<|mw<|ZaW mp (tform_e o6 e7 (Zbb hid)) (ZaQ hid) pt<|Vw (Zac lk)<|E' (Zaj lk cv (hga (Zap hn) rfl) rfl (nb' rfl) rfl ZrY (hs1 (Zap hn))) ptn<|?_
 refine sn'<|wr'<|mw<|ZaW mp (ZpC (.inl rfl) o7 e8 (Zbb hid)) (ZaQ hid) pt<|mw<|Vw (Zbi lk gt)<|Vw (Zbi lk gt)<|Vw (Zac lk)<|E' (Zaj lk cv (hga (Zap hn) rfl) rfl (nb' rfl) rfl ZrW (hs1 (Zap hn))) ptn<|Vw (Zac lk)<|E' (Zaj lk cv (hga (Zap hn) rfl) rfl (nb' rfl) rfl Zk7 (hs1 (Zap hn))) ptn<|Zaq<|?_
 refine Zae<|wr'<|mw<|mw<|ZaW mp (Zdz e9 (Zbb hid)) (ZaQ hid) pt<|ZaW mp (Zhv z9 e10 (Zbb hid)) (ZaQ hid) pt<|Vw (Zac lk)<|E' (Zaj lk cv (hga (Zap hn) rfl) rfl (nb' rfl) rfl Zk6 (hs1 (Zap hn))) ptn<|sn'<|wr'<|mw<|?_
 refine ZaW mp (Zdz e11 (Zbb hid)) (ZaQ hid) pt<|mw<|sn'<|Zag<|wr'<|mw<|Vw (Zch lk lks)<|mw<|?_
 refine sp' (t:=50) gt pt pt (fun hg50=>?_) (fun hg50=>?_)
 ·have hLt:ZdB t10=(s11,bad t11):=by rw[hL,hg50];rfl
  refine so<|so<|so<|s_nu gt pt<|s_nu gt pt<|s_nu gt pt<|so<|Vw (Zal lk lkb)<|sn'<|ZaH lk<|Zat<|mw<|Vw (ZbE lk)<|?_
  refine Vw (Zac lk)<|E' (Zaj lk (cvl lkb rfl) (Zbb hid) rfl (nb' rfl) rfl Zb0 (ZaQ hid)) ptn<|sn'<|Zag<|wr'<|mw<|Vw (ZcF lk lks)<|sn'<|?_
  refine Zc6 lk (by exact decide_eq_true (by rw[hg50];decide)) ?_
  refine Zat<|mw<|Vw (Zac lk)<|E' (Zaj lk cv (hga (Zap hn) rfl) rfl (nb' rfl) rfl Zgz (hs1 (Zap hn))) ptn<|sn'<|wr'<|Vw (Zao lk (hga (Zap hn) rfl) Zcz rfl)<|E' (Zaj lk cv (hga (Zap hn) rfl) rfl (nb' rfl) rfl Ze8 (hs0 (Zap hn))) ptn<|sn'<|Zaa<|Zah (rs1 (rr_c gt (hga (Zap hn) rfl) (ld1 Zcz rfl)))<|?_
  rw[hLt] at hR
  exact⟨_,_,rfl,Zap hn,Zca hlt ZaS,rfl,by rw[hR] <;> rfl,by rw[hR] <;> rfl⟩
 refine s_do gt<|mw<|s_do gt<|Vw (ZcF lk lks)<|s_do gt<|mw<|?_
 refine sp' (t:=53) gt pt pt (fun hg53=>?_) (fun hg53=>?_)
 ·refine s_do gt<|mw<|s_do gt<|?_
  refine Zaf mp (ZhW (by unfold maxLen;omega)) pt ?_
  refine s_do gt<|Vw (ZaC lk)<|s_do gt<|Vw (Zal lk lk)<|Vw (Zak lk lk)<|sn'<|?_
  refine Zaz lk (fun hc3=>?_) (fun hc3=>?_)
  ·have hl:ZcD s11=false:=by simpa using hc3
   have hLt:ZdB t10=(s11,bad t11):=by rw[hL,if_neg (show ¬s11=bA [45] from hg53),if_neg (by unfold Zfw;rw[hl,decide_eq_false (show ¬s11=bA [45] from hg53)];simp)]
   refine Zat<|mw<|Vw (ZbE lk)<|Vw (Zac lk)<|E' (Zaj lk (cvl lkb rfl) (Zbb hid) rfl (nb' rfl) rfl Zb0 (ZaQ hid)) ptn<|sn'<|Zag<|wr'<|mw<|Vw (ZcF lk lks)<|sn'<|?_
   refine Zc6 lk (by exact decide_eq_true hg53) ?_
   refine Zat<|mw<|Vw (Zac lk)<|E' (Zaj lk cv (hga (Zap hn) rfl) rfl (nb' rfl) rfl Zgz (hs1 (Zap hn))) ptn<|sn'<|wr'<|Vw (Zao lk (hga (Zap hn) rfl) Zcz rfl)<|E' (Zaj lk cv (hga (Zap hn) rfl) rfl (nb' rfl) rfl Ze8 (hs0 (Zap hn))) ptn<|sn'<|Zaa<|Zah (rs1 (rr_c gt (hga (Zap hn) rfl) (ld1 Zcz rfl)))<|?_
   rw[hLt] at hR
   exact⟨_,_,rfl,Zap hn,Zca hlt ZaS,rfl,by rw[hR] <;> rfl,by rw[hR] <;> rfl⟩
  have hl:ZcD s11=true:=by simpa using hc3
  have hLt:ZdB t10=(s11,t11):=by rw[hL,if_neg (show ¬s11=bA [45] from hg53),if_pos (by unfold Zfw;rw[hl,decide_eq_true hg50];simp)]
  refine Zad<|Zae<|Zag<|wr'<|mw<|Vw (ZcF lk lks)<|sn'<|?_
  refine Zc6 lk (by exact decide_eq_true hg53) ?_
  refine Zat<|mw<|Vw (Zac lk)<|E' (Zaj lk cv (hga (Zap hn) rfl) rfl (nb' rfl) rfl Zgz (hs1 (Zap hn))) ptn<|sn'<|wr'<|Vw (Zao lk (hga (Zap hn) rfl) Zcz rfl)<|E' (Zaj lk cv (hga (Zap hn) rfl) rfl (nb' rfl) rfl Ze8 (hs0 (Zap hn))) ptn<|sn'<|Zaa<|Zah (rs1 (rr_c gt (hga (Zap hn) rfl) (ld1 Zcz rfl)))<|?_
  rw[hLt] at hR
  exact⟨_,_,rfl,Zap hn,Zca hlt ZaS,rfl,by rw[hR] <;> rfl,by rw[hR] <;> rfl⟩
 have h45:s11=bA [45]:=Decidable.of_not_not hg53
 have hLt:ZdB t10=(⟨#[]⟩,t11):=by rw[hL,h45];rfl
 refine so<|so<|so<|s_do gt<|Vw (Zak lk lkb)<|Vw (Zak lk lk)<|sn'<|ZaT lk<|Zad<|Zae<|Zag<|wr'<|?_
 refine mw<|Vw (ZcF lk lks)<|sn'<|?_
 refine Zc5 lk (by exact decide_eq_false (by rw[h45];decide)) ?_
 refine Zad<|Zae<|wr'<|Vw (Zao lk (hga (Zap hn) rfl) Zcz rfl)<|E' (Zaj lk cv (hga (Zap hn) rfl) rfl (nb' rfl) rfl Ze8 (hs0 (Zap hn))) ptn<|sn'<|Zaa<|Zah (rs1 (rr_c gt (hga (Zap hn) rfl) (ld1 Zcz rfl)))<|?_
 rw[hLt] at hR
 exact⟨_,_,rfl,Zap hn,Zca hlt ZaS,rfl,by rw[hR] <;> rfl,by rw[hR] <;> rfl⟩
theorem tSpan_bd {s:ByteArray}{t:TS}:0≤(ZbS s t).1∧(ZbS s t).1<1000000000:=by
 unfold ZbS
 split
 ·exact⟨Int.le_refl 0,show (0:Int)<1000000000 by decide⟩
 unfold Zfn
 split
 ·rename_i a b _
  have h1:=ZiH (s:=bA a) (a:=1) (b:=2) (t:=t) om
  have h2:=Zhx (s:=bA b) (t:=(tNum (bA a) 1 2 t).2)
  constructor <;> dsimp only <;> omega
 ·rename_i a b c _
  have h1:=ZiH (s:=bA a) (a:=1) (b:=2) (t:=t) om
  have h2:=Zhx (s:=bA b) (t:=(tNum (bA a) 1 2 t).2)
  have h3:=Zhx (s:=bA c) (t:=(tSix (bA b) (tNum (bA a) 1 2 t).2).2)
  constructor <;> dsimp only <;> omega
 exact⟨Int.le_refl 0,show (0:Int)<1000000000 by decide⟩
abbrev eraZ:List AV:=[iv 0,sv ⟨#[]⟩,iv 0,sv ⟨#[]⟩,bv false,iv 0,iv 0,iv 0,iv 0,iv 0]
theorem Zkh {t u:TS}{n:Int}(ho:okTS t) (e:ZgK t=(n,u)):okTS u:=by
 obtain⟨x,v,ev⟩ : ∃ x v,ZaY t=(x,v):=⟨_,_,rfl⟩
 unfold ZgK at e
 rw[ev] at e
 have:=(Zbk ho ev).2
 split at e
 ·cases e;exact Zgm tSpan_fst this
 exact Zi0 this e
theorem Zki {s:ByteArray}{t u:TS}{p:Int×ByteArray}(ho:okTS t) (e:Zel s t=(p,u)):okTS u:=by
 unfold Zel at e
 split at e
 ·cases e;exact ho
 split at e
 ·cases e
  refine Zgm tSpan_fst ?_
  split <;> exact ho
 cases e
 split <;> exact ho
theorem tera_a {t:TS}{id:Nat}{h:AH}(ho:okTS t) (h1:h[id]?=some (takE t)):ACalls Tryz.prog 201 [.ptr id 0 0] h fun x h'=>x=.ret (.agg (eraC (tEra t).1))∧h'=h.set id (takE (tEra t).2):=by
 have hid:id<h.length:=(List.getElem?_eq_some_iff.1 h1).1
 obtain⟨s1,t1,e1⟩ : ∃ a b,ZaY t=(a,b):=⟨_,_,rfl⟩
 obtain⟨z1,o1⟩:=Zbk ho e1
 have hem1:=Ze0 (f:=s1)
 obtain⟨sh,t2,e2⟩ : ∃ a b,ZgK t=(a,b):=⟨_,_,rfl⟩
 have o2:=Zkh ho e2
 obtain⟨s3,t3,e3⟩ : ∃ a b,ZaY t2=(a,b):=⟨_,_,rfl⟩
 obtain⟨z3,o3⟩:=Zbk o2 e3
 have hem3:=Ze0 (f:=s3)
 obtain⟨⟨sa,rl⟩,t4,e4⟩ : ∃ a b,Zel s3 t3=(a,b):=⟨_,_,rfl⟩
 have o4:=Zki o3 e4
 obtain⟨fm,t5,e5⟩ : ∃ a b,ZaY t4=(a,b):=⟨_,_,rfl⟩
 obtain⟨z5,o5⟩:=Zbk o4 e5
 obtain⟨t6,e6⟩ : ∃ u,(if Zbx fm=true then t5 else bad t5)=u:=⟨_,rfl⟩
 have o6:okTS t6:=by rw[←e6];split <;> exact o5
 obtain⟨s7,t7,e7⟩ : ∃ a b,ZaY t6=(a,b):=⟨_,_,rfl⟩
 obtain⟨z7,o7⟩:=Zbk o6 e7
 obtain⟨y,t8,e8⟩ : ∃ a b,tNum s7 4 4 t7=(a,b):=⟨_,_,rfl⟩
 have o8:=Zin o7 e8
 obtain⟨m,t9,e9⟩ : ∃ a b,ZdZ t8=(a,b):=⟨_,_,rfl⟩
 have o9:=ZhC o8 e9
 obtain⟨s10,t10,e10⟩ : ∃ a b,ZaY t9=(a,b):=⟨_,_,rfl⟩
 obtain⟨z10,o10⟩:=Zbk o9 e10
 obtain⟨d,t11,e11⟩ : ∃ a b,tNum s10 1 2 t10=(a,b):=⟨_,_,rfl⟩
 have o11:=Zin o10 e11
 obtain⟨c,t12,e12⟩ : ∃ a b,Zdq 2 t11=(a,b):=⟨_,_,rfl⟩
 have o12:=ZhD o11 e12
 have hU:ZhT t6=(((y,m,d),c.1,c.2),if c.2=1 then bad t12 else t12):=by
  simp only[ZhT,Zcf,ret2,ZsO,tDay,ZsP,e7,e8,e9,e10,e11,e12]
 have hR:tEra t=((sh,rl,sa,fm,(tEnd t6).1.1,(tEnd t6).1.2),(tEnd t6).2):=by
  simp only[tEra,Zcf,ret2,ZsR,ZiI,e2,e3,e4,e5,e6]
 refine tJ' k201 fun N hn hlt hlA hbd=>?_
 simp only[tb'] at hbd ⊢
 refine Zd6 (h1:=h.set id (takE t)++[]) (by rw[Zdg h1]) ?_
 refine wr'<|E' (Za7 (hl0 (Zap hn)) ha0) pt<|sn'<|wr'<|E' (Za7 (hl1 (Zap hn)) ha1) pt<|sn'<|wr'<|mw<|ZaW mp (Zdz e1 (Zbb hid)) (ZaQ hid) pt<|?_
 refine mw<|sn'<|?_
 refine Zpq (ι:=Unit) (fun (u:Unit)=>[]++rn' 10 17) (fun (u:Unit)=>h.set id (takE t2)++[.mk 0 63 10 eraZ,.mk 0 63 10 [iv sh,sv ⟨#[]⟩,iv 0,sv ⟨#[]⟩,bv false,iv 0,iv 0,iv 0,iv 0,iv 0]]) (fun (u:Unit)=>True) ?_ ?_
 ·try simp only[sm',Nat.reduceAdd]
  refine wr'<|mw<|Vw (ZcF lk lks)<|mw<|?_
  refine sp' (t:=12) gt pt pt (fun hg12=>?_) (fun hg12=>?_)
  ·have hn1:s1.size≠0:=fun e=>hg12 (hem1.2 e)
   refine s_do gt<|mw<|s_do gt<|?_
   refine V' (v_ix lk lki om om) pt ?_
   refine s_do gt<|Vw (ZaX lk lki)<|Vw (Zal lk lk)<|sn'<|?_
   refine cd' lk (fun hc1=>?_) (fun hc1=>?_)
   ·have hc:s1.size≠0∧Zia s1=45:=⟨fun e=>hg12 (hem1.2 e),hc1⟩
    obtain⟨n,u2,f2⟩ : ∃ a b,ZbS (s1.extract 1 s1.size) t1=(a,b):=⟨_,_,rfl⟩
    have hb2:=tSpan_bd (s:=s1.extract 1 s1.size) (t:=t1)
    rw[f2] at hb2
    replace hb2:0≤n∧n<1000000000:=hb2
    have hq:sh = -n∧t2=u2:=by unfold ZgK at e2;rw[e1,if_pos hc,f2] at e2;cases e2;exact⟨rfl,rfl⟩
    obtain⟨rfl,rfl⟩:=hq
    refine Zat<|mw<|mw<|?_
    refine V' (Zdy lk (oi lki) on_ om om om) pt ?_
    refine ZaW mp (Zhv (by rw[ByteArray.size_extract];omega) f2 (Zbb hid)) (ZaQ hid) pt ?_
    refine V' (v_neg lk om om) pt ?_
    refine Vw (Zac lk)<|E' (Zaj lk cv (hga (Zap hn) rfl) rfl (nb' rfl) rfl Zf1 (hs1 (Zap hn))) ptn<|Zaq<|ZaB<|?_
    exact cT' (()) (by trivial)
   have hc:¬(s1.size≠0∧Zia s1=45):=fun e=>hc1 e.2
   have f2:ZbS s1 t1=(sh,t2):=by unfold ZgK at e2;rw[e1,if_neg hc] at e2;exact e2
   refine Zat<|mw<|mw<|ZaW mp (Zhv z1 f2 (Zbb hid)) (ZaQ hid) pt<|Vw (Zac lk)<|E' (Zaj lk cv (hga (Zap hn) rfl) rfl (nb' rfl) rfl Zf1 (hs1 (Zap hn))) ptn<|Zaq<|ZaB<|?_
   exact cT' (()) (by trivial)
  have hc:¬(s1.size≠0∧Zia s1=45):=fun e=>e.1 (hem1.1 (Decidable.of_not_not hg12))
  have f2:ZbS s1 t1=(sh,t2):=by unfold ZgK at e2;rw[e1,if_neg hc] at e2;exact e2
  refine so<|so<|so<|Vw (Zak lk lkb)<|sn'<|ZaT lk<|Zat<|mw<|mw<|ZaW mp (Zhv z1 f2 (Zbb hid)) (ZaQ hid) pt<|Vw (Zac lk)<|E' (Zaj lk cv (hga (Zap hn) rfl) rfl (nb' rfl) rfl Zf1 (hs1 (Zap hn))) ptn<|Zaq<|?_
  refine ZaB ?_
  exact cT' (()) (by trivial)
 rintro u hq5
 try simp only[sm',Nat.reduceAdd]
 refine wr'<|mw<|ZaW mp (Zdz e3 (Zbb hid)) (ZaQ hid) pt<|mw<|sn'<|?_
 refine Zpq (ι:=Unit) (fun (u:Unit)=>[]++rn' 29 28) (fun (u:Unit)=>h.set id (takE t4)++[.mk 0 63 10 eraZ,.mk 0 63 10 [iv sh,sv rl,iv sa,sv ⟨#[]⟩,bv false,iv 0,iv 0,iv 0,iv 0,iv 0]]) (fun (u:Unit)=>True) ?_ ?_
 ·try simp only[sm',Nat.reduceAdd]
  refine Zam<|wr'<|mw<|Vw (Zch lk lks)<|mw<|sn'<|?_
  refine cd' lk (fun hc2=>?_) (fun hc2=>?_)
  ·have hq:sa=0∧rl=⟨#[]⟩∧t4=t3:=by rw[Zel,if_pos (show s3=bA [45] from hc2)] at e4;cases e4;exact⟨rfl,rfl,rfl⟩
   obtain⟨rfl,rfl,rfl⟩:=hq
   refine Zad<|ZaA<|ZaB<|?_
   exact cT' (()) (by trivial)
  rw[Zel,if_neg (show ¬s3=bA [45] from hc2)] at e4
  have hbz:=ZfE s3 0
  refine wr'<|mw<|Vw (ZcF lk lks)<|mw<|?_
  refine sp' (t:=43) gt pt pt (fun hg43=>?_) (fun hg43=>?_)
  ·have hn3:s3.size≠0:=fun e=>hg43 (hem3.2 e)
   refine s_do gt<|mw<|s_do gt<|?_
   refine V' (v_ix lk lki om om) pt ?_
   refine s_do gt<|Zaf mp (Zex hbz.1 hbz.2) pt<|Vw (Zal lk lk)<|mw<|sn'<|?_
   refine Zaz lk (fun hc3=>?_) (fun hc3=>?_)
   ·have hc:s3.size≠0∧digB (Zia s3)=true:=⟨fun e=>hg43 (hem3.2 e),hc3⟩
    rw[if_pos hc] at e4
    refine Zag<|wr'<|mw<|Vw (Zch lk lks)<|sn'<|?_
    refine cd' lk (fun hc4=>?_) (fun hc4=>?_)
    ·rw[if_pos (show s3=bA [48] from hc4)] at e4
     have hsp:ZbS s3 (bad t3)=(sa,t4):=by cases e4;rfl
     have hrl:rl=⟨#[]⟩:=by cases e4;rfl
     subst hrl
     refine Zat<|mw<|Vw (ZbE lk)<|Vw (Zac lk)<|E' (Zaj lk (cvl lkb rfl) (Zbb hid) rfl (nb' rfl) rfl Zb0 (ZaQ hid)) ptn<|sn'<|Zat<|mw<|mw<|ZaW mp (Zhv z3 hsp (Zbb hid)) (ZaQ hid) pt<|Vw (Zac lk)<|E' (Zaj lk cv (hga (Zap hn) rfl) rfl (nb' rfl) rfl ZeK (hs1 (Zap hn))) ptn<|Zaq<|?_
     refine ZaA<|ZaB<|?_
     exact cT' (()) (by trivial)
    rw[if_neg (show ¬s3=bA [48] from hc4)] at e4
    have hsp:ZbS s3 t3=(sa,t4):=by cases e4;rfl
    have hrl:rl=⟨#[]⟩:=by cases e4;rfl
    subst hrl
    refine Zad<|Zae<|Zat<|mw<|mw<|ZaW mp (Zhv z3 hsp (Zbb hid)) (ZaQ hid) pt<|Vw (Zac lk)<|E' (Zaj lk cv (hga (Zap hn) rfl) rfl (nb' rfl) rfl ZeK (hs1 (Zap hn))) ptn<|Zaq<|ZaA<|ZaB<|?_
    exact cT' (()) (by trivial)
   have hc:¬(s3.size≠0∧digB (Zia s3)=true):=fun e=>by have:=e.2;rw[show digB (Zia s3)=false from hc3] at this;cases this
   refine Zag<|wr'<|mw<|?_
   rw[if_neg hc] at e4
   refine Zaf mp (Zdr (by unfold maxLen;omega)) pt ?_
   refine Vw (ZaC lk)<|sn'<|?_
   refine Zaz lk (fun hc5=>?_) (fun hc5=>?_)
   ·have hnm:¬ZcI s3=true:=by simpa using hc5
    rw[if_neg hnm] at e4
    have hq:sa=0∧rl=s3∧t4=bad t3:=by cases e4;exact⟨rfl,rfl,rfl⟩
    obtain⟨rfl,rfl,rfl⟩:=hq
    refine Zat<|mw<|Vw (ZbE lk)<|Vw (Zac lk)<|E' (Zaj lk (cvl lkb rfl) (Zbb hid) rfl (nb' rfl) rfl Zb0 (ZaQ hid)) ptn<|sn'<|Zat<|mw<|Vw (Zac lk)<|E' (Zaj lk cv (hga (Zap hn) rfl) rfl (nb' rfl) rfl Zb0 (hs1 (Zap hn))) ptn<|Zaq<|ZaA<|ZaB<|?_
    exact cT' (()) (by trivial)
   have hnm:ZcI s3=true:=by simpa using hc5
   rw[if_pos hnm] at e4
   have hq:sa=0∧rl=s3∧t4=t3:=by cases e4;exact⟨rfl,rfl,rfl⟩
   obtain⟨rfl,rfl,rfl⟩:=hq
   refine Zad<|Zae<|Zat<|mw<|Vw (Zac lk)<|E' (Zaj lk cv (hga (Zap hn) rfl) rfl (nb' rfl) rfl Zb0 (hs1 (Zap hn))) ptn<|Zaq<|ZaA<|ZaB<|?_
   exact cT' (()) (by trivial)
  have hc:¬(s3.size≠0∧digB (Zia s3)=true):=fun e=>e.1 (hem3.1 (Decidable.of_not_not hg43))
  refine so<|so<|so<|Vw (Zak lk lkb)<|mw<|sn'<|ZaT lk<|Zag<|wr'<|mw<|?_
  rw[if_neg hc] at e4
  refine Zaf mp (Zdr (by unfold maxLen;omega)) pt ?_
  refine Vw (ZaC lk)<|sn'<|?_
  refine Zaz lk (fun hc5=>?_) (fun hc5=>?_)
  ·have hnm:¬ZcI s3=true:=by simpa using hc5
   rw[if_neg hnm] at e4
   have hq:sa=0∧rl=s3∧t4=bad t3:=by cases e4;exact⟨rfl,rfl,rfl⟩
   obtain⟨rfl,rfl,rfl⟩:=hq
   refine Zat<|mw<|Vw (ZbE lk)<|Vw (Zac lk)<|E' (Zaj lk (cvl lkb rfl) (Zbb hid) rfl (nb' rfl) rfl Zb0 (ZaQ hid)) ptn<|sn'<|Zat<|mw<|Vw (Zac lk)<|E' (Zaj lk cv (hga (Zap hn) rfl) rfl (nb' rfl) rfl Zb0 (hs1 (Zap hn))) ptn<|Zaq<|ZaA<|ZaB<|?_
   exact cT' (()) (by trivial)
  have hnm:ZcI s3=true:=by simpa using hc5
  rw[if_pos hnm] at e4
  have hq:sa=0∧rl=s3∧t4=t3:=by cases e4;exact⟨rfl,rfl,rfl⟩
  obtain⟨rfl,rfl,rfl⟩:=hq
  refine Zad<|Zae<|Zat<|mw<|Vw (Zac lk)<|E' (Zaj lk cv (hga (Zap hn) rfl) rfl (nb' rfl) rfl Zb0 (hs1 (Zap hn))) ptn<|Zaq<|ZaA<|ZaB<|?_
  exact cT' (()) (by trivial)
 rintro u hq13
 try simp only[sm',Nat.reduceAdd]
 refine wr'<|mw<|ZaW mp (Zdz e5 (Zbb hid)) (ZaQ hid) pt<|Vw (Zac lk)<|E' (Zaj lk cv (hga (Zap hn) rfl) rfl (nb' rfl) rfl Zk8 (hs1 (Zap hn))) ptn<|sn'<|?_
 refine Zpq (ι:=Unit) (fun (u:Unit)=>[]++rn' 60 7) (fun (u:Unit)=>h.set id (takE t6)++[.mk 0 63 10 eraZ,.mk 0 63 10 [iv sh,sv rl,iv sa,sv fm,bv false,iv 0,iv 0,iv 0,iv 0,iv 0]]) (fun (u:Unit)=>True) ?_ ?_
 ·try simp only[sm',Nat.reduceAdd]
  refine wr'<|Vw (Zac lk)<|Vw (Zab lk (hga (Zap hn) rfl) gt3)<|?_
  refine Zaf mp (Zgl (by unfold maxLen;omega)) pt ?_
  refine Vw (ZaC lk)<|sn'<|?_
  refine Zaz lk (fun hc6=>?_) (fun hc6=>?_)
  ·have hq:t6=bad t5:=by rw[←e6,if_neg (by simpa using hc6)]
   subst hq
   refine Zat<|mw<|Vw (ZbE lk)<|Vw (Zac lk)<|E' (Zaj lk (cvl lkb rfl) (Zbb hid) rfl (nb' rfl) rfl Zb0 (ZaQ hid)) ptn<|Zaq<|ZaB<|?_
   exact cT' (()) (by trivial)
  have hq:t6=t5:=by rw[←e6,if_pos (by simpa using hc6)]
  subst hq
  refine Zad<|ZaB<|?_
  exact cT' (()) (by trivial)
 rintro u hq16
 try simp only[sm',Nat.reduceAdd]
 refine Zag<|wr'<|mw<|Vw (ZbE lk)<|Vw (Zac lk)<|Vw (Zab lk (Zbb hid) gt0)<|Vw (ZaG lk)<|Vw (ZaX lk lki)<|sn'<|?_
 refine cd' lk (fun hc7=>?_) (fun hc7=>?_)
 ·have hE:tEnd t6=((true,untZ),t6):=by unfold tEnd;rw[if_pos (List.eq_nil_of_length_eq_zero om)]
  rw[hE] at hR
  refine wr'<|Vw (Zac lk)<|E' (Zaj lk (cvl lkb rfl) (hga (Zap hn) rfl) rfl (nb' rfl) rfl ZrZ (hs1 (Zap hn))) ptn<|sn'<|wr'<|Vw (Zao lk (hga (Zap hn) rfl) Zdm rfl)<|E' (Zaj lk cv (hga (Zap hn) rfl) rfl (nb' rfl) rfl ZgA (hs0 (Zap hn))) ptn<|sn'<|Zaa<|Zai<|?_
  refine Zah (rs1 (rr_c gt (hga (Zap hn) rfl) (ld1 Zdm rfl))) ?_
  exact⟨_,_,rfl,Zap hn,Zca hlt ZaS,rfl,by rw[hR] <;> rfl,by rw[hR] <;> rfl⟩
 have hE:tEnd t6=((false,(ZhT t6).1),(ZhT t6).2):=by unfold tEnd;rw[if_neg (by intro e;rw[e] at hc7;exact hc7 rfl)]
 rw[hE,hU] at hR
 refine Zad<|Zae<|wr'<|mw<|mw<|ZaW mp (Zdz e7 (Zbb hid)) (ZaQ hid) pt<|?_
 refine ZaW mp (Zpz om e8 (Zbb hid)) (ZaQ hid) pt ?_
 refine mw<|sn'<|wr'<|mw<|ZaW mp (ZpA e9 (Zbb hid)) (ZaQ hid) pt<|mw<|sn'<|wr'<|mw<|mw<|?_
 refine ZaW mp (Zdz e10 (Zbb hid)) (ZaQ hid) pt ?_
 refine ZaW mp (Zpz om e11 (Zbb hid)) (ZaQ hid) pt ?_
 refine mw<|sn'<|wr'<|mw<|mw<|mw<|Vw (Zaw (Zma cv rfl cv rfl cv rfl))<|Vw (Zac lk)<|Vw (Zbl lk)<|E' (Zaj lk cv (hga (Zap hn) rfl) rfl (nb' rfl) rfl ZrX (hs1 (Zap hn))) ptn<|sn'<|?_
 refine wr'<|mw<|ZaW mp (ZpC (.inr rfl) o11 e12 (Zbb hid)) (ZaQ hid) pt<|mw<|Vw (Zbi lk gt)<|Vw (Zbi lk gt)<|Vw (Zac lk)<|Vw (Zbl lk)<|E' (Zaj lk cv (hga (Zap hn) rfl) rfl (nb' rfl) rfl Zk7 (hs1 (Zap hn))) ptn<|Vw (Zac lk)<|Vw (Zbl lk)<|E' (Zaj lk cv (hga (Zap hn) rfl) rfl (nb' rfl) rfl Zk6 (hs1 (Zap hn))) ptn<|Zaq<|?_
 refine Zae<|Zag<|wr'<|Vw (Zac lk)<|Vw (Zbl lk)<|Vw (Zab lk (hga (Zap hn) rfl) gt9)<|Vw (ZaX lk lki)<|sn'<|?_
 refine cd' lk (fun hc8=>?_) (fun hc8=>?_)
 ·rw[if_pos hc8] at hR
  refine Zat<|mw<|Vw (ZbE lk)<|Vw (Zac lk)<|E' (Zaj lk (cvl lkb rfl) (Zbb hid) rfl (nb' rfl) rfl Zb0 (ZaQ hid)) ptn<|sn'<|wr'<|Vw (Zao lk (hga (Zap hn) rfl) Zdm rfl)<|E' (Zaj lk cv (hga (Zap hn) rfl) rfl (nb' rfl) rfl ZgA (hs0 (Zap hn))) ptn<|sn'<|Zaa<|?_
  refine Zah (rs1 (rr_c gt (hga (Zap hn) rfl) (ld1 Zdm rfl))) ?_
  exact⟨_,_,rfl,Zap hn,Zca hlt ZaS,rfl,by rw[hR] <;> rfl,by rw[hR] <;> rfl⟩
 rw[if_neg hc8] at hR
 refine Zad<|Zae<|wr'<|Vw (Zao lk (hga (Zap hn) rfl) Zdm rfl)<|E' (Zaj lk cv (hga (Zap hn) rfl) rfl (nb' rfl) rfl ZgA (hs0 (Zap hn))) ptn<|sn'<|Zaa<|Zah (rs1 (rr_c gt (hga (Zap hn) rfl) (ld1 Zdm rfl)))<|?_
 exact⟨_,_,rfl,Zap hn,Zca hlt ZaS,rfl,by rw[hR] <;> rfl,by rw[hR] <;> rfl⟩
end Go.Proofs.YtlekejpogddndaaGreatDoor
end
section
namespace Go.Proofs.YtlekejpogddndaaGreatDoor
open Go.Ab
theorem Ztx (s:ByteArray):ZbX s=if (Zcc s).2.2≠0 then (srcZ,(Zcc s).2.1,(Zcc s).2.2) else outP (Zcc s).1:=rfl
end Go.Proofs.YtlekejpogddndaaGreatDoor
end
section
namespace Go.Proofs.YtlekejpogddndaaGreatDoor
open Go.Ab Go.RowKit
def badN (n:Int):Bool:=!plnN n||decide (n=34)
def Zge (f:ByteArray):Int:=if (aB f).any (fun c=>badN c.toNat)=true then 1 else if 24<f.size then 2 else 0
def Zky:List ByteArray→Int
 | []=>0
 | f::fs=>if Zge f≠0 then Zge f else Zky fs
def Zq2 (fs:List ByteArray):Int:=if fs.length=0 then 1 else if 12<fs.length then 2 else Zky fs
end Go.Proofs.YtlekejpogddndaaGreatDoor
end
section
namespace Go.Proofs.YtlekejpogddndaaGreatDoor
open Go.Ab
theorem ZlA {p:Int→Bool} : ∀ {l:Bs}{n:Nat},runL p l=some n → ∀ c∈l.take n,p c.toNat=true∧plnN c.toNat=true
 | [],n,h,c,hc=>by simp at hc
 | x::l,n,h,c,hc=>by
  unfold runL at h
  split at h
  ·rename_i hp
   split at h
   ·rename_i hq
    rw[Option.map_eq_some_iff] at h
    obtain⟨m,hm,rfl⟩:=h
    rw[List.take_succ_cons] at hc
    rcases List.mem_cons.1 hc with rfl | hc
    ·exact⟨hp,hq⟩
    ·exact ZlA hm c hc
   ·cases h
  ·cases h;simp at hc
theorem Zqu {n:Int}:badN n=false↔plnN n=true∧n≠34:=by
 unfold badN;simp
theorem ZoB {l:Bs}{x:Nat×Nat×Nat}(h:Zde l=some x) : ∀ c∈(l.drop x.1).take x.2.1,badN c.toNat=false:=by
 cases l with
 | nil=>cases h
 | cons c l =>
  by_cases hc:(c.toNat:Int)=34
  ·rw[Zde,if_pos hc] at h
   cases hr:runL quoP l with
   | none=>rw[hr] at h;cases h
   | some n =>
    have:=ZlA hr
    rw[hr] at h
    simp only at h
    split at h
    ·cases h
    ·split at h
     ·cases h
     ·cases h
      intro y hy
      have:=this y (by simpa using hy)
      exact Zqu.2 ⟨this.2,by have:=this.1;unfold quoP at this;simpa using this⟩
  ·rw[Zde,if_neg hc] at h
   cases hr:runL fldP (c::l) with
   | none=>rw[hr] at h;cases h
   | some n =>
    have:=ZlA hr
    rw[hr] at h
    simp only at h
    split at h
    ·cases h
    ·cases h
     intro y hy
     have:=this y (by simpa using hy)
     exact Zqu.2 ⟨this.2,by have:=this.1;unfold fldP at this;simp at this;exact this.2⟩
theorem ZoC {f:ByteArray}(h1 : ∀ c∈aB f,badN c.toNat=false) (h2:f.size≤24):Zge f=0:=by
 unfold Zge
 rw[if_neg,if_neg om]
 rw[List.any_eq_true]
 rintro⟨c,hc,hb⟩
 rw[h1 c hc] at hb;cases hb
theorem Zra {f:ByteArray}(h:Zge f=0):(∀ c∈aB f,badN c.toNat=false)∧f.size≤24:=by
 unfold Zge at h
 split at h
 ·cases h
 ·rename_i h1
  split at h
  ·cases h
  ·refine⟨fun c hc=>?_,by omega⟩
   cases hb:badN c.toNat
   ·rfl
   ·exact absurd (List.any_eq_true.2 ⟨c,hc,hb⟩) h1
theorem Zkv : ∀ {k:Nat}{acc:List ByteArray}{l:Bs},(∀ f∈acc,Zge f=0)→acc.length≤12→(ZjS k acc l).2=0→(∀ f∈(ZjS k acc l).1,Zge f=0)∧(ZjS k acc l).1.length≤12
 | 0,acc,l,h1,h2,_=>⟨h1,h2⟩
 | k+1,acc,l,h1,h2,h3=>by
  rw[ZjS] at h3 ⊢
  split at h3
  ·rename_i hm
   rw[if_pos hm]
   split at h3
   ·cases h3
   ·rename_i x hx
    split at h3
    ·cases h3
    ·rename_i hn
     rw[if_neg hn]
     refine Zkv (fun f hf=>?_) (by simp;omega) h3
     rcases List.mem_append.1 hf with hf | hf
     ·exact h1 f hf
     ·rw[List.mem_singleton] at hf
      subst hf
      refine ZoC (fun c hc=>ZoB hx c hc) ?_
      unfold cutF
      rw[ZdG,List.length_take];omega
  ·rename_i hm
   rw[if_neg hm]
   exact⟨h1,h2⟩
theorem Zq1 {x:Bs}(h:(Zd8 x).2=0) (hne:(Zd8 x).1≠[]):Zq2 (Zd8 x).1=0:=by
 obtain⟨h1,h2⟩:=Zkv (k:=13) (acc:=[]) (l:=x) (fun f hf=>by simp at hf) (by simp) h
 unfold Zq2
 have:0<(Zd8 x).1.length:=List.length_pos_iff.2 hne
 rw[if_neg om,if_neg (by show ¬12<(ZjS 13 [] x).1.length;omega)]
 have : ∀ {fs:List ByteArray},(∀ f∈fs,Zge f=0)→Zky fs=0:=by
  intro fs
  induction fs with
  | nil=>intro _;rfl
  | cons f fs ih =>
   intro h
   rw[Zky,if_neg (by rw[h f (by simp)];simp)]
   exact ih fun g hg=>h g (by simp[hg])
 exact this h1
theorem Zkl : ∀ {n:Int}{l:List Bs}{acc:List Ln},(ZcG n l acc).2.2≠0→(ZcG n l acc).1=[]
 | n,[],acc,h=>absurd rfl h
 | n,x::xs,acc,h=>by
  rw[ZcG] at h ⊢
  split at h
  ·rename_i h1;rw[if_pos h1]
  ·rename_i h1;rw[if_neg h1];exact Zkl h
theorem Zi6 : ∀ {n:Int}{l:List Bs}{acc:List Ln},(∀ x∈acc,Zq2 x.2.2=0) → ∀ x∈(ZcG n l acc).1,Zq2 x.2.2=0
 | n,[],acc,h=>h
 | n,y::ys,acc,h=>by
  rw[ZcG]
  split
  ·intro x hx;simp at hx
  ·rename_i h1
   refine Zi6 fun x hx=>?_
   split at hx
   ·exact h x hx
   ·rename_i h2
    rcases List.mem_append.1 hx with hx | hx
    ·exact h x hx
    ·rw[List.mem_singleton] at hx
     subst hx
     exact Zq1 (Decidable.of_not_not h1) h2
theorem Zn5 {s:ByteArray} : ∀ x∈(Zcc s).1,Zq2 x.2.2=0:=by
 have:=Zi6 (n:=1) (l:=cutC 10 (aB s)) (acc:=[]) (fun x hx=>by simp at hx)
 unfold Zcc
 split
 ·intro x hx;simp at hx
 ·split
  ·exact this
  ·split
   ·intro x hx;simp at hx
   ·exact this
end Go.Proofs.YtlekejpogddndaaGreatDoor
end
section
namespace Go.Proofs.YtlekejpogddndaaGreatDoor
open Go.Ab Go.RowKit Civ
def PT {α:Type}(f:TS→α×TS) (P:α→Prop):Prop := ∀ t,okTS t→P (f t).1∧okTS (f t).2
theorem PT.bind {α β:Type}{f:TS→α×TS}{k:α→TS→β×TS}{P:α→Prop}{Q:β→Prop}(h:PT f P) (hk : ∀ a,P a→PT (k a) Q):PT (Zcf f k) Q:=fun t ho=>hk _ (h t ho).1 _ (h t ho).2
theorem PT.ret {α:Type}{P:α→Prop}{a:α}(h:P a):PT (ret2 a) P:=fun t ho=>⟨h,ho⟩
theorem pt_next:PT ZaY (fun s=>s.size≤24):=fun t ho=>Zbk ho rfl
theorem pt_name:PT Zfo (fun s=>s.size≤24):=fun t ho=>⟨(Zbk ho (s:=(ZaY t).1) (u:=(ZaY t).2) rfl).1,ZgX ho rfl⟩
theorem pt_num (s:ByteArray) (a b:Int):PT (tNum s a b) (fun _=>True):=fun t ho=>⟨trivial,Zin ho rfl⟩
theorem pt_year:PT ZsO (fun _=>True):=pt_next.bind (k:=fun s=>tNum s 4 4) fun s _=>pt_num s 4 4
theorem pt_day:PT tDay (fun _=>True):=pt_next.bind (k:=fun s=>tNum s 1 2) fun s _=>pt_num s 1 2
theorem pt_to (f:Int):PT (tToN f) (fun _=>True):=pt_next.bind (k:=tTo f) fun s _=>fun t ho=>⟨trivial,ZtC ho rfl⟩
theorem pt_month:PT ZdZ (fun _=>True):=fun t ho=>⟨trivial,ZhC ho rfl⟩
theorem pt_form:PT Zhy (fun _=>True):=fun t ho=>⟨trivial,ZmR ho rfl⟩
theorem ZpN (d:Int):PT (Zdq d) (fun _=>True):=fun t ho=>⟨trivial,ZhD ho rfl⟩
theorem pt_span:PT ZsQ (fun _=>True):=pt_next.bind (k:=ZbS) fun s _=>fun t ho=>⟨trivial,Zi0 ho rfl⟩
theorem pt_letter:PT ZdB (fun s=>s.size≤24):=by
 intro t ho
 have h:=Zbk ho (s:=(ZaY t).1) (u:=(ZaY t).2) rfl
 unfold ZdB
 refine⟨?_,?_⟩
 ·dsimp only;split
  ·decide
  ·exact h.1
 ·dsimp only;split
  ·exact h.2
  ·exact h.2
def okRul (r:Rul):Prop:=r.1.size≤maxLen∧r.2.2.2.2.2.2.2.2.size≤maxLen
theorem Zi7 {n:Nat}(h:n≤24):n≤maxLen:=by unfold maxLen;omega
theorem pt_rule:PT Zlq okRul :=
 pt_name.bind fun nm h1=>pt_year.bind fun f _=>(pt_to f).bind fun _ _=>pt_month.bind fun m _=>pt_form.bind fun k _=>(ZpN 1).bind fun c _=>pt_span.bind fun sv _=>pt_letter.bind fun l h2=>PT.ret ⟨Zi7 h1,Zi7 h2⟩
theorem pt_shift:PT ZgK (fun _=>True):=fun t ho=>⟨trivial,Zkh ho rfl⟩
theorem pt_rules:PT ZsR (fun p=>p.2.size≤24):=by
 refine pt_next.bind (k:=Zel) fun s hs t ho=>⟨?_,Zki ho rfl⟩
 unfold Zel
 split
 ·exact Nat.zero_le 24
 ·split
  ·exact Nat.zero_le 24
  ·exact hs
theorem pt_format:PT ZiI (fun s=>s.size≤24):=by
 intro t ho
 have h:=Zbk ho (s:=(ZaY t).1) (u:=(ZaY t).2) rfl
 unfold ZiI
 refine⟨h.1,?_⟩
 dsimp only;split
 ·exact h.2
 ·exact h.2
theorem pt_until:PT ZhT (fun _=>True) :=
 pt_year.bind fun y _=>pt_month.bind fun m _=>pt_day.bind fun d _=>(ZpN 2).bind fun c _=>PT.bind (P:=fun _=>True) (fun t ho=>⟨trivial,by unfold ZsP;dsimp only;split <;> exact ho⟩) fun _ _=>PT.ret trivial
theorem pt_end:PT tEnd (fun _=>True):=by
 intro t ho
 refine⟨trivial,?_⟩
 unfold tEnd
 split
 ·exact ho
 ·exact (pt_until t ho).2
theorem pt_era:PT tEra ZtD :=
 pt_shift.bind fun sh _=>pt_rules.bind fun r h1=>pt_format.bind fun f h2=>pt_end.bind fun u _=>PT.ret ⟨Zi7 h1,Zi7 h2⟩
theorem ZmS {s:Src}{x:Era}(h:Zft s) (hx:ZtD x):Zft (ZcO s x).1:=by
 refine⟨h.1,?_,h.2.2⟩
 show ∀ z∈Zqx s.2.1 x,_
 obtain⟨a,z,l⟩:=s
 have h2:=h.2.1
 simp only at h2 ⊢
 rcases List.eq_nil_or_concat z with rfl | ⟨i,y,rfl⟩
 ·intro z hz;cases hz
 ·rw[List.concat_eq_append,Zgx]
  intro z hz
  rcases List.mem_append.1 hz with hz | hz
  ·exact h2 z (by rw[List.concat_eq_append];exact List.mem_append_left _ hz)
  ·rw[List.mem_singleton] at hz
   subst hz
   have hy:=h2 y (by rw[List.concat_eq_append];simp)
   refine⟨hy.1,fun e he=>?_⟩
   rcases List.mem_append.1 he with he | he
   ·exact hy.2 e he
   ·rw[List.mem_singleton] at he;subst he;exact hx
theorem pt_body {p:PS}(h:Zft p.1):PT (Ze4 p) (fun q=>Zft q.1):=by
 unfold Ze4
 split
 ·exact pt_era.bind fun x hx=>PT.ret (ZmS h hx)
 ·refine pt_next.bind fun w _=>?_
  split
  ·refine pt_rule.bind fun r hr=>PT.ret ⟨fun y hy=>?_,h.2.1,h.2.2⟩
   rcases List.mem_append.1 hy with hy | hy
   ·exact h.1 y hy
   ·rw[List.mem_singleton] at hy;subst hy;exact hr
  ·split
   ·refine pt_name.bind fun n hn=>pt_era.bind fun x hx=>PT.ret (ZmS ⟨h.1,fun y hy=>?_,h.2.2⟩ hx)
    rcases List.mem_append.1 hy with hy | hy
    ·exact h.2.1 y hy
    ·rw[List.mem_singleton] at hy;subst hy;exact⟨Zi7 hn,fun e he=>by cases he⟩
   ·split
    ·refine pt_name.bind fun a ha=>pt_name.bind fun b hb=>PT.ret ⟨h.1,h.2.1,fun y hy=>?_⟩
     rcases List.mem_append.1 hy with hy | hy
     ·exact h.2.2 y hy
     ·rw[List.mem_singleton] at hy;subst hy;exact⟨Zi7 ha,Zi7 hb⟩
    ·exact fun t ho=>⟨h,ho⟩
theorem Zbj {p q:PS}{x:Ln}{u:TS}(hB:Ze4 p (x.2.2,false)=(q,u)) (h:u.2=true∨u.1≠[]∨x.2.1≠p.2):Zm1 p x=none:=ZtZ (by unfold badT;rw[hB];exact h)
theorem ZdP {p q:PS}{x:Ln}{u:TS}(hB:Ze4 p (x.2.2,false)=(q,u)) (h1:u.2=false) (h2:u.1=[]) (h3:x.2.1=p.2):Zm1 p x=some q:=by
 have:=lineR_ok (p:=p) (x:=x) (by unfold badT;rw[hB];simp[h1,h2,h3])
 rw[this,hB]
def curS (s:Src) (o:Option Zon):Src:=(s.1,s.2.1++o.toList,s.2.2)
theorem Zfy {s:Src}:curS s none=s:=by unfold curS;simp
def zC (N v:Nat):Option Zon→List AV
 | none=>[]
 | some z=>[sv z.1,.own (N+5) v z.2.length]
def eC:Option Zon→List Era
 | none=>[]
 | some z=>z.2
theorem ZtQ {n:Nat}{b:List AV}(hb:AV.ltL n b=true) : ∀ {a:List AV},AV.ltL n a=true→AV.ltL n (a++b)=true
 | [],_=>hb
 | x::a,h=>by
  simp only[List.cons_append,AV.ltL,Bool.and_eq_true] at h ⊢
  exact⟨h.1,ZtQ hb h.2⟩
theorem Zhs {N v:Nat}{l:List Zon}{o:Option Zon}:AV.ltL (N+6) (rows zonC l++zC N v o)=true:=by
 refine ZtQ ?_ (ZbG l)
 cases o <;> simp[zC,AV.ltL,AV.lt]
theorem Zme {N v:Nat}{l:List Zon}{o:Option Zon}:(rows zonC l++zC N v o).length=(l.length+o.toList.length)*2:=by
 rw[List.length_append,Zhr]
 cases o <;> simp[zC] <;> omega
theorem zc_at {l:List Zon}{a b:AV}{off:Nat}(h:off=l.length*2+1):(rows zonC l++[a,b])[off]?=some b:=by
 subst h
 rw[List.getElem?_append_right (by rw[Zhr];omega),Zhr,Nat.add_sub_cancel_left];rfl
theorem zc_set {l:List Zon}{a b c:AV}{off:Nat}(h:off=l.length*2+1):setCells (rows zonC l++[a,b]) off [c]=rows zonC l++[a,c]:=by
 subst h
 simp only[setCells]
 rw[List.set_append_right _ _ (by rw[Zhr];omega),Zhr,Nat.add_sub_cancel_left];rfl
theorem zc_put {l:List Zon}{a b c:AV}:aPut (rows zonC l++[a,b]) (some (l.length*2+1)) c=rows zonC l++[a,c]:=zc_set rfl
theorem zc_at2 {l:List Zon}{N v:Nat}{a b:AV}{off:Nat}(h:off=l.length*2+1):(rows zonC l++zC N v none++[a,b])[off]?=some b:=by
 rw[show rows zonC l++zC N v none=rows zonC l from List.append_nil _];exact zc_at h
theorem zc_put2 {l:List Zon}{N v:Nat}{a b c:AV}:aPut (rows zonC l++zC N v none++[a,b]) (some (l.length*2+1)) c=rows zonC l++[a,c]:=by
 rw[show rows zonC l++zC N v none=rows zonC l from List.append_nil _];exact zc_put
theorem Zmz {s:ByteArray} : ∀ x∈(Zcc s).1,∀ f∈x.2.2,f.size≤24:=by
 intro x hx f hf
 have h:=Zn5 x hx
 unfold Zq2 at h
 split at h
 ·cases h
 ·split at h
  ·cases h
  ·have : ∀ {fs:List ByteArray},Zky fs=0 → ∀ f∈fs,Zge f=0:=by
    intro fs
    induction fs with
    | nil=>intro _ f hf;cases hf
    | cons g fs ih =>
     intro h f hf
     rw[Zky] at h
     split at h
     ·rename_i h1;exact absurd h h1
     ·rename_i h1
      rcases List.mem_cons.1 hf with rfl | hf
      ·exact Decidable.of_not_not h1
      ·exact ih h f hf
   exact (Zra (this h f hf)).2
theorem ZsV {s:ByteArray}:(Zcc s).1.length≤200:=by
 unfold Zcc
 split
 ·simp
 ·split
  ·rename_i h2;rw[Zkl h2];simp
  ·split
   ·simp
   ·omega
end Go.Proofs.YtlekejpogddndaaGreatDoor
end
section
namespace Go.Proofs.YtlekejpogddndaaGreatDoor
open Go.Ab Go.RowKit Civ
attribute [local simp] Zbw ZbM ZbG ZbL Zb9 Zgo Zhs
section
theorem ZjE {τ:Operand→AV}:Zau τ [] [(.sl 0 0 true []),(.sl 0 0 true []),(.sl 0 0 true [])]=some [(.sl 0 0 true []),(.sl 0 0 true []),(.sl 0 0 true [])]:=rfl
theorem Za4 {a0 a1 a2 c0 c1 c2:AV}{l:List AV}:setCells (a0::a1::a2::l) 0 [c0,c1,c2]=c0::c1::c2::l:=rfl
theorem Za0 {a0 a1 a2:AV}{l:List AV}:((a0::a1::a2::l).drop 0).take 3=[a0,a1,a2]:=rfl
theorem ZjD {τ:Operand→AV}{y0:Operand}{x0_0:AV}(h0:Zav (τ y0)=some [x0_0]) (l0:[x0_0].all leaf=true):Zau τ [(0,1,y0)] [(.sl 0 0 true []),(.v (.bool false))]=some [x0_0,(.v (.bool false))]:=by
 simp only[Zau,h0,l0]
 rfl
theorem Zk4 {a0 a1 c0 c1:AV}{l:List AV}:setCells (a0::a1::l) 0 [c0,c1]=c0::c1::l:=rfl
theorem ZjB {τ:Operand→AV}{y0:Operand}{x0_0 x0_1 x0_2 x0_3 x0_4 x0_5 x0_6 x0_7 x0_8 x0_9 x0_10:AV}(h0:Zav (τ y0)=some [x0_0,x0_1,x0_2,x0_3,x0_4,x0_5,x0_6,x0_7,x0_8,x0_9,x0_10]) (l0:[x0_0,x0_1,x0_2,x0_3,x0_4,x0_5,x0_6,x0_7,x0_8,x0_9,x0_10].all leaf=true):Zau τ [(0,11,y0)] [(.v (.string ⟨#[]⟩)),(.v (.int .i64 0)),(.v (.int .i64 0)),(.v (.int .i64 0)),(.v (.int .i64 0)),(.v (.int .i64 0)),(.v (.int .i64 0)),(.v (.int .i64 0)),(.v (.int .i64 0)),(.v (.int .i64 0)),(.v (.string ⟨#[]⟩))]=some [x0_0,x0_1,x0_2,x0_3,x0_4,x0_5,x0_6,x0_7,x0_8,x0_9,x0_10]:=by
 simp only[Zau,h0,l0]
 rfl
theorem ZrT {a0 a1 a2 a3 a4 a5 a6 a7 a8 a9 a10:AV}{l:List AV}:(a0::a1::a2::a3::a4::a5::a6::a7::a8::a9::a10::l).take 11=[a0,a1,a2,a3,a4,a5,a6,a7,a8,a9,a10]:=rfl
theorem Zk5 {a0 c0:AV}{l:List AV}:setCells (a0::l) 0 [c0]=c0::l:=rfl
theorem ZaI {τ:Operand→AV}:Zau τ [] [(.sl 0 0 true []),(.sl 0 0 true []),(.sl 0 0 true [])]=some [(.sl 0 0 true []),(.sl 0 0 true []),(.sl 0 0 true [])]:=rfl
theorem ZjA {τ:Operand→AV}{y0:Operand}{x0_0:AV}(h0:Zav (τ y0)=some [x0_0]) (l0:[x0_0].all leaf=true):Zau τ [(0,1,y0)] [(.v (.string ⟨#[]⟩)),(.sl 0 0 true [])]=some [x0_0,(.sl 0 0 true [])]:=by
 simp only[Zau,h0,l0]
 rfl
theorem Zjy {a0 a1 a2 a3 a4 a5 a6 a7 a8 a9 c0 c1 c2 c3 c4 c5 c6 c7 c8 c9:AV}{l:List AV}:setCells (a0::a1::a2::a3::a4::a5::a6::a7::a8::a9::l) 0 [c0,c1,c2,c3,c4,c5,c6,c7,c8,c9]=c0::c1::c2::c3::c4::c5::c6::c7::c8::c9::l:=rfl
theorem Zjx {a0 a1 a2 a3 a4 a5 a6 a7 a8 a9:AV}{l:List AV}:((a0::a1::a2::a3::a4::a5::a6::a7::a8::a9::l).drop 0).take 10=[a0,a1,a2,a3,a4,a5,a6,a7,a8,a9]:=rfl
theorem Zjz {τ:Operand→AV}{y0:Operand}{x0_0 x0_1 x0_2 x0_3 x0_4 x0_5 x0_6 x0_7 x0_8 x0_9:AV}(h0:Zav (τ y0)=some [x0_0,x0_1,x0_2,x0_3,x0_4,x0_5,x0_6,x0_7,x0_8,x0_9]) (l0:[x0_0,x0_1,x0_2,x0_3,x0_4,x0_5,x0_6,x0_7,x0_8,x0_9].all leaf=true):Zau τ [(0,10,y0)] [(.v (.int .i64 0)),(.v (.string ⟨#[]⟩)),(.v (.int .i64 0)),(.v (.string ⟨#[]⟩)),(.v (.bool false)),(.v (.int .i64 0)),(.v (.int .i64 0)),(.v (.int .i64 0)),(.v (.int .i64 0)),(.v (.int .i64 0))]=some [x0_0,x0_1,x0_2,x0_3,x0_4,x0_5,x0_6,x0_7,x0_8,x0_9]:=by
 simp only[Zau,h0,l0]
 rfl
theorem Zk2 {a0 a1 a2 a3 a4 a5 a6 a7 a8 a9:AV}{l:List AV}:(a0::a1::a2::a3::a4::a5::a6::a7::a8::a9::l).take 10=[a0,a1,a2,a3,a4,a5,a6,a7,a8,a9]:=rfl
theorem Zf0 {a0 a1 c0:AV}{l:List AV}:setCells (a0::a1::l) 1 [c0]=a0::c0::l:=rfl
theorem Zk3 {a0 a1:AV}{l:List AV}:((a0::a1::l).drop 0).take 2=[a0,a1]:=rfl
theorem Zih {τ:Operand→AV}{y0:Operand}{x0_0 x0_1:AV}(h0:Zav (τ y0)=some [x0_0,x0_1]) (l0:[x0_0,x0_1].all leaf=true):Zau τ [(0,2,y0)] [(.v (.string ⟨#[]⟩)),(.sl 0 0 true [])]=some [x0_0,x0_1]:=by
 simp only[Zau,h0,l0]
 rfl
theorem Zu7 {h:AH}{n:Nat}(hn:h.length=n) {e0 e1 e2 e3 e4 e5 e6 e7 e8 e9:Ent}:(h++[e0,e1,e2,e3,e4,e5,e6,e7,e8,e9]).length=n+10:=by subst hn;simp
theorem Zu8 {h:AH}{e0 e1 e2 e3 e4 e5 e6 e7 e8 e9 e:Ent}:(h++[e0,e1,e2,e3,e4,e5,e6,e7,e8,e9])++[e]=h++[e0,e1,e2,e3,e4,e5,e6,e7,e8,e9,e]:=by simp
theorem ZnE {a0 a1:AV}{l:List AV}:(a0::a1::l).take 2=[a0,a1]:=rfl
theorem Zig {τ:Operand→AV}{y0:Operand}{x0_0 x0_1:AV}(h0:Zav (τ y0)=some [x0_0,x0_1]) (l0:[x0_0,x0_1].all leaf=true):Zau τ [(0,2,y0)] [(.v (.string ⟨#[]⟩)),(.v (.string ⟨#[]⟩))]=some [x0_0,x0_1]:=by
 simp only[Zau,h0,l0]
 rfl
theorem ZrU {a0 a1 a2 c0:AV}{l:List AV}:setCells (a0::a1::a2::l) 2 [c0]=a0::a1::c0::l:=rfl
theorem ZjC {τ:Operand→AV}{y0:Operand}{x0_0 x0_1 x0_2 x0_3 x0_4 x0_5 x0_6 x0_7 x0_8 x0_9:AV}(h0:Zav (τ y0)=some [x0_0,x0_1,x0_2,x0_3,x0_4,x0_5,x0_6,x0_7,x0_8,x0_9]) (l0:[x0_0,x0_1,x0_2,x0_3,x0_4,x0_5,x0_6,x0_7,x0_8,x0_9].all leaf=true):Zau τ [(0,10,y0)] [(.v (.int .i64 0)),(.v (.string ⟨#[]⟩)),(.v (.int .i64 0)),(.v (.string ⟨#[]⟩)),(.v (.bool false)),(.v (.int .i64 0)),(.v (.int .i64 0)),(.v (.int .i64 0)),(.v (.int .i64 0)),(.v (.int .i64 0))]=some [x0_0,x0_1,x0_2,x0_3,x0_4,x0_5,x0_6,x0_7,x0_8,x0_9]:=by
 simp only[Zau,h0,l0]
 rfl
theorem Zu6 { e:Ent}:([]:AH)++[e]=[e]:=rfl
theorem ZrV {e0 e1 e2 e3 e4 e5 e6 e7 d0:Ent}:([e0,e1,e2,e3,e4,e5,e6,e7]:AH)++[d0]=[e0,e1,e2,e3,e4,e5,e6,e7,d0]:=rfl
theorem Zif {τ:Operand→AV}:Zau τ [] [(.sl 0 0 true []),(.sl 0 0 true []),(.sl 0 0 true [])]=some [(.sl 0 0 true []),(.sl 0 0 true []),(.sl 0 0 true [])]:=rfl
theorem Zie {τ:Operand→AV}:Zau τ [] [(.sl 0 0 true []),(.sl 0 0 true []),(.sl 0 0 true [])]=some [(.sl 0 0 true []),(.sl 0 0 true []),(.sl 0 0 true [])]:=rfl
end
def c130:AC:=(Sr [Oo 2 (.new 26 3 [(.sl 0 0 true []),(.sl 0 0 true []),(.sl 0 0 true [])]),Mc 3 0,Mc 4 0] (Sr [Mv 20 0,Cl 21 199 [(.tmp 20)],Mv 19 21,Ex 22 19 0,Ex 23 19 1,Ex 24 19 2,Mv 5 22,Mv 6 23,Mv 7 24] (.seq (Sr [Mv 25 7,Bc 26 .neq 25 0] (Cd 26 (Sr [Oo 27 (.build [(.sl 0 0 true []),(.sl 0 0 true []),(.sl 0 0 true [])] []),Mv 28 6,Mv 29 7,⟨none,none,(.store 3 (.tmp 2) (.tmp 27))⟩,Mv 3 28,Mv 4 29] .ret) .skip)) (Sr [Oo 8 (.new 26 3 [(.sl 0 0 true []),(.sl 0 0 true []),(.sl 0 0 true [])])] (Sr [Mb 9 false] (.seq (Sr [Mc 10 0] (.block 0 (.loop (.seq (Sr [Mv 30 10,Mv 31 5,Oo 32 (.len false (.tmp 31)),Bn 33 .lss 30 32] (Cd 33 .skip (.exit 0))) (.seq (.block 1 (Sr [Mv 36 5,Mv 37 10,Oo 38 (.ia 3 (.tmp 36) (.tmp 37)),Fa 39 2 38,Ld 40 39,Oo 41 (.build [(.sl 0 0 true []),(.v (.bool false))] [(0,(1,(.tmp 40)))]),Oo 11 (.new 250 2 [(.sl 0 0 true []),(.v (.bool false))]),⟨none,none,(.store 2 (.tmp 11) (.tmp 41))⟩] (Sr [Mv 42 9,Mv 12 42] (Sr [Ms 13] (.seq (Sr [Mv 43 9,Oo 44 (.un .not (.tmp 43))] (Cd 44 (.reg [Cl 45 200 [(.tmp 11)],Mv 13 45]) .skip)) (.seq (.block 2 (Sr [Mv 48 9,Mv 47 48] (Cd 47 (Sr [Fa 49 1 8,Ld 50 49,Oo 51 (.len false (.tmp 50)),Bc 52 .sub 51 1,Mv 14 52] (Sr [Cl 53 201 [(.tmp 11)],Oo 15 (.new 63 10 [(iv 0),Ss,(iv 0),Ss,(.v (.bool false)),(iv 0),(iv 0),(iv 0),(iv 0),(iv 0)]),⟨none,none,(.store 10 (.tmp 15) (.tmp 53))⟩] (.seq (.drw [Fa 54 1 8,Oo 55 (.loadR false 1 (.tmp 54)),Mv 56 14,Fa 57 1 8,Ld 58 57,Mv 59 14,Oo 60 (.ia 2 (.tmp 58) (.tmp 59)),Fa 61 1 60,Ld 62 61,Oo 63 (.load true 10 (.tmp 15)),Oo 64 (.lit 63 10 1 [(iv 0),Ss,(iv 0),Ss,(.v (.bool false)),(iv 0),(iv 0),(iv 0),(iv 0),(iv 0)] [(0,(10,(.tmp 63)))])] [true,false,false,false] [Oo 65 (.app 63 10 96 (.tmp 62) (.tmp 64)),Oo 66 (.ia 2 (.tmp 55) (.tmp 56)),Fa 67 1 66,Sc 67 65]) (.reg [Fa 68 4 15,Ld 69 68,Oo 70 (.un .not (.tmp 69)),Mv 9 70])))) (Sr [Mv 72 13,Oo 73 (.bin .eql (.tmp 72) (.const (.string ⟨#[82,117,108,101]⟩))),Mv 71 73] (Cd 71 (.orPan (.drw [Fa 74 0 8,Oo 75 (.loadR false 1 (.tmp 74))] [true,true,false,false,false] [Cl 76 202 [(.tmp 11)],Oo 77 (.lit 36 11 1 [Ss,(iv 0),(iv 0),(iv 0),(iv 0),(iv 0),(iv 0),(iv 0),(iv 0),(iv 0),Ss] [(0,(11,(.tmp 76)))]),Oo 78 (.app 36 11 104 (.tmp 75) (.tmp 77)),Fa 79 0 8,Sc 79 78]) (.tmp 11) 202 [Fa 74 0 8,Ld 75 74,Mv 76 11,Mb 77 false,Mb 78 false,Mb 79 false,⟨none,none,(.mv (.const (.bool false)))⟩] 76) (Sr [Mv 81 13,Oo 82 (.bin .eql (.tmp 81) (.const (.string ⟨#[90,111,110,101]⟩))),Mv 80 82] (Cd 80 (Sr [Cl 83 203 [(.tmp 11)],Oo 84 (.build [Ss,(.sl 0 0 true [])] [(0,(1,(.tmp 83)))]),Oo 16 (.new 53 2 [Ss,(.sl 0 0 true [])]),⟨none,none,(.store 2 (.tmp 16) (.tmp 84))⟩] (Sr [Cl 85 201 [(.tmp 11)],Oo 17 (.new 63 10 [(iv 0),Ss,(iv 0),Ss,(.v (.bool false)),(iv 0),(iv 0),(iv 0),(iv 0),(iv 0)]),⟨none,none,(.store 10 (.tmp 17) (.tmp 85))⟩] (Sr [Fa 86 1 16,Ld 87 86,Oo 88 (.load true 10 (.tmp 17)),Oo 89 (.lit 63 10 1 [(iv 0),Ss,(iv 0),Ss,(.v (.bool false)),(iv 0),(iv 0),(iv 0),(iv 0),(iv 0)] [(0,(10,(.tmp 88)))]),Oo 90 (.app 63 10 96 (.tmp 87) (.tmp 89)),Fa 91 1 16,Sc 91 90] (Sr [Fa 92 1 8,Ld 93 92,Oo 94 (.load true 2 (.tmp 16)),Oo 95 (.lit 53 2 1 [Ss,(.sl 0 0 true [])] [(0,(2,(.tmp 94)))]),Oo 96 (.app 53 2 40 (.tmp 93) (.tmp 95)),Fa 97 1 8,Sc 97 96] (.reg [Fa 98 4 17,Ld 99 98,Oo 100 (.un .not (.tmp 99)),Mv 9 100]))))) (Sr [Mv 102 13,Oo 103 (.bin .eql (.tmp 102) (.const (.string ⟨#[76,105,110,107]⟩))),Mv 101 103] (Cd 101 (Sr [Oo 18 (.new 129 2 [Ss,Ss])] (Sr [Cl 104 203 [(.tmp 11)],Fa 105 0 18,Sc 105 104] (Sr [Cl 106 203 [(.tmp 11)],Fa 107 1 18,Sc 107 106] (.reg [Fa 108 2 8,Ld 109 108,Oo 110 (.load true 2 (.tmp 18)),Oo 111 (.lit 129 2 1 [Ss,Ss] [(0,(2,(.tmp 110)))]),Oo 112 (.app 129 2 32 (.tmp 109) (.tmp 111)),Fa 113 2 8,Sc 113 112])))) (.reg [Fa 46 1 11,⟨none,none,(.store 1 (.tmp 46) (.const (.bool true)))⟩])))))))))) (Sr [Fa 114 1 11,Ld 115 114,Mv 116 115,Of 117 116 (.fa 0 (.tmp 11)),Of 118 116 (.load false 1 (.tmp 117)),Of 119 116 (.len false (.tmp 118)),Of 120 116 (.bin .gtr (.tmp 119) (Ci 0)),Oo 121 (.pick (.tmp 116) (.const (.bool true)) (.tmp 120)),Mv 122 121,Of 123 122 (mt 5),Of 124 122 (mt 10),Of 125 122 (.ia 3 (.tmp 123) (.tmp 124)),Of 126 122 (.fa 1 (.tmp 125)),Of 127 122 (.load false 1 (.tmp 126)),Of 128 122 (mt 12),Of 129 122 (.eqb true (.tmp 127) (.tmp 128)),Oo 130 (.pick (.tmp 122) (.const (.bool true)) (.tmp 129))] (Cd 130 (.seq (.drwU [[],[0],[0,1],[0],[0],[0],[1,2,3,4,5],[],[]] [Oo 131 (.build [(.sl 0 0 true []),(.sl 0 0 true []),(.sl 0 0 true [])] []),Mv 132 5,Mv 133 10,Oo 134 (.ia 3 (.tmp 132) (.tmp 133)),Fa 135 0 134,Ld 136 135,⟨none,none,(.store 3 (.tmp 2) (.tmp 131))⟩,Mv 3 136,Mc 4 1]) .ret) .skip)))))))) (.reg [Mv 34 10,Bc 35 .add 34 1,Mv 10 35])))))) (.seq (Sr [Mv 137 9] (Cd 137 (Sr [Oo 138 (.build [(.sl 0 0 true []),(.sl 0 0 true []),(.sl 0 0 true [])] []),⟨none,none,(.store 3 (.tmp 2) (.tmp 138))⟩,Mc 3 0,Mc 4 1] .ret) .skip)) (Sr [Oo 139 (.load true 3 (.tmp 8)),Cl 140 79 [(.tmp 139)],Mv 7 140] (.seq (Sr [Mv 141 7,Bc 142 .neq 141 0] (Cd 142 (Sr [Oo 143 (.build [(.sl 0 0 true []),(.sl 0 0 true []),(.sl 0 0 true [])] []),Mv 144 7,⟨none,none,(.store 3 (.tmp 2) (.tmp 143))⟩,Mc 3 0,Mv 4 144] .ret) .skip)) (Sr [Oo 145 (.load true 3 (.tmp 8)),Mv 146 7,⟨none,none,(.store 3 (.tmp 2) (.tmp 145))⟩,Mc 3 0,Mv 4 146] .ret))))))))))
theorem k130:ZaE Tryz.prog 130=some ⟨c130,[(.cell 2 true 3),(.tmp 3),(.tmp 4)],147⟩:=by kernel_rfl
theorem trule_e {t t1:TS}{r:Rul}{id:Nat}{h:AH}(ho:okTS t) (he:Zlq t=(r,t1)) (h1:h[id]?=some (takE t)):ACalls Tryz.prog 202 [.ptr id 0 0] h fun x h'=>x=.ret (.agg (rulC r))∧h'=h.set id (takE t1):=by
 have:=trule_a ho h1
 rw[he] at this
 exact this
theorem tera_e {t t1:TS}{r:Era}{id:Nat}{h:AH}(ho:okTS t) (he:tEra t=(r,t1)) (h1:h[id]?=some (takE t)):ACalls Tryz.prog 201 [.ptr id 0 0] h fun x h'=>x=.ret (.agg (eraC r))∧h'=h.set id (takE t1):=by
 have:=tera_a ho h1
 rw[he] at this
 exact this
theorem ZbZ {n e:AV}:Wk (.tup [.agg [.sl 0 0 true [],.sl 0 0 true [],.sl 0 0 true []],n,e]) (.tup [.agg (srcC srcZ),n,e]) :=
 Wk.tup (wkw (Wk.agg (wkw Wk.nilF (wkw Wk.nilF (wkw Wk.nilF wk0)))) (wk1 rfl (wk1 rfl wk0)))
theorem okSrc_Z:Zft (curS srcZ none):=by rw[Zfy];exact⟨fun _ h=>(by cases h),fun _ h=>(by cases h),fun _ h=>(by cases h)⟩
theorem lt26 {N:Nat}:decide (N+2<N+6)=true:=by simp
attribute [local simp] lt26
theorem lt36 {N:Nat}:decide (N+3<N+6)=true:=by simp
attribute [local simp] lt36
theorem lt46 {N:Nat}:decide (N+4<N+6)=true:=by simp
attribute [local simp] lt46
theorem lt56 {N:Nat}:decide (N+5<N+6)=true:=by simp
attribute [local simp] lt56
theorem rparse_a {s:ByteArray}{h:AH}:Ac 130 [sv s] h (.tup [.agg (srcC (ZbX s).1),iv (ZbX s).2.1,iv (ZbX s).2.2]):=by
 obtain⟨L,hL⟩ : ∃ L,L=(Zcc s).1:=⟨_,rfl⟩
 have hf24:=Zmz (s:=s)
 have hL200:=ZsV (s:=s)
 rw[←hL] at hf24 hL200
 have hV0:=Ztx s
 rw[←hL] at hV0
 refine tW' k130 fun N hn hlt hlA hbd=>?_
 simp only[tb'] at hbd ⊢
 refine wr'<|E' (Za7 (hl0 hn) ha0) pt<|mw<|mw<|sn'<|wr'<|mw<|Zaf mp (ZqP) pt<|?_
 rw[←hL]
 refine mw<|Vw (Zbi lk gt)<|Vw (Zbi lk gt)<|Vw (Zbi lk gt)<|mw<|mw<|mw<|sn'<|Zag<|wr'<|mw<|Vw (Za9 lk lki)<|?_
 refine sn' ?_
 refine cd' lk (fun hc1=>?_) (fun hc1=>?_)
 ·have hV:ZbX s=(srcZ,(Zcc s).2.1,(Zcc s).2.2):=by rw[hV0];exact if_pos hc1
  refine wr'<|Vw (Zaw ZjE)<|mw<|mw<|E' (Zaj lk cv gx rfl (nb' rfl) rfl Za4 (hs0 hn)) ptn<|mw<|mw<|sn'<|Zaa<|Zai<|Zah (rsn (rm1 (rr_c gt gx (ld1 Za0 rfl)) (rm1 (rr_t gt) (rm1 (rr_t gt) rm0))))<|rtW'<|?_
  rw[hV];exact ZbZ
 have hV:ZbX s=outP L:=by rw[hV0];exact if_neg hc1
 clear hV0
 refine Zad<|Zae<|wr'<|E' (Za7 (hl1 hn) ha1) pt<|Zaq<|?_
 refine Za1 (ALe.trans (ALe.own0Cell (st':=11) (ty:=36) gx gt0 (hl2 hn) pt0 (Eq.trans (congrArg (fun z=>List.set z _ _) ha2) (hs1 hn))) (ALe.trans (ALe.own0Cell (st':=2) (ty:=53) gx gt1 (hl3 hn) pt1 (Eq.trans (congrArg (fun z=>List.set z _ _) ha3) (hs1 hn))) (ALe.own0Cell (st':=2) (ty:=129) gx gt2 (hl4 hn) pt2 (Eq.trans (congrArg (fun z=>List.set z _ _) ha4) (hs1 hn))))) ?_
 refine wr'<|mv' lkb pt9<|Zaq<|Za1 ((ALe.newEnt (ty:=63) (st:=10) ha5))<|Zag<|wr'<|mv' lki pt10<|sn'<|Zam<|?_
 refine w_lp (ι:=Nat×Src×Option Zon×Nat×Nat×Nat×Nat×Nat) (fun (x_:Nat×Src×Option Zon×Nat×Nat×Nat×Nat×Nat)=>match x_ with | ⟨k,sr,o,m,v1,v2,v3,v4⟩=>[(9,bv o.isSome),(10,iv (k:Int)),(3,.any),(4,.any)]++rn' 11 8++rn' 30 107) (fun (x_:Nat×Src×Option Zon×Nat×Nat×Nat×Nat×Nat)=>match x_ with | ⟨k,sr,o,m,v1,v2,v3,v4⟩=>[(1,.mk 0 26 3 [.own (N+2) v1 sr.1.length,.own (N+3) v2 m,.own (N+4) v3 sr.2.2.length]),(2,.mk v1 36 11 (rows rulC sr.1)),(3,.mk v2 53 2 (rows zonC sr.2.1++zC N v4 o)),(4,.mk v3 129 2 (rows lnkC sr.2.2)),(5,.mk v4 63 10 (rows eraC (eC o)))]) (fun (x_:Nat×Src×Option Zon×Nat×Nat×Nat×Nat×Nat)=>match x_ with | ⟨k,sr,o,m,v1,v2,v3,v4⟩=>k≤L.length∧m=sr.2.1.length+o.toList.length∧sr.1.length≤k∧m≤k∧sr.2.2.length≤k∧(eC o).length≤k∧Zft (curS sr o)∧runR (srcZ,false) L=runR (curS sr o,o.isSome) (L.drop k)) (fun (x_:Nat×Src×Option Zon×Nat×Nat×Nat×Nat×Nat)=>match x_ with | ⟨k,sr,o,m,v1,v2,v3,v4⟩=>L.length-k) (⟨0,srcZ,none,0,0,0,0,0⟩) (by exact⟨Nat.zero_le _,rfl,Nat.le_refl _,Nat.le_refl _,Nat.le_refl _,Nat.le_refl _,okSrc_Z,rfl⟩) ?_
 rintro⟨k,sr,o,m,v1,v2,v3,v4⟩ hi1
 try simp only[sm',Nat.reduceAdd]
 obtain⟨hk1,hm,hk2,hk3,hk4,hk5,hok,hrun⟩:=hi1
 refine Zag<|wr'<|mw<|mw<|Vw (ZaG lk)<|Vw (ZaZ lk lk)<|sn'<|?_
 refine cd' lk (fun hc2=>?_) (fun hc2=>?_)
 ·have hk:k<L.length:=by omega
  have hfs:=hf24 _ (List.getElem_mem hk)
  have hokt:okTS (L[k].2.2,false):=hfs
  rw[runR_at hk] at hrun
  have hPT:=pt_body (p:=(curS sr o,o.isSome)) hok (L[k].2.2,false) hokt
  refine Zad<|Zae<|Zag<|Zam<|wr'<|mw<|mw<|?_
  refine V' (ZaJ lk lk ZbA (nb' rfl) ro om ro rfl) pt ?_
  refine V' (ZaR lk38 dp2) pt39<|V' (Zar lk39 gt0) pt40<|V' (Zaw (ZjD (cvl lk40 rfl) rfl)) pt41<|E' (Za7 (hl6 hn) ha6) pt11<|E' (Zaj lk11 (cvl lk41 rfl) gx rfl (nb' rfl) rfl Zk4 (hs6 hn)) ptn<|Zaq<|Za1 ((ALe.same (WkL.refl _) rfl))<|wr'<|?_
  by_cases hs36:o=none
  ·subst hs36
   simp only[Option.isSome_none] at hrun hPT
   have hm':m=sr.2.1.length:=by simpa using hm
   subst hm'
   obtain⟨w,t1,e1⟩ : ∃ a b,ZaY (L[k].2.2,false)=(a,b):=⟨_,_,rfl⟩
   obtain⟨z1,o1⟩:=Zbk hokt e1
   refine mw<|mw<|sn'<|wr'<|mw<|sn'<|Zag<|wr'<|mw<|?_
   refine V' ((by first | exact v_not lk | exact ZaC lk)) pt ?_
   refine sn' ?_
   refine Zc6 lk (by rfl) ?_
   refine Zat<|ZaW mp (Zdz e1 gx) (hs6 hn) pt<|mw<|sn'<|Zag<|Zam<|wr'<|mw<|mw<|sn'<|?_
   refine Zc5 lk (by rfl) ?_
   refine wr'<|mw<|Vw (Zch lk lks)<|mw<|sn'<|?_
   refine cd' lk (fun hc5=>?_) (fun hc5=>?_)
   ·have hwR:w=ruleA:=hc5
    obtain⟨r,u,eR⟩ : ∃ a b,Zlq t1=(a,b):=⟨_,_,rfl⟩
    have hB:Ze4 (curS sr none,false) (L[k].2.2,false)=((curS (sr.1++[r],sr.2.1,sr.2.2) none,false),u):=by unfold Ze4;rw[if_neg (by simp)];simp only[Zcf,e1,if_pos hwR,ret2,eR];rfl
    have hq:True:=trivial
    refine w_orl<|Zpr [N+1]<|Dw (Zac lk)<|?_
    refine d_ldP lk gx (ld0 gt) (by simp) pt ?_
    refine Za8<|Zor<|?_
    refine k_calls mp (trule_e o1 eR gx) (hs6 hn) (by intro i hi;simp only[cond_true,List.mem_cons,List.not_mem_nil,or_false] at hi;subst hi;first | rfl | exact (hga hn rfl).trans (hga hn rfl).symm) pt ?_
    refine Zt5 rfl rfl (Zda (ZjB cv rfl) (hl7 hn) ha7) (by intro i hi;simp only[cond_true,List.mem_cons,List.not_mem_nil,or_false] at hi;subst hi;first | rfl | exact (hga hn rfl).trans (hga hn rfl).symm) pt ?_
    refine Zt5 rfl rfl (Zce (ZbF lk gx rfl ZrT (nb' rfl)) lk gx (Zn7 _) om rfl (hs2 hn)) (by intro i hi;simp at hi) pt ?_
    refine Zq4 rfl (Zac lk) pt ?_
    refine Zt5 rfl rfl (Zaj lk cv gx rfl (nb' rfl) rfl Zk5 (hs1 hn)) (by intro i hi;simp at hi) ptn ?_
    refine Zt4<|ZaA<|Zae<|wr'<|Vw (Zac lk)<|Vw (Zab lk gx gt1)<|mw<|?_
    refine ZaK (t:=116) gt pt pt (fun hg116=>?_) (fun hg116=>?_)
    ·have hN:=Zbj hB (.inl hg116)
     refine so<|so<|so<|so<|Vw (Zal lk lkb)<|mw<|so<|so<|so<|so<|so<|so<|so<|Vw (Zal lk lkb)<|?_
     refine sn'<|ZaH lk<|Zag<|Zcg<|uf (Zaw ZaI)<|uf vm<|uf vm<|?_
     refine u_fr rfl (ZaJ lk lk ZbA (nb' rfl) ro om ro rfl) pt ?_
     refine uf (ZaR lk dp0)<|uf (Zar lk gt)<|?_
     refine u_st (Zaj lk cv gx rfl (nb' rfl) rfl Za4 (hs0 hn)) lk nh ptn ?_
     refine uf vm<|uf (v_mv lki)<|Zdo<|Zae<|Zaa<|Zas<|Zai<|Zai<|Zas<|Zai<|Zah (rsn (rm1 (rr_c gt gx (ld1 Za0 rfl)) (rm1 (rr_t gt) (rm1 (rr_t gt) rm0))))<|rtW'<|?_
     have hP:ZbX s=(srcZ,L[k].1,1):=by rw[hV,outP,hrun,hN]
     rw[hP];exact ZbZ
    refine s_do gt<|Vw (Zac lk)<|s_do gt<|Vw (Zab lk gx gt0)<|s_do gt<|Vw (ZaG lk)<|s_do gt<|Vw (Zbz lk lki)<|Vw (Zak lk lk)<|mw<|?_
    refine sp' (t:=122) gt pt pt (fun hg122=>?_) (fun hg122=>?_)
    ·have hN:=Zbj hB (.inr (.inl (by intro e;rw[e] at hg122;exact absurd hg122 (by decide))))
     refine so<|so<|so<|so<|so<|so<|so<|Vw (Zal lk lkb)<|sn'<|ZaH lk<|Zag<|Zcg<|uf (Zaw ZaI)<|?_
     refine uf vm<|uf vm<|?_
     refine u_fr rfl (ZaJ lk lk ZbA (nb' rfl) ro om ro rfl) pt ?_
     refine uf (ZaR lk dp0)<|uf (Zar lk gt)<|?_
     refine u_st (Zaj lk cv gx rfl (nb' rfl) rfl Za4 (hs0 hn)) lk nh ptn ?_
     refine uf vm<|uf (v_mv lki)<|Zdo<|Zae<|Zaa<|Zas<|Zai<|Zai<|Zas<|Zai<|Zah (rsn (rm1 (rr_c gt gx (ld1 Za0 rfl)) (rm1 (rr_t gt) (rm1 (rr_t gt) rm0))))<|rtW'<|?_
     have hP:ZbX s=(srcZ,L[k].1,1):=by rw[hV,outP,hrun,hN]
     rw[hP];exact ZbZ
    refine s_do gt<|mw<|s_do gt<|mw<|s_do gt<|?_
    refine V' (ZaJ lk lk ZbA (nb' rfl) ro om ro rfl) pt ?_
    refine s_do gt<|Vw (ZaR lk dp1)<|s_do gt<|Vw (Zar lk gt)<|s_do gt<|mw<|s_do gt<|Vw (Zd9 lk lk)<|Vw (Zak lk lk)<|sn'<|?_
    refine cd' lk (fun hc8=>?_) (fun hc8=>?_)
    ·have hN:=Zbj hB (.inr (.inr (by simpa using hc8)))
     refine Zag<|Zcg<|uf (Zaw ZaI)<|uf vm<|uf vm<|?_
     refine u_fr rfl (ZaJ lk lk ZbA (nb' rfl) ro om ro rfl) pt ?_
     refine uf (ZaR lk dp0)<|uf (Zar lk gt)<|?_
     refine u_st (Zaj lk cv gx rfl (nb' rfl) rfl Za4 (hs0 hn)) lk nh ptn ?_
     refine uf vm<|uf (v_mv lki)<|Zdo<|Zae<|Zaa<|Zas<|Zai<|Zai<|Zas<|Zai<|Zah (rsn (rm1 (rr_c gt gx (ld1 Za0 rfl)) (rm1 (rr_t gt) (rm1 (rr_t gt) rm0))))<|rtW'<|?_
     have hP:ZbX s=(srcZ,L[k].1,1):=by rw[hV,outP,hrun,hN]
     rw[hP];exact ZbZ
    have hu1:u.2=false:=by simpa using hg116
    have hu2:u.1=[]:=List.eq_nil_of_length_eq_zero om
    have hS:=ZdP hB hu1 hu2 (by simpa using hc8)
    rw[hS] at hrun
    have hokq:=hPT.1
    rw[hB] at hokq
    refine Zad<|ZaA<|Zae<|Zat<|mw<|?_
    refine V' (Zax lk lki om om) pt ?_
    refine mw<|Zaq<|ZaB<|?_
    refine lU' (⟨k+1,(sr.1++[r],sr.2.1,sr.2.2),none,sr.2.1.length,v1+1,v2,v3,v4⟩) (by (try dsimp only);exact⟨by omega,by simp,by simp;omega,by omega,by omega,by simp[eC],hokq,hrun⟩) (by (try dsimp only);(try simp only[sm',Nat.reduceAdd]);exact bkE' 6 hn hlt (by repeat (first | exact wk0 | refine wka ?_ | refine wk1 rfl ?_ | refine wk1 (by first | rfl | exact ivx om | (simp;done) | exact bvx (by have h9:=hs68;unfold ZcQ at h9;rw[h9];rfl) | exact bvx (by have h9:=hs106;unfold ZcQ at h9;rw[h9];rfl) | exact bvx (by have h9:=hs68;unfold ZcQ at h9;rw[Bool.not_eq_true] at h9;rw[h9];rfl) | exact bvx (by have h9:=hs106;unfold ZcQ at h9;rw[Bool.not_eq_true] at h9;rw[h9];rfl)) ?_)) (by simp only[zonC,ZaO,Za5,zC,eC,List.append_nil,List.length_append,List.length_singleton];rfl) (hT:=by first | rfl | (simp only[AV.lt,AV.ltL,Ent.lt,List.all_cons,List.all_nil,Bool.and_true,Bool.and_self,decide_true,Zbw,ZbM,ZbG,ZbL,Zb9,Zgo,Zhs,lt26,lt36,lt46,lt56];done) | exact lt') (hE:=by first | rfl | (simp only[AV.lt,AV.ltL,Ent.lt,List.all_cons,List.all_nil,Bool.and_true,Bool.and_self,decide_true,Zbw,ZbM,ZbG,ZbL,Zb9,Zgo,Zhs,lt26,lt36,lt46,lt56];done) | exact lt'))
   have hwR:¬w=ruleA:=hc5
   refine wr'<|mw<|Vw (Zch lk lks)<|mw<|sn'<|?_
   refine cd' lk (fun hc6=>?_) (fun hc6=>?_)
   ·have hwZ:w=zoneA:=hc6
    obtain⟨nm,t2,e2⟩ : ∃ a b,Zfo t1=(a,b):=⟨_,_,rfl⟩
    have o2:=ZgX o1 e2
    obtain⟨x,u,eE⟩ : ∃ a b,tEra t2=(a,b):=⟨_,_,rfl⟩
    have hB:Ze4 (curS sr none,false) (L[k].2.2,false)=(ZcO (sr.1,sr.2.1++[(nm,[])],sr.2.2) x,u):=by unfold Ze4;rw[if_neg (by simp)];simp only[Zcf,e1,if_neg hwR,if_pos hwZ,ret2,e2,eE,Zfy]
    have hw:ZcO (sr.1,sr.2.1++[(nm,[])],sr.2.2) x=((sr.1,sr.2.1++[(nm,[x])],sr.2.2),!ZcQ x):=by unfold ZcO;rw[Zgx];rfl
    refine wr'<|ZaW mp (Zll o1 e2 gx) (hs6 hn) pt<|Vw (Zaw (ZjA cv rfl))<|E' (Za7 (hl7 hn) ha7) pt<|E' (Zaj lk cv gx rfl (nb' rfl) rfl Zk4 (hs7 hn)) ptn<|sn'<|wr'<|ZaW mp (tera_e o2 eE gx) (hs6 hn) pt<|E' (Za7 (hl8 hn) ha8) pt<|E' (Zaj lk cv gx rfl (nb' rfl) rfl Zjy (hs8 hn)) ptn<|Zaq<|?_
    refine Za1 ((ALe.own0CellRe (ty2:=63) (st2:=10) gx gx om gt1 pt1 (Eq.trans (congrArg (fun z=>List.set z _ _) (hs5 hn)) (hs7 hn)))) ?_
    refine wr'<|Vw (Zac lk)<|Vw (Zab lk gx gt1)<|Vw (Zao lk gx Zjx rfl)<|E' (Zda (Zjz cv rfl) (hl9 hn) ha9) pt<|?_
    refine E' (Zce (ZbF lk gx rfl Zk2 (nb' rfl)) lk gx rfl om rfl (hs5 hn)) pt ?_
    refine Vw (Zac lk)<|E' (Zaj lk cv gx rfl (nb' rfl) rfl Zf0 (hs7 hn)) ptn<|sn'<|wr'<|Vw (Zac lk)<|Vw (Zab lk gx gt1)<|Vw (Zao lk gx Zk3 rfl)<|E' (Zda (Zih cv rfl) (Zu7 hn) Zu8) pt<|?_
    refine E' (Zce (ZbF lk gx rfl ZnE (nb' rfl)) lk gx Zme om rfl (hs3 hn)) pt ?_
    refine Vw (Zac lk)<|E' (Zaj lk cv gx rfl (nb' rfl) rfl Zf0 (hs1 hn)) ptn<|sn'<|Zat<|?_
    by_cases hs106:ZcQ x=true
    ·have hq:ZcO (sr.1,sr.2.1++[(nm,[])],sr.2.2) x=(curS (sr.1,sr.2.1++[(nm,[x])],sr.2.2) none,false):=by rw[hw,hs106,Zfy];rfl
     refine Vw (Zac lk)<|Vw (Zab lk gx gt4)<|Vw (ZaC lk)<|mw<|Zaq<|ZaA<|Zae<|wr'<|Vw (Zac lk)<|Vw (Zab lk gx gt1)<|mw<|?_
     refine ZaK (t:=116) gt pt pt (fun hg116=>?_) (fun hg116=>?_)
     ·have hN:=Zbj hB (.inl hg116)
      refine so<|so<|so<|so<|Vw (Zal lk lkb)<|mw<|so<|so<|so<|so<|so<|so<|so<|Vw (Zal lk lkb)<|?_
      refine sn'<|ZaH lk<|Zag<|Zcg<|uf (Zaw ZaI)<|uf vm<|uf vm<|?_
      refine u_fr rfl (ZaJ lk lk ZbA (nb' rfl) ro om ro rfl) pt ?_
      refine uf (ZaR lk dp0)<|uf (Zar lk gt)<|?_
      refine u_st (Zaj lk cv gx rfl (nb' rfl) rfl Za4 (hs0 hn)) lk nh ptn ?_
      refine uf vm<|uf (v_mv lki)<|Zdo<|Zae<|Zaa<|Zas<|Zai<|Zai<|Zas<|Zai<|Zah (rsn (rm1 (rr_c gt gx (ld1 Za0 rfl)) (rm1 (rr_t gt) (rm1 (rr_t gt) rm0))))<|rtW'<|?_
      have hP:ZbX s=(srcZ,L[k].1,1):=by rw[hV,outP,hrun,hN]
      rw[hP];exact ZbZ
     refine s_do gt<|Vw (Zac lk)<|s_do gt<|Vw (Zab lk gx gt0)<|s_do gt<|Vw (ZaG lk)<|s_do gt<|Vw (Zbz lk lki)<|Vw (Zak lk lk)<|mw<|?_
     refine sp' (t:=122) gt pt pt (fun hg122=>?_) (fun hg122=>?_)
     ·have hN:=Zbj hB (.inr (.inl (by intro e;rw[e] at hg122;exact absurd hg122 (by decide))))
      refine so<|so<|so<|so<|so<|so<|so<|Vw (Zal lk lkb)<|sn'<|ZaH lk<|Zag<|Zcg<|uf (Zaw ZaI)<|?_
      refine uf vm<|uf vm<|?_
      refine u_fr rfl (ZaJ lk lk ZbA (nb' rfl) ro om ro rfl) pt ?_
      refine uf (ZaR lk dp0)<|uf (Zar lk gt)<|?_
      refine u_st (Zaj lk cv gx rfl (nb' rfl) rfl Za4 (hs0 hn)) lk nh ptn ?_
      refine uf vm<|uf (v_mv lki)<|Zdo<|Zae<|Zaa<|Zas<|Zai<|Zai<|Zas<|Zai<|Zah (rsn (rm1 (rr_c gt gx (ld1 Za0 rfl)) (rm1 (rr_t gt) (rm1 (rr_t gt) rm0))))<|rtW'<|?_
      have hP:ZbX s=(srcZ,L[k].1,1):=by rw[hV,outP,hrun,hN]
      rw[hP];exact ZbZ
     refine s_do gt<|mw<|s_do gt<|mw<|s_do gt<|?_
     refine V' (ZaJ lk lk ZbA (nb' rfl) ro om ro rfl) pt ?_
     refine s_do gt<|Vw (ZaR lk dp1)<|s_do gt<|Vw (Zar lk gt)<|s_do gt<|mw<|s_do gt<|Vw (Zd9 lk lk)<|Vw (Zak lk lk)<|sn'<|?_
     refine cd' lk (fun hc8=>?_) (fun hc8=>?_)
     ·have hN:=Zbj hB (.inr (.inr (by simpa using hc8)))
      refine Zag<|Zcg<|uf (Zaw ZaI)<|uf vm<|uf vm<|?_
      refine u_fr rfl (ZaJ lk lk ZbA (nb' rfl) ro om ro rfl) pt ?_
      refine uf (ZaR lk dp0)<|uf (Zar lk gt)<|?_
      refine u_st (Zaj lk cv gx rfl (nb' rfl) rfl Za4 (hs0 hn)) lk nh ptn ?_
      refine uf vm<|uf (v_mv lki)<|Zdo<|Zae<|Zaa<|Zas<|Zai<|Zai<|Zas<|Zai<|Zah (rsn (rm1 (rr_c gt gx (ld1 Za0 rfl)) (rm1 (rr_t gt) (rm1 (rr_t gt) rm0))))<|rtW'<|?_
      have hP:ZbX s=(srcZ,L[k].1,1):=by rw[hV,outP,hrun,hN]
      rw[hP];exact ZbZ
     have hu1:u.2=false:=by simpa using hg116
     have hu2:u.1=[]:=List.eq_nil_of_length_eq_zero om
     have hS:=ZdP hB hu1 hu2 (by simpa using hc8)
     rw[hS] at hrun
     have hokq:=hPT.1
     rw[hB] at hokq
     refine Zad<|ZaA<|?_
     refine Za1 ((ALe.iceCellNew (ds:=rows eraC [x]) (k:=sr.2.1.length*2+1) (ty2:=63) (st2:=10) gx gx om (zc_at2 rfl) rfl (Nat.le_refl _) zc_put2 (hs5 hn) (hs3 hn))) ?_
     refine Zat<|mw<|?_
     refine V' (Zax lk lki om om) pt ?_
     refine mw<|Zaq<|ZaB<|?_
     refine lU' (⟨k+1,(sr.1,sr.2.1++[(nm,[x])],sr.2.2),none,sr.2.1.length+1,v1,v2+1,v3,v4+3⟩) (by (try dsimp only);rw[hq] at hrun hokq;exact⟨by omega,by simp,by omega,by omega,by omega,by simp[eC],hokq,hrun⟩) (by (try dsimp only);(try simp only[sm',Nat.reduceAdd]);exact bkE' 6 hn hlt (by repeat (first | exact wk0 | refine wka ?_ | refine wk1 rfl ?_ | refine wk1 (by first | rfl | exact ivx om | (simp;done) | exact bvx (by have h9:=hs68;unfold ZcQ at h9;rw[h9];rfl) | exact bvx (by have h9:=hs106;unfold ZcQ at h9;rw[h9];rfl) | exact bvx (by have h9:=hs68;unfold ZcQ at h9;rw[Bool.not_eq_true] at h9;rw[h9];rfl) | exact bvx (by have h9:=hs106;unfold ZcQ at h9;rw[Bool.not_eq_true] at h9;rw[h9];rfl)) ?_)) (by simp only[zonC,ZaO,Za5,zC,eC,List.append_nil,List.length_append,List.length_singleton];rfl) (hT:=by first | rfl | (simp only[AV.lt,AV.ltL,Ent.lt,List.all_cons,List.all_nil,Bool.and_true,Bool.and_self,decide_true,Zbw,ZbM,ZbG,ZbL,Zb9,Zgo,Zhs,lt26,lt36,lt46,lt56];done) | exact lt') (hE:=by first | rfl | (simp only[AV.lt,AV.ltL,Ent.lt,List.all_cons,List.all_nil,Bool.and_true,Bool.and_self,decide_true,Zbw,ZbM,ZbG,ZbL,Zb9,Zgo,Zhs,lt26,lt36,lt46,lt56];done) | exact lt'))
    have hq:ZcO (sr.1,sr.2.1++[(nm,[])],sr.2.2) x=(curS sr (some (nm,[x])),true):=by rw[hw,show ZcQ x=false by simpa using hs106];rfl
    refine Vw (Zac lk)<|Vw (Zab lk gx gt4)<|Vw (ZaC lk)<|mw<|Zaq<|ZaA<|Zae<|wr'<|Vw (Zac lk)<|Vw (Zab lk gx gt1)<|mw<|?_
    refine ZaK (t:=116) gt pt pt (fun hg116=>?_) (fun hg116=>?_)
    ·have hN:=Zbj hB (.inl hg116)
     refine so<|so<|so<|so<|Vw (Zal lk lkb)<|mw<|so<|so<|so<|so<|so<|so<|so<|Vw (Zal lk lkb)<|?_
     refine sn'<|ZaH lk<|Zag<|Zcg<|uf (Zaw ZaI)<|uf vm<|uf vm<|?_
     refine u_fr rfl (ZaJ lk lk ZbA (nb' rfl) ro om ro rfl) pt ?_
     refine uf (ZaR lk dp0)<|uf (Zar lk gt)<|?_
     refine u_st (Zaj lk cv gx rfl (nb' rfl) rfl Za4 (hs0 hn)) lk nh ptn ?_
     refine uf vm<|uf (v_mv lki)<|Zdo<|Zae<|Zaa<|Zas<|Zai<|Zai<|Zas<|Zai<|Zah (rsn (rm1 (rr_c gt gx (ld1 Za0 rfl)) (rm1 (rr_t gt) (rm1 (rr_t gt) rm0))))<|rtW'<|?_
     have hP:ZbX s=(srcZ,L[k].1,1):=by rw[hV,outP,hrun,hN]
     rw[hP];exact ZbZ
    refine s_do gt<|Vw (Zac lk)<|s_do gt<|Vw (Zab lk gx gt0)<|s_do gt<|Vw (ZaG lk)<|s_do gt<|Vw (Zbz lk lki)<|Vw (Zak lk lk)<|mw<|?_
    refine sp' (t:=122) gt pt pt (fun hg122=>?_) (fun hg122=>?_)
    ·have hN:=Zbj hB (.inr (.inl (by intro e;rw[e] at hg122;exact absurd hg122 (by decide))))
     refine so<|so<|so<|so<|so<|so<|so<|Vw (Zal lk lkb)<|sn'<|ZaH lk<|Zag<|Zcg<|uf (Zaw ZaI)<|?_
     refine uf vm<|uf vm<|?_
     refine u_fr rfl (ZaJ lk lk ZbA (nb' rfl) ro om ro rfl) pt ?_
     refine uf (ZaR lk dp0)<|uf (Zar lk gt)<|?_
     refine u_st (Zaj lk cv gx rfl (nb' rfl) rfl Za4 (hs0 hn)) lk nh ptn ?_
     refine uf vm<|uf (v_mv lki)<|Zdo<|Zae<|Zaa<|Zas<|Zai<|Zai<|Zas<|Zai<|Zah (rsn (rm1 (rr_c gt gx (ld1 Za0 rfl)) (rm1 (rr_t gt) (rm1 (rr_t gt) rm0))))<|rtW'<|?_
     have hP:ZbX s=(srcZ,L[k].1,1):=by rw[hV,outP,hrun,hN]
     rw[hP];exact ZbZ
    refine s_do gt<|mw<|s_do gt<|mw<|s_do gt<|?_
    refine V' (ZaJ lk lk ZbA (nb' rfl) ro om ro rfl) pt ?_
    refine s_do gt<|Vw (ZaR lk dp1)<|s_do gt<|Vw (Zar lk gt)<|s_do gt<|mw<|s_do gt<|Vw (Zd9 lk lk)<|Vw (Zak lk lk)<|sn'<|?_
    refine cd' lk (fun hc8=>?_) (fun hc8=>?_)
    ·have hN:=Zbj hB (.inr (.inr (by simpa using hc8)))
     refine Zag<|Zcg<|uf (Zaw ZaI)<|uf vm<|uf vm<|?_
     refine u_fr rfl (ZaJ lk lk ZbA (nb' rfl) ro om ro rfl) pt ?_
     refine uf (ZaR lk dp0)<|uf (Zar lk gt)<|?_
     refine u_st (Zaj lk cv gx rfl (nb' rfl) rfl Za4 (hs0 hn)) lk nh ptn ?_
     refine uf vm<|uf (v_mv lki)<|Zdo<|Zae<|Zaa<|Zas<|Zai<|Zai<|Zas<|Zai<|Zah (rsn (rm1 (rr_c gt gx (ld1 Za0 rfl)) (rm1 (rr_t gt) (rm1 (rr_t gt) rm0))))<|rtW'<|?_
     have hP:ZbX s=(srcZ,L[k].1,1):=by rw[hV,outP,hrun,hN]
     rw[hP];exact ZbZ
    have hu1:u.2=false:=by simpa using hg116
    have hu2:u.1=[]:=List.eq_nil_of_length_eq_zero om
    have hS:=ZdP hB hu1 hu2 (by simpa using hc8)
    rw[hS] at hrun
    have hokq:=hPT.1
    rw[hB] at hokq
    refine Zad<|ZaA<|Zae<|Zat<|mw<|?_
    refine V' (Zax lk lki om om) pt ?_
    refine mw<|Zaq<|ZaB<|?_
    refine lU' (⟨k+1,sr,some (nm,[x]),sr.2.1.length+1,v1,v2+1,v3,v4+2⟩) (by (try dsimp only);rw[hq] at hrun hokq;exact⟨by omega,by simp,by omega,by omega,by omega,by simp[eC],hokq,hrun⟩) (by (try dsimp only);(try simp only[sm',Nat.reduceAdd]);exact bkE' 6 hn hlt (by repeat (first | exact wk0 | refine wka ?_ | refine wk1 rfl ?_ | refine wk1 (by first | rfl | exact ivx om | (simp;done) | exact bvx (by have h9:=hs68;unfold ZcQ at h9;rw[h9];rfl) | exact bvx (by have h9:=hs106;unfold ZcQ at h9;rw[h9];rfl) | exact bvx (by have h9:=hs68;unfold ZcQ at h9;rw[Bool.not_eq_true] at h9;rw[h9];rfl) | exact bvx (by have h9:=hs106;unfold ZcQ at h9;rw[Bool.not_eq_true] at h9;rw[h9];rfl)) ?_)) (by simp only[zonC,ZaO,Za5,zC,eC,List.append_nil,List.length_append,List.length_singleton];rfl) (hT:=by first | rfl | (simp only[AV.lt,AV.ltL,Ent.lt,List.all_cons,List.all_nil,Bool.and_true,Bool.and_self,decide_true,Zbw,ZbM,ZbG,ZbL,Zb9,Zgo,Zhs,lt26,lt36,lt46,lt56];done) | exact lt') (hE:=by first | rfl | (simp only[AV.lt,AV.ltL,Ent.lt,List.all_cons,List.all_nil,Bool.and_true,Bool.and_self,decide_true,Zbw,ZbM,ZbG,ZbL,Zb9,Zgo,Zhs,lt26,lt36,lt46,lt56];done) | exact lt'))
   have hwZ:¬w=zoneA:=hc6
   refine wr'<|mw<|Vw (Zch lk lks)<|mw<|sn'<|?_
   refine cd' lk (fun hc7=>?_) (fun hc7=>?_)
   ·have hwL:w=linkA:=hc7
    obtain⟨n1,t2,e2⟩ : ∃ a b,Zfo t1=(a,b):=⟨_,_,rfl⟩
    have o2:=ZgX o1 e2
    obtain⟨n2,u,e3⟩ : ∃ a b,Zfo t2=(a,b):=⟨_,_,rfl⟩
    have hB:Ze4 (curS sr none,false) (L[k].2.2,false)=((curS (sr.1,sr.2.1,sr.2.2++[(n1,n2)]) none,false),u):=by unfold Ze4;rw[if_neg (by simp)];simp only[Zcf,e1,if_neg hwR,if_neg hwZ,if_pos hwL,ret2,e2,e3];rfl
    refine wr'<|E' (Za7 (hl7 hn) ha7) pt<|sn'<|wr'<|ZaW mp (Zll o1 e2 gx) (hs6 hn) pt<|Vw (Zac lk)<|E' (Zaj lk cv gx rfl (nb' rfl) rfl Zk5 (hs7 hn)) ptn<|sn'<|wr'<|?_
    refine ZaW mp (Zll o2 e3 gx) (hs6 hn) pt<|Vw (Zac lk)<|E' (Zaj lk cv gx rfl (nb' rfl) rfl Zf0 (hs7 hn)) ptn<|sn'<|Zat<|Vw (Zac lk)<|Vw (Zab lk gx gt2)<|Vw (Zao lk gx Zk3 rfl)<|E' (Zda (Zig cv rfl) (hl8 hn) ha8) pt<|?_
    refine E' (Zce (ZbF lk gx rfl ZnE (nb' rfl)) lk gx (Zol _) om rfl (hs4 hn)) pt ?_
    refine Vw (Zac lk)<|E' (Zaj lk cv gx rfl (nb' rfl) rfl ZrU (hs1 hn)) ptn<|Zaq<|ZaA<|Zae<|wr'<|Vw (Zac lk)<|Vw (Zab lk gx gt1)<|mw<|?_
    refine ZaK (t:=116) gt pt pt (fun hg116=>?_) (fun hg116=>?_)
    ·have hN:=Zbj hB (.inl hg116)
     refine so<|so<|so<|so<|Vw (Zal lk lkb)<|mw<|so<|so<|so<|so<|so<|so<|so<|Vw (Zal lk lkb)<|?_
     refine sn'<|ZaH lk<|Zag<|Zcg<|uf (Zaw ZaI)<|uf vm<|uf vm<|?_
     refine u_fr rfl (ZaJ lk lk ZbA (nb' rfl) ro om ro rfl) pt ?_
     refine uf (ZaR lk dp0)<|uf (Zar lk gt)<|?_
     refine u_st (Zaj lk cv gx rfl (nb' rfl) rfl Za4 (hs0 hn)) lk nh ptn ?_
     refine uf vm<|uf (v_mv lki)<|Zdo<|Zae<|Zaa<|Zas<|Zai<|Zai<|Zas<|Zai<|Zah (rsn (rm1 (rr_c gt gx (ld1 Za0 rfl)) (rm1 (rr_t gt) (rm1 (rr_t gt) rm0))))<|rtW'<|?_
     have hP:ZbX s=(srcZ,L[k].1,1):=by rw[hV,outP,hrun,hN]
     rw[hP];exact ZbZ
    refine s_do gt<|Vw (Zac lk)<|s_do gt<|Vw (Zab lk gx gt0)<|s_do gt<|Vw (ZaG lk)<|s_do gt<|Vw (Zbz lk lki)<|Vw (Zak lk lk)<|mw<|?_
    refine sp' (t:=122) gt pt pt (fun hg122=>?_) (fun hg122=>?_)
    ·have hN:=Zbj hB (.inr (.inl (by intro e;rw[e] at hg122;exact absurd hg122 (by decide))))
     refine so<|so<|so<|so<|so<|so<|so<|Vw (Zal lk lkb)<|sn'<|ZaH lk<|Zag<|Zcg<|uf (Zaw ZaI)<|?_
     refine uf vm<|uf vm<|?_
     refine u_fr rfl (ZaJ lk lk ZbA (nb' rfl) ro om ro rfl) pt ?_
     refine uf (ZaR lk dp0)<|uf (Zar lk gt)<|?_
     refine u_st (Zaj lk cv gx rfl (nb' rfl) rfl Za4 (hs0 hn)) lk nh ptn ?_
     refine uf vm<|uf (v_mv lki)<|Zdo<|Zae<|Zaa<|Zas<|Zai<|Zai<|Zas<|Zai<|Zah (rsn (rm1 (rr_c gt gx (ld1 Za0 rfl)) (rm1 (rr_t gt) (rm1 (rr_t gt) rm0))))<|rtW'<|?_
     have hP:ZbX s=(srcZ,L[k].1,1):=by rw[hV,outP,hrun,hN]
     rw[hP];exact ZbZ
    refine s_do gt<|mw<|s_do gt<|mw<|s_do gt<|?_
    refine V' (ZaJ lk lk ZbA (nb' rfl) ro om ro rfl) pt ?_
    refine s_do gt<|Vw (ZaR lk dp1)<|s_do gt<|Vw (Zar lk gt)<|s_do gt<|mw<|s_do gt<|Vw (Zd9 lk lk)<|Vw (Zak lk lk)<|sn'<|?_
    refine cd' lk (fun hc8=>?_) (fun hc8=>?_)
    ·have hN:=Zbj hB (.inr (.inr (by simpa using hc8)))
     refine Zag<|Zcg<|uf (Zaw ZaI)<|uf vm<|uf vm<|?_
     refine u_fr rfl (ZaJ lk lk ZbA (nb' rfl) ro om ro rfl) pt ?_
     refine uf (ZaR lk dp0)<|uf (Zar lk gt)<|?_
     refine u_st (Zaj lk cv gx rfl (nb' rfl) rfl Za4 (hs0 hn)) lk nh ptn ?_
     refine uf vm<|uf (v_mv lki)<|Zdo<|Zae<|Zaa<|Zas<|Zai<|Zai<|Zas<|Zai<|Zah (rsn (rm1 (rr_c gt gx (ld1 Za0 rfl)) (rm1 (rr_t gt) (rm1 (rr_t gt) rm0))))<|rtW'<|?_
     have hP:ZbX s=(srcZ,L[k].1,1):=by rw[hV,outP,hrun,hN]
     rw[hP];exact ZbZ
    have hu1:u.2=false:=by simpa using hg116
    have hu2:u.1=[]:=List.eq_nil_of_length_eq_zero om
    have hS:=ZdP hB hu1 hu2 (by simpa using hc8)
    rw[hS] at hrun
    have hokq:=hPT.1
    rw[hB] at hokq
    refine Zad<|ZaA<|Zae<|Zat<|mw<|?_
    refine V' (Zax lk lki om om) pt ?_
    refine mw<|Zaq<|ZaB<|?_
    refine lU' (⟨k+1,(sr.1,sr.2.1,sr.2.2++[(n1,n2)]),none,sr.2.1.length,v1,v2,v3+1,v4⟩) (by (try dsimp only);exact⟨by omega,by simp,by omega,by omega,by simp;omega,by simp[eC],hokq,hrun⟩) (by (try dsimp only);(try simp only[sm',Nat.reduceAdd]);exact bkE' 6 hn hlt (by repeat (first | exact wk0 | refine wka ?_ | refine wk1 rfl ?_ | refine wk1 (by first | rfl | exact ivx om | (simp;done) | exact bvx (by have h9:=hs68;unfold ZcQ at h9;rw[h9];rfl) | exact bvx (by have h9:=hs106;unfold ZcQ at h9;rw[h9];rfl) | exact bvx (by have h9:=hs68;unfold ZcQ at h9;rw[Bool.not_eq_true] at h9;rw[h9];rfl) | exact bvx (by have h9:=hs106;unfold ZcQ at h9;rw[Bool.not_eq_true] at h9;rw[h9];rfl)) ?_)) (by simp only[zonC,ZaO,Za5,zC,eC,List.append_nil,List.length_append,List.length_singleton];rfl) (hT:=by first | rfl | (simp only[AV.lt,AV.ltL,Ent.lt,List.all_cons,List.all_nil,Bool.and_true,Bool.and_self,decide_true,Zbw,ZbM,ZbG,ZbL,Zb9,Zgo,Zhs,lt26,lt36,lt46,lt56];done) | exact lt') (hE:=by first | rfl | (simp only[AV.lt,AV.ltL,Ent.lt,List.all_cons,List.all_nil,Bool.and_true,Bool.and_self,decide_true,Zbw,ZbM,ZbG,ZbL,Zb9,Zgo,Zhs,lt26,lt36,lt46,lt56];done) | exact lt'))
   have hwL:¬w=linkA:=hc7
   have hB:Ze4 (curS sr none,false) (L[k].2.2,false)=((curS sr none,false),bad t1):=by unfold Ze4;rw[if_neg (by simp)];simp only[Zcf,e1,if_neg hwR,if_neg hwZ,if_neg hwL]
   have hN:=Zbj hB (.inl rfl)
   refine Zat<|Vw (Zac lk)<|E' (Zaj lk (cvl lkb rfl) gx rfl (nb' rfl) rfl Zf0 (hs6 hn)) ptn<|Zaq<|ZaA<|Zae<|wr'<|Vw (Zac lk)<|Vw (Zab lk gx gt1)<|mw<|so<|so<|so<|?_
   refine so<|Vw (Zal lk lkb)<|mw<|so<|so<|so<|so<|so<|so<|so<|Vw (Zal lk lkb)<|sn'<|ZaH lk<|?_
   refine Zag<|Zcg<|uf (Zaw ZaI)<|uf vm<|uf vm<|?_
   refine u_fr rfl (ZaJ lk lk ZbA (nb' rfl) ro om ro rfl) pt ?_
   refine uf (ZaR lk dp0)<|uf (Zar lk gt)<|?_
   refine u_st (Zaj lk cv gx rfl (nb' rfl) rfl Za4 (hs0 hn)) lk nh ptn ?_
   refine uf vm<|uf (v_mv lki)<|Zdo<|Zae<|Zaa<|Zas<|Zai<|Zai<|Zas<|Zai<|Zah (rsn (rm1 (rr_c gt gx (ld1 Za0 rfl)) (rm1 (rr_t gt) (rm1 (rr_t gt) rm0))))<|rtW'<|?_
   have hP:ZbX s=(srcZ,L[k].1,1):=by rw[hV,outP,hrun,hN]
   rw[hP];exact ZbZ
  obtain⟨z,rfl⟩:=Option.ne_none_iff_exists'.1 hs36
  simp only[Option.isSome_some] at hrun hPT
  have hm':m=sr.2.1.length+1:=by simpa using hm
  have hk5':z.2.length≤k:=hk5
  obtain⟨x,u,eE⟩ : ∃ a b,tEra (L[k].2.2,false)=(a,b):=⟨_,_,rfl⟩
  have hB:Ze4 (curS sr (some z),true) (L[k].2.2,false)=(ZcO (curS sr (some z)) x,u):=by unfold Ze4;rw[if_pos rfl];simp only[Zcf,ret2,eE]
  have hw:ZcO (curS sr (some z)) x=((sr.1,sr.2.1++[(z.1,z.2++[x])],sr.2.2),!ZcQ x):=by unfold ZcO curS;rw[show sr.2.1++(some z).toList=sr.2.1++[z] from rfl,Zgx]
  refine mw<|mw<|sn'<|wr'<|mw<|sn'<|Zag<|wr'<|mw<|?_
  refine V' ((by first | exact v_not lk | exact ZaC lk)) pt ?_
  refine sn' ?_
  refine Zc5 lk (by rfl) ?_
  refine Zad<|Zae<|Zag<|Zam<|wr'<|mw<|mw<|sn'<|?_
  refine Zc6 lk (by rfl) ?_
  refine wr'<|Vw (Zac lk)<|Vw (Zab lk gx gt1)<|Vw (Zb7 lk)<|?_
  refine V' (Zbm lk lki om om) pt ?_
  refine mw<|sn'<|wr'<|ZaW mp (tera_e hokt eE gx) (hs6 hn) pt<|E' (Za7 (hl7 hn) ha7) pt<|E' (Zaj lk cv gx rfl (nb' rfl) rfl Zjy (hs7 hn)) ptn<|sn'<|Zag<|Zpr [N+1]<|Dw (Zac lk)<|?_
  refine d_ldP lk gx (ld0 gt) (by simp) pt ?_
  refine Dw vm<|Dw (Zac lk)<|Dw (Zab lk gx gt1)<|Dw vm<|?_
  refine D' (v_iaO lk lk (hga hn rfl) (nb' rfl) om om (by rw[Zme];simp;omega)) pt ?_
  refine D' (Zbl lk) pt ?_
  refine D' (Zab lk gx (zc_at om)) pt ?_
  refine Dw (Zao lk gx Zjx rfl)<|Zep rfl rfl (hlk hn rfl) (Zh9 (ZjC cv rfl)) pt Zu6<|Za8<|k_e_ent ZrV<|?_
  refine Zt5 rfl rfl (Zce (ZbF lk gx rfl Zk2 (nb' rfl)) lk gx (ZlN _) om rfl (hs5 hn)) (by intro i hi;simp only[cond_true,List.mem_cons,List.not_mem_nil,or_false] at hi;subst hi;first | rfl | exact (hga hn rfl).trans (hga hn rfl).symm) pt ?_
  refine Zq4 rfl (v_iaO lk lk (hga hn rfl) (nb' rfl) om om (by rw[Zme];simp;omega)) pt ?_
  refine Zq4 rfl (Zbl lk) pt ?_
  refine Zt5 rfl rfl (Zaj lk cv (hga hn rfl) rfl (by rw[Zme];simp;omega) rfl (zc_set om) (hs3 hn)) (by intro i hi;simp at hi) ptn ?_
  refine Zt4<|Zae<|Zat<|?_
  by_cases hs68:ZcQ x=true
  ·have hq:ZcO (curS sr (some z)) x=(curS (sr.1,sr.2.1++[(z.1,z.2++[x])],sr.2.2) none,false):=by rw[hw,hs68,Zfy];rfl
   refine Vw (Zac lk)<|Vw (Zab lk gx gt4)<|Vw (ZaC lk)<|mw<|Zaq<|ZaA<|Zae<|wr'<|Vw (Zac lk)<|Vw (Zab lk gx gt1)<|mw<|?_
   refine ZaK (t:=116) gt pt pt (fun hg116=>?_) (fun hg116=>?_)
   ·have hN:=Zbj hB (.inl hg116)
    refine so<|so<|so<|so<|Vw (Zal lk lkb)<|mw<|so<|so<|so<|so<|so<|so<|so<|Vw (Zal lk lkb)<|?_
    refine sn'<|ZaH lk<|Zag<|Zcg<|uf (Zaw ZaI)<|uf vm<|uf vm<|?_
    refine u_fr rfl (ZaJ lk lk ZbA (nb' rfl) ro om ro rfl) pt ?_
    refine uf (ZaR lk dp0)<|uf (Zar lk gt)<|?_
    refine u_st (Zaj lk cv gx rfl (nb' rfl) rfl Za4 (hs0 hn)) lk nh ptn ?_
    refine uf vm<|uf (v_mv lki)<|Zdo<|Zae<|Zaa<|Zas<|Zai<|Zai<|Zas<|Zai<|Zah (rsn (rm1 (rr_c gt gx (ld1 Za0 rfl)) (rm1 (rr_t gt) (rm1 (rr_t gt) rm0))))<|rtW'<|?_
    have hP:ZbX s=(srcZ,L[k].1,1):=by rw[hV,outP,hrun,hN]
    rw[hP];exact ZbZ
   refine s_do gt<|Vw (Zac lk)<|s_do gt<|Vw (Zab lk gx gt0)<|s_do gt<|Vw (ZaG lk)<|s_do gt<|Vw (Zbz lk lki)<|Vw (Zak lk lk)<|mw<|?_
   refine sp' (t:=122) gt pt pt (fun hg122=>?_) (fun hg122=>?_)
   ·have hN:=Zbj hB (.inr (.inl (by intro e;rw[e] at hg122;exact absurd hg122 (by decide))))
    refine so<|so<|so<|so<|so<|so<|so<|Vw (Zal lk lkb)<|sn'<|ZaH lk<|Zag<|Zcg<|uf (Zaw ZaI)<|?_
    refine uf vm<|uf vm<|?_
    refine u_fr rfl (ZaJ lk lk ZbA (nb' rfl) ro om ro rfl) pt ?_
    refine uf (ZaR lk dp0)<|uf (Zar lk gt)<|?_
    refine u_st (Zaj lk cv gx rfl (nb' rfl) rfl Za4 (hs0 hn)) lk nh ptn ?_
    refine uf vm<|uf (v_mv lki)<|Zdo<|Zae<|Zaa<|Zas<|Zai<|Zai<|Zas<|Zai<|Zah (rsn (rm1 (rr_c gt gx (ld1 Za0 rfl)) (rm1 (rr_t gt) (rm1 (rr_t gt) rm0))))<|rtW'<|?_
    have hP:ZbX s=(srcZ,L[k].1,1):=by rw[hV,outP,hrun,hN]
    rw[hP];exact ZbZ
   refine s_do gt<|mw<|s_do gt<|mw<|s_do gt<|?_
   refine V' (ZaJ lk lk ZbA (nb' rfl) ro om ro rfl) pt ?_
   refine s_do gt<|Vw (ZaR lk dp1)<|s_do gt<|Vw (Zar lk gt)<|s_do gt<|mw<|s_do gt<|Vw (Zd9 lk lk)<|Vw (Zak lk lk)<|sn'<|?_
   refine cd' lk (fun hc8=>?_) (fun hc8=>?_)
   ·have hN:=Zbj hB (.inr (.inr (by simpa using hc8)))
    refine Zag<|Zcg<|uf (Zaw ZaI)<|uf vm<|uf vm<|?_
    refine u_fr rfl (ZaJ lk lk ZbA (nb' rfl) ro om ro rfl) pt ?_
    refine uf (ZaR lk dp0)<|uf (Zar lk gt)<|?_
    refine u_st (Zaj lk cv gx rfl (nb' rfl) rfl Za4 (hs0 hn)) lk nh ptn ?_
    refine uf vm<|uf (v_mv lki)<|Zdo<|Zae<|Zaa<|Zas<|Zai<|Zai<|Zas<|Zai<|Zah (rsn (rm1 (rr_c gt gx (ld1 Za0 rfl)) (rm1 (rr_t gt) (rm1 (rr_t gt) rm0))))<|rtW'<|?_
    have hP:ZbX s=(srcZ,L[k].1,1):=by rw[hV,outP,hrun,hN]
    rw[hP];exact ZbZ
   have hu1:u.2=false:=by simpa using hg116
   have hu2:u.1=[]:=List.eq_nil_of_length_eq_zero om
   have hS:=ZdP hB hu1 hu2 (by simpa using hc8)
   rw[hS] at hrun
   have hokq:=hPT.1
   rw[hB] at hokq
   refine Zad<|ZaA<|?_
   refine Za1 ((ALe.iceCellNew (ds:=rows eraC (z.2++[x])) (k:=sr.2.1.length*2+1) (ty2:=63) (st2:=10) gx gx om (zc_at rfl) (by rw[ZaO,Za5];exact List.take_of_length_le (by simp[ZlN,eC];omega)) (by simp[ZlN,eC];omega) zc_put (hs5 hn) (hs3 hn))) ?_
   refine Zat<|mw<|?_
   refine V' (Zax lk lki om om) pt ?_
   refine mw<|Zaq<|ZaB<|?_
   refine lU' (⟨k+1,(sr.1,sr.2.1++[(z.1,z.2++[x])],sr.2.2),none,m,v1,v2,v3,v4+2⟩) (by (try dsimp only);rw[hq] at hrun hokq;exact⟨by omega,by simp;omega,by omega,by omega,by omega,by simp[eC],hokq,hrun⟩) (by (try dsimp only);(try simp only[sm',Nat.reduceAdd]);exact bkE' 6 hn hlt (by repeat (first | exact wk0 | refine wka ?_ | refine wk1 rfl ?_ | refine wk1 (by first | rfl | exact ivx om | (simp;done) | exact bvx (by have h9:=hs68;unfold ZcQ at h9;rw[h9];rfl) | exact bvx (by have h9:=hs106;unfold ZcQ at h9;rw[h9];rfl) | exact bvx (by have h9:=hs68;unfold ZcQ at h9;rw[Bool.not_eq_true] at h9;rw[h9];rfl) | exact bvx (by have h9:=hs106;unfold ZcQ at h9;rw[Bool.not_eq_true] at h9;rw[h9];rfl)) ?_)) (by simp only[zonC,ZaO,Za5,zC,eC,List.append_nil,List.length_append,List.length_singleton];rfl) (hT:=by first | rfl | (simp only[AV.lt,AV.ltL,Ent.lt,List.all_cons,List.all_nil,Bool.and_true,Bool.and_self,decide_true,Zbw,ZbM,ZbG,ZbL,Zb9,Zgo,Zhs,lt26,lt36,lt46,lt56];done) | exact lt') (hE:=by first | rfl | (simp only[AV.lt,AV.ltL,Ent.lt,List.all_cons,List.all_nil,Bool.and_true,Bool.and_self,decide_true,Zbw,ZbM,ZbG,ZbL,Zb9,Zgo,Zhs,lt26,lt36,lt46,lt56];done) | exact lt'))
  have hq:ZcO (curS sr (some z)) x=(curS sr (some (z.1,z.2++[x])),true):=by rw[hw,show ZcQ x=false by simpa using hs68];rfl
  refine Vw (Zac lk)<|Vw (Zab lk gx gt4)<|Vw (ZaC lk)<|mw<|Zaq<|ZaA<|Zae<|wr'<|Vw (Zac lk)<|Vw (Zab lk gx gt1)<|mw<|?_
  refine ZaK (t:=116) gt pt pt (fun hg116=>?_) (fun hg116=>?_)
  ·have hN:=Zbj hB (.inl hg116)
   refine so<|so<|so<|so<|Vw (Zal lk lkb)<|mw<|so<|so<|so<|so<|so<|so<|so<|Vw (Zal lk lkb)<|?_
   refine sn'<|ZaH lk<|Zag<|Zcg<|uf (Zaw ZaI)<|uf vm<|uf vm<|?_
   refine u_fr rfl (ZaJ lk lk ZbA (nb' rfl) ro om ro rfl) pt ?_
   refine uf (ZaR lk dp0)<|uf (Zar lk gt)<|?_
   refine u_st (Zaj lk cv gx rfl (nb' rfl) rfl Za4 (hs0 hn)) lk nh ptn ?_
   refine uf vm<|uf (v_mv lki)<|Zdo<|Zae<|Zaa<|Zas<|Zai<|Zai<|Zas<|Zai<|Zah (rsn (rm1 (rr_c gt gx (ld1 Za0 rfl)) (rm1 (rr_t gt) (rm1 (rr_t gt) rm0))))<|rtW'<|?_
   have hP:ZbX s=(srcZ,L[k].1,1):=by rw[hV,outP,hrun,hN]
   rw[hP];exact ZbZ
  refine s_do gt<|Vw (Zac lk)<|s_do gt<|Vw (Zab lk gx gt0)<|s_do gt<|Vw (ZaG lk)<|s_do gt<|Vw (Zbz lk lki)<|Vw (Zak lk lk)<|mw<|?_
  refine sp' (t:=122) gt pt pt (fun hg122=>?_) (fun hg122=>?_)
  ·have hN:=Zbj hB (.inr (.inl (by intro e;rw[e] at hg122;exact absurd hg122 (by decide))))
   refine so<|so<|so<|so<|so<|so<|so<|Vw (Zal lk lkb)<|sn'<|ZaH lk<|Zag<|Zcg<|uf (Zaw ZaI)<|?_
   refine uf vm<|uf vm<|?_
   refine u_fr rfl (ZaJ lk lk ZbA (nb' rfl) ro om ro rfl) pt ?_
   refine uf (ZaR lk dp0)<|uf (Zar lk gt)<|?_
   refine u_st (Zaj lk cv gx rfl (nb' rfl) rfl Za4 (hs0 hn)) lk nh ptn ?_
   refine uf vm<|uf (v_mv lki)<|Zdo<|Zae<|Zaa<|Zas<|Zai<|Zai<|Zas<|Zai<|Zah (rsn (rm1 (rr_c gt gx (ld1 Za0 rfl)) (rm1 (rr_t gt) (rm1 (rr_t gt) rm0))))<|rtW'<|?_
   have hP:ZbX s=(srcZ,L[k].1,1):=by rw[hV,outP,hrun,hN]
   rw[hP];exact ZbZ
  refine s_do gt<|mw<|s_do gt<|mw<|s_do gt<|?_
  refine V' (ZaJ lk lk ZbA (nb' rfl) ro om ro rfl) pt ?_
  refine s_do gt<|Vw (ZaR lk dp1)<|s_do gt<|Vw (Zar lk gt)<|s_do gt<|mw<|s_do gt<|Vw (Zd9 lk lk)<|Vw (Zak lk lk)<|sn'<|?_
  refine cd' lk (fun hc8=>?_) (fun hc8=>?_)
  ·have hN:=Zbj hB (.inr (.inr (by simpa using hc8)))
   refine Zag<|Zcg<|uf (Zaw ZaI)<|uf vm<|uf vm<|?_
   refine u_fr rfl (ZaJ lk lk ZbA (nb' rfl) ro om ro rfl) pt ?_
   refine uf (ZaR lk dp0)<|uf (Zar lk gt)<|?_
   refine u_st (Zaj lk cv gx rfl (nb' rfl) rfl Za4 (hs0 hn)) lk nh ptn ?_
   refine uf vm<|uf (v_mv lki)<|Zdo<|Zae<|Zaa<|Zas<|Zai<|Zai<|Zas<|Zai<|Zah (rsn (rm1 (rr_c gt gx (ld1 Za0 rfl)) (rm1 (rr_t gt) (rm1 (rr_t gt) rm0))))<|rtW'<|?_
   have hP:ZbX s=(srcZ,L[k].1,1):=by rw[hV,outP,hrun,hN]
   rw[hP];exact ZbZ
  have hu1:u.2=false:=by simpa using hg116
  have hu2:u.1=[]:=List.eq_nil_of_length_eq_zero om
  have hS:=ZdP hB hu1 hu2 (by simpa using hc8)
  rw[hS] at hrun
  have hokq:=hPT.1
  rw[hB] at hokq
  refine Zad<|ZaA<|Zae<|Zat<|mw<|?_
  refine V' (Zax lk lki om om) pt ?_
  refine mw<|Zaq<|ZaB<|?_
  refine lU' (⟨k+1,sr,some (z.1,z.2++[x]),m,v1,v2,v3,v4+1⟩) (by (try dsimp only);rw[hq] at hrun hokq;exact⟨by omega,by simp;omega,by omega,by omega,by omega,by simp[eC] at hk5 ⊢;omega,hokq,hrun⟩) (by (try dsimp only);(try simp only[sm',Nat.reduceAdd]);exact bkE' 6 hn hlt (by repeat (first | exact wk0 | refine wka ?_ | refine wk1 rfl ?_ | refine wk1 (by first | rfl | exact ivx om | (simp;done) | exact bvx (by have h9:=hs68;unfold ZcQ at h9;rw[h9];rfl) | exact bvx (by have h9:=hs106;unfold ZcQ at h9;rw[h9];rfl) | exact bvx (by have h9:=hs68;unfold ZcQ at h9;rw[Bool.not_eq_true] at h9;rw[h9];rfl) | exact bvx (by have h9:=hs106;unfold ZcQ at h9;rw[Bool.not_eq_true] at h9;rw[h9];rfl)) ?_)) (by simp only[zonC,ZaO,Za5,zC,eC,List.append_nil,List.length_append,List.length_singleton];rfl) (hT:=by first | rfl | (simp only[AV.lt,AV.ltL,Ent.lt,List.all_cons,List.all_nil,Bool.and_true,Bool.and_self,decide_true,Zbw,ZbM,ZbG,ZbL,Zb9,Zgo,Zhs,lt26,lt36,lt46,lt56];done) | exact lt') (hE:=by first | rfl | (simp only[AV.lt,AV.ltL,Ent.lt,List.all_cons,List.all_nil,Bool.and_true,Bool.and_self,decide_true,Zbw,ZbM,ZbG,ZbL,Zb9,Zgo,Zhs,lt26,lt36,lt46,lt56];done) | exact lt'))
 have hke:k=L.length:=by omega
 rw[List.drop_of_length_le om,runR] at hrun
 have hV2:ZbX s=endP (curS sr o,o.isSome):=by rw[hV,outP,hrun]
 refine ZaD<|Zay<|Zay<|ZaU<|Zae<|Zag<|wr'<|mw<|sn'<|?_
 refine cd' lk (fun hc9=>?_) (fun hc9=>?_)
 ·have hP:ZbX s=(srcZ,0,1):=by rw[hV2];exact if_pos hc9
  refine wr'<|Vw (Zaw Zif)<|E' (Zaj lk cv gx rfl (nb' rfl) rfl Za4 (hs0 hn)) ptn<|mw<|mw<|sn'<|Zaa<|Zai<|Zah (rsn (rm1 (rr_c gt gx (ld1 Za0 rfl)) (rm1 (rr_t gt) (rm1 (rr_t gt) rm0))))<|rtW'<|?_
  rw[hP];exact ZbZ
 obtain rfl:o=none:=by cases o;rfl;cases hc9
 have hm':m=sr.2.1.length:=by simpa using hm
 subst hm'
 rw[Zfy] at hok hV2
 refine Zad ?_
 refine Za1 ((ALe.trans (ALe.iceCellR (ds:=rows rulC sr.1) gx gx om gt0 (List.take_of_length_le (by rw[Zn7];exact Nat.le_refl _)) (by rw[Zn7];exact Nat.le_refl _) pt0 (hs2 hn) (hs1 hn)) (ALe.trans (ALe.iceCellR (ds:=rows zonC sr.2.1) gx gx om gt1 (by rw[show rows zonC sr.2.1++zC N v4 none=rows zonC sr.2.1 from List.append_nil _];exact List.take_of_length_le (by rw[Zhr];exact Nat.le_refl _)) (by rw[Zme];simp) pt1 (hs3 hn) (hs1 hn)) (ALe.iceCellR (ds:=rows lnkC sr.2.2) gx gx om gt2 (List.take_of_length_le (by rw[Zol];exact Nat.le_refl _)) (by rw[Zol];exact Nat.le_refl _) pt2 (hs4 hn) (hs1 hn))))) ?_
 refine wr'<|Vw (Zao lk gx Za0 rfl)<|Zaf mp (ZmL (a:=sr.1) (z:=sr.2.1) (l:=sr.2.2) hok) pt<|mw<|sn'<|Zag<|wr'<|mw<|Vw (Za9 lk lki)<|sn'<|?_
 refine cd' lk (fun hc10=>?_) (fun hc10=>?_)
 ·have hP:ZbX s=(srcZ,0,ZbU sr):=by rw[hV2,endP,if_neg (by simp)];exact if_pos hc10
  refine wr'<|Vw (Zaw Zie)<|mw<|E' (Zaj lk cv gx rfl (nb' rfl) rfl Za4 (hs0 hn)) ptn<|mw<|mw<|sn'<|Zaa<|Zai<|Zah (rsn (rm1 (rr_c gt gx (ld1 Za0 rfl)) (rm1 (rr_t gt) (rm1 (rr_t gt) rm0))))<|rtW'<|?_
  rw[hP];exact ZbZ
 have h0:ZbU sr=0:=Decidable.of_not_not hc10
 have hP:ZbX s=(sr,0,0):=by rw[hV2,endP,if_neg (by simp)];exact if_neg hc10
 refine Zad<|Zae<|wr'<|Vw (Zao lk gx Za0 rfl)<|mw<|E' (Zaj lk cv gx rfl (nb' rfl) rfl Za4 (hs0 hn)) ptn<|mw<|mw<|sn'<|Zaa<|Zah (rsn (rm1 (rr_c gt gx (ld1 Za0 rfl)) (rm1 (rr_t gt) (rm1 (rr_t gt) rm0))))<|rtW'<|?_
 rw[hP];exact Wk.tup (wk1 rfl (wk1 rfl (wk1 (ivx h0.symm) wk0)))
end Go.Proofs.YtlekejpogddndaaGreatDoor
end
section
namespace Go.Proofs.YtlekejpogddndaaGreatDoor
open Go.Ab Go.RowKit Civ
attribute [local simp] Zbw ZbM ZbG ZbL Zcv Zd3 Zeb Zb9
section
theorem ZkL {a0 a1 a2 c0 c1 c2:AV}{l:List AV}:setCells (a0::a1::a2::l) 0 [c0,c1,c2]=c0::c1::c2::l:=rfl
theorem ZkK {a0 a1 a2:AV}{l:List AV}:((a0::a1::a2::l).drop 0).take 3=[a0,a1,a2]:=rfl
end
def c63:AC:=(Sr [Oo 0 (.new 26 3 [(.sl 0 0 true []),(.sl 0 0 true []),(.sl 0 0 true [])])] (Sr [Oo 5 (.call (.func 130) [(.const (.string ⟨#[82,117,108,101,32,101,117,32,49,57,56,49,32,109,97,120,32,77,97,114,32,108,97,115,116,83,117,110,32,49,58,48,48,117,32,49,58,48,48,32,83,10,82,117,108,101,32,101,117,32,49,57,57,54,32,109,97,120,32,79,99,116,32,108,97,115,116,83,117,110,32,49,58,48,48,117,32,48,32,45,10,90,111,110,101,32,72,101,114,101,47,84,111,119,110,32,48,58,49,48,32,45,32,76,77,84,32,49,56,56,48,32,74,97,110,32,49,32,48,10,32,32,49,58,48,48,32,101,117,32,67,69,37,115,84,10,76,105,110,107,32,72,101,114,101,47,84,111,119,110,32,79,108,100,10]⟩))]),Mv 4 5,Ex 6 4 0,Ex 7 4 1,Ex 8 4 2,Oo 1 (.new 26 3 [(.sl 0 0 true []),(.sl 0 0 true []),(.sl 0 0 true [])]),⟨none,none,(.store 3 (.tmp 1) (.tmp 6))⟩,Mv 2 7,Mv 3 8] (Sr [Oo 9 (.load true 3 (.tmp 1)),⟨none,none,(.store 3 (.tmp 0) (.tmp 9))⟩] .ret)))
theorem k63:ZaE Tryz.prog 63=some ⟨c63,[(.cell 0 true 3)],10⟩:=by kernel_rfl
def txtS:Bs:=[82,117,108,101,32,101,117,32,49,57,56,49,32,109,97,120,32,77,97,114,32,108,97,115,116,83,117,110,32,49,58,48,48,117,32,49,58,48,48,32,83,10,82,117,108,101,32,101,117,32,49,57,57,54,32,109,97,120,32,79,99,116,32,108,97,115,116,83,117,110,32,49,58,48,48,117,32,48,32,45,10,90,111,110,101,32,72,101,114,101,47,84,111,119,110,32,48,58,49,48,32,45,32,76,77,84,32,49,56,56,48,32,74,97,110,32,49,32,48,10,32,32,49,58,48,48,32,101,117,32,67,69,37,115,84,10,76,105,110,107,32,72,101,114,101,47,84,111,119,110,32,79,108,100,10]
def nEu:ByteArray:=bA [101,117]
def nHt:ByteArray:=bA [72,101,114,101,47,84,111,119,110]
def nOld:ByteArray:=bA [79,108,100]
def rul0:List Rul:=[(nEu,1981,2100,3,(2,0,0),3600,3,3600,bA [83]),(nEu,1996,2100,10,(2,0,0),3600,3,0,bA [])]
def era0:Era:=(600,bA [],0,bA [76,77,84],false,((1880,1,1),0,2))
def era1:Era:=(3600,nEu,0,bA [67,69,37,115,84],true,((0,0,0),0,0))
def src0:Src:=(rul0,[(nHt,[era0,era1])],[(nHt,nOld)])
theorem prs0:ZbX (bA txtS)=(src0,0,0):=by kernel_rfl
theorem src0_ok:Zft src0:=by
 refine⟨fun r hr=>?_,fun z hz=>?_,fun l hl=>?_⟩
 ·simp only[src0,rul0,List.mem_cons,List.not_mem_nil,or_false] at hr
  rcases hr with rfl | rfl <;> exact⟨by decide,by decide⟩
 ·simp only[src0,List.mem_cons,List.not_mem_nil,or_false] at hz
  subst hz
  refine⟨by decide,fun x hx=>?_⟩
  simp only[List.mem_cons,List.not_mem_nil,or_false] at hx
  rcases hx with rfl | rfl <;> exact⟨by decide,by decide⟩
 simp only[src0,List.mem_cons,List.not_mem_nil,or_false] at hl
 subst hl;exact⟨by decide,by decide⟩
theorem rp_txt {h:AH}:Ac 130 [sv (bA txtS)] h (.tup [.agg (srcC src0),iv 0,iv 0]):=by
 have:=rparse_a (s:=bA txtS) (h:=h)
 rw[prs0] at this
 exact this
theorem parsed_a {h:AH}:Ac 63 [] h (.agg (srcC src0)):=by
 refine tI' k63 fun N hn hlt hlA hbd=>?_
 simp only[tb'] at hbd ⊢
 refine wr'<|E' (Za7 (hl0 hn) ha0) pt<|sn'<|wr'<|Zaf mp (rp_txt) pt<|mw<|Vw (Zbi lk gt)<|Vw (Zbi lk gt)<|Vw (Zbi lk gt)<|E' (Za7 (hl1 hn) ha1) pt<|E' (Zaj lk cv gx rfl (nb' rfl) rfl ZkL (hs1 hn)) ptn<|?_
 exact mw<|mw<|sn'<|wr'<|Vw (Zao lk gx ZkK rfl)<|E' (Zaj lk cv gx rfl (nb' rfl) rfl ZkL (hs0 hn)) ptn<|sn'<|Zaa<|Zah (rs1 (rr_c gt gx (ld1 ZkK rfl)))<|rT' rfl
def insT (t:Trn):List Trn→List Trn
 | []=>[t]
 | u::l=>if t.1≤u.1 then t::u::l else u::insT t l
def insS:List Trn→List Trn
 | []=>[]
 | t::l=>insT t (insS l)
theorem Zi8 (t:Trn) : ∀ l:List Trn,(insT t l).Perm (t::l)
 | []=>.refl _
 | u::l=>by
  rw[insT]
  split
  ·exact .refl _
  exact ((Zi8 t l).cons u).trans (List.Perm.swap t u l)
theorem Zm5 : ∀ l:List Trn,(insS l).Perm l
 | []=>.refl _
 | t::l=>(Zi8 t _).trans ((Zm5 l).cons t)
theorem Zp7 {t:Trn} : ∀ {l:List Trn},l.Pairwise (fun a b=>a.1≤b.1)→(insT t l).Pairwise fun a b=>a.1≤b.1
 | [],_=>by simp[insT]
 | u::l,h=>by
  rw[insT]
  rw[List.pairwise_cons] at h
  split
  ·rename_i hle
   refine List.pairwise_cons.2 ⟨fun x hx=>?_,List.pairwise_cons.2 h⟩
   rcases List.mem_cons.1 hx with rfl | hx
   ·exact hle
   have:=h.1 x hx;omega
  rename_i hle
  refine List.pairwise_cons.2 ⟨fun x hx=>?_,Zp7 h.2⟩
  rcases List.mem_cons.1 ((Zi8 t l).mem_iff.1 hx) with rfl | hx
  ·omega
  exact h.1 x hx
theorem Zp8 : ∀ l:List Trn,(insS l).Pairwise fun a b=>a.1≤b.1
 | []=>.nil
 | t::l=>Zp7 (Zp8 l)
def Zmn (l:List Rul) (nm:ByteArray) (sh:Int):List Tim×Int :=
 if ZdI l nm sh≠0 then ([],ZdI l nm sh) else if gapB (insS (Zbn l nm))=true then ([],4) else if 1000<(insS (Zbn l nm)).length then ([],2) else (outV sh 0 (insS (Zbn l nm)),0)
theorem ZsI (l:List Rul) (nm:ByteArray) (sh:Int):Zbe l nm sh=Zmn l nm sh:=by
 unfold Zmn
 by_cases h:ZdI l nm sh=0
 ·rw[if_neg (by simp[h]),Zln h (Zm5 _) (Zp8 _)]
 rw[if_pos h,Zes h]
theorem tim0_err:(Zmn rul0 nEu 3600).2=0:=by kernel_rfl
theorem chk0:ZbO src0=0:=by
 have h1:ZbU src0=0:=by kernel_rfl
 have h2:(Zci src0.2.1 src0.2.2).Nodup:=by decide
 have h3:Zfu src0=false:=by kernel_rfl
 have h4:Za3 (errX src0.1) (ZcT src0.2.1)=0:=by
  refine Zja fun y hy=>?_
  simp only[src0,ZcT,List.flatMap_cons,List.flatMap_nil,List.append_nil,List.mem_cons,List.not_mem_nil,or_false] at hy
  rcases hy with rfl | rfl
  ·rfl
  show (if nEu=⟨#[]⟩ then 0 else (Zbe rul0 nEu 3600).2)=0
  rw[ZsI,tim0_err];split <;> rfl
 have h5:(src0.2.1.any fun z=>!risL (ZaN z.2))=false:=by kernel_rfl
 unfold ZbO
 rw[if_neg (by simp[h1]),if_neg (by simpa using h2),if_neg (by simp[h3]),if_neg (by simp[h4]),if_neg (by simp[h5])]
end Go.Proofs.YtlekejpogddndaaGreatDoor
end
section
namespace Go.Proofs.YtlekejpogddndaaGreatDoor
open Go.Ab Go.RowKit Civ
attribute [local simp] Zbw ZbM ZbG ZbL Zcv Zd3 Zeb Zb9
theorem find0:ZcS src0 nOld=((nHt,[era0,era1]),0):=by
 unfold ZcS;rw[if_neg (by simp[chk0])];kernel_rfl
end Go.Proofs.YtlekejpogddndaaGreatDoor
end
section
namespace Go.Proofs.YtlekejpogddndaaGreatDoor
open Go.Ab Civ
def Ztw:List Chg:=cutV (eraG era0 tMin []) (endV era0)++eraG era1 (endV era0) (Zmn rul0 nEu 3600).1
theorem Ztv:Zbd rul0 tMin none [era0,era1]=Ztw:=by
 have e0:ZaP rul0 era0=[]:=if_pos (by decide)
 have e1:ZaP rul0 era1=(Zmn rul0 nEu 3600).1:=by
  unfold ZaP
  rw[if_neg (by decide),ZsI];rfl
 rw[Zbd,Zbd,e0,e1,if_neg (by decide)]
 unfold Ztw
 rw[show ZbY none tMin=tMin from rfl,show ZbY (some (endV era0)) tMin=endV era0 from by decide]
def tab0:Tab:=stV (inP Ztw)
theorem ZqG:tab0.1=(600,0,bA [76,77,84]):=by kernel_rfl
theorem ZpG:tab0.2.length=211:=by kernel_rfl
theorem tab0_ok1:locE tab0.1=0:=by kernel_rfl
theorem tab0_ok2:Zcm tab0.2=0:=by kernel_rfl
theorem table0:Zdp rul0 [era0,era1]=tab0:=by
 have:=Zmw (s:=src0) (z:=(nHt,[era0,era1])) chk0 (by simp[src0])
 have e:stV (inP (Zbd rul0 tMin none [era0,era1]))=Zdp rul0 [era0,era1]:=this
 rw[←e,Ztv];rfl
theorem of0:ofV src0 (nHt,[era0,era1])=(tab0,0):=by
 unfold ofV
 show tabR (Zdp rul0 [era0,era1])=_
 rw[table0]
 unfold tabR
 rw[if_neg (by rw[tab0_ok1];simp),if_neg (by rw[tab0_ok2];simp),if_neg (by rw[ZpG];decide)]
theorem comp0:Zf9 src0 nOld=(tab0,0):=by
 unfold Zf9
 rw[find0,if_neg (by simp),of0]
theorem chkT0:Zcj tab0=0:=by
 have h:=Zmr (rl:=rul0) (es:=[era0,era1]) (by
  have:=congrArg Prod.snd of0
  exact this)
 rwa [table0] at h
theorem Zmp:ZgJ ZgM 100=(7200,3600,⟨#[66]⟩):=by kernel_rfl
theorem Zmo:ZgJ ZgM 99=(3600,0,⟨#[65]⟩):=by kernel_rfl
theorem ZkG:Zcj ZgM=0:=by kernel_rfl
end Go.Proofs.YtlekejpogddndaaGreatDoor
end
section
namespace Go.Proofs.YtlekejpogddndaaGreatDoor
open Go.Ab Civ
attribute [local simp] Zbw ZbM ZbG ZbL Zb9 Zd3 Zcv
section
theorem ZeJ {a0 a1 a2 a3:AV}{l:List AV}:((a0::a1::a2::a3::l).drop 1).take 3=[a1,a2,a3]:=rfl
theorem ZhO {a0 a1 a2 c0 c1 c2:AV}{l:List AV}:setCells (a0::a1::a2::l) 0 [c0,c1,c2]=c0::c1::c2::l:=rfl
theorem ZdS {a0 a1 a2:AV}{l:List AV}:((a0::a1::a2::l).drop 0).take 3=[a0,a1,a2]:=rfl
theorem Zu5 {τ:Operand→AV}:Zau τ [] [(.v (.int .i64 0)),(.v (.int .i64 0)),(.v (.string ⟨#[]⟩)),(.sl 0 0 true [])]=some [(.v (.int .i64 0)),(.v (.int .i64 0)),(.v (.string ⟨#[]⟩)),(.sl 0 0 true [])]:=rfl
theorem Zk0 {a0 a1:AV}{l:List AV}:((a0::a1::l).drop 0).take 2=[a0,a1]:=rfl
theorem ZnD {a0 a1 a2 a3:AV}{l:List AV}:(a0::a1::a2::a3::l).take 4=[a0,a1,a2,a3]:=rfl
theorem ZcX {a0 a1 a2 a3 c0 c1 c2 c3:AV}{l:List AV}:setCells (a0::a1::a2::a3::l) 0 [c0,c1,c2,c3]=c0::c1::c2::c3::l:=rfl
theorem Zk1 {τ:Operand→AV}:Zau τ [] [(.v (.int .i64 0)),(.v (.int .i64 0)),(.v (.string ⟨#[]⟩)),(.sl 0 0 true [])]=some [(.v (.int .i64 0)),(.v (.int .i64 0)),(.v (.string ⟨#[]⟩)),(.sl 0 0 true [])]:=rfl
theorem ZcE {a0 a1 a2 a3:AV}{l:List AV}:((a0::a1::a2::a3::l).drop 0).take 4=[a0,a1,a2,a3]:=rfl
theorem ZrR {τ:Operand→AV}:Zau τ [] [(.v (.int .i64 0)),(.v (.int .i64 0)),(.v (.string ⟨#[]⟩)),(.sl 0 0 true [])]=some [(.v (.int .i64 0)),(.v (.int .i64 0)),(.v (.string ⟨#[]⟩)),(.sl 0 0 true [])]:=rfl
theorem Zpa {a0 b0:Int}{a1 b1:Int}{a2 b2:ByteArray}:Zbt [.int,.int,.str] [iv a0,iv a1,sv a2] [iv b0,iv b1,sv b2]=some (decide (a0=b0∧a1=b1∧a2=b2)):=by
 simp only[Zbt,Zd5,if_true,ZcL,Option.some.injEq]
 simp only[Bool.decide_and,Bool.and_true]
 try (congr 1 <;> simp)
 try rfl
theorem ZrQ {τ:Operand→AV}{y0 y1:Operand}{x0_0 x1_0 x1_1 x1_2:AV}(h0:Zav (τ y0)=some [x0_0]) (l0:[x0_0].all leaf=true) (h1:Zav (τ y1)=some [x1_0,x1_1,x1_2]) (l1:[x1_0,x1_1,x1_2].all leaf=true):Zau τ [(0,1,y0),(1,3,y1)] [(.v (.int .i64 0)),(.v (.int .i64 0)),(.v (.int .i64 0)),(.v (.string ⟨#[]⟩))]=some [x0_0,x1_0,x1_1,x1_2]:=by
 simp only[Zau,h0,l0,h1,l1]
 rfl
theorem ZrP {τ:Operand→AV}{y0:Operand}{x0_0 x0_1 x0_2 x0_3:AV}(h0:Zav (τ y0)=some [x0_0,x0_1,x0_2,x0_3]) (l0:[x0_0,x0_1,x0_2,x0_3].all leaf=true):Zau τ [(0,4,y0)] [(.v (.int .i64 0)),(.v (.int .i64 0)),(.v (.int .i64 0)),(.v (.string ⟨#[]⟩))]=some [x0_0,x0_1,x0_2,x0_3]:=by
 simp only[Zau,h0,l0]
 rfl
theorem Zu4 { e:Ent}:([]:AH)++[e]=[e]:=rfl
theorem ZrO {e0 e1 e2 e3 e4 e5 d0:Ent}:([e0,e1,e2,e3,e4,e5]:AH)++[d0]=[e0,e1,e2,e3,e4,e5,d0]:=rfl
theorem ZrM {a0 a1 a2 a3 c0:AV}{l:List AV}:setCells (a0::a1::a2::a3::l) 3 [c0]=a0::a1::a2::c0::l:=rfl
theorem ZrN {a0 a1 c0 c1:AV}{l:List AV}:setCells (a0::a1::l) 0 [c0,c1]=c0::c1::l:=rfl
theorem Zjv {τ:Operand→AV}:Zau τ [] [(.v (.int .i64 0)),(.v (.int .i64 0)),(.v (.string ⟨#[]⟩)),(.sl 0 0 true [])]=some [(.v (.int .i64 0)),(.v (.int .i64 0)),(.v (.string ⟨#[]⟩)),(.sl 0 0 true [])]:=rfl
end
def c78:AC:=(Sr [Oo 2 (.box 26 3 (.tmp 0)),Oo 3 (.box 53 2 (.tmp 1)),Oo 4 (.new 40 4 [(iv 0),(iv 0),Ss,(.sl 0 0 true [])]),Mc 5 0] (Sr [Oo 10 (.build [(iv 0),(iv 0),Ss,(.sl 0 0 true [])] []),Oo 11 (.box 198 4 (.tmp 10)),Mv 6 11] (.seq (Sd [Oo 12 (.load true 3 (.tmp 2)),Oo 13 (.load true 2 (.tmp 3)),Cl 14 67 [],Cl 15 69 [(.tmp 12),(.tmp 13),(.tmp 14)],Oo 16 (.len false (.tmp 15)),Mc 17 0] (.block 0 (.loop (Sr [Bn 18 .lss 17 16] (.seq (Cd 18 .skip (.exit 0)) (.seq (.block 1 (Sr [Mv 19 17,Oo 20 (.ia 4 (.tmp 15) (.tmp 17)),Oo 21 (.load true 4 (.tmp 20)),Oo 8 (.new 121 4 [(iv 0),(iv 0),(iv 0),Ss]),Mv 7 19,⟨none,none,(.store 4 (.tmp 8) (.tmp 21))⟩] (.seq (Sd [Fa 22 0 8,Ld 23 22,Cl 24 68 [],Bn 25 .gtr 23 24] (Cd 25 (.exit 0) .skip)) (.seq (Sr [Fa 26 1 8,Oo 27 (.load true 3 (.tmp 26)),Cl 28 77 [(.tmp 27)],Mv 9 28] (Sr [Mv 29 9,Bc 30 .neq 29 0] (Cd 30 (Sr [Oo 31 (.build [(iv 0),(iv 0),Ss,(.sl 0 0 true [])] []),Mv 32 9,⟨none,none,(.store 4 (.tmp 4) (.tmp 31))⟩,Mv 5 32] .ret) .skip))) (.block 2 (Sr [Mv 34 7,Bc 35 .eql 34 0,Mv 33 35] (Cd 33 (.reg [Mv 36 6,Fa 37 1 8,Oo 38 (.load true 3 (.tmp 37)),Nk 39 36,Fa 40 0 39,Fa 41 0 40,⟨none,none,(.store 3 (.tmp 41) (.tmp 38))⟩]) (.seq (.orPan (.drw [Fa 43 1 8,Oo 44 (.loadR true 3 (.tmp 43)),Mv 45 6] [true,false,false] [Cl 46 147 [(.tmp 45)],Oo 47 (.eqs true [.int,.int,.str] (.tmp 44) (.tmp 46)),Mv 42 47]) (.tmp 45) 147 [Fa 43 1 8,Oo 44 (.load true 3 (.tmp 43)),Mv 45 6,Mv 46 45,Mb 47 false,Mb 42 false] 46) (Cd 42 (.drw [Mv 48 6,Mv 49 6,Nk 50 49,Fa 51 0 50,Fa 52 3 51,Ld 53 52,Fa 54 0 8,Ld 55 54,Fa 56 1 8,Oo 57 (.load true 3 (.tmp 56)),Oo 58 (.build [(iv 0),(iv 0),(iv 0),Ss] [(0,(1,(.tmp 55))),(1,(3,(.tmp 57)))]),Oo 59 (.lit 68 4 1 [(iv 0),(iv 0),(iv 0),Ss] [(0,(4,(.tmp 58)))])] [false,false,false,false,false] [Oo 60 (.app 68 4 40 (.tmp 53) (.tmp 59)),Nk 61 48,Fa 62 0 61,Fa 63 3 62,Sc 63 60]) .skip))))))))) (.reg [Bc 64 .add 17 1,Mv 17 64]))))))) (.seq (Sr [Mv 65 6,Nk 66 65,Fa 67 0 66,Fa 68 3 67,Ld 69 68,Oo 70 (.len false (.tmp 69)),Bc 71 .gtr 70 1000] (Cd 71 (Sr [Oo 72 (.build [(iv 0),(iv 0),Ss,(.sl 0 0 true [])] []),⟨none,none,(.store 4 (.tmp 4) (.tmp 72))⟩,Mc 5 2] .ret) .skip)) (Sr [Mv 73 6,Nk 74 73,Fa 75 0 74,Oo 76 (.load true 4 (.tmp 75)),⟨none,none,(.store 4 (.tmp 4) (.tmp 76))⟩,Mc 5 0] .ret)))))
theorem k78:ZaE Tryz.prog 78=some ⟨c78,[(.cell 4 true 4),(.tmp 5)],77⟩:=by kernel_rfl
def c24:AC:=(Sr [Oo 2 (.box 26 3 (.tmp 0)),Oo 4 (.new 40 4 [(iv 0),(iv 0),Ss,(.sl 0 0 true [])]),Mc 5 0] (Sr [Oo 9 (.load true 3 (.tmp 2)),Mv 10 1,Cl 11 30 [(.tmp 9),(.tmp 10)],Mv 8 11,Ex 12 8 0,Ex 13 8 1,Oo 6 (.new 53 2 [Ss,(.sl 0 0 true [])]),⟨none,none,(.store 2 (.tmp 6) (.tmp 12))⟩,Mv 7 13] (.seq (Sr [Mv 14 7,Bc 15 .neq 14 0] (Cd 15 (Sr [Oo 16 (.build [(iv 0),(iv 0),Ss,(.sl 0 0 true [])] []),Mv 17 7,⟨none,none,(.store 4 (.tmp 4) (.tmp 16))⟩,Mv 5 17] .ret) .skip)) (Sr [Oo 18 (.load true 3 (.tmp 2)),Oo 19 (.load true 2 (.tmp 6)),Cl 20 78 [(.tmp 18),(.tmp 19)],Ex 21 20 0,Ex 22 20 1,⟨none,none,(.store 4 (.tmp 4) (.tmp 21))⟩,Mv 5 22] .ret))))
theorem k24:ZaE Tryz.prog 24=some ⟨c24,[(.cell 4 true 4),(.tmp 5)],23⟩:=by kernel_rfl
theorem last_eq : ∀ (F:Loc) (l:List Chg),ZeV F l=Zm4 F l
 | F,[]=>rfl
 | F,c::l=>by
  rw[Zg0 (l:=c::l) (by simp)]
  unfold ZeV
  rw[List.getLast?_eq_getElem?,List.getElem?_eq_getElem (by simp)]
  rfl
theorem ZtW {ps:List Chg}{i:Nat}(hi:i<ps.length) (h1 : ∀ c∈ps.take i,c.1≤tMax) (h2:ps[i].1≤tMax) (h3:Zcm (ps.take i)=0) (h4:locE ps[i].2≠0):Zcm (inP ps)=locE ps[i].2:=by
 have e:inP ps=(ps.take i++[ps[i]])++inP (ps.drop (i+1)):=by
  conv=>lhs;rw[←List.take_append_drop i ps]
  unfold inP
  rw[List.takeWhile_append_of_pos (fun c hc=>by have:=h1 c hc;simpa using this),List.drop_eq_getElem_cons hi,List.takeWhile_cons,if_pos (by simpa using h2),List.append_assoc]
  rfl
 have h5:=ZgZ (c:=ps[i]) h3
 rw[e,Zi5 (by rw[h5];exact h4),h5]
theorem mlast_o {F:Loc}{l:List Chg}{id q v0 ver ty ty2:Nat}{h:AH}(h1:h[id]?=some (.mk v0 ty 4 [iv F.1,iv F.2.1,sv F.2.2,.own q ver l.length])) (h2:h[q]?=some (.mk ver ty2 4 (rows chgC l))) (hl:l.length≤9223372036854775807) :
  Ac 147 [.ptr id v0 0] h (.agg [iv (ZeV F l).1,iv (ZeV F l).2.1,sv (ZeV F l).2.2]):=by
 have hid:id<h.length:=(List.getElem?_eq_some_iff.1 h1).1
 rw[last_eq]
 refine tI' k147 fun N hn hlt hlA hbd=>?_
 simp only[tb'] at hbd ⊢
 refine wr'<|E' (Za7 (hl0 hn) ha0) pt<|sn'<|Zag<|wr'<|mw<|Vw (ZbE lk)<|Vw (Zac lk)<|Vw (Zac lk)<|Vw (Zab lk (Zfc h1) gt3)<|Vw (Zb7 lk)<|?_
 refine mw<|sn'<|wr'<|mw<|Vw (Zbz lk lki)<|sn'<|?_
 refine cd' lk (fun hc1=>?_) (fun hc1=>?_)
 ·have hl0:0<l.length:=by omega
  refine wr'<|mw<|Vw (ZbE lk)<|Vw (Zac lk)<|Vw (Zac lk)<|Vw (Zab lk (Zfc h1) gt3)<|mw<|?_
  refine V' (Zbm lk lki om om) pt ?_
  refine V' (Zbq (k:=l.length-1) lk lk (Zfc h2) Zcn (nb' rfl) ro om (by first | rfl | (simp;done) | omega)) pt ?_
  refine V' (Zbl lk) pt ?_
  refine V' (v_ldOFA lk (Zfc h2) Zcn om (nb' rfl) ZeJ rfl) pt ?_
  refine E' (Zaj lk cv gx rfl (nb' rfl) rfl ZhO (hs0 hn)) ptn<|sn'<|Zaa<|Zai<|Zah (rs1 (rr_c gt gx (ld1 ZdS rfl)))<|rT'<|?_
  rw[Zg0 hl0]
 have hl0:l=[]:=List.eq_nil_of_length_eq_zero om
 refine Zad<|Zae<|wr'<|mw<|Vw (ZbE lk)<|Vw (Zac lk)<|Vw (Zac lk)<|Vw (Zao lk (Zfc h1) ZdS rfl)<|E' (Zaj lk cv gx rfl (nb' rfl) rfl ZhO (hs0 hn)) ptn<|sn'<|Zaa<|Zah (rs1 (rr_c gt gx (ld1 ZdS rfl)))<|?_
 refine rT' ?_
 subst hl0;rfl
theorem mlast_r {F:Loc}{l:List Chg}{id q v0 ver ty ty2:Nat}{h:AH}(h1:h[id]?=some (.mk v0 ty 4 [iv F.1,iv F.2.1,sv F.2.2,.own q ver l.length])) (h2:h[q]?=some (.mk ver ty2 4 (rows chgC l))) (hl:l.length≤9223372036854775807) :
  ACalls Tryz.prog 147 [.ptr id v0 0] h fun x h'=>x=.ret (.agg [iv (ZeV F l).1,iv (ZeV F l).2.1,sv (ZeV F l).2.2])∧h'=h:=(mlast_o h1 h2 hl).mono fun _ _ e=>⟨e.2,e.1⟩
theorem ZmW (fm lt:ByteArray) (sa:Int):(Zf7 fm lt sa).size≤2*fm.size+lt.size:=by
 unfold Zf7
 have h1:=Zit (s:=fm) (p:=[47])
 have h2:=Zit (s:=fm) (p:=[37,115])
 have e:(aB lt).length=lt.size:=rfl
 split
 ·split <;> (rw[ZdG];omega)
 split
 ·rw[ZdG,List.length_append,List.length_append,e];omega
 omega
theorem ZmN {rl:List Rul}{f:Int} : ∀ (es:List Era) (prev:Option Int),(Zbd rl f prev es).length≤1001*es.length
 | [],_=>by simp[Zbd]
 | [x],prev=>by
  have h1:=Zg3 (x:=x) (b:=ZbY prev f) (ZaP rl x)
  have h2:=ZcV (rl:=rl) (x:=x)
  rw[Zbd,List.length_singleton];omega
 | x::y::es,prev=>by
  have h1:=Zg3 (x:=x) (b:=ZbY prev f) (ZaP rl x)
  have h2:=ZcV (rl:=rl) (x:=x)
  have h3:=Zql (eraG x (ZbY prev f) (ZaP rl x)) (endV x)
  have h4:=ZmN (rl:=rl) (f:=f) (y::es) (some (endV x))
  rw[Zbd,List.length_append,List.length_cons]
  split
  ·rw[List.length_nil];omega
  omega
theorem ZoE {rl:List Rul}{x:Era}{b:Int}(hx:Zbx (xFm x)=true) : ∀ c∈eraG x b (ZaP rl x),c.2.2.2.size≤72:=by
 have hf:=Zgp hx
 intro c hc
 rcases List.mem_cons.1 hc with rfl | hc
 ·have key : ∀ (l:List Tim) (sa:Int) (lt:ByteArray),(∀ t∈l,t.2.2.size≤24)→lt.size≤24→(Zc1 sa lt l b).2.size≤24:=by
   intro l
   induction l with
   | nil=>intro _ _ _ h;exact h
   | cons t l ih =>
    intro sa lt hl h
    rw[Zc1]
    split
    ·exact ih _ _ (fun u hu=>hl u (by simp[hu])) (hl t (by simp))
    exact ih _ _ (fun u hu=>hl u (by simp[hu])) h
  have:=key (ZaP rl x) (xSv x) ⟨#[]⟩ (fun t ht=>(ZfM ht).2.2) (by decide)
  have h2:=ZmW (xFm x) (Zc1 (xSv x) ⟨#[]⟩ (ZaP rl x) b).2 (Zc1 (xSv x) ⟨#[]⟩ (ZaP rl x) b).1
  show (Zf7 _ _ _).size≤72
  omega
 obtain⟨t,ht,rfl⟩:=List.mem_map.1 hc
 have h3:=(ZfM (List.mem_filter.1 ht).1).2.2
 have h2:=ZmW (xFm x) t.2.2 t.2.1
 show (Zf7 _ _ _).size≤72
 omega
theorem ZpP {rl:List Rul}{f:Int} : ∀ {es:List Era}{prev:Option Int},(∀ x∈es,Zbx (xFm x)=true) → ∀ c∈Zbd rl f prev es,c.2.2.2.size≤72
 | [],_,_,c,h=>by cases h
 | [x],prev,hx,c,h=>ZoE (hx x (by simp)) c h
 | x::y::es,prev,hx,c,h=>by
  rw[Zbd] at h
  rcases List.mem_append.1 h with h | h
  ·split at h
   ·cases h
   exact ZoE (hx x (by simp)) c ((List.takeWhile_sublist _).subset h)
  exact ZpP (fun z hz=>hx z (by simp[hz])) c h
def ofP (a:List Rul) (es:List Era):Tab×Int:=tabR (stV (inP (Zbd a tMin none es)))
theorem ZfL {e:AV}:Wk (.tup [.agg [.v (.int .i64 0),.v (.int .i64 0),.v (.string ⟨#[]⟩),.sl 0 0 true []],e]) (.tup [tabA Zi2,e]):=Wk.tup (wkw (Wk.agg (wk1 rfl (wk1 rfl (wk1 rfl (wkw Wk.nilF wk0))))) (wk1 rfl wk0))
theorem tof_a {a:List Rul}{z:List Zon}{k:List Lnk}{nm:ByteArray}{es:List Era}{h:AH}(hok:okRs a) (ha:a.length≤9223372036854775807) (hz:okZ es) (hne:inP (Zbd a tMin none es)≠[]) :
  Ac 78 [.agg (srcB a z k),.agg [sv nm,.sl es.length 10 false (rows eraC es)]] h (.tup [tabA (ofP a es).1,iv (ofP a es).2]):=by
 have hlen:=hz.len
 have hpl:=ZmN (rl:=a) (f:=tMin) es none
 have hps:=ZpP (rl:=a) (f:=tMin) (prev:=none) (es:=es) (fun x hx=>(hz.fm x hx).1)
 have hO:ofP a es=_:=tabR_st (.inr hne)
 have hparts : ∀ h:AH,ACalls Tryz.prog 69 [.agg (srcB a z k),.agg [sv nm,.sl es.length 10 false (rows eraC es)],iv tMin] h fun y h'=>h'=h∧y=.ret (.sl (Zbd a tMin none es).length 4 false (rows chgC (Zbd a tMin none es))):=fun h=>parts_a hok ha hz (by decide)
 generalize Zbd a tMin none es=ps at hpl hps hne hO hparts
 refine tW' k78 fun N hn hlt hlA hbd=>?_
 simp only[tb'] at hbd ⊢
 refine wr'<|E' (Zbc cv rfl (hl0 hn) ha0) pt<|E' (Zbc cv rfl (hl1 hn) ha1) pt<|E' (Za7 (hl2 hn) ha2) pt<|mw<|sn'<|wr'<|Vw (Zaw Zu5)<|E' (Zbc cv rfl (hl3 hn) ha3) pt<|mw<|Zaq<|?_
 refine Zae<|Zag<|Zag<|Za2<|Dw (Zao lk gx ZdS rfl)<|Dw (Zao lk gx Zk0 rfl)<|?_
 refine ZaV mp0 (fun hE hX=>Zop) pt ?_
 refine ZaV mp (fun hE hX=>hparts _) pt ?_
 refine Dw (ZaG lk)<|Dw (v_mv lki)<|Za8<|?_
 refine Zby ?_
 refine Zaq ?_
 refine Za1 (ALe.own0Cell (st':=4) (ty:=68) gx gt3 (hl4 hn) pt3 (Eq.trans (congrArg (fun z=>List.set z _ _) ha4) (hs3 hn))) ?_
 refine Zam ?_
 refine w_lp (ι:=Nat×Nat) (fun (x_:Nat×Nat)=>match x_ with | ⟨i,v⟩=>[(17,iv (i:Int)),(5,.any)]++rn' 7 3++rn' 18 47) (fun (x_:Nat×Nat)=>match x_ with | ⟨i,v⟩=>[(3,.mk 0 198 4 [iv (stV (ps.take i)).1.1,iv (stV (ps.take i)).1.2.1,sv (stV (ps.take i)).1.2.2,.own (N+4) v (stV (ps.take i)).2.length]),(4,.mk v 68 4 (rows chgC (stV (ps.take i)).2))]) (fun (x_:Nat×Nat)=>match x_ with | ⟨i,v⟩=>i≤ps.length∧(∀ c∈ps.take i,c.1≤tMax)∧Zcm (ps.take i)=0) (fun (x_:Nat×Nat)=>match x_ with | ⟨i,v⟩=>ps.length-i) (⟨0,0⟩) (by exact⟨Nat.zero_le _,⟨fun c hc=>(by cases hc),rfl⟩⟩) ?_
 rintro⟨i,v⟩ hi1
 try simp only[sm',Nat.reduceAdd]
 obtain⟨hi1,hi2,hi3⟩:=hi1
 refine wr'<|Vw (ZaZ lk lk)<|sn'<|Zag<|?_
 refine cd' lk (fun hc1=>?_) (fun hc1=>?_)
 ·have hi:i<ps.length:=by omega
  have hsz:=hps _ (List.getElem_mem hi)
  have hsl:=ZsT (ps.take i)
  rw[List.length_take] at hsl
  have htk:=List.take_succ_eq_append_getElem hi
  refine Zad<|Zae<|Zag<|Zam<|wr'<|mw<|?_
  refine V' (ZaJ lk lk Zcn (nb' rfl) ro om ro rfl) pt ?_
  refine Vw (ZaF lk ZnD rfl)<|E' (Za7 (hl5 hn) ha5) pt<|mw<|E' (Zaj lk cv gx rfl (nb' rfl) rfl ZcX (hs5 hn)) ptn<|sn'<|Zag<|Zag<|Za2<|Dw (Zac lk)<|Dw (Zab lk gx gt0)<|?_
  refine ZaV mp0 (fun hE hX=>most_a) pt ?_
  refine Dw (Zbz lk lk)<|Za8<|?_
  refine Zby ?_
  refine sn' ?_
  refine cd' lk (fun hc2=>?_) (fun hc2=>?_)
  ·have hP:inP ps=ps.take i:=Zp9 hi2 (fun hh=>by simp only[tMax];omega)
   refine ZaD<|Zay<|x_pas (Nat.ne_of_beq_eq_false rfl)<|Zay<|Zay<|ZaU<|Zae<|Zag<|wr'<|mw<|Vw (ZbE lk)<|Vw (Zac lk)<|Vw (Zac lk)<|?_
   refine Vw (Zab lk gx gt3)<|Vw (Zb7 lk)<|Vw (Zbz lk lki)<|sn'<|?_
   refine cd' lk (fun hc6=>?_) (fun hc6=>?_)
   ·rw[hP,hi3,if_neg (by simp),if_pos om] at hO
    refine wr'<|Vw (Zaw Zk1)<|E' (Zaj lk cv gx rfl (nb' rfl) rfl ZcX (hs2 hn)) ptn<|mw<|sn'<|Zaa<|Zai<|Zah (rsn (rm1 (rr_c gt gx (ld1 ZcE rfl)) (rm1 (rr_t gt) rm0)))<|rtW'<|?_
    rw[hO];exact ZfL
   rw[hP,hi3,if_neg (by simp),if_neg om] at hO
   refine Zad ?_
   refine Za1 (ALe.iceCellR gx gx om gt3 (List.take_of_length_le (by rw[Zcs];exact Nat.le_refl _)) (by rw[Zcs];exact Nat.le_refl _) pt3 (hs4 hn) (hs3 hn)) ?_
   refine wr'<|mw<|Vw (ZbE lk)<|Vw (Zac lk)<|Vw (Zao lk gx ZcE rfl)<|E' (Zaj lk cv gx rfl (nb' rfl) rfl ZcX (hs2 hn)) ptn<|mw<|sn'<|Zaa<|Zah (rsn (rm1 (rr_c gt gx (ld1 ZcE rfl)) (rm1 (rr_t gt) rm0)))<|rtW'<|?_
   rw[hO];exact Wk.tup (wkw (Wk.agg (wk1 rfl (wk1 rfl (wk1 rfl (wkw Wk.full wk0))))) (wk1 rfl wk0))
  refine Zad<|Zae<|Zag<|wr'<|Vw (Zac lk)<|Vw (Zao lk gx ZeJ rfl)<|?_
  refine Zaf mp (Zok (by simp only[maxLen];omega)) pt ?_
  refine mw<|sn'<|wr'<|mw<|Vw (Za9 lk lki)<|sn'<|?_
  refine cd' lk (fun hc3=>?_) (fun hc3=>?_)
  ·have hlE:locE ps[i].2≠0:=hc3
   have hE:=ZtW hi hi2 (by simp only[tMax];omega) hi3 hlE
   rw[hE,if_pos hlE] at hO
   refine wr'<|Vw (Zaw ZrR)<|mw<|E' (Zaj lk cv gx rfl (nb' rfl) rfl ZcX (hs2 hn)) ptn<|mw<|sn'<|Zaa<|Zai<|Zas<|Zai<|Zai<|Zas<|?_
   refine Zai<|Zah (rsn (rm1 (rr_c gt gx (ld1 ZcE rfl)) (rm1 (rr_t gt) rm0)))<|rtW'<|?_
   rw[hO];exact ZfL
  have hlE:locE ps[i].2=0:=Decidable.of_not_not hc3
  have hlE2:Zcm (ps.take (i+1))=0:=by rw[htk,ZgZ hi3];exact hlE
  have hle2 : ∀ c∈ps.take (i+1),c.1≤tMax:=fun c hc=>by rw[htk] at hc;rcases List.mem_append.1 hc with hc | hc;exact hi2 c hc;simp only[List.mem_singleton] at hc;subst hc;simp only[tMax];omega
  refine Zad<|Zae<|Zam<|wr'<|mw<|Vw (ZaX lk lki)<|mw<|sn'<|?_
  refine cd' lk (fun hc4=>?_) (fun hc4=>?_)
  ·obtain rfl:i=0:=by omega
   have hS:stV (ps.take (0+1))=(ps[0].2,[]):=by rw[htk];rfl
   refine Zat<|mw<|Vw (Zac lk)<|Vw (Zao lk gx ZeJ rfl)<|Vw (ZbE lk)<|Vw (Zac lk)<|Vw (Zac lk)<|E' (Zaj lk cv gx rfl (nb' rfl) rfl ZhO (hs3 hn)) ptn<|Zaq<|ZaA<|ZaA<|Zae<|Zat<|?_
   refine V' (Zax lk lki om om) pt ?_
   refine mw<|Zaq<|ZaB<|?_
   refine lU' (⟨0+1,v⟩) (by (try dsimp only);exact⟨by omega,hle2,hlE2⟩) (by (try dsimp only);(try simp only[sm',Nat.reduceAdd]);exact bk' 5 hn hlt (by rw[hS];rfl) (hT:=by simp[AV.lt,AV.ltL,Ent.lt]) (hE:=by simp[AV.lt,AV.ltL,Ent.lt]))
  have hnt:ps.take i≠[]:=List.ne_nil_of_length_pos (by rw[List.length_take];omega)
  have hS:=stV_snoc (c:=ps[i]) hnt
  rw[←htk] at hS
  refine Zag<|w_orl<|Zpr [N+5]<|Dw (Zac lk)<|?_
  refine d_ldP lk gx (ld1 ZeJ rfl) (by simp) pt ?_
  refine Dw vm<|Za8<|Zor<|?_
  refine k_call mp (mlast_r (F:=(stV (ps.take i)).1) (l:=(stV (ps.take i)).2) gx gx om) (by intro i hi;simp only[cond_true,List.mem_cons,List.not_mem_nil,or_false] at hi;subst hi;first | rfl | exact (hga hn rfl).trans (hga hn rfl).symm) pt ?_
  refine Zq4 rfl (Zix lk lk Zpa) pt<|Zq4 rfl vm pt<|Zt4<|Zae<|?_
  refine cd' lk (fun hc5=>?_) (fun hc5=>?_)
  ·have hne5:¬ps[i].2=ZeV (stV (ps.take i)).1 (stV (ps.take i)).2:=fun e=>hc5 (by rw[e];exact⟨rfl,rfl,rfl⟩)
   rw[if_neg hne5] at hS
   refine Za2<|Dw vm<|Dw vm<|Dw (ZbE lk)<|Dw (Zac lk)<|Dw (Zac lk)<|Dw (Zab lk gx gt3)<|Dw (Zac lk)<|Dw (Zab lk gx gt0)<|Dw (Zac lk)<|Dw (Zao lk gx ZeJ rfl)<|Dw (Zaw (ZrQ cv rfl cv rfl))<|Zep rfl rfl (hlk hn rfl) (Zh9 (ZrP cv rfl)) pt Zu4<|Za8<|?_
   refine Zez ZrO ?_
   refine E' (Zce (ZbF lk gx rfl ZnD (nb' rfl)) lk gx (Zcs _) om rfl (hs4 hn)) pt ?_
   refine Vw (ZbE lk)<|Vw (Zac lk)<|Vw (Zac lk)<|E' (Zaj lk cv gx rfl (nb' rfl) rfl ZrM (hs3 hn)) ptn<|Zaq<|ZaA<|ZaA<|Zae<|Zat<|?_
   refine V' (Zax lk lki om om) pt ?_
   refine mw<|Zaq<|ZaB<|?_
   refine lU' (⟨i+1,v+1⟩) (by (try dsimp only);exact⟨by omega,hle2,hlE2⟩) (by (try dsimp only);(try simp only[sm',Nat.reduceAdd]);exact bk' 5 hn hlt (by rw[hS,List.length_append,ZaO,Za5];rfl) (hT:=by simp[AV.lt,AV.ltL,Ent.lt]) (hE:=by simp[AV.lt,AV.ltL,Ent.lt]))
  have hne5:ps[i].2=ZeV (stV (ps.take i)).1 (stV (ps.take i)).2:=by obtain⟨x1,x2,x3⟩:=Decidable.of_not_not hc5;exact Prod.ext x1 (Prod.ext x2 x3)
  rw[if_pos hne5,List.append_nil] at hS
  refine Zad<|ZaA<|ZaA<|Zae<|Zat<|?_
  refine V' (Zax lk lki om om) pt ?_
  refine mw<|Zaq<|ZaB<|?_
  refine lU' (⟨i+1,v⟩) (by (try dsimp only);exact⟨by omega,hle2,hlE2⟩) (by (try dsimp only);(try simp only[sm',Nat.reduceAdd]);exact bk' 5 hn hlt (by rw[hS];rfl) (hT:=by simp[AV.lt,AV.ltL,Ent.lt]) (hE:=by simp[AV.lt,AV.ltL,Ent.lt]))
 have hP:inP ps=ps.take i:=Zp9 hi2 (fun hh=>absurd hh om)
 have hsl:=ZsT (ps.take i)
 rw[List.length_take] at hsl
 refine ZaD<|Zay<|Zay<|ZaU<|Zae<|Zag<|wr'<|mw<|Vw (ZbE lk)<|Vw (Zac lk)<|Vw (Zac lk)<|Vw (Zab lk gx gt3)<|Vw (Zb7 lk)<|?_
 refine Vw (Zbz lk lki)<|sn'<|?_
 refine cd' lk (fun hc6=>?_) (fun hc6=>?_)
 ·rw[hP,hi3,if_neg (by simp),if_pos om] at hO
  refine wr'<|Vw (Zaw Zk1)<|E' (Zaj lk cv gx rfl (nb' rfl) rfl ZcX (hs2 hn)) ptn<|mw<|sn'<|Zaa<|Zai<|Zah (rsn (rm1 (rr_c gt gx (ld1 ZcE rfl)) (rm1 (rr_t gt) rm0)))<|rtW'<|?_
  rw[hO];exact ZfL
 rw[hP,hi3,if_neg (by simp),if_neg om] at hO
 refine Zad ?_
 refine Za1 (ALe.iceCellR gx gx om gt3 (List.take_of_length_le (by rw[Zcs];exact Nat.le_refl _)) (by rw[Zcs];exact Nat.le_refl _) pt3 (hs4 hn) (hs3 hn)) ?_
 refine wr'<|mw<|Vw (ZbE lk)<|Vw (Zac lk)<|Vw (Zao lk gx ZcE rfl)<|E' (Zaj lk cv gx rfl (nb' rfl) rfl ZcX (hs2 hn)) ptn<|mw<|sn'<|Zaa<|Zah (rsn (rm1 (rr_c gt gx (ld1 ZcE rfl)) (rm1 (rr_t gt) rm0)))<|rtW'<|?_
 rw[hO];exact Wk.tup (wkw (Wk.agg (wk1 rfl (wk1 rfl (wk1 rfl (wkw Wk.full wk0))))) (wk1 rfl wk0))
theorem comp_a {a:List Rul}{z:List Zon}{k:List Lnk}{nm:ByteArray}{h:AH}(hok:Zft (a,z,k)) :
  Ac 24 [.agg (srcB a z k),sv nm] h (.tup [tabA (Zf9 (a,z,k) nm).1,iv (Zf9 (a,z,k) nm).2]):=by
 refine tW' k24 fun N hn hlt hlA hbd=>?_
 simp only[tb'] at hbd ⊢
 refine wr'<|E' (Zbc cv rfl (hl0 hn) ha0) pt<|E' (Za7 (hl1 hn) ha1) pt<|mw<|sn'<|wr'<|Vw (Zao lk gx ZdS rfl)<|mw<|Zaf mp (zfind_a hok) pt<|mw<|Vw (Zbi lk gt)<|?_
 refine Vw (Zbi lk gt)<|E' (Za7 (hl2 hn) ha2) pt<|E' (Zaj lk cv gx rfl (nb' rfl) rfl ZrN (hs2 hn)) ptn<|mw<|sn'<|Zag<|wr'<|mw<|Vw (Za9 lk lki)<|sn'<|?_
 refine cd' lk (fun hc1=>?_) (fun hc1=>?_)
 ·have hF:Zf9 (a,z,k) nm=(Zi2,(ZcS (a,z,k) nm).2):=if_pos hc1
  refine wr'<|Vw (Zaw Zjv)<|mw<|E' (Zaj lk cv gx rfl (nb' rfl) rfl ZcX (hs1 hn)) ptn<|mw<|sn'<|Zaa<|Zai<|Zah (rsn (rm1 (rr_c gt gx (ld1 ZcE rfl)) (rm1 (rr_t gt) rm0)))<|rtW'<|?_
  rw[hF];exact ZfL
 have hf0:(ZcS (a,z,k) nm).2=0:=Decidable.of_not_not hc1
 obtain⟨hz0,hm,_⟩:=Zuj hf0
 have hE:=Ziv hz0
 have hal:=(Zdv hE).1
 simp only at hal
 obtain⟨⟨pl,hpl⟩,_⟩:=ZpQ hz0 hm tMin
 have hne:inP (Zbd a tMin none (ZcS (a,z,k) nm).1.2)≠[]:=by rw[show Zbd a tMin none (ZcS (a,z,k) nm).1.2=_ from hpl];unfold inP;rw[List.takeWhile_cons,if_pos (decide_eq_true (by show tMin≤tMax;decide))];simp
 have hF:Zf9 (a,z,k) nm=ofP a (ZcS (a,z,k) nm).1.2:=by unfold Zf9;rw[if_neg hc1];unfold ofV ofP;rw[←Zmw hz0 hm]
 refine Zad<|Zae<|wr'<|Vw (Zao lk gx ZdS rfl)<|Vw (Zao lk gx Zk0 rfl)<|?_
 refine Zaf mp (tof_a (ZlG hok) om (ZeA hE hm) hne) pt ?_
 refine Vw (Zbi lk gt)<|Vw (Zbi lk gt)<|E' (Zaj lk cv gx rfl (nb' rfl) rfl ZcX (hs1 hn)) ptn<|mw<|sn'<|Zaa<|Zah (rsn (rm1 (rr_c gt gx (ld1 ZcE rfl)) (rm1 (rr_t gt) rm0)))<|rtW'<|?_
 rw[hF];exact Wk.refl _
end Go.Proofs.YtlekejpogddndaaGreatDoor
end
section
namespace Go.Proofs.YtlekejpogddndaaGreatDoor
open Go.Ab Go.RowKit Civ
attribute [local simp] Zbw ZbM ZbG ZbL Zcv Zd3 Zeb tms_lt
section
theorem Zcr {a0 a1 a2:AV}{l:List AV}:((a0::a1::a2::l).drop 0).take 3=[a0,a1,a2]:=rfl
theorem ZrJ {a0 a1:AV}{l:List AV}:((a0::a1::l).drop 0).take 2=[a0,a1]:=rfl
theorem ZeG {a0 a1 a2 a3 c0 c1 c2 c3:AV}{l:List AV}:setCells (a0::a1::a2::a3::l) 0 [c0,c1,c2,c3]=c0::c1::c2::c3::l:=rfl
theorem Zju {τ:Operand→AV}{y0:Operand}{x0_0:AV}(h0:Zav (τ y0)=some [x0_0]) (l0:[x0_0].all leaf=true):Zau τ [(0,1,y0)] [(.v (.int .i64 0))]=some [x0_0]:=by
 simp only[Zau,h0,l0]
 rfl
theorem Zu3 {a0:AV}{l:List AV}:(a0::l).take 1=[a0]:=rfl
theorem ZdR {a0 a1 a2 a3:AV}{l:List AV}:((a0::a1::a2::a3::l).drop 0).take 4=[a0,a1,a2,a3]:=rfl
theorem Zjt {τ:Operand→AV}{y0:Operand}{x0_0 x0_1 x0_2:AV}(h0:Zav (τ y0)=some [x0_0,x0_1,x0_2]) (l0:[x0_0,x0_1,x0_2].all leaf=true):Zau τ [(0,3,y0)] [(.v (.int .i64 0)),(.v (.int .i64 0)),(.v (.string ⟨#[]⟩)),(.sl 0 0 true [])]=some [x0_0,x0_1,x0_2,(.sl 0 0 true [])]:=by
 simp only[Zau,h0,l0]
 rfl
theorem Zhm { e:Ent}:([]:AH)++[e]=[e]:=rfl
theorem ZrL {e0 e1 e2 e3 e4 d0:Ent}:([e0,e1,e2,e3,e4]:AH)++[d0]=[e0,e1,e2,e3,e4,d0]:=rfl
theorem ZfZ {a0 a1 a2 c0 c1 c2:AV}{l:List AV}:setCells (a0::a1::a2::l) 0 [c0,c1,c2]=c0::c1::c2::l:=rfl
theorem ZrK {e0 e1 e2 e3 e4 e5 e6 e7 d0:Ent}:([e0,e1,e2,e3,e4,e5,e6,e7]:AH)++[d0]=[e0,e1,e2,e3,e4,e5,e6,e7,d0]:=rfl
theorem Zo8 {a0 b0:Int}{a1 b1:Int}{a2 b2:ByteArray}:Zbt [.int,.int,.str] [iv a0,iv a1,sv a2] [iv b0,iv b1,sv b2]=some (decide (a0=b0∧a1=b1∧a2=b2)):=by
 simp only[Zbt,Zd5,if_true,ZcL,Option.some.injEq]
 simp only[Bool.decide_and,Bool.and_true]
 try (congr 1 <;> simp)
 try rfl
theorem Zfh {τ:Operand→AV}{y0 y1:Operand}{x0_0 x1_0 x1_1 x1_2:AV}(h0:Zav (τ y0)=some [x0_0]) (l0:[x0_0].all leaf=true) (h1:Zav (τ y1)=some [x1_0,x1_1,x1_2]) (l1:[x1_0,x1_1,x1_2].all leaf=true):Zau τ [(0,1,y0),(1,3,y1)] [(.v (.int .i64 0)),(.v (.int .i64 0)),(.v (.int .i64 0)),(.v (.string ⟨#[]⟩))]=some [x0_0,x1_0,x1_1,x1_2]:=by
 simp only[Zau,h0,l0,h1,l1]
 rfl
theorem Zfg {τ:Operand→AV}{y0:Operand}{x0_0 x0_1 x0_2 x0_3:AV}(h0:Zav (τ y0)=some [x0_0,x0_1,x0_2,x0_3]) (l0:[x0_0,x0_1,x0_2,x0_3].all leaf=true):Zau τ [(0,4,y0)] [(.v (.int .i64 0)),(.v (.int .i64 0)),(.v (.int .i64 0)),(.v (.string ⟨#[]⟩))]=some [x0_0,x0_1,x0_2,x0_3]:=by
 simp only[Zau,h0,l0]
 rfl
theorem ZkX {e0 e1 e2 e3 e4 e5 e6 e7 e8 d0:Ent}:([e0,e1,e2,e3,e4,e5,e6,e7,e8]:AH)++[d0]=[e0,e1,e2,e3,e4,e5,e6,e7,e8,d0]:=rfl
theorem Zny {a0 a1 a2 a3:AV}{l:List AV}:(a0::a1::a2::a3::l).take 4=[a0,a1,a2,a3]:=rfl
theorem ZkW {a0 a1 a2 a3 c0:AV}{l:List AV}:setCells (a0::a1::a2::a3::l) 3 [c0]=a0::a1::a2::c0::l:=rfl
theorem Zff {τ:Operand→AV}:Zau τ [] [(.v (.int .i64 0)),(.v (.int .i64 0)),(.v (.string ⟨#[]⟩)),(.sl 0 0 true [])]=some [(.v (.int .i64 0)),(.v (.int .i64 0)),(.v (.string ⟨#[]⟩)),(.sl 0 0 true [])]:=rfl
end
def c27:AC:=(Sr [Oo 2 (.box 26 3 (.tmp 0)),Oo 3 (.box 53 2 (.tmp 1)),Oo 4 (.new 40 4 [(iv 0),(iv 0),Ss,(.sl 0 0 true [])]),Mc 5 0] (Sr [Oo 17 (.load true 3 (.tmp 2)),Oo 18 (.load true 2 (.tmp 3)),Cl 19 83 [(.tmp 17),(.tmp 18)],Oo 6 (.new 133 4 [Ss,(.sl 0 0 true []),(.sl 0 0 true []),(.sl 0 0 true [])]),⟨none,none,(.store 4 (.tmp 6) (.tmp 19))⟩] (Sr [Oo 7 (.mv (.const (.slice none 0 0)))] (.seq (Sr [Mc 8 0] (.block 0 (.loop (.seq (Sr [Mv 20 8,Fa 21 3 6,Ld 22 21,Oo 23 (.len false (.tmp 22)),Bn 24 .lss 20 23] (Cd 24 .skip (.exit 0))) (.seq (.block 1 (Sr [Mc 9 0] (.block 2 (.loop (.seq (Sr [Mv 27 9,Fa 28 3 6,Ld 29 28,Mv 30 8,Oo 31 (.ia 1 (.tmp 29) (.tmp 30)),Ld 32 31,Oo 33 (.len false (.tmp 32)),Bn 34 .lss 27 33] (Cd 34 .skip (.exit 2))) (.seq (.block 3 (.reg [Mv 37 7,Fa 38 3 6,Ld 39 38,Mv 40 8,Oo 41 (.ia 1 (.tmp 39) (.tmp 40)),Ld 42 41,Mv 43 9,Oo 44 (.ia 3 (.tmp 42) (.tmp 43)),Fa 45 0 44,Ld 46 45,Oo 47 (.lit 3 1 1 [(iv 0)] [(0,(1,(.tmp 46)))]),Oo 48 (.app 3 1 8 (.tmp 37) (.tmp 47)),Mv 7 48])) (.reg [Mv 35 9,Bc 36 .add 35 1,Mv 9 36]))))))) (.reg [Mv 25 8,Bc 26 .add 25 1,Mv 8 26])))))) (Sr [Mv 49 7,Fa 50 2 6,Ld 51 50,Oo 52 (.app 3 1 8 (.tmp 49) (.tmp 51)),Mv 7 52] (.seq (Sr [Mc 10 1] (.block 4 (.loop (.seq (Sr [Mv 53 10,Mv 54 7,Oo 55 (.len false (.tmp 54)),Bn 56 .lss 53 55] (Cd 56 .skip (.exit 4))) (.seq (.block 5 (Sr [Mv 59 10,Mv 11 59] (.block 6 (.loop (.seq (Sd [Mv 60 11,Bc 61 .gtr 60 0,Mv 62 61,Ot 63 62 (mt 7),Ot 64 62 (mt 11),Ot 65 62 (.ia 1 (.tmp 63) (.tmp 64)),Ot 66 62 (.load false 1 (.tmp 65)),Ot 67 62 (mt 7),Ot 68 62 (mt 11),Ot 69 62 (.bin .sub (.tmp 68) (Ci 1)),Ot 70 62 (.ia 1 (.tmp 67) (.tmp 69)),Ot 71 62 (.load false 1 (.tmp 70)),Ot 72 62 (.bin .lss (.tmp 66) (.tmp 71)),Oo 73 (.pick (.tmp 62) (.tmp 72) (.const (.bool false)))] (Cd 73 .skip (.exit 6))) (.seq (.block 7 (.drw [Mv 76 7,Mv 77 11,Mv 78 7,Mv 79 11,Bc 80 .sub 79 1,Mv 81 7,Mv 82 11,Bc 83 .sub 82 1,Oo 84 (.ia 1 (.tmp 81) (.tmp 83)),Ld 85 84,Mv 86 7,Mv 87 11,Oo 88 (.ia 1 (.tmp 86) (.tmp 87)),Ld 89 88,Oo 90 (.ia 1 (.tmp 76) (.tmp 77))] [false,false,false] [Sc 90 85,Oo 91 (.ia 1 (.tmp 78) (.tmp 80)),Sc 91 89])) (.reg [Mv 74 11,Bc 75 .sub 74 1,Mv 11 75]))))))) (.reg [Mv 57 10,Bc 58 .add 57 1,Mv 10 58])))))) (.seq (.drw [Oo 92 (.load true 4 (.tmp 6)),Cl 93 19 [],Cl 94 84 [(.tmp 92),(.tmp 93)],Oo 95 (.build [(iv 0),(iv 0),Ss,(.sl 0 0 true [])] [(0,(3,(.tmp 94)))]),Oo 12 (.new 40 4 [(iv 0),(iv 0),Ss,(.sl 0 0 true [])])] [false] [⟨none,none,(.store 4 (.tmp 12) (.tmp 95))⟩]) (Sr [Fa 96 0 12,Oo 97 (.load true 3 (.tmp 96)),Oo 13 (.new 29 3 [(iv 0),(iv 0),Ss]),⟨none,none,(.store 3 (.tmp 13) (.tmp 97))⟩] (Sr [Oo 98 (.load true 3 (.tmp 13)),Cl 99 72 [(.tmp 98)],Mv 14 99] (.seq (Sr [Mc 15 0] (.block 8 (.loop (.seq (Sr [Mv 100 15,Mv 101 7,Oo 102 (.len false (.tmp 101)),Bn 103 .lss 100 102] (Cd 103 .skip (.exit 8))) (.seq (.block 9 (.seq (Sd [Mv 106 7,Mv 107 15,Oo 108 (.ia 1 (.tmp 106) (.tmp 107)),Ld 109 108,Cl 110 19 [],Bn 111 .leq 109 110,Mv 112 111,Of 113 112 (mt 7),Of 114 112 (mt 15),Of 115 112 (.ia 1 (.tmp 113) (.tmp 114)),Of 116 112 (.load false 1 (.tmp 115)),Of 117 112 (.call (.func 20) []),Of 118 112 (.bin .gtr (.tmp 116) (.tmp 117)),Oo 119 (.pick (.tmp 112) (.const (.bool true)) (.tmp 118))] (Cd 119 (.exit 9) .skip)) (.seq (.drw [Oo 120 (.load true 4 (.tmp 6)),Mv 121 7,Mv 122 15,Oo 123 (.ia 1 (.tmp 121) (.tmp 122)),Ld 124 123,Cl 125 84 [(.tmp 120),(.tmp 124)],Oo 16 (.new 29 3 [(iv 0),(iv 0),Ss])] [false] [⟨none,none,(.store 3 (.tmp 16) (.tmp 125))⟩]) (.seq (Sr [Oo 126 (.load true 3 (.tmp 16)),Oo 127 (.load true 3 (.tmp 13)),Oo 128 (.eqs false [.int,.int,.str] (.tmp 126) (.tmp 127))] (Cd 128 (.exit 9) .skip)) (.seq (Sr [Mv 129 14,Bc 130 .eql 129 0] (Cd 130 (.reg [Oo 131 (.load true 3 (.tmp 16)),Cl 132 72 [(.tmp 131)],Mv 14 132]) .skip)) (.seq (.drw [Fa 133 3 12,Ld 134 133,Mv 135 7,Mv 136 15,Oo 137 (.ia 1 (.tmp 135) (.tmp 136)),Ld 138 137,Oo 139 (.load true 3 (.tmp 16)),Oo 140 (.build [(iv 0),(iv 0),(iv 0),Ss] [(0,(1,(.tmp 138))),(1,(3,(.tmp 139)))]),Oo 141 (.lit 68 4 1 [(iv 0),(iv 0),(iv 0),Ss] [(0,(4,(.tmp 140)))])] [false,false,false] [Oo 142 (.app 68 4 40 (.tmp 134) (.tmp 141)),Fa 143 3 12,Sc 143 142]) (.reg [Oo 144 (.load true 3 (.tmp 16)),⟨none,none,(.store 3 (.tmp 13) (.tmp 144))⟩]))))))) (.reg [Mv 104 15,Bc 105 .add 104 1,Mv 15 105])))))) (.seq (Sr [Mv 145 14,Bc 146 .eql 145 0,Mv 147 146,Ot 148 147 (.fa 3 (.tmp 12)),Ot 149 147 (.load false 1 (.tmp 148)),Ot 150 147 (.len false (.tmp 149)),Ot 151 147 (.bin .gtr (.tmp 150) (Ci 1000)),Oo 152 (.pick (.tmp 147) (.tmp 151) (.const (.bool false)))] (Cd 152 (.reg [Mc 14 2]) .skip)) (.seq (Sr [Mv 153 14,Bc 154 .neq 153 0] (Cd 154 (Sr [Oo 155 (.build [(iv 0),(iv 0),Ss,(.sl 0 0 true [])] []),Mv 156 14,⟨none,none,(.store 4 (.tmp 4) (.tmp 155))⟩,Mv 5 156] .ret) .skip)) (Sr [Oo 157 (.load true 4 (.tmp 12)),⟨none,none,(.store 4 (.tmp 4) (.tmp 157))⟩,Mc 5 0] .ret)))))))))))))
theorem k27:ZaE Tryz.prog 27=some ⟨c27,[(.cell 4 true 4),(.tmp 5)],158⟩:=by kernel_rfl
theorem Zqi {rl:List Rul}{x:Era}{b:Int}(hx:Zbx (xFm x)=true):(Zf8 rl x b).2.2.size≤72 :=
 ZoE (rl:=rl) (b:=b) hx (b,Zf8 rl x b) List.mem_cons_self
theorem ZsE {rl:List Rul}{n:Int} : ∀ {es:List Era},(∀ x∈es,Zbx (xFm x)=true)→(Zbf rl es n).2.2.size≤72
 | [],_=>by show (0:Nat)≤72;omega
 | [x],h=>Zqi (h x (by simp))
 | x::y::es,h=>by
  rw[Zbf]
  split
  ·exact ZsE fun z hz=>h z (by simp[hz])
  exact Zqi (h x (by simp))
def Zn4 (a:List Rul) (es:List Era):List Int:=es.flatMap fun x=>(ZaP a x).map (·.1)
theorem Zmy (a:List Rul) : ∀ es:List Era,(Zn4 a es).length=cntV a es
 | []=>rfl
 | x::es=>by unfold Zn4;rw[List.flatMap_cons,List.length_append,List.length_map,cntV];exact congrArg _ (Zmy a es)
theorem ZqL (a:List Rul) (es:List Era) (x:Era):Zn4 a (es++[x])=Zn4 a es++(ZaP a x).map (·.1):=by
 unfold Zn4;rw[List.flatMap_append,List.flatMap_cons,List.flatMap_nil,List.append_nil]
theorem inT_no1 {x:Int}(h:x≤tMin):inT x=false:=decide_eq_false om
theorem inT_no2 {x:Int}(h:tMax<x):inT x=false:=decide_eq_false om
theorem inT_yes {x:Int}(h1:¬x≤tMin) (h2:¬tMax<x):inT x=true:=decide_eq_true om
theorem take1_pw {r:Int→Int→Prop}(l:List Int):(l.take 1).Pairwise r:=by cases l <;> simp
theorem leI_tot (a b:Int):a≤b∨b≤a:=by omega
theorem leI_tr (a b c:Int):a≤b→b≤c→a≤c:=by omega
theorem ZqO {a:List Rul}{z:List Zon}{k:List Lnk}{nm:ByteArray}{es:List Era}{h:AH}(hok:okRs a) (ha:a.length≤9223372036854775807) (hz:okZ es) :
  Ac 27 [.agg (srcB a z k),.agg [sv nm,.sl es.length 10 false (rows eraC es)]] h (.tup [tabA (tabR (Zdp a es)).1,iv (tabR (Zdp a es)).2]):=by
 have hlen:=hz.len
 have hel:=Zc9 es
 have htsz : ∀ n,(Zbf a es n).2.2.size≤maxLen:=fun n=>by have:=ZsE (rl:=a) (n:=n) (es:=es) (fun x hx=>(hz.fm x hx).1);simp only[maxLen];omega
 refine tW' k27 fun N hn hlt hlA hbd=>?_
 simp only[tb'] at hbd ⊢
 refine wr'<|E' (Zbc cv rfl (hl0 hn) ha0) pt<|E' (Zbc cv rfl (hl1 hn) ha1) pt<|E' (Za7 (hl2 hn) ha2) pt<|mw<|sn'<|wr'<|Vw (Zao lk gx Zcr rfl)<|Vw (Zao lk gx ZrJ rfl)<|Zaf mp (rtell_a hok ha hz) pt<|E' (Za7 (hl3 hn) ha3) pt<|?_
 refine E' (Zaj lk6 (cvl lk19 rfl) gx rfl (nb' rfl) rfl ZeG (hs3 hn)) ptn<|sn'<|wr'<|mv' lkn pt7<|Zaq<|Za1 (ALe.own0' (st':=1) (ty:=3) gt7 (hl4 hn) pt7 ha4)<|Zag<|wr'<|mv' lki pt8<|sn'<|?_
 refine Zam ?_
 refine w_lp (ι:=Nat×List Int×Nat) (fun (x_:Nat×List Int×Nat)=>match x_ with | ⟨kk,L,v⟩=>[(7,.own (N+4) v L.length),(8,iv (kk:Int)),(9,.any)]++rn' 20 29) (fun (x_:Nat×List Int×Nat)=>match x_ with | ⟨kk,L,v⟩=>[(4,.mk v 3 1 (rows intC L))]) (fun (x_:Nat×List Int×Nat)=>match x_ with | ⟨kk,L,v⟩=>kk≤es.length∧L=Zn4 a (es.take kk)) (fun (x_:Nat×List Int×Nat)=>match x_ with | ⟨kk,L,v⟩=>es.length-kk) (⟨0,[],0⟩) (by exact⟨Nat.zero_le _,rfl⟩) ?_
 rintro⟨kk,L,v⟩ hi1
 try simp only[sm',Nat.reduceAdd]
 obtain⟨hk1,hk2⟩:=hi1
 have hL1:=Zmy a (es.take kk)
 have hL2:=ZoM a (es.take kk)
 rw[List.length_take] at hL2
 rw[←hk2] at hL1
 refine Zag<|wr'<|mw<|Vw (Zac lk)<|Vw (Zab lk gx gt3)<|Vw (ZaG lk)<|Vw (ZaZ lk lk)<|sn'<|?_
 refine cd' lk (fun hc1=>?_) (fun hc1=>?_)
 ·have hk:kk<es.length:=by omega
  have htl:=ZcV (rl:=a) (x:=es[kk])
  refine Zad<|Zae<|Zag<|Zam<|wr'<|mw<|sn'<|Zam<|?_
  refine w_lp (ι:=Nat×List Int×Nat) (fun (x_:Nat×List Int×Nat)=>match x_ with | ⟨j,M,w⟩=>[(7,.own (N+4) w M.length),(9,iv (j:Int))]++rn' 27 22) (fun (x_:Nat×List Int×Nat)=>match x_ with | ⟨j,M,w⟩=>[(4,.mk w 3 1 (rows intC M))]) (fun (x_:Nat×List Int×Nat)=>match x_ with | ⟨j,M,w⟩=>j≤(ZaP a es[kk]).length∧M=L++((ZaP a es[kk]).take j).map (·.1)) (fun (x_:Nat×List Int×Nat)=>match x_ with | ⟨j,M,w⟩=>(ZaP a es[kk]).length-j) (⟨0,L,v⟩) (by exact⟨Nat.zero_le _,by simp⟩) ?_
  rintro⟨j,M,w⟩ hi2
  try simp only[sm',Nat.reduceAdd]
  obtain⟨hj1,hj2⟩:=hi2
  have hM1:M.length=L.length+j:=by rw[hj2,List.length_append,List.length_map,List.length_take];omega
  refine Zag<|wr'<|mw<|Vw (Zac lk)<|Vw (Zab lk gx gt3)<|mw<|?_
  refine V' (ZaJ lk lk ZeM (nb' rfl) ro om ro rfl) pt ?_
  refine Vw (Zar lk gt)<|Vw (ZaG lk)<|Vw (ZaZ lk lk)<|sn'<|?_
  refine cd' lk (fun hc2=>?_) (fun hc2=>?_)
  ·have hj:j<(ZaP a es[kk]).length:=by omega
   refine Zad<|Zae<|Zag<|Zam<|Zat<|mw<|Vw (Zac lk)<|Vw (Zab lk gx gt3)<|mw<|?_
   refine V' (ZaJ lk lk ZeM (nb' rfl) ro om ro rfl) pt ?_
   refine Vw (Zar lk gt)<|mw<|?_
   refine V' (ZaJ lk lk ZdJ (nb' rfl) ro om ro rfl) pt ?_
   refine Vw (ZaR lk dp0)<|Vw (Zar lk gt)<|E' (Zda (Zju cv rfl) (hl5 hn) ha5) pt<|?_
   refine E' (Zce (ZbF lk gx rfl Zu3 (nb' rfl)) lk gx (Zen _) om rfl (hs4 hn)) pt ?_
   refine mw<|Zaq<|ZaA<|Zae<|Zat<|mw<|?_
   refine V' (Zax lk lki om om) pt ?_
   refine mw<|Zaq<|ZaB<|?_
   refine lU' (⟨j+1,M++[(ZaP a es[kk])[j].1],w+1⟩) (by (try dsimp only);exact⟨by omega,by rw[List.take_succ_eq_append_getElem hj,List.map_append,←List.append_assoc,←hj2];rfl⟩) (by (try dsimp only);(try simp only[sm',Nat.reduceAdd]);exact bkE' 5 hn hlt (by repeat (first | exact wk0 | refine wka ?_ | refine wk1 rfl ?_ | refine wk1 (by first | rfl | exact ivx om | (rw[List.length_append];rfl)) ?_)) (by rw[ZaO,Za5];rfl) (hT:=by simp[AV.lt,AV.ltL,Ent.lt]) (hE:=by simp[AV.lt,AV.ltL,Ent.lt]))
  refine ZaD<|Zay<|Zay<|ZaU<|ZaA<|Zae<|Zat<|mw<|?_
  refine V' (Zax lk lki om om) pt ?_
  refine mw<|Zaq<|ZaB<|?_
  refine lT' (⟨kk+1,M,w⟩) (by (try dsimp only);exact⟨by omega,by rw[hj2,List.take_of_length_le (show (ZaP a es[kk]).length≤j by omega),List.take_succ_eq_append_getElem hk,ZqL,←hk2]⟩)
 have hL3:L=Zn4 a es:=by rw[hk2,List.take_of_length_le om]
 refine ZaD<|Zay<|Zay<|ZaU<|Zae<|wr'<|mw<|Vw (Zac lk)<|Vw (Zab lk gx gt2)<|?_
 refine E' (Zce (sc_sl lk (Zen _)) lk gx (Zen _) om (int_leaf _) (hs4 hn)) pt ?_
 refine mw<|sn'<|Zag<|wr'<|mw<|sn'<|Zam<|?_
 refine Zeq (ι:=Nat×List Int×Nat) (fun (x_:Nat×List Int×Nat)=>match x_ with | ⟨i,M,w⟩=>[(7,.own (N+4) w M.length),(10,iv (i:Int)),(11,.any)]++rn' 53 39) (fun (x_:Nat×List Int×Nat)=>match x_ with | ⟨i,M,w⟩=>[(4,.mk w 3 1 (rows intC M))]) (fun (x_:Nat×List Int×Nat)=>match x_ with | ⟨i,M,w⟩=>1≤i∧M.Perm (Zec a es)∧(M.take i).Pairwise (· ≤ ·)) (fun (x_:Nat×List Int×Nat)=>match x_ with | ⟨i,M,w⟩=>(Zec a es).length+1-i) (⟨1,L++ZaN es,v+1⟩) (by exact⟨Nat.le_refl _,(by rw[hL3];exact List.Perm.refl _),take1_pw _⟩) (by try simp only[sm',Nat.reduceAdd];exact ALe.same (by repeat (first | exact wk0 | refine wka ?_ | refine wk1 rfl ?_ | refine wk1 (by first | rfl | exact ivx om | (rw[List.length_append])) ?_)) (by first | (rw[ZaO];done) | (rw[ZaO];rfl))) ?_
 rintro⟨i,M,w⟩ hi3
 try simp only[sm',Nat.reduceAdd]
 obtain⟨hm1,hm2,hm3⟩:=hi3
 have hML:=hm2.length_eq
 have hsl:=ZsU a es
 have hcl:=ZoM a es
 refine Zag<|wr'<|mw<|mw<|Vw (Zb7 lk)<|Vw (ZaZ lk lk)<|sn'<|?_
 refine cd' lk (fun hc3=>?_) (fun hc3=>?_)
 ·have hi:i<M.length:=by omega
  refine Zad<|Zae<|Zag<|Zam<|wr'<|mw<|mw<|sn'<|Zam<|?_
  refine w_lp (ι:=Nat×List Int) (fun (x_:Nat×List Int)=>match x_ with | ⟨q,K⟩=>[(7,.own (N+4) w K.length),(11,iv (q:Int))]++rn' 60 32) (fun (x_:Nat×List Int)=>match x_ with | ⟨q,K⟩=>[(4,.mk w 3 1 (rows intC K))]) (fun (x_:Nat×List Int)=>match x_ with | ⟨q,K⟩=>q≤i∧K.Perm M∧insR (· ≤ ·) i q K) (fun (x_:Nat×List Int)=>match x_ with | ⟨q,K⟩=>q) (⟨i,M⟩) (by exact⟨Nat.le_refl _,List.Perm.refl _,Zkr hi hm3⟩) ?_
  rintro⟨q,K⟩ hi4
  try simp only[sm',Nat.reduceAdd]
  obtain⟨hq1,hq2,hq3⟩:=hi4
  have hKL:=hq2.length_eq
  refine Zag<|Zag<|Za2<|Dw vm<|Dw (Zbz lk lki)<|Dw vm<|?_
  refine dq' (t:=62) gt pt pt (fun hg62=>?_) (fun hg62=>?_)
  ·obtain⟨j,rfl⟩ : ∃ j,q=j+1:=⟨q-1,by omega⟩
   have hz3:j+1<K.length:=by omega
   refine d_do gt<|Dw vm<|d_do gt<|Dw vm<|d_do gt<|?_
   refine D' (Zbq (k:=j+1) lk lk gx Za6 (nb' rfl) ro om (by first | rfl | (simp;done) | omega)) pt ?_
   refine d_do gt ?_
   refine D' (ZdU lk gx Za6 om rfl) pt ?_
   refine d_do gt<|Dw vm<|d_do gt<|Dw vm<|d_do gt<|?_
   refine D' (Zbm lk lki om om) pt ?_
   refine d_do gt ?_
   refine D' (Zbq (k:=j) lk lk gx Za6 (nb' rfl) ro om (by first | rfl | (simp;done) | omega)) pt ?_
   refine d_do gt ?_
   refine D' (ZdU lk gx Za6 om rfl) pt ?_
   refine d_do gt<|Dw (ZaZ lk lk)<|Dw (Zal lk lk)<|Za8<|?_
   refine Zby ?_
   refine sn' ?_
   refine cd' lk (fun hc4=>?_) (fun hc4=>?_)
   ·have hz6:¬K[j]≤K[j+1]:=by omega
    obtain⟨hz4,hz5⟩:=Zm6 leI_tot hq3 hz3 hz6
    refine Zad<|Zae<|Zag<|Zam<|Za2<|Dw vm<|Dw vm<|Dw vm<|Dw vm<|?_
    refine D' (Zbm lk lki om om) pt ?_
    refine Dw vm<|Dw vm<|?_
    refine D' (Zbm lk lki om om) pt ?_
    refine D' (Zbq (k:=j) lk lk gx Za6 (nb' rfl) ro om (by first | rfl | (simp;done) | omega)) pt ?_
    refine D' (ZdU lk gx Za6 om rfl) pt ?_
    refine Dw vm<|Dw vm<|?_
    refine D' (Zbq (k:=j+1) lk lk gx Za6 (nb' rfl) ro om (by first | rfl | (simp;done) | omega)) pt ?_
    refine D' (ZdU lk gx Za6 om rfl) pt ?_
    refine D' (Zbq (k:=j+1) lk lk gx Za6 (nb' rfl) ro om (by first | rfl | (simp;done) | omega)) pt ?_
    refine Za8 ?_
    refine Zby ?_
    refine E' (Znf (z:=K[j]) lk cv gx Za6 rfl om (hs4 hn)) ptn ?_
    refine V' (Zbq (k:=j) lk lk gx Za6 (nb' rfl) (by first | rfl | first | omega | (rw[List.length_set];omega)) (by first | omega | (rw[List.length_set];omega)) (by first | rfl | (simp;done) | first | omega | (rw[List.length_set];omega))) pt ?_
    refine E' (Znf (z:=K[j+1]) lk cv gx Za6 rfl (by first | omega | (rw[List.length_set];omega)) (hs4 hn)) ptn ?_
    refine Zaq<|ZaA<|Zae<|Zat<|mw<|?_
    refine V' (Zbm lk lki om om) pt ?_
    refine mw<|Zaq<|ZaB<|?_
    refine lU' (⟨j,(K.set (j+1) K[j]).set j K[j+1]⟩) (by (try dsimp only);exact⟨by omega,hz5.trans hq2,hz4⟩) (by (try dsimp only);(try simp only[sm',Nat.reduceAdd]);exact ALe.same (by repeat (first | exact wk0 | refine wka ?_ | refine wk1 rfl ?_ | refine wk1 (by first | rfl | exact ivx om | (simp;done)) ?_)) rfl)
   have hz7:K[j]≤K[j+1]:=by omega
   have hz6:=Zkp leI_tr hq3 hz3 hz7
   refine ZaD<|Zay<|Zay<|ZaU<|ZaA<|Zae<|Zat<|mw<|?_
   refine V' (Zax lk lki om om) pt ?_
   refine mw<|Zaq<|ZaB<|?_
   refine lT' (⟨i+1,K,w⟩) (by (try dsimp only);exact⟨by omega,hq2.trans hm2,hz6⟩)
  obtain rfl:q=0:=by omega
  have hz6:=Zkq hq3
  refine d_no gt pt<|d_no gt pt<|d_no gt pt<|d_no gt pt<|d_no gt pt<|d_no gt pt<|d_no gt pt<|d_no gt pt<|d_no gt pt<|d_no gt pt<|Dw (Zak lk lkb)<|Za8<|?_
  refine Zby ?_
  refine sn'<|ZaT lk<|ZaD<|Zay<|Zay<|ZaU<|ZaA<|Zae<|Zat<|mw<|?_
  refine V' (Zax lk lki om om) pt ?_
  refine mw<|Zaq<|ZaB<|?_
  refine lT' (⟨i+1,K,w⟩) (by (try dsimp only);exact⟨by omega,hq2.trans hm2,hz6⟩)
 rw[List.take_of_length_le om] at hm3
 have hTab:=Ztj (rl:=a) (es:=es) hm2 hm3
 have hTR:=ZsN (Zfk (Zbf a es) M)
 rw[hTab] at hTR
 have hT1:(Zdp a es).1=Zbf a es tMin:=by rw[←hTab];rfl
 have hT2:(Zdp a es).2=chgs (Zbf a es) M:=by rw[←hTab];rfl
 rw[hT1,hT2] at hTR
 refine ZaD<|Zay<|Zay<|ZaU<|Zae<|Zag<|Za2<|Dw (Zao lk gx ZdR rfl)<|?_
 refine ZaV mp0 (fun hE hX=>Zj9) pt ?_
 refine ZaV mp (fun hE hX=>Ztc hz) pt ?_
 refine Dw (Zaw (Zjt cv rfl))<|Zep rfl rfl (hlk hn rfl) (Zoq) pt Zhm<|Za8<|?_
 refine Zez ZrL ?_
 refine E' (Zaj lk cv gx rfl (nb' rfl) rfl ZeG (hs5 hn)) ptn<|sn'<|wr'<|Vw (Zac lk)<|Vw (Zao lk gx Zcr rfl)<|E' (Za7 (hl6 hn) ha6) pt<|E' (Zaj lk cv gx rfl (nb' rfl) rfl ZfZ (hs6 hn)) ptn<|sn'<|wr'<|Vw (Zao lk gx Zcr rfl)<|?_
 refine Zaf mp (ZgV (htsz _)) pt<|mw<|sn'<|Zag<|wr'<|mw<|Zaq<|?_
 refine Za1 (ALe.own0Cell (st':=4) (ty:=68) gx gt3 (hl7 hn) pt3 (Eq.trans (congrArg (fun z=>List.set z _ _) ha7) (hs5 hn))) ?_
 refine Zam ?_
 refine Zeq (ι:=Nat×Nat) (fun (x_:Nat×Nat)=>match x_ with | ⟨i5,v5⟩=>[(14,iv (rbad (Zbf a es tMin) (chgs (Zbf a es) (M.take i5)))),(15,iv (i5:Int)),(16,.any)]++rn' 100 45) (fun (x_:Nat×Nat)=>match x_ with | ⟨i5,v5⟩=>[(5,.mk 0 40 4 [iv (Zbf a es tMin).1,iv (Zbf a es tMin).2.1,sv (Zbf a es tMin).2.2,.own (N+7) v5 (chgs (Zbf a es) (M.take i5)).length]),(6,.mk 0 29 3 (locC3 (ZeV (Zbf a es tMin) (chgs (Zbf a es) (M.take i5))))),(7,.mk v5 68 4 (rows chgC (chgs (Zbf a es) (M.take i5))))]) (fun (x_:Nat×Nat)=>match x_ with | ⟨i5,v5⟩=>i5≤M.length) (fun (x_:Nat×Nat)=>match x_ with | ⟨i5,v5⟩=>M.length-i5) (⟨0,0⟩) (by exact Nat.zero_le _) (by try simp only[sm',Nat.reduceAdd];exact ALe.same (by repeat (first | exact wk0 | refine wka ?_ | refine wk1 rfl ?_ | refine wk1 (by first | rfl | exact ivx (ZpL _).symm | exact ivx (by rw[List.take_zero,chgs_nil,ZpL])) ?_)) rfl) ?_
 rintro⟨i5,v5⟩ hi5
 try simp only[sm',Nat.reduceAdd]
 replace hi5:i5≤M.length:=hi5
 have hcL:=chgs_len (g:=Zbf a es) (M.take i5)
 rw[List.length_take] at hcL
 refine Zag<|wr'<|mw<|mw<|Vw (Zb7 lk)<|Vw (ZaZ lk lk)<|sn'<|?_
 refine cd' lk (fun hc5=>?_) (fun hc5=>?_)
 ·have hi:i5<M.length:=by omega
  have htk:=List.take_succ_eq_append_getElem hi
  refine Zad<|Zae<|Zag<|Zam<|Zag<|Zag<|Za2<|Dw vm<|Dw vm<|?_
  refine D' (Zbq lk lk gx Za6 (nb' rfl) ro om (by first | rfl | (simp;done) | omega)) pt ?_
  refine D' (ZdU lk gx Za6 om rfl) pt ?_
  refine ZaV mp0 (fun hE hX=>Zj9) pt ?_
  refine Dw (Zc0 lk lk)<|Dw vm<|?_
  refine dq' (t:=112) gt pt pt (fun hg112=>?_) (fun hg112=>?_)
  ·have hC:chgs (Zbf a es) (M.take (i5+1))=chgs (Zbf a es) (M.take i5):=by rw[htk];exact Zqq (inT_no1 hg112)
   refine d_no gt pt<|d_no gt pt<|d_no gt pt<|d_no gt pt<|d_no gt pt<|d_no gt pt<|Dw (Zal lk lkb)<|Za8<|?_
   refine Zby ?_
   refine sn'<|ZaH lk<|ZaD<|Zay<|ZaU<|Zae<|Zat<|mw<|?_
   refine V' (Zax lk lki om om) pt ?_
   refine mw<|Zaq<|ZaB<|?_
   refine lU' (⟨i5+1,v5⟩) (by (try dsimp only);omega) (by (try dsimp only);(try simp only[sm',Nat.reduceAdd]);exact ALe.same (by repeat (first | exact wk0 | refine wka ?_ | refine wk1 rfl ?_ | refine wk1 (by first | rfl | exact ivx om | (rw[hC];done) | (rw[hC,hB];done) | (rw[hC,hB];rfl)) ?_)) (by first | (rw[hC];done) | (rw[hC];rfl)))
  refine d_do gt<|Dw vm<|d_do gt<|Dw vm<|d_do gt<|?_
  refine D' (Zbq lk lk gx Za6 (nb' rfl) ro om (by first | rfl | (simp;done) | omega)) pt ?_
  refine d_do gt ?_
  refine D' (ZdU lk gx Za6 om rfl) pt ?_
  refine d_do gt ?_
  refine ZaV mp0 (fun hE hX=>Ztd) pt ?_
  refine d_do gt<|Dw (Zbz lk lk)<|Dw (Zak lk lk)<|Za8<|?_
  refine Zby ?_
  refine sn' ?_
  refine cd' lk (fun hc6=>?_) (fun hc6=>?_)
  ·have hC:chgs (Zbf a es) (M.take (i5+1))=chgs (Zbf a es) (M.take i5):=by rw[htk];exact Zqq (inT_no2 hc6)
   refine ZaD<|Zay<|ZaU<|Zae<|Zat<|mw<|?_
   refine V' (Zax lk lki om om) pt ?_
   refine mw<|Zaq<|ZaB<|?_
   refine lU' (⟨i5+1,v5⟩) (by (try dsimp only);omega) (by (try dsimp only);(try simp only[sm',Nat.reduceAdd]);exact ALe.same (by repeat (first | exact wk0 | refine wka ?_ | refine wk1 rfl ?_ | refine wk1 (by first | rfl | exact ivx om | (rw[hC];done) | (rw[hC,hB];done) | (rw[hC,hB];rfl)) ?_)) (by first | (rw[hC];done) | (rw[hC];rfl)))
  have hI:inT M[i5]=true:=inT_yes hg112 hc6
  refine Zad<|Zae<|Zag<|Za2<|Dw (Zao lk gx ZdR rfl)<|Dw vm<|Dw vm<|?_
  refine D' (Zbq lk lk gx Za6 (nb' rfl) ro om (by first | rfl | (simp;done) | omega)) pt ?_
  refine D' (ZdU lk gx Za6 om rfl) pt ?_
  refine ZaV mp (fun hE hX=>Ztc hz) pt ?_
  refine Zep rfl rfl (hlk hn rfl) (Zoq) pt Zhm<|Za8<|?_
  refine Zez ZrK ?_
  refine E' (Zaj lk cv gx rfl (nb' rfl) rfl ZfZ (hs8 hn)) ptn<|sn'<|Zag<|wr'<|Vw (Zao lk gx Zcr rfl)<|Vw (Zao lk gx Zcr rfl)<|Vw (Zj3 lk lk Zo8)<|sn'<|?_
  refine cd' lk (fun hc7=>?_) (fun hc7=>?_)
  ·have hw:Zbf a es M[i5]=ZeV (Zbf a es tMin) (chgs (Zbf a es) (M.take i5)):=by obtain⟨x1,x2,x3⟩:=hc7;exact Prod.ext x1 (Prod.ext x2 x3)
   have hC:chgs (Zbf a es) (M.take (i5+1))=chgs (Zbf a es) (M.take i5):=by rw[htk];exact ZuB hI hw
   refine ZaD<|Zay<|ZaU<|Zae<|Zat<|mw<|?_
   refine V' (Zax lk lki om om) pt ?_
   refine mw<|Zaq<|ZaB<|?_
   refine lU' (⟨i5+1,v5⟩) (by (try dsimp only);omega) (by (try dsimp only);(try simp only[sm',Nat.reduceAdd]);exact bkE' 8 hn hlt (by repeat (first | exact wk0 | refine wka ?_ | refine wk1 rfl ?_ | refine wk1 (by first | rfl | exact ivx om | (rw[hC];done) | (rw[hC,hB];done) | (rw[hC,hB];rfl)) ?_)) (by first | (rw[hC];done) | (rw[hC];rfl)) (hT:=by simp[AV.lt,AV.ltL,Ent.lt]) (hE:=by simp[AV.lt,AV.ltL,Ent.lt]))
  have hw:¬Zbf a es M[i5]=ZeV (Zbf a es tMin) (chgs (Zbf a es) (M.take i5)):=fun e=>hc7 (by rw[e];exact⟨rfl,rfl,rfl⟩)
  have hC:chgs (Zbf a es) (M.take (i5+1))=chgs (Zbf a es) (M.take i5)++[(M[i5],Zbf a es M[i5])]:=by rw[htk];exact chgs_new hI hw
  have hB:=Zto (Zbf a es tMin) (chgs (Zbf a es) (M.take i5)) (M[i5],Zbf a es M[i5])
  have hW:=Zq3 (Zbf a es tMin) (chgs (Zbf a es) (M.take i5)) (M[i5],Zbf a es M[i5])
  refine Zad<|Zae<|Zag<|wr'<|mw<|Vw (ZaX lk lki)<|sn'<|?_
  refine cd' lk (fun hc8=>?_) (fun hc8=>?_)
  ·rw[if_pos hc8] at hB
   refine Zat<|Vw (Zao lk gx Zcr rfl)<|Zaf mp (ZgV (htsz _)) pt<|mw<|sn'<|Zag<|Za2<|Dw (Zac lk)<|Dw (Zab lk gx gt3)<|Dw vm<|Dw vm<|?_
   refine D' (Zbq lk lk gx Za6 (nb' rfl) ro om (by first | rfl | (simp;done) | omega)) pt ?_
   refine D' (ZdU lk gx Za6 om rfl) pt ?_
   refine Dw (Zao lk gx Zcr rfl)<|Dw (Zaw (Zfh cv rfl cv rfl))<|Zep rfl rfl (hlk hn rfl) (Zh9 (Zfg cv rfl)) pt Zhm<|Za8<|?_
   refine Zez ZkX ?_
   refine E' (Zce (ZbF lk gx rfl Zny (nb' rfl)) lk gx (Zcs _) om rfl (hs7 hn)) pt ?_
   refine Vw (Zac lk)<|E' (Zaj lk cv gx rfl (nb' rfl) rfl ZkW (hs5 hn)) ptn<|sn'<|Zat<|Vw (Zao lk gx Zcr rfl)<|E' (Zaj lk cv gx rfl (nb' rfl) rfl ZfZ (hs6 hn)) ptn<|Zaq<|ZaA<|Zae<|Zat<|mw<|?_
   refine V' (Zax lk lki om om) pt ?_
   refine mw<|Zaq<|ZaB<|?_
   refine lU' (⟨i5+1,v5+1⟩) (by (try dsimp only);omega) (by (try dsimp only);(try simp only[sm',Nat.reduceAdd]);exact bkE' 8 hn hlt (by repeat (first | exact wk0 | refine wka ?_ | refine wk1 rfl ?_ | refine wk1 (by first | rfl | exact ivx om | (rw[hC];done) | (rw[hC,hB];done) | (rw[hC,hB];rfl)) ?_)) (by rw[hC,hW,List.length_append,ZaO,Za5];rfl) (hT:=by simp[AV.lt,AV.ltL,Ent.lt]) (hE:=by simp[AV.lt,AV.ltL,Ent.lt]))
  rw[if_neg hc8] at hB
  refine Zad<|Zae<|Zag<|Za2<|Dw (Zac lk)<|Dw (Zab lk gx gt3)<|Dw vm<|Dw vm<|?_
  refine D' (Zbq lk lk gx Za6 (nb' rfl) ro om (by first | rfl | (simp;done) | omega)) pt ?_
  refine D' (ZdU lk gx Za6 om rfl) pt ?_
  refine Dw (Zao lk gx Zcr rfl)<|Dw (Zaw (Zfh cv rfl cv rfl))<|Zep rfl rfl (hlk hn rfl) (Zh9 (Zfg cv rfl)) pt Zhm<|Za8<|?_
  refine Zez ZkX ?_
  refine E' (Zce (ZbF lk gx rfl Zny (nb' rfl)) lk gx (Zcs _) om rfl (hs7 hn)) pt ?_
  refine Vw (Zac lk)<|E' (Zaj lk cv gx rfl (nb' rfl) rfl ZkW (hs5 hn)) ptn<|sn'<|Zat<|Vw (Zao lk gx Zcr rfl)<|E' (Zaj lk cv gx rfl (nb' rfl) rfl ZfZ (hs6 hn)) ptn<|Zaq<|ZaA<|Zae<|Zat<|mw<|?_
  refine V' (Zax lk lki om om) pt ?_
  refine mw<|Zaq<|ZaB<|?_
  refine lU' (⟨i5+1,v5+1⟩) (by (try dsimp only);omega) (by (try dsimp only);(try simp only[sm',Nat.reduceAdd]);exact bkE' 8 hn hlt (by repeat (first | exact wk0 | refine wka ?_ | refine wk1 rfl ?_ | refine wk1 (by first | rfl | exact ivx om | (rw[hC];done) | (rw[hC,hB];done) | (rw[hC,hB];rfl)) ?_)) (by rw[hC,hW,List.length_append,ZaO,Za5];rfl) (hT:=by simp[AV.lt,AV.ltL,Ent.lt]) (hE:=by simp[AV.lt,AV.ltL,Ent.lt]))
 have hi:M.take i5=M:=List.take_of_length_le om
 rw[hi] at *
 refine ZaD<|Zay<|Zay<|ZaU<|Zae<|Zag<|wr'<|mw<|Vw (ZaX lk lki)<|mw<|?_
 refine sp' (t:=147) gt pt pt (fun hg147=>?_) (fun hg147=>?_)
 ·refine s_do gt<|Vw (Zac lk)<|s_do gt<|Vw (Zab lk gx gt3)<|s_do gt<|Vw (Zb7 lk)<|s_do gt<|Vw (Zbz lk lki)<|Vw (Zal lk lk)<|sn'<|?_
  refine cd' lk (fun hc9=>?_) (fun hc9=>?_)
  ·rw[if_neg (fun e=>e hg147),if_pos om] at hTR
   refine Zat<|mw<|sn'<|Zag<|wr'<|mw<|Vw (Za9 lk lki)<|sn'<|?_
   refine Zc6 lk (by rfl) ?_
   refine wr'<|Vw (Zaw Zff)<|mw<|E' (Zaj lk cv gx rfl (nb' rfl) rfl ZeG (hs2 hn)) ptn<|mw<|sn'<|Zaa<|Zai<|Zah (rsn (rm1 (rr_c gt gx (ld1 ZdR rfl)) (rm1 (rr_t gt) rm0)))<|rtW'<|?_
   rw[hTR];exact ZfL
  rw[if_neg (fun e=>e hg147),if_neg om] at hTR
  refine Zad<|Zae<|Zag<|wr'<|mw<|Vw (Za9 lk lki)<|sn'<|?_
  refine Zc5 lk (by exact decide_eq_false (fun e=>e hg147)) ?_
  refine Zad ?_
  refine Za1 (ALe.iceCellR gx gx om gt3 (List.take_of_length_le (by rw[Zcs];exact Nat.le_refl _)) (by rw[Zcs];exact Nat.le_refl _) pt3 (hs7 hn) (hs5 hn)) ?_
  refine wr'<|Vw (Zao lk gx ZdR rfl)<|E' (Zaj lk cv gx rfl (nb' rfl) rfl ZeG (hs2 hn)) ptn<|mw<|sn'<|Zaa<|Zah (rsn (rm1 (rr_c gt gx (ld1 ZdR rfl)) (rm1 (rr_t gt) rm0)))<|rtW'<|?_
  rw[hTR];show Wk _ (.tup [tabA (Zdp a es),iv 0]);rw[show Zdp a es=(Zbf a es tMin,chgs (Zbf a es) M) from Prod.ext hT1 hT2];exact Wk.tup (wkw (Wk.agg (wk1 rfl (wk1 rfl (wk1 rfl (wkw Wk.full wk0))))) (wk1 rfl wk0))
 rw[if_pos hg147] at hTR
 refine so<|so<|so<|so<|Vw (Zak lk lkb)<|sn'<|ZaT lk<|Zad<|Zae<|Zag<|wr'<|mw<|?_
 refine Vw (Za9 lk lki)<|sn'<|?_
 refine Zc6 lk (by exact decide_eq_true hg147) ?_
 refine wr'<|Vw (Zaw Zff)<|mw<|E' (Zaj lk cv gx rfl (nb' rfl) rfl ZeG (hs2 hn)) ptn<|mw<|sn'<|Zaa<|Zai<|Zah (rsn (rm1 (rr_c gt gx (ld1 ZdR rfl)) (rm1 (rr_t gt) rm0)))<|rtW'<|?_
 rw[hTR];exact ZfL
end Go.Proofs.YtlekejpogddndaaGreatDoor
end
section
namespace Go.Proofs.YtlekejpogddndaaGreatDoor
open Go.Ab Go.RowKit Civ
attribute [local simp] Zbw ZbM ZbG ZbL Zcv Zd3 Zeb Zb9
section
theorem Zpc {a0 a1 a2 a3 c0 c1 c2 c3:AV}{l:List AV}:setCells (a0::a1::a2::a3::l) 0 [c0,c1,c2,c3]=c0::c1::c2::c3::l:=rfl
theorem Zjw {a0 a1 a2 c0 c1 c2:AV}{l:List AV}:setCells (a0::a1::a2::l) 0 [c0,c1,c2]=c0::c1::c2::l:=rfl
theorem Zpb {a0 a1 a2 a3:AV}{l:List AV}:((a0::a1::a2::a3::l).drop 0).take 4=[a0,a1,a2,a3]:=rfl
theorem Ze7 {a0 a1 a2:AV}{l:List AV}:((a0::a1::a2::l).drop 0).take 3=[a0,a1,a2]:=rfl
theorem Zgy {τ:Operand→AV}{y0 y1:Operand}{x0_0 x1_0:AV}(h0:Zav (τ y0)=some [x0_0]) (l0:[x0_0].all leaf=true) (h1:Zav (τ y1)=some [x1_0]) (l1:[x1_0].all leaf=true):Zau τ [(0,1,y0),(2,1,y1)] [(.v (.int .i64 0)),(.v (.int .i64 0)),(.v (.string ⟨#[]⟩))]=some [x0_0,(.v (.int .i64 0)),x1_0]:=by
 simp only[Zau,h0,l0,h1,l1]
 rfl
theorem ZfH {a0 b0:Int}{a1 b1:Int}{a2 b2:ByteArray}:Zbt [.int,.int,.str] [iv a0,iv a1,sv a2] [iv b0,iv b1,sv b2]=some (decide (a0=b0∧a1=b1∧a2=b2)):=by
 simp only[Zbt,Zd5,if_true,ZcL,Option.some.injEq]
 simp only[Bool.decide_and,Bool.and_true]
 try (congr 1 <;> simp)
 try rfl
theorem ZrS {a0 a1 a2:AV}{l:List AV}:(a0::a1::a2::l).take 3=[a0,a1,a2]:=rfl
end
def c22:AC:=(Sr [Mb 0 false] (Sr [Cl 8 63 [],Oo 9 (.call (.func 24) [(.tmp 8),(.const (.string ⟨#[79,108,100]⟩))]),Mv 7 9,Ex 10 7 0,Ex 11 7 1,Oo 1 (.new 40 4 [(iv 0),(iv 0),Ss,(.sl 0 0 true [])]),⟨none,none,(.store 4 (.tmp 1) (.tmp 10))⟩,Mv 2 11] (Sr [Cl 13 76 [],Cl 14 17 [(.tmp 13),(Ci 100)],Mv 12 14,Ex 15 12 0,Ex 16 12 1,Oo 3 (.new 29 3 [(iv 0),(iv 0),Ss]),⟨none,none,(.store 3 (.tmp 3) (.tmp 15))⟩,Mv 4 16] (Sr [Cl 18 76 [],Cl 19 17 [(.tmp 18),(Ci 99)],Mv 17 19,Ex 20 17 0,Ex 21 17 1,Oo 5 (.new 29 3 [(iv 0),(iv 0),Ss]),⟨none,none,(.store 3 (.tmp 5) (.tmp 20))⟩,Mv 6 21] (Sd [Mv 22 2,Bc 23 .eql 22 0,Mv 24 23,Ot 25 24 (mt 4),Ot 26 24 (.bin .eql (.tmp 25) (Ci 0)),Oo 27 (.pick (.tmp 24) (.tmp 26) (.const (.bool false))),Mv 28 27,Ot 29 28 (mt 6),Ot 30 28 (.bin .eql (.tmp 29) (Ci 0)),Oo 31 (.pick (.tmp 28) (.tmp 30) (.const (.bool false))),Mv 32 31,Ot 33 32 (.load true 4 (.tmp 1)),Ot 34 32 (.call (.func 23) [(.tmp 33)]),Ot 35 32 (.bin .eql (.tmp 34) (Ci 0)),Oo 36 (.pick (.tmp 32) (.tmp 35) (.const (.bool false))),Mv 37 36,Ot 38 37 (.fa 0 (.tmp 1)),Ot 39 37 (.load true 3 (.tmp 38)),Ot 40 37 (.build [(iv 0),(iv 0),Ss] [(0,(1,(Ci 600))),(2,(1,(.const (.string ⟨#[76,77,84]⟩))))]),Ot 41 37 (.eqs false [.int,.int,.str] (.tmp 39) (.tmp 40)),Oo 42 (.pick (.tmp 37) (.tmp 41) (.const (.bool false))),Mv 43 42,Ot 44 43 (.fa 3 (.tmp 1)),Ot 45 43 (.load false 1 (.tmp 44)),Ot 46 43 (.len false (.tmp 45)),Ot 47 43 (.bin .eql (.tmp 46) (Ci 211)),Oo 48 (.pick (.tmp 43) (.tmp 47) (.const (.bool false))),Mv 49 48,Ot 50 49 (.load true 3 (.tmp 3)),Ot 51 49 (.call (.func 76) []),Ot 52 49 (.fld false 3 1 (.tmp 51)),Ot 53 49 (.ia 4 (.tmp 52) (Ci 0)),Ot 54 49 (.fa 1 (.tmp 53)),Ot 55 49 (.load true 3 (.tmp 54)),Ot 56 49 (.eqs false [.int,.int,.str] (.tmp 50) (.tmp 55)),Oo 57 (.pick (.tmp 49) (.tmp 56) (.const (.bool false))),Mv 58 57,Ot 59 58 (.load true 3 (.tmp 5)),Ot 60 58 (.call (.func 76) []),Ot 61 58 (.fld true 0 3 (.tmp 60)),Ot 62 58 (.eqs false [.int,.int,.str] (.tmp 59) (.tmp 61)),Oo 63 (.pick (.tmp 58) (.tmp 62) (.const (.bool false))),Mv 0 63] .ret)))))
theorem k22:ZaE Tryz.prog 22=some ⟨c22,[(.tmp 0)],64⟩:=by kernel_rfl
theorem okT_chk0 {t:Tab}(h:Zcj t=0):okT t:=by
 obtain⟨_,h2,h3⟩:=Zrm h
 have e:=ZtX h2
 refine⟨by simp only[maxLen];omega,fun x hx=>?_⟩
 have:=ZtX (h3 x hx).2
 simp only[maxLen];omega
def lkL (t:Tab) (n:Int):Loc:=if Zcj t=0∧Zek n=true then ZgJ t n else (0,0,⟨#[]⟩)
def lkE (t:Tab) (n:Int):Int:=if Zcj t≠0 then Zcj t else if Zek n=true then 0 else 3
theorem lk_in {t:Tab}{n:Int}(h:Zcj t=0) (hn:Zek n=true):lkL t n=ZgJ t n∧lkE t n=0:=⟨if_pos ⟨h,hn⟩,by unfold lkE;rw[if_neg (by simpa using h),if_pos hn]⟩
theorem ZsF {t:Tab}{n:Int}{full:Bool}{h:AH}(ht:okT t):Ac 17 [.agg [iv t.1.1,iv t.1.2.1,sv t.1.2.2,.sl t.2.length 4 full (rows chgC t.2)],iv n] h (.tup [.agg (locC (lkL t n)),iv (lkE t n)]):=tlook_a ht
theorem tl1 {h:AH}:Ac 17 [tabA ZgM,iv 100] h (.tup [.agg (locC (7200,3600,⟨#[66]⟩)),iv 0]):=by
 have:=ZsF (t:=ZgM) (n:=100) (full:=false) (h:=h) ZmQ
 obtain⟨e1,e2⟩:=lk_in ZkG (show Zek 100=true from by decide)
 rw[e1,e2,Zmp] at this
 exact this
theorem tl2 {h:AH}:Ac 17 [tabA ZgM,iv 99] h (.tup [.agg (locC (3600,0,⟨#[65]⟩)),iv 0]):=by
 have:=ZsF (t:=ZgM) (n:=99) (full:=false) (h:=h) ZmQ
 obtain⟨e1,e2⟩:=lk_in ZkG (show Zek 99=true from by decide)
 rw[e1,e2,Zmo] at this
 exact this
theorem tcomp0 {h:AH}:Ac 24 [.agg (srcC src0),sv nOld] h (.tup [tabA tab0,iv 0]):=by
 have:=comp_a (a:=src0.1) (z:=src0.2.1) (k:=src0.2.2) (nm:=nOld) (h:=h) src0_ok
 rw[show (src0.1,src0.2.1,src0.2.2)=src0 from rfl,comp0] at this
 exact this
theorem tchk0 {h:AH}:Ac 23 [tabA tab0] h (iv 0):=by
 have ho:=okT_chk0 chkT0
 have:=ZuD (a:=tab0.1.1) (b:=tab0.1.2.1) (c:=tab0.1.2.2) (l:=tab0.2) (full:=false) (h:=h) ho.1 ho.2
 rw[show Zcj ((tab0.1.1,tab0.1.2.1,tab0.1.2.2),tab0.2)=0 from chkT0] at this
 exact this
theorem Zlo {h:AH}:Ac 22 [] h (bv true):=by
 refine tI' k22 fun N hn hlt hlA hbd=>?_
 simp only[tb'] at hbd ⊢
 refine wr'<|mw<|sn'<|wr'<|Zaf mp0 (parsed_a) pt<|Zaf mp (tcomp0) pt<|mw<|Vw (Zbi lk gt)<|Vw (Zbi lk gt)<|E' (Za7 (hl0 hn) ha0) pt<|E' (Zaj lk cv gx rfl (nb' rfl) rfl Zpc (hs0 hn)) ptn<|?_
 refine mw<|sn'<|wr'<|Zaf mp0 (Zlv) pt<|Zaf mp (tl1) pt<|mw<|Vw (Zbi lk gt)<|Vw (Zbi lk gt)<|E' (Za7 (hl1 hn) ha1) pt<|E' (Zaj lk cv gx rfl (nb' rfl) rfl Zjw (hs1 hn)) ptn<|mw<|Zaq<|?_
 refine Zae<|wr'<|Zaf mp0 (Zlv) pt<|Zaf mp (tl2) pt<|mw<|Vw (Zbi lk gt)<|Vw (Zbi lk gt)<|E' (Za7 (hl2 hn) ha2) pt<|E' (Zaj lk cv gx rfl (nb' rfl) rfl Zjw (hs2 hn)) ptn<|mw<|sn'<|Zag<|?_
 refine Za2<|Dw vm<|Dw (ZaX lk lki)<|Dw vm<|?_
 refine Zgt (t:=24) gt (b:=true) (by rfl) pt ?_
 refine d_do gt<|Dw vm<|d_do gt<|Dw (ZaX lk lki)<|Dw (Zal lk lk)<|Dw vm<|?_
 refine Zgt (t:=28) gt (b:=true) (by rfl) pt ?_
 refine d_do gt<|Dw vm<|d_do gt<|Dw (ZaX lk lki)<|Dw (Zal lk lk)<|Dw vm<|?_
 refine Zgt (t:=32) gt (b:=true) (by rfl) pt ?_
 refine d_do gt<|Dw (Zao lk gx Zpb rfl)<|d_do gt<|?_
 refine ZaV mp (fun hE hX=>tchk0) pt ?_
 refine d_do gt<|Dw (ZaX lk lki)<|Dw (Zal lk lk)<|Dw vm<|?_
 refine Zgt (t:=37) gt (b:=true) (by rfl) pt ?_
 refine d_do gt<|Dw (Zac lk)<|d_do gt<|Dw (Zao lk gx Ze7 rfl)<|d_do gt<|Dw (Zaw (Zgy (cvl lki rfl) rfl (cvl lks rfl) rfl))<|d_do gt<|Dw (Zj3 lk lk ZfH)<|Dw (Zal lk lk)<|Dw vm<|?_
 refine Zgt (t:=43) gt (b:=true) (by exact decide_eq_true (by rw[ZqG];exact⟨rfl,rfl,rfl⟩)) pt ?_
 refine d_do gt<|Dw (Zac lk)<|d_do gt<|Dw (Zab lk gx gt3)<|d_do gt<|Dw (ZaG lk)<|d_do gt<|Dw (ZaX lk lki)<|Dw (Zal lk lk)<|Dw vm<|?_
 refine Zgt (t:=49) gt (b:=true) (by exact decide_eq_true (by rw[ZpG];rfl)) pt ?_
 refine d_do gt<|Dw (Zao lk gx Ze7 rfl)<|d_do gt<|?_
 refine ZaV mp0 (fun hE hX=>Zlv) pt ?_
 refine d_do gt<|Dw (v_fld lk gt)<|d_do gt<|?_
 refine D' (ZaJ (k:=0) lk lki Zcn (nb' rfl) (by first | rfl | first | omega | decide) (by first | omega | decide) ro rfl) pt ?_
 refine d_do gt<|Dw (ZaR lk dp1)<|d_do gt<|Dw (ZaF lk ZrS rfl)<|d_do gt<|Dw (Zj3 lk lk ZfH)<|Dw (Zal lk lk)<|Dw vm<|?_
 refine Zgt (t:=58) gt (b:=true) (by rfl) pt ?_
 refine d_do gt<|Dw (Zao lk gx Ze7 rfl)<|d_do gt<|?_
 refine ZaV mp0 (fun hE hX=>Zlv) pt ?_
 refine d_do gt<|Dw (v_fldA lk Ze7 rfl)<|d_do gt<|Dw (Zj3 lk lk ZfH)<|Dw (Zal lk lk)<|Dw vm<|Za8<|?_
 refine Zby ?_
 exact sn'<|Zaa<|Zah rz<|rT' rfl
end Go.Proofs.YtlekejpogddndaaGreatDoor
end
section
namespace Go.Proofs.YtlekejpogddndaaGreatDoor
open Go.Ab Go.RowKit Civ
attribute [local simp] Zbw ZbM ZbG ZbL Zcv
theorem ZtV {s:Src}{nm:ByteArray}(h:ZgY s nm<0):¬s.2.1.findIdx (fun z=>decide (z.1=tgtV s nm))<s.2.1.length:=fun hh=>by
 have:ZgY s nm=((s.2.1.findIdx fun y:Zon=>decide (y.1=tgtV s nm):Nat):Int):=if_pos hh
 omega
theorem ZtU {s:Src}{nm:ByteArray}(h:¬ZgY s nm<0) : ∃ hh:s.2.1.findIdx (fun z=>decide (z.1=tgtV s nm))<s.2.1.length,ZgY s nm=((s.2.1.findIdx fun y:Zon=>decide (y.1=tgtV s nm):Nat):Int):=by
 have hh:s.2.1.findIdx (fun z=>decide (z.1=tgtV s nm))<s.2.1.length:=Decidable.byContradiction fun hh=>by have:ZgY s nm = -1:=if_neg hh;omega
 exact⟨hh,if_pos hh⟩
end Go.Proofs.YtlekejpogddndaaGreatDoor
namespace Go.Proofs.YtlekejpogddndaaGreatDoor.tableCompiles
open Go.Ab Go.RowKit Civ
section
theorem Ze6 {a0 a1 a2:AV}{l:List AV}:((a0::a1::a2::l).drop 0).take 3=[a0,a1,a2]:=rfl
theorem Zjs {a0 a1 a2 a3 c0 c1 c2 c3:AV}{l:List AV}:setCells (a0::a1::a2::a3::l) 0 [c0,c1,c2,c3]=c0::c1::c2::c3::l:=rfl
theorem Zdl {a0 a1 a2 a3:AV}{l:List AV}:((a0::a1::a2::a3::l).drop 0).take 4=[a0,a1,a2,a3]:=rfl
theorem ZrI {a0 a1:AV}{l:List AV}:(a0::a1::l).take 2=[a0,a1]:=rfl
end
def c5:AC:=(Sr [Oo 2 (.box 26 3 (.tmp 0)),Mb 4 false] (Sr [Oo 11 (.load true 3 (.tmp 2)),Mv 12 1,Cl 13 24 [(.tmp 11),(.tmp 12)],Mv 10 13,Ex 14 10 0,Ex 15 10 1,Oo 5 (.new 40 4 [(iv 0),(iv 0),Ss,(.sl 0 0 true [])]),⟨none,none,(.store 4 (.tmp 5) (.tmp 14))⟩,Mv 6 15] (Sr [Oo 16 (.load true 3 (.tmp 2)),Cl 17 25 [(.tmp 16)],Mv 7 17] (Sr [Oo 8 (.mv (.const (.int .i64 (-1))))] (.seq (Sr [Mv 18 7,Bc 19 .eql 18 0] (Cd 19 (Sr [Oo 20 (.load true 3 (.tmp 2)),Mv 21 1,Cl 22 26 [(.tmp 20),(.tmp 21)],Mv 8 22] (Sr [Mv 23 8,Bc 24 .lss 23 0] (Cd 24 (.reg [Mc 7 5]) .skip))) .skip)) (Sr [Oo 9 (.new 40 4 [(iv 0),(iv 0),Ss,(.sl 0 0 true [])])] (.seq (Sr [Mv 25 7,Bc 26 .eql 25 0] (Cd 26 (.drw [Oo 28 (.load true 3 (.tmp 2)),Fa 29 1 2,Ld 30 29,Mv 31 8,Oo 32 (.ia 2 (.tmp 30) (.tmp 31)),Oo 33 (.load true 2 (.tmp 32)),Cl 34 27 [(.tmp 28),(.tmp 33)],Mv 27 34,Ex 35 27 0,Ex 36 27 1] [false,false] [⟨none,none,(.store 4 (.tmp 9) (.tmp 35))⟩,Mv 7 36]) .skip)) (Sr [Cl 37 22 [],Mv 38 37,Ot 39 38 (.load true 4 (.tmp 5)),Ot 40 38 (mt 6),Ot 41 38 (mt 7),Ot 42 38 (.load true 4 (.tmp 9)),Ot 43 38 (.call (.func 28) [(.tmp 39),(.tmp 40),(.tmp 41),(.tmp 42)]),Oo 44 (.pick (.tmp 38) (.tmp 43) (.const (.bool false))),Mv 4 44] .ret))))))))
theorem k5:ZaE Tryz.prog 5=some ⟨c5,[(.tmp 4)],45⟩:=by kernel_rfl
end Go.Proofs.YtlekejpogddndaaGreatDoor.tableCompiles
end
