/-
  Part 4 of the proof: own lemmas and contracts on plain data. No condition beyond those that each lemma states.
-/
import Derived.Test.YtlekejpogddndaaGreatDoorTs3
import Derived.Test.YtlekejpogddndaaGreatDoorCards
import Derived.Test.YtlekejpogddndaaGreatDoorTie
import Derived.Lay
import Derived.Handed
import Derived.SizedLaws
import Derived.Shelf.Vars
import Derived.SevenTiedAt
import Derived.LaidSub
import Derived.MakeChecks
set_option linter.all false
set_option maxRecDepth 1000000
set_option maxHeartbeats 4000000
section
namespace Go.Proofs.YtlekejpogddndaaGreatDoor
open Go.Ab Go.RowKit Civ
attribute [local simp] ZbT
section
theorem ZfY {a0 a1 a2 a3 a4 a5 a6 a7 a8 a9 c0 c1 c2 c3 c4 c5 c6 c7 c8 c9:AV}{l:List AV}:setCells (a0::a1::a2::a3::a4::a5::a6::a7::a8::a9::l) 0 [c0,c1,c2,c3,c4,c5,c6,c7,c8,c9]=c0::c1::c2::c3::c4::c5::c6::c7::c8::c9::l:=rfl
theorem Zle {τ:Operand→AV}{y0 y1 y2:Operand}{x0_0 x1_0 x2_0:AV}(h0:Zat (τ y0)=some [x0_0]) (l0:[x0_0].all leaf=true) (h1:Zat (τ y1)=some [x1_0]) (l1:[x1_0].all leaf=true) (h2:Zat (τ y2)=some [x2_0]) (l2:[x2_0].all leaf=true):Zas τ [(0,1,y0),(1,1,y1),(2,1,y2)] [(.v (.int .i64 0)),(.v (.int .i64 0)),(.v (.int .i64 0))]=some [x0_0,x1_0,x2_0]:=by
 simp only[Zas,h0,l0,h1,l1,h2,l2]
 rfl
theorem ZqD {a0 a1 a2 a3 a4 a5 a6 a7 c0 c1 c2:AV}{l:List AV}:setCells (a0::a1::a2::a3::a4::a5::a6::a7::l) 5 [c0,c1,c2]=a0::a1::a2::a3::a4::c0::c1::c2::l:=rfl
end
def c202:AC:=(Sr [Oo 2 (.new 36 11 [Ss,(iv 0),(iv 0),(iv 0),(iv 0),(iv 0),(iv 0),(iv 0),(iv 0),(iv 0),Ss])] (Sr [Oo 3 (.new 36 11 [Ss,(iv 0),(iv 0),(iv 0),(iv 0),(iv 0),(iv 0),(iv 0),(iv 0),(iv 0),Ss])] (Sr [Mv 5 0,Cl 6 203 [(.tmp 5)],Fa 7 0 3,Sc 7 6] (Sr [Mv 8 0,Mv 9 0,Cl 10 200 [(.tmp 9)],Cl 11 274 [(.tmp 8),(.tmp 10),(Ci 4),(Ci 4)],Fa 12 1 3,Sc 12 11] (Sr [Mv 13 0,Cl 14 200 [(.tmp 13)],Mv 4 14] (.seq (Sr [Mv 15 4] (.block 0 (Sr [Oo 21 (.bin .eql (.tmp 15) (.const (.string ⟨#[111,110,108,121]⟩))),Mv 20 21] (Cd 20 (.reg [Fa 22 1 3,Ld 23 22,Fa 24 2 3,Sc 24 23]) (Sr [Oo 26 (.bin .eql (.tmp 15) (.const (.string ⟨#[109,97,120]⟩))),Mv 25 26] (Cd 25 (.reg [Fa 27 2 3,⟨none,none,(.store 1 (.tmp 27) (Ci 2100))⟩]) (.reg [Mv 16 0,Mv 17 4,Cl 18 274 [(.tmp 16),(.tmp 17),(Ci 4),(Ci 4)],Fa 19 2 3,Sc 19 18]))))))) (Sr [Mv 28 0,Cl 29 275 [(.tmp 28)],Fa 30 3 3,Sc 30 29] (Sr [Mv 31 0,Cl 32 277 [(.tmp 31)],Fa 33 4 3,⟨none,none,(.store 3 (.tmp 33) (.tmp 32))⟩] (Sr [Mv 35 0,Cl 36 276 [(.tmp 35),(Ci 1)],Mv 34 36,Ex 37 34 0,Ex 38 34 1,Fa 39 7 3,Sc 39 37,Fa 40 8 3,Sc 40 38] (Sr [Mv 41 0,Mv 42 0,Cl 43 200 [(.tmp 42)],Cl 44 273 [(.tmp 41),(.tmp 43)],Fa 45 9 3,Sc 45 44] (Sr [Mv 46 0,Cl 47 200 [(.tmp 46)],Mv 4 47] (.seq (Sr [Mv 48 4,Oo 49 (.bin .eql (.tmp 48) (.const (.string ⟨#[]⟩))),Mv 50 49,Of 51 50 (mt 4),Of 52 50 (.bin .neq (.tmp 51) (.const (.string ⟨#[45]⟩))),Of 53 50 (mt 52),Ot 54 53 (mt 4),Ot 55 53 (.call (.func 224) [(.tmp 54)]),Ot 56 53 (.un .not (.tmp 55)),Of 57 50 (.pick (.tmp 53) (.tmp 56) (.const (.bool false))),Oo 58 (.pick (.tmp 50) (.const (.bool true)) (.tmp 57))] (Cd 58 (.reg [Mv 59 0,Nk 60 59,Fa 61 1 60,⟨none,none,(.store 1 (.tmp 61) (.const (.bool true)))⟩]) .skip)) (.seq (Sr [Mv 62 4,Oo 63 (.bin .neq (.tmp 62) (.const (.string ⟨#[45]⟩)))] (Cd 63 (.reg [Mv 64 4,Fa 65 10 3,Sc 65 64]) .skip)) (Sr [Oo 66 (.load true 11 (.tmp 3)),⟨none,none,(.store 11 (.tmp 2) (.tmp 66))⟩] .ret))))))))))))))
theorem k202:ZaA Tryz.prog 202=some ⟨c202,[(.cell 2 true 11)],67⟩:=by kernel_rfl
def c201:AC:=(Sr [Oo 2 (.new 63 10 [(iv 0),Ss,(iv 0),Ss,(.v (.bool false)),(iv 0),(iv 0),(iv 0),(iv 0),(iv 0)])] (Sr [Oo 3 (.new 63 10 [(iv 0),Ss,(iv 0),Ss,(.v (.bool false)),(iv 0),(iv 0),(iv 0),(iv 0),(iv 0)])] (Sr [Mv 8 0,Cl 9 200 [(.tmp 8)],Mv 4 9] (.seq (Sr [Mv 10 4,Oo 11 (.bin .neq (.tmp 10) (.const (.string ⟨#[]⟩))),Mv 12 11,Ot 13 12 (mt 4),Ot 14 12 (.ix (.tmp 13) (Ci 0)),Ot 15 12 (.bin .eql (.tmp 14) (.const (.int .u8 45))),Oo 16 (.pick (.tmp 12) (.tmp 15) (.const (.bool false)))] (Cd 16 (.reg [Mv 17 0,Mv 18 4,Oo 19 (.sls (.tmp 18) (some (Ci 1)) none),Cl 20 273 [(.tmp 17),(.tmp 19)],Oo 21 (.un .neg (.tmp 20)),Fa 22 0 3,Sc 22 21]) (.reg [Mv 23 0,Mv 24 4,Cl 25 273 [(.tmp 23),(.tmp 24)],Fa 26 0 3,Sc 26 25]))) (Sr [Mv 27 0,Cl 28 200 [(.tmp 27)],Mv 4 28] (.seq (.block 0 (Sr [Mv 38 4,Oo 39 (.bin .eql (.tmp 38) (.const (.string ⟨#[45]⟩))),Mv 37 39] (Cd 37 .skip (Sr [Mv 41 4,Oo 42 (.bin .neq (.tmp 41) (.const (.string ⟨#[]⟩))),Mv 43 42,Ot 44 43 (mt 4),Ot 45 43 (.ix (.tmp 44) (Ci 0)),Ot 46 43 (.call (.func 191) [(.tmp 45)]),Oo 47 (.pick (.tmp 43) (.tmp 46) (.const (.bool false))),Mv 40 47] (Cd 40 (.seq (Sr [Mv 48 4,Oo 49 (.bin .eql (.tmp 48) (.const (.string ⟨#[48]⟩)))] (Cd 49 (.reg [Mv 50 0,Nk 51 50,Fa 52 1 51,⟨none,none,(.store 1 (.tmp 52) (.const (.bool true)))⟩]) .skip)) (.reg [Mv 53 0,Mv 54 4,Cl 55 273 [(.tmp 53),(.tmp 54)],Fa 56 2 3,Sc 56 55])) (.seq (Sr [Mv 29 4,Cl 30 115 [(.tmp 29)],Oo 31 (.un .not (.tmp 30))] (Cd 31 (.reg [Mv 32 0,Nk 33 32,Fa 34 1 33,⟨none,none,(.store 1 (.tmp 34) (.const (.bool true)))⟩]) .skip)) (.reg [Mv 35 4,Fa 36 1 3,Sc 36 35]))))))) (Sr [Mv 57 0,Cl 58 200 [(.tmp 57)],Fa 59 3 3,Sc 59 58] (.seq (Sr [Fa 60 3 3,Ld 61 60,Cl 62 225 [(.tmp 61)],Oo 63 (.un .not (.tmp 62))] (Cd 63 (.reg [Mv 64 0,Nk 65 64,Fa 66 1 65,⟨none,none,(.store 1 (.tmp 66) (.const (.bool true)))⟩]) .skip)) (.seq (Sr [Mv 67 0,Nk 68 67,Fa 69 0 68,Ld 70 69,Oo 71 (.len false (.tmp 70)),Bc 72 .eql 71 0] (Cd 72 (Sr [Fa 73 4 3,⟨none,none,(.store 1 (.tmp 73) (.const (.bool true)))⟩] (Sr [Oo 74 (.load true 10 (.tmp 3)),⟨none,none,(.store 10 (.tmp 2) (.tmp 74))⟩] .ret)) .skip)) (Sr [Mv 75 0,Mv 76 0,Cl 77 200 [(.tmp 76)],Cl 78 274 [(.tmp 75),(.tmp 77),(Ci 4),(Ci 4)],Mv 5 78] (Sr [Mv 79 0,Cl 80 275 [(.tmp 79)],Mv 6 80] (Sr [Mv 81 0,Mv 82 0,Cl 83 200 [(.tmp 82)],Cl 84 274 [(.tmp 81),(.tmp 83),(Ci 1),(Ci 2)],Mv 7 84] (Sr [Mv 85 5,Mv 86 6,Mv 87 7,Oo 88 (.build [(iv 0),(iv 0),(iv 0)] [(0,(1,(.tmp 85))),(1,(1,(.tmp 86))),(2,(1,(.tmp 87)))]),Fa 89 5 3,Fa 90 0 89,⟨none,none,(.store 3 (.tmp 90) (.tmp 88))⟩] (Sr [Mv 92 0,Cl 93 276 [(.tmp 92),(Ci 2)],Mv 91 93,Ex 94 91 0,Ex 95 91 1,Fa 96 5 3,Fa 97 3 96,Sc 97 94,Fa 98 5 3,Fa 99 4 98,Sc 99 95] (.seq (Sr [Fa 100 5 3,Fa 101 4 100,Ld 102 101,Bc 103 .eql 102 1] (Cd 103 (.reg [Mv 104 0,Nk 105 104,Fa 106 1 105,⟨none,none,(.store 1 (.tmp 106) (.const (.bool true)))⟩]) .skip)) (Sr [Oo 107 (.load true 10 (.tmp 3)),⟨none,none,(.store 10 (.tmp 2) (.tmp 107))⟩] .ret))))))))))))))))
theorem k201:ZaA Tryz.prog 201=some ⟨c201,[(.cell 2 true 10)],108⟩:=by kernel_rfl
def okTS (t:TS):Prop := ∀ x∈t.1,x.size≤24
theorem ZfN {t u:TS}(h:u.1=t.1) (ho:okTS t):okTS u:=by unfold okTS;rw[h];exact ho
theorem Za6 {t u:TS}{s:ByteArray}(ho:okTS t) (e:ZaP t=(s,u)):s.size≤24∧okTS u:=by
 unfold ZaP at e
 split at e
 ·cases e;exact⟨by decide,ho⟩
 rename_i hn
 obtain⟨l,b⟩:=t
 cases l with
 | nil=>exact absurd (.inr rfl) hn
 | cons x l=>cases e;exact⟨ho x (by simp),fun y hy=>ho y (by simp only[List.mem_cons];exact .inr hy)⟩
theorem tNum_fst {s:ByteArray}{a b:Int}{t:TS}:(tNum s a b t).2.1=t.1:=by unfold tNum;split <;> rfl
theorem Zlw {s:ByteArray}{t:TS}:(Zd5 s t).2.1=t.1:=by unfold Zd5;split <;> rfl
theorem tSix_fst {s:ByteArray}{t:TS}:(tSix s t).2.1=t.1:=by unfold tSix;dsimp only;split <;> exact tNum_fst
theorem tSpan_fst {s:ByteArray}{t:TS}:(ZbD s t).2.1=t.1:=by
 unfold ZbD
 split
 ·rfl
 unfold ZeQ
 split
 ·exact tSix_fst.trans tNum_fst
 ·exact tSix_fst.trans (tSix_fst.trans tNum_fst)
 rfl
theorem Zpv {s:ByteArray}{t:TS}:(ZbS s t).2.1=t.1:=by
 unfold ZbS
 split
 ·exact Zlw
 split
 ·exact tNum_fst
 exact tNum_fst.trans Zlw
theorem Zm2 {d:Int}{s:ByteArray}{t:TS}:(Zd1 d s t).2.1=t.1:=by
 unfold Zd1
 split
 ·exact tSpan_fst
 split
 ·exact tSpan_fst
 refine tSpan_fst.trans ?_
 split <;> rfl
theorem tTo_fst {f:Int}{s:ByteArray}{t:TS}:(tTo f s t).2.1=t.1:=by
 unfold tTo
 split
 ·rfl
 split
 ·rfl
 exact tNum_fst
theorem Zgl {t u:TS}{s:ByteArray}(ho:okTS t) (e:ZeR t=(s,u)):okTS u:=by
 obtain⟨x,v,ev⟩ : ∃ x v,ZaP t=(x,v):=⟨_,_,rfl⟩
 unfold ZeR at e
 rw[ev] at e
 have:=(Za6 ho ev).2
 simp only[Prod.mk.injEq] at e
 obtain⟨_,e2⟩:=e
 subst e2
 split
 ·exact this
 exact this
theorem ZgZ {t u:TS}{n:Int}(ho:okTS t) (e:ZdA t=(n,u)):okTS u:=by
 obtain⟨x,v,ev⟩ : ∃ x v,ZaP t=(x,v):=⟨_,_,rfl⟩
 unfold ZdA at e
 rw[ev] at e
 have:=(Za6 ho ev).2
 split at e <;> cases e <;> exact this
theorem ZhN {s:ByteArray}{a b n:Int}{t u:TS}(ho:okTS t) (e:tNum s a b t=(n,u)):okTS u:=ZfN (by have := @tNum_fst s a b t;rw[e] at this;exact this) ho
theorem Zim {s:ByteArray}{n:Int}{t u:TS}(ho:okTS t) (e:ZbD s t=(n,u)):okTS u:=ZfN (by have := @tSpan_fst s t;rw[e] at this;exact this) ho
theorem ZrX {f:Int}{s:ByteArray}{n:Int}{t u:TS}(ho:okTS t) (e:tTo f s t=(n,u)):okTS u:=ZfN (by have := @tTo_fst f s t;rw[e] at this;exact this) ho
theorem ZlU {n:Frm}{t u:TS}(ho:okTS t) (e:ZgW t=(n,u)):okTS u:=by
 obtain⟨x,v,ev⟩ : ∃ x v,ZaP t=(x,v):=⟨_,_,rfl⟩
 unfold ZgW at e
 rw[ev] at e
 exact ZfN (by have := @Zpv x v;rw[e] at this;exact this) (Za6 ho ev).2
theorem Zg0 {d:Int}{n:Int×Int}{t u:TS}(ho:okTS t) (e:Zc5 d t=(n,u)):okTS u:=by
 obtain⟨x,v,ev⟩ : ∃ x v,ZaP t=(x,v):=⟨_,_,rfl⟩
 unfold Zc5 at e
 rw[ev] at e
 exact ZfN (by have := @Zm2 d x v;rw[e] at this;exact this) (Za6 ho ev).2
theorem Zkm {t t1:TS}{s:ByteArray}{id:Nat}{h:AH}(ho:okTS t) (he:ZeR t=(s,t1)) (h1:h[id]?=some (takE t)):ACalls Tryz.prog 203 [.ptr id 0 0] h fun x h'=>x=.ret (sv s)∧h'=h.set id (takE t1):=by
 have:=tname_a (by have:=(Za6 ho (s:=(ZaP t).1) (u:=(ZaP t).2) rfl).1;unfold maxLen;omega) h1
 rw[he] at this
 exact this
theorem Zot {s:ByteArray}{a b n:Int}{t t1:TS}{id:Nat}{h:AH}(hb:b≤4) (he:tNum s a b t=(n,t1)) (h1:h[id]?=some (takE t)):ACalls Tryz.prog 274 [.ptr id 0 0,sv s,iv a,iv b] h fun x h'=>x=.ret (iv n)∧h'=h.set id (takE t1):=by
 have:=ZdO (s:=s) (a:=a) hb h1
 rw[he] at this
 exact this
theorem Zou {n:Int}{t t1:TS}{id:Nat}{h:AH}(he:ZdA t=(n,t1)) (h1:h[id]?=some (takE t)):ACalls Tryz.prog 275 [.ptr id 0 0] h fun x h'=>x=.ret (iv n)∧h'=h.set id (takE t1):=by
 have:=tmonth_a h1
 rw[he] at this
 exact this
theorem tform_e {n:Frm}{t t1:TS}{id:Nat}{h:AH}(ho:okTS t) (he:ZgW t=(n,t1)) (h1:h[id]?=some (takE t)):ACalls Tryz.prog 277 [.ptr id 0 0] h fun x h'=>x=.ret (.agg [iv n.1,iv n.2.1,iv n.2.2])∧h'=h.set id (takE t1):=by
 have:=tform_a (Za6 ho (s:=(ZaP t).1) (u:=(ZaP t).2) rfl).1 h1
 rw[he] at this
 exact this
theorem Zoy {d:Int}{n:Int×Int}{t t1:TS}{id:Nat}{h:AH}(hd:d=1∨d=2) (ho:okTS t) (he:Zc5 d t=(n,t1)) (h1:h[id]?=some (takE t)):ACalls Tryz.prog 276 [.ptr id 0 0,iv d] h fun x h'=>x=.ret (.tup [iv n.1,iv n.2])∧h'=h.set id (takE t1):=by
 have:=tclock_a hd (Za6 ho (s:=(ZaP t).1) (u:=(ZaP t).2) rfl).1 h1
 rw[he] at this
 exact this
theorem ZgT {s:ByteArray}{n:Int}{t t1:TS}{id:Nat}{h:AH}(hz:s.size≤24) (he:ZbD s t=(n,t1)) (h1:h[id]?=some (takE t)):ACalls Tryz.prog 273 [.ptr id 0 0,sv s] h fun x h'=>x=.ret (iv n)∧h'=h.set id (takE t1):=by
 have:=Zh0 hz h1
 rw[he] at this
 exact this
theorem trule_a {t:TS}{id:Nat}{h:AH}(ho:okTS t) (h1:h[id]?=some (takE t)):ACalls Tryz.prog 202 [.ptr id 0 0] h fun x h'=>x=.ret (.agg (rulC (Zkp t).1))∧h'=h.set id (takE (Zkp t).2):=by
 have hid:id<h.length:=(List.getElem?_eq_some_iff.1 h1).1
 obtain⟨nm,t1,e1⟩ : ∃ a b,ZeR t=(a,b):=⟨_,_,rfl⟩
 have o1:=Zgl ho e1
 obtain⟨s2,t2,e2⟩ : ∃ a b,ZaP t1=(a,b):=⟨_,_,rfl⟩
 obtain⟨z2,o2⟩:=Za6 o1 e2
 obtain⟨f,t3,e3⟩ : ∃ a b,tNum s2 4 4 t2=(a,b):=⟨_,_,rfl⟩
 have o3:=ZhN o2 e3
 obtain⟨s4,t4,e4⟩ : ∃ a b,ZaP t3=(a,b):=⟨_,_,rfl⟩
 obtain⟨z4,o4⟩:=Za6 o3 e4
 obtain⟨yr,t5,e5⟩ : ∃ a b,tTo f s4 t4=(a,b):=⟨_,_,rfl⟩
 have o5:=ZrX o4 e5
 obtain⟨m,t6,e6⟩ : ∃ a b,ZdA t5=(a,b):=⟨_,_,rfl⟩
 have o6:=ZgZ o5 e6
 obtain⟨k,t7,e7⟩ : ∃ a b,ZgW t6=(a,b):=⟨_,_,rfl⟩
 have o7:=ZlU o6 e7
 obtain⟨c,t8,e8⟩ : ∃ a b,Zc5 1 t7=(a,b):=⟨_,_,rfl⟩
 have o8:=Zg0 o7 e8
 obtain⟨s9,t9,e9⟩ : ∃ a b,ZaP t8=(a,b):=⟨_,_,rfl⟩
 obtain⟨z9,o9⟩:=Za6 o8 e9
 obtain⟨svd,t10,e10⟩ : ∃ a b,ZbD s9 t9=(a,b):=⟨_,_,rfl⟩
 have o10:=Zim o9 e10
 obtain⟨s11,t11,e11⟩ : ∃ a b,ZaP t10=(a,b):=⟨_,_,rfl⟩
 obtain⟨z11,o11⟩:=Za6 o10 e11
 have hR:Zkp t=((nm,f,yr,m,k,c.1,c.2,svd,(Zc9 t10).1),(Zc9 t10).2):=by
  simp only[Zkp,Zb0,ret2,Zrk,tToN,Zrm,e1,e2,e3,e4,e5,e6,e7,e8,e9,e10]
 have hL:Zc9 t10=(if s11=bA [45] then ⟨#[]⟩ else s11,if ZeW s11=true then t11 else bad t11):=by unfold Zc9;rw[e11]
 refine tJ' k202 fun N hn hlt hlA hbd=>?_
 simp only[tb'] at hbd ⊢
 refine ZdJ (h1:=h.set id (takE t)++[]) (by rw[ZcU h1]) ?_
 refine wr'<|E' (ZaU (hl0 (Zan hn)) ha0) pt<|sn'<|wr'<|E' (ZaU (hl1 (Zan hn)) ha1) pt<|sn'<|wr'<|mw<|ZaM mp (Zkm ho e1 (ZaY hid)) (ZaJ hid) pt<|?_
 refine Vw (Zab lk)<|E' (Zai lk cv (hga (Zan hn) rfl) rfl (nb' rfl) rfl Zfr (hs1 (Zan hn))) ptn<|sn'<|wr'<|mw<|mw<|ZaM mp (Zc8 e2 (ZaY hid)) (ZaJ hid) pt<|?_
 refine ZaM mp (Zot om e3 (ZaY hid)) (ZaJ hid) pt ?_
 refine Vw (Zab lk)<|E' (Zai lk cv (hga (Zan hn) rfl) rfl (nb' rfl) rfl ZbM (hs1 (Zan hn))) ptn<|sn'<|wr'<|mw<|ZaM mp (Zc8 e4 (ZaY hid)) (ZaJ hid) pt<|mw<|sn'<|?_
 refine Zoj (ι:=Unit) (fun (u:Unit)=>[]++rn' 15 13) (fun (u:Unit)=>h.set id (takE t5)++[.mk 0 36 11 [sv ⟨#[]⟩,iv 0,iv 0,iv 0,iv 0,iv 0,iv 0,iv 0,iv 0,iv 0,sv ⟨#[]⟩],.mk 0 36 11 [sv nm,iv f,iv yr,iv 0,iv 0,iv 0,iv 0,iv 0,iv 0,iv 0,sv ⟨#[]⟩]]) (fun (u:Unit)=>True) ?_ ?_
 ·try simp only[sm',Nat.reduceAdd]
  refine wr'<|mw<|sn'<|Zap<|wr'<|Vw (Zcu lk lks)<|mw<|sn'<|?_
  refine cd' lk (fun hc1=>?_) (fun hc1=>?_)
  ·have hq:yr=f∧t5=t4:=by rw[tTo,if_pos (show s4=ZrW from hc1)] at e5;cases e5;exact⟨rfl,rfl⟩
   obtain⟨rfl,rfl⟩:=hq
   refine Zav<|Vw (Zab lk)<|Vw (Zac lk (hga (Zan hn) rfl) gt1)<|Vw (Zab lk)<|E' (Zai lk cv (hga (Zan hn) rfl) rfl (nb' rfl) rfl Zeh (hs1 (Zan hn))) ptn<|Zar<|Zaz<|ZaB<|?_
   exact cT' (()) (by trivial)
  refine wr'<|Vw (Zcu lk lks)<|mw<|sn'<|?_
  refine cd' lk (fun hc2=>?_) (fun hc2=>?_)
  ·have hq:yr=2100∧t5=t4:=by rw[tTo,if_neg (show ¬s4=ZrW from hc1),if_pos (show s4=maxA from hc2)] at e5;cases e5;exact⟨rfl,rfl⟩
   obtain⟨rfl,rfl⟩:=hq
   refine Zav<|Vw (Zab lk)<|E' (Zai lk (cvl lki rfl) (hga (Zan hn) rfl) rfl (nb' rfl) rfl Zeh (hs1 (Zan hn))) ptn<|Zar<|Zaz<|ZaB<|?_
   exact cT' (()) (by trivial)
  have hq:tNum s4 4 4 t4=(yr,t5):=by rw[tTo,if_neg (show ¬s4=ZrW from hc1),if_neg (show ¬s4=maxA from hc2)] at e5;exact e5
  refine Zav<|mw<|mw<|?_
  refine ZaM mp (Zot om hq (ZaY hid)) (ZaJ hid) pt ?_
  refine Vw (Zab lk)<|E' (Zai lk cv (hga (Zan hn) rfl) rfl (nb' rfl) rfl Zeh (hs1 (Zan hn))) ptn<|Zar<|Zaz<|ZaB<|?_
  exact cT' (()) (by trivial)
 rintro u hq9
 try simp only[sm',Nat.reduceAdd]
 refine wr'<|mw<|ZaM mp (Zou e6 (ZaY hid)) (ZaJ hid) pt<|Vw (Zab lk)<|E' (Zai lk cv (hga (Zan hn) rfl) rfl (nb' rfl) rfl Zj9 (hs1 (Zan hn))) ptn<|sn'<|wr'<|mw<|ZaM mp (tform_e o6 e7 (ZaY hid)) (ZaJ hid) pt<|Vw (Zab lk)<|E' (Zai lk cv (hga (Zan hn) rfl) rfl (nb' rfl) rfl ZqE (hs1 (Zan hn))) ptn<|?_
 refine sn'<|wr'<|mw<|ZaM mp (Zoy (.inl rfl) o7 e8 (ZaY hid)) (ZaJ hid) pt<|mw<|Vw (ZaS lk gt)<|Vw (ZaS lk gt)<|Vw (Zab lk)<|E' (Zai lk cv (hga (Zan hn) rfl) rfl (nb' rfl) rfl ZqC (hs1 (Zan hn))) ptn<|Vw (Zab lk)<|E' (Zai lk cv (hga (Zan hn) rfl) rfl (nb' rfl) rfl Zj8 (hs1 (Zan hn))) ptn<|Zar<|?_
 refine Zag<|wr'<|mw<|mw<|ZaM mp (Zc8 e9 (ZaY hid)) (ZaJ hid) pt<|ZaM mp (ZgT z9 e10 (ZaY hid)) (ZaJ hid) pt<|Vw (Zab lk)<|E' (Zai lk cv (hga (Zan hn) rfl) rfl (nb' rfl) rfl Zj7 (hs1 (Zan hn))) ptn<|sn'<|wr'<|mw<|?_
 refine ZaM mp (Zc8 e11 (ZaY hid)) (ZaJ hid) pt<|mw<|sn'<|Zam<|wr'<|mw<|Vw (Zcu lk lks)<|mw<|?_
 refine sp' (t:=50) gt pt pt (fun hg50=>?_) (fun hg50=>?_)
 ·have hLt:Zc9 t10=(s11,bad t11):=by rw[hL,hg50];rfl
  refine s_no gt pt<|s_no gt pt<|s_no gt pt<|s_nu gt pt<|s_nu gt pt<|s_nu gt pt<|s_no gt pt<|Vw (Zak lk lkb)<|sn'<|ZaG lk<|Zav<|mw<|Vw (Zbp lk)<|?_
  refine Vw (Zab lk)<|E' (Zai lk (cvl lkb rfl) (ZaY hid) rfl (nb' rfl) rfl ZbM (ZaJ hid)) ptn<|sn'<|Zam<|wr'<|mw<|Vw (ZcG lk lks)<|sn'<|?_
  refine ZdY lk (by exact decide_eq_true (by rw[hg50];decide)) ?_
  refine Zav<|mw<|Vw (Zab lk)<|E' (Zai lk cv (hga (Zan hn) rfl) rfl (nb' rfl) rfl ZfX (hs1 (Zan hn))) ptn<|sn'<|wr'<|Vw (Zao lk (hga (Zan hn) rfl) Zck rfl)<|E' (Zai lk cv (hga (Zan hn) rfl) rfl (nb' rfl) rfl ZeE (hs0 (Zan hn))) ptn<|sn'<|Zaa<|Zae (rs1 (rr_c gt (hga (Zan hn) rfl) (ld1 Zck rfl)))<|?_
  rw[hLt] at hR
  exact⟨_,_,rfl,Zan hn,ZbV hlt ZaK,rfl,by rw[hR] <;> rfl,by rw[hR] <;> rfl⟩
 refine s_do gt<|mw<|s_do gt<|Vw (ZcG lk lks)<|s_do gt<|mw<|?_
 refine sp' (t:=53) gt pt pt (fun hg53=>?_) (fun hg53=>?_)
 ·refine s_do gt<|mw<|s_do gt<|?_
  refine Zad mp (Zhp (by unfold maxLen;omega)) pt ?_
  refine s_do gt<|Vw (Zax lk)<|s_do gt<|Vw (Zak lk lk)<|Vw (Zaj lk lk)<|sn'<|?_
  refine Zaw lk (fun hc3=>?_) (fun hc3=>?_)
  ·have hl:Zcp s11=false:=by simpa using hc3
   have hLt:Zc9 t10=(s11,bad t11):=by rw[hL,if_neg (show ¬s11=bA [45] from hg53),if_neg (by unfold ZeW;rw[hl,decide_eq_false (show ¬s11=bA [45] from hg53)];simp)]
   refine Zav<|mw<|Vw (Zbp lk)<|Vw (Zab lk)<|E' (Zai lk (cvl lkb rfl) (ZaY hid) rfl (nb' rfl) rfl ZbM (ZaJ hid)) ptn<|sn'<|Zam<|wr'<|mw<|Vw (ZcG lk lks)<|sn'<|?_
   refine ZdY lk (by exact decide_eq_true hg53) ?_
   refine Zav<|mw<|Vw (Zab lk)<|E' (Zai lk cv (hga (Zan hn) rfl) rfl (nb' rfl) rfl ZfX (hs1 (Zan hn))) ptn<|sn'<|wr'<|Vw (Zao lk (hga (Zan hn) rfl) Zck rfl)<|E' (Zai lk cv (hga (Zan hn) rfl) rfl (nb' rfl) rfl ZeE (hs0 (Zan hn))) ptn<|sn'<|Zaa<|Zae (rs1 (rr_c gt (hga (Zan hn) rfl) (ld1 Zck rfl)))<|?_
   rw[hLt] at hR
   exact⟨_,_,rfl,Zan hn,ZbV hlt ZaK,rfl,by rw[hR] <;> rfl,by rw[hR] <;> rfl⟩
  have hl:Zcp s11=true:=by simpa using hc3
  have hLt:Zc9 t10=(s11,t11):=by rw[hL,if_neg (show ¬s11=bA [45] from hg53),if_pos (by unfold ZeW;rw[hl,decide_eq_true hg50];simp)]
  refine Zaf<|Zag<|Zam<|wr'<|mw<|Vw (ZcG lk lks)<|sn'<|?_
  refine ZdY lk (by exact decide_eq_true hg53) ?_
  refine Zav<|mw<|Vw (Zab lk)<|E' (Zai lk cv (hga (Zan hn) rfl) rfl (nb' rfl) rfl ZfX (hs1 (Zan hn))) ptn<|sn'<|wr'<|Vw (Zao lk (hga (Zan hn) rfl) Zck rfl)<|E' (Zai lk cv (hga (Zan hn) rfl) rfl (nb' rfl) rfl ZeE (hs0 (Zan hn))) ptn<|sn'<|Zaa<|Zae (rs1 (rr_c gt (hga (Zan hn) rfl) (ld1 Zck rfl)))<|?_
  rw[hLt] at hR
  exact⟨_,_,rfl,Zan hn,ZbV hlt ZaK,rfl,by rw[hR] <;> rfl,by rw[hR] <;> rfl⟩
 have h45:s11=bA [45]:=Decidable.of_not_not hg53
 have hLt:Zc9 t10=(⟨#[]⟩,t11):=by rw[hL,h45];rfl
 refine s_no gt pt<|s_no gt pt<|s_no gt pt<|s_do gt<|Vw (Zaj lk lkb)<|Vw (Zaj lk lk)<|sn'<|ZaO lk<|Zaf<|Zag<|Zam<|wr'<|?_
 refine mw<|Vw (ZcG lk lks)<|sn'<|?_
 refine ZdM lk (by exact decide_eq_false (by rw[h45];decide)) ?_
 refine Zaf<|Zag<|wr'<|Vw (Zao lk (hga (Zan hn) rfl) Zck rfl)<|E' (Zai lk cv (hga (Zan hn) rfl) rfl (nb' rfl) rfl ZeE (hs0 (Zan hn))) ptn<|sn'<|Zaa<|Zae (rs1 (rr_c gt (hga (Zan hn) rfl) (ld1 Zck rfl)))<|?_
 rw[hLt] at hR
 exact⟨_,_,rfl,Zan hn,ZbV hlt ZaK,rfl,by rw[hR] <;> rfl,by rw[hR] <;> rfl⟩
theorem tSpan_bd {s:ByteArray}{t:TS}:0≤(ZbD s t).1∧(ZbD s t).1<1000000000:=by
 unfold ZbD
 split
 ·exact⟨Int.le_refl 0,show (0:Int)<1000000000 by decide⟩
 unfold ZeQ
 split
 ·rename_i a b _
  have h1:=Zh5 (s:=bA a) (a:=1) (b:=2) (t:=t) om
  have h2:=ZgV (s:=bA b) (t:=(tNum (bA a) 1 2 t).2)
  constructor <;> dsimp only <;> omega
 ·rename_i a b c _
  have h1:=Zh5 (s:=bA a) (a:=1) (b:=2) (t:=t) om
  have h2:=ZgV (s:=bA b) (t:=(tNum (bA a) 1 2 t).2)
  have h3:=ZgV (s:=bA c) (t:=(tSix (bA b) (tNum (bA a) 1 2 t).2).2)
  constructor <;> dsimp only <;> omega
 exact⟨Int.le_refl 0,show (0:Int)<1000000000 by decide⟩
abbrev eraZ:List AV:=[iv 0,sv ⟨#[]⟩,iv 0,sv ⟨#[]⟩,bv false,iv 0,iv 0,iv 0,iv 0,iv 0]
theorem Zjw {t u:TS}{n:Int}(ho:okTS t) (e:Zf9 t=(n,u)):okTS u:=by
 obtain⟨x,v,ev⟩ : ∃ x v,ZaP t=(x,v):=⟨_,_,rfl⟩
 unfold Zf9 at e
 rw[ev] at e
 have:=(Za6 ho ev).2
 split at e
 ·cases e;exact ZfN tSpan_fst this
 exact Zim this e
theorem Zjx {s:ByteArray}{t u:TS}{p:Int×ByteArray}(ho:okTS t) (e:Zd0 s t=(p,u)):okTS u:=by
 unfold Zd0 at e
 split at e
 ·cases e;exact ho
 split at e
 ·cases e
  refine ZfN tSpan_fst ?_
  split <;> exact ho
 cases e
 split <;> exact ho
theorem tera_a {t:TS}{id:Nat}{h:AH}(ho:okTS t) (h1:h[id]?=some (takE t)):ACalls Tryz.prog 201 [.ptr id 0 0] h fun x h'=>x=.ret (.agg (eraC (tEra t).1))∧h'=h.set id (takE (tEra t).2):=by
 have hid:id<h.length:=(List.getElem?_eq_some_iff.1 h1).1
 obtain⟨s1,t1,e1⟩ : ∃ a b,ZaP t=(a,b):=⟨_,_,rfl⟩
 obtain⟨z1,o1⟩:=Za6 ho e1
 have hem1:=Zex (f:=s1)
 obtain⟨sh,t2,e2⟩ : ∃ a b,Zf9 t=(a,b):=⟨_,_,rfl⟩
 have o2:=Zjw ho e2
 obtain⟨s3,t3,e3⟩ : ∃ a b,ZaP t2=(a,b):=⟨_,_,rfl⟩
 obtain⟨z3,o3⟩:=Za6 o2 e3
 have hem3:=Zex (f:=s3)
 obtain⟨⟨sa,rl⟩,t4,e4⟩ : ∃ a b,Zd0 s3 t3=(a,b):=⟨_,_,rfl⟩
 have o4:=Zjx o3 e4
 obtain⟨fm,t5,e5⟩ : ∃ a b,ZaP t4=(a,b):=⟨_,_,rfl⟩
 obtain⟨z5,o5⟩:=Za6 o4 e5
 obtain⟨t6,e6⟩ : ∃ u,(if ZbL fm=true then t5 else bad t5)=u:=⟨_,rfl⟩
 have o6:okTS t6:=by rw[←e6];split <;> exact o5
 obtain⟨s7,t7,e7⟩ : ∃ a b,ZaP t6=(a,b):=⟨_,_,rfl⟩
 obtain⟨z7,o7⟩:=Za6 o6 e7
 obtain⟨y,t8,e8⟩ : ∃ a b,tNum s7 4 4 t7=(a,b):=⟨_,_,rfl⟩
 have o8:=ZhN o7 e8
 obtain⟨m,t9,e9⟩ : ∃ a b,ZdA t8=(a,b):=⟨_,_,rfl⟩
 have o9:=ZgZ o8 e9
 obtain⟨s10,t10,e10⟩ : ∃ a b,ZaP t9=(a,b):=⟨_,_,rfl⟩
 obtain⟨z10,o10⟩:=Za6 o9 e10
 obtain⟨d,t11,e11⟩ : ∃ a b,tNum s10 1 2 t10=(a,b):=⟨_,_,rfl⟩
 have o11:=ZhN o10 e11
 obtain⟨c,t12,e12⟩ : ∃ a b,Zc5 2 t11=(a,b):=⟨_,_,rfl⟩
 have o12:=Zg0 o11 e12
 have hU:Zhm t6=(((y,m,d),c.1,c.2),if c.2=1 then bad t12 else t12):=by
  simp only[Zhm,Zb0,ret2,Zrk,tDay,Zrl,e7,e8,e9,e10,e11,e12]
 have hR:tEra t=((sh,rl,sa,fm,(tEnd t6).1.1,(tEnd t6).1.2),(tEnd t6).2):=by
  simp only[tEra,Zb0,ret2,Zrn,Zh6,e2,e3,e4,e5,e6]
 refine tJ' k201 fun N hn hlt hlA hbd=>?_
 simp only[tb'] at hbd ⊢
 refine ZdJ (h1:=h.set id (takE t)++[]) (by rw[ZcU h1]) ?_
 refine wr'<|E' (ZaU (hl0 (Zan hn)) ha0) pt<|sn'<|wr'<|E' (ZaU (hl1 (Zan hn)) ha1) pt<|sn'<|wr'<|mw<|ZaM mp (Zc8 e1 (ZaY hid)) (ZaJ hid) pt<|?_
 refine mw<|sn'<|?_
 refine Zoj (ι:=Unit) (fun (u:Unit)=>[]++rn' 10 17) (fun (u:Unit)=>h.set id (takE t2)++[.mk 0 63 10 eraZ,.mk 0 63 10 [iv sh,sv ⟨#[]⟩,iv 0,sv ⟨#[]⟩,bv false,iv 0,iv 0,iv 0,iv 0,iv 0]]) (fun (u:Unit)=>True) ?_ ?_
 ·try simp only[sm',Nat.reduceAdd]
  refine wr'<|mw<|Vw (ZcG lk lks)<|mw<|?_
  refine sp' (t:=12) gt pt pt (fun hg12=>?_) (fun hg12=>?_)
  ·have hn1:s1.size≠0:=fun e=>hg12 (hem1.2 e)
   refine s_do gt<|mw<|s_do gt<|?_
   refine V' (v_ix lk lki om om) pt ?_
   refine s_do gt<|Vw (ZaR lk lki)<|Vw (Zak lk lk)<|sn'<|?_
   refine cd' lk (fun hc1=>?_) (fun hc1=>?_)
   ·have hc:s1.size≠0∧ZhA s1=45:=⟨fun e=>hg12 (hem1.2 e),hc1⟩
    obtain⟨n,u2,f2⟩ : ∃ a b,ZbD (s1.extract 1 s1.size) t1=(a,b):=⟨_,_,rfl⟩
    have hb2:=tSpan_bd (s:=s1.extract 1 s1.size) (t:=t1)
    rw[f2] at hb2
    replace hb2:0≤n∧n<1000000000:=hb2
    have hq:sh = -n∧t2=u2:=by unfold Zf9 at e2;rw[e1,if_pos hc,f2] at e2;cases e2;exact⟨rfl,rfl⟩
    obtain⟨rfl,rfl⟩:=hq
    refine Zav<|mw<|mw<|?_
    refine V' (ZdZ lk (oi lki) on_ om om om) pt ?_
    refine ZaM mp (ZgT (by rw[ByteArray.size_extract];omega) f2 (ZaY hid)) (ZaJ hid) pt ?_
    refine V' (v_neg lk om om) pt ?_
    refine Vw (Zab lk)<|E' (Zai lk cv (hga (Zan hn) rfl) rfl (nb' rfl) rfl Zfr (hs1 (Zan hn))) ptn<|Zar<|ZaB<|?_
    exact cT' (()) (by trivial)
   have hc:¬(s1.size≠0∧ZhA s1=45):=fun e=>hc1 e.2
   have f2:ZbD s1 t1=(sh,t2):=by unfold Zf9 at e2;rw[e1,if_neg hc] at e2;exact e2
   refine Zav<|mw<|mw<|ZaM mp (ZgT z1 f2 (ZaY hid)) (ZaJ hid) pt<|Vw (Zab lk)<|E' (Zai lk cv (hga (Zan hn) rfl) rfl (nb' rfl) rfl Zfr (hs1 (Zan hn))) ptn<|Zar<|ZaB<|?_
   exact cT' (()) (by trivial)
  have hc:¬(s1.size≠0∧ZhA s1=45):=fun e=>e.1 (hem1.1 (Decidable.of_not_not hg12))
  have f2:ZbD s1 t1=(sh,t2):=by unfold Zf9 at e2;rw[e1,if_neg hc] at e2;exact e2
  refine s_no gt pt<|s_no gt pt<|s_no gt pt<|Vw (Zaj lk lkb)<|sn'<|ZaO lk<|Zav<|mw<|mw<|ZaM mp (ZgT z1 f2 (ZaY hid)) (ZaJ hid) pt<|Vw (Zab lk)<|E' (Zai lk cv (hga (Zan hn) rfl) rfl (nb' rfl) rfl Zfr (hs1 (Zan hn))) ptn<|Zar<|?_
  refine ZaB ?_
  exact cT' (()) (by trivial)
 rintro u hq5
 try simp only[sm',Nat.reduceAdd]
 refine wr'<|mw<|ZaM mp (Zc8 e3 (ZaY hid)) (ZaJ hid) pt<|mw<|sn'<|?_
 refine Zoj (ι:=Unit) (fun (u:Unit)=>[]++rn' 29 28) (fun (u:Unit)=>h.set id (takE t4)++[.mk 0 63 10 eraZ,.mk 0 63 10 [iv sh,sv rl,iv sa,sv ⟨#[]⟩,bv false,iv 0,iv 0,iv 0,iv 0,iv 0]]) (fun (u:Unit)=>True) ?_ ?_
 ·try simp only[sm',Nat.reduceAdd]
  refine Zap<|wr'<|mw<|Vw (Zcu lk lks)<|mw<|sn'<|?_
  refine cd' lk (fun hc2=>?_) (fun hc2=>?_)
  ·have hq:sa=0∧rl=⟨#[]⟩∧t4=t3:=by rw[Zd0,if_pos (show s3=bA [45] from hc2)] at e4;cases e4;exact⟨rfl,rfl,rfl⟩
   obtain⟨rfl,rfl,rfl⟩:=hq
   refine Zaf<|Zaz<|ZaB<|?_
   exact cT' (()) (by trivial)
  rw[Zd0,if_neg (show ¬s3=bA [45] from hc2)] at e4
  have hbz:=Ze3 s3 0
  refine wr'<|mw<|Vw (ZcG lk lks)<|mw<|?_
  refine sp' (t:=43) gt pt pt (fun hg43=>?_) (fun hg43=>?_)
  ·have hn3:s3.size≠0:=fun e=>hg43 (hem3.2 e)
   refine s_do gt<|mw<|s_do gt<|?_
   refine V' (v_ix lk lki om om) pt ?_
   refine s_do gt<|Zad mp (Zd9 hbz.1 hbz.2) pt<|Vw (Zak lk lk)<|mw<|sn'<|?_
   refine Zaw lk (fun hc3=>?_) (fun hc3=>?_)
   ·have hc:s3.size≠0∧digB (ZhA s3)=true:=⟨fun e=>hg43 (hem3.2 e),hc3⟩
    rw[if_pos hc] at e4
    refine Zam<|wr'<|mw<|Vw (Zcu lk lks)<|sn'<|?_
    refine cd' lk (fun hc4=>?_) (fun hc4=>?_)
    ·rw[if_pos (show s3=bA [48] from hc4)] at e4
     have hsp:ZbD s3 (bad t3)=(sa,t4):=by cases e4;rfl
     have hrl:rl=⟨#[]⟩:=by cases e4;rfl
     subst hrl
     refine Zav<|mw<|Vw (Zbp lk)<|Vw (Zab lk)<|E' (Zai lk (cvl lkb rfl) (ZaY hid) rfl (nb' rfl) rfl ZbM (ZaJ hid)) ptn<|sn'<|Zav<|mw<|mw<|ZaM mp (ZgT z3 hsp (ZaY hid)) (ZaJ hid) pt<|Vw (Zab lk)<|E' (Zai lk cv (hga (Zan hn) rfl) rfl (nb' rfl) rfl Zeh (hs1 (Zan hn))) ptn<|Zar<|?_
     refine Zaz<|ZaB<|?_
     exact cT' (()) (by trivial)
    rw[if_neg (show ¬s3=bA [48] from hc4)] at e4
    have hsp:ZbD s3 t3=(sa,t4):=by cases e4;rfl
    have hrl:rl=⟨#[]⟩:=by cases e4;rfl
    subst hrl
    refine Zaf<|Zag<|Zav<|mw<|mw<|ZaM mp (ZgT z3 hsp (ZaY hid)) (ZaJ hid) pt<|Vw (Zab lk)<|E' (Zai lk cv (hga (Zan hn) rfl) rfl (nb' rfl) rfl Zeh (hs1 (Zan hn))) ptn<|Zar<|Zaz<|ZaB<|?_
    exact cT' (()) (by trivial)
   have hc:¬(s3.size≠0∧digB (ZhA s3)=true):=fun e=>by have:=e.2;rw[show digB (ZhA s3)=false from hc3] at this;cases this
   refine Zam<|wr'<|mw<|?_
   rw[if_neg hc] at e4
   refine Zad mp (Zc6 (by unfold maxLen;omega)) pt ?_
   refine Vw (Zax lk)<|sn'<|?_
   refine Zaw lk (fun hc5=>?_) (fun hc5=>?_)
   ·have hnm:¬Zcw s3=true:=by simpa using hc5
    rw[if_neg hnm] at e4
    have hq:sa=0∧rl=s3∧t4=bad t3:=by cases e4;exact⟨rfl,rfl,rfl⟩
    obtain⟨rfl,rfl,rfl⟩:=hq
    refine Zav<|mw<|Vw (Zbp lk)<|Vw (Zab lk)<|E' (Zai lk (cvl lkb rfl) (ZaY hid) rfl (nb' rfl) rfl ZbM (ZaJ hid)) ptn<|sn'<|Zav<|mw<|Vw (Zab lk)<|E' (Zai lk cv (hga (Zan hn) rfl) rfl (nb' rfl) rfl ZbM (hs1 (Zan hn))) ptn<|Zar<|Zaz<|ZaB<|?_
    exact cT' (()) (by trivial)
   have hnm:Zcw s3=true:=by simpa using hc5
   rw[if_pos hnm] at e4
   have hq:sa=0∧rl=s3∧t4=t3:=by cases e4;exact⟨rfl,rfl,rfl⟩
   obtain⟨rfl,rfl,rfl⟩:=hq
   refine Zaf<|Zag<|Zav<|mw<|Vw (Zab lk)<|E' (Zai lk cv (hga (Zan hn) rfl) rfl (nb' rfl) rfl ZbM (hs1 (Zan hn))) ptn<|Zar<|Zaz<|ZaB<|?_
   exact cT' (()) (by trivial)
  have hc:¬(s3.size≠0∧digB (ZhA s3)=true):=fun e=>e.1 (hem3.1 (Decidable.of_not_not hg43))
  refine s_no gt pt<|s_no gt pt<|s_no gt pt<|Vw (Zaj lk lkb)<|mw<|sn'<|ZaO lk<|Zam<|wr'<|mw<|?_
  rw[if_neg hc] at e4
  refine Zad mp (Zc6 (by unfold maxLen;omega)) pt ?_
  refine Vw (Zax lk)<|sn'<|?_
  refine Zaw lk (fun hc5=>?_) (fun hc5=>?_)
  ·have hnm:¬Zcw s3=true:=by simpa using hc5
   rw[if_neg hnm] at e4
   have hq:sa=0∧rl=s3∧t4=bad t3:=by cases e4;exact⟨rfl,rfl,rfl⟩
   obtain⟨rfl,rfl,rfl⟩:=hq
   refine Zav<|mw<|Vw (Zbp lk)<|Vw (Zab lk)<|E' (Zai lk (cvl lkb rfl) (ZaY hid) rfl (nb' rfl) rfl ZbM (ZaJ hid)) ptn<|sn'<|Zav<|mw<|Vw (Zab lk)<|E' (Zai lk cv (hga (Zan hn) rfl) rfl (nb' rfl) rfl ZbM (hs1 (Zan hn))) ptn<|Zar<|Zaz<|ZaB<|?_
   exact cT' (()) (by trivial)
  have hnm:Zcw s3=true:=by simpa using hc5
  rw[if_pos hnm] at e4
  have hq:sa=0∧rl=s3∧t4=t3:=by cases e4;exact⟨rfl,rfl,rfl⟩
  obtain⟨rfl,rfl,rfl⟩:=hq
  refine Zaf<|Zag<|Zav<|mw<|Vw (Zab lk)<|E' (Zai lk cv (hga (Zan hn) rfl) rfl (nb' rfl) rfl ZbM (hs1 (Zan hn))) ptn<|Zar<|Zaz<|ZaB<|?_
  exact cT' (()) (by trivial)
 rintro u hq13
 try simp only[sm',Nat.reduceAdd]
 refine wr'<|mw<|ZaM mp (Zc8 e5 (ZaY hid)) (ZaJ hid) pt<|Vw (Zab lk)<|E' (Zai lk cv (hga (Zan hn) rfl) rfl (nb' rfl) rfl Zj9 (hs1 (Zan hn))) ptn<|sn'<|?_
 refine Zoj (ι:=Unit) (fun (u:Unit)=>[]++rn' 60 7) (fun (u:Unit)=>h.set id (takE t6)++[.mk 0 63 10 eraZ,.mk 0 63 10 [iv sh,sv rl,iv sa,sv fm,bv false,iv 0,iv 0,iv 0,iv 0,iv 0]]) (fun (u:Unit)=>True) ?_ ?_
 ·try simp only[sm',Nat.reduceAdd]
  refine wr'<|Vw (Zab lk)<|Vw (Zac lk (hga (Zan hn) rfl) gt3)<|?_
  refine Zad mp (ZfM (by unfold maxLen;omega)) pt ?_
  refine Vw (Zax lk)<|sn'<|?_
  refine Zaw lk (fun hc6=>?_) (fun hc6=>?_)
  ·have hq:t6=bad t5:=by rw[←e6,if_neg (by simpa using hc6)]
   subst hq
   refine Zav<|mw<|Vw (Zbp lk)<|Vw (Zab lk)<|E' (Zai lk (cvl lkb rfl) (ZaY hid) rfl (nb' rfl) rfl ZbM (ZaJ hid)) ptn<|Zar<|ZaB<|?_
   exact cT' (()) (by trivial)
  have hq:t6=t5:=by rw[←e6,if_pos (by simpa using hc6)]
  subst hq
  refine Zaf<|ZaB<|?_
  exact cT' (()) (by trivial)
 rintro u hq16
 try simp only[sm',Nat.reduceAdd]
 refine Zam<|wr'<|mw<|Vw (Zbp lk)<|Vw (Zab lk)<|Vw (Zac lk (ZaY hid) gt0)<|Vw (ZaL lk)<|Vw (ZaR lk lki)<|sn'<|?_
 refine cd' lk (fun hc7=>?_) (fun hc7=>?_)
 ·have hE:tEnd t6=((true,untZ),t6):=by unfold tEnd;rw[if_pos (List.eq_nil_of_length_eq_zero om)]
  rw[hE] at hR
  refine wr'<|Vw (Zab lk)<|E' (Zai lk (cvl lkb rfl) (hga (Zan hn) rfl) rfl (nb' rfl) rfl ZqF (hs1 (Zan hn))) ptn<|sn'<|wr'<|Vw (Zao lk (hga (Zan hn) rfl) Zc0 rfl)<|E' (Zai lk cv (hga (Zan hn) rfl) rfl (nb' rfl) rfl ZfY (hs0 (Zan hn))) ptn<|sn'<|Zaa<|Zah<|?_
  refine Zae (rs1 (rr_c gt (hga (Zan hn) rfl) (ld1 Zc0 rfl))) ?_
  exact⟨_,_,rfl,Zan hn,ZbV hlt ZaK,rfl,by rw[hR] <;> rfl,by rw[hR] <;> rfl⟩
 have hE:tEnd t6=((false,(Zhm t6).1),(Zhm t6).2):=by unfold tEnd;rw[if_neg (by intro e;rw[e] at hc7;exact hc7 rfl)]
 rw[hE,hU] at hR
 refine Zaf<|Zag<|wr'<|mw<|mw<|ZaM mp (Zc8 e7 (ZaY hid)) (ZaJ hid) pt<|?_
 refine ZaM mp (Zot om e8 (ZaY hid)) (ZaJ hid) pt ?_
 refine mw<|sn'<|wr'<|mw<|ZaM mp (Zou e9 (ZaY hid)) (ZaJ hid) pt<|mw<|sn'<|wr'<|mw<|mw<|?_
 refine ZaM mp (Zc8 e10 (ZaY hid)) (ZaJ hid) pt ?_
 refine ZaM mp (Zot om e11 (ZaY hid)) (ZaJ hid) pt ?_
 refine mw<|sn'<|wr'<|mw<|mw<|mw<|Vw (Zau (Zle cv rfl cv rfl cv rfl))<|Vw (Zab lk)<|Vw (ZbK lk)<|E' (Zai lk cv (hga (Zan hn) rfl) rfl (nb' rfl) rfl ZqD (hs1 (Zan hn))) ptn<|sn'<|?_
 refine wr'<|mw<|ZaM mp (Zoy (.inr rfl) o11 e12 (ZaY hid)) (ZaJ hid) pt<|mw<|Vw (ZaS lk gt)<|Vw (ZaS lk gt)<|Vw (Zab lk)<|Vw (ZbK lk)<|E' (Zai lk cv (hga (Zan hn) rfl) rfl (nb' rfl) rfl Zj8 (hs1 (Zan hn))) ptn<|Vw (Zab lk)<|Vw (ZbK lk)<|E' (Zai lk cv (hga (Zan hn) rfl) rfl (nb' rfl) rfl Zj7 (hs1 (Zan hn))) ptn<|Zar<|?_
 refine Zag<|Zam<|wr'<|Vw (Zab lk)<|Vw (ZbK lk)<|Vw (Zac lk (hga (Zan hn) rfl) gt9)<|Vw (ZaR lk lki)<|sn'<|?_
 refine cd' lk (fun hc8=>?_) (fun hc8=>?_)
 ·rw[if_pos hc8] at hR
  refine Zav<|mw<|Vw (Zbp lk)<|Vw (Zab lk)<|E' (Zai lk (cvl lkb rfl) (ZaY hid) rfl (nb' rfl) rfl ZbM (ZaJ hid)) ptn<|sn'<|wr'<|Vw (Zao lk (hga (Zan hn) rfl) Zc0 rfl)<|E' (Zai lk cv (hga (Zan hn) rfl) rfl (nb' rfl) rfl ZfY (hs0 (Zan hn))) ptn<|sn'<|Zaa<|?_
  refine Zae (rs1 (rr_c gt (hga (Zan hn) rfl) (ld1 Zc0 rfl))) ?_
  exact⟨_,_,rfl,Zan hn,ZbV hlt ZaK,rfl,by rw[hR] <;> rfl,by rw[hR] <;> rfl⟩
 rw[if_neg hc8] at hR
 refine Zaf<|Zag<|wr'<|Vw (Zao lk (hga (Zan hn) rfl) Zc0 rfl)<|E' (Zai lk cv (hga (Zan hn) rfl) rfl (nb' rfl) rfl ZfY (hs0 (Zan hn))) ptn<|sn'<|Zaa<|Zae (rs1 (rr_c gt (hga (Zan hn) rfl) (ld1 Zc0 rfl)))<|?_
 exact⟨_,_,rfl,Zan hn,ZbV hlt ZaK,rfl,by rw[hR] <;> rfl,by rw[hR] <;> rfl⟩
end Go.Proofs.YtlekejpogddndaaGreatDoor
end
section
namespace Go.Proofs.YtlekejpogddndaaGreatDoor
open Go.Ab
theorem ZrT (s:ByteArray):ZbH s=if (ZbY s).2.2≠0 then (srcZ,(ZbY s).2.1,(ZbY s).2.2) else outP (ZbY s).1:=rfl
end Go.Proofs.YtlekejpogddndaaGreatDoor
end
section
namespace Go.Proofs.YtlekejpogddndaaGreatDoor
open Go.Ab Go.RowKit
def badN (n:Int):Bool:=!plnN n||decide (n=34)
def ZfF (f:ByteArray):Int:=if (aB f).any (fun c=>badN c.toNat)=true then 1 else if 24<f.size then 2 else 0
def ZjK:List ByteArray→Int
 | []=>0
 | f::fs=>if ZfF f≠0 then ZfF f else ZjK fs
def ZpL (fs:List ByteArray):Int:=if fs.length=0 then 1 else if 12<fs.length then 2 else ZjK fs
end Go.Proofs.YtlekejpogddndaaGreatDoor
end
section
namespace Go.Proofs.YtlekejpogddndaaGreatDoor
open Go.Ab
theorem Zkz {p:Int→Bool} : ∀ {l:Bs}{n:Nat},runL p l=some n → ∀ c∈l.take n,p c.toNat=true∧plnN c.toNat=true
 | [],n,h,c,hc=>by simp at hc
 | x::l,n,h,c,hc=>by
  unfold runL at h
  split at h
  ·rename_i hp
   split at h
   ·rename_i hq
    rw[Option.map_eq_some_iff] at h
    obtain⟨m,hm,rfl⟩:=h
    rw[List.take_succ_cons] at hc
    rcases List.mem_cons.1 hc with rfl | hc
    ·exact⟨hp,hq⟩
    ·exact Zkz hm c hc
   ·cases h
  ·cases h;simp at hc
theorem Zpg {n:Int}:badN n=false↔plnN n=true∧n≠34:=by
 unfold badN;simp
theorem Znx {l:Bs}{x:Nat×Nat×Nat}(h:ZcS l=some x) : ∀ c∈(l.drop x.1).take x.2.1,badN c.toNat=false:=by
 cases l with
 | nil=>cases h
 | cons c l =>
  by_cases hc:(c.toNat:Int)=34
  ·rw[ZcS,if_pos hc] at h
   cases hr:runL quoP l with
   | none=>rw[hr] at h;cases h
   | some n =>
    have:=Zkz hr
    rw[hr] at h
    simp only at h
    split at h
    ·cases h
    ·split at h
     ·cases h
     ·cases h
      intro y hy
      have:=this y (by simpa using hy)
      exact Zpg.2 ⟨this.2,by have:=this.1;unfold quoP at this;simpa using this⟩
  ·rw[ZcS,if_neg hc] at h
   cases hr:runL fldP (c::l) with
   | none=>rw[hr] at h;cases h
   | some n =>
    have:=Zkz hr
    rw[hr] at h
    simp only at h
    split at h
    ·cases h
    ·cases h
     intro y hy
     have:=this y (by simpa using hy)
     exact Zpg.2 ⟨this.2,by have:=this.1;unfold fldP at this;simp at this;exact this.2⟩
theorem Zny {f:ByteArray}(h1 : ∀ c∈aB f,badN c.toNat=false) (h2:f.size≤24):ZfF f=0:=by
 unfold ZfF
 rw[if_neg,if_neg om]
 rw[List.any_eq_true]
 rintro⟨c,hc,hb⟩
 rw[h1 c hc] at hb;cases hb
theorem ZpU {f:ByteArray}(h:ZfF f=0):(∀ c∈aB f,badN c.toNat=false)∧f.size≤24:=by
 unfold ZfF at h
 split at h
 ·cases h
 ·rename_i h1
  split at h
  ·cases h
  ·refine⟨fun c hc=>?_,by omega⟩
   cases hb:badN c.toNat
   ·rfl
   ·exact absurd (List.any_eq_true.2 ⟨c,hc,hb⟩) h1
theorem ZjH : ∀ {k:Nat}{acc:List ByteArray}{l:Bs},(∀ f∈acc,ZfF f=0)→acc.length≤12→(Zja k acc l).2=0→(∀ f∈(Zja k acc l).1,ZfF f=0)∧(Zja k acc l).1.length≤12
 | 0,acc,l,h1,h2,_=>⟨h1,h2⟩
 | k+1,acc,l,h1,h2,h3=>by
  rw[Zja] at h3 ⊢
  split at h3
  ·rename_i hm
   rw[if_pos hm]
   split at h3
   ·cases h3
   ·rename_i x hx
    split at h3
    ·cases h3
    ·rename_i hn
     rw[if_neg hn]
     refine ZjH (fun f hf=>?_) (by simp;omega) h3
     rcases List.mem_append.1 hf with hf | hf
     ·exact h1 f hf
     ·rw[List.mem_singleton] at hf
      subst hf
      refine Zny (fun c hc=>Znx hx c hc) ?_
      unfold cutF
      rw[Zdd,List.length_take];omega
  ·rename_i hm
   rw[if_neg hm]
   exact⟨h1,h2⟩
theorem ZpK {x:Bs}(h:(ZdK x).2=0) (hne:(ZdK x).1≠[]):ZpL (ZdK x).1=0:=by
 obtain⟨h1,h2⟩:=ZjH (k:=13) (acc:=[]) (l:=x) (fun f hf=>by simp at hf) (by simp) h
 unfold ZpL
 have:0<(ZdK x).1.length:=List.length_pos_iff.2 hne
 rw[if_neg om,if_neg (by show ¬12<(Zja 13 [] x).1.length;omega)]
 have : ∀ {fs:List ByteArray},(∀ f∈fs,ZfF f=0)→ZjK fs=0:=by
  intro fs
  induction fs with
  | nil=>intro _;rfl
  | cons f fs ih =>
   intro h
   rw[ZjK,if_neg (by rw[h f (by simp)];simp)]
   exact ih fun g hg=>h g (by simp[hg])
 exact this h1
theorem ZjA : ∀ {n:Int}{l:List Bs}{acc:List Ln},(Zcs n l acc).2.2≠0→(Zcs n l acc).1=[]
 | n,[],acc,h=>absurd rfl h
 | n,x::xs,acc,h=>by
  rw[Zcs] at h ⊢
  split at h
  ·rename_i h1;rw[if_pos h1]
  ·rename_i h1;rw[if_neg h1];exact ZjA h
theorem Zir : ∀ {n:Int}{l:List Bs}{acc:List Ln},(∀ x∈acc,ZpL x.2.2=0) → ∀ x∈(Zcs n l acc).1,ZpL x.2.2=0
 | n,[],acc,h=>h
 | n,y::ys,acc,h=>by
  rw[Zcs]
  split
  ·intro x hx;simp at hx
  ·rename_i h1
   refine Zir fun x hx=>?_
   split at hx
   ·exact h x hx
   ·rename_i h2
    rcases List.mem_append.1 hx with hx | hx
    ·exact h x hx
    ·rw[List.mem_singleton] at hx
     subst hx
     exact ZpK (Decidable.of_not_not h1) h2
theorem Zm3 {s:ByteArray} : ∀ x∈(ZbY s).1,ZpL x.2.2=0:=by
 have:=Zir (n:=1) (l:=cutC 10 (aB s)) (acc:=[]) (fun x hx=>by simp at hx)
 unfold ZbY
 split
 ·intro x hx;simp at hx
 ·split
  ·exact this
  ·split
   ·intro x hx;simp at hx
   ·exact this
end Go.Proofs.YtlekejpogddndaaGreatDoor
end
section
namespace Go.Proofs.YtlekejpogddndaaGreatDoor
open Go.Ab Go.RowKit Civ
def PT {α:Type}(f:TS→α×TS) (P:α→Prop):Prop := ∀ t,okTS t→P (f t).1∧okTS (f t).2
theorem PT.bind {α β:Type}{f:TS→α×TS}{k:α→TS→β×TS}{P:α→Prop}{Q:β→Prop}(h:PT f P) (hk : ∀ a,P a→PT (k a) Q):PT (Zb0 f k) Q:=fun t ho=>hk _ (h t ho).1 _ (h t ho).2
theorem PT.ret {α:Type}{P:α→Prop}{a:α}(h:P a):PT (ret2 a) P:=fun t ho=>⟨h,ho⟩
theorem pt_next:PT ZaP (fun s=>s.size≤24):=fun t ho=>Za6 ho rfl
theorem pt_name:PT ZeR (fun s=>s.size≤24):=fun t ho=>⟨(Za6 ho (s:=(ZaP t).1) (u:=(ZaP t).2) rfl).1,Zgl ho rfl⟩
theorem pt_num (s:ByteArray) (a b:Int):PT (tNum s a b) (fun _=>True):=fun t ho=>⟨trivial,ZhN ho rfl⟩
theorem pt_year:PT Zrk (fun _=>True):=pt_next.bind (k:=fun s=>tNum s 4 4) fun s _=>pt_num s 4 4
theorem pt_day:PT tDay (fun _=>True):=pt_next.bind (k:=fun s=>tNum s 1 2) fun s _=>pt_num s 1 2
theorem pt_to (f:Int):PT (tToN f) (fun _=>True):=pt_next.bind (k:=tTo f) fun s _=>fun t ho=>⟨trivial,ZrX ho rfl⟩
theorem pt_month:PT ZdA (fun _=>True):=fun t ho=>⟨trivial,ZgZ ho rfl⟩
theorem pt_form:PT ZgW (fun _=>True):=fun t ho=>⟨trivial,ZlU ho rfl⟩
theorem ZoE (d:Int):PT (Zc5 d) (fun _=>True):=fun t ho=>⟨trivial,Zg0 ho rfl⟩
theorem pt_span:PT Zrm (fun _=>True):=pt_next.bind (k:=ZbD) fun s _=>fun t ho=>⟨trivial,Zim ho rfl⟩
theorem pt_letter:PT Zc9 (fun s=>s.size≤24):=by
 intro t ho
 have h:=Za6 ho (s:=(ZaP t).1) (u:=(ZaP t).2) rfl
 unfold Zc9
 refine⟨?_,?_⟩
 ·dsimp only;split
  ·decide
  ·exact h.1
 ·dsimp only;split
  ·exact h.2
  ·exact h.2
def okRul (r:Rul):Prop:=r.1.size≤maxLen∧r.2.2.2.2.2.2.2.2.size≤maxLen
theorem Zis {n:Nat}(h:n≤24):n≤maxLen:=by unfold maxLen;omega
theorem pt_rule:PT Zkp okRul :=
 pt_name.bind fun nm h1=>pt_year.bind fun f _=>(pt_to f).bind fun _ _=>pt_month.bind fun m _=>pt_form.bind fun k _=>(ZoE 1).bind fun c _=>pt_span.bind fun sv _=>pt_letter.bind fun l h2=>PT.ret ⟨Zis h1,Zis h2⟩
theorem pt_shift:PT Zf9 (fun _=>True):=fun t ho=>⟨trivial,Zjw ho rfl⟩
theorem pt_rules:PT Zrn (fun p=>p.2.size≤24):=by
 refine pt_next.bind (k:=Zd0) fun s hs t ho=>⟨?_,Zjx ho rfl⟩
 unfold Zd0
 split
 ·exact Nat.zero_le 24
 ·split
  ·exact Nat.zero_le 24
  ·exact hs
theorem pt_format:PT Zh6 (fun s=>s.size≤24):=by
 intro t ho
 have h:=Za6 ho (s:=(ZaP t).1) (u:=(ZaP t).2) rfl
 unfold Zh6
 refine⟨h.1,?_⟩
 dsimp only;split
 ·exact h.2
 ·exact h.2
theorem pt_until:PT Zhm (fun _=>True) :=
 pt_year.bind fun y _=>pt_month.bind fun m _=>pt_day.bind fun d _=>(ZoE 2).bind fun c _=>PT.bind (P:=fun _=>True) (fun t ho=>⟨trivial,by unfold Zrl;dsimp only;split <;> exact ho⟩) fun _ _=>PT.ret trivial
theorem pt_end:PT tEnd (fun _=>True):=by
 intro t ho
 refine⟨trivial,?_⟩
 unfold tEnd
 split
 ·exact ho
 ·exact (pt_until t ho).2
theorem pt_era:PT tEra ZrY :=
 pt_shift.bind fun sh _=>pt_rules.bind fun r h1=>pt_format.bind fun f h2=>pt_end.bind fun u _=>PT.ret ⟨Zis h1,Zis h2⟩
theorem ZlV {s:Src}{x:Era}(h:Zeq s) (hx:ZrY x):Zeq (ZcB s x).1:=by
 refine⟨h.1,?_,h.2.2⟩
 show ∀ z∈Zpk s.2.1 x,_
 obtain⟨a,z,l⟩:=s
 have h2:=h.2.1
 simp only at h2 ⊢
 rcases List.eq_nil_or_concat z with rfl | ⟨i,y,rfl⟩
 ·intro z hz;cases hz
 ·rw[List.concat_eq_append,ZfU]
  intro z hz
  rcases List.mem_append.1 hz with hz | hz
  ·exact h2 z (by rw[List.concat_eq_append];exact List.mem_append_left _ hz)
  ·rw[List.mem_singleton] at hz
   subst hz
   have hy:=h2 y (by rw[List.concat_eq_append];simp)
   refine⟨hy.1,fun e he=>?_⟩
   rcases List.mem_append.1 he with he | he
   ·exact hy.2 e he
   ·rw[List.mem_singleton] at he;subst he;exact hx
theorem pt_body {p:PS}(h:Zeq p.1):PT (ZeB p) (fun q=>Zeq q.1):=by
 unfold ZeB
 split
 ·exact pt_era.bind fun x hx=>PT.ret (ZlV h hx)
 ·refine pt_next.bind fun w _=>?_
  split
  ·refine pt_rule.bind fun r hr=>PT.ret ⟨fun y hy=>?_,h.2.1,h.2.2⟩
   rcases List.mem_append.1 hy with hy | hy
   ·exact h.1 y hy
   ·rw[List.mem_singleton] at hy;subst hy;exact hr
  ·split
   ·refine pt_name.bind fun n hn=>pt_era.bind fun x hx=>PT.ret (ZlV ⟨h.1,fun y hy=>?_,h.2.2⟩ hx)
    rcases List.mem_append.1 hy with hy | hy
    ·exact h.2.1 y hy
    ·rw[List.mem_singleton] at hy;subst hy;exact⟨Zis hn,fun e he=>by cases he⟩
   ·split
    ·refine pt_name.bind fun a ha=>pt_name.bind fun b hb=>PT.ret ⟨h.1,h.2.1,fun y hy=>?_⟩
     rcases List.mem_append.1 hy with hy | hy
     ·exact h.2.2 y hy
     ·rw[List.mem_singleton] at hy;subst hy;exact⟨Zis ha,Zis hb⟩
    ·exact fun t ho=>⟨h,ho⟩
theorem Za4 {p q:PS}{x:Ln}{u:TS}(hB:ZeB p (x.2.2,false)=(q,u)) (h:u.2=true∨u.1≠[]∨x.2.1≠p.2):Zl6 p x=none:=Zsi (by unfold badT;rw[hB];exact h)
theorem Zdo {p q:PS}{x:Ln}{u:TS}(hB:ZeB p (x.2.2,false)=(q,u)) (h1:u.2=false) (h2:u.1=[]) (h3:x.2.1=p.2):Zl6 p x=some q:=by
 have:=lineR_ok (p:=p) (x:=x) (by unfold badT;rw[hB];simp[h1,h2,h3])
 rw[this,hB]
def curS (s:Src) (o:Option Zon):Src:=(s.1,s.2.1++o.toList,s.2.2)
theorem ZeX {s:Src}:curS s none=s:=by unfold curS;simp
def zC (N v:Nat):Option Zon→List AV
 | none=>[]
 | some z=>[sv z.1,.own (N+5) v z.2.length]
def eC:Option Zon→List Era
 | none=>[]
 | some z=>z.2
theorem Zsb {n:Nat}{b:List AV}(hb:AV.ltL n b=true) : ∀ {a:List AV},AV.ltL n a=true→AV.ltL n (a++b)=true
 | [],_=>hb
 | x::a,h=>by
  simp only[List.cons_append,AV.ltL,Bool.and_eq_true] at h ⊢
  exact⟨h.1,Zsb hb h.2⟩
theorem ZgQ {N v:Nat}{l:List Zon}{o:Option Zon}:AV.ltL (N+6) (rows zonC l++zC N v o)=true:=by
 refine Zsb ?_ (Zbi l)
 cases o <;> simp[zC,AV.ltL,AV.lt]
theorem Zli {N v:Nat}{l:List Zon}{o:Option Zon}:(rows zonC l++zC N v o).length=(l.length+o.toList.length)*2:=by
 rw[List.length_append,ZgP]
 cases o <;> simp[zC] <;> omega
theorem zc_at {l:List Zon}{a b:AV}{off:Nat}(h:off=l.length*2+1):(rows zonC l++[a,b])[off]?=some b:=by
 subst h
 rw[List.getElem?_append_right (by rw[ZgP];omega),ZgP,Nat.add_sub_cancel_left];rfl
theorem zc_set {l:List Zon}{a b c:AV}{off:Nat}(h:off=l.length*2+1):setCells (rows zonC l++[a,b]) off [c]=rows zonC l++[a,c]:=by
 subst h
 simp only[setCells]
 rw[List.set_append_right _ _ (by rw[ZgP];omega),ZgP,Nat.add_sub_cancel_left];rfl
theorem zc_put {l:List Zon}{a b c:AV}:aPut (rows zonC l++[a,b]) (some (l.length*2+1)) c=rows zonC l++[a,c]:=zc_set rfl
theorem zc_at2 {l:List Zon}{N v:Nat}{a b:AV}{off:Nat}(h:off=l.length*2+1):(rows zonC l++zC N v none++[a,b])[off]?=some b:=by
 rw[show rows zonC l++zC N v none=rows zonC l from List.append_nil _];exact zc_at h
theorem zc_put2 {l:List Zon}{N v:Nat}{a b c:AV}:aPut (rows zonC l++zC N v none++[a,b]) (some (l.length*2+1)) c=rows zonC l++[a,c]:=by
 rw[show rows zonC l++zC N v none=rows zonC l from List.append_nil _];exact zc_put
theorem ZlB {s:ByteArray} : ∀ x∈(ZbY s).1,∀ f∈x.2.2,f.size≤24:=by
 intro x hx f hf
 have h:=Zm3 x hx
 unfold ZpL at h
 split at h
 ·cases h
 ·split at h
  ·cases h
  ·have : ∀ {fs:List ByteArray},ZjK fs=0 → ∀ f∈fs,ZfF f=0:=by
    intro fs
    induction fs with
    | nil=>intro _ f hf;cases hf
    | cons g fs ih =>
     intro h f hf
     rw[ZjK] at h
     split at h
     ·rename_i h1;exact absurd h h1
     ·rename_i h1
      rcases List.mem_cons.1 hf with rfl | hf
      ·exact Decidable.of_not_not h1
      ·exact ih h f hf
   exact (ZpU (this h f hf)).2
theorem Zrp {s:ByteArray}:(ZbY s).1.length≤200:=by
 unfold ZbY
 split
 ·simp
 ·split
  ·rename_i h2;rw[ZjA h2];simp
  ·split
   ·simp
   ·omega
end Go.Proofs.YtlekejpogddndaaGreatDoor
end
section
namespace Go.Proofs.YtlekejpogddndaaGreatDoor
open Go.Ab Go.RowKit Civ
attribute [local simp] Zbg Zbr Zbi Zbq ZbT ZfP ZgQ
section
theorem ZiW {τ:Operand→AV}:Zas τ [] [(.sl 0 0 true []),(.sl 0 0 true []),(.sl 0 0 true [])]=some [(.sl 0 0 true []),(.sl 0 0 true []),(.sl 0 0 true [])]:=rfl
theorem ZaT {a0 a1 a2 c0 c1 c2:AV}{l:List AV}:setCells (a0::a1::a2::l) 0 [c0,c1,c2]=c0::c1::c2::l:=rfl
theorem ZaQ {a0 a1 a2:AV}{l:List AV}:((a0::a1::a2::l).drop 0).take 3=[a0,a1,a2]:=rfl
theorem ZiV {τ:Operand→AV}{y0:Operand}{x0_0:AV}(h0:Zat (τ y0)=some [x0_0]) (l0:[x0_0].all leaf=true):Zas τ [(0,1,y0)] [(.sl 0 0 true []),(.v (.bool false))]=some [x0_0,(.v (.bool false))]:=by
 simp only[Zas,h0,l0]
 rfl
theorem Zj5 {a0 a1 c0 c1:AV}{l:List AV}:setCells (a0::a1::l) 0 [c0,c1]=c0::c1::l:=rfl
theorem ZiT {τ:Operand→AV}{y0:Operand}{x0_0 x0_1 x0_2 x0_3 x0_4 x0_5 x0_6 x0_7 x0_8 x0_9 x0_10:AV}(h0:Zat (τ y0)=some [x0_0,x0_1,x0_2,x0_3,x0_4,x0_5,x0_6,x0_7,x0_8,x0_9,x0_10]) (l0:[x0_0,x0_1,x0_2,x0_3,x0_4,x0_5,x0_6,x0_7,x0_8,x0_9,x0_10].all leaf=true):Zas τ [(0,11,y0)] [(.v (.string ⟨#[]⟩)),(.v (.int .i64 0)),(.v (.int .i64 0)),(.v (.int .i64 0)),(.v (.int .i64 0)),(.v (.int .i64 0)),(.v (.int .i64 0)),(.v (.int .i64 0)),(.v (.int .i64 0)),(.v (.int .i64 0)),(.v (.string ⟨#[]⟩))]=some [x0_0,x0_1,x0_2,x0_3,x0_4,x0_5,x0_6,x0_7,x0_8,x0_9,x0_10]:=by
 simp only[Zas,h0,l0]
 rfl
theorem Zqz {a0 a1 a2 a3 a4 a5 a6 a7 a8 a9 a10:AV}{l:List AV}:(a0::a1::a2::a3::a4::a5::a6::a7::a8::a9::a10::l).take 11=[a0,a1,a2,a3,a4,a5,a6,a7,a8,a9,a10]:=rfl
theorem Zj6 {a0 c0:AV}{l:List AV}:setCells (a0::l) 0 [c0]=c0::l:=rfl
theorem ZaD {τ:Operand→AV}:Zas τ [] [(.sl 0 0 true []),(.sl 0 0 true []),(.sl 0 0 true [])]=some [(.sl 0 0 true []),(.sl 0 0 true []),(.sl 0 0 true [])]:=rfl
theorem ZiS {τ:Operand→AV}{y0:Operand}{x0_0:AV}(h0:Zat (τ y0)=some [x0_0]) (l0:[x0_0].all leaf=true):Zas τ [(0,1,y0)] [(.v (.string ⟨#[]⟩)),(.sl 0 0 true [])]=some [x0_0,(.sl 0 0 true [])]:=by
 simp only[Zas,h0,l0]
 rfl
theorem ZiQ {a0 a1 a2 a3 a4 a5 a6 a7 a8 a9 c0 c1 c2 c3 c4 c5 c6 c7 c8 c9:AV}{l:List AV}:setCells (a0::a1::a2::a3::a4::a5::a6::a7::a8::a9::l) 0 [c0,c1,c2,c3,c4,c5,c6,c7,c8,c9]=c0::c1::c2::c3::c4::c5::c6::c7::c8::c9::l:=rfl
theorem ZiP {a0 a1 a2 a3 a4 a5 a6 a7 a8 a9:AV}{l:List AV}:((a0::a1::a2::a3::a4::a5::a6::a7::a8::a9::l).drop 0).take 10=[a0,a1,a2,a3,a4,a5,a6,a7,a8,a9]:=rfl
theorem ZiR {τ:Operand→AV}{y0:Operand}{x0_0 x0_1 x0_2 x0_3 x0_4 x0_5 x0_6 x0_7 x0_8 x0_9:AV}(h0:Zat (τ y0)=some [x0_0,x0_1,x0_2,x0_3,x0_4,x0_5,x0_6,x0_7,x0_8,x0_9]) (l0:[x0_0,x0_1,x0_2,x0_3,x0_4,x0_5,x0_6,x0_7,x0_8,x0_9].all leaf=true):Zas τ [(0,10,y0)] [(.v (.int .i64 0)),(.v (.string ⟨#[]⟩)),(.v (.int .i64 0)),(.v (.string ⟨#[]⟩)),(.v (.bool false)),(.v (.int .i64 0)),(.v (.int .i64 0)),(.v (.int .i64 0)),(.v (.int .i64 0)),(.v (.int .i64 0))]=some [x0_0,x0_1,x0_2,x0_3,x0_4,x0_5,x0_6,x0_7,x0_8,x0_9]:=by
 simp only[Zas,h0,l0]
 rfl
theorem Zj3 {a0 a1 a2 a3 a4 a5 a6 a7 a8 a9:AV}{l:List AV}:(a0::a1::a2::a3::a4::a5::a6::a7::a8::a9::l).take 10=[a0,a1,a2,a3,a4,a5,a6,a7,a8,a9]:=rfl
theorem Zfq {a0 a1 c0:AV}{l:List AV}:setCells (a0::a1::l) 1 [c0]=a0::c0::l:=rfl
theorem Zj4 {a0 a1:AV}{l:List AV}:((a0::a1::l).drop 0).take 2=[a0,a1]:=rfl
theorem ZhH {τ:Operand→AV}{y0:Operand}{x0_0 x0_1:AV}(h0:Zat (τ y0)=some [x0_0,x0_1]) (l0:[x0_0,x0_1].all leaf=true):Zas τ [(0,2,y0)] [(.v (.string ⟨#[]⟩)),(.sl 0 0 true [])]=some [x0_0,x0_1]:=by
 simp only[Zas,h0,l0]
 rfl
theorem Zto {h:AH}{n:Nat}(hn:h.length=n) {e0 e1 e2 e3 e4 e5 e6 e7 e8 e9:Ent}:(h++[e0,e1,e2,e3,e4,e5,e6,e7,e8,e9]).length=n+10:=by subst hn;simp
theorem Ztp {h:AH}{e0 e1 e2 e3 e4 e5 e6 e7 e8 e9 e:Ent}:(h++[e0,e1,e2,e3,e4,e5,e6,e7,e8,e9])++[e]=h++[e0,e1,e2,e3,e4,e5,e6,e7,e8,e9,e]:=by simp
theorem ZmC {a0 a1:AV}{l:List AV}:(a0::a1::l).take 2=[a0,a1]:=rfl
theorem ZhG {τ:Operand→AV}{y0:Operand}{x0_0 x0_1:AV}(h0:Zat (τ y0)=some [x0_0,x0_1]) (l0:[x0_0,x0_1].all leaf=true):Zas τ [(0,2,y0)] [(.v (.string ⟨#[]⟩)),(.v (.string ⟨#[]⟩))]=some [x0_0,x0_1]:=by
 simp only[Zas,h0,l0]
 rfl
theorem ZqA {a0 a1 a2 c0:AV}{l:List AV}:setCells (a0::a1::a2::l) 2 [c0]=a0::a1::c0::l:=rfl
theorem ZiU {τ:Operand→AV}{y0:Operand}{x0_0 x0_1 x0_2 x0_3 x0_4 x0_5 x0_6 x0_7 x0_8 x0_9:AV}(h0:Zat (τ y0)=some [x0_0,x0_1,x0_2,x0_3,x0_4,x0_5,x0_6,x0_7,x0_8,x0_9]) (l0:[x0_0,x0_1,x0_2,x0_3,x0_4,x0_5,x0_6,x0_7,x0_8,x0_9].all leaf=true):Zas τ [(0,10,y0)] [(.v (.int .i64 0)),(.v (.string ⟨#[]⟩)),(.v (.int .i64 0)),(.v (.string ⟨#[]⟩)),(.v (.bool false)),(.v (.int .i64 0)),(.v (.int .i64 0)),(.v (.int .i64 0)),(.v (.int .i64 0)),(.v (.int .i64 0))]=some [x0_0,x0_1,x0_2,x0_3,x0_4,x0_5,x0_6,x0_7,x0_8,x0_9]:=by
 simp only[Zas,h0,l0]
 rfl
theorem Ztn { e:Ent}:([]:AH)++[e]=[e]:=rfl
theorem ZqB {e0 e1 e2 e3 e4 e5 e6 e7 d0:Ent}:([e0,e1,e2,e3,e4,e5,e6,e7]:AH)++[d0]=[e0,e1,e2,e3,e4,e5,e6,e7,d0]:=rfl
theorem ZhF {τ:Operand→AV}:Zas τ [] [(.sl 0 0 true []),(.sl 0 0 true []),(.sl 0 0 true [])]=some [(.sl 0 0 true []),(.sl 0 0 true []),(.sl 0 0 true [])]:=rfl
theorem ZhE {τ:Operand→AV}:Zas τ [] [(.sl 0 0 true []),(.sl 0 0 true []),(.sl 0 0 true [])]=some [(.sl 0 0 true []),(.sl 0 0 true []),(.sl 0 0 true [])]:=rfl
end
def c130:AC:=(Sr [Oo 2 (.new 26 3 [(.sl 0 0 true []),(.sl 0 0 true []),(.sl 0 0 true [])]),Mc 3 0,Mc 4 0] (Sr [Mv 20 0,Cl 21 199 [(.tmp 20)],Mv 19 21,Ex 22 19 0,Ex 23 19 1,Ex 24 19 2,Mv 5 22,Mv 6 23,Mv 7 24] (.seq (Sr [Mv 25 7,Bc 26 .neq 25 0] (Cd 26 (Sr [Oo 27 (.build [(.sl 0 0 true []),(.sl 0 0 true []),(.sl 0 0 true [])] []),Mv 28 6,Mv 29 7,⟨none,none,(.store 3 (.tmp 2) (.tmp 27))⟩,Mv 3 28,Mv 4 29] .ret) .skip)) (Sr [Oo 8 (.new 26 3 [(.sl 0 0 true []),(.sl 0 0 true []),(.sl 0 0 true [])])] (Sr [Mb 9 false] (.seq (Sr [Mc 10 0] (.block 0 (.loop (.seq (Sr [Mv 30 10,Mv 31 5,Oo 32 (.len false (.tmp 31)),Bn 33 .lss 30 32] (Cd 33 .skip (.exit 0))) (.seq (.block 1 (Sr [Mv 36 5,Mv 37 10,Oo 38 (.ia 3 (.tmp 36) (.tmp 37)),Fa 39 2 38,Ld 40 39,Oo 41 (.build [(.sl 0 0 true []),(.v (.bool false))] [(0,(1,(.tmp 40)))]),Oo 11 (.new 250 2 [(.sl 0 0 true []),(.v (.bool false))]),⟨none,none,(.store 2 (.tmp 11) (.tmp 41))⟩] (Sr [Mv 42 9,Mv 12 42] (Sr [Ms 13] (.seq (Sr [Mv 43 9,Oo 44 (.un .not (.tmp 43))] (Cd 44 (.reg [Cl 45 200 [(.tmp 11)],Mv 13 45]) .skip)) (.seq (.block 2 (Sr [Mv 48 9,Mv 47 48] (Cd 47 (Sr [Fa 49 1 8,Ld 50 49,Oo 51 (.len false (.tmp 50)),Bc 52 .sub 51 1,Mv 14 52] (Sr [Cl 53 201 [(.tmp 11)],Oo 15 (.new 63 10 [(iv 0),Ss,(iv 0),Ss,(.v (.bool false)),(iv 0),(iv 0),(iv 0),(iv 0),(iv 0)]),⟨none,none,(.store 10 (.tmp 15) (.tmp 53))⟩] (.seq (.drw [Fa 54 1 8,Oo 55 (.loadR false 1 (.tmp 54)),Mv 56 14,Fa 57 1 8,Ld 58 57,Mv 59 14,Oo 60 (.ia 2 (.tmp 58) (.tmp 59)),Fa 61 1 60,Ld 62 61,Oo 63 (.load true 10 (.tmp 15)),Oo 64 (.lit 63 10 1 [(iv 0),Ss,(iv 0),Ss,(.v (.bool false)),(iv 0),(iv 0),(iv 0),(iv 0),(iv 0)] [(0,(10,(.tmp 63)))])] [true,false,false,false] [Oo 65 (.app 63 10 96 (.tmp 62) (.tmp 64)),Oo 66 (.ia 2 (.tmp 55) (.tmp 56)),Fa 67 1 66,Sc 67 65]) (.reg [Fa 68 4 15,Ld 69 68,Oo 70 (.un .not (.tmp 69)),Mv 9 70])))) (Sr [Mv 72 13,Oo 73 (.bin .eql (.tmp 72) (.const (.string ⟨#[82,117,108,101]⟩))),Mv 71 73] (Cd 71 (.orPan (.drw [Fa 74 0 8,Oo 75 (.loadR false 1 (.tmp 74))] [true,true,false,false,false] [Cl 76 202 [(.tmp 11)],Oo 77 (.lit 36 11 1 [Ss,(iv 0),(iv 0),(iv 0),(iv 0),(iv 0),(iv 0),(iv 0),(iv 0),(iv 0),Ss] [(0,(11,(.tmp 76)))]),Oo 78 (.app 36 11 104 (.tmp 75) (.tmp 77)),Fa 79 0 8,Sc 79 78]) (.tmp 11) 202 [Fa 74 0 8,Ld 75 74,Mv 76 11,Mb 77 false,Mb 78 false,Mb 79 false,⟨none,none,(.mv (.const (.bool false)))⟩] 76) (Sr [Mv 81 13,Oo 82 (.bin .eql (.tmp 81) (.const (.string ⟨#[90,111,110,101]⟩))),Mv 80 82] (Cd 80 (Sr [Cl 83 203 [(.tmp 11)],Oo 84 (.build [Ss,(.sl 0 0 true [])] [(0,(1,(.tmp 83)))]),Oo 16 (.new 53 2 [Ss,(.sl 0 0 true [])]),⟨none,none,(.store 2 (.tmp 16) (.tmp 84))⟩] (Sr [Cl 85 201 [(.tmp 11)],Oo 17 (.new 63 10 [(iv 0),Ss,(iv 0),Ss,(.v (.bool false)),(iv 0),(iv 0),(iv 0),(iv 0),(iv 0)]),⟨none,none,(.store 10 (.tmp 17) (.tmp 85))⟩] (Sr [Fa 86 1 16,Ld 87 86,Oo 88 (.load true 10 (.tmp 17)),Oo 89 (.lit 63 10 1 [(iv 0),Ss,(iv 0),Ss,(.v (.bool false)),(iv 0),(iv 0),(iv 0),(iv 0),(iv 0)] [(0,(10,(.tmp 88)))]),Oo 90 (.app 63 10 96 (.tmp 87) (.tmp 89)),Fa 91 1 16,Sc 91 90] (Sr [Fa 92 1 8,Ld 93 92,Oo 94 (.load true 2 (.tmp 16)),Oo 95 (.lit 53 2 1 [Ss,(.sl 0 0 true [])] [(0,(2,(.tmp 94)))]),Oo 96 (.app 53 2 40 (.tmp 93) (.tmp 95)),Fa 97 1 8,Sc 97 96] (.reg [Fa 98 4 17,Ld 99 98,Oo 100 (.un .not (.tmp 99)),Mv 9 100]))))) (Sr [Mv 102 13,Oo 103 (.bin .eql (.tmp 102) (.const (.string ⟨#[76,105,110,107]⟩))),Mv 101 103] (Cd 101 (Sr [Oo 18 (.new 129 2 [Ss,Ss])] (Sr [Cl 104 203 [(.tmp 11)],Fa 105 0 18,Sc 105 104] (Sr [Cl 106 203 [(.tmp 11)],Fa 107 1 18,Sc 107 106] (.reg [Fa 108 2 8,Ld 109 108,Oo 110 (.load true 2 (.tmp 18)),Oo 111 (.lit 129 2 1 [Ss,Ss] [(0,(2,(.tmp 110)))]),Oo 112 (.app 129 2 32 (.tmp 109) (.tmp 111)),Fa 113 2 8,Sc 113 112])))) (.reg [Fa 46 1 11,⟨none,none,(.store 1 (.tmp 46) (.const (.bool true)))⟩])))))))))) (Sr [Fa 114 1 11,Ld 115 114,Mv 116 115,Of 117 116 (.fa 0 (.tmp 11)),Of 118 116 (.load false 1 (.tmp 117)),Of 119 116 (.len false (.tmp 118)),Of 120 116 (.bin .gtr (.tmp 119) (Ci 0)),Oo 121 (.pick (.tmp 116) (.const (.bool true)) (.tmp 120)),Mv 122 121,Of 123 122 (mt 5),Of 124 122 (mt 10),Of 125 122 (.ia 3 (.tmp 123) (.tmp 124)),Of 126 122 (.fa 1 (.tmp 125)),Of 127 122 (.load false 1 (.tmp 126)),Of 128 122 (mt 12),Of 129 122 (.eqb true (.tmp 127) (.tmp 128)),Oo 130 (.pick (.tmp 122) (.const (.bool true)) (.tmp 129))] (Cd 130 (.seq (.drwU [[],[0],[0,1],[0],[0],[0],[1,2,3,4,5],[],[]] [Oo 131 (.build [(.sl 0 0 true []),(.sl 0 0 true []),(.sl 0 0 true [])] []),Mv 132 5,Mv 133 10,Oo 134 (.ia 3 (.tmp 132) (.tmp 133)),Fa 135 0 134,Ld 136 135,⟨none,none,(.store 3 (.tmp 2) (.tmp 131))⟩,Mv 3 136,Mc 4 1]) .ret) .skip)))))))) (.reg [Mv 34 10,Bc 35 .add 34 1,Mv 10 35])))))) (.seq (Sr [Mv 137 9] (Cd 137 (Sr [Oo 138 (.build [(.sl 0 0 true []),(.sl 0 0 true []),(.sl 0 0 true [])] []),⟨none,none,(.store 3 (.tmp 2) (.tmp 138))⟩,Mc 3 0,Mc 4 1] .ret) .skip)) (Sr [Oo 139 (.load true 3 (.tmp 8)),Cl 140 79 [(.tmp 139)],Mv 7 140] (.seq (Sr [Mv 141 7,Bc 142 .neq 141 0] (Cd 142 (Sr [Oo 143 (.build [(.sl 0 0 true []),(.sl 0 0 true []),(.sl 0 0 true [])] []),Mv 144 7,⟨none,none,(.store 3 (.tmp 2) (.tmp 143))⟩,Mc 3 0,Mv 4 144] .ret) .skip)) (Sr [Oo 145 (.load true 3 (.tmp 8)),Mv 146 7,⟨none,none,(.store 3 (.tmp 2) (.tmp 145))⟩,Mc 3 0,Mv 4 146] .ret))))))))))
theorem k130:ZaA Tryz.prog 130=some ⟨c130,[(.cell 2 true 3),(.tmp 3),(.tmp 4)],147⟩:=by kernel_rfl
theorem trule_e {t t1:TS}{r:Rul}{id:Nat}{h:AH}(ho:okTS t) (he:Zkp t=(r,t1)) (h1:h[id]?=some (takE t)):ACalls Tryz.prog 202 [.ptr id 0 0] h fun x h'=>x=.ret (.agg (rulC r))∧h'=h.set id (takE t1):=by
 have:=trule_a ho h1
 rw[he] at this
 exact this
theorem tera_e {t t1:TS}{r:Era}{id:Nat}{h:AH}(ho:okTS t) (he:tEra t=(r,t1)) (h1:h[id]?=some (takE t)):ACalls Tryz.prog 201 [.ptr id 0 0] h fun x h'=>x=.ret (.agg (eraC r))∧h'=h.set id (takE t1):=by
 have:=tera_a ho h1
 rw[he] at this
 exact this
theorem ZbJ {n e:AV}:Wk (.tup [.agg [.sl 0 0 true [],.sl 0 0 true [],.sl 0 0 true []],n,e]) (.tup [.agg (srcC srcZ),n,e]) :=
 Wk.tup (wkw (Wk.agg (wkw Wk.nilF (wkw Wk.nilF (wkw Wk.nilF wk0)))) (wk1 rfl (wk1 rfl wk0)))
theorem okSrc_Z:Zeq (curS srcZ none):=by rw[ZeX];exact⟨fun _ h=>(by cases h),fun _ h=>(by cases h),fun _ h=>(by cases h)⟩
theorem lt26 {N:Nat}:decide (N+2<N+6)=true:=by simp
attribute [local simp] lt26
theorem lt36 {N:Nat}:decide (N+3<N+6)=true:=by simp
attribute [local simp] lt36
theorem lt46 {N:Nat}:decide (N+4<N+6)=true:=by simp
attribute [local simp] lt46
theorem lt56 {N:Nat}:decide (N+5<N+6)=true:=by simp
attribute [local simp] lt56
theorem rparse_a {s:ByteArray}{h:AH}:Ac 130 [sv s] h (.tup [.agg (srcC (ZbH s).1),iv (ZbH s).2.1,iv (ZbH s).2.2]):=by
 obtain⟨L,hL⟩ : ∃ L,L=(ZbY s).1:=⟨_,rfl⟩
 have hf24:=ZlB (s:=s)
 have hL200:=Zrp (s:=s)
 rw[←hL] at hf24 hL200
 have hV0:=ZrT s
 rw[←hL] at hV0
 refine tW' k130 fun N hn hlt hlA hbd=>?_
 simp only[tb'] at hbd ⊢
 refine wr'<|E' (ZaU (hl0 hn) ha0) pt<|mw<|mw<|sn'<|wr'<|mw<|Zad mp (Zpz) pt<|?_
 rw[←hL]
 refine mw<|Vw (ZaS lk gt)<|Vw (ZaS lk gt)<|Vw (ZaS lk gt)<|mw<|mw<|mw<|sn'<|Zam<|wr'<|mw<|Vw (ZaW lk lki)<|?_
 refine sn' ?_
 refine cd' lk (fun hc1=>?_) (fun hc1=>?_)
 ·have hV:ZbH s=(srcZ,(ZbY s).2.1,(ZbY s).2.2):=by rw[hV0];exact if_pos hc1
  refine wr'<|Vw (Zau ZiW)<|mw<|mw<|E' (Zai lk cv gx rfl (nb' rfl) rfl ZaT (hs0 hn)) ptn<|mw<|mw<|sn'<|Zaa<|Zah<|Zae (rsn (rm1 (rr_c gt gx (ld1 ZaQ rfl)) (rm1 (rr_t gt) (rm1 (rr_t gt) rm0))))<|rtW'<|?_
  rw[hV];exact ZbJ
 have hV:ZbH s=outP L:=by rw[hV0];exact if_neg hc1
 clear hV0
 refine Zaf<|Zag<|wr'<|E' (ZaU (hl1 hn) ha1) pt<|Zar<|?_
 refine Za7 (ALe.trans (ALe.own0Cell (st':=11) (ty:=36) gx gt0 (hl2 hn) pt0 (Eq.trans (congrArg (fun z=>List.set z _ _) ha2) (hs1 hn))) (ALe.trans (ALe.own0Cell (st':=2) (ty:=53) gx gt1 (hl3 hn) pt1 (Eq.trans (congrArg (fun z=>List.set z _ _) ha3) (hs1 hn))) (ALe.own0Cell (st':=2) (ty:=129) gx gt2 (hl4 hn) pt2 (Eq.trans (congrArg (fun z=>List.set z _ _) ha4) (hs1 hn))))) ?_
 refine wr'<|mv' lkb pt9<|Zar<|Za7 ((ALe.newEnt (ty:=63) (st:=10) ha5))<|Zam<|wr'<|mv' lki pt10<|sn'<|Zap<|?_
 refine w_lp (ι:=Nat×Src×Option Zon×Nat×Nat×Nat×Nat×Nat) (fun (x_:Nat×Src×Option Zon×Nat×Nat×Nat×Nat×Nat)=>match x_ with | ⟨k,sr,o,m,v1,v2,v3,v4⟩=>[(9,bv o.isSome),(10,iv (k:Int)),(3,.any),(4,.any)]++rn' 11 8++rn' 30 107) (fun (x_:Nat×Src×Option Zon×Nat×Nat×Nat×Nat×Nat)=>match x_ with | ⟨k,sr,o,m,v1,v2,v3,v4⟩=>[(1,.mk 0 26 3 [.own (N+2) v1 sr.1.length,.own (N+3) v2 m,.own (N+4) v3 sr.2.2.length]),(2,.mk v1 36 11 (rows rulC sr.1)),(3,.mk v2 53 2 (rows zonC sr.2.1++zC N v4 o)),(4,.mk v3 129 2 (rows lnkC sr.2.2)),(5,.mk v4 63 10 (rows eraC (eC o)))]) (fun (x_:Nat×Src×Option Zon×Nat×Nat×Nat×Nat×Nat)=>match x_ with | ⟨k,sr,o,m,v1,v2,v3,v4⟩=>k≤L.length∧m=sr.2.1.length+o.toList.length∧sr.1.length≤k∧m≤k∧sr.2.2.length≤k∧(eC o).length≤k∧Zeq (curS sr o)∧runR (srcZ,false) L=runR (curS sr o,o.isSome) (L.drop k)) (fun (x_:Nat×Src×Option Zon×Nat×Nat×Nat×Nat×Nat)=>match x_ with | ⟨k,sr,o,m,v1,v2,v3,v4⟩=>L.length-k) (⟨0,srcZ,none,0,0,0,0,0⟩) (by exact⟨Nat.zero_le _,rfl,Nat.le_refl _,Nat.le_refl _,Nat.le_refl _,Nat.le_refl _,okSrc_Z,rfl⟩) ?_
 rintro⟨k,sr,o,m,v1,v2,v3,v4⟩ hi1
 try simp only[sm',Nat.reduceAdd]
 obtain⟨hk1,hm,hk2,hk3,hk4,hk5,hok,hrun⟩:=hi1
 refine Zam<|wr'<|mw<|mw<|Vw (ZaL lk)<|Vw (Zba lk lk)<|sn'<|?_
 refine cd' lk (fun hc2=>?_) (fun hc2=>?_)
 ·have hk:k<L.length:=by omega
  have hfs:=hf24 _ (List.getElem_mem hk)
  have hokt:okTS (L[k].2.2,false):=hfs
  rw[runR_at hk] at hrun
  have hPT:=pt_body (p:=(curS sr o,o.isSome)) hok (L[k].2.2,false) hokt
  refine Zaf<|Zag<|Zam<|Zap<|wr'<|mw<|mw<|?_
  refine V' (ZaX lk lk Zbk (nb' rfl) ro om ro rfl) pt ?_
  refine V' (ZbC lk38 dp2) pt39<|V' (ZaC lk39 gt0) pt40<|V' (Zau (ZiV (cvl lk40 rfl) rfl)) pt41<|E' (ZaU (hl6 hn) ha6) pt11<|E' (Zai lk11 (cvl lk41 rfl) gx rfl (nb' rfl) rfl Zj5 (hs6 hn)) ptn<|Zar<|Za7 ((ALe.same (WkL.refl _) rfl))<|wr'<|?_
  by_cases hs36:o=none
  ·subst hs36
   simp only[Option.isSome_none] at hrun hPT
   have hm':m=sr.2.1.length:=by simpa using hm
   subst hm'
   obtain⟨w,t1,e1⟩ : ∃ a b,ZaP (L[k].2.2,false)=(a,b):=⟨_,_,rfl⟩
   obtain⟨z1,o1⟩:=Za6 hokt e1
   refine mw<|mw<|sn'<|wr'<|mw<|sn'<|Zam<|wr'<|mw<|?_
   refine V' ((by first | exact v_not lk | exact Zax lk)) pt ?_
   refine sn' ?_
   refine ZdY lk (by rfl) ?_
   refine Zav<|ZaM mp (Zc8 e1 gx) (hs6 hn) pt<|mw<|sn'<|Zam<|Zap<|wr'<|mw<|mw<|sn'<|?_
   refine ZdM lk (by rfl) ?_
   refine wr'<|mw<|Vw (Zcu lk lks)<|mw<|sn'<|?_
   refine cd' lk (fun hc5=>?_) (fun hc5=>?_)
   ·have hwR:w=ruleA:=hc5
    obtain⟨r,u,eR⟩ : ∃ a b,Zkp t1=(a,b):=⟨_,_,rfl⟩
    have hB:ZeB (curS sr none,false) (L[k].2.2,false)=((curS (sr.1++[r],sr.2.1,sr.2.2) none,false),u):=by unfold ZeB;rw[if_neg (by simp)];simp only[Zb0,e1,if_pos hwR,ret2,eR];rfl
    have hq:True:=trivial
    refine w_orl<|Zok [N+1]<|Dw (Zab lk)<|?_
    refine d_ldP lk gx (ld0 gt) (by simp) pt ?_
    refine ZbQ<|Zno<|?_
    refine k_calls mp (trule_e o1 eR gx) (hs6 hn) (by intro i hi;simp only[cond_true,List.mem_cons,List.not_mem_nil,or_false] at hi;subst hi;first | rfl | exact (hga hn rfl).trans (hga hn rfl).symm) pt ?_
    refine Zso rfl rfl (ZdL (ZiT cv rfl) (hl7 hn) ha7) (by intro i hi;simp only[cond_true,List.mem_cons,List.not_mem_nil,or_false] at hi;subst hi;first | rfl | exact (hga hn rfl).trans (hga hn rfl).symm) pt ?_
    refine Zso rfl rfl (Zdl (Zcv lk gx rfl Zqz (nb' rfl)) lk gx (Zm5 _) om rfl (hs2 hn)) (by intro i hi;simp at hi) pt ?_
    refine ZpM rfl (Zab lk) pt ?_
    refine Zso rfl rfl (Zai lk cv gx rfl (nb' rfl) rfl Zj6 (hs1 hn)) (by intro i hi;simp at hi) ptn ?_
    refine Zsn<|Zaz<|Zag<|wr'<|Vw (Zab lk)<|Vw (Zac lk gx gt1)<|mw<|?_
    refine ZaF (t:=116) gt pt pt (fun hg116=>?_) (fun hg116=>?_)
    ·have hN:=Za4 hB (.inl hg116)
     refine s_no gt pt<|s_no gt pt<|s_no gt pt<|s_no gt pt<|Vw (Zak lk lkb)<|mw<|s_no gt pt<|s_no gt pt<|s_no gt pt<|s_no gt pt<|s_no gt pt<|s_no gt pt<|s_no gt pt<|Vw (Zak lk lkb)<|?_
     refine sn'<|ZaG lk<|Zam<|Zb1<|u_fr rfl (Zau ZaD) pt<|u_fr rfl (v_mv lk) pt<|u_fr rfl (v_mv lk) pt<|?_
     refine u_fr rfl (ZaX lk lk Zbk (nb' rfl) ro om ro rfl) pt ?_
     refine u_fr rfl (ZbC lk dp0) pt<|u_fr rfl (ZaC lk gt) pt<|?_
     refine u_st (Zai lk cv gx rfl (nb' rfl) rfl ZaT (hs0 hn)) lk nh ptn ?_
     refine u_fr rfl (v_mv lk) pt<|u_fr rfl (v_mv lki) pt<|Zc2<|Zag<|Zaa<|Zaq<|Zah<|Zah<|Zaq<|Zah<|Zae (rsn (rm1 (rr_c gt gx (ld1 ZaQ rfl)) (rm1 (rr_t gt) (rm1 (rr_t gt) rm0))))<|rtW'<|?_
     have hP:ZbH s=(srcZ,L[k].1,1):=by rw[hV,outP,hrun,hN]
     rw[hP];exact ZbJ
    refine s_do gt<|Vw (Zab lk)<|s_do gt<|Vw (Zac lk gx gt0)<|s_do gt<|Vw (ZaL lk)<|s_do gt<|Vw (ZbB lk lki)<|Vw (Zaj lk lk)<|mw<|?_
    refine sp' (t:=122) gt pt pt (fun hg122=>?_) (fun hg122=>?_)
    ·have hN:=Za4 hB (.inr (.inl (by intro e;rw[e] at hg122;exact absurd hg122 (by decide))))
     refine s_no gt pt<|s_no gt pt<|s_no gt pt<|s_no gt pt<|s_no gt pt<|s_no gt pt<|s_no gt pt<|Vw (Zak lk lkb)<|sn'<|ZaG lk<|Zam<|Zb1<|u_fr rfl (Zau ZaD) pt<|?_
     refine u_fr rfl (v_mv lk) pt<|u_fr rfl (v_mv lk) pt<|?_
     refine u_fr rfl (ZaX lk lk Zbk (nb' rfl) ro om ro rfl) pt ?_
     refine u_fr rfl (ZbC lk dp0) pt<|u_fr rfl (ZaC lk gt) pt<|?_
     refine u_st (Zai lk cv gx rfl (nb' rfl) rfl ZaT (hs0 hn)) lk nh ptn ?_
     refine u_fr rfl (v_mv lk) pt<|u_fr rfl (v_mv lki) pt<|Zc2<|Zag<|Zaa<|Zaq<|Zah<|Zah<|Zaq<|Zah<|Zae (rsn (rm1 (rr_c gt gx (ld1 ZaQ rfl)) (rm1 (rr_t gt) (rm1 (rr_t gt) rm0))))<|rtW'<|?_
     have hP:ZbH s=(srcZ,L[k].1,1):=by rw[hV,outP,hrun,hN]
     rw[hP];exact ZbJ
    refine s_do gt<|mw<|s_do gt<|mw<|s_do gt<|?_
    refine V' (ZaX lk lk Zbk (nb' rfl) ro om ro rfl) pt ?_
    refine s_do gt<|Vw (ZbC lk dp1)<|s_do gt<|Vw (ZaC lk gt)<|s_do gt<|mw<|s_do gt<|Vw (ZdN lk lk)<|Vw (Zaj lk lk)<|sn'<|?_
    refine cd' lk (fun hc8=>?_) (fun hc8=>?_)
    ·have hN:=Za4 hB (.inr (.inr (by simpa using hc8)))
     refine Zam<|Zb1<|u_fr rfl (Zau ZaD) pt<|u_fr rfl (v_mv lk) pt<|u_fr rfl (v_mv lk) pt<|?_
     refine u_fr rfl (ZaX lk lk Zbk (nb' rfl) ro om ro rfl) pt ?_
     refine u_fr rfl (ZbC lk dp0) pt<|u_fr rfl (ZaC lk gt) pt<|?_
     refine u_st (Zai lk cv gx rfl (nb' rfl) rfl ZaT (hs0 hn)) lk nh ptn ?_
     refine u_fr rfl (v_mv lk) pt<|u_fr rfl (v_mv lki) pt<|Zc2<|Zag<|Zaa<|Zaq<|Zah<|Zah<|Zaq<|Zah<|Zae (rsn (rm1 (rr_c gt gx (ld1 ZaQ rfl)) (rm1 (rr_t gt) (rm1 (rr_t gt) rm0))))<|rtW'<|?_
     have hP:ZbH s=(srcZ,L[k].1,1):=by rw[hV,outP,hrun,hN]
     rw[hP];exact ZbJ
    have hu1:u.2=false:=by simpa using hg116
    have hu2:u.1=[]:=List.eq_nil_of_length_eq_zero om
    have hS:=Zdo hB hu1 hu2 (by simpa using hc8)
    rw[hS] at hrun
    have hokq:=hPT.1
    rw[hB] at hokq
    refine Zaf<|Zaz<|Zag<|Zav<|mw<|?_
    refine V' (Zay lk lki om om) pt ?_
    refine mw<|Zar<|ZaB<|?_
    refine lU' (⟨k+1,(sr.1++[r],sr.2.1,sr.2.2),none,sr.2.1.length,v1+1,v2,v3,v4⟩) (by (try dsimp only);exact⟨by omega,by simp,by simp;omega,by omega,by omega,by simp[eC],hokq,hrun⟩) (by (try dsimp only);(try simp only[sm',Nat.reduceAdd]);exact bkE' 6 hn hlt (by repeat (first | exact wk0 | refine wka ?_ | refine wk1 rfl ?_ | refine wk1 (by first | rfl | exact ivx om | (simp;done) | exact bvx (by have h9:=hs68;unfold ZcD at h9;rw[h9];rfl) | exact bvx (by have h9:=hs106;unfold ZcD at h9;rw[h9];rfl) | exact bvx (by have h9:=hs68;unfold ZcD at h9;rw[Bool.not_eq_true] at h9;rw[h9];rfl) | exact bvx (by have h9:=hs106;unfold ZcD at h9;rw[Bool.not_eq_true] at h9;rw[h9];rfl)) ?_)) (by simp only[zonC,Za3,Zbu,zC,eC,List.append_nil,List.length_append,List.length_singleton];rfl) (hT:=by first | rfl | (simp only[AV.lt,AV.ltL,Ent.lt,List.all_cons,List.all_nil,Bool.and_true,Bool.and_self,decide_true,Zbg,Zbr,Zbi,Zbq,ZbT,ZfP,ZgQ,lt26,lt36,lt46,lt56];done) | exact lt') (hE:=by first | rfl | (simp only[AV.lt,AV.ltL,Ent.lt,List.all_cons,List.all_nil,Bool.and_true,Bool.and_self,decide_true,Zbg,Zbr,Zbi,Zbq,ZbT,ZfP,ZgQ,lt26,lt36,lt46,lt56];done) | exact lt'))
   have hwR:¬w=ruleA:=hc5
   refine wr'<|mw<|Vw (Zcu lk lks)<|mw<|sn'<|?_
   refine cd' lk (fun hc6=>?_) (fun hc6=>?_)
   ·have hwZ:w=zoneA:=hc6
    obtain⟨nm,t2,e2⟩ : ∃ a b,ZeR t1=(a,b):=⟨_,_,rfl⟩
    have o2:=Zgl o1 e2
    obtain⟨x,u,eE⟩ : ∃ a b,tEra t2=(a,b):=⟨_,_,rfl⟩
    have hB:ZeB (curS sr none,false) (L[k].2.2,false)=(ZcB (sr.1,sr.2.1++[(nm,[])],sr.2.2) x,u):=by unfold ZeB;rw[if_neg (by simp)];simp only[Zb0,e1,if_neg hwR,if_pos hwZ,ret2,e2,eE,ZeX]
    have hw:ZcB (sr.1,sr.2.1++[(nm,[])],sr.2.2) x=((sr.1,sr.2.1++[(nm,[x])],sr.2.2),!ZcD x):=by unfold ZcB;rw[ZfU];rfl
    refine wr'<|ZaM mp (Zkm o1 e2 gx) (hs6 hn) pt<|Vw (Zau (ZiS cv rfl))<|E' (ZaU (hl7 hn) ha7) pt<|E' (Zai lk cv gx rfl (nb' rfl) rfl Zj5 (hs7 hn)) ptn<|sn'<|wr'<|ZaM mp (tera_e o2 eE gx) (hs6 hn) pt<|E' (ZaU (hl8 hn) ha8) pt<|E' (Zai lk cv gx rfl (nb' rfl) rfl ZiQ (hs8 hn)) ptn<|Zar<|?_
    refine Za7 ((ALe.own0CellRe (ty2:=63) (st2:=10) gx gx om gt1 pt1 (Eq.trans (congrArg (fun z=>List.set z _ _) (hs5 hn)) (hs7 hn)))) ?_
    refine wr'<|Vw (Zab lk)<|Vw (Zac lk gx gt1)<|Vw (Zao lk gx ZiP rfl)<|E' (ZdL (ZiR cv rfl) (hl9 hn) ha9) pt<|?_
    refine E' (Zdl (Zcv lk gx rfl Zj3 (nb' rfl)) lk gx rfl om rfl (hs5 hn)) pt ?_
    refine Vw (Zab lk)<|E' (Zai lk cv gx rfl (nb' rfl) rfl Zfq (hs7 hn)) ptn<|sn'<|wr'<|Vw (Zab lk)<|Vw (Zac lk gx gt1)<|Vw (Zao lk gx Zj4 rfl)<|E' (ZdL (ZhH cv rfl) (Zto hn) Ztp) pt<|?_
    refine E' (Zdl (Zcv lk gx rfl ZmC (nb' rfl)) lk gx Zli om rfl (hs3 hn)) pt ?_
    refine Vw (Zab lk)<|E' (Zai lk cv gx rfl (nb' rfl) rfl Zfq (hs1 hn)) ptn<|sn'<|Zav<|?_
    by_cases hs106:ZcD x=true
    ·have hq:ZcB (sr.1,sr.2.1++[(nm,[])],sr.2.2) x=(curS (sr.1,sr.2.1++[(nm,[x])],sr.2.2) none,false):=by rw[hw,hs106,ZeX];rfl
     refine Vw (Zab lk)<|Vw (Zac lk gx gt4)<|Vw (Zax lk)<|mw<|Zar<|Zaz<|Zag<|wr'<|Vw (Zab lk)<|Vw (Zac lk gx gt1)<|mw<|?_
     refine ZaF (t:=116) gt pt pt (fun hg116=>?_) (fun hg116=>?_)
     ·have hN:=Za4 hB (.inl hg116)
      refine s_no gt pt<|s_no gt pt<|s_no gt pt<|s_no gt pt<|Vw (Zak lk lkb)<|mw<|s_no gt pt<|s_no gt pt<|s_no gt pt<|s_no gt pt<|s_no gt pt<|s_no gt pt<|s_no gt pt<|Vw (Zak lk lkb)<|?_
      refine sn'<|ZaG lk<|Zam<|Zb1<|u_fr rfl (Zau ZaD) pt<|u_fr rfl (v_mv lk) pt<|u_fr rfl (v_mv lk) pt<|?_
      refine u_fr rfl (ZaX lk lk Zbk (nb' rfl) ro om ro rfl) pt ?_
      refine u_fr rfl (ZbC lk dp0) pt<|u_fr rfl (ZaC lk gt) pt<|?_
      refine u_st (Zai lk cv gx rfl (nb' rfl) rfl ZaT (hs0 hn)) lk nh ptn ?_
      refine u_fr rfl (v_mv lk) pt<|u_fr rfl (v_mv lki) pt<|Zc2<|Zag<|Zaa<|Zaq<|Zah<|Zah<|Zaq<|Zah<|Zae (rsn (rm1 (rr_c gt gx (ld1 ZaQ rfl)) (rm1 (rr_t gt) (rm1 (rr_t gt) rm0))))<|rtW'<|?_
      have hP:ZbH s=(srcZ,L[k].1,1):=by rw[hV,outP,hrun,hN]
      rw[hP];exact ZbJ
     refine s_do gt<|Vw (Zab lk)<|s_do gt<|Vw (Zac lk gx gt0)<|s_do gt<|Vw (ZaL lk)<|s_do gt<|Vw (ZbB lk lki)<|Vw (Zaj lk lk)<|mw<|?_
     refine sp' (t:=122) gt pt pt (fun hg122=>?_) (fun hg122=>?_)
     ·have hN:=Za4 hB (.inr (.inl (by intro e;rw[e] at hg122;exact absurd hg122 (by decide))))
      refine s_no gt pt<|s_no gt pt<|s_no gt pt<|s_no gt pt<|s_no gt pt<|s_no gt pt<|s_no gt pt<|Vw (Zak lk lkb)<|sn'<|ZaG lk<|Zam<|Zb1<|u_fr rfl (Zau ZaD) pt<|?_
      refine u_fr rfl (v_mv lk) pt<|u_fr rfl (v_mv lk) pt<|?_
      refine u_fr rfl (ZaX lk lk Zbk (nb' rfl) ro om ro rfl) pt ?_
      refine u_fr rfl (ZbC lk dp0) pt<|u_fr rfl (ZaC lk gt) pt<|?_
      refine u_st (Zai lk cv gx rfl (nb' rfl) rfl ZaT (hs0 hn)) lk nh ptn ?_
      refine u_fr rfl (v_mv lk) pt<|u_fr rfl (v_mv lki) pt<|Zc2<|Zag<|Zaa<|Zaq<|Zah<|Zah<|Zaq<|Zah<|Zae (rsn (rm1 (rr_c gt gx (ld1 ZaQ rfl)) (rm1 (rr_t gt) (rm1 (rr_t gt) rm0))))<|rtW'<|?_
      have hP:ZbH s=(srcZ,L[k].1,1):=by rw[hV,outP,hrun,hN]
      rw[hP];exact ZbJ
     refine s_do gt<|mw<|s_do gt<|mw<|s_do gt<|?_
     refine V' (ZaX lk lk Zbk (nb' rfl) ro om ro rfl) pt ?_
     refine s_do gt<|Vw (ZbC lk dp1)<|s_do gt<|Vw (ZaC lk gt)<|s_do gt<|mw<|s_do gt<|Vw (ZdN lk lk)<|Vw (Zaj lk lk)<|sn'<|?_
     refine cd' lk (fun hc8=>?_) (fun hc8=>?_)
     ·have hN:=Za4 hB (.inr (.inr (by simpa using hc8)))
      refine Zam<|Zb1<|u_fr rfl (Zau ZaD) pt<|u_fr rfl (v_mv lk) pt<|u_fr rfl (v_mv lk) pt<|?_
      refine u_fr rfl (ZaX lk lk Zbk (nb' rfl) ro om ro rfl) pt ?_
      refine u_fr rfl (ZbC lk dp0) pt<|u_fr rfl (ZaC lk gt) pt<|?_
      refine u_st (Zai lk cv gx rfl (nb' rfl) rfl ZaT (hs0 hn)) lk nh ptn ?_
      refine u_fr rfl (v_mv lk) pt<|u_fr rfl (v_mv lki) pt<|Zc2<|Zag<|Zaa<|Zaq<|Zah<|Zah<|Zaq<|Zah<|Zae (rsn (rm1 (rr_c gt gx (ld1 ZaQ rfl)) (rm1 (rr_t gt) (rm1 (rr_t gt) rm0))))<|rtW'<|?_
      have hP:ZbH s=(srcZ,L[k].1,1):=by rw[hV,outP,hrun,hN]
      rw[hP];exact ZbJ
     have hu1:u.2=false:=by simpa using hg116
     have hu2:u.1=[]:=List.eq_nil_of_length_eq_zero om
     have hS:=Zdo hB hu1 hu2 (by simpa using hc8)
     rw[hS] at hrun
     have hokq:=hPT.1
     rw[hB] at hokq
     refine Zaf<|Zaz<|?_
     refine Za7 ((ALe.iceCellNew (ds:=rows eraC [x]) (k:=sr.2.1.length*2+1) (ty2:=63) (st2:=10) gx gx om (zc_at2 rfl) rfl (Nat.le_refl _) zc_put2 (hs5 hn) (hs3 hn))) ?_
     refine Zav<|mw<|?_
     refine V' (Zay lk lki om om) pt ?_
     refine mw<|Zar<|ZaB<|?_
     refine lU' (⟨k+1,(sr.1,sr.2.1++[(nm,[x])],sr.2.2),none,sr.2.1.length+1,v1,v2+1,v3,v4+3⟩) (by (try dsimp only);rw[hq] at hrun hokq;exact⟨by omega,by simp,by omega,by omega,by omega,by simp[eC],hokq,hrun⟩) (by (try dsimp only);(try simp only[sm',Nat.reduceAdd]);exact bkE' 6 hn hlt (by repeat (first | exact wk0 | refine wka ?_ | refine wk1 rfl ?_ | refine wk1 (by first | rfl | exact ivx om | (simp;done) | exact bvx (by have h9:=hs68;unfold ZcD at h9;rw[h9];rfl) | exact bvx (by have h9:=hs106;unfold ZcD at h9;rw[h9];rfl) | exact bvx (by have h9:=hs68;unfold ZcD at h9;rw[Bool.not_eq_true] at h9;rw[h9];rfl) | exact bvx (by have h9:=hs106;unfold ZcD at h9;rw[Bool.not_eq_true] at h9;rw[h9];rfl)) ?_)) (by simp only[zonC,Za3,Zbu,zC,eC,List.append_nil,List.length_append,List.length_singleton];rfl) (hT:=by first | rfl | (simp only[AV.lt,AV.ltL,Ent.lt,List.all_cons,List.all_nil,Bool.and_true,Bool.and_self,decide_true,Zbg,Zbr,Zbi,Zbq,ZbT,ZfP,ZgQ,lt26,lt36,lt46,lt56];done) | exact lt') (hE:=by first | rfl | (simp only[AV.lt,AV.ltL,Ent.lt,List.all_cons,List.all_nil,Bool.and_true,Bool.and_self,decide_true,Zbg,Zbr,Zbi,Zbq,ZbT,ZfP,ZgQ,lt26,lt36,lt46,lt56];done) | exact lt'))
    have hq:ZcB (sr.1,sr.2.1++[(nm,[])],sr.2.2) x=(curS sr (some (nm,[x])),true):=by rw[hw,show ZcD x=false by simpa using hs106];rfl
    refine Vw (Zab lk)<|Vw (Zac lk gx gt4)<|Vw (Zax lk)<|mw<|Zar<|Zaz<|Zag<|wr'<|Vw (Zab lk)<|Vw (Zac lk gx gt1)<|mw<|?_
    refine ZaF (t:=116) gt pt pt (fun hg116=>?_) (fun hg116=>?_)
    ·have hN:=Za4 hB (.inl hg116)
     refine s_no gt pt<|s_no gt pt<|s_no gt pt<|s_no gt pt<|Vw (Zak lk lkb)<|mw<|s_no gt pt<|s_no gt pt<|s_no gt pt<|s_no gt pt<|s_no gt pt<|s_no gt pt<|s_no gt pt<|Vw (Zak lk lkb)<|?_
     refine sn'<|ZaG lk<|Zam<|Zb1<|u_fr rfl (Zau ZaD) pt<|u_fr rfl (v_mv lk) pt<|u_fr rfl (v_mv lk) pt<|?_
     refine u_fr rfl (ZaX lk lk Zbk (nb' rfl) ro om ro rfl) pt ?_
     refine u_fr rfl (ZbC lk dp0) pt<|u_fr rfl (ZaC lk gt) pt<|?_
     refine u_st (Zai lk cv gx rfl (nb' rfl) rfl ZaT (hs0 hn)) lk nh ptn ?_
     refine u_fr rfl (v_mv lk) pt<|u_fr rfl (v_mv lki) pt<|Zc2<|Zag<|Zaa<|Zaq<|Zah<|Zah<|Zaq<|Zah<|Zae (rsn (rm1 (rr_c gt gx (ld1 ZaQ rfl)) (rm1 (rr_t gt) (rm1 (rr_t gt) rm0))))<|rtW'<|?_
     have hP:ZbH s=(srcZ,L[k].1,1):=by rw[hV,outP,hrun,hN]
     rw[hP];exact ZbJ
    refine s_do gt<|Vw (Zab lk)<|s_do gt<|Vw (Zac lk gx gt0)<|s_do gt<|Vw (ZaL lk)<|s_do gt<|Vw (ZbB lk lki)<|Vw (Zaj lk lk)<|mw<|?_
    refine sp' (t:=122) gt pt pt (fun hg122=>?_) (fun hg122=>?_)
    ·have hN:=Za4 hB (.inr (.inl (by intro e;rw[e] at hg122;exact absurd hg122 (by decide))))
     refine s_no gt pt<|s_no gt pt<|s_no gt pt<|s_no gt pt<|s_no gt pt<|s_no gt pt<|s_no gt pt<|Vw (Zak lk lkb)<|sn'<|ZaG lk<|Zam<|Zb1<|u_fr rfl (Zau ZaD) pt<|?_
     refine u_fr rfl (v_mv lk) pt<|u_fr rfl (v_mv lk) pt<|?_
     refine u_fr rfl (ZaX lk lk Zbk (nb' rfl) ro om ro rfl) pt ?_
     refine u_fr rfl (ZbC lk dp0) pt<|u_fr rfl (ZaC lk gt) pt<|?_
     refine u_st (Zai lk cv gx rfl (nb' rfl) rfl ZaT (hs0 hn)) lk nh ptn ?_
     refine u_fr rfl (v_mv lk) pt<|u_fr rfl (v_mv lki) pt<|Zc2<|Zag<|Zaa<|Zaq<|Zah<|Zah<|Zaq<|Zah<|Zae (rsn (rm1 (rr_c gt gx (ld1 ZaQ rfl)) (rm1 (rr_t gt) (rm1 (rr_t gt) rm0))))<|rtW'<|?_
     have hP:ZbH s=(srcZ,L[k].1,1):=by rw[hV,outP,hrun,hN]
     rw[hP];exact ZbJ
    refine s_do gt<|mw<|s_do gt<|mw<|s_do gt<|?_
    refine V' (ZaX lk lk Zbk (nb' rfl) ro om ro rfl) pt ?_
    refine s_do gt<|Vw (ZbC lk dp1)<|s_do gt<|Vw (ZaC lk gt)<|s_do gt<|mw<|s_do gt<|Vw (ZdN lk lk)<|Vw (Zaj lk lk)<|sn'<|?_
    refine cd' lk (fun hc8=>?_) (fun hc8=>?_)
    ·have hN:=Za4 hB (.inr (.inr (by simpa using hc8)))
     refine Zam<|Zb1<|u_fr rfl (Zau ZaD) pt<|u_fr rfl (v_mv lk) pt<|u_fr rfl (v_mv lk) pt<|?_
     refine u_fr rfl (ZaX lk lk Zbk (nb' rfl) ro om ro rfl) pt ?_
     refine u_fr rfl (ZbC lk dp0) pt<|u_fr rfl (ZaC lk gt) pt<|?_
     refine u_st (Zai lk cv gx rfl (nb' rfl) rfl ZaT (hs0 hn)) lk nh ptn ?_
     refine u_fr rfl (v_mv lk) pt<|u_fr rfl (v_mv lki) pt<|Zc2<|Zag<|Zaa<|Zaq<|Zah<|Zah<|Zaq<|Zah<|Zae (rsn (rm1 (rr_c gt gx (ld1 ZaQ rfl)) (rm1 (rr_t gt) (rm1 (rr_t gt) rm0))))<|rtW'<|?_
     have hP:ZbH s=(srcZ,L[k].1,1):=by rw[hV,outP,hrun,hN]
     rw[hP];exact ZbJ
    have hu1:u.2=false:=by simpa using hg116
    have hu2:u.1=[]:=List.eq_nil_of_length_eq_zero om
    have hS:=Zdo hB hu1 hu2 (by simpa using hc8)
    rw[hS] at hrun
    have hokq:=hPT.1
    rw[hB] at hokq
    refine Zaf<|Zaz<|Zag<|Zav<|mw<|?_
    refine V' (Zay lk lki om om) pt ?_
    refine mw<|Zar<|ZaB<|?_
    refine lU' (⟨k+1,sr,some (nm,[x]),sr.2.1.length+1,v1,v2+1,v3,v4+2⟩) (by (try dsimp only);rw[hq] at hrun hokq;exact⟨by omega,by simp,by omega,by omega,by omega,by simp[eC],hokq,hrun⟩) (by (try dsimp only);(try simp only[sm',Nat.reduceAdd]);exact bkE' 6 hn hlt (by repeat (first | exact wk0 | refine wka ?_ | refine wk1 rfl ?_ | refine wk1 (by first | rfl | exact ivx om | (simp;done) | exact bvx (by have h9:=hs68;unfold ZcD at h9;rw[h9];rfl) | exact bvx (by have h9:=hs106;unfold ZcD at h9;rw[h9];rfl) | exact bvx (by have h9:=hs68;unfold ZcD at h9;rw[Bool.not_eq_true] at h9;rw[h9];rfl) | exact bvx (by have h9:=hs106;unfold ZcD at h9;rw[Bool.not_eq_true] at h9;rw[h9];rfl)) ?_)) (by simp only[zonC,Za3,Zbu,zC,eC,List.append_nil,List.length_append,List.length_singleton];rfl) (hT:=by first | rfl | (simp only[AV.lt,AV.ltL,Ent.lt,List.all_cons,List.all_nil,Bool.and_true,Bool.and_self,decide_true,Zbg,Zbr,Zbi,Zbq,ZbT,ZfP,ZgQ,lt26,lt36,lt46,lt56];done) | exact lt') (hE:=by first | rfl | (simp only[AV.lt,AV.ltL,Ent.lt,List.all_cons,List.all_nil,Bool.and_true,Bool.and_self,decide_true,Zbg,Zbr,Zbi,Zbq,ZbT,ZfP,ZgQ,lt26,lt36,lt46,lt56];done) | exact lt'))
   have hwZ:¬w=zoneA:=hc6
   refine wr'<|mw<|Vw (Zcu lk lks)<|mw<|sn'<|?_
   refine cd' lk (fun hc7=>?_) (fun hc7=>?_)
   ·have hwL:w=linkA:=hc7
    obtain⟨n1,t2,e2⟩ : ∃ a b,ZeR t1=(a,b):=⟨_,_,rfl⟩
    have o2:=Zgl o1 e2
    obtain⟨n2,u,e3⟩ : ∃ a b,ZeR t2=(a,b):=⟨_,_,rfl⟩
    have hB:ZeB (curS sr none,false) (L[k].2.2,false)=((curS (sr.1,sr.2.1,sr.2.2++[(n1,n2)]) none,false),u):=by unfold ZeB;rw[if_neg (by simp)];simp only[Zb0,e1,if_neg hwR,if_neg hwZ,if_pos hwL,ret2,e2,e3];rfl
    refine wr'<|E' (ZaU (hl7 hn) ha7) pt<|sn'<|wr'<|ZaM mp (Zkm o1 e2 gx) (hs6 hn) pt<|Vw (Zab lk)<|E' (Zai lk cv gx rfl (nb' rfl) rfl Zj6 (hs7 hn)) ptn<|sn'<|wr'<|?_
    refine ZaM mp (Zkm o2 e3 gx) (hs6 hn) pt<|Vw (Zab lk)<|E' (Zai lk cv gx rfl (nb' rfl) rfl Zfq (hs7 hn)) ptn<|sn'<|Zav<|Vw (Zab lk)<|Vw (Zac lk gx gt2)<|Vw (Zao lk gx Zj4 rfl)<|E' (ZdL (ZhG cv rfl) (hl8 hn) ha8) pt<|?_
    refine E' (Zdl (Zcv lk gx rfl ZmC (nb' rfl)) lk gx (Znl _) om rfl (hs4 hn)) pt ?_
    refine Vw (Zab lk)<|E' (Zai lk cv gx rfl (nb' rfl) rfl ZqA (hs1 hn)) ptn<|Zar<|Zaz<|Zag<|wr'<|Vw (Zab lk)<|Vw (Zac lk gx gt1)<|mw<|?_
    refine ZaF (t:=116) gt pt pt (fun hg116=>?_) (fun hg116=>?_)
    ·have hN:=Za4 hB (.inl hg116)
     refine s_no gt pt<|s_no gt pt<|s_no gt pt<|s_no gt pt<|Vw (Zak lk lkb)<|mw<|s_no gt pt<|s_no gt pt<|s_no gt pt<|s_no gt pt<|s_no gt pt<|s_no gt pt<|s_no gt pt<|Vw (Zak lk lkb)<|?_
     refine sn'<|ZaG lk<|Zam<|Zb1<|u_fr rfl (Zau ZaD) pt<|u_fr rfl (v_mv lk) pt<|u_fr rfl (v_mv lk) pt<|?_
     refine u_fr rfl (ZaX lk lk Zbk (nb' rfl) ro om ro rfl) pt ?_
     refine u_fr rfl (ZbC lk dp0) pt<|u_fr rfl (ZaC lk gt) pt<|?_
     refine u_st (Zai lk cv gx rfl (nb' rfl) rfl ZaT (hs0 hn)) lk nh ptn ?_
     refine u_fr rfl (v_mv lk) pt<|u_fr rfl (v_mv lki) pt<|Zc2<|Zag<|Zaa<|Zaq<|Zah<|Zah<|Zaq<|Zah<|Zae (rsn (rm1 (rr_c gt gx (ld1 ZaQ rfl)) (rm1 (rr_t gt) (rm1 (rr_t gt) rm0))))<|rtW'<|?_
     have hP:ZbH s=(srcZ,L[k].1,1):=by rw[hV,outP,hrun,hN]
     rw[hP];exact ZbJ
    refine s_do gt<|Vw (Zab lk)<|s_do gt<|Vw (Zac lk gx gt0)<|s_do gt<|Vw (ZaL lk)<|s_do gt<|Vw (ZbB lk lki)<|Vw (Zaj lk lk)<|mw<|?_
    refine sp' (t:=122) gt pt pt (fun hg122=>?_) (fun hg122=>?_)
    ·have hN:=Za4 hB (.inr (.inl (by intro e;rw[e] at hg122;exact absurd hg122 (by decide))))
     refine s_no gt pt<|s_no gt pt<|s_no gt pt<|s_no gt pt<|s_no gt pt<|s_no gt pt<|s_no gt pt<|Vw (Zak lk lkb)<|sn'<|ZaG lk<|Zam<|Zb1<|u_fr rfl (Zau ZaD) pt<|?_
     refine u_fr rfl (v_mv lk) pt<|u_fr rfl (v_mv lk) pt<|?_
     refine u_fr rfl (ZaX lk lk Zbk (nb' rfl) ro om ro rfl) pt ?_
     refine u_fr rfl (ZbC lk dp0) pt<|u_fr rfl (ZaC lk gt) pt<|?_
     refine u_st (Zai lk cv gx rfl (nb' rfl) rfl ZaT (hs0 hn)) lk nh ptn ?_
     refine u_fr rfl (v_mv lk) pt<|u_fr rfl (v_mv lki) pt<|Zc2<|Zag<|Zaa<|Zaq<|Zah<|Zah<|Zaq<|Zah<|Zae (rsn (rm1 (rr_c gt gx (ld1 ZaQ rfl)) (rm1 (rr_t gt) (rm1 (rr_t gt) rm0))))<|rtW'<|?_
     have hP:ZbH s=(srcZ,L[k].1,1):=by rw[hV,outP,hrun,hN]
     rw[hP];exact ZbJ
    refine s_do gt<|mw<|s_do gt<|mw<|s_do gt<|?_
    refine V' (ZaX lk lk Zbk (nb' rfl) ro om ro rfl) pt ?_
    refine s_do gt<|Vw (ZbC lk dp1)<|s_do gt<|Vw (ZaC lk gt)<|s_do gt<|mw<|s_do gt<|Vw (ZdN lk lk)<|Vw (Zaj lk lk)<|sn'<|?_
    refine cd' lk (fun hc8=>?_) (fun hc8=>?_)
    ·have hN:=Za4 hB (.inr (.inr (by simpa using hc8)))
     refine Zam<|Zb1<|u_fr rfl (Zau ZaD) pt<|u_fr rfl (v_mv lk) pt<|u_fr rfl (v_mv lk) pt<|?_
     refine u_fr rfl (ZaX lk lk Zbk (nb' rfl) ro om ro rfl) pt ?_
     refine u_fr rfl (ZbC lk dp0) pt<|u_fr rfl (ZaC lk gt) pt<|?_
     refine u_st (Zai lk cv gx rfl (nb' rfl) rfl ZaT (hs0 hn)) lk nh ptn ?_
     refine u_fr rfl (v_mv lk) pt<|u_fr rfl (v_mv lki) pt<|Zc2<|Zag<|Zaa<|Zaq<|Zah<|Zah<|Zaq<|Zah<|Zae (rsn (rm1 (rr_c gt gx (ld1 ZaQ rfl)) (rm1 (rr_t gt) (rm1 (rr_t gt) rm0))))<|rtW'<|?_
     have hP:ZbH s=(srcZ,L[k].1,1):=by rw[hV,outP,hrun,hN]
     rw[hP];exact ZbJ
    have hu1:u.2=false:=by simpa using hg116
    have hu2:u.1=[]:=List.eq_nil_of_length_eq_zero om
    have hS:=Zdo hB hu1 hu2 (by simpa using hc8)
    rw[hS] at hrun
    have hokq:=hPT.1
    rw[hB] at hokq
    refine Zaf<|Zaz<|Zag<|Zav<|mw<|?_
    refine V' (Zay lk lki om om) pt ?_
    refine mw<|Zar<|ZaB<|?_
    refine lU' (⟨k+1,(sr.1,sr.2.1,sr.2.2++[(n1,n2)]),none,sr.2.1.length,v1,v2,v3+1,v4⟩) (by (try dsimp only);exact⟨by omega,by simp,by omega,by omega,by simp;omega,by simp[eC],hokq,hrun⟩) (by (try dsimp only);(try simp only[sm',Nat.reduceAdd]);exact bkE' 6 hn hlt (by repeat (first | exact wk0 | refine wka ?_ | refine wk1 rfl ?_ | refine wk1 (by first | rfl | exact ivx om | (simp;done) | exact bvx (by have h9:=hs68;unfold ZcD at h9;rw[h9];rfl) | exact bvx (by have h9:=hs106;unfold ZcD at h9;rw[h9];rfl) | exact bvx (by have h9:=hs68;unfold ZcD at h9;rw[Bool.not_eq_true] at h9;rw[h9];rfl) | exact bvx (by have h9:=hs106;unfold ZcD at h9;rw[Bool.not_eq_true] at h9;rw[h9];rfl)) ?_)) (by simp only[zonC,Za3,Zbu,zC,eC,List.append_nil,List.length_append,List.length_singleton];rfl) (hT:=by first | rfl | (simp only[AV.lt,AV.ltL,Ent.lt,List.all_cons,List.all_nil,Bool.and_true,Bool.and_self,decide_true,Zbg,Zbr,Zbi,Zbq,ZbT,ZfP,ZgQ,lt26,lt36,lt46,lt56];done) | exact lt') (hE:=by first | rfl | (simp only[AV.lt,AV.ltL,Ent.lt,List.all_cons,List.all_nil,Bool.and_true,Bool.and_self,decide_true,Zbg,Zbr,Zbi,Zbq,ZbT,ZfP,ZgQ,lt26,lt36,lt46,lt56];done) | exact lt'))
   have hwL:¬w=linkA:=hc7
   have hB:ZeB (curS sr none,false) (L[k].2.2,false)=((curS sr none,false),bad t1):=by unfold ZeB;rw[if_neg (by simp)];simp only[Zb0,e1,if_neg hwR,if_neg hwZ,if_neg hwL]
   have hN:=Za4 hB (.inl rfl)
   refine Zav<|Vw (Zab lk)<|E' (Zai lk (cvl lkb rfl) gx rfl (nb' rfl) rfl Zfq (hs6 hn)) ptn<|Zar<|Zaz<|Zag<|wr'<|Vw (Zab lk)<|Vw (Zac lk gx gt1)<|mw<|s_no gt pt<|s_no gt pt<|s_no gt pt<|?_
   refine s_no gt pt<|Vw (Zak lk lkb)<|mw<|s_no gt pt<|s_no gt pt<|s_no gt pt<|s_no gt pt<|s_no gt pt<|s_no gt pt<|s_no gt pt<|Vw (Zak lk lkb)<|sn'<|ZaG lk<|?_
   refine Zam<|Zb1<|u_fr rfl (Zau ZaD) pt<|u_fr rfl (v_mv lk) pt<|u_fr rfl (v_mv lk) pt<|?_
   refine u_fr rfl (ZaX lk lk Zbk (nb' rfl) ro om ro rfl) pt ?_
   refine u_fr rfl (ZbC lk dp0) pt<|u_fr rfl (ZaC lk gt) pt<|?_
   refine u_st (Zai lk cv gx rfl (nb' rfl) rfl ZaT (hs0 hn)) lk nh ptn ?_
   refine u_fr rfl (v_mv lk) pt<|u_fr rfl (v_mv lki) pt<|Zc2<|Zag<|Zaa<|Zaq<|Zah<|Zah<|Zaq<|Zah<|Zae (rsn (rm1 (rr_c gt gx (ld1 ZaQ rfl)) (rm1 (rr_t gt) (rm1 (rr_t gt) rm0))))<|rtW'<|?_
   have hP:ZbH s=(srcZ,L[k].1,1):=by rw[hV,outP,hrun,hN]
   rw[hP];exact ZbJ
  obtain⟨z,rfl⟩:=Option.ne_none_iff_exists'.1 hs36
  simp only[Option.isSome_some] at hrun hPT
  have hm':m=sr.2.1.length+1:=by simpa using hm
  have hk5':z.2.length≤k:=hk5
  obtain⟨x,u,eE⟩ : ∃ a b,tEra (L[k].2.2,false)=(a,b):=⟨_,_,rfl⟩
  have hB:ZeB (curS sr (some z),true) (L[k].2.2,false)=(ZcB (curS sr (some z)) x,u):=by unfold ZeB;rw[if_pos rfl];simp only[Zb0,ret2,eE]
  have hw:ZcB (curS sr (some z)) x=((sr.1,sr.2.1++[(z.1,z.2++[x])],sr.2.2),!ZcD x):=by unfold ZcB curS;rw[show sr.2.1++(some z).toList=sr.2.1++[z] from rfl,ZfU]
  refine mw<|mw<|sn'<|wr'<|mw<|sn'<|Zam<|wr'<|mw<|?_
  refine V' ((by first | exact v_not lk | exact Zax lk)) pt ?_
  refine sn' ?_
  refine ZdM lk (by rfl) ?_
  refine Zaf<|Zag<|Zam<|Zap<|wr'<|mw<|mw<|sn'<|?_
  refine ZdY lk (by rfl) ?_
  refine wr'<|Vw (Zab lk)<|Vw (Zac lk gx gt1)<|Vw (Zc1 lk)<|?_
  refine V' (ZbA lk lki om om) pt ?_
  refine mw<|sn'<|wr'<|ZaM mp (tera_e hokt eE gx) (hs6 hn) pt<|E' (ZaU (hl7 hn) ha7) pt<|E' (Zai lk cv gx rfl (nb' rfl) rfl ZiQ (hs7 hn)) ptn<|sn'<|Zam<|Zok [N+1]<|Dw (Zab lk)<|?_
  refine d_ldP lk gx (ld0 gt) (by simp) pt ?_
  refine Dw (v_mv lk)<|Dw (Zab lk)<|Dw (Zac lk gx gt1)<|Dw (v_mv lk)<|?_
  refine D' (v_iaO lk lk (hga hn rfl) (nb' rfl) om om (by rw[Zli];simp;omega)) pt ?_
  refine D' (ZbK lk) pt ?_
  refine D' (Zac lk gx (zc_at om)) pt ?_
  refine Dw (Zao lk gx ZiP rfl)<|Zmk rfl rfl (hlk hn rfl) (l_lit (ZiU cv rfl)) pt Ztn<|ZbQ<|k_e_ent ZqB<|?_
  refine Zso rfl rfl (Zdl (Zcv lk gx rfl Zj3 (nb' rfl)) lk gx (ZkR _) om rfl (hs5 hn)) (by intro i hi;simp only[cond_true,List.mem_cons,List.not_mem_nil,or_false] at hi;subst hi;first | rfl | exact (hga hn rfl).trans (hga hn rfl).symm) pt ?_
  refine ZpM rfl (v_iaO lk lk (hga hn rfl) (nb' rfl) om om (by rw[Zli];simp;omega)) pt ?_
  refine ZpM rfl (ZbK lk) pt ?_
  refine Zso rfl rfl (Zai lk cv (hga hn rfl) rfl (by rw[Zli];simp;omega) rfl (zc_set om) (hs3 hn)) (by intro i hi;simp at hi) ptn ?_
  refine Zsn<|Zag<|Zav<|?_
  by_cases hs68:ZcD x=true
  ·have hq:ZcB (curS sr (some z)) x=(curS (sr.1,sr.2.1++[(z.1,z.2++[x])],sr.2.2) none,false):=by rw[hw,hs68,ZeX];rfl
   refine Vw (Zab lk)<|Vw (Zac lk gx gt4)<|Vw (Zax lk)<|mw<|Zar<|Zaz<|Zag<|wr'<|Vw (Zab lk)<|Vw (Zac lk gx gt1)<|mw<|?_
   refine ZaF (t:=116) gt pt pt (fun hg116=>?_) (fun hg116=>?_)
   ·have hN:=Za4 hB (.inl hg116)
    refine s_no gt pt<|s_no gt pt<|s_no gt pt<|s_no gt pt<|Vw (Zak lk lkb)<|mw<|s_no gt pt<|s_no gt pt<|s_no gt pt<|s_no gt pt<|s_no gt pt<|s_no gt pt<|s_no gt pt<|Vw (Zak lk lkb)<|?_
    refine sn'<|ZaG lk<|Zam<|Zb1<|u_fr rfl (Zau ZaD) pt<|u_fr rfl (v_mv lk) pt<|u_fr rfl (v_mv lk) pt<|?_
    refine u_fr rfl (ZaX lk lk Zbk (nb' rfl) ro om ro rfl) pt ?_
    refine u_fr rfl (ZbC lk dp0) pt<|u_fr rfl (ZaC lk gt) pt<|?_
    refine u_st (Zai lk cv gx rfl (nb' rfl) rfl ZaT (hs0 hn)) lk nh ptn ?_
    refine u_fr rfl (v_mv lk) pt<|u_fr rfl (v_mv lki) pt<|Zc2<|Zag<|Zaa<|Zaq<|Zah<|Zah<|Zaq<|Zah<|Zae (rsn (rm1 (rr_c gt gx (ld1 ZaQ rfl)) (rm1 (rr_t gt) (rm1 (rr_t gt) rm0))))<|rtW'<|?_
    have hP:ZbH s=(srcZ,L[k].1,1):=by rw[hV,outP,hrun,hN]
    rw[hP];exact ZbJ
   refine s_do gt<|Vw (Zab lk)<|s_do gt<|Vw (Zac lk gx gt0)<|s_do gt<|Vw (ZaL lk)<|s_do gt<|Vw (ZbB lk lki)<|Vw (Zaj lk lk)<|mw<|?_
   refine sp' (t:=122) gt pt pt (fun hg122=>?_) (fun hg122=>?_)
   ·have hN:=Za4 hB (.inr (.inl (by intro e;rw[e] at hg122;exact absurd hg122 (by decide))))
    refine s_no gt pt<|s_no gt pt<|s_no gt pt<|s_no gt pt<|s_no gt pt<|s_no gt pt<|s_no gt pt<|Vw (Zak lk lkb)<|sn'<|ZaG lk<|Zam<|Zb1<|u_fr rfl (Zau ZaD) pt<|?_
    refine u_fr rfl (v_mv lk) pt<|u_fr rfl (v_mv lk) pt<|?_
    refine u_fr rfl (ZaX lk lk Zbk (nb' rfl) ro om ro rfl) pt ?_
    refine u_fr rfl (ZbC lk dp0) pt<|u_fr rfl (ZaC lk gt) pt<|?_
    refine u_st (Zai lk cv gx rfl (nb' rfl) rfl ZaT (hs0 hn)) lk nh ptn ?_
    refine u_fr rfl (v_mv lk) pt<|u_fr rfl (v_mv lki) pt<|Zc2<|Zag<|Zaa<|Zaq<|Zah<|Zah<|Zaq<|Zah<|Zae (rsn (rm1 (rr_c gt gx (ld1 ZaQ rfl)) (rm1 (rr_t gt) (rm1 (rr_t gt) rm0))))<|rtW'<|?_
    have hP:ZbH s=(srcZ,L[k].1,1):=by rw[hV,outP,hrun,hN]
    rw[hP];exact ZbJ
   refine s_do gt<|mw<|s_do gt<|mw<|s_do gt<|?_
   refine V' (ZaX lk lk Zbk (nb' rfl) ro om ro rfl) pt ?_
   refine s_do gt<|Vw (ZbC lk dp1)<|s_do gt<|Vw (ZaC lk gt)<|s_do gt<|mw<|s_do gt<|Vw (ZdN lk lk)<|Vw (Zaj lk lk)<|sn'<|?_
   refine cd' lk (fun hc8=>?_) (fun hc8=>?_)
   ·have hN:=Za4 hB (.inr (.inr (by simpa using hc8)))
    refine Zam<|Zb1<|u_fr rfl (Zau ZaD) pt<|u_fr rfl (v_mv lk) pt<|u_fr rfl (v_mv lk) pt<|?_
    refine u_fr rfl (ZaX lk lk Zbk (nb' rfl) ro om ro rfl) pt ?_
    refine u_fr rfl (ZbC lk dp0) pt<|u_fr rfl (ZaC lk gt) pt<|?_
    refine u_st (Zai lk cv gx rfl (nb' rfl) rfl ZaT (hs0 hn)) lk nh ptn ?_
    refine u_fr rfl (v_mv lk) pt<|u_fr rfl (v_mv lki) pt<|Zc2<|Zag<|Zaa<|Zaq<|Zah<|Zah<|Zaq<|Zah<|Zae (rsn (rm1 (rr_c gt gx (ld1 ZaQ rfl)) (rm1 (rr_t gt) (rm1 (rr_t gt) rm0))))<|rtW'<|?_
    have hP:ZbH s=(srcZ,L[k].1,1):=by rw[hV,outP,hrun,hN]
    rw[hP];exact ZbJ
   have hu1:u.2=false:=by simpa using hg116
   have hu2:u.1=[]:=List.eq_nil_of_length_eq_zero om
   have hS:=Zdo hB hu1 hu2 (by simpa using hc8)
   rw[hS] at hrun
   have hokq:=hPT.1
   rw[hB] at hokq
   refine Zaf<|Zaz<|?_
   refine Za7 ((ALe.iceCellNew (ds:=rows eraC (z.2++[x])) (k:=sr.2.1.length*2+1) (ty2:=63) (st2:=10) gx gx om (zc_at rfl) (by rw[Za3,Zbu];exact List.take_of_length_le (by simp[ZkR,eC];omega)) (by simp[ZkR,eC];omega) zc_put (hs5 hn) (hs3 hn))) ?_
   refine Zav<|mw<|?_
   refine V' (Zay lk lki om om) pt ?_
   refine mw<|Zar<|ZaB<|?_
   refine lU' (⟨k+1,(sr.1,sr.2.1++[(z.1,z.2++[x])],sr.2.2),none,m,v1,v2,v3,v4+2⟩) (by (try dsimp only);rw[hq] at hrun hokq;exact⟨by omega,by simp;omega,by omega,by omega,by omega,by simp[eC],hokq,hrun⟩) (by (try dsimp only);(try simp only[sm',Nat.reduceAdd]);exact bkE' 6 hn hlt (by repeat (first | exact wk0 | refine wka ?_ | refine wk1 rfl ?_ | refine wk1 (by first | rfl | exact ivx om | (simp;done) | exact bvx (by have h9:=hs68;unfold ZcD at h9;rw[h9];rfl) | exact bvx (by have h9:=hs106;unfold ZcD at h9;rw[h9];rfl) | exact bvx (by have h9:=hs68;unfold ZcD at h9;rw[Bool.not_eq_true] at h9;rw[h9];rfl) | exact bvx (by have h9:=hs106;unfold ZcD at h9;rw[Bool.not_eq_true] at h9;rw[h9];rfl)) ?_)) (by simp only[zonC,Za3,Zbu,zC,eC,List.append_nil,List.length_append,List.length_singleton];rfl) (hT:=by first | rfl | (simp only[AV.lt,AV.ltL,Ent.lt,List.all_cons,List.all_nil,Bool.and_true,Bool.and_self,decide_true,Zbg,Zbr,Zbi,Zbq,ZbT,ZfP,ZgQ,lt26,lt36,lt46,lt56];done) | exact lt') (hE:=by first | rfl | (simp only[AV.lt,AV.ltL,Ent.lt,List.all_cons,List.all_nil,Bool.and_true,Bool.and_self,decide_true,Zbg,Zbr,Zbi,Zbq,ZbT,ZfP,ZgQ,lt26,lt36,lt46,lt56];done) | exact lt'))
  have hq:ZcB (curS sr (some z)) x=(curS sr (some (z.1,z.2++[x])),true):=by rw[hw,show ZcD x=false by simpa using hs68];rfl
  refine Vw (Zab lk)<|Vw (Zac lk gx gt4)<|Vw (Zax lk)<|mw<|Zar<|Zaz<|Zag<|wr'<|Vw (Zab lk)<|Vw (Zac lk gx gt1)<|mw<|?_
  refine ZaF (t:=116) gt pt pt (fun hg116=>?_) (fun hg116=>?_)
  ·have hN:=Za4 hB (.inl hg116)
   refine s_no gt pt<|s_no gt pt<|s_no gt pt<|s_no gt pt<|Vw (Zak lk lkb)<|mw<|s_no gt pt<|s_no gt pt<|s_no gt pt<|s_no gt pt<|s_no gt pt<|s_no gt pt<|s_no gt pt<|Vw (Zak lk lkb)<|?_
   refine sn'<|ZaG lk<|Zam<|Zb1<|u_fr rfl (Zau ZaD) pt<|u_fr rfl (v_mv lk) pt<|u_fr rfl (v_mv lk) pt<|?_
   refine u_fr rfl (ZaX lk lk Zbk (nb' rfl) ro om ro rfl) pt ?_
   refine u_fr rfl (ZbC lk dp0) pt<|u_fr rfl (ZaC lk gt) pt<|?_
   refine u_st (Zai lk cv gx rfl (nb' rfl) rfl ZaT (hs0 hn)) lk nh ptn ?_
   refine u_fr rfl (v_mv lk) pt<|u_fr rfl (v_mv lki) pt<|Zc2<|Zag<|Zaa<|Zaq<|Zah<|Zah<|Zaq<|Zah<|Zae (rsn (rm1 (rr_c gt gx (ld1 ZaQ rfl)) (rm1 (rr_t gt) (rm1 (rr_t gt) rm0))))<|rtW'<|?_
   have hP:ZbH s=(srcZ,L[k].1,1):=by rw[hV,outP,hrun,hN]
   rw[hP];exact ZbJ
  refine s_do gt<|Vw (Zab lk)<|s_do gt<|Vw (Zac lk gx gt0)<|s_do gt<|Vw (ZaL lk)<|s_do gt<|Vw (ZbB lk lki)<|Vw (Zaj lk lk)<|mw<|?_
  refine sp' (t:=122) gt pt pt (fun hg122=>?_) (fun hg122=>?_)
  ·have hN:=Za4 hB (.inr (.inl (by intro e;rw[e] at hg122;exact absurd hg122 (by decide))))
   refine s_no gt pt<|s_no gt pt<|s_no gt pt<|s_no gt pt<|s_no gt pt<|s_no gt pt<|s_no gt pt<|Vw (Zak lk lkb)<|sn'<|ZaG lk<|Zam<|Zb1<|u_fr rfl (Zau ZaD) pt<|?_
   refine u_fr rfl (v_mv lk) pt<|u_fr rfl (v_mv lk) pt<|?_
   refine u_fr rfl (ZaX lk lk Zbk (nb' rfl) ro om ro rfl) pt ?_
   refine u_fr rfl (ZbC lk dp0) pt<|u_fr rfl (ZaC lk gt) pt<|?_
   refine u_st (Zai lk cv gx rfl (nb' rfl) rfl ZaT (hs0 hn)) lk nh ptn ?_
   refine u_fr rfl (v_mv lk) pt<|u_fr rfl (v_mv lki) pt<|Zc2<|Zag<|Zaa<|Zaq<|Zah<|Zah<|Zaq<|Zah<|Zae (rsn (rm1 (rr_c gt gx (ld1 ZaQ rfl)) (rm1 (rr_t gt) (rm1 (rr_t gt) rm0))))<|rtW'<|?_
   have hP:ZbH s=(srcZ,L[k].1,1):=by rw[hV,outP,hrun,hN]
   rw[hP];exact ZbJ
  refine s_do gt<|mw<|s_do gt<|mw<|s_do gt<|?_
  refine V' (ZaX lk lk Zbk (nb' rfl) ro om ro rfl) pt ?_
  refine s_do gt<|Vw (ZbC lk dp1)<|s_do gt<|Vw (ZaC lk gt)<|s_do gt<|mw<|s_do gt<|Vw (ZdN lk lk)<|Vw (Zaj lk lk)<|sn'<|?_
  refine cd' lk (fun hc8=>?_) (fun hc8=>?_)
  ·have hN:=Za4 hB (.inr (.inr (by simpa using hc8)))
   refine Zam<|Zb1<|u_fr rfl (Zau ZaD) pt<|u_fr rfl (v_mv lk) pt<|u_fr rfl (v_mv lk) pt<|?_
   refine u_fr rfl (ZaX lk lk Zbk (nb' rfl) ro om ro rfl) pt ?_
   refine u_fr rfl (ZbC lk dp0) pt<|u_fr rfl (ZaC lk gt) pt<|?_
   refine u_st (Zai lk cv gx rfl (nb' rfl) rfl ZaT (hs0 hn)) lk nh ptn ?_
   refine u_fr rfl (v_mv lk) pt<|u_fr rfl (v_mv lki) pt<|Zc2<|Zag<|Zaa<|Zaq<|Zah<|Zah<|Zaq<|Zah<|Zae (rsn (rm1 (rr_c gt gx (ld1 ZaQ rfl)) (rm1 (rr_t gt) (rm1 (rr_t gt) rm0))))<|rtW'<|?_
   have hP:ZbH s=(srcZ,L[k].1,1):=by rw[hV,outP,hrun,hN]
   rw[hP];exact ZbJ
  have hu1:u.2=false:=by simpa using hg116
  have hu2:u.1=[]:=List.eq_nil_of_length_eq_zero om
  have hS:=Zdo hB hu1 hu2 (by simpa using hc8)
  rw[hS] at hrun
  have hokq:=hPT.1
  rw[hB] at hokq
  refine Zaf<|Zaz<|Zag<|Zav<|mw<|?_
  refine V' (Zay lk lki om om) pt ?_
  refine mw<|Zar<|ZaB<|?_
  refine lU' (⟨k+1,sr,some (z.1,z.2++[x]),m,v1,v2,v3,v4+1⟩) (by (try dsimp only);rw[hq] at hrun hokq;exact⟨by omega,by simp;omega,by omega,by omega,by omega,by simp[eC] at hk5 ⊢;omega,hokq,hrun⟩) (by (try dsimp only);(try simp only[sm',Nat.reduceAdd]);exact bkE' 6 hn hlt (by repeat (first | exact wk0 | refine wka ?_ | refine wk1 rfl ?_ | refine wk1 (by first | rfl | exact ivx om | (simp;done) | exact bvx (by have h9:=hs68;unfold ZcD at h9;rw[h9];rfl) | exact bvx (by have h9:=hs106;unfold ZcD at h9;rw[h9];rfl) | exact bvx (by have h9:=hs68;unfold ZcD at h9;rw[Bool.not_eq_true] at h9;rw[h9];rfl) | exact bvx (by have h9:=hs106;unfold ZcD at h9;rw[Bool.not_eq_true] at h9;rw[h9];rfl)) ?_)) (by simp only[zonC,Za3,Zbu,zC,eC,List.append_nil,List.length_append,List.length_singleton];rfl) (hT:=by first | rfl | (simp only[AV.lt,AV.ltL,Ent.lt,List.all_cons,List.all_nil,Bool.and_true,Bool.and_self,decide_true,Zbg,Zbr,Zbi,Zbq,ZbT,ZfP,ZgQ,lt26,lt36,lt46,lt56];done) | exact lt') (hE:=by first | rfl | (simp only[AV.lt,AV.ltL,Ent.lt,List.all_cons,List.all_nil,Bool.and_true,Bool.and_self,decide_true,Zbg,Zbr,Zbi,Zbq,ZbT,ZfP,ZgQ,lt26,lt36,lt46,lt56];done) | exact lt'))
 have hke:k=L.length:=by omega
 rw[List.drop_of_length_le om,runR] at hrun
 have hV2:ZbH s=endP (curS sr o,o.isSome):=by rw[hV,outP,hrun]
 refine ZaN<|ZaE<|ZaE<|Za8<|Zag<|Zam<|wr'<|mw<|sn'<|?_
 refine cd' lk (fun hc9=>?_) (fun hc9=>?_)
 ·have hP:ZbH s=(srcZ,0,1):=by rw[hV2];exact if_pos hc9
  refine wr'<|Vw (Zau ZhF)<|E' (Zai lk cv gx rfl (nb' rfl) rfl ZaT (hs0 hn)) ptn<|mw<|mw<|sn'<|Zaa<|Zah<|Zae (rsn (rm1 (rr_c gt gx (ld1 ZaQ rfl)) (rm1 (rr_t gt) (rm1 (rr_t gt) rm0))))<|rtW'<|?_
  rw[hP];exact ZbJ
 obtain rfl:o=none:=by cases o;rfl;cases hc9
 have hm':m=sr.2.1.length:=by simpa using hm
 subst hm'
 rw[ZeX] at hok hV2
 refine Zaf ?_
 refine Za7 ((ALe.trans (ALe.iceCellR (ds:=rows rulC sr.1) gx gx om gt0 (List.take_of_length_le (by rw[Zm5];exact Nat.le_refl _)) (by rw[Zm5];exact Nat.le_refl _) pt0 (hs2 hn) (hs1 hn)) (ALe.trans (ALe.iceCellR (ds:=rows zonC sr.2.1) gx gx om gt1 (by rw[show rows zonC sr.2.1++zC N v4 none=rows zonC sr.2.1 from List.append_nil _];exact List.take_of_length_le (by rw[ZgP];exact Nat.le_refl _)) (by rw[Zli];simp) pt1 (hs3 hn) (hs1 hn)) (ALe.iceCellR (ds:=rows lnkC sr.2.2) gx gx om gt2 (List.take_of_length_le (by rw[Znl];exact Nat.le_refl _)) (by rw[Znl];exact Nat.le_refl _) pt2 (hs4 hn) (hs1 hn))))) ?_
 refine wr'<|Vw (Zao lk gx ZaQ rfl)<|Zad mp (ZrJ (a:=sr.1) (z:=sr.2.1) (l:=sr.2.2) hok) pt<|mw<|sn'<|Zam<|wr'<|mw<|Vw (ZaW lk lki)<|sn'<|?_
 refine cd' lk (fun hc10=>?_) (fun hc10=>?_)
 ·have hP:ZbH s=(srcZ,0,ZbP sr):=by rw[hV2,endP,if_neg (by simp)];exact if_pos hc10
  refine wr'<|Vw (Zau ZhE)<|mw<|E' (Zai lk cv gx rfl (nb' rfl) rfl ZaT (hs0 hn)) ptn<|mw<|mw<|sn'<|Zaa<|Zah<|Zae (rsn (rm1 (rr_c gt gx (ld1 ZaQ rfl)) (rm1 (rr_t gt) (rm1 (rr_t gt) rm0))))<|rtW'<|?_
  rw[hP];exact ZbJ
 have h0:ZbP sr=0:=Decidable.of_not_not hc10
 have hP:ZbH s=(sr,0,0):=by rw[hV2,endP,if_neg (by simp)];exact if_neg hc10
 refine Zaf<|Zag<|wr'<|Vw (Zao lk gx ZaQ rfl)<|mw<|E' (Zai lk cv gx rfl (nb' rfl) rfl ZaT (hs0 hn)) ptn<|mw<|mw<|sn'<|Zaa<|Zae (rsn (rm1 (rr_c gt gx (ld1 ZaQ rfl)) (rm1 (rr_t gt) (rm1 (rr_t gt) rm0))))<|rtW'<|?_
 rw[hP];exact Wk.tup (wk1 rfl (wk1 rfl (wk1 (ivx h0.symm) wk0)))
end Go.Proofs.YtlekejpogddndaaGreatDoor
end
section
namespace Go.Proofs.YtlekejpogddndaaGreatDoor
open Go.Ab Go.RowKit Civ
attribute [local simp] Zbg Zbr Zbi Zbq Zb2 ZdF Zdv ZbT
section
theorem ZjX {a0 a1 a2 c0 c1 c2:AV}{l:List AV}:setCells (a0::a1::a2::l) 0 [c0,c1,c2]=c0::c1::c2::l:=rfl
theorem ZjW {a0 a1 a2:AV}{l:List AV}:((a0::a1::a2::l).drop 0).take 3=[a0,a1,a2]:=rfl
end
def c63:AC:=(Sr [Oo 0 (.new 26 3 [(.sl 0 0 true []),(.sl 0 0 true []),(.sl 0 0 true [])])] (Sr [Oo 5 (.call (.func 130) [(.const (.string ⟨#[82,117,108,101,32,101,117,32,49,57,56,49,32,109,97,120,32,77,97,114,32,108,97,115,116,83,117,110,32,49,58,48,48,117,32,49,58,48,48,32,83,10,82,117,108,101,32,101,117,32,49,57,57,54,32,109,97,120,32,79,99,116,32,108,97,115,116,83,117,110,32,49,58,48,48,117,32,48,32,45,10,90,111,110,101,32,72,101,114,101,47,84,111,119,110,32,48,58,49,48,32,45,32,76,77,84,32,49,56,56,48,32,74,97,110,32,49,32,48,10,32,32,49,58,48,48,32,101,117,32,67,69,37,115,84,10,76,105,110,107,32,72,101,114,101,47,84,111,119,110,32,79,108,100,10]⟩))]),Mv 4 5,Ex 6 4 0,Ex 7 4 1,Ex 8 4 2,Oo 1 (.new 26 3 [(.sl 0 0 true []),(.sl 0 0 true []),(.sl 0 0 true [])]),⟨none,none,(.store 3 (.tmp 1) (.tmp 6))⟩,Mv 2 7,Mv 3 8] (Sr [Oo 9 (.load true 3 (.tmp 1)),⟨none,none,(.store 3 (.tmp 0) (.tmp 9))⟩] .ret)))
theorem k63:ZaA Tryz.prog 63=some ⟨c63,[(.cell 0 true 3)],10⟩:=by kernel_rfl
def txtS:Bs:=[82,117,108,101,32,101,117,32,49,57,56,49,32,109,97,120,32,77,97,114,32,108,97,115,116,83,117,110,32,49,58,48,48,117,32,49,58,48,48,32,83,10,82,117,108,101,32,101,117,32,49,57,57,54,32,109,97,120,32,79,99,116,32,108,97,115,116,83,117,110,32,49,58,48,48,117,32,48,32,45,10,90,111,110,101,32,72,101,114,101,47,84,111,119,110,32,48,58,49,48,32,45,32,76,77,84,32,49,56,56,48,32,74,97,110,32,49,32,48,10,32,32,49,58,48,48,32,101,117,32,67,69,37,115,84,10,76,105,110,107,32,72,101,114,101,47,84,111,119,110,32,79,108,100,10]
def nEu:ByteArray:=bA [101,117]
def nHt:ByteArray:=bA [72,101,114,101,47,84,111,119,110]
def nOld:ByteArray:=bA [79,108,100]
def rul0:List Rul:=[(nEu,1981,2100,3,(2,0,0),3600,3,3600,bA [83]),(nEu,1996,2100,10,(2,0,0),3600,3,0,bA [])]
def era0:Era:=(600,bA [],0,bA [76,77,84],false,((1880,1,1),0,2))
def era1:Era:=(3600,nEu,0,bA [67,69,37,115,84],true,((0,0,0),0,0))
def src0:Src:=(rul0,[(nHt,[era0,era1])],[(nHt,nOld)])
theorem prs0:ZbH (bA txtS)=(src0,0,0):=by kernel_rfl
theorem ZfI:Zeq src0:=by
 refine⟨fun r hr=>?_,fun z hz=>?_,fun l hl=>?_⟩
 ·simp only[src0,rul0,List.mem_cons,List.not_mem_nil,or_false] at hr
  rcases hr with rfl | rfl <;> exact⟨by decide,by decide⟩
 ·simp only[src0,List.mem_cons,List.not_mem_nil,or_false] at hz
  subst hz
  refine⟨by decide,fun x hx=>?_⟩
  simp only[List.mem_cons,List.not_mem_nil,or_false] at hx
  rcases hx with rfl | rfl <;> exact⟨by decide,by decide⟩
 simp only[src0,List.mem_cons,List.not_mem_nil,or_false] at hl
 subst hl;exact⟨by decide,by decide⟩
theorem rp_txt {h:AH}:Ac 130 [sv (bA txtS)] h (.tup [.agg (srcC src0),iv 0,iv 0]):=by
 have:=rparse_a (s:=bA txtS) (h:=h)
 rw[prs0] at this
 exact this
theorem Zep {h:AH}:Ac 63 [] h (.agg (srcC src0)):=by
 refine tI' k63 fun N hn hlt hlA hbd=>?_
 simp only[tb'] at hbd ⊢
 refine wr'<|E' (ZaU (hl0 hn) ha0) pt<|sn'<|wr'<|Zad mp (rp_txt) pt<|mw<|Vw (ZaS lk gt)<|Vw (ZaS lk gt)<|Vw (ZaS lk gt)<|E' (ZaU (hl1 hn) ha1) pt<|E' (Zai lk cv gx rfl (nb' rfl) rfl ZjX (hs1 hn)) ptn<|?_
 exact mw<|mw<|sn'<|wr'<|Vw (Zao lk gx ZjW rfl)<|E' (Zai lk cv gx rfl (nb' rfl) rfl ZjX (hs0 hn)) ptn<|sn'<|Zaa<|Zae (rs1 (rr_c gt gx (ld1 ZjW rfl)))<|rT' rfl
def insT (t:Trn):List Trn→List Trn
 | []=>[t]
 | u::l=>if t.1≤u.1 then t::u::l else u::insT t l
def insS:List Trn→List Trn
 | []=>[]
 | t::l=>insT t (insS l)
theorem Ziu (t:Trn) : ∀ l:List Trn,(insT t l).Perm (t::l)
 | []=>.refl _
 | u::l=>by
  rw[insT]
  split
  ·exact .refl _
  exact ((Ziu t l).cons u).trans (List.Perm.swap t u l)
theorem Zl9 : ∀ l:List Trn,(insS l).Perm l
 | []=>.refl _
 | t::l=>(Ziu t _).trans ((Zl9 l).cons t)
theorem ZoX {t:Trn} : ∀ {l:List Trn},l.Pairwise (fun a b=>a.1≤b.1)→(insT t l).Pairwise fun a b=>a.1≤b.1
 | [],_=>by simp[insT]
 | u::l,h=>by
  rw[insT]
  rw[List.pairwise_cons] at h
  split
  ·rename_i hle
   refine List.pairwise_cons.2 ⟨fun x hx=>?_,List.pairwise_cons.2 h⟩
   rcases List.mem_cons.1 hx with rfl | hx
   ·exact hle
   have:=h.1 x hx;omega
  rename_i hle
  refine List.pairwise_cons.2 ⟨fun x hx=>?_,ZoX h.2⟩
  rcases List.mem_cons.1 ((Ziu t l).mem_iff.1 hx) with rfl | hx
  ·omega
  exact h.1 x hx
theorem ZoY : ∀ l:List Trn,(insS l).Pairwise fun a b=>a.1≤b.1
 | []=>.nil
 | t::l=>ZoX (ZoY l)
def Zhk (l:List Rul) (nm:ByteArray) (sh:Int):List Tim×Int :=
 if ZdD l nm sh≠0 then ([],ZdD l nm sh) else if gapB (insS (Zbf l nm))=true then ([],4) else if 1000<(insS (Zbf l nm)).length then ([],2) else (outV sh 0 (insS (Zbf l nm)),0)
theorem ZmY (l:List Rul) (nm:ByteArray) (sh:Int):Za9 l nm sh=Zhk l nm sh:=by
 unfold Zhk
 by_cases h:ZdD l nm sh=0
 ·rw[if_neg (by simp[h]),Zov h (Zl9 _) (ZoY _)]
 rw[if_pos h,Zlr h]
theorem tim0_err:(Zhk rul0 nEu 3600).2=0:=by kernel_rfl
theorem chk0:Zb8 src0=0:=by
 have h1:ZbP src0=0:=by kernel_rfl
 have h2:(Zdf src0.2.1 src0.2.2).Nodup:=by decide
 have h3:Zi7 src0=false:=by kernel_rfl
 have h4:Za1 (errX src0.1) (Zdc src0.2.1)=0:=by
  refine Znw fun y hy=>?_
  simp only[src0,Zdc,List.flatMap_cons,List.flatMap_nil,List.append_nil,List.mem_cons,List.not_mem_nil,or_false] at hy
  rcases hy with rfl | rfl
  ·rfl
  show (if nEu=⟨#[]⟩ then 0 else (Za9 rul0 nEu 3600).2)=0
  rw[ZmY,tim0_err];split <;> rfl
 have h5:(src0.2.1.any fun z=>!risL (Zb4 z.2))=false:=by kernel_rfl
 unfold Zb8
 rw[if_neg (by simp[h1]),if_neg (by simpa using h2),if_neg (by simp[h3]),if_neg (by simp[h4]),if_neg (by simp[h5])]
end Go.Proofs.YtlekejpogddndaaGreatDoor
end
section
namespace Go.Proofs.YtlekejpogddndaaGreatDoor
open Go.Ab Go.RowKit Civ
attribute [local simp] Zbg Zbr Zbi Zbq Zb2 ZdF Zdv ZbT
section
theorem ZiK {a0 b0:Int}{a1 b1:Int}{a2 b2:ByteArray}:Zbl [.int,.int,.str] [iv a0,iv a1,sv a2] [iv b0,iv b1,sv b2]=some (decide (a0=b0∧a1=b1∧a2=b2)):=by
 simp only[Zbl,ZdW,if_true,ZcQ,Option.some.injEq]
 simp only[Bool.decide_and,Bool.and_true]
 try (congr 1 <;> simp)
 try rfl
theorem Zqb {a0 a1 c0 c1:AV}{l:List AV}:setCells (a0::a1::l) 0 [c0,c1]=c0::c1::l:=rfl
theorem Zha {a0 a1 a2 c0 c1 c2:AV}{l:List AV}:setCells (a0::a1::a2::l) 0 [c0,c1,c2]=c0::c1::c2::l:=rfl
theorem ZjV {a0 a1 a2:AV}{l:List AV}:((a0::a1::a2::l).drop 0).take 3=[a0,a1,a2]:=rfl
theorem Zg9 {τ:Operand→AV}{y0 y1 y2:Operand}{x0_0 x1_0 x2_0:AV}(h0:Zat (τ y0)=some [x0_0]) (l0:[x0_0].all leaf=true) (h1:Zat (τ y1)=some [x1_0]) (l1:[x1_0].all leaf=true) (h2:Zat (τ y2)=some [x2_0]) (l2:[x2_0].all leaf=true):Zas τ [(0,1,y0),(1,1,y1),(2,1,y2)] [(.v (.int .i64 0)),(.v (.int .i64 0)),(.v (.string ⟨#[]⟩))]=some [x0_0,x1_0,x2_0]:=by
 simp only[Zas,h0,l0,h1,l1,h2,l2]
 rfl
theorem Zg8 {τ:Operand→AV}{y0 y1:Operand}{x0_0 x1_0:AV}(h0:Zat (τ y0)=some [x0_0]) (l0:[x0_0].all leaf=true) (h1:Zat (τ y1)=some [x1_0]) (l1:[x1_0].all leaf=true):Zas τ [(0,1,y0),(2,1,y1)] [(.v (.int .i64 0)),(.v (.int .i64 0)),(.v (.string ⟨#[]⟩))]=some [x0_0,(.v (.int .i64 0)),x1_0]:=by
 simp only[Zas,h0,l0,h1,l1]
 rfl
end
def c15:AC:=(Sr [Mb 0 false] (Sr [Cl 12 63 [],Oo 13 (.call (.func 30) [(.tmp 12),(.const (.string ⟨#[79,108,100]⟩))]),Mv 11 13,Ex 14 11 0,Ex 15 11 1,Oo 1 (.new 53 2 [Ss,(.sl 0 0 true [])]),⟨none,none,(.store 2 (.tmp 1) (.tmp 14))⟩,Mv 2 15] (Sr [Cl 17 63 [],Oo 18 (.call (.func 64) [(.tmp 17),(.const (.string ⟨#[72,101,114,101,47,84,111,119,110]⟩))]),Mv 16 18,Ex 19 16 0,Ex 20 16 1,Mv 3 19,Mv 4 20] (Sr [Cl 22 63 [],Oo 23 (.call (.func 16) [(.tmp 22),(.const (.string ⟨#[79,108,100]⟩)),(Ci 1585443600)]),Mv 21 23,Ex 24 21 0,Ex 25 21 1,Oo 5 (.new 29 3 [(iv 0),(iv 0),Ss]),⟨none,none,(.store 3 (.tmp 5) (.tmp 24))⟩,Mv 6 25] (Sr [Cl 27 63 [],Oo 28 (.call (.func 16) [(.tmp 27),(.const (.string ⟨#[79,108,100]⟩)),(Ci 1585443599)]),Mv 26 28,Ex 29 26 0,Ex 30 26 1,Oo 7 (.new 29 3 [(iv 0),(iv 0),Ss]),⟨none,none,(.store 3 (.tmp 7) (.tmp 29))⟩,Mv 8 30] (Sr [Cl 32 63 [],Oo 33 (.call (.func 16) [(.tmp 32),(.const (.string ⟨#[78,101,119]⟩)),(Ci 0)]),Mv 31 33,Ex 34 31 0,Ex 35 31 1,Oo 9 (.new 29 3 [(iv 0),(iv 0),Ss]),⟨none,none,(.store 3 (.tmp 9) (.tmp 34))⟩,Mv 10 35] (Sr [Cl 36 63 [],Cl 37 65 [(.tmp 36)],Bc 38 .eql 37 0,Mv 39 38,Ot 40 39 (mt 2),Ot 41 39 (.bin .eql (.tmp 40) (Ci 0)),Oo 42 (.pick (.tmp 39) (.tmp 41) (.const (.bool false))),Mv 43 42,Ot 44 43 (mt 4),Ot 45 43 (.bin .eql (.tmp 44) (Ci 0)),Oo 46 (.pick (.tmp 43) (.tmp 45) (.const (.bool false))),Mv 47 46,Ot 48 47 (mt 6),Ot 49 47 (.bin .eql (.tmp 48) (Ci 0)),Oo 50 (.pick (.tmp 47) (.tmp 49) (.const (.bool false))),Mv 51 50,Ot 52 51 (mt 8),Ot 53 51 (.bin .eql (.tmp 52) (Ci 0)),Oo 54 (.pick (.tmp 51) (.tmp 53) (.const (.bool false))),Mv 55 54,Ot 56 55 (mt 10),Ot 57 55 (.bin .eql (.tmp 56) (Ci 5)),Oo 58 (.pick (.tmp 55) (.tmp 57) (.const (.bool false))),Mv 59 58,Ot 60 59 (.fa 0 (.tmp 1)),Ot 61 59 (.load false 1 (.tmp 60)),Ot 62 59 (.bin .eql (.tmp 61) (.const (.string ⟨#[72,101,114,101,47,84,111,119,110]⟩))),Oo 63 (.pick (.tmp 59) (.tmp 62) (.const (.bool false))),Mv 64 63,Ot 65 64 (mt 3),Ot 66 64 (.len false (.tmp 65)),Ot 67 64 (.bin .eql (.tmp 66) (Ci 1)),Oo 68 (.pick (.tmp 64) (.tmp 67) (.const (.bool false))),Mv 69 68,Ot 70 69 (mt 3),Ot 71 69 (.ia 1 (.tmp 70) (Ci 0)),Ot 72 69 (.load false 1 (.tmp 71)),Ot 73 69 (.bin .eql (.tmp 72) (.const (.int .i64 (-2840141400)))),Oo 74 (.pick (.tmp 69) (.tmp 73) (.const (.bool false))),Mv 75 74,Ot 76 75 (.load true 3 (.tmp 5)),Ot 77 75 (.build [(iv 0),(iv 0),Ss] [(0,(1,(Ci 7200))),(1,(1,(Ci 3600))),(2,(1,(.const (.string ⟨#[67,69,83,84]⟩))))]),Ot 78 75 (.eqs false [.int,.int,.str] (.tmp 76) (.tmp 77)),Oo 79 (.pick (.tmp 75) (.tmp 78) (.const (.bool false))),Mv 80 79,Ot 81 80 (.load true 3 (.tmp 7)),Ot 82 80 (.build [(iv 0),(iv 0),Ss] [(0,(1,(Ci 3600))),(2,(1,(.const (.string ⟨#[67,69,84]⟩))))]),Ot 83 80 (.eqs false [.int,.int,.str] (.tmp 81) (.tmp 82)),Oo 84 (.pick (.tmp 80) (.tmp 83) (.const (.bool false))),Mv 0 84] .ret)))))))
theorem k15:ZaA Tryz.prog 15=some ⟨c15,[(.tmp 0)],85⟩:=by kernel_rfl
theorem find0:ZbE src0 nOld=((nHt,[era0,era1]),0):=by
 unfold ZbE;rw[if_neg (by simp[chk0])];kernel_rfl
theorem find1:ZbE src0 nHt=((nHt,[era0,era1]),0):=by
 unfold ZbE;rw[if_neg (by simp[chk0])];kernel_rfl
theorem find2:ZbE src0 (bA [78,101,119])=(zonO,5):=by
 unfold ZbE;rw[if_neg (by simp[chk0])];kernel_rfl
theorem told0 {n:Int}(h:endV era0≤n):Zbs rul0 [era0,era1] n=locV era1 (Zdi 0 ⟨#[]⟩ (Zhk rul0 nEu 3600).1 n).1 (Zdi 0 ⟨#[]⟩ (Zhk rul0 nEu 3600).1 n).2:=by
 rw[Zbs,if_pos h,Zbs]
 unfold Zgr
 have:Zbc rul0 era1=(Zhk rul0 nEu 3600).1:=by
  unfold Zbc
  rw[if_neg (by decide),ZmY];rfl
 rw[this];rfl
theorem at0:atV src0 nOld 1585443600=((7200,3600,bA [67,69,83,84]),0):=by
 unfold atV
 rw[find0]
 simp only[ne_eq,not_true_eq_false,if_false]
 rw[if_neg (by decide)]
 show (Zbs rul0 [era0,era1] 1585443600,(0:Int))=_
 rw[told0 (by decide)]
 kernel_rfl
theorem at1:atV src0 nOld 1585443599=((3600,0,bA [67,69,84]),0):=by
 unfold atV
 rw[find0]
 simp only[ne_eq,not_true_eq_false,if_false]
 rw[if_neg (by decide)]
 show (Zbs rul0 [era0,era1] 1585443599,(0:Int))=_
 rw[told0 (by decide)]
 kernel_rfl
theorem at2:atV src0 (bA [78,101,119]) 0=(locZ,5):=by
 unfold atV
 rw[find2];rfl
theorem zf0 {h:AH}:Ac 30 [.agg (srcC src0),sv nOld] h (.tup [.agg (zonC (nHt,[era0,era1])),iv 0]):=by
 have:=Zq2 (a:=src0.1) (z:=src0.2.1) (k:=src0.2.2) (nm:=nOld) (h:=h) ZfI
 rw[show (src0.1,src0.2.1,src0.2.2)=src0 from rfl,find0] at this
 exact this
theorem ze0 {h:AH}:Ac 64 [.agg (srcC src0),sv nHt] h (.tup [.sl 1 1 false (rows intC [-2840141400]),iv 0]):=by
 have:=zends_a (a:=src0.1) (z:=src0.2.1) (k:=src0.2.2) (nm:=nHt) (h:=h) ZfI
 rw[show (src0.1,src0.2.1,src0.2.2)=src0 from rfl,find1,show Zb4 ((nHt,[era0,era1]),(0:Int)).1.2=[-2840141400] from by kernel_rfl] at this
 exact this
theorem za0 {h:AH}:Ac 16 [.agg (srcC src0),sv nOld,iv 1585443600] h (.tup [.agg (locC3 (7200,3600,bA [67,69,83,84])),iv 0]):=by
 have:=at_a (a:=src0.1) (z:=src0.2.1) (k:=src0.2.2) (nm:=nOld) (n:=1585443600) (h:=h) ZfI
 rw[show (src0.1,src0.2.1,src0.2.2)=src0 from rfl,at0] at this
 exact this
theorem za1 {h:AH}:Ac 16 [.agg (srcC src0),sv nOld,iv 1585443599] h (.tup [.agg (locC3 (3600,0,bA [67,69,84])),iv 0]):=by
 have:=at_a (a:=src0.1) (z:=src0.2.1) (k:=src0.2.2) (nm:=nOld) (n:=1585443599) (h:=h) ZfI
 rw[show (src0.1,src0.2.1,src0.2.2)=src0 from rfl,at1] at this
 exact this
theorem za2 {h:AH}:Ac 16 [.agg (srcC src0),sv (bA [78,101,119]),iv 0] h (.tup [.agg (locC3 locZ),iv 5]):=by
 have:=at_a (a:=src0.1) (z:=src0.2.1) (k:=src0.2.2) (nm:=bA [78,101,119]) (n:=0) (h:=h) ZfI
 rw[show (src0.1,src0.2.1,src0.2.2)=src0 from rfl,at2] at this
 exact this
theorem zc0 {h:AH}:Ac 65 [.agg (srcC src0)] h (iv 0):=by
 have:=Zoi (a:=src0.1) (z:=src0.2.1) (k:=src0.2.2) (h:=h) ZfI
 rw[show (src0.1,src0.2.1,src0.2.2)=src0 from rfl,chk0] at this
 exact this
theorem zbegun_a {h:AH}:Ac 15 [] h (bv true):=by
 refine tI' k15 fun N hn hlt hlA hbd=>?_
 simp only[tb'] at hbd ⊢
 refine wr'<|mw<|sn'<|wr'<|Zad mp0 (Zep) pt<|Zad mp (zf0) pt<|mw<|Vw (ZaS lk gt)<|Vw (ZaS lk gt)<|E' (ZaU (hl0 hn) ha0) pt<|E' (Zai lk cv gx rfl (nb' rfl) rfl Zqb (hs0 hn)) ptn<|?_
 refine mw<|sn'<|wr'<|Zad mp0 (Zep) pt<|Zad mp (ze0) pt<|mw<|Vw (ZaS lk gt)<|Vw (ZaS lk gt)<|mw<|mw<|sn'<|?_
 refine wr'<|Zad mp0 (Zep) pt<|Zad mp (za0) pt<|mw<|Vw (ZaS lk gt)<|Vw (ZaS lk gt)<|E' (ZaU (hl1 hn) ha1) pt<|E' (Zai lk cv gx rfl (nb' rfl) rfl Zha (hs1 hn)) ptn<|mw<|sn'<|wr'<|?_
 refine Zad mp0 (Zep) pt<|Zad mp (za1) pt<|mw<|Vw (ZaS lk gt)<|Vw (ZaS lk gt)<|E' (ZaU (hl2 hn) ha2) pt<|E' (Zai lk cv gx rfl (nb' rfl) rfl Zha (hs2 hn)) ptn<|mw<|sn'<|wr'<|Zad mp0 (Zep) pt<|Zad mp (za2) pt<|?_
 refine mw<|Vw (ZaS lk gt)<|Vw (ZaS lk gt)<|E' (ZaU (hl3 hn) ha3) pt<|E' (Zai lk cv gx rfl (nb' rfl) rfl Zha (hs3 hn)) ptn<|mw<|sn'<|wr'<|Zad mp0 (Zep) pt<|Zad mp (zc0) pt<|Vw (ZaR lk lki)<|mw<|?_
 refine Zda (t:=39) gt (b:=true) (by rfl) pt ?_
 refine s_do gt<|mw<|s_do gt<|Vw (ZaR lk lki)<|Vw (Zak lk lk)<|mw<|?_
 refine Zda (t:=43) gt (b:=true) (by rfl) pt ?_
 refine s_do gt<|mw<|s_do gt<|Vw (ZaR lk lki)<|Vw (Zak lk lk)<|mw<|?_
 refine Zda (t:=47) gt (b:=true) (by rfl) pt ?_
 refine s_do gt<|mw<|s_do gt<|Vw (ZaR lk lki)<|Vw (Zak lk lk)<|mw<|?_
 refine Zda (t:=51) gt (b:=true) (by rfl) pt ?_
 refine s_do gt<|mw<|s_do gt<|Vw (ZaR lk lki)<|Vw (Zak lk lk)<|mw<|?_
 refine Zda (t:=55) gt (b:=true) (by rfl) pt ?_
 refine s_do gt<|mw<|s_do gt<|Vw (ZaR lk lki)<|Vw (Zak lk lk)<|mw<|?_
 refine Zda (t:=59) gt (b:=true) (by rfl) pt ?_
 refine s_do gt<|Vw (Zab lk)<|s_do gt<|Vw (Zac lk gx gt0)<|s_do gt<|Vw (Zcu lk lks)<|Vw (Zak lk lk)<|mw<|?_
 refine Zda (t:=64) gt (b:=true) (by rfl) pt ?_
 refine s_do gt<|mw<|s_do gt<|Vw (ZaL lk)<|s_do gt<|Vw (ZaR lk lki)<|Vw (Zak lk lk)<|mw<|?_
 refine Zda (t:=69) gt (b:=true) (by rfl) pt ?_
 refine s_do gt<|mw<|s_do gt<|?_
 refine V' (ZaX (k:=0) lk lki ZdU (nb' rfl) (by first | rfl | first | omega | decide) (by first | omega | decide) ro rfl) pt ?_
 refine s_do gt<|Vw (ZaC lk gt)<|s_do gt<|Vw (ZaR lk lki)<|Vw (Zak lk lk)<|mw<|?_
 refine Zda (t:=75) gt (b:=true) (by rfl) pt ?_
 refine s_do gt<|Vw (Zao lk gx ZjV rfl)<|s_do gt<|Vw (Zau (Zg9 (cvl lki rfl) rfl (cvl lki rfl) rfl (cvl lks rfl) rfl))<|s_do gt<|Vw (Zhj lk lk ZiK)<|Vw (Zak lk lk)<|mw<|?_
 refine Zda (t:=80) gt (b:=true) (by rfl) pt ?_
 exact s_do gt<|Vw (Zao lk (hga hn rfl) ZjV rfl)<|s_do gt<|Vw (Zau (Zg8 (cvl lki rfl) rfl (cvl lks rfl) rfl))<|s_do gt<|Vw (Zhj lk lk ZiK)<|Vw (Zak lk lk)<|mw<|sn'<|Zaa<|Zae rz<|rT' rfl
end Go.Proofs.YtlekejpogddndaaGreatDoor
end
section
namespace Go.Proofs.YtlekejpogddndaaGreatDoor
open Go.Ab Civ
def ZrS:List Chg:=cutV (eraG era0 tMin []) (endV era0)++eraG era1 (endV era0) (Zhk rul0 nEu 3600).1
theorem ZrR:ZaZ rul0 tMin none [era0,era1]=ZrS:=by
 have e0:Zbc rul0 era0=[]:=if_pos (by decide)
 have e1:Zbc rul0 era1=(Zhk rul0 nEu 3600).1:=by
  unfold Zbc
  rw[if_neg (by decide),ZmY];rfl
 rw[ZaZ,ZaZ,e0,e1,if_neg (by decide)]
 unfold ZrS
 rw[show ZbI none tMin=tMin from rfl,show ZbI (some (endV era0)) tMin=endV era0 from by decide]
def tab0:Tab:=stV (inP ZrS)
theorem Zps:tab0.1=(600,0,bA [76,77,84]):=by kernel_rfl
theorem ZoB:tab0.2.length=211:=by kernel_rfl
theorem tab0_ok1:locE tab0.1=0:=by kernel_rfl
theorem tab0_ok2:Zce tab0.2=0:=by kernel_rfl
theorem table0:Zde rul0 [era0,era1]=tab0:=by
 have:=Zlz (s:=src0) (z:=(nHt,[era0,era1])) chk0 (by simp[src0])
 have e:stV (inP (ZaZ rul0 tMin none [era0,era1]))=Zde rul0 [era0,era1]:=this
 rw[←e,ZrR];rfl
theorem of0:ofV src0 (nHt,[era0,era1])=(tab0,0):=by
 unfold ofV
 show tabR (Zde rul0 [era0,era1])=_
 rw[table0]
 unfold tabR
 rw[if_neg (by rw[tab0_ok1];simp),if_neg (by rw[tab0_ok2];simp),if_neg (by rw[ZoB];decide)]
theorem comp0:ZbZ src0 nOld=(tab0,0):=by
 unfold ZbZ
 rw[find0,if_neg (by simp),of0]
theorem chkT0:ZbO tab0=0:=by
 have h:=Zhl (rl:=rul0) (es:=[era0,era1]) (by
  have:=congrArg Prod.snd of0
  exact this)
 rwa [table0] at h
theorem Zlt:ZeO Zga 100=(7200,3600,⟨#[66]⟩):=by kernel_rfl
theorem Zls:ZeO Zga 99=(3600,0,⟨#[65]⟩):=by kernel_rfl
theorem ZjQ:ZbO Zga=0:=by kernel_rfl
end Go.Proofs.YtlekejpogddndaaGreatDoor
end
section
namespace Go.Proofs.YtlekejpogddndaaGreatDoor
open Go.Ab Civ
attribute [local simp] Zbg Zbr Zbi Zbq ZbT ZdF Zb2
section
theorem Zeg {a0 a1 a2 a3:AV}{l:List AV}:((a0::a1::a2::a3::l).drop 1).take 3=[a1,a2,a3]:=rfl
theorem Zhe {a0 a1 a2 c0 c1 c2:AV}{l:List AV}:setCells (a0::a1::a2::l) 0 [c0,c1,c2]=c0::c1::c2::l:=rfl
theorem Zdt {a0 a1 a2:AV}{l:List AV}:((a0::a1::a2::l).drop 0).take 3=[a0,a1,a2]:=rfl
theorem Ztm {τ:Operand→AV}:Zas τ [] [(.v (.int .i64 0)),(.v (.int .i64 0)),(.v (.string ⟨#[]⟩)),(.sl 0 0 true [])]=some [(.v (.int .i64 0)),(.v (.int .i64 0)),(.v (.string ⟨#[]⟩)),(.sl 0 0 true [])]:=rfl
theorem Zj1 {a0 a1:AV}{l:List AV}:((a0::a1::l).drop 0).take 2=[a0,a1]:=rfl
theorem ZmB {a0 a1 a2 a3:AV}{l:List AV}:(a0::a1::a2::a3::l).take 4=[a0,a1,a2,a3]:=rfl
theorem ZcH {a0 a1 a2 a3 c0 c1 c2 c3:AV}{l:List AV}:setCells (a0::a1::a2::a3::l) 0 [c0,c1,c2,c3]=c0::c1::c2::c3::l:=rfl
theorem Zj2 {τ:Operand→AV}:Zas τ [] [(.v (.int .i64 0)),(.v (.int .i64 0)),(.v (.string ⟨#[]⟩)),(.sl 0 0 true [])]=some [(.v (.int .i64 0)),(.v (.int .i64 0)),(.v (.string ⟨#[]⟩)),(.sl 0 0 true [])]:=rfl
theorem Zcr {a0 a1 a2 a3:AV}{l:List AV}:((a0::a1::a2::a3::l).drop 0).take 4=[a0,a1,a2,a3]:=rfl
theorem Zqx {τ:Operand→AV}:Zas τ [] [(.v (.int .i64 0)),(.v (.int .i64 0)),(.v (.string ⟨#[]⟩)),(.sl 0 0 true [])]=some [(.v (.int .i64 0)),(.v (.int .i64 0)),(.v (.string ⟨#[]⟩)),(.sl 0 0 true [])]:=rfl
theorem Zn6 {a0 b0:Int}{a1 b1:Int}{a2 b2:ByteArray}:Zbl [.int,.int,.str] [iv a0,iv a1,sv a2] [iv b0,iv b1,sv b2]=some (decide (a0=b0∧a1=b1∧a2=b2)):=by
 simp only[Zbl,ZdW,if_true,ZcQ,Option.some.injEq]
 simp only[Bool.decide_and,Bool.and_true]
 try (congr 1 <;> simp)
 try rfl
theorem Zqw {τ:Operand→AV}{y0 y1:Operand}{x0_0 x1_0 x1_1 x1_2:AV}(h0:Zat (τ y0)=some [x0_0]) (l0:[x0_0].all leaf=true) (h1:Zat (τ y1)=some [x1_0,x1_1,x1_2]) (l1:[x1_0,x1_1,x1_2].all leaf=true):Zas τ [(0,1,y0),(1,3,y1)] [(.v (.int .i64 0)),(.v (.int .i64 0)),(.v (.int .i64 0)),(.v (.string ⟨#[]⟩))]=some [x0_0,x1_0,x1_1,x1_2]:=by
 simp only[Zas,h0,l0,h1,l1]
 rfl
theorem Zqv {τ:Operand→AV}{y0:Operand}{x0_0 x0_1 x0_2 x0_3:AV}(h0:Zat (τ y0)=some [x0_0,x0_1,x0_2,x0_3]) (l0:[x0_0,x0_1,x0_2,x0_3].all leaf=true):Zas τ [(0,4,y0)] [(.v (.int .i64 0)),(.v (.int .i64 0)),(.v (.int .i64 0)),(.v (.string ⟨#[]⟩))]=some [x0_0,x0_1,x0_2,x0_3]:=by
 simp only[Zas,h0,l0]
 rfl
theorem Ztl { e:Ent}:([]:AH)++[e]=[e]:=rfl
theorem Zqu {e0 e1 e2 e3 e4 e5 d0:Ent}:([e0,e1,e2,e3,e4,e5]:AH)++[d0]=[e0,e1,e2,e3,e4,e5,d0]:=rfl
theorem Zqs {a0 a1 a2 a3 c0:AV}{l:List AV}:setCells (a0::a1::a2::a3::l) 3 [c0]=a0::a1::a2::c0::l:=rfl
theorem Zqt {a0 a1 c0 c1:AV}{l:List AV}:setCells (a0::a1::l) 0 [c0,c1]=c0::c1::l:=rfl
theorem ZiN {τ:Operand→AV}:Zas τ [] [(.v (.int .i64 0)),(.v (.int .i64 0)),(.v (.string ⟨#[]⟩)),(.sl 0 0 true [])]=some [(.v (.int .i64 0)),(.v (.int .i64 0)),(.v (.string ⟨#[]⟩)),(.sl 0 0 true [])]:=rfl
end
def c78:AC:=(Sr [Oo 2 (.box 26 3 (.tmp 0)),Oo 3 (.box 53 2 (.tmp 1)),Oo 4 (.new 40 4 [(iv 0),(iv 0),Ss,(.sl 0 0 true [])]),Mc 5 0] (Sr [Oo 10 (.build [(iv 0),(iv 0),Ss,(.sl 0 0 true [])] []),Oo 11 (.box 198 4 (.tmp 10)),Mv 6 11] (.seq (Sd [Oo 12 (.load true 3 (.tmp 2)),Oo 13 (.load true 2 (.tmp 3)),Cl 14 67 [],Cl 15 69 [(.tmp 12),(.tmp 13),(.tmp 14)],Oo 16 (.len false (.tmp 15)),Mc 17 0] (.block 0 (.loop (Sr [Bn 18 .lss 17 16] (.seq (Cd 18 .skip (.exit 0)) (.seq (.block 1 (Sr [Mv 19 17,Oo 20 (.ia 4 (.tmp 15) (.tmp 17)),Oo 21 (.load true 4 (.tmp 20)),Oo 8 (.new 121 4 [(iv 0),(iv 0),(iv 0),Ss]),Mv 7 19,⟨none,none,(.store 4 (.tmp 8) (.tmp 21))⟩] (.seq (Sd [Fa 22 0 8,Ld 23 22,Cl 24 68 [],Bn 25 .gtr 23 24] (Cd 25 (.exit 0) .skip)) (.seq (Sr [Fa 26 1 8,Oo 27 (.load true 3 (.tmp 26)),Cl 28 77 [(.tmp 27)],Mv 9 28] (Sr [Mv 29 9,Bc 30 .neq 29 0] (Cd 30 (Sr [Oo 31 (.build [(iv 0),(iv 0),Ss,(.sl 0 0 true [])] []),Mv 32 9,⟨none,none,(.store 4 (.tmp 4) (.tmp 31))⟩,Mv 5 32] .ret) .skip))) (.block 2 (Sr [Mv 34 7,Bc 35 .eql 34 0,Mv 33 35] (Cd 33 (.reg [Mv 36 6,Fa 37 1 8,Oo 38 (.load true 3 (.tmp 37)),Nk 39 36,Fa 40 0 39,Fa 41 0 40,⟨none,none,(.store 3 (.tmp 41) (.tmp 38))⟩]) (.seq (.orPan (.drw [Fa 43 1 8,Oo 44 (.loadR true 3 (.tmp 43)),Mv 45 6] [true,false,false] [Cl 46 147 [(.tmp 45)],Oo 47 (.eqs true [.int,.int,.str] (.tmp 44) (.tmp 46)),Mv 42 47]) (.tmp 45) 147 [Fa 43 1 8,Oo 44 (.load true 3 (.tmp 43)),Mv 45 6,Mv 46 45,Mb 47 false,Mb 42 false] 46) (Cd 42 (.drw [Mv 48 6,Mv 49 6,Nk 50 49,Fa 51 0 50,Fa 52 3 51,Ld 53 52,Fa 54 0 8,Ld 55 54,Fa 56 1 8,Oo 57 (.load true 3 (.tmp 56)),Oo 58 (.build [(iv 0),(iv 0),(iv 0),Ss] [(0,(1,(.tmp 55))),(1,(3,(.tmp 57)))]),Oo 59 (.lit 68 4 1 [(iv 0),(iv 0),(iv 0),Ss] [(0,(4,(.tmp 58)))])] [false,false,false,false,false] [Oo 60 (.app 68 4 40 (.tmp 53) (.tmp 59)),Nk 61 48,Fa 62 0 61,Fa 63 3 62,Sc 63 60]) .skip))))))))) (.reg [Bc 64 .add 17 1,Mv 17 64]))))))) (.seq (Sr [Mv 65 6,Nk 66 65,Fa 67 0 66,Fa 68 3 67,Ld 69 68,Oo 70 (.len false (.tmp 69)),Bc 71 .gtr 70 1000] (Cd 71 (Sr [Oo 72 (.build [(iv 0),(iv 0),Ss,(.sl 0 0 true [])] []),⟨none,none,(.store 4 (.tmp 4) (.tmp 72))⟩,Mc 5 2] .ret) .skip)) (Sr [Mv 73 6,Nk 74 73,Fa 75 0 74,Oo 76 (.load true 4 (.tmp 75)),⟨none,none,(.store 4 (.tmp 4) (.tmp 76))⟩,Mc 5 0] .ret)))))
theorem k78:ZaA Tryz.prog 78=some ⟨c78,[(.cell 4 true 4),(.tmp 5)],77⟩:=by kernel_rfl
def c24:AC:=(Sr [Oo 2 (.box 26 3 (.tmp 0)),Oo 4 (.new 40 4 [(iv 0),(iv 0),Ss,(.sl 0 0 true [])]),Mc 5 0] (Sr [Oo 9 (.load true 3 (.tmp 2)),Mv 10 1,Cl 11 30 [(.tmp 9),(.tmp 10)],Mv 8 11,Ex 12 8 0,Ex 13 8 1,Oo 6 (.new 53 2 [Ss,(.sl 0 0 true [])]),⟨none,none,(.store 2 (.tmp 6) (.tmp 12))⟩,Mv 7 13] (.seq (Sr [Mv 14 7,Bc 15 .neq 14 0] (Cd 15 (Sr [Oo 16 (.build [(iv 0),(iv 0),Ss,(.sl 0 0 true [])] []),Mv 17 7,⟨none,none,(.store 4 (.tmp 4) (.tmp 16))⟩,Mv 5 17] .ret) .skip)) (Sr [Oo 18 (.load true 3 (.tmp 2)),Oo 19 (.load true 2 (.tmp 6)),Cl 20 78 [(.tmp 18),(.tmp 19)],Ex 21 20 0,Ex 22 20 1,⟨none,none,(.store 4 (.tmp 4) (.tmp 21))⟩,Mv 5 22] .ret))))
theorem k24:ZaA Tryz.prog 24=some ⟨c24,[(.cell 4 true 4),(.tmp 5)],23⟩:=by kernel_rfl
theorem last_eq : ∀ (F:Loc) (l:List Chg),Zit F l=Zi9 F l
 | F,[]=>rfl
 | F,c::l=>by
  rw[Zgm (l:=c::l) (by simp)]
  unfold Zit
  rw[List.getLast?_eq_getElem?,List.getElem?_eq_getElem (by simp)]
  rfl
theorem Zse {ps:List Chg}{i:Nat}(hi:i<ps.length) (h1 : ∀ c∈ps.take i,c.1≤tMax) (h2:ps[i].1≤tMax) (h3:Zce (ps.take i)=0) (h4:locE ps[i].2≠0):Zce (inP ps)=locE ps[i].2:=by
 have e:inP ps=(ps.take i++[ps[i]])++inP (ps.drop (i+1)):=by
  conv=>lhs;rw[←List.take_append_drop i ps]
  unfold inP
  rw[List.takeWhile_append_of_pos (fun c hc=>by have:=h1 c hc;simpa using this),List.drop_eq_getElem_cons hi,List.takeWhile_cons,if_pos (by simpa using h2),List.append_assoc]
  rfl
 have h5:=Ziq (c:=ps[i]) h3
 rw[e,Zl4 (by rw[h5];exact h4),h5]
theorem mlast_o {F:Loc}{l:List Chg}{id q v0 ver ty ty2:Nat}{h:AH}(h1:h[id]?=some (.mk v0 ty 4 [iv F.1,iv F.2.1,sv F.2.2,.own q ver l.length])) (h2:h[q]?=some (.mk ver ty2 4 (rows chgC l))) (hl:l.length≤9223372036854775807) :
  Ac 147 [.ptr id v0 0] h (.agg [iv (Zit F l).1,iv (Zit F l).2.1,sv (Zit F l).2.2]):=by
 have hid:id<h.length:=(List.getElem?_eq_some_iff.1 h1).1
 rw[last_eq]
 refine tI' k147 fun N hn hlt hlA hbd=>?_
 simp only[tb'] at hbd ⊢
 refine wr'<|E' (ZaU (hl0 hn) ha0) pt<|sn'<|Zam<|wr'<|mw<|Vw (Zbp lk)<|Vw (Zab lk)<|Vw (Zab lk)<|Vw (Zac lk (ZeH h1) gt3)<|Vw (Zc1 lk)<|?_
 refine mw<|sn'<|wr'<|mw<|Vw (ZbB lk lki)<|sn'<|?_
 refine cd' lk (fun hc1=>?_) (fun hc1=>?_)
 ·have hl0:0<l.length:=by omega
  refine wr'<|mw<|Vw (Zbp lk)<|Vw (Zab lk)<|Vw (Zab lk)<|Vw (Zac lk (ZeH h1) gt3)<|mw<|?_
  refine V' (ZbA lk lki om om) pt ?_
  refine V' (Zom (k:=l.length-1) lk lk (ZeH h2) Zb5 (nb' rfl) ro om (by first | rfl | (simp;done) | omega)) pt ?_
  refine V' (ZbK lk) pt ?_
  refine V' (v_ldOFA lk (ZeH h2) Zb5 om (nb' rfl) Zeg rfl) pt ?_
  refine E' (Zai lk cv gx rfl (nb' rfl) rfl Zhe (hs0 hn)) ptn<|sn'<|Zaa<|Zah<|Zae (rs1 (rr_c gt gx (ld1 Zdt rfl)))<|rT'<|?_
  rw[Zgm hl0]
 have hl0:l=[]:=List.eq_nil_of_length_eq_zero om
 refine Zaf<|Zag<|wr'<|mw<|Vw (Zbp lk)<|Vw (Zab lk)<|Vw (Zab lk)<|Vw (Zao lk (ZeH h1) Zdt rfl)<|E' (Zai lk cv gx rfl (nb' rfl) rfl Zhe (hs0 hn)) ptn<|sn'<|Zaa<|Zae (rs1 (rr_c gt gx (ld1 Zdt rfl)))<|?_
 refine rT' ?_
 subst hl0;rfl
theorem mlast_r {F:Loc}{l:List Chg}{id q v0 ver ty ty2:Nat}{h:AH}(h1:h[id]?=some (.mk v0 ty 4 [iv F.1,iv F.2.1,sv F.2.2,.own q ver l.length])) (h2:h[q]?=some (.mk ver ty2 4 (rows chgC l))) (hl:l.length≤9223372036854775807) :
  ACalls Tryz.prog 147 [.ptr id v0 0] h fun x h'=>x=.ret (.agg [iv (Zit F l).1,iv (Zit F l).2.1,sv (Zit F l).2.2])∧h'=h:=(mlast_o h1 h2 hl).mono fun _ _ e=>⟨e.2,e.1⟩
theorem ZlY (fm lt:ByteArray) (sa:Int):(ZkI fm lt sa).size≤2*fm.size+lt.size:=by
 unfold ZkI
 have h1:=ZhS (s:=fm) (p:=[47])
 have h2:=ZhS (s:=fm) (p:=[37,115])
 have e:(aB lt).length=lt.size:=rfl
 split
 ·split <;> (rw[Zdd];omega)
 split
 ·rw[Zdd,List.length_append,List.length_append,e];omega
 omega
theorem ZlP {rl:List Rul}{f:Int} : ∀ (es:List Era) (prev:Option Int),(ZaZ rl f prev es).length≤1001*es.length
 | [],_=>by simp[ZaZ]
 | [x],prev=>by
  have h1:=Zgq (x:=x) (b:=ZbI prev f) (Zbc rl x)
  have h2:=Zfb (rl:=rl) (x:=x)
  rw[ZaZ,List.length_singleton];omega
 | x::y::es,prev=>by
  have h1:=Zgq (x:=x) (b:=ZbI prev f) (Zbc rl x)
  have h2:=Zfb (rl:=rl) (x:=x)
  have h3:=Zo9 (eraG x (ZbI prev f) (Zbc rl x)) (endV x)
  have h4:=ZlP (rl:=rl) (f:=f) (y::es) (some (endV x))
  rw[ZaZ,List.length_append,List.length_cons]
  split
  ·rw[List.length_nil];omega
  omega
theorem ZsG {rl:List Rul}{x:Era}{b:Int}(hx:ZbL (xFm x)=true) : ∀ c∈eraG x b (Zbc rl x),c.2.2.2.size≤72:=by
 have hf:=Ziv hx
 intro c hc
 rcases List.mem_cons.1 hc with rfl | hc
 ·have key : ∀ (l:List Tim) (sa:Int) (lt:ByteArray),(∀ t∈l,t.2.2.size≤24)→lt.size≤24→(Zdi sa lt l b).2.size≤24:=by
   intro l
   induction l with
   | nil=>intro _ _ _ h;exact h
   | cons t l ih =>
    intro sa lt hl h
    rw[Zdi]
    split
    ·exact ih _ _ (fun u hu=>hl u (by simp[hu])) (hl t (by simp))
    exact ih _ _ (fun u hu=>hl u (by simp[hu])) h
  have:=key (Zbc rl x) (xSv x) ⟨#[]⟩ (fun t ht=>(Zjl ht).2.2) (by decide)
  have h2:=ZlY (xFm x) (Zdi (xSv x) ⟨#[]⟩ (Zbc rl x) b).2 (Zdi (xSv x) ⟨#[]⟩ (Zbc rl x) b).1
  show (ZkI _ _ _).size≤72
  omega
 obtain⟨t,ht,rfl⟩:=List.mem_map.1 hc
 have h3:=(Zjl (List.mem_filter.1 ht).1).2.2
 have h2:=ZlY (xFm x) t.2.2 t.2.1
 show (ZkI _ _ _).size≤72
 omega
theorem ZoG {rl:List Rul}{f:Int} : ∀ {es:List Era}{prev:Option Int},(∀ x∈es,ZbL (xFm x)=true) → ∀ c∈ZaZ rl f prev es,c.2.2.2.size≤72
 | [],_,_,c,h=>by cases h
 | [x],prev,hx,c,h=>ZsG (hx x (by simp)) c h
 | x::y::es,prev,hx,c,h=>by
  rw[ZaZ] at h
  rcases List.mem_append.1 h with h | h
  ·split at h
   ·cases h
   exact ZsG (hx x (by simp)) c ((List.takeWhile_sublist _).subset h)
  exact ZoG (fun z hz=>hx z (by simp[hz])) c h
def ofP (a:List Rul) (es:List Era):Tab×Int:=tabR (stV (inP (ZaZ a tMin none es)))
theorem ZhI {e:AV}:Wk (.tup [.agg [.v (.int .i64 0),.v (.int .i64 0),.v (.string ⟨#[]⟩),.sl 0 0 true []],e]) (.tup [tabA noTab,e]):=Wk.tup (wkw (Wk.agg (wk1 rfl (wk1 rfl (wk1 rfl (wkw Wk.nilF wk0))))) (wk1 rfl wk0))
theorem tof_a {a:List Rul}{z:List Zon}{k:List Lnk}{nm:ByteArray}{es:List Era}{h:AH}(hok:okRs a) (ha:a.length≤9223372036854775807) (hz:okZ es) (hne:inP (ZaZ a tMin none es)≠[]) :
  Ac 78 [.agg (srcB a z k),.agg [sv nm,.sl es.length 10 false (rows eraC es)]] h (.tup [tabA (ofP a es).1,iv (ofP a es).2]):=by
 have hlen:=hz.len
 have hpl:=ZlP (rl:=a) (f:=tMin) es none
 have hps:=ZoG (rl:=a) (f:=tMin) (prev:=none) (es:=es) (fun x hx=>(hz.fm x hx).1)
 have hO:ofP a es=_:=tabR_st (.inr hne)
 have hparts : ∀ h:AH,ACalls Tryz.prog 69 [.agg (srcB a z k),.agg [sv nm,.sl es.length 10 false (rows eraC es)],iv tMin] h fun y h'=>h'=h∧y=.ret (.sl (ZaZ a tMin none es).length 4 false (rows chgC (ZaZ a tMin none es))):=fun h=>ZrQ hok ha hz (by decide)
 generalize ZaZ a tMin none es=ps at hpl hps hne hO hparts
 refine tW' k78 fun N hn hlt hlA hbd=>?_
 simp only[tb'] at hbd ⊢
 refine wr'<|E' (Zbb cv rfl (hl0 hn) ha0) pt<|E' (Zbb cv rfl (hl1 hn) ha1) pt<|E' (ZaU (hl2 hn) ha2) pt<|mw<|sn'<|wr'<|Vw (Zau Ztm)<|E' (Zbb cv rfl (hl3 hn) ha3) pt<|mw<|Zar<|?_
 refine Zag<|Zam<|Zam<|Zcc<|Dw (Zao lk gx Zdt rfl)<|Dw (Zao lk gx Zj1 rfl)<|?_
 refine Za5 mp0 (fun hE hX=>ZkJ) pt ?_
 refine Za5 mp (fun hE hX=>hparts _) pt ?_
 refine Dw (ZaL lk)<|Dw (v_mv lki)<|ZbQ<|?_
 refine Zcy ?_
 refine Zar ?_
 refine Za7 (ALe.own0Cell (st':=4) (ty:=68) gx gt3 (hl4 hn) pt3 (Eq.trans (congrArg (fun z=>List.set z _ _) ha4) (hs3 hn))) ?_
 refine Zap ?_
 refine w_lp (ι:=Nat×Nat) (fun (x_:Nat×Nat)=>match x_ with | ⟨i,v⟩=>[(17,iv (i:Int)),(5,.any)]++rn' 7 3++rn' 18 47) (fun (x_:Nat×Nat)=>match x_ with | ⟨i,v⟩=>[(3,.mk 0 198 4 [iv (stV (ps.take i)).1.1,iv (stV (ps.take i)).1.2.1,sv (stV (ps.take i)).1.2.2,.own (N+4) v (stV (ps.take i)).2.length]),(4,.mk v 68 4 (rows chgC (stV (ps.take i)).2))]) (fun (x_:Nat×Nat)=>match x_ with | ⟨i,v⟩=>i≤ps.length∧(∀ c∈ps.take i,c.1≤tMax)∧Zce (ps.take i)=0) (fun (x_:Nat×Nat)=>match x_ with | ⟨i,v⟩=>ps.length-i) (⟨0,0⟩) (by exact⟨Nat.zero_le _,⟨fun c hc=>(by cases hc),rfl⟩⟩) ?_
 rintro⟨i,v⟩ hi1
 try simp only[sm',Nat.reduceAdd]
 obtain⟨hi1,hi2,hi3⟩:=hi1
 refine wr'<|Vw (Zba lk lk)<|sn'<|Zam<|?_
 refine cd' lk (fun hc1=>?_) (fun hc1=>?_)
 ·have hi:i<ps.length:=by omega
  have hsz:=hps _ (List.getElem_mem hi)
  have hsl:=Zro (ps.take i)
  rw[List.length_take] at hsl
  have htk:=List.take_succ_eq_append_getElem hi
  refine Zaf<|Zag<|Zam<|Zap<|wr'<|mw<|?_
  refine V' (ZaX lk lk Zb5 (nb' rfl) ro om ro rfl) pt ?_
  refine Vw (ZaI lk ZmB rfl)<|E' (ZaU (hl5 hn) ha5) pt<|mw<|E' (Zai lk cv gx rfl (nb' rfl) rfl ZcH (hs5 hn)) ptn<|sn'<|Zam<|Zam<|Zcc<|Dw (Zab lk)<|Dw (Zac lk gx gt0)<|?_
  refine Za5 mp0 (fun hE hX=>Zr3) pt ?_
  refine Dw (ZbB lk lk)<|ZbQ<|?_
  refine Zcy ?_
  refine sn' ?_
  refine cd' lk (fun hc2=>?_) (fun hc2=>?_)
  ·have hP:inP ps=ps.take i:=ZoZ hi2 (fun hh=>by simp only[tMax];omega)
   refine ZaN<|ZaE<|x_pas (Nat.ne_of_beq_eq_false rfl)<|ZaE<|ZaE<|Za8<|Zag<|Zam<|wr'<|mw<|Vw (Zbp lk)<|Vw (Zab lk)<|Vw (Zab lk)<|?_
   refine Vw (Zac lk gx gt3)<|Vw (Zc1 lk)<|Vw (ZbB lk lki)<|sn'<|?_
   refine cd' lk (fun hc6=>?_) (fun hc6=>?_)
   ·rw[hP,hi3,if_neg (by simp),if_pos om] at hO
    refine wr'<|Vw (Zau Zj2)<|E' (Zai lk cv gx rfl (nb' rfl) rfl ZcH (hs2 hn)) ptn<|mw<|sn'<|Zaa<|Zah<|Zae (rsn (rm1 (rr_c gt gx (ld1 Zcr rfl)) (rm1 (rr_t gt) rm0)))<|rtW'<|?_
    rw[hO];exact ZhI
   rw[hP,hi3,if_neg (by simp),if_neg om] at hO
   refine Zaf ?_
   refine Za7 (ALe.iceCellR gx gx om gt3 (List.take_of_length_le (by rw[ZcP];exact Nat.le_refl _)) (by rw[ZcP];exact Nat.le_refl _) pt3 (hs4 hn) (hs3 hn)) ?_
   refine wr'<|mw<|Vw (Zbp lk)<|Vw (Zab lk)<|Vw (Zao lk gx Zcr rfl)<|E' (Zai lk cv gx rfl (nb' rfl) rfl ZcH (hs2 hn)) ptn<|mw<|sn'<|Zaa<|Zae (rsn (rm1 (rr_c gt gx (ld1 Zcr rfl)) (rm1 (rr_t gt) rm0)))<|rtW'<|?_
   rw[hO];exact Wk.tup (wkw (Wk.agg (wk1 rfl (wk1 rfl (wk1 rfl (wkw Wk.full wk0))))) (wk1 rfl wk0))
  refine Zaf<|Zag<|Zam<|wr'<|Vw (Zab lk)<|Vw (Zao lk gx Zeg rfl)<|?_
  refine Zad mp (Znk (by simp only[maxLen];omega)) pt ?_
  refine mw<|sn'<|wr'<|mw<|Vw (ZaW lk lki)<|sn'<|?_
  refine cd' lk (fun hc3=>?_) (fun hc3=>?_)
  ·have hlE:locE ps[i].2≠0:=hc3
   have hE:=Zse hi hi2 (by simp only[tMax];omega) hi3 hlE
   rw[hE,if_pos hlE] at hO
   refine wr'<|Vw (Zau Zqx)<|mw<|E' (Zai lk cv gx rfl (nb' rfl) rfl ZcH (hs2 hn)) ptn<|mw<|sn'<|Zaa<|Zah<|Zaq<|Zah<|Zah<|Zaq<|?_
   refine Zah<|Zae (rsn (rm1 (rr_c gt gx (ld1 Zcr rfl)) (rm1 (rr_t gt) rm0)))<|rtW'<|?_
   rw[hO];exact ZhI
  have hlE:locE ps[i].2=0:=Decidable.of_not_not hc3
  have hlE2:Zce (ps.take (i+1))=0:=by rw[htk,Ziq hi3];exact hlE
  have hle2 : ∀ c∈ps.take (i+1),c.1≤tMax:=fun c hc=>by rw[htk] at hc;rcases List.mem_append.1 hc with hc | hc;exact hi2 c hc;simp only[List.mem_singleton] at hc;subst hc;simp only[tMax];omega
  refine Zaf<|Zag<|Zap<|wr'<|mw<|Vw (ZaR lk lki)<|mw<|sn'<|?_
  refine cd' lk (fun hc4=>?_) (fun hc4=>?_)
  ·obtain rfl:i=0:=by omega
   have hS:stV (ps.take (0+1))=(ps[0].2,[]):=by rw[htk];rfl
   refine Zav<|mw<|Vw (Zab lk)<|Vw (Zao lk gx Zeg rfl)<|Vw (Zbp lk)<|Vw (Zab lk)<|Vw (Zab lk)<|E' (Zai lk cv gx rfl (nb' rfl) rfl Zhe (hs3 hn)) ptn<|Zar<|Zaz<|Zaz<|Zag<|Zav<|?_
   refine V' (Zay lk lki om om) pt ?_
   refine mw<|Zar<|ZaB<|?_
   refine lU' (⟨0+1,v⟩) (by (try dsimp only);exact⟨by omega,hle2,hlE2⟩) (by (try dsimp only);(try simp only[sm',Nat.reduceAdd]);exact bk' 5 hn hlt (by rw[hS];rfl) (hT:=by simp[AV.lt,AV.ltL,Ent.lt]) (hE:=by simp[AV.lt,AV.ltL,Ent.lt]))
  have hnt:ps.take i≠[]:=List.ne_nil_of_length_pos (by rw[List.length_take];omega)
  have hS:=stV_snoc (c:=ps[i]) hnt
  rw[←htk] at hS
  refine Zam<|w_orl<|Zok [N+5]<|Dw (Zab lk)<|?_
  refine d_ldP lk gx (ld1 Zeg rfl) (by simp) pt ?_
  refine Dw (v_mv lk)<|ZbQ<|Zno<|?_
  refine k_call mp (mlast_r (F:=(stV (ps.take i)).1) (l:=(stV (ps.take i)).2) gx gx om) (by intro i hi;simp only[cond_true,List.mem_cons,List.not_mem_nil,or_false] at hi;subst hi;first | rfl | exact (hga hn rfl).trans (hga hn rfl).symm) pt ?_
  refine ZpM rfl (ZhV lk lk Zn6) pt<|ZpM rfl (v_mv lk) pt<|Zsn<|Zag<|?_
  refine cd' lk (fun hc5=>?_) (fun hc5=>?_)
  ·have hne5:¬ps[i].2=Zit (stV (ps.take i)).1 (stV (ps.take i)).2:=fun e=>hc5 (by rw[e];exact⟨rfl,rfl,rfl⟩)
   rw[if_neg hne5] at hS
   refine Zcc<|Dw (v_mv lk)<|Dw (v_mv lk)<|Dw (Zbp lk)<|Dw (Zab lk)<|Dw (Zab lk)<|Dw (Zac lk gx gt3)<|Dw (Zab lk)<|Dw (Zac lk gx gt0)<|Dw (Zab lk)<|Dw (Zao lk gx Zeg rfl)<|Dw (Zau (Zqw cv rfl cv rfl))<|Zmk rfl rfl (hlk hn rfl) (l_lit (Zqv cv rfl)) pt Ztl<|ZbQ<|?_
   refine ZnC Zqu ?_
   refine E' (Zdl (Zcv lk gx rfl ZmB (nb' rfl)) lk gx (ZcP _) om rfl (hs4 hn)) pt ?_
   refine Vw (Zbp lk)<|Vw (Zab lk)<|Vw (Zab lk)<|E' (Zai lk cv gx rfl (nb' rfl) rfl Zqs (hs3 hn)) ptn<|Zar<|Zaz<|Zaz<|Zag<|Zav<|?_
   refine V' (Zay lk lki om om) pt ?_
   refine mw<|Zar<|ZaB<|?_
   refine lU' (⟨i+1,v+1⟩) (by (try dsimp only);exact⟨by omega,hle2,hlE2⟩) (by (try dsimp only);(try simp only[sm',Nat.reduceAdd]);exact bk' 5 hn hlt (by rw[hS,List.length_append,Za3,Zbu];rfl) (hT:=by simp[AV.lt,AV.ltL,Ent.lt]) (hE:=by simp[AV.lt,AV.ltL,Ent.lt]))
  have hne5:ps[i].2=Zit (stV (ps.take i)).1 (stV (ps.take i)).2:=by obtain⟨x1,x2,x3⟩:=Decidable.of_not_not hc5;exact Prod.ext x1 (Prod.ext x2 x3)
  rw[if_pos hne5,List.append_nil] at hS
  refine Zaf<|Zaz<|Zaz<|Zag<|Zav<|?_
  refine V' (Zay lk lki om om) pt ?_
  refine mw<|Zar<|ZaB<|?_
  refine lU' (⟨i+1,v⟩) (by (try dsimp only);exact⟨by omega,hle2,hlE2⟩) (by (try dsimp only);(try simp only[sm',Nat.reduceAdd]);exact bk' 5 hn hlt (by rw[hS];rfl) (hT:=by simp[AV.lt,AV.ltL,Ent.lt]) (hE:=by simp[AV.lt,AV.ltL,Ent.lt]))
 have hP:inP ps=ps.take i:=ZoZ hi2 (fun hh=>absurd hh om)
 have hsl:=Zro (ps.take i)
 rw[List.length_take] at hsl
 refine ZaN<|ZaE<|ZaE<|Za8<|Zag<|Zam<|wr'<|mw<|Vw (Zbp lk)<|Vw (Zab lk)<|Vw (Zab lk)<|Vw (Zac lk gx gt3)<|Vw (Zc1 lk)<|?_
 refine Vw (ZbB lk lki)<|sn'<|?_
 refine cd' lk (fun hc6=>?_) (fun hc6=>?_)
 ·rw[hP,hi3,if_neg (by simp),if_pos om] at hO
  refine wr'<|Vw (Zau Zj2)<|E' (Zai lk cv gx rfl (nb' rfl) rfl ZcH (hs2 hn)) ptn<|mw<|sn'<|Zaa<|Zah<|Zae (rsn (rm1 (rr_c gt gx (ld1 Zcr rfl)) (rm1 (rr_t gt) rm0)))<|rtW'<|?_
  rw[hO];exact ZhI
 rw[hP,hi3,if_neg (by simp),if_neg om] at hO
 refine Zaf ?_
 refine Za7 (ALe.iceCellR gx gx om gt3 (List.take_of_length_le (by rw[ZcP];exact Nat.le_refl _)) (by rw[ZcP];exact Nat.le_refl _) pt3 (hs4 hn) (hs3 hn)) ?_
 refine wr'<|mw<|Vw (Zbp lk)<|Vw (Zab lk)<|Vw (Zao lk gx Zcr rfl)<|E' (Zai lk cv gx rfl (nb' rfl) rfl ZcH (hs2 hn)) ptn<|mw<|sn'<|Zaa<|Zae (rsn (rm1 (rr_c gt gx (ld1 Zcr rfl)) (rm1 (rr_t gt) rm0)))<|rtW'<|?_
 rw[hO];exact Wk.tup (wkw (Wk.agg (wk1 rfl (wk1 rfl (wk1 rfl (wkw Wk.full wk0))))) (wk1 rfl wk0))
theorem comp_a {a:List Rul}{z:List Zon}{k:List Lnk}{nm:ByteArray}{h:AH}(hok:Zeq (a,z,k)) :
  Ac 24 [.agg (srcB a z k),sv nm] h (.tup [tabA (ZbZ (a,z,k) nm).1,iv (ZbZ (a,z,k) nm).2]):=by
 refine tW' k24 fun N hn hlt hlA hbd=>?_
 simp only[tb'] at hbd ⊢
 refine wr'<|E' (Zbb cv rfl (hl0 hn) ha0) pt<|E' (ZaU (hl1 hn) ha1) pt<|mw<|sn'<|wr'<|Vw (Zao lk gx Zdt rfl)<|mw<|Zad mp (Zq2 hok) pt<|mw<|Vw (ZaS lk gt)<|?_
 refine Vw (ZaS lk gt)<|E' (ZaU (hl2 hn) ha2) pt<|E' (Zai lk cv gx rfl (nb' rfl) rfl Zqt (hs2 hn)) ptn<|mw<|sn'<|Zam<|wr'<|mw<|Vw (ZaW lk lki)<|sn'<|?_
 refine cd' lk (fun hc1=>?_) (fun hc1=>?_)
 ·have hF:ZbZ (a,z,k) nm=(noTab,(ZbE (a,z,k) nm).2):=if_pos hc1
  refine wr'<|Vw (Zau ZiN)<|mw<|E' (Zai lk cv gx rfl (nb' rfl) rfl ZcH (hs1 hn)) ptn<|mw<|sn'<|Zaa<|Zah<|Zae (rsn (rm1 (rr_c gt gx (ld1 Zcr rfl)) (rm1 (rr_t gt) rm0)))<|rtW'<|?_
  rw[hF];exact ZhI
 have hf0:(ZbE (a,z,k) nm).2=0:=Decidable.of_not_not hc1
 obtain⟨hz0,hm,_⟩:=ZkQ hf0
 have hE:=Zgy hz0
 have hal:=(ZdI hE).1
 simp only at hal
 obtain⟨⟨pl,hpl⟩,_⟩:=ZkF hz0 hm tMin
 have hne:inP (ZaZ a tMin none (ZbE (a,z,k) nm).1.2)≠[]:=by rw[show ZaZ a tMin none (ZbE (a,z,k) nm).1.2=_ from hpl];unfold inP;rw[List.takeWhile_cons,if_pos (decide_eq_true (by show tMin≤tMax;decide))];simp
 have hF:ZbZ (a,z,k) nm=ofP a (ZbE (a,z,k) nm).1.2:=by unfold ZbZ;rw[if_neg hc1];unfold ofV ofP;rw[←Zlz hz0 hm]
 refine Zaf<|Zag<|wr'<|Vw (Zao lk gx Zdt rfl)<|Vw (Zao lk gx Zj1 rfl)<|?_
 refine Zad mp (tof_a (Znf hok) om (Zeb hE hm) hne) pt ?_
 refine Vw (ZaS lk gt)<|Vw (ZaS lk gt)<|E' (Zai lk cv gx rfl (nb' rfl) rfl ZcH (hs1 hn)) ptn<|mw<|sn'<|Zaa<|Zae (rsn (rm1 (rr_c gt gx (ld1 Zcr rfl)) (rm1 (rr_t gt) rm0)))<|rtW'<|?_
 rw[hF];exact Wk.refl _
end Go.Proofs.YtlekejpogddndaaGreatDoor
end
section
namespace Go.Proofs.YtlekejpogddndaaGreatDoor
open Go.Ab Go.RowKit Civ
attribute [local simp] Zbg Zbr Zbi Zbq Zb2 ZdF Zdv ZbT
section
theorem Zn8 {a0 a1 a2 a3 c0 c1 c2 c3:AV}{l:List AV}:setCells (a0::a1::a2::a3::l) 0 [c0,c1,c2,c3]=c0::c1::c2::c3::l:=rfl
theorem ZiO {a0 a1 a2 c0 c1 c2:AV}{l:List AV}:setCells (a0::a1::a2::l) 0 [c0,c1,c2]=c0::c1::c2::l:=rfl
theorem Zn7 {a0 a1 a2 a3:AV}{l:List AV}:((a0::a1::a2::a3::l).drop 0).take 4=[a0,a1,a2,a3]:=rfl
theorem ZeD {a0 a1 a2:AV}{l:List AV}:((a0::a1::a2::l).drop 0).take 3=[a0,a1,a2]:=rfl
theorem ZfW {τ:Operand→AV}{y0 y1:Operand}{x0_0 x1_0:AV}(h0:Zat (τ y0)=some [x0_0]) (l0:[x0_0].all leaf=true) (h1:Zat (τ y1)=some [x1_0]) (l1:[x1_0].all leaf=true):Zas τ [(0,1,y0),(2,1,y1)] [(.v (.int .i64 0)),(.v (.int .i64 0)),(.v (.string ⟨#[]⟩))]=some [x0_0,(.v (.int .i64 0)),x1_0]:=by
 simp only[Zas,h0,l0,h1,l1]
 rfl
theorem Ze7 {a0 b0:Int}{a1 b1:Int}{a2 b2:ByteArray}:Zbl [.int,.int,.str] [iv a0,iv a1,sv a2] [iv b0,iv b1,sv b2]=some (decide (a0=b0∧a1=b1∧a2=b2)):=by
 simp only[Zbl,ZdW,if_true,ZcQ,Option.some.injEq]
 simp only[Bool.decide_and,Bool.and_true]
 try (congr 1 <;> simp)
 try rfl
theorem Zqy {a0 a1 a2:AV}{l:List AV}:(a0::a1::a2::l).take 3=[a0,a1,a2]:=rfl
end
def c22:AC:=(Sr [Mb 0 false] (Sr [Cl 8 63 [],Oo 9 (.call (.func 24) [(.tmp 8),(.const (.string ⟨#[79,108,100]⟩))]),Mv 7 9,Ex 10 7 0,Ex 11 7 1,Oo 1 (.new 40 4 [(iv 0),(iv 0),Ss,(.sl 0 0 true [])]),⟨none,none,(.store 4 (.tmp 1) (.tmp 10))⟩,Mv 2 11] (Sr [Cl 13 76 [],Cl 14 17 [(.tmp 13),(Ci 100)],Mv 12 14,Ex 15 12 0,Ex 16 12 1,Oo 3 (.new 29 3 [(iv 0),(iv 0),Ss]),⟨none,none,(.store 3 (.tmp 3) (.tmp 15))⟩,Mv 4 16] (Sr [Cl 18 76 [],Cl 19 17 [(.tmp 18),(Ci 99)],Mv 17 19,Ex 20 17 0,Ex 21 17 1,Oo 5 (.new 29 3 [(iv 0),(iv 0),Ss]),⟨none,none,(.store 3 (.tmp 5) (.tmp 20))⟩,Mv 6 21] (Sd [Mv 22 2,Bc 23 .eql 22 0,Mv 24 23,Ot 25 24 (mt 4),Ot 26 24 (.bin .eql (.tmp 25) (Ci 0)),Oo 27 (.pick (.tmp 24) (.tmp 26) (.const (.bool false))),Mv 28 27,Ot 29 28 (mt 6),Ot 30 28 (.bin .eql (.tmp 29) (Ci 0)),Oo 31 (.pick (.tmp 28) (.tmp 30) (.const (.bool false))),Mv 32 31,Ot 33 32 (.load true 4 (.tmp 1)),Ot 34 32 (.call (.func 23) [(.tmp 33)]),Ot 35 32 (.bin .eql (.tmp 34) (Ci 0)),Oo 36 (.pick (.tmp 32) (.tmp 35) (.const (.bool false))),Mv 37 36,Ot 38 37 (.fa 0 (.tmp 1)),Ot 39 37 (.load true 3 (.tmp 38)),Ot 40 37 (.build [(iv 0),(iv 0),Ss] [(0,(1,(Ci 600))),(2,(1,(.const (.string ⟨#[76,77,84]⟩))))]),Ot 41 37 (.eqs false [.int,.int,.str] (.tmp 39) (.tmp 40)),Oo 42 (.pick (.tmp 37) (.tmp 41) (.const (.bool false))),Mv 43 42,Ot 44 43 (.fa 3 (.tmp 1)),Ot 45 43 (.load false 1 (.tmp 44)),Ot 46 43 (.len false (.tmp 45)),Ot 47 43 (.bin .eql (.tmp 46) (Ci 211)),Oo 48 (.pick (.tmp 43) (.tmp 47) (.const (.bool false))),Mv 49 48,Ot 50 49 (.load true 3 (.tmp 3)),Ot 51 49 (.call (.func 76) []),Ot 52 49 (.fld false 3 1 (.tmp 51)),Ot 53 49 (.ia 4 (.tmp 52) (Ci 0)),Ot 54 49 (.fa 1 (.tmp 53)),Ot 55 49 (.load true 3 (.tmp 54)),Ot 56 49 (.eqs false [.int,.int,.str] (.tmp 50) (.tmp 55)),Oo 57 (.pick (.tmp 49) (.tmp 56) (.const (.bool false))),Mv 58 57,Ot 59 58 (.load true 3 (.tmp 5)),Ot 60 58 (.call (.func 76) []),Ot 61 58 (.fld true 0 3 (.tmp 60)),Ot 62 58 (.eqs false [.int,.int,.str] (.tmp 59) (.tmp 61)),Oo 63 (.pick (.tmp 58) (.tmp 62) (.const (.bool false))),Mv 0 63] .ret)))))
theorem k22:ZaA Tryz.prog 22=some ⟨c22,[(.tmp 0)],64⟩:=by kernel_rfl
theorem ZoI {t:Tab}(h:ZbO t=0):okT t:=by
 obtain⟨_,h2,h3⟩:=Zp6 h
 have e:=Zsf h2
 refine⟨by simp only[maxLen];omega,fun x hx=>?_⟩
 have:=Zsf (h3 x hx).2
 simp only[maxLen];omega
def lkL (t:Tab) (n:Int):Loc:=if ZbO t=0∧Zc4 n=true then ZeO t n else (0,0,⟨#[]⟩)
def lkE (t:Tab) (n:Int):Int:=if ZbO t≠0 then ZbO t else if Zc4 n=true then 0 else 3
theorem lk_out {t:Tab}{n:Int}(h:ZbO t=0) (hn:Zc4 n=false):lkL t n=locZ∧lkE t n=3:=⟨if_neg fun e=>(by rw[hn] at e;cases e.2),by unfold lkE;rw[if_neg (by simpa using h),if_neg (by rw[hn];simp)]⟩
theorem Zsg {t:Tab}{n:Int}(h:ZbO t=0) (hn:Zc4 n=true):lkL t n=ZeO t n∧lkE t n=0:=⟨if_pos ⟨h,hn⟩,by unfold lkE;rw[if_neg (by simpa using h),if_pos hn]⟩
theorem ZmW {t:Tab}{n:Int}{full:Bool}{h:AH}(ht:okT t):Ac 17 [.agg [iv t.1.1,iv t.1.2.1,sv t.1.2.2,.sl t.2.length 4 full (rows chgC t.2)],iv n] h (.tup [.agg (locC (lkL t n)),iv (lkE t n)]):=tlook_a ht
theorem tl1 {h:AH}:Ac 17 [tabA Zga,iv 100] h (.tup [.agg (locC (7200,3600,⟨#[66]⟩)),iv 0]):=by
 have:=ZmW (t:=Zga) (n:=100) (full:=false) (h:=h) ZlT
 obtain⟨e1,e2⟩:=Zsg ZjQ (show Zc4 100=true from by decide)
 rw[e1,e2,Zlt] at this
 exact this
theorem tl2 {h:AH}:Ac 17 [tabA Zga,iv 99] h (.tup [.agg (locC (3600,0,⟨#[65]⟩)),iv 0]):=by
 have:=ZmW (t:=Zga) (n:=99) (full:=false) (h:=h) ZlT
 obtain⟨e1,e2⟩:=Zsg ZjQ (show Zc4 99=true from by decide)
 rw[e1,e2,Zls] at this
 exact this
theorem tcomp0 {h:AH}:Ac 24 [.agg (srcC src0),sv nOld] h (.tup [tabA tab0,iv 0]):=by
 have:=comp_a (a:=src0.1) (z:=src0.2.1) (k:=src0.2.2) (nm:=nOld) (h:=h) ZfI
 rw[show (src0.1,src0.2.1,src0.2.2)=src0 from rfl,comp0] at this
 exact this
theorem tchk0 {h:AH}:Ac 23 [tabA tab0] h (iv 0):=by
 have ho:=ZoI chkT0
 have:=ZsY (a:=tab0.1.1) (b:=tab0.1.2.1) (c:=tab0.1.2.2) (l:=tab0.2) (full:=false) (h:=h) ho.1 ho.2
 rw[show ZbO ((tab0.1.1,tab0.1.2.1,tab0.1.2.2),tab0.2)=0 from chkT0] at this
 exact this
theorem tbegun_a {h:AH}:Ac 22 [] h (bv true):=by
 refine tI' k22 fun N hn hlt hlA hbd=>?_
 simp only[tb'] at hbd ⊢
 refine wr'<|mw<|sn'<|wr'<|Zad mp0 (Zep) pt<|Zad mp (tcomp0) pt<|mw<|Vw (ZaS lk gt)<|Vw (ZaS lk gt)<|E' (ZaU (hl0 hn) ha0) pt<|E' (Zai lk cv gx rfl (nb' rfl) rfl Zn8 (hs0 hn)) ptn<|?_
 refine mw<|sn'<|wr'<|Zad mp0 (Zkv) pt<|Zad mp (tl1) pt<|mw<|Vw (ZaS lk gt)<|Vw (ZaS lk gt)<|E' (ZaU (hl1 hn) ha1) pt<|E' (Zai lk cv gx rfl (nb' rfl) rfl ZiO (hs1 hn)) ptn<|mw<|Zar<|?_
 refine Zag<|wr'<|Zad mp0 (Zkv) pt<|Zad mp (tl2) pt<|mw<|Vw (ZaS lk gt)<|Vw (ZaS lk gt)<|E' (ZaU (hl2 hn) ha2) pt<|E' (Zai lk cv gx rfl (nb' rfl) rfl ZiO (hs2 hn)) ptn<|mw<|sn'<|Zam<|?_
 refine Zcc<|Dw (v_mv lk)<|Dw (ZaR lk lki)<|Dw (v_mv lk)<|?_
 refine ZfQ (t:=24) gt (b:=true) (by rfl) pt ?_
 refine d_do gt<|Dw (v_mv lk)<|d_do gt<|Dw (ZaR lk lki)<|Dw (Zak lk lk)<|Dw (v_mv lk)<|?_
 refine ZfQ (t:=28) gt (b:=true) (by rfl) pt ?_
 refine d_do gt<|Dw (v_mv lk)<|d_do gt<|Dw (ZaR lk lki)<|Dw (Zak lk lk)<|Dw (v_mv lk)<|?_
 refine ZfQ (t:=32) gt (b:=true) (by rfl) pt ?_
 refine d_do gt<|Dw (Zao lk gx Zn7 rfl)<|d_do gt<|?_
 refine Za5 mp (fun hE hX=>tchk0) pt ?_
 refine d_do gt<|Dw (ZaR lk lki)<|Dw (Zak lk lk)<|Dw (v_mv lk)<|?_
 refine ZfQ (t:=37) gt (b:=true) (by rfl) pt ?_
 refine d_do gt<|Dw (Zab lk)<|d_do gt<|Dw (Zao lk gx ZeD rfl)<|d_do gt<|Dw (Zau (ZfW (cvl lki rfl) rfl (cvl lks rfl) rfl))<|d_do gt<|Dw (Zhj lk lk Ze7)<|Dw (Zak lk lk)<|Dw (v_mv lk)<|?_
 refine ZfQ (t:=43) gt (b:=true) (by exact decide_eq_true (by rw[Zps];exact⟨rfl,rfl,rfl⟩)) pt ?_
 refine d_do gt<|Dw (Zab lk)<|d_do gt<|Dw (Zac lk gx gt3)<|d_do gt<|Dw (ZaL lk)<|d_do gt<|Dw (ZaR lk lki)<|Dw (Zak lk lk)<|Dw (v_mv lk)<|?_
 refine ZfQ (t:=49) gt (b:=true) (by exact decide_eq_true (by rw[ZoB];rfl)) pt ?_
 refine d_do gt<|Dw (Zao lk gx ZeD rfl)<|d_do gt<|?_
 refine Za5 mp0 (fun hE hX=>Zkv) pt ?_
 refine d_do gt<|Dw (v_fld lk gt)<|d_do gt<|?_
 refine D' (ZaX (k:=0) lk lki Zb5 (nb' rfl) (by first | rfl | first | omega | decide) (by first | omega | decide) ro rfl) pt ?_
 refine d_do gt<|Dw (ZbC lk dp1)<|d_do gt<|Dw (ZaI lk Zqy rfl)<|d_do gt<|Dw (Zhj lk lk Ze7)<|Dw (Zak lk lk)<|Dw (v_mv lk)<|?_
 refine ZfQ (t:=58) gt (b:=true) (by rfl) pt ?_
 refine d_do gt<|Dw (Zao lk gx ZeD rfl)<|d_do gt<|?_
 refine Za5 mp0 (fun hE hX=>Zkv) pt ?_
 refine d_do gt<|Dw (v_fldA lk ZeD rfl)<|d_do gt<|Dw (Zhj lk lk Ze7)<|Dw (Zak lk lk)<|Dw (v_mv lk)<|ZbQ<|?_
 refine Zcy ?_
 exact sn'<|Zaa<|Zae rz<|rT' rfl
end Go.Proofs.YtlekejpogddndaaGreatDoor
end
section
namespace Go.Proofs.YtlekejpogddndaaGreatDoor.tableCompiles
open Go.Ab Go.RowKit Civ
def c5:AC:=(Sr [Oo 2 (.box 26 3 (.tmp 0)),Mb 4 false] (Sr [Oo 11 (.load true 3 (.tmp 2)),Mv 12 1,Cl 13 24 [(.tmp 11),(.tmp 12)],Mv 10 13,Ex 14 10 0,Ex 15 10 1,Oo 5 (.new 40 4 [(iv 0),(iv 0),Ss,(.sl 0 0 true [])]),⟨none,none,(.store 4 (.tmp 5) (.tmp 14))⟩,Mv 6 15] (Sr [Oo 16 (.load true 3 (.tmp 2)),Cl 17 25 [(.tmp 16)],Mv 7 17] (Sr [Oo 8 (.mv (.const (.int .i64 (-1))))] (.seq (Sr [Mv 18 7,Bc 19 .eql 18 0] (Cd 19 (Sr [Oo 20 (.load true 3 (.tmp 2)),Mv 21 1,Cl 22 26 [(.tmp 20),(.tmp 21)],Mv 8 22] (Sr [Mv 23 8,Bc 24 .lss 23 0] (Cd 24 (.reg [Mc 7 5]) .skip))) .skip)) (Sr [Oo 9 (.new 40 4 [(iv 0),(iv 0),Ss,(.sl 0 0 true [])])] (.seq (Sr [Mv 25 7,Bc 26 .eql 25 0] (Cd 26 (.drw [Oo 28 (.load true 3 (.tmp 2)),Fa 29 1 2,Ld 30 29,Mv 31 8,Oo 32 (.ia 2 (.tmp 30) (.tmp 31)),Oo 33 (.load true 2 (.tmp 32)),Cl 34 27 [(.tmp 28),(.tmp 33)],Mv 27 34,Ex 35 27 0,Ex 36 27 1] [false,false] [⟨none,none,(.store 4 (.tmp 9) (.tmp 35))⟩,Mv 7 36]) .skip)) (Sr [Cl 37 22 [],Mv 38 37,Ot 39 38 (.load true 4 (.tmp 5)),Ot 40 38 (mt 6),Ot 41 38 (mt 7),Ot 42 38 (.load true 4 (.tmp 9)),Ot 43 38 (.call (.func 28) [(.tmp 39),(.tmp 40),(.tmp 41),(.tmp 42)]),Oo 44 (.pick (.tmp 38) (.tmp 43) (.const (.bool false))),Mv 4 44] .ret))))))))
theorem k5:ZaA Tryz.prog 5=some ⟨c5,[(.tmp 4)],45⟩:=by kernel_rfl
end Go.Proofs.YtlekejpogddndaaGreatDoor.tableCompiles
end
section
namespace Go.Proofs.YtlekejpogddndaaGreatDoor
open Go.Ab Go.RowKit Civ
attribute [local simp] Zbg Zbr Zbi Zbq Zb2 Zdv
theorem Zmp {s:Src}{nm:ByteArray}(h:(ZbZ s nm).2=0):(ZbE s nm).2=0:=by
 refine Decidable.byContradiction fun hh=>?_
 unfold ZbZ at h
 rw[if_pos hh] at h
 exact hh h
theorem comp_bad {s:Src}{nm:ByteArray}(h:(ZbZ s nm).2≠0):(ZbZ s nm).1=noTab:=by
 unfold ZbZ at h ⊢
 split
 ·rfl
 rename_i hh
 rw[if_neg hh] at h
 exact tabR_bad h
theorem ZnH {s:Src}{nm:ByteArray}(h:(ZbZ s nm).2=0):(ZbZ s nm).1=Zde s.1 (ZbE s nm).1.2∧ZbO (ZbZ s nm).1=0:=by
 have hf:=Zmp h
 unfold ZbZ at h ⊢
 rw[if_neg (by simp[hf])] at h ⊢
 exact⟨(Zm1 h).1,Zri h⟩
end Go.Proofs.YtlekejpogddndaaGreatDoor
namespace Go.Proofs.YtlekejpogddndaaGreatDoor.tableFew
open Go.Ab Go.RowKit Civ
def c6:AC:=(Sr [Oo 2 (.box 26 3 (.tmp 0)),Mb 4 false] (.seq (Sr [Cl 13 22 [],Oo 14 (.un .not (.tmp 13)),Mv 15 14,Of 16 15 (.call (.func 15) []),Of 17 15 (.un .not (.tmp 16)),Oo 18 (.pick (.tmp 15) (.const (.bool true)) (.tmp 17)),Mv 19 18,Of 20 19 (.call (.func 29) []),Of 21 19 (.un .not (.tmp 20)),Oo 22 (.pick (.tmp 19) (.const (.bool true)) (.tmp 21))] (Cd 22 (Sr [Mb 4 false] .ret) .skip)) (Sr [Oo 24 (.load true 3 (.tmp 2)),Mv 25 1,Cl 26 24 [(.tmp 24),(.tmp 25)],Mv 23 26,Ex 27 23 0,Ex 28 23 1,Oo 5 (.new 40 4 [(iv 0),(iv 0),Ss,(.sl 0 0 true [])]),⟨none,none,(.store 4 (.tmp 5) (.tmp 27))⟩,Mv 6 28] (Sr [Oo 30 (.load true 3 (.tmp 2)),Mv 31 1,Cl 32 30 [(.tmp 30),(.tmp 31)],Mv 29 32,Ex 33 29 0,Ex 34 29 1,Oo 7 (.new 53 2 [Ss,(.sl 0 0 true [])]),⟨none,none,(.store 2 (.tmp 7) (.tmp 33))⟩,Mv 8 34] (.seq (Sr [Mv 35 6,Bc 36 .neq 35 0,Mv 37 36,Of 38 37 (mt 8),Of 39 37 (.bin .neq (.tmp 38) (Ci 0)),Oo 40 (.pick (.tmp 37) (.const (.bool true)) (.tmp 39))] (Cd 40 (Sr [Mv 41 6,Bc 42 .neq 41 0,Mv 4 42] .ret) .skip)) (Sr [Fa 43 1 7,Ld 44 43,Oo 45 (.len false (.tmp 44)),Mv 9 45] (.seq (Sr [Mc 10 0] (.block 0 (.loop (.seq (Sr [Mv 46 10,Fa 47 1 7,Ld 48 47,Oo 49 (.len false (.tmp 48)),Bn 50 .lss 46 49] (Cd 50 .skip (.exit 0))) (.seq (.block 1 (.seq (Sr [Fa 53 1 7,Ld 54 53,Mv 55 10,Oo 56 (.ia 10 (.tmp 54) (.tmp 55)),Fa 57 1 56,Ld 58 57,Oo 59 (.bin .eql (.tmp 58) (.const (.string ⟨#[]⟩)))] (Cd 59 (.exit 1) .skip)) (Sd [Fa 61 0 2,Ld 62 61,Fa 63 1 7,Ld 64 63,Mv 65 10,Oo 66 (.ia 10 (.tmp 64) (.tmp 65)),Fa 67 1 66,Ld 68 67,Fa 69 1 7,Ld 70 69,Mv 71 10,Oo 72 (.ia 10 (.tmp 70) (.tmp 71)),Fa 73 0 72,Ld 74 73,Cl 75 31 [(.tmp 62),(.tmp 68),(.tmp 74)],Mv 60 75,Ex 76 60 0,Ex 77 60 1,Mv 11 76,Mv 12 77] (.seq (Sr [Mv 78 12,Bc 79 .neq 78 0] (Cd 79 (Sr [Mb 4 false] .ret) .skip)) (.reg [Mv 80 9,Mv 81 11,Oo 82 (.len false (.tmp 81)),Bn 83 .add 80 82,Mv 9 83]))))) (.reg [Mv 51 10,Bc 52 .add 51 1,Mv 10 52])))))) (Sr [Oo 84 (.load true 4 (.tmp 5)),Cl 85 23 [(.tmp 84)],Bc 86 .eql 85 0,Mv 87 86,Ot 88 87 (.fa 3 (.tmp 5)),Ot 89 87 (.load false 1 (.tmp 88)),Ot 90 87 (.len false (.tmp 89)),Ot 91 87 (mt 9),Ot 92 87 (.bin .lss (.tmp 90) (.tmp 91)),Oo 93 (.pick (.tmp 87) (.tmp 92) (.const (.bool false))),Mv 4 93] .ret))))))))
theorem k6:ZaA Tryz.prog 6=some ⟨c6,[(.tmp 4)],94⟩:=by kernel_rfl
end Go.Proofs.YtlekejpogddndaaGreatDoor.tableFew
end
section
namespace Go.Proofs.YtlekejpogddndaaGreatDoor.tableSame
open Go.Ab Go.RowKit Civ
attribute [local simp] Zbg Zbr Zbi Zbq Zb2 Zdv
section
theorem Zcj {a0 a1 a2:AV}{l:List AV}:((a0::a1::a2::l).drop 0).take 3=[a0,a1,a2]:=rfl
theorem Zn5 {a0 a1 a2 a3 c0 c1 c2 c3:AV}{l:List AV}:setCells (a0::a1::a2::a3::l) 0 [c0,c1,c2,c3]=c0::c1::c2::c3::l:=rfl
theorem ZgK {τ:Operand→AV}:Zas τ [] [(.v (.int .i64 0)),(.v (.int .i64 0)),(.v (.string ⟨#[]⟩))]=some [(.v (.int .i64 0)),(.v (.int .i64 0)),(.v (.string ⟨#[]⟩))]:=rfl
theorem Ze6 {a0 b0:Int}{a1 b1:Int}{a2 b2:ByteArray}:Zbl [.int,.int,.str] [iv a0,iv a1,sv a2] [iv b0,iv b1,sv b2]=some (decide (a0=b0∧a1=b1∧a2=b2)):=by
 simp only[Zbl,ZdW,if_true,ZcQ,Option.some.injEq]
 simp only[Bool.decide_and,Bool.and_true]
 try (congr 1 <;> simp)
 try rfl
theorem ZfV {a0 a1 a2 c0 c1 c2:AV}{l:List AV}:setCells (a0::a1::a2::l) 0 [c0,c1,c2]=c0::c1::c2::l:=rfl
theorem Zn4 {a0 a1 a2 a3:AV}{l:List AV}:((a0::a1::a2::a3::l).drop 0).take 4=[a0,a1,a2,a3]:=rfl
end
def c7:AC:=(Sr [Oo 3 (.box 26 3 (.tmp 0)),Mb 6 false] (.seq (Sr [Cl 15 22 [],Oo 16 (.un .not (.tmp 15)),Mv 17 16,Of 18 17 (.call (.func 15) []),Of 19 17 (.un .not (.tmp 18)),Oo 20 (.pick (.tmp 17) (.const (.bool true)) (.tmp 19))] (Cd 20 (Sr [Mb 6 false] .ret) .skip)) (Sr [Oo 22 (.load true 3 (.tmp 3)),Mv 23 1,Cl 24 24 [(.tmp 22),(.tmp 23)],Mv 21 24,Ex 25 21 0,Ex 26 21 1,Oo 7 (.new 40 4 [(iv 0),(iv 0),Ss,(.sl 0 0 true [])]),⟨none,none,(.store 4 (.tmp 7) (.tmp 25))⟩,Mv 8 26] (.seq (Sr [Mv 27 8,Bc 28 .neq 27 0] (Cd 28 (Sr [Fa 29 3 7,Ld 30 29,Oo 31 (.len false (.tmp 30)),Bc 32 .eql 31 0,Mv 33 32,Ot 34 33 (.fa 0 (.tmp 7)),Ot 35 33 (.load true 3 (.tmp 34)),Ot 36 33 (.build [(iv 0),(iv 0),Ss] []),Ot 37 33 (.eqs false [.int,.int,.str] (.tmp 35) (.tmp 36)),Oo 38 (.pick (.tmp 33) (.tmp 37) (.const (.bool false))),Mv 6 38] .ret) .skip)) (Sr [Oo 40 (.load true 3 (.tmp 3)),Mv 41 1,Mv 42 2,Cl 43 16 [(.tmp 40),(.tmp 41),(.tmp 42)],Mv 39 43,Ex 44 39 0,Ex 45 39 1,Oo 9 (.new 29 3 [(iv 0),(iv 0),Ss]),⟨none,none,(.store 3 (.tmp 9) (.tmp 44))⟩,Mv 8 45] (Sr [Oo 47 (.load true 4 (.tmp 7)),Mv 48 2,Cl 49 17 [(.tmp 47),(.tmp 48)],Mv 46 49,Ex 50 46 0,Ex 51 46 1,Oo 10 (.new 29 3 [(iv 0),(iv 0),Ss]),⟨none,none,(.store 3 (.tmp 10) (.tmp 50))⟩,Mv 11 51] (.seq (Sr [Mv 52 8,Mv 53 11,Bn 54 .neq 52 53,Mv 55 54,Of 56 55 (.load true 3 (.tmp 9)),Of 57 55 (.load true 3 (.tmp 10)),Of 58 55 (.eqs true [.int,.int,.str] (.tmp 56) (.tmp 57)),Oo 59 (.pick (.tmp 55) (.const (.bool true)) (.tmp 58))] (Cd 59 (Sr [Mb 6 false] .ret) .skip)) (Sr [Mb 12 false] (.seq (Sr [Mc 13 0] (.block 0 (.loop (.seq (Sr [Mv 60 13,Fa 61 3 7,Ld 62 61,Oo 63 (.len false (.tmp 62)),Bn 64 .lss 60 63] (Cd 64 .skip (.exit 0))) (.seq (.block 1 (.reg [Mv 67 12,Mv 68 67,Of 69 68 (.fa 3 (.tmp 7)),Of 70 68 (.load false 1 (.tmp 69)),Of 71 68 (mt 13),Of 72 68 (.ia 4 (.tmp 70) (.tmp 71)),Of 73 68 (.fa 0 (.tmp 72)),Of 74 68 (.load false 1 (.tmp 73)),Of 75 68 (mt 2),Of 76 68 (.bin .eql (.tmp 74) (.tmp 75)),Oo 77 (.pick (.tmp 68) (.const (.bool true)) (.tmp 76)),Mv 12 77])) (.reg [Mv 65 13,Bc 66 .add 65 1,Mv 13 66])))))) (Sr [Oo 79 (.load true 3 (.tmp 3)),Mv 80 1,Mv 81 2,Bc 82 .sub 81 1,Cl 83 16 [(.tmp 79),(.tmp 80),(.tmp 82)],Mv 78 83,Ex 84 78 0,Ex 85 78 1,Oo 14 (.new 29 3 [(iv 0),(iv 0),Ss]),⟨none,none,(.store 3 (.tmp 14) (.tmp 84))⟩,Mv 8 85] (Sr [Mv 86 11,Bc 87 .neq 86 0,Mv 88 87,Of 89 88 (mt 8),Of 90 88 (.bin .neq (.tmp 89) (Ci 0)),Oo 91 (.pick (.tmp 88) (.const (.bool true)) (.tmp 90)),Mv 92 91,Of 93 92 (mt 12),Of 94 92 (.load true 3 (.tmp 9)),Of 95 92 (.load true 3 (.tmp 14)),Of 96 92 (.eqs true [.int,.int,.str] (.tmp 94) (.tmp 95)),Of 97 92 (.eqb false (.tmp 93) (.tmp 96)),Oo 98 (.pick (.tmp 92) (.const (.bool true)) (.tmp 97)),Mv 6 98] .ret)))))))))))
theorem k7:ZaA Tryz.prog 7=some ⟨c7,[(.tmp 6)],99⟩:=by kernel_rfl
theorem at_same {s:Src}{nm:ByteArray}(h:(ZbZ s nm).2=0) (n:Int):atV s nm n=(lkL (ZbZ s nm).1 n,lkE (ZbZ s nm).1 n):=by
 have hf:=Zmp h
 obtain⟨hT,hc⟩:=ZnH h
 unfold atV
 rw[if_neg (by simp[hf])]
 cases hb:Zc4 n with
 | false =>
  obtain⟨e1,e2⟩:=lk_out hc hb
  rw[e1,e2,if_pos]
  have:¬Zc4 n=true:=by rw[hb];simp
  rw[ZeN] at this
  simp only[tMin,tMax];omega
 | true =>
  obtain⟨e1,e2⟩:=Zsg hc hb
  have hb':=ZeN.1 hb
  rw[e1,e2,if_neg (by simp only[tMin,tMax];omega),hT,ZfH (by simp only[tMin];omega) (by simp only[tMax];omega)]
theorem at_s {a:List Rul}{z:List Zon}{k:List Lnk}{nm:ByteArray}{n:Int}{h:AH}(hok:Zeq (a,z,k)) (h0:(ZbZ (a,z,k) nm).2=0):Ac 16 [.agg (srcB a z k),sv nm,iv n] h (.tup [.agg (locC (lkL (ZbZ (a,z,k) nm).1 n)),iv (lkE (ZbZ (a,z,k) nm).1 n)]):=by
 have:=at_a (nm:=nm) (n:=n) (h:=h) hok
 rw[at_same h0] at this
 exact this
theorem same_law {s:Src}{nm:ByteArray}{n:Int}(h:(ZbZ s nm).2=0) (h1:lkE (ZbZ s nm).1 n=0) (h2:lkE (ZbZ s nm).1 (IntKind.i64.wrap (n-1))=0) :
  ((ZbZ s nm).1.2.any fun c=>decide (c.1=n))=decide (¬lkL (ZbZ s nm).1 n=lkL (ZbZ s nm).1 (IntKind.i64.wrap (n-1))):=by
 obtain⟨hT,hc⟩:=ZnH h
 have key : ∀ m,lkE (ZbZ s nm).1 m=0→Zc4 m=true:=fun m hm=>by
  cases hb:Zc4 m with
  | true=>rfl
  | false=>rw[(lk_out hc hb).2] at hm;cases hm
 have b1:=key _ h1
 have b1':=ZeN.1 b1
 have hw:IntKind.i64.wrap (n-1)=n-1:=w64 om om
 rw[hw] at h2 ⊢
 have b2:=key _ h2
 have b2':=ZeN.1 b2
 rw[(Zsg hc b1).1,(Zsg hc b2).1,hT,ZfH (by simp only[tMin];omega) (by simp only[tMax];omega),ZfH (by simp only[tMin];omega) (by simp only[tMax];omega)]
 have:=Zrj (rl:=s.1) (es:=(ZbE s nm).1.2) (x:=n) (by simp only[tMin];omega) (by simp only[tMax];omega)
 rw[Bool.eq_iff_iff,decide_eq_true_iff,←ne_eq,←this,List.any_eq_true]
 simp only[decide_eq_true_eq]
theorem walk0 {a:List Rul}{z:List Zon}{k:List Lnk}{nm:ByteArray}{n:Int}{h:AH}(hok:Zeq (a,z,k)):Ac 7 [.agg (srcB a z k),sv nm,iv n] h (bv true):=by
 refine tI' k7 fun N hn hlt hlA hbd=>?_
 simp only[tb'] at hbd ⊢
 refine wr'<|E' (Zbb cv rfl (hl0 hn) ha0) pt<|mw<|sn'<|Zam<|wr'<|Zad mp0 (tbegun_a) pt<|Vw (Zax lk)<|mw<|s_do gt<|Zad mp0 (zbegun_a) pt<|?_
 refine s_do gt<|Vw (Zax lk)<|Vw (Zaj lk lk)<|sn'<|ZaO lk<|Zaf<|Zag<|wr'<|Vw (Zao lk gx Zcj rfl)<|mw<|Zad mp (comp_a hok) pt<|mw<|?_
 refine Vw (ZaS lk gt)<|Vw (ZaS lk gt)<|E' (ZaU (hl1 hn) ha1) pt<|E' (Zai lk cv gx rfl (nb' rfl) rfl Zn5 (hs1 hn)) ptn<|mw<|sn'<|Zam<|wr'<|mw<|Vw (ZaW lk lki)<|sn'<|?_
 refine cd' lk (fun hc2=>?_) (fun hc2=>?_)
 ·have hb:=comp_bad hc2
  refine wr'<|Vw (Zab lk)<|Vw (Zac lk gx gt3)<|Vw (ZaL lk)<|Vw (ZaR lk lki)<|mw<|?_
  refine Zda (t:=33) gt (b:=true) (by exact decide_eq_true (by rw[hb];rfl)) pt ?_
  refine s_do gt<|Vw (Zab lk)<|s_do gt<|Vw (Zao lk gx Zcj rfl)<|s_do gt<|Vw (Zau ZgK)<|s_do gt<|Vw (Zhj lk lk Ze6)<|Vw (Zak lk lk)<|mw<|sn'<|Zaa<|Zah<|?_
  refine Zae rz<|rT'<|?_
  exact bvx (decide_eq_true (by rw[hb];exact⟨rfl,rfl,rfl⟩))
 have hc0:(ZbZ (a,z,k) nm).2=0:=Decidable.of_not_not hc2
 obtain⟨hT,hchk⟩:=ZnH hc0
 have hlen:=ZjR hchk
 refine Zaf<|Zag<|wr'<|Vw (Zao lk gx Zcj rfl)<|mw<|mw<|Zad mp (at_s hok hc0) pt<|mw<|Vw (ZaS lk gt)<|Vw (ZaS lk gt)<|E' (ZaU (hl2 hn) ha2) pt<|E' (Zai lk cv gx rfl (nb' rfl) rfl ZfV (hs2 hn)) ptn<|mw<|?_
 refine sn'<|wr'<|Vw (Zao lk gx Zn4 rfl)<|mw<|Zad mp (ZmW (ZoI hchk)) pt<|mw<|Vw (ZaS lk gt)<|Vw (ZaS lk gt)<|E' (ZaU (hl3 hn) ha3) pt<|E' (Zai lk cv gx rfl (nb' rfl) rfl ZfV (hs3 hn)) ptn<|mw<|Zar<|?_
 refine Zag<|Zam<|wr'<|mw<|mw<|Vw (ZaW lk lk)<|mw<|?_
 refine Zda (t:=55) gt (b:=false) (by exact decide_eq_false (fun e=>e rfl)) pt ?_
 refine s_do gt<|Vw (Zao lk gx Zcj rfl)<|s_do gt<|Vw (Zao lk gx Zcj rfl)<|s_do gt<|Vw (ZhV lk lk Ze6)<|Vw (Zaj lk lk)<|sn'<|?_
 refine ZdM lk (by exact decide_eq_false (fun e=>e ⟨rfl,rfl,rfl⟩)) ?_
 refine Zaf<|Zag<|wr'<|mw<|sn'<|Zam<|wr'<|mw<|sn'<|Zap<|?_
 refine Zf2 (ι:=Nat) (fun (i:Nat)=>[(12,bv (((ZbZ (a,z,k) nm).1.2.take i).any fun c=>decide (c.1=n))),(13,iv (i:Int))]++rn' 60 18) (fun (i:Nat)=>[]) (fun (i:Nat)=>i≤(ZbZ (a,z,k) nm).1.2.length) (fun (i:Nat)=>(ZbZ (a,z,k) nm).1.2.length-i) (0) (by exact Nat.zero_le _) (by try simp only[sm',Nat.reduceAdd];exact ALe.same (by repeat (first | exact wk0 | refine wka ?_ | refine wk1 rfl ?_ | refine wk1 (by first | rfl | (rw[List.take_zero];rfl)) ?_)) rfl) ?_
 rintro i hi1
 try simp only[sm',Nat.reduceAdd]
 replace hi1:i≤(ZbZ (a,z,k) nm).1.2.length:=hi1
 refine Zam<|wr'<|mw<|Vw (Zab lk)<|Vw (Zac lk gx gt3)<|Vw (ZaL lk)<|Vw (Zba lk lk)<|sn'<|?_
 refine cd' lk (fun hc4=>?_) (fun hc4=>?_)
 ·have hi:i<(ZbZ (a,z,k) nm).1.2.length:=by omega
  have hak:((ZbZ (a,z,k) nm).1.2.take (i+1)).any (fun c=>decide (c.1=n))=(((ZbZ (a,z,k) nm).1.2.take i).any (fun c=>decide (c.1=n))||decide ((ZbZ (a,z,k) nm).1.2[i].1=n)):=by rw[List.take_succ_eq_append_getElem hi,List.any_append];simp
  refine Zaf<|Zag<|Zam<|Zap<|Zav<|mw<|mw<|?_
  refine sp' (t:=68) gt pt pt (fun hg68=>?_) (fun hg68=>?_)
  ·refine s_no gt pt<|s_no gt pt<|s_no gt pt<|s_no gt pt<|s_no gt pt<|s_no gt pt<|s_no gt pt<|s_no gt pt<|Vw (Zak lk lkb)<|mw<|Zar<|Zaz<|Zag<|Zav<|?_
   refine mv' lk pt ?_
   refine V' (Zay lk lki om om) pt ?_
   refine mw<|Zar<|ZaB<|?_
   refine lU' (i+1) (by (try dsimp only);omega) (by (try dsimp only);(try simp only[sm',Nat.reduceAdd]);exact ALe.same (by repeat (first | exact wk0 | refine wka ?_ | refine wk1 rfl ?_ | refine wk1 (by first | rfl | exact ivx om | (rw[hak,hg68];rfl) | (rw[hak,hg68];simp)) ?_)) rfl)
  refine s_do gt<|Vw (Zab lk)<|s_do gt<|Vw (Zac lk gx gt3)<|s_do gt<|mw<|s_do gt<|?_
  refine V' (ZaX lk lk Zb5 (nb' rfl) ro om ro rfl) pt ?_
  refine s_do gt<|Vw (ZbC lk dp0)<|s_do gt<|Vw (ZaC lk gt)<|s_do gt<|mw<|s_do gt<|Vw (ZaR lk lk)<|Vw (Zaj lk lk)<|mw<|Zar<|Zaz<|Zag<|Zav<|?_
  refine mv' lk pt ?_
  refine V' (Zay lk lki om om) pt ?_
  refine mw<|Zar<|ZaB<|?_
  refine lU' (i+1) (by (try dsimp only);omega) (by (try dsimp only);(try simp only[sm',Nat.reduceAdd]);exact ALe.same (by repeat (first | exact wk0 | refine wka ?_ | refine wk1 rfl ?_ | refine wk1 (by first | rfl | exact ivx om | (rw[hak,hg68];rfl) | (rw[hak,hg68];simp)) ?_)) rfl)
 rw[List.take_of_length_le (show (ZbZ (a,z,k) nm).1.2.length≤i by omega)]
 refine ZaN<|ZaE<|ZaE<|Za8<|Zag<|wr'<|Vw (Zao lk gx Zcj rfl)<|mw<|mw<|Vw (v_subw lk lki)<|Zad mp (at_s hok hc0) pt<|mw<|Vw (ZaS lk gt)<|?_
 refine Vw (ZaS lk gt)<|E' (ZaU (hl4 hn) ha4) pt<|E' (Zai lk cv gx rfl (nb' rfl) rfl ZfV (hs4 hn)) ptn<|mw<|sn'<|wr'<|mw<|Vw (ZaW lk lki)<|mw<|?_
 refine sp' (t:=88) gt pt pt (fun hg88=>?_) (fun hg88=>?_)
 ·refine s_no gt pt<|s_no gt pt<|Vw (Zak lk lkb)<|mw<|s_no gt pt<|s_no gt pt<|s_no gt pt<|s_no gt pt<|s_no gt pt<|Vw (Zak lk lkb)<|mw<|sn'<|Zaa<|?_
  refine Zae rz ?_
  exact rT' rfl
 refine s_do gt<|mw<|s_do gt<|Vw (ZaW lk lki)<|Vw (Zaj lk lk)<|mw<|?_
 refine sp' (t:=92) gt pt pt (fun hg92=>?_) (fun hg92=>?_)
 ·exact s_no gt pt<|s_no gt pt<|s_no gt pt<|s_no gt pt<|s_no gt pt<|Vw (Zak lk lkb)<|mw<|sn'<|Zaa<|Zae rz<|rT' rfl
 refine s_do gt<|mw<|s_do gt<|Vw (Zao lk gx Zcj rfl)<|s_do gt<|Vw (Zao lk gx Zcj rfl)<|s_do gt<|Vw (ZhV lk lk Ze6)<|s_do gt<|Vw (v_eqbT lk lk)<|Vw (Zaj lk lk)<|mw<|sn'<|?_
 refine Zaa<|Zae rz<|rT'<|?_
 refine bvx ?_;rw[same_law hc0 (Decidable.of_not_not hg88) (Decidable.of_not_not hg92)];generalize lkL (ZbZ (a,z,k) nm).1 n=x1;generalize lkL (ZbZ (a,z,k) nm).1 _=x2;obtain⟨p1,p2,p3⟩:=x1;obtain⟨q1,q2,q3⟩:=x2;simp
end Go.Proofs.YtlekejpogddndaaGreatDoor.tableSame
end
section
namespace Go.Proofs.YtlekejpogddndaaGreatDoor
open Go.Ab Go.RowKit Civ
abbrev RulD:Ds:=.pair .str (.pair .int (.pair .int (.pair .int (.pair (.pair .int (.pair .int .int)) (.pair .int (.pair .int (.pair .int .str)))))))
abbrev EraD:Ds:=.pair .int (.pair .str (.pair .int (.pair .str (.pair .bool (.pair (.pair .int (.pair .int .int)) (.pair .int .int))))))
abbrev ZonD:Ds:=.pair .str (.slice EraD)
abbrev LnkD:Ds:=.pair .str .str
abbrev SrcDs:Ds:=.pair (.slice RulD) (.pair (.slice ZonD) (.slice LnkD))
theorem okSrc_of {s:Src}(h:okD SrcDs s):Zeq s:=by
 obtain⟨h1,h2,h3⟩:=h
 refine⟨fun r hr=>?_,fun z hz=>?_,fun l hl=>?_⟩
 ·obtain⟨i,hi,rfl⟩:=List.getElem_of_mem hr
  have:=h1 i hi
  exact⟨this.1,this.2.2.2.2.2.2.2.2⟩
 ·obtain⟨i,hi,rfl⟩:=List.getElem_of_mem hz
  have:=h2 i hi
  refine⟨this.1,fun x hx=>?_⟩
  obtain⟨j,hj,rfl⟩:=List.getElem_of_mem hx
  have:=this.2 j hj
  exact⟨this.2.1,this.2.2.2.1⟩
 ·obtain⟨i,hi,rfl⟩:=List.getElem_of_mem hl
  exact h3 i hi
end Go.Proofs.YtlekejpogddndaaGreatDoor
end
section
namespace Go
variable {H : Type} {enc : TypeId × Value → H}
theorem Zns {a:Assume}{C:Checked}{os:Os}{f:FuncId}{fn:Func}{s:ChangeSpec}{apart fresh handsOn again:Bool}{laid:List (String×DataW Unit)}
  (own:ownKnob C.prog.godebug=none) (started:os.Started) (noInit:C.prog.inits.idxOf? f=none) (hfn:C.prog.funcs[f]?=some fn)
  (witness : ∃ (w:World) (tape:Tape) (i:Input),w.os=os∧(w.forCall tape i).Shaped C.prog∧i.vars=[]∧Input.okWide C.prog (w.forCall tape i) .any w.heap.size f i ∧
   ((s.pre enc C.prog fn [] apart (w.forCall tape i).memory i.args∧laidMetH C.prog laid (w.forCall tape i).memory)∧sizedMet enc C.prog fn (OpenSpec.ofChange s) apart (w.forCall tape i).memory i.args)∧a.holds C.prog (lone (Frame.enter C.prog f i.args .normal) [] (w.forCall tape i)))
  (contract : ∀ (W:World) (base:Nat) (args:Array Value) (ds gs:List (DataW H)) (before:List MemPlace),
   (∀ (j:Nat) t v,fn.params[j]?=some t→args[j]?=some v→Value.okWide C.prog W .any base t v) →
   DataW.Whole enc C.prog fn.params.toList s.vars apart W args.toList ds gs before →
   (DataW.weightsEach C.prog (fn.params.toList++s.plain.varTypes C.prog) (ds++gs)).all (· ≤ reachBytes)=true →
   laidMetH C.prog laid W→W.ShapedOpen C.prog →
   Calls C.prog f args W fun e W' => ∃ v,e=.returned v∧s.post enc C.prog fn apart fresh handsOn again W args v W') :
  ReturnsInHanded a C os f .any (fun w args=>(s.pre enc C.prog fn [] apart w args∧laidMetH C.prog laid w)∧sizedMet enc C.prog fn (OpenSpec.ofChange s) apart w args) (s.post enc C.prog fn apart fresh handsOn again):=by
 refine returnsInHanded_of_calls own started noInit witness ?_
 intro w tape i _ hsh _ hok hpre hholds
 obtain⟨_,_,_,fn',hfn',_,_,_,_,hval⟩:=hok
 have e:fn'=fn:=Option.some.inj (hfn'.symm.trans hfn)
 subst e
 obtain⟨⟨⟨ds,gs,before,hw,hc⟩,hx⟩,hz⟩:=hpre
 have hw':=DataW.Whole.of_heap (w':=w.forCall tape i) (by rfl) hw
 refine (contract (w.forCall tape i) w.heap.size i.args ds gs before hval hw' (hz.weights hw) (hx.of_heap (by rfl)) hsh).mono fun e W' ⟨v,he,hp⟩=>?_
 subst he
 exact ChangeSpec.post_blind hp
end Go
namespace Go.Proofs.YtlekejpogddndaaGreatDoor
open Go.ChangeShapes Go.WideShapes Go.ChangeAt Go.RowKit Go.Ab
def LaidOk (l:List (String×DataW Unit)):Prop:=l.length=l.length
theorem globW {W:World}{l:List (String×DataW Unit)}(hsh:W.ShapedOpen Tryz.prog) (hL:laidMetH Tryz.prog l W) (hl:LaidOk l):GlobW W where
 tt:=trivial
 maxLen:=cell_of_shapedOpen_int (t:=3) (zero := #[.int .i64 0]) hsh (of_decide_eq_true (by kernel_rfl)) (by kernel_rfl) rfl (by kernel_rfl) (by kernel_rfl) Tryz.underlying3
end Go.Proofs.YtlekejpogddndaaGreatDoor
end
