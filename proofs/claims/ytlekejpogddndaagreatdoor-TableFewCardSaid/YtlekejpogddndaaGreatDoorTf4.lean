/-
  Part 4 of the proof: own lemmas and contracts on plain data. No condition beyond those that each lemma states.
-/
import Derived.Test.YtlekejpogddndaaGreatDoorTf3
import Derived.Test.YtlekejpogddndaaGreatDoorCards
import Derived.Test.YtlekejpogddndaaGreatDoorTie
import Derived.Lay
import Derived.Handed
import Derived.SizedLaws
import Derived.Shelf.Vars
import Derived.SevenTiedAt
import Derived.LaidSub
import Derived.MakeChecks
set_option linter.all false
set_option maxRecDepth 1000000
set_option maxHeartbeats 4000000
section
namespace Go.Proofs.YtlekejpogddndaaGreatDoor
open Go.Ab Go.RowKit Civ
attribute [local simp] ZbS
theorem Zor {n:Int}{t t1:TS}{id:Nat}{h:AH}(he:ZdB t=(n,t1)) (h1:h[id]?=some (takE t)):ACalls Tryz.prog 275 [.ptr id 0 0] h fun x h'=>x=.ret (iv n)∧h'=h.set id (takE t1):=by
 have:=tmonth_a h1
 rw[he] at this
 exact this
theorem tform_e {n:Frm}{t t1:TS}{id:Nat}{h:AH}(ho:okTS t) (he:ZgO t=(n,t1)) (h1:h[id]?=some (takE t)):ACalls Tryz.prog 277 [.ptr id 0 0] h fun x h'=>x=.ret (.agg [iv n.1,iv n.2.1,iv n.2.2])∧h'=h.set id (takE t1):=by
 have:=tform_a (Za9 ho (s:=(ZaP t).1) (u:=(ZaP t).2) rfl).1 h1
 rw[he] at this
 exact this
theorem Zow {d:Int}{n:Int×Int}{t t1:TS}{id:Nat}{h:AH}(hd:d=1∨d=2) (ho:okTS t) (he:Zc3 d t=(n,t1)) (h1:h[id]?=some (takE t)):ACalls Tryz.prog 276 [.ptr id 0 0,iv d] h fun x h'=>x=.ret (.tup [iv n.1,iv n.2])∧h'=h.set id (takE t1):=by
 have:=tclock_a hd (Za9 ho (s:=(ZaP t).1) (u:=(ZaP t).2) rfl).1 h1
 rw[he] at this
 exact this
theorem ZgL {s:ByteArray}{n:Int}{t t1:TS}{id:Nat}{h:AH}(hz:s.size≤24) (he:ZbD s t=(n,t1)) (h1:h[id]?=some (takE t)):ACalls Tryz.prog 273 [.ptr id 0 0,sv s] h fun x h'=>x=.ret (iv n)∧h'=h.set id (takE t1):=by
 have:=ZhT hz h1
 rw[he] at this
 exact this
theorem trule_a {t:TS}{id:Nat}{h:AH}(ho:okTS t) (h1:h[id]?=some (takE t)):ACalls Tryz.prog 202 [.ptr id 0 0] h fun x h'=>x=.ret (.agg (rulC (Zkm t).1))∧h'=h.set id (takE (Zkm t).2):=by
 have hid:id<h.length:=(List.getElem?_eq_some_iff.1 h1).1
 obtain⟨nm,t1,e1⟩ : ∃ a b,ZeP t=(a,b):=⟨_,_,rfl⟩
 have o1:=Zgf ho e1
 obtain⟨s2,t2,e2⟩ : ∃ a b,ZaP t1=(a,b):=⟨_,_,rfl⟩
 obtain⟨z2,o2⟩:=Za9 o1 e2
 obtain⟨f,t3,e3⟩ : ∃ a b,tNum s2 4 4 t2=(a,b):=⟨_,_,rfl⟩
 have o3:=ZhG o2 e3
 obtain⟨s4,t4,e4⟩ : ∃ a b,ZaP t3=(a,b):=⟨_,_,rfl⟩
 obtain⟨z4,o4⟩:=Za9 o3 e4
 obtain⟨yr,t5,e5⟩ : ∃ a b,tTo f s4 t4=(a,b):=⟨_,_,rfl⟩
 have o5:=ZrX o4 e5
 obtain⟨m,t6,e6⟩ : ∃ a b,ZdB t5=(a,b):=⟨_,_,rfl⟩
 have o6:=ZgR o5 e6
 obtain⟨k,t7,e7⟩ : ∃ a b,ZgO t6=(a,b):=⟨_,_,rfl⟩
 have o7:=ZlQ o6 e7
 obtain⟨c,t8,e8⟩ : ∃ a b,Zc3 1 t7=(a,b):=⟨_,_,rfl⟩
 have o8:=ZgS o7 e8
 obtain⟨s9,t9,e9⟩ : ∃ a b,ZaP t8=(a,b):=⟨_,_,rfl⟩
 obtain⟨z9,o9⟩:=Za9 o8 e9
 obtain⟨svd,t10,e10⟩ : ∃ a b,ZbD s9 t9=(a,b):=⟨_,_,rfl⟩
 have o10:=Zij o9 e10
 obtain⟨s11,t11,e11⟩ : ∃ a b,ZaP t10=(a,b):=⟨_,_,rfl⟩
 obtain⟨z11,o11⟩:=Za9 o10 e11
 have hR:Zkm t=((nm,f,yr,m,k,c.1,c.2,svd,(Zc9 t10).1),(Zc9 t10).2):=by
  simp only[Zkm,ZbY,ret2,Zrj,tToN,Zrl,e1,e2,e3,e4,e5,e6,e7,e8,e9,e10]
 have hL:Zc9 t10=(if s11=bA [45] then ⟨#[]⟩ else s11,if ZeU s11=true then t11 else bad t11):=by unfold Zc9;rw[e11]
 refine tJ' k202 fun N hn hlt hlA hbd=>?_
 simp only[tb'] at hbd ⊢
 refine ZdJ (h1:=h.set id (takE t)++[]) (by rw[ZcS h1]) ?_
 refine wr'<|E' (ZaW (hl0 (Zan hn)) ha0) pt<|sn'<|wr'<|E' (ZaW (hl1 (Zan hn)) ha1) pt<|sn'<|wr'<|mw<|ZaN mp (Zki ho e1 (ZaY hid)) (ZaJ hid) pt<|?_
 refine Vw (Zab lk)<|E' (Zai lk cv (hga (Zan hn) rfl) rfl (nb' rfl) rfl Zfn (hs1 (Zan hn))) ptn<|sn'<|wr'<|mw<|mw<|ZaN mp (Zc8 e2 (ZaY hid)) (ZaJ hid) pt<|?_
 refine ZaN mp (Zoq om e3 (ZaY hid)) (ZaJ hid) pt ?_
 refine Vw (Zab lk)<|E' (Zai lk cv (hga (Zan hn) rfl) rfl (nb' rfl) rfl ZbM (hs1 (Zan hn))) ptn<|sn'<|wr'<|mw<|ZaN mp (Zc8 e4 (ZaY hid)) (ZaJ hid) pt<|mw<|sn'<|?_
 refine Zog (ι:=Unit) (fun (u:Unit)=>[]++rn' 15 13) (fun (u:Unit)=>h.set id (takE t5)++[.mk 0 36 11 [sv ⟨#[]⟩,iv 0,iv 0,iv 0,iv 0,iv 0,iv 0,iv 0,iv 0,iv 0,sv ⟨#[]⟩],.mk 0 36 11 [sv nm,iv f,iv yr,iv 0,iv 0,iv 0,iv 0,iv 0,iv 0,iv 0,sv ⟨#[]⟩]]) (fun (u:Unit)=>True) ?_ ?_
 ·try simp only[sm',Nat.reduceAdd]
  refine wr'<|mw<|sn'<|Zap<|wr'<|Vw (Zcp lk lks)<|mw<|sn'<|?_
  refine cd' lk (fun hc1=>?_) (fun hc1=>?_)
  ·have hq:yr=f∧t5=t4:=by rw[tTo,if_pos (show s4=ZrW from hc1)] at e5;cases e5;exact⟨rfl,rfl⟩
   obtain⟨rfl,rfl⟩:=hq
   refine Zav<|Vw (Zab lk)<|Vw (Zac lk (hga (Zan hn) rfl) gt1)<|Vw (Zab lk)<|E' (Zai lk cv (hga (Zan hn) rfl) rfl (nb' rfl) rfl Zef (hs1 (Zan hn))) ptn<|Zar<|Zaz<|ZaB<|?_
   exact cT' (()) (by trivial)
  refine wr'<|Vw (Zcp lk lks)<|mw<|sn'<|?_
  refine cd' lk (fun hc2=>?_) (fun hc2=>?_)
  ·have hq:yr=2100∧t5=t4:=by rw[tTo,if_neg (show ¬s4=ZrW from hc1),if_pos (show s4=maxA from hc2)] at e5;cases e5;exact⟨rfl,rfl⟩
   obtain⟨rfl,rfl⟩:=hq
   refine Zav<|Vw (Zab lk)<|E' (Zai lk (cvl lki rfl) (hga (Zan hn) rfl) rfl (nb' rfl) rfl Zef (hs1 (Zan hn))) ptn<|Zar<|Zaz<|ZaB<|?_
   exact cT' (()) (by trivial)
  have hq:tNum s4 4 4 t4=(yr,t5):=by rw[tTo,if_neg (show ¬s4=ZrW from hc1),if_neg (show ¬s4=maxA from hc2)] at e5;exact e5
  refine Zav<|mw<|mw<|?_
  refine ZaN mp (Zoq om hq (ZaY hid)) (ZaJ hid) pt ?_
  refine Vw (Zab lk)<|E' (Zai lk cv (hga (Zan hn) rfl) rfl (nb' rfl) rfl Zef (hs1 (Zan hn))) ptn<|Zar<|Zaz<|ZaB<|?_
  exact cT' (()) (by trivial)
 rintro u hq9
 try simp only[sm',Nat.reduceAdd]
 refine wr'<|mw<|ZaN mp (Zor e6 (ZaY hid)) (ZaJ hid) pt<|Vw (Zab lk)<|E' (Zai lk cv (hga (Zan hn) rfl) rfl (nb' rfl) rfl Zj5 (hs1 (Zan hn))) ptn<|sn'<|wr'<|mw<|ZaN mp (tform_e o6 e7 (ZaY hid)) (ZaJ hid) pt<|Vw (Zab lk)<|E' (Zai lk cv (hga (Zan hn) rfl) rfl (nb' rfl) rfl ZqD (hs1 (Zan hn))) ptn<|?_
 refine sn'<|wr'<|mw<|ZaN mp (Zow (.inl rfl) o7 e8 (ZaY hid)) (ZaJ hid) pt<|mw<|Vw (ZaS lk gt)<|Vw (ZaS lk gt)<|Vw (Zab lk)<|E' (Zai lk cv (hga (Zan hn) rfl) rfl (nb' rfl) rfl ZqB (hs1 (Zan hn))) ptn<|Vw (Zab lk)<|E' (Zai lk cv (hga (Zan hn) rfl) rfl (nb' rfl) rfl Zj4 (hs1 (Zan hn))) ptn<|Zar<|?_
 refine Zag<|wr'<|mw<|mw<|ZaN mp (Zc8 e9 (ZaY hid)) (ZaJ hid) pt<|ZaN mp (ZgL z9 e10 (ZaY hid)) (ZaJ hid) pt<|Vw (Zab lk)<|E' (Zai lk cv (hga (Zan hn) rfl) rfl (nb' rfl) rfl Zj3 (hs1 (Zan hn))) ptn<|sn'<|wr'<|mw<|?_
 refine ZaN mp (Zc8 e11 (ZaY hid)) (ZaJ hid) pt<|mw<|sn'<|Zam<|wr'<|mw<|Vw (Zcp lk lks)<|mw<|?_
 refine sp' (t:=50) gt pt pt (fun hg50=>?_) (fun hg50=>?_)
 ·have hLt:Zc9 t10=(s11,bad t11):=by rw[hL,hg50];rfl
  refine s_no gt pt<|s_no gt pt<|s_no gt pt<|s_nu gt pt<|s_nu gt pt<|s_nu gt pt<|s_no gt pt<|Vw (Zak lk lkb)<|sn'<|ZaG lk<|Zav<|mw<|Vw (Zbp lk)<|?_
  refine Vw (Zab lk)<|E' (Zai lk (cvl lkb rfl) (ZaY hid) rfl (nb' rfl) rfl ZbM (ZaJ hid)) ptn<|sn'<|Zam<|wr'<|mw<|Vw (ZcD lk lks)<|sn'<|?_
  refine ZdW lk (by exact decide_eq_true (by rw[hg50];decide)) ?_
  refine Zav<|mw<|Vw (Zab lk)<|E' (Zai lk cv (hga (Zan hn) rfl) rfl (nb' rfl) rfl ZfR (hs1 (Zan hn))) ptn<|sn'<|wr'<|Vw (Zao lk (hga (Zan hn) rfl) Zch rfl)<|E' (Zai lk cv (hga (Zan hn) rfl) rfl (nb' rfl) rfl ZeC (hs0 (Zan hn))) ptn<|sn'<|Zaa<|Zae (rs1 (rr_c gt (hga (Zan hn) rfl) (ld1 Zch rfl)))<|?_
  rw[hLt] at hR
  exact⟨_,_,rfl,Zan hn,ZbU hlt ZaK,rfl,by rw[hR] <;> rfl,by rw[hR] <;> rfl⟩
 refine s_do gt<|mw<|s_do gt<|Vw (ZcD lk lks)<|s_do gt<|mw<|?_
 refine sp' (t:=53) gt pt pt (fun hg53=>?_) (fun hg53=>?_)
 ·refine s_do gt<|mw<|s_do gt<|?_
  refine Zad mp (Zhi (by unfold maxLen;omega)) pt ?_
  refine s_do gt<|Vw (Zax lk)<|s_do gt<|Vw (Zak lk lk)<|Vw (Zaj lk lk)<|sn'<|?_
  refine Zaw lk (fun hc3=>?_) (fun hc3=>?_)
  ·have hl:Zcm s11=false:=by simpa using hc3
   have hLt:Zc9 t10=(s11,bad t11):=by rw[hL,if_neg (show ¬s11=bA [45] from hg53),if_neg (by unfold ZeU;rw[hl,decide_eq_false (show ¬s11=bA [45] from hg53)];simp)]
   refine Zav<|mw<|Vw (Zbp lk)<|Vw (Zab lk)<|E' (Zai lk (cvl lkb rfl) (ZaY hid) rfl (nb' rfl) rfl ZbM (ZaJ hid)) ptn<|sn'<|Zam<|wr'<|mw<|Vw (ZcD lk lks)<|sn'<|?_
   refine ZdW lk (by exact decide_eq_true hg53) ?_
   refine Zav<|mw<|Vw (Zab lk)<|E' (Zai lk cv (hga (Zan hn) rfl) rfl (nb' rfl) rfl ZfR (hs1 (Zan hn))) ptn<|sn'<|wr'<|Vw (Zao lk (hga (Zan hn) rfl) Zch rfl)<|E' (Zai lk cv (hga (Zan hn) rfl) rfl (nb' rfl) rfl ZeC (hs0 (Zan hn))) ptn<|sn'<|Zaa<|Zae (rs1 (rr_c gt (hga (Zan hn) rfl) (ld1 Zch rfl)))<|?_
   rw[hLt] at hR
   exact⟨_,_,rfl,Zan hn,ZbU hlt ZaK,rfl,by rw[hR] <;> rfl,by rw[hR] <;> rfl⟩
  have hl:Zcm s11=true:=by simpa using hc3
  have hLt:Zc9 t10=(s11,t11):=by rw[hL,if_neg (show ¬s11=bA [45] from hg53),if_pos (by unfold ZeU;rw[hl,decide_eq_true hg50];simp)]
  refine Zaf<|Zag<|Zam<|wr'<|mw<|Vw (ZcD lk lks)<|sn'<|?_
  refine ZdW lk (by exact decide_eq_true hg53) ?_
  refine Zav<|mw<|Vw (Zab lk)<|E' (Zai lk cv (hga (Zan hn) rfl) rfl (nb' rfl) rfl ZfR (hs1 (Zan hn))) ptn<|sn'<|wr'<|Vw (Zao lk (hga (Zan hn) rfl) Zch rfl)<|E' (Zai lk cv (hga (Zan hn) rfl) rfl (nb' rfl) rfl ZeC (hs0 (Zan hn))) ptn<|sn'<|Zaa<|Zae (rs1 (rr_c gt (hga (Zan hn) rfl) (ld1 Zch rfl)))<|?_
  rw[hLt] at hR
  exact⟨_,_,rfl,Zan hn,ZbU hlt ZaK,rfl,by rw[hR] <;> rfl,by rw[hR] <;> rfl⟩
 have h45:s11=bA [45]:=Decidable.of_not_not hg53
 have hLt:Zc9 t10=(⟨#[]⟩,t11):=by rw[hL,h45];rfl
 refine s_no gt pt<|s_no gt pt<|s_no gt pt<|s_do gt<|Vw (Zaj lk lkb)<|Vw (Zaj lk lk)<|sn'<|ZaO lk<|Zaf<|Zag<|Zam<|wr'<|?_
 refine mw<|Vw (ZcD lk lks)<|sn'<|?_
 refine Zdf lk (by exact decide_eq_false (by rw[h45];decide)) ?_
 refine Zaf<|Zag<|wr'<|Vw (Zao lk (hga (Zan hn) rfl) Zch rfl)<|E' (Zai lk cv (hga (Zan hn) rfl) rfl (nb' rfl) rfl ZeC (hs0 (Zan hn))) ptn<|sn'<|Zaa<|Zae (rs1 (rr_c gt (hga (Zan hn) rfl) (ld1 Zch rfl)))<|?_
 rw[hLt] at hR
 exact⟨_,_,rfl,Zan hn,ZbU hlt ZaK,rfl,by rw[hR] <;> rfl,by rw[hR] <;> rfl⟩
theorem tSpan_bd {s:ByteArray}{t:TS}:0≤(ZbD s t).1∧(ZbD s t).1<1000000000:=by
 unfold ZbD
 split
 ·exact⟨Int.le_refl 0,show (0:Int)<1000000000 by decide⟩
 unfold ZeO
 split
 ·rename_i a b _
  have h1:=Zh1 (s:=bA a) (a:=1) (b:=2) (t:=t) om
  have h2:=ZgN (s:=bA b) (t:=(tNum (bA a) 1 2 t).2)
  constructor <;> dsimp only <;> omega
 ·rename_i a b c _
  have h1:=Zh1 (s:=bA a) (a:=1) (b:=2) (t:=t) om
  have h2:=ZgN (s:=bA b) (t:=(tNum (bA a) 1 2 t).2)
  have h3:=ZgN (s:=bA c) (t:=(tSix (bA b) (tNum (bA a) 1 2 t).2).2)
  constructor <;> dsimp only <;> omega
 exact⟨Int.le_refl 0,show (0:Int)<1000000000 by decide⟩
abbrev eraZ:List AV:=[iv 0,sv ⟨#[]⟩,iv 0,sv ⟨#[]⟩,bv false,iv 0,iv 0,iv 0,iv 0,iv 0]
theorem Zjs {t u:TS}{n:Int}(ho:okTS t) (e:Zf3 t=(n,u)):okTS u:=by
 obtain⟨x,v,ev⟩ : ∃ x v,ZaP t=(x,v):=⟨_,_,rfl⟩
 unfold Zf3 at e
 rw[ev] at e
 have:=(Za9 ho ev).2
 split at e
 ·cases e;exact ZfG tSpan_fst this
 exact Zij this e
theorem Zjt {s:ByteArray}{t u:TS}{p:Int×ByteArray}(ho:okTS t) (e:ZdZ s t=(p,u)):okTS u:=by
 unfold ZdZ at e
 split at e
 ·cases e;exact ho
 split at e
 ·cases e
  refine ZfG tSpan_fst ?_
  split <;> exact ho
 cases e
 split <;> exact ho
theorem tera_a {t:TS}{id:Nat}{h:AH}(ho:okTS t) (h1:h[id]?=some (takE t)):ACalls Tryz.prog 201 [.ptr id 0 0] h fun x h'=>x=.ret (.agg (eraC (tEra t).1))∧h'=h.set id (takE (tEra t).2):=by
 have hid:id<h.length:=(List.getElem?_eq_some_iff.1 h1).1
 obtain⟨s1,t1,e1⟩ : ∃ a b,ZaP t=(a,b):=⟨_,_,rfl⟩
 obtain⟨z1,o1⟩:=Za9 ho e1
 have hem1:=Zeu (f:=s1)
 obtain⟨sh,t2,e2⟩ : ∃ a b,Zf3 t=(a,b):=⟨_,_,rfl⟩
 have o2:=Zjs ho e2
 obtain⟨s3,t3,e3⟩ : ∃ a b,ZaP t2=(a,b):=⟨_,_,rfl⟩
 obtain⟨z3,o3⟩:=Za9 o2 e3
 have hem3:=Zeu (f:=s3)
 obtain⟨⟨sa,rl⟩,t4,e4⟩ : ∃ a b,ZdZ s3 t3=(a,b):=⟨_,_,rfl⟩
 have o4:=Zjt o3 e4
 obtain⟨fm,t5,e5⟩ : ∃ a b,ZaP t4=(a,b):=⟨_,_,rfl⟩
 obtain⟨z5,o5⟩:=Za9 o4 e5
 obtain⟨t6,e6⟩ : ∃ u,(if ZbL fm=true then t5 else bad t5)=u:=⟨_,rfl⟩
 have o6:okTS t6:=by rw[←e6];split <;> exact o5
 obtain⟨s7,t7,e7⟩ : ∃ a b,ZaP t6=(a,b):=⟨_,_,rfl⟩
 obtain⟨z7,o7⟩:=Za9 o6 e7
 obtain⟨y,t8,e8⟩ : ∃ a b,tNum s7 4 4 t7=(a,b):=⟨_,_,rfl⟩
 have o8:=ZhG o7 e8
 obtain⟨m,t9,e9⟩ : ∃ a b,ZdB t8=(a,b):=⟨_,_,rfl⟩
 have o9:=ZgR o8 e9
 obtain⟨s10,t10,e10⟩ : ∃ a b,ZaP t9=(a,b):=⟨_,_,rfl⟩
 obtain⟨z10,o10⟩:=Za9 o9 e10
 obtain⟨d,t11,e11⟩ : ∃ a b,tNum s10 1 2 t10=(a,b):=⟨_,_,rfl⟩
 have o11:=ZhG o10 e11
 obtain⟨c,t12,e12⟩ : ∃ a b,Zc3 2 t11=(a,b):=⟨_,_,rfl⟩
 have o12:=ZgS o11 e12
 have hU:Zhf t6=(((y,m,d),c.1,c.2),if c.2=1 then bad t12 else t12):=by
  simp only[Zhf,ZbY,ret2,Zrj,tDay,Zrk,e7,e8,e9,e10,e11,e12]
 have hR:tEra t=((sh,rl,sa,fm,(tEnd t6).1.1,(tEnd t6).1.2),(tEnd t6).2):=by
  simp only[tEra,ZbY,ret2,Zrm,Zh2,e2,e3,e4,e5,e6]
 refine tJ' k201 fun N hn hlt hlA hbd=>?_
 simp only[tb'] at hbd ⊢
 refine ZdJ (h1:=h.set id (takE t)++[]) (by rw[ZcS h1]) ?_
 refine wr'<|E' (ZaW (hl0 (Zan hn)) ha0) pt<|sn'<|wr'<|E' (ZaW (hl1 (Zan hn)) ha1) pt<|sn'<|wr'<|mw<|ZaN mp (Zc8 e1 (ZaY hid)) (ZaJ hid) pt<|?_
 refine mw<|sn'<|?_
 refine Zog (ι:=Unit) (fun (u:Unit)=>[]++rn' 10 17) (fun (u:Unit)=>h.set id (takE t2)++[.mk 0 63 10 eraZ,.mk 0 63 10 [iv sh,sv ⟨#[]⟩,iv 0,sv ⟨#[]⟩,bv false,iv 0,iv 0,iv 0,iv 0,iv 0]]) (fun (u:Unit)=>True) ?_ ?_
 ·try simp only[sm',Nat.reduceAdd]
  refine wr'<|mw<|Vw (ZcD lk lks)<|mw<|?_
  refine sp' (t:=12) gt pt pt (fun hg12=>?_) (fun hg12=>?_)
  ·have hn1:s1.size≠0:=fun e=>hg12 (hem1.2 e)
   refine s_do gt<|mw<|s_do gt<|?_
   refine V' (v_ix lk lki om om) pt ?_
   refine s_do gt<|Vw (ZaQ lk lki)<|Vw (Zak lk lk)<|sn'<|?_
   refine cd' lk (fun hc1=>?_) (fun hc1=>?_)
   ·have hc:s1.size≠0∧Zht s1=45:=⟨fun e=>hg12 (hem1.2 e),hc1⟩
    obtain⟨n,u2,f2⟩ : ∃ a b,ZbD (s1.extract 1 s1.size) t1=(a,b):=⟨_,_,rfl⟩
    have hb2:=tSpan_bd (s:=s1.extract 1 s1.size) (t:=t1)
    rw[f2] at hb2
    replace hb2:0≤n∧n<1000000000:=hb2
    have hq:sh = -n∧t2=u2:=by unfold Zf3 at e2;rw[e1,if_pos hc,f2] at e2;cases e2;exact⟨rfl,rfl⟩
    obtain⟨rfl,rfl⟩:=hq
    refine Zav<|mw<|mw<|?_
    refine V' (ZdX lk (oi lki) on_ om om om) pt ?_
    refine ZaN mp (ZgL (by rw[ByteArray.size_extract];omega) f2 (ZaY hid)) (ZaJ hid) pt ?_
    refine V' (v_neg lk om om) pt ?_
    refine Vw (Zab lk)<|E' (Zai lk cv (hga (Zan hn) rfl) rfl (nb' rfl) rfl Zfn (hs1 (Zan hn))) ptn<|Zar<|ZaB<|?_
    exact cT' (()) (by trivial)
   have hc:¬(s1.size≠0∧Zht s1=45):=fun e=>hc1 e.2
   have f2:ZbD s1 t1=(sh,t2):=by unfold Zf3 at e2;rw[e1,if_neg hc] at e2;exact e2
   refine Zav<|mw<|mw<|ZaN mp (ZgL z1 f2 (ZaY hid)) (ZaJ hid) pt<|Vw (Zab lk)<|E' (Zai lk cv (hga (Zan hn) rfl) rfl (nb' rfl) rfl Zfn (hs1 (Zan hn))) ptn<|Zar<|ZaB<|?_
   exact cT' (()) (by trivial)
  have hc:¬(s1.size≠0∧Zht s1=45):=fun e=>e.1 (hem1.1 (Decidable.of_not_not hg12))
  have f2:ZbD s1 t1=(sh,t2):=by unfold Zf3 at e2;rw[e1,if_neg hc] at e2;exact e2
  refine s_no gt pt<|s_no gt pt<|s_no gt pt<|Vw (Zaj lk lkb)<|sn'<|ZaO lk<|Zav<|mw<|mw<|ZaN mp (ZgL z1 f2 (ZaY hid)) (ZaJ hid) pt<|Vw (Zab lk)<|E' (Zai lk cv (hga (Zan hn) rfl) rfl (nb' rfl) rfl Zfn (hs1 (Zan hn))) ptn<|Zar<|?_
  refine ZaB ?_
  exact cT' (()) (by trivial)
 rintro u hq5
 try simp only[sm',Nat.reduceAdd]
 refine wr'<|mw<|ZaN mp (Zc8 e3 (ZaY hid)) (ZaJ hid) pt<|mw<|sn'<|?_
 refine Zog (ι:=Unit) (fun (u:Unit)=>[]++rn' 29 28) (fun (u:Unit)=>h.set id (takE t4)++[.mk 0 63 10 eraZ,.mk 0 63 10 [iv sh,sv rl,iv sa,sv ⟨#[]⟩,bv false,iv 0,iv 0,iv 0,iv 0,iv 0]]) (fun (u:Unit)=>True) ?_ ?_
 ·try simp only[sm',Nat.reduceAdd]
  refine Zap<|wr'<|mw<|Vw (Zcp lk lks)<|mw<|sn'<|?_
  refine cd' lk (fun hc2=>?_) (fun hc2=>?_)
  ·have hq:sa=0∧rl=⟨#[]⟩∧t4=t3:=by rw[ZdZ,if_pos (show s3=bA [45] from hc2)] at e4;cases e4;exact⟨rfl,rfl,rfl⟩
   obtain⟨rfl,rfl,rfl⟩:=hq
   refine Zaf<|Zaz<|ZaB<|?_
   exact cT' (()) (by trivial)
  rw[ZdZ,if_neg (show ¬s3=bA [45] from hc2)] at e4
  have hbz:=Ze1 s3 0
  refine wr'<|mw<|Vw (ZcD lk lks)<|mw<|?_
  refine sp' (t:=43) gt pt pt (fun hg43=>?_) (fun hg43=>?_)
  ·have hn3:s3.size≠0:=fun e=>hg43 (hem3.2 e)
   refine s_do gt<|mw<|s_do gt<|?_
   refine V' (v_ix lk lki om om) pt ?_
   refine s_do gt<|Zad mp (Zd7 hbz.1 hbz.2) pt<|Vw (Zak lk lk)<|mw<|sn'<|?_
   refine Zaw lk (fun hc3=>?_) (fun hc3=>?_)
   ·have hc:s3.size≠0∧digB (Zht s3)=true:=⟨fun e=>hg43 (hem3.2 e),hc3⟩
    rw[if_pos hc] at e4
    refine Zam<|wr'<|mw<|Vw (Zcp lk lks)<|sn'<|?_
    refine cd' lk (fun hc4=>?_) (fun hc4=>?_)
    ·rw[if_pos (show s3=bA [48] from hc4)] at e4
     have hsp:ZbD s3 (bad t3)=(sa,t4):=by cases e4;rfl
     have hrl:rl=⟨#[]⟩:=by cases e4;rfl
     subst hrl
     refine Zav<|mw<|Vw (Zbp lk)<|Vw (Zab lk)<|E' (Zai lk (cvl lkb rfl) (ZaY hid) rfl (nb' rfl) rfl ZbM (ZaJ hid)) ptn<|sn'<|Zav<|mw<|mw<|ZaN mp (ZgL z3 hsp (ZaY hid)) (ZaJ hid) pt<|Vw (Zab lk)<|E' (Zai lk cv (hga (Zan hn) rfl) rfl (nb' rfl) rfl Zef (hs1 (Zan hn))) ptn<|Zar<|?_
     refine Zaz<|ZaB<|?_
     exact cT' (()) (by trivial)
    rw[if_neg (show ¬s3=bA [48] from hc4)] at e4
    have hsp:ZbD s3 t3=(sa,t4):=by cases e4;rfl
    have hrl:rl=⟨#[]⟩:=by cases e4;rfl
    subst hrl
    refine Zaf<|Zag<|Zav<|mw<|mw<|ZaN mp (ZgL z3 hsp (ZaY hid)) (ZaJ hid) pt<|Vw (Zab lk)<|E' (Zai lk cv (hga (Zan hn) rfl) rfl (nb' rfl) rfl Zef (hs1 (Zan hn))) ptn<|Zar<|Zaz<|ZaB<|?_
    exact cT' (()) (by trivial)
   have hc:¬(s3.size≠0∧digB (Zht s3)=true):=fun e=>by have:=e.2;rw[show digB (Zht s3)=false from hc3] at this;cases this
   refine Zam<|wr'<|mw<|?_
   rw[if_neg hc] at e4
   refine Zad mp (Zc4 (by unfold maxLen;omega)) pt ?_
   refine Vw (Zax lk)<|sn'<|?_
   refine Zaw lk (fun hc5=>?_) (fun hc5=>?_)
   ·have hnm:¬Zcu s3=true:=by simpa using hc5
    rw[if_neg hnm] at e4
    have hq:sa=0∧rl=s3∧t4=bad t3:=by cases e4;exact⟨rfl,rfl,rfl⟩
    obtain⟨rfl,rfl,rfl⟩:=hq
    refine Zav<|mw<|Vw (Zbp lk)<|Vw (Zab lk)<|E' (Zai lk (cvl lkb rfl) (ZaY hid) rfl (nb' rfl) rfl ZbM (ZaJ hid)) ptn<|sn'<|Zav<|mw<|Vw (Zab lk)<|E' (Zai lk cv (hga (Zan hn) rfl) rfl (nb' rfl) rfl ZbM (hs1 (Zan hn))) ptn<|Zar<|Zaz<|ZaB<|?_
    exact cT' (()) (by trivial)
   have hnm:Zcu s3=true:=by simpa using hc5
   rw[if_pos hnm] at e4
   have hq:sa=0∧rl=s3∧t4=t3:=by cases e4;exact⟨rfl,rfl,rfl⟩
   obtain⟨rfl,rfl,rfl⟩:=hq
   refine Zaf<|Zag<|Zav<|mw<|Vw (Zab lk)<|E' (Zai lk cv (hga (Zan hn) rfl) rfl (nb' rfl) rfl ZbM (hs1 (Zan hn))) ptn<|Zar<|Zaz<|ZaB<|?_
   exact cT' (()) (by trivial)
  have hc:¬(s3.size≠0∧digB (Zht s3)=true):=fun e=>e.1 (hem3.1 (Decidable.of_not_not hg43))
  refine s_no gt pt<|s_no gt pt<|s_no gt pt<|Vw (Zaj lk lkb)<|mw<|sn'<|ZaO lk<|Zam<|wr'<|mw<|?_
  rw[if_neg hc] at e4
  refine Zad mp (Zc4 (by unfold maxLen;omega)) pt ?_
  refine Vw (Zax lk)<|sn'<|?_
  refine Zaw lk (fun hc5=>?_) (fun hc5=>?_)
  ·have hnm:¬Zcu s3=true:=by simpa using hc5
   rw[if_neg hnm] at e4
   have hq:sa=0∧rl=s3∧t4=bad t3:=by cases e4;exact⟨rfl,rfl,rfl⟩
   obtain⟨rfl,rfl,rfl⟩:=hq
   refine Zav<|mw<|Vw (Zbp lk)<|Vw (Zab lk)<|E' (Zai lk (cvl lkb rfl) (ZaY hid) rfl (nb' rfl) rfl ZbM (ZaJ hid)) ptn<|sn'<|Zav<|mw<|Vw (Zab lk)<|E' (Zai lk cv (hga (Zan hn) rfl) rfl (nb' rfl) rfl ZbM (hs1 (Zan hn))) ptn<|Zar<|Zaz<|ZaB<|?_
   exact cT' (()) (by trivial)
  have hnm:Zcu s3=true:=by simpa using hc5
  rw[if_pos hnm] at e4
  have hq:sa=0∧rl=s3∧t4=t3:=by cases e4;exact⟨rfl,rfl,rfl⟩
  obtain⟨rfl,rfl,rfl⟩:=hq
  refine Zaf<|Zag<|Zav<|mw<|Vw (Zab lk)<|E' (Zai lk cv (hga (Zan hn) rfl) rfl (nb' rfl) rfl ZbM (hs1 (Zan hn))) ptn<|Zar<|Zaz<|ZaB<|?_
  exact cT' (()) (by trivial)
 rintro u hq13
 try simp only[sm',Nat.reduceAdd]
 refine wr'<|mw<|ZaN mp (Zc8 e5 (ZaY hid)) (ZaJ hid) pt<|Vw (Zab lk)<|E' (Zai lk cv (hga (Zan hn) rfl) rfl (nb' rfl) rfl Zj5 (hs1 (Zan hn))) ptn<|sn'<|?_
 refine Zog (ι:=Unit) (fun (u:Unit)=>[]++rn' 60 7) (fun (u:Unit)=>h.set id (takE t6)++[.mk 0 63 10 eraZ,.mk 0 63 10 [iv sh,sv rl,iv sa,sv fm,bv false,iv 0,iv 0,iv 0,iv 0,iv 0]]) (fun (u:Unit)=>True) ?_ ?_
 ·try simp only[sm',Nat.reduceAdd]
  refine wr'<|Vw (Zab lk)<|Vw (Zac lk (hga (Zan hn) rfl) gt3)<|?_
  refine Zad mp (ZfF (by unfold maxLen;omega)) pt ?_
  refine Vw (Zax lk)<|sn'<|?_
  refine Zaw lk (fun hc6=>?_) (fun hc6=>?_)
  ·have hq:t6=bad t5:=by rw[←e6,if_neg (by simpa using hc6)]
   subst hq
   refine Zav<|mw<|Vw (Zbp lk)<|Vw (Zab lk)<|E' (Zai lk (cvl lkb rfl) (ZaY hid) rfl (nb' rfl) rfl ZbM (ZaJ hid)) ptn<|Zar<|ZaB<|?_
   exact cT' (()) (by trivial)
  have hq:t6=t5:=by rw[←e6,if_pos (by simpa using hc6)]
  subst hq
  refine Zaf<|ZaB<|?_
  exact cT' (()) (by trivial)
 rintro u hq16
 try simp only[sm',Nat.reduceAdd]
 refine Zam<|wr'<|mw<|Vw (Zbp lk)<|Vw (Zab lk)<|Vw (Zac lk (ZaY hid) gt0)<|Vw (ZaL lk)<|Vw (ZaQ lk lki)<|sn'<|?_
 refine cd' lk (fun hc7=>?_) (fun hc7=>?_)
 ·have hE:tEnd t6=((true,untZ),t6):=by unfold tEnd;rw[if_pos (List.eq_nil_of_length_eq_zero om)]
  rw[hE] at hR
  refine wr'<|Vw (Zab lk)<|E' (Zai lk (cvl lkb rfl) (hga (Zan hn) rfl) rfl (nb' rfl) rfl ZqE (hs1 (Zan hn))) ptn<|sn'<|wr'<|Vw (Zao lk (hga (Zan hn) rfl) ZcY rfl)<|E' (Zai lk cv (hga (Zan hn) rfl) rfl (nb' rfl) rfl ZfS (hs0 (Zan hn))) ptn<|sn'<|Zaa<|Zah<|?_
  refine Zae (rs1 (rr_c gt (hga (Zan hn) rfl) (ld1 ZcY rfl))) ?_
  exact⟨_,_,rfl,Zan hn,ZbU hlt ZaK,rfl,by rw[hR] <;> rfl,by rw[hR] <;> rfl⟩
 have hE:tEnd t6=((false,(Zhf t6).1),(Zhf t6).2):=by unfold tEnd;rw[if_neg (by intro e;rw[e] at hc7;exact hc7 rfl)]
 rw[hE,hU] at hR
 refine Zaf<|Zag<|wr'<|mw<|mw<|ZaN mp (Zc8 e7 (ZaY hid)) (ZaJ hid) pt<|?_
 refine ZaN mp (Zoq om e8 (ZaY hid)) (ZaJ hid) pt ?_
 refine mw<|sn'<|wr'<|mw<|ZaN mp (Zor e9 (ZaY hid)) (ZaJ hid) pt<|mw<|sn'<|wr'<|mw<|mw<|?_
 refine ZaN mp (Zc8 e10 (ZaY hid)) (ZaJ hid) pt ?_
 refine ZaN mp (Zoq om e11 (ZaY hid)) (ZaJ hid) pt ?_
 refine mw<|sn'<|wr'<|mw<|mw<|mw<|Vw (Zau (Zk9 cv rfl cv rfl cv rfl))<|Vw (Zab lk)<|Vw (ZbK lk)<|E' (Zai lk cv (hga (Zan hn) rfl) rfl (nb' rfl) rfl ZqC (hs1 (Zan hn))) ptn<|sn'<|?_
 refine wr'<|mw<|ZaN mp (Zow (.inr rfl) o11 e12 (ZaY hid)) (ZaJ hid) pt<|mw<|Vw (ZaS lk gt)<|Vw (ZaS lk gt)<|Vw (Zab lk)<|Vw (ZbK lk)<|E' (Zai lk cv (hga (Zan hn) rfl) rfl (nb' rfl) rfl Zj4 (hs1 (Zan hn))) ptn<|Vw (Zab lk)<|Vw (ZbK lk)<|E' (Zai lk cv (hga (Zan hn) rfl) rfl (nb' rfl) rfl Zj3 (hs1 (Zan hn))) ptn<|Zar<|?_
 refine Zag<|Zam<|wr'<|Vw (Zab lk)<|Vw (ZbK lk)<|Vw (Zac lk (hga (Zan hn) rfl) gt9)<|Vw (ZaQ lk lki)<|sn'<|?_
 refine cd' lk (fun hc8=>?_) (fun hc8=>?_)
 ·rw[if_pos hc8] at hR
  refine Zav<|mw<|Vw (Zbp lk)<|Vw (Zab lk)<|E' (Zai lk (cvl lkb rfl) (ZaY hid) rfl (nb' rfl) rfl ZbM (ZaJ hid)) ptn<|sn'<|wr'<|Vw (Zao lk (hga (Zan hn) rfl) ZcY rfl)<|E' (Zai lk cv (hga (Zan hn) rfl) rfl (nb' rfl) rfl ZfS (hs0 (Zan hn))) ptn<|sn'<|Zaa<|?_
  refine Zae (rs1 (rr_c gt (hga (Zan hn) rfl) (ld1 ZcY rfl))) ?_
  exact⟨_,_,rfl,Zan hn,ZbU hlt ZaK,rfl,by rw[hR] <;> rfl,by rw[hR] <;> rfl⟩
 rw[if_neg hc8] at hR
 refine Zaf<|Zag<|wr'<|Vw (Zao lk (hga (Zan hn) rfl) ZcY rfl)<|E' (Zai lk cv (hga (Zan hn) rfl) rfl (nb' rfl) rfl ZfS (hs0 (Zan hn))) ptn<|sn'<|Zaa<|Zae (rs1 (rr_c gt (hga (Zan hn) rfl) (ld1 ZcY rfl)))<|?_
 exact⟨_,_,rfl,Zan hn,ZbU hlt ZaK,rfl,by rw[hR] <;> rfl,by rw[hR] <;> rfl⟩
end Go.Proofs.YtlekejpogddndaaGreatDoor
end
section
namespace Go.Proofs.YtlekejpogddndaaGreatDoor
open Go.Ab
theorem ZrT (s:ByteArray):ZbG s=if (ZbX s).2.2≠0 then (srcZ,(ZbX s).2.1,(ZbX s).2.2) else outP (ZbX s).1:=rfl
end Go.Proofs.YtlekejpogddndaaGreatDoor
end
section
namespace Go.Proofs.YtlekejpogddndaaGreatDoor
open Go.Ab Go.RowKit
def badN (n:Int):Bool:=!plnN n||decide (n=34)
def ZfA (f:ByteArray):Int:=if (aB f).any (fun c=>badN c.toNat)=true then 1 else if 24<f.size then 2 else 0
def ZjG:List ByteArray→Int
 | []=>0
 | f::fs=>if ZfA f≠0 then ZfA f else ZjG fs
def ZpK (fs:List ByteArray):Int:=if fs.length=0 then 1 else if 12<fs.length then 2 else ZjG fs
end Go.Proofs.YtlekejpogddndaaGreatDoor
end
section
namespace Go.Proofs.YtlekejpogddndaaGreatDoor
open Go.Ab
theorem Zkw {p:Int→Bool} : ∀ {l:Bs}{n:Nat},runL p l=some n → ∀ c∈l.take n,p c.toNat=true∧plnN c.toNat=true
 | [],n,h,c,hc=>by simp at hc
 | x::l,n,h,c,hc=>by
  unfold runL at h
  split at h
  ·rename_i hp
   split at h
   ·rename_i hq
    rw[Option.map_eq_some_iff] at h
    obtain⟨m,hm,rfl⟩:=h
    rw[List.take_succ_cons] at hc
    rcases List.mem_cons.1 hc with rfl | hc
    ·exact⟨hp,hq⟩
    ·exact Zkw hm c hc
   ·cases h
  ·cases h;simp at hc
theorem Zpf {n:Int}:badN n=false↔plnN n=true∧n≠34:=by
 unfold badN;simp
theorem Znt {l:Bs}{x:Nat×Nat×Nat}(h:ZcQ l=some x) : ∀ c∈(l.drop x.1).take x.2.1,badN c.toNat=false:=by
 cases l with
 | nil=>cases h
 | cons c l =>
  by_cases hc:(c.toNat:Int)=34
  ·rw[ZcQ,if_pos hc] at h
   cases hr:runL quoP l with
   | none=>rw[hr] at h;cases h
   | some n =>
    have:=Zkw hr
    rw[hr] at h
    simp only at h
    split at h
    ·cases h
    ·split at h
     ·cases h
     ·cases h
      intro y hy
      have:=this y (by simpa using hy)
      exact Zpf.2 ⟨this.2,by have:=this.1;unfold quoP at this;simpa using this⟩
  ·rw[ZcQ,if_neg hc] at h
   cases hr:runL fldP (c::l) with
   | none=>rw[hr] at h;cases h
   | some n =>
    have:=Zkw hr
    rw[hr] at h
    simp only at h
    split at h
    ·cases h
    ·cases h
     intro y hy
     have:=this y (by simpa using hy)
     exact Zpf.2 ⟨this.2,by have:=this.1;unfold fldP at this;simp at this;exact this.2⟩
theorem Znu {f:ByteArray}(h1 : ∀ c∈aB f,badN c.toNat=false) (h2:f.size≤24):ZfA f=0:=by
 unfold ZfA
 rw[if_neg,if_neg om]
 rw[List.any_eq_true]
 rintro⟨c,hc,hb⟩
 rw[h1 c hc] at hb;cases hb
theorem ZpT {f:ByteArray}(h:ZfA f=0):(∀ c∈aB f,badN c.toNat=false)∧f.size≤24:=by
 unfold ZfA at h
 split at h
 ·cases h
 ·rename_i h1
  split at h
  ·cases h
  ·refine⟨fun c hc=>?_,by omega⟩
   cases hb:badN c.toNat
   ·rfl
   ·exact absurd (List.any_eq_true.2 ⟨c,hc,hb⟩) h1
theorem ZjD : ∀ {k:Nat}{acc:List ByteArray}{l:Bs},(∀ f∈acc,ZfA f=0)→acc.length≤12→(Zi6 k acc l).2=0→(∀ f∈(Zi6 k acc l).1,ZfA f=0)∧(Zi6 k acc l).1.length≤12
 | 0,acc,l,h1,h2,_=>⟨h1,h2⟩
 | k+1,acc,l,h1,h2,h3=>by
  rw[Zi6] at h3 ⊢
  split at h3
  ·rename_i hm
   rw[if_pos hm]
   split at h3
   ·cases h3
   ·rename_i x hx
    split at h3
    ·cases h3
    ·rename_i hn
     rw[if_neg hn]
     refine ZjD (fun f hf=>?_) (by simp;omega) h3
     rcases List.mem_append.1 hf with hf | hf
     ·exact h1 f hf
     ·rw[List.mem_singleton] at hf
      subst hf
      refine Znu (fun c hc=>Znt hx c hc) ?_
      unfold cutF
      rw[Zdd,List.length_take];omega
  ·rename_i hm
   rw[if_neg hm]
   exact⟨h1,h2⟩
theorem ZpJ {x:Bs}(h:(ZdK x).2=0) (hne:(ZdK x).1≠[]):ZpK (ZdK x).1=0:=by
 obtain⟨h1,h2⟩:=ZjD (k:=13) (acc:=[]) (l:=x) (fun f hf=>by simp at hf) (by simp) h
 unfold ZpK
 have:0<(ZdK x).1.length:=List.length_pos_iff.2 hne
 rw[if_neg om,if_neg (by show ¬12<(Zi6 13 [] x).1.length;omega)]
 have : ∀ {fs:List ByteArray},(∀ f∈fs,ZfA f=0)→ZjG fs=0:=by
  intro fs
  induction fs with
  | nil=>intro _;rfl
  | cons f fs ih =>
   intro h
   rw[ZjG,if_neg (by rw[h f (by simp)];simp)]
   exact ih fun g hg=>h g (by simp[hg])
 exact this h1
theorem Zjw : ∀ {n:Int}{l:List Bs}{acc:List Ln},(Zcq n l acc).2.2≠0→(Zcq n l acc).1=[]
 | n,[],acc,h=>absurd rfl h
 | n,x::xs,acc,h=>by
  rw[Zcq] at h ⊢
  split at h
  ·rename_i h1;rw[if_pos h1]
  ·rename_i h1;rw[if_neg h1];exact Zjw h
theorem Zio : ∀ {n:Int}{l:List Bs}{acc:List Ln},(∀ x∈acc,ZpK x.2.2=0) → ∀ x∈(Zcq n l acc).1,ZpK x.2.2=0
 | n,[],acc,h=>h
 | n,y::ys,acc,h=>by
  rw[Zcq]
  split
  ·intro x hx;simp at hx
  ·rename_i h1
   refine Zio fun x hx=>?_
   split at hx
   ·exact h x hx
   ·rename_i h2
    rcases List.mem_append.1 hx with hx | hx
    ·exact h x hx
    ·rw[List.mem_singleton] at hx
     subst hx
     exact ZpJ (Decidable.of_not_not h1) h2
theorem Zm0 {s:ByteArray} : ∀ x∈(ZbX s).1,ZpK x.2.2=0:=by
 have:=Zio (n:=1) (l:=cutC 10 (aB s)) (acc:=[]) (fun x hx=>by simp at hx)
 unfold ZbX
 split
 ·intro x hx;simp at hx
 ·split
  ·exact this
  ·split
   ·intro x hx;simp at hx
   ·exact this
end Go.Proofs.YtlekejpogddndaaGreatDoor
end
section
namespace Go.Proofs.YtlekejpogddndaaGreatDoor
open Go.Ab Go.RowKit Civ
def PT {α:Type}(f:TS→α×TS) (P:α→Prop):Prop := ∀ t,okTS t→P (f t).1∧okTS (f t).2
theorem PT.bind {α β:Type}{f:TS→α×TS}{k:α→TS→β×TS}{P:α→Prop}{Q:β→Prop}(h:PT f P) (hk : ∀ a,P a→PT (k a) Q):PT (ZbY f k) Q:=fun t ho=>hk _ (h t ho).1 _ (h t ho).2
theorem PT.ret {α:Type}{P:α→Prop}{a:α}(h:P a):PT (ret2 a) P:=fun t ho=>⟨h,ho⟩
theorem pt_next:PT ZaP (fun s=>s.size≤24):=fun t ho=>Za9 ho rfl
theorem pt_name:PT ZeP (fun s=>s.size≤24):=fun t ho=>⟨(Za9 ho (s:=(ZaP t).1) (u:=(ZaP t).2) rfl).1,Zgf ho rfl⟩
theorem pt_num (s:ByteArray) (a b:Int):PT (tNum s a b) (fun _=>True):=fun t ho=>⟨trivial,ZhG ho rfl⟩
theorem pt_year:PT Zrj (fun _=>True):=pt_next.bind (k:=fun s=>tNum s 4 4) fun s _=>pt_num s 4 4
theorem pt_day:PT tDay (fun _=>True):=pt_next.bind (k:=fun s=>tNum s 1 2) fun s _=>pt_num s 1 2
theorem pt_to (f:Int):PT (tToN f) (fun _=>True):=pt_next.bind (k:=tTo f) fun s _=>fun t ho=>⟨trivial,ZrX ho rfl⟩
theorem pt_month:PT ZdB (fun _=>True):=fun t ho=>⟨trivial,ZgR ho rfl⟩
theorem pt_form:PT ZgO (fun _=>True):=fun t ho=>⟨trivial,ZlQ ho rfl⟩
theorem ZoC (d:Int):PT (Zc3 d) (fun _=>True):=fun t ho=>⟨trivial,ZgS ho rfl⟩
theorem pt_span:PT Zrl (fun _=>True):=pt_next.bind (k:=ZbD) fun s _=>fun t ho=>⟨trivial,Zij ho rfl⟩
theorem pt_letter:PT Zc9 (fun s=>s.size≤24):=by
 intro t ho
 have h:=Za9 ho (s:=(ZaP t).1) (u:=(ZaP t).2) rfl
 unfold Zc9
 refine⟨?_,?_⟩
 ·dsimp only;split
  ·decide
  ·exact h.1
 ·dsimp only;split
  ·exact h.2
  ·exact h.2
def okRul (r:Rul):Prop:=r.1.size≤maxLen∧r.2.2.2.2.2.2.2.2.size≤maxLen
theorem Zip {n:Nat}(h:n≤24):n≤maxLen:=by unfold maxLen;omega
theorem pt_rule:PT Zkm okRul :=
 pt_name.bind fun nm h1=>pt_year.bind fun f _=>(pt_to f).bind fun _ _=>pt_month.bind fun m _=>pt_form.bind fun k _=>(ZoC 1).bind fun c _=>pt_span.bind fun sv _=>pt_letter.bind fun l h2=>PT.ret ⟨Zip h1,Zip h2⟩
theorem pt_shift:PT Zf3 (fun _=>True):=fun t ho=>⟨trivial,Zjs ho rfl⟩
theorem pt_rules:PT Zrm (fun p=>p.2.size≤24):=by
 refine pt_next.bind (k:=ZdZ) fun s hs t ho=>⟨?_,Zjt ho rfl⟩
 unfold ZdZ
 split
 ·exact Nat.zero_le 24
 ·split
  ·exact Nat.zero_le 24
  ·exact hs
theorem pt_format:PT Zh2 (fun s=>s.size≤24):=by
 intro t ho
 have h:=Za9 ho (s:=(ZaP t).1) (u:=(ZaP t).2) rfl
 unfold Zh2
 refine⟨h.1,?_⟩
 dsimp only;split
 ·exact h.2
 ·exact h.2
theorem pt_until:PT Zhf (fun _=>True) :=
 pt_year.bind fun y _=>pt_month.bind fun m _=>pt_day.bind fun d _=>(ZoC 2).bind fun c _=>PT.bind (P:=fun _=>True) (fun t ho=>⟨trivial,by unfold Zrk;dsimp only;split <;> exact ho⟩) fun _ _=>PT.ret trivial
theorem pt_end:PT tEnd (fun _=>True):=by
 intro t ho
 refine⟨trivial,?_⟩
 unfold tEnd
 split
 ·exact ho
 ·exact (pt_until t ho).2
theorem pt_era:PT tEra ZrY :=
 pt_shift.bind fun sh _=>pt_rules.bind fun r h1=>pt_format.bind fun f h2=>pt_end.bind fun u _=>PT.ret ⟨Zip h1,Zip h2⟩
theorem ZlR {s:Src}{x:Era}(h:ZeL s) (hx:ZrY x):ZeL (Zcy s x).1:=by
 refine⟨h.1,?_,h.2.2⟩
 show ∀ z∈Zpi s.2.1 x,_
 obtain⟨a,z,l⟩:=s
 have h2:=h.2.1
 simp only at h2 ⊢
 rcases List.eq_nil_or_concat z with rfl | ⟨i,y,rfl⟩
 ·intro z hz;cases hz
 ·rw[List.concat_eq_append,ZfO]
  intro z hz
  rcases List.mem_append.1 hz with hz | hz
  ·exact h2 z (by rw[List.concat_eq_append];exact List.mem_append_left _ hz)
  ·rw[List.mem_singleton] at hz
   subst hz
   have hy:=h2 y (by rw[List.concat_eq_append];simp)
   refine⟨hy.1,fun e he=>?_⟩
   rcases List.mem_append.1 he with he | he
   ·exact hy.2 e he
   ·rw[List.mem_singleton] at he;subst he;exact hx
theorem pt_body {p:PS}(h:ZeL p.1):PT (Zez p) (fun q=>ZeL q.1):=by
 unfold Zez
 split
 ·exact pt_era.bind fun x hx=>PT.ret (ZlR h hx)
 ·refine pt_next.bind fun w _=>?_
  split
  ·refine pt_rule.bind fun r hr=>PT.ret ⟨fun y hy=>?_,h.2.1,h.2.2⟩
   rcases List.mem_append.1 hy with hy | hy
   ·exact h.1 y hy
   ·rw[List.mem_singleton] at hy;subst hy;exact hr
  ·split
   ·refine pt_name.bind fun n hn=>pt_era.bind fun x hx=>PT.ret (ZlR ⟨h.1,fun y hy=>?_,h.2.2⟩ hx)
    rcases List.mem_append.1 hy with hy | hy
    ·exact h.2.1 y hy
    ·rw[List.mem_singleton] at hy;subst hy;exact⟨Zip hn,fun e he=>by cases he⟩
   ·split
    ·refine pt_name.bind fun a ha=>pt_name.bind fun b hb=>PT.ret ⟨h.1,h.2.1,fun y hy=>?_⟩
     rcases List.mem_append.1 hy with hy | hy
     ·exact h.2.2 y hy
     ·rw[List.mem_singleton] at hy;subst hy;exact⟨Zip ha,Zip hb⟩
    ·exact fun t ho=>⟨h,ho⟩
theorem Za6 {p q:PS}{x:Ln}{u:TS}(hB:Zez p (x.2.2,false)=(q,u)) (h:u.2=true∨u.1≠[]∨x.2.1≠p.2):Zl1 p x=none:=Zsi (by unfold badT;rw[hB];exact h)
theorem Zdq {p q:PS}{x:Ln}{u:TS}(hB:Zez p (x.2.2,false)=(q,u)) (h1:u.2=false) (h2:u.1=[]) (h3:x.2.1=p.2):Zl1 p x=some q:=by
 have:=lineR_ok (p:=p) (x:=x) (by unfold badT;rw[hB];simp[h1,h2,h3])
 rw[this,hB]
def curS (s:Src) (o:Option Zon):Src:=(s.1,s.2.1++o.toList,s.2.2)
theorem ZeV {s:Src}:curS s none=s:=by unfold curS;simp
def zC (N v:Nat):Option Zon→List AV
 | none=>[]
 | some z=>[sv z.1,.own (N+5) v z.2.length]
def eC:Option Zon→List Era
 | none=>[]
 | some z=>z.2
theorem Zsb {n:Nat}{b:List AV}(hb:AV.ltL n b=true) : ∀ {a:List AV},AV.ltL n a=true→AV.ltL n (a++b)=true
 | [],_=>hb
 | x::a,h=>by
  simp only[List.cons_append,AV.ltL,Bool.and_eq_true] at h ⊢
  exact⟨h.1,Zsb hb h.2⟩
theorem ZgI {N v:Nat}{l:List Zon}{o:Option Zon}:AV.ltL (N+6) (rows zonC l++zC N v o)=true:=by
 refine Zsb ?_ (Zbo l)
 cases o <;> simp[zC,AV.ltL,AV.lt]
theorem Zld {N v:Nat}{l:List Zon}{o:Option Zon}:(rows zonC l++zC N v o).length=(l.length+o.toList.length)*2:=by
 rw[List.length_append,ZgH]
 cases o <;> simp[zC] <;> omega
theorem zc_at {l:List Zon}{a b:AV}{off:Nat}(h:off=l.length*2+1):(rows zonC l++[a,b])[off]?=some b:=by
 subst h
 rw[List.getElem?_append_right (by rw[ZgH];omega),ZgH,Nat.add_sub_cancel_left];rfl
theorem zc_set {l:List Zon}{a b c:AV}{off:Nat}(h:off=l.length*2+1):setCells (rows zonC l++[a,b]) off [c]=rows zonC l++[a,c]:=by
 subst h
 simp only[setCells]
 rw[List.set_append_right _ _ (by rw[ZgH];omega),ZgH,Nat.add_sub_cancel_left];rfl
theorem zc_put {l:List Zon}{a b c:AV}:aPut (rows zonC l++[a,b]) (some (l.length*2+1)) c=rows zonC l++[a,c]:=zc_set rfl
theorem zc_at2 {l:List Zon}{N v:Nat}{a b:AV}{off:Nat}(h:off=l.length*2+1):(rows zonC l++zC N v none++[a,b])[off]?=some b:=by
 rw[show rows zonC l++zC N v none=rows zonC l from List.append_nil _];exact zc_at h
theorem zc_put2 {l:List Zon}{N v:Nat}{a b c:AV}:aPut (rows zonC l++zC N v none++[a,b]) (some (l.length*2+1)) c=rows zonC l++[a,c]:=by
 rw[show rows zonC l++zC N v none=rows zonC l from List.append_nil _];exact zc_put
theorem Zlx {s:ByteArray} : ∀ x∈(ZbX s).1,∀ f∈x.2.2,f.size≤24:=by
 intro x hx f hf
 have h:=Zm0 x hx
 unfold ZpK at h
 split at h
 ·cases h
 ·split at h
  ·cases h
  ·have : ∀ {fs:List ByteArray},ZjG fs=0 → ∀ f∈fs,ZfA f=0:=by
    intro fs
    induction fs with
    | nil=>intro _ f hf;cases hf
    | cons g fs ih =>
     intro h f hf
     rw[ZjG] at h
     split at h
     ·rename_i h1;exact absurd h h1
     ·rename_i h1
      rcases List.mem_cons.1 hf with rfl | hf
      ·exact Decidable.of_not_not h1
      ·exact ih h f hf
   exact (ZpT (this h f hf)).2
theorem Zrp {s:ByteArray}:(ZbX s).1.length≤200:=by
 unfold ZbX
 split
 ·simp
 ·split
  ·rename_i h2;rw[Zjw h2];simp
  ·split
   ·simp
   ·omega
end Go.Proofs.YtlekejpogddndaaGreatDoor
end
section
namespace Go.Proofs.YtlekejpogddndaaGreatDoor
open Go.Ab Go.RowKit Civ
attribute [local simp] Zbh Zbr Zbo Zbq ZbS ZfI ZgI
section
theorem ZiT {τ:Operand→AV}:Zas τ [] [(.sl 0 0 true []),(.sl 0 0 true []),(.sl 0 0 true [])]=some [(.sl 0 0 true []),(.sl 0 0 true []),(.sl 0 0 true [])]:=rfl
theorem ZaT {a0 a1 a2 c0 c1 c2:AV}{l:List AV}:setCells (a0::a1::a2::l) 0 [c0,c1,c2]=c0::c1::c2::l:=rfl
theorem ZaR {a0 a1 a2:AV}{l:List AV}:((a0::a1::a2::l).drop 0).take 3=[a0,a1,a2]:=rfl
theorem ZiS {τ:Operand→AV}{y0:Operand}{x0_0:AV}(h0:Zat (τ y0)=some [x0_0]) (l0:[x0_0].all leaf=true):Zas τ [(0,1,y0)] [(.sl 0 0 true []),(.v (.bool false))]=some [x0_0,(.v (.bool false))]:=by
 simp only[Zas,h0,l0]
 rfl
theorem Zj1 {a0 a1 c0 c1:AV}{l:List AV}:setCells (a0::a1::l) 0 [c0,c1]=c0::c1::l:=rfl
theorem ZiQ {τ:Operand→AV}{y0:Operand}{x0_0 x0_1 x0_2 x0_3 x0_4 x0_5 x0_6 x0_7 x0_8 x0_9 x0_10:AV}(h0:Zat (τ y0)=some [x0_0,x0_1,x0_2,x0_3,x0_4,x0_5,x0_6,x0_7,x0_8,x0_9,x0_10]) (l0:[x0_0,x0_1,x0_2,x0_3,x0_4,x0_5,x0_6,x0_7,x0_8,x0_9,x0_10].all leaf=true):Zas τ [(0,11,y0)] [(.v (.string ⟨#[]⟩)),(.v (.int .i64 0)),(.v (.int .i64 0)),(.v (.int .i64 0)),(.v (.int .i64 0)),(.v (.int .i64 0)),(.v (.int .i64 0)),(.v (.int .i64 0)),(.v (.int .i64 0)),(.v (.int .i64 0)),(.v (.string ⟨#[]⟩))]=some [x0_0,x0_1,x0_2,x0_3,x0_4,x0_5,x0_6,x0_7,x0_8,x0_9,x0_10]:=by
 simp only[Zas,h0,l0]
 rfl
theorem Zqy {a0 a1 a2 a3 a4 a5 a6 a7 a8 a9 a10:AV}{l:List AV}:(a0::a1::a2::a3::a4::a5::a6::a7::a8::a9::a10::l).take 11=[a0,a1,a2,a3,a4,a5,a6,a7,a8,a9,a10]:=rfl
theorem Zj2 {a0 c0:AV}{l:List AV}:setCells (a0::l) 0 [c0]=c0::l:=rfl
theorem ZaE {τ:Operand→AV}:Zas τ [] [(.sl 0 0 true []),(.sl 0 0 true []),(.sl 0 0 true [])]=some [(.sl 0 0 true []),(.sl 0 0 true []),(.sl 0 0 true [])]:=rfl
theorem ZiP {τ:Operand→AV}{y0:Operand}{x0_0:AV}(h0:Zat (τ y0)=some [x0_0]) (l0:[x0_0].all leaf=true):Zas τ [(0,1,y0)] [(.v (.string ⟨#[]⟩)),(.sl 0 0 true [])]=some [x0_0,(.sl 0 0 true [])]:=by
 simp only[Zas,h0,l0]
 rfl
theorem ZiN {a0 a1 a2 a3 a4 a5 a6 a7 a8 a9 c0 c1 c2 c3 c4 c5 c6 c7 c8 c9:AV}{l:List AV}:setCells (a0::a1::a2::a3::a4::a5::a6::a7::a8::a9::l) 0 [c0,c1,c2,c3,c4,c5,c6,c7,c8,c9]=c0::c1::c2::c3::c4::c5::c6::c7::c8::c9::l:=rfl
theorem ZiM {a0 a1 a2 a3 a4 a5 a6 a7 a8 a9:AV}{l:List AV}:((a0::a1::a2::a3::a4::a5::a6::a7::a8::a9::l).drop 0).take 10=[a0,a1,a2,a3,a4,a5,a6,a7,a8,a9]:=rfl
theorem ZiO {τ:Operand→AV}{y0:Operand}{x0_0 x0_1 x0_2 x0_3 x0_4 x0_5 x0_6 x0_7 x0_8 x0_9:AV}(h0:Zat (τ y0)=some [x0_0,x0_1,x0_2,x0_3,x0_4,x0_5,x0_6,x0_7,x0_8,x0_9]) (l0:[x0_0,x0_1,x0_2,x0_3,x0_4,x0_5,x0_6,x0_7,x0_8,x0_9].all leaf=true):Zas τ [(0,10,y0)] [(.v (.int .i64 0)),(.v (.string ⟨#[]⟩)),(.v (.int .i64 0)),(.v (.string ⟨#[]⟩)),(.v (.bool false)),(.v (.int .i64 0)),(.v (.int .i64 0)),(.v (.int .i64 0)),(.v (.int .i64 0)),(.v (.int .i64 0))]=some [x0_0,x0_1,x0_2,x0_3,x0_4,x0_5,x0_6,x0_7,x0_8,x0_9]:=by
 simp only[Zas,h0,l0]
 rfl
theorem ZjZ {a0 a1 a2 a3 a4 a5 a6 a7 a8 a9:AV}{l:List AV}:(a0::a1::a2::a3::a4::a5::a6::a7::a8::a9::l).take 10=[a0,a1,a2,a3,a4,a5,a6,a7,a8,a9]:=rfl
theorem Zfm {a0 a1 c0:AV}{l:List AV}:setCells (a0::a1::l) 1 [c0]=a0::c0::l:=rfl
theorem Zj0 {a0 a1:AV}{l:List AV}:((a0::a1::l).drop 0).take 2=[a0,a1]:=rfl
theorem ZhA {τ:Operand→AV}{y0:Operand}{x0_0 x0_1:AV}(h0:Zat (τ y0)=some [x0_0,x0_1]) (l0:[x0_0,x0_1].all leaf=true):Zas τ [(0,2,y0)] [(.v (.string ⟨#[]⟩)),(.sl 0 0 true [])]=some [x0_0,x0_1]:=by
 simp only[Zas,h0,l0]
 rfl
theorem Ztn {h:AH}{n:Nat}(hn:h.length=n) {e0 e1 e2 e3 e4 e5 e6 e7 e8 e9:Ent}:(h++[e0,e1,e2,e3,e4,e5,e6,e7,e8,e9]).length=n+10:=by subst hn;simp
theorem Zto {h:AH}{e0 e1 e2 e3 e4 e5 e6 e7 e8 e9 e:Ent}:(h++[e0,e1,e2,e3,e4,e5,e6,e7,e8,e9])++[e]=h++[e0,e1,e2,e3,e4,e5,e6,e7,e8,e9,e]:=by simp
theorem ZmA {a0 a1:AV}{l:List AV}:(a0::a1::l).take 2=[a0,a1]:=rfl
theorem Zhz {τ:Operand→AV}{y0:Operand}{x0_0 x0_1:AV}(h0:Zat (τ y0)=some [x0_0,x0_1]) (l0:[x0_0,x0_1].all leaf=true):Zas τ [(0,2,y0)] [(.v (.string ⟨#[]⟩)),(.v (.string ⟨#[]⟩))]=some [x0_0,x0_1]:=by
 simp only[Zas,h0,l0]
 rfl
theorem Zqz {a0 a1 a2 c0:AV}{l:List AV}:setCells (a0::a1::a2::l) 2 [c0]=a0::a1::c0::l:=rfl
theorem ZiR {τ:Operand→AV}{y0:Operand}{x0_0 x0_1 x0_2 x0_3 x0_4 x0_5 x0_6 x0_7 x0_8 x0_9:AV}(h0:Zat (τ y0)=some [x0_0,x0_1,x0_2,x0_3,x0_4,x0_5,x0_6,x0_7,x0_8,x0_9]) (l0:[x0_0,x0_1,x0_2,x0_3,x0_4,x0_5,x0_6,x0_7,x0_8,x0_9].all leaf=true):Zas τ [(0,10,y0)] [(.v (.int .i64 0)),(.v (.string ⟨#[]⟩)),(.v (.int .i64 0)),(.v (.string ⟨#[]⟩)),(.v (.bool false)),(.v (.int .i64 0)),(.v (.int .i64 0)),(.v (.int .i64 0)),(.v (.int .i64 0)),(.v (.int .i64 0))]=some [x0_0,x0_1,x0_2,x0_3,x0_4,x0_5,x0_6,x0_7,x0_8,x0_9]:=by
 simp only[Zas,h0,l0]
 rfl
theorem Ztm { e:Ent}:([]:AH)++[e]=[e]:=rfl
theorem ZqA {e0 e1 e2 e3 e4 e5 e6 e7 d0:Ent}:([e0,e1,e2,e3,e4,e5,e6,e7]:AH)++[d0]=[e0,e1,e2,e3,e4,e5,e6,e7,d0]:=rfl
theorem Zhy {τ:Operand→AV}:Zas τ [] [(.sl 0 0 true []),(.sl 0 0 true []),(.sl 0 0 true [])]=some [(.sl 0 0 true []),(.sl 0 0 true []),(.sl 0 0 true [])]:=rfl
theorem Zhx {τ:Operand→AV}:Zas τ [] [(.sl 0 0 true []),(.sl 0 0 true []),(.sl 0 0 true [])]=some [(.sl 0 0 true []),(.sl 0 0 true []),(.sl 0 0 true [])]:=rfl
end
def c130:AC:=(Sr [Oo 2 (.new 26 3 [(.sl 0 0 true []),(.sl 0 0 true []),(.sl 0 0 true [])]),Mc 3 0,Mc 4 0] (Sr [Mv 20 0,Cl 21 199 [(.tmp 20)],Mv 19 21,Ex 22 19 0,Ex 23 19 1,Ex 24 19 2,Mv 5 22,Mv 6 23,Mv 7 24] (.seq (Sr [Mv 25 7,Bc 26 .neq 25 0] (Cd 26 (Sr [Oo 27 (.build [(.sl 0 0 true []),(.sl 0 0 true []),(.sl 0 0 true [])] []),Mv 28 6,Mv 29 7,⟨none,none,(.store 3 (.tmp 2) (.tmp 27))⟩,Mv 3 28,Mv 4 29] .ret) .skip)) (Sr [Oo 8 (.new 26 3 [(.sl 0 0 true []),(.sl 0 0 true []),(.sl 0 0 true [])])] (Sr [Mb 9 false] (.seq (Sr [Mc 10 0] (.block 0 (.loop (.seq (Sr [Mv 30 10,Mv 31 5,Oo 32 (.len false (.tmp 31)),Bn 33 .lss 30 32] (Cd 33 .skip (.exit 0))) (.seq (.block 1 (Sr [Mv 36 5,Mv 37 10,Oo 38 (.ia 3 (.tmp 36) (.tmp 37)),Fa 39 2 38,Ld 40 39,Oo 41 (.build [(.sl 0 0 true []),(.v (.bool false))] [(0,(1,(.tmp 40)))]),Oo 11 (.new 250 2 [(.sl 0 0 true []),(.v (.bool false))]),⟨none,none,(.store 2 (.tmp 11) (.tmp 41))⟩] (Sr [Mv 42 9,Mv 12 42] (Sr [Ms 13] (.seq (Sr [Mv 43 9,Oo 44 (.un .not (.tmp 43))] (Cd 44 (.reg [Cl 45 200 [(.tmp 11)],Mv 13 45]) .skip)) (.seq (.block 2 (Sr [Mv 48 9,Mv 47 48] (Cd 47 (Sr [Fa 49 1 8,Ld 50 49,Oo 51 (.len false (.tmp 50)),Bc 52 .sub 51 1,Mv 14 52] (Sr [Cl 53 201 [(.tmp 11)],Oo 15 (.new 63 10 [(iv 0),Ss,(iv 0),Ss,(.v (.bool false)),(iv 0),(iv 0),(iv 0),(iv 0),(iv 0)]),⟨none,none,(.store 10 (.tmp 15) (.tmp 53))⟩] (.seq (.drw [Fa 54 1 8,Oo 55 (.loadR false 1 (.tmp 54)),Mv 56 14,Fa 57 1 8,Ld 58 57,Mv 59 14,Oo 60 (.ia 2 (.tmp 58) (.tmp 59)),Fa 61 1 60,Ld 62 61,Oo 63 (.load true 10 (.tmp 15)),Oo 64 (.lit 63 10 1 [(iv 0),Ss,(iv 0),Ss,(.v (.bool false)),(iv 0),(iv 0),(iv 0),(iv 0),(iv 0)] [(0,(10,(.tmp 63)))])] [true,false,false,false] [Oo 65 (.app 63 10 96 (.tmp 62) (.tmp 64)),Oo 66 (.ia 2 (.tmp 55) (.tmp 56)),Fa 67 1 66,Sc 67 65]) (.reg [Fa 68 4 15,Ld 69 68,Oo 70 (.un .not (.tmp 69)),Mv 9 70])))) (Sr [Mv 72 13,Oo 73 (.bin .eql (.tmp 72) (.const (.string ⟨#[82,117,108,101]⟩))),Mv 71 73] (Cd 71 (.orPan (.drw [Fa 74 0 8,Oo 75 (.loadR false 1 (.tmp 74))] [true,true,false,false,false] [Cl 76 202 [(.tmp 11)],Oo 77 (.lit 36 11 1 [Ss,(iv 0),(iv 0),(iv 0),(iv 0),(iv 0),(iv 0),(iv 0),(iv 0),(iv 0),Ss] [(0,(11,(.tmp 76)))]),Oo 78 (.app 36 11 104 (.tmp 75) (.tmp 77)),Fa 79 0 8,Sc 79 78]) (.tmp 11) 202 [Fa 74 0 8,Ld 75 74,Mv 76 11,Mb 77 false,Mb 78 false,Mb 79 false,⟨none,none,(.mv (.const (.bool false)))⟩] 76) (Sr [Mv 81 13,Oo 82 (.bin .eql (.tmp 81) (.const (.string ⟨#[90,111,110,101]⟩))),Mv 80 82] (Cd 80 (Sr [Cl 83 203 [(.tmp 11)],Oo 84 (.build [Ss,(.sl 0 0 true [])] [(0,(1,(.tmp 83)))]),Oo 16 (.new 53 2 [Ss,(.sl 0 0 true [])]),⟨none,none,(.store 2 (.tmp 16) (.tmp 84))⟩] (Sr [Cl 85 201 [(.tmp 11)],Oo 17 (.new 63 10 [(iv 0),Ss,(iv 0),Ss,(.v (.bool false)),(iv 0),(iv 0),(iv 0),(iv 0),(iv 0)]),⟨none,none,(.store 10 (.tmp 17) (.tmp 85))⟩] (Sr [Fa 86 1 16,Ld 87 86,Oo 88 (.load true 10 (.tmp 17)),Oo 89 (.lit 63 10 1 [(iv 0),Ss,(iv 0),Ss,(.v (.bool false)),(iv 0),(iv 0),(iv 0),(iv 0),(iv 0)] [(0,(10,(.tmp 88)))]),Oo 90 (.app 63 10 96 (.tmp 87) (.tmp 89)),Fa 91 1 16,Sc 91 90] (Sr [Fa 92 1 8,Ld 93 92,Oo 94 (.load true 2 (.tmp 16)),Oo 95 (.lit 53 2 1 [Ss,(.sl 0 0 true [])] [(0,(2,(.tmp 94)))]),Oo 96 (.app 53 2 40 (.tmp 93) (.tmp 95)),Fa 97 1 8,Sc 97 96] (.reg [Fa 98 4 17,Ld 99 98,Oo 100 (.un .not (.tmp 99)),Mv 9 100]))))) (Sr [Mv 102 13,Oo 103 (.bin .eql (.tmp 102) (.const (.string ⟨#[76,105,110,107]⟩))),Mv 101 103] (Cd 101 (Sr [Oo 18 (.new 129 2 [Ss,Ss])] (Sr [Cl 104 203 [(.tmp 11)],Fa 105 0 18,Sc 105 104] (Sr [Cl 106 203 [(.tmp 11)],Fa 107 1 18,Sc 107 106] (.reg [Fa 108 2 8,Ld 109 108,Oo 110 (.load true 2 (.tmp 18)),Oo 111 (.lit 129 2 1 [Ss,Ss] [(0,(2,(.tmp 110)))]),Oo 112 (.app 129 2 32 (.tmp 109) (.tmp 111)),Fa 113 2 8,Sc 113 112])))) (.reg [Fa 46 1 11,⟨none,none,(.store 1 (.tmp 46) (.const (.bool true)))⟩])))))))))) (Sr [Fa 114 1 11,Ld 115 114,Mv 116 115,Of 117 116 (.fa 0 (.tmp 11)),Of 118 116 (.load false 1 (.tmp 117)),Of 119 116 (.len false (.tmp 118)),Of 120 116 (.bin .gtr (.tmp 119) (Ci 0)),Oo 121 (.pick (.tmp 116) (.const (.bool true)) (.tmp 120)),Mv 122 121,Of 123 122 (mt 5),Of 124 122 (mt 10),Of 125 122 (.ia 3 (.tmp 123) (.tmp 124)),Of 126 122 (.fa 1 (.tmp 125)),Of 127 122 (.load false 1 (.tmp 126)),Of 128 122 (mt 12),Of 129 122 (.eqb true (.tmp 127) (.tmp 128)),Oo 130 (.pick (.tmp 122) (.const (.bool true)) (.tmp 129))] (Cd 130 (.seq (.drwU [[],[0],[0,1],[0],[0],[0],[1,2,3,4,5],[],[]] [Oo 131 (.build [(.sl 0 0 true []),(.sl 0 0 true []),(.sl 0 0 true [])] []),Mv 132 5,Mv 133 10,Oo 134 (.ia 3 (.tmp 132) (.tmp 133)),Fa 135 0 134,Ld 136 135,⟨none,none,(.store 3 (.tmp 2) (.tmp 131))⟩,Mv 3 136,Mc 4 1]) .ret) .skip)))))))) (.reg [Mv 34 10,Bc 35 .add 34 1,Mv 10 35])))))) (.seq (Sr [Mv 137 9] (Cd 137 (Sr [Oo 138 (.build [(.sl 0 0 true []),(.sl 0 0 true []),(.sl 0 0 true [])] []),⟨none,none,(.store 3 (.tmp 2) (.tmp 138))⟩,Mc 3 0,Mc 4 1] .ret) .skip)) (Sr [Oo 139 (.load true 3 (.tmp 8)),Cl 140 79 [(.tmp 139)],Mv 7 140] (.seq (Sr [Mv 141 7,Bc 142 .neq 141 0] (Cd 142 (Sr [Oo 143 (.build [(.sl 0 0 true []),(.sl 0 0 true []),(.sl 0 0 true [])] []),Mv 144 7,⟨none,none,(.store 3 (.tmp 2) (.tmp 143))⟩,Mc 3 0,Mv 4 144] .ret) .skip)) (Sr [Oo 145 (.load true 3 (.tmp 8)),Mv 146 7,⟨none,none,(.store 3 (.tmp 2) (.tmp 145))⟩,Mc 3 0,Mv 4 146] .ret))))))))))
theorem k130:ZaA Tryz.prog 130=some ⟨c130,[(.cell 2 true 3),(.tmp 3),(.tmp 4)],147⟩:=by kernel_rfl
theorem trule_e {t t1:TS}{r:Rul}{id:Nat}{h:AH}(ho:okTS t) (he:Zkm t=(r,t1)) (h1:h[id]?=some (takE t)):ACalls Tryz.prog 202 [.ptr id 0 0] h fun x h'=>x=.ret (.agg (rulC r))∧h'=h.set id (takE t1):=by
 have:=trule_a ho h1
 rw[he] at this
 exact this
theorem tera_e {t t1:TS}{r:Era}{id:Nat}{h:AH}(ho:okTS t) (he:tEra t=(r,t1)) (h1:h[id]?=some (takE t)):ACalls Tryz.prog 201 [.ptr id 0 0] h fun x h'=>x=.ret (.agg (eraC r))∧h'=h.set id (takE t1):=by
 have:=tera_a ho h1
 rw[he] at this
 exact this
theorem ZbJ {n e:AV}:Wk (.tup [.agg [.sl 0 0 true [],.sl 0 0 true [],.sl 0 0 true []],n,e]) (.tup [.agg (srcC srcZ),n,e]) :=
 Wk.tup (wkw (Wk.agg (wkw Wk.nilF (wkw Wk.nilF (wkw Wk.nilF wk0)))) (wk1 rfl (wk1 rfl wk0)))
theorem okSrc_Z:ZeL (curS srcZ none):=by rw[ZeV];exact⟨fun _ h=>(by cases h),fun _ h=>(by cases h),fun _ h=>(by cases h)⟩
theorem lt26 {N:Nat}:decide (N+2<N+6)=true:=by simp
attribute [local simp] lt26
theorem lt36 {N:Nat}:decide (N+3<N+6)=true:=by simp
attribute [local simp] lt36
theorem lt46 {N:Nat}:decide (N+4<N+6)=true:=by simp
attribute [local simp] lt46
theorem lt56 {N:Nat}:decide (N+5<N+6)=true:=by simp
attribute [local simp] lt56
theorem rparse_a {s:ByteArray}{h:AH}:Ac 130 [sv s] h (.tup [.agg (srcC (ZbG s).1),iv (ZbG s).2.1,iv (ZbG s).2.2]):=by
 obtain⟨L,hL⟩ : ∃ L,L=(ZbX s).1:=⟨_,rfl⟩
 have hf24:=Zlx (s:=s)
 have hL200:=Zrp (s:=s)
 rw[←hL] at hf24 hL200
 have hV0:=ZrT s
 rw[←hL] at hV0
 refine tW' k130 fun N hn hlt hlA hbd=>?_
 simp only[tb'] at hbd ⊢
 refine wr'<|E' (ZaW (hl0 hn) ha0) pt<|mw<|mw<|sn'<|wr'<|mw<|Zad mp (Zpy) pt<|?_
 rw[←hL]
 refine mw<|Vw (ZaS lk gt)<|Vw (ZaS lk gt)<|Vw (ZaS lk gt)<|mw<|mw<|mw<|sn'<|Zam<|wr'<|mw<|Vw (ZaX lk lki)<|?_
 refine sn' ?_
 refine cd' lk (fun hc1=>?_) (fun hc1=>?_)
 ·have hV:ZbG s=(srcZ,(ZbX s).2.1,(ZbX s).2.2):=by rw[hV0];exact if_pos hc1
  refine wr'<|Vw (Zau ZiT)<|mw<|mw<|E' (Zai lk cv gx rfl (nb' rfl) rfl ZaT (hs0 hn)) ptn<|mw<|mw<|sn'<|Zaa<|Zah<|Zae (rsn (rm1 (rr_c gt gx (ld1 ZaR rfl)) (rm1 (rr_t gt) (rm1 (rr_t gt) rm0))))<|rtW'<|?_
  rw[hV];exact ZbJ
 have hV:ZbG s=outP L:=by rw[hV0];exact if_neg hc1
 clear hV0
 refine Zaf<|Zag<|wr'<|E' (ZaW (hl1 hn) ha1) pt<|Zar<|?_
 refine Zba (ALe.trans (ALe.own0Cell (st':=11) (ty:=36) gx gt0 (hl2 hn) pt0 (Eq.trans (congrArg (fun z=>List.set z _ _) ha2) (hs1 hn))) (ALe.trans (ALe.own0Cell (st':=2) (ty:=53) gx gt1 (hl3 hn) pt1 (Eq.trans (congrArg (fun z=>List.set z _ _) ha3) (hs1 hn))) (ALe.own0Cell (st':=2) (ty:=129) gx gt2 (hl4 hn) pt2 (Eq.trans (congrArg (fun z=>List.set z _ _) ha4) (hs1 hn))))) ?_
 refine wr'<|mv' lkb pt9<|Zar<|Zba ((ALe.newEnt (ty:=63) (st:=10) ha5))<|Zam<|wr'<|mv' lki pt10<|sn'<|Zap<|?_
 refine w_lp (ι:=Nat×Src×Option Zon×Nat×Nat×Nat×Nat×Nat) (fun (x_:Nat×Src×Option Zon×Nat×Nat×Nat×Nat×Nat)=>match x_ with | ⟨k,sr,o,m,v1,v2,v3,v4⟩=>[(9,bv o.isSome),(10,iv (k:Int)),(3,.any),(4,.any)]++rn' 11 8++rn' 30 107) (fun (x_:Nat×Src×Option Zon×Nat×Nat×Nat×Nat×Nat)=>match x_ with | ⟨k,sr,o,m,v1,v2,v3,v4⟩=>[(1,.mk 0 26 3 [.own (N+2) v1 sr.1.length,.own (N+3) v2 m,.own (N+4) v3 sr.2.2.length]),(2,.mk v1 36 11 (rows rulC sr.1)),(3,.mk v2 53 2 (rows zonC sr.2.1++zC N v4 o)),(4,.mk v3 129 2 (rows lnkC sr.2.2)),(5,.mk v4 63 10 (rows eraC (eC o)))]) (fun (x_:Nat×Src×Option Zon×Nat×Nat×Nat×Nat×Nat)=>match x_ with | ⟨k,sr,o,m,v1,v2,v3,v4⟩=>k≤L.length∧m=sr.2.1.length+o.toList.length∧sr.1.length≤k∧m≤k∧sr.2.2.length≤k∧(eC o).length≤k∧ZeL (curS sr o)∧runR (srcZ,false) L=runR (curS sr o,o.isSome) (L.drop k)) (fun (x_:Nat×Src×Option Zon×Nat×Nat×Nat×Nat×Nat)=>match x_ with | ⟨k,sr,o,m,v1,v2,v3,v4⟩=>L.length-k) (⟨0,srcZ,none,0,0,0,0,0⟩) (by exact⟨Nat.zero_le _,rfl,Nat.le_refl _,Nat.le_refl _,Nat.le_refl _,Nat.le_refl _,okSrc_Z,rfl⟩) ?_
 rintro⟨k,sr,o,m,v1,v2,v3,v4⟩ hi1
 try simp only[sm',Nat.reduceAdd]
 obtain⟨hk1,hm,hk2,hk3,hk4,hk5,hok,hrun⟩:=hi1
 refine Zam<|wr'<|mw<|mw<|Vw (ZaL lk)<|Vw (Zbc lk lk)<|sn'<|?_
 refine cd' lk (fun hc2=>?_) (fun hc2=>?_)
 ·have hk:k<L.length:=by omega
  have hfs:=hf24 _ (List.getElem_mem hk)
  have hokt:okTS (L[k].2.2,false):=hfs
  rw[runR_at hk] at hrun
  have hPT:=pt_body (p:=(curS sr o,o.isSome)) hok (L[k].2.2,false) hokt
  refine Zaf<|Zag<|Zam<|Zap<|wr'<|mw<|mw<|?_
  refine V' (ZaU lk lk Zbk (nb' rfl) ro om ro rfl) pt ?_
  refine V' (Zbt lk38 dp2) pt39<|V' (ZaC lk39 gt0) pt40<|V' (Zau (ZiS (cvl lk40 rfl) rfl)) pt41<|E' (ZaW (hl6 hn) ha6) pt11<|E' (Zai lk11 (cvl lk41 rfl) gx rfl (nb' rfl) rfl Zj1 (hs6 hn)) ptn<|Zar<|Zba ((ALe.same (WkL.refl _) rfl))<|wr'<|?_
  by_cases hs36:o=none
  ·subst hs36
   simp only[Option.isSome_none] at hrun hPT
   have hm':m=sr.2.1.length:=by simpa using hm
   subst hm'
   obtain⟨w,t1,e1⟩ : ∃ a b,ZaP (L[k].2.2,false)=(a,b):=⟨_,_,rfl⟩
   obtain⟨z1,o1⟩:=Za9 hokt e1
   refine mw<|mw<|sn'<|wr'<|mw<|sn'<|Zam<|wr'<|mw<|?_
   refine V' ((by first | exact v_not lk | exact Zax lk)) pt ?_
   refine sn' ?_
   refine ZdW lk (by rfl) ?_
   refine Zav<|ZaN mp (Zc8 e1 gx) (hs6 hn) pt<|mw<|sn'<|Zam<|Zap<|wr'<|mw<|mw<|sn'<|?_
   refine Zdf lk (by rfl) ?_
   refine wr'<|mw<|Vw (Zcp lk lks)<|mw<|sn'<|?_
   refine cd' lk (fun hc5=>?_) (fun hc5=>?_)
   ·have hwR:w=ruleA:=hc5
    obtain⟨r,u,eR⟩ : ∃ a b,Zkm t1=(a,b):=⟨_,_,rfl⟩
    have hB:Zez (curS sr none,false) (L[k].2.2,false)=((curS (sr.1++[r],sr.2.1,sr.2.2) none,false),u):=by unfold Zez;rw[if_neg (by simp)];simp only[ZbY,e1,if_pos hwR,ret2,eR];rfl
    have hq:True:=trivial
    refine w_orl<|Zoh [N+1]<|Dw (Zab lk)<|?_
    refine d_ldP lk gx (ld0 gt) (by simp) pt ?_
    refine ZbO<|Znk<|?_
    refine k_calls mp (trule_e o1 eR gx) (hs6 hn) (by intro i hi;simp only[cond_true,List.mem_cons,List.not_mem_nil,or_false] at hi;subst hi;first | rfl | exact (hga hn rfl).trans (hga hn rfl).symm) pt ?_
    refine Zso rfl rfl (ZdL (ZiQ cv rfl) (hl7 hn) ha7) (by intro i hi;simp only[cond_true,List.mem_cons,List.not_mem_nil,or_false] at hi;subst hi;first | rfl | exact (hga hn rfl).trans (hga hn rfl).symm) pt ?_
    refine Zso rfl rfl (Zdm (Zct lk gx rfl Zqy (nb' rfl)) lk gx (Zm2 _) om rfl (hs2 hn)) (by intro i hi;simp at hi) pt ?_
    refine ZpL rfl (Zab lk) pt ?_
    refine Zso rfl rfl (Zai lk cv gx rfl (nb' rfl) rfl Zj2 (hs1 hn)) (by intro i hi;simp at hi) ptn ?_
    refine Zsn<|Zaz<|Zag<|wr'<|Vw (Zab lk)<|Vw (Zac lk gx gt1)<|mw<|?_
    refine ZaF (t:=116) gt pt pt (fun hg116=>?_) (fun hg116=>?_)
    ·have hN:=Za6 hB (.inl hg116)
     refine s_no gt pt<|s_no gt pt<|s_no gt pt<|s_no gt pt<|Vw (Zak lk lkb)<|mw<|s_no gt pt<|s_no gt pt<|s_no gt pt<|s_no gt pt<|s_no gt pt<|s_no gt pt<|s_no gt pt<|Vw (Zak lk lkb)<|?_
     refine sn'<|ZaG lk<|Zam<|ZbZ<|u_fr rfl (Zau ZaE) pt<|u_fr rfl (v_mv lk) pt<|u_fr rfl (v_mv lk) pt<|?_
     refine u_fr rfl (ZaU lk lk Zbk (nb' rfl) ro om ro rfl) pt ?_
     refine u_fr rfl (Zbt lk dp0) pt<|u_fr rfl (ZaC lk gt) pt<|?_
     refine u_st (Zai lk cv gx rfl (nb' rfl) rfl ZaT (hs0 hn)) lk nh ptn ?_
     refine u_fr rfl (v_mv lk) pt<|u_fr rfl (v_mv lki) pt<|Zc0<|Zag<|Zaa<|Zaq<|Zah<|Zah<|Zaq<|Zah<|Zae (rsn (rm1 (rr_c gt gx (ld1 ZaR rfl)) (rm1 (rr_t gt) (rm1 (rr_t gt) rm0))))<|rtW'<|?_
     have hP:ZbG s=(srcZ,L[k].1,1):=by rw[hV,outP,hrun,hN]
     rw[hP];exact ZbJ
    refine s_do gt<|Vw (Zab lk)<|s_do gt<|Vw (Zac lk gx gt0)<|s_do gt<|Vw (ZaL lk)<|s_do gt<|Vw (ZbC lk lki)<|Vw (Zaj lk lk)<|mw<|?_
    refine sp' (t:=122) gt pt pt (fun hg122=>?_) (fun hg122=>?_)
    ·have hN:=Za6 hB (.inr (.inl (by intro e;rw[e] at hg122;exact absurd hg122 (by decide))))
     refine s_no gt pt<|s_no gt pt<|s_no gt pt<|s_no gt pt<|s_no gt pt<|s_no gt pt<|s_no gt pt<|Vw (Zak lk lkb)<|sn'<|ZaG lk<|Zam<|ZbZ<|u_fr rfl (Zau ZaE) pt<|?_
     refine u_fr rfl (v_mv lk) pt<|u_fr rfl (v_mv lk) pt<|?_
     refine u_fr rfl (ZaU lk lk Zbk (nb' rfl) ro om ro rfl) pt ?_
     refine u_fr rfl (Zbt lk dp0) pt<|u_fr rfl (ZaC lk gt) pt<|?_
     refine u_st (Zai lk cv gx rfl (nb' rfl) rfl ZaT (hs0 hn)) lk nh ptn ?_
     refine u_fr rfl (v_mv lk) pt<|u_fr rfl (v_mv lki) pt<|Zc0<|Zag<|Zaa<|Zaq<|Zah<|Zah<|Zaq<|Zah<|Zae (rsn (rm1 (rr_c gt gx (ld1 ZaR rfl)) (rm1 (rr_t gt) (rm1 (rr_t gt) rm0))))<|rtW'<|?_
     have hP:ZbG s=(srcZ,L[k].1,1):=by rw[hV,outP,hrun,hN]
     rw[hP];exact ZbJ
    refine s_do gt<|mw<|s_do gt<|mw<|s_do gt<|?_
    refine V' (ZaU lk lk Zbk (nb' rfl) ro om ro rfl) pt ?_
    refine s_do gt<|Vw (Zbt lk dp1)<|s_do gt<|Vw (ZaC lk gt)<|s_do gt<|mw<|s_do gt<|Vw (ZdM lk lk)<|Vw (Zaj lk lk)<|sn'<|?_
    refine cd' lk (fun hc8=>?_) (fun hc8=>?_)
    ·have hN:=Za6 hB (.inr (.inr (by simpa using hc8)))
     refine Zam<|ZbZ<|u_fr rfl (Zau ZaE) pt<|u_fr rfl (v_mv lk) pt<|u_fr rfl (v_mv lk) pt<|?_
     refine u_fr rfl (ZaU lk lk Zbk (nb' rfl) ro om ro rfl) pt ?_
     refine u_fr rfl (Zbt lk dp0) pt<|u_fr rfl (ZaC lk gt) pt<|?_
     refine u_st (Zai lk cv gx rfl (nb' rfl) rfl ZaT (hs0 hn)) lk nh ptn ?_
     refine u_fr rfl (v_mv lk) pt<|u_fr rfl (v_mv lki) pt<|Zc0<|Zag<|Zaa<|Zaq<|Zah<|Zah<|Zaq<|Zah<|Zae (rsn (rm1 (rr_c gt gx (ld1 ZaR rfl)) (rm1 (rr_t gt) (rm1 (rr_t gt) rm0))))<|rtW'<|?_
     have hP:ZbG s=(srcZ,L[k].1,1):=by rw[hV,outP,hrun,hN]
     rw[hP];exact ZbJ
    have hu1:u.2=false:=by simpa using hg116
    have hu2:u.1=[]:=List.eq_nil_of_length_eq_zero om
    have hS:=Zdq hB hu1 hu2 (by simpa using hc8)
    rw[hS] at hrun
    have hokq:=hPT.1
    rw[hB] at hokq
    refine Zaf<|Zaz<|Zag<|Zav<|mw<|?_
    refine V' (Zay lk lki om om) pt ?_
    refine mw<|Zar<|ZaB<|?_
    refine lU' (⟨k+1,(sr.1++[r],sr.2.1,sr.2.2),none,sr.2.1.length,v1+1,v2,v3,v4⟩) (by (try dsimp only);exact⟨by omega,by simp,by simp;omega,by omega,by omega,by simp[eC],hokq,hrun⟩) (by (try dsimp only);(try simp only[sm',Nat.reduceAdd]);exact bkE' 6 hn hlt (by repeat (first | exact wk0 | refine wka ?_ | refine wk1 rfl ?_ | refine wk1 (by first | rfl | exact ivx om | (simp;done) | exact bvx (by have h9:=hs68;unfold ZcA at h9;rw[h9];rfl) | exact bvx (by have h9:=hs106;unfold ZcA at h9;rw[h9];rfl) | exact bvx (by have h9:=hs68;unfold ZcA at h9;rw[Bool.not_eq_true] at h9;rw[h9];rfl) | exact bvx (by have h9:=hs106;unfold ZcA at h9;rw[Bool.not_eq_true] at h9;rw[h9];rfl)) ?_)) (by simp only[zonC,Za5,Zbv,zC,eC,List.append_nil,List.length_append,List.length_singleton];rfl) (hT:=by first | rfl | (simp only[AV.lt,AV.ltL,Ent.lt,List.all_cons,List.all_nil,Bool.and_true,Bool.and_self,decide_true,Zbh,Zbr,Zbo,Zbq,ZbS,ZfI,ZgI,lt26,lt36,lt46,lt56];done) | exact lt') (hE:=by first | rfl | (simp only[AV.lt,AV.ltL,Ent.lt,List.all_cons,List.all_nil,Bool.and_true,Bool.and_self,decide_true,Zbh,Zbr,Zbo,Zbq,ZbS,ZfI,ZgI,lt26,lt36,lt46,lt56];done) | exact lt'))
   have hwR:¬w=ruleA:=hc5
   refine wr'<|mw<|Vw (Zcp lk lks)<|mw<|sn'<|?_
   refine cd' lk (fun hc6=>?_) (fun hc6=>?_)
   ·have hwZ:w=zoneA:=hc6
    obtain⟨nm,t2,e2⟩ : ∃ a b,ZeP t1=(a,b):=⟨_,_,rfl⟩
    have o2:=Zgf o1 e2
    obtain⟨x,u,eE⟩ : ∃ a b,tEra t2=(a,b):=⟨_,_,rfl⟩
    have hB:Zez (curS sr none,false) (L[k].2.2,false)=(Zcy (sr.1,sr.2.1++[(nm,[])],sr.2.2) x,u):=by unfold Zez;rw[if_neg (by simp)];simp only[ZbY,e1,if_neg hwR,if_pos hwZ,ret2,e2,eE,ZeV]
    have hw:Zcy (sr.1,sr.2.1++[(nm,[])],sr.2.2) x=((sr.1,sr.2.1++[(nm,[x])],sr.2.2),!ZcA x):=by unfold Zcy;rw[ZfO];rfl
    refine wr'<|ZaN mp (Zki o1 e2 gx) (hs6 hn) pt<|Vw (Zau (ZiP cv rfl))<|E' (ZaW (hl7 hn) ha7) pt<|E' (Zai lk cv gx rfl (nb' rfl) rfl Zj1 (hs7 hn)) ptn<|sn'<|wr'<|ZaN mp (tera_e o2 eE gx) (hs6 hn) pt<|E' (ZaW (hl8 hn) ha8) pt<|E' (Zai lk cv gx rfl (nb' rfl) rfl ZiN (hs8 hn)) ptn<|Zar<|?_
    refine Zba ((ALe.own0CellRe (ty2:=63) (st2:=10) gx gx om gt1 pt1 (Eq.trans (congrArg (fun z=>List.set z _ _) (hs5 hn)) (hs7 hn)))) ?_
    refine wr'<|Vw (Zab lk)<|Vw (Zac lk gx gt1)<|Vw (Zao lk gx ZiM rfl)<|E' (ZdL (ZiO cv rfl) (hl9 hn) ha9) pt<|?_
    refine E' (Zdm (Zct lk gx rfl ZjZ (nb' rfl)) lk gx rfl om rfl (hs5 hn)) pt ?_
    refine Vw (Zab lk)<|E' (Zai lk cv gx rfl (nb' rfl) rfl Zfm (hs7 hn)) ptn<|sn'<|wr'<|Vw (Zab lk)<|Vw (Zac lk gx gt1)<|Vw (Zao lk gx Zj0 rfl)<|E' (ZdL (ZhA cv rfl) (Ztn hn) Zto) pt<|?_
    refine E' (Zdm (Zct lk gx rfl ZmA (nb' rfl)) lk gx Zld om rfl (hs3 hn)) pt ?_
    refine Vw (Zab lk)<|E' (Zai lk cv gx rfl (nb' rfl) rfl Zfm (hs1 hn)) ptn<|sn'<|Zav<|?_
    by_cases hs106:ZcA x=true
    ·have hq:Zcy (sr.1,sr.2.1++[(nm,[])],sr.2.2) x=(curS (sr.1,sr.2.1++[(nm,[x])],sr.2.2) none,false):=by rw[hw,hs106,ZeV];rfl
     refine Vw (Zab lk)<|Vw (Zac lk gx gt4)<|Vw (Zax lk)<|mw<|Zar<|Zaz<|Zag<|wr'<|Vw (Zab lk)<|Vw (Zac lk gx gt1)<|mw<|?_
     refine ZaF (t:=116) gt pt pt (fun hg116=>?_) (fun hg116=>?_)
     ·have hN:=Za6 hB (.inl hg116)
      refine s_no gt pt<|s_no gt pt<|s_no gt pt<|s_no gt pt<|Vw (Zak lk lkb)<|mw<|s_no gt pt<|s_no gt pt<|s_no gt pt<|s_no gt pt<|s_no gt pt<|s_no gt pt<|s_no gt pt<|Vw (Zak lk lkb)<|?_
      refine sn'<|ZaG lk<|Zam<|ZbZ<|u_fr rfl (Zau ZaE) pt<|u_fr rfl (v_mv lk) pt<|u_fr rfl (v_mv lk) pt<|?_
      refine u_fr rfl (ZaU lk lk Zbk (nb' rfl) ro om ro rfl) pt ?_
      refine u_fr rfl (Zbt lk dp0) pt<|u_fr rfl (ZaC lk gt) pt<|?_
      refine u_st (Zai lk cv gx rfl (nb' rfl) rfl ZaT (hs0 hn)) lk nh ptn ?_
      refine u_fr rfl (v_mv lk) pt<|u_fr rfl (v_mv lki) pt<|Zc0<|Zag<|Zaa<|Zaq<|Zah<|Zah<|Zaq<|Zah<|Zae (rsn (rm1 (rr_c gt gx (ld1 ZaR rfl)) (rm1 (rr_t gt) (rm1 (rr_t gt) rm0))))<|rtW'<|?_
      have hP:ZbG s=(srcZ,L[k].1,1):=by rw[hV,outP,hrun,hN]
      rw[hP];exact ZbJ
     refine s_do gt<|Vw (Zab lk)<|s_do gt<|Vw (Zac lk gx gt0)<|s_do gt<|Vw (ZaL lk)<|s_do gt<|Vw (ZbC lk lki)<|Vw (Zaj lk lk)<|mw<|?_
     refine sp' (t:=122) gt pt pt (fun hg122=>?_) (fun hg122=>?_)
     ·have hN:=Za6 hB (.inr (.inl (by intro e;rw[e] at hg122;exact absurd hg122 (by decide))))
      refine s_no gt pt<|s_no gt pt<|s_no gt pt<|s_no gt pt<|s_no gt pt<|s_no gt pt<|s_no gt pt<|Vw (Zak lk lkb)<|sn'<|ZaG lk<|Zam<|ZbZ<|u_fr rfl (Zau ZaE) pt<|?_
      refine u_fr rfl (v_mv lk) pt<|u_fr rfl (v_mv lk) pt<|?_
      refine u_fr rfl (ZaU lk lk Zbk (nb' rfl) ro om ro rfl) pt ?_
      refine u_fr rfl (Zbt lk dp0) pt<|u_fr rfl (ZaC lk gt) pt<|?_
      refine u_st (Zai lk cv gx rfl (nb' rfl) rfl ZaT (hs0 hn)) lk nh ptn ?_
      refine u_fr rfl (v_mv lk) pt<|u_fr rfl (v_mv lki) pt<|Zc0<|Zag<|Zaa<|Zaq<|Zah<|Zah<|Zaq<|Zah<|Zae (rsn (rm1 (rr_c gt gx (ld1 ZaR rfl)) (rm1 (rr_t gt) (rm1 (rr_t gt) rm0))))<|rtW'<|?_
      have hP:ZbG s=(srcZ,L[k].1,1):=by rw[hV,outP,hrun,hN]
      rw[hP];exact ZbJ
     refine s_do gt<|mw<|s_do gt<|mw<|s_do gt<|?_
     refine V' (ZaU lk lk Zbk (nb' rfl) ro om ro rfl) pt ?_
     refine s_do gt<|Vw (Zbt lk dp1)<|s_do gt<|Vw (ZaC lk gt)<|s_do gt<|mw<|s_do gt<|Vw (ZdM lk lk)<|Vw (Zaj lk lk)<|sn'<|?_
     refine cd' lk (fun hc8=>?_) (fun hc8=>?_)
     ·have hN:=Za6 hB (.inr (.inr (by simpa using hc8)))
      refine Zam<|ZbZ<|u_fr rfl (Zau ZaE) pt<|u_fr rfl (v_mv lk) pt<|u_fr rfl (v_mv lk) pt<|?_
      refine u_fr rfl (ZaU lk lk Zbk (nb' rfl) ro om ro rfl) pt ?_
      refine u_fr rfl (Zbt lk dp0) pt<|u_fr rfl (ZaC lk gt) pt<|?_
      refine u_st (Zai lk cv gx rfl (nb' rfl) rfl ZaT (hs0 hn)) lk nh ptn ?_
      refine u_fr rfl (v_mv lk) pt<|u_fr rfl (v_mv lki) pt<|Zc0<|Zag<|Zaa<|Zaq<|Zah<|Zah<|Zaq<|Zah<|Zae (rsn (rm1 (rr_c gt gx (ld1 ZaR rfl)) (rm1 (rr_t gt) (rm1 (rr_t gt) rm0))))<|rtW'<|?_
      have hP:ZbG s=(srcZ,L[k].1,1):=by rw[hV,outP,hrun,hN]
      rw[hP];exact ZbJ
     have hu1:u.2=false:=by simpa using hg116
     have hu2:u.1=[]:=List.eq_nil_of_length_eq_zero om
     have hS:=Zdq hB hu1 hu2 (by simpa using hc8)
     rw[hS] at hrun
     have hokq:=hPT.1
     rw[hB] at hokq
     refine Zaf<|Zaz<|?_
     refine Zba ((ALe.iceCellNew (ds:=rows eraC [x]) (k:=sr.2.1.length*2+1) (ty2:=63) (st2:=10) gx gx om (zc_at2 rfl) rfl (Nat.le_refl _) zc_put2 (hs5 hn) (hs3 hn))) ?_
     refine Zav<|mw<|?_
     refine V' (Zay lk lki om om) pt ?_
     refine mw<|Zar<|ZaB<|?_
     refine lU' (⟨k+1,(sr.1,sr.2.1++[(nm,[x])],sr.2.2),none,sr.2.1.length+1,v1,v2+1,v3,v4+3⟩) (by (try dsimp only);rw[hq] at hrun hokq;exact⟨by omega,by simp,by omega,by omega,by omega,by simp[eC],hokq,hrun⟩) (by (try dsimp only);(try simp only[sm',Nat.reduceAdd]);exact bkE' 6 hn hlt (by repeat (first | exact wk0 | refine wka ?_ | refine wk1 rfl ?_ | refine wk1 (by first | rfl | exact ivx om | (simp;done) | exact bvx (by have h9:=hs68;unfold ZcA at h9;rw[h9];rfl) | exact bvx (by have h9:=hs106;unfold ZcA at h9;rw[h9];rfl) | exact bvx (by have h9:=hs68;unfold ZcA at h9;rw[Bool.not_eq_true] at h9;rw[h9];rfl) | exact bvx (by have h9:=hs106;unfold ZcA at h9;rw[Bool.not_eq_true] at h9;rw[h9];rfl)) ?_)) (by simp only[zonC,Za5,Zbv,zC,eC,List.append_nil,List.length_append,List.length_singleton];rfl) (hT:=by first | rfl | (simp only[AV.lt,AV.ltL,Ent.lt,List.all_cons,List.all_nil,Bool.and_true,Bool.and_self,decide_true,Zbh,Zbr,Zbo,Zbq,ZbS,ZfI,ZgI,lt26,lt36,lt46,lt56];done) | exact lt') (hE:=by first | rfl | (simp only[AV.lt,AV.ltL,Ent.lt,List.all_cons,List.all_nil,Bool.and_true,Bool.and_self,decide_true,Zbh,Zbr,Zbo,Zbq,ZbS,ZfI,ZgI,lt26,lt36,lt46,lt56];done) | exact lt'))
    have hq:Zcy (sr.1,sr.2.1++[(nm,[])],sr.2.2) x=(curS sr (some (nm,[x])),true):=by rw[hw,show ZcA x=false by simpa using hs106];rfl
    refine Vw (Zab lk)<|Vw (Zac lk gx gt4)<|Vw (Zax lk)<|mw<|Zar<|Zaz<|Zag<|wr'<|Vw (Zab lk)<|Vw (Zac lk gx gt1)<|mw<|?_
    refine ZaF (t:=116) gt pt pt (fun hg116=>?_) (fun hg116=>?_)
    ·have hN:=Za6 hB (.inl hg116)
     refine s_no gt pt<|s_no gt pt<|s_no gt pt<|s_no gt pt<|Vw (Zak lk lkb)<|mw<|s_no gt pt<|s_no gt pt<|s_no gt pt<|s_no gt pt<|s_no gt pt<|s_no gt pt<|s_no gt pt<|Vw (Zak lk lkb)<|?_
     refine sn'<|ZaG lk<|Zam<|ZbZ<|u_fr rfl (Zau ZaE) pt<|u_fr rfl (v_mv lk) pt<|u_fr rfl (v_mv lk) pt<|?_
     refine u_fr rfl (ZaU lk lk Zbk (nb' rfl) ro om ro rfl) pt ?_
     refine u_fr rfl (Zbt lk dp0) pt<|u_fr rfl (ZaC lk gt) pt<|?_
     refine u_st (Zai lk cv gx rfl (nb' rfl) rfl ZaT (hs0 hn)) lk nh ptn ?_
     refine u_fr rfl (v_mv lk) pt<|u_fr rfl (v_mv lki) pt<|Zc0<|Zag<|Zaa<|Zaq<|Zah<|Zah<|Zaq<|Zah<|Zae (rsn (rm1 (rr_c gt gx (ld1 ZaR rfl)) (rm1 (rr_t gt) (rm1 (rr_t gt) rm0))))<|rtW'<|?_
     have hP:ZbG s=(srcZ,L[k].1,1):=by rw[hV,outP,hrun,hN]
     rw[hP];exact ZbJ
    refine s_do gt<|Vw (Zab lk)<|s_do gt<|Vw (Zac lk gx gt0)<|s_do gt<|Vw (ZaL lk)<|s_do gt<|Vw (ZbC lk lki)<|Vw (Zaj lk lk)<|mw<|?_
    refine sp' (t:=122) gt pt pt (fun hg122=>?_) (fun hg122=>?_)
    ·have hN:=Za6 hB (.inr (.inl (by intro e;rw[e] at hg122;exact absurd hg122 (by decide))))
     refine s_no gt pt<|s_no gt pt<|s_no gt pt<|s_no gt pt<|s_no gt pt<|s_no gt pt<|s_no gt pt<|Vw (Zak lk lkb)<|sn'<|ZaG lk<|Zam<|ZbZ<|u_fr rfl (Zau ZaE) pt<|?_
     refine u_fr rfl (v_mv lk) pt<|u_fr rfl (v_mv lk) pt<|?_
     refine u_fr rfl (ZaU lk lk Zbk (nb' rfl) ro om ro rfl) pt ?_
     refine u_fr rfl (Zbt lk dp0) pt<|u_fr rfl (ZaC lk gt) pt<|?_
     refine u_st (Zai lk cv gx rfl (nb' rfl) rfl ZaT (hs0 hn)) lk nh ptn ?_
     refine u_fr rfl (v_mv lk) pt<|u_fr rfl (v_mv lki) pt<|Zc0<|Zag<|Zaa<|Zaq<|Zah<|Zah<|Zaq<|Zah<|Zae (rsn (rm1 (rr_c gt gx (ld1 ZaR rfl)) (rm1 (rr_t gt) (rm1 (rr_t gt) rm0))))<|rtW'<|?_
     have hP:ZbG s=(srcZ,L[k].1,1):=by rw[hV,outP,hrun,hN]
     rw[hP];exact ZbJ
    refine s_do gt<|mw<|s_do gt<|mw<|s_do gt<|?_
    refine V' (ZaU lk lk Zbk (nb' rfl) ro om ro rfl) pt ?_
    refine s_do gt<|Vw (Zbt lk dp1)<|s_do gt<|Vw (ZaC lk gt)<|s_do gt<|mw<|s_do gt<|Vw (ZdM lk lk)<|Vw (Zaj lk lk)<|sn'<|?_
    refine cd' lk (fun hc8=>?_) (fun hc8=>?_)
    ·have hN:=Za6 hB (.inr (.inr (by simpa using hc8)))
     refine Zam<|ZbZ<|u_fr rfl (Zau ZaE) pt<|u_fr rfl (v_mv lk) pt<|u_fr rfl (v_mv lk) pt<|?_
     refine u_fr rfl (ZaU lk lk Zbk (nb' rfl) ro om ro rfl) pt ?_
     refine u_fr rfl (Zbt lk dp0) pt<|u_fr rfl (ZaC lk gt) pt<|?_
     refine u_st (Zai lk cv gx rfl (nb' rfl) rfl ZaT (hs0 hn)) lk nh ptn ?_
     refine u_fr rfl (v_mv lk) pt<|u_fr rfl (v_mv lki) pt<|Zc0<|Zag<|Zaa<|Zaq<|Zah<|Zah<|Zaq<|Zah<|Zae (rsn (rm1 (rr_c gt gx (ld1 ZaR rfl)) (rm1 (rr_t gt) (rm1 (rr_t gt) rm0))))<|rtW'<|?_
     have hP:ZbG s=(srcZ,L[k].1,1):=by rw[hV,outP,hrun,hN]
     rw[hP];exact ZbJ
    have hu1:u.2=false:=by simpa using hg116
    have hu2:u.1=[]:=List.eq_nil_of_length_eq_zero om
    have hS:=Zdq hB hu1 hu2 (by simpa using hc8)
    rw[hS] at hrun
    have hokq:=hPT.1
    rw[hB] at hokq
    refine Zaf<|Zaz<|Zag<|Zav<|mw<|?_
    refine V' (Zay lk lki om om) pt ?_
    refine mw<|Zar<|ZaB<|?_
    refine lU' (⟨k+1,sr,some (nm,[x]),sr.2.1.length+1,v1,v2+1,v3,v4+2⟩) (by (try dsimp only);rw[hq] at hrun hokq;exact⟨by omega,by simp,by omega,by omega,by omega,by simp[eC],hokq,hrun⟩) (by (try dsimp only);(try simp only[sm',Nat.reduceAdd]);exact bkE' 6 hn hlt (by repeat (first | exact wk0 | refine wka ?_ | refine wk1 rfl ?_ | refine wk1 (by first | rfl | exact ivx om | (simp;done) | exact bvx (by have h9:=hs68;unfold ZcA at h9;rw[h9];rfl) | exact bvx (by have h9:=hs106;unfold ZcA at h9;rw[h9];rfl) | exact bvx (by have h9:=hs68;unfold ZcA at h9;rw[Bool.not_eq_true] at h9;rw[h9];rfl) | exact bvx (by have h9:=hs106;unfold ZcA at h9;rw[Bool.not_eq_true] at h9;rw[h9];rfl)) ?_)) (by simp only[zonC,Za5,Zbv,zC,eC,List.append_nil,List.length_append,List.length_singleton];rfl) (hT:=by first | rfl | (simp only[AV.lt,AV.ltL,Ent.lt,List.all_cons,List.all_nil,Bool.and_true,Bool.and_self,decide_true,Zbh,Zbr,Zbo,Zbq,ZbS,ZfI,ZgI,lt26,lt36,lt46,lt56];done) | exact lt') (hE:=by first | rfl | (simp only[AV.lt,AV.ltL,Ent.lt,List.all_cons,List.all_nil,Bool.and_true,Bool.and_self,decide_true,Zbh,Zbr,Zbo,Zbq,ZbS,ZfI,ZgI,lt26,lt36,lt46,lt56];done) | exact lt'))
   have hwZ:¬w=zoneA:=hc6
   refine wr'<|mw<|Vw (Zcp lk lks)<|mw<|sn'<|?_
   refine cd' lk (fun hc7=>?_) (fun hc7=>?_)
   ·have hwL:w=linkA:=hc7
    obtain⟨n1,t2,e2⟩ : ∃ a b,ZeP t1=(a,b):=⟨_,_,rfl⟩
    have o2:=Zgf o1 e2
    obtain⟨n2,u,e3⟩ : ∃ a b,ZeP t2=(a,b):=⟨_,_,rfl⟩
    have hB:Zez (curS sr none,false) (L[k].2.2,false)=((curS (sr.1,sr.2.1,sr.2.2++[(n1,n2)]) none,false),u):=by unfold Zez;rw[if_neg (by simp)];simp only[ZbY,e1,if_neg hwR,if_neg hwZ,if_pos hwL,ret2,e2,e3];rfl
    refine wr'<|E' (ZaW (hl7 hn) ha7) pt<|sn'<|wr'<|ZaN mp (Zki o1 e2 gx) (hs6 hn) pt<|Vw (Zab lk)<|E' (Zai lk cv gx rfl (nb' rfl) rfl Zj2 (hs7 hn)) ptn<|sn'<|wr'<|?_
    refine ZaN mp (Zki o2 e3 gx) (hs6 hn) pt<|Vw (Zab lk)<|E' (Zai lk cv gx rfl (nb' rfl) rfl Zfm (hs7 hn)) ptn<|sn'<|Zav<|Vw (Zab lk)<|Vw (Zac lk gx gt2)<|Vw (Zao lk gx Zj0 rfl)<|E' (ZdL (Zhz cv rfl) (hl8 hn) ha8) pt<|?_
    refine E' (Zdm (Zct lk gx rfl ZmA (nb' rfl)) lk gx (Znh _) om rfl (hs4 hn)) pt ?_
    refine Vw (Zab lk)<|E' (Zai lk cv gx rfl (nb' rfl) rfl Zqz (hs1 hn)) ptn<|Zar<|Zaz<|Zag<|wr'<|Vw (Zab lk)<|Vw (Zac lk gx gt1)<|mw<|?_
    refine ZaF (t:=116) gt pt pt (fun hg116=>?_) (fun hg116=>?_)
    ·have hN:=Za6 hB (.inl hg116)
     refine s_no gt pt<|s_no gt pt<|s_no gt pt<|s_no gt pt<|Vw (Zak lk lkb)<|mw<|s_no gt pt<|s_no gt pt<|s_no gt pt<|s_no gt pt<|s_no gt pt<|s_no gt pt<|s_no gt pt<|Vw (Zak lk lkb)<|?_
     refine sn'<|ZaG lk<|Zam<|ZbZ<|u_fr rfl (Zau ZaE) pt<|u_fr rfl (v_mv lk) pt<|u_fr rfl (v_mv lk) pt<|?_
     refine u_fr rfl (ZaU lk lk Zbk (nb' rfl) ro om ro rfl) pt ?_
     refine u_fr rfl (Zbt lk dp0) pt<|u_fr rfl (ZaC lk gt) pt<|?_
     refine u_st (Zai lk cv gx rfl (nb' rfl) rfl ZaT (hs0 hn)) lk nh ptn ?_
     refine u_fr rfl (v_mv lk) pt<|u_fr rfl (v_mv lki) pt<|Zc0<|Zag<|Zaa<|Zaq<|Zah<|Zah<|Zaq<|Zah<|Zae (rsn (rm1 (rr_c gt gx (ld1 ZaR rfl)) (rm1 (rr_t gt) (rm1 (rr_t gt) rm0))))<|rtW'<|?_
     have hP:ZbG s=(srcZ,L[k].1,1):=by rw[hV,outP,hrun,hN]
     rw[hP];exact ZbJ
    refine s_do gt<|Vw (Zab lk)<|s_do gt<|Vw (Zac lk gx gt0)<|s_do gt<|Vw (ZaL lk)<|s_do gt<|Vw (ZbC lk lki)<|Vw (Zaj lk lk)<|mw<|?_
    refine sp' (t:=122) gt pt pt (fun hg122=>?_) (fun hg122=>?_)
    ·have hN:=Za6 hB (.inr (.inl (by intro e;rw[e] at hg122;exact absurd hg122 (by decide))))
     refine s_no gt pt<|s_no gt pt<|s_no gt pt<|s_no gt pt<|s_no gt pt<|s_no gt pt<|s_no gt pt<|Vw (Zak lk lkb)<|sn'<|ZaG lk<|Zam<|ZbZ<|u_fr rfl (Zau ZaE) pt<|?_
     refine u_fr rfl (v_mv lk) pt<|u_fr rfl (v_mv lk) pt<|?_
     refine u_fr rfl (ZaU lk lk Zbk (nb' rfl) ro om ro rfl) pt ?_
     refine u_fr rfl (Zbt lk dp0) pt<|u_fr rfl (ZaC lk gt) pt<|?_
     refine u_st (Zai lk cv gx rfl (nb' rfl) rfl ZaT (hs0 hn)) lk nh ptn ?_
     refine u_fr rfl (v_mv lk) pt<|u_fr rfl (v_mv lki) pt<|Zc0<|Zag<|Zaa<|Zaq<|Zah<|Zah<|Zaq<|Zah<|Zae (rsn (rm1 (rr_c gt gx (ld1 ZaR rfl)) (rm1 (rr_t gt) (rm1 (rr_t gt) rm0))))<|rtW'<|?_
     have hP:ZbG s=(srcZ,L[k].1,1):=by rw[hV,outP,hrun,hN]
     rw[hP];exact ZbJ
    refine s_do gt<|mw<|s_do gt<|mw<|s_do gt<|?_
    refine V' (ZaU lk lk Zbk (nb' rfl) ro om ro rfl) pt ?_
    refine s_do gt<|Vw (Zbt lk dp1)<|s_do gt<|Vw (ZaC lk gt)<|s_do gt<|mw<|s_do gt<|Vw (ZdM lk lk)<|Vw (Zaj lk lk)<|sn'<|?_
    refine cd' lk (fun hc8=>?_) (fun hc8=>?_)
    ·have hN:=Za6 hB (.inr (.inr (by simpa using hc8)))
     refine Zam<|ZbZ<|u_fr rfl (Zau ZaE) pt<|u_fr rfl (v_mv lk) pt<|u_fr rfl (v_mv lk) pt<|?_
     refine u_fr rfl (ZaU lk lk Zbk (nb' rfl) ro om ro rfl) pt ?_
     refine u_fr rfl (Zbt lk dp0) pt<|u_fr rfl (ZaC lk gt) pt<|?_
     refine u_st (Zai lk cv gx rfl (nb' rfl) rfl ZaT (hs0 hn)) lk nh ptn ?_
     refine u_fr rfl (v_mv lk) pt<|u_fr rfl (v_mv lki) pt<|Zc0<|Zag<|Zaa<|Zaq<|Zah<|Zah<|Zaq<|Zah<|Zae (rsn (rm1 (rr_c gt gx (ld1 ZaR rfl)) (rm1 (rr_t gt) (rm1 (rr_t gt) rm0))))<|rtW'<|?_
     have hP:ZbG s=(srcZ,L[k].1,1):=by rw[hV,outP,hrun,hN]
     rw[hP];exact ZbJ
    have hu1:u.2=false:=by simpa using hg116
    have hu2:u.1=[]:=List.eq_nil_of_length_eq_zero om
    have hS:=Zdq hB hu1 hu2 (by simpa using hc8)
    rw[hS] at hrun
    have hokq:=hPT.1
    rw[hB] at hokq
    refine Zaf<|Zaz<|Zag<|Zav<|mw<|?_
    refine V' (Zay lk lki om om) pt ?_
    refine mw<|Zar<|ZaB<|?_
    refine lU' (⟨k+1,(sr.1,sr.2.1,sr.2.2++[(n1,n2)]),none,sr.2.1.length,v1,v2,v3+1,v4⟩) (by (try dsimp only);exact⟨by omega,by simp,by omega,by omega,by simp;omega,by simp[eC],hokq,hrun⟩) (by (try dsimp only);(try simp only[sm',Nat.reduceAdd]);exact bkE' 6 hn hlt (by repeat (first | exact wk0 | refine wka ?_ | refine wk1 rfl ?_ | refine wk1 (by first | rfl | exact ivx om | (simp;done) | exact bvx (by have h9:=hs68;unfold ZcA at h9;rw[h9];rfl) | exact bvx (by have h9:=hs106;unfold ZcA at h9;rw[h9];rfl) | exact bvx (by have h9:=hs68;unfold ZcA at h9;rw[Bool.not_eq_true] at h9;rw[h9];rfl) | exact bvx (by have h9:=hs106;unfold ZcA at h9;rw[Bool.not_eq_true] at h9;rw[h9];rfl)) ?_)) (by simp only[zonC,Za5,Zbv,zC,eC,List.append_nil,List.length_append,List.length_singleton];rfl) (hT:=by first | rfl | (simp only[AV.lt,AV.ltL,Ent.lt,List.all_cons,List.all_nil,Bool.and_true,Bool.and_self,decide_true,Zbh,Zbr,Zbo,Zbq,ZbS,ZfI,ZgI,lt26,lt36,lt46,lt56];done) | exact lt') (hE:=by first | rfl | (simp only[AV.lt,AV.ltL,Ent.lt,List.all_cons,List.all_nil,Bool.and_true,Bool.and_self,decide_true,Zbh,Zbr,Zbo,Zbq,ZbS,ZfI,ZgI,lt26,lt36,lt46,lt56];done) | exact lt'))
   have hwL:¬w=linkA:=hc7
   have hB:Zez (curS sr none,false) (L[k].2.2,false)=((curS sr none,false),bad t1):=by unfold Zez;rw[if_neg (by simp)];simp only[ZbY,e1,if_neg hwR,if_neg hwZ,if_neg hwL]
   have hN:=Za6 hB (.inl rfl)
   refine Zav<|Vw (Zab lk)<|E' (Zai lk (cvl lkb rfl) gx rfl (nb' rfl) rfl Zfm (hs6 hn)) ptn<|Zar<|Zaz<|Zag<|wr'<|Vw (Zab lk)<|Vw (Zac lk gx gt1)<|mw<|s_no gt pt<|s_no gt pt<|s_no gt pt<|?_
   refine s_no gt pt<|Vw (Zak lk lkb)<|mw<|s_no gt pt<|s_no gt pt<|s_no gt pt<|s_no gt pt<|s_no gt pt<|s_no gt pt<|s_no gt pt<|Vw (Zak lk lkb)<|sn'<|ZaG lk<|?_
   refine Zam<|ZbZ<|u_fr rfl (Zau ZaE) pt<|u_fr rfl (v_mv lk) pt<|u_fr rfl (v_mv lk) pt<|?_
   refine u_fr rfl (ZaU lk lk Zbk (nb' rfl) ro om ro rfl) pt ?_
   refine u_fr rfl (Zbt lk dp0) pt<|u_fr rfl (ZaC lk gt) pt<|?_
   refine u_st (Zai lk cv gx rfl (nb' rfl) rfl ZaT (hs0 hn)) lk nh ptn ?_
   refine u_fr rfl (v_mv lk) pt<|u_fr rfl (v_mv lki) pt<|Zc0<|Zag<|Zaa<|Zaq<|Zah<|Zah<|Zaq<|Zah<|Zae (rsn (rm1 (rr_c gt gx (ld1 ZaR rfl)) (rm1 (rr_t gt) (rm1 (rr_t gt) rm0))))<|rtW'<|?_
   have hP:ZbG s=(srcZ,L[k].1,1):=by rw[hV,outP,hrun,hN]
   rw[hP];exact ZbJ
  obtain⟨z,rfl⟩:=Option.ne_none_iff_exists'.1 hs36
  simp only[Option.isSome_some] at hrun hPT
  have hm':m=sr.2.1.length+1:=by simpa using hm
  have hk5':z.2.length≤k:=hk5
  obtain⟨x,u,eE⟩ : ∃ a b,tEra (L[k].2.2,false)=(a,b):=⟨_,_,rfl⟩
  have hB:Zez (curS sr (some z),true) (L[k].2.2,false)=(Zcy (curS sr (some z)) x,u):=by unfold Zez;rw[if_pos rfl];simp only[ZbY,ret2,eE]
  have hw:Zcy (curS sr (some z)) x=((sr.1,sr.2.1++[(z.1,z.2++[x])],sr.2.2),!ZcA x):=by unfold Zcy curS;rw[show sr.2.1++(some z).toList=sr.2.1++[z] from rfl,ZfO]
  refine mw<|mw<|sn'<|wr'<|mw<|sn'<|Zam<|wr'<|mw<|?_
  refine V' ((by first | exact v_not lk | exact Zax lk)) pt ?_
  refine sn' ?_
  refine Zdf lk (by rfl) ?_
  refine Zaf<|Zag<|Zam<|Zap<|wr'<|mw<|mw<|sn'<|?_
  refine ZdW lk (by rfl) ?_
  refine wr'<|Vw (Zab lk)<|Vw (Zac lk gx gt1)<|Vw (ZcZ lk)<|?_
  refine V' (ZbB lk lki om om) pt ?_
  refine mw<|sn'<|wr'<|ZaN mp (tera_e hokt eE gx) (hs6 hn) pt<|E' (ZaW (hl7 hn) ha7) pt<|E' (Zai lk cv gx rfl (nb' rfl) rfl ZiN (hs7 hn)) ptn<|sn'<|Zam<|Zoh [N+1]<|Dw (Zab lk)<|?_
  refine d_ldP lk gx (ld0 gt) (by simp) pt ?_
  refine Dw (v_mv lk)<|Dw (Zab lk)<|Dw (Zac lk gx gt1)<|Dw (v_mv lk)<|?_
  refine D' (v_iaO lk lk (hga hn rfl) (nb' rfl) om om (by rw[Zld];simp;omega)) pt ?_
  refine D' (ZbK lk) pt ?_
  refine D' (Zac lk gx (zc_at om)) pt ?_
  refine Dw (Zao lk gx ZiM rfl)<|Zmh rfl rfl (hlk hn rfl) (l_lit (ZiR cv rfl)) pt Ztm<|ZbO<|k_e_ent ZqA<|?_
  refine Zso rfl rfl (Zdm (Zct lk gx rfl ZjZ (nb' rfl)) lk gx (ZkN _) om rfl (hs5 hn)) (by intro i hi;simp only[cond_true,List.mem_cons,List.not_mem_nil,or_false] at hi;subst hi;first | rfl | exact (hga hn rfl).trans (hga hn rfl).symm) pt ?_
  refine ZpL rfl (v_iaO lk lk (hga hn rfl) (nb' rfl) om om (by rw[Zld];simp;omega)) pt ?_
  refine ZpL rfl (ZbK lk) pt ?_
  refine Zso rfl rfl (Zai lk cv (hga hn rfl) rfl (by rw[Zld];simp;omega) rfl (zc_set om) (hs3 hn)) (by intro i hi;simp at hi) ptn ?_
  refine Zsn<|Zag<|Zav<|?_
  by_cases hs68:ZcA x=true
  ·have hq:Zcy (curS sr (some z)) x=(curS (sr.1,sr.2.1++[(z.1,z.2++[x])],sr.2.2) none,false):=by rw[hw,hs68,ZeV];rfl
   refine Vw (Zab lk)<|Vw (Zac lk gx gt4)<|Vw (Zax lk)<|mw<|Zar<|Zaz<|Zag<|wr'<|Vw (Zab lk)<|Vw (Zac lk gx gt1)<|mw<|?_
   refine ZaF (t:=116) gt pt pt (fun hg116=>?_) (fun hg116=>?_)
   ·have hN:=Za6 hB (.inl hg116)
    refine s_no gt pt<|s_no gt pt<|s_no gt pt<|s_no gt pt<|Vw (Zak lk lkb)<|mw<|s_no gt pt<|s_no gt pt<|s_no gt pt<|s_no gt pt<|s_no gt pt<|s_no gt pt<|s_no gt pt<|Vw (Zak lk lkb)<|?_
    refine sn'<|ZaG lk<|Zam<|ZbZ<|u_fr rfl (Zau ZaE) pt<|u_fr rfl (v_mv lk) pt<|u_fr rfl (v_mv lk) pt<|?_
    refine u_fr rfl (ZaU lk lk Zbk (nb' rfl) ro om ro rfl) pt ?_
    refine u_fr rfl (Zbt lk dp0) pt<|u_fr rfl (ZaC lk gt) pt<|?_
    refine u_st (Zai lk cv gx rfl (nb' rfl) rfl ZaT (hs0 hn)) lk nh ptn ?_
    refine u_fr rfl (v_mv lk) pt<|u_fr rfl (v_mv lki) pt<|Zc0<|Zag<|Zaa<|Zaq<|Zah<|Zah<|Zaq<|Zah<|Zae (rsn (rm1 (rr_c gt gx (ld1 ZaR rfl)) (rm1 (rr_t gt) (rm1 (rr_t gt) rm0))))<|rtW'<|?_
    have hP:ZbG s=(srcZ,L[k].1,1):=by rw[hV,outP,hrun,hN]
    rw[hP];exact ZbJ
   refine s_do gt<|Vw (Zab lk)<|s_do gt<|Vw (Zac lk gx gt0)<|s_do gt<|Vw (ZaL lk)<|s_do gt<|Vw (ZbC lk lki)<|Vw (Zaj lk lk)<|mw<|?_
   refine sp' (t:=122) gt pt pt (fun hg122=>?_) (fun hg122=>?_)
   ·have hN:=Za6 hB (.inr (.inl (by intro e;rw[e] at hg122;exact absurd hg122 (by decide))))
    refine s_no gt pt<|s_no gt pt<|s_no gt pt<|s_no gt pt<|s_no gt pt<|s_no gt pt<|s_no gt pt<|Vw (Zak lk lkb)<|sn'<|ZaG lk<|Zam<|ZbZ<|u_fr rfl (Zau ZaE) pt<|?_
    refine u_fr rfl (v_mv lk) pt<|u_fr rfl (v_mv lk) pt<|?_
    refine u_fr rfl (ZaU lk lk Zbk (nb' rfl) ro om ro rfl) pt ?_
    refine u_fr rfl (Zbt lk dp0) pt<|u_fr rfl (ZaC lk gt) pt<|?_
    refine u_st (Zai lk cv gx rfl (nb' rfl) rfl ZaT (hs0 hn)) lk nh ptn ?_
    refine u_fr rfl (v_mv lk) pt<|u_fr rfl (v_mv lki) pt<|Zc0<|Zag<|Zaa<|Zaq<|Zah<|Zah<|Zaq<|Zah<|Zae (rsn (rm1 (rr_c gt gx (ld1 ZaR rfl)) (rm1 (rr_t gt) (rm1 (rr_t gt) rm0))))<|rtW'<|?_
    have hP:ZbG s=(srcZ,L[k].1,1):=by rw[hV,outP,hrun,hN]
    rw[hP];exact ZbJ
   refine s_do gt<|mw<|s_do gt<|mw<|s_do gt<|?_
   refine V' (ZaU lk lk Zbk (nb' rfl) ro om ro rfl) pt ?_
   refine s_do gt<|Vw (Zbt lk dp1)<|s_do gt<|Vw (ZaC lk gt)<|s_do gt<|mw<|s_do gt<|Vw (ZdM lk lk)<|Vw (Zaj lk lk)<|sn'<|?_
   refine cd' lk (fun hc8=>?_) (fun hc8=>?_)
   ·have hN:=Za6 hB (.inr (.inr (by simpa using hc8)))
    refine Zam<|ZbZ<|u_fr rfl (Zau ZaE) pt<|u_fr rfl (v_mv lk) pt<|u_fr rfl (v_mv lk) pt<|?_
    refine u_fr rfl (ZaU lk lk Zbk (nb' rfl) ro om ro rfl) pt ?_
    refine u_fr rfl (Zbt lk dp0) pt<|u_fr rfl (ZaC lk gt) pt<|?_
    refine u_st (Zai lk cv gx rfl (nb' rfl) rfl ZaT (hs0 hn)) lk nh ptn ?_
    refine u_fr rfl (v_mv lk) pt<|u_fr rfl (v_mv lki) pt<|Zc0<|Zag<|Zaa<|Zaq<|Zah<|Zah<|Zaq<|Zah<|Zae (rsn (rm1 (rr_c gt gx (ld1 ZaR rfl)) (rm1 (rr_t gt) (rm1 (rr_t gt) rm0))))<|rtW'<|?_
    have hP:ZbG s=(srcZ,L[k].1,1):=by rw[hV,outP,hrun,hN]
    rw[hP];exact ZbJ
   have hu1:u.2=false:=by simpa using hg116
   have hu2:u.1=[]:=List.eq_nil_of_length_eq_zero om
   have hS:=Zdq hB hu1 hu2 (by simpa using hc8)
   rw[hS] at hrun
   have hokq:=hPT.1
   rw[hB] at hokq
   refine Zaf<|Zaz<|?_
   refine Zba ((ALe.iceCellNew (ds:=rows eraC (z.2++[x])) (k:=sr.2.1.length*2+1) (ty2:=63) (st2:=10) gx gx om (zc_at rfl) (by rw[Za5,Zbv];exact List.take_of_length_le (by simp[ZkN,eC];omega)) (by simp[ZkN,eC];omega) zc_put (hs5 hn) (hs3 hn))) ?_
   refine Zav<|mw<|?_
   refine V' (Zay lk lki om om) pt ?_
   refine mw<|Zar<|ZaB<|?_
   refine lU' (⟨k+1,(sr.1,sr.2.1++[(z.1,z.2++[x])],sr.2.2),none,m,v1,v2,v3,v4+2⟩) (by (try dsimp only);rw[hq] at hrun hokq;exact⟨by omega,by simp;omega,by omega,by omega,by omega,by simp[eC],hokq,hrun⟩) (by (try dsimp only);(try simp only[sm',Nat.reduceAdd]);exact bkE' 6 hn hlt (by repeat (first | exact wk0 | refine wka ?_ | refine wk1 rfl ?_ | refine wk1 (by first | rfl | exact ivx om | (simp;done) | exact bvx (by have h9:=hs68;unfold ZcA at h9;rw[h9];rfl) | exact bvx (by have h9:=hs106;unfold ZcA at h9;rw[h9];rfl) | exact bvx (by have h9:=hs68;unfold ZcA at h9;rw[Bool.not_eq_true] at h9;rw[h9];rfl) | exact bvx (by have h9:=hs106;unfold ZcA at h9;rw[Bool.not_eq_true] at h9;rw[h9];rfl)) ?_)) (by simp only[zonC,Za5,Zbv,zC,eC,List.append_nil,List.length_append,List.length_singleton];rfl) (hT:=by first | rfl | (simp only[AV.lt,AV.ltL,Ent.lt,List.all_cons,List.all_nil,Bool.and_true,Bool.and_self,decide_true,Zbh,Zbr,Zbo,Zbq,ZbS,ZfI,ZgI,lt26,lt36,lt46,lt56];done) | exact lt') (hE:=by first | rfl | (simp only[AV.lt,AV.ltL,Ent.lt,List.all_cons,List.all_nil,Bool.and_true,Bool.and_self,decide_true,Zbh,Zbr,Zbo,Zbq,ZbS,ZfI,ZgI,lt26,lt36,lt46,lt56];done) | exact lt'))
  have hq:Zcy (curS sr (some z)) x=(curS sr (some (z.1,z.2++[x])),true):=by rw[hw,show ZcA x=false by simpa using hs68];rfl
  refine Vw (Zab lk)<|Vw (Zac lk gx gt4)<|Vw (Zax lk)<|mw<|Zar<|Zaz<|Zag<|wr'<|Vw (Zab lk)<|Vw (Zac lk gx gt1)<|mw<|?_
  refine ZaF (t:=116) gt pt pt (fun hg116=>?_) (fun hg116=>?_)
  ·have hN:=Za6 hB (.inl hg116)
   refine s_no gt pt<|s_no gt pt<|s_no gt pt<|s_no gt pt<|Vw (Zak lk lkb)<|mw<|s_no gt pt<|s_no gt pt<|s_no gt pt<|s_no gt pt<|s_no gt pt<|s_no gt pt<|s_no gt pt<|Vw (Zak lk lkb)<|?_
   refine sn'<|ZaG lk<|Zam<|ZbZ<|u_fr rfl (Zau ZaE) pt<|u_fr rfl (v_mv lk) pt<|u_fr rfl (v_mv lk) pt<|?_
   refine u_fr rfl (ZaU lk lk Zbk (nb' rfl) ro om ro rfl) pt ?_
   refine u_fr rfl (Zbt lk dp0) pt<|u_fr rfl (ZaC lk gt) pt<|?_
   refine u_st (Zai lk cv gx rfl (nb' rfl) rfl ZaT (hs0 hn)) lk nh ptn ?_
   refine u_fr rfl (v_mv lk) pt<|u_fr rfl (v_mv lki) pt<|Zc0<|Zag<|Zaa<|Zaq<|Zah<|Zah<|Zaq<|Zah<|Zae (rsn (rm1 (rr_c gt gx (ld1 ZaR rfl)) (rm1 (rr_t gt) (rm1 (rr_t gt) rm0))))<|rtW'<|?_
   have hP:ZbG s=(srcZ,L[k].1,1):=by rw[hV,outP,hrun,hN]
   rw[hP];exact ZbJ
  refine s_do gt<|Vw (Zab lk)<|s_do gt<|Vw (Zac lk gx gt0)<|s_do gt<|Vw (ZaL lk)<|s_do gt<|Vw (ZbC lk lki)<|Vw (Zaj lk lk)<|mw<|?_
  refine sp' (t:=122) gt pt pt (fun hg122=>?_) (fun hg122=>?_)
  ·have hN:=Za6 hB (.inr (.inl (by intro e;rw[e] at hg122;exact absurd hg122 (by decide))))
   refine s_no gt pt<|s_no gt pt<|s_no gt pt<|s_no gt pt<|s_no gt pt<|s_no gt pt<|s_no gt pt<|Vw (Zak lk lkb)<|sn'<|ZaG lk<|Zam<|ZbZ<|u_fr rfl (Zau ZaE) pt<|?_
   refine u_fr rfl (v_mv lk) pt<|u_fr rfl (v_mv lk) pt<|?_
   refine u_fr rfl (ZaU lk lk Zbk (nb' rfl) ro om ro rfl) pt ?_
   refine u_fr rfl (Zbt lk dp0) pt<|u_fr rfl (ZaC lk gt) pt<|?_
   refine u_st (Zai lk cv gx rfl (nb' rfl) rfl ZaT (hs0 hn)) lk nh ptn ?_
   refine u_fr rfl (v_mv lk) pt<|u_fr rfl (v_mv lki) pt<|Zc0<|Zag<|Zaa<|Zaq<|Zah<|Zah<|Zaq<|Zah<|Zae (rsn (rm1 (rr_c gt gx (ld1 ZaR rfl)) (rm1 (rr_t gt) (rm1 (rr_t gt) rm0))))<|rtW'<|?_
   have hP:ZbG s=(srcZ,L[k].1,1):=by rw[hV,outP,hrun,hN]
   rw[hP];exact ZbJ
  refine s_do gt<|mw<|s_do gt<|mw<|s_do gt<|?_
  refine V' (ZaU lk lk Zbk (nb' rfl) ro om ro rfl) pt ?_
  refine s_do gt<|Vw (Zbt lk dp1)<|s_do gt<|Vw (ZaC lk gt)<|s_do gt<|mw<|s_do gt<|Vw (ZdM lk lk)<|Vw (Zaj lk lk)<|sn'<|?_
  refine cd' lk (fun hc8=>?_) (fun hc8=>?_)
  ·have hN:=Za6 hB (.inr (.inr (by simpa using hc8)))
   refine Zam<|ZbZ<|u_fr rfl (Zau ZaE) pt<|u_fr rfl (v_mv lk) pt<|u_fr rfl (v_mv lk) pt<|?_
   refine u_fr rfl (ZaU lk lk Zbk (nb' rfl) ro om ro rfl) pt ?_
   refine u_fr rfl (Zbt lk dp0) pt<|u_fr rfl (ZaC lk gt) pt<|?_
   refine u_st (Zai lk cv gx rfl (nb' rfl) rfl ZaT (hs0 hn)) lk nh ptn ?_
   refine u_fr rfl (v_mv lk) pt<|u_fr rfl (v_mv lki) pt<|Zc0<|Zag<|Zaa<|Zaq<|Zah<|Zah<|Zaq<|Zah<|Zae (rsn (rm1 (rr_c gt gx (ld1 ZaR rfl)) (rm1 (rr_t gt) (rm1 (rr_t gt) rm0))))<|rtW'<|?_
   have hP:ZbG s=(srcZ,L[k].1,1):=by rw[hV,outP,hrun,hN]
   rw[hP];exact ZbJ
  have hu1:u.2=false:=by simpa using hg116
  have hu2:u.1=[]:=List.eq_nil_of_length_eq_zero om
  have hS:=Zdq hB hu1 hu2 (by simpa using hc8)
  rw[hS] at hrun
  have hokq:=hPT.1
  rw[hB] at hokq
  refine Zaf<|Zaz<|Zag<|Zav<|mw<|?_
  refine V' (Zay lk lki om om) pt ?_
  refine mw<|Zar<|ZaB<|?_
  refine lU' (⟨k+1,sr,some (z.1,z.2++[x]),m,v1,v2,v3,v4+1⟩) (by (try dsimp only);rw[hq] at hrun hokq;exact⟨by omega,by simp;omega,by omega,by omega,by omega,by simp[eC] at hk5 ⊢;omega,hokq,hrun⟩) (by (try dsimp only);(try simp only[sm',Nat.reduceAdd]);exact bkE' 6 hn hlt (by repeat (first | exact wk0 | refine wka ?_ | refine wk1 rfl ?_ | refine wk1 (by first | rfl | exact ivx om | (simp;done) | exact bvx (by have h9:=hs68;unfold ZcA at h9;rw[h9];rfl) | exact bvx (by have h9:=hs106;unfold ZcA at h9;rw[h9];rfl) | exact bvx (by have h9:=hs68;unfold ZcA at h9;rw[Bool.not_eq_true] at h9;rw[h9];rfl) | exact bvx (by have h9:=hs106;unfold ZcA at h9;rw[Bool.not_eq_true] at h9;rw[h9];rfl)) ?_)) (by simp only[zonC,Za5,Zbv,zC,eC,List.append_nil,List.length_append,List.length_singleton];rfl) (hT:=by first | rfl | (simp only[AV.lt,AV.ltL,Ent.lt,List.all_cons,List.all_nil,Bool.and_true,Bool.and_self,decide_true,Zbh,Zbr,Zbo,Zbq,ZbS,ZfI,ZgI,lt26,lt36,lt46,lt56];done) | exact lt') (hE:=by first | rfl | (simp only[AV.lt,AV.ltL,Ent.lt,List.all_cons,List.all_nil,Bool.and_true,Bool.and_self,decide_true,Zbh,Zbr,Zbo,Zbq,ZbS,ZfI,ZgI,lt26,lt36,lt46,lt56];done) | exact lt'))
 have hke:k=L.length:=by omega
 rw[List.drop_of_length_le om,runR] at hrun
 have hV2:ZbG s=endP (curS sr o,o.isSome):=by rw[hV,outP,hrun]
 refine ZaM<|ZaD<|ZaD<|Zbb<|Zag<|Zam<|wr'<|mw<|sn'<|?_
 refine cd' lk (fun hc9=>?_) (fun hc9=>?_)
 ·have hP:ZbG s=(srcZ,0,1):=by rw[hV2];exact if_pos hc9
  refine wr'<|Vw (Zau Zhy)<|E' (Zai lk cv gx rfl (nb' rfl) rfl ZaT (hs0 hn)) ptn<|mw<|mw<|sn'<|Zaa<|Zah<|Zae (rsn (rm1 (rr_c gt gx (ld1 ZaR rfl)) (rm1 (rr_t gt) (rm1 (rr_t gt) rm0))))<|rtW'<|?_
  rw[hP];exact ZbJ
 obtain rfl:o=none:=by cases o;rfl;cases hc9
 have hm':m=sr.2.1.length:=by simpa using hm
 subst hm'
 rw[ZeV] at hok hV2
 refine Zaf ?_
 refine Zba ((ALe.trans (ALe.iceCellR (ds:=rows rulC sr.1) gx gx om gt0 (List.take_of_length_le (by rw[Zm2];exact Nat.le_refl _)) (by rw[Zm2];exact Nat.le_refl _) pt0 (hs2 hn) (hs1 hn)) (ALe.trans (ALe.iceCellR (ds:=rows zonC sr.2.1) gx gx om gt1 (by rw[show rows zonC sr.2.1++zC N v4 none=rows zonC sr.2.1 from List.append_nil _];exact List.take_of_length_le (by rw[ZgH];exact Nat.le_refl _)) (by rw[Zld];simp) pt1 (hs3 hn) (hs1 hn)) (ALe.iceCellR (ds:=rows lnkC sr.2.2) gx gx om gt2 (List.take_of_length_le (by rw[Znh];exact Nat.le_refl _)) (by rw[Znh];exact Nat.le_refl _) pt2 (hs4 hn) (hs1 hn))))) ?_
 refine wr'<|Vw (Zao lk gx ZaR rfl)<|Zad mp (ZrJ (a:=sr.1) (z:=sr.2.1) (l:=sr.2.2) hok) pt<|mw<|sn'<|Zam<|wr'<|mw<|Vw (ZaX lk lki)<|sn'<|?_
 refine cd' lk (fun hc10=>?_) (fun hc10=>?_)
 ·have hP:ZbG s=(srcZ,0,ZbP sr):=by rw[hV2,endP,if_neg (by simp)];exact if_pos hc10
  refine wr'<|Vw (Zau Zhx)<|mw<|E' (Zai lk cv gx rfl (nb' rfl) rfl ZaT (hs0 hn)) ptn<|mw<|mw<|sn'<|Zaa<|Zah<|Zae (rsn (rm1 (rr_c gt gx (ld1 ZaR rfl)) (rm1 (rr_t gt) (rm1 (rr_t gt) rm0))))<|rtW'<|?_
  rw[hP];exact ZbJ
 have h0:ZbP sr=0:=Decidable.of_not_not hc10
 have hP:ZbG s=(sr,0,0):=by rw[hV2,endP,if_neg (by simp)];exact if_neg hc10
 refine Zaf<|Zag<|wr'<|Vw (Zao lk gx ZaR rfl)<|mw<|E' (Zai lk cv gx rfl (nb' rfl) rfl ZaT (hs0 hn)) ptn<|mw<|mw<|sn'<|Zaa<|Zae (rsn (rm1 (rr_c gt gx (ld1 ZaR rfl)) (rm1 (rr_t gt) (rm1 (rr_t gt) rm0))))<|rtW'<|?_
 rw[hP];exact Wk.tup (wk1 rfl (wk1 rfl (wk1 (ivx h0.symm) wk0)))
end Go.Proofs.YtlekejpogddndaaGreatDoor
end
section
namespace Go.Proofs.YtlekejpogddndaaGreatDoor
open Go.Ab Go.RowKit Civ
attribute [local simp] Zbh Zbr Zbo Zbq Zb5 ZdG ZdO ZbS
section
theorem ZjT {a0 a1 a2 c0 c1 c2:AV}{l:List AV}:setCells (a0::a1::a2::l) 0 [c0,c1,c2]=c0::c1::c2::l:=rfl
theorem ZjS {a0 a1 a2:AV}{l:List AV}:((a0::a1::a2::l).drop 0).take 3=[a0,a1,a2]:=rfl
end
def c63:AC:=(Sr [Oo 0 (.new 26 3 [(.sl 0 0 true []),(.sl 0 0 true []),(.sl 0 0 true [])])] (Sr [Oo 5 (.call (.func 130) [(.const (.string ⟨#[82,117,108,101,32,101,117,32,49,57,56,49,32,109,97,120,32,77,97,114,32,108,97,115,116,83,117,110,32,49,58,48,48,117,32,49,58,48,48,32,83,10,82,117,108,101,32,101,117,32,49,57,57,54,32,109,97,120,32,79,99,116,32,108,97,115,116,83,117,110,32,49,58,48,48,117,32,48,32,45,10,90,111,110,101,32,72,101,114,101,47,84,111,119,110,32,48,58,49,48,32,45,32,76,77,84,32,49,56,56,48,32,74,97,110,32,49,32,48,10,32,32,49,58,48,48,32,101,117,32,67,69,37,115,84,10,76,105,110,107,32,72,101,114,101,47,84,111,119,110,32,79,108,100,10]⟩))]),Mv 4 5,Ex 6 4 0,Ex 7 4 1,Ex 8 4 2,Oo 1 (.new 26 3 [(.sl 0 0 true []),(.sl 0 0 true []),(.sl 0 0 true [])]),⟨none,none,(.store 3 (.tmp 1) (.tmp 6))⟩,Mv 2 7,Mv 3 8] (Sr [Oo 9 (.load true 3 (.tmp 1)),⟨none,none,(.store 3 (.tmp 0) (.tmp 9))⟩] .ret)))
theorem k63:ZaA Tryz.prog 63=some ⟨c63,[(.cell 0 true 3)],10⟩:=by kernel_rfl
def txtS:Bs:=[82,117,108,101,32,101,117,32,49,57,56,49,32,109,97,120,32,77,97,114,32,108,97,115,116,83,117,110,32,49,58,48,48,117,32,49,58,48,48,32,83,10,82,117,108,101,32,101,117,32,49,57,57,54,32,109,97,120,32,79,99,116,32,108,97,115,116,83,117,110,32,49,58,48,48,117,32,48,32,45,10,90,111,110,101,32,72,101,114,101,47,84,111,119,110,32,48,58,49,48,32,45,32,76,77,84,32,49,56,56,48,32,74,97,110,32,49,32,48,10,32,32,49,58,48,48,32,101,117,32,67,69,37,115,84,10,76,105,110,107,32,72,101,114,101,47,84,111,119,110,32,79,108,100,10]
def nEu:ByteArray:=bA [101,117]
def nHt:ByteArray:=bA [72,101,114,101,47,84,111,119,110]
def nOld:ByteArray:=bA [79,108,100]
def rul0:List Rul:=[(nEu,1981,2100,3,(2,0,0),3600,3,3600,bA [83]),(nEu,1996,2100,10,(2,0,0),3600,3,0,bA [])]
def era0:Era:=(600,bA [],0,bA [76,77,84],false,((1880,1,1),0,2))
def era1:Era:=(3600,nEu,0,bA [67,69,37,115,84],true,((0,0,0),0,0))
def src0:Src:=(rul0,[(nHt,[era0,era1])],[(nHt,nOld)])
theorem prs0:ZbG (bA txtS)=(src0,0,0):=by kernel_rfl
theorem Zei:ZeL src0:=by
 refine⟨fun r hr=>?_,fun z hz=>?_,fun l hl=>?_⟩
 ·simp only[src0,rul0,List.mem_cons,List.not_mem_nil,or_false] at hr
  rcases hr with rfl | rfl <;> exact⟨by decide,by decide⟩
 ·simp only[src0,List.mem_cons,List.not_mem_nil,or_false] at hz
  subst hz
  refine⟨by decide,fun x hx=>?_⟩
  simp only[List.mem_cons,List.not_mem_nil,or_false] at hx
  rcases hx with rfl | rfl <;> exact⟨by decide,by decide⟩
 simp only[src0,List.mem_cons,List.not_mem_nil,or_false] at hl
 subst hl;exact⟨by decide,by decide⟩
theorem rp_txt {h:AH}:Ac 130 [sv (bA txtS)] h (.tup [.agg (srcC src0),iv 0,iv 0]):=by
 have:=rparse_a (s:=bA txtS) (h:=h)
 rw[prs0] at this
 exact this
theorem Zdj {h:AH}:Ac 63 [] h (.agg (srcC src0)):=by
 refine tI' k63 fun N hn hlt hlA hbd=>?_
 simp only[tb'] at hbd ⊢
 refine wr'<|E' (ZaW (hl0 hn) ha0) pt<|sn'<|wr'<|Zad mp (rp_txt) pt<|mw<|Vw (ZaS lk gt)<|Vw (ZaS lk gt)<|Vw (ZaS lk gt)<|E' (ZaW (hl1 hn) ha1) pt<|E' (Zai lk cv gx rfl (nb' rfl) rfl ZjT (hs1 hn)) ptn<|?_
 exact mw<|mw<|sn'<|wr'<|Vw (Zao lk gx ZjS rfl)<|E' (Zai lk cv gx rfl (nb' rfl) rfl ZjT (hs0 hn)) ptn<|sn'<|Zaa<|Zae (rs1 (rr_c gt gx (ld1 ZjS rfl)))<|rT' rfl
def insT (t:Trn):List Trn→List Trn
 | []=>[t]
 | u::l=>if t.1≤u.1 then t::u::l else u::insT t l
def insS:List Trn→List Trn
 | []=>[]
 | t::l=>insT t (insS l)
theorem Zir (t:Trn) : ∀ l:List Trn,(insT t l).Perm (t::l)
 | []=>.refl _
 | u::l=>by
  rw[insT]
  split
  ·exact .refl _
  exact ((Zir t l).cons u).trans (List.Perm.swap t u l)
theorem Zl5 : ∀ l:List Trn,(insS l).Perm l
 | []=>.refl _
 | t::l=>(Zir t _).trans ((Zl5 l).cons t)
theorem ZoV {t:Trn} : ∀ {l:List Trn},l.Pairwise (fun a b=>a.1≤b.1)→(insT t l).Pairwise fun a b=>a.1≤b.1
 | [],_=>by simp[insT]
 | u::l,h=>by
  rw[insT]
  rw[List.pairwise_cons] at h
  split
  ·rename_i hle
   refine List.pairwise_cons.2 ⟨fun x hx=>?_,List.pairwise_cons.2 h⟩
   rcases List.mem_cons.1 hx with rfl | hx
   ·exact hle
   have:=h.1 x hx;omega
  rename_i hle
  refine List.pairwise_cons.2 ⟨fun x hx=>?_,ZoV h.2⟩
  rcases List.mem_cons.1 ((Zir t l).mem_iff.1 hx) with rfl | hx
  ·omega
  exact h.1 x hx
theorem ZoW : ∀ l:List Trn,(insS l).Pairwise fun a b=>a.1≤b.1
 | []=>.nil
 | t::l=>ZoV (ZoW l)
def Zc2 (l:List Rul) (nm:ByteArray) (sh:Int):List Tim×Int :=
 if ZdE l nm sh≠0 then ([],ZdE l nm sh) else if gapB (insS (Zbg l nm))=true then ([],4) else if 1000<(insS (Zbg l nm)).length then ([],2) else (outV sh 0 (insS (Zbg l nm)),0)
theorem ZhX (l:List Rul) (nm:ByteArray) (sh:Int):Za8 l nm sh=Zc2 l nm sh:=by
 unfold Zc2
 by_cases h:ZdE l nm sh=0
 ·rw[if_neg (by simp[h]),Zos h (Zl5 _) (ZoW _)]
 rw[if_pos h,Zln h]
theorem Zou:(Zc2 rul0 nEu 3600).2=0:=by kernel_rfl
theorem Zot:(Zc2 rul0 nEu 3600).1.length=225:=by kernel_rfl
theorem tim0_15:(Zc2 rul0 nEu 3600).1[15]?=some (828234000,3600,bA [83]):=by kernel_rfl
theorem tim0_us:(Zc2 rul0 (bA [117,115]) 3600)=([],5):=by kernel_rfl
theorem chk0:Zb6 src0=0:=by
 have h1:ZbP src0=0:=by kernel_rfl
 have h2:(Zde src0.2.1 src0.2.2).Nodup:=by decide
 have h3:Zi4 src0=false:=by kernel_rfl
 have h4:Za1 (errX src0.1) (Zdc src0.2.1)=0:=by
  refine Zns fun y hy=>?_
  simp only[src0,Zdc,List.flatMap_cons,List.flatMap_nil,List.append_nil,List.mem_cons,List.not_mem_nil,or_false] at hy
  rcases hy with rfl | rfl
  ·rfl
  show (if nEu=⟨#[]⟩ then 0 else (Za8 rul0 nEu 3600).2)=0
  rw[ZhX,Zou];split <;> rfl
 have h5:(src0.2.1.any fun z=>!risL (Zb1 z.2))=false:=by kernel_rfl
 unfold Zb6
 rw[if_neg (by simp[h1]),if_neg (by simpa using h2),if_neg (by simp[h3]),if_neg (by simp[h4]),if_neg (by simp[h5])]
end Go.Proofs.YtlekejpogddndaaGreatDoor
end
section
namespace Go.Proofs.YtlekejpogddndaaGreatDoor
open Go.Ab Go.RowKit Civ
attribute [local simp] Zbh Zbr Zbo Zbq Zb5 ZdG ZdO ZbS
section
theorem Ztc {a0 a1 a2:AV}{l:List AV}:(a0::a1::a2::l).take 3=[a0,a1,a2]:=rfl
theorem Zg4 {τ:Operand→AV}{y0 y1 y2:Operand}{x0_0 x1_0 x2_0:AV}(h0:Zat (τ y0)=some [x0_0]) (l0:[x0_0].all leaf=true) (h1:Zat (τ y1)=some [x1_0]) (l1:[x1_0].all leaf=true) (h2:Zat (τ y2)=some [x2_0]) (l2:[x2_0].all leaf=true):Zas τ [(0,1,y0),(1,1,y1),(2,1,y2)] [(.v (.int .i64 0)),(.v (.int .i64 0)),(.v (.string ⟨#[]⟩))]=some [x0_0,x1_0,x2_0]:=by
 simp only[Zas,h0,l0,h1,l1,h2,l2]
 rfl
theorem ZfP {a0 b0:Int}{a1 b1:Int}{a2 b2:ByteArray}:Zbs [.int,.int,.str] [iv a0,iv a1,sv a2] [iv b0,iv b1,sv b2]=some (decide (a0=b0∧a1=b1∧a2=b2)):=by
 simp only[Zbs,Zd9,if_true,Zc6,Option.some.injEq]
 simp only[Bool.decide_and,Bool.and_true]
 try (congr 1 <;> simp)
 try rfl
theorem Zqa {a0 a1 c0 c1:AV}{l:List AV}:setCells (a0::a1::l) 0 [c0,c1]=c0::c1::l:=rfl
theorem Zg3 {a0 a1 a2 c0 c1 c2:AV}{l:List AV}:setCells (a0::a1::a2::l) 0 [c0,c1,c2]=c0::c1::c2::l:=rfl
theorem ZjR {a0 a1 a2:AV}{l:List AV}:((a0::a1::a2::l).drop 0).take 3=[a0,a1,a2]:=rfl
theorem Zg2 {τ:Operand→AV}{y0 y1 y2:Operand}{x0_0 x1_0 x2_0:AV}(h0:Zat (τ y0)=some [x0_0]) (l0:[x0_0].all leaf=true) (h1:Zat (τ y1)=some [x1_0]) (l1:[x1_0].all leaf=true) (h2:Zat (τ y2)=some [x2_0]) (l2:[x2_0].all leaf=true):Zas τ [(0,1,y0),(1,1,y1),(2,1,y2)] [(.v (.int .i64 0)),(.v (.int .i64 0)),(.v (.string ⟨#[]⟩))]=some [x0_0,x1_0,x2_0]:=by
 simp only[Zas,h0,l0,h1,l1,h2,l2]
 rfl
theorem Zg1 {τ:Operand→AV}{y0 y1:Operand}{x0_0 x1_0:AV}(h0:Zat (τ y0)=some [x0_0]) (l0:[x0_0].all leaf=true) (h1:Zat (τ y1)=some [x1_0]) (l1:[x1_0].all leaf=true):Zas τ [(0,1,y0),(2,1,y1)] [(.v (.int .i64 0)),(.v (.int .i64 0)),(.v (.string ⟨#[]⟩))]=some [x0_0,(.v (.int .i64 0)),x1_0]:=by
 simp only[Zas,h0,l0,h1,l1]
 rfl
end
def c29:AC:=(Sr [Mb 0 false] (Sr [Cl 6 63 [],Oo 7 (.fld false 0 1 (.tmp 6)),Oo 8 (.call (.func 31) [(.tmp 7),(.const (.string ⟨#[101,117]⟩)),(Ci 3600)]),Mv 5 8,Ex 9 5 0,Ex 10 5 1,Mv 1 9,Mv 2 10] (Sr [Cl 12 63 [],Oo 13 (.fld false 0 1 (.tmp 12)),Oo 14 (.call (.func 31) [(.tmp 13),(.const (.string ⟨#[117,115]⟩)),(Ci 3600)]),Mv 11 14,Ex 15 11 0,Ex 16 11 1,Mv 3 15,Mv 4 16] (Sr [Mv 17 2,Bc 18 .eql 17 0,Mv 19 18,Ot 20 19 (mt 4),Ot 21 19 (.bin .eql (.tmp 20) (Ci 5)),Oo 22 (.pick (.tmp 19) (.tmp 21) (.const (.bool false))),Mv 23 22,Ot 24 23 (mt 1),Ot 25 23 (.len false (.tmp 24)),Ot 26 23 (.bin .eql (.tmp 25) (Ci 225)),Oo 27 (.pick (.tmp 23) (.tmp 26) (.const (.bool false))),Mv 28 27,Ot 29 28 (mt 1),Ot 30 28 (.ia 3 (.tmp 29) (Ci 15)),Ot 31 28 (.load true 3 (.tmp 30)),Ot 32 28 (.build [(iv 0),(iv 0),Ss] [(0,(1,(Ci 828234000))),(1,(1,(Ci 3600))),(2,(1,(.const (.string ⟨#[83]⟩))))]),Ot 33 28 (.eqs false [.int,.int,.str] (.tmp 31) (.tmp 32)),Oo 34 (.pick (.tmp 28) (.tmp 33) (.const (.bool false))),Mv 0 34] .ret))))
theorem k29:ZaA Tryz.prog 29=some ⟨c29,[(.tmp 0)],35⟩:=by kernel_rfl
def c15:AC:=(Sr [Mb 0 false] (Sr [Cl 12 63 [],Oo 13 (.call (.func 30) [(.tmp 12),(.const (.string ⟨#[79,108,100]⟩))]),Mv 11 13,Ex 14 11 0,Ex 15 11 1,Oo 1 (.new 53 2 [Ss,(.sl 0 0 true [])]),⟨none,none,(.store 2 (.tmp 1) (.tmp 14))⟩,Mv 2 15] (Sr [Cl 17 63 [],Oo 18 (.call (.func 64) [(.tmp 17),(.const (.string ⟨#[72,101,114,101,47,84,111,119,110]⟩))]),Mv 16 18,Ex 19 16 0,Ex 20 16 1,Mv 3 19,Mv 4 20] (Sr [Cl 22 63 [],Oo 23 (.call (.func 16) [(.tmp 22),(.const (.string ⟨#[79,108,100]⟩)),(Ci 1585443600)]),Mv 21 23,Ex 24 21 0,Ex 25 21 1,Oo 5 (.new 29 3 [(iv 0),(iv 0),Ss]),⟨none,none,(.store 3 (.tmp 5) (.tmp 24))⟩,Mv 6 25] (Sr [Cl 27 63 [],Oo 28 (.call (.func 16) [(.tmp 27),(.const (.string ⟨#[79,108,100]⟩)),(Ci 1585443599)]),Mv 26 28,Ex 29 26 0,Ex 30 26 1,Oo 7 (.new 29 3 [(iv 0),(iv 0),Ss]),⟨none,none,(.store 3 (.tmp 7) (.tmp 29))⟩,Mv 8 30] (Sr [Cl 32 63 [],Oo 33 (.call (.func 16) [(.tmp 32),(.const (.string ⟨#[78,101,119]⟩)),(Ci 0)]),Mv 31 33,Ex 34 31 0,Ex 35 31 1,Oo 9 (.new 29 3 [(iv 0),(iv 0),Ss]),⟨none,none,(.store 3 (.tmp 9) (.tmp 34))⟩,Mv 10 35] (Sr [Cl 36 63 [],Cl 37 65 [(.tmp 36)],Bc 38 .eql 37 0,Mv 39 38,Ot 40 39 (mt 2),Ot 41 39 (.bin .eql (.tmp 40) (Ci 0)),Oo 42 (.pick (.tmp 39) (.tmp 41) (.const (.bool false))),Mv 43 42,Ot 44 43 (mt 4),Ot 45 43 (.bin .eql (.tmp 44) (Ci 0)),Oo 46 (.pick (.tmp 43) (.tmp 45) (.const (.bool false))),Mv 47 46,Ot 48 47 (mt 6),Ot 49 47 (.bin .eql (.tmp 48) (Ci 0)),Oo 50 (.pick (.tmp 47) (.tmp 49) (.const (.bool false))),Mv 51 50,Ot 52 51 (mt 8),Ot 53 51 (.bin .eql (.tmp 52) (Ci 0)),Oo 54 (.pick (.tmp 51) (.tmp 53) (.const (.bool false))),Mv 55 54,Ot 56 55 (mt 10),Ot 57 55 (.bin .eql (.tmp 56) (Ci 5)),Oo 58 (.pick (.tmp 55) (.tmp 57) (.const (.bool false))),Mv 59 58,Ot 60 59 (.fa 0 (.tmp 1)),Ot 61 59 (.load false 1 (.tmp 60)),Ot 62 59 (.bin .eql (.tmp 61) (.const (.string ⟨#[72,101,114,101,47,84,111,119,110]⟩))),Oo 63 (.pick (.tmp 59) (.tmp 62) (.const (.bool false))),Mv 64 63,Ot 65 64 (mt 3),Ot 66 64 (.len false (.tmp 65)),Ot 67 64 (.bin .eql (.tmp 66) (Ci 1)),Oo 68 (.pick (.tmp 64) (.tmp 67) (.const (.bool false))),Mv 69 68,Ot 70 69 (mt 3),Ot 71 69 (.ia 1 (.tmp 70) (Ci 0)),Ot 72 69 (.load false 1 (.tmp 71)),Ot 73 69 (.bin .eql (.tmp 72) (.const (.int .i64 (-2840141400)))),Oo 74 (.pick (.tmp 69) (.tmp 73) (.const (.bool false))),Mv 75 74,Ot 76 75 (.load true 3 (.tmp 5)),Ot 77 75 (.build [(iv 0),(iv 0),Ss] [(0,(1,(Ci 7200))),(1,(1,(Ci 3600))),(2,(1,(.const (.string ⟨#[67,69,83,84]⟩))))]),Ot 78 75 (.eqs false [.int,.int,.str] (.tmp 76) (.tmp 77)),Oo 79 (.pick (.tmp 75) (.tmp 78) (.const (.bool false))),Mv 80 79,Ot 81 80 (.load true 3 (.tmp 7)),Ot 82 80 (.build [(iv 0),(iv 0),Ss] [(0,(1,(Ci 3600))),(2,(1,(.const (.string ⟨#[67,69,84]⟩))))]),Ot 83 80 (.eqs false [.int,.int,.str] (.tmp 81) (.tmp 82)),Oo 84 (.pick (.tmp 80) (.tmp 83) (.const (.bool false))),Mv 0 84] .ret)))))))
theorem k15:ZaA Tryz.prog 15=some ⟨c15,[(.tmp 0)],85⟩:=by kernel_rfl
theorem rtimes0 {h:AH}:Ac 31 [.sl 2 11 false (rows rulC rul0),sv nEu,iv 3600] h (.tup [.sl (Zc2 rul0 nEu 3600).1.length 3 false (rows timC (Zc2 rul0 nEu 3600).1),iv (Zc2 rul0 nEu 3600).2]):=by
 have:=ZhW (l:=rul0) (nm:=nEu) (sh:=3600) (h:=h) (ZgT Zei) (by decide)
 rwa [ZhX] at this
theorem rtimes1 {h:AH}:Ac 31 [.sl 2 11 false (rows rulC rul0),sv (bA [117,115]),iv 3600] h (.tup [.sl ([]:List Tim).length 3 false (rows timC []),iv 5]):=by
 have:=ZhW (l:=rul0) (nm:=bA [117,115]) (sh:=3600) (h:=h) (ZgT Zei) (by decide)
 rwa [ZhX,tim0_us] at this
theorem tim0_l15 : ∃ h:15<(Zc2 rul0 nEu 3600).1.length,(Zc2 rul0 nEu 3600).1[15]=(828234000,3600,bA [83]):=by
 have h:15<(Zc2 rul0 nEu 3600).1.length:=by rw[Zot];decide
 exact⟨h,by have:=tim0_15;rw[List.getElem?_eq_getElem h] at this;exact Option.some.inj this⟩
theorem rbegun_a {h:AH}:Ac 29 [] h (bv true):=by
 obtain⟨hl15,h15⟩:=tim0_l15
 refine tI' k29 fun N hn hlt hlA hbd=>?_
 simp only[tb'] at hbd ⊢
 refine wr'<|mw<|sn'<|wr'<|Zad mp0 (Zdj) pt<|Vw (v_fld lk gt)<|Zad mp (rtimes0) pt<|mw<|Vw (ZaS lk gt)<|Vw (ZaS lk gt)<|mw<|?_
 refine mw<|sn'<|wr'<|Zad mp0 (Zdj) pt<|Vw (v_fld lk gt)<|Zad mp (rtimes1) pt<|mw<|Vw (ZaS lk gt)<|Vw (ZaS lk gt)<|mw<|mw<|Zar<|?_
 refine Zag<|wr'<|mw<|Vw (ZaQ lk lki)<|mw<|?_
 refine ZcK (t:=19) gt (b:=true) (by exact decide_eq_true Zou) pt ?_
 refine s_do gt<|mw<|s_do gt<|Vw (ZaQ lk lki)<|Vw (Zak lk lk)<|mw<|?_
 refine ZcK (t:=23) gt (b:=true) (by rfl) pt ?_
 refine s_do gt<|mw<|s_do gt<|Vw (ZaL lk)<|s_do gt<|Vw (ZaQ lk lki)<|Vw (Zak lk lk)<|mw<|?_
 refine ZcK (t:=28) gt (b:=true) (by exact decide_eq_true (by rw[Zot];rfl)) pt ?_
 refine s_do gt<|mw<|s_do gt<|?_
 refine V' (ZaU (k:=15) lk lki Zkj (nb' rfl) ro om ro rfl) pt ?_
 refine s_do gt<|Vw (ZaI lk Ztc rfl)<|s_do gt<|Vw (Zau (Zg4 (cvl lki rfl) rfl (cvl lki rfl) rfl (cvl lks rfl) rfl))<|s_do gt<|Vw (Zhd lk lk ZfP)<|Vw (Zak lk lk)<|mw<|sn'<|Zaa<|Zae rz<|rT'<|?_
 exact bvx (by rw[h15];rfl)
theorem find0:Za7 src0 nOld=((nHt,[era0,era1]),0):=by
 unfold Za7;rw[if_neg (by simp[chk0])];kernel_rfl
theorem find1:Za7 src0 nHt=((nHt,[era0,era1]),0):=by
 unfold Za7;rw[if_neg (by simp[chk0])];kernel_rfl
theorem find2:Za7 src0 (bA [78,101,119])=(zonO,5):=by
 unfold Za7;rw[if_neg (by simp[chk0])];kernel_rfl
theorem told0 {n:Int}(h:endV era0≤n):Zcb rul0 [era0,era1] n=locV era1 (Zdi 0 ⟨#[]⟩ (Zc2 rul0 nEu 3600).1 n).1 (Zdi 0 ⟨#[]⟩ (Zc2 rul0 nEu 3600).1 n).2:=by
 rw[Zcb,if_pos h,Zcb]
 unfold Zgl
 have:Za3 rul0 era1=(Zc2 rul0 nEu 3600).1:=by
  unfold Za3
  rw[if_neg (by decide),ZhX];rfl
 rw[this];rfl
theorem at0:atV src0 nOld 1585443600=((7200,3600,bA [67,69,83,84]),0):=by
 unfold atV
 rw[find0]
 simp only[ne_eq,not_true_eq_false,if_false]
 rw[if_neg (by decide)]
 show (Zcb rul0 [era0,era1] 1585443600,(0:Int))=_
 rw[told0 (by decide)]
 kernel_rfl
theorem at1:atV src0 nOld 1585443599=((3600,0,bA [67,69,84]),0):=by
 unfold atV
 rw[find0]
 simp only[ne_eq,not_true_eq_false,if_false]
 rw[if_neg (by decide)]
 show (Zcb rul0 [era0,era1] 1585443599,(0:Int))=_
 rw[told0 (by decide)]
 kernel_rfl
theorem at2:atV src0 (bA [78,101,119]) 0=(locZ,5):=by
 unfold atV
 rw[find2];rfl
theorem zf0 {h:AH}:Ac 30 [.agg (srcC src0),sv nOld] h (.tup [.agg (zonC (nHt,[era0,era1])),iv 0]):=by
 have:=ZmP (a:=src0.1) (z:=src0.2.1) (k:=src0.2.2) (nm:=nOld) (h:=h) Zei
 rw[show (src0.1,src0.2.1,src0.2.2)=src0 from rfl,find0] at this
 exact this
theorem ze0 {h:AH}:Ac 64 [.agg (srcC src0),sv nHt] h (.tup [.sl 1 1 false (rows intC [-2840141400]),iv 0]):=by
 have:=zends_a (a:=src0.1) (z:=src0.2.1) (k:=src0.2.2) (nm:=nHt) (h:=h) Zei
 rw[show (src0.1,src0.2.1,src0.2.2)=src0 from rfl,find1,show Zb1 ((nHt,[era0,era1]),(0:Int)).1.2=[-2840141400] from by kernel_rfl] at this
 exact this
theorem za0 {h:AH}:Ac 16 [.agg (srcC src0),sv nOld,iv 1585443600] h (.tup [.agg (locC3 (7200,3600,bA [67,69,83,84])),iv 0]):=by
 have:=at_a (a:=src0.1) (z:=src0.2.1) (k:=src0.2.2) (nm:=nOld) (n:=1585443600) (h:=h) Zei
 rw[show (src0.1,src0.2.1,src0.2.2)=src0 from rfl,at0] at this
 exact this
theorem za1 {h:AH}:Ac 16 [.agg (srcC src0),sv nOld,iv 1585443599] h (.tup [.agg (locC3 (3600,0,bA [67,69,84])),iv 0]):=by
 have:=at_a (a:=src0.1) (z:=src0.2.1) (k:=src0.2.2) (nm:=nOld) (n:=1585443599) (h:=h) Zei
 rw[show (src0.1,src0.2.1,src0.2.2)=src0 from rfl,at1] at this
 exact this
theorem za2 {h:AH}:Ac 16 [.agg (srcC src0),sv (bA [78,101,119]),iv 0] h (.tup [.agg (locC3 locZ),iv 5]):=by
 have:=at_a (a:=src0.1) (z:=src0.2.1) (k:=src0.2.2) (nm:=bA [78,101,119]) (n:=0) (h:=h) Zei
 rw[show (src0.1,src0.2.1,src0.2.2)=src0 from rfl,at2] at this
 exact this
theorem zc0 {h:AH}:Ac 65 [.agg (srcC src0)] h (iv 0):=by
 have:=Zof (a:=src0.1) (z:=src0.2.1) (k:=src0.2.2) (h:=h) Zei
 rw[show (src0.1,src0.2.1,src0.2.2)=src0 from rfl,chk0] at this
 exact this
theorem zbegun_a {h:AH}:Ac 15 [] h (bv true):=by
 refine tI' k15 fun N hn hlt hlA hbd=>?_
 simp only[tb'] at hbd ⊢
 refine wr'<|mw<|sn'<|wr'<|Zad mp0 (Zdj) pt<|Zad mp (zf0) pt<|mw<|Vw (ZaS lk gt)<|Vw (ZaS lk gt)<|E' (ZaW (hl0 hn) ha0) pt<|E' (Zai lk cv gx rfl (nb' rfl) rfl Zqa (hs0 hn)) ptn<|?_
 refine mw<|sn'<|wr'<|Zad mp0 (Zdj) pt<|Zad mp (ze0) pt<|mw<|Vw (ZaS lk gt)<|Vw (ZaS lk gt)<|mw<|mw<|sn'<|?_
 refine wr'<|Zad mp0 (Zdj) pt<|Zad mp (za0) pt<|mw<|Vw (ZaS lk gt)<|Vw (ZaS lk gt)<|E' (ZaW (hl1 hn) ha1) pt<|E' (Zai lk cv gx rfl (nb' rfl) rfl Zg3 (hs1 hn)) ptn<|mw<|sn'<|wr'<|?_
 refine Zad mp0 (Zdj) pt<|Zad mp (za1) pt<|mw<|Vw (ZaS lk gt)<|Vw (ZaS lk gt)<|E' (ZaW (hl2 hn) ha2) pt<|E' (Zai lk cv gx rfl (nb' rfl) rfl Zg3 (hs2 hn)) ptn<|mw<|sn'<|wr'<|Zad mp0 (Zdj) pt<|Zad mp (za2) pt<|?_
 refine mw<|Vw (ZaS lk gt)<|Vw (ZaS lk gt)<|E' (ZaW (hl3 hn) ha3) pt<|E' (Zai lk cv gx rfl (nb' rfl) rfl Zg3 (hs3 hn)) ptn<|mw<|sn'<|wr'<|Zad mp0 (Zdj) pt<|Zad mp (zc0) pt<|Vw (ZaQ lk lki)<|mw<|?_
 refine ZcK (t:=39) gt (b:=true) (by rfl) pt ?_
 refine s_do gt<|mw<|s_do gt<|Vw (ZaQ lk lki)<|Vw (Zak lk lk)<|mw<|?_
 refine ZcK (t:=43) gt (b:=true) (by rfl) pt ?_
 refine s_do gt<|mw<|s_do gt<|Vw (ZaQ lk lki)<|Vw (Zak lk lk)<|mw<|?_
 refine ZcK (t:=47) gt (b:=true) (by rfl) pt ?_
 refine s_do gt<|mw<|s_do gt<|Vw (ZaQ lk lki)<|Vw (Zak lk lk)<|mw<|?_
 refine ZcK (t:=51) gt (b:=true) (by rfl) pt ?_
 refine s_do gt<|mw<|s_do gt<|Vw (ZaQ lk lki)<|Vw (Zak lk lk)<|mw<|?_
 refine ZcK (t:=55) gt (b:=true) (by rfl) pt ?_
 refine s_do gt<|mw<|s_do gt<|Vw (ZaQ lk lki)<|Vw (Zak lk lk)<|mw<|?_
 refine ZcK (t:=59) gt (b:=true) (by rfl) pt ?_
 refine s_do gt<|Vw (Zab lk)<|s_do gt<|Vw (Zac lk gx gt0)<|s_do gt<|Vw (Zcp lk lks)<|Vw (Zak lk lk)<|mw<|?_
 refine ZcK (t:=64) gt (b:=true) (by rfl) pt ?_
 refine s_do gt<|mw<|s_do gt<|Vw (ZaL lk)<|s_do gt<|Vw (ZaQ lk lki)<|Vw (Zak lk lk)<|mw<|?_
 refine ZcK (t:=69) gt (b:=true) (by rfl) pt ?_
 refine s_do gt<|mw<|s_do gt<|?_
 refine V' (ZaU (k:=0) lk lki ZdU (nb' rfl) (by first | rfl | first | omega | decide) (by first | omega | decide) ro rfl) pt ?_
 refine s_do gt<|Vw (ZaC lk gt)<|s_do gt<|Vw (ZaQ lk lki)<|Vw (Zak lk lk)<|mw<|?_
 refine ZcK (t:=75) gt (b:=true) (by rfl) pt ?_
 refine s_do gt<|Vw (Zao lk gx ZjR rfl)<|s_do gt<|Vw (Zau (Zg2 (cvl lki rfl) rfl (cvl lki rfl) rfl (cvl lks rfl) rfl))<|s_do gt<|Vw (Zhd lk lk ZfP)<|Vw (Zak lk lk)<|mw<|?_
 refine ZcK (t:=80) gt (b:=true) (by rfl) pt ?_
 exact s_do gt<|Vw (Zao lk (hga hn rfl) ZjR rfl)<|s_do gt<|Vw (Zau (Zg1 (cvl lki rfl) rfl (cvl lks rfl) rfl))<|s_do gt<|Vw (Zhd lk lk ZfP)<|Vw (Zak lk lk)<|mw<|sn'<|Zaa<|Zae rz<|rT' rfl
end Go.Proofs.YtlekejpogddndaaGreatDoor
end
section
namespace Go.Proofs.YtlekejpogddndaaGreatDoor
open Go.Ab Civ
def ZrS:List Chg:=cutV (eraG era0 tMin []) (endV era0)++eraG era1 (endV era0) (Zc2 rul0 nEu 3600).1
theorem ZrR:ZaZ rul0 tMin none [era0,era1]=ZrS:=by
 have e0:Za3 rul0 era0=[]:=if_pos (by decide)
 have e1:Za3 rul0 era1=(Zc2 rul0 nEu 3600).1:=by
  unfold Za3
  rw[if_neg (by decide),ZhX];rfl
 rw[ZaZ,ZaZ,e0,e1,if_neg (by decide)]
 unfold ZrS
 rw[show ZbI none tMin=tMin from rfl,show ZbI (some (endV era0)) tMin=endV era0 from by decide]
def tab0:Tab:=stV (inP ZrS)
theorem Zpr:tab0.1=(600,0,bA [76,77,84]):=by kernel_rfl
theorem Zoz:tab0.2.length=211:=by kernel_rfl
theorem tab0_ok1:locE tab0.1=0:=by kernel_rfl
theorem tab0_ok2:Zcc tab0.2=0:=by kernel_rfl
theorem table0:ZeF rul0 [era0,era1]=tab0:=by
 have:=Zlv (s:=src0) (z:=(nHt,[era0,era1])) chk0 (by simp[src0])
 have e:stV (inP (ZaZ rul0 tMin none [era0,era1]))=ZeF rul0 [era0,era1]:=this
 rw[←e,ZrR];rfl
theorem of0:ofV src0 (nHt,[era0,era1])=(tab0,0):=by
 unfold ofV
 show tabR (ZeF rul0 [era0,era1])=_
 rw[table0]
 unfold tabR
 rw[if_neg (by rw[tab0_ok1];simp),if_neg (by rw[tab0_ok2];simp),if_neg (by rw[Zoz];decide)]
theorem comp0:Zfv src0 nOld=(tab0,0):=by
 unfold Zfv
 rw[find0,if_neg (by simp),of0]
theorem chkT0:ZbH tab0=0:=by
 have h:=Zhe (rl:=rul0) (es:=[era0,era1]) (by
  have:=congrArg Prod.snd of0
  exact this)
 rwa [table0] at h
theorem Zlp:Zf2 Zf4 100=(7200,3600,⟨#[66]⟩):=by kernel_rfl
theorem Zlo:Zf2 Zf4 99=(3600,0,⟨#[65]⟩):=by kernel_rfl
theorem ZjM:ZbH Zf4=0:=by kernel_rfl
end Go.Proofs.YtlekejpogddndaaGreatDoor
end
section
namespace Go.Proofs.YtlekejpogddndaaGreatDoor
open Go.Ab Civ
attribute [local simp] Zbh Zbr Zbo Zbq ZbS ZdG Zb5
section
theorem Zee {a0 a1 a2 a3:AV}{l:List AV}:((a0::a1::a2::a3::l).drop 1).take 3=[a1,a2,a3]:=rfl
theorem Zg8 {a0 a1 a2 c0 c1 c2:AV}{l:List AV}:setCells (a0::a1::a2::l) 0 [c0,c1,c2]=c0::c1::c2::l:=rfl
theorem Zdw {a0 a1 a2:AV}{l:List AV}:((a0::a1::a2::l).drop 0).take 3=[a0,a1,a2]:=rfl
theorem Ztl {τ:Operand→AV}:Zas τ [] [(.v (.int .i64 0)),(.v (.int .i64 0)),(.v (.string ⟨#[]⟩)),(.sl 0 0 true [])]=some [(.v (.int .i64 0)),(.v (.int .i64 0)),(.v (.string ⟨#[]⟩)),(.sl 0 0 true [])]:=rfl
theorem ZjX {a0 a1:AV}{l:List AV}:((a0::a1::l).drop 0).take 2=[a0,a1]:=rfl
theorem Zmz {a0 a1 a2 a3:AV}{l:List AV}:(a0::a1::a2::a3::l).take 4=[a0,a1,a2,a3]:=rfl
theorem ZcE {a0 a1 a2 a3 c0 c1 c2 c3:AV}{l:List AV}:setCells (a0::a1::a2::a3::l) 0 [c0,c1,c2,c3]=c0::c1::c2::c3::l:=rfl
theorem ZjY {τ:Operand→AV}:Zas τ [] [(.v (.int .i64 0)),(.v (.int .i64 0)),(.v (.string ⟨#[]⟩)),(.sl 0 0 true [])]=some [(.v (.int .i64 0)),(.v (.int .i64 0)),(.v (.string ⟨#[]⟩)),(.sl 0 0 true [])]:=rfl
theorem Zco {a0 a1 a2 a3:AV}{l:List AV}:((a0::a1::a2::a3::l).drop 0).take 4=[a0,a1,a2,a3]:=rfl
theorem Zqw {τ:Operand→AV}:Zas τ [] [(.v (.int .i64 0)),(.v (.int .i64 0)),(.v (.string ⟨#[]⟩)),(.sl 0 0 true [])]=some [(.v (.int .i64 0)),(.v (.int .i64 0)),(.v (.string ⟨#[]⟩)),(.sl 0 0 true [])]:=rfl
theorem Zn3 {a0 b0:Int}{a1 b1:Int}{a2 b2:ByteArray}:Zbs [.int,.int,.str] [iv a0,iv a1,sv a2] [iv b0,iv b1,sv b2]=some (decide (a0=b0∧a1=b1∧a2=b2)):=by
 simp only[Zbs,Zd9,if_true,Zc6,Option.some.injEq]
 simp only[Bool.decide_and,Bool.and_true]
 try (congr 1 <;> simp)
 try rfl
theorem Zqv {τ:Operand→AV}{y0 y1:Operand}{x0_0 x1_0 x1_1 x1_2:AV}(h0:Zat (τ y0)=some [x0_0]) (l0:[x0_0].all leaf=true) (h1:Zat (τ y1)=some [x1_0,x1_1,x1_2]) (l1:[x1_0,x1_1,x1_2].all leaf=true):Zas τ [(0,1,y0),(1,3,y1)] [(.v (.int .i64 0)),(.v (.int .i64 0)),(.v (.int .i64 0)),(.v (.string ⟨#[]⟩))]=some [x0_0,x1_0,x1_1,x1_2]:=by
 simp only[Zas,h0,l0,h1,l1]
 rfl
theorem Zqu {τ:Operand→AV}{y0:Operand}{x0_0 x0_1 x0_2 x0_3:AV}(h0:Zat (τ y0)=some [x0_0,x0_1,x0_2,x0_3]) (l0:[x0_0,x0_1,x0_2,x0_3].all leaf=true):Zas τ [(0,4,y0)] [(.v (.int .i64 0)),(.v (.int .i64 0)),(.v (.int .i64 0)),(.v (.string ⟨#[]⟩))]=some [x0_0,x0_1,x0_2,x0_3]:=by
 simp only[Zas,h0,l0]
 rfl
theorem Ztk { e:Ent}:([]:AH)++[e]=[e]:=rfl
theorem Zqt {e0 e1 e2 e3 e4 e5 d0:Ent}:([e0,e1,e2,e3,e4,e5]:AH)++[d0]=[e0,e1,e2,e3,e4,e5,d0]:=rfl
theorem Zqr {a0 a1 a2 a3 c0:AV}{l:List AV}:setCells (a0::a1::a2::a3::l) 3 [c0]=a0::a1::a2::c0::l:=rfl
theorem Zqs {a0 a1 c0 c1:AV}{l:List AV}:setCells (a0::a1::l) 0 [c0,c1]=c0::c1::l:=rfl
theorem ZiK {τ:Operand→AV}:Zas τ [] [(.v (.int .i64 0)),(.v (.int .i64 0)),(.v (.string ⟨#[]⟩)),(.sl 0 0 true [])]=some [(.v (.int .i64 0)),(.v (.int .i64 0)),(.v (.string ⟨#[]⟩)),(.sl 0 0 true [])]:=rfl
end
def c78:AC:=(Sr [Oo 2 (.box 26 3 (.tmp 0)),Oo 3 (.box 53 2 (.tmp 1)),Oo 4 (.new 40 4 [(iv 0),(iv 0),Ss,(.sl 0 0 true [])]),Mc 5 0] (Sr [Oo 10 (.build [(iv 0),(iv 0),Ss,(.sl 0 0 true [])] []),Oo 11 (.box 198 4 (.tmp 10)),Mv 6 11] (.seq (Sd [Oo 12 (.load true 3 (.tmp 2)),Oo 13 (.load true 2 (.tmp 3)),Cl 14 67 [],Cl 15 69 [(.tmp 12),(.tmp 13),(.tmp 14)],Oo 16 (.len false (.tmp 15)),Mc 17 0] (.block 0 (.loop (Sr [Bn 18 .lss 17 16] (.seq (Cd 18 .skip (.exit 0)) (.seq (.block 1 (Sr [Mv 19 17,Oo 20 (.ia 4 (.tmp 15) (.tmp 17)),Oo 21 (.load true 4 (.tmp 20)),Oo 8 (.new 121 4 [(iv 0),(iv 0),(iv 0),Ss]),Mv 7 19,⟨none,none,(.store 4 (.tmp 8) (.tmp 21))⟩] (.seq (Sd [Fa 22 0 8,Ld 23 22,Cl 24 68 [],Bn 25 .gtr 23 24] (Cd 25 (.exit 0) .skip)) (.seq (Sr [Fa 26 1 8,Oo 27 (.load true 3 (.tmp 26)),Cl 28 77 [(.tmp 27)],Mv 9 28] (Sr [Mv 29 9,Bc 30 .neq 29 0] (Cd 30 (Sr [Oo 31 (.build [(iv 0),(iv 0),Ss,(.sl 0 0 true [])] []),Mv 32 9,⟨none,none,(.store 4 (.tmp 4) (.tmp 31))⟩,Mv 5 32] .ret) .skip))) (.block 2 (Sr [Mv 34 7,Bc 35 .eql 34 0,Mv 33 35] (Cd 33 (.reg [Mv 36 6,Fa 37 1 8,Oo 38 (.load true 3 (.tmp 37)),Nk 39 36,Fa 40 0 39,Fa 41 0 40,⟨none,none,(.store 3 (.tmp 41) (.tmp 38))⟩]) (.seq (.orPan (.drw [Fa 43 1 8,Oo 44 (.loadR true 3 (.tmp 43)),Mv 45 6] [true,false,false] [Cl 46 147 [(.tmp 45)],Oo 47 (.eqs true [.int,.int,.str] (.tmp 44) (.tmp 46)),Mv 42 47]) (.tmp 45) 147 [Fa 43 1 8,Oo 44 (.load true 3 (.tmp 43)),Mv 45 6,Mv 46 45,Mb 47 false,Mb 42 false] 46) (Cd 42 (.drw [Mv 48 6,Mv 49 6,Nk 50 49,Fa 51 0 50,Fa 52 3 51,Ld 53 52,Fa 54 0 8,Ld 55 54,Fa 56 1 8,Oo 57 (.load true 3 (.tmp 56)),Oo 58 (.build [(iv 0),(iv 0),(iv 0),Ss] [(0,(1,(.tmp 55))),(1,(3,(.tmp 57)))]),Oo 59 (.lit 68 4 1 [(iv 0),(iv 0),(iv 0),Ss] [(0,(4,(.tmp 58)))])] [false,false,false,false,false] [Oo 60 (.app 68 4 40 (.tmp 53) (.tmp 59)),Nk 61 48,Fa 62 0 61,Fa 63 3 62,Sc 63 60]) .skip))))))))) (.reg [Bc 64 .add 17 1,Mv 17 64]))))))) (.seq (Sr [Mv 65 6,Nk 66 65,Fa 67 0 66,Fa 68 3 67,Ld 69 68,Oo 70 (.len false (.tmp 69)),Bc 71 .gtr 70 1000] (Cd 71 (Sr [Oo 72 (.build [(iv 0),(iv 0),Ss,(.sl 0 0 true [])] []),⟨none,none,(.store 4 (.tmp 4) (.tmp 72))⟩,Mc 5 2] .ret) .skip)) (Sr [Mv 73 6,Nk 74 73,Fa 75 0 74,Oo 76 (.load true 4 (.tmp 75)),⟨none,none,(.store 4 (.tmp 4) (.tmp 76))⟩,Mc 5 0] .ret)))))
theorem k78:ZaA Tryz.prog 78=some ⟨c78,[(.cell 4 true 4),(.tmp 5)],77⟩:=by kernel_rfl
def c24:AC:=(Sr [Oo 2 (.box 26 3 (.tmp 0)),Oo 4 (.new 40 4 [(iv 0),(iv 0),Ss,(.sl 0 0 true [])]),Mc 5 0] (Sr [Oo 9 (.load true 3 (.tmp 2)),Mv 10 1,Cl 11 30 [(.tmp 9),(.tmp 10)],Mv 8 11,Ex 12 8 0,Ex 13 8 1,Oo 6 (.new 53 2 [Ss,(.sl 0 0 true [])]),⟨none,none,(.store 2 (.tmp 6) (.tmp 12))⟩,Mv 7 13] (.seq (Sr [Mv 14 7,Bc 15 .neq 14 0] (Cd 15 (Sr [Oo 16 (.build [(iv 0),(iv 0),Ss,(.sl 0 0 true [])] []),Mv 17 7,⟨none,none,(.store 4 (.tmp 4) (.tmp 16))⟩,Mv 5 17] .ret) .skip)) (Sr [Oo 18 (.load true 3 (.tmp 2)),Oo 19 (.load true 2 (.tmp 6)),Cl 20 78 [(.tmp 18),(.tmp 19)],Ex 21 20 0,Ex 22 20 1,⟨none,none,(.store 4 (.tmp 4) (.tmp 21))⟩,Mv 5 22] .ret))))
theorem k24:ZaA Tryz.prog 24=some ⟨c24,[(.cell 4 true 4),(.tmp 5)],23⟩:=by kernel_rfl
theorem last_eq : ∀ (F:Loc) (l:List Chg),Ziq F l=Zl4 F l
 | F,[]=>rfl
 | F,c::l=>by
  rw[Zgg (l:=c::l) (by simp)]
  unfold Ziq
  rw[List.getLast?_eq_getElem?,List.getElem?_eq_getElem (by simp)]
  rfl
theorem Zsf {ps:List Chg}{i:Nat}(hi:i<ps.length) (h1 : ∀ c∈ps.take i,c.1≤tMax) (h2:ps[i].1≤tMax) (h3:Zcc (ps.take i)=0) (h4:locE ps[i].2≠0):Zcc (inP ps)=locE ps[i].2:=by
 have e:inP ps=(ps.take i++[ps[i]])++inP (ps.drop (i+1)):=by
  conv=>lhs;rw[←List.take_append_drop i ps]
  unfold inP
  rw[List.takeWhile_append_of_pos (fun c hc=>by have:=h1 c hc;simpa using this),List.drop_eq_getElem_cons hi,List.takeWhile_cons,if_pos (by simpa using h2),List.append_assoc]
  rfl
 have h5:=Zin (c:=ps[i]) h3
 rw[e,ZlZ (by rw[h5];exact h4),h5]
theorem mlast_o {F:Loc}{l:List Chg}{id q v0 ver ty ty2:Nat}{h:AH}(h1:h[id]?=some (.mk v0 ty 4 [iv F.1,iv F.2.1,sv F.2.2,.own q ver l.length])) (h2:h[q]?=some (.mk ver ty2 4 (rows chgC l))) (hl:l.length≤9223372036854775807) :
  Ac 147 [.ptr id v0 0] h (.agg [iv (Ziq F l).1,iv (Ziq F l).2.1,sv (Ziq F l).2.2]):=by
 have hid:id<h.length:=(List.getElem?_eq_some_iff.1 h1).1
 rw[last_eq]
 refine tI' k147 fun N hn hlt hlA hbd=>?_
 simp only[tb'] at hbd ⊢
 refine wr'<|E' (ZaW (hl0 hn) ha0) pt<|sn'<|Zam<|wr'<|mw<|Vw (Zbp lk)<|Vw (Zab lk)<|Vw (Zab lk)<|Vw (Zac lk (ZeH h1) gt3)<|Vw (ZcZ lk)<|?_
 refine mw<|sn'<|wr'<|mw<|Vw (ZbC lk lki)<|sn'<|?_
 refine cd' lk (fun hc1=>?_) (fun hc1=>?_)
 ·have hl0:0<l.length:=by omega
  refine wr'<|mw<|Vw (Zbp lk)<|Vw (Zab lk)<|Vw (Zab lk)<|Vw (Zac lk (ZeH h1) gt3)<|mw<|?_
  refine V' (ZbB lk lki om om) pt ?_
  refine V' (Zoj (k:=l.length-1) lk lk (ZeH h2) Zca (nb' rfl) ro om (by first | rfl | (simp;done) | omega)) pt ?_
  refine V' (ZbK lk) pt ?_
  refine V' (v_ldOFA lk (ZeH h2) Zca om (nb' rfl) Zee rfl) pt ?_
  refine E' (Zai lk cv gx rfl (nb' rfl) rfl Zg8 (hs0 hn)) ptn<|sn'<|Zaa<|Zah<|Zae (rs1 (rr_c gt gx (ld1 Zdw rfl)))<|rT'<|?_
  rw[Zgg hl0]
 have hl0:l=[]:=List.eq_nil_of_length_eq_zero om
 refine Zaf<|Zag<|wr'<|mw<|Vw (Zbp lk)<|Vw (Zab lk)<|Vw (Zab lk)<|Vw (Zao lk (ZeH h1) Zdw rfl)<|E' (Zai lk cv gx rfl (nb' rfl) rfl Zg8 (hs0 hn)) ptn<|sn'<|Zaa<|Zae (rs1 (rr_c gt gx (ld1 Zdw rfl)))<|?_
 refine rT' ?_
 subst hl0;rfl
theorem mlast_r {F:Loc}{l:List Chg}{id q v0 ver ty ty2:Nat}{h:AH}(h1:h[id]?=some (.mk v0 ty 4 [iv F.1,iv F.2.1,sv F.2.2,.own q ver l.length])) (h2:h[q]?=some (.mk ver ty2 4 (rows chgC l))) (hl:l.length≤9223372036854775807) :
  ACalls Tryz.prog 147 [.ptr id v0 0] h fun x h'=>x=.ret (.agg [iv (Ziq F l).1,iv (Ziq F l).2.1,sv (Ziq F l).2.2])∧h'=h:=(mlast_o h1 h2 hl).mono fun _ _ e=>⟨e.2,e.1⟩
theorem ZlU (fm lt:ByteArray) (sa:Int):(ZkF fm lt sa).size≤2*fm.size+lt.size:=by
 unfold ZkF
 have h1:=ZhM (s:=fm) (p:=[47])
 have h2:=ZhM (s:=fm) (p:=[37,115])
 have e:(aB lt).length=lt.size:=rfl
 split
 ·split <;> (rw[Zdd];omega)
 split
 ·rw[Zdd,List.length_append,List.length_append,e];omega
 omega
theorem ZlL {rl:List Rul}{f:Int} : ∀ (es:List Era) (prev:Option Int),(ZaZ rl f prev es).length≤1001*es.length
 | [],_=>by simp[ZaZ]
 | [x],prev=>by
  have h1:=Zgk (x:=x) (b:=ZbI prev f) (Za3 rl x)
  have h2:=Zdo (rl:=rl) (x:=x)
  rw[ZaZ,List.length_singleton];omega
 | x::y::es,prev=>by
  have h1:=Zgk (x:=x) (b:=ZbI prev f) (Za3 rl x)
  have h2:=Zdo (rl:=rl) (x:=x)
  have h3:=Zo8 (eraG x (ZbI prev f) (Za3 rl x)) (endV x)
  have h4:=ZlL (rl:=rl) (f:=f) (y::es) (some (endV x))
  rw[ZaZ,List.length_append,List.length_cons]
  split
  ·rw[List.length_nil];omega
  omega
theorem ZsF {rl:List Rul}{x:Era}{b:Int}(hx:ZbL (xFm x)=true) : ∀ c∈eraG x b (Za3 rl x),c.2.2.2.size≤72:=by
 have hf:=Zis hx
 intro c hc
 rcases List.mem_cons.1 hc with rfl | hc
 ·have key : ∀ (l:List Tim) (sa:Int) (lt:ByteArray),(∀ t∈l,t.2.2.size≤24)→lt.size≤24→(Zdi sa lt l b).2.size≤24:=by
   intro l
   induction l with
   | nil=>intro _ _ _ h;exact h
   | cons t l ih =>
    intro sa lt hl h
    rw[Zdi]
    split
    ·exact ih _ _ (fun u hu=>hl u (by simp[hu])) (hl t (by simp))
    exact ih _ _ (fun u hu=>hl u (by simp[hu])) h
  have:=key (Za3 rl x) (xSv x) ⟨#[]⟩ (fun t ht=>(Zjh ht).2.2) (by decide)
  have h2:=ZlU (xFm x) (Zdi (xSv x) ⟨#[]⟩ (Za3 rl x) b).2 (Zdi (xSv x) ⟨#[]⟩ (Za3 rl x) b).1
  show (ZkF _ _ _).size≤72
  omega
 obtain⟨t,ht,rfl⟩:=List.mem_map.1 hc
 have h3:=(Zjh (List.mem_filter.1 ht).1).2.2
 have h2:=ZlU (xFm x) t.2.2 t.2.1
 show (ZkF _ _ _).size≤72
 omega
theorem ZoE {rl:List Rul}{f:Int} : ∀ {es:List Era}{prev:Option Int},(∀ x∈es,ZbL (xFm x)=true) → ∀ c∈ZaZ rl f prev es,c.2.2.2.size≤72
 | [],_,_,c,h=>by cases h
 | [x],prev,hx,c,h=>ZsF (hx x (by simp)) c h
 | x::y::es,prev,hx,c,h=>by
  rw[ZaZ] at h
  rcases List.mem_append.1 h with h | h
  ·split at h
   ·cases h
   exact ZsF (hx x (by simp)) c ((List.takeWhile_sublist _).subset h)
  exact ZoE (fun z hz=>hx z (by simp[hz])) c h
def ofP (a:List Rul) (es:List Era):Tab×Int:=tabR (stV (inP (ZaZ a tMin none es)))
theorem ZhB {e:AV}:Wk (.tup [.agg [.v (.int .i64 0),.v (.int .i64 0),.v (.string ⟨#[]⟩),.sl 0 0 true []],e]) (.tup [tabA noTab,e]):=Wk.tup (wkw (Wk.agg (wk1 rfl (wk1 rfl (wk1 rfl (wkw Wk.nilF wk0))))) (wk1 rfl wk0))
theorem tof_a {a:List Rul}{z:List Zon}{k:List Lnk}{nm:ByteArray}{es:List Era}{h:AH}(hok:okRs a) (ha:a.length≤9223372036854775807) (hz:okZ es) (hne:inP (ZaZ a tMin none es)≠[]) :
  Ac 78 [.agg (srcB a z k),.agg [sv nm,.sl es.length 10 false (rows eraC es)]] h (.tup [tabA (ofP a es).1,iv (ofP a es).2]):=by
 have hlen:=hz.len
 have hpl:=ZlL (rl:=a) (f:=tMin) es none
 have hps:=ZoE (rl:=a) (f:=tMin) (prev:=none) (es:=es) (fun x hx=>(hz.fm x hx).1)
 have hO:ofP a es=_:=tabR_st (.inr hne)
 have hparts : ∀ h:AH,ACalls Tryz.prog 69 [.agg (srcB a z k),.agg [sv nm,.sl es.length 10 false (rows eraC es)],iv tMin] h fun y h'=>h'=h∧y=.ret (.sl (ZaZ a tMin none es).length 4 false (rows chgC (ZaZ a tMin none es))):=fun h=>ZrQ hok ha hz (by decide)
 generalize ZaZ a tMin none es=ps at hpl hps hne hO hparts
 refine tW' k78 fun N hn hlt hlA hbd=>?_
 simp only[tb'] at hbd ⊢
 refine wr'<|E' (Zbd cv rfl (hl0 hn) ha0) pt<|E' (Zbd cv rfl (hl1 hn) ha1) pt<|E' (ZaW (hl2 hn) ha2) pt<|mw<|sn'<|wr'<|Vw (Zau Ztl)<|E' (Zbd cv rfl (hl3 hn) ha3) pt<|mw<|Zar<|?_
 refine Zag<|Zam<|Zam<|Zb2<|Dw (Zao lk gx Zdw rfl)<|Dw (Zao lk gx ZjX rfl)<|?_
 refine Za2 mp0 (fun hE hX=>ZkG) pt ?_
 refine Za2 mp (fun hE hX=>hparts _) pt ?_
 refine Dw (ZaL lk)<|Dw (v_mv lki)<|ZbO<|?_
 refine Zcr ?_
 refine Zar ?_
 refine Zba (ALe.own0Cell (st':=4) (ty:=68) gx gt3 (hl4 hn) pt3 (Eq.trans (congrArg (fun z=>List.set z _ _) ha4) (hs3 hn))) ?_
 refine Zap ?_
 refine w_lp (ι:=Nat×Nat) (fun (x_:Nat×Nat)=>match x_ with | ⟨i,v⟩=>[(17,iv (i:Int)),(5,.any)]++rn' 7 3++rn' 18 47) (fun (x_:Nat×Nat)=>match x_ with | ⟨i,v⟩=>[(3,.mk 0 198 4 [iv (stV (ps.take i)).1.1,iv (stV (ps.take i)).1.2.1,sv (stV (ps.take i)).1.2.2,.own (N+4) v (stV (ps.take i)).2.length]),(4,.mk v 68 4 (rows chgC (stV (ps.take i)).2))]) (fun (x_:Nat×Nat)=>match x_ with | ⟨i,v⟩=>i≤ps.length∧(∀ c∈ps.take i,c.1≤tMax)∧Zcc (ps.take i)=0) (fun (x_:Nat×Nat)=>match x_ with | ⟨i,v⟩=>ps.length-i) (⟨0,0⟩) (by exact⟨Nat.zero_le _,⟨fun c hc=>(by cases hc),rfl⟩⟩) ?_
 rintro⟨i,v⟩ hi1
 try simp only[sm',Nat.reduceAdd]
 obtain⟨hi1,hi2,hi3⟩:=hi1
 refine wr'<|Vw (Zbc lk lk)<|sn'<|Zam<|?_
 refine cd' lk (fun hc1=>?_) (fun hc1=>?_)
 ·have hi:i<ps.length:=by omega
  have hsz:=hps _ (List.getElem_mem hi)
  have hsl:=Zrn (ps.take i)
  rw[List.length_take] at hsl
  have htk:=List.take_succ_eq_append_getElem hi
  refine Zaf<|Zag<|Zam<|Zap<|wr'<|mw<|?_
  refine V' (ZaU lk lk Zca (nb' rfl) ro om ro rfl) pt ?_
  refine Vw (ZaI lk Zmz rfl)<|E' (ZaW (hl5 hn) ha5) pt<|mw<|E' (Zai lk cv gx rfl (nb' rfl) rfl ZcE (hs5 hn)) ptn<|sn'<|Zam<|Zam<|Zb2<|Dw (Zab lk)<|Dw (Zac lk gx gt0)<|?_
  refine Za2 mp0 (fun hE hX=>Zr3) pt ?_
  refine Dw (ZbC lk lk)<|ZbO<|?_
  refine Zcr ?_
  refine sn' ?_
  refine cd' lk (fun hc2=>?_) (fun hc2=>?_)
  ·have hP:inP ps=ps.take i:=ZoX hi2 (fun hh=>by simp only[tMax];omega)
   refine ZaM<|ZaD<|x_pas (Nat.ne_of_beq_eq_false rfl)<|ZaD<|ZaD<|Zbb<|Zag<|Zam<|wr'<|mw<|Vw (Zbp lk)<|Vw (Zab lk)<|Vw (Zab lk)<|?_
   refine Vw (Zac lk gx gt3)<|Vw (ZcZ lk)<|Vw (ZbC lk lki)<|sn'<|?_
   refine cd' lk (fun hc6=>?_) (fun hc6=>?_)
   ·rw[hP,hi3,if_neg (by simp),if_pos om] at hO
    refine wr'<|Vw (Zau ZjY)<|E' (Zai lk cv gx rfl (nb' rfl) rfl ZcE (hs2 hn)) ptn<|mw<|sn'<|Zaa<|Zah<|Zae (rsn (rm1 (rr_c gt gx (ld1 Zco rfl)) (rm1 (rr_t gt) rm0)))<|rtW'<|?_
    rw[hO];exact ZhB
   rw[hP,hi3,if_neg (by simp),if_neg om] at hO
   refine Zaf ?_
   refine Zba (ALe.iceCellR gx gx om gt3 (List.take_of_length_le (by rw[ZcO];exact Nat.le_refl _)) (by rw[ZcO];exact Nat.le_refl _) pt3 (hs4 hn) (hs3 hn)) ?_
   refine wr'<|mw<|Vw (Zbp lk)<|Vw (Zab lk)<|Vw (Zao lk gx Zco rfl)<|E' (Zai lk cv gx rfl (nb' rfl) rfl ZcE (hs2 hn)) ptn<|mw<|sn'<|Zaa<|Zae (rsn (rm1 (rr_c gt gx (ld1 Zco rfl)) (rm1 (rr_t gt) rm0)))<|rtW'<|?_
   rw[hO];exact Wk.tup (wkw (Wk.agg (wk1 rfl (wk1 rfl (wk1 rfl (wkw Wk.full wk0))))) (wk1 rfl wk0))
  refine Zaf<|Zag<|Zam<|wr'<|Vw (Zab lk)<|Vw (Zao lk gx Zee rfl)<|?_
  refine Zad mp (Zng (by simp only[maxLen];omega)) pt ?_
  refine mw<|sn'<|wr'<|mw<|Vw (ZaX lk lki)<|sn'<|?_
  refine cd' lk (fun hc3=>?_) (fun hc3=>?_)
  ·have hlE:locE ps[i].2≠0:=hc3
   have hE:=Zsf hi hi2 (by simp only[tMax];omega) hi3 hlE
   rw[hE,if_pos hlE] at hO
   refine wr'<|Vw (Zau Zqw)<|mw<|E' (Zai lk cv gx rfl (nb' rfl) rfl ZcE (hs2 hn)) ptn<|mw<|sn'<|Zaa<|Zah<|Zaq<|Zah<|Zah<|Zaq<|?_
   refine Zah<|Zae (rsn (rm1 (rr_c gt gx (ld1 Zco rfl)) (rm1 (rr_t gt) rm0)))<|rtW'<|?_
   rw[hO];exact ZhB
  have hlE:locE ps[i].2=0:=Decidable.of_not_not hc3
  have hlE2:Zcc (ps.take (i+1))=0:=by rw[htk,Zin hi3];exact hlE
  have hle2 : ∀ c∈ps.take (i+1),c.1≤tMax:=fun c hc=>by rw[htk] at hc;rcases List.mem_append.1 hc with hc | hc;exact hi2 c hc;simp only[List.mem_singleton] at hc;subst hc;simp only[tMax];omega
  refine Zaf<|Zag<|Zap<|wr'<|mw<|Vw (ZaQ lk lki)<|mw<|sn'<|?_
  refine cd' lk (fun hc4=>?_) (fun hc4=>?_)
  ·obtain rfl:i=0:=by omega
   have hS:stV (ps.take (0+1))=(ps[0].2,[]):=by rw[htk];rfl
   refine Zav<|mw<|Vw (Zab lk)<|Vw (Zao lk gx Zee rfl)<|Vw (Zbp lk)<|Vw (Zab lk)<|Vw (Zab lk)<|E' (Zai lk cv gx rfl (nb' rfl) rfl Zg8 (hs3 hn)) ptn<|Zar<|Zaz<|Zaz<|Zag<|Zav<|?_
   refine V' (Zay lk lki om om) pt ?_
   refine mw<|Zar<|ZaB<|?_
   refine lU' (⟨0+1,v⟩) (by (try dsimp only);exact⟨by omega,hle2,hlE2⟩) (by (try dsimp only);(try simp only[sm',Nat.reduceAdd]);exact bk' 5 hn hlt (by rw[hS];rfl) (hT:=by simp[AV.lt,AV.ltL,Ent.lt]) (hE:=by simp[AV.lt,AV.ltL,Ent.lt]))
  have hnt:ps.take i≠[]:=List.ne_nil_of_length_pos (by rw[List.length_take];omega)
  have hS:=stV_snoc (c:=ps[i]) hnt
  rw[←htk] at hS
  refine Zam<|w_orl<|Zoh [N+5]<|Dw (Zab lk)<|?_
  refine d_ldP lk gx (ld1 Zee rfl) (by simp) pt ?_
  refine Dw (v_mv lk)<|ZbO<|Znk<|?_
  refine k_call mp (mlast_r (F:=(stV (ps.take i)).1) (l:=(stV (ps.take i)).2) gx gx om) (by intro i hi;simp only[cond_true,List.mem_cons,List.not_mem_nil,or_false] at hi;subst hi;first | rfl | exact (hga hn rfl).trans (hga hn rfl).symm) pt ?_
  refine ZpL rfl (Zlj lk lk Zn3) pt<|ZpL rfl (v_mv lk) pt<|Zsn<|Zag<|?_
  refine cd' lk (fun hc5=>?_) (fun hc5=>?_)
  ·have hne5:¬ps[i].2=Ziq (stV (ps.take i)).1 (stV (ps.take i)).2:=fun e=>hc5 (by rw[e];exact⟨rfl,rfl,rfl⟩)
   rw[if_neg hne5] at hS
   refine Zb2<|Dw (v_mv lk)<|Dw (v_mv lk)<|Dw (Zbp lk)<|Dw (Zab lk)<|Dw (Zab lk)<|Dw (Zac lk gx gt3)<|Dw (Zab lk)<|Dw (Zac lk gx gt0)<|Dw (Zab lk)<|Dw (Zao lk gx Zee rfl)<|Dw (Zau (Zqv cv rfl cv rfl))<|Zmh rfl rfl (hlk hn rfl) (l_lit (Zqu cv rfl)) pt Ztk<|ZbO<|?_
   refine Zny Zqt ?_
   refine E' (Zdm (Zct lk gx rfl Zmz (nb' rfl)) lk gx (ZcO _) om rfl (hs4 hn)) pt ?_
   refine Vw (Zbp lk)<|Vw (Zab lk)<|Vw (Zab lk)<|E' (Zai lk cv gx rfl (nb' rfl) rfl Zqr (hs3 hn)) ptn<|Zar<|Zaz<|Zaz<|Zag<|Zav<|?_
   refine V' (Zay lk lki om om) pt ?_
   refine mw<|Zar<|ZaB<|?_
   refine lU' (⟨i+1,v+1⟩) (by (try dsimp only);exact⟨by omega,hle2,hlE2⟩) (by (try dsimp only);(try simp only[sm',Nat.reduceAdd]);exact bk' 5 hn hlt (by rw[hS,List.length_append,Za5,Zbv];rfl) (hT:=by simp[AV.lt,AV.ltL,Ent.lt]) (hE:=by simp[AV.lt,AV.ltL,Ent.lt]))
  have hne5:ps[i].2=Ziq (stV (ps.take i)).1 (stV (ps.take i)).2:=by obtain⟨x1,x2,x3⟩:=Decidable.of_not_not hc5;exact Prod.ext x1 (Prod.ext x2 x3)
  rw[if_pos hne5,List.append_nil] at hS
  refine Zaf<|Zaz<|Zaz<|Zag<|Zav<|?_
  refine V' (Zay lk lki om om) pt ?_
  refine mw<|Zar<|ZaB<|?_
  refine lU' (⟨i+1,v⟩) (by (try dsimp only);exact⟨by omega,hle2,hlE2⟩) (by (try dsimp only);(try simp only[sm',Nat.reduceAdd]);exact bk' 5 hn hlt (by rw[hS];rfl) (hT:=by simp[AV.lt,AV.ltL,Ent.lt]) (hE:=by simp[AV.lt,AV.ltL,Ent.lt]))
 have hP:inP ps=ps.take i:=ZoX hi2 (fun hh=>absurd hh om)
 have hsl:=Zrn (ps.take i)
 rw[List.length_take] at hsl
 refine ZaM<|ZaD<|ZaD<|Zbb<|Zag<|Zam<|wr'<|mw<|Vw (Zbp lk)<|Vw (Zab lk)<|Vw (Zab lk)<|Vw (Zac lk gx gt3)<|Vw (ZcZ lk)<|?_
 refine Vw (ZbC lk lki)<|sn'<|?_
 refine cd' lk (fun hc6=>?_) (fun hc6=>?_)
 ·rw[hP,hi3,if_neg (by simp),if_pos om] at hO
  refine wr'<|Vw (Zau ZjY)<|E' (Zai lk cv gx rfl (nb' rfl) rfl ZcE (hs2 hn)) ptn<|mw<|sn'<|Zaa<|Zah<|Zae (rsn (rm1 (rr_c gt gx (ld1 Zco rfl)) (rm1 (rr_t gt) rm0)))<|rtW'<|?_
  rw[hO];exact ZhB
 rw[hP,hi3,if_neg (by simp),if_neg om] at hO
 refine Zaf ?_
 refine Zba (ALe.iceCellR gx gx om gt3 (List.take_of_length_le (by rw[ZcO];exact Nat.le_refl _)) (by rw[ZcO];exact Nat.le_refl _) pt3 (hs4 hn) (hs3 hn)) ?_
 refine wr'<|mw<|Vw (Zbp lk)<|Vw (Zab lk)<|Vw (Zao lk gx Zco rfl)<|E' (Zai lk cv gx rfl (nb' rfl) rfl ZcE (hs2 hn)) ptn<|mw<|sn'<|Zaa<|Zae (rsn (rm1 (rr_c gt gx (ld1 Zco rfl)) (rm1 (rr_t gt) rm0)))<|rtW'<|?_
 rw[hO];exact Wk.tup (wkw (Wk.agg (wk1 rfl (wk1 rfl (wk1 rfl (wkw Wk.full wk0))))) (wk1 rfl wk0))
theorem comp_a {a:List Rul}{z:List Zon}{k:List Lnk}{nm:ByteArray}{h:AH}(hok:ZeL (a,z,k)) :
  Ac 24 [.agg (srcB a z k),sv nm] h (.tup [tabA (Zfv (a,z,k) nm).1,iv (Zfv (a,z,k) nm).2]):=by
 refine tW' k24 fun N hn hlt hlA hbd=>?_
 simp only[tb'] at hbd ⊢
 refine wr'<|E' (Zbd cv rfl (hl0 hn) ha0) pt<|E' (ZaW (hl1 hn) ha1) pt<|mw<|sn'<|wr'<|Vw (Zao lk gx Zdw rfl)<|mw<|Zad mp (ZmP hok) pt<|mw<|Vw (ZaS lk gt)<|?_
 refine Vw (ZaS lk gt)<|E' (ZaW (hl2 hn) ha2) pt<|E' (Zai lk cv gx rfl (nb' rfl) rfl Zqs (hs2 hn)) ptn<|mw<|sn'<|Zam<|wr'<|mw<|Vw (ZaX lk lki)<|sn'<|?_
 refine cd' lk (fun hc1=>?_) (fun hc1=>?_)
 ·have hF:Zfv (a,z,k) nm=(noTab,(Za7 (a,z,k) nm).2):=if_pos hc1
  refine wr'<|Vw (Zau ZiK)<|mw<|E' (Zai lk cv gx rfl (nb' rfl) rfl ZcE (hs1 hn)) ptn<|mw<|sn'<|Zaa<|Zah<|Zae (rsn (rm1 (rr_c gt gx (ld1 Zco rfl)) (rm1 (rr_t gt) rm0)))<|rtW'<|?_
  rw[hF];exact ZhB
 have hf0:(Za7 (a,z,k) nm).2=0:=Decidable.of_not_not hc1
 obtain⟨hz0,hm,_⟩:=ZfJ hf0
 have hE:=Zex hz0
 have hal:=(Zc5 hE).1
 simp only at hal
 obtain⟨⟨pl,hpl⟩,_⟩:=ZkC hz0 hm tMin
 have hne:inP (ZaZ a tMin none (Za7 (a,z,k) nm).1.2)≠[]:=by rw[show ZaZ a tMin none (Za7 (a,z,k) nm).1.2=_ from hpl];unfold inP;rw[List.takeWhile_cons,if_pos (decide_eq_true (by show tMin≤tMax;decide))];simp
 have hF:Zfv (a,z,k) nm=ofP a (Za7 (a,z,k) nm).1.2:=by unfold Zfv;rw[if_neg hc1];unfold ofV ofP;rw[←Zlv hz0 hm]
 refine Zaf<|Zag<|wr'<|Vw (Zao lk gx Zdw rfl)<|Vw (Zao lk gx ZjX rfl)<|?_
 refine Zad mp (tof_a (ZgT hok) om (Zds hE hm) hne) pt ?_
 refine Vw (ZaS lk gt)<|Vw (ZaS lk gt)<|E' (Zai lk cv gx rfl (nb' rfl) rfl ZcE (hs1 hn)) ptn<|mw<|sn'<|Zaa<|Zae (rsn (rm1 (rr_c gt gx (ld1 Zco rfl)) (rm1 (rr_t gt) rm0)))<|rtW'<|?_
 rw[hF];exact Wk.refl _
end Go.Proofs.YtlekejpogddndaaGreatDoor
end
section
namespace Go.Proofs.YtlekejpogddndaaGreatDoor
open Go.Ab Go.RowKit Civ
attribute [local simp] Zbh Zbr Zbo Zbq Zb5 ZdG ZdO ZbS
section
theorem Zn5 {a0 a1 a2 a3 c0 c1 c2 c3:AV}{l:List AV}:setCells (a0::a1::a2::a3::l) 0 [c0,c1,c2,c3]=c0::c1::c2::c3::l:=rfl
theorem ZiL {a0 a1 a2 c0 c1 c2:AV}{l:List AV}:setCells (a0::a1::a2::l) 0 [c0,c1,c2]=c0::c1::c2::l:=rfl
theorem Zn4 {a0 a1 a2 a3:AV}{l:List AV}:((a0::a1::a2::a3::l).drop 0).take 4=[a0,a1,a2,a3]:=rfl
theorem ZeB {a0 a1 a2:AV}{l:List AV}:((a0::a1::a2::l).drop 0).take 3=[a0,a1,a2]:=rfl
theorem ZfQ {τ:Operand→AV}{y0 y1:Operand}{x0_0 x1_0:AV}(h0:Zat (τ y0)=some [x0_0]) (l0:[x0_0].all leaf=true) (h1:Zat (τ y1)=some [x1_0]) (l1:[x1_0].all leaf=true):Zas τ [(0,1,y0),(2,1,y1)] [(.v (.int .i64 0)),(.v (.int .i64 0)),(.v (.string ⟨#[]⟩))]=some [x0_0,(.v (.int .i64 0)),x1_0]:=by
 simp only[Zas,h0,l0,h1,l1]
 rfl
theorem Ze4 {a0 b0:Int}{a1 b1:Int}{a2 b2:ByteArray}:Zbs [.int,.int,.str] [iv a0,iv a1,sv a2] [iv b0,iv b1,sv b2]=some (decide (a0=b0∧a1=b1∧a2=b2)):=by
 simp only[Zbs,Zd9,if_true,Zc6,Option.some.injEq]
 simp only[Bool.decide_and,Bool.and_true]
 try (congr 1 <;> simp)
 try rfl
theorem Zqx {a0 a1 a2:AV}{l:List AV}:(a0::a1::a2::l).take 3=[a0,a1,a2]:=rfl
end
def c22:AC:=(Sr [Mb 0 false] (Sr [Cl 8 63 [],Oo 9 (.call (.func 24) [(.tmp 8),(.const (.string ⟨#[79,108,100]⟩))]),Mv 7 9,Ex 10 7 0,Ex 11 7 1,Oo 1 (.new 40 4 [(iv 0),(iv 0),Ss,(.sl 0 0 true [])]),⟨none,none,(.store 4 (.tmp 1) (.tmp 10))⟩,Mv 2 11] (Sr [Cl 13 76 [],Cl 14 17 [(.tmp 13),(Ci 100)],Mv 12 14,Ex 15 12 0,Ex 16 12 1,Oo 3 (.new 29 3 [(iv 0),(iv 0),Ss]),⟨none,none,(.store 3 (.tmp 3) (.tmp 15))⟩,Mv 4 16] (Sr [Cl 18 76 [],Cl 19 17 [(.tmp 18),(Ci 99)],Mv 17 19,Ex 20 17 0,Ex 21 17 1,Oo 5 (.new 29 3 [(iv 0),(iv 0),Ss]),⟨none,none,(.store 3 (.tmp 5) (.tmp 20))⟩,Mv 6 21] (Sd [Mv 22 2,Bc 23 .eql 22 0,Mv 24 23,Ot 25 24 (mt 4),Ot 26 24 (.bin .eql (.tmp 25) (Ci 0)),Oo 27 (.pick (.tmp 24) (.tmp 26) (.const (.bool false))),Mv 28 27,Ot 29 28 (mt 6),Ot 30 28 (.bin .eql (.tmp 29) (Ci 0)),Oo 31 (.pick (.tmp 28) (.tmp 30) (.const (.bool false))),Mv 32 31,Ot 33 32 (.load true 4 (.tmp 1)),Ot 34 32 (.call (.func 23) [(.tmp 33)]),Ot 35 32 (.bin .eql (.tmp 34) (Ci 0)),Oo 36 (.pick (.tmp 32) (.tmp 35) (.const (.bool false))),Mv 37 36,Ot 38 37 (.fa 0 (.tmp 1)),Ot 39 37 (.load true 3 (.tmp 38)),Ot 40 37 (.build [(iv 0),(iv 0),Ss] [(0,(1,(Ci 600))),(2,(1,(.const (.string ⟨#[76,77,84]⟩))))]),Ot 41 37 (.eqs false [.int,.int,.str] (.tmp 39) (.tmp 40)),Oo 42 (.pick (.tmp 37) (.tmp 41) (.const (.bool false))),Mv 43 42,Ot 44 43 (.fa 3 (.tmp 1)),Ot 45 43 (.load false 1 (.tmp 44)),Ot 46 43 (.len false (.tmp 45)),Ot 47 43 (.bin .eql (.tmp 46) (Ci 211)),Oo 48 (.pick (.tmp 43) (.tmp 47) (.const (.bool false))),Mv 49 48,Ot 50 49 (.load true 3 (.tmp 3)),Ot 51 49 (.call (.func 76) []),Ot 52 49 (.fld false 3 1 (.tmp 51)),Ot 53 49 (.ia 4 (.tmp 52) (Ci 0)),Ot 54 49 (.fa 1 (.tmp 53)),Ot 55 49 (.load true 3 (.tmp 54)),Ot 56 49 (.eqs false [.int,.int,.str] (.tmp 50) (.tmp 55)),Oo 57 (.pick (.tmp 49) (.tmp 56) (.const (.bool false))),Mv 58 57,Ot 59 58 (.load true 3 (.tmp 5)),Ot 60 58 (.call (.func 76) []),Ot 61 58 (.fld true 0 3 (.tmp 60)),Ot 62 58 (.eqs false [.int,.int,.str] (.tmp 59) (.tmp 61)),Oo 63 (.pick (.tmp 58) (.tmp 62) (.const (.bool false))),Mv 0 63] .ret)))))
theorem k22:ZaA Tryz.prog 22=some ⟨c22,[(.tmp 0)],64⟩:=by kernel_rfl
theorem ZoG {t:Tab}(h:ZbH t=0):okT t:=by
 obtain⟨_,h2,h3⟩:=Zp5 h
 have e:=Zsg h2
 refine⟨by simp only[maxLen];omega,fun x hx=>?_⟩
 have:=Zsg (h3 x hx).2
 simp only[maxLen];omega
def lkL (t:Tab) (n:Int):Loc:=if ZbH t=0∧ZdY n=true then Zf2 t n else (0,0,⟨#[]⟩)
def lkE (t:Tab) (n:Int):Int:=if ZbH t≠0 then ZbH t else if ZdY n=true then 0 else 3
theorem lk_in {t:Tab}{n:Int}(h:ZbH t=0) (hn:ZdY n=true):lkL t n=Zf2 t n∧lkE t n=0:=⟨if_pos ⟨h,hn⟩,by unfold lkE;rw[if_neg (by simpa using h),if_pos hn]⟩
theorem Zrd {t:Tab}{n:Int}{full:Bool}{h:AH}(ht:okT t):Ac 17 [.agg [iv t.1.1,iv t.1.2.1,sv t.1.2.2,.sl t.2.length 4 full (rows chgC t.2)],iv n] h (.tup [.agg (locC (lkL t n)),iv (lkE t n)]):=tlook_a ht
theorem tl1 {h:AH}:Ac 17 [tabA Zf4,iv 100] h (.tup [.agg (locC (7200,3600,⟨#[66]⟩)),iv 0]):=by
 have:=Zrd (t:=Zf4) (n:=100) (full:=false) (h:=h) ZlP
 obtain⟨e1,e2⟩:=lk_in ZjM (show ZdY 100=true from by decide)
 rw[e1,e2,Zlp] at this
 exact this
theorem tl2 {h:AH}:Ac 17 [tabA Zf4,iv 99] h (.tup [.agg (locC (3600,0,⟨#[65]⟩)),iv 0]):=by
 have:=Zrd (t:=Zf4) (n:=99) (full:=false) (h:=h) ZlP
 obtain⟨e1,e2⟩:=lk_in ZjM (show ZdY 99=true from by decide)
 rw[e1,e2,Zlo] at this
 exact this
theorem tcomp0 {h:AH}:Ac 24 [.agg (srcC src0),sv nOld] h (.tup [tabA tab0,iv 0]):=by
 have:=comp_a (a:=src0.1) (z:=src0.2.1) (k:=src0.2.2) (nm:=nOld) (h:=h) Zei
 rw[show (src0.1,src0.2.1,src0.2.2)=src0 from rfl,comp0] at this
 exact this
theorem tchk0 {h:AH}:Ac 23 [tabA tab0] h (iv 0):=by
 have ho:=ZoG chkT0
 have:=ZnF (a:=tab0.1.1) (b:=tab0.1.2.1) (c:=tab0.1.2.2) (l:=tab0.2) (full:=false) (h:=h) ho.1 ho.2
 rw[show ZbH ((tab0.1.1,tab0.1.2.1,tab0.1.2.2),tab0.2)=0 from chkT0] at this
 exact this
theorem tbegun_a {h:AH}:Ac 22 [] h (bv true):=by
 refine tI' k22 fun N hn hlt hlA hbd=>?_
 simp only[tb'] at hbd ⊢
 refine wr'<|mw<|sn'<|wr'<|Zad mp0 (Zdj) pt<|Zad mp (tcomp0) pt<|mw<|Vw (ZaS lk gt)<|Vw (ZaS lk gt)<|E' (ZaW (hl0 hn) ha0) pt<|E' (Zai lk cv gx rfl (nb' rfl) rfl Zn5 (hs0 hn)) ptn<|?_
 refine mw<|sn'<|wr'<|Zad mp0 (Zks) pt<|Zad mp (tl1) pt<|mw<|Vw (ZaS lk gt)<|Vw (ZaS lk gt)<|E' (ZaW (hl1 hn) ha1) pt<|E' (Zai lk cv gx rfl (nb' rfl) rfl ZiL (hs1 hn)) ptn<|mw<|Zar<|?_
 refine Zag<|wr'<|Zad mp0 (Zks) pt<|Zad mp (tl2) pt<|mw<|Vw (ZaS lk gt)<|Vw (ZaS lk gt)<|E' (ZaW (hl2 hn) ha2) pt<|E' (Zai lk cv gx rfl (nb' rfl) rfl ZiL (hs2 hn)) ptn<|mw<|sn'<|Zam<|?_
 refine Zb2<|Dw (v_mv lk)<|Dw (ZaQ lk lki)<|Dw (v_mv lk)<|?_
 refine ZfK (t:=24) gt (b:=true) (by rfl) pt ?_
 refine d_do gt<|Dw (v_mv lk)<|d_do gt<|Dw (ZaQ lk lki)<|Dw (Zak lk lk)<|Dw (v_mv lk)<|?_
 refine ZfK (t:=28) gt (b:=true) (by rfl) pt ?_
 refine d_do gt<|Dw (v_mv lk)<|d_do gt<|Dw (ZaQ lk lki)<|Dw (Zak lk lk)<|Dw (v_mv lk)<|?_
 refine ZfK (t:=32) gt (b:=true) (by rfl) pt ?_
 refine d_do gt<|Dw (Zao lk gx Zn4 rfl)<|d_do gt<|?_
 refine Za2 mp (fun hE hX=>tchk0) pt ?_
 refine d_do gt<|Dw (ZaQ lk lki)<|Dw (Zak lk lk)<|Dw (v_mv lk)<|?_
 refine ZfK (t:=37) gt (b:=true) (by rfl) pt ?_
 refine d_do gt<|Dw (Zab lk)<|d_do gt<|Dw (Zao lk gx ZeB rfl)<|d_do gt<|Dw (Zau (ZfQ (cvl lki rfl) rfl (cvl lks rfl) rfl))<|d_do gt<|Dw (Zhd lk lk Ze4)<|Dw (Zak lk lk)<|Dw (v_mv lk)<|?_
 refine ZfK (t:=43) gt (b:=true) (by exact decide_eq_true (by rw[Zpr];exact⟨rfl,rfl,rfl⟩)) pt ?_
 refine d_do gt<|Dw (Zab lk)<|d_do gt<|Dw (Zac lk gx gt3)<|d_do gt<|Dw (ZaL lk)<|d_do gt<|Dw (ZaQ lk lki)<|Dw (Zak lk lk)<|Dw (v_mv lk)<|?_
 refine ZfK (t:=49) gt (b:=true) (by exact decide_eq_true (by rw[Zoz];rfl)) pt ?_
 refine d_do gt<|Dw (Zao lk gx ZeB rfl)<|d_do gt<|?_
 refine Za2 mp0 (fun hE hX=>Zks) pt ?_
 refine d_do gt<|Dw (v_fld lk gt)<|d_do gt<|?_
 refine D' (ZaU (k:=0) lk lki Zca (nb' rfl) (by first | rfl | first | omega | decide) (by first | omega | decide) ro rfl) pt ?_
 refine d_do gt<|Dw (Zbt lk dp1)<|d_do gt<|Dw (ZaI lk Zqx rfl)<|d_do gt<|Dw (Zhd lk lk Ze4)<|Dw (Zak lk lk)<|Dw (v_mv lk)<|?_
 refine ZfK (t:=58) gt (b:=true) (by rfl) pt ?_
 refine d_do gt<|Dw (Zao lk gx ZeB rfl)<|d_do gt<|?_
 refine Za2 mp0 (fun hE hX=>Zks) pt ?_
 refine d_do gt<|Dw (v_fldA lk ZeB rfl)<|d_do gt<|Dw (Zhd lk lk Ze4)<|Dw (Zak lk lk)<|Dw (v_mv lk)<|ZbO<|?_
 refine Zcr ?_
 exact sn'<|Zaa<|Zae rz<|rT' rfl
end Go.Proofs.YtlekejpogddndaaGreatDoor
end
section
namespace Go.Proofs.YtlekejpogddndaaGreatDoor.tableCompiles
open Go.Ab Go.RowKit Civ
def c5:AC:=(Sr [Oo 2 (.box 26 3 (.tmp 0)),Mb 4 false] (Sr [Oo 11 (.load true 3 (.tmp 2)),Mv 12 1,Cl 13 24 [(.tmp 11),(.tmp 12)],Mv 10 13,Ex 14 10 0,Ex 15 10 1,Oo 5 (.new 40 4 [(iv 0),(iv 0),Ss,(.sl 0 0 true [])]),⟨none,none,(.store 4 (.tmp 5) (.tmp 14))⟩,Mv 6 15] (Sr [Oo 16 (.load true 3 (.tmp 2)),Cl 17 25 [(.tmp 16)],Mv 7 17] (Sr [Oo 8 (.mv (.const (.int .i64 (-1))))] (.seq (Sr [Mv 18 7,Bc 19 .eql 18 0] (Cd 19 (Sr [Oo 20 (.load true 3 (.tmp 2)),Mv 21 1,Cl 22 26 [(.tmp 20),(.tmp 21)],Mv 8 22] (Sr [Mv 23 8,Bc 24 .lss 23 0] (Cd 24 (.reg [Mc 7 5]) .skip))) .skip)) (Sr [Oo 9 (.new 40 4 [(iv 0),(iv 0),Ss,(.sl 0 0 true [])])] (.seq (Sr [Mv 25 7,Bc 26 .eql 25 0] (Cd 26 (.drw [Oo 28 (.load true 3 (.tmp 2)),Fa 29 1 2,Ld 30 29,Mv 31 8,Oo 32 (.ia 2 (.tmp 30) (.tmp 31)),Oo 33 (.load true 2 (.tmp 32)),Cl 34 27 [(.tmp 28),(.tmp 33)],Mv 27 34,Ex 35 27 0,Ex 36 27 1] [false,false] [⟨none,none,(.store 4 (.tmp 9) (.tmp 35))⟩,Mv 7 36]) .skip)) (Sr [Cl 37 22 [],Mv 38 37,Ot 39 38 (.load true 4 (.tmp 5)),Ot 40 38 (mt 6),Ot 41 38 (mt 7),Ot 42 38 (.load true 4 (.tmp 9)),Ot 43 38 (.call (.func 28) [(.tmp 39),(.tmp 40),(.tmp 41),(.tmp 42)]),Oo 44 (.pick (.tmp 38) (.tmp 43) (.const (.bool false))),Mv 4 44] .ret))))))))
theorem k5:ZaA Tryz.prog 5=some ⟨c5,[(.tmp 4)],45⟩:=by kernel_rfl
end Go.Proofs.YtlekejpogddndaaGreatDoor.tableCompiles
end
section
namespace Go.Proofs.YtlekejpogddndaaGreatDoor
open Go.Ab Go.RowKit Civ
attribute [local simp] Zbh Zbr Zbo Zbq Zb5 ZdO
theorem Zmm {s:Src}{nm:ByteArray}(h:(Zfv s nm).2=0):(Za7 s nm).2=0:=by
 refine Decidable.byContradiction fun hh=>?_
 unfold Zfv at h
 rw[if_pos hh] at h
 exact hh h
theorem comp_ok {s:Src}{nm:ByteArray}(h:(Zfv s nm).2=0):(Zfv s nm).1=ZeF s.1 (Za7 s nm).1.2∧ZbH (Zfv s nm).1=0:=by
 have hf:=Zmm h
 unfold Zfv at h ⊢
 rw[if_neg (by simp[hf])] at h ⊢
 exact⟨(ZmY h).1,Zri h⟩
theorem comp_era {s:Src}{nm:ByteArray}(h:(Za7 s nm).2=0) {x:Era}(hx:x∈(Za7 s nm).1.2):errX s.1 x=0:=by
 obtain⟨hz0,hm,_⟩:=ZfJ h
 exact (ZjN hz0).2.2.2.1 x (List.mem_flatMap.2 ⟨_,hm,hx⟩)
theorem comp_ne {s:Src}{nm:ByteArray}(h:(Za7 s nm).2=0):(Za7 s nm).1.2≠[]:=by
 obtain⟨hz0,hm,_⟩:=ZfJ h
 exact (Zds (Zex hz0) hm).ne
theorem Zrh {t:Tab}{f:Bool}{h:AH}(ht:ZbH t=0):Ac 23 [.agg [iv t.1.1,iv t.1.2.1,sv t.1.2.2,.sl t.2.length 4 f (rows chgC t.2)]] h (iv 0):=by
 have ho:=ZoG ht
 have:=ZnF (a:=t.1.1) (b:=t.1.2.1) (c:=t.1.2.2) (l:=t.2) (full:=f) (h:=h) ho.1 ho.2
 rw[show ZbH ((t.1.1,t.1.2.1,t.1.2.2),t.2)=0 from ht] at this
 exact this
end Go.Proofs.YtlekejpogddndaaGreatDoor
namespace Go.Proofs.YtlekejpogddndaaGreatDoor.tableFew
open Go.Ab Go.RowKit Civ
section
theorem ZiJ {a0 a1 a2:AV}{l:List AV}:((a0::a1::a2::l).drop 0).take 3=[a0,a1,a2]:=rfl
theorem Zn1 {a0 a1 a2 a3 c0 c1 c2 c3:AV}{l:List AV}:setCells (a0::a1::a2::a3::l) 0 [c0,c1,c2,c3]=c0::c1::c2::c3::l:=rfl
theorem Zn2 {a0 a1 c0 c1:AV}{l:List AV}:setCells (a0::a1::l) 0 [c0,c1]=c0::c1::l:=rfl
theorem Zn0 {a0 a1 a2 a3:AV}{l:List AV}:((a0::a1::a2::a3::l).drop 0).take 4=[a0,a1,a2,a3]:=rfl
end
def c6:AC:=(Sr [Oo 2 (.box 26 3 (.tmp 0)),Mb 4 false] (.seq (Sr [Cl 13 22 [],Oo 14 (.un .not (.tmp 13)),Mv 15 14,Of 16 15 (.call (.func 15) []),Of 17 15 (.un .not (.tmp 16)),Oo 18 (.pick (.tmp 15) (.const (.bool true)) (.tmp 17)),Mv 19 18,Of 20 19 (.call (.func 29) []),Of 21 19 (.un .not (.tmp 20)),Oo 22 (.pick (.tmp 19) (.const (.bool true)) (.tmp 21))] (Cd 22 (Sr [Mb 4 false] .ret) .skip)) (Sr [Oo 24 (.load true 3 (.tmp 2)),Mv 25 1,Cl 26 24 [(.tmp 24),(.tmp 25)],Mv 23 26,Ex 27 23 0,Ex 28 23 1,Oo 5 (.new 40 4 [(iv 0),(iv 0),Ss,(.sl 0 0 true [])]),⟨none,none,(.store 4 (.tmp 5) (.tmp 27))⟩,Mv 6 28] (Sr [Oo 30 (.load true 3 (.tmp 2)),Mv 31 1,Cl 32 30 [(.tmp 30),(.tmp 31)],Mv 29 32,Ex 33 29 0,Ex 34 29 1,Oo 7 (.new 53 2 [Ss,(.sl 0 0 true [])]),⟨none,none,(.store 2 (.tmp 7) (.tmp 33))⟩,Mv 8 34] (.seq (Sr [Mv 35 6,Bc 36 .neq 35 0,Mv 37 36,Of 38 37 (mt 8),Of 39 37 (.bin .neq (.tmp 38) (Ci 0)),Oo 40 (.pick (.tmp 37) (.const (.bool true)) (.tmp 39))] (Cd 40 (Sr [Mv 41 6,Bc 42 .neq 41 0,Mv 4 42] .ret) .skip)) (Sr [Fa 43 1 7,Ld 44 43,Oo 45 (.len false (.tmp 44)),Mv 9 45] (.seq (Sr [Mc 10 0] (.block 0 (.loop (.seq (Sr [Mv 46 10,Fa 47 1 7,Ld 48 47,Oo 49 (.len false (.tmp 48)),Bn 50 .lss 46 49] (Cd 50 .skip (.exit 0))) (.seq (.block 1 (.seq (Sr [Fa 53 1 7,Ld 54 53,Mv 55 10,Oo 56 (.ia 10 (.tmp 54) (.tmp 55)),Fa 57 1 56,Ld 58 57,Oo 59 (.bin .eql (.tmp 58) (.const (.string ⟨#[]⟩)))] (Cd 59 (.exit 1) .skip)) (Sd [Fa 61 0 2,Ld 62 61,Fa 63 1 7,Ld 64 63,Mv 65 10,Oo 66 (.ia 10 (.tmp 64) (.tmp 65)),Fa 67 1 66,Ld 68 67,Fa 69 1 7,Ld 70 69,Mv 71 10,Oo 72 (.ia 10 (.tmp 70) (.tmp 71)),Fa 73 0 72,Ld 74 73,Cl 75 31 [(.tmp 62),(.tmp 68),(.tmp 74)],Mv 60 75,Ex 76 60 0,Ex 77 60 1,Mv 11 76,Mv 12 77] (.seq (Sr [Mv 78 12,Bc 79 .neq 78 0] (Cd 79 (Sr [Mb 4 false] .ret) .skip)) (.reg [Mv 80 9,Mv 81 11,Oo 82 (.len false (.tmp 81)),Bn 83 .add 80 82,Mv 9 83]))))) (.reg [Mv 51 10,Bc 52 .add 51 1,Mv 10 52])))))) (Sr [Oo 84 (.load true 4 (.tmp 5)),Cl 85 23 [(.tmp 84)],Bc 86 .eql 85 0,Mv 87 86,Ot 88 87 (.fa 3 (.tmp 5)),Ot 89 87 (.load false 1 (.tmp 88)),Ot 90 87 (.len false (.tmp 89)),Ot 91 87 (mt 9),Ot 92 87 (.bin .lss (.tmp 90) (.tmp 91)),Oo 93 (.pick (.tmp 87) (.tmp 92) (.const (.bool false))),Mv 4 93] .ret))))))))
theorem k6:ZaA Tryz.prog 6=some ⟨c6,[(.tmp 4)],94⟩:=by kernel_rfl
theorem walk0 {a:List Rul}{z:List Zon}{k:List Lnk}{nm:ByteArray}{h:AH}(hok:ZeL (a,z,k)):Ac 6 [.agg (srcB a z k),sv nm] h (bv true):=by
 have hfl:=Zl9 (s:=(a,z,k)) (nm:=nm)
 refine tI' k6 fun N hn hlt hlA hbd=>?_
 simp only[tb'] at hbd ⊢
 refine wr'<|E' (Zbd cv rfl (hl0 hn) ha0) pt<|mw<|sn'<|Zam<|wr'<|Zad mp0 (tbegun_a) pt<|Vw (Zax lk)<|mw<|s_do gt<|Zad mp0 (zbegun_a) pt<|?_
 refine s_do gt<|Vw (Zax lk)<|Vw (Zaj lk lk)<|mw<|s_do gt<|Zad mp0 (rbegun_a) pt<|s_do gt<|Vw (Zax lk)<|Vw (Zaj lk lk)<|sn'<|ZaO lk<|Zaf<|Zag<|?_
 refine wr'<|Vw (Zao lk gx ZiJ rfl)<|mw<|Zad mp (comp_a hok) pt<|mw<|Vw (ZaS lk gt)<|Vw (ZaS lk gt)<|E' (ZaW (hl1 hn) ha1) pt<|E' (Zai lk cv gx rfl (nb' rfl) rfl Zn1 (hs1 hn)) ptn<|mw<|sn'<|Zam<|?_
 refine Zav<|Vw (Zao lk gx ZiJ rfl)<|mw<|Zad mp (ZmP hok) pt<|mw<|Vw (ZaS lk gt)<|Vw (ZaS lk gt)<|E' (ZaW (hl2 hn) ha2) pt<|E' (Zai lk cv gx rfl (nb' rfl) rfl Zn2 (hs2 hn)) ptn<|mw<|sn'<|Zam<|Zam<|?_
 refine Zav<|mw<|Vw (ZaX lk lki)<|mw<|?_
 refine sp' (t:=37) gt pt pt (fun hg37=>?_) (fun hg37=>?_)
 ·have hbad:(Zfv (a,z,k) nm).2≠0:=hg37
  refine s_no gt pt<|s_no gt pt<|Vw (Zak lk lkb)<|sn'<|ZaG lk<|wr'<|mw<|Vw (ZaX lk lki)<|mw<|sn'<|Zaa<|?_
  refine Zah<|Zae rz<|rT'<|?_
  exact bvx (decide_eq_true hbad)
 have hc0:(Zfv (a,z,k) nm).2=0:=Decidable.of_not_not hg37
 have hf0:=Zmm hc0
 obtain⟨hT,hchk⟩:=comp_ok hc0
 refine s_do gt<|mw<|s_do gt<|Vw (ZaX lk lki)<|Vw (Zaj lk lk)<|sn'<|?_
 refine Zdf lk (by exact decide_eq_false (fun e=>e hf0)) ?_
 refine Zaf<|Zag<|wr'<|Vw (Zab lk)<|Vw (Zac lk gx gt1)<|Vw (ZaL lk)<|mw<|sn'<|Zam<|wr'<|mw<|?_
 refine sn'<|Zap<|?_
 refine ZfW (ι:=Nat) (fun (i:Nat)=>[(9,iv (((Za7 (a,z,k) nm).1.2.length:Int)+cntV a ((Za7 (a,z,k) nm).1.2.take i))),(10,iv (i:Int)),(4,.any),(11,.any),(12,.any)]++rn' 46 38) (fun (i:Nat)=>[]) (fun (i:Nat)=>i≤(Za7 (a,z,k) nm).1.2.length) (fun (i:Nat)=>(Za7 (a,z,k) nm).1.2.length-i) (0) (by exact Nat.zero_le _) (by try simp only[sm',Nat.reduceAdd];exact ALe.same (by repeat (first | exact wk0 | refine wka ?_ | refine wk1 rfl ?_ | refine wk1 (by first | rfl | exact ivx (by rw[List.take_zero];simp[cntV])) ?_)) rfl) ?_
 rintro i hi1
 try simp only[sm',Nat.reduceAdd]
 replace hi1:i≤(Za7 (a,z,k) nm).1.2.length:=hi1
 refine Zam<|wr'<|mw<|Vw (Zab lk)<|Vw (Zac lk gx gt1)<|Vw (ZaL lk)<|Vw (Zbc lk lk)<|sn'<|?_
 refine cd' lk (fun hc3=>?_) (fun hc3=>?_)
 ·have hi:i<(Za7 (a,z,k) nm).1.2.length:=by omega
  have hst:cntV a ((Za7 (a,z,k) nm).1.2.take (i+1))=cntV a ((Za7 (a,z,k) nm).1.2.take i)+(Za3 a (Za7 (a,z,k) nm).1.2[i]).length:=by rw[List.take_succ_eq_append_getElem hi,Zmo]
  have hcl:=ZsS a ((Za7 (a,z,k) nm).1.2.take i)
  rw[List.length_take] at hcl
  have hex:=comp_era hf0 (List.getElem_mem hi)
  refine Zaf<|Zag<|Zam<|Zap<|Zam<|wr'<|Vw (Zab lk)<|Vw (Zac lk gx gt1)<|mw<|?_
  refine V' (ZaU lk lk ZcM (nb' rfl) ro om ro rfl) pt ?_
  refine Vw (Zbt lk dp1)<|Vw (ZaC lk gt)<|Vw (Zcp lk lks)<|sn'<|?_
  refine cd' lk (fun hc4=>?_) (fun hc4=>?_)
  ·have hX:Za3 a (Za7 (a,z,k) nm).1.2[i]=[]:=if_pos hc4
   rw[hX,List.length_nil,Nat.add_zero] at hst
   refine ZaM<|ZaD<|Zbb<|Zag<|Zav<|mw<|?_
   refine V' (Zay lk lki om om) pt ?_
   refine mw<|Zar<|ZaB<|?_
   refine lU' (i+1) (by (try dsimp only);omega) (by (try dsimp only);(try simp only[sm',Nat.reduceAdd]);exact ALe.same (by repeat (first | exact wk0 | refine wka ?_ | refine wk1 rfl ?_ | refine wk1 (by first | rfl | exact ivx om | exact ivx (by rw[hst]) | exact ivx (by rw[hst];omega)) ?_)) rfl)
  have hX:Za3 a (Za7 (a,z,k) nm).1.2[i]=(Za8 a (Za7 (a,z,k) nm).1.2[i].2.1 (Za7 (a,z,k) nm).1.2[i].1).1:=if_neg hc4
  have hX2:(Za8 a (Za7 (a,z,k) nm).1.2[i].2.1 (Za7 (a,z,k) nm).1.2[i].1).2=0:=by have:=hex;unfold errX at this;rwa [if_neg hc4] at this
  have htl:=Zdo (rl:=a) (x:=(Za7 (a,z,k) nm).1.2[i])
  rw[hX] at hst htl
  have hal:=(Zc5 (Zex (ZfJ hf0).1)).1
  simp only at hal
  refine Zaf<|Zag<|Zam<|Zb2<|Dw (Zab lk)<|Dw (Zac lk gx gt0)<|Dw (Zab lk)<|Dw (Zac lk gx gt1)<|Dw (v_mv lk)<|?_
  refine D' (ZaU lk lk ZcM (nb' rfl) ro om ro rfl) pt ?_
  refine Dw (Zbt lk dp1)<|Dw (ZaC lk gt)<|Dw (Zab lk)<|Dw (Zac lk gx gt1)<|Dw (v_mv lk)<|?_
  refine D' (ZaU lk lk ZcM (nb' rfl) ro om ro rfl) pt ?_
  refine Dw (Zbt lk dp0)<|Dw (ZaC lk gt)<|?_
  refine Za2 mp (fun hE hX=>ZhW (ZgT hok) om) pt ?_
  refine Dw (v_mv lk)<|Dw (ZaS lk gt)<|Dw (ZaS lk gt)<|Dw (v_mv lk)<|Dw (v_mv lk)<|ZbO<|?_
  refine Zcr ?_
  refine sn'<|Zam<|wr'<|mw<|Vw (ZaX lk lki)<|sn'<|?_
  refine Zdf lk (by exact decide_eq_false (fun e=>e hX2)) ?_
  refine Zaf<|Zag<|Zav<|mw<|mw<|Vw (ZaL lk)<|?_
  refine V' (Zay lk lk om om) pt ?_
  refine mw<|Zar<|Zaz<|Zag<|Zav<|mw<|?_
  refine V' (Zay lk lki om om) pt ?_
  refine mw<|Zar<|ZaB<|?_
  refine lU' (i+1) (by (try dsimp only);omega) (by (try dsimp only);(try simp only[sm',Nat.reduceAdd]);exact ALe.same (by repeat (first | exact wk0 | refine wka ?_ | refine wk1 rfl ?_ | refine wk1 (by first | rfl | exact ivx om | exact ivx (by rw[hst]) | exact ivx (by rw[hst];omega)) ?_)) rfl)
 rw[List.take_of_length_le (show (Za7 (a,z,k) nm).1.2.length≤i by omega)]
 have hfew:=Zpo (rl:=a) (comp_ne hf0)
 rw[show ZeF a (Za7 (a,z,k) nm).1.2=(Zfv (a,z,k) nm).1 from hT.symm] at hfew
 refine ZaM<|ZaD<|ZaD<|Zbb<|Zag<|wr'<|Vw (Zao lk gx Zn0 rfl)<|Zad mp (Zrh hchk) pt<|Vw (ZaQ lk lki)<|mw<|?_
 refine ZcK (t:=87) gt (b:=true) (by rfl) pt ?_
 refine s_do gt<|Vw (Zab lk)<|s_do gt<|Vw (Zac lk gx gt3)<|s_do gt<|Vw (ZaL lk)<|s_do gt<|mw<|s_do gt<|Vw (Zbc lk lk)<|Vw (Zak lk lk)<|mw<|sn'<|?_
 refine Zaa<|Zae rz<|rT'<|?_
 exact bvx (decide_eq_true om)
end Go.Proofs.YtlekejpogddndaaGreatDoor.tableFew
end
section
namespace Go.Proofs.YtlekejpogddndaaGreatDoor
open Go.Ab Go.RowKit Civ
abbrev RulD:Ds:=.pair .str (.pair .int (.pair .int (.pair .int (.pair (.pair .int (.pair .int .int)) (.pair .int (.pair .int (.pair .int .str)))))))
abbrev EraD:Ds:=.pair .int (.pair .str (.pair .int (.pair .str (.pair .bool (.pair (.pair .int (.pair .int .int)) (.pair .int .int))))))
abbrev ZonD:Ds:=.pair .str (.slice EraD)
abbrev LnkD:Ds:=.pair .str .str
abbrev SrcDs:Ds:=.pair (.slice RulD) (.pair (.slice ZonD) (.slice LnkD))
theorem okSrc_of {s:Src}(h:okD SrcDs s):ZeL s:=by
 obtain⟨h1,h2,h3⟩:=h
 refine⟨fun r hr=>?_,fun z hz=>?_,fun l hl=>?_⟩
 ·obtain⟨i,hi,rfl⟩:=List.getElem_of_mem hr
  have:=h1 i hi
  exact⟨this.1,this.2.2.2.2.2.2.2.2⟩
 ·obtain⟨i,hi,rfl⟩:=List.getElem_of_mem hz
  have:=h2 i hi
  refine⟨this.1,fun x hx=>?_⟩
  obtain⟨j,hj,rfl⟩:=List.getElem_of_mem hx
  have:=this.2 j hj
  exact⟨this.2.1,this.2.2.2.1⟩
 ·obtain⟨i,hi,rfl⟩:=List.getElem_of_mem hl
  exact h3 i hi
end Go.Proofs.YtlekejpogddndaaGreatDoor
end
section
namespace Go
variable {H : Type} {enc : TypeId × Value → H}
theorem Zno {a:Assume}{C:Checked}{os:Os}{f:FuncId}{fn:Func}{s:ChangeSpec}{apart fresh handsOn again:Bool}{laid:List (String×DataW Unit)}
  (own:ownKnob C.prog.godebug=none) (started:os.Started) (noInit:C.prog.inits.idxOf? f=none) (hfn:C.prog.funcs[f]?=some fn)
  (witness : ∃ (w:World) (tape:Tape) (i:Input),w.os=os∧(w.forCall tape i).Shaped C.prog∧i.vars=[]∧Input.okWide C.prog (w.forCall tape i) .any w.heap.size f i ∧
   ((s.pre enc C.prog fn [] apart (w.forCall tape i).memory i.args∧laidMetH C.prog laid (w.forCall tape i).memory)∧sizedMet enc C.prog fn (OpenSpec.ofChange s) apart (w.forCall tape i).memory i.args)∧a.holds C.prog (lone (Frame.enter C.prog f i.args .normal) [] (w.forCall tape i)))
  (contract : ∀ (W:World) (base:Nat) (args:Array Value) (ds gs:List (DataW H)) (before:List MemPlace),
   (∀ (j:Nat) t v,fn.params[j]?=some t→args[j]?=some v→Value.okWide C.prog W .any base t v) →
   DataW.Whole enc C.prog fn.params.toList s.vars apart W args.toList ds gs before →
   (DataW.weightsEach C.prog (fn.params.toList++s.plain.varTypes C.prog) (ds++gs)).all (· ≤ reachBytes)=true →
   laidMetH C.prog laid W→W.ShapedOpen C.prog →
   Calls C.prog f args W fun e W' => ∃ v,e=.returned v∧s.post enc C.prog fn apart fresh handsOn again W args v W') :
  ReturnsInHanded a C os f .any (fun w args=>(s.pre enc C.prog fn [] apart w args∧laidMetH C.prog laid w)∧sizedMet enc C.prog fn (OpenSpec.ofChange s) apart w args) (s.post enc C.prog fn apart fresh handsOn again):=by
 refine returnsInHanded_of_calls own started noInit witness ?_
 intro w tape i _ hsh _ hok hpre hholds
 obtain⟨_,_,_,fn',hfn',_,_,_,_,hval⟩:=hok
 have e:fn'=fn:=Option.some.inj (hfn'.symm.trans hfn)
 subst e
 obtain⟨⟨⟨ds,gs,before,hw,hc⟩,hx⟩,hz⟩:=hpre
 have hw':=DataW.Whole.of_heap (w':=w.forCall tape i) (by rfl) hw
 refine (contract (w.forCall tape i) w.heap.size i.args ds gs before hval hw' (hz.weights hw) (hx.of_heap (by rfl)) hsh).mono fun e W' ⟨v,he,hp⟩=>?_
 subst he
 exact ChangeSpec.post_blind hp
end Go
namespace Go.Proofs.YtlekejpogddndaaGreatDoor
open Go.ChangeShapes Go.WideShapes Go.ChangeAt Go.RowKit Go.Ab
def LaidOk (l:List (String×DataW Unit)):Prop:=l.length=l.length
theorem globW {W:World}{l:List (String×DataW Unit)}(hsh:W.ShapedOpen Tryz.prog) (hL:laidMetH Tryz.prog l W) (hl:LaidOk l):GlobW W where
 tt:=trivial
 maxLen:=cell_of_shapedOpen_int (t:=3) (zero := #[.int .i64 0]) hsh (of_decide_eq_true (by kernel_rfl)) (by kernel_rfl) rfl (by kernel_rfl) (by kernel_rfl) Tryz.underlying3
end Go.Proofs.YtlekejpogddndaaGreatDoor
end
