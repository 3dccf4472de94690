/-
  Part 3 of the proof: own lemmas and contracts on plain data. No condition beyond those that each lemma states.
-/
import Derived.Test.YticajimgfndceaaRr2
import Derived.ProofKit
import Derived.Carry
import Derived.Lib.SmallJoins
import Derived.Deep.Slices
set_option linter.all false
set_option maxRecDepth 1000000
set_option maxHeartbeats 4000000
section
namespace Go.Proofs.Yticajimgfndceaa
open Go.Ab Go.RowKit Civ
attribute [local simp] ZbT
theorem trule_a {t:TS}{id:Nat}{h:AH}(ho:okTS t) (h1:h[id]?=some (takE t)):ACalls Try.prog 26 [.ptr id 0 0] h fun x h'=>x=.ret (.agg (rulC (ZhM t).1))∧h'=h.set id (takE (ZhM t).2):=by
 have hid:id<h.length:=(List.getElem?_eq_some_iff.1 h1).1
 obtain⟨nm,t1,e1⟩ : ∃ a b,ZdH t=(a,b):=⟨_,_,rfl⟩
 have o1:=ZeL ho e1
 obtain⟨s2,t2,e2⟩ : ∃ a b,ZaK t1=(a,b):=⟨_,_,rfl⟩
 obtain⟨z2,o2⟩:=ZaW o1 e2
 obtain⟨f,t3,e3⟩ : ∃ a b,tNum s2 4 4 t2=(a,b):=⟨_,_,rfl⟩
 have o3:=ZfR o2 e3
 obtain⟨s4,t4,e4⟩ : ∃ a b,ZaK t3=(a,b):=⟨_,_,rfl⟩
 obtain⟨z4,o4⟩:=ZaW o3 e4
 obtain⟨yr,t5,e5⟩ : ∃ a b,tTo f s4 t4=(a,b):=⟨_,_,rfl⟩
 have o5:=ZmB o4 e5
 obtain⟨m,t6,e6⟩ : ∃ a b,ZcO t5=(a,b):=⟨_,_,rfl⟩
 have o6:=Zfg o5 e6
 obtain⟨k,t7,e7⟩ : ∃ a b,Zfd t6=(a,b):=⟨_,_,rfl⟩
 have o7:=ZiP o6 e7
 obtain⟨c,t8,e8⟩ : ∃ a b,Zcy 1 t7=(a,b):=⟨_,_,rfl⟩
 have o8:=Zfh o7 e8
 obtain⟨s9,t9,e9⟩ : ∃ a b,ZaK t8=(a,b):=⟨_,_,rfl⟩
 obtain⟨z9,o9⟩:=ZaW o8 e9
 obtain⟨svd,t10,e10⟩ : ∃ a b,Zbc s9 t9=(a,b):=⟨_,_,rfl⟩
 have o10:=Zgf o9 e10
 obtain⟨s11,t11,e11⟩ : ∃ a b,ZaK t10=(a,b):=⟨_,_,rfl⟩
 obtain⟨z11,o11⟩:=ZaW o10 e11
 have hR:ZhM t=((nm,f,yr,m,k,c.1,c.2,svd,(ZcE t10).1),(ZcE t10).2):=by
  simp only[ZhM,Zbx,ret2,Zl5,tToN,Zl7,e1,e2,e3,e4,e5,e6,e7,e8,e9,e10]
 have hL:ZcE t10=(if s11=bA [45] then ⟨#[]⟩ else s11,if ZdN s11=true then t11 else bad t11):=by unfold ZcE;rw[e11]
 refine tJ' k26 fun N hn hlt hlA hbd=>?_
 simp only[tb'] at hbd ⊢
 refine ZcT (h1:=h.set id (takE t)++[]) (by rw[ZcR h1]) ?_
 refine wr'<|E' (ZbZ (hl0 (Zaj hn)) ha0) pt<|sn'<|wr'<|E' (ZbZ (hl1 (Zaj hn)) ha1) pt<|sn'<|wr'<|mw<|ZaJ mp (ZhI ho e1 (ZaQ hid)) (ZaD hid) pt<|?_
 refine Vw (Zac lk)<|E' (Zam lk cv (hga (Zaj hn) rfl) rfl (nb' rfl) rfl Zeb (hs1 (Zaj hn))) ptn<|sn'<|wr'<|mw<|mw<|ZaJ mp (ZcD e2 (ZaQ hid)) (ZaD hid) pt<|?_
 refine ZaJ mp (Zkl om e3 (ZaQ hid)) (ZaD hid) pt ?_
 refine Vw (Zac lk)<|E' (Zam lk cv (hga (Zaj hn) rfl) rfl (nb' rfl) rfl Zbj (hs1 (Zaj hn))) ptn<|sn'<|wr'<|mw<|ZaJ mp (ZcD e4 (ZaQ hid)) (ZaD hid) pt<|mw<|sn'<|?_
 refine Zkd (ι:=Unit) (fun (u:Unit)=>[]++rn' 15 13) (fun (u:Unit)=>h.set id (takE t5)++[.mk 0 31 11 [sv ⟨#[]⟩,iv 0,iv 0,iv 0,iv 0,iv 0,iv 0,iv 0,iv 0,iv 0,sv ⟨#[]⟩],.mk 0 31 11 [sv nm,iv f,iv yr,iv 0,iv 0,iv 0,iv 0,iv 0,iv 0,iv 0,sv ⟨#[]⟩]]) (fun (u:Unit)=>True) ?_ ?_
 ·try simp only[sm',Nat.reduceAdd]
  refine wr'<|mw<|sn'<|Zao<|wr'<|Vw (ZcW lk lks)<|mw<|sn'<|?_
  refine cd' lk (fun hc1=>?_) (fun hc1=>?_)
  ·have hq:yr=f∧t5=t4:=by rw[tTo,if_pos (show s4=ZmA from hc1)] at e5;cases e5;exact⟨rfl,rfl⟩
   obtain⟨rfl,rfl⟩:=hq
   refine Zar<|Vw (Zac lk)<|Vw (Zae lk (hga (Zaj hn) rfl) gt1)<|Vw (Zac lk)<|E' (Zam lk cv (hga (Zaj hn) rfl) rfl (nb' rfl) rfl Zdj (hs1 (Zaj hn))) ptn<|Zaq<|ZaC<|ZaB<|?_
   exact cT' (()) (by trivial)
  refine wr'<|Vw (ZcW lk lks)<|mw<|sn'<|?_
  refine cd' lk (fun hc2=>?_) (fun hc2=>?_)
  ·have hq:yr=2100∧t5=t4:=by rw[tTo,if_neg (show ¬s4=ZmA from hc1),if_pos (show s4=maxA from hc2)] at e5;cases e5;exact⟨rfl,rfl⟩
   obtain⟨rfl,rfl⟩:=hq
   refine Zar<|Vw (Zac lk)<|E' (Zam lk (cvl lki rfl) (hga (Zaj hn) rfl) rfl (nb' rfl) rfl Zdj (hs1 (Zaj hn))) ptn<|Zaq<|ZaC<|ZaB<|?_
   exact cT' (()) (by trivial)
  have hq:tNum s4 4 4 t4=(yr,t5):=by rw[tTo,if_neg (show ¬s4=ZmA from hc1),if_neg (show ¬s4=maxA from hc2)] at e5;exact e5
  refine Zar<|mw<|mw<|?_
  refine ZaJ mp (Zkl om hq (ZaQ hid)) (ZaD hid) pt ?_
  refine Vw (Zac lk)<|E' (Zam lk cv (hga (Zaj hn) rfl) rfl (nb' rfl) rfl Zdj (hs1 (Zaj hn))) ptn<|Zaq<|ZaC<|ZaB<|?_
  exact cT' (()) (by trivial)
 rintro u hq9
 try simp only[sm',Nat.reduceAdd]
 refine wr'<|mw<|ZaJ mp (Zkm e6 (ZaQ hid)) (ZaD hid) pt<|Vw (Zac lk)<|E' (Zam lk cv (hga (Zaj hn) rfl) rfl (nb' rfl) rfl Zhu (hs1 (Zaj hn))) ptn<|sn'<|wr'<|mw<|ZaJ mp (tform_e o6 e7 (ZaQ hid)) (ZaD hid) pt<|Vw (Zac lk)<|E' (Zam lk cv (hga (Zaj hn) rfl) rfl (nb' rfl) rfl Zly (hs1 (Zaj hn))) ptn<|?_
 refine sn'<|wr'<|mw<|ZaJ mp (Zkr (.inl rfl) o7 e8 (ZaQ hid)) (ZaD hid) pt<|mw<|Vw (ZbJ lk gt)<|Vw (ZbJ lk gt)<|Vw (Zac lk)<|E' (Zam lk cv (hga (Zaj hn) rfl) rfl (nb' rfl) rfl Zlw (hs1 (Zaj hn))) ptn<|Vw (Zac lk)<|E' (Zam lk cv (hga (Zaj hn) rfl) rfl (nb' rfl) rfl Zht (hs1 (Zaj hn))) ptn<|Zaq<|?_
 refine Zah<|wr'<|mw<|mw<|ZaJ mp (ZcD e9 (ZaQ hid)) (ZaD hid) pt<|ZaJ mp (Zfa z9 e10 (ZaQ hid)) (ZaD hid) pt<|Vw (Zac lk)<|E' (Zam lk cv (hga (Zaj hn) rfl) rfl (nb' rfl) rfl Zhs (hs1 (Zaj hn))) ptn<|sn'<|wr'<|mw<|?_
 refine ZaJ mp (ZcD e11 (ZaQ hid)) (ZaD hid) pt<|mw<|sn'<|Zan<|wr'<|mw<|Vw (ZcW lk lks)<|mw<|?_
 refine sp' (t:=50) gt pt pt (fun hg50=>?_) (fun hg50=>?_)
 ·have hLt:ZcE t10=(s11,bad t11):=by rw[hL,hg50];rfl
  refine s_no gt pt<|s_no gt pt<|s_no gt pt<|s_nu gt pt<|s_nu gt pt<|s_nu gt pt<|s_no gt pt<|Vw (Zag lk lkb)<|sn'<|ZaH lk<|Zar<|mw<|Vw (ZbL lk)<|?_
  refine Vw (Zac lk)<|E' (Zam lk (cvl lkb rfl) (ZaQ hid) rfl (nb' rfl) rfl Zbj (ZaD hid)) ptn<|sn'<|Zan<|wr'<|mw<|Vw (ZcV lk lks)<|sn'<|?_
  refine ZdD lk (by exact decide_eq_true (by rw[hg50];decide)) ?_
  refine Zar<|mw<|Vw (Zac lk)<|E' (Zam lk cv (hga (Zaj hn) rfl) rfl (nb' rfl) rfl Zev (hs1 (Zaj hn))) ptn<|sn'<|wr'<|Vw (ZaE lk (hga (Zaj hn) rfl) ZbO rfl)<|E' (Zam lk cv (hga (Zaj hn) rfl) rfl (nb' rfl) rfl Zdx (hs0 (Zaj hn))) ptn<|sn'<|Zaa<|Zai (rs1 (rr_c gt (hga (Zaj hn) rfl) (ld1 ZbO rfl)))<|?_
  rw[hLt] at hR
  exact⟨_,_,rfl,Zaj hn,Zbr hlt ZaF,rfl,by rw[hR] <;> rfl,by rw[hR] <;> rfl⟩
 refine s_do gt<|mw<|s_do gt<|Vw (ZcV lk lks)<|s_do gt<|mw<|?_
 refine sp' (t:=53) gt pt pt (fun hg53=>?_) (fun hg53=>?_)
 ·refine s_do gt<|mw<|s_do gt<|?_
  refine Zak mp (Zfy (by unfold maxLen;omega)) pt ?_
  refine s_do gt<|Vw (Zav lk)<|s_do gt<|Vw (Zag lk lk)<|Vw (Zab lk lk)<|sn'<|?_
  refine Zaz lk (fun hc3=>?_) (fun hc3=>?_)
  ·have hl:ZbR s11=false:=by simpa using hc3
   have hLt:ZcE t10=(s11,bad t11):=by rw[hL,if_neg (show ¬s11=bA [45] from hg53),if_neg (by unfold ZdN;rw[hl,decide_eq_false (show ¬s11=bA [45] from hg53)];simp)]
   refine Zar<|mw<|Vw (ZbL lk)<|Vw (Zac lk)<|E' (Zam lk (cvl lkb rfl) (ZaQ hid) rfl (nb' rfl) rfl Zbj (ZaD hid)) ptn<|sn'<|Zan<|wr'<|mw<|Vw (ZcV lk lks)<|sn'<|?_
   refine ZdD lk (by exact decide_eq_true hg53) ?_
   refine Zar<|mw<|Vw (Zac lk)<|E' (Zam lk cv (hga (Zaj hn) rfl) rfl (nb' rfl) rfl Zev (hs1 (Zaj hn))) ptn<|sn'<|wr'<|Vw (ZaE lk (hga (Zaj hn) rfl) ZbO rfl)<|E' (Zam lk cv (hga (Zaj hn) rfl) rfl (nb' rfl) rfl Zdx (hs0 (Zaj hn))) ptn<|sn'<|Zaa<|Zai (rs1 (rr_c gt (hga (Zaj hn) rfl) (ld1 ZbO rfl)))<|?_
   rw[hLt] at hR
   exact⟨_,_,rfl,Zaj hn,Zbr hlt ZaF,rfl,by rw[hR] <;> rfl,by rw[hR] <;> rfl⟩
  have hl:ZbR s11=true:=by simpa using hc3
  have hLt:ZcE t10=(s11,t11):=by rw[hL,if_neg (show ¬s11=bA [45] from hg53),if_pos (by unfold ZdN;rw[hl,decide_eq_true hg50];simp)]
  refine Zaf<|Zah<|Zan<|wr'<|mw<|Vw (ZcV lk lks)<|sn'<|?_
  refine ZdD lk (by exact decide_eq_true hg53) ?_
  refine Zar<|mw<|Vw (Zac lk)<|E' (Zam lk cv (hga (Zaj hn) rfl) rfl (nb' rfl) rfl Zev (hs1 (Zaj hn))) ptn<|sn'<|wr'<|Vw (ZaE lk (hga (Zaj hn) rfl) ZbO rfl)<|E' (Zam lk cv (hga (Zaj hn) rfl) rfl (nb' rfl) rfl Zdx (hs0 (Zaj hn))) ptn<|sn'<|Zaa<|Zai (rs1 (rr_c gt (hga (Zaj hn) rfl) (ld1 ZbO rfl)))<|?_
  rw[hLt] at hR
  exact⟨_,_,rfl,Zaj hn,Zbr hlt ZaF,rfl,by rw[hR] <;> rfl,by rw[hR] <;> rfl⟩
 have h45:s11=bA [45]:=Decidable.of_not_not hg53
 have hLt:ZcE t10=(⟨#[]⟩,t11):=by rw[hL,h45];rfl
 refine s_no gt pt<|s_no gt pt<|s_no gt pt<|s_do gt<|Vw (Zab lk lkb)<|Vw (Zab lk lk)<|sn'<|ZaG lk<|Zaf<|Zah<|Zan<|wr'<|?_
 refine mw<|Vw (ZcV lk lks)<|sn'<|?_
 refine Zb1 lk (by exact decide_eq_false (by rw[h45];decide)) ?_
 refine Zaf<|Zah<|wr'<|Vw (ZaE lk (hga (Zaj hn) rfl) ZbO rfl)<|E' (Zam lk cv (hga (Zaj hn) rfl) rfl (nb' rfl) rfl Zdx (hs0 (Zaj hn))) ptn<|sn'<|Zaa<|Zai (rs1 (rr_c gt (hga (Zaj hn) rfl) (ld1 ZbO rfl)))<|?_
 rw[hLt] at hR
 exact⟨_,_,rfl,Zaj hn,Zbr hlt ZaF,rfl,by rw[hR] <;> rfl,by rw[hR] <;> rfl⟩
theorem tSpan_bd {s:ByteArray}{t:TS}:0≤(Zbc s t).1∧(Zbc s t).1<1000000000:=by
 unfold Zbc
 split
 ·exact⟨Int.le_refl 0,show (0:Int)<1000000000 by decide⟩
 unfold ZdG
 split
 ·rename_i a b _
  have h1:=Zf5 (s:=bA a) (a:=1) (b:=2) (t:=t) om
  have h2:=Zfc (s:=bA b) (t:=(tNum (bA a) 1 2 t).2)
  constructor <;> dsimp only <;> omega
 ·rename_i a b c _
  have h1:=Zf5 (s:=bA a) (a:=1) (b:=2) (t:=t) om
  have h2:=Zfc (s:=bA b) (t:=(tNum (bA a) 1 2 t).2)
  have h3:=Zfc (s:=bA c) (t:=(tSix (bA b) (tNum (bA a) 1 2 t).2).2)
  constructor <;> dsimp only <;> omega
 exact⟨Int.le_refl 0,show (0:Int)<1000000000 by decide⟩
abbrev eraZ:List AV:=[iv 0,sv ⟨#[]⟩,iv 0,sv ⟨#[]⟩,bv false,iv 0,iv 0,iv 0,iv 0,iv 0]
theorem Zg4 {t u:TS}{n:Int}(ho:okTS t) (e:ZeC t=(n,u)):okTS u:=by
 obtain⟨x,v,ev⟩ : ∃ x v,ZaK t=(x,v):=⟨_,_,rfl⟩
 unfold ZeC at e
 rw[ev] at e
 have:=(ZaW ho ev).2
 split at e
 ·cases e;exact Zeo tSpan_fst this
 exact Zgf this e
theorem Zg5 {s:ByteArray}{t u:TS}{p:Int×ByteArray}(ho:okTS t) (e:Zc6 s t=(p,u)):okTS u:=by
 unfold Zc6 at e
 split at e
 ·cases e;exact ho
 split at e
 ·cases e
  refine Zeo tSpan_fst ?_
  split <;> exact ho
 cases e
 split <;> exact ho
theorem tera_a {t:TS}{id:Nat}{h:AH}(ho:okTS t) (h1:h[id]?=some (takE t)):ACalls Try.prog 25 [.ptr id 0 0] h fun x h'=>x=.ret (.agg (eraC (tEra t).1))∧h'=h.set id (takE (tEra t).2):=by
 have hid:id<h.length:=(List.getElem?_eq_some_iff.1 h1).1
 obtain⟨s1,t1,e1⟩ : ∃ a b,ZaK t=(a,b):=⟨_,_,rfl⟩
 obtain⟨z1,o1⟩:=ZaW ho e1
 have hem1:=Zd4 (f:=s1)
 obtain⟨sh,t2,e2⟩ : ∃ a b,ZeC t=(a,b):=⟨_,_,rfl⟩
 have o2:=Zg4 ho e2
 obtain⟨s3,t3,e3⟩ : ∃ a b,ZaK t2=(a,b):=⟨_,_,rfl⟩
 obtain⟨z3,o3⟩:=ZaW o2 e3
 have hem3:=Zd4 (f:=s3)
 obtain⟨⟨sa,rl⟩,t4,e4⟩ : ∃ a b,Zc6 s3 t3=(a,b):=⟨_,_,rfl⟩
 have o4:=Zg5 o3 e4
 obtain⟨fm,t5,e5⟩ : ∃ a b,ZaK t4=(a,b):=⟨_,_,rfl⟩
 obtain⟨z5,o5⟩:=ZaW o4 e5
 obtain⟨t6,e6⟩ : ∃ u,(if Zc8 fm=true then t5 else bad t5)=u:=⟨_,rfl⟩
 have o6:okTS t6:=by rw[←e6];split <;> exact o5
 obtain⟨s7,t7,e7⟩ : ∃ a b,ZaK t6=(a,b):=⟨_,_,rfl⟩
 obtain⟨z7,o7⟩:=ZaW o6 e7
 obtain⟨y,t8,e8⟩ : ∃ a b,tNum s7 4 4 t7=(a,b):=⟨_,_,rfl⟩
 have o8:=ZfR o7 e8
 obtain⟨m,t9,e9⟩ : ∃ a b,ZcO t8=(a,b):=⟨_,_,rfl⟩
 have o9:=Zfg o8 e9
 obtain⟨s10,t10,e10⟩ : ∃ a b,ZaK t9=(a,b):=⟨_,_,rfl⟩
 obtain⟨z10,o10⟩:=ZaW o9 e10
 obtain⟨d,t11,e11⟩ : ∃ a b,tNum s10 1 2 t10=(a,b):=⟨_,_,rfl⟩
 have o11:=ZfR o10 e11
 obtain⟨c,t12,e12⟩ : ∃ a b,Zcy 2 t11=(a,b):=⟨_,_,rfl⟩
 have o12:=Zfh o11 e12
 have hU:Zfw t6=(((y,m,d),c.1,c.2),if c.2=1 then bad t12 else t12):=by
  simp only[Zfw,Zbx,ret2,Zl5,tDay,Zl6,e7,e8,e9,e10,e11,e12]
 have hR:tEra t=((sh,rl,sa,fm,(tEnd t6).1.1,(tEnd t6).1.2),(tEnd t6).2):=by
  simp only[tEra,Zbx,ret2,Zl8,Zf6,e2,e3,e4,e5,e6]
 refine tJ' k25 fun N hn hlt hlA hbd=>?_
 simp only[tb'] at hbd ⊢
 refine ZcT (h1:=h.set id (takE t)++[]) (by rw[ZcR h1]) ?_
 refine wr'<|E' (ZbZ (hl0 (Zaj hn)) ha0) pt<|sn'<|wr'<|E' (ZbZ (hl1 (Zaj hn)) ha1) pt<|sn'<|wr'<|mw<|ZaJ mp (ZcD e1 (ZaQ hid)) (ZaD hid) pt<|?_
 refine mw<|sn'<|?_
 refine Zkd (ι:=Unit) (fun (u:Unit)=>[]++rn' 10 17) (fun (u:Unit)=>h.set id (takE t2)++[.mk 0 77 10 eraZ,.mk 0 77 10 [iv sh,sv ⟨#[]⟩,iv 0,sv ⟨#[]⟩,bv false,iv 0,iv 0,iv 0,iv 0,iv 0]]) (fun (u:Unit)=>True) ?_ ?_
 ·try simp only[sm',Nat.reduceAdd]
  refine wr'<|mw<|Vw (ZcV lk lks)<|mw<|?_
  refine sp' (t:=12) gt pt pt (fun hg12=>?_) (fun hg12=>?_)
  ·have hn1:s1.size≠0:=fun e=>hg12 (hem1.2 e)
   refine s_do gt<|mw<|s_do gt<|?_
   refine V' (v_ix lk lki om om) pt ?_
   refine s_do gt<|Vw (ZaS lk lki)<|Vw (Zag lk lk)<|sn'<|?_
   refine cd' lk (fun hc1=>?_) (fun hc1=>?_)
   ·have hc:s1.size≠0∧ZfF s1=45:=⟨fun e=>hg12 (hem1.2 e),hc1⟩
    obtain⟨n,u2,f2⟩ : ∃ a b,Zbc (s1.extract 1 s1.size) t1=(a,b):=⟨_,_,rfl⟩
    have hb2:=tSpan_bd (s:=s1.extract 1 s1.size) (t:=t1)
    rw[f2] at hb2
    replace hb2:0≤n∧n<1000000000:=hb2
    have hq:sh = -n∧t2=u2:=by unfold ZeC at e2;rw[e1,if_pos hc,f2] at e2;cases e2;exact⟨rfl,rfl⟩
    obtain⟨rfl,rfl⟩:=hq
    refine Zar<|mw<|mw<|?_
    refine V' (Zc4 lk (oi lki) on_ om om om) pt ?_
    refine ZaJ mp (Zfa (by rw[ByteArray.size_extract];omega) f2 (ZaQ hid)) (ZaD hid) pt ?_
    refine V' (v_neg lk om om) pt ?_
    refine Vw (Zac lk)<|E' (Zam lk cv (hga (Zaj hn) rfl) rfl (nb' rfl) rfl Zeb (hs1 (Zaj hn))) ptn<|Zaq<|ZaB<|?_
    exact cT' (()) (by trivial)
   have hc:¬(s1.size≠0∧ZfF s1=45):=fun e=>hc1 e.2
   have f2:Zbc s1 t1=(sh,t2):=by unfold ZeC at e2;rw[e1,if_neg hc] at e2;exact e2
   refine Zar<|mw<|mw<|ZaJ mp (Zfa z1 f2 (ZaQ hid)) (ZaD hid) pt<|Vw (Zac lk)<|E' (Zam lk cv (hga (Zaj hn) rfl) rfl (nb' rfl) rfl Zeb (hs1 (Zaj hn))) ptn<|Zaq<|ZaB<|?_
   exact cT' (()) (by trivial)
  have hc:¬(s1.size≠0∧ZfF s1=45):=fun e=>e.1 (hem1.1 (Decidable.of_not_not hg12))
  have f2:Zbc s1 t1=(sh,t2):=by unfold ZeC at e2;rw[e1,if_neg hc] at e2;exact e2
  refine s_no gt pt<|s_no gt pt<|s_no gt pt<|Vw (Zab lk lkb)<|sn'<|ZaG lk<|Zar<|mw<|mw<|ZaJ mp (Zfa z1 f2 (ZaQ hid)) (ZaD hid) pt<|Vw (Zac lk)<|E' (Zam lk cv (hga (Zaj hn) rfl) rfl (nb' rfl) rfl Zeb (hs1 (Zaj hn))) ptn<|Zaq<|?_
  refine ZaB ?_
  exact cT' (()) (by trivial)
 rintro u hq5
 try simp only[sm',Nat.reduceAdd]
 refine wr'<|mw<|ZaJ mp (ZcD e3 (ZaQ hid)) (ZaD hid) pt<|mw<|sn'<|?_
 refine Zkd (ι:=Unit) (fun (u:Unit)=>[]++rn' 29 28) (fun (u:Unit)=>h.set id (takE t4)++[.mk 0 77 10 eraZ,.mk 0 77 10 [iv sh,sv rl,iv sa,sv ⟨#[]⟩,bv false,iv 0,iv 0,iv 0,iv 0,iv 0]]) (fun (u:Unit)=>True) ?_ ?_
 ·try simp only[sm',Nat.reduceAdd]
  refine Zao<|wr'<|mw<|Vw (ZcW lk lks)<|mw<|sn'<|?_
  refine cd' lk (fun hc2=>?_) (fun hc2=>?_)
  ·have hq:sa=0∧rl=⟨#[]⟩∧t4=t3:=by rw[Zc6,if_pos (show s3=bA [45] from hc2)] at e4;cases e4;exact⟨rfl,rfl,rfl⟩
   obtain⟨rfl,rfl,rfl⟩:=hq
   refine Zaf<|ZaC<|ZaB<|?_
   exact cT' (()) (by trivial)
  rw[Zc6,if_neg (show ¬s3=bA [45] from hc2)] at e4
  have hbz:=ZdW s3 0
  refine wr'<|mw<|Vw (ZcV lk lks)<|mw<|?_
  refine sp' (t:=43) gt pt pt (fun hg43=>?_) (fun hg43=>?_)
  ·have hn3:s3.size≠0:=fun e=>hg43 (hem3.2 e)
   refine s_do gt<|mw<|s_do gt<|?_
   refine V' (v_ix lk lki om om) pt ?_
   refine s_do gt<|Zak mp (Zdf hbz.1 hbz.2) pt<|Vw (Zag lk lk)<|mw<|sn'<|?_
   refine Zaz lk (fun hc3=>?_) (fun hc3=>?_)
   ·have hc:s3.size≠0∧digB (ZfF s3)=true:=⟨fun e=>hg43 (hem3.2 e),hc3⟩
    rw[if_pos hc] at e4
    refine Zan<|wr'<|mw<|Vw (ZcW lk lks)<|sn'<|?_
    refine cd' lk (fun hc4=>?_) (fun hc4=>?_)
    ·rw[if_pos (show s3=bA [48] from hc4)] at e4
     have hsp:Zbc s3 (bad t3)=(sa,t4):=by cases e4;rfl
     have hrl:rl=⟨#[]⟩:=by cases e4;rfl
     subst hrl
     refine Zar<|mw<|Vw (ZbL lk)<|Vw (Zac lk)<|E' (Zam lk (cvl lkb rfl) (ZaQ hid) rfl (nb' rfl) rfl Zbj (ZaD hid)) ptn<|sn'<|Zar<|mw<|mw<|ZaJ mp (Zfa z3 hsp (ZaQ hid)) (ZaD hid) pt<|Vw (Zac lk)<|E' (Zam lk cv (hga (Zaj hn) rfl) rfl (nb' rfl) rfl Zdj (hs1 (Zaj hn))) ptn<|Zaq<|?_
     refine ZaC<|ZaB<|?_
     exact cT' (()) (by trivial)
    rw[if_neg (show ¬s3=bA [48] from hc4)] at e4
    have hsp:Zbc s3 t3=(sa,t4):=by cases e4;rfl
    have hrl:rl=⟨#[]⟩:=by cases e4;rfl
    subst hrl
    refine Zaf<|Zah<|Zar<|mw<|mw<|ZaJ mp (Zfa z3 hsp (ZaQ hid)) (ZaD hid) pt<|Vw (Zac lk)<|E' (Zam lk cv (hga (Zaj hn) rfl) rfl (nb' rfl) rfl Zdj (hs1 (Zaj hn))) ptn<|Zaq<|ZaC<|ZaB<|?_
    exact cT' (()) (by trivial)
   have hc:¬(s3.size≠0∧digB (ZfF s3)=true):=fun e=>by have:=e.2;rw[show digB (ZfF s3)=false from hc3] at this;cases this
   refine Zan<|wr'<|mw<|?_
   rw[if_neg hc] at e4
   refine Zak mp (Zcz (by unfold maxLen;omega)) pt ?_
   refine Vw (Zav lk)<|sn'<|?_
   refine Zaz lk (fun hc5=>?_) (fun hc5=>?_)
   ·have hnm:¬Zcc s3=true:=by simpa using hc5
    rw[if_neg hnm] at e4
    have hq:sa=0∧rl=s3∧t4=bad t3:=by cases e4;exact⟨rfl,rfl,rfl⟩
    obtain⟨rfl,rfl,rfl⟩:=hq
    refine Zar<|mw<|Vw (ZbL lk)<|Vw (Zac lk)<|E' (Zam lk (cvl lkb rfl) (ZaQ hid) rfl (nb' rfl) rfl Zbj (ZaD hid)) ptn<|sn'<|Zar<|mw<|Vw (Zac lk)<|E' (Zam lk cv (hga (Zaj hn) rfl) rfl (nb' rfl) rfl Zbj (hs1 (Zaj hn))) ptn<|Zaq<|ZaC<|ZaB<|?_
    exact cT' (()) (by trivial)
   have hnm:Zcc s3=true:=by simpa using hc5
   rw[if_pos hnm] at e4
   have hq:sa=0∧rl=s3∧t4=t3:=by cases e4;exact⟨rfl,rfl,rfl⟩
   obtain⟨rfl,rfl,rfl⟩:=hq
   refine Zaf<|Zah<|Zar<|mw<|Vw (Zac lk)<|E' (Zam lk cv (hga (Zaj hn) rfl) rfl (nb' rfl) rfl Zbj (hs1 (Zaj hn))) ptn<|Zaq<|ZaC<|ZaB<|?_
   exact cT' (()) (by trivial)
  have hc:¬(s3.size≠0∧digB (ZfF s3)=true):=fun e=>e.1 (hem3.1 (Decidable.of_not_not hg43))
  refine s_no gt pt<|s_no gt pt<|s_no gt pt<|Vw (Zab lk lkb)<|mw<|sn'<|ZaG lk<|Zan<|wr'<|mw<|?_
  rw[if_neg hc] at e4
  refine Zak mp (Zcz (by unfold maxLen;omega)) pt ?_
  refine Vw (Zav lk)<|sn'<|?_
  refine Zaz lk (fun hc5=>?_) (fun hc5=>?_)
  ·have hnm:¬Zcc s3=true:=by simpa using hc5
   rw[if_neg hnm] at e4
   have hq:sa=0∧rl=s3∧t4=bad t3:=by cases e4;exact⟨rfl,rfl,rfl⟩
   obtain⟨rfl,rfl,rfl⟩:=hq
   refine Zar<|mw<|Vw (ZbL lk)<|Vw (Zac lk)<|E' (Zam lk (cvl lkb rfl) (ZaQ hid) rfl (nb' rfl) rfl Zbj (ZaD hid)) ptn<|sn'<|Zar<|mw<|Vw (Zac lk)<|E' (Zam lk cv (hga (Zaj hn) rfl) rfl (nb' rfl) rfl Zbj (hs1 (Zaj hn))) ptn<|Zaq<|ZaC<|ZaB<|?_
   exact cT' (()) (by trivial)
  have hnm:Zcc s3=true:=by simpa using hc5
  rw[if_pos hnm] at e4
  have hq:sa=0∧rl=s3∧t4=t3:=by cases e4;exact⟨rfl,rfl,rfl⟩
  obtain⟨rfl,rfl,rfl⟩:=hq
  refine Zaf<|Zah<|Zar<|mw<|Vw (Zac lk)<|E' (Zam lk cv (hga (Zaj hn) rfl) rfl (nb' rfl) rfl Zbj (hs1 (Zaj hn))) ptn<|Zaq<|ZaC<|ZaB<|?_
  exact cT' (()) (by trivial)
 rintro u hq13
 try simp only[sm',Nat.reduceAdd]
 refine wr'<|mw<|ZaJ mp (ZcD e5 (ZaQ hid)) (ZaD hid) pt<|Vw (Zac lk)<|E' (Zam lk cv (hga (Zaj hn) rfl) rfl (nb' rfl) rfl Zhu (hs1 (Zaj hn))) ptn<|sn'<|?_
 refine Zkd (ι:=Unit) (fun (u:Unit)=>[]++rn' 60 7) (fun (u:Unit)=>h.set id (takE t6)++[.mk 0 77 10 eraZ,.mk 0 77 10 [iv sh,sv rl,iv sa,sv fm,bv false,iv 0,iv 0,iv 0,iv 0,iv 0]]) (fun (u:Unit)=>True) ?_ ?_
 ·try simp only[sm',Nat.reduceAdd]
  refine wr'<|Vw (Zac lk)<|Vw (Zae lk (hga (Zaj hn) rfl) gt3)<|?_
  refine Zak mp (Zen (by unfold maxLen;omega)) pt ?_
  refine Vw (Zav lk)<|sn'<|?_
  refine Zaz lk (fun hc6=>?_) (fun hc6=>?_)
  ·have hq:t6=bad t5:=by rw[←e6,if_neg (by simpa using hc6)]
   subst hq
   refine Zar<|mw<|Vw (ZbL lk)<|Vw (Zac lk)<|E' (Zam lk (cvl lkb rfl) (ZaQ hid) rfl (nb' rfl) rfl Zbj (ZaD hid)) ptn<|Zaq<|ZaB<|?_
   exact cT' (()) (by trivial)
  have hq:t6=t5:=by rw[←e6,if_pos (by simpa using hc6)]
  subst hq
  refine Zaf<|ZaB<|?_
  exact cT' (()) (by trivial)
 rintro u hq16
 try simp only[sm',Nat.reduceAdd]
 refine Zan<|wr'<|mw<|Vw (ZbL lk)<|Vw (Zac lk)<|Vw (Zae lk (ZaQ hid) gt0)<|Vw (Za6 lk)<|Vw (ZaS lk lki)<|sn'<|?_
 refine cd' lk (fun hc7=>?_) (fun hc7=>?_)
 ·have hE:tEnd t6=((true,untZ),t6):=by unfold tEnd;rw[if_pos (List.eq_nil_of_length_eq_zero om)]
  rw[hE] at hR
  refine wr'<|Vw (Zac lk)<|E' (Zam lk (cvl lkb rfl) (hga (Zaj hn) rfl) rfl (nb' rfl) rfl Zlz (hs1 (Zaj hn))) ptn<|sn'<|wr'<|Vw (ZaE lk (hga (Zaj hn) rfl) Zcx rfl)<|E' (Zam lk cv (hga (Zaj hn) rfl) rfl (nb' rfl) rfl Zew (hs0 (Zaj hn))) ptn<|sn'<|Zaa<|Zal<|?_
  refine Zai (rs1 (rr_c gt (hga (Zaj hn) rfl) (ld1 Zcx rfl))) ?_
  exact⟨_,_,rfl,Zaj hn,Zbr hlt ZaF,rfl,by rw[hR] <;> rfl,by rw[hR] <;> rfl⟩
 have hE:tEnd t6=((false,(Zfw t6).1),(Zfw t6).2):=by unfold tEnd;rw[if_neg (by intro e;rw[e] at hc7;exact hc7 rfl)]
 rw[hE,hU] at hR
 refine Zaf<|Zah<|wr'<|mw<|mw<|ZaJ mp (ZcD e7 (ZaQ hid)) (ZaD hid) pt<|?_
 refine ZaJ mp (Zkl om e8 (ZaQ hid)) (ZaD hid) pt ?_
 refine mw<|sn'<|wr'<|mw<|ZaJ mp (Zkm e9 (ZaQ hid)) (ZaD hid) pt<|mw<|sn'<|wr'<|mw<|mw<|?_
 refine ZaJ mp (ZcD e10 (ZaQ hid)) (ZaD hid) pt ?_
 refine ZaJ mp (Zkl om e11 (ZaQ hid)) (ZaD hid) pt ?_
 refine mw<|sn'<|wr'<|mw<|mw<|mw<|Vw (Zax (Zim cv rfl cv rfl cv rfl))<|Vw (Zac lk)<|Vw (Zch lk)<|E' (Zam lk cv (hga (Zaj hn) rfl) rfl (nb' rfl) rfl Zlx (hs1 (Zaj hn))) ptn<|sn'<|?_
 refine wr'<|mw<|ZaJ mp (Zkr (.inr rfl) o11 e12 (ZaQ hid)) (ZaD hid) pt<|mw<|Vw (ZbJ lk gt)<|Vw (ZbJ lk gt)<|Vw (Zac lk)<|Vw (Zch lk)<|E' (Zam lk cv (hga (Zaj hn) rfl) rfl (nb' rfl) rfl Zht (hs1 (Zaj hn))) ptn<|Vw (Zac lk)<|Vw (Zch lk)<|E' (Zam lk cv (hga (Zaj hn) rfl) rfl (nb' rfl) rfl Zhs (hs1 (Zaj hn))) ptn<|Zaq<|?_
 refine Zah<|Zan<|wr'<|Vw (Zac lk)<|Vw (Zch lk)<|Vw (Zae lk (hga (Zaj hn) rfl) gt9)<|Vw (ZaS lk lki)<|sn'<|?_
 refine cd' lk (fun hc8=>?_) (fun hc8=>?_)
 ·rw[if_pos hc8] at hR
  refine Zar<|mw<|Vw (ZbL lk)<|Vw (Zac lk)<|E' (Zam lk (cvl lkb rfl) (ZaQ hid) rfl (nb' rfl) rfl Zbj (ZaD hid)) ptn<|sn'<|wr'<|Vw (ZaE lk (hga (Zaj hn) rfl) Zcx rfl)<|E' (Zam lk cv (hga (Zaj hn) rfl) rfl (nb' rfl) rfl Zew (hs0 (Zaj hn))) ptn<|sn'<|Zaa<|?_
  refine Zai (rs1 (rr_c gt (hga (Zaj hn) rfl) (ld1 Zcx rfl))) ?_
  exact⟨_,_,rfl,Zaj hn,Zbr hlt ZaF,rfl,by rw[hR] <;> rfl,by rw[hR] <;> rfl⟩
 rw[if_neg hc8] at hR
 refine Zaf<|Zah<|wr'<|Vw (ZaE lk (hga (Zaj hn) rfl) Zcx rfl)<|E' (Zam lk cv (hga (Zaj hn) rfl) rfl (nb' rfl) rfl Zew (hs0 (Zaj hn))) ptn<|sn'<|Zaa<|Zai (rs1 (rr_c gt (hga (Zaj hn) rfl) (ld1 Zcx rfl)))<|?_
 exact⟨_,_,rfl,Zaj hn,Zbr hlt ZaF,rfl,by rw[hR] <;> rfl,by rw[hR] <;> rfl⟩
end Go.Proofs.Yticajimgfndceaa
end
section
namespace Go.Proofs.Yticajimgfndceaa
open Go.Ab
theorem Zmw (s:ByteArray):Zbg s=if (Zbv s).2.2≠0 then (srcZ,(Zbv s).2.1,(Zbv s).2.2) else outP (Zbv s).1:=rfl
end Go.Proofs.Yticajimgfndceaa
end
section
namespace Go.Proofs.Yticajimgfndceaa
open Go.Ab Go.RowKit
def badN (n:Int):Bool:=!plnN n||decide (n=34)
def Zeh (f:ByteArray):Int:=if (aB f).any (fun c=>badN c.toNat)=true then 1 else if 24<f.size then 2 else 0
def Zhh:List ByteArray→Int
 | []=>0
 | f::fs=>if Zeh f≠0 then Zeh f else Zhh fs
def Zli (fs:List ByteArray):Int:=if fs.length=0 then 1 else if 12<fs.length then 2 else Zhh fs
end Go.Proofs.Yticajimgfndceaa
end
section
namespace Go.Proofs.Yticajimgfndceaa
open Go.Ab
theorem ZhU {p:Int→Bool} : ∀ {l:Bs}{n:Nat},runL p l=some n → ∀ c∈l.take n,p c.toNat=true∧plnN c.toNat=true
 | [],n,h,c,hc=>by simp at hc
 | x::l,n,h,c,hc=>by
  unfold runL at h
  split at h
  ·rename_i hp
   split at h
   ·rename_i hq
    rw[Option.map_eq_some_iff] at h
    obtain⟨m,hm,rfl⟩:=h
    rw[List.take_succ_cons] at hc
    rcases List.mem_cons.1 hc with rfl | hc
    ·exact⟨hp,hq⟩
    ·exact ZhU hm c hc
   ·cases h
  ·cases h;simp at hc
theorem ZkY {n:Int}:badN n=false↔plnN n=true∧n≠34:=by
 unfold badN;simp
theorem ZjZ {l:Bs}{x:Nat×Nat×Nat}(h:Zcr l=some x) : ∀ c∈(l.drop x.1).take x.2.1,badN c.toNat=false:=by
 cases l with
 | nil=>cases h
 | cons c l =>
  by_cases hc:(c.toNat:Int)=34
  ·rw[Zcr,if_pos hc] at h
   cases hr:runL quoP l with
   | none=>rw[hr] at h;cases h
   | some n =>
    have:=ZhU hr
    rw[hr] at h
    simp only at h
    split at h
    ·cases h
    ·split at h
     ·cases h
     ·cases h
      intro y hy
      have:=this y (by simpa using hy)
      exact ZkY.2 ⟨this.2,by have:=this.1;unfold quoP at this;simpa using this⟩
  ·rw[Zcr,if_neg hc] at h
   cases hr:runL fldP (c::l) with
   | none=>rw[hr] at h;cases h
   | some n =>
    have:=ZhU hr
    rw[hr] at h
    simp only at h
    split at h
    ·cases h
    ·cases h
     intro y hy
     have:=this y (by simpa using hy)
     exact ZkY.2 ⟨this.2,by have:=this.1;unfold fldP at this;simp at this;exact this.2⟩
theorem Zj0 {f:ByteArray}(h1 : ∀ c∈aB f,badN c.toNat=false) (h2:f.size≤24):Zeh f=0:=by
 unfold Zeh
 rw[if_neg,if_neg om]
 rw[List.any_eq_true]
 rintro⟨c,hc,hb⟩
 rw[h1 c hc] at hb;cases hb
theorem Zlm {f:ByteArray}(h:Zeh f=0):(∀ c∈aB f,badN c.toNat=false)∧f.size≤24:=by
 unfold Zeh at h
 split at h
 ·cases h
 ·rename_i h1
  split at h
  ·cases h
  ·refine⟨fun c hc=>?_,by omega⟩
   cases hb:badN c.toNat
   ·rfl
   ·exact absurd (List.any_eq_true.2 ⟨c,hc,hb⟩) h1
theorem Zhe : ∀ {k:Nat}{acc:List ByteArray}{l:Bs},(∀ f∈acc,Zeh f=0)→acc.length≤12→(ZgN k acc l).2=0→(∀ f∈(ZgN k acc l).1,Zeh f=0)∧(ZgN k acc l).1.length≤12
 | 0,acc,l,h1,h2,_=>⟨h1,h2⟩
 | k+1,acc,l,h1,h2,h3=>by
  rw[ZgN] at h3 ⊢
  split at h3
  ·rename_i hm
   rw[if_pos hm]
   split at h3
   ·cases h3
   ·rename_i x hx
    split at h3
    ·cases h3
    ·rename_i hn
     rw[if_neg hn]
     refine Zhe (fun f hf=>?_) (by simp;omega) h3
     rcases List.mem_append.1 hf with hf | hf
     ·exact h1 f hf
     ·rw[List.mem_singleton] at hf
      subst hf
      refine Zj0 (fun c hc=>ZjZ hx c hc) ?_
      unfold cutF
      rw[Zfo,List.length_take];omega
  ·rename_i hm
   rw[if_neg hm]
   exact⟨h1,h2⟩
theorem Zlh {x:Bs}(h:(ZcU x).2=0) (hne:(ZcU x).1≠[]):Zli (ZcU x).1=0:=by
 obtain⟨h1,h2⟩:=Zhe (k:=13) (acc:=[]) (l:=x) (fun f hf=>by simp at hf) (by simp) h
 unfold Zli
 have:0<(ZcU x).1.length:=List.length_pos_iff.2 hne
 rw[if_neg om,if_neg (by show ¬12<(ZgN 13 [] x).1.length;omega)]
 have : ∀ {fs:List ByteArray},(∀ f∈fs,Zeh f=0)→Zhh fs=0:=by
  intro fs
  induction fs with
  | nil=>intro _;rfl
  | cons f fs ih =>
   intro h
   rw[Zhh,if_neg (by rw[h f (by simp)];simp)]
   exact ih fun g hg=>h g (by simp[hg])
 exact this h1
theorem Zg7 : ∀ {n:Int}{l:List Bs}{acc:List Ln},(ZbV n l acc).2.2≠0→(ZbV n l acc).1=[]
 | n,[],acc,h=>absurd rfl h
 | n,x::xs,acc,h=>by
  rw[ZbV] at h ⊢
  split at h
  ·rename_i h1;rw[if_pos h1]
  ·rename_i h1;rw[if_neg h1];exact Zg7 h
theorem Zgk : ∀ {n:Int}{l:List Bs}{acc:List Ln},(∀ x∈acc,Zli x.2.2=0) → ∀ x∈(ZbV n l acc).1,Zli x.2.2=0
 | n,[],acc,h=>h
 | n,y::ys,acc,h=>by
  rw[ZbV]
  split
  ·intro x hx;simp at hx
  ·rename_i h1
   refine Zgk fun x hx=>?_
   split at hx
   ·exact h x hx
   ·rename_i h2
    rcases List.mem_append.1 hx with hx | hx
    ·exact h x hx
    ·rw[List.mem_singleton] at hx
     subst hx
     exact Zlh (Decidable.of_not_not h1) h2
theorem ZjB {s:ByteArray} : ∀ x∈(Zbv s).1,Zli x.2.2=0:=by
 have:=Zgk (n:=1) (l:=cutC 10 (aB s)) (acc:=[]) (fun x hx=>by simp at hx)
 unfold Zbv
 split
 ·intro x hx;simp at hx
 ·split
  ·exact this
  ·split
   ·intro x hx;simp at hx
   ·exact this
end Go.Proofs.Yticajimgfndceaa
end
section
namespace Go.Proofs.Yticajimgfndceaa
open Go.Ab Go.RowKit Civ
def PT {α:Type}(f:TS→α×TS) (P:α→Prop):Prop := ∀ t,okTS t→P (f t).1∧okTS (f t).2
theorem PT.bind {α β:Type}{f:TS→α×TS}{k:α→TS→β×TS}{P:α→Prop}{Q:β→Prop}(h:PT f P) (hk : ∀ a,P a→PT (k a) Q):PT (Zbx f k) Q:=fun t ho=>hk _ (h t ho).1 _ (h t ho).2
theorem PT.ret {α:Type}{P:α→Prop}{a:α}(h:P a):PT (ret2 a) P:=fun t ho=>⟨h,ho⟩
theorem pt_next:PT ZaK (fun s=>s.size≤24):=fun t ho=>ZaW ho rfl
theorem pt_name:PT ZdH (fun s=>s.size≤24):=fun t ho=>⟨(ZaW ho (s:=(ZaK t).1) (u:=(ZaK t).2) rfl).1,ZeL ho rfl⟩
theorem pt_num (s:ByteArray) (a b:Int):PT (tNum s a b) (fun _=>True):=fun t ho=>⟨trivial,ZfR ho rfl⟩
theorem pt_year:PT Zl5 (fun _=>True):=pt_next.bind (k:=fun s=>tNum s 4 4) fun s _=>pt_num s 4 4
theorem pt_day:PT tDay (fun _=>True):=pt_next.bind (k:=fun s=>tNum s 1 2) fun s _=>pt_num s 1 2
theorem pt_to (f:Int):PT (tToN f) (fun _=>True):=pt_next.bind (k:=tTo f) fun s _=>fun t ho=>⟨trivial,ZmB ho rfl⟩
theorem pt_month:PT ZcO (fun _=>True):=fun t ho=>⟨trivial,Zfg ho rfl⟩
theorem pt_form:PT Zfd (fun _=>True):=fun t ho=>⟨trivial,ZiP ho rfl⟩
theorem Zky (d:Int):PT (Zcy d) (fun _=>True):=fun t ho=>⟨trivial,Zfh ho rfl⟩
theorem pt_span:PT Zl7 (fun _=>True):=pt_next.bind (k:=Zbc) fun s _=>fun t ho=>⟨trivial,Zgf ho rfl⟩
theorem pt_letter:PT ZcE (fun s=>s.size≤24):=by
 intro t ho
 have h:=ZaW ho (s:=(ZaK t).1) (u:=(ZaK t).2) rfl
 unfold ZcE
 refine⟨?_,?_⟩
 ·dsimp only;split
  ·decide
  ·exact h.1
 ·dsimp only;split
  ·exact h.2
  ·exact h.2
def okRul (r:Rul):Prop:=r.1.size≤maxLen∧r.2.2.2.2.2.2.2.2.size≤maxLen
theorem Zgl {n:Nat}(h:n≤24):n≤maxLen:=by unfold maxLen;omega
theorem pt_rule:PT ZhM okRul :=
 pt_name.bind fun nm h1=>pt_year.bind fun f _=>(pt_to f).bind fun _ _=>pt_month.bind fun m _=>pt_form.bind fun k _=>(Zky 1).bind fun c _=>pt_span.bind fun sv _=>pt_letter.bind fun l h2=>PT.ret ⟨Zgl h1,Zgl h2⟩
theorem pt_shift:PT ZeC (fun _=>True):=fun t ho=>⟨trivial,Zg4 ho rfl⟩
theorem pt_rules:PT Zl8 (fun p=>p.2.size≤24):=by
 refine pt_next.bind (k:=Zc6) fun s hs t ho=>⟨?_,Zg5 ho rfl⟩
 unfold Zc6
 split
 ·exact Nat.zero_le 24
 ·split
  ·exact Nat.zero_le 24
  ·exact hs
theorem pt_format:PT Zf6 (fun s=>s.size≤24):=by
 intro t ho
 have h:=ZaW ho (s:=(ZaK t).1) (u:=(ZaK t).2) rfl
 unfold Zf6
 refine⟨h.1,?_⟩
 dsimp only;split
 ·exact h.2
 ·exact h.2
theorem pt_until:PT Zfw (fun _=>True) :=
 pt_year.bind fun y _=>pt_month.bind fun m _=>pt_day.bind fun d _=>(Zky 2).bind fun c _=>PT.bind (P:=fun _=>True) (fun t ho=>⟨trivial,by unfold Zl6;dsimp only;split <;> exact ho⟩) fun _ _=>PT.ret trivial
theorem pt_end:PT tEnd (fun _=>True):=by
 intro t ho
 refine⟨trivial,?_⟩
 unfold tEnd
 split
 ·exact ho
 ·exact (pt_until t ho).2
theorem pt_era:PT tEra okEra :=
 pt_shift.bind fun sh _=>pt_rules.bind fun r h1=>pt_format.bind fun f h2=>pt_end.bind fun u _=>PT.ret ⟨Zgl h1,Zgl h2⟩
theorem ZiQ {s:Src}{x:Era}(h:ZhX s) (hx:okEra x):ZhX (Zb3 s x).1:=by
 refine⟨h.1,?_,h.2.2⟩
 show ∀ z∈Zk1 s.2.1 x,_
 obtain⟨a,z,l⟩:=s
 have h2:=h.2.1
 simp only at h2 ⊢
 rcases List.eq_nil_or_concat z with rfl | ⟨i,y,rfl⟩
 ·intro z hz;cases hz
 ·rw[List.concat_eq_append,Zet]
  intro z hz
  rcases List.mem_append.1 hz with hz | hz
  ·exact h2 z (by rw[List.concat_eq_append];exact List.mem_append_left _ hz)
  ·rw[List.mem_singleton] at hz
   subst hz
   have hy:=h2 y (by rw[List.concat_eq_append];simp)
   refine⟨hy.1,fun e he=>?_⟩
   rcases List.mem_append.1 he with he | he
   ·exact hy.2 e he
   ·rw[List.mem_singleton] at he;subst he;exact hx
theorem pt_body {p:PS}(h:ZhX p.1):PT (Zdv p) (fun q=>ZhX q.1):=by
 unfold Zdv
 split
 ·exact pt_era.bind fun x hx=>PT.ret (ZiQ h hx)
 ·refine pt_next.bind fun w _=>?_
  split
  ·refine pt_rule.bind fun r hr=>PT.ret ⟨fun y hy=>?_,h.2.1,h.2.2⟩
   rcases List.mem_append.1 hy with hy | hy
   ·exact h.1 y hy
   ·rw[List.mem_singleton] at hy;subst hy;exact hr
  ·split
   ·refine pt_name.bind fun n hn=>pt_era.bind fun x hx=>PT.ret (ZiQ ⟨h.1,fun y hy=>?_,h.2.2⟩ hx)
    rcases List.mem_append.1 hy with hy | hy
    ·exact h.2.1 y hy
    ·rw[List.mem_singleton] at hy;subst hy;exact⟨Zgl hn,fun e he=>by cases he⟩
   ·split
    ·refine pt_name.bind fun a ha=>pt_name.bind fun b hb=>PT.ret ⟨h.1,h.2.1,fun y hy=>?_⟩
     rcases List.mem_append.1 hy with hy | hy
     ·exact h.2.2 y hy
     ·rw[List.mem_singleton] at hy;subst hy;exact⟨Zgl ha,Zgl hb⟩
    ·exact fun t ho=>⟨h,ho⟩
theorem ZaV {p q:PS}{x:Ln}{u:TS}(hB:Zdv p (x.2.2,false)=(q,u)) (h:u.2=true∨u.1≠[]∨x.2.1≠p.2):ZiW p x=none:=ZmO (by unfold badT;rw[hB];exact h)
theorem ZcJ {p q:PS}{x:Ln}{u:TS}(hB:Zdv p (x.2.2,false)=(q,u)) (h1:u.2=false) (h2:u.1=[]) (h3:x.2.1=p.2):ZiW p x=some q:=by
 have:=lineR_ok (p:=p) (x:=x) (by unfold badT;rw[hB];simp[h1,h2,h3])
 rw[this,hB]
def curS (s:Src) (o:Option Zon):Src:=(s.1,s.2.1++o.toList,s.2.2)
theorem ZdP {s:Src}:curS s none=s:=by unfold curS;simp
def zC (N v:Nat):Option Zon→List AV
 | none=>[]
 | some z=>[sv z.1,.own (N+5) v z.2.length]
def eC:Option Zon→List Era
 | none=>[]
 | some z=>z.2
theorem ZmK {n:Nat}{b:List AV}(hb:AV.ltL n b=true) : ∀ {a:List AV},AV.ltL n a=true→AV.ltL n (a++b)=true
 | [],_=>hb
 | x::a,h=>by
  simp only[List.cons_append,AV.ltL,Bool.and_eq_true] at h ⊢
  exact⟨h.1,ZmK hb h.2⟩
theorem Ze5 {N v:Nat}{l:List Zon}{o:Option Zon}:AV.ltL (N+6) (rows zonC l++zC N v o)=true:=by
 refine ZmK ?_ (Zcf l)
 cases o <;> simp[zC,AV.ltL,AV.lt]
theorem Zio {N v:Nat}{l:List Zon}{o:Option Zon}:(rows zonC l++zC N v o).length=(l.length+o.toList.length)*2:=by
 rw[List.length_append,Ze4]
 cases o <;> simp[zC] <;> omega
theorem zc_at {l:List Zon}{a b:AV}{off:Nat}(h:off=l.length*2+1):(rows zonC l++[a,b])[off]?=some b:=by
 subst h
 rw[List.getElem?_append_right (by rw[Ze4];omega),Ze4,Nat.add_sub_cancel_left];rfl
theorem zc_set {l:List Zon}{a b c:AV}{off:Nat}(h:off=l.length*2+1):setCells (rows zonC l++[a,b]) off [c]=rows zonC l++[a,c]:=by
 subst h
 simp only[setCells]
 rw[List.set_append_right _ _ (by rw[Ze4];omega),Ze4,Nat.add_sub_cancel_left];rfl
theorem zc_put {l:List Zon}{a b c:AV}:aPut (rows zonC l++[a,b]) (some (l.length*2+1)) c=rows zonC l++[a,c]:=zc_set rfl
theorem zc_at2 {l:List Zon}{N v:Nat}{a b:AV}{off:Nat}(h:off=l.length*2+1):(rows zonC l++zC N v none++[a,b])[off]?=some b:=by
 rw[show rows zonC l++zC N v none=rows zonC l from List.append_nil _];exact zc_at h
theorem zc_put2 {l:List Zon}{N v:Nat}{a b c:AV}:aPut (rows zonC l++zC N v none++[a,b]) (some (l.length*2+1)) c=rows zonC l++[a,c]:=by
 rw[show rows zonC l++zC N v none=rows zonC l from List.append_nil _];exact zc_put
theorem ZiE {s:ByteArray} : ∀ x∈(Zbv s).1,∀ f∈x.2.2,f.size≤24:=by
 intro x hx f hf
 have h:=ZjB x hx
 unfold Zli at h
 split at h
 ·cases h
 ·split at h
  ·cases h
  ·have : ∀ {fs:List ByteArray},Zhh fs=0 → ∀ f∈fs,Zeh f=0:=by
    intro fs
    induction fs with
    | nil=>intro _ f hf;cases hf
    | cons g fs ih =>
     intro h f hf
     rw[Zhh] at h
     split at h
     ·rename_i h1;exact absurd h h1
     ·rename_i h1
      rcases List.mem_cons.1 hf with rfl | hf
      ·exact Decidable.of_not_not h1
      ·exact ih h f hf
   exact (Zlm (this h f hf)).2
theorem Zma {s:ByteArray}:(Zbv s).1.length≤200:=by
 unfold Zbv
 split
 ·simp
 ·split
  ·rename_i h2;rw[Zg7 h2];simp
  ·split
   ·simp
   ·omega
end Go.Proofs.Yticajimgfndceaa
end
section
namespace Go.Proofs.Yticajimgfndceaa
open Go.Ab Go.RowKit Civ
attribute [local simp] ZbU Zcl Zcf Zcq ZbT Zeq Ze5
section
theorem ZgE {τ:Operand→AV}:Zaw τ [] [(.sl 0 0 true []),(.sl 0 0 true []),(.sl 0 0 true [])]=some [(.sl 0 0 true []),(.sl 0 0 true []),(.sl 0 0 true [])]:=rfl
theorem ZaM {a0 a1 a2 c0 c1 c2:AV}{l:List AV}:setCells (a0::a1::a2::l) 0 [c0,c1,c2]=c0::c1::c2::l:=rfl
theorem ZaL {a0 a1 a2:AV}{l:List AV}:((a0::a1::a2::l).drop 0).take 3=[a0,a1,a2]:=rfl
theorem ZgD {τ:Operand→AV}{y0:Operand}{x0_0:AV}(h0:Zas (τ y0)=some [x0_0]) (l0:[x0_0].all leaf=true):Zaw τ [(0,1,y0)] [(.sl 0 0 true []),(.v (.bool false))]=some [x0_0,(.v (.bool false))]:=by
 simp only[Zaw,h0,l0]
 rfl
theorem Zhq {a0 a1 c0 c1:AV}{l:List AV}:setCells (a0::a1::l) 0 [c0,c1]=c0::c1::l:=rfl
theorem ZgB {τ:Operand→AV}{y0:Operand}{x0_0 x0_1 x0_2 x0_3 x0_4 x0_5 x0_6 x0_7 x0_8 x0_9 x0_10:AV}(h0:Zas (τ y0)=some [x0_0,x0_1,x0_2,x0_3,x0_4,x0_5,x0_6,x0_7,x0_8,x0_9,x0_10]) (l0:[x0_0,x0_1,x0_2,x0_3,x0_4,x0_5,x0_6,x0_7,x0_8,x0_9,x0_10].all leaf=true):Zaw τ [(0,11,y0)] [(.v (.string ⟨#[]⟩)),(.v (.int .i64 0)),(.v (.int .i64 0)),(.v (.int .i64 0)),(.v (.int .i64 0)),(.v (.int .i64 0)),(.v (.int .i64 0)),(.v (.int .i64 0)),(.v (.int .i64 0)),(.v (.int .i64 0)),(.v (.string ⟨#[]⟩))]=some [x0_0,x0_1,x0_2,x0_3,x0_4,x0_5,x0_6,x0_7,x0_8,x0_9,x0_10]:=by
 simp only[Zaw,h0,l0]
 rfl
theorem Zlt {a0 a1 a2 a3 a4 a5 a6 a7 a8 a9 a10:AV}{l:List AV}:(a0::a1::a2::a3::a4::a5::a6::a7::a8::a9::a10::l).take 11=[a0,a1,a2,a3,a4,a5,a6,a7,a8,a9,a10]:=rfl
theorem Zhr {a0 c0:AV}{l:List AV}:setCells (a0::l) 0 [c0]=c0::l:=rfl
theorem Zat {τ:Operand→AV}:Zaw τ [] [(.sl 0 0 true []),(.sl 0 0 true []),(.sl 0 0 true [])]=some [(.sl 0 0 true []),(.sl 0 0 true []),(.sl 0 0 true [])]:=rfl
theorem ZgA {τ:Operand→AV}{y0:Operand}{x0_0:AV}(h0:Zas (τ y0)=some [x0_0]) (l0:[x0_0].all leaf=true):Zaw τ [(0,1,y0)] [(.v (.string ⟨#[]⟩)),(.sl 0 0 true [])]=some [x0_0,(.sl 0 0 true [])]:=by
 simp only[Zaw,h0,l0]
 rfl
theorem Zgy {a0 a1 a2 a3 a4 a5 a6 a7 a8 a9 c0 c1 c2 c3 c4 c5 c6 c7 c8 c9:AV}{l:List AV}:setCells (a0::a1::a2::a3::a4::a5::a6::a7::a8::a9::l) 0 [c0,c1,c2,c3,c4,c5,c6,c7,c8,c9]=c0::c1::c2::c3::c4::c5::c6::c7::c8::c9::l:=rfl
theorem Zgx {a0 a1 a2 a3 a4 a5 a6 a7 a8 a9:AV}{l:List AV}:((a0::a1::a2::a3::a4::a5::a6::a7::a8::a9::l).drop 0).take 10=[a0,a1,a2,a3,a4,a5,a6,a7,a8,a9]:=rfl
theorem Zgz {τ:Operand→AV}{y0:Operand}{x0_0 x0_1 x0_2 x0_3 x0_4 x0_5 x0_6 x0_7 x0_8 x0_9:AV}(h0:Zas (τ y0)=some [x0_0,x0_1,x0_2,x0_3,x0_4,x0_5,x0_6,x0_7,x0_8,x0_9]) (l0:[x0_0,x0_1,x0_2,x0_3,x0_4,x0_5,x0_6,x0_7,x0_8,x0_9].all leaf=true):Zaw τ [(0,10,y0)] [(.v (.int .i64 0)),(.v (.string ⟨#[]⟩)),(.v (.int .i64 0)),(.v (.string ⟨#[]⟩)),(.v (.bool false)),(.v (.int .i64 0)),(.v (.int .i64 0)),(.v (.int .i64 0)),(.v (.int .i64 0)),(.v (.int .i64 0))]=some [x0_0,x0_1,x0_2,x0_3,x0_4,x0_5,x0_6,x0_7,x0_8,x0_9]:=by
 simp only[Zaw,h0,l0]
 rfl
theorem Zho {a0 a1 a2 a3 a4 a5 a6 a7 a8 a9:AV}{l:List AV}:(a0::a1::a2::a3::a4::a5::a6::a7::a8::a9::l).take 10=[a0,a1,a2,a3,a4,a5,a6,a7,a8,a9]:=rfl
theorem Zea {a0 a1 c0:AV}{l:List AV}:setCells (a0::a1::l) 1 [c0]=a0::c0::l:=rfl
theorem Zhp {a0 a1:AV}{l:List AV}:((a0::a1::l).drop 0).take 2=[a0,a1]:=rfl
theorem ZfL {τ:Operand→AV}{y0:Operand}{x0_0 x0_1:AV}(h0:Zas (τ y0)=some [x0_0,x0_1]) (l0:[x0_0,x0_1].all leaf=true):Zaw τ [(0,2,y0)] [(.v (.string ⟨#[]⟩)),(.sl 0 0 true [])]=some [x0_0,x0_1]:=by
 simp only[Zaw,h0,l0]
 rfl
theorem Zns {h:AH}{n:Nat}(hn:h.length=n) {e0 e1 e2 e3 e4 e5 e6 e7 e8 e9:Ent}:(h++[e0,e1,e2,e3,e4,e5,e6,e7,e8,e9]).length=n+10:=by subst hn;simp
theorem Znt {h:AH}{e0 e1 e2 e3 e4 e5 e6 e7 e8 e9 e:Ent}:(h++[e0,e1,e2,e3,e4,e5,e6,e7,e8,e9])++[e]=h++[e0,e1,e2,e3,e4,e5,e6,e7,e8,e9,e]:=by simp
theorem Zjf {a0 a1:AV}{l:List AV}:(a0::a1::l).take 2=[a0,a1]:=rfl
theorem ZfK {τ:Operand→AV}{y0:Operand}{x0_0 x0_1:AV}(h0:Zas (τ y0)=some [x0_0,x0_1]) (l0:[x0_0,x0_1].all leaf=true):Zaw τ [(0,2,y0)] [(.v (.string ⟨#[]⟩)),(.v (.string ⟨#[]⟩))]=some [x0_0,x0_1]:=by
 simp only[Zaw,h0,l0]
 rfl
theorem Zlu {a0 a1 a2 c0:AV}{l:List AV}:setCells (a0::a1::a2::l) 2 [c0]=a0::a1::c0::l:=rfl
theorem ZgC {τ:Operand→AV}{y0:Operand}{x0_0 x0_1 x0_2 x0_3 x0_4 x0_5 x0_6 x0_7 x0_8 x0_9:AV}(h0:Zas (τ y0)=some [x0_0,x0_1,x0_2,x0_3,x0_4,x0_5,x0_6,x0_7,x0_8,x0_9]) (l0:[x0_0,x0_1,x0_2,x0_3,x0_4,x0_5,x0_6,x0_7,x0_8,x0_9].all leaf=true):Zaw τ [(0,10,y0)] [(.v (.int .i64 0)),(.v (.string ⟨#[]⟩)),(.v (.int .i64 0)),(.v (.string ⟨#[]⟩)),(.v (.bool false)),(.v (.int .i64 0)),(.v (.int .i64 0)),(.v (.int .i64 0)),(.v (.int .i64 0)),(.v (.int .i64 0))]=some [x0_0,x0_1,x0_2,x0_3,x0_4,x0_5,x0_6,x0_7,x0_8,x0_9]:=by
 simp only[Zaw,h0,l0]
 rfl
theorem Znr { e:Ent}:([]:AH)++[e]=[e]:=rfl
theorem Zlv {e0 e1 e2 e3 e4 e5 e6 e7 d0:Ent}:([e0,e1,e2,e3,e4,e5,e6,e7]:AH)++[d0]=[e0,e1,e2,e3,e4,e5,e6,e7,d0]:=rfl
theorem ZfJ {τ:Operand→AV}:Zaw τ [] [(.sl 0 0 true []),(.sl 0 0 true []),(.sl 0 0 true [])]=some [(.sl 0 0 true []),(.sl 0 0 true []),(.sl 0 0 true [])]:=rfl
theorem ZfI {τ:Operand→AV}:Zaw τ [] [(.sl 0 0 true []),(.sl 0 0 true []),(.sl 0 0 true [])]=some [(.sl 0 0 true []),(.sl 0 0 true []),(.sl 0 0 true [])]:=rfl
end
def c13:AC:=(Sr [Oo 2 (.new 38 3 [(.sl 0 0 true []),(.sl 0 0 true []),(.sl 0 0 true [])]),Mc 3 0,Mc 4 0] (Sr [Mv 20 0,Cl 21 23 [(.tmp 20)],Mv 19 21,Ex 22 19 0,Ex 23 19 1,Ex 24 19 2,Mv 5 22,Mv 6 23,Mv 7 24] (.seq (Sr [Mv 25 7,Bc 26 .neq 25 0] (Cd 26 (Sr [Oo 27 (.build [(.sl 0 0 true []),(.sl 0 0 true []),(.sl 0 0 true [])] []),Mv 28 6,Mv 29 7,⟨none,none,(.store 3 (.tmp 2) (.tmp 27))⟩,Mv 3 28,Mv 4 29] .ret) .skip)) (Sr [Oo 8 (.new 38 3 [(.sl 0 0 true []),(.sl 0 0 true []),(.sl 0 0 true [])])] (Sr [Mb 9 false] (.seq (Sr [Mc 10 0] (.block 0 (.loop (.seq (Sr [Mv 30 10,Mv 31 5,Oo 32 (.len false (.tmp 31)),Bn 33 .lss 30 32] (Cd 33 .skip (.exit 0))) (.seq (.block 1 (Sr [Mv 36 5,Mv 37 10,Oo 38 (.ia 3 (.tmp 36) (.tmp 37)),Fa 39 2 38,Ld 40 39,Oo 41 (.build [(.sl 0 0 true []),(.v (.bool false))] [(0,(1,(.tmp 40)))]),Oo 11 (.new 72 2 [(.sl 0 0 true []),(.v (.bool false))]),⟨none,none,(.store 2 (.tmp 11) (.tmp 41))⟩] (Sr [Mv 42 9,Mv 12 42] (Sr [Ms 13] (.seq (Sr [Mv 43 9,Oo 44 (.un .not (.tmp 43))] (Cd 44 (.reg [Cl 45 24 [(.tmp 11)],Mv 13 45]) .skip)) (.seq (.block 2 (Sr [Mv 48 9,Mv 47 48] (Cd 47 (Sr [Fa 49 1 8,Ld 50 49,Oo 51 (.len false (.tmp 50)),Bc 52 .sub 51 1,Mv 14 52] (Sr [Cl 53 25 [(.tmp 11)],Oo 15 (.new 77 10 [(iv 0),Ss,(iv 0),Ss,(.v (.bool false)),(iv 0),(iv 0),(iv 0),(iv 0),(iv 0)]),⟨none,none,(.store 10 (.tmp 15) (.tmp 53))⟩] (.seq (.drw [Fa 54 1 8,Oo 55 (.loadR false 1 (.tmp 54)),Mv 56 14,Fa 57 1 8,Ld 58 57,Mv 59 14,Oo 60 (.ia 2 (.tmp 58) (.tmp 59)),Fa 61 1 60,Ld 62 61,Oo 63 (.load true 10 (.tmp 15)),Oo 64 (.lit 77 10 1 [(iv 0),Ss,(iv 0),Ss,(.v (.bool false)),(iv 0),(iv 0),(iv 0),(iv 0),(iv 0)] [(0,(10,(.tmp 63)))])] [true,false,false,false] [Oo 65 (.app 77 10 96 (.tmp 62) (.tmp 64)),Oo 66 (.ia 2 (.tmp 55) (.tmp 56)),Fa 67 1 66,Sc 67 65]) (.reg [Fa 68 4 15,Ld 69 68,Oo 70 (.un .not (.tmp 69)),Mv 9 70])))) (Sr [Mv 72 13,Oo 73 (.bin .eql (.tmp 72) (.const (.string ⟨#[82,117,108,101]⟩))),Mv 71 73] (Cd 71 (.orPan (.drw [Fa 74 0 8,Oo 75 (.loadR false 1 (.tmp 74))] [true,true,false,false,false] [Cl 76 26 [(.tmp 11)],Oo 77 (.lit 31 11 1 [Ss,(iv 0),(iv 0),(iv 0),(iv 0),(iv 0),(iv 0),(iv 0),(iv 0),(iv 0),Ss] [(0,(11,(.tmp 76)))]),Oo 78 (.app 31 11 104 (.tmp 75) (.tmp 77)),Fa 79 0 8,Sc 79 78]) (.tmp 11) 26 [Fa 74 0 8,Ld 75 74,Mv 76 11,Mb 77 false,Mb 78 false,Mb 79 false,⟨none,none,(.mv (.const (.bool false)))⟩] 76) (Sr [Mv 81 13,Oo 82 (.bin .eql (.tmp 81) (.const (.string ⟨#[90,111,110,101]⟩))),Mv 80 82] (Cd 80 (Sr [Cl 83 27 [(.tmp 11)],Oo 84 (.build [Ss,(.sl 0 0 true [])] [(0,(1,(.tmp 83)))]),Oo 16 (.new 81 2 [Ss,(.sl 0 0 true [])]),⟨none,none,(.store 2 (.tmp 16) (.tmp 84))⟩] (Sr [Cl 85 25 [(.tmp 11)],Oo 17 (.new 77 10 [(iv 0),Ss,(iv 0),Ss,(.v (.bool false)),(iv 0),(iv 0),(iv 0),(iv 0),(iv 0)]),⟨none,none,(.store 10 (.tmp 17) (.tmp 85))⟩] (Sr [Fa 86 1 16,Ld 87 86,Oo 88 (.load true 10 (.tmp 17)),Oo 89 (.lit 77 10 1 [(iv 0),Ss,(iv 0),Ss,(.v (.bool false)),(iv 0),(iv 0),(iv 0),(iv 0),(iv 0)] [(0,(10,(.tmp 88)))]),Oo 90 (.app 77 10 96 (.tmp 87) (.tmp 89)),Fa 91 1 16,Sc 91 90] (Sr [Fa 92 1 8,Ld 93 92,Oo 94 (.load true 2 (.tmp 16)),Oo 95 (.lit 81 2 1 [Ss,(.sl 0 0 true [])] [(0,(2,(.tmp 94)))]),Oo 96 (.app 81 2 40 (.tmp 93) (.tmp 95)),Fa 97 1 8,Sc 97 96] (.reg [Fa 98 4 17,Ld 99 98,Oo 100 (.un .not (.tmp 99)),Mv 9 100]))))) (Sr [Mv 102 13,Oo 103 (.bin .eql (.tmp 102) (.const (.string ⟨#[76,105,110,107]⟩))),Mv 101 103] (Cd 101 (Sr [Oo 18 (.new 84 2 [Ss,Ss])] (Sr [Cl 104 27 [(.tmp 11)],Fa 105 0 18,Sc 105 104] (Sr [Cl 106 27 [(.tmp 11)],Fa 107 1 18,Sc 107 106] (.reg [Fa 108 2 8,Ld 109 108,Oo 110 (.load true 2 (.tmp 18)),Oo 111 (.lit 84 2 1 [Ss,Ss] [(0,(2,(.tmp 110)))]),Oo 112 (.app 84 2 32 (.tmp 109) (.tmp 111)),Fa 113 2 8,Sc 113 112])))) (.reg [Fa 46 1 11,⟨none,none,(.store 1 (.tmp 46) (.const (.bool true)))⟩])))))))))) (Sr [Fa 114 1 11,Ld 115 114,Mv 116 115,Of 117 116 (.fa 0 (.tmp 11)),Of 118 116 (.load false 1 (.tmp 117)),Of 119 116 (.len false (.tmp 118)),Of 120 116 (.bin .gtr (.tmp 119) (Ci 0)),Oo 121 (.pick (.tmp 116) (.const (.bool true)) (.tmp 120)),Mv 122 121,Of 123 122 (mt 5),Of 124 122 (mt 10),Of 125 122 (.ia 3 (.tmp 123) (.tmp 124)),Of 126 122 (.fa 1 (.tmp 125)),Of 127 122 (.load false 1 (.tmp 126)),Of 128 122 (mt 12),Of 129 122 (.eqb true (.tmp 127) (.tmp 128)),Oo 130 (.pick (.tmp 122) (.const (.bool true)) (.tmp 129))] (Cd 130 (.seq (.drwU [[],[0],[0,1],[0],[0],[0],[1,2,3,4,5],[],[]] [Oo 131 (.build [(.sl 0 0 true []),(.sl 0 0 true []),(.sl 0 0 true [])] []),Mv 132 5,Mv 133 10,Oo 134 (.ia 3 (.tmp 132) (.tmp 133)),Fa 135 0 134,Ld 136 135,⟨none,none,(.store 3 (.tmp 2) (.tmp 131))⟩,Mv 3 136,Mc 4 1]) .ret) .skip)))))))) (.reg [Mv 34 10,Bc 35 .add 34 1,Mv 10 35])))))) (.seq (Sr [Mv 137 9] (Cd 137 (Sr [Oo 138 (.build [(.sl 0 0 true []),(.sl 0 0 true []),(.sl 0 0 true [])] []),⟨none,none,(.store 3 (.tmp 2) (.tmp 138))⟩,Mc 3 0,Mc 4 1] .ret) .skip)) (Sr [Oo 139 (.load true 3 (.tmp 8)),Cl 140 28 [(.tmp 139)],Mv 7 140] (.seq (Sr [Mv 141 7,Bc 142 .neq 141 0] (Cd 142 (Sr [Oo 143 (.build [(.sl 0 0 true []),(.sl 0 0 true []),(.sl 0 0 true [])] []),Mv 144 7,⟨none,none,(.store 3 (.tmp 2) (.tmp 143))⟩,Mc 3 0,Mv 4 144] .ret) .skip)) (Sr [Oo 145 (.load true 3 (.tmp 8)),Mv 146 7,⟨none,none,(.store 3 (.tmp 2) (.tmp 145))⟩,Mc 3 0,Mv 4 146] .ret))))))))))
theorem k13:ZaO Try.prog 13=some ⟨c13,[(.cell 2 true 3),(.tmp 3),(.tmp 4)],147⟩:=by kernel_rfl
theorem trule_e {t t1:TS}{r:Rul}{id:Nat}{h:AH}(ho:okTS t) (he:ZhM t=(r,t1)) (h1:h[id]?=some (takE t)):ACalls Try.prog 26 [.ptr id 0 0] h fun x h'=>x=.ret (.agg (rulC r))∧h'=h.set id (takE t1):=by
 have:=trule_a ho h1
 rw[he] at this
 exact this
theorem tera_e {t t1:TS}{r:Era}{id:Nat}{h:AH}(ho:okTS t) (he:tEra t=(r,t1)) (h1:h[id]?=some (takE t)):ACalls Try.prog 25 [.ptr id 0 0] h fun x h'=>x=.ret (.agg (eraC r))∧h'=h.set id (takE t1):=by
 have:=tera_a ho h1
 rw[he] at this
 exact this
theorem Zbh {n e:AV}:Wk (.tup [.agg [.sl 0 0 true [],.sl 0 0 true [],.sl 0 0 true []],n,e]) (.tup [.agg (srcC srcZ),n,e]) :=
 Wk.tup (wkw (Wk.agg (wkw Wk.nilF (wkw Wk.nilF (wkw Wk.nilF wk0)))) (wk1 rfl (wk1 rfl wk0)))
theorem okSrc_Z:ZhX (curS srcZ none):=by rw[ZdP];exact⟨fun _ h=>(by cases h),fun _ h=>(by cases h),fun _ h=>(by cases h)⟩
theorem lt26 {N:Nat}:decide (N+2<N+6)=true:=by simp
attribute [local simp] lt26
theorem lt36 {N:Nat}:decide (N+3<N+6)=true:=by simp
attribute [local simp] lt36
theorem lt46 {N:Nat}:decide (N+4<N+6)=true:=by simp
attribute [local simp] lt46
theorem lt56 {N:Nat}:decide (N+5<N+6)=true:=by simp
attribute [local simp] lt56
theorem rparse_a {s:ByteArray}{h:AH}:Ac 13 [sv s] h (.tup [.agg (srcC (Zbg s).1),iv (Zbg s).2.1,iv (Zbg s).2.2]):=by
 obtain⟨L,hL⟩ : ∃ L,L=(Zbv s).1:=⟨_,rfl⟩
 have hf24:=ZiE (s:=s)
 have hL200:=Zma (s:=s)
 rw[←hL] at hf24 hL200
 have hV0:=Zmw s
 rw[←hL] at hV0
 refine tW' k13 fun N hn hlt hlA hbd=>?_
 simp only[tb'] at hbd ⊢
 refine wr'<|E' (ZbZ (hl0 hn) ha0) pt<|mw<|mw<|sn'<|wr'<|mw<|Zak mp (Zlc) pt<|?_
 rw[←hL]
 refine mw<|Vw (ZbJ lk gt)<|Vw (ZbJ lk gt)<|Vw (ZbJ lk gt)<|mw<|mw<|mw<|sn'<|Zan<|wr'<|mw<|Vw (Za1 lk lki)<|?_
 refine sn' ?_
 refine cd' lk (fun hc1=>?_) (fun hc1=>?_)
 ·have hV:Zbg s=(srcZ,(Zbv s).2.1,(Zbv s).2.2):=by rw[hV0];exact if_pos hc1
  refine wr'<|Vw (Zax ZgE)<|mw<|mw<|E' (Zam lk cv gx rfl (nb' rfl) rfl ZaM (hs0 hn)) ptn<|mw<|mw<|sn'<|Zaa<|Zal<|Zai (rsn (rm1 (rr_c gt gx (ld1 ZaL rfl)) (rm1 (rr_t gt) (rm1 (rr_t gt) rm0))))<|rtW'<|?_
  rw[hV];exact Zbh
 have hV:Zbg s=outP L:=by rw[hV0];exact if_neg hc1
 clear hV0
 refine Zaf<|Zah<|wr'<|E' (ZbZ (hl1 hn) ha1) pt<|Zaq<|?_
 refine ZbY (ALe.trans (ALe.own0Cell (st':=11) (ty:=31) gx gt0 (hl2 hn) pt0 (Eq.trans (congrArg (fun z=>List.set z _ _) ha2) (hs1 hn))) (ALe.trans (ALe.own0Cell (st':=2) (ty:=81) gx gt1 (hl3 hn) pt1 (Eq.trans (congrArg (fun z=>List.set z _ _) ha3) (hs1 hn))) (ALe.own0Cell (st':=2) (ty:=84) gx gt2 (hl4 hn) pt2 (Eq.trans (congrArg (fun z=>List.set z _ _) ha4) (hs1 hn))))) ?_
 refine wr'<|mv' lkb pt9<|Zaq<|ZbY ((ALe.newEnt (ty:=77) (st:=10) ha5))<|Zan<|wr'<|mv' lki pt10<|sn'<|Zao<|?_
 refine w_lp (ι:=Nat×Src×Option Zon×Nat×Nat×Nat×Nat×Nat) (fun (x_:Nat×Src×Option Zon×Nat×Nat×Nat×Nat×Nat)=>match x_ with | ⟨k,sr,o,m,v1,v2,v3,v4⟩=>[(9,bv o.isSome),(10,iv (k:Int)),(3,.any),(4,.any)]++rn' 11 8++rn' 30 107) (fun (x_:Nat×Src×Option Zon×Nat×Nat×Nat×Nat×Nat)=>match x_ with | ⟨k,sr,o,m,v1,v2,v3,v4⟩=>[(1,.mk 0 38 3 [.own (N+2) v1 sr.1.length,.own (N+3) v2 m,.own (N+4) v3 sr.2.2.length]),(2,.mk v1 31 11 (rows rulC sr.1)),(3,.mk v2 81 2 (rows zonC sr.2.1++zC N v4 o)),(4,.mk v3 84 2 (rows lnkC sr.2.2)),(5,.mk v4 77 10 (rows eraC (eC o)))]) (fun (x_:Nat×Src×Option Zon×Nat×Nat×Nat×Nat×Nat)=>match x_ with | ⟨k,sr,o,m,v1,v2,v3,v4⟩=>k≤L.length∧m=sr.2.1.length+o.toList.length∧sr.1.length≤k∧m≤k∧sr.2.2.length≤k∧(eC o).length≤k∧ZhX (curS sr o)∧runR (srcZ,false) L=runR (curS sr o,o.isSome) (L.drop k)) (fun (x_:Nat×Src×Option Zon×Nat×Nat×Nat×Nat×Nat)=>match x_ with | ⟨k,sr,o,m,v1,v2,v3,v4⟩=>L.length-k) (⟨0,srcZ,none,0,0,0,0,0⟩) (by exact⟨Nat.zero_le _,rfl,Nat.le_refl _,Nat.le_refl _,Nat.le_refl _,Nat.le_refl _,okSrc_Z,rfl⟩) ?_
 rintro⟨k,sr,o,m,v1,v2,v3,v4⟩ hi1
 try simp only[sm',Nat.reduceAdd]
 obtain⟨hk1,hm,hk2,hk3,hk4,hk5,hok,hrun⟩:=hi1
 refine Zan<|wr'<|mw<|mw<|Vw (Za6 lk)<|Vw (ZbP lk lk)<|sn'<|?_
 refine cd' lk (fun hc2=>?_) (fun hc2=>?_)
 ·have hk:k<L.length:=by omega
  have hfs:=hf24 _ (List.getElem_mem hk)
  have hokt:okTS (L[k].2.2,false):=hfs
  rw[runR_at hk] at hrun
  have hPT:=pt_body (p:=(curS sr o,o.isSome)) hok (L[k].2.2,false) hokt
  refine Zaf<|Zah<|Zan<|Zao<|wr'<|mw<|mw<|?_
  refine V' (ZaY lk lk Za2 (nb' rfl) ro om ro rfl) pt ?_
  refine V' (Zbf lk38 dp2) pt39<|V' (ZaA lk39 gt0) pt40<|V' (Zax (ZgD (cvl lk40 rfl) rfl)) pt41<|E' (ZbZ (hl6 hn) ha6) pt11<|E' (Zam lk11 (cvl lk41 rfl) gx rfl (nb' rfl) rfl Zhq (hs6 hn)) ptn<|Zaq<|ZbY ((ALe.same (WkL.refl _) rfl))<|wr'<|?_
  by_cases hs36:o=none
  ·subst hs36
   simp only[Option.isSome_none] at hrun hPT
   have hm':m=sr.2.1.length:=by simpa using hm
   subst hm'
   obtain⟨w,t1,e1⟩ : ∃ a b,ZaK (L[k].2.2,false)=(a,b):=⟨_,_,rfl⟩
   obtain⟨z1,o1⟩:=ZaW hokt e1
   refine mw<|mw<|sn'<|wr'<|mw<|sn'<|Zan<|wr'<|mw<|?_
   refine V' ((by first | exact v_not lk | exact Zav lk)) pt ?_
   refine sn' ?_
   refine ZdD lk (by rfl) ?_
   refine Zar<|ZaJ mp (ZcD e1 gx) (hs6 hn) pt<|mw<|sn'<|Zan<|Zao<|wr'<|mw<|mw<|sn'<|?_
   refine Zb1 lk (by rfl) ?_
   refine wr'<|mw<|Vw (ZcW lk lks)<|mw<|sn'<|?_
   refine cd' lk (fun hc5=>?_) (fun hc5=>?_)
   ·have hwR:w=ruleA:=hc5
    obtain⟨r,u,eR⟩ : ∃ a b,ZhM t1=(a,b):=⟨_,_,rfl⟩
    have hB:Zdv (curS sr none,false) (L[k].2.2,false)=((curS (sr.1++[r],sr.2.1,sr.2.2) none,false),u):=by unfold Zdv;rw[if_neg (by simp)];simp only[Zbx,e1,if_pos hwR,ret2,eR];rfl
    have hq:True:=trivial
    refine w_orl<|ZlW [N+1]<|Dw (Zac lk)<|?_
    refine d_ldP lk gx (ld0 gt) (by simp) pt ?_
    refine ZbB<|ZmU<|?_
    refine k_calls mp (trule_e o1 eR gx) (hs6 hn) (by intro i hi;simp only[cond_true,List.mem_cons,List.not_mem_nil,or_false] at hi;subst hi;first | rfl | exact (hga hn rfl).trans (hga hn rfl).symm) pt ?_
    refine ZmT rfl rfl (Zgo (ZgB cv rfl) (hl7 hn) ha7) (by intro i hi;simp only[cond_true,List.mem_cons,List.not_mem_nil,or_false] at hi;subst hi;first | rfl | exact (hga hn rfl).trans (hga hn rfl).symm) pt ?_
    refine ZmT rfl rfl (Zfl (Zdc lk gx rfl Zlt (nb' rfl)) lk gx (ZjD _) om rfl (hs2 hn)) (by intro i hi;simp at hi) pt ?_
    refine k_val rfl (Zac lk) pt ?_
    refine ZmT rfl rfl (Zam lk cv gx rfl (nb' rfl) rfl Zhr (hs1 hn)) (by intro i hi;simp at hi) ptn ?_
    refine k_nil<|ZaC<|Zah<|wr'<|Vw (Zac lk)<|Vw (Zae lk gx gt1)<|mw<|?_
    refine ZaI (t:=116) gt pt pt (fun hg116=>?_) (fun hg116=>?_)
    ·have hN:=ZaV hB (.inl hg116)
     refine s_no gt pt<|s_no gt pt<|s_no gt pt<|s_no gt pt<|Vw (Zag lk lkb)<|mw<|s_no gt pt<|s_no gt pt<|s_no gt pt<|s_no gt pt<|s_no gt pt<|s_no gt pt<|s_no gt pt<|Vw (Zag lk lkb)<|?_
     refine sn'<|ZaH lk<|Zan<|ZbC<|u_fr rfl (Zax Zat) pt<|u_fr rfl (v_mv lk) pt<|u_fr rfl (v_mv lk) pt<|?_
     refine u_fr rfl (ZaY lk lk Za2 (nb' rfl) ro om ro rfl) pt ?_
     refine u_fr rfl (Zbf lk dp0) pt<|u_fr rfl (ZaA lk gt) pt<|?_
     refine u_st (Zam lk cv gx rfl (nb' rfl) rfl ZaM (hs0 hn)) lk nh ptn ?_
     refine u_fr rfl (v_mv lk) pt<|u_fr rfl (v_mv lki) pt<|ZcB<|Zah<|Zaa<|Zap<|Zal<|Zal<|Zap<|Zal<|Zai (rsn (rm1 (rr_c gt gx (ld1 ZaL rfl)) (rm1 (rr_t gt) (rm1 (rr_t gt) rm0))))<|rtW'<|?_
     have hP:Zbg s=(srcZ,L[k].1,1):=by rw[hV,outP,hrun,hN]
     rw[hP];exact Zbh
    refine s_do gt<|Vw (Zac lk)<|s_do gt<|Vw (Zae lk gx gt0)<|s_do gt<|Vw (Za6 lk)<|s_do gt<|Vw (ZbI lk lki)<|Vw (Zab lk lk)<|mw<|?_
    refine sp' (t:=122) gt pt pt (fun hg122=>?_) (fun hg122=>?_)
    ·have hN:=ZaV hB (.inr (.inl (by intro e;rw[e] at hg122;exact absurd hg122 (by decide))))
     refine s_no gt pt<|s_no gt pt<|s_no gt pt<|s_no gt pt<|s_no gt pt<|s_no gt pt<|s_no gt pt<|Vw (Zag lk lkb)<|sn'<|ZaH lk<|Zan<|ZbC<|u_fr rfl (Zax Zat) pt<|?_
     refine u_fr rfl (v_mv lk) pt<|u_fr rfl (v_mv lk) pt<|?_
     refine u_fr rfl (ZaY lk lk Za2 (nb' rfl) ro om ro rfl) pt ?_
     refine u_fr rfl (Zbf lk dp0) pt<|u_fr rfl (ZaA lk gt) pt<|?_
     refine u_st (Zam lk cv gx rfl (nb' rfl) rfl ZaM (hs0 hn)) lk nh ptn ?_
     refine u_fr rfl (v_mv lk) pt<|u_fr rfl (v_mv lki) pt<|ZcB<|Zah<|Zaa<|Zap<|Zal<|Zal<|Zap<|Zal<|Zai (rsn (rm1 (rr_c gt gx (ld1 ZaL rfl)) (rm1 (rr_t gt) (rm1 (rr_t gt) rm0))))<|rtW'<|?_
     have hP:Zbg s=(srcZ,L[k].1,1):=by rw[hV,outP,hrun,hN]
     rw[hP];exact Zbh
    refine s_do gt<|mw<|s_do gt<|mw<|s_do gt<|?_
    refine V' (ZaY lk lk Za2 (nb' rfl) ro om ro rfl) pt ?_
    refine s_do gt<|Vw (Zbf lk dp1)<|s_do gt<|Vw (ZaA lk gt)<|s_do gt<|mw<|s_do gt<|Vw (Zef lk lk)<|Vw (Zab lk lk)<|sn'<|?_
    refine cd' lk (fun hc8=>?_) (fun hc8=>?_)
    ·have hN:=ZaV hB (.inr (.inr (by simpa using hc8)))
     refine Zan<|ZbC<|u_fr rfl (Zax Zat) pt<|u_fr rfl (v_mv lk) pt<|u_fr rfl (v_mv lk) pt<|?_
     refine u_fr rfl (ZaY lk lk Za2 (nb' rfl) ro om ro rfl) pt ?_
     refine u_fr rfl (Zbf lk dp0) pt<|u_fr rfl (ZaA lk gt) pt<|?_
     refine u_st (Zam lk cv gx rfl (nb' rfl) rfl ZaM (hs0 hn)) lk nh ptn ?_
     refine u_fr rfl (v_mv lk) pt<|u_fr rfl (v_mv lki) pt<|ZcB<|Zah<|Zaa<|Zap<|Zal<|Zal<|Zap<|Zal<|Zai (rsn (rm1 (rr_c gt gx (ld1 ZaL rfl)) (rm1 (rr_t gt) (rm1 (rr_t gt) rm0))))<|rtW'<|?_
     have hP:Zbg s=(srcZ,L[k].1,1):=by rw[hV,outP,hrun,hN]
     rw[hP];exact Zbh
    have hu1:u.2=false:=by simpa using hg116
    have hu2:u.1=[]:=List.eq_nil_of_length_eq_zero om
    have hS:=ZcJ hB hu1 hu2 (by simpa using hc8)
    rw[hS] at hrun
    have hokq:=hPT.1
    rw[hB] at hokq
    refine Zaf<|ZaC<|Zah<|Zar<|mw<|?_
    refine V' (Zau lk lki om om) pt ?_
    refine mw<|Zaq<|ZaB<|?_
    refine lU' (⟨k+1,(sr.1++[r],sr.2.1,sr.2.2),none,sr.2.1.length,v1+1,v2,v3,v4⟩) (by (try dsimp only);exact⟨by omega,by simp,by simp;omega,by omega,by omega,by simp[eC],hokq,hrun⟩) (by (try dsimp only);(try simp only[sm',Nat.reduceAdd]);exact bkE' 6 hn hlt (by repeat (first | exact wk0 | refine wka ?_ | refine wk1 rfl ?_ | refine wk1 (by first | rfl | exact ivx om | (simp;done) | exact bvx (by have h9:=hs68;unfold Zb5 at h9;rw[h9];rfl) | exact bvx (by have h9:=hs106;unfold Zb5 at h9;rw[h9];rfl) | exact bvx (by have h9:=hs68;unfold Zb5 at h9;rw[Bool.not_eq_true] at h9;rw[h9];rfl) | exact bvx (by have h9:=hs106;unfold Zb5 at h9;rw[Bool.not_eq_true] at h9;rw[h9];rfl)) ?_)) (by simp only[zonC,Zbz,Zby,zC,eC,List.append_nil,List.length_append,List.length_singleton];rfl) (hT:=by first | rfl | (simp only[AV.lt,AV.ltL,Ent.lt,List.all_cons,List.all_nil,Bool.and_true,Bool.and_self,decide_true,ZbU,Zcl,Zcf,Zcq,ZbT,Zeq,Ze5,lt26,lt36,lt46,lt56];done) | exact lt') (hE:=by first | rfl | (simp only[AV.lt,AV.ltL,Ent.lt,List.all_cons,List.all_nil,Bool.and_true,Bool.and_self,decide_true,ZbU,Zcl,Zcf,Zcq,ZbT,Zeq,Ze5,lt26,lt36,lt46,lt56];done) | exact lt'))
   have hwR:¬w=ruleA:=hc5
   refine wr'<|mw<|Vw (ZcW lk lks)<|mw<|sn'<|?_
   refine cd' lk (fun hc6=>?_) (fun hc6=>?_)
   ·have hwZ:w=zoneA:=hc6
    obtain⟨nm,t2,e2⟩ : ∃ a b,ZdH t1=(a,b):=⟨_,_,rfl⟩
    have o2:=ZeL o1 e2
    obtain⟨x,u,eE⟩ : ∃ a b,tEra t2=(a,b):=⟨_,_,rfl⟩
    have hB:Zdv (curS sr none,false) (L[k].2.2,false)=(Zb3 (sr.1,sr.2.1++[(nm,[])],sr.2.2) x,u):=by unfold Zdv;rw[if_neg (by simp)];simp only[Zbx,e1,if_neg hwR,if_pos hwZ,ret2,e2,eE,ZdP]
    have hw:Zb3 (sr.1,sr.2.1++[(nm,[])],sr.2.2) x=((sr.1,sr.2.1++[(nm,[x])],sr.2.2),!Zb5 x):=by unfold Zb3;rw[Zet];rfl
    refine wr'<|ZaJ mp (ZhI o1 e2 gx) (hs6 hn) pt<|Vw (Zax (ZgA cv rfl))<|E' (ZbZ (hl7 hn) ha7) pt<|E' (Zam lk cv gx rfl (nb' rfl) rfl Zhq (hs7 hn)) ptn<|sn'<|wr'<|ZaJ mp (tera_e o2 eE gx) (hs6 hn) pt<|E' (ZbZ (hl8 hn) ha8) pt<|E' (Zam lk cv gx rfl (nb' rfl) rfl Zgy (hs8 hn)) ptn<|Zaq<|?_
    refine ZbY ((ALe.own0CellRe (ty2:=77) (st2:=10) gx gx om gt1 pt1 (Eq.trans (congrArg (fun z=>List.set z _ _) (hs5 hn)) (hs7 hn)))) ?_
    refine wr'<|Vw (Zac lk)<|Vw (Zae lk gx gt1)<|Vw (ZaE lk gx Zgx rfl)<|E' (Zgo (Zgz cv rfl) (hl9 hn) ha9) pt<|?_
    refine E' (Zfl (Zdc lk gx rfl Zho (nb' rfl)) lk gx rfl om rfl (hs5 hn)) pt ?_
    refine Vw (Zac lk)<|E' (Zam lk cv gx rfl (nb' rfl) rfl Zea (hs7 hn)) ptn<|sn'<|wr'<|Vw (Zac lk)<|Vw (Zae lk gx gt1)<|Vw (ZaE lk gx Zhp rfl)<|E' (Zgo (ZfL cv rfl) (Zns hn) Znt) pt<|?_
    refine E' (Zfl (Zdc lk gx rfl Zjf (nb' rfl)) lk gx Zio om rfl (hs3 hn)) pt ?_
    refine Vw (Zac lk)<|E' (Zam lk cv gx rfl (nb' rfl) rfl Zea (hs1 hn)) ptn<|sn'<|Zar<|?_
    by_cases hs106:Zb5 x=true
    ·have hq:Zb3 (sr.1,sr.2.1++[(nm,[])],sr.2.2) x=(curS (sr.1,sr.2.1++[(nm,[x])],sr.2.2) none,false):=by rw[hw,hs106,ZdP];rfl
     refine Vw (Zac lk)<|Vw (Zae lk gx gt4)<|Vw (Zav lk)<|mw<|Zaq<|ZaC<|Zah<|wr'<|Vw (Zac lk)<|Vw (Zae lk gx gt1)<|mw<|?_
     refine ZaI (t:=116) gt pt pt (fun hg116=>?_) (fun hg116=>?_)
     ·have hN:=ZaV hB (.inl hg116)
      refine s_no gt pt<|s_no gt pt<|s_no gt pt<|s_no gt pt<|Vw (Zag lk lkb)<|mw<|s_no gt pt<|s_no gt pt<|s_no gt pt<|s_no gt pt<|s_no gt pt<|s_no gt pt<|s_no gt pt<|Vw (Zag lk lkb)<|?_
      refine sn'<|ZaH lk<|Zan<|ZbC<|u_fr rfl (Zax Zat) pt<|u_fr rfl (v_mv lk) pt<|u_fr rfl (v_mv lk) pt<|?_
      refine u_fr rfl (ZaY lk lk Za2 (nb' rfl) ro om ro rfl) pt ?_
      refine u_fr rfl (Zbf lk dp0) pt<|u_fr rfl (ZaA lk gt) pt<|?_
      refine u_st (Zam lk cv gx rfl (nb' rfl) rfl ZaM (hs0 hn)) lk nh ptn ?_
      refine u_fr rfl (v_mv lk) pt<|u_fr rfl (v_mv lki) pt<|ZcB<|Zah<|Zaa<|Zap<|Zal<|Zal<|Zap<|Zal<|Zai (rsn (rm1 (rr_c gt gx (ld1 ZaL rfl)) (rm1 (rr_t gt) (rm1 (rr_t gt) rm0))))<|rtW'<|?_
      have hP:Zbg s=(srcZ,L[k].1,1):=by rw[hV,outP,hrun,hN]
      rw[hP];exact Zbh
     refine s_do gt<|Vw (Zac lk)<|s_do gt<|Vw (Zae lk gx gt0)<|s_do gt<|Vw (Za6 lk)<|s_do gt<|Vw (ZbI lk lki)<|Vw (Zab lk lk)<|mw<|?_
     refine sp' (t:=122) gt pt pt (fun hg122=>?_) (fun hg122=>?_)
     ·have hN:=ZaV hB (.inr (.inl (by intro e;rw[e] at hg122;exact absurd hg122 (by decide))))
      refine s_no gt pt<|s_no gt pt<|s_no gt pt<|s_no gt pt<|s_no gt pt<|s_no gt pt<|s_no gt pt<|Vw (Zag lk lkb)<|sn'<|ZaH lk<|Zan<|ZbC<|u_fr rfl (Zax Zat) pt<|?_
      refine u_fr rfl (v_mv lk) pt<|u_fr rfl (v_mv lk) pt<|?_
      refine u_fr rfl (ZaY lk lk Za2 (nb' rfl) ro om ro rfl) pt ?_
      refine u_fr rfl (Zbf lk dp0) pt<|u_fr rfl (ZaA lk gt) pt<|?_
      refine u_st (Zam lk cv gx rfl (nb' rfl) rfl ZaM (hs0 hn)) lk nh ptn ?_
      refine u_fr rfl (v_mv lk) pt<|u_fr rfl (v_mv lki) pt<|ZcB<|Zah<|Zaa<|Zap<|Zal<|Zal<|Zap<|Zal<|Zai (rsn (rm1 (rr_c gt gx (ld1 ZaL rfl)) (rm1 (rr_t gt) (rm1 (rr_t gt) rm0))))<|rtW'<|?_
      have hP:Zbg s=(srcZ,L[k].1,1):=by rw[hV,outP,hrun,hN]
      rw[hP];exact Zbh
     refine s_do gt<|mw<|s_do gt<|mw<|s_do gt<|?_
     refine V' (ZaY lk lk Za2 (nb' rfl) ro om ro rfl) pt ?_
     refine s_do gt<|Vw (Zbf lk dp1)<|s_do gt<|Vw (ZaA lk gt)<|s_do gt<|mw<|s_do gt<|Vw (Zef lk lk)<|Vw (Zab lk lk)<|sn'<|?_
     refine cd' lk (fun hc8=>?_) (fun hc8=>?_)
     ·have hN:=ZaV hB (.inr (.inr (by simpa using hc8)))
      refine Zan<|ZbC<|u_fr rfl (Zax Zat) pt<|u_fr rfl (v_mv lk) pt<|u_fr rfl (v_mv lk) pt<|?_
      refine u_fr rfl (ZaY lk lk Za2 (nb' rfl) ro om ro rfl) pt ?_
      refine u_fr rfl (Zbf lk dp0) pt<|u_fr rfl (ZaA lk gt) pt<|?_
      refine u_st (Zam lk cv gx rfl (nb' rfl) rfl ZaM (hs0 hn)) lk nh ptn ?_
      refine u_fr rfl (v_mv lk) pt<|u_fr rfl (v_mv lki) pt<|ZcB<|Zah<|Zaa<|Zap<|Zal<|Zal<|Zap<|Zal<|Zai (rsn (rm1 (rr_c gt gx (ld1 ZaL rfl)) (rm1 (rr_t gt) (rm1 (rr_t gt) rm0))))<|rtW'<|?_
      have hP:Zbg s=(srcZ,L[k].1,1):=by rw[hV,outP,hrun,hN]
      rw[hP];exact Zbh
     have hu1:u.2=false:=by simpa using hg116
     have hu2:u.1=[]:=List.eq_nil_of_length_eq_zero om
     have hS:=ZcJ hB hu1 hu2 (by simpa using hc8)
     rw[hS] at hrun
     have hokq:=hPT.1
     rw[hB] at hokq
     refine Zaf<|ZaC<|?_
     refine ZbY ((ALe.iceCellNew (ds:=rows eraC [x]) (k:=sr.2.1.length*2+1) (ty2:=77) (st2:=10) gx gx om (zc_at2 rfl) rfl (Nat.le_refl _) zc_put2 (hs5 hn) (hs3 hn))) ?_
     refine Zar<|mw<|?_
     refine V' (Zau lk lki om om) pt ?_
     refine mw<|Zaq<|ZaB<|?_
     refine lU' (⟨k+1,(sr.1,sr.2.1++[(nm,[x])],sr.2.2),none,sr.2.1.length+1,v1,v2+1,v3,v4+3⟩) (by (try dsimp only);rw[hq] at hrun hokq;exact⟨by omega,by simp,by omega,by omega,by omega,by simp[eC],hokq,hrun⟩) (by (try dsimp only);(try simp only[sm',Nat.reduceAdd]);exact bkE' 6 hn hlt (by repeat (first | exact wk0 | refine wka ?_ | refine wk1 rfl ?_ | refine wk1 (by first | rfl | exact ivx om | (simp;done) | exact bvx (by have h9:=hs68;unfold Zb5 at h9;rw[h9];rfl) | exact bvx (by have h9:=hs106;unfold Zb5 at h9;rw[h9];rfl) | exact bvx (by have h9:=hs68;unfold Zb5 at h9;rw[Bool.not_eq_true] at h9;rw[h9];rfl) | exact bvx (by have h9:=hs106;unfold Zb5 at h9;rw[Bool.not_eq_true] at h9;rw[h9];rfl)) ?_)) (by simp only[zonC,Zbz,Zby,zC,eC,List.append_nil,List.length_append,List.length_singleton];rfl) (hT:=by first | rfl | (simp only[AV.lt,AV.ltL,Ent.lt,List.all_cons,List.all_nil,Bool.and_true,Bool.and_self,decide_true,ZbU,Zcl,Zcf,Zcq,ZbT,Zeq,Ze5,lt26,lt36,lt46,lt56];done) | exact lt') (hE:=by first | rfl | (simp only[AV.lt,AV.ltL,Ent.lt,List.all_cons,List.all_nil,Bool.and_true,Bool.and_self,decide_true,ZbU,Zcl,Zcf,Zcq,ZbT,Zeq,Ze5,lt26,lt36,lt46,lt56];done) | exact lt'))
    have hq:Zb3 (sr.1,sr.2.1++[(nm,[])],sr.2.2) x=(curS sr (some (nm,[x])),true):=by rw[hw,show Zb5 x=false by simpa using hs106];rfl
    refine Vw (Zac lk)<|Vw (Zae lk gx gt4)<|Vw (Zav lk)<|mw<|Zaq<|ZaC<|Zah<|wr'<|Vw (Zac lk)<|Vw (Zae lk gx gt1)<|mw<|?_
    refine ZaI (t:=116) gt pt pt (fun hg116=>?_) (fun hg116=>?_)
    ·have hN:=ZaV hB (.inl hg116)
     refine s_no gt pt<|s_no gt pt<|s_no gt pt<|s_no gt pt<|Vw (Zag lk lkb)<|mw<|s_no gt pt<|s_no gt pt<|s_no gt pt<|s_no gt pt<|s_no gt pt<|s_no gt pt<|s_no gt pt<|Vw (Zag lk lkb)<|?_
     refine sn'<|ZaH lk<|Zan<|ZbC<|u_fr rfl (Zax Zat) pt<|u_fr rfl (v_mv lk) pt<|u_fr rfl (v_mv lk) pt<|?_
     refine u_fr rfl (ZaY lk lk Za2 (nb' rfl) ro om ro rfl) pt ?_
     refine u_fr rfl (Zbf lk dp0) pt<|u_fr rfl (ZaA lk gt) pt<|?_
     refine u_st (Zam lk cv gx rfl (nb' rfl) rfl ZaM (hs0 hn)) lk nh ptn ?_
     refine u_fr rfl (v_mv lk) pt<|u_fr rfl (v_mv lki) pt<|ZcB<|Zah<|Zaa<|Zap<|Zal<|Zal<|Zap<|Zal<|Zai (rsn (rm1 (rr_c gt gx (ld1 ZaL rfl)) (rm1 (rr_t gt) (rm1 (rr_t gt) rm0))))<|rtW'<|?_
     have hP:Zbg s=(srcZ,L[k].1,1):=by rw[hV,outP,hrun,hN]
     rw[hP];exact Zbh
    refine s_do gt<|Vw (Zac lk)<|s_do gt<|Vw (Zae lk gx gt0)<|s_do gt<|Vw (Za6 lk)<|s_do gt<|Vw (ZbI lk lki)<|Vw (Zab lk lk)<|mw<|?_
    refine sp' (t:=122) gt pt pt (fun hg122=>?_) (fun hg122=>?_)
    ·have hN:=ZaV hB (.inr (.inl (by intro e;rw[e] at hg122;exact absurd hg122 (by decide))))
     refine s_no gt pt<|s_no gt pt<|s_no gt pt<|s_no gt pt<|s_no gt pt<|s_no gt pt<|s_no gt pt<|Vw (Zag lk lkb)<|sn'<|ZaH lk<|Zan<|ZbC<|u_fr rfl (Zax Zat) pt<|?_
     refine u_fr rfl (v_mv lk) pt<|u_fr rfl (v_mv lk) pt<|?_
     refine u_fr rfl (ZaY lk lk Za2 (nb' rfl) ro om ro rfl) pt ?_
     refine u_fr rfl (Zbf lk dp0) pt<|u_fr rfl (ZaA lk gt) pt<|?_
     refine u_st (Zam lk cv gx rfl (nb' rfl) rfl ZaM (hs0 hn)) lk nh ptn ?_
     refine u_fr rfl (v_mv lk) pt<|u_fr rfl (v_mv lki) pt<|ZcB<|Zah<|Zaa<|Zap<|Zal<|Zal<|Zap<|Zal<|Zai (rsn (rm1 (rr_c gt gx (ld1 ZaL rfl)) (rm1 (rr_t gt) (rm1 (rr_t gt) rm0))))<|rtW'<|?_
     have hP:Zbg s=(srcZ,L[k].1,1):=by rw[hV,outP,hrun,hN]
     rw[hP];exact Zbh
    refine s_do gt<|mw<|s_do gt<|mw<|s_do gt<|?_
    refine V' (ZaY lk lk Za2 (nb' rfl) ro om ro rfl) pt ?_
    refine s_do gt<|Vw (Zbf lk dp1)<|s_do gt<|Vw (ZaA lk gt)<|s_do gt<|mw<|s_do gt<|Vw (Zef lk lk)<|Vw (Zab lk lk)<|sn'<|?_
    refine cd' lk (fun hc8=>?_) (fun hc8=>?_)
    ·have hN:=ZaV hB (.inr (.inr (by simpa using hc8)))
     refine Zan<|ZbC<|u_fr rfl (Zax Zat) pt<|u_fr rfl (v_mv lk) pt<|u_fr rfl (v_mv lk) pt<|?_
     refine u_fr rfl (ZaY lk lk Za2 (nb' rfl) ro om ro rfl) pt ?_
     refine u_fr rfl (Zbf lk dp0) pt<|u_fr rfl (ZaA lk gt) pt<|?_
     refine u_st (Zam lk cv gx rfl (nb' rfl) rfl ZaM (hs0 hn)) lk nh ptn ?_
     refine u_fr rfl (v_mv lk) pt<|u_fr rfl (v_mv lki) pt<|ZcB<|Zah<|Zaa<|Zap<|Zal<|Zal<|Zap<|Zal<|Zai (rsn (rm1 (rr_c gt gx (ld1 ZaL rfl)) (rm1 (rr_t gt) (rm1 (rr_t gt) rm0))))<|rtW'<|?_
     have hP:Zbg s=(srcZ,L[k].1,1):=by rw[hV,outP,hrun,hN]
     rw[hP];exact Zbh
    have hu1:u.2=false:=by simpa using hg116
    have hu2:u.1=[]:=List.eq_nil_of_length_eq_zero om
    have hS:=ZcJ hB hu1 hu2 (by simpa using hc8)
    rw[hS] at hrun
    have hokq:=hPT.1
    rw[hB] at hokq
    refine Zaf<|ZaC<|Zah<|Zar<|mw<|?_
    refine V' (Zau lk lki om om) pt ?_
    refine mw<|Zaq<|ZaB<|?_
    refine lU' (⟨k+1,sr,some (nm,[x]),sr.2.1.length+1,v1,v2+1,v3,v4+2⟩) (by (try dsimp only);rw[hq] at hrun hokq;exact⟨by omega,by simp,by omega,by omega,by omega,by simp[eC],hokq,hrun⟩) (by (try dsimp only);(try simp only[sm',Nat.reduceAdd]);exact bkE' 6 hn hlt (by repeat (first | exact wk0 | refine wka ?_ | refine wk1 rfl ?_ | refine wk1 (by first | rfl | exact ivx om | (simp;done) | exact bvx (by have h9:=hs68;unfold Zb5 at h9;rw[h9];rfl) | exact bvx (by have h9:=hs106;unfold Zb5 at h9;rw[h9];rfl) | exact bvx (by have h9:=hs68;unfold Zb5 at h9;rw[Bool.not_eq_true] at h9;rw[h9];rfl) | exact bvx (by have h9:=hs106;unfold Zb5 at h9;rw[Bool.not_eq_true] at h9;rw[h9];rfl)) ?_)) (by simp only[zonC,Zbz,Zby,zC,eC,List.append_nil,List.length_append,List.length_singleton];rfl) (hT:=by first | rfl | (simp only[AV.lt,AV.ltL,Ent.lt,List.all_cons,List.all_nil,Bool.and_true,Bool.and_self,decide_true,ZbU,Zcl,Zcf,Zcq,ZbT,Zeq,Ze5,lt26,lt36,lt46,lt56];done) | exact lt') (hE:=by first | rfl | (simp only[AV.lt,AV.ltL,Ent.lt,List.all_cons,List.all_nil,Bool.and_true,Bool.and_self,decide_true,ZbU,Zcl,Zcf,Zcq,ZbT,Zeq,Ze5,lt26,lt36,lt46,lt56];done) | exact lt'))
   have hwZ:¬w=zoneA:=hc6
   refine wr'<|mw<|Vw (ZcW lk lks)<|mw<|sn'<|?_
   refine cd' lk (fun hc7=>?_) (fun hc7=>?_)
   ·have hwL:w=linkA:=hc7
    obtain⟨n1,t2,e2⟩ : ∃ a b,ZdH t1=(a,b):=⟨_,_,rfl⟩
    have o2:=ZeL o1 e2
    obtain⟨n2,u,e3⟩ : ∃ a b,ZdH t2=(a,b):=⟨_,_,rfl⟩
    have hB:Zdv (curS sr none,false) (L[k].2.2,false)=((curS (sr.1,sr.2.1,sr.2.2++[(n1,n2)]) none,false),u):=by unfold Zdv;rw[if_neg (by simp)];simp only[Zbx,e1,if_neg hwR,if_neg hwZ,if_pos hwL,ret2,e2,e3];rfl
    refine wr'<|E' (ZbZ (hl7 hn) ha7) pt<|sn'<|wr'<|ZaJ mp (ZhI o1 e2 gx) (hs6 hn) pt<|Vw (Zac lk)<|E' (Zam lk cv gx rfl (nb' rfl) rfl Zhr (hs7 hn)) ptn<|sn'<|wr'<|?_
    refine ZaJ mp (ZhI o2 e3 gx) (hs6 hn) pt<|Vw (Zac lk)<|E' (Zam lk cv gx rfl (nb' rfl) rfl Zea (hs7 hn)) ptn<|sn'<|Zar<|Vw (Zac lk)<|Vw (Zae lk gx gt2)<|Vw (ZaE lk gx Zhp rfl)<|E' (Zgo (ZfK cv rfl) (hl8 hn) ha8) pt<|?_
    refine E' (Zfl (Zdc lk gx rfl Zjf (nb' rfl)) lk gx (ZjP _) om rfl (hs4 hn)) pt ?_
    refine Vw (Zac lk)<|E' (Zam lk cv gx rfl (nb' rfl) rfl Zlu (hs1 hn)) ptn<|Zaq<|ZaC<|Zah<|wr'<|Vw (Zac lk)<|Vw (Zae lk gx gt1)<|mw<|?_
    refine ZaI (t:=116) gt pt pt (fun hg116=>?_) (fun hg116=>?_)
    ·have hN:=ZaV hB (.inl hg116)
     refine s_no gt pt<|s_no gt pt<|s_no gt pt<|s_no gt pt<|Vw (Zag lk lkb)<|mw<|s_no gt pt<|s_no gt pt<|s_no gt pt<|s_no gt pt<|s_no gt pt<|s_no gt pt<|s_no gt pt<|Vw (Zag lk lkb)<|?_
     refine sn'<|ZaH lk<|Zan<|ZbC<|u_fr rfl (Zax Zat) pt<|u_fr rfl (v_mv lk) pt<|u_fr rfl (v_mv lk) pt<|?_
     refine u_fr rfl (ZaY lk lk Za2 (nb' rfl) ro om ro rfl) pt ?_
     refine u_fr rfl (Zbf lk dp0) pt<|u_fr rfl (ZaA lk gt) pt<|?_
     refine u_st (Zam lk cv gx rfl (nb' rfl) rfl ZaM (hs0 hn)) lk nh ptn ?_
     refine u_fr rfl (v_mv lk) pt<|u_fr rfl (v_mv lki) pt<|ZcB<|Zah<|Zaa<|Zap<|Zal<|Zal<|Zap<|Zal<|Zai (rsn (rm1 (rr_c gt gx (ld1 ZaL rfl)) (rm1 (rr_t gt) (rm1 (rr_t gt) rm0))))<|rtW'<|?_
     have hP:Zbg s=(srcZ,L[k].1,1):=by rw[hV,outP,hrun,hN]
     rw[hP];exact Zbh
    refine s_do gt<|Vw (Zac lk)<|s_do gt<|Vw (Zae lk gx gt0)<|s_do gt<|Vw (Za6 lk)<|s_do gt<|Vw (ZbI lk lki)<|Vw (Zab lk lk)<|mw<|?_
    refine sp' (t:=122) gt pt pt (fun hg122=>?_) (fun hg122=>?_)
    ·have hN:=ZaV hB (.inr (.inl (by intro e;rw[e] at hg122;exact absurd hg122 (by decide))))
     refine s_no gt pt<|s_no gt pt<|s_no gt pt<|s_no gt pt<|s_no gt pt<|s_no gt pt<|s_no gt pt<|Vw (Zag lk lkb)<|sn'<|ZaH lk<|Zan<|ZbC<|u_fr rfl (Zax Zat) pt<|?_
     refine u_fr rfl (v_mv lk) pt<|u_fr rfl (v_mv lk) pt<|?_
     refine u_fr rfl (ZaY lk lk Za2 (nb' rfl) ro om ro rfl) pt ?_
     refine u_fr rfl (Zbf lk dp0) pt<|u_fr rfl (ZaA lk gt) pt<|?_
     refine u_st (Zam lk cv gx rfl (nb' rfl) rfl ZaM (hs0 hn)) lk nh ptn ?_
     refine u_fr rfl (v_mv lk) pt<|u_fr rfl (v_mv lki) pt<|ZcB<|Zah<|Zaa<|Zap<|Zal<|Zal<|Zap<|Zal<|Zai (rsn (rm1 (rr_c gt gx (ld1 ZaL rfl)) (rm1 (rr_t gt) (rm1 (rr_t gt) rm0))))<|rtW'<|?_
     have hP:Zbg s=(srcZ,L[k].1,1):=by rw[hV,outP,hrun,hN]
     rw[hP];exact Zbh
    refine s_do gt<|mw<|s_do gt<|mw<|s_do gt<|?_
    refine V' (ZaY lk lk Za2 (nb' rfl) ro om ro rfl) pt ?_
    refine s_do gt<|Vw (Zbf lk dp1)<|s_do gt<|Vw (ZaA lk gt)<|s_do gt<|mw<|s_do gt<|Vw (Zef lk lk)<|Vw (Zab lk lk)<|sn'<|?_
    refine cd' lk (fun hc8=>?_) (fun hc8=>?_)
    ·have hN:=ZaV hB (.inr (.inr (by simpa using hc8)))
     refine Zan<|ZbC<|u_fr rfl (Zax Zat) pt<|u_fr rfl (v_mv lk) pt<|u_fr rfl (v_mv lk) pt<|?_
     refine u_fr rfl (ZaY lk lk Za2 (nb' rfl) ro om ro rfl) pt ?_
     refine u_fr rfl (Zbf lk dp0) pt<|u_fr rfl (ZaA lk gt) pt<|?_
     refine u_st (Zam lk cv gx rfl (nb' rfl) rfl ZaM (hs0 hn)) lk nh ptn ?_
     refine u_fr rfl (v_mv lk) pt<|u_fr rfl (v_mv lki) pt<|ZcB<|Zah<|Zaa<|Zap<|Zal<|Zal<|Zap<|Zal<|Zai (rsn (rm1 (rr_c gt gx (ld1 ZaL rfl)) (rm1 (rr_t gt) (rm1 (rr_t gt) rm0))))<|rtW'<|?_
     have hP:Zbg s=(srcZ,L[k].1,1):=by rw[hV,outP,hrun,hN]
     rw[hP];exact Zbh
    have hu1:u.2=false:=by simpa using hg116
    have hu2:u.1=[]:=List.eq_nil_of_length_eq_zero om
    have hS:=ZcJ hB hu1 hu2 (by simpa using hc8)
    rw[hS] at hrun
    have hokq:=hPT.1
    rw[hB] at hokq
    refine Zaf<|ZaC<|Zah<|Zar<|mw<|?_
    refine V' (Zau lk lki om om) pt ?_
    refine mw<|Zaq<|ZaB<|?_
    refine lU' (⟨k+1,(sr.1,sr.2.1,sr.2.2++[(n1,n2)]),none,sr.2.1.length,v1,v2,v3+1,v4⟩) (by (try dsimp only);exact⟨by omega,by simp,by omega,by omega,by simp;omega,by simp[eC],hokq,hrun⟩) (by (try dsimp only);(try simp only[sm',Nat.reduceAdd]);exact bkE' 6 hn hlt (by repeat (first | exact wk0 | refine wka ?_ | refine wk1 rfl ?_ | refine wk1 (by first | rfl | exact ivx om | (simp;done) | exact bvx (by have h9:=hs68;unfold Zb5 at h9;rw[h9];rfl) | exact bvx (by have h9:=hs106;unfold Zb5 at h9;rw[h9];rfl) | exact bvx (by have h9:=hs68;unfold Zb5 at h9;rw[Bool.not_eq_true] at h9;rw[h9];rfl) | exact bvx (by have h9:=hs106;unfold Zb5 at h9;rw[Bool.not_eq_true] at h9;rw[h9];rfl)) ?_)) (by simp only[zonC,Zbz,Zby,zC,eC,List.append_nil,List.length_append,List.length_singleton];rfl) (hT:=by first | rfl | (simp only[AV.lt,AV.ltL,Ent.lt,List.all_cons,List.all_nil,Bool.and_true,Bool.and_self,decide_true,ZbU,Zcl,Zcf,Zcq,ZbT,Zeq,Ze5,lt26,lt36,lt46,lt56];done) | exact lt') (hE:=by first | rfl | (simp only[AV.lt,AV.ltL,Ent.lt,List.all_cons,List.all_nil,Bool.and_true,Bool.and_self,decide_true,ZbU,Zcl,Zcf,Zcq,ZbT,Zeq,Ze5,lt26,lt36,lt46,lt56];done) | exact lt'))
   have hwL:¬w=linkA:=hc7
   have hB:Zdv (curS sr none,false) (L[k].2.2,false)=((curS sr none,false),bad t1):=by unfold Zdv;rw[if_neg (by simp)];simp only[Zbx,e1,if_neg hwR,if_neg hwZ,if_neg hwL]
   have hN:=ZaV hB (.inl rfl)
   refine Zar<|Vw (Zac lk)<|E' (Zam lk (cvl lkb rfl) gx rfl (nb' rfl) rfl Zea (hs6 hn)) ptn<|Zaq<|ZaC<|Zah<|wr'<|Vw (Zac lk)<|Vw (Zae lk gx gt1)<|mw<|s_no gt pt<|s_no gt pt<|s_no gt pt<|?_
   refine s_no gt pt<|Vw (Zag lk lkb)<|mw<|s_no gt pt<|s_no gt pt<|s_no gt pt<|s_no gt pt<|s_no gt pt<|s_no gt pt<|s_no gt pt<|Vw (Zag lk lkb)<|sn'<|ZaH lk<|?_
   refine Zan<|ZbC<|u_fr rfl (Zax Zat) pt<|u_fr rfl (v_mv lk) pt<|u_fr rfl (v_mv lk) pt<|?_
   refine u_fr rfl (ZaY lk lk Za2 (nb' rfl) ro om ro rfl) pt ?_
   refine u_fr rfl (Zbf lk dp0) pt<|u_fr rfl (ZaA lk gt) pt<|?_
   refine u_st (Zam lk cv gx rfl (nb' rfl) rfl ZaM (hs0 hn)) lk nh ptn ?_
   refine u_fr rfl (v_mv lk) pt<|u_fr rfl (v_mv lki) pt<|ZcB<|Zah<|Zaa<|Zap<|Zal<|Zal<|Zap<|Zal<|Zai (rsn (rm1 (rr_c gt gx (ld1 ZaL rfl)) (rm1 (rr_t gt) (rm1 (rr_t gt) rm0))))<|rtW'<|?_
   have hP:Zbg s=(srcZ,L[k].1,1):=by rw[hV,outP,hrun,hN]
   rw[hP];exact Zbh
  obtain⟨z,rfl⟩:=Option.ne_none_iff_exists'.1 hs36
  simp only[Option.isSome_some] at hrun hPT
  have hm':m=sr.2.1.length+1:=by simpa using hm
  have hk5':z.2.length≤k:=hk5
  obtain⟨x,u,eE⟩ : ∃ a b,tEra (L[k].2.2,false)=(a,b):=⟨_,_,rfl⟩
  have hB:Zdv (curS sr (some z),true) (L[k].2.2,false)=(Zb3 (curS sr (some z)) x,u):=by unfold Zdv;rw[if_pos rfl];simp only[Zbx,ret2,eE]
  have hw:Zb3 (curS sr (some z)) x=((sr.1,sr.2.1++[(z.1,z.2++[x])],sr.2.2),!Zb5 x):=by unfold Zb3 curS;rw[show sr.2.1++(some z).toList=sr.2.1++[z] from rfl,Zet]
  refine mw<|mw<|sn'<|wr'<|mw<|sn'<|Zan<|wr'<|mw<|?_
  refine V' ((by first | exact v_not lk | exact Zav lk)) pt ?_
  refine sn' ?_
  refine Zb1 lk (by rfl) ?_
  refine Zaf<|Zah<|Zan<|Zao<|wr'<|mw<|mw<|sn'<|?_
  refine ZdD lk (by rfl) ?_
  refine wr'<|Vw (Zac lk)<|Vw (Zae lk gx gt1)<|Vw (ZdE lk)<|?_
  refine V' (Zbi lk lki om om) pt ?_
  refine mw<|sn'<|wr'<|ZaJ mp (tera_e hokt eE gx) (hs6 hn) pt<|E' (ZbZ (hl7 hn) ha7) pt<|E' (Zam lk cv gx rfl (nb' rfl) rfl Zgy (hs7 hn)) ptn<|sn'<|Zan<|ZlW [N+1]<|Dw (Zac lk)<|?_
  refine d_ldP lk gx (ld0 gt) (by simp) pt ?_
  refine Dw (v_mv lk)<|Dw (Zac lk)<|Dw (Zae lk gx gt1)<|Dw (v_mv lk)<|?_
  refine D' (v_iaO lk lk (hga hn rfl) (nb' rfl) om om (by rw[Zio];simp;omega)) pt ?_
  refine D' (Zch lk) pt ?_
  refine D' (Zae lk gx (zc_at om)) pt ?_
  refine Dw (ZaE lk gx Zgx rfl)<|d_eff rfl rfl (hlk hn rfl) (l_lit (ZgC cv rfl)) pt Znr<|ZbB<|k_e_ent Zlv<|?_
  refine ZmT rfl rfl (Zfl (Zdc lk gx rfl Zho (nb' rfl)) lk gx (Zj1 _) om rfl (hs5 hn)) (by intro i hi;simp only[cond_true,List.mem_cons,List.not_mem_nil,or_false] at hi;subst hi;first | rfl | exact (hga hn rfl).trans (hga hn rfl).symm) pt ?_
  refine k_val rfl (v_iaO lk lk (hga hn rfl) (nb' rfl) om om (by rw[Zio];simp;omega)) pt ?_
  refine k_val rfl (Zch lk) pt ?_
  refine ZmT rfl rfl (Zam lk cv (hga hn rfl) rfl (by rw[Zio];simp;omega) rfl (zc_set om) (hs3 hn)) (by intro i hi;simp at hi) ptn ?_
  refine k_nil<|Zah<|Zar<|?_
  by_cases hs68:Zb5 x=true
  ·have hq:Zb3 (curS sr (some z)) x=(curS (sr.1,sr.2.1++[(z.1,z.2++[x])],sr.2.2) none,false):=by rw[hw,hs68,ZdP];rfl
   refine Vw (Zac lk)<|Vw (Zae lk gx gt4)<|Vw (Zav lk)<|mw<|Zaq<|ZaC<|Zah<|wr'<|Vw (Zac lk)<|Vw (Zae lk gx gt1)<|mw<|?_
   refine ZaI (t:=116) gt pt pt (fun hg116=>?_) (fun hg116=>?_)
   ·have hN:=ZaV hB (.inl hg116)
    refine s_no gt pt<|s_no gt pt<|s_no gt pt<|s_no gt pt<|Vw (Zag lk lkb)<|mw<|s_no gt pt<|s_no gt pt<|s_no gt pt<|s_no gt pt<|s_no gt pt<|s_no gt pt<|s_no gt pt<|Vw (Zag lk lkb)<|?_
    refine sn'<|ZaH lk<|Zan<|ZbC<|u_fr rfl (Zax Zat) pt<|u_fr rfl (v_mv lk) pt<|u_fr rfl (v_mv lk) pt<|?_
    refine u_fr rfl (ZaY lk lk Za2 (nb' rfl) ro om ro rfl) pt ?_
    refine u_fr rfl (Zbf lk dp0) pt<|u_fr rfl (ZaA lk gt) pt<|?_
    refine u_st (Zam lk cv gx rfl (nb' rfl) rfl ZaM (hs0 hn)) lk nh ptn ?_
    refine u_fr rfl (v_mv lk) pt<|u_fr rfl (v_mv lki) pt<|ZcB<|Zah<|Zaa<|Zap<|Zal<|Zal<|Zap<|Zal<|Zai (rsn (rm1 (rr_c gt gx (ld1 ZaL rfl)) (rm1 (rr_t gt) (rm1 (rr_t gt) rm0))))<|rtW'<|?_
    have hP:Zbg s=(srcZ,L[k].1,1):=by rw[hV,outP,hrun,hN]
    rw[hP];exact Zbh
   refine s_do gt<|Vw (Zac lk)<|s_do gt<|Vw (Zae lk gx gt0)<|s_do gt<|Vw (Za6 lk)<|s_do gt<|Vw (ZbI lk lki)<|Vw (Zab lk lk)<|mw<|?_
   refine sp' (t:=122) gt pt pt (fun hg122=>?_) (fun hg122=>?_)
   ·have hN:=ZaV hB (.inr (.inl (by intro e;rw[e] at hg122;exact absurd hg122 (by decide))))
    refine s_no gt pt<|s_no gt pt<|s_no gt pt<|s_no gt pt<|s_no gt pt<|s_no gt pt<|s_no gt pt<|Vw (Zag lk lkb)<|sn'<|ZaH lk<|Zan<|ZbC<|u_fr rfl (Zax Zat) pt<|?_
    refine u_fr rfl (v_mv lk) pt<|u_fr rfl (v_mv lk) pt<|?_
    refine u_fr rfl (ZaY lk lk Za2 (nb' rfl) ro om ro rfl) pt ?_
    refine u_fr rfl (Zbf lk dp0) pt<|u_fr rfl (ZaA lk gt) pt<|?_
    refine u_st (Zam lk cv gx rfl (nb' rfl) rfl ZaM (hs0 hn)) lk nh ptn ?_
    refine u_fr rfl (v_mv lk) pt<|u_fr rfl (v_mv lki) pt<|ZcB<|Zah<|Zaa<|Zap<|Zal<|Zal<|Zap<|Zal<|Zai (rsn (rm1 (rr_c gt gx (ld1 ZaL rfl)) (rm1 (rr_t gt) (rm1 (rr_t gt) rm0))))<|rtW'<|?_
    have hP:Zbg s=(srcZ,L[k].1,1):=by rw[hV,outP,hrun,hN]
    rw[hP];exact Zbh
   refine s_do gt<|mw<|s_do gt<|mw<|s_do gt<|?_
   refine V' (ZaY lk lk Za2 (nb' rfl) ro om ro rfl) pt ?_
   refine s_do gt<|Vw (Zbf lk dp1)<|s_do gt<|Vw (ZaA lk gt)<|s_do gt<|mw<|s_do gt<|Vw (Zef lk lk)<|Vw (Zab lk lk)<|sn'<|?_
   refine cd' lk (fun hc8=>?_) (fun hc8=>?_)
   ·have hN:=ZaV hB (.inr (.inr (by simpa using hc8)))
    refine Zan<|ZbC<|u_fr rfl (Zax Zat) pt<|u_fr rfl (v_mv lk) pt<|u_fr rfl (v_mv lk) pt<|?_
    refine u_fr rfl (ZaY lk lk Za2 (nb' rfl) ro om ro rfl) pt ?_
    refine u_fr rfl (Zbf lk dp0) pt<|u_fr rfl (ZaA lk gt) pt<|?_
    refine u_st (Zam lk cv gx rfl (nb' rfl) rfl ZaM (hs0 hn)) lk nh ptn ?_
    refine u_fr rfl (v_mv lk) pt<|u_fr rfl (v_mv lki) pt<|ZcB<|Zah<|Zaa<|Zap<|Zal<|Zal<|Zap<|Zal<|Zai (rsn (rm1 (rr_c gt gx (ld1 ZaL rfl)) (rm1 (rr_t gt) (rm1 (rr_t gt) rm0))))<|rtW'<|?_
    have hP:Zbg s=(srcZ,L[k].1,1):=by rw[hV,outP,hrun,hN]
    rw[hP];exact Zbh
   have hu1:u.2=false:=by simpa using hg116
   have hu2:u.1=[]:=List.eq_nil_of_length_eq_zero om
   have hS:=ZcJ hB hu1 hu2 (by simpa using hc8)
   rw[hS] at hrun
   have hokq:=hPT.1
   rw[hB] at hokq
   refine Zaf<|ZaC<|?_
   refine ZbY ((ALe.iceCellNew (ds:=rows eraC (z.2++[x])) (k:=sr.2.1.length*2+1) (ty2:=77) (st2:=10) (hga hn rfl) (hga hn rfl) om (zc_at rfl) (by rw[Zbz,Zby];exact List.take_of_length_le (by simp[Zj1,eC];omega)) (by simp[Zj1,eC];omega) zc_put (hs5 hn) (hs3 hn))) ?_
   refine Zar<|mw<|?_
   refine V' (Zau lk lki om om) pt ?_
   refine mw<|Zaq<|ZaB<|?_
   refine lU' (⟨k+1,(sr.1,sr.2.1++[(z.1,z.2++[x])],sr.2.2),none,m,v1,v2,v3,v4+2⟩) (by (try dsimp only);rw[hq] at hrun hokq;exact⟨by omega,by simp;omega,by omega,by omega,by omega,by simp[eC],hokq,hrun⟩) (by (try dsimp only);(try simp only[sm',Nat.reduceAdd]);exact bkE' 6 hn hlt (by repeat (first | exact wk0 | refine wka ?_ | refine wk1 rfl ?_ | refine wk1 (by first | rfl | exact ivx om | (simp;done) | exact bvx (by have h9:=hs68;unfold Zb5 at h9;rw[h9];rfl) | exact bvx (by have h9:=hs106;unfold Zb5 at h9;rw[h9];rfl) | exact bvx (by have h9:=hs68;unfold Zb5 at h9;rw[Bool.not_eq_true] at h9;rw[h9];rfl) | exact bvx (by have h9:=hs106;unfold Zb5 at h9;rw[Bool.not_eq_true] at h9;rw[h9];rfl)) ?_)) (by simp only[zonC,Zbz,Zby,zC,eC,List.append_nil,List.length_append,List.length_singleton];rfl) (hT:=by first | rfl | (simp only[AV.lt,AV.ltL,Ent.lt,List.all_cons,List.all_nil,Bool.and_true,Bool.and_self,decide_true,ZbU,Zcl,Zcf,Zcq,ZbT,Zeq,Ze5,lt26,lt36,lt46,lt56];done) | exact lt') (hE:=by first | rfl | (simp only[AV.lt,AV.ltL,Ent.lt,List.all_cons,List.all_nil,Bool.and_true,Bool.and_self,decide_true,ZbU,Zcl,Zcf,Zcq,ZbT,Zeq,Ze5,lt26,lt36,lt46,lt56];done) | exact lt'))
  have hq:Zb3 (curS sr (some z)) x=(curS sr (some (z.1,z.2++[x])),true):=by rw[hw,show Zb5 x=false by simpa using hs68];rfl
  refine Vw (Zac lk)<|Vw (Zae lk gx gt4)<|Vw (Zav lk)<|mw<|Zaq<|ZaC<|Zah<|wr'<|Vw (Zac lk)<|Vw (Zae lk gx gt1)<|mw<|?_
  refine ZaI (t:=116) gt pt pt (fun hg116=>?_) (fun hg116=>?_)
  ·have hN:=ZaV hB (.inl hg116)
   refine s_no gt pt<|s_no gt pt<|s_no gt pt<|s_no gt pt<|Vw (Zag lk lkb)<|mw<|s_no gt pt<|s_no gt pt<|s_no gt pt<|s_no gt pt<|s_no gt pt<|s_no gt pt<|s_no gt pt<|Vw (Zag lk lkb)<|?_
   refine sn'<|ZaH lk<|Zan<|ZbC<|u_fr rfl (Zax Zat) pt<|u_fr rfl (v_mv lk) pt<|u_fr rfl (v_mv lk) pt<|?_
   refine u_fr rfl (ZaY lk lk Za2 (nb' rfl) ro om ro rfl) pt ?_
   refine u_fr rfl (Zbf lk dp0) pt<|u_fr rfl (ZaA lk gt) pt<|?_
   refine u_st (Zam lk cv gx rfl (nb' rfl) rfl ZaM (hs0 hn)) lk nh ptn ?_
   refine u_fr rfl (v_mv lk) pt<|u_fr rfl (v_mv lki) pt<|ZcB<|Zah<|Zaa<|Zap<|Zal<|Zal<|Zap<|Zal<|Zai (rsn (rm1 (rr_c gt gx (ld1 ZaL rfl)) (rm1 (rr_t gt) (rm1 (rr_t gt) rm0))))<|rtW'<|?_
   have hP:Zbg s=(srcZ,L[k].1,1):=by rw[hV,outP,hrun,hN]
   rw[hP];exact Zbh
  refine s_do gt<|Vw (Zac lk)<|s_do gt<|Vw (Zae lk gx gt0)<|s_do gt<|Vw (Za6 lk)<|s_do gt<|Vw (ZbI lk lki)<|Vw (Zab lk lk)<|mw<|?_
  refine sp' (t:=122) gt pt pt (fun hg122=>?_) (fun hg122=>?_)
  ·have hN:=ZaV hB (.inr (.inl (by intro e;rw[e] at hg122;exact absurd hg122 (by decide))))
   refine s_no gt pt<|s_no gt pt<|s_no gt pt<|s_no gt pt<|s_no gt pt<|s_no gt pt<|s_no gt pt<|Vw (Zag lk lkb)<|sn'<|ZaH lk<|Zan<|ZbC<|u_fr rfl (Zax Zat) pt<|?_
   refine u_fr rfl (v_mv lk) pt<|u_fr rfl (v_mv lk) pt<|?_
   refine u_fr rfl (ZaY lk lk Za2 (nb' rfl) ro om ro rfl) pt ?_
   refine u_fr rfl (Zbf lk dp0) pt<|u_fr rfl (ZaA lk gt) pt<|?_
   refine u_st (Zam lk cv gx rfl (nb' rfl) rfl ZaM (hs0 hn)) lk nh ptn ?_
   refine u_fr rfl (v_mv lk) pt<|u_fr rfl (v_mv lki) pt<|ZcB<|Zah<|Zaa<|Zap<|Zal<|Zal<|Zap<|Zal<|Zai (rsn (rm1 (rr_c gt gx (ld1 ZaL rfl)) (rm1 (rr_t gt) (rm1 (rr_t gt) rm0))))<|rtW'<|?_
   have hP:Zbg s=(srcZ,L[k].1,1):=by rw[hV,outP,hrun,hN]
   rw[hP];exact Zbh
  refine s_do gt<|mw<|s_do gt<|mw<|s_do gt<|?_
  refine V' (ZaY lk lk Za2 (nb' rfl) ro om ro rfl) pt ?_
  refine s_do gt<|Vw (Zbf lk dp1)<|s_do gt<|Vw (ZaA lk gt)<|s_do gt<|mw<|s_do gt<|Vw (Zef lk lk)<|Vw (Zab lk lk)<|sn'<|?_
  refine cd' lk (fun hc8=>?_) (fun hc8=>?_)
  ·have hN:=ZaV hB (.inr (.inr (by simpa using hc8)))
   refine Zan<|ZbC<|u_fr rfl (Zax Zat) pt<|u_fr rfl (v_mv lk) pt<|u_fr rfl (v_mv lk) pt<|?_
   refine u_fr rfl (ZaY lk lk Za2 (nb' rfl) ro om ro rfl) pt ?_
   refine u_fr rfl (Zbf lk dp0) pt<|u_fr rfl (ZaA lk gt) pt<|?_
   refine u_st (Zam lk cv gx rfl (nb' rfl) rfl ZaM (hs0 hn)) lk nh ptn ?_
   refine u_fr rfl (v_mv lk) pt<|u_fr rfl (v_mv lki) pt<|ZcB<|Zah<|Zaa<|Zap<|Zal<|Zal<|Zap<|Zal<|Zai (rsn (rm1 (rr_c gt gx (ld1 ZaL rfl)) (rm1 (rr_t gt) (rm1 (rr_t gt) rm0))))<|rtW'<|?_
   have hP:Zbg s=(srcZ,L[k].1,1):=by rw[hV,outP,hrun,hN]
   rw[hP];exact Zbh
  have hu1:u.2=false:=by simpa using hg116
  have hu2:u.1=[]:=List.eq_nil_of_length_eq_zero om
  have hS:=ZcJ hB hu1 hu2 (by simpa using hc8)
  rw[hS] at hrun
  have hokq:=hPT.1
  rw[hB] at hokq
  refine Zaf<|ZaC<|Zah<|Zar<|mw<|?_
  refine V' (Zau lk lki om om) pt ?_
  refine mw<|Zaq<|ZaB<|?_
  refine lU' (⟨k+1,sr,some (z.1,z.2++[x]),m,v1,v2,v3,v4+1⟩) (by (try dsimp only);rw[hq] at hrun hokq;exact⟨by omega,by simp;omega,by omega,by omega,by omega,by simp[eC] at hk5 ⊢;omega,hokq,hrun⟩) (by (try dsimp only);(try simp only[sm',Nat.reduceAdd]);exact bkE' 6 hn hlt (by repeat (first | exact wk0 | refine wka ?_ | refine wk1 rfl ?_ | refine wk1 (by first | rfl | exact ivx om | (simp;done) | exact bvx (by have h9:=hs68;unfold Zb5 at h9;rw[h9];rfl) | exact bvx (by have h9:=hs106;unfold Zb5 at h9;rw[h9];rfl) | exact bvx (by have h9:=hs68;unfold Zb5 at h9;rw[Bool.not_eq_true] at h9;rw[h9];rfl) | exact bvx (by have h9:=hs106;unfold Zb5 at h9;rw[Bool.not_eq_true] at h9;rw[h9];rfl)) ?_)) (by simp only[zonC,Zbz,Zby,zC,eC,List.append_nil,List.length_append,List.length_singleton];rfl) (hT:=by first | rfl | (simp only[AV.lt,AV.ltL,Ent.lt,List.all_cons,List.all_nil,Bool.and_true,Bool.and_self,decide_true,ZbU,Zcl,Zcf,Zcq,ZbT,Zeq,Ze5,lt26,lt36,lt46,lt56];done) | exact lt') (hE:=by first | rfl | (simp only[AV.lt,AV.ltL,Ent.lt,List.all_cons,List.all_nil,Bool.and_true,Bool.and_self,decide_true,ZbU,Zcl,Zcf,Zcq,ZbT,Zeq,Ze5,lt26,lt36,lt46,lt56];done) | exact lt'))
 have hke:k=L.length:=by omega
 rw[List.drop_of_length_le om,runR] at hrun
 have hV2:Zbg s=endP (curS sr o,o.isSome):=by rw[hV,outP,hrun]
 refine ZaX<|ZaN<|ZaN<|Zbq<|Zah<|Zan<|wr'<|mw<|sn'<|?_
 refine cd' lk (fun hc9=>?_) (fun hc9=>?_)
 ·have hP:Zbg s=(srcZ,0,1):=by rw[hV2];exact if_pos hc9
  refine wr'<|Vw (Zax ZfJ)<|E' (Zam lk cv gx rfl (nb' rfl) rfl ZaM (hs0 hn)) ptn<|mw<|mw<|sn'<|Zaa<|Zal<|Zai (rsn (rm1 (rr_c gt gx (ld1 ZaL rfl)) (rm1 (rr_t gt) (rm1 (rr_t gt) rm0))))<|rtW'<|?_
  rw[hP];exact Zbh
 obtain rfl:o=none:=by cases o;rfl;cases hc9
 have hm':m=sr.2.1.length:=by simpa using hm
 subst hm'
 rw[ZdP] at hok hV2
 refine Zaf ?_
 refine ZbY ((ALe.trans (ALe.iceCellR (ds:=rows rulC sr.1) (hga hn rfl) (hga hn rfl) om gt0 (List.take_of_length_le (by rw[ZjD];exact Nat.le_refl _)) (by rw[ZjD];exact Nat.le_refl _) pt0 (hs2 hn) (hs1 hn)) (ALe.trans (ALe.iceCellR (ds:=rows zonC sr.2.1) (hga hn rfl) (hga hn rfl) om gt1 (by rw[show rows zonC sr.2.1++zC N v4 none=rows zonC sr.2.1 from List.append_nil _];exact List.take_of_length_le (by rw[Ze4];exact Nat.le_refl _)) (by rw[Zio];simp) pt1 (hs3 hn) (hs1 hn)) (ALe.iceCellR (ds:=rows lnkC sr.2.2) (hga hn rfl) (hga hn rfl) om gt2 (List.take_of_length_le (by rw[ZjP];exact Nat.le_refl _)) (by rw[ZjP];exact Nat.le_refl _) pt2 (hs4 hn) (hs1 hn))))) ?_
 refine wr'<|Vw (ZaE lk gx ZaL rfl)<|Zak mp (Zmr (a:=sr.1) (z:=sr.2.1) (l:=sr.2.2) hok) pt<|mw<|sn'<|Zan<|wr'<|mw<|Vw (Za1 lk lki)<|sn'<|?_
 refine cd' lk (fun hc10=>?_) (fun hc10=>?_)
 ·have hP:Zbg s=(srcZ,0,ZdV sr):=by rw[hV2,endP,if_neg (by simp)];exact if_pos hc10
  refine wr'<|Vw (Zax ZfI)<|mw<|E' (Zam lk cv gx rfl (nb' rfl) rfl ZaM (hs0 hn)) ptn<|mw<|mw<|sn'<|Zaa<|Zal<|Zai (rsn (rm1 (rr_c gt gx (ld1 ZaL rfl)) (rm1 (rr_t gt) (rm1 (rr_t gt) rm0))))<|rtW'<|?_
  rw[hP];exact Zbh
 have h0:ZdV sr=0:=Decidable.of_not_not hc10
 have hP:Zbg s=(sr,0,0):=by rw[hV2,endP,if_neg (by simp)];exact if_neg hc10
 refine Zaf<|Zah<|wr'<|Vw (ZaE lk gx ZaL rfl)<|mw<|E' (Zam lk cv gx rfl (nb' rfl) rfl ZaM (hs0 hn)) ptn<|mw<|mw<|sn'<|Zaa<|Zai (rsn (rm1 (rr_c gt gx (ld1 ZaL rfl)) (rm1 (rr_t gt) (rm1 (rr_t gt) rm0))))<|rtW'<|?_
 rw[hP];exact Wk.tup (wk1 rfl (wk1 rfl (wk1 (ivx h0.symm) wk0)))
end Go.Proofs.Yticajimgfndceaa
end
section
namespace Go.Proofs.Yticajimgfndceaa
open Go.ChangeShapes Go.WideShapes Go.ChangeAt Go.RowKit
theorem own:ownKnob Try.prog.godebug=none:=by kernel_rfl
theorem laidOut:laidOutB Try.prog=true:=by kernel_rfl
theorem Zez {H:Type}{enc:TypeId×Value→H}{P:Program}(hl:laidOutB P=true) {W W':World}(hb:Below W.heap.size W W') :
  ∀ (ts:List TypeId) (vs:List Value) (ds:List (DataW H)) (ps:List MemPlace),(ts.all fun t=>P.readableRec t&&decide (t<P.types.size))=true→(∀ x∈ps,x.block<W.heap.size) →
   DataW.TrodAll enc P W 0 (fun _=>true) true ts vs ds ps→DataW.TrodAll enc P W' 0 (fun b=>decide (b<W.heap.size)) true ts vs ds ps
 | [],[],[],ps,_,_,h=>h
 | t::ts,v::vs,d::ds,ps,hr,hlt,h=>by
  obtain⟨p,q,h1,h2,rfl⟩:=h
  simp only[List.all_cons,Bool.and_eq_true,decide_eq_true_eq] at hr
  exact⟨p,q,Below.trod hl hr.1.1 hr.1.2 h1 hb (fun x hx=>hlt x (List.mem_append.2 (.inl hx))),
   Zez hl hb ts vs ds q hr.2 (fun x hx=>hlt x (List.mem_append.2 (.inr hx))) h2,rfl⟩
 | [],_::_,_,_,_,_,h=>by simp[DataW.TrodAll] at h
 | [],[],_::_,_,_,_,h=>by simp[DataW.TrodAll] at h
 | _::_,[],_,_,_,_,h=>by simp[DataW.TrodAll] at h
 | _::_,_::_,[],_,_,_,h=>by simp[DataW.TrodAll] at h
theorem law_post {H:Type}{enc:TypeId×Value→H}{P:Program}{f:Func}{s:ChangeSpec}{handsOn fresh:Bool}{W W':World}{args:Array Value}{ds gs:List (DataW H)}{before:List MemPlace}{tb:TypeId}
  (hl:laidOutB P=true) (hts:(f.params.toList.all fun t=>P.readableRec t&&decide (t<P.types.size))=true)
  (hrt:f.resultTypes = #[tb]) (htb:P.underlying tb=some .bool) (hvars:s.vars=[])
  (hs:s.fn H ds={ results:=[.lit (.bool true)],args:=ds })
  (hW:DataW.Whole enc P f.params.toList s.vars false W args.toList ds gs before) (hb:Below W.heap.size W W') :
  s.post enc P f false fresh handsOn false W args (.bool true) W':=by
 have hW':=hW
 obtain⟨p,q,hA,hV,rfl,_,_⟩:=hW
 rw[hvars] at hV
 obtain⟨rfl,rfl⟩:=trodVars_none hV
 have hlt : ∀ x∈p,x.block<W.heap.size:=fun x hx=>by simpa using hW'.lt x (List.mem_append.2 (.inl hx))
 have e1:s.fn H (ds++[])={ results:=[.lit (.bool true)],args:=ds }:=by simpa using hs
 refine⟨ds,[],p++[],[],p,[],hW',?_,?_,?_,hb.frame _,fun h=>by cases h⟩
 ·rw[e1,hrt];exact trodAll_mk1 (shut_bool htb _)
 ·rw[e1];exact Zez hl hb _ _ _ _ hts hlt hA
 ·rw[e1,hvars];exact rfl
end Go.Proofs.Yticajimgfndceaa
end
section
namespace Go.Proofs.Yticajimgfndceaa
open Go.ChangeShapes Go.WideShapes Go.ChangeAt Go.RowKit Go.Deep Go.Ab
inductive Ds where
 | int | str | bool
 | pair (a b:Ds)
 | slice (a:Ds)
@[reducible] def El:Ds→Type
 | .int=>Int
 | .str=>ByteArray
 | .bool=>Bool
 | .pair a b=>El a×El b
 | .slice a=>List (El a)
def Ds.size:Ds→Nat
 | .pair a b=>a.size+b.size
 | _=>1
theorem Ds.size_pos (d:Ds):0<d.size:=by
 induction d with
 | pair a b iha ihb=>simp only[Ds.size];omega
 | _=>simp[Ds.size]
def Rd (w:World) (B:Nat):(d:Ds)→List Value→El d→Prop
  | .int,cs,n=>cs=[.int .i64 n] ∧ -9223372036854775808≤n∧n≤9223372036854775807
  | .str,cs,s=>cs=[.string s]∧s.size≤maxLen
  | .bool,cs,b=>cs=[.bool b]
  | .pair a b,cs,p => ∃ c1 c2,cs=c1++c2∧Rd w B a c1 p.1∧Rd w B b c2 p.2
  | .slice a, cs, l => ∃ A c, cs = [.slice A l.length c] ∧ l.length ≤ c ∧ c ≤ maxLen ∧ (A = none → c = 0) ∧
      (0<l.length → ∃ b off,A=some ⟨b,off,none⟩∧b<B ∧ ∀ k (h:k<l.length),∃ r,(∀ j v,r[j]?=some v→w.cell? ⟨b,off+k*a.size+j,none⟩=some v)∧Rd w B a r l[k])
theorem Rd.length {w:World}{B:Nat} : ∀ {d:Ds}{cs:List Value}{x:El d},Rd w B d cs x→cs.length=d.size
 | .int,cs,x,h=>by rw[h.1];rfl
 | .str,cs,x,h=>by rw[h.1];rfl
 | .bool,cs,x,h=>by rw[show cs=_ from h];rfl
 | .pair a b,cs,x,⟨c1,c2,e,h1,h2⟩=>by rw[e,List.length_append,Rd.length h1,Rd.length h2];rfl
 | .slice a,cs,x,⟨A,c,e,_⟩=>by rw[e];rfl
theorem Rd.keep {w w':World}{B B':Nat}(hk : ∀ p:Addr,p.block<B→w'.cell? p=w.cell? p) (hB:B≤B') : ∀ {d:Ds}{cs:List Value}{x:El d},Rd w B d cs x→Rd w' B' d cs x
  | .int,cs,x,h=>h
  | .str,cs,x,h=>h
  | .bool,cs,x,h=>h
  | .pair a b,cs,x,⟨c1,c2,e,h1,h2⟩=>⟨c1,c2,e,Rd.keep hk hB h1,Rd.keep hk hB h2⟩
  | .slice a, cs, x, ⟨A, c, e, hl, hm, hA0, h⟩ => ⟨A, c, e, hl, hm, hA0, fun h0 => by
      obtain⟨b,off,hA,hb,hi⟩:=h h0
      refine⟨b,off,hA,by omega,fun k hk'=>?_⟩
      obtain⟨r,hc,hr⟩:=hi k hk'
      exact⟨r,fun j v hv=>(hk _ hb).trans (hc j v hv),Rd.keep hk hB hr⟩⟩
theorem Rd.below {w w':World}{B:Nat}{d:Ds}{cs:List Value}{x:El d}(h:Rd w B d cs x) (hb:Below B w w'):Rd w' B d cs x:=h.keep (fun p hp=>hb.cell hp) (Nat.le_refl _)
theorem Rd.more {w:World}{B B':Nat}{d:Ds}{cs:List Value}{x:El d}(h:Rd w B d cs x) (hB:B≤B'):Rd w B' d cs x:=h.keep (fun p hp=>rfl) hB
def ZjY (P:Program) (f:TypeId→Ds→Bool):List Field→Nat→Ds→Bool
 | [],_,_=>false
 | fd::fs,off,d=>match fs with
  | []=>fd.offset==off&&P.cellsOf fd.type==d.size&&f fd.type d
  | _::_=>match d with
   | .pair a b=>fd.offset==off&&P.cellsOf fd.type==a.size&&f fd.type a&&ZjY P f fs (off+a.size) b
   | _=>false
def fits (P:Program):Nat→TypeId→Ds→Bool
 | 0,_,_=>false
 | n+1,t,d =>
  match P.underlying t with
  | some (.int .i64)=>match d with
   | .int=>true
   | _=>false
  | some .string=>match d with
   | .str=>true
   | _=>false
  | some .bool=>match d with
   | .bool=>true
   | _=>false
  | some (.slice e)=>match d with
   | .slice a=>P.cellsOf e==a.size&&fits P n e a
   | _=>false
  | some (.struct fs)=>P.cellsOf t==d.size&&ZjY P (fits P n) fs.toList 0 d
  | _=>false
section
variable {H : Type} {enc : TypeId × Value → H} {P : Program} {w : World} {base : Nat} {spare : Nat → Bool} {held : Bool}
theorem ZiD {w:World}{a:Addr}{v:Value}(h:w.cell? a=some v):a.spot=none:=by
 unfold World.cell? at h
 split at h
 ·split at h
  ·cases h
  ·rename_i hs;simpa using hs
 ·cases h
theorem ZmN {α β:Type}{Q:Nat→β→α→Prop} : ∀ (n:Nat),(∀ i,i<n → ∃ r y,Q i r y) → ∃ l:List α,l.length=n ∧ ∀ i (h:i<l.length),∃ r,Q i r l[i]
 | 0,_=>⟨[],rfl,fun i h=>absurd h (by simp)⟩
 | n+1,h=>by
  obtain⟨l,hl,hq⟩:=ZmN n (fun i hi=>h i om)
  obtain⟨r,y,hy⟩:=h n om
  refine⟨l++[y],by simp[hl],fun i hi=>?_⟩
  by_cases hin:i<l.length
  ·obtain⟨r',h'⟩:=hq i hin
   exact⟨r',by rw[List.getElem_append_left hin];exact h'⟩
  ·obtain rfl:i=n:=by simp at hi;omega
   exact⟨r,by rw[List.getElem_append_right om];simpa [hl] using hy⟩
theorem Zd3 : ∀ (n:Nat) (t:TypeId) (d:Ds) (fuel:Nat) (cs:List Value) (x:DataW H×List MemPlace),fits P n t d=true→DataW.trod enc P w base spare held fuel t cs=some x → ∃ e:El d,Rd w w.heap.size d cs e
  | 0,t,d,fuel,cs,x,hf,h=>by simp[fits] at hf
  | n+1,t,d,fuel,cs,x,hf,h=>by
    unfold fits at hf
    split at hf
    · rename_i hu
      split at hf <;> try (cases hf;done)
      obtain⟨m,rfl,_,hw⟩:=DataW.trod_int hu h
      exact⟨m,rfl,by simpa [Lit.wf,IntKind.min,IntKind.max,IntKind.signed,IntKind.bits] using hw⟩
    · rename_i hu
      split at hf <;> try (cases hf;done)
      obtain⟨s,rfl,_,hw⟩:=DataW.trod_string hu h
      exact⟨s,rfl,hw⟩
    · rename_i hu
      split at hf <;> try (cases hf;done)
      obtain⟨b,rfl,_⟩:=DataW.trod_bool hu h
      exact⟨b,rfl⟩
    · rename_i e hu
      split at hf <;> try (cases hf;done)
      rename_i a
      simp only[Bool.and_eq_true,beq_iff_eq] at hf
      rcases open_slice hu h with ⟨rfl,_⟩ | ⟨ad,len,cap,m,k,D,Pl,rfl,hb,hl,hm,hmm,_,hi⟩
      · exact⟨([]:List (El a)),none,0,rfl,Nat.le_refl _,by unfold maxLen;omega,fun _=>rfl,fun h0=>absurd h0 (by simp)⟩
      · have hlm:len≤m:=by rw[hmm];split <;> omega
        have hex : ∀ i,i<len → ∃ (r:List Value) (y:El a),(∀ j v,r[j]?=some v→w.cell? ((ad.add (i*a.size)).add j)=some v)∧r.length=a.size∧Rd w w.heap.size a r y:=by
          intro i hil
          obtain⟨cs',hc,ht⟩:=hi i om
          rw[hf.1] at hc
          obtain⟨_,hcl,hat⟩:=World.cells?_some hc
          obtain⟨y,hy⟩:=Zd3 n e a k cs' _ hf.2 ht
          exact⟨cs',y,fun j v hv=>by rw[hat j (by have:=(List.getElem?_eq_some_iff.1 hv).1;omega)];exact hv,hcl,hy⟩
        obtain⟨l,hll,hl2⟩:=ZmN len hex
        refine⟨l,some ad,cap,by rw[hll],by omega,hm,fun h=>(by cases h),fun h0=>?_⟩
        obtain⟨r0,hr0,hl0,_⟩:=hl2 0 h0
        have hp:=a.size_pos
        have hc0:=hr0 0 r0[0] (List.getElem?_eq_getElem om)
        have hsp:ad.spot=none:=by
          have:=ZiD hc0
          simpa [Addr.add] using this
        obtain⟨b,off,sp⟩:=ad
        simp only at hsp
        subst hsp
        refine⟨b,off,rfl,?_,fun k' hk'=>?_⟩
        · have:=block_lt_of_cell hc0
          simpa [Addr.add] using this
        · obtain⟨r,hr1,_,hr2⟩:=hl2 k' hk'
          exact⟨r,fun j v hv=>by have:=hr1 j v hv;simpa [Addr.add_lit] using this,hr2⟩
    · rename_i fs hu
      simp only[Bool.and_eq_true,beq_iff_eq] at hf
      obtain⟨xs,m,_,_,hcl,hxl,hat⟩:=DataW.trod_struct hu h
      have key : ∀ (l : List Field) (off i : Nat) (d : Ds) (cs' : List Value), ZjY P (fits P n) l off d = true → cs'.length = d.size → cs.drop off = cs' → (∀ (j : Nat) (f : Field), l[j]? = some f → fs.toList[i + j]? = some f) →
          ∃ e:El d,Rd w w.heap.size d cs' e:=by
        intro l
        induction l with
        | nil=>intro off i d cs' hg;simp[ZjY] at hg
        | cons f l ih =>
          intro off i d cs' hg hcl' hd hj
          have hfi:fs[i]?=some f:=by have:=hj 0 f rfl;simpa using this
          have hlt:i<xs.length:=by rw[hxl];exact (Array.getElem?_eq_some_iff.1 hfi).1
          have ht:=hat i f hfi
          rw[List.getElem?_eq_getElem hlt] at ht
          cases l with
          | nil =>
            simp only[ZjY,Bool.and_eq_true,beq_iff_eq] at hg
            rw[hg.1.1,hg.1.2,hd,List.take_of_length_le om] at ht
            exact Zd3 n f.type d m cs' _ hg.2 ht
          | cons g l =>
            cases d with
            | pair a b =>
              simp only[ZjY,Bool.and_eq_true,beq_iff_eq] at hg
              obtain⟨⟨⟨g1,g2⟩,g3⟩,g4⟩:=hg
              rw[g1,g2,hd] at ht
              obtain⟨e1,he1⟩:=Zd3 n f.type a m _ _ g3 ht
              obtain⟨e2,he2⟩:=ih (off+a.size) (i+1) b (cs'.drop a.size) g4 (by rw[List.length_drop,hcl'];simp[Ds.size]) (by rw[←hd,List.drop_drop]) (fun j f' hf'=>by have:=hj (j+1) f' (by simpa using hf');rw[←this];congr 1;omega)
              exact⟨(e1,e2),cs'.take a.size,cs'.drop a.size,(List.take_append_drop _ _).symm,he1,he2⟩
            | _=>simp[ZjY] at hg
      exact key fs.toList 0 0 _ cs hf.2 (by rw[hcl,hf.1]) (by simp) (fun j f' hf'=>by simpa using hf')
    · cases hf
theorem rd_arg {d:Ds}{t:TypeId}{v:Value}{x:DataW H}{p:List MemPlace}(hf:fits P 20 t d=true) (h:DataW.Trod enc P w base spare held t v x p) : ∃ e:El d,Rd w w.heap.size d v.cells.toList e:=by
 obtain⟨fuel,hf'⟩:=h
 exact Zd3 20 t d fuel _ _ hf hf'
end
def avs:(d:Ds)→El d→List AV
 | .int,n=>[iv n]
 | .str,s=>[sv s]
 | .bool,b=>[bv b]
 | .pair a b,p=>avs a p.1++avs b p.2
 | .slice a,l=>[.sl (List.length l) a.size false (rows (avs a) l)]
theorem Zig : ∀ (d:Ds) (x:El d),(avs d x).length=d.size
 | .int,_=>rfl
 | .str,_=>rfl
 | .bool,_=>rfl
 | .pair a b,p=>by simp only[avs,List.length_append,Zig a,Zig b,Ds.size]
 | .slice a,l=>rfl
def okD:(d:Ds)→El d→Prop
 | .int,n => -9223372036854775808≤n∧n≤9223372036854775807
 | .str,s=>ByteArray.size s≤maxLen
 | .bool,_=>True
 | .pair a b,p=>okD a p.1∧okD b p.2
 | .slice a,l => ∀ (k:Nat) (h:k<List.length l),okD a (l[k])
theorem Rd.ok {w:World}{B:Nat} : ∀ {d:Ds}{cs:List Value}{x:El d},Rd w B d cs x→okD d x
 | .int,cs,x,h=>h.2
 | .str,cs,x,h=>h.2
 | .bool,cs,x,h=>trivial
 | .pair a b,cs,x,⟨c1,c2,e,h1,h2⟩=>⟨Rd.ok h1,Rd.ok h2⟩
 | .slice a,cs,x,⟨A,c,e,hl,hm,h0,h⟩=>fun k hk=>by
  obtain⟨b,off,_,_,hi⟩:=h om
  obtain⟨r,_,hr⟩:=hi k hk
  exact Rd.ok hr
theorem RepC.append {w:World}{g:Gh} : ∀ {cs ds:List AV}{b off:Nat},RepC w g cs b off→RepC w g ds b (off+cs.length)→RepC w g (cs++ds) b off
 | [],ds,b,off,_,h=>by simpa using h
 | c::cs,ds,b,off,h,k=>by
  simp only[RepC,List.cons_append] at h ⊢
  refine⟨h.1,RepC.append h.2 ?_⟩
  rw[show off+1+cs.length=off+(c::cs).length by simp;omega]
  exact k
theorem RepC.of_list {w:World}{g:Gh}{b:Nat} : ∀ {cs:List AV}{us:List Value}{off:Nat},RepL w g cs us→(∀ j v,us[j]?=some v→w.cell? ⟨b,off+j,none⟩=some v)→RepC w g cs b off
 | [],us,off,_,_=>by simp only[RepC]
 | c::cs,us,off,h,k=>by
  simp only[RepL] at h
  obtain⟨u,us',rfl,h1,h2⟩:=h
  simp only[RepC]
  refine⟨⟨u,k 0 u rfl,h1⟩,RepC.of_list h2 fun j v hv=>?_⟩
  have:=k (j+1) v (by simpa using hv)
  rw[show off+1+j=off+(j+1) by omega]
  exact this
theorem Zkx {w:World}{B:Nat}{g:Gh}(hg : ∀ k,k<B→g.D k) : ∀ (d:Ds) (cs:List Value) (x:El d),Rd w B d cs x→RepL w g (avs d x) cs
 | .int,cs,x,h=>by rw[h.1];simp only[avs,RepL];exact⟨_,[],rfl,by simp only[Rep],rfl⟩
 | .str,cs,x,h=>by rw[h.1];simp only[avs,RepL];exact⟨_,[],rfl,by simp only[Rep],rfl⟩
 | .bool,cs,x,h=>by rw[show cs=_ from h];simp only[avs,RepL];exact⟨_,[],rfl,by simp only[Rep],rfl⟩
 | .pair a b,cs,x,⟨c1,c2,e,h1,h2⟩=>by rw[e];simp only[avs];exact (Zkx hg a c1 x.1 h1).append (Zkx hg b c2 x.2 h2)
 | .slice a,cs,l,⟨A,c,e,hl,hm,h0,h⟩=>by
  rw[e]
  simp only[avs,RepL]
  refine⟨_,[],rfl,?_,rfl⟩
  simp only[Rep]
  refine⟨Za7 (Zig a) l,A,c,rfl,hl,hm,fun h=>(by cases h),h0,fun hne=>?_⟩
  have hpos:0<List.length l:=by
   rcases Nat.eq_zero_or_pos (List.length l) with h' | h'
   ·have:l=[]:=List.eq_nil_of_length_eq_zero h'
    subst this;exact absurd rfl hne
   ·exact h'
  obtain⟨b,off,eA,hb,hi⟩:=h hpos
  refine⟨b,off,eA,hg b hb,?_⟩
  have key : ∀ (m:List (El a)) (o:Nat),(∀ k (hk:k<m.length),∃ r,(∀ j v,r[j]?=some v→w.cell? ⟨b,o+k*a.size+j,none⟩=some v)∧RepL w g (avs a m[k]) r)→RepC w g (rows (avs a) m) b o:=by
   intro m
   induction m with
   | nil=>intro o _;simp only[rows,List.flatMap_nil,RepC]
   | cons x m ih =>
    intro o hm'
    simp only[rows,List.flatMap_cons]
    obtain⟨r,hr1,hr2⟩:=hm' 0 (by simp)
    refine RepC.append (RepC.of_list hr2 fun j v hv=>by have:=hr1 j v hv;simpa using this) ?_
    rw[Zig]
    refine ih (o+a.size) fun k hk=>?_
    obtain⟨r,hr1,hr2⟩:=hm' (k+1) (by simpa using hk)
    refine⟨r,fun j v hv=>?_,by simpa using hr2⟩
    have:=hr1 j v hv
    rw[show o+a.size+k*a.size+j=o+(k+1)*a.size+j by rw[Nat.add_mul];omega]
    exact this
  exact key l off fun k hk=>by
   obtain⟨r,hr1,hr2⟩:=hi k hk
   exact⟨r,hr1,Zkx hg a r _ hr2⟩
def g0 (w:World):Gh:=⟨fun k=>k<w.heap.size,fun _ _=>none,[]⟩
theorem sim0 (w:World) (hG:GlobW w):SimH w (g0 w) [] :=
 ⟨fun id ver ty s c h=>(by simp at h),fun i j k hi _=>by obtain⟨_,_,_,_,_,_,h,_⟩:=hi;simp at h,fun k hk=>hk,fun id ver l h=>(by simp[g0] at h),fun id ver l h=>(by simp[g0] at h),⟨hG,hG.lt⟩,fun i k o T vs h=>(by simp at h),fun i j k hi _=>by obtain⟨_,_,_,h⟩:=hi;simp at h⟩
theorem ZmR {P:Program}{f:FuncId}{args:List AV}(hc:ACalls P f args [] fun x h'=>h'=[]∧x=.ret (bv true)) {w:World}(hG:GlobW w) {vs:Array Value}(hr:RepL w (g0 w) args vs.toList) :
  Calls P f vs w fun e w'=>e=.returned (.bool true)∧Below w.heap.size w w':=by
 refine (hc.2 w (g0 w) vs (sim0 w hG) hr).mono ?_
 rintro e w' ⟨x,h',g',h1,h2,h3,h4,h5,rfl,rfl⟩
 cases e <;> simp only[EndR] at h1
 simp only[Rep] at h1
 refine⟨by rw[h1],h4.os,h4.tape,h4.output,h4.size,fun k hk=>h4.block k hk ?_⟩
 rintro (⟨i,_,_,_,_,_,_,h,_⟩ | ⟨i,_,_,_,h⟩) <;> simp at h
section
variable {H : Type} {enc : TypeId × Value → H} {P : Program} {w : World} {base : Nat} {spare : Nat → Bool} {held : Bool}
theorem Zii (d:Ds) {t:TypeId}{v:Value}{x:DataW H}{p:List MemPlace}(hf:fits P 20 t d=true) (hv:v.cells = #[v]) (h:DataW.Trod enc P w base spare held t v x p) :
  ∃ e:El d,okD d e∧RepL w (g0 w) (avs d e) [v]:=by
 obtain⟨e,he⟩:=rd_arg hf h
 refine⟨e,he.ok,?_⟩
 have:=Zkx (g:=g0 w) (fun k hk=>hk) d _ e he
 rwa [hv] at this
theorem Znj (d:Ds) {t el:TypeId}{v:Value}{x:DataW H}{p:List MemPlace}{r:Reach}{b:Nat}(ht:P.underlying t=some (.slice el)) (hf:fits P 20 t (.slice d)=true) (hv:Value.okWide P w r b t v) (h:DataW.Trod enc P w base spare held t v x p) :
  ∃ e:List (El d),okD (.slice d) e∧Rep w (g0 w) (.sl e.length d.size false (rows (avs d) e)) v:=by
 obtain⟨a,l,c,rfl⟩:=okWide_slice ht hv
 obtain⟨e,he,hr⟩:=Zii (.slice d) hf rfl h
 simp only[avs,RepL] at hr
 obtain⟨u,us,h1,h2,rfl⟩:=hr
 cases h1
 exact⟨e,he,h2⟩
theorem Znk {t:TypeId}{v:Value}{x:DataW H}{p:List MemPlace}{r:Reach}{b:Nat}(ht:P.underlying t=some (.int .i64)) (hv:Value.okWide P w r b t v) (h:DataW.Trod enc P w base spare held t v x p) :
  ∃ e:Int,(-9223372036854775808≤e∧e≤9223372036854775807)∧Rep w (g0 w) (iv e) v:=by
 obtain⟨n,rfl⟩:=okWide_int ht hv
 obtain⟨e,he,hr⟩:=Zii .int (by simp[fits,ht]) rfl h
 simp only[avs,RepL] at hr
 obtain⟨u,us,h1,h2,rfl⟩:=hr
 cases h1
 exact⟨e,he,h2⟩
theorem arg_str {t:TypeId}{v:Value}{x:DataW H}{p:List MemPlace}{r:Reach}{b:Nat}(ht:P.underlying t=some .string) (hv:Value.okWide P w r b t v) (h:DataW.Trod enc P w base spare held t v x p) :
  ∃ e:ByteArray,e.size≤maxLen∧Rep w (g0 w) (sv e) v:=by
 obtain⟨n,rfl⟩:=okWide_string ht hv
 obtain⟨e,he,hr⟩:=Zii .str (by simp[fits,ht]) rfl h
 simp only[avs,RepL] at hr
 obtain⟨u,us,h1,h2,rfl⟩:=hr
 cases h1
 exact⟨e,he,h2⟩
end
theorem repL1 {w:World}{g:Gh}{c:AV}{v:Value}{cs:List AV}{vs:List Value}(h:Rep w g c v) (hs:RepL w g cs vs):RepL w g (c::cs) (v::vs):=by simp only[RepL];exact⟨v,vs,rfl,h,hs⟩
theorem repL0 {w:World}{g:Gh}:RepL w g [] []:=by simp only[RepL]
end Go.Proofs.Yticajimgfndceaa
end
section
namespace Go.Proofs.Yticajimgfndceaa
open Go.Ab Go.RowKit Civ
abbrev RulD:Ds:=.pair .str (.pair .int (.pair .int (.pair .int (.pair (.pair .int (.pair .int .int)) (.pair .int (.pair .int (.pair .int .str)))))))
end Go.Proofs.Yticajimgfndceaa
end
section
namespace Go.Proofs.Yticajimgfndceaa
open Go.Ab Go.RowKit Civ
attribute [local simp] ZbU Zcl Zcf Zcq Zko
section
theorem Zhz {a0 a1 a2 c0 c1 c2:AV}{l:List AV}:setCells (a0::a1::a2::l) 0 [c0,c1,c2]=c0::c1::c2::l:=rfl
theorem Zhy {a0 a1 a2:AV}{l:List AV}:((a0::a1::a2::l).drop 0).take 3=[a0,a1,a2]:=rfl
theorem Znu {a0 a1 a2:AV}{l:List AV}:(a0::a1::a2::l).take 3=[a0,a1,a2]:=rfl
theorem Zfr {τ:Operand→AV}{y0 y1 y2:Operand}{x0_0 x1_0 x2_0:AV}(h0:Zas (τ y0)=some [x0_0]) (l0:[x0_0].all leaf=true) (h1:Zas (τ y1)=some [x1_0]) (l1:[x1_0].all leaf=true) (h2:Zas (τ y2)=some [x2_0]) (l2:[x2_0].all leaf=true):Zaw τ [(0,1,y0),(1,1,y1),(2,1,y2)] [(.v (.int .i64 0)),(.v (.int .i64 0)),(.v (.string ⟨#[]⟩))]=some [x0_0,x1_0,x2_0]:=by
 simp only[Zaw,h0,l0,h1,l1,h2,l2]
 rfl
theorem Zka {a0 b0:Int}{a1 b1:Int}{a2 b2:ByteArray}:ZbW [.int,.int,.str] [iv a0,iv a1,sv a2] [iv b0,iv b1,sv b2]=some (decide (a0=b0∧a1=b1∧a2=b2)):=by
 simp only[ZbW,ZeQ,if_true,ZeU,Option.some.injEq]
 simp only[Bool.decide_and,Bool.and_true]
 try (congr 1 <;> simp)
 try rfl
end
def c6:AC:=(Sr [Oo 0 (.new 38 3 [(.sl 0 0 true []),(.sl 0 0 true []),(.sl 0 0 true [])])] (Sr [Oo 5 (.call (.func 13) [(.const (.string ⟨#[82,117,108,101,32,101,117,32,49,57,56,49,32,109,97,120,32,77,97,114,32,108,97,115,116,83,117,110,32,49,58,48,48,117,32,49,58,48,48,32,83,10,82,117,108,101,32,101,117,32,49,57,57,54,32,109,97,120,32,79,99,116,32,108,97,115,116,83,117,110,32,49,58,48,48,117,32,48,32,45,10,90,111,110,101,32,72,101,114,101,47,84,111,119,110,32,48,58,49,48,32,45,32,76,77,84,32,49,56,56,48,32,74,97,110,32,49,32,48,10,32,32,49,58,48,48,32,101,117,32,67,69,37,115,84,10,76,105,110,107,32,72,101,114,101,47,84,111,119,110,32,79,108,100,10]⟩))]),Mv 4 5,Ex 6 4 0,Ex 7 4 1,Ex 8 4 2,Oo 1 (.new 38 3 [(.sl 0 0 true []),(.sl 0 0 true []),(.sl 0 0 true [])]),⟨none,none,(.store 3 (.tmp 1) (.tmp 6))⟩,Mv 2 7,Mv 3 8] (Sr [Oo 9 (.load true 3 (.tmp 1)),⟨none,none,(.store 3 (.tmp 0) (.tmp 9))⟩] .ret)))
theorem k6:ZaO Try.prog 6=some ⟨c6,[(.cell 0 true 3)],10⟩:=by kernel_rfl
def c4:AC:=(Sr [Mb 0 false] (Sr [Cl 6 6 [],Oo 7 (.fld false 0 1 (.tmp 6)),Oo 8 (.call (.func 5) [(.tmp 7),(.const (.string ⟨#[101,117]⟩)),(Ci 3600)]),Mv 5 8,Ex 9 5 0,Ex 10 5 1,Mv 1 9,Mv 2 10] (Sr [Cl 12 6 [],Oo 13 (.fld false 0 1 (.tmp 12)),Oo 14 (.call (.func 5) [(.tmp 13),(.const (.string ⟨#[117,115]⟩)),(Ci 3600)]),Mv 11 14,Ex 15 11 0,Ex 16 11 1,Mv 3 15,Mv 4 16] (Sr [Mv 17 2,Bc 18 .eql 17 0,Mv 19 18,Ot 20 19 (mt 4),Ot 21 19 (.bin .eql (.tmp 20) (Ci 5)),Oo 22 (.pick (.tmp 19) (.tmp 21) (.const (.bool false))),Mv 23 22,Ot 24 23 (mt 1),Ot 25 23 (.len false (.tmp 24)),Ot 26 23 (.bin .eql (.tmp 25) (Ci 225)),Oo 27 (.pick (.tmp 23) (.tmp 26) (.const (.bool false))),Mv 28 27,Ot 29 28 (mt 1),Ot 30 28 (.ia 3 (.tmp 29) (Ci 15)),Ot 31 28 (.load true 3 (.tmp 30)),Ot 32 28 (.build [(iv 0),(iv 0),Ss] [(0,(1,(Ci 828234000))),(1,(1,(Ci 3600))),(2,(1,(.const (.string ⟨#[83]⟩))))]),Ot 33 28 (.eqs false [.int,.int,.str] (.tmp 31) (.tmp 32)),Oo 34 (.pick (.tmp 28) (.tmp 33) (.const (.bool false))),Mv 0 34] .ret))))
theorem k4:ZaO Try.prog 4=some ⟨c4,[(.tmp 0)],35⟩:=by kernel_rfl
theorem ZmC {s:Src}(h:ZhX s):okRs s.1:=fun r hr=>h.1 r hr
theorem Zmy : ∀ {l:List Trn}{sh sa:Int}{t:Tim},t∈outV sh sa l→(0≤sa∧sa≤10800)→(∀ u∈l,Za8 u.2=0) → ∃ u∈l,∃ sa',(0≤sa'∧sa'≤10800)∧t=timV sh sa' u
 | u::l,sh,sa,t,ht,hs,hr=>by
  rw[outV] at ht
  rcases List.mem_cons.1 ht with rfl | ht
  ·exact⟨u,by simp,sa,hs,rfl⟩
  have h8:=(Zbu (hr u (by simp))).2.2.2.2.2.2.2
  obtain⟨v,hv,sa',h1,h2⟩:=Zmy ht h8 fun x hx=>hr x (by simp[hx])
  exact⟨v,by simp[hv],sa',h1,h2⟩
theorem ruleE_lt {r:Rul}(h:Za8 r=0):(rLt r).size≤24:=by
 unfold Za8 at h
 split at h
 ·cases h
 rename_i h1
 have:=(Decidable.of_not_not h1).2
 unfold ZbR at this
 simp only[Bool.and_eq_true,decide_eq_true_eq] at this
 exact this.1
theorem ZeB {l:List Rul}{nm:ByteArray}{sh:Int}{t:Tim}(ht:t∈(ZaR l nm sh).1):(-2600000000≤t.1∧t.1≤4330172800)∧(0≤t.2.1∧t.2.1≤10800)∧t.2.2.size≤24:=by
 unfold ZaR at ht
 split at ht
 ·cases ht
 rename_i h1
 split at ht
 ·cases ht
 split at ht
 ·cases ht
 obtain⟨g1,g2,g3,_⟩:=ZdK (Decidable.of_not_not h1)
 have hm : ∀ u∈srtT (ZaU l nm),Za8 u.2=0 ∧ -2592000000≤u.1∧u.1≤4320172800:=fun u hu=>ZhG g2 ((ZhO _).mem_iff.1 hu)
 obtain⟨u,hu,sa',hs,rfl⟩:=Zmy ht om fun u hu=>(hm u hu).1
 obtain⟨hr,hb1,hb2⟩:=hm u hu
 have ho:=ZmD (r:=u.2) g3 hs
 obtain⟨_,_,_,_,_,_,_,h8⟩:=Zbu hr
 exact⟨⟨by show -2600000000≤u.1-offV u.2 sh sa';omega,by show u.1-offV u.2 sh sa'≤4330172800;omega⟩,h8,ruleE_lt hr⟩
theorem Zmx : ∀ {l:List Trn}{sh sa:Int},(-64800≤sh∧sh≤64800)→(0≤sa∧sa≤10800)→(∀ u∈l,Za8 u.2=0)→gapB l=false→(outV sh sa l).Pairwise fun a b=>a.1<b.1
 | [],_,_,_,_,_,_=>.nil
 | [u],_,_,_,_,_,_=>by simp[outV]
 | u::v::l,sh,sa,h1,h2,hr,hg=>by
  rw[ZeN,Bool.or_eq_false_iff] at hg
  have hu8:=(Zbu (hr u (by simp))).2.2.2.2.2.2.2
  have ih:=Zmx (l:=v::l) (sh:=sh) (sa:=rSv u.2) h1 hu8 (fun x hx=>hr x (by simp[hx])) hg.2
  rw[outV,List.pairwise_cons]
  refine⟨fun t ht=>?_,ih⟩
  have hgap:172800≤v.1-u.1:=by have:=hg.1;simp only[decide_eq_false_iff_not] at this;omega
  have hfirst:(timV sh sa u).1<(timV sh (rSv u.2) v).1:=by
   show u.1-offV u.2 sh sa<v.1-offV v.2 sh (rSv u.2)
   unfold offV
   split <;> split <;> (try split) <;> (try split) <;> omega
  rw[outV] at ht
  rcases List.mem_cons.1 ht with rfl | ht
  ·exact hfirst
  rw[outV,List.pairwise_cons] at ih
  have:=ih.1 t ht
  omega
theorem Zl2 {l:List Rul}{nm:ByteArray}{sh:Int}:(ZaR l nm sh).1.Pairwise fun a b=>a.1<b.1:=by
 unfold ZaR
 split
 ·exact .nil
 rename_i h1
 split
 ·exact .nil
 rename_i h2
 split
 ·exact .nil
 obtain⟨g1,g2,g3,_⟩:=ZdK (Decidable.of_not_not h1)
 exact Zmx g3 om (fun u hu=>(ZhG g2 ((ZhO _).mem_iff.1 hu)).1) (by simpa using h2)
def txtS:Bs:=[82,117,108,101,32,101,117,32,49,57,56,49,32,109,97,120,32,77,97,114,32,108,97,115,116,83,117,110,32,49,58,48,48,117,32,49,58,48,48,32,83,10,82,117,108,101,32,101,117,32,49,57,57,54,32,109,97,120,32,79,99,116,32,108,97,115,116,83,117,110,32,49,58,48,48,117,32,48,32,45,10,90,111,110,101,32,72,101,114,101,47,84,111,119,110,32,48,58,49,48,32,45,32,76,77,84,32,49,56,56,48,32,74,97,110,32,49,32,48,10,32,32,49,58,48,48,32,101,117,32,67,69,37,115,84,10,76,105,110,107,32,72,101,114,101,47,84,111,119,110,32,79,108,100,10]
def nEu:ByteArray:=bA [101,117]
def nHt:ByteArray:=bA [72,101,114,101,47,84,111,119,110]
def nOld:ByteArray:=bA [79,108,100]
def rul0:List Rul:=[(nEu,1981,2100,3,(2,0,0),3600,3,3600,bA [83]),(nEu,1996,2100,10,(2,0,0),3600,3,0,bA [])]
def era0:Era:=(600,bA [],0,bA [76,77,84],false,((1880,1,1),0,2))
def era1:Era:=(3600,nEu,0,bA [67,69,37,115,84],true,((0,0,0),0,0))
def src0:Src:=(rul0,[(nHt,[era0,era1])],[(nHt,nOld)])
theorem prs0:Zbg (bA txtS)=(src0,0,0):=by kernel_rfl
theorem Zl9:ZhX src0:=by
 refine⟨fun r hr=>?_,fun z hz=>?_,fun l hl=>?_⟩
 ·simp only[src0,rul0,List.mem_cons,List.not_mem_nil,or_false] at hr
  rcases hr with rfl | rfl <;> exact⟨by decide,by decide⟩
 ·simp only[src0,List.mem_cons,List.not_mem_nil,or_false] at hz
  subst hz
  refine⟨by decide,fun x hx=>?_⟩
  simp only[List.mem_cons,List.not_mem_nil,or_false] at hx
  rcases hx with rfl | rfl <;> exact⟨by decide,by decide⟩
 simp only[src0,List.mem_cons,List.not_mem_nil,or_false] at hl
 subst hl;exact⟨by decide,by decide⟩
theorem rp_txt {h:AH}:Ac 13 [sv (bA txtS)] h (.tup [.agg (srcC src0),iv 0,iv 0]):=by
 have:=rparse_a (s:=bA txtS) (h:=h)
 rw[prs0] at this
 exact this
theorem ZkA {h:AH}:Ac 6 [] h (.agg (srcC src0)):=by
 refine tI' k6 fun N hn hlt hlA hbd=>?_
 simp only[tb'] at hbd ⊢
 refine wr'<|E' (ZbZ (hl0 hn) ha0) pt<|sn'<|wr'<|Zak mp (rp_txt) pt<|mw<|Vw (ZbJ lk gt)<|Vw (ZbJ lk gt)<|Vw (ZbJ lk gt)<|E' (ZbZ (hl1 hn) ha1) pt<|E' (Zam lk cv gx rfl (nb' rfl) rfl Zhz (hs1 hn)) ptn<|?_
 exact mw<|mw<|sn'<|wr'<|Vw (ZaE lk gx Zhy rfl)<|E' (Zam lk cv gx rfl (nb' rfl) rfl Zhz (hs0 hn)) ptn<|sn'<|Zaa<|Zai (rs1 (rr_c gt gx (ld1 Zhy rfl)))<|rT' rfl
def insT (t:Trn):List Trn→List Trn
 | []=>[t]
 | u::l=>if t.1≤u.1 then t::u::l else u::insT t l
def insS:List Trn→List Trn
 | []=>[]
 | t::l=>insT t (insS l)
theorem Zgm (t:Trn) : ∀ l:List Trn,(insT t l).Perm (t::l)
 | []=>.refl _
 | u::l=>by
  rw[insT]
  split
  ·exact .refl _
  exact ((Zgm t l).cons u).trans (List.Perm.swap t u l)
theorem ZiZ : ∀ l:List Trn,(insS l).Perm l
 | []=>.refl _
 | t::l=>(Zgm t _).trans ((ZiZ l).cons t)
theorem ZkM {t:Trn} : ∀ {l:List Trn},l.Pairwise (fun a b=>a.1≤b.1)→(insT t l).Pairwise fun a b=>a.1≤b.1
 | [],_=>by simp[insT]
 | u::l,h=>by
  rw[insT]
  rw[List.pairwise_cons] at h
  split
  ·rename_i hle
   refine List.pairwise_cons.2 ⟨fun x hx=>?_,List.pairwise_cons.2 h⟩
   rcases List.mem_cons.1 hx with rfl | hx
   ·exact hle
   have:=h.1 x hx;omega
  rename_i hle
  refine List.pairwise_cons.2 ⟨fun x hx=>?_,ZkM h.2⟩
  rcases List.mem_cons.1 ((Zgm t l).mem_iff.1 hx) with rfl | hx
  ·omega
  exact h.1 x hx
theorem ZkN : ∀ l:List Trn,(insS l).Pairwise fun a b=>a.1≤b.1
 | []=>.nil
 | t::l=>ZkM (ZkN l)
def Zdz (l:List Rul) (nm:ByteArray) (sh:Int):List Tim×Int :=
 if ZcP l nm sh≠0 then ([],ZcP l nm sh) else if gapB (insS (ZaU l nm))=true then ([],4) else if 1000<(insS (ZaU l nm)).length then ([],2) else (outV sh 0 (insS (ZaU l nm)),0)
theorem Zl3 (l:List Rul) (nm:ByteArray) (sh:Int):ZaR l nm sh=Zdz l nm sh:=by
 unfold Zdz
 by_cases h:ZcP l nm sh=0
 ·rw[if_neg (by simp[h]),Zkn h (ZiZ _) (ZkN _)]
 rw[if_pos h,Ziy h]
theorem tim0_err:(Zdz rul0 nEu 3600).2=0:=by kernel_rfl
theorem Zkp:(Zdz rul0 nEu 3600).1.length=225:=by kernel_rfl
theorem tim0_15:(Zdz rul0 nEu 3600).1[15]?=some (828234000,3600,bA [83]):=by kernel_rfl
theorem tim0_us:(Zdz rul0 (bA [117,115]) 3600)=([],5):=by kernel_rfl
theorem rtimes0 {h:AH}:Ac 5 [.sl 2 11 false (rows rulC rul0),sv nEu,iv 3600] h (.tup [.sl (Zdz rul0 nEu 3600).1.length 3 false (rows timC (Zdz rul0 nEu 3600).1),iv (Zdz rul0 nEu 3600).2]):=by
 have:=ZhJ (l:=rul0) (nm:=nEu) (sh:=3600) (h:=h) (ZmC Zl9) (by decide)
 rwa [Zl3] at this
theorem rtimes1 {h:AH}:Ac 5 [.sl 2 11 false (rows rulC rul0),sv (bA [117,115]),iv 3600] h (.tup [.sl ([]:List Tim).length 3 false (rows timC []),iv 5]):=by
 have:=ZhJ (l:=rul0) (nm:=bA [117,115]) (sh:=3600) (h:=h) (ZmC Zl9) (by decide)
 rwa [Zl3,tim0_us] at this
theorem tim0_l15 : ∃ h:15<(Zdz rul0 nEu 3600).1.length,(Zdz rul0 nEu 3600).1[15]=(828234000,3600,bA [83]):=by
 have h:15<(Zdz rul0 nEu 3600).1.length:=by rw[Zkp];decide
 exact⟨h,by have:=tim0_15;rw[List.getElem?_eq_getElem h] at this;exact Option.some.inj this⟩
theorem rbegun_a {h:AH}:Ac 4 [] h (bv true):=by
 obtain⟨hl15,h15⟩:=tim0_l15
 refine tI' k4 fun N hn hlt hlA hbd=>?_
 simp only[tb'] at hbd ⊢
 refine wr'<|mw<|sn'<|wr'<|Zak mp0 (ZkA) pt<|Vw (v_fld lk gt)<|Zak mp (rtimes0) pt<|mw<|Vw (ZbJ lk gt)<|Vw (ZbJ lk gt)<|mw<|?_
 refine mw<|sn'<|wr'<|Zak mp0 (ZkA) pt<|Vw (v_fld lk gt)<|Zak mp (rtimes1) pt<|mw<|Vw (ZbJ lk gt)<|Vw (ZbJ lk gt)<|mw<|mw<|Zaq<|?_
 refine Zah<|wr'<|mw<|Vw (ZaS lk lki)<|mw<|?_
 refine ZjC (t:=19) gt (b:=true) (by exact decide_eq_true tim0_err) pt ?_
 refine s_do gt<|mw<|s_do gt<|Vw (ZaS lk lki)<|Vw (Zag lk lk)<|mw<|?_
 refine ZjC (t:=23) gt (b:=true) (by rfl) pt ?_
 refine s_do gt<|mw<|s_do gt<|Vw (Za6 lk)<|s_do gt<|Vw (ZaS lk lki)<|Vw (Zag lk lk)<|mw<|?_
 refine ZjC (t:=28) gt (b:=true) (by exact decide_eq_true (by rw[Zkp];rfl)) pt ?_
 refine s_do gt<|mw<|s_do gt<|?_
 refine V' (ZaY (k:=15) lk lki ZbG (nb' rfl) ro om ro rfl) pt ?_
 refine s_do gt<|Vw (Zd1 lk Znu rfl)<|s_do gt<|Vw (Zax (Zfr (cvl lki rfl) rfl (cvl lki rfl) rfl (cvl lks rfl) rfl))<|s_do gt<|Vw (v_eqsT lk lk Zka)<|Vw (Zag lk lk)<|mw<|sn'<|Zaa<|Zai rz<|rT'<|?_
 exact bvx (by rw[h15];rfl)
end Go.Proofs.Yticajimgfndceaa
end
section
namespace Go.Proofs.Yticajimgfndceaa.ruleRises
open Go.Ab Go.RowKit Civ
attribute [local simp] ZbU Zko
def c3:AC:=(Sr [Mb 8 false] (.seq (Sr [Cl 15 4 [],Oo 16 (.un .not (.tmp 15))] (Cd 16 (Sr [Mb 8 false] .ret) .skip)) (Sr [Mv 18 0,Mv 19 1,Mv 20 2,Cl 21 5 [(.tmp 18),(.tmp 19),(.tmp 20)],Mv 17 21,Ex 22 17 0,Ex 23 17 1,Mv 9 22,Mv 10 23] (.seq (Sr [Mv 24 10,Bc 25 .neq 24 0] (Cd 25 (Sr [Mv 26 9,Oo 27 (.len false (.tmp 26)),Bc 28 .eql 27 0,Mv 8 28] .ret) .skip)) (Sr [Mc 11 0] (.seq (Sr [Mc 12 0] (.block 0 (.loop (.seq (Sr [Mv 29 12,Mv 30 0,Oo 31 (.len false (.tmp 30)),Bn 32 .lss 29 31] (Cd 32 .skip (.exit 0))) (.seq (.block 1 (Sr [Mv 35 0,Mv 36 12,Oo 37 (.ia 11 (.tmp 35) (.tmp 36)),Fa 38 0 37,Ld 39 38,Mv 40 1,Bn 41 .eql 39 40] (Cd 41 (.drw [Mv 42 11,Mv 43 0,Mv 44 12,Oo 45 (.ia 11 (.tmp 43) (.tmp 44)),Fa 46 2 45,Ld 47 46,Mv 48 0,Mv 49 12,Oo 50 (.ia 11 (.tmp 48) (.tmp 49)),Fa 51 1 50,Ld 52 51,Bn 53 .sub 47 52,Bc 54 .add 53 1,Bn 55 .add 42 54,Mv 11 55] [] []) .skip))) (.reg [Mv 33 12,Bc 34 .add 33 1,Mv 12 34])))))) (.seq (Sr [Mv 56 9,Oo 57 (.len false (.tmp 56)),Mv 58 11,Bn 59 .neq 57 58] (Cd 59 (Sr [Mb 8 false] .ret) .skip)) (Sr [Mv 61 0,Mv 62 1,Mv 63 3,Cl 64 5 [(.tmp 61),(.tmp 62),(.tmp 63)],Mv 60 64,Ex 65 60 0,Ex 66 60 1,Mv 13 65,Mv 10 66] (.seq (Sr [Mv 67 10,Bc 68 .eql 67 0,Mv 69 68,Ot 70 69 (mt 13),Ot 71 69 (.len false (.tmp 70)),Ot 72 69 (mt 9),Ot 73 69 (.len false (.tmp 72)),Ot 74 69 (.bin .neq (.tmp 71) (.tmp 73)),Oo 75 (.pick (.tmp 69) (.tmp 74) (.const (.bool false)))] (Cd 75 (Sr [Mb 8 false] .ret) .skip)) (.seq (Sr [Mc 14 0] (.block 2 (.loop (.seq (Sr [Mv 76 14,Mv 77 9,Oo 78 (.len false (.tmp 77)),Bn 79 .lss 76 78] (Cd 79 .skip (.exit 2))) (.seq (.block 3 (.seq (Sd [Mv 82 14,Bc 83 .gtr 82 0,Mv 84 83,Ot 85 84 (mt 9),Ot 86 84 (mt 14),Ot 87 84 (.ia 3 (.tmp 85) (.tmp 86)),Ot 88 84 (.fa 0 (.tmp 87)),Ot 89 84 (.load false 1 (.tmp 88)),Ot 90 84 (mt 9),Ot 91 84 (mt 14),Ot 92 84 (.bin .sub (.tmp 91) (Ci 1)),Ot 93 84 (.ia 3 (.tmp 90) (.tmp 92)),Ot 94 84 (.fa 0 (.tmp 93)),Ot 95 84 (.load false 1 (.tmp 94)),Ot 96 84 (.bin .leq (.tmp 89) (.tmp 95)),Oo 97 (.pick (.tmp 84) (.tmp 96) (.const (.bool false)))] (Cd 97 (Sr [Mb 8 false] .ret) .skip)) (Sd [Mv 98 10,Bc 99 .eql 98 0,Mv 100 99,Ot 101 100 (mt 3),Ot 102 100 (mt 2),Ot 103 100 (.bin .geq (.tmp 101) (.tmp 102)),Oo 104 (.pick (.tmp 100) (.tmp 103) (.const (.bool false))),Mv 105 104,Ot 106 105 (mt 13),Ot 107 105 (mt 14),Ot 108 105 (.ia 3 (.tmp 106) (.tmp 107)),Ot 109 105 (.fa 0 (.tmp 108)),Ot 110 105 (.load false 1 (.tmp 109)),Ot 111 105 (mt 9),Ot 112 105 (mt 14),Ot 113 105 (.ia 3 (.tmp 111) (.tmp 112)),Ot 114 105 (.fa 0 (.tmp 113)),Ot 115 105 (.load false 1 (.tmp 114)),Ot 116 105 (.bin .gtr (.tmp 110) (.tmp 115)),Ot 117 105 (mt 116),Of 118 117 (mt 9),Of 119 117 (mt 14),Of 120 117 (.ia 3 (.tmp 118) (.tmp 119)),Of 121 117 (.fa 0 (.tmp 120)),Of 122 117 (.load false 1 (.tmp 121)),Of 123 117 (mt 13),Of 124 117 (mt 14),Of 125 117 (.ia 3 (.tmp 123) (.tmp 124)),Of 126 117 (.fa 0 (.tmp 125)),Of 127 117 (.load false 1 (.tmp 126)),Of 128 117 (.bin .sub (.tmp 122) (.tmp 127)),Of 129 117 (mt 3),Of 130 117 (mt 2),Of 131 117 (.bin .sub (.tmp 129) (.tmp 130)),Of 132 117 (.bin .gtr (.tmp 128) (.tmp 131)),Ot 133 105 (.pick (.tmp 117) (.const (.bool true)) (.tmp 132)),Oo 134 (.pick (.tmp 105) (.tmp 133) (.const (.bool false)))] (Cd 134 (Sr [Mb 8 false] .ret) .skip)))) (.reg [Mv 80 14,Bc 81 .add 80 1,Mv 14 81])))))) (Sr [Mb 8 true] .ret)))))))))))
theorem k3:ZaO Try.prog 3=some ⟨c3,[(.tmp 8)],135⟩:=by kernel_rfl
theorem ZgV {l:List Rul}{nm:ByteArray}{sh:Int}{i:Nat}(h:i<(ZaR l nm sh).1.length) (h0:0<i):((ZaR l nm sh).1[i-1]'(by omega)).1<((ZaR l nm sh).1[i]).1 :=
 List.pairwise_iff_getElem.1 Zl2 (i-1) i om h om
theorem walk0 {l:List Rul}{nm:ByteArray}{sh more:Int}{h:AH}(hok:okRs l):Ac 3 [.sl l.length 11 false (rows rulC l),sv nm,iv sh,iv more] h (bv true):=by
 refine tI' k3 fun N hn hlt hlA hbd=>?_
 simp only[tb'] at hbd ⊢
 refine wr'<|mw<|sn'<|Zan<|wr'<|Zak mp0 (rbegun_a) pt<|Vw (Zav lk)<|sn'<|ZaG lk<|Zaf<|?_
 refine Zah<|wr'<|mw<|mw<|mw<|Zak mp (ZhJ hok hbd.1) pt<|mw<|Vw (ZbJ lk gt)<|Vw (ZbJ lk gt)<|mw<|mw<|sn'<|?_
 refine Zan<|wr'<|mw<|Vw (Za1 lk lki)<|sn'<|?_
 refine cd' lk (fun hc2=>?_) (fun hc2=>?_)
 ·have hb:=Zk5 hc2
  refine wr'<|mw<|Vw (Za6 lk)<|Vw (ZaS lk lki)<|mw<|sn'<|Zaa<|Zal<|Zai rz<|rT'<|?_
  refine bvx ?_;rw[hb];rfl
 have h1:(ZaR l nm sh).2=0:=Decidable.of_not_not hc2
 obtain⟨g1,g2,g3,_⟩:=ZdF h1
 have hL:=Zix h1
 refine Zaf<|Zah<|wr'<|mw<|sn'<|Zan<|wr'<|mw<|sn'<|Zao<|?_
 refine w_lp (ι:=Nat) (fun (i:Nat)=>[(11,iv (cntR nm (l.take i))),(12,iv (i:Int))]++rn' 29 27) (fun (i:Nat)=>[]) (fun (i:Nat)=>i≤l.length) (fun (i:Nat)=>l.length-i) (0) (by exact Nat.zero_le _) ?_
 rintro i hi1
 try simp only[sm',Nat.reduceAdd]
 replace hi1:i≤l.length:=hi1
 have hcb:=Zna (nm:=nm) (l:=l.take i) fun r hr=>g2 r (List.mem_of_mem_take hr)
 rw[List.length_take] at hcb
 refine Zan<|wr'<|mw<|mw<|Vw (Za6 lk)<|Vw (ZbP lk lk)<|sn'<|?_
 refine cd' lk (fun hc3=>?_) (fun hc3=>?_)
 ·have hi:i<l.length:=by omega
  have hst:=Zi9 nm (l.take i) l[i]
  rw[←List.take_succ_eq_append_getElem hi] at hst
  obtain⟨a1,a2,a3,_⟩:=Zbu (g2 _ (List.getElem_mem hi))
  simp only[rFr,rTo] at a1 a2 a3 hst
  refine Zaf<|Zah<|Zan<|Zao<|wr'<|mw<|mw<|?_
  refine V' (ZaY lk lk ZcZ (nb' rfl) ro om ro rfl) pt ?_
  refine Vw (Zbf lk dp0)<|Vw (ZaA lk gt)<|mw<|Vw (ZcW lk lk)<|sn'<|?_
  refine cd' lk (fun hc4=>?_) (fun hc4=>?_)
  ·rw[if_pos hc4] at hst
   refine Zcg<|Dw (v_mv lk)<|Dw (v_mv lk)<|Dw (v_mv lk)<|?_
   refine D' (ZaY lk lk ZcZ (nb' rfl) ro om ro rfl) pt ?_
   refine Dw (Zbf lk dp2)<|Dw (ZaA lk gt)<|Dw (v_mv lk)<|Dw (v_mv lk)<|?_
   refine D' (ZaY lk lk ZcZ (nb' rfl) ro om ro rfl) pt ?_
   refine Dw (Zbf lk dp1)<|Dw (ZaA lk gt)<|?_
   refine D' (Zbi lk lk om om) pt ?_
   refine D' (Zau lk lki om om) pt ?_
   refine D' (Zau lk lk om om) pt ?_
   refine Dw (v_mv lk)<|ZbB<|?_
   refine ZbS ?_
   refine Zaq<|ZaC<|Zah<|Zar<|mw<|?_
   refine V' (Zau lk lki om om) pt ?_
   refine mw<|Zaq<|ZaB<|?_
   refine lT' (i+1) (by (try dsimp only);omega)
  rw[if_neg hc4] at hst
  refine Zaf<|ZaC<|Zah<|Zar<|mw<|?_
  refine V' (Zau lk lki om om) pt ?_
  refine mw<|Zaq<|ZaB<|?_
  refine lT' (i+1) (by (try dsimp only);omega)
 rw[List.take_of_length_le (show l.length≤i by omega)] at *
 refine ZaX<|ZaN<|ZaN<|Zbq<|Zah<|Zan<|wr'<|mw<|Vw (Za6 lk)<|mw<|Vw (Za1 lk lk)<|sn'<|?_
 refine Zb1 lk (by exact decide_eq_false om) ?_
 refine Zaf<|Zah<|wr'<|mw<|mw<|mw<|Zak mp (ZhJ hok hbd.1) pt<|mw<|Vw (ZbJ lk gt)<|Vw (ZbJ lk gt)<|mw<|mw<|Zaq<|?_
 refine Zah<|Zan<|wr'<|mw<|Vw (ZaS lk lki)<|mw<|?_
 refine sp' (t:=69) gt pt pt (fun hg69=>?_) (fun hg69=>?_)
 ·have h2:(ZaR l nm more).2=0:=hg69
  have hL2:=Zix h2
  obtain⟨_,_,g4,_⟩:=ZdF h2
  refine s_do gt<|mw<|s_do gt<|Vw (Za6 lk)<|s_do gt<|mw<|s_do gt<|Vw (Za6 lk)<|s_do gt<|Vw (Za1 lk lk)<|Vw (Zag lk lk)<|sn'<|?_
  refine Zb1 lk (by exact decide_eq_false om) ?_
  refine Zaf<|Zah<|Zan<|wr'<|mw<|sn'<|Zao<|?_
  refine w_lp (ι:=Nat) (fun (i:Nat)=>[(14,iv (i:Int)),(8,.any)]++rn' 76 59) (fun (i:Nat)=>[]) (fun (i:Nat)=>i≤(ZaR l nm sh).1.length) (fun (i:Nat)=>(ZaR l nm sh).1.length-i) (0) (by exact Nat.zero_le _) ?_
  rintro i hi2
  try simp only[sm',Nat.reduceAdd]
  replace hi2:i≤(ZaR l nm sh).1.length:=hi2
  refine Zan<|wr'<|mw<|mw<|Vw (Za6 lk)<|Vw (ZbP lk lk)<|sn'<|?_
  refine cd' lk (fun hc7=>?_) (fun hc7=>?_)
  ·have hi:i<(ZaR l nm sh).1.length:=by omega
   refine Zaf<|Zah<|Zan<|Zao<|Zan<|Zan<|Zcg<|Dw (v_mv lk)<|Dw (ZbI lk lki)<|Dw (v_mv lk)<|?_
   refine dq' (t:=84) gt pt pt (fun hg84=>?_) (fun hg84=>?_)
   ·have hlt1:=ZgV hi om
    refine d_do gt<|Dw (v_mv lk)<|d_do gt<|Dw (v_mv lk)<|d_do gt<|?_
    refine D' (ZaY lk lk ZbG (nb' rfl) ro om ro rfl) pt ?_
    refine d_do gt<|Dw (Zbf lk dp0)<|d_do gt<|Dw (ZaA lk gt)<|d_do gt<|Dw (v_mv lk)<|d_do gt<|Dw (v_mv lk)<|d_do gt<|?_
    refine D' (Zbi lk lki om om) pt ?_
    refine d_do gt ?_
    refine D' (ZaY (k:=i-1) lk lk ZbG (nb' rfl) ro om ro rfl) pt ?_
    refine d_do gt<|Dw (Zbf lk dp0)<|d_do gt<|Dw (ZaA lk gt)<|d_do gt<|Dw (Zc5 lk lk)<|Dw (Zag lk lk)<|ZbB<|?_
    refine ZbS ?_
    refine sn' ?_
    refine Zb1 lk (by exact decide_eq_false om) ?_
    refine Zaf<|Zah<|Zan<|Zcg<|Dw (v_mv lk)<|Dw (ZaS lk lki)<|Dw (v_mv lk)<|?_
    refine Zfm (t:=100) gt (b:=true) (by exact decide_eq_true h2) pt ?_
    refine d_do gt<|Dw (v_mv lk)<|d_do gt<|Dw (v_mv lk)<|d_do gt<|Dw (Ze8 lk lk)<|Dw (Zag lk lk)<|Dw (v_mv lk)<|?_
    refine dq' (t:=105) gt pt pt (fun hg105=>?_) (fun hg105=>?_)
    ·have hi2':i<(ZaR l nm more).1.length:=by omega
     have hR:=Zkw h1 h2 om hi hi2'
     have hm1:=(ZeB (List.getElem_mem hi)).1
     have hm2:=(ZeB (List.getElem_mem hi2')).1
     refine d_do gt<|Dw (v_mv lk)<|d_do gt<|Dw (v_mv lk)<|d_do gt<|?_
     refine D' (ZaY lk lk ZbG (nb' rfl) ro om ro rfl) pt ?_
     refine d_do gt<|Dw (Zbf lk dp0)<|d_do gt<|Dw (ZaA lk gt)<|d_do gt<|Dw (v_mv lk)<|d_do gt<|Dw (v_mv lk)<|d_do gt<|?_
     refine D' (ZaY lk lk ZbG (nb' rfl) ro om ro rfl) pt ?_
     refine d_do gt<|Dw (Zbf lk dp0)<|d_do gt<|Dw (ZaA lk gt)<|d_do gt<|Dw (ZbI lk lk)<|d_do gt<|Dw (v_mv lk)<|?_
     refine Zfm (t:=117) gt (b:=false) (by exact decide_eq_false om) pt ?_
     refine d_do gt<|Dw (v_mv lk)<|d_do gt<|Dw (v_mv lk)<|d_do gt<|?_
     refine D' (ZaY lk lk ZbG (nb' rfl) ro om ro rfl) pt ?_
     refine d_do gt<|Dw (Zbf lk dp0)<|d_do gt<|Dw (ZaA lk gt)<|d_do gt<|Dw (v_mv lk)<|d_do gt<|Dw (v_mv lk)<|d_do gt<|?_
     refine D' (ZaY lk lk ZbG (nb' rfl) ro om ro rfl) pt ?_
     refine d_do gt<|Dw (Zbf lk dp0)<|d_do gt<|Dw (ZaA lk gt)<|d_do gt<|?_
     refine D' (Zbi lk lk om om) pt ?_
     refine d_do gt<|Dw (v_mv lk)<|d_do gt<|Dw (v_mv lk)<|d_do gt<|?_
     refine D' (Zbi lk lk om om) pt ?_
     refine d_do gt<|Dw (ZbI lk lk)<|d_do gt<|Dw (Zab lk lk)<|Dw (Zag lk lk)<|ZbB<|?_
     refine ZbS ?_
     refine sn' ?_
     refine Zb1 lk (by exact decide_eq_false om) ?_
     refine Zaf<|ZaC<|Zah<|Zar<|mw<|?_
     refine V' (Zau lk lki om om) pt ?_
     refine mw<|Zaq<|ZaB<|?_
     refine lT' (i+1) (by (try dsimp only);omega)
    refine d_no gt pt<|d_no gt pt<|d_no gt pt<|d_no gt pt<|d_no gt pt<|d_no gt pt<|d_no gt pt<|d_no gt pt<|d_no gt pt<|d_no gt pt<|d_no gt pt<|d_no gt pt<|d_nu gt pt<|d_nu gt pt<|?_
    refine d_nu gt pt<|d_nu gt pt<|d_nu gt pt<|d_nu gt pt<|d_nu gt pt<|d_nu gt pt<|d_nu gt pt<|d_nu gt pt<|d_nu gt pt<|d_nu gt pt<|d_nu gt pt<|d_nu gt pt<|d_nu gt pt<|d_no gt pt<|?_
    refine Dw (Zab lk lkb)<|ZbB<|?_
    refine ZbS ?_
    refine sn'<|ZaG lk<|Zaf<|ZaC<|Zah<|Zar<|mw<|?_
    refine V' (Zau lk lki om om) pt ?_
    refine mw<|Zaq<|ZaB<|?_
    refine lT' (i+1) (by (try dsimp only);omega)
   refine d_no gt pt<|d_no gt pt<|d_no gt pt<|d_no gt pt<|d_no gt pt<|d_no gt pt<|d_no gt pt<|d_no gt pt<|d_no gt pt<|d_no gt pt<|d_no gt pt<|d_no gt pt<|Dw (Zab lk lkb)<|ZbB<|?_
   refine ZbS ?_
   refine sn'<|ZaG lk<|Zaf<|Zah<|Zan<|Zcg<|Dw (v_mv lk)<|Dw (ZaS lk lki)<|Dw (v_mv lk)<|?_
   refine Zfm (t:=100) gt (b:=true) (by exact decide_eq_true h2) pt ?_
   refine d_do gt<|Dw (v_mv lk)<|d_do gt<|Dw (v_mv lk)<|d_do gt<|Dw (Ze8 lk lk)<|Dw (Zag lk lk)<|Dw (v_mv lk)<|?_
   refine dq' (t:=105) gt pt pt (fun hg105=>?_) (fun hg105=>?_)
   ·have hi2':i<(ZaR l nm more).1.length:=by omega
    have hR:=Zkw h1 h2 om hi hi2'
    have hm1:=(ZeB (List.getElem_mem hi)).1
    have hm2:=(ZeB (List.getElem_mem hi2')).1
    refine d_do gt<|Dw (v_mv lk)<|d_do gt<|Dw (v_mv lk)<|d_do gt<|?_
    refine D' (ZaY lk lk ZbG (nb' rfl) ro om ro rfl) pt ?_
    refine d_do gt<|Dw (Zbf lk dp0)<|d_do gt<|Dw (ZaA lk gt)<|d_do gt<|Dw (v_mv lk)<|d_do gt<|Dw (v_mv lk)<|d_do gt<|?_
    refine D' (ZaY lk lk ZbG (nb' rfl) ro om ro rfl) pt ?_
    refine d_do gt<|Dw (Zbf lk dp0)<|d_do gt<|Dw (ZaA lk gt)<|d_do gt<|Dw (ZbI lk lk)<|d_do gt<|Dw (v_mv lk)<|?_
    refine Zfm (t:=117) gt (b:=false) (by exact decide_eq_false om) pt ?_
    refine d_do gt<|Dw (v_mv lk)<|d_do gt<|Dw (v_mv lk)<|d_do gt<|?_
    refine D' (ZaY lk lk ZbG (nb' rfl) ro om ro rfl) pt ?_
    refine d_do gt<|Dw (Zbf lk dp0)<|d_do gt<|Dw (ZaA lk gt)<|d_do gt<|Dw (v_mv lk)<|d_do gt<|Dw (v_mv lk)<|d_do gt<|?_
    refine D' (ZaY lk lk ZbG (nb' rfl) ro om ro rfl) pt ?_
    refine d_do gt<|Dw (Zbf lk dp0)<|d_do gt<|Dw (ZaA lk gt)<|d_do gt<|?_
    refine D' (Zbi lk lk om om) pt ?_
    refine d_do gt<|Dw (v_mv lk)<|d_do gt<|Dw (v_mv lk)<|d_do gt<|?_
    refine D' (Zbi lk lk om om) pt ?_
    refine d_do gt<|Dw (ZbI lk lk)<|d_do gt<|Dw (Zab lk lk)<|Dw (Zag lk lk)<|ZbB<|?_
    refine ZbS ?_
    refine sn' ?_
    refine Zb1 lk (by exact decide_eq_false om) ?_
    refine Zaf<|ZaC<|Zah<|Zar<|mw<|?_
    refine V' (Zau lk lki om om) pt ?_
    refine mw<|Zaq<|ZaB<|?_
    refine lT' (i+1) (by (try dsimp only);omega)
   refine d_no gt pt<|d_no gt pt<|d_no gt pt<|d_no gt pt<|d_no gt pt<|d_no gt pt<|d_no gt pt<|d_no gt pt<|d_no gt pt<|d_no gt pt<|d_no gt pt<|d_no gt pt<|d_nu gt pt<|d_nu gt pt<|?_
   refine d_nu gt pt<|d_nu gt pt<|d_nu gt pt<|d_nu gt pt<|d_nu gt pt<|d_nu gt pt<|d_nu gt pt<|d_nu gt pt<|d_nu gt pt<|d_nu gt pt<|d_nu gt pt<|d_nu gt pt<|d_nu gt pt<|d_no gt pt<|?_
   refine Dw (Zab lk lkb)<|ZbB<|?_
   refine ZbS ?_
   refine sn'<|ZaG lk<|Zaf<|ZaC<|Zah<|Zar<|mw<|?_
   refine V' (Zau lk lki om om) pt ?_
   refine mw<|Zaq<|ZaB<|?_
   refine lT' (i+1) (by (try dsimp only);omega)
  exact ZaX<|ZaN<|ZaN<|Zbq<|Zah<|wr'<|mw<|sn'<|Zaa<|Zai rz<|rT' rfl
 refine s_no gt pt<|s_no gt pt<|s_no gt pt<|s_no gt pt<|s_no gt pt<|Vw (Zab lk lkb)<|sn'<|ZaG lk<|Zaf<|Zah<|Zan<|wr'<|?_
 refine mw<|sn'<|Zao<|?_
 refine w_lp (ι:=Nat) (fun (i:Nat)=>[(14,iv (i:Int)),(8,.any)]++rn' 76 59) (fun (i:Nat)=>[]) (fun (i:Nat)=>i≤(ZaR l nm sh).1.length) (fun (i:Nat)=>(ZaR l nm sh).1.length-i) (0) (by exact Nat.zero_le _) ?_
 rintro i hi2
 try simp only[sm',Nat.reduceAdd]
 replace hi2:i≤(ZaR l nm sh).1.length:=hi2
 refine Zan<|wr'<|mw<|mw<|Vw (Za6 lk)<|Vw (ZbP lk lk)<|sn'<|?_
 refine cd' lk (fun hc7=>?_) (fun hc7=>?_)
 ·have hi:i<(ZaR l nm sh).1.length:=by omega
  refine Zaf<|Zah<|Zan<|Zao<|Zan<|Zan<|Zcg<|Dw (v_mv lk)<|Dw (ZbI lk lki)<|Dw (v_mv lk)<|?_
  refine dq' (t:=84) gt pt pt (fun hg84=>?_) (fun hg84=>?_)
  ·have hlt1:=ZgV hi om
   refine d_do gt<|Dw (v_mv lk)<|d_do gt<|Dw (v_mv lk)<|d_do gt<|?_
   refine D' (ZaY lk lk ZbG (nb' rfl) ro om ro rfl) pt ?_
   refine d_do gt<|Dw (Zbf lk dp0)<|d_do gt<|Dw (ZaA lk gt)<|d_do gt<|Dw (v_mv lk)<|d_do gt<|Dw (v_mv lk)<|d_do gt<|?_
   refine D' (Zbi lk lki om om) pt ?_
   refine d_do gt ?_
   refine D' (ZaY (k:=i-1) lk lk ZbG (nb' rfl) ro om ro rfl) pt ?_
   refine d_do gt<|Dw (Zbf lk dp0)<|d_do gt<|Dw (ZaA lk gt)<|d_do gt<|Dw (Zc5 lk lk)<|Dw (Zag lk lk)<|ZbB<|?_
   refine ZbS ?_
   refine sn' ?_
   refine Zb1 lk (by exact decide_eq_false om) ?_
   refine Zaf<|Zah<|Zan<|Zcg<|Dw (v_mv lk)<|Dw (ZaS lk lki)<|Dw (v_mv lk)<|?_
   refine Zfm (t:=100) gt (b:=false) (by exact decide_eq_false hg69) pt ?_
   refine d_no gt pt<|d_no gt pt<|d_no gt pt<|Dw (Zab lk lkb)<|Dw (v_mv lk)<|d_no gt pt<|d_no gt pt<|d_no gt pt<|d_no gt pt<|d_no gt pt<|d_no gt pt<|d_no gt pt<|d_no gt pt<|d_no gt pt<|?_
   refine d_no gt pt<|d_no gt pt<|d_no gt pt<|d_nu gt pt<|d_nu gt pt<|d_nu gt pt<|d_nu gt pt<|d_nu gt pt<|d_nu gt pt<|d_nu gt pt<|d_nu gt pt<|d_nu gt pt<|d_nu gt pt<|d_nu gt pt<|?_
   refine d_nu gt pt<|d_nu gt pt<|d_nu gt pt<|d_nu gt pt<|d_no gt pt<|Dw (Zab lk lkb)<|ZbB<|?_
   refine ZbS ?_
   refine sn'<|ZaG lk<|Zaf<|ZaC<|Zah<|Zar<|mw<|?_
   refine V' (Zau lk lki om om) pt ?_
   refine mw<|Zaq<|ZaB<|?_
   refine lT' (i+1) (by (try dsimp only);omega)
  refine d_no gt pt<|d_no gt pt<|d_no gt pt<|d_no gt pt<|d_no gt pt<|d_no gt pt<|d_no gt pt<|d_no gt pt<|d_no gt pt<|d_no gt pt<|d_no gt pt<|d_no gt pt<|Dw (Zab lk lkb)<|ZbB<|?_
  refine ZbS ?_
  refine sn'<|ZaG lk<|Zaf<|Zah<|Zan<|Zcg<|Dw (v_mv lk)<|Dw (ZaS lk lki)<|Dw (v_mv lk)<|?_
  refine Zfm (t:=100) gt (b:=false) (by exact decide_eq_false hg69) pt ?_
  refine d_no gt pt<|d_no gt pt<|d_no gt pt<|Dw (Zab lk lkb)<|Dw (v_mv lk)<|d_no gt pt<|d_no gt pt<|d_no gt pt<|d_no gt pt<|d_no gt pt<|d_no gt pt<|d_no gt pt<|d_no gt pt<|d_no gt pt<|?_
  refine d_no gt pt<|d_no gt pt<|d_no gt pt<|d_nu gt pt<|d_nu gt pt<|d_nu gt pt<|d_nu gt pt<|d_nu gt pt<|d_nu gt pt<|d_nu gt pt<|d_nu gt pt<|d_nu gt pt<|d_nu gt pt<|d_nu gt pt<|?_
  refine d_nu gt pt<|d_nu gt pt<|d_nu gt pt<|d_nu gt pt<|d_no gt pt<|Dw (Zab lk lkb)<|ZbB<|?_
  refine ZbS ?_
  refine sn'<|ZaG lk<|Zaf<|ZaC<|Zah<|Zar<|mw<|?_
  refine V' (Zau lk lki om om) pt ?_
  refine mw<|Zaq<|ZaB<|?_
  refine lT' (i+1) (by (try dsimp only);omega)
 exact ZaX<|ZaN<|ZaN<|Zbq<|Zah<|wr'<|mw<|sn'<|Zaa<|Zai rz<|rT' rfl
end Go.Proofs.Yticajimgfndceaa.ruleRises
end
