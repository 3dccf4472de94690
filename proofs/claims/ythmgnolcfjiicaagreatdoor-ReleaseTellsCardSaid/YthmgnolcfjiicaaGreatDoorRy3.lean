/-
  Part 3 of the proof: own lemmas and contracts on plain data. No condition beyond those that each lemma states.
-/
import Derived.Test.YthmgnolcfjiicaaGreatDoorRy2
import Derived.Shelf.SlSortCmp.WholeK
import Derived.Lib.ReplaceLaws
import Derived.Sort.OwnSorted
import Derived.Lib.RowBridge
import Derived.Sort.Walk0
import Derived.Lib.Strings
set_option linter.all false
set_option maxRecDepth 1000000
set_option maxHeartbeats 4000000
namespace Go.Proofs.YthmgnolcfjiicaaGreatDoor
open Go.Ab
variable {h:AH}
section
open Go.Ab Civ
attribute [local simp] ZbR ZmX Zd4
def ready_a {l:List Rul}{nm:ByteArray}{sh:Int}(hok:okRs l) (hl:l.length<=9223372036854775807):Ac 183 [.sl l.length 11 false (rows rulC l),sv nm,iv sh] h (iv (Zdz l nm sh)):=by
 have hll:=hl
 refine tI' k183 λN hn hlt _ hbd=>?_
 simp only[tb'] at hbd ⊢
 refine wr'<|E' (ZaM cv rfl hl0 ha0) pt<|mw<|Zam<|?_
 refine ZaN (ALe.icePtr gx gt4 (by simp) pt4 hs0) ?_
 refine Zab<|wm<|Vw (Zaz lk)<|Vw (Zbr lk lki)<|sn'<|?_
 refine cd' lk (λhc1=>?_) (λhc1=>?_)
 .have hR:Zdz l nm sh=2:=if_pos om
  refine wo<|Zah<|Zae rz<|rT'<|?_
  rw[hR]
 have hR:Zdz l nm sh=if Zbk Zbv l≠0 then Zbk Zbv l else if sh < -64800\/sh>64800 then 3 else if l.any (λr=>decide (r.1=nm))=false then 5 else 0:=if_neg om
 refine za<|Zab<|wm<|Vw (Zaz lk)<|ms<|Zag<|?_
 refine w_lp (ι:=Nat) (λ(k:Nat)=>[(15,iv (k:Int)),(6,.any),(8,.any),(9,.any)]++rn' 16 9) (λ(k:Nat)=>[]) (λ(k:Nat)=>k<=l.length/\Zbk Zbv l=Zbk Zbv (l.drop k)) (λ(k:Nat)=>l.length-k) (0) (by exact⟨Nat.zero_le _,rfl⟩) ?_
 rintro k hi1
 try simp only[sm',Nat.reduceAdd]
 obtain⟨hk1,hk2⟩:=hi1
 refine wr'<|Vw (ZaJ lk lk)<|sn'<|Zab<|?_
 refine cd' lk (λhc2=>?_) (λhc2=>?_)
 .have hk:k<l.length:=by omega
  have ho:=hok _ (List.getElem_mem hk)
  rw[ZdY hk] at hk2
  refine za<|Zab<|Zag<|wr'<|?_
  refine V' (ZaE lk lk ZcE nb ro om ro rfl) pt ?_
  refine Vw (Zar lk Zlz rfl)<|E' (ZaR hl1 ha1) pt<|E' (Zai lk cv gx rfl nb rfl Zj1 hs1) ptn<|sn'<|wr'<|Vw (Zad lk gx Zj0 rfl)<|Zac mp (rule_b ho.1 ho.2) pt<|ms<|wr'<|?_
  refine mw<|Vw (ZaY lk lki)<|sn'<|?_
  refine cd' lk (λhc3=>?_) (λhc3=>?_)
  .have hc3':Zbv l[k]≠0:=hc3
   rw[if_pos hc3'] at hk2
   rw[if_pos (by rw[hk2];exact hc3'),hk2] at hR
   refine wm<|mr<|Zap<|Zah<|Zah<|Zap<|Zah<|Zae rz<|rT'<|?_
   rw[hR]
  have hc3':¬Zbv l[k]≠0:=hc3
  rw[if_neg hc3'] at hk2
  refine Zay<|Zau<|Zan<|Zao<|?_
  refine ad<|mw<|Zam<|Zaw<|?_
  refine lU' (k+1) (by (try dsimp only);exact⟨by omega,hk2⟩) (by refine zz ?_;exact bk' 1 hn hlt)
 rw[List.drop_of_length_le om] at hk2
 rw[if_neg (by rw[hk2];simp[Zbk])] at hR
 refine Zax<|Zas<|Zas<|ZaK<|Zan<|Zab<|Zag<|wm<|Vw (ZaJ lk lki)<|mw<|?_
 refine sp' (t:=28) gt pt pt (λhg28=>?_) (λhg28=>?_)
 .rw[if_pos (.inl om)] at hR
  refine so<|so<|Vw (Zaj lk lkb)<|ms<|Za6 lk<|wo<|Zap<|?_
  refine Zah<|Zae rz<|rT'<|?_
  rw[hR]
 refine sd<|mw<|sd<|Vw (Zbr lk lki)<|Vw (Zak lk lk)<|ms<|?_
 refine cd' lk (λhc4=>?_) (λhc4=>?_)
 .rw[if_pos (.inr om)] at hR
  refine wo<|Zap<|Zah<|Zae rz<|rT'<|?_
  rw[hR]
 rw[if_neg om] at hR
 refine wm<|Vw (Zib mp)<|?_
 refine Zac mp (ZnK (p:=λr=>decide (r.1=nm)) (λc _ _=>ready1_a) hll) pt ?_
 refine Vw (ZaF lk)<|ms<|?_
 refine ZaA lk (λhc5=>?_) (λhc5=>?_)
 .rw[if_pos (by simpa using hc5)] at hR
  refine wo<|Zap<|Zah<|Zae rz<|rT'<|?_
  rw[hR]
 rw[if_neg (by simpa using hc5)] at hR
 refine Zay<|Zau<|Zan<|wo<|Zae rz<|rT'<|?_
 rw[hR]
def off_a {r:Rul}{sh sa:Int}(h1 : -64800<=sh/\sh<=64800) (h2:0<=sa/\sa<=10800):Ac 188 [.agg (rulC r),iv sh,iv sa] h (iv (offV r sh sa)):=by
 obtain⟨n,f,t,m,⟨k,w,d⟩,a,c,s,lt⟩:=r
 refine tI' k188 λN hn _ _ hbd=>?_
 simp only[tb'] at hbd ⊢
 refine wr'<|E' (ZaM cv rfl hl0 ha0) pt<|ms<|Zab<|wr'<|fq<|Vw (Zaa lk gx gt8)<|sn'<|Zag<|?_
 refine wr'<|Vw (Za0 lk lki)<|ms<|?_
 refine cd' lk (λhc1=>?_) (λhc1=>?_)
 .refine wm<|mw<|?_
  refine V' (Zb0 lk lk om om) pt ?_
  refine mr<|Zap<|Zah<|Zae rz<|rT'<|?_
  refine ivx ?_;unfold offV;rw[if_pos (by assumption)]
 refine wr'<|Vw (Za0 lk lki)<|ms<|?_
 refine cd' lk (λhc2=>?_) (λhc2=>?_)
 .refine wm<|mr<|Zap<|Zah<|Zae rz<|rT'<|?_
  refine ivx ?_;unfold offV;rw[if_neg (by assumption),if_pos (by assumption)]
 refine Zay<|Zau<|Zan<|wo<|Zae rz<|rT'<|?_
 refine ivx ?_;unfold offV;rw[if_neg (by assumption),if_neg (by assumption)]
def turns_a {l:List Rul}{nm:ByteArray}:Ac 184 [.sl l.length 11 false (rows rulC l),sv nm] h (.clo (.func 251) [.rp [.sl l.length 11 false (rows rulC l)],.rp [sv nm]]):=by
 refine tI' k184 λN hn _ _ hbd=>?_
 simp only[tb'] at hbd ⊢
 refine wr'<|E' (ZaM cv rfl hl0 ha0) pt<|E' (ZaM cv rfl hl1 ha1) pt<|mv' rfl pt<|Zam<|?_
 refine ZaN (ALe.trans (ALe.icePtr gx gt2 (by simp) pt2 hs0) (ALe.icePtr gx gt3 (by simp) pt3 hs1)) ?_
 exact wr'<|Vw (Zib mp)<|mr<|Zae rz<|rT' rfl
def on_r {r:Rul}{y:Int}(hr:Zbv r=0) (hy:1900<=y/\y<=2100):Ac 244 [iv y,iv r.2.2.2.1,.agg [iv r.2.2.2.2.1.1,iv r.2.2.2.2.1.2.1,iv r.2.2.2.2.1.2.2]] h (.tup [.agg [iv (Zbn (rDy r y)).1,iv (Zbn (rDy r y)).2.1,iv (Zbn (rDy r y)).2.2],iv 0]):=by
 have:=on_a (y:=y) (m:=r.2.2.2.1) (k:=r.2.2.2.2.1.1) (wk:=r.2.2.2.2.1.2.1) (n:=r.2.2.2.2.1.2.2) (h:=h)
 rw[(Zjf hr hy).1] at this
 exact this
def num_r {k:Int}(hk : -30000<=k/\k<=50000):Ac 113 [.agg [iv (Zbn k).1,iv (Zbn k).2.1,iv (Zbn k).2.2]] h (iv k):=by
 obtain⟨h1,h2⟩:=Zgs (days:=k) om om
 have hd:=ZbW.1 h1
 have hm:=Zds (Zbn k).1 (Zbn k).2.1
 have:=ZiR (y:=(Zbn k).1) (m:=(Zbn k).2.1) (d:=(Zbn k).2.2) (h:=h) om om om om om om
 rwa [h2] at this
def ZoI {r:Rul}{j:Nat}(hj:(j:Int)<r.2.2.1+1-r.2.1):(Zc2 r).take (j+1)=(Zc2 r).take j++[(Zdy r (r.2.1+(j:Int)),r)]:=by
 have hl:j<(Zc2 r).length:=by unfold Zc2;rw[List.length_map,ZcT];show j<(r.2.2.1+1-r.2.1).toNat;omega
 rw[List.take_succ_eq_append_getElem hl]
 congr 2
 simp[Zc2,ZbM]
def ZoH {l:List Rul}{nm:ByteArray}{k:Nat}(hk:k<l.length) (hn:l[k].1=nm) : ∃ m,Zbg l nm=Zbg (l.take k) nm++(Zc2 l[k]++m):=by
 refine⟨Zbg (l.drop (k+1)) nm,?_⟩
 have e:l=l.take k++l[k]::l.drop (k+1):=by rw[<-List.drop_eq_getElem_cons hk,List.take_append_drop]
 have:Zbg l nm=Zbg (l.take k++l[k]::l.drop (k+1)) nm:=by rw[<-e]
 rw[this]
 unfold Zbg
 rw[List.flatMap_append,List.flatMap_cons,if_pos hn]
def turns1_a {l:List Rul}{nm:ByteArray}{lp M0:Nat}{H:List Trn->AH}(hok : ∀ r∈l,Zbv r=0) (hz:l.length<=40) (hH : ∀ d,(H d).length=M0) (hHlt : ∀ d,∀ e∈H d,e.lt M0=true)
  (hY : ∀ (d:List Trn) (t:Trn) (e f:Ent),d.length<(Zbg l nm).length->AYield Tryz.prog lp [.agg (trnC t)] (H d++[e,f]) λr h''=>r=.ret (.v (.bool true))/\h''=H (d++[t])++[e,f]) :
  ACalls Tryz.prog 251 [.v (.func (.yield lp) #[] #[]),.rp [.sl l.length 11 false (rows rulC l)],.rp [sv nm]] (H []) λx h'=>x=.ret (.tup [])/\h'=H (Zbg l nm):=by
 refine tJ' k251 λN hn _ _ hbd=>?_
 simp only[tb'] at hbd ⊢
 have hMN:M0=N:=(hH []).symm.trans hn
 simp only[hMN] at hH hHlt
 refine wr'<|Vw (Zav lk gt)<|Vw (Zaz lk)<|ms<|Zag<|?_
 refine Zhg (ι:=Nat) (λ(k:Nat)=>[(11,iv (k:Int))]++rn' 5 4++rn' 12 36) (λ(k:Nat)=>H (Zbg (l.take k) nm)++[]) (λ(k:Nat)=>k<=l.length) (λ(k:Nat)=>l.length-k) (0) (by exact Nat.zero_le _) (by try simp only[sm',Nat.reduceAdd];exact ALe.same wA' rfl) ?_
 rintro k hi1
 try simp only[sm',Nat.reduceAdd]
 replace hi1:k<=l.length:=hi1
 refine wr'<|Vw (ZaJ lk lk)<|sn'<|Zab<|?_
 refine cd' lk (λhc1=>?_) (λhc1=>?_)
 .have hk:k<l.length:=by omega
  have hr:=hok _ (List.getElem_mem hk)
  obtain⟨hr1,hr2,hr3⟩:1900<=l[k].2.1/\l[k].2.1<=l[k].2.2.1/\l[k].2.2.1<=2100:=⟨(ZbF hr).1,(ZbF hr).2.1,(ZbF hr).2.2.1⟩
  obtain⟨hr4,hr5⟩:(Zc2 l[k]).length<=201/\((Zc2 l[k]).length:Int)=l[k].2.2.1-l[k].2.1+1:=Zhj hr
  refine za<|Zab<|Zag<|wr'<|?_
  refine V' (ZaE lk lk ZcE nb ro om ro rfl) pt ?_
  refine Vw (Zar lk Zlz rfl)<|E' (ZaR (hl0 (hH _)) ha0) pt<|E' (Zai lk cv (hga (hH _) rfl) rfl nb rfl Zj1 (hs0 (hH _))) ptn<|sn'<|Zab<|wr'<|fq<|Vw (Zaa lk (hga (hH _) rfl) gt0)<|Vw (Zav lk gt)<|Vw (Zd2 lk lk)<|sn'<|?_
  refine cd' lk (λhc2=>?_) (λhc2=>?_)
  .refine Zax<|Zas<|ZaK<|Zan<|Zao<|?_
   refine ad<|mw<|Zam<|Zaw<|?_
   refine lU' (k+1) (by (try dsimp only);omega) (by refine zz ?_;exact ALe.trans (ALe.back wA' rfl (E1:=[]) (k:=N+0) (by simp only[List.length_cons,List.length_nil,(hH _)]) om (by exact lt') (ltw om (hHlt _)) (by rfl)) (ALe.same (WkL.refl _) (by rw[ZkL hk,if_neg hc2,List.append_nil (Zbg _ _)])))
  have hnm:l[k].1=nm:=Decidable.of_not_not hc2
  obtain⟨mm,hmm⟩:=ZoH hk hnm
  refine za<|wr'<|fq<|Vw (Zaa lk (hga (hH _) rfl) gt1)<|ms<|Zag<|?_
  refine Zhg (ι:=Nat) (λ(j:Nat)=>[(6,iv (l[k].2.1+(j:Int))),(7,.any),(8,.any)]++rn' 21 26) (λ(j:Nat)=>H (Zbg (l.take k) nm++(Zc2 l[k]).take j)++[Ent.mk 0 208 11 (rulC l[k])]) (λ(j:Nat)=>(j:Int)<=l[k].2.2.1-l[k].2.1+1) (λ(j:Nat)=>(Zc2 l[k]).length-j) (0) (by show (0:Int)<=_;omega) (by try simp only[sm',Nat.reduceAdd];exact ALe.same wA' (by rw[List.take_zero,List.append_nil])) ?_
  rintro j hi2
  try simp only[sm',Nat.reduceAdd]
  replace hi2:(j:Int)<=l[k].2.2.1-l[k].2.1+1:=hi2
  refine Zab<|wm<|fq<|Vw (Zaa lk (hga (hH _) rfl) gt2)<|Vw (ZdO lk lk)<|sn'<|?_
  refine cd' lk (λhc3=>?_) (λhc3=>?_)
  .have hy:1900<=l[k].2.1+(j:Int)/\l[k].2.1+(j:Int)<=2100:=by omega
   obtain⟨hd1,hd2⟩:=Zjf hr hy
   have ha6:0<=l[k].2.2.2.2.2.1/\l[k].2.2.2.2.2.1<=172800:=(ZbF hr).2.2.2.2.2.1
   have hd3 : -30000<=rDy l[k] (l[k].2.1+(j:Int))/\rDy l[k] (l[k].2.1+(j:Int))<=50000:=hd2
   refine za<|Zab<|Zag<|wm<|fq<|Vw (Zaa lk (hga (hH _) rfl) gt3)<|fq<|Vw (Zad lk (hga (hH _) rfl) Ztj rfl)<|Zac mp (on_r hr hy) pt<|mw<|Vw (ZaS lk gt)<|?_
   refine Vw (ZaS lk gt)<|E' (ZaR (hl1 (hH _)) ha1) pt<|E' (Zai lk cv (hga (hH _) rfl) rfl nb rfl Ztl (hs1 (hH _))) ptn<|ms<|Zab<|Zuf []<|Dw vm<|Dw (Zad lk (hga (hH _) rfl) Ztk rfl)<|?_
   refine ZaB mp (λhE hX=>num_r hd2) pt ?_
   refine D' (Zgg lk lki om om) pt ?_
   refine dg<|Dw (Zaa lk (hga (hH _) rfl) gt7)<|?_
   refine D' (Zb0 lk lk om om) pt ?_
   refine Dw (Zad lk (hga (hH _) rfl) Zj0 rfl)<|Dw (Zat (Zkx cv rfl cv rfl))<|ZaH<|Zph<|?_
   refine k_callY lk mp (hY _ (Zdy l[k] (l[k].2.1+(j:Int)),l[k]) _ _ (by rw[hmm,List.length_append,List.length_append,List.length_append,List.length_take];omega)) (by intro i hi;simp at hi) pt ?_
   refine k_val rfl (ZaF lk) pt<|k_nil<|Zan<|ZaV lk<|Zay<|Zau<|Zan<|Zao<|mw<|?_
   refine ad<|mw<|Zam<|Zaw<|?_
   refine lU' (j+1) (by (try dsimp only);omega) (by refine zz ?_;exact ALe.trans (ALe.back wA' rfl (E1:=[Ent.mk 0 208 11 (rulC l[k])]) (k:=N+1) (by simp only[List.length_cons,List.length_nil,(hH _)]) om (by exact lt') (ltw om (hHlt _)) (by exact lt')) (ALe.same (WkL.refl _) (by rw[ZoI om,List.append_assoc])))
  refine Zax<|Zas<|Zas<|ZaK<|Zau<|Zan<|Zao<|?_
  refine ad<|mw<|Zam<|Zaw<|?_
  refine lU' (k+1) (by (try dsimp only);omega) (by refine zz ?_;exact ALe.trans (ALe.back wA' rfl (E1:=[]) (k:=N+0) (by simp only[List.length_cons,List.length_nil,(hH _)]) om (by exact lt') (ltw om (hHlt _)) (by rfl)) (ALe.same (WkL.refl _) (by rw[ZkL hk,if_pos hnm,List.take_of_length_le (l:=Zc2 l[k]) om])))
 refine Zax<|Zas<|Zas<|ZaK<|w_end (rs0)<|?_
 exact⟨_,_,rfl,hH _,hHlt _,rfl,rfl,by rw[List.take_of_length_le om]⟩
end
end Go.Proofs.YthmgnolcfjiicaaGreatDoor
namespace Go.Ab
section
open Go.RowKit Go.Sort
section
variable {P : Program}
def Zo1 (w:World) (g:Gh) : ∀ {vs us:List Value},RepL w g (vs.map .v) us↔us=vs
 | [],us=>by simp only[List.map_nil,RepL]
 | v::vs,us=>by
  simp only[List.map_cons,RepL,Rep,Zo1 w g (vs:=vs)]
  constructor
  .rintro⟨u,us',rfl,rfl,rfl⟩;rfl
  .rintro rfl;exact⟨_,_,rfl,rfl,rfl⟩
def ACalls.of_turn {f:FuncId}{args:List AV}{h:AH}{id ver ty st:Nat}{cells:List AV}{R':List AV->Prop}(he:enters P f=true) (hi:h[id]?=some (.mk ver ty st cells)) (hne:cells≠[])
  (hc : ∀ w g (vs:Array Value) b cap arr,SimH w g h->RepL w g args vs.toList->g.loc id ver=some (some ⟨b,0,none⟩,cap)->w.heap[b]?=some (.cells arr ty (0,0))->arr.size=cap*st->cells.length<=arr.size->RepL w g cells (arr.toList.take cells.length) ->
   Calls P f vs w λe w'=>e=.returned (.tuple #[]) /\ ∃ (vs':List Value) (arr':Array Value),R' (vs'.map .v)/\w'.heap[b]?=some (.cells arr' ty (0,0))/\arr'.size=arr.size/\vs'.length=cells.length/\arr'.toList.take cells.length=vs' /\
    w'.os=w.os/\w'.tape=w.tape/\w'.output=w.output/\w.heap.size<=w'.heap.size /\ ∀ k,k<w.heap.size->k≠b->w'.heap[k]?=w.heap[k]?) :
  ACalls P f args h λx h'=>x=.ret (.tup []) /\ ∃ cells',R' cells'/\h'=h.set id (.mk ver ty st cells'):=by
 refine⟨he,λw g vs hs ha=>?_⟩
 obtain⟨A,cap,f1,fm,f3⟩:=hs.ent _ _ _ _ _ hi
 rcases f3 with ⟨e,_⟩ | ⟨b,arr,rfl,hc0,hd,hb,hsz,hle,hrl⟩
 .exact absurd e hne
 have hid:id<h.length:=(List.getElem?_eq_some_iff.1 hi).1
 have how:OwAt g h id b:=⟨ver,ty,st,cells,_,cap,hi,f1,hc0,rfl⟩
 refine (hc w g vs b cap arr hs ha f1 hb hsz hle hrl).mono ?_
 rintro e w' ⟨rfl,vs',arr',hR,h1,h2,h3,h4,h5,h6,h7,h8,h9⟩
 have hother : ∀ j,g.D j\/(∃ i,i≠id/\OwAt g h i j)\/(∃ i,RwAt h i j)->w'.heap[j]?=w.heap[j]?:=by
  rintro j (hj | ⟨i,hne',hj⟩ | ⟨i,hj⟩)
  rotate_left 2
  .exact h9 j (hs.own_not_D (.inr ⟨i,hj⟩)).2 (λe=>by subst e;exact hs.own_ne_raw how hj)
  .exact h9 j (hs.lt j hj) (λe=>hd (e ▸ hj))
  .exact h9 j (hs.own_not_D (.inl ⟨i,hj⟩)).2 (λe=>hne' (hs.inj i id j hj (e ▸ how)))
 obtain⟨k1,k2,k3⟩:=hs.put (w':=w') (g':=g) (h':=h.set id (.mk ver ty st (vs'.map .v))) id ver ty st (vs'.map .v) (some ⟨b,0,none⟩) cap
  (λi hne'=>by rw[List.getElem?_set_ne (Ne.symm hne')]) (by rw[List.getElem?_set_self hid]) (by simp) rfl (λ_ _ _ h=>h) (λ_ _ _ h=>.inl h) f1 (λv l hv=>(hs.fresh _ _ _ hv).2 _ _ _ _ hi) hother h8 fm
  (.inr ⟨b,arr',rfl,hc0,hd,h1,by rw[h2,hsz],by rw[List.length_map,h3,h2];exact hle,by rw[List.length_map,h3,h4];exact (Zo1 w' g).2 rfl⟩)
  (λj hj _ i hne' ho=>by
   simp at hj
   subst hj
   exact hne' (hs.inj i id _ ho how)) (λk hk _ _=>by simp at hk;subst hk;exact .inl ⟨id,how⟩)
 refine⟨.ret (.tup []),_,g,?_,k1,k2,⟨h5,h6,h7,h8,λk hk hn=>h9 k hk (λe=>hn (.inl ⟨id,e ▸ how⟩))⟩,λk hk=>?_,rfl,_,hR,rfl⟩
 .simp only[EndR,Rep];exact⟨#[],rfl,by simp only[RepL]⟩
 .rcases k3 k hk with ho | ⟨ho,_⟩
  .exact .inl ho
  .simp at ho;subst ho;exact .inl (.inl ⟨id,how⟩)
end
section
variable {P : Program} {α : Type}
def Zwd {enc:α->List Value}{k:Nat}(hk : ∀ x,(enc x).length=k) : ∀ (l:List α) (i j:Nat) (h:i<l.length),j<k->(l.flatMap enc)[i*k+j]?=(enc l[i])[j]?
 | [],i,j,h,_=>by simp at h
 | x::l,0,j,h,hj=>by
  rw[List.flatMap_cons,Nat.zero_mul,Nat.zero_add,List.getElem?_append_left (by rw[hk];exact hj)];rfl
 | x::l,i+1,j,h,hj=>by
  have ih:=Zwd hk l i j (by simpa using h) hj
  rw[List.flatMap_cons,List.getElem?_append_right (by rw[hk,Nat.succ_mul];omega),hk,show (i+1)*k+j-k=i*k+j by rw[Nat.succ_mul];omega,ih];rfl
def Zc3 {enc:α->List Value}{k:Nat}(hk : ∀ x,(enc x).length=k) : ∀ (l:List α),(l.flatMap enc).length=l.length*k
 | []=>by simp
 | x::l=>by rw[List.flatMap_cons,List.length_append,hk,Zc3 hk l,List.length_cons,Nat.succ_mul];omega
def ZfK [Inhabited α] {enc:α->List Value}{k:Nat}(hk0:0<k) (hk : ∀ x,(enc x).length=k) (d:Array α):(Go.Sort.flatK enc k d).toList=d.toList.flatMap enc:=by
 apply List.ext_getElem?
 intro t
 by_cases ht:t<d.size*k
 .have h1:t/k<d.size:=Nat.div_lt_of_lt_mul (by rw[Nat.mul_comm];exact ht)
  have h2:t%k<k:=Nat.mod_lt _ hk0
  have h3:=Zwd hk d.toList (t/k) (t%k) (by simpa using h1) h2
  rw[Nat.mul_comm (t/k) k,Nat.div_add_mod] at h3
  rw[h3]
  have hs:t<(Go.Sort.flatK enc k d).size:=by simpa using ht
  have h4:=Go.Sort.get_flatK enc k d t ht
  rw[getElem!_pos _ t hs,getElem!_pos _ (t/k) h1,getElem!_pos _ (t%k) (by rw[hk];exact h2)] at h4
  rw[Array.getElem?_toList,Array.getElem?_eq_getElem hs,h4,Array.getElem_toList,List.getElem?_eq_getElem (by rw[hk];exact h2)]
  rfl
 .rw[List.getElem?_eq_none (by simpa using ht),List.getElem?_eq_none (by rw[Zc3 hk];simpa using ht)]
def rows_v {enc:α->List Value}(l:List α):rows (λx=>(enc x).map .v) l=(l.flatMap enc).map .v:=by
 unfold rows
 rw[List.map_flatMap]
def sort_a [Inhabited α] {ρ:Go.Shelf.Ren}(L:Go.Proofs.SlLaysF0.n6 P ρ) {k:Nat}(hk0:0<k) (aE : ∀ w,(isAgg (ρ.t 24)).run P w=.ok true w) (zE : ∀ w,(Go.sizeOf (ρ.t 24)).run P w=.ok k w) {enc:α->List Value}(hk : ∀ x,(enc x).length=k) (h1 : ∀ x,∀ v∈enc x,v.oneCell'=true) {cf:α->α->Int}(hO:SWO (Go.Proofs.ltOf cf)) {g0:Nat}
  (eg : ∀ args w,(callFunc g0 args).run P w=.ok (.enter g0 args) w) (hcmp : ∀ blk off size w,Go.Proofs.CmpLays P g0 #[] enc k cf blk off size w) {h:AH} {id ver ty:Nat} {l:List α} (hi:h[id]?=some (.mk ver ty k (rows (λx=>(enc x).map .v) l))) (hl:l≠[]) (hz:l.length<4611686018427387904) (he:enters P (ρ.f 6)=true) :
  ACalls P (ρ.f 6) [.own id ver l.length,.v (.func (.func g0) #[] #[])] h λx h'=>x=.ret (.tup []) /\ ∃ l':List α,l'.Perm l/\(∀ i j (hi:i<l'.length) (hj:j<l'.length),i<j->Go.Proofs.ltOf cf l'[j] l'[i]=false)/\h'=h.set id (.mk ver ty k (rows (λx=>(enc x).map .v) l')):=by
 have hlen:=Zbp (f:=λx=>(enc x).map .v) (st:=k) (λx=>by rw[List.length_map,hk]) l
 have hpos:0<l.length:=List.length_pos_iff.2 hl
 refine (ACalls.of_turn (R':=λcs => ∃ l':List α,l'.Perm l/\(∀ i j (hi:i<l'.length) (hj:j<l'.length),i<j->Go.Proofs.ltOf cf l'[j] l'[i]=false)/\cs=rows (λx=>(enc x).map .v) l') he hi ?_ ?_).mono ?_
 .intro e
  have:=congrArg List.length e
  rw[hlen] at this
  have h0:0<l.length*k:=Nat.mul_pos hpos hk0
  simp at this;omega
 .intro w g vs b cap arr hs ha hloc hb hsz hle hr
  simp only[RepL,Rep,hloc] at ha
  obtain⟨u1,us1,e1,⟨A,c,e2,hn1,hn2,rfl⟩,u2,us2,rfl,rfl,rfl⟩:=ha
  simp only[Option.some.injEq,Prod.mk.injEq] at e2
  obtain⟨rfl,rfl⟩:=e2
  obtain rfl:vs = #[.slice (some ⟨b,0,none⟩) l.length cap,.func (.func g0) #[] #[]]:=by cases vs;simp_all
  have hr':arr.toList.take (l.length*k)=l.flatMap enc:=by
   rw[hlen,rows_v] at hr
   exact (Zo1 w g).1 hr
  have hblk:b<w.heap.size:=(Array.getElem?_eq_some_iff.1 hb).1
  have hflat:=ZfK hk0 hk l.toArray
  have hgetF : ∀ (d:Array α) (t:Nat),t<d.size*k->(Go.Sort.flatK enc k d).toList[t]?=some (Go.Sort.flatK enc k d)[t]!:=by
   intro d t ht
   have hs:t<(Go.Sort.flatK enc k d).size:=by simpa using ht
   rw[getElem!_pos _ t hs,Array.getElem?_toList,Array.getElem?_eq_getElem hs]
  have hH:Go.Sort.HoldsK enc k w b 0 l.toArray:=by
   intro j hj
   have hj':j<l.length*k:=by simpa using hj
   rw[Nat.zero_add]
   refine⟨?_,frozen_of_row w b j arr ty hb⟩
   rw[cell_of_row w b j arr ty (0,0) hb,<-Array.getElem?_toList]
   have h5:arr.toList[j]?=(l.flatMap enc)[j]?:=by rw[<-hr',List.getElem?_take_of_lt hj']
   rw[h5,show l.flatMap enc=(Go.Sort.flatK enc k l.toArray).toList from hflat.symm,hgetF _ _ (by simpa using hj')];rfl
  refine (Go.Proofs.AnyQ.slices_SortFunc L k aE zE enc hk h1 cf hO g0 #[] b 0 cap l.toArray w eg (hcmp b 0 l.toArray.size w) hH hblk (by simpa using hz)).mono ?_
  rintro e w' ⟨rfl,d',n,os,⟨p1,_,p3⟩,hso,rfl⟩
  have hds:d'.size=l.length:=by simpa using p1
  have hw' : ∀ j,j<w.heap.size->(Go.Proofs.sortWorldK enc k w b 0 n d' os).heap[j]?=(w.heap.modify b (onCells (putCells _root_.id 0 (Go.Sort.flatK enc k d'))))[j]?:=by
   intro j hj
   show ((w.heap.modify b (onCells (putCells _root_.id 0 (Go.Sort.flatK enc k d'))))++os)[j]?=_
   rw[Array.getElem?_append_left (by simpa using hj)]
  have hsz2:arr.size=(putCells _root_.id 0 (Go.Sort.flatK enc k d') arr).size:=by simp[putCells]
  refine⟨rfl,d'.toList.flatMap enc,putCells _root_.id 0 (Go.Sort.flatK enc k d') arr,⟨d'.toList,?_,?_,(rows_v _).symm⟩,?_,hsz2.symm,?_,?_,rfl,rfl,rfl,?_,?_⟩
  .have e1:d'.extract 0 l.toArray.size=d':=by rw[<-p1];simp
   have e2:l.toArray.extract 0 l.toArray.size=l.toArray:=by simp
   rw[e1,e2] at p3
   simpa using p3
  .intro i j hi hj hij
   have:=hso i j (Nat.zero_le _) hij (by simpa [hds] using hj)
   rw[getElem!_pos d' j (by simpa using hj),getElem!_pos d' i (by simpa using hi)] at this
   simpa using this
  .rw[hw' b hblk,Array.getElem?_modify,if_pos rfl,hb];rfl
  .rw[Zc3 hk,hlen,Array.length_toList,hds]
  .rw[hlen]
   apply List.ext_getElem?
   intro t
   by_cases ht:t<l.length*k
   .have ht2:t<d'.size*k:=by rw[hds];exact ht
    have hta:t<arr.size:=by rw[hlen] at hle;omega
    rw[List.getElem?_take_of_lt ht,<-ZfK hk0 hk d',hgetF d' t ht2]
    unfold putCells
    rw[Array.getElem?_toList,Array.getElem?_mapIdx,Array.getElem?_eq_getElem hta,Option.map_some,if_pos ⟨Nat.zero_le _,by simpa using ht2⟩]
    rfl
   .rw[List.getElem?_eq_none (by simp;omega),List.getElem?_eq_none (by rw[Zc3 hk,Array.length_toList,hds];omega)]
  .show w.heap.size<=((w.heap.modify b (onCells (putCells _root_.id 0 (Go.Sort.flatK enc k d'))))++os).size
   simp
  .intro j hj hjb
   rw[hw' j hj,Array.getElem?_modify,if_neg (Ne.symm hjb)]
 .rintro x h' ⟨rfl,cs,⟨l',hp,hs,rfl⟩,rfl⟩
  exact⟨rfl,l',hp,hs,rfl⟩
end
end
end Go.Ab
namespace Go.Proofs
section
open Go.Shelf
def Tryz.sl9z_ren:Go.Shelf.Ren:=⟨fun | 6=>86 | 15=>132 | 14=>131 | 28=>198 | 29=>199 | 20=>190 | 21=>191 | 22=>192 | 23=>193 | 24=>194 | 25=>195 | 26=>196 | 27=>197 | 46=>254 | 47=>255 | 48=>256 | 49=>257 | 50=>258 | 57=>299 | n=>n,fun | 22=>87 | 24=>139 | 25=>141 | 3=>3 | 39=>164 | 0=>0 | 53=>257 | 55=>259 | 4=>4 | 46=>251 | 45=>250 | 50=>92 | 5=>5 | 9=>9 | 66=>295 | 70=>299 | 76=>328 | 77=>272 | n=>n,fun | n=>n⟩
def Tryz.sl9z:Go.Proofs.SlLaysF0.n6 Tryz.prog Tryz.sl9z_ren:={
 mixed:=by kernel_rfl
 f6:=⟨Tryz.f86.name,by decide,Tryz.func86.trans (congrArg some (by kernel_rfl))⟩
 f14:=⟨Tryz.f131.name,by decide,Tryz.func131.trans (congrArg some (by kernel_rfl))⟩
 f15:=Tryz.func132.trans (congrArg some (by kernel_rfl))
 f20:=⟨Tryz.f190.name,by decide,Tryz.func190.trans (congrArg some (by kernel_rfl))⟩
 f21:=⟨Tryz.f191.name,by decide,Tryz.func191.trans (congrArg some (by kernel_rfl))⟩
 f22:=⟨Tryz.f192.name,by decide,Tryz.func192.trans (congrArg some (by kernel_rfl))⟩
 f23:=⟨Tryz.f193.name,by decide,Tryz.func193.trans (congrArg some (by kernel_rfl))⟩
 f24:=⟨Tryz.f194.name,by decide,Tryz.func194.trans (congrArg some (by kernel_rfl))⟩
 f25:=⟨Tryz.f195.name,by decide,Tryz.func195.trans (congrArg some (by kernel_rfl))⟩
 f26:=⟨Tryz.f196.name,by decide,Tryz.func196.trans (congrArg some (by kernel_rfl))⟩
 f27:=⟨Tryz.f197.name,by decide,Tryz.func197.trans (congrArg some (by kernel_rfl))⟩
 f28:=Tryz.func198.trans (congrArg some (by kernel_rfl))
 f29:=Tryz.func199.trans (congrArg some (by kernel_rfl))
 f46:=⟨Tryz.f254.name,by decide,Tryz.func254.trans (congrArg some (by kernel_rfl))⟩
 f47:=Tryz.func255.trans (congrArg some (by kernel_rfl))
 f48:=Tryz.func256.trans (congrArg some (by kernel_rfl))
 f49:=⟨Tryz.f257.name,by decide,Tryz.func257.trans (congrArg some (by kernel_rfl))⟩
 f50:=⟨Tryz.f258.name,by decide,Tryz.func258.trans (congrArg some (by kernel_rfl))⟩
 f57:=⟨Tryz.f299.name,by decide,Tryz.func299.trans (congrArg some (by kernel_rfl))⟩
 t0:=Tryz.underlying0
 a0:=Tryz.isAgg0
 z0:=Tryz.sizeOf0
 v0:=Tryz.zeroValue0
 t3:=Tryz.underlying3
 a3:=Tryz.isAgg3
 z3:=Tryz.sizeOf3
 v3:=Tryz.zeroValue3
 t4:=Tryz.underlying4
 a4:=Tryz.isAgg4
 z4:=Tryz.sizeOf4
 v4:=Tryz.zeroValue4
 t5:=Tryz.underlying5
 a5:=Tryz.isAgg5
 z5:=Tryz.sizeOf5
 v5:=Tryz.zeroValue5
 t9:=Tryz.underlying9
 a9:=Tryz.isAgg9
 z9:=Tryz.sizeOf9
 v9:=Tryz.zeroValue9
 t22:=Tryz.underlying87
 a22:=Tryz.isAgg87
 z22:=Tryz.sizeOf87
 v22:=Tryz.zeroValue87
 t25:=Tryz.underlying141
 a25:=Tryz.isAgg141
 z25:=Tryz.sizeOf141
 v25:=Tryz.zeroValue141
 t39:=Tryz.underlying164
 a39:=Tryz.isAgg164
 z39:=Tryz.sizeOf164
 v39:=Tryz.zeroValue164
 t45:=Tryz.underlying250
 a45:=Tryz.isAgg250
 z45:=Tryz.sizeOf250
 v45:=Tryz.zeroValue250
 t46:=Tryz.underlying251
 a46:=Tryz.isAgg251
 z46:=Tryz.sizeOf251
 v46:=Tryz.zeroValue251
 t50:=Tryz.underlying92
 a50:=Tryz.isAgg92
 z50:=Tryz.sizeOf92
 v50:=Tryz.zeroValue92
 t53:=Tryz.underlying257
 a53:=Tryz.isAgg257
 z53:=Tryz.sizeOf257
 v53:=Tryz.zeroValue257
 t55:=Tryz.underlying259
 a55:=Tryz.isAgg259
 z55:=Tryz.sizeOf259
 v55:=Tryz.zeroValue259
 t66:=Tryz.underlying295
 a66:=Tryz.isAgg295
 z66:=Tryz.sizeOf295
 v66:=Tryz.zeroValue295
 t70:=Tryz.underlying299
 a70:=Tryz.isAgg299
 z70:=Tryz.sizeOf299
 v70:=Tryz.zeroValue299
 t76:=Tryz.underlying328
 a76:=Tryz.isAgg328
 z76:=Tryz.sizeOf328
 v76:=Tryz.zeroValue328
 t77:=Tryz.underlying272
 a77:=Tryz.isAgg272
 z77:=Tryz.sizeOf272
 v77:=Tryz.zeroValue272 }
def Tryz.sl9l_ren:Go.Shelf.Ren:=⟨fun | 6=>89 | 15=>132 | 14=>134 | 28=>198 | 29=>199 | 20=>200 | 21=>201 | 22=>202 | 23=>203 | 24=>204 | 25=>205 | 26=>206 | 27=>207 | 46=>259 | 47=>255 | 48=>256 | 49=>260 | 50=>261 | 57=>300 | n=>n,fun | 22=>23 | 24=>81 | 25=>143 | 3=>3 | 39=>164 | 0=>0 | 53=>257 | 55=>259 | 4=>4 | 46=>251 | 45=>250 | 50=>92 | 5=>5 | 9=>9 | 66=>295 | 70=>299 | 76=>328 | 77=>272 | n=>n,fun | n=>n⟩
def Tryz.sl9l:Go.Proofs.SlLaysF0.n6 Tryz.prog Tryz.sl9l_ren:={
 mixed:=by kernel_rfl
 f6:=⟨Tryz.f89.name,by decide,Tryz.func89.trans (congrArg some (by kernel_rfl))⟩
 f14:=⟨Tryz.f134.name,by decide,Tryz.func134.trans (congrArg some (by kernel_rfl))⟩
 f15:=Tryz.func132.trans (congrArg some (by kernel_rfl))
 f20:=⟨Tryz.f200.name,by decide,Tryz.func200.trans (congrArg some (by kernel_rfl))⟩
 f21:=⟨Tryz.f201.name,by decide,Tryz.func201.trans (congrArg some (by kernel_rfl))⟩
 f22:=⟨Tryz.f202.name,by decide,Tryz.func202.trans (congrArg some (by kernel_rfl))⟩
 f23:=⟨Tryz.f203.name,by decide,Tryz.func203.trans (congrArg some (by kernel_rfl))⟩
 f24:=⟨Tryz.f204.name,by decide,Tryz.func204.trans (congrArg some (by kernel_rfl))⟩
 f25:=⟨Tryz.f205.name,by decide,Tryz.func205.trans (congrArg some (by kernel_rfl))⟩
 f26:=⟨Tryz.f206.name,by decide,Tryz.func206.trans (congrArg some (by kernel_rfl))⟩
 f27:=⟨Tryz.f207.name,by decide,Tryz.func207.trans (congrArg some (by kernel_rfl))⟩
 f28:=Tryz.func198.trans (congrArg some (by kernel_rfl))
 f29:=Tryz.func199.trans (congrArg some (by kernel_rfl))
 f46:=⟨Tryz.f259.name,by decide,Tryz.func259.trans (congrArg some (by kernel_rfl))⟩
 f47:=Tryz.func255.trans (congrArg some (by kernel_rfl))
 f48:=Tryz.func256.trans (congrArg some (by kernel_rfl))
 f49:=⟨Tryz.f260.name,by decide,Tryz.func260.trans (congrArg some (by kernel_rfl))⟩
 f50:=⟨Tryz.f261.name,by decide,Tryz.func261.trans (congrArg some (by kernel_rfl))⟩
 f57:=⟨Tryz.f300.name,by decide,Tryz.func300.trans (congrArg some (by kernel_rfl))⟩
 t0:=Tryz.underlying0
 a0:=Tryz.isAgg0
 z0:=Tryz.sizeOf0
 v0:=Tryz.zeroValue0
 t3:=Tryz.underlying3
 a3:=Tryz.isAgg3
 z3:=Tryz.sizeOf3
 v3:=Tryz.zeroValue3
 t4:=Tryz.underlying4
 a4:=Tryz.isAgg4
 z4:=Tryz.sizeOf4
 v4:=Tryz.zeroValue4
 t5:=Tryz.underlying5
 a5:=Tryz.isAgg5
 z5:=Tryz.sizeOf5
 v5:=Tryz.zeroValue5
 t9:=Tryz.underlying9
 a9:=Tryz.isAgg9
 z9:=Tryz.sizeOf9
 v9:=Tryz.zeroValue9
 t22:=Tryz.underlying23
 a22:=Tryz.isAgg23
 z22:=Tryz.sizeOf23
 v22:=Tryz.zeroValue23
 t25:=Tryz.underlying143
 a25:=Tryz.isAgg143
 z25:=Tryz.sizeOf143
 v25:=Tryz.zeroValue143
 t39:=Tryz.underlying164
 a39:=Tryz.isAgg164
 z39:=Tryz.sizeOf164
 v39:=Tryz.zeroValue164
 t45:=Tryz.underlying250
 a45:=Tryz.isAgg250
 z45:=Tryz.sizeOf250
 v45:=Tryz.zeroValue250
 t46:=Tryz.underlying251
 a46:=Tryz.isAgg251
 z46:=Tryz.sizeOf251
 v46:=Tryz.zeroValue251
 t50:=Tryz.underlying92
 a50:=Tryz.isAgg92
 z50:=Tryz.sizeOf92
 v50:=Tryz.zeroValue92
 t53:=Tryz.underlying257
 a53:=Tryz.isAgg257
 z53:=Tryz.sizeOf257
 v53:=Tryz.zeroValue257
 t55:=Tryz.underlying259
 a55:=Tryz.isAgg259
 z55:=Tryz.sizeOf259
 v55:=Tryz.zeroValue259
 t66:=Tryz.underlying295
 a66:=Tryz.isAgg295
 z66:=Tryz.sizeOf295
 v66:=Tryz.zeroValue295
 t70:=Tryz.underlying299
 a70:=Tryz.isAgg299
 z70:=Tryz.sizeOf299
 v70:=Tryz.zeroValue299
 t76:=Tryz.underlying328
 a76:=Tryz.isAgg328
 z76:=Tryz.sizeOf328
 v76:=Tryz.zeroValue328
 t77:=Tryz.underlying272
 a77:=Tryz.isAgg272
 z77:=Tryz.sizeOf272
 v77:=Tryz.zeroValue272 }
def Tryz.sl9_ren:Go.Shelf.Ren:=⟨fun | 6=>185 | 15=>132 | 14=>252 | 28=>198 | 29=>199 | 20=>291 | 21=>292 | 22=>293 | 23=>294 | 24=>295 | 25=>296 | 26=>297 | 27=>298 | 46=>311 | 47=>255 | 48=>256 | 49=>312 | 50=>313 | 57=>318 | n=>n,fun | 22=>238 | 24=>242 | 25=>244 | 3=>3 | 39=>164 | 0=>0 | 53=>257 | 55=>259 | 4=>4 | 46=>251 | 45=>250 | 50=>92 | 5=>5 | 9=>9 | 66=>295 | 70=>299 | 76=>328 | 77=>272 | n=>n,fun | n=>n⟩
def Tryz.sl9:Go.Proofs.SlLaysF0.n6 Tryz.prog Tryz.sl9_ren:={
 mixed:=by kernel_rfl
 f6:=⟨Tryz.f185.name,by decide,Tryz.func185.trans (congrArg some (by kernel_rfl))⟩
 f14:=⟨Tryz.f252.name,by decide,Tryz.func252.trans (congrArg some (by kernel_rfl))⟩
 f15:=Tryz.func132.trans (congrArg some (by kernel_rfl))
 f20:=⟨Tryz.f291.name,by decide,Tryz.func291.trans (congrArg some (by kernel_rfl))⟩
 f21:=⟨Tryz.f292.name,by decide,Tryz.func292.trans (congrArg some (by kernel_rfl))⟩
 f22:=⟨Tryz.f293.name,by decide,Tryz.func293.trans (congrArg some (by kernel_rfl))⟩
 f23:=⟨Tryz.f294.name,by decide,Tryz.func294.trans (congrArg some (by kernel_rfl))⟩
 f24:=⟨Tryz.f295.name,by decide,Tryz.func295.trans (congrArg some (by kernel_rfl))⟩
 f25:=⟨Tryz.f296.name,by decide,Tryz.func296.trans (congrArg some (by kernel_rfl))⟩
 f26:=⟨Tryz.f297.name,by decide,Tryz.func297.trans (congrArg some (by kernel_rfl))⟩
 f27:=⟨Tryz.f298.name,by decide,Tryz.func298.trans (congrArg some (by kernel_rfl))⟩
 f28:=Tryz.func198.trans (congrArg some (by kernel_rfl))
 f29:=Tryz.func199.trans (congrArg some (by kernel_rfl))
 f46:=⟨Tryz.f311.name,by decide,Tryz.func311.trans (congrArg some (by kernel_rfl))⟩
 f47:=Tryz.func255.trans (congrArg some (by kernel_rfl))
 f48:=Tryz.func256.trans (congrArg some (by kernel_rfl))
 f49:=⟨Tryz.f312.name,by decide,Tryz.func312.trans (congrArg some (by kernel_rfl))⟩
 f50:=⟨Tryz.f313.name,by decide,Tryz.func313.trans (congrArg some (by kernel_rfl))⟩
 f57:=⟨Tryz.f318.name,by decide,Tryz.func318.trans (congrArg some (by kernel_rfl))⟩
 t0:=Tryz.underlying0
 a0:=Tryz.isAgg0
 z0:=Tryz.sizeOf0
 v0:=Tryz.zeroValue0
 t3:=Tryz.underlying3
 a3:=Tryz.isAgg3
 z3:=Tryz.sizeOf3
 v3:=Tryz.zeroValue3
 t4:=Tryz.underlying4
 a4:=Tryz.isAgg4
 z4:=Tryz.sizeOf4
 v4:=Tryz.zeroValue4
 t5:=Tryz.underlying5
 a5:=Tryz.isAgg5
 z5:=Tryz.sizeOf5
 v5:=Tryz.zeroValue5
 t9:=Tryz.underlying9
 a9:=Tryz.isAgg9
 z9:=Tryz.sizeOf9
 v9:=Tryz.zeroValue9
 t22:=Tryz.underlying238
 a22:=Tryz.isAgg238
 z22:=Tryz.sizeOf238
 v22:=Tryz.zeroValue238
 t25:=Tryz.underlying244
 a25:=Tryz.isAgg244
 z25:=Tryz.sizeOf244
 v25:=Tryz.zeroValue244
 t39:=Tryz.underlying164
 a39:=Tryz.isAgg164
 z39:=Tryz.sizeOf164
 v39:=Tryz.zeroValue164
 t45:=Tryz.underlying250
 a45:=Tryz.isAgg250
 z45:=Tryz.sizeOf250
 v45:=Tryz.zeroValue250
 t46:=Tryz.underlying251
 a46:=Tryz.isAgg251
 z46:=Tryz.sizeOf251
 v46:=Tryz.zeroValue251
 t50:=Tryz.underlying92
 a50:=Tryz.isAgg92
 z50:=Tryz.sizeOf92
 v50:=Tryz.zeroValue92
 t53:=Tryz.underlying257
 a53:=Tryz.isAgg257
 z53:=Tryz.sizeOf257
 v53:=Tryz.zeroValue257
 t55:=Tryz.underlying259
 a55:=Tryz.isAgg259
 z55:=Tryz.sizeOf259
 v55:=Tryz.zeroValue259
 t66:=Tryz.underlying295
 a66:=Tryz.isAgg295
 z66:=Tryz.sizeOf295
 v66:=Tryz.zeroValue295
 t70:=Tryz.underlying299
 a70:=Tryz.isAgg299
 z70:=Tryz.sizeOf299
 v70:=Tryz.zeroValue299
 t76:=Tryz.underlying328
 a76:=Tryz.isAgg328
 z76:=Tryz.sizeOf328
 v76:=Tryz.zeroValue328
 t77:=Tryz.underlying272
 a77:=Tryz.isAgg272
 z77:=Tryz.sizeOf272
 v77:=Tryz.zeroValue272 }
end
section
open Go.Shelf
def Tryz.lays122_ren:Go.Shelf.Ren:=⟨fun | 122=>187 | 215=>253 | n=>n,fun | 3=>3 | 4=>4 | n=>n,fun | n=>n⟩
def Tryz.lays122:Go.Proofs.Lays.n122 Tryz.prog Tryz.lays122_ren:={
 mixed:=by kernel_rfl
 f122:=Tryz.func187.trans (congrArg some (by kernel_rfl))
 f215:=Tryz.func253.trans (congrArg some (by kernel_rfl))
 t3:=Tryz.underlying3
 a3:=Tryz.isAgg3
 z3:=Tryz.sizeOf3
 v3:=Tryz.zeroValue3
 t4:=Tryz.underlying4
 a4:=Tryz.isAgg4
 z4:=Tryz.sizeOf4
 v4:=Tryz.zeroValue4 }
open Go.RowKit in
def Tryz.cmp_Compare_int (x y:Int) (w:World) :
  Calls Tryz.prog 187 #[.int .i64 x,.int .i64 y] w λe w'=>e=.returned (.int .i64 (Lib.compareInt x y))/\w'=w:=Any.cmp_Compare_int Tryz.lays122 x y w
end
end Go.Proofs
namespace Go.Proofs.YthmgnolcfjiicaaGreatDoor
open Go.Ab
variable {h:AH}{a0 a1 a10 a11 a2 a3 a4 a5 a6 a7 a8 a9 c0 c1 c2 c3 c4 c5 c6 c7 c8 c9:AV}{fm nm:ByteArray}{d0 e0 e1 f:Ent}{x:Era}{b sa sh:Int}{g:Int->Loc}{l:List AV}{es:List Era}{k:List Lnk}{rl:List Rul}{vs:List Value}{z:List Zon}{D N Y i ty v:Nat}{bsy fin o rdy:Obj}{s:Src}
section
open Go.Ab Go.RowKit Civ Go.Sort
def trnV (t:Trn):List Value:=[.int .i64 t.1,.string t.2.1,.int .i64 t.2.2.1,.int .i64 t.2.2.2.1,.int .i64 t.2.2.2.2.1,.int .i64 t.2.2.2.2.2.1.1,.int .i64 t.2.2.2.2.2.1.2.1,.int .i64 t.2.2.2.2.2.1.2.2,.int .i64 t.2.2.2.2.2.2.1,.int .i64 t.2.2.2.2.2.2.2.1,.int .i64 t.2.2.2.2.2.2.2.2.1,.string t.2.2.2.2.2.2.2.2.2]
def cmpT (a b:Trn):Int:=Lib.compareInt a.1 b.1
def ZwF (a b:Trn):Go.Proofs.ltOf cmpT a b=decide (a.1<b.1):=by
 unfold Go.Proofs.ltOf cmpT Lib.compareInt
 rw[Bool.eq_iff_iff]
 simp only[decide_eq_true_eq]
 repeat' split
 all_goals omega
def cmpT_swo:SWO (Go.Proofs.ltOf cmpT):=by
 refine⟨λx=>?_,λx y z=>?_,λx y z=>?_⟩ <;> simp only[ZwF,decide_eq_true_eq,decide_eq_false_iff_not] <;> omega
def cmp_walk (x y:Trn) (w:World):Calls Tryz.prog 186 #[.agg (trnV x).toArray,.agg (trnV y).toArray] w λe w'=>e=.returned (.int .i64 (cmpT x y)) /\ ∃ q os,w'=grow (w.drewN q) os:=by
 obtain⟨a,n,f,t,m,⟨k,v,d⟩,c,e,s,l⟩:=x
 obtain⟨a2,n2,f2,t2,m2,⟨k2,v2,d2⟩,c2,e2,s2,l2⟩:=y
 simp only[trnV]
 go_enter Tryz.func186,Tryz.ntmps186
 go_wp2_with (go_at_call 187;refine (Tryz.cmp_Compare_int _ _ _).mono ?_;rintro e w' ⟨rfl,rfl⟩)
 go_ret
 refine⟨rfl,?_⟩
 rw[alloc_eq_grow,alloc_eq_grow,grow_grow]
 exact⟨0,_,rfl⟩
def ordT (l l':List Trn):Prop:=l'.Perm l/\l'.Pairwise λa b=>a.1<=b.1
def sortT_a {id ver:Nat}{l:List Trn}(hi:h[id]?=some (.mk ver ty 12 (rows trnC l))) (hl:l≠[]) (hz:l.length<4611686018427387904) :
  ACalls Tryz.prog 185 [.own id ver l.length,.v (.func (.func 186) #[] #[])] h λx h'=>x=.ret (.tup []) /\ ∃ l',ordT l l'/\h'=h.set id (.mk ver ty 12 (rows trnC l')):=by
 refine (sort_a (P:=Tryz.prog) Tryz.sl9 (k:=12) om (λw=>by kernel_rfl) (λw=>by kernel_rfl) (enc:=trnV) (λ_=>rfl) (λt v hv=>?_) cmpT_swo (g0:=186) (λargs w=>?_) (λblk off size w m os dk hd x y=>cmp_walk x y _) hi hl hz (by kernel_rfl)).mono ?_
 .unfold trnV at hv
  simp only[List.mem_cons,List.not_mem_nil,or_false] at hv
  rcases hv with rfl | rfl | rfl | rfl | rfl | rfl | rfl | rfl | rfl | rfl | rfl | rfl <;> rfl
 .exact ZeW (by kernel_rfl) args w
 .rintro x h' ⟨rfl,l',hp,hs,rfl⟩
  refine⟨rfl,l',⟨hp,List.pairwise_iff_getElem.2 λi j hi hj hij=>?_⟩,rfl⟩
  have:=hs i j hi hj hij
  rw[ZwF] at this
  simp only[decide_eq_false_iff_not] at this
  omega
end
section
open Go.Ab Go.RowKit Civ
attribute [local simp] ZbR ZmX Zd4
section
def ZjZ {c10 c11:AV}:setCells (a0::a1::a2::a3::a4::a5::a6::a7::a8::a9::a10::a11::l) 0 [c0,c1,c2,c3,c4,c5,c6,c7,c8,c9,c10,c11]=c0::c1::c2::c3::c4::c5::c6::c7::c8::c9::c10::c11::l:=rfl
def Zqd :((a0::a1::a2::a3::a4::a5::a6::a7::a8::a9::a10::a11::l).drop 0).take 12=[a0,a1,a2,a3,a4,a5,a6,a7,a8,a9,a10,a11]:=rfl
def Zoe {τ:Operand->AV}{y0:Operand}{x0_0 x0_1 x0_2 x0_3 x0_4 x0_5 x0_6 x0_7 x0_8 x0_9 x0_10 x0_11:AV}(h0:Zaq (τ y0)=some [x0_0,x0_1,x0_2,x0_3,x0_4,x0_5,x0_6,x0_7,x0_8,x0_9,x0_10,x0_11]) (l0:[x0_0,x0_1,x0_2,x0_3,x0_4,x0_5,x0_6,x0_7,x0_8,x0_9,x0_10,x0_11].all leaf=true):Zal τ [(0,12,y0)] [(iv 0),(.v (.string ⟨#[]⟩)),(iv 0),(iv 0),(iv 0),(iv 0),(iv 0),(iv 0),(iv 0),(iv 0),(iv 0),(.v (.string ⟨#[]⟩))]=some [x0_0,x0_1,x0_2,x0_3,x0_4,x0_5,x0_6,x0_7,x0_8,x0_9,x0_10,x0_11]:=by
 simp only[Zal,h0,l0]
 rfl
def Zth :(a0::a1::a2::a3::a4::a5::a6::a7::a8::a9::a10::a11::l).take 12=[a0,a1,a2,a3,a4,a5,a6,a7,a8,a9,a10,a11]:=rfl
def Zti :setCells (a0::l) 0 [c0]=c0::l:=rfl
def ZjY :((a0::a1::a2::a3::a4::a5::a6::a7::a8::a9::a10::a11::l).drop 1).take 11=[a1,a2,a3,a4,a5,a6,a7,a8,a9,a10,a11]:=rfl
def Zha {τ:Operand->AV}{y0 y1 y2:Operand}{x0_0 x1_0 x2_0:AV}(h0:Zaq (τ y0)=some [x0_0]) (l0:[x0_0].all leaf=true) (h1:Zaq (τ y1)=some [x1_0]) (l1:[x1_0].all leaf=true) (h2:Zaq (τ y2)=some [x2_0]) (l2:[x2_0].all leaf=true):Zal τ [(0,1,y0),(1,1,y1),(2,1,y2)] [(iv 0),(iv 0),(.v (.string ⟨#[]⟩))]=some [x0_0,x1_0,x2_0]:=by
 simp only[Zal,h0,l0,h1,l1,h2,l2]
 rfl
def Zg9 {τ:Operand->AV}{y0:Operand}{x0_0 x0_1 x0_2:AV}(h0:Zaq (τ y0)=some [x0_0,x0_1,x0_2]) (l0:[x0_0,x0_1,x0_2].all leaf=true):Zal τ [(0,3,y0)] [(iv 0),(iv 0),(.v (.string ⟨#[]⟩))]=some [x0_0,x0_1,x0_2]:=by
 simp only[Zal,h0,l0]
 rfl
def Zod { e:Ent}:([]:AH)++[e]=[e]:=rfl
def Zly {e2 e3 e4 e5:Ent}:([e0,e1,e2,e3,e4,e5]:AH)++[d0]=[e0,e1,e2,e3,e4,e5,d0]:=rfl
def Zoc :(a0::a1::a2::l).take 3=[a0,a1,a2]:=rfl
end
def c126p:AC:=(.seq (.reg [⟨(some 6),none,(.mv (.const (.slice none 0 0)))⟩,⟨(some 7),none,(.mv (.const (.int .i64 0)))⟩]) (.seq (.reg [⟨(some 15),none,(.mv (.tmp 0))⟩,⟨(some 16),none,(.mv (.tmp 1))⟩,⟨(some 17),none,(.mv (.tmp 2))⟩,⟨(some 18),none,(.call (.func 183) [(.tmp 15),(.tmp 16),(.tmp 17)])⟩,⟨(some 8),none,(.mv (.tmp 18))⟩]) (.seq (.reg [⟨(some 19),none,(.mv (.tmp 8))⟩,⟨(some 20),none,(.bin .neq (.tmp 19) (.const (.int .i64 0)))⟩]) (.seq (.cond (.tmp 20) (.seq (.reg [⟨(some 21),none,(.mv (.tmp 8))⟩,⟨(some 6),none,(.mv (.const (.slice none 0 0)))⟩,⟨(some 7),none,(.mv (.tmp 21))⟩]) .ret) .skip) (.seq (.reg [⟨(some 9),none,(.new 238 1 [(.sl 0 0 true [])])⟩]) (.seq (.reg [⟨(some 22),none,(.mv (.tmp 0))⟩,⟨(some 23),none,(.mv (.tmp 1))⟩,⟨(some 24),none,(.call (.func 184) [(.tmp 22),(.tmp 23)])⟩]) .skip))))))
def c126a:AC:=(.reg [⟨(some 10),none,(.new 242 12 [(iv 0),(.v (.string ⟨#[]⟩)),(iv 0),(iv 0),(iv 0),(iv 0),(iv 0),(iv 0),(iv 0),(iv 0),(iv 0),(.v (.string ⟨#[]⟩))])⟩,⟨none,none,(.store 12 (.tmp 10) (.tmp 25))⟩])
def c126b:AC:=(.block 1 (.reg [⟨(some 26),none,(.load false 1 (.tmp 9))⟩,⟨(some 27),none,(.load true 12 (.tmp 10))⟩,⟨(some 28),none,(.lit 242 12 1 [(iv 0),(.v (.string ⟨#[]⟩)),(iv 0),(iv 0),(iv 0),(iv 0),(iv 0),(iv 0),(iv 0),(iv 0),(iv 0),(.v (.string ⟨#[]⟩))] [(0,(12,(.tmp 27)))])⟩,⟨(some 29),none,(.app 242 12 112 (.tmp 26) (.tmp 28))⟩,⟨none,none,(.store 1 (.tmp 9) (.tmp 29))⟩]))
def c126q:AC:=(.seq (.reg [⟨(some 30),none,(.load false 1 (.tmp 9))⟩,⟨(some 31),none,(.call (.func 185) [(.tmp 30),(.func 186)])⟩]) (.seq (.reg [⟨(some 11),none,(.mv (.const (.slice none 0 0)))⟩]) (.seq (.reg [⟨(some 12),none,(.mv (.const (.int .i64 0)))⟩]) (.seq (.reg [⟨(some 32),none,(.load false 1 (.tmp 9))⟩,⟨(some 33),none,(.len false (.tmp 32))⟩,⟨(some 34),none,(.mv (.const (.int .i64 0)))⟩]) (.seq (.block 2 (.loop (.seq (.reg [⟨(some 35),none,(.bin .lss (.tmp 34) (.tmp 33))⟩]) (.seq (.cond (.tmp 35) .skip (.exit 2)) (.seq (.block 3 (.seq (.reg [⟨(some 36),none,(.mv (.tmp 34))⟩,⟨(some 37),none,(.ia 12 (.tmp 32) (.tmp 34))⟩,⟨(some 38),none,(.load true 12 (.tmp 37))⟩,⟨(some 14),none,(.new 242 12 [(iv 0),(.v (.string ⟨#[]⟩)),(iv 0),(iv 0),(iv 0),(iv 0),(iv 0),(iv 0),(iv 0),(iv 0),(iv 0),(.v (.string ⟨#[]⟩))])⟩,⟨(some 13),none,(.mv (.tmp 36))⟩,⟨none,none,(.store 12 (.tmp 14) (.tmp 38))⟩]) (.seq (.seq (.drw [⟨(some 39),none,(.mv (.tmp 13))⟩,⟨(some 40),none,(.bin .gtr (.tmp 39) (.const (.int .i64 0)))⟩,⟨(some 41),none,(.mv (.tmp 40))⟩,⟨(some 42),(some (41,true)),(.fa 0 (.tmp 14))⟩,⟨(some 43),(some (41,true)),(.load false 1 (.tmp 42))⟩,⟨(some 44),(some (41,true)),(.load false 1 (.tmp 9))⟩,⟨(some 45),(some (41,true)),(.mv (.tmp 13))⟩,⟨(some 46),(some (41,true)),(.bin .sub (.tmp 45) (.const (.int .i64 1)))⟩,⟨(some 47),(some (41,true)),(.ia 12 (.tmp 44) (.tmp 46))⟩,⟨(some 48),(some (41,true)),(.fa 0 (.tmp 47))⟩,⟨(some 49),(some (41,true)),(.load false 1 (.tmp 48))⟩,⟨(some 50),(some (41,true)),(.bin .sub (.tmp 43) (.tmp 49))⟩,⟨(some 51),(some (41,true)),(.bin .lss (.tmp 50) (.const (.int .i64 172800)))⟩,⟨(some 52),none,(.pick (.tmp 41) (.tmp 51) (.const (.bool false)))⟩] [] []) (.cond (.tmp 52) (.seq (.reg [⟨(some 6),none,(.mv (.const (.slice none 0 0)))⟩,⟨(some 7),none,(.mv (.const (.int .i64 4)))⟩]) .ret) .skip)) (.seq (.drw [⟨(some 53),none,(.mv (.tmp 11))⟩,⟨(some 54),none,(.fa 0 (.tmp 14))⟩,⟨(some 55),none,(.load false 1 (.tmp 54))⟩,⟨(some 56),none,(.fa 1 (.tmp 14))⟩,⟨(some 57),none,(.load true 11 (.tmp 56))⟩,⟨(some 58),none,(.mv (.tmp 2))⟩,⟨(some 59),none,(.mv (.tmp 12))⟩,⟨(some 60),none,(.call (.func 188) [(.tmp 57),(.tmp 58),(.tmp 59)])⟩,⟨(some 61),none,(.bin .sub (.tmp 55) (.tmp 60))⟩,⟨(some 62),none,(.fa 1 (.tmp 14))⟩,⟨(some 63),none,(.fa 9 (.tmp 62))⟩,⟨(some 64),none,(.load false 1 (.tmp 63))⟩,⟨(some 65),none,(.fa 1 (.tmp 14))⟩,⟨(some 66),none,(.fa 10 (.tmp 65))⟩,⟨(some 67),none,(.load false 1 (.tmp 66))⟩,⟨(some 68),none,(.build [(iv 0),(iv 0),(.v (.string ⟨#[]⟩))] [(0,(1,(.tmp 61))),(1,(1,(.tmp 64))),(2,(1,(.tmp 67)))])⟩,⟨(some 69),none,(.lit 247 3 1 [(iv 0),(iv 0),(.v (.string ⟨#[]⟩))] [(0,(3,(.tmp 68)))])⟩] [false,false] [⟨(some 70),none,(.app 247 3 32 (.tmp 53) (.tmp 69))⟩,⟨(some 11),none,(.mv (.tmp 70))⟩]) (.reg [⟨(some 71),none,(.fa 1 (.tmp 14))⟩,⟨(some 72),none,(.fa 9 (.tmp 71))⟩,⟨(some 73),none,(.load false 1 (.tmp 72))⟩,⟨(some 12),none,(.mv (.tmp 73))⟩]))))) (.reg [⟨(some 74),none,(.bin .add (.tmp 34) (.const (.int .i64 1)))⟩,⟨(some 34),none,(.mv (.tmp 74))⟩])))))) (.seq (.reg [⟨(some 75),none,(.mv (.tmp 11))⟩,⟨(some 76),none,(.len false (.tmp 75))⟩,⟨(some 77),none,(.bin .gtr (.tmp 76) (.const (.int .i64 1000)))⟩]) (.seq (.cond (.tmp 77) (.seq (.reg [⟨(some 6),none,(.mv (.const (.slice none 0 0)))⟩,⟨(some 7),none,(.mv (.const (.int .i64 2)))⟩]) .ret) .skip) (.seq (.reg [⟨(some 78),none,(.mv (.tmp 11))⟩,⟨(some 6),none,(.mv (.tmp 78))⟩,⟨(some 7),none,(.mv (.const (.int .i64 0)))⟩]) (.seq .ret .skip)))))))))
abbrev fr126:AFR:=⟨[(.reg [⟨(some 6),none,(.mv (.const (.slice none 0 0)))⟩,⟨(some 7),none,(.mv (.const (.int .i64 0)))⟩]),(.reg [⟨(some 15),none,(.mv (.tmp 0))⟩,⟨(some 16),none,(.mv (.tmp 1))⟩,⟨(some 17),none,(.mv (.tmp 2))⟩,⟨(some 18),none,(.call (.func 183) [(.tmp 15),(.tmp 16),(.tmp 17)])⟩,⟨(some 8),none,(.mv (.tmp 18))⟩]),(.reg [⟨(some 19),none,(.mv (.tmp 8))⟩,⟨(some 20),none,(.bin .neq (.tmp 19) (.const (.int .i64 0)))⟩]),(.cond (.tmp 20) (.seq (.reg [⟨(some 21),none,(.mv (.tmp 8))⟩,⟨(some 6),none,(.mv (.const (.slice none 0 0)))⟩,⟨(some 7),none,(.mv (.tmp 21))⟩]) .ret) .skip),(.reg [⟨(some 9),none,(.new 238 1 [(.sl 0 0 true [])])⟩]),(.reg [⟨(some 22),none,(.mv (.tmp 0))⟩,⟨(some 23),none,(.mv (.tmp 1))⟩,⟨(some 24),none,(.call (.func 184) [(.tmp 22),(.tmp 23)])⟩])],(.tmp 24),#[25],c126a,c126b,c126q,[(.tmp 6),(.tmp 7)],79⟩
def k126:Zis Tryz.prog 126=some fr126:=by kernel_rfl
def turns_ne {l:List Rul}(h : ∀ r∈l,Zbv r=0) (hn : ∃ r∈l,r.1=nm):Zbg l nm≠[]:=by
 obtain⟨r,hr,e⟩:=hn
 have h1:=Zhj (h r hr)
 obtain⟨_,q2,_⟩:=ZbF (h r hr)
 intro hE
 have:Zc2 r=[]:=by
  unfold Zbg at hE
  rw[List.flatMap_eq_nil_iff] at hE
  have:=hE r hr
  rwa [if_pos e] at this
 rw[this] at h1
 simp at h1
 have q2:r.2.1<=r.2.2.1:=q2
 have h2:(0:Int)=r.2.2.1-r.2.1+1:=h1
 omega
abbrev timT (N:Nat) (l:List Rul) (nm:ByteArray) (sh:Int) (x:AV):List AV:=[.sl l.length 11 false (rows rulC l),sv nm,iv sh,.any,.any,.any,.any,.any,.any,.ptr (N+0) 0 0,.any,.any,.any,.any,.any,.any,.any,.any,.any,.any,.any,.any,.any,.any,.clo (.func 251) [.rp [.sl l.length 11 false (rows rulC l)],.rp [sv nm]],x,.any,.any,.any,.any,.any,.any,.any,.any,.any,.any,.any,.any,.any,.any,.any,.any,.any,.any,.any,.any,.any,.any,.any,.any,.any,.any,.any,.any,.any,.any,.any,.any,.any,.any,.any,.any,.any,.any,.any,.any,.any,.any,.any,.any,.any,.any,.any,.any,.any,.any,.any,.any,.any]
abbrev timH (h:AH) (D l N:Nat) (o:Obj) (T:List AV) (vs:List Value) (d:List Trn):AH:=h++[.mk 0 238 1 [.own (N+1) d.length d.length],.mk d.length 242 12 (rows trnC d),mkD D,.raw l o T vs]
abbrev timJ (h:AH) (D l N:Nat) (o:Obj) (T:List AV) (vs:List Value) (d:List Trn) (e f:Ent):AH:=h++[.mk 0 238 1 [.own (N+1) d.length d.length],.mk d.length 242 12 (rows trnC d),mkD D,.raw l o T vs,e,f]
def Zrd {n:Nat} : ∀ {a b:List AV},AV.ltL n (a++b)=(AV.ltL n a&&AV.ltL n b)
 | [],b=>by simp[AV.ltL]
 | c::a,b=>by simp[AV.ltL,Zrd (a:=a) (b:=b),Bool.and_assoc]
def Zuv {l:Nat}{T:List AV}{d:List Trn}{e:Ent}:timH h D l N o T vs d++[e,f]=timJ h D l N o T vs d e f:=by simp
abbrev timK (P:Program) (lp N D:Nat) (rdy bsy fin:Obj) (l:List Rul) (nm:ByteArray) (sh:Int) (vs:List Value):Prop:=ZmK P fr126 (N+2+1) lp rdy bsy fin (timT N l nm sh .any) vs
def timT_lt {l:List Rul}:AV.ltL (N+4) (timT N l nm sh .any)=true:=by simp[AV.ltL,AV.lt,ZbR]
def timH_lt {lp:Nat}{l:List Rul}(hlt : ∀ e∈h,e.lt N=true) (d:List Trn) : ∀ e∈timH h D lp N o (timT N l nm sh .any) vs d,e.lt (N+4)=true:=by
 intro e he
 rcases List.mem_append.1 he with he | he
 .exact ltw om hlt e he
 simp only[List.mem_cons,List.not_mem_nil,or_false] at he
 rcases he with rfl | rfl | rfl | rfl
 .simp[Ent.lt,AV.ltL,AV.lt]
 .simp[Ent.lt,ZmX]
 .simp[Ent.lt,AV.ltL]
 simpa [Ent.lt] using timT_lt
def app62 {a b c d e p q:Ent}:h++[a,b,c,d,e,f,p,q]=(h++[a,b,c,d,e,f])++[p,q]:=by simp
def ZoM {lp:Nat}{l:List Rul}(hn:h.length=N) (hlt : ∀ e∈h,e.lt N=true) (hY:timK Tryz.prog lp N D rdy bsy fin l nm sh vs) {d:List Trn}{t:Trn}{e:Ent}(hd:d.length<10000) :
  AYield Tryz.prog lp [.agg (trnC t)] (timJ h D lp N rdy (timT N l nm sh .any) vs d e f) λr h''=>r=.ret (.v (.bool true))/\h''=timJ h D lp N rdy (timT N l nm sh .any) vs (d++[t]) e f:=by
 refine y_go hY (hga (k:=3) hn rfl) rfl λn0 hn0 hlt0 q1 q2 q3=>?_
 obtain⟨a,n,fr,tt,m,⟨kd,wk,dn⟩,at_,ck,sv_,lt⟩:=t
 show aw _ _ c126a _ _ _
 show aw _ _ _ _ (timT N l nm sh (.agg (trnC (a,n,fr,tt,m,(kd,wk,dn),at_,ck,sv_,lt)))) (h++[.mk 0 238 1 [.own (N+1) d.length d.length],.mk d.length 242 12 (rows trnC d),mkD D,.raw lp rdy (timT N l nm sh .any) vs,e,f])
 refine Zao<|E' (ZaR hl6 ha6) pt<|E' (Zai lk cv gx rfl nb rfl ZjZ hs6) ptn<|Zam<|?_
 refine Zxb (i:=N+3) gx hs3 λn1 hn1 hlt1=>?_
 show aw _ _ c126b _ _ _
 refine Zag<|Zao<|Vw (Zaa lk gx gt0)<|Vw (Zad lk gx Zqd rfl)<|E' (ZcB (Zoe cv rfl) hl7 ha7) pt<|?_
 refine E' (Zby (Zbm lk gx rfl Zth nb) lk gx (Zuo _) om rfl hs1) pt ?_
 refine E' (Zai lk cv gx rfl nb rfl Zti hs0) ptn<|Zam<|Zau<|?_
 refine ZjL (i:=N+3) gx hs3 ?_
 refine⟨_,_,app62,?_,λx hx=>?_,rfl,rfl,?_⟩
 .rw[<-hn0];simp
 .have hm:n0=N+6:=by rw[<-hn0];simp[hn]
  subst hm
  rcases List.mem_append.1 hx with hx | hx
  .exact ltw om hlt x hx
  simp only[List.mem_cons,List.not_mem_nil,or_false] at hx
  rcases hx with rfl | rfl | rfl | rfl | rfl | rfl
  .simp[Ent.lt,AV.ltL,AV.lt]
  .simp[Ent.lt,ZmX,Zrd,AV.ltL,AV.lt]
  .simp[Ent.lt,AV.ltL]
  .exact hlt0 _ (by simp)
  .exact hlt0 _ (by simp)
  exact hlt0 _ (by simp)
 unfold timJ;rw[ZaG,Zbw,List.length_append];rfl
def sortT_b {a:Ent}{l:AH}{S:List Trn}(hn:h.length=N) (hl:S≠[]) (hz:S.length<4611686018427387904) :
  ACalls Tryz.prog 185 [.own (N+1) v S.length,.v (.func (.func 186) #[] #[])] (h++(a::.mk v ty 12 (rows trnC S)::l)) λx h'=>x=.ret (.tup []) /\ ∃ S',ordT S S'/\h'=h++(a::.mk v ty 12 (rows trnC S')::l):=by
 refine (sortT_a (hga (k:=1) hn rfl) hl hz).mono ?_
 rintro x h' ⟨rfl,S',h1,rfl⟩
 exact⟨rfl,S',h1,hs1 hn⟩
def gapB_pre {l:List Trn}(h:i<l.length) (h0:0<i) (hg:l[i].1-(l[i-1]'(by omega)).1<172800):gapB l=true:=by
 obtain⟨i,rfl⟩ : ∃ i0,i=i0+1:=⟨i-1,by omega⟩
 exact ZnM h hg
def gap_ok {S:List Trn}(hi : ∀ j (h:j+1<S.length),j+1<i->172800<=S[j+1].1-S[j].1) (hl:S.length<=i):gapB S=false:=(ZiW S).2 λj h=>hi j h om
def Zr2 {lp n0:Nat}{o:Obj}{l:List Rul}{vs:List Value}(hn:h.length=N) (hlt : ∀ e∈h,e.lt N=true) (hr0:Zdz l nm sh=0) (hn0:N+4=n0) :
  aw Tryz.prog n0 c126q (Zfm fr126.res (N+2) D λx h' => ∃ z,h'=h++z/\x.lt N=true /\ ∃ c,x=.ret c/\Wk c (.tup [.sl (Zbf l nm sh).1.length 3 false (rows timC (Zbf l nm sh).1),iv (Zbf l nm sh).2])) (timT N l nm sh .any)
   (h++[.mk 0 238 1 [.own (N+1) (Zbg l nm).length (Zbg l nm).length],.mk (Zbg l nm).length 242 12 (rows trnC (Zbg l nm)),mkD D,.gone]):=by
 obtain⟨g1,g2,g3,g4⟩:=ZgN hr0
 have hne:=turns_ne g2 g4
 have htl:=ZgB (nm:=nm) g2
 have htO : ∀ t∈Zbg l nm,Zbv t.2=0 /\ -2592000000<=t.1/\t.1<=4320172800:=λt ht=>ZiL g2 ht
 subst hn0
 show aw _ _ c126q _ _ _
 refine wr'<|Vw (Zaa lk gx gt0)<|?_
 refine s_callE mp (sortT_b hn hne om) pt ?_
 rintro S hS
 have hSl:=hS.1.length_eq
 have hSO : ∀ t∈S,Zbv t.2=0 /\ -2592000000<=t.1/\t.1<=4320172800:=λt ht=>htO t (hS.1.mem_iff.1 ht)
 have hTV:=ZlT (sh:=sh) hr0 hS.1 hS.2
 rw[<-hSl]
 refine sn'<|wr'<|mv' lkn pt11<|Zam<|ZaN (ALe.own0' (st':=3) (ty:=247) gt11 hl4 pt11 ha4)<|wr'<|mv' lki pt12<|sn'<|wr'<|?_
 refine Vw (Zaa lk gx gt0)<|Vw (Zcy lk)<|ms<|Zab<|Zag<|?_
 refine w_lp (ι:=Nat) (λ(i:Nat)=>[(11,.own (N+4) i (outV sh 0 (S.take i)).length),(12,iv (svAt S i)),(34,iv (i:Int)),(6,.any),(7,.any),(13,.any),(14,.any)]++rn' 35 40) (λ(i:Nat)=>[(4,.mk i 247 3 (rows timC (outV sh 0 (S.take i))))]) (λ(i:Nat)=>i<=S.length /\ ∀ j (h:j+1<S.length),j+1<i->172800<=S[j+1].1-S[j].1) (λ(i:Nat)=>S.length-i) (0) (by exact⟨Nat.zero_le _,λj _ h=>by omega⟩) ?_
 rintro i hi1
 try simp only[sm',Nat.reduceAdd]
 obtain⟨hi1,hi2⟩:=hi1
 refine wr'<|Vw (ZaJ lk lk)<|sn'<|Zab<|?_
 refine cd' lk (λhc1=>?_) (λhc1=>?_)
 .have hi:i<S.length:=by omega
  obtain⟨hb0,hb1⟩:=hSO _ (List.getElem_mem hi)
  have hsv:=ZuF (i:=i) λt ht=>(hSO t ht).1
  have hoff:=ZvK (r:=S[i].2) g3 hsv
  have hol2:(outV sh 0 (S.take (i+1))).length=i+1:=by rw[Zd9,List.length_take];omega
  have hol:(outV sh 0 (S.take i)).length=i:=by rw[Zd9,List.length_take];omega
  refine za<|Zab<|Zag<|wm<|?_
  refine V' (ZaW lk lk gx ZaI nb ro om (by first | rfl | (simp;done) | omega)) pt ?_
  refine V' (Zfh lk gx ZaI om rfl) pt ?_
  refine E' (ZaR hl5 ha5) pt<|mw<|E' (Zai lk cv gx rfl nb rfl ZjZ hs5) ptn<|sn'<|Zab<|Zab<|ZaD<|Dw vm<|Dw (Zbr lk lki)<|Dw vm<|?_
  refine dq' (t:=41) gt pt pt (λhg41=>?_) (λhg41=>?_)
  .obtain⟨hb3,hb4⟩:=hSO _ (List.getElem_mem (show i-1<S.length by omega))
   refine dO<|dg<|dO<|Dw (Zaa lk gx gt0)<|dO<|Dw (Zaa lk gx gt0)<|dO<|Dw vm<|dO<|?_
   refine D' (Za2 lk lki om om) pt ?_
   refine d_do gt ?_
   refine D' (ZaW (k:=i-1) lk lk gx ZaI nb ro om (by first | rfl | (simp;done) | omega)) pt ?_
   refine dO<|Dw (Zbu lk)<|dO<|?_
   refine D' (Zck lk gx ZaI om nb gt0) pt ?_
   refine d_do gt ?_
   refine D' (Za2 lk lk om om) pt ?_
   refine dO<|Dw (ZaJ lk lki)<|Dw (Zaj lk lk)<|ZaH<|?_
   refine ZaU ?_
   refine sn' ?_
   refine cd' lk (λhc2=>?_) (λhc2=>?_)
   .have hG:gapB S=true:=gapB_pre hi om hc2
    refine wm<|mr<|Zah<|Zap<|Zah<|Zah<|Zap<|Zah<|?_
    refine Zd8 gx hs2 ry ?_
    refine rtW' ?_
    rw[hTV,if_pos hG];exact Wk.tup (wkw Wk.nilF (wk1 rfl wk0))
   refine za<|Zab<|ZaD<|Dw vm<|dg<|Dw (Zaa lk gx gt0)<|dg<|Dw (Zad lk gx ZjY rfl)<|Dw vm<|Dw vm<|?_
   refine ZaB mp (λhE hX=>off_a g3 hsv) pt ?_
   refine D' (Za2 lk lk om om) pt ?_
   refine dg<|Dw (Zbu lk)<|Dw (Zaa lk gx gt10)<|dg<|Dw (Zbu lk)<|Dw (Zaa lk gx gt11)<|Dw (Zat (Zha cv rfl cv rfl cv rfl))<|ZcI rfl rfl (hlk hn rfl) (ZeR (Zg9 cv rfl)) pt Zod<|ZaH<|?_
   refine ZcH Zly ?_
   refine E' (Zby (Zbm lk gx rfl Zoc nb) lk gx (Zdo _) om rfl hs4) pt ?_
   refine ms<|Zao<|fq<|Vw (Zbu lk)<|Vw (Zaa lk gx gt10)<|mw<|Zam<|Zau<|Zan<|Zao<|?_
   refine ad<|mw<|Zam<|Zaw<|?_
   refine lU' (i+1) (by (try dsimp only);exact⟨by omega,λj hj h=>by by_cases e:j+1=i;(subst e;(try simp only[Nat.add_sub_cancel] at hc2);omega);exact hi2 j hj om⟩) (by refine zz ?_;exact bkE' 5 hn hlt (by repeat (first | exact wk0 | refine wka ?_ | refine wk1 rfl ?_ | refine wk1 (by first | rfl | exact ivx om | (rw[hol2,hol];done) | (rw[hol2,hol]) | (rw[ZgE hi])) ?_)) (by rw[Zdh hi,ZaG,Zbw];rfl))
  refine dn<|dn<|dn<|dn<|dn<|dn<|dn<|dn<|dn<|dn<|Dw (Zak lk lkb)<|ZaH<|?_
  refine ZaU ?_
  refine sn'<|ZaV lk<|za<|Zab<|ZaD<|Dw vm<|dg<|Dw (Zaa lk gx gt0)<|dg<|Dw (Zad lk gx ZjY rfl)<|Dw vm<|Dw vm<|?_
  refine ZaB mp (λhE hX=>off_a g3 hsv) pt ?_
  refine D' (Za2 lk lk om om) pt ?_
  refine dg<|Dw (Zbu lk)<|Dw (Zaa lk gx gt10)<|dg<|Dw (Zbu lk)<|Dw (Zaa lk gx gt11)<|Dw (Zat (Zha cv rfl cv rfl cv rfl))<|ZcI rfl rfl (hlk hn rfl) (ZeR (Zg9 cv rfl)) pt Zod<|ZaH<|?_
  refine ZcH Zly ?_
  refine E' (Zby (Zbm lk gx rfl Zoc nb) lk gx (Zdo _) om rfl hs4) pt ?_
  refine ms<|Zao<|fq<|Vw (Zbu lk)<|Vw (Zaa lk gx gt10)<|mw<|Zam<|Zau<|Zan<|Zao<|?_
  refine ad<|mw<|Zam<|Zaw<|?_
  refine lU' (i+1) (by (try dsimp only);exact⟨by omega,λj hj h=>by by_cases e:j+1=i;(subst e;(try simp only[Nat.add_sub_cancel] at hc2);omega);exact hi2 j hj om⟩) (by refine zz ?_;exact bkE' 5 hn hlt (by repeat (first | exact wk0 | refine wka ?_ | refine wk1 rfl ?_ | refine wk1 (by first | rfl | exact ivx om | (rw[hol2,hol];done) | (rw[hol2,hol]) | (rw[ZgE hi])) ?_)) (by rw[Zdh hi,ZaG,Zbw];rfl))
 have hie:i=S.length:=by omega
 subst hie
 rw[List.take_length]
 have hG:gapB S=false:=gap_ok hi2 (Nat.le_refl _)
 rw[if_neg (by rw[hG];simp)] at hTV
 have hol:=Zd9 S sh 0
 refine Zax<|Zas<|Zas<|ZaK<|Zan<|wm<|Vw (Zcy lk)<|Vw (Zbr lk lki)<|sn'<|Zab<|?_
 refine cd' lk (λhc3=>?_) (λhc3=>?_)
 .refine wm<|mr<|Zah<|?_
  refine Zd8 gx hs2 ry ?_
  refine rtW' ?_
  rw[hTV,if_pos om];exact Wk.tup (wkw Wk.nilF (wk1 rfl wk0))
 refine Zay ?_
 refine ZaN (ALe.iceR (hga hn rfl) gt11 (List.take_of_length_le (by rw[Zdo];exact Nat.le_refl _)) (by rw[Zdo];exact Nat.le_refl _) pt11 hs4) ?_
 refine wm<|mw<|ms<|Zab<|Zbh<|Zah<|?_
 refine Zd8 gx hs2 ry ?_
 refine rtW' ?_
 rw[hTV,if_neg om];exact Wk.tup (wkw Wk.full (wk1 rfl wk0))
def Zr3 {lp:Nat}{l:List Rul}(hn:h.length=N) (hlt : ∀ e∈h,e.lt N=true) (hr0:Zdz l nm sh=0) (hY:timK Tryz.prog lp N D rdy bsy fin l nm sh vs) {R:AE->AH->Prop}
    (hR:R=λx h' => ∃ z,h'=h++z/\x.lt N=true /\ ∃ c,x=.ret c/\Wk c (.tup [.sl (Zbf l nm sh).1.length 3 false (rows timC (Zbf l nm sh).1),iv (Zbf l nm sh).2])) :
    ACalls Tryz.prog 251 (.v (.func (.yield lp) #[] #[])::[.rp [.sl l.length 11 false (rows rulC l)],.rp [sv nm]]) (timH h D lp N rdy (timT N l nm sh .any) vs []) λr h3=>(∃ c,r=.ret c) /\
      ((h3[N+2+1]?=some (.raw lp rdy (timT N l nm sh .any) vs) /\ ∀ n0,(h3.set (N+2+1) .gone).length=n0->(∀ e∈h3.set (N+2+1) .gone,e.lt n0=true)->aw Tryz.prog n0 fr126.post (Zfm fr126.res (N+2) D R) (timT N l nm sh .any) (h3.set (N+2+1) .gone)) \/
       (h3[N+2+1]?=some (.raw lp fin (timT N l nm sh .any) vs)/\Zfm fr126.res (N+2) D R .ret (timT N l nm sh .any) (h3.set (N+2+1) .gone))):=by
  obtain⟨g1,g2,g3,g4⟩:=ZgN hr0
  have htl:=ZgB (nm:=nm) g2
  refine (turns1_a (H:=timH h D lp N rdy (timT N l nm sh .any) vs) g2 g1 (λd=>hl4 hn) (timH_lt hlt) (λd t e f hd=>?_)).mono ?_
  . rw[Zuv,Zuv]
    exact ZoM hn hlt hY om
  rintro x h3 ⟨rfl,rfl⟩
  refine⟨⟨_,rfl⟩,.inl ⟨hga (k:=3) hn rfl,λn0 hn0 _=>?_⟩⟩
  have hs:(timH h D lp N rdy (timT N l nm sh .any) vs (Zbg l nm)).set (N+2+1) .gone=h++[.mk 0 238 1 [.own (N+1) (Zbg l nm).length (Zbg l nm).length],.mk (Zbg l nm).length 242 12 (rows trnC (Zbg l nm)),mkD D,.gone]:=hs3 hn
  rw[hs] at hn0 ⊢
  subst hR
  exact Zr2 (o:=rdy) (lp:=lp) (vs:=vs) hn hlt hr0 ((hl4 hn).symm.trans hn0)
def Zuu {l:List Rul}(hok:okRs l) (hl:l.length<=9223372036854775807) :
  Ac 126 [.sl l.length 11 false (rows rulC l),sv nm,iv sh] h (.tup [.sl (Zbf l nm sh).1.length 3 false (rows timC (Zbf l nm sh).1),iv (Zbf l nm sh).2]):=by
 refine ACalls.weak (tR' k126 λN hn hlt _ hbd=>?_)
 show aw _ _ c126p _ _ _
 show aw _ _ _ _ [.sl l.length 11 false (rows rulC l),sv nm,iv sh,.any,.any,.any,.any,.any,.any,.any,.any,.any,.any,.any,.any,.any,.any,.any,.any,.any,.any,.any,.any,.any,.any,.any,.any,.any,.any,.any,.any,.any,.any,.any,.any,.any,.any,.any,.any,.any,.any,.any,.any,.any,.any,.any,.any,.any,.any,.any,.any,.any,.any,.any,.any,.any,.any,.any,.any,.any,.any,.any,.any,.any,.any,.any,.any,.any,.any,.any,.any,.any,.any,.any,.any,.any,.any,.any,.any] _
 refine wm<|ms<|wm<|mw<|mw<|Zac mp (ready_a hok hl) pt<|mw<|Zam<|?_
 refine Zan<|wm<|Vw (ZaY lk lki)<|sn'<|Zab<|?_
 refine cd' lk (λhc1=>?_) (λhc1=>?_)
 .refine wm<|mw<|mr<|Zah<|?_
  refine Zjc ry ?_
  refine rtW' ?_
  rw[Zep hc1];exact Wk.tup (wkw Wk.nilF (wk1 rfl wk0))
 refine za<|wr'<|E' (ZaR hl0 ha0) pt<|Zam<|?_
 refine ZaN (ALe.own0Cell (st':=12) (ty:=242) gx gt0 hl1 pt0 (Eq.trans (congrArg (λz=>List.set z _ _) ha1) hs0)) ?_
 refine wm<|mw<|Zac mp (turns_a) pt<|sn'<|Zay<|?_
 refine Zvr (T1:=timT N l nm sh .any) (ALe.same wA' rfl) rfl hl2 λlp D rdy bsy fin vs hle hlT hY=>?_
 have hgo:=Zr3 (D:=D) hn hlt (Decidable.of_not_not hc1) hY rfl
 rw[show (h++[Ent.mk 0 238 1 [.own (N+1) 0 0],Ent.mk 0 242 12 []]++[mkD D,Ent.raw lp rdy (timT N l nm sh .any) vs]:AH)=timH h D lp N rdy (timT N l nm sh .any) vs [] by simp[rows]]
 exact hgo
end
section
open Go.Ab
abbrev intC (n:Int):List AV:=[iv n]
def ZdX {n:Nat}(l:List Int):AV.ltL n (rows intC l)=true:=ZcV (λ_ _=>rfl) l
def int_leaf (l:List Int):(rows intC l).all leaf=true:=ZdU (λ_=>rfl) l
def Za4 : ∀ x,(intC x).length=1:=λ_=>rfl
def Zel (l:List Int):(rows intC l).length=l.length*1:=Zbp Za4 l
end
section
open Go.Ab Go.RowKit Civ
attribute [local simp] ZbR Zcn Zb6 Zbq Zbl ZdX
section
def Zxp :(a0::a1::a2::l).take 3=[a0,a1,a2]:=rfl
def ZsU :(a0::a1::a2::a3::a4::a5::a6::a7::a8::a9::l).take 10=[a0,a1,a2,a3,a4,a5,a6,a7,a8,a9]:=rfl
def Zp4 :setCells (a0::a1::a2::a3::a4::a5::a6::a7::a8::a9::l) 0 [c0,c1,c2,c3,c4,c5,c6,c7,c8,c9]=c0::c1::c2::c3::c4::c5::c6::c7::c8::c9::l:=rfl
def ZsV :((a0::a1::a2::a3::a4::a5::a6::a7::l).drop 5).take 3=[a5,a6,a7]:=rfl
def Ziv {τ:Operand->AV}{y0:Operand}{x0_0:AV}(h0:Zaq (τ y0)=some [x0_0]) (l0:[x0_0].all leaf=true):Zal τ [(0,1,y0)] [(iv 0)]=some [x0_0]:=by
 simp only[Zal,h0,l0]
 rfl
def Zn8 :(a0::l).take 1=[a0]:=rfl
def ZsX :((a0::a1::l).drop 0).take 2=[a0,a1]:=rfl
def ZsW :((a0::a1::a2::l).drop 0).take 3=[a0,a1,a2]:=rfl
def ZmJ {τ:Operand->AV}{y0 y1 y2:Operand}{x0_0 x1_0 x2_0:AV}(h0:Zaq (τ y0)=some [x0_0]) (l0:[x0_0].all leaf=true) (h1:Zaq (τ y1)=some [x1_0]) (l1:[x1_0].all leaf=true) (h2:Zaq (τ y2)=some [x2_0]) (l2:[x2_0].all leaf=true):Zal τ [(0,1,y0),(1,1,y1),(2,1,y2)] [(iv 0),(iv 0),(.v (.string ⟨#[]⟩))]=some [x0_0,x1_0,x2_0]:=by
 simp only[Zal,h0,l0,h1,l1,h2,l2]
 rfl
def ZsY :setCells (a0::a1::a2::l) 0 [c0,c1,c2]=c0::c1::c2::l:=rfl
end
def k248:=Kx 248 []
def k179:=Kx 179 []
def k178:=Kx 178 []
def k181:=Kx 181 []
def k130:=Kx 130 [.e [] 10 []]
def k129:=Kx 129 [.e [] 10 []]
def k128:=Kx 128 []
def k125:=Kx 125 []
def k301:=Kx 301 []
def k262:=Kx 262 [.e [] 15 [false]]
def k264:=Kx 264 []
def k209:=Kx 209 []
def place1_a {z:Zon}:Ac 248 [.agg (zonC z),.rp [sv nm]] h (bv (decide (z.1=nm))):=by
 refine tI' k248 λN hn _ _ hbd=>?_
 simp only[tb'] at hbd ⊢
 refine wr'<|E' (ZaM cv rfl hl0 ha0) pt<|ms<|wr'<|fq<|Vw (Zaa lk gx gt0)<|Vw (Zav lk gt)<|Vw (Ze4 lk lk)<|mw<|Zam<|?_
 exact Zan<|Zbh<|Zae rz<|rT' rfl
def Zeu (zs:List Zon) (nm:ByteArray):Int:=idxV (λz:Zon=>decide (z.1=nm)) zs
def place_a {a:List Rul}(hz:z.length<=9223372036854775807):Ac 179 [.agg [.sl a.length 11 false (rows rulC a),.sl z.length 2 false (rows zonC z),.sl k.length 2 false (rows lnkC k)],sv nm] h (iv (Zeu z nm)):=by
 refine tI' k179 λN hn _ _ hbd=>?_
 simp only[tb'] at hbd ⊢
 refine wr'<|E' (ZaM cv rfl hl0 ha0) pt<|E' (ZaM cv rfl hl1 ha1) pt<|mw<|Zam<|?_
 refine ZaN (ALe.icePtr gx gt3 (by simp) pt3 hs1) ?_
 refine wr'<|fq<|Vw (Zaa lk gx gt1)<|Vw (Zib mp)<|?_
 refine Zac mp (ixZonC_a (p:=λz=>decide (z.1=nm)) (λc _ _=>place1_a) hz) pt ?_
 exact mr<|Zae rz<|rT' rfl
def miss1_a {a:List Rul}{l:Lnk}(hz:z.length<=9223372036854775807):Ac 178 [.agg (lnkC l),.rp [.sl a.length 11 false (rows rulC a),.sl z.length 2 false (rows zonC z),.sl k.length 2 false (rows lnkC k)]] h (bv (decide (Zeu z l.1<0))):=by
 refine tI' k178 λN hn _ _ hbd=>?_
 simp only[tb'] at hbd ⊢
 refine wr'<|E' (ZaM cv rfl hl0 ha0) pt<|ms<|wr'<|Vw (Zar lk Zxp rfl)<|fq<|Vw (Zaa lk gx gt0)<|Zac mp (place_a hz) pt<|Vw (ZaJ lk lki)<|mw<|?_
 exact sr<|Zae rz<|rT' rfl
def Zpy {last:Bool}(h:eraX x last=0):(xRl x≠⟨#[]⟩->Zb2 (xRl x)=true)/\Zb4 (xFm x)=true/\(-64800<=xSh x/\xSh x<=64800)/\(0<=xSv x/\xSv x<=10800)/\(xRl x≠⟨#[]⟩->xSv x=0)/\xOp x=last /\
  (xOp x=false->Zbx x.2.2.2.2.2.1.1 x.2.2.2.2.2.1.2.1 x.2.2.2.2.2.1.2.2=true/\0<=x.2.2.2.2.2.2.1/\x.2.2.2.2.2.2.1<=172800):=by
 unfold eraX eraE at h
 split at h
 .cases h
 rename_i h1
 split at h
 .cases h
 rename_i h2
 split at h
 .cases h
 rename_i h3
 split at h
 .cases h
 rename_i h4
 have p1:xRl x≠⟨#[]⟩->Zb2 (xRl x)=true:=λhn=>Decidable.of_not_not λe=>h1 (.inl ⟨hn,e⟩)
 have p2:Zb4 (xFm x)=true:=Decidable.of_not_not λe=>h1 (.inr e)
 have p3:=Zbz.1 (Decidable.of_not_not λe=>h2 (.inl e))
 have p4:=Zbz.1 (Decidable.of_not_not λe=>h2 (.inr e))
 have p5:xRl x≠⟨#[]⟩->xSv x=0:=λhn=>Decidable.of_not_not λe=>h3 ⟨hn,e⟩
 refine⟨p1,p2,p3,p4,p5,Decidable.of_not_not h4,λho=>?_⟩
 rw[if_neg (by rw[show x.2.2.2.2.1=false from ho];simp)] at h
 split at h
 .cases h
 rename_i h5
 split at h
 .cases h
 rename_i h6
 exact⟨Decidable.of_not_not h5,Zbz.1 (Decidable.of_not_not h6)⟩
def ZnS : ∀ {l:List Era},Zkt l=0 -> ∀ k (h:k<l.length),eraX l[k] (decide (k+1=l.length))=0
 | [],_,k,h=>by simp at h
 | x::l,he,k,h=>by
  rw[Zkt] at he
  split at he
  .rename_i h1;exact absurd he h1
  rename_i h1
  cases k with
  | zero =>
   have h2:=Decidable.of_not_not h1
   have e:l.isEmpty=decide (0+1=(x::l).length):=by rw[Bool.eq_iff_iff,List.isEmpty_iff,decide_eq_true_iff,List.length_cons];cases l <;> simp
   rw[<-e];exact h2
  | succ k =>
   have:=ZnS he k (by simpa using h)
   simpa using this
structure okZ (es:List Era):Prop where
 ne:es≠[]
 fm : ∀ x∈es,Zb4 (xFm x)=true/\(-64800<=xSh x/\xSh x<=64800)/\(0<=xSv x/\xSv x<=10800)/\(xRl x≠⟨#[]⟩->xSv x=0)
 op : ∀ k (h:k<es.length),xOp es[k]=decide (k+1=es.length)
 un : ∀ k (h:k<es.length),k+1<es.length->Zbx es[k].2.2.2.2.2.1.1 es[k].2.2.2.2.2.1.2.1 es[k].2.2.2.2.2.1.2.2=true/\0<=es[k].2.2.2.2.2.2.1/\es[k].2.2.2.2.2.2.1<=172800
 len:es.length<=8
def okZ_of {z:Zon}(h:Zi1 z=0) (hl:z.2.length<=8):okZ z.2:=by
 unfold Zi1 at h
 split at h
 .cases h
 rename_i h1
 have hne:z.2≠[]:=λe=>h1 (.inr (by rw[e];rfl))
 have hg:=ZnS h
 refine⟨hne,λx hx=>?_,λk hk=>(Zpy (hg k hk)).2.2.2.2.2.1,λk hk hk2=>?_,hl⟩
 .obtain⟨k,hk,rfl⟩:=List.getElem_of_mem hx
  obtain⟨_,q2,q3,q4,q5,_⟩:=Zpy (hg k hk)
  exact⟨q2,q3,q4,q5⟩
 obtain⟨_,_,_,_,_,q6,q7⟩:=Zpy (hg k hk)
 exact q7 (by rw[q6];simp;omega)
def endV_bd (h1:Zbx x.2.2.2.2.2.1.1 x.2.2.2.2.2.1.2.1 x.2.2.2.2.2.1.2.2=true) (h2:0<=x.2.2.2.2.2.2.1/\x.2.2.2.2.2.2.1<=172800) (h3 : -64800<=xSh x/\xSh x<=64800) : -100000000000<=endV x/\endV x<=300000000000:=by
 have:=Znw h1
 unfold endV
 split <;> omega
def Zmw {α:Type}{l:List α}{k:Nat}(h:k+1<l.length):l.dropLast.take (k+1)=l.dropLast.take k++[l[k]]:=by
 have hk:k<l.dropLast.length:=by simp;omega
 rw[List.take_succ_eq_append_getElem hk]
 congr 2
 simp
def ZjB {k:Nat}(h:k+1<es.length):(ZaO es).take (k+1)=(ZaO es).take k++[endV es[k]]:=by
 unfold ZaO
 rw[<-List.map_take,<-List.map_take,Zmw h,List.map_append,List.map_cons,List.map_nil]
def ends_a (hz:okZ es):Ac 130 [.agg [sv nm,.sl es.length 10 false (rows eraC es)]] h (.sl (ZaO es).length 1 false (rows intC (ZaO es))):=by
 have hlen:=hz.len
 have hne:=List.length_pos_iff.2 hz.ne
 have hel:=Zde es
 refine tW' k130 λN hn hlt _ hbd=>?_
 simp only[tb'] at hbd ⊢
 refine wr'<|E' (ZaM (cvl lk0 rfl) rfl hl0 ha0) pt1<|mv' lkn pt2<|sn'<|wr'<|mv' lkn pt3<|Zam<|ZaN (ALe.own0' (st':=1) (ty:=3) gt3 hl1 pt3 ha1)<|Zab<|wr'<|?_
 refine fq<|Vw (Zaa lk gx gt1)<|Vw (Zaz lk)<|ms<|Zag<|?_
 refine w_lp (ι:=Nat) (λ(k:Nat)=>[(3,.own (N+1) k k),(10,iv (k:Int)),(5,.any),(6,.any)]++rn' 11 27) (λ(k:Nat)=>[(1,.mk k 3 1 (rows intC ((ZaO es).take k)))]) (λ(k:Nat)=>k<es.length) (λ(k:Nat)=>es.length-k) (0) (by exact hne) ?_
 rintro k hi1
 try simp only[sm',Nat.reduceAdd]
 replace hi1:k<es.length:=hi1
 refine wr'<|Vw (ZaJ lk lk)<|sn'<|Zab<|?_
 refine Zeg lk (by exact decide_eq_true om) ?_
 refine za<|Zab<|Zag<|wr'<|?_
 refine V' (ZaE lk lk Zdd nb ro om ro rfl) pt ?_
 refine Vw (Zar lk ZsU rfl)<|E' (ZaR hl2 ha2) pt<|E' (Zai lk cv gx rfl nb rfl Zp4 hs2) ptn<|sn'<|Zab<|wr'<|fq<|Vw (Zaa lk gx gt4)<|sn'<|?_
 have hop:=hz.op k hi1
 have htl:((ZaO es).take k).length=k:=by rw[List.length_take,hel];omega
 refine cd' lk (λhc2=>?_) (λhc2=>?_)
 .rw[show es[k].2.2.2.2.1=decide (k+1=es.length) from hop] at hc2
  have hke:k+1=es.length:=of_decide_eq_true hc2
  refine Zax<|Zas<|x_pas (Nat.ne_of_beq_eq_false rfl)<|Zas<|Zas<|ZaK<|?_
  refine ZaN (ALe.iceR (hga hn rfl) gt3 (List.take_of_length_le (by rw[Zel,htl];omega)) (by rw[Zel,htl];omega) pt3 hs1) ?_
  refine wm<|mr<|Zae rz<|rtW'<|?_
  rw[show k=(ZaO es).length by omega,List.take_length];exact Wk.full
 rw[show es[k].2.2.2.2.1=decide (k+1=es.length) from hop] at hc2
 have hke:k+1<es.length:=by have:=of_decide_eq_false hc2;omega
 obtain⟨hd,ha1,ha2⟩:=hz.un k hi1 hke
 have hsh : -64800<=es[k].1/\es[k].1<=64800:=(hz.fm _ (List.getElem_mem hi1)).2.1
 have hnb:=Znw hd
 have hdi:=ZbW.1 hd
 have hml:=Zds es[k].2.2.2.2.2.1.1 es[k].2.2.2.2.2.1.2.1
 refine za<|Zab<|ZaD<|dg<|Dw (Zbu lk)<|Dw (Zad lk gx ZsV rfl)<|?_
 refine ZaB mp (λhE hX=>ZiR om om om om om om) pt ?_
 refine D' (Zgg lk lki om om) pt ?_
 refine dg<|Dw (Zbu lk)<|Dw (Zaa lk gx gt8)<|?_
 refine D' (Zb0 lk lk om om) pt ?_
 refine Dw vm<|ZaH<|?_
 refine ZaU ?_
 refine sn'<|Zab<|wr'<|fq<|Vw (Zbu lk)<|Vw (Zaa lk gx gt9)<|Vw (Za0 lk lki)<|sn'<|?_
 refine cd' lk (λhc3=>?_) (λhc3=>?_)
 .have hev:endV es[k]=num es[k].2.2.2.2.2.1.1 es[k].2.2.2.2.2.1.2.1 es[k].2.2.2.2.2.1.2.2*86400+es[k].2.2.2.2.2.2.1-es[k].1:=by unfold endV;rw[if_pos hc3]
  refine Zao<|mw<|fq<|Vw (Zaa lk gx gt0)<|?_
  refine V' (Za2 lk lk om om) pt ?_
  refine ms<|Zao<|mw<|mw<|E' (ZcB (Ziv cv rfl) hl3 ha3) pt<|?_
  refine E' (Zby (Zbm lk (hga hn rfl) rfl Zn8 nb) lk (hga hn rfl) ((Zel _).trans (by rw[htl])) om rfl hs1) pt ?_
  refine mw<|Zam<|Zau<|Zan<|Zao<|?_
  refine ad<|mw<|Zam<|Zaw<|?_
  refine lU' (k+1) (by (try dsimp only);omega) (by refine zz ?_;exact bk' 2 hn hlt (by rw[ZjB hke,hev,ZaG,Zbw];rfl))
 have hev:endV es[k]=num es[k].2.2.2.2.2.1.1 es[k].2.2.2.2.2.1.2.1 es[k].2.2.2.2.2.1.2.2*86400+es[k].2.2.2.2.2.2.1:=by unfold endV;rw[if_neg hc3,Int.sub_zero]
 refine za<|Zao<|mw<|mw<|E' (ZcB (Ziv cv rfl) hl3 ha3) pt<|?_
 refine E' (Zby (Zbm lk (hga hn rfl) rfl Zn8 nb) lk (hga hn rfl) ((Zel _).trans (by rw[htl])) om rfl hs1) pt ?_
 refine mw<|Zam<|Zau<|Zan<|Zao<|?_
 refine ad<|mw<|Zam<|Zaw<|?_
 refine lU' (k+1) (by (try dsimp only);omega) (by refine zz ?_;exact bk' 2 hn hlt (by rw[ZjB hke,hev,ZaG,Zbw];rfl))
def rising_a {l:List Int}{full:Bool}(hl:l.length<=9223372036854775807):Ac 129 [.sl l.length 1 full (rows intC l)] h (bv (risL l)):=by
 refine tI' k129 λN hn _ _ hbd=>?_
 simp only[tb'] at hbd ⊢
 refine wk'<|Zab<|wk'<|Zag<|?_
 refine w_lp (ι:=Nat) (λ(k:Nat)=>[(3,iv ((k:Int)+1)),(2,.any)]++rn' 4 16) (λ(k:Nat)=>[]) (λ(k:Nat)=>(k+1<=l.length\/k=0) /\ ∀ i (h:i+1<l.length),i<k->l[i]<l[i+1]) (λ(k:Nat)=>l.length-k) (0) (by exact⟨.inr rfl,λi _ h=>by omega⟩) ?_
 rintro k hi1
 try simp only[sm',Nat.reduceAdd]
 obtain⟨hk1,hk2⟩:=hi1
 refine Zab<|wm<|mw<|Vw (Zaz lk)<|Vw (ZaJ lk lk)<|sn'<|?_
 refine cd' lk (λhc1=>?_) (λhc1=>?_)
 .have hk:k+1<l.length:=by omega
  refine za<|Zab<|Zag<|Zab<|ZaD<|Dw vm<|Dw vm<|?_
  refine D' (ZaE (k:=k+1) lk lk Za4 nb ro om ro rfl) pt ?_
  refine Dw (Zav lk gt)<|Dw vm<|Dw vm<|?_
  refine D' (Za2 lk lki om om) pt ?_
  refine D' (ZaE (k:=k) lk lk Za4 nb ro om ro rfl) pt ?_
  refine Dw (Zav lk gt)<|Dw (ZdO lk lk)<|ZaH<|?_
  refine ZaU ?_
  refine sn' ?_
  refine cd' lk (λhc2=>?_) (λhc2=>?_)
  .have hR:risL l=false:=Zse hk om
   refine wo<|Zap<|Zah<|Zah<|Zap<|Zah<|Zae rz<|rT'<|?_
   rw[hR]
  refine Zay<|Zau<|Zan<|Zao<|mw<|?_
  refine ad<|mw<|Zam<|Zaw<|?_
  refine lU' (k+1) (by (try dsimp only);exact⟨by omega,λi hi h=>by by_cases e:i=k;(subst e;omega);exact hk2 i hi om⟩) (by refine zz ?_;exact ALe.same (by repeat (first | exact wk0 | refine wka ?_ | refine wk1 rfl ?_ | refine wk1 (by first | rfl | exact ivx om) ?_)) rfl)
 refine Zax<|Zas<|Zas<|ZaK<|Zan<|wo<|Zae rz<|rT'<|?_
 exact bvx (Zni λi hi=>hk2 i hi om).symm
def check1_a {z:Zon}(hz:okZ z.2):Ac 128 [.agg (zonC z)] h (bv (!risL (ZaO z.2))):=by
 obtain⟨nm,es⟩:=z
 have hel:(ZaO es).length=es.length-1:=Zde es
 have hlen:es.length<=8:=hz.len
 refine tI' k128 λN hn _ _ hbd=>?_
 simp only[tb'] at hbd ⊢
 refine wr'<|E' (ZaM cv rfl hl0 ha0) pt<|ms<|wr'<|Vw (Zad lk gx ZsX rfl)<|Zac mp (ends_a hz) pt<|?_
 refine Zac mp (rising_a (show (ZaO es).length<=9223372036854775807 by omega)) pt ?_
 exact Vw (ZaF lk)<|mr<|Zae rz<|rT' rfl
def eras_a {a:List Rul}:Ac 125 [.agg [.sl a.length 11 false (rows rulC a),.sl z.length 2 false (rows zonC z),.sl k.length 2 false (rows lnkC k)]] h (.clo (.func 182) [.rp [.sl a.length 11 false (rows rulC a),.sl z.length 2 false (rows zonC z),.sl k.length 2 false (rows lnkC k)]]):=by
 refine tI' k125 λN hn _ _ hbd=>?_
 simp only[tb'] at hbd ⊢
 refine wr'<|E' (ZaM cv rfl hl0 ha0) pt<|mv' rfl pt<|Zam<|?_
 refine ZaN (ALe.icePtr gx gt1 (by simp) pt1 hs0) ?_
 exact wr'<|Vw (Zib mp)<|mr<|Zae rz<|rT' rfl
def repl_one {s lt:Bs}:Lib.replace s [37,115] lt 1=if (Lib.cut s [37,115]).2.2=true then (Lib.cut s [37,115]).1++lt++(Lib.cut s [37,115]).2.1 else s:=by
 have hge:=Lib.index_ge s [37,115]
 unfold Lib.cut
 by_cases h0:0<=Lib.index s [37,115]
 .rw[if_pos h0]
  obtain⟨i,hi⟩ : ∃ i:Nat,Lib.index s [37,115]=i:=⟨(Lib.index s [37,115]).toNat,by omega⟩
  simp only[if_true,hi,Int.toNat_natCast,List.length_cons,List.length_nil]
  unfold Lib.replace
  split
  .rename_i e
   have e:[37,115]=lt:=by simpa using e
   subst e
   rcases Lib.index_spec s [37,115] with ⟨h1,_⟩ | ⟨j,h1,h2,h3,_⟩
   .omega
   obtain rfl:i=j:=by omega
   have h4:[37,115] <+: s.drop i:=by simpa [Lib.occAt] using h3
   obtain⟨t,ht⟩:=h4
   have e2:s.drop (i+2)=t:=by rw[<-List.drop_drop,<-ht];rfl
   rw[e2,List.append_assoc,ht,List.take_append_drop]
  have hc:0<Lib.count s [37,115]:=by rw[Lib.count_hit (by simp) hi];omega
  unfold Lib.replaceNum
  rw[if_neg om]
  rw[show (1:Int).toNat=0+1 from rfl,Lib.replaceK_hit _ _ _ _ _ hi]
  rfl
 rw[if_neg h0]
 simp only[Bool.false_eq_true,if_false]
 unfold Lib.replace
 split
 .rfl
 have hm:Lib.index s [37,115] = -1:=by omega
 unfold Lib.replaceNum
 rw[if_pos (.inr (by rw[Lib.count_miss hm];simp)),Lib.count_miss hm];rfl
def Zu9 {s lt:ByteArray}(h1:s.size<=24) (h2:lt.size<=24):Ac 314 [sv s,sv (bA [37,115]),sv lt,iv 1] h (sv (if (cutL s [37,115]).2.2=true then bA ((cutL s [37,115]).1++aB lt++(cutL s [37,115]).2.1) else s)):=by
 refine ACalls.of_below (by kernel_rfl) λw g vs hs ha=>?_
 simp only[RepL,Rep] at ha
 obtain⟨u1,us1,e1,rfl,u2,us2,rfl,rfl,u3,us3,rfl,rfl,u4,us4,rfl,rfl,rfl⟩:=ha
 obtain rfl:vs = #[.string s,.string (bA [37,115]),.string lt,.int .i64 1]:=by cases vs;simp_all
 obtain⟨m,hm⟩:=hs.glob.w.maxLen
 have hc:=Lib.countB_le (bA [37,115]) (by decide) s.size s (Nat.le_refl _)
 have hc2:Lib.countB s (bA [37,115])*lt.size<=24*24:=Nat.mul_le_mul om h2
 refine (Tryz.strings_Replace s (bA [37,115]) lt 1 m w om hm (by decide) om).mono ?_
 rintro e w' ⟨rfl,hb⟩
 refine⟨_,rfl,hb,?_⟩
 simp only[Rep]
 have:=repl_one (s:=aB s) (lt:=aB lt)
 show Value.string (bA (Lib.replace (aB s) [37,115] (aB lt) 1))=_
 rw[this]
 unfold cutL
 split <;> rfl
def named_a {lt:ByteArray}(h1:fm.size<=24) (h2:lt.size<=24):Ac 301 [sv fm,sv lt,iv sa] h (sv (Zf3 fm lt sa)):=by
 refine tI' k301 λN hn _ _ hbd=>?_
 simp only[tb'] at hbd ⊢
 refine wk'<|wm<|Zac mp (cut1_a h1) pt<|mw<|Vw (ZaS lk gt)<|Vw (ZaS lk gt)<|Vw (ZaS lk gt)<|mw<|?_
 refine mw<|ms<|Zab<|Zag<|wm<|Vw (ZaF lk)<|ms<|?_
 refine ZaA lk (λhc1=>?_) (λhc1=>?_)
 .refine wm<|mw<|Zac mp (Zu9 h1 h2) pt<|mr<|Zap<|Zah<|Zae rz<|rT'<|?_
  unfold Zf3;exact congrArg (λz=>sv z) (if_neg (by have:=hc1;rw[Bool.not_eq_true'] at this;rw[this];simp)).symm
 refine wm<|Vw (Zbr lk lki)<|ms<|?_
 refine cd' lk (λhc2=>?_) (λhc2=>?_)
 .refine wm<|mr<|Zap<|Zah<|Zae rz<|rT'<|?_
  unfold Zf3;rw[if_pos (by have:=hc1;rwa [Bool.not_eq_false'] at this),if_pos hc2]
 refine Zay<|Zau<|Zan<|wm<|mr<|Zae rz<|rT'<|?_
 unfold Zf3;rw[if_pos (by have:=hc1;rwa [Bool.not_eq_false'] at this),if_neg hc2]
def Zpd {t:Tim}(h1:(xFm x).size<=24) (h2:t.2.2.size<=24) (h3 : -64800<=xSh x/\xSh x<=64800) (h4:0<=t.2.1/\t.2.1<=10800):ACalls Tryz.prog 262 [.agg (eraC x),.agg (timC t)] h λy h'=>h'=h/\y=.ret (.agg [iv (locV x t.2.1 t.2.2).1,iv (locV x t.2.1 t.2.2).2.1,sv (locV x t.2.1 t.2.2).2.2]):=by
 obtain⟨sh,rl,sa,fm,op,⟨⟨y,m,d⟩,a,c⟩⟩:=x
 obtain⟨at_,sv_,lt⟩:=t
 simp only[xFm,xSh] at h1 h3
 simp only at h2 h4
 show ACalls _ _ [.agg [iv sh,sv rl,iv sa,sv fm,bv op,iv y,iv m,iv d,iv a,iv c],.agg [iv at_,iv sv_,sv lt]] h _
 refine tI' k262 λN hn _ _ hbd=>?_
 simp only[tb'] at hbd ⊢
 refine wr'<|E' (ZaM cv rfl hl0 ha0) pt<|E' (ZaM cv rfl hl1 ha1) pt<|E' (ZaR hl2 ha2) pt<|sn'<|Zab<|ZaD<|dg<|Dw (Zaa lk gx gt0)<|dg<|Dw (Zaa lk gx gt1)<|?_
 refine D' (Zb0 lk lk om om) pt ?_
 refine dg<|Dw (Zaa lk gx gt1)<|dg<|Dw (Zaa lk gx gt3)<|dg<|Dw (Zaa lk gx gt2)<|dg<|Dw (Zaa lk gx gt1)<|?_
 refine ZaB mp (λhE hX=>named_a h1 h2) pt ?_
 refine Dw (Zat (ZmJ cv rfl cv rfl cv rfl))<|ZaH<|?_
 refine ZaU ?_
 exact E' (Zai lk cv gx rfl nb rfl ZsY hs2) ptn<|sr<|Zae (rs1 (rr_c gt gx (ld1 ZsW rfl)))<|rT' rfl
def cut1p_a {c:Chg}{e:Int}:ACalls Tryz.prog 264 [.agg (chgC c),.rp [iv e]] h λy h'=>h'=h/\y=.ret (bv (decide (e<=c.1))):=by
 obtain⟨c1,c2,c3,c4⟩:=c
 refine tI' k264 λN hn _ _ hbd=>?_
 simp only[tb'] at hbd ⊢
 refine wr'<|E' (ZaM cv rfl hl0 ha0) pt<|ms<|wr'<|fq<|Vw (Zaa lk gx gt0)<|Vw (Zav lk gt)<|Vw (Zeo lk lk)<|mw<|Zam<|?_
 refine Zan<|Zbh<|Zae rz<|rT'<|?_
 exact bvx (by first | rfl | (rw[Bool.eq_iff_iff];simp))
def Zwx {l:List Chg}{e:Int}:cutV l e=l.take (l.findIdx λc=>decide (e<=c.1)):=by
 unfold cutV
 induction l with
 | nil=>rfl
 | cons c l ih =>
  rw[List.takeWhile_cons,List.findIdx_cons]
  by_cases h:c.1<e
  .rw[if_pos (by simpa using h),ih,show decide (e<=c.1)=false by simp;omega];rfl
  rw[if_neg (by simpa using h),show decide (e<=c.1)=true by simp;omega];rfl
def zcut_a {l:List Chg}{e:Int}{full:Bool}(hl:l.length<=9223372036854775807):ACalls Tryz.prog 209 [.sl l.length 4 full (rows chgC l),iv e] h λy h'=>h'=h/\y=.ret (.sl (cutV l e).length 4 false (rows chgC (cutV l e))):=by
 have hll:=hl
 refine tW' k209 λN hn _ _ hbd=>?_
 simp only[tb'] at hbd ⊢
 refine wr'<|E' (ZaM cv rfl hl0 ha0) pt<|mw<|Zam<|?_
 refine ZaN (ALe.icePtr gx gt3 (by simp) pt3 hs0) ?_
 refine wm<|Vw (Zib mp)<|?_
 refine Zac mp (ixPrtC_a (p:=λc:Chg=>decide (e<=c.1)) (λc _ _=>cut1p_a) hll) pt ?_
 refine ms<|Zab<|wm<|Vw (ZaJ lk lki)<|sn'<|?_
 refine cd' lk (λhc1=>?_) (λhc1=>?_)
 .have hi:¬l.findIdx (λc:Chg=>decide (e<=c.1))<l.length:=by unfold idxV at hc1;split at hc1;omega;assumption
  refine wm<|mr<|Zah<|Zae rz<|rtW'<|?_
  rw[Zwx,List.take_of_length_le om];exact Wk.full
 have hi:l.findIdx (λc:Chg=>decide (e<=c.1))<l.length:=by unfold idxV at hc1;split at hc1;assumption;omega
 have hix:idxV (λc:Chg=>decide (e<=c.1)) l=((l.findIdx λc:Chg=>decide (e<=c.1):Nat):Int):=if_pos hi
 refine za<|wm<|mw<|?_
 refine V' (v_hi (k:=l.findIdx λc:Chg=>decide (e<=c.1)) lk lk ZaT ro om ro) pt ?_
 refine mr<|Zae rz<|rtW'<|?_
 rw[Zwx,List.length_take,Nat.min_eq_left (Nat.le_of_lt hi)];exact Wk.full
end
section
open Go.Ab Go.RowKit Civ
attribute [local simp] ZbR Zcn Zb6 Zbq Zbl ZdX
section
def Zxo :(a0::a1::l).take 2=[a0,a1]:=rfl
def ZsT :setCells (a0::a1::l) 0 [c0,c1]=c0::c1::l:=rfl
def ZsS :(a0::a1::a2::a3::a4::a5::a6::a7::a8::a9::l).take 10=[a0,a1,a2,a3,a4,a5,a6,a7,a8,a9]:=rfl
def ZjR :setCells (a0::a1::a2::a3::a4::a5::a6::a7::a8::a9::l) 0 [c0,c1,c2,c3,c4,c5,c6,c7,c8,c9]=c0::c1::c2::c3::c4::c5::c6::c7::c8::c9::l:=rfl
def Zp3 :((a0::a1::a2::a3::a4::a5::a6::a7::a8::a9::l).drop 0).take 10=[a0,a1,a2,a3,a4,a5,a6,a7,a8,a9]:=rfl
def ZhO :setCells (a0::l) 0 [c0]=c0::l:=rfl
def Zxn :(a0::a1::a2::l).take 3=[a0,a1,a2]:=rfl
end
def k182:=Kx 182 []
def c124p:AC:=(.seq (.reg [⟨(some 1),none,(.box 89 3 (.tmp 0))⟩,⟨(some 2),none,(.new 4 1 [(.v (.bool false))])⟩]) (.seq (.reg [⟨(some 4),none,(.fa 2 (.tmp 1))⟩,⟨(some 5),none,(.load false 1 (.tmp 4))⟩,⟨(some 6),none,(.mkfn 178 [(.tmp 1)])⟩,⟨(some 7),none,(.call (.func 177) [(.tmp 5),(.tmp 6)])⟩]) (.seq (.cond (.tmp 7) (.seq (.reg [⟨none,none,(.store 1 (.tmp 2) (.const (.bool true)))⟩]) .ret) .skip) (.seq (.reg [⟨(some 8),none,(.load true 3 (.tmp 1))⟩,⟨(some 9),none,(.call (.func 125) [(.tmp 8)])⟩]) .skip))))
def c124a:AC:=(.reg [⟨(some 3),none,(.new 178 10 [(iv 0),(.v (.string ⟨#[]⟩)),(iv 0),(.v (.string ⟨#[]⟩)),(.v (.bool false)),(iv 0),(iv 0),(iv 0),(iv 0),(iv 0)])⟩,⟨none,none,(.store 10 (.tmp 3) (.tmp 10))⟩])
def c124b:AC:=(.block 1 (.seq (.reg [⟨(some 11),none,(.fa 1 (.tmp 3))⟩,⟨(some 12),none,(.load false 1 (.tmp 11))⟩,⟨(some 13),none,(.bin .neq (.tmp 12) (.const (.string ⟨#[]⟩)))⟩,⟨(some 14),none,(.mv (.tmp 13))⟩,⟨(some 15),(some (14,true)),(.fa 0 (.tmp 1))⟩,⟨(some 16),(some (14,true)),(.load false 1 (.tmp 15))⟩,⟨(some 17),(some (14,true)),(.mkfn 181 [(.tmp 3)])⟩,⟨(some 18),(some (14,true)),(.call (.func 180) [(.tmp 16),(.tmp 17)])⟩,⟨(some 19),(some (14,true)),(.un .not (.tmp 18))⟩,⟨(some 20),none,(.pick (.tmp 14) (.tmp 19) (.const (.bool false)))⟩]) (.cond (.tmp 20) (.seq (.reg [⟨none,none,(.store 1 (.tmp 2) (.const (.bool true)))⟩]) .ret) .skip)))
def c124q:AC:=(.seq (.reg [⟨none,none,(.store 1 (.tmp 2) (.const (.bool false)))⟩]) (.seq .ret .skip))
abbrev fr124:AFR:=⟨[(.reg [⟨(some 1),none,(.box 89 3 (.tmp 0))⟩,⟨(some 2),none,(.new 4 1 [(.v (.bool false))])⟩]),(.reg [⟨(some 4),none,(.fa 2 (.tmp 1))⟩,⟨(some 5),none,(.load false 1 (.tmp 4))⟩,⟨(some 6),none,(.mkfn 178 [(.tmp 1)])⟩,⟨(some 7),none,(.call (.func 177) [(.tmp 5),(.tmp 6)])⟩]),(.cond (.tmp 7) (.seq (.reg [⟨none,none,(.store 1 (.tmp 2) (.const (.bool true)))⟩]) .ret) .skip),(.reg [⟨(some 8),none,(.load true 3 (.tmp 1))⟩,⟨(some 9),none,(.call (.func 125) [(.tmp 8)])⟩])],(.tmp 9),#[10],c124a,c124b,c124q,[(.cell 2 false 1)],21⟩
def k124:Zis Tryz.prog 124=some fr124:=by kernel_rfl
def Zdw (z:List Zon):List Era:=z.flatMap (·.2)
def Zpx {j:Nat}(hi:i<z.length) (hj:j<z[i].2.length) : ∃ r,Zdw z=Zdw (z.take i)++(z[i].2.take j++z[i].2[j]::r):=by
 refine⟨z[i].2.drop (j+1)++Zdw (z.drop (i+1)),?_⟩
 have e:z=z.take i++z[i]::z.drop (i+1):=by rw[<-List.drop_eq_getElem_cons hi,List.take_append_drop]
 have e2:z[i].2=z[i].2.take j++z[i].2[j]::z[i].2.drop (j+1):=by rw[<-List.drop_eq_getElem_cons hj,List.take_append_drop]
 have h1:Zdw z=Zdw (z.take i++z[i]::z.drop (i+1)):=by rw[<-e]
 rw[h1]
 unfold Zdw
 rw[List.flatMap_append,List.flatMap_cons]
 have h2:z[i].2++(z.drop (i+1)).flatMap (·.2)=z[i].2.take j++z[i].2[j]::(z[i].2.drop (j+1)++(z.drop (i+1)).flatMap (·.2)):=by
  conv=>lhs;rw[e2]
  rw[List.append_assoc];rfl
 rw[h2]
def Zsz (hi:i<z.length):Zdw (z.take (i+1))=Zdw (z.take i)++z[i].2:=by
 unfold Zdw
 rw[List.take_succ_eq_append_getElem hi,List.flatMap_append,List.flatMap_cons,List.flatMap_nil,List.append_nil]
def Zwg {p:Era->Bool}{l m r:List Era}(hl : ∀ y∈l,p y=false) (hm : ∀ y∈m,p y=false) (hx:p x=true):(l++(m++x::r)).find? p=some x:=by
 rw[List.find?_append,List.find?_eq_none.2 (λy hy=>by rw[hl y hy];simp),Option.none_or,List.find?_append,List.find?_eq_none.2 (λy hy=>by rw[hm y hy];simp),Option.none_or,List.find?_cons,hx]
def stopH (h:AH) (hS:Era->AH):Option Era->AH
 | none=>h
 | some x=>hS x
def Zwq {a:List Rul}{lp:Nat}{p:Era->Bool}{hS:Era->AH}(hz:z.length<=20) (hz2 : ∀ y∈z,y.2.length<=8) (hSl : ∀ x,(hS x).length=h.length) (hSlt : ∀ x,∀ e∈hS x,e.lt h.length=true)
  (hY : ∀ x∈Zdw z,∀ e f:Ent,p x=false->AYield Tryz.prog lp [.agg (eraC x)] (h++[e,f]) λr h''=>r=.ret (.v (.bool true))/\h''=h++[e,f])
  (hN : ∀ x∈Zdw z,∀ e f:Ent,p x=true->AYield Tryz.prog lp [.agg (eraC x)] (h++[e,f]) λr h''=>r=.ret (.v (.bool false))/\h''=hS x++[e,f]) :
  ACalls Tryz.prog 182 [.v (.func (.yield lp) #[] #[]),.rp [.sl a.length 11 false (rows rulC a),.sl z.length 2 false (rows zonC z),.sl k.length 2 false (rows lnkC k)]] h λy h'=>y=.ret (.tup [])/\h'=stopH h hS ((Zdw z).find? p):=by
 refine tJ' k182 λN hn hlt _ hbd=>?_
 simp only[tb'] at hbd ⊢
 refine wr'<|Vw (ZaZ lk dp1)<|Vw (Zav lk gt)<|Vw (Zaz lk)<|ms<|Zag<|?_
 refine w_lp (ι:=Nat) (λ(i:Nat)=>[(10,iv (i:Int)),(4,.any),(6,.any)]++rn' 11 16) (λ(i:Nat)=>[]) (λ(i:Nat)=>i<=z.length /\ ∀ x∈Zdw (z.take i),p x=false) (λ(i:Nat)=>z.length-i) (0) (by exact⟨Nat.zero_le _,λx hx=>by cases hx⟩) ?_
 rintro i hi1
 try simp only[sm',Nat.reduceAdd]
 obtain⟨hk1,hk2⟩:=hi1
 refine wr'<|Vw (ZaJ lk lk)<|sn'<|Zab<|?_
 refine cd' lk (λhc1=>?_) (λhc1=>?_)
 .have hi:i<z.length:=by omega
  have hz3:=hz2 _ (List.getElem_mem hi)
  refine za<|Zab<|Zag<|wr'<|?_
  refine V' (ZaE lk lk ZcD nb ro om ro rfl) pt ?_
  refine Vw (Zar lk Zxo rfl)<|E' (ZaR hl0 ha0) pt<|E' (Zai lk cv gx rfl nb rfl ZsT hs0) ptn<|sn'<|wr'<|fq<|Vw (Zaa lk gx gt1)<|?_
  refine V' ((by first | exact Zaz lk | exact Zcy lk)) pt ?_
  refine ms<|Zag<|?_
  refine w_lp (ι:=Nat) (λ(j:Nat)=>[(17,iv (j:Int)),(6,.any)]++rn' 18 8) (λ(j:Nat)=>[]) (λ(j:Nat)=>j<=z[i].2.length /\ ∀ x∈z[i].2.take j,p x=false) (λ(j:Nat)=>z[i].2.length-j) (0) (by exact⟨Nat.zero_le _,λx hx=>by cases hx⟩) ?_
  rintro j hi2
  try simp only[sm',Nat.reduceAdd]
  obtain⟨hj1,hj2⟩:=hi2
  refine wr'<|Vw (ZaJ lk lk)<|sn'<|Zab<|?_
  refine cd' lk (λhc2=>?_) (λhc2=>?_)
  .have hj:j<z[i].2.length:=by omega
   obtain⟨rr,hrr⟩:=Zpx hi hj
   have hmem:z[i].2[j]∈Zdw z:=by rw[hrr];simp
   refine za<|Zab<|Zag<|wr'<|?_
   refine V' (ZaE lk lk Zdd nb ro om ro rfl) pt ?_
   refine Vw (Zar lk ZsS rfl)<|E' (ZaR hl1 ha1) pt<|E' (Zai lk cv gx rfl nb rfl ZjR hs1) ptn<|sn'<|wm<|Vw (Zad lk gx Zp3 rfl)<|?_
   by_cases hs21:p z[i].2[j]=true
   .refine ZuY lk mp (hN _ hmem _ _ hs21) pt<|Vw (ZaF lk)<|sn'<|Za6 lk<|Zbh<|Zap<|Zah<|Zah<|Zap<|Zap<|Zah<|Zah<|Zap<|?_
    refine Zae (rs0) ?_
    exact⟨_,_,rfl,(hSl _).trans hn,by rw[<-hn];exact hSlt _,rfl,rfl,by rw[hrr,Zwg hk2 hj2 hs21];rfl⟩
   refine ZuY lk mp (hY _ hmem _ _ (by simpa using hs21)) pt ?_
   refine Vw (ZaF lk)<|sn'<|ZaV lk<|Zay<|Zau<|Zan<|Zao<|?_
   refine ad<|mw<|Zam<|Zaw<|?_
   refine lU' (j+1) (by (try dsimp only);refine⟨by omega,λx hx=>?_⟩;rw[List.take_succ_eq_append_getElem hj] at hx;rcases List.mem_append.1 hx with hx | hx;exact hj2 x hx;simp only[List.mem_singleton] at hx;subst hx;simpa using hs21) (by refine zz ?_;exact bk' 1 hn hlt)
  have hje:z[i].2.length<=j:=by omega
  rw[List.take_of_length_le hje] at hj2
  refine Zax<|Zas<|Zas<|ZaK<|Zau<|Zan<|Zao<|?_
  refine ad<|mw<|Zam<|Zaw<|?_
  refine lU' (i+1) (by (try dsimp only);refine⟨by omega,λx hx=>?_⟩;rw[Zsz hi] at hx;rcases List.mem_append.1 hx with hx | hx;exact hk2 x hx;exact hj2 x hx) (by refine zz ?_;exact bk' 0 hn hlt)
 rw[List.take_of_length_le om] at hk2
 refine Zax<|Zas<|Zas<|ZaK<|w_end (rs0)<|?_
 exact⟨_,_,rfl,hn,hlt,rfl,rfl,by rw[List.find?_eq_none.2 (λy hy=>by rw[hk2 y hy];simp)];rfl⟩
def miss2p_a {r:Rul}{id:Nat}(he:h[id]?=some (.mk 0 178 10 (eraC x))):ACalls Tryz.prog 181 [.agg (rulC r),.ptr id 0 0] h λx' h'=>h'=h/\x'=.ret (bv (decide (r.1=xRl x))):=by
 obtain⟨n,f,t,m,⟨k,w,d⟩,a,c,s,lt⟩:=r
 refine tI' k181 λN hn _ _ hbd=>?_
 simp only[tb'] at hbd ⊢
 refine wr'<|E' (ZaM cv rfl hl0 ha0) pt<|ms<|wr'<|fq<|Vw (Zaa lk gx gt0)<|fq<|Vw (Zaa lk (Zdj he) gt1)<|Vw (Ze4 lk lk)<|mw<|?_
 exact sr<|Zae rz<|rT' rfl
abbrev srcB (a:List Rul) (z:List Zon) (k:List Lnk):List AV:=[.sl a.length 11 false (rows rulC a),.sl z.length 2 false (rows zonC z),.sl k.length 2 false (rows lnkC k)]
abbrev ergH (h:AH) (D l ty:Nat) (o:Obj) (T:List AV) (vs:List Value) (c:AV):AH:=h++[.gone,.mk 0 ty 1 [c],mkD D,.raw l o T vs]
abbrev ergJ (h:AH) (D l ty:Nat) (o:Obj) (T:List AV) (vs:List Value) (c:AV) (e f:Ent):AH:=h++[.gone,.mk 0 ty 1 [c],mkD D,.raw l o T vs,e,f]
def ZhE {l:Nat}{T:List AV}{c:AV}{e:Ent}:ergH h D l ty o T vs c++[e,f]=ergJ h D l ty o T vs c e f:=by simp
def Zwp {l:Nat}{T:List AV}{c:AV}(hlt : ∀ e∈h,e.lt N=true) (hT:AV.ltL (N+4) T=true) (hc:c.lt (N+4)=true) : ∀ e∈ergH h D l ty o T vs c,e.lt (N+4)=true:=by
 intro e he
 rcases List.mem_append.1 he with he | he
 .exact ltw om hlt e he
 simp only[List.mem_cons,List.not_mem_nil,or_false] at he
 rcases he with rfl | rfl | rfl | rfl
 .simp[Ent.lt]
 .simp[Ent.lt,AV.ltL,hc]
 .simp[Ent.lt,AV.ltL]
 simpa [Ent.lt] using hT
def misP (a:List Rul) (x:Era):Bool:=decide (xRl x≠⟨#[]⟩)&&!a.any λr=>decide (r.1=xRl x)
def Zjj (s:Src):Bool:=(s.2.2.any λl=>decide (Zeu s.2.1 l.1<0))||(Zdw s.2.1).any (misP s.1)
abbrev misT (N:Nat) (a:List Rul) (z:List Zon) (k:List Lnk) (x:AV):List AV:=[.any,.rp (srcB a z k),.ptr (N+1) 0 0,.any,.any,.any,.any,.any,.any,.clo (.func 182) [.rp (srcB a z k)],x,.any,.any,.any,.any,.any,.any,.any,.any,.any,.any]
def ZvS {a:List Rul}:AV.ltL (N+4) (misT N a z k .any)=true:=by simp[AV.ltL,AV.lt,ZbR,Zb6,Zbq]
def app61 {a b c d e p:Ent}:h++[a,b,c,d,e,f,p]=(h++[a,b,c,d,e,f])++[p]:=by simp
def Zk1 {lp:Nat}{a:List Rul}(hn:h.length=N) (hlt : ∀ e∈h,e.lt N=true) (ha:a.length<=9223372036854775807)
  (hY:ZmK Tryz.prog fr124 (N+2+1) lp rdy bsy fin (misT N a z k .any) vs) {x:Era} {e f:Ent} :
  AYield Tryz.prog lp [.agg (eraC x)] (ergJ h D lp 4 rdy (misT N a z k .any) vs (bv false) e f) λr h''=>r=.ret (.v (.bool (!misP a x)))/\h''=ergJ h D lp 4 (if misP a x=true then fin else rdy) (misT N a z k .any) vs (bv (misP a x)) e f:=by
 refine y_go hY (hga (k:=3) hn rfl) rfl λn0 hn0 hlt0 q1 q2 q3=>?_
 have hm:n0=N+6:=by rw[<-hn0];simp[hn]
 have hT0:=ZvS (N:=N) (a:=a) (z:=z) (k:=k)
 have hE:=hlt0 e (by simp)
 have hF:=hlt0 f (by simp)
 have hR:=hlt0 (.raw lp rdy (misT N a z k .any) vs) (by simp)
 show aw _ _ c124a _ _ _
 show aw _ _ _ _ (misT N a z k (.agg (eraC x))) (h++[.gone,.mk 0 4 1 [bv false],mkD D,.raw lp rdy (misT N a z k .any) vs,e,f])
 refine Zao<|E' (ZaR hl6 ha6) pt<|E' (Zai lk cv gx rfl nb rfl ZjR hs6) ptn<|Zam<|?_
 refine Zxb (i:=N+3) gx hs3 λn1 hn1 hlt1=>?_
 have fin2 : ∀ (b:Bool) (o:Obj) (E:Ent),b=misP a x->o=(if misP a x=true then fin else rdy)->o.isCells=o.isCells->Ent.lt n0 (.raw lp o (misT N a z k .any) vs)=true -> ∃ y z',h++[.gone,.mk 0 4 1 [bv b],mkD D,.raw lp o (misT N a z k .any) vs,e,f,E]=y++z'/\y.length=n0/\(∀ e∈y,e.lt n0=true)/\(AE.ret (.v (.bool (!b)))).lt n0=true/\AE.ret (.v (.bool (!b)))=.ret (.v (.bool (!misP a x)))/\y=ergJ h D lp 4 (if misP a x=true then fin else rdy) (misT N a z k .any) vs (bv (misP a x)) e f:=by
  rintro b o E rfl rfl _ hro
  refine⟨_,_,app61,by rw[<-hn0];simp,λy hy=>?_,rfl,rfl,rfl⟩
  rcases List.mem_append.1 hy with hy | hy
  .exact ltw om hlt y hy
  simp only[List.mem_cons,List.not_mem_nil,or_false] at hy
  rcases hy with rfl | rfl | rfl | rfl | rfl | rfl
  .simp[Ent.lt]
  .simp[Ent.lt,AV.ltL,AV.lt]
  .simp[Ent.lt,AV.ltL]
  .exact hro
  .exact hE
  exact hF
 have hro : ∀ o:Obj,Ent.lt n0 (.raw lp o (misT N a z k .any) vs)=true:=λo=>by simpa [Ent.lt] using hR
 show aw _ _ c124b _ _ _
 refine Zag<|wr'<|fq<|Vw (Zaa lk gx gt1)<|Vw (Zd2 lk lks)<|mw<|?_
 refine sp' (t:=14) gt pt pt (λhg14=>?_) (λhg14=>?_)
 .refine sd<|Vw (ZaZ lk dp0)<|sd<|Vw (Zav lk gt)<|sd<|Vw (Zib mp)<|sd<|?_
  refine Zac mp (ZnK (p:=λr:Rul=>decide (r.1=xRl x)) (λc _ E=>miss2p_a (Zdj gx)) ha) pt ?_
  refine sd<|Vw (ZaF lk)<|Vw (Zaj lk lk)<|sn'<|?_
  refine ZaA lk (λhc1=>?_) (λhc1=>?_)
  .have hP:misP a x=true:=by unfold misP;rw[Bool.and_eq_true];exact⟨decide_eq_true hg14,hc1⟩
   refine wr'<|E' (Zai lk (cvl lkb rfl) gx rfl nb rfl ZhO hs1) ptn<|sr<|Zap<|?_
   refine ZrR (i:=N+3) (hga hn rfl) hs3 (fin2 true fin _ hP.symm (by rw[if_pos hP]) rfl (hro _))
  have hP:misP a x=false:=by unfold misP;rw[Bool.and_eq_false_iff];exact .inr hc1
  refine Zay<|Zau<|?_
  exact ZjL (i:=N+3) (hga hn rfl) hs3 (fin2 false rdy _ hP.symm (by rw[hP];rfl) rfl (hro _))
 have hP:misP a x=false:=by unfold misP;rw[Bool.and_eq_false_iff];exact .inl (decide_eq_false hg14)
 refine so<|so<|so<|so<|so<|Vw (Zak lk lkb)<|sn'<|ZaV lk<|Zay<|Zau<|?_
 exact ZjL (i:=N+3) (hga hn rfl) hs3 (fin2 false rdy _ hP.symm (by rw[hP];rfl) rfl (hro _))
def any_find {p:Era->Bool} {l:List Era}:(match l.find? p with | none=>false | some _=>true)=l.any p:=by
 induction l with
 | nil=>rfl
 | cons x l ih=>rw[List.find?_cons,List.any_cons];cases p x <;> simp[ih]
def ZvR {h:AH}{lp N D:Nat}{rdy bsy fin:Obj}{a:List Rul}{z:List Zon}{k:List Lnk}{vs:List Value}(hn:h.length=N) (hlt : ∀ e∈h,e.lt N=true) (ha:a.length<=9223372036854775807) (hz:z.length<=20) (hz2 : ∀ y∈z,y.2.length<=8)
    (hY:ZmK Tryz.prog fr124 (N+2+1) lp rdy bsy fin (misT N a z k .any) vs) (hl0:(k.any λl=>decide (Zeu z l.1<0))=false) {R:AE->AH->Prop} (hR:R=λx h' => ∃ z',h'=h++z'/\x.lt N=true/\x=.ret (bv (Zjj (a,z,k)))) :
    ACalls Tryz.prog 182 (.v (.func (.yield lp) #[] #[])::[.rp (srcB a z k)]) (ergH h D lp 4 rdy (misT N a z k .any) vs (bv false)) λr h3=>(∃ c,r=.ret c) /\
      ((h3[N+2+1]?=some (.raw lp rdy (misT N a z k .any) vs) /\ ∀ n0,(h3.set (N+2+1) .gone).length=n0->(∀ e∈h3.set (N+2+1) .gone,e.lt n0=true)->aw Tryz.prog n0 fr124.post (Zfm fr124.res (N+2) D R) (misT N a z k .any) (h3.set (N+2+1) .gone)) \/
       (h3[N+2+1]?=some (.raw lp fin (misT N a z k .any) vs)/\Zfm fr124.res (N+2) D R .ret (misT N a z k .any) (h3.set (N+2+1) .gone))):=by
  have hmis:Zjj (a,z,k)=(Zdw z).any (misP a):=by unfold Zjj;rw[hl0,Bool.false_or]
  refine (Zwq (h:=ergH h D lp 4 rdy (misT N a z k .any) vs (bv false)) (p:=misP a) (hS:=λ_=>ergH h D lp 4 fin (misT N a z k .any) vs (bv true)) hz hz2 (λ_=>(hl4 hn).trans (hl4 hn).symm) (λ_=>by rw[hl4 hn];exact Zwp hlt ZvS rfl) (λx _ e f hp=>?_) (λx _ e f hp=>?_)).mono ?_
  . have:=Zk1 (e:=e) (f:=f) (D:=D) (x:=x) hn hlt ha hY
    rw[hp] at this
    rw[ZhE]
    exact this
  . have:=Zk1 (e:=e) (f:=f) (D:=D) (x:=x) hn hlt ha hY
    rw[hp] at this
    rw[ZhE,ZhE]
    exact this
  rintro x h3 ⟨rfl,rfl⟩
  refine⟨⟨_,rfl⟩,?_⟩
  rw[<-any_find] at hmis
  subst hR
  cases hf:(Zdw z).find? (misP a) with
  | none =>
    rw[hf] at hmis
    refine .inl ⟨hga (k:=3) hn rfl,λn0 hn0 _=>?_⟩
    have hs:(ergH h D lp 4 rdy (misT N a z k .any) vs (bv false)).set (N+2+1) .gone=h++[.gone,.mk 0 4 1 [bv false],mkD D,.gone]:=hs3 hn
    show aw _ _ _ _ _ ((ergH h D lp 4 rdy (misT N a z k .any) vs (bv false)).set (N+2+1) .gone)
    rw[hs]
    show aw _ _ c124q _ _ _
    refine wr'<|E' (Zai lk (cvl lkb rfl) gx rfl nb rfl ZhO hs1) ptn<|sn'<|Zab<|Zbh<|Zah<|?_
    refine Zd8 gx hs2 (rs1 (rr_c gt gx (ld0 gt))) ?_
    refine rT' ?_
    rw[hmis]
  | some x =>
    rw[hf] at hmis
    refine .inr ⟨hga (k:=3) hn rfl,?_⟩
    have hs:(ergH h D lp 4 fin (misT N a z k .any) vs (bv true)).set (N+2+1) .gone=h++[.gone,.mk 0 4 1 [bv true],mkD D,.gone]:=hs3 hn
    show Zfm _ _ _ _ _ _ ((ergH h D lp 4 fin (misT N a z k .any) vs (bv true)).set (N+2+1) .gone)
    rw[hs]
    exact Zd8 (hga (k:=2) hn rfl) hs2 (rs1 (rr_c gt (hga (k:=1) hn rfl) (ld0 gt))) (rT' (by rw[hmis]))
def ZvQ {a:List Rul}(ha:a.length<=9223372036854775807) (hz:z.length<=20) (hz2 : ∀ y∈z,y.2.length<=8) (hk:k.length<=9223372036854775807):Ac 124 [.agg (srcB a z k)] h (bv (Zjj (a,z,k))):=by
 have hkk:=hk
 refine tR' k124 λN hn hlt _ hbd=>?_
 show aw _ _ c124p _ _ _
 show aw _ _ _ _ [.agg (srcB a z k),.any,.any,.any,.any,.any,.any,.any,.any,.any,.any,.any,.any,.any,.any,.any,.any,.any,.any,.any,.any] _
 refine wr'<|E' (ZaM cv rfl hl0 ha0) pt<|E' (ZaR hl1 ha1) pt<|Zam<|?_
 refine ZaN (ALe.icePtr gx gt1 (by simp) pt1 hs0) ?_
 refine wr'<|Vw (ZaZ lk dp2)<|Vw (Zav lk gt)<|Vw (Zib mp)<|?_
 refine Zac mp (Zwb (p:=λl:Lnk=>decide (Zeu z l.1<0)) (λc _ _=>miss1_a om) hkk) pt ?_
 refine sn'<|Zab<|?_
 refine ZaA lk (λhc1=>?_) (λhc1=>?_)
 .have hm:Zjj (a,z,k)=true:=by unfold Zjj;rw[show (k.any λl=>decide (Zeu z l.1<0))=true from hc1];rfl
  refine wr'<|E' (Zai lk (cvl lkb rfl) gx rfl nb rfl ZhO hs1) ptn<|sr<|Zah<|?_
  refine Zjc (rs1 (rr_c gt gx (ld0 gt))) ?_
  refine rT' ?_
  rw[hm]
 refine za<|wr'<|Vw (Zar lk Zxn rfl)<|Zac mp (eras_a) pt<|sn'<|Zay<|?_
 refine Zvr (T1:=misT N a z k .any) (ALe.same wA' rfl) rfl hl2 λlp D rdy bsy fin vs hle hlT hY=>?_
 have hgo:=ZvR (D:=D) hn hlt ha hz hz2 hY hc1 rfl
 rw[show (h++[Ent.gone,Ent.mk 0 4 1 [bv false]]++[mkD D,Ent.raw lp rdy (misT N a z k .any) vs]:AH)=ergH h D lp 4 rdy (misT N a z k .any) vs (bv false) by simp]
 exact hgo
end
section
open Go.Ab Go.Sort
def bsL (l:List ByteArray):List Bs:=l.map aB
def sbL (l:List Bs):List ByteArray:=l.map bA
def sb_bs (l:List ByteArray):sbL (bsL l)=l:=by
 unfold sbL bsL;rw[List.map_map]
 have:(bA ∘ aB)=id:=by funext z;rfl
 rw[this,List.map_id]
def Zl6 (l:List Bs):rows strC (sbL l)=(l.map encStr).map .v:=by
 unfold sbL
 induction l with
 | nil=>rfl
 | cons x l ih=>rw[List.map_cons,List.map_cons,List.map_cons,<-ih];rfl
def Zes (l:List ByteArray):rows strC l=((bsL l).map encStr).map .v:=by rw[<-Zl6,sb_bs]
def ZeJ (l:List ByteArray):List ByteArray:=sbL ((bsL l).mergeSort λx y=>decide (x<=y))
def Zf5 (l:List ByteArray):List Bs:=Lib.compact (bsL l)
def ZuM (l:List ByteArray):(ZeJ l).length=l.length:=by simp[ZeJ,sbL,bsL]
def ZuL {l:List ByteArray}{id:Nat}(he:h[id]?=some (.mk v ty 1 (rows strC l))) (h0:l≠[]) (hl:l.length<4611686018427387904) :
  ACalls Tryz.prog 175 [.own id v l.length] h λr h'=>r=.ret (.tup [])/\h'=h.set id (.mk v ty 1 (rows strC (ZeJ l))):=by
 refine ACalls.of_turnR (by kernel_rfl) he ?_ ?_
 .rw[Zes];simpa [bsL] using h0
 .intro w g vs b cap arr hs ha hloc hb hsz hle hr
  simp only[RepL,Rep,hloc] at ha
  obtain⟨u1,us1,e1,⟨A,c,e2,hn1,hn2,rfl⟩,rfl⟩:=ha
  simp only[Option.some.injEq,Prod.mk.injEq] at e2
  obtain⟨rfl,rfl⟩:=e2
  obtain rfl:vs = #[.slice (some ⟨b,0,none⟩) l.length cap]:=by cases vs;simp_all
  have hlen:(rows strC l).length=(bsL l).length:=by rw[Zes];simp
  have hbl:(bsL l).length=l.length:=by simp[bsL]
  rw[hlen] at hr hle
  rw[Zes] at hr
  have hr2:=Zma.1 hr
  have hb':b<w.heap.size:=(Array.getElem?_eq_some_iff.1 hb).1
  have:=Tryz.slices_Sort_string b 0 cap (bsL l) w (holds_of_block hb hr2) hb' (by rw[hbl];exact hl)
  rw[hbl] at this
  refine this.mono ?_
  rintro e w' ⟨rfl,n,os,rfl⟩
  obtain⟨q1,q2,q3,q4,q5⟩:=grownBy_sorted (w:=w) (g:=b) (n:=n) (os:=os) ((bsL l).mergeSort λx y=>decide (x<=y)).toArray
  have hml:((bsL l).mergeSort λx y=>decide (x<=y)).length=(bsL l).length:=List.length_mergeSort _
  refine⟨_,((bsL l).mergeSort λx y=>decide (x<=y)).map encStr,_,rfl,by unfold ZeJ;rw[Zl6],heap_sorted _ hb,by simp[putCells],by rw[hlen];simp,?_,q1,q2,q3,q4,λk hk hne=>q5 k hk (by simpa using hne),?_⟩
  .rw[hlen,<-hml]
   exact take_putCells arr _ (by rw[hml];exact hle)
  .simp only[Rep];exact⟨#[],rfl,by simp only[RepL]⟩
def ZwB {l:List ByteArray}{id:Nat}(he:h[id]?=some (.mk v ty 1 (rows strC l))) (h0:l≠[]) (hl:l.length<=9223372036854775807) :
  ACalls Tryz.prog 176 [.own id v l.length] h λr h'=>r=.ret (.own id v (Zf5 l).length)/\h'=h.set id (.mk v ty 1 (rows strC (sbL (Zf5 l++List.replicate ((bsL l).length-(Zf5 l).length) [])))):=by
 refine ACalls.of_turnR (by kernel_rfl) he ?_ ?_
 .rw[Zes];simpa [bsL] using h0
 .intro w g vs b cap arr hs ha hloc hb hsz hle hr
  simp only[RepL,Rep,hloc] at ha
  obtain⟨u1,us1,e1,⟨A,c,e2,hn1,hn2,rfl⟩,rfl⟩:=ha
  simp only[Option.some.injEq,Prod.mk.injEq] at e2
  obtain⟨rfl,rfl⟩:=e2
  obtain rfl:vs = #[.slice (some ⟨b,0,none⟩) l.length cap]:=by cases vs;simp_all
  have hlen:(rows strC l).length=(bsL l).length:=by rw[Zes];simp
  have hbl:(bsL l).length=l.length:=by simp[bsL]
  rw[hlen] at hr hle
  rw[Zes] at hr
  have hr2:=Zma.1 hr
  have hcl:(Zf5 l).length<=(bsL l).length:=Lib.compact_length_le _
  have:=Tryz.slices_Compact_string b 0 cap (bsL l) w (holds_of_block hb hr2) (by rw[hbl];exact hl) (by rw[hbl];omega)
  rw[hbl] at this
  refine this.mono ?_
  rintro e w' ⟨rfl,q,rfl⟩
  have e0:putRow encStr (Sort.ahead w q) b 0 (Lib.compact (bsL l)++List.replicate (l.length-(Lib.compact (bsL l)).length) []).toArray=grow (putRow encStr (Sort.ahead w q) b 0 (Zf5 l++List.replicate ((bsL l).length-(Zf5 l).length) []).toArray) #[]:=by rw[grow_empty,hbl];rfl
  rw[e0]
  obtain⟨q1,q2,q3,q4,q5⟩:=grownBy_sorted (w:=w) (g:=b) (n:=q) (os := #[]) (Zf5 l++List.replicate ((bsL l).length-(Zf5 l).length) []).toArray
  have hml:(Zf5 l++List.replicate ((bsL l).length-(Zf5 l).length) []).length=(bsL l).length:=by rw[List.length_append,List.length_replicate];omega
  refine⟨_,(Zf5 l++List.replicate ((bsL l).length-(Zf5 l).length) []).map encStr,_,rfl,by rw[Zl6],heap_sorted _ hb,by simp[putCells],by rw[hlen,List.length_map,hml],?_,q1,q2,q3,q4,λk hk hne=>q5 k hk (by simpa using hne),?_⟩
  .rw[hlen]
   exact (congrArg (λn=>List.take n _) hml.symm).trans (take_putCells arr _ (by rw[hml];exact hle))
  .simp only[Rep];exact⟨_,_,hloc,by omega,hn2,rfl⟩
def ZoT {l:List ByteArray}{id:Nat}(he:h[id]?=some (.mk v ty 1 (rows strC l))) (hl:l.length<4611686018427387904) :
  ACalls Tryz.prog 175 [.own id v l.length] h λr h'=>r=.ret (.tup [])/\h'=h.set id (.mk v ty 1 (rows strC (ZeJ l))):=by
 by_cases h0:l=[]
 .subst h0
  refine⟨by kernel_rfl,λw g vs hs ha=>?_⟩
  simp only[RepL,Rep] at ha
  obtain⟨val,us,e,⟨A,cap,e1,e2,e3,rfl⟩,rfl⟩:=ha
  obtain rfl:vs = #[.slice A 0 cap]:=by cases vs;simp_all
  refine (Tryz.slices_Sort_string_none A cap w).mono ?_
  rintro e w' ⟨rfl,rfl⟩
  refine⟨.ret (.tup []),h,g,?_,hs,Gh.le.refl g,Fr.refl _ _,λk hk=>.inl hk,rfl,?_⟩
  .exact (by simp only[EndR,Rep];exact⟨#[],rfl,by simp[RepL]⟩)
  .rw[show ZeJ []=[] by simp[ZeJ,bsL,sbL]]
   exact (ZhB he).symm
 .exact ZuL he h0 hl
def ZpF {l:List ByteArray}{id:Nat}(he:h[id]?=some (.mk v ty 1 (rows strC l))) (hl:l.length<=9223372036854775807) :
  ACalls Tryz.prog 176 [.own id v l.length] h λr h'=>r=.ret (.own id v (Zf5 l).length)/\h'=h.set id (.mk v ty 1 (rows strC (sbL (Zf5 l++List.replicate ((bsL l).length-(Zf5 l).length) [])))):=by
 by_cases h0:l=[]
 .subst h0
  refine⟨by kernel_rfl,λw g vs hs ha=>?_⟩
  simp only[RepL,Rep] at ha
  obtain⟨val,us,e,⟨A,cap,e1,e2,e3,rfl⟩,rfl⟩:=ha
  obtain rfl:vs = #[.slice A 0 cap]:=by cases vs;simp_all
  refine (Tryz.slices_Compact_string_empty A cap w).mono ?_
  rintro e w' ⟨rfl,rfl⟩
  refine⟨.ret (.own id v 0),h,g,?_,hs,Gh.le.refl g,Fr.refl _ _,λk hk=>.inl hk,rfl,?_⟩
  .exact (by simp only[EndR,Rep];exact⟨A,cap,e1,Nat.zero_le _,e3,rfl⟩)
  .exact (ZhB he).symm
 .exact ZwB he h0 hl
def le_tr (a b c:Bs):a<=b->b<=c->a<=c:=λh1 h2=>List.le_trans h1 h2
def Zum {l:List ByteArray}:decide ((Zf5 (ZeJ l)).length<l.length)=decide (¬l.Nodup):=by
 have hperm:(bsL (ZeJ l)).Perm (bsL l):=by
  have:bsL (ZeJ l)=(bsL l).mergeSort λx y=>decide (x<=y):=by
   unfold ZeJ sbL bsL
   rw[List.map_map]
   have:(aB ∘ bA)=id:=by funext z;simp[aB,bA]
   rw[this,List.map_id]
  rw[this];exact List.mergeSort_perm _ _
 have hsort:(bsL (ZeJ l)).Pairwise (· <= ·):=by
  have e:bsL (ZeJ l)=(bsL l).mergeSort λx y=>decide (x<=y):=by
   unfold ZeJ sbL bsL
   rw[List.map_map]
   have:(aB ∘ bA)=id:=by funext z;simp[aB,bA]
   rw[this,List.map_id]
  rw[e]
  have h:=List.pairwise_mergeSort (le:=λa b:Bs=>decide (a<=b)) (λa b c h1 h2=>by simp only[decide_eq_true_eq] at *;exact le_tr _ _ _ h1 h2) (λa b=>by simp only[Bool.or_eq_true,decide_eq_true_eq];exact List.le_total a b) (bsL l)
  exact h.imp λh=>by simpa using h
 have hnd:l.Nodup↔(bsL (ZeJ l)).Nodup:=by
  rw[hperm.nodup_iff]
  unfold bsL
  constructor
  .intro h
   exact List.pairwise_map.2 (h.imp λhne e=>hne (by have:=congrArg bA e;exact this))
  .intro h
   exact (List.pairwise_map.1 h).imp λhne e=>hne (by rw[e])
 have hlen:(bsL (ZeJ l)).length=l.length:=by rw[hperm.length_eq];simp[bsL]
 rw[Bool.eq_iff_iff,decide_eq_true_iff,decide_eq_true_iff,hnd,<-hlen]
 show (Lib.compact (bsL (ZeJ l))).length<_↔_
 generalize bsL (ZeJ l)=L at hsort
 have e:(Lib.compact L).length=((List.range L.length).filter (Lib.keeps L.toArray)).length:=by unfold Lib.compact Lib.compactUpTo;rw[List.length_map]
 rw[e]
 have hr:L.length=(List.range L.length).length:=by simp
 conv=>lhs;rhs;rw[hr]
 rw[List.length_filter_lt_length_iff_exists]
 have hget : ∀ j (h:j<L.length),L.toArray[j]! = L[j]:=λj h=>by simp[h]
 constructor
 .rintro⟨j,hj,hk⟩ hnd
  have hj:=List.mem_range.1 hj
  unfold Lib.keeps at hk
  simp only[decide_eq_true_eq,not_or,Decidable.not_not] at hk
  obtain⟨h0,h1⟩:=hk
  rw[hget j hj,hget (j-1) om] at h1
  exact List.pairwise_iff_getElem.1 hnd (j-1) j om hj om h1.symm
 .intro hnd
  refine Decidable.byContradiction λhne=>hnd (List.pairwise_iff_getElem.2 λi j hi hj hij e=>hne ⟨j,List.mem_range.2 hj,?_⟩)
  unfold Lib.keeps
  simp only[decide_eq_true_eq,not_or,Decidable.not_not]
  refine⟨by omega,?_⟩
  rw[hget j hj,hget (j-1) om]
  have h1:L[j-1]<=L[j]:=List.pairwise_iff_getElem.1 hsort (j-1) j om hj om
  have h2:L[i]<=L[j-1]:=by
   by_cases hh:i=j-1
   .subst hh;exact List.le_refl _
   .exact List.pairwise_iff_getElem.1 hsort i (j-1) hi om om
  rw[<-e] at h1
  rw[<-e]
  exact List.le_antisymm h2 h1
end
section
open Go.Ab Go.RowKit Civ
attribute [local simp] ZbR Zcn Zb6 Zbq Zbl ZdX ZcM
section
def Zg4 :(a0::a1::l).take 2=[a0,a1]:=rfl
def ZfR :setCells (a0::a1::l) 0 [c0,c1]=c0::c1::l:=rfl
def Zg7 {τ:Operand->AV}{y0:Operand}{x0_0:AV}(h0:Zaq (τ y0)=some [x0_0]) (l0:[x0_0].all leaf=true):Zal τ [(0,1,y0)] [(.v (.string ⟨#[]⟩))]=some [x0_0]:=by
 simp only[Zal,h0,l0]
 rfl
def Zg5 :(a0::l).take 1=[a0]:=rfl
def Zg6 {τ:Operand->AV}{y0:Operand}{x0_0:AV}(h0:Zaq (τ y0)=some [x0_0]) (l0:[x0_0].all leaf=true):Zal τ [(0,1,y0)] [(.v (.string ⟨#[]⟩))]=some [x0_0]:=by
 simp only[Zal,h0,l0]
 rfl
def Zn7 :(a0::a1::a2::l).take 3=[a0,a1,a2]:=rfl
end
def c174:AC:=(Sr [Oo 1 (.box 89 3 (t 0)),Oo 2 (.mv (.const (.slice none 0 0)))] (Sr [Oo 3 (.mv (.const (.slice none 0 0)))] (.seq (Sr [Fa 8 1 1,Ld 9 8,Oo 10 (.len false (t 9)),Mc 11 0] (.block 0 (.loop (Sr [Bn 12 .lss 11 10] (.seq (Cd 12 .skip (.exit 0)) (.seq (.block 1 (Sr [Oo 13 (.ia 2 (t 9) (t 11)),Oo 14 (.load true 2 (t 13)),Oo 5 (.new 139 2 [Ss,nl]),⟨none,none,(.store 2 (t 5) (t 14))⟩] (.reg [Mv 15 3,Fa 16 0 5,Ld 17 16,Oo 18 (.lit 9 1 1 [Ss] [(0,(1,(t 17)))]),Oo 19 (.app 9 1 16 (t 15) (t 18)),Mv 3 19]))) (.reg [Bc 20 .add 11 1,Mv 11 20]))))))) (.seq (Sr [Fa 21 2 1,Ld 22 21,Oo 23 (.len false (t 22)),Mc 24 0] (.block 2 (.loop (Sr [Bn 25 .lss 24 23] (.seq (Cd 25 .skip (.exit 2)) (.seq (.block 3 (Sr [Oo 26 (.ia 2 (t 22) (t 24)),Oo 27 (.load true 2 (t 26)),Oo 7 (.new 81 2 [Ss,Ss]),⟨none,none,(.store 2 (t 7) (t 27))⟩] (.reg [Mv 28 3,Fa 29 1 7,Ld 30 29,Oo 31 (.lit 9 1 1 [Ss] [(0,(1,(t 30)))]),Oo 32 (.app 9 1 16 (t 28) (t 31)),Mv 3 32]))) (.reg [Bc 33 .add 24 1,Mv 24 33]))))))) (Sr [Mv 34 3,Mv 2 34] .ret)))))
def k174:ZbT Tryz.prog 174=some ⟨c174,[(.tmp 2)],35⟩:=by kernel_rfl
def k123:=Ku (none) 123 [.u [[],[],[],[0,1,2],[2],[2],[],[]]]
def Zdi (z:List Zon) (k:List Lnk):List ByteArray:=z.map (·.1)++k.map (·.2)
def Zhv (z:List Zon) (k:List Lnk):(Zdi z k).length=z.length+k.length:=by simp[Zdi]
def ZlX (x:ByteArray):rows strC [x]=[sv x]:=rfl
def names_o {a:List Rul}{q:Nat}(hq:h.length+1=q) (hz:z.length<=20) (hk:k.length<=20):ACalls Tryz.prog 174 [.agg (srcB a z k)] h λx h'=>x=.ret (.own q (Zdi z k).length (Zdi z k).length)/\h'=h++[.mk 0 89 3 (srcB a z k),.mk (Zdi z k).length 9 1 (rows strC (Zdi z k))]:=by
 have hnl:=Zhv z k
 have hkk:=hk
 refine tN' k174 λN hn hlt _ hbd=>?_
 simp only[tb'] at hbd ⊢
 refine wr'<|E' (ZaM (cvl lk0 rfl) rfl hl0 ha0) pt1<|mv' lkn pt2<|sn'<|wr'<|mv' lkn pt3<|Zam<|ZaN (ALe.own0' (st':=1) (ty:=9) gt3 hl1 pt3 ha1)<|Zab<|wr'<|?_
 refine fq<|Vw (Zaa lk gx gt1)<|Vw (Zaz lk)<|ms<|Zag<|?_
 refine w_lp (ι:=Nat) (λ(i:Nat)=>[(3,.own (N+1) i i),(11,iv (i:Int)),(5,.any)]++rn' 12 9) (λ(i:Nat)=>[(1,.mk i 9 1 (rows strC ((z.map (·.1)).take i)))]) (λ(i:Nat)=>i<=z.length) (λ(i:Nat)=>z.length-i) (0) (by exact Nat.zero_le _) ?_
 rintro i hi1
 try simp only[sm',Nat.reduceAdd]
 replace hi1:i<=z.length:=hi1
 have htl:((z.map (·.1)).take i).length=i:=by rw[List.length_take,List.length_map];omega
 refine wr'<|Vw (ZaJ lk lk)<|sn'<|Zab<|?_
 refine cd' lk (λhc1=>?_) (λhc1=>?_)
 .have hi:i<z.length:=by omega
  have htk:(z.map (·.1)).take (i+1)=(z.map (·.1)).take i++[z[i].1]:=by rw[List.take_succ_eq_append_getElem (by simpa using hi)];simp
  refine za<|Zab<|Zag<|wr'<|?_
  refine V' (ZaE lk lk ZcD nb ro om ro rfl) pt ?_
  refine Vw (Zar lk Zg4 rfl)<|E' (ZaR hl2 ha2) pt<|E' (Zai lk cv gx rfl nb rfl ZfR hs2) ptn<|sn'<|Zao<|mw<|fq<|Vw (Zaa lk gx gt0)<|E' (ZcB (Zg7 cv rfl) hl3 ha3) pt<|?_
  refine E' (Zby (Zbm lk (hga hn rfl) rfl Zg5 nb) lk (hga hn rfl) ((Zdp _).trans (by rw[htl])) om rfl hs1) pt ?_
  refine mw<|Zam<|Zau<|Zan<|Zao<|?_
  refine ad<|mw<|Zam<|Zaw<|?_
  refine lU' (i+1) (by (try dsimp only);omega) (by refine zz ?_;exact bk' 2 hn hlt (by rw[htk,ZaG,ZlX];rfl))
 have hie:i=z.length:=by omega
 subst hie
 rw[show (z.map (·.1)).take z.length=z.map (·.1) from List.take_of_length_le (by simp)]
 refine Zax<|Zas<|Zas<|ZaK<|Zan<|Zab<|wr'<|fq<|Vw (Zaa lk gx gt2)<|Vw (Zaz lk)<|ms<|?_
 refine Zag ?_
 refine Zd1 (ι:=Nat) (λ(j:Nat)=>[(3,.own (N+1) (z.length+j) (z.length+j)),(24,iv (j:Int)),(7,.any)]++rn' 25 9) (λ(j:Nat)=>[(1,.mk (z.length+j) 9 1 (rows strC (z.map (·.1)++(k.map (·.2)).take j)))]) (λ(j:Nat)=>j<=k.length) (λ(j:Nat)=>k.length-j) (0) (by exact Nat.zero_le _) (by try simp only[sm',Nat.reduceAdd];exact ALe.same wA' (by rw[List.take_zero,List.append_nil];rfl)) ?_
 rintro j hi2
 try simp only[sm',Nat.reduceAdd]
 replace hi2:j<=k.length:=hi2
 have htl2:(z.map (·.1)++(k.map (·.2)).take j).length=z.length+j:=by rw[List.length_append,List.length_map,List.length_take,List.length_map];omega
 refine wr'<|Vw (ZaJ lk lk)<|sn'<|Zab<|?_
 refine cd' lk (λhc2=>?_) (λhc2=>?_)
 .have hj:j<k.length:=by omega
  have htk2:(k.map (·.2)).take (j+1)=(k.map (·.2)).take j++[k[j].2]:=by rw[List.take_succ_eq_append_getElem (by simpa using hj)];simp
  refine za<|Zab<|Zag<|wr'<|?_
  refine V' (ZaE lk lk Zbe nb ro om ro rfl) pt ?_
  refine Vw (Zar lk Zg4 rfl)<|E' (ZaR hl2 ha2) pt<|E' (Zai lk cv gx rfl nb rfl ZfR hs2) ptn<|sn'<|Zao<|mw<|fq<|Vw (Zaa lk gx gt1)<|E' (ZcB (Zg6 cv rfl) hl3 ha3) pt<|?_
  refine E' (Zby (Zbm lk (hga hn rfl) rfl Zg5 nb) lk (hga hn rfl) ((Zdp _).trans (by rw[htl2])) om rfl hs1) pt ?_
  refine mw<|Zam<|Zau<|Zan<|Zao<|?_
  refine ad<|mw<|Zam<|Zaw<|?_
  refine lU' (j+1) (by (try dsimp only);omega) (by refine zz ?_;exact bk' 2 hn hlt (by simp only[htk2,ZaG,ZlX,List.append_assoc];rfl))
 have hje:j=k.length:=by omega
 subst hje
 rw[show (k.map (·.2)).take k.length=k.map (·.2) from List.take_of_length_le (by simp)]
 refine Zax<|Zas<|Zas<|ZaK<|Zan<|wm<|mr<|Zae rz<|?_
 rw[<-hq,hnl,hn];exact⟨rfl,rfl⟩
def names_q {a:List Rul}(hz:z.length<=20) (hk:k.length<=20):Ac 174 [.agg (srcB a z k)] h (.sl (Zdi z k).length 1 false (rows strC (Zdi z k))):=by
 have hnl:=Zhv z k
 have hkk:=hk
 refine tW' k174 λN hn hlt _ hbd=>?_
 simp only[tb'] at hbd ⊢
 refine wr'<|E' (ZaM (cvl lk0 rfl) rfl hl0 ha0) pt1<|mv' lkn pt2<|sn'<|wr'<|mv' lkn pt3<|Zam<|ZaN (ALe.own0' (st':=1) (ty:=9) gt3 hl1 pt3 ha1)<|Zab<|wr'<|?_
 refine fq<|Vw (Zaa lk gx gt1)<|Vw (Zaz lk)<|ms<|Zag<|?_
 refine w_lp (ι:=Nat) (λ(i:Nat)=>[(3,.own (N+1) i i),(11,iv (i:Int)),(5,.any)]++rn' 12 9) (λ(i:Nat)=>[(1,.mk i 9 1 (rows strC ((z.map (·.1)).take i)))]) (λ(i:Nat)=>i<=z.length) (λ(i:Nat)=>z.length-i) (0) (by exact Nat.zero_le _) ?_
 rintro i hi1
 try simp only[sm',Nat.reduceAdd]
 replace hi1:i<=z.length:=hi1
 have htl:((z.map (·.1)).take i).length=i:=by rw[List.length_take,List.length_map];omega
 refine wr'<|Vw (ZaJ lk lk)<|sn'<|Zab<|?_
 refine cd' lk (λhc1=>?_) (λhc1=>?_)
 .have hi:i<z.length:=by omega
  have htk:(z.map (·.1)).take (i+1)=(z.map (·.1)).take i++[z[i].1]:=by rw[List.take_succ_eq_append_getElem (by simpa using hi)];simp
  refine za<|Zab<|Zag<|wr'<|?_
  refine V' (ZaE lk lk ZcD nb ro om ro rfl) pt ?_
  refine Vw (Zar lk Zg4 rfl)<|E' (ZaR hl2 ha2) pt<|E' (Zai lk cv gx rfl nb rfl ZfR hs2) ptn<|sn'<|Zao<|mw<|fq<|Vw (Zaa lk gx gt0)<|E' (ZcB (Zg7 cv rfl) hl3 ha3) pt<|?_
  refine E' (Zby (Zbm lk (hga hn rfl) rfl Zg5 nb) lk (hga hn rfl) ((Zdp _).trans (by rw[htl])) om rfl hs1) pt ?_
  refine mw<|Zam<|Zau<|Zan<|Zao<|?_
  refine ad<|mw<|Zam<|Zaw<|?_
  refine lU' (i+1) (by (try dsimp only);omega) (by refine zz ?_;exact bk' 2 hn hlt (by rw[htk,ZaG,ZlX];rfl))
 have hie:i=z.length:=by omega
 subst hie
 rw[show (z.map (·.1)).take z.length=z.map (·.1) from List.take_of_length_le (by simp)]
 refine Zax<|Zas<|Zas<|ZaK<|Zan<|Zab<|wr'<|fq<|Vw (Zaa lk gx gt2)<|Vw (Zaz lk)<|ms<|?_
 refine Zag ?_
 refine Zd1 (ι:=Nat) (λ(j:Nat)=>[(3,.own (N+1) (z.length+j) (z.length+j)),(24,iv (j:Int)),(7,.any)]++rn' 25 9) (λ(j:Nat)=>[(1,.mk (z.length+j) 9 1 (rows strC (z.map (·.1)++(k.map (·.2)).take j)))]) (λ(j:Nat)=>j<=k.length) (λ(j:Nat)=>k.length-j) (0) (by exact Nat.zero_le _) (by try simp only[sm',Nat.reduceAdd];exact ALe.same wA' (by rw[List.take_zero,List.append_nil];rfl)) ?_
 rintro j hi2
 try simp only[sm',Nat.reduceAdd]
 replace hi2:j<=k.length:=hi2
 have htl2:(z.map (·.1)++(k.map (·.2)).take j).length=z.length+j:=by rw[List.length_append,List.length_map,List.length_take,List.length_map];omega
 refine wr'<|Vw (ZaJ lk lk)<|sn'<|Zab<|?_
 refine cd' lk (λhc2=>?_) (λhc2=>?_)
 .have hj:j<k.length:=by omega
  have htk2:(k.map (·.2)).take (j+1)=(k.map (·.2)).take j++[k[j].2]:=by rw[List.take_succ_eq_append_getElem (by simpa using hj)];simp
  refine za<|Zab<|Zag<|wr'<|?_
  refine V' (ZaE lk lk Zbe nb ro om ro rfl) pt ?_
  refine Vw (Zar lk Zg4 rfl)<|E' (ZaR hl2 ha2) pt<|E' (Zai lk cv gx rfl nb rfl ZfR hs2) ptn<|sn'<|Zao<|mw<|fq<|Vw (Zaa lk gx gt1)<|E' (ZcB (Zg6 cv rfl) hl3 ha3) pt<|?_
  refine E' (Zby (Zbm lk (hga hn rfl) rfl Zg5 nb) lk (hga hn rfl) ((Zdp _).trans (by rw[htl2])) om rfl hs1) pt ?_
  refine mw<|Zam<|Zau<|Zan<|Zao<|?_
  refine ad<|mw<|Zam<|Zaw<|?_
  refine lU' (j+1) (by (try dsimp only);omega) (by refine zz ?_;exact bk' 2 hn hlt (by simp only[htk2,ZaG,ZlX,List.append_assoc];rfl))
 have hje:j=k.length:=by omega
 subst hje
 rw[show (k.map (·.2)).take k.length=k.map (·.2) from List.take_of_length_le (by simp)]
 refine Zax<|Zas<|Zas<|ZaK<|?_
 refine ZaN (ALe.iceR (hga hn rfl) gt3 (List.take_of_length_le (by rw[Zdp];simp)) (by rw[Zdp];simp) pt3 hs1) ?_
 refine wm<|mr<|Zae rz<|rtW'<|?_
 rw[hnl];exact Wk.full
def twice_a {a:List Rul}(hz:z.length<=20) (hk:k.length<=20):Ac 123 [.agg (srcB a z k)] h (bv (decide (¬(Zdi z k).Nodup))):=by
 have hnl:=Zhv z k
 have hsl:=ZuM (Zdi z k)
 refine tU' k123 λN hn _ _ hbd=>?_
 simp only[tb'] at hbd ⊢
 refine wr'<|E' (ZaM cv rfl hl0 ha0) pt<|mw<|Zam<|?_
 refine ZaN (ALe.icePtr gx gt1 (by simp) pt1 hs0) ?_
 refine wr'<|Vw (Zar lk Zn7 rfl)<|?_
 refine s_callh mp ((names_o (q:=N+2) (by rw[hl1 hn]) hz hk).mono (λx h' hh=>⟨hh.1,hh.2.trans (show _=h++[_,_,_] from List.append_assoc _ _ _)⟩)) pt ?_
 refine ms<|wm<|?_
 refine Zi9 mp (ZoT gx om) hs2 pt ?_
 refine sn'<|Zab<|Zf9<|uf vm<|?_
 refine Zhi mp gx (λhU hUe=>(by have:=ZpF (h:=hU) (l:=ZeJ (Zdi z k)) hUe om;rwa [hsl] at this)) nh hs2 pt ?_
 refine uf (Zcy lk)<|uf (Zar lk Zn7 rfl)<|?_
 refine Zul mp (λhU=>names_q hz hk) pt ?_
 refine uf (Zaz lk)<|uf (ZaJ lk lk)<|uf vm<|Zkp<|Zan<|Zbh<|Zae rz<|rT'<|?_
 exact bvx (by rw[<-Zum];simp)
end
section
open Go.Ab Go.RowKit Civ
attribute [local simp] ZbR Zcn Zb6 Zbq Zbl ZdX Zd4
section
def Zp2 :setCells (a0::a1::a2::a3::a4::a5::a6::a7::a8::a9::l) 0 [c0,c1,c2,c3,c4,c5,c6,c7,c8,c9]=c0::c1::c2::c3::c4::c5::c6::c7::c8::c9::l:=rfl
def ZdI :setCells (a0::l) 0 [c0]=c0::l:=rfl
def Zg3 :(a0::a1::a2::l).take 3=[a0,a1,a2]:=rfl
end
def c84p:AC:=(.seq (.reg [⟨(some 1),none,(.box 89 3 (.tmp 0))⟩,⟨(some 2),none,(.new 35 1 [(iv 0)])⟩]) (.seq (.reg [⟨(some 7),none,(.load true 3 (.tmp 1))⟩,⟨(some 8),none,(.call (.func 122) [(.tmp 7)])⟩,⟨(some 3),none,(.mv (.tmp 8))⟩]) (.seq (.block 0 (.seq (.reg [⟨(some 10),none,(.mv (.tmp 3))⟩,⟨(some 11),none,(.bin .neq (.tmp 10) (.const (.int .i64 0)))⟩,⟨(some 9),none,(.mv (.tmp 11))⟩]) (.cond (.tmp 9) (.seq (.reg [⟨(some 12),none,(.mv (.tmp 3))⟩,⟨none,none,(.store 1 (.tmp 2) (.tmp 12))⟩]) .ret) (.seq (.reg [⟨(some 14),none,(.load true 3 (.tmp 1))⟩,⟨(some 15),none,(.call (.func 123) [(.tmp 14)])⟩,⟨(some 13),none,(.mv (.tmp 15))⟩]) (.cond (.tmp 13) (.seq (.reg [⟨none,none,(.store 1 (.tmp 2) (.const (.int .i64 6)))⟩]) .ret) (.seq (.reg [⟨(some 17),none,(.load true 3 (.tmp 1))⟩,⟨(some 18),none,(.call (.func 124) [(.tmp 17)])⟩,⟨(some 16),none,(.mv (.tmp 18))⟩]) (.cond (.tmp 16) (.seq (.reg [⟨none,none,(.store 1 (.tmp 2) (.const (.int .i64 5)))⟩]) .ret) .skip))))))) (.seq (.reg [⟨(some 19),none,(.load true 3 (.tmp 1))⟩,⟨(some 20),none,(.call (.func 125) [(.tmp 19)])⟩]) .skip))))
def c84a:AC:=(.reg [⟨(some 4),none,(.new 178 10 [(iv 0),(.v (.string ⟨#[]⟩)),(iv 0),(.v (.string ⟨#[]⟩)),(.v (.bool false)),(iv 0),(iv 0),(iv 0),(iv 0),(iv 0)])⟩,⟨none,none,(.store 10 (.tmp 4) (.tmp 21))⟩])
def c84b:AC:=(.block 2 (.seq (.seq (.reg [⟨(some 22),none,(.fa 1 (.tmp 4))⟩,⟨(some 23),none,(.load false 1 (.tmp 22))⟩,⟨(some 24),none,(.bin .eql (.tmp 23) (.const (.string ⟨#[]⟩)))⟩]) (.cond (.tmp 24) (.exit 2) .skip)) (.seq (.reg [⟨(some 26),none,(.fa 0 (.tmp 1))⟩,⟨(some 27),none,(.load false 1 (.tmp 26))⟩,⟨(some 28),none,(.fa 1 (.tmp 4))⟩,⟨(some 29),none,(.load false 1 (.tmp 28))⟩,⟨(some 30),none,(.fa 0 (.tmp 4))⟩,⟨(some 31),none,(.load false 1 (.tmp 30))⟩,⟨(some 32),none,(.call (.func 126) [(.tmp 27),(.tmp 29),(.tmp 31)])⟩,⟨(some 25),none,(.mv (.tmp 32))⟩,⟨(some 33),none,(.ext (.tmp 25) 0)⟩,⟨(some 34),none,(.ext (.tmp 25) 1)⟩,⟨(some 5),none,(.mv (.tmp 33))⟩,⟨(some 6),none,(.mv (.tmp 34))⟩]) (.seq (.reg [⟨(some 35),none,(.mv (.tmp 6))⟩,⟨(some 36),none,(.bin .neq (.tmp 35) (.const (.int .i64 0)))⟩]) (.cond (.tmp 36) (.seq (.reg [⟨(some 37),none,(.mv (.tmp 6))⟩,⟨none,none,(.store 1 (.tmp 2) (.tmp 37))⟩]) .ret) .skip)))))
def c84q:AC:=(.seq (.reg [⟨(some 38),none,(.fa 1 (.tmp 1))⟩,⟨(some 39),none,(.load false 1 (.tmp 38))⟩,⟨(some 40),none,(.call (.func 127) [(.tmp 39),(.func 128)])⟩]) (.seq (.cond (.tmp 40) (.seq (.reg [⟨none,none,(.store 1 (.tmp 2) (.const (.int .i64 4)))⟩]) .ret) .skip) (.seq (.reg [⟨none,none,(.store 1 (.tmp 2) (.const (.int .i64 0)))⟩]) (.seq .ret .skip))))
abbrev fr84:AFR:=⟨[(.reg [⟨(some 1),none,(.box 89 3 (.tmp 0))⟩,⟨(some 2),none,(.new 35 1 [(iv 0)])⟩]),(.reg [⟨(some 7),none,(.load true 3 (.tmp 1))⟩,⟨(some 8),none,(.call (.func 122) [(.tmp 7)])⟩,⟨(some 3),none,(.mv (.tmp 8))⟩]),(.block 0 (.seq (.reg [⟨(some 10),none,(.mv (.tmp 3))⟩,⟨(some 11),none,(.bin .neq (.tmp 10) (.const (.int .i64 0)))⟩,⟨(some 9),none,(.mv (.tmp 11))⟩]) (.cond (.tmp 9) (.seq (.reg [⟨(some 12),none,(.mv (.tmp 3))⟩,⟨none,none,(.store 1 (.tmp 2) (.tmp 12))⟩]) .ret) (.seq (.reg [⟨(some 14),none,(.load true 3 (.tmp 1))⟩,⟨(some 15),none,(.call (.func 123) [(.tmp 14)])⟩,⟨(some 13),none,(.mv (.tmp 15))⟩]) (.cond (.tmp 13) (.seq (.reg [⟨none,none,(.store 1 (.tmp 2) (.const (.int .i64 6)))⟩]) .ret) (.seq (.reg [⟨(some 17),none,(.load true 3 (.tmp 1))⟩,⟨(some 18),none,(.call (.func 124) [(.tmp 17)])⟩,⟨(some 16),none,(.mv (.tmp 18))⟩]) (.cond (.tmp 16) (.seq (.reg [⟨none,none,(.store 1 (.tmp 2) (.const (.int .i64 5)))⟩]) .ret) .skip))))))),(.reg [⟨(some 19),none,(.load true 3 (.tmp 1))⟩,⟨(some 20),none,(.call (.func 125) [(.tmp 19)])⟩])],(.tmp 20),#[21],c84a,c84b,c84q,[(.cell 2 false 1)],41⟩
def k84:Zis Tryz.prog 84=some fr84:=by kernel_rfl
def errX (a:List Rul) (x:Era):Int:=if xRl x=⟨#[]⟩ then 0 else (Zbf a (xRl x) (xSh x)).2
def ZbG (s:Src):Int :=
 if Zdk s≠0 then Zdk s else if ¬(Zdi s.2.1 s.2.2).Nodup then 6 else if Zjj s=true then 5
 else if Zbk (errX s.1) (Zdw s.2.1)≠0 then Zbk (errX s.1) (Zdw s.2.1)
 else if (s.2.1.any λz=>!risL (ZaO z.2))=true then 4 else 0
def Zjx {p:Era->Int}{l:List Era}:Zbk p l=match l.find? (λx=>decide (p x≠0)) with
  | none=>0
  | some x=>p x:=by
 induction l with
 | nil=>rfl
 | cons x l ih =>
  rw[Zbk,List.find?_cons]
  by_cases h:p x≠0
  .rw[if_pos h,decide_eq_true h]
  rw[if_neg h,decide_eq_false h];exact ih
def ZdZ (h:Zdk s=0):s.1.length<=40/\s.2.1.length<=20/\s.2.2.length<=20/\(∀ z∈s.2.1,z.2.length<=8)/\(∀ r∈s.1,Zbv r=0)/\(∀ z∈s.2.1,Zi1 z=0) /\ ∀ l∈s.2.2,Zjp l=0:=by
 unfold Zdk at h
 split at h
 .cases h
 rename_i h1
 split at h
 .rename_i h2;exact absurd h h2
 rename_i h2
 split at h
 .rename_i h3;exact absurd h h3
 rename_i h3
 have h1:ZnC s=false:=by simpa using h1
 unfold ZnC at h1
 simp only[Bool.or_eq_false_iff,decide_eq_false_iff_not,List.any_eq_false,decide_eq_true_eq] at h1
 exact⟨by omega,by omega,by omega,λz hz=>by have:=h1.1.1.1 z hz;omega,ZcO (Decidable.of_not_not h2),ZcO (Decidable.of_not_not h3),ZcO h⟩
def ZfN (h:Zdk s=0) {z:Zon}(hz:z∈s.2.1):okZ z.2:=by
 obtain⟨_,_,_,h4,_,h6,_⟩:=ZdZ h
 exact okZ_of (h6 z hz) (h4 z hz)
abbrev chkT (N:Nat) (a:List Rul) (z:List Zon) (k:List Lnk) (x:AV):List AV:=[.any,.rp (srcB a z k),.ptr (N+1) 0 0,.any,.any,.any,.any,.any,.any,.any,.any,.any,.any,.any,.any,.any,.any,.any,.any,.any,.clo (.func 182) [.rp (srcB a z k)],x,.any,.any,.any,.any,.any,.any,.any,.any,.any,.any,.any,.any,.any,.any,.any,.any,.any,.any,.any]
def chkT_lt {a:List Rul}:AV.ltL (N+4) (chkT N a z k .any)=true:=by simp[AV.ltL,AV.lt,ZbR,Zb6,Zbq]
def ZjI {lp:Nat}{a:List Rul}(hn:h.length=N) (hlt : ∀ e∈h,e.lt N=true) (ha:a.length<=9223372036854775807) (hok:okRs a)
  (hY:ZmK Tryz.prog fr84 (N+2+1) lp rdy bsy fin (chkT N a z k .any) vs) {x:Era} {e f:Ent} :
  AYield Tryz.prog lp [.agg (eraC x)] (ergJ h D lp 35 rdy (chkT N a z k .any) vs (iv 0) e f) λr h''=>r=.ret (.v (.bool (!decide (errX a x≠0))))/\h''=ergJ h D lp 35 (if errX a x≠0 then fin else rdy) (chkT N a z k .any) vs (iv (errX a x)) e f:=by
 refine y_go hY (hga (k:=3) hn rfl) rfl λn0 hn0 hlt0 q1 q2 q3=>?_
 have hm:n0=N+6:=by rw[<-hn0];simp[hn]
 have hE:=hlt0 e (by simp)
 have hF:=hlt0 f (by simp)
 have hR:=hlt0 (.raw lp rdy (chkT N a z k .any) vs) (by simp)
 show aw _ _ c84a _ _ _
 show aw _ _ _ _ (chkT N a z k (.agg (eraC x))) (h++[.gone,.mk 0 35 1 [iv 0],mkD D,.raw lp rdy (chkT N a z k .any) vs,e,f])
 refine Zao<|E' (ZaR hl6 ha6) pt<|E' (Zai lk cv gx rfl nb rfl Zp2 hs6) ptn<|Zam<|?_
 refine Zxb (i:=N+3) gx hs3 λn1 hn1 hlt1=>?_
 have hro : ∀ o:Obj,Ent.lt n0 (.raw lp o (chkT N a z k .any) vs)=true:=λo=>by simpa [Ent.lt] using hR
 have fin2 : ∀ (n:Int) (b:Bool) (o:Obj) (E:Ent),n=errX a x->b=!decide (errX a x≠0)->o=(if errX a x≠0 then fin else rdy) -> ∃ y z',h++[.gone,.mk 0 35 1 [iv n],mkD D,.raw lp o (chkT N a z k .any) vs,e,f,E]=y++z'/\y.length=n0/\(∀ e∈y,e.lt n0=true)/\(AE.ret (.v (.bool b))).lt n0=true/\AE.ret (.v (.bool b))=.ret (.v (.bool (!decide (errX a x≠0))))/\y=ergJ h D lp 35 (if errX a x≠0 then fin else rdy) (chkT N a z k .any) vs (iv (errX a x)) e f:=by
  rintro n b o E rfl rfl rfl
  refine⟨_,_,app61,by rw[<-hn0];simp,λy hy=>?_,rfl,rfl,rfl⟩
  rcases List.mem_append.1 hy with hy | hy
  .exact ltw om hlt y hy
  simp only[List.mem_cons,List.not_mem_nil,or_false] at hy
  rcases hy with rfl | rfl | rfl | rfl | rfl | rfl
  .simp[Ent.lt]
  .simp[Ent.lt,AV.ltL,AV.lt]
  .simp[Ent.lt,AV.ltL]
  .exact hro _
  .exact hE
  exact hF
 show aw _ _ c84b _ _ _
 refine Zag<|Zab<|wr'<|fq<|Vw (Zaa lk gx gt1)<|Vw (Ze4 lk lks)<|sn'<|?_
 refine cd' lk (λhc1=>?_) (λhc1=>?_)
 .have hP:errX a x=0:=if_pos hc1
  refine Zax<|Zas<|ZaK<|?_
  exact ZjL (i:=N+3) (hga hn rfl) hs3 (fin2 0 true rdy _ hP.symm (by rw[hP];rfl) (by rw[hP];rfl))
 have hP:errX a x=(Zbf a (xRl x) (xSh x)).2:=if_neg hc1
 refine za<|wr'<|Vw (ZaZ lk dp0)<|Vw (Zav lk gt)<|fq<|Vw (Zaa lk gx gt1)<|fq<|Vw (Zaa lk gx gt0)<|Zac mp (Zuu hok ha) pt<|mw<|Vw (ZaS lk gt)<|Vw (ZaS lk gt)<|?_
 refine mw<|ms<|wm<|Vw (ZaY lk lki)<|sn'<|?_
 refine cd' lk (λhc2=>?_) (λhc2=>?_)
 .have hP2:errX a x≠0:=by rw[hP];exact hc2
  refine wm<|E' (Zai lk cv gx rfl nb rfl ZdI hs1) ptn<|sr<|Zap<|?_
  refine ZrR (i:=N+3) (hga hn rfl) hs3 (fin2 _ false fin _ hP.symm (by rw[decide_eq_true hP2];rfl) (by rw[if_pos hP2]))
 have hP2:errX a x=0:=by rw[hP];exact Decidable.of_not_not hc2
 refine Zay<|Zau<|?_
 exact ZjL (i:=N+3) (hga hn rfl) hs3 (fin2 0 true rdy _ hP2.symm (by rw[hP2];rfl) (by rw[hP2];rfl))
def ZsG {h:AH}{lp N D:Nat}{rdy bsy fin:Obj}{a:List Rul}{z:List Zon}{k:List Lnk}{vs:List Value}(hn:h.length=N) (hlt : ∀ e∈h,e.lt N=true) (hok:okRs a) (hc:Zdk (a,z,k)=0)
    (hY:ZmK Tryz.prog fr84 (N+2+1) lp rdy bsy fin (chkT N a z k .any) vs) (hnd:(Zdi z k).Nodup) (hms:Zjj (a,z,k)=false) {R:AE->AH->Prop} (hR:R=λx h' => ∃ z',h'=h++z'/\x.lt N=true/\x=.ret (iv (ZbG (a,z,k)))) :
    ACalls Tryz.prog 182 (.v (.func (.yield lp) #[] #[])::[.rp (srcB a z k)]) (ergH h D lp 35 rdy (chkT N a z k .any) vs (iv 0)) λr h3=>(∃ c,r=.ret c) /\
      ((h3[N+2+1]?=some (.raw lp rdy (chkT N a z k .any) vs) /\ ∀ n0,(h3.set (N+2+1) .gone).length=n0->(∀ e∈h3.set (N+2+1) .gone,e.lt n0=true)->aw Tryz.prog n0 fr84.post (Zfm fr84.res (N+2) D R) (chkT N a z k .any) (h3.set (N+2+1) .gone)) \/
       (h3[N+2+1]?=some (.raw lp fin (chkT N a z k .any) vs)/\Zfm fr84.res (N+2) D R .ret (chkT N a z k .any) (h3.set (N+2+1) .gone))):=by
  obtain⟨q1,q2,q3,q4,q5,q6,q7⟩:=ZdZ hc
  simp only at q1 q2 q3 q4 q5 q6 q7
  have hZ:ZbG (a,z,k)=if Zbk (errX a) (Zdw z)≠0 then Zbk (errX a) (Zdw z) else if (z.any λz=>!risL (ZaO z.2))=true then 4 else 0:=by
    unfold ZbG
    rw[if_neg (by rw[hc];simp),if_neg (by simpa using hnd),if_neg (by rw[hms];simp)]
  refine (Zwq (h:=ergH h D lp 35 rdy (chkT N a z k .any) vs (iv 0)) (p:=λx=>decide (errX a x≠0)) (hS:=λx=>ergH h D lp 35 fin (chkT N a z k .any) vs (iv (errX a x))) q2 q4 (λ_=>(hl4 hn).trans (hl4 hn).symm) (λ_=>by rw[hl4 hn];exact Zwp hlt chkT_lt rfl) (λx _ e f hp=>?_) (λx _ e f hp=>?_)).mono ?_
  . have hp':errX a x=0:=by simpa using hp
    have:=ZjI (e:=e) (f:=f) (D:=D) (x:=x) hn hlt om hok hY
    rw[hp'] at this
    rw[ZhE]
    exact this
  . have hp':errX a x≠0:=by simpa using hp
    have:=ZjI (e:=e) (f:=f) (D:=D) (x:=x) hn hlt om hok hY
    rw[if_pos hp',decide_eq_true hp'] at this
    rw[ZhE,ZhE]
    exact this
  rintro x h3 ⟨rfl,rfl⟩
  refine⟨⟨_,rfl⟩,?_⟩
  rw[Zjx] at hZ
  subst hR
  cases hf:(Zdw z).find? (λx=>decide (errX a x≠0)) with
  | none =>
    rw[hf] at hZ
    simp only[ne_eq,not_true_eq_false,if_false] at hZ
    refine .inl ⟨hga (k:=3) hn rfl,λn0 hn0 _=>?_⟩
    have hs:(ergH h D lp 35 rdy (chkT N a z k .any) vs (iv 0)).set (N+2+1) .gone=h++[.gone,.mk 0 35 1 [iv 0],mkD D,.gone]:=hs3 hn
    show aw _ _ _ _ _ ((ergH h D lp 35 rdy (chkT N a z k .any) vs (iv 0)).set (N+2+1) .gone)
    rw[hs]
    show aw _ _ c84q _ _ _
    refine wr'<|Vw (ZaZ lk dp1)<|Vw (Zav lk gt)<|?_
    refine Zac mp (Zwa (p:=λz:Zon=>!risL (ZaO z.2)) (λc hc' _=>check1_a (ZfN (s:=(a,z,k)) hc hc')) om) pt ?_
    refine sn'<|Zab<|?_
    refine ZaA lk (λhc1=>?_) (λhc1=>?_)
    . rw[if_pos hc1] at hZ
      refine wr'<|E' (Zai lk (cvl lki rfl) gx rfl nb rfl ZdI hs1) ptn<|sr<|Zah<|?_
      refine Zd8 gx hs2 (rs1 (rr_c gt gx (ld0 gt))) ?_
      refine rT' ?_
      rw[hZ]
    rw[if_neg (by rw[hc1];simp)] at hZ
    refine za<|wr'<|E' (Zai lk (cvl lki rfl) gx rfl nb rfl ZdI hs1) ptn<|sn'<|Zab<|Zbh<|Zah<|?_
    refine Zd8 gx hs2 (rs1 (rr_c gt gx (ld0 gt))) ?_
    refine rT' ?_
    rw[hZ]
  | some x =>
    rw[hf] at hZ
    have hx:errX a x≠0:=by have:=List.find?_some hf;simpa using this
    simp only at hZ
    rw[if_pos hx] at hZ
    refine .inr ⟨hga (k:=3) hn rfl,?_⟩
    have hs:(ergH h D lp 35 fin (chkT N a z k .any) vs (iv (errX a x))).set (N+2+1) .gone=h++[.gone,.mk 0 35 1 [iv (errX a x)],mkD D,.gone]:=hs3 hn
    show Zfm _ _ _ _ _ _ ((ergH h D lp 35 fin (chkT N a z k .any) vs (iv (errX a x))).set (N+2+1) .gone)
    rw[hs]
    exact Zd8 (hga (k:=2) hn rfl) hs2 (rs1 (rr_c gt (hga (k:=1) hn rfl) (ld0 gt))) (rT' (by rw[hZ]))
def Zo7 (h:Zo6 s):okRs s.1:=λr hr=>h.1 r hr
def zcheck_a {a:List Rul}(hok:Zo6 (a,z,k)):Ac 84 [.agg (srcB a z k)] h (iv (ZbG (a,z,k))):=by
 refine tR' k84 λN hn hlt _ hbd=>?_
 show aw _ _ c84p _ _ _
 show aw _ _ _ _ [.agg (srcB a z k),.any,.any,.any,.any,.any,.any,.any,.any,.any,.any,.any,.any,.any,.any,.any,.any,.any,.any,.any,.any,.any,.any,.any,.any,.any,.any,.any,.any,.any,.any,.any,.any,.any,.any,.any,.any,.any,.any,.any,.any] _
 refine wr'<|E' (ZaM cv rfl hl0 ha0) pt<|E' (ZaR hl1 ha1) pt<|Zam<|?_
 refine ZaN (ALe.icePtr gx gt1 (by simp) pt1 hs0) ?_
 refine wr'<|Vw (Zar lk Zg3 rfl)<|Zac mp (scheck_b hok) pt<|ms<|Zab<|Zag<|wm<|Vw (ZaY lk lki)<|mw<|?_
 refine sn' ?_
 refine cd' lk (λhc1=>?_) (λhc1=>?_)
 .have hZ:ZbG (a,z,k)=Zdk (a,z,k):=if_pos hc1
  refine wm<|E' (Zai lk cv gx rfl nb rfl ZdI hs1) ptn<|sr<|Zap<|Zah<|?_
  refine Zjc (rs1 (rr_c gt gx (ld0 gt))) ?_
  refine rT' ?_
  rw[hZ]
 have hc:Zdk (a,z,k)=0:=Decidable.of_not_not hc1
 obtain⟨q1,q2,q3,q4,q5,q6,q7⟩:=ZdZ hc
 simp only at q1 q2 q3 q4 q5 q6 q7
 refine wr'<|Vw (Zar lk Zg3 rfl)<|Zac mp (twice_a q2 q3) pt<|ms<|?_
 refine ZaA lk (λhc2=>?_) (λhc2=>?_)
 .have hZ:ZbG (a,z,k)=6:=by unfold ZbG;rw[if_neg hc1,if_pos (of_decide_eq_true hc2)]
  refine wr'<|E' (Zai lk (cvl lki rfl) gx rfl nb rfl ZdI hs1) ptn<|sr<|Zap<|Zah<|?_
  refine Zjc (rs1 (rr_c gt gx (ld0 gt))) ?_
  refine rT' ?_
  rw[hZ]
 have hnd:(Zdi z k).Nodup:=Decidable.of_not_not (of_decide_eq_false hc2)
 refine wr'<|Vw (Zar lk Zg3 rfl)<|?_
 refine Zac mp (ZvQ om q2 q4 om) pt ?_
 refine ms<|?_
 refine ZaA lk (λhc3=>?_) (λhc3=>?_)
 .have hZ:ZbG (a,z,k)=5:=by unfold ZbG;rw[if_neg hc1,if_neg (by simpa using hnd),if_pos hc3]
  refine wr'<|E' (Zai lk (cvl lki rfl) gx rfl nb rfl ZdI hs1) ptn<|sr<|Zap<|Zah<|?_
  refine Zjc (rs1 (rr_c gt gx (ld0 gt))) ?_
  refine rT' ?_
  rw[hZ]
 refine Zay<|Zau<|Zan<|wr'<|Vw (Zar lk Zg3 rfl)<|Zac mp (eras_a) pt<|sn'<|Zay<|?_
 refine Zvr (T1:=chkT N a z k .any) (ALe.same wA' rfl) rfl hl2 λlp D rdy bsy fin vs hle hlT hY=>?_
 have hgo:=ZsG (D:=D) hn hlt (Zo7 hok) hc hY hnd hc3 rfl
 rw[show (h++[Ent.gone,Ent.mk 0 35 1 [iv 0]]++[mkD D,Ent.raw lp rdy (chkT N a z k .any) vs]:AH)=ergH h D lp 35 rdy (chkT N a z k .any) vs (iv 0) by simp]
 exact hgo
end
section
open Go.Ab Go.RowKit Civ
attribute [local simp] ZbR Zcn Zb6 Zbq Zbl ZdX Zd4
def ZiZ (h:ZbG s=0):Zdk s=0:=by
 unfold ZbG at h
 split at h
 .rename_i hh;exact absurd h hh
 rename_i hh;exact Decidable.of_not_not hh
def ZhJ (h:ZbG s=0):Zdk s=0/\(Zdi s.2.1 s.2.2).Nodup/\Zjj s=false/\(∀ x∈Zdw s.2.1,errX s.1 x=0) /\ ∀ z∈s.2.1,risL (ZaO z.2)=true:=by
 have hE:=ZiZ h
 unfold ZbG at h
 rw[if_neg (by simp[hE])] at h
 split at h
 .cases h
 rename_i h1
 split at h
 .cases h
 rename_i h2
 split at h
 .rename_i h3;exact absurd h h3
 rename_i h3
 split at h
 .cases h
 rename_i h4
 refine⟨hE,Decidable.of_not_not h1,by simpa using h2,ZcO (Decidable.of_not_not h3),λz hz=>?_⟩
 simp only[List.any_eq_true,not_exists,not_and,Bool.not_eq_true',Bool.not_eq_false] at h4
 exact h4 z hz
def ZvD : ∀ {l:List Trn}{sh sa:Int}{t:Tim},t∈outV sh sa l->(0<=sa/\sa<=10800)->(∀ u∈l,Zbv u.2=0) -> ∃ u∈l,∃ sa',(0<=sa'/\sa'<=10800)/\t=timV sh sa' u
 | u::l,sh,sa,t,ht,hs,hr=>by
  rw[outV] at ht
  rcases List.mem_cons.1 ht with rfl | ht
  .exact⟨u,by simp,sa,hs,rfl⟩
  have h8:=(ZbF (hr u (by simp))).2.2.2.2.2.2.2
  obtain⟨v,hv,sa',h1,h2⟩:=ZvD ht h8 λx hx=>hr x (by simp[hx])
  exact⟨v,by simp[hv],sa',h1,h2⟩
def ruleE_lt {r:Rul}(h:Zbv r=0):(rLt r).size<=24:=by
 unfold Zbv at h
 split at h
 .cases h
 rename_i h1
 have:=(Decidable.of_not_not h1).2
 unfold ZfI at this
 simp only[Bool.and_eq_true,decide_eq_true_eq] at this
 exact this.1
def ZmZ {l:List Rul}{t:Tim}(ht:t∈(Zbf l nm sh).1):(-2600000000<=t.1/\t.1<=4330172800)/\(0<=t.2.1/\t.2.1<=10800)/\t.2.2.size<=24:=by
 unfold Zbf at ht
 split at ht
 .cases ht
 rename_i h1
 split at ht
 .cases ht
 split at ht
 .cases ht
 obtain⟨g1,g2,g3,_⟩:=ZgN (Decidable.of_not_not h1)
 have hm : ∀ u∈srtT (Zbg l nm),Zbv u.2=0 /\ -2592000000<=u.1/\u.1<=4320172800:=λu hu=>ZiL g2 ((ZlZ _).mem_iff.1 hu)
 obtain⟨u,hu,sa',hs,rfl⟩:=ZvD ht om λu hu=>(hm u hu).1
 obtain⟨hr,hb1,hb2⟩:=hm u hu
 have ho:=ZvK (r:=u.2) g3 hs
 obtain⟨_,_,_,_,_,_,_,h8⟩:=ZbF hr
 exact⟨⟨by show -2600000000<=u.1-offV u.2 sh sa';omega,by show u.1-offV u.2 sh sa'<=4330172800;omega⟩,h8,ruleE_lt hr⟩
def Zi5 {l:List Rul}:(Zbf l nm sh).1.length<=1000:=by
 unfold Zbf
 split
 .simp
 split
 .simp
 split
 .simp
 rw[Zd9,srt_len];omega
def ZvC : ∀ {l:List Trn}{sh sa:Int},(-64800<=sh/\sh<=64800)->(0<=sa/\sa<=10800)->(∀ u∈l,Zbv u.2=0)->gapB l=false->(outV sh sa l).Pairwise λa b=>a.1<b.1
 | [],_,_,_,_,_,_=>.nil
 | [u],_,_,_,_,_,_=>by simp[outV]
 | u::v::l,sh,sa,h1,h2,hr,hg=>by
  rw[ZgS,Bool.or_eq_false_iff] at hg
  have hu8:=(ZbF (hr u (by simp))).2.2.2.2.2.2.2
  have ih:=ZvC (l:=v::l) (sh:=sh) (sa:=rSv u.2) h1 hu8 (λx hx=>hr x (by simp[hx])) hg.2
  rw[outV,List.pairwise_cons]
  refine⟨λt ht=>?_,ih⟩
  have hgap:172800<=v.1-u.1:=by have:=hg.1;simp only[decide_eq_false_iff_not] at this;omega
  have hfirst:(timV sh sa u).1<(timV sh (rSv u.2) v).1:=by
   show u.1-offV u.2 sh sa<v.1-offV v.2 sh (rSv u.2)
   unfold offV
   split <;> split <;> (try split) <;> (try split) <;> omega
  rw[outV] at ht
  rcases List.mem_cons.1 ht with rfl | ht
  .exact hfirst
  rw[outV,List.pairwise_cons] at ih
  have:=ih.1 t ht
  omega
def Zut {l:List Rul}:(Zbf l nm sh).1.Pairwise λa b=>a.1<b.1:=by
 unfold Zbf
 split
 .exact .nil
 rename_i h1
 split
 .exact .nil
 rename_i h2
 split
 .exact .nil
 obtain⟨g1,g2,g3,_⟩:=ZgN (Decidable.of_not_not h1)
 exact ZvC g3 om (λu hu=>(ZiL g2 ((ZlZ _).mem_iff.1 hu)).1) (by simpa using h2)
def risT_all (rl:List Rul) (x:Era):risT rl x:=by
 unfold risT ZaL
 split
 .exact .nil
 exact Zut
def ZfF {t:Tim}(ht:t∈ZaL rl x):(-2600000000<=t.1/\t.1<=4330172800)/\(0<=t.2.1/\t.2.1<=10800)/\t.2.2.size<=24:=by
 unfold ZaL at ht
 split at ht
 .cases ht
 exact ZmZ ht
def ZcL :(ZaL rl x).length<=1000:=by
 unfold ZaL
 split
 .simp
 exact Zi5
def Zgr (h:Zb4 fm=true):fm.size<=24:=by
 unfold Zb4 at h
 split at h
 .cases h
 rename_i h1;omega
end
section
open Go.Ab Go.RowKit Civ
attribute [local simp] ZbR Zcn Zb6 Zbq Zbl ZdX Zd4
section
def ZfQ :(a0::a1::a2::a3::a4::a5::a6::a7::a8::a9::l).take 10=[a0,a1,a2,a3,a4,a5,a6,a7,a8,a9]:=rfl
def Zp1 {τ:Operand->AV}{y0:Operand}{x0_0:AV}(h0:Zaq (τ y0)=some [x0_0]) (l0:[x0_0].all leaf=true):Zal τ [(1,1,y0)] [(iv 0),(iv 0),(.v (.string ⟨#[]⟩))]=some [(iv 0),x0_0,(.v (.string ⟨#[]⟩))]:=by
 simp only[Zal,h0,l0]
 rfl
def Zp0 {τ:Operand->AV}{y0 y1:Operand}{x0_0 x1_0 x1_1 x1_2:AV}(h0:Zaq (τ y0)=some [x0_0]) (l0:[x0_0].all leaf=true) (h1:Zaq (τ y1)=some [x1_0,x1_1,x1_2]) (l1:[x1_0,x1_1,x1_2].all leaf=true):Zal τ [(0,1,y0),(1,3,y1)] [(iv 0),(iv 0),(iv 0),(.v (.string ⟨#[]⟩))]=some [x0_0,x1_0,x1_1,x1_2]:=by
 simp only[Zal,h0,l0,h1,l1]
 rfl
def ZpZ {τ:Operand->AV}{y0:Operand}{x0_0 x0_1 x0_2 x0_3:AV}(h0:Zaq (τ y0)=some [x0_0,x0_1,x0_2,x0_3]) (l0:[x0_0,x0_1,x0_2,x0_3].all leaf=true):Zal τ [(0,4,y0)] [(iv 0),(iv 0),(iv 0),(.v (.string ⟨#[]⟩))]=some [x0_0,x0_1,x0_2,x0_3]:=by
 simp only[Zal,h0,l0]
 rfl
def ZpY {τ:Operand->AV}:Zal τ [] [(iv 0),(iv 0),(.v (.string ⟨#[]⟩))]=some [(iv 0),(iv 0),(.v (.string ⟨#[]⟩))]:=rfl
def ZpX {τ:Operand->AV}{y0 y1:Operand}{x0_0 x1_0 x1_1 x1_2:AV}(h0:Zaq (τ y0)=some [x0_0]) (l0:[x0_0].all leaf=true) (h1:Zaq (τ y1)=some [x1_0,x1_1,x1_2]) (l1:[x1_0,x1_1,x1_2].all leaf=true):Zal τ [(0,1,y0),(1,3,y1)] [(iv 0),(iv 0),(iv 0),(.v (.string ⟨#[]⟩))]=some [x0_0,x1_0,x1_1,x1_2]:=by
 simp only[Zal,h0,l0,h1,l1]
 rfl
def ZpW {τ:Operand->AV}{y0:Operand}{x0_0 x0_1 x0_2 x0_3:AV}(h0:Zaq (τ y0)=some [x0_0,x0_1,x0_2,x0_3]) (l0:[x0_0,x0_1,x0_2,x0_3].all leaf=true):Zal τ [(0,4,y0)] [(iv 0),(iv 0),(iv 0),(.v (.string ⟨#[]⟩))]=some [x0_0,x0_1,x0_2,x0_3]:=by
 simp only[Zal,h0,l0]
 rfl
def ZjP :(a0::a1::a2::l).take 3=[a0,a1,a2]:=rfl
def ZsQ :setCells (a0::a1::a2::l) 0 [c0,c1,c2]=c0::c1::c2::l:=rfl
def ZsO :((a0::a1::a2::l).drop 0).take 3=[a0,a1,a2]:=rfl
def ZpV {τ:Operand->AV}{y0 y1:Operand}{x0_0 x1_0 x1_1 x1_2:AV}(h0:Zaq (τ y0)=some [x0_0]) (l0:[x0_0].all leaf=true) (h1:Zaq (τ y1)=some [x1_0,x1_1,x1_2]) (l1:[x1_0,x1_1,x1_2].all leaf=true):Zal τ [(0,1,y0),(1,3,y1)] [(iv 0),(iv 0),(iv 0),(.v (.string ⟨#[]⟩))]=some [x0_0,x1_0,x1_1,x1_2]:=by
 simp only[Zal,h0,l0,h1,l1]
 rfl
def Zxm { e:Ent}:([]:AH)++[e]=[e]:=rfl
def ZsR {e2 e3:Ent}:([e0,e1,e2,e3]:AH)++[d0]=[e0,e1,e2,e3,d0]:=rfl
def ZsP :setCells (a0::a1::a2::a3::l) 0 [c0,c1,c2,c3]=c0::c1::c2::c3::l:=rfl
def Zlr :((a0::a1::a2::a3::l).drop 0).take 4=[a0,a1,a2,a3]:=rfl
def ZpU {τ:Operand->AV}{y0:Operand}{x0_0 x0_1 x0_2 x0_3:AV}(h0:Zaq (τ y0)=some [x0_0,x0_1,x0_2,x0_3]) (l0:[x0_0,x0_1,x0_2,x0_3].all leaf=true):Zal τ [(0,4,y0)] [(iv 0),(iv 0),(iv 0),(.v (.string ⟨#[]⟩))]=some [x0_0,x0_1,x0_2,x0_3]:=by
 simp only[Zal,h0,l0]
 rfl
def Zxk :(a0::a1::a2::a3::l).take 4=[a0,a1,a2,a3]:=rfl
def Zxl :(a0::a1::l).take 2=[a0,a1]:=rfl
def ZpT :setCells (a0::a1::a2::a3::a4::a5::a6::a7::a8::a9::l) 0 [c0,c1,c2,c3,c4,c5,c6,c7,c8,c9]=c0::c1::c2::c3::c4::c5::c6::c7::c8::c9::l:=rfl
def ZjQ :((a0::a1::a2::a3::a4::a5::a6::a7::a8::a9::l).drop 0).take 10=[a0,a1,a2,a3,a4,a5,a6,a7,a8,a9]:=rfl
end
def c208:AC:=(Sr [Oo 3 (.box 89 3 (t 0)),Oo 4 (.box 178 10 (t 1)),Oo 6 (.mv (.const (.slice none 0 0)))] (.seq (Sr [Fa 13 1 4,Ld 14 13,Oo 15 (.bin .eql (t 14) (.const (.string ⟨#[]⟩)))] (Cd 15 (Sr [Mv 16 2,Oo 17 (.load true 10 (t 4)),Fa 18 2 4,Ld 19 18,Oo 20 (.build [(iv 0),(iv 0),Ss] [(1,(1,(t 19)))]),Cl 21 262 [(t 17),(t 20)],Oo 22 (.build [(iv 0),(iv 0),(iv 0),Ss] [(0,(1,(t 16))),(1,(3,(t 21)))]),Oo 23 (.lit 195 4 1 [(iv 0),(iv 0),(iv 0),Ss] [(0,(4,(t 22)))]),Mv 6 23] .ret) .skip)) (Sr [Fa 25 0 3,Ld 26 25,Fa 27 1 4,Ld 28 27,Fa 29 0 4,Ld 30 29,Cl 31 126 [(t 26),(t 28),(t 30)],Mv 24 31,Ex 32 24 0,Ex 33 24 1,Mv 7 32,Mv 8 33] (Sr [Mv 34 2,Oo 35 (.load true 10 (t 4)),Oo 36 (.build [(iv 0),(iv 0),Ss] []),Cl 37 262 [(t 35),(t 36)],Oo 38 (.build [(iv 0),(iv 0),(iv 0),Ss] [(0,(1,(t 34))),(1,(3,(t 37)))]),Oo 39 (.lit 195 4 1 [(iv 0),(iv 0),(iv 0),Ss] [(0,(4,(t 38)))]),Mv 9 39] (.seq (Sr [Mv 40 7,Oo 41 (.len false (t 40)),Mc 42 0] (.block 0 (.loop (Sr [Bn 43 .lss 42 41] (.seq (Cd 43 .skip (.exit 0)) (.seq (.block 1 (Sr [Oo 44 (.ia 3 (t 40) (t 42)),Oo 45 (.load true 3 (t 44)),Oo 11 (.new 247 3 [(iv 0),(iv 0),Ss]),⟨none,none,(.store 3 (t 11) (t 45))⟩] (.seq (.drw [Mv 46 2,Fa 47 0 11,Ld 48 47,Oo 49 (.mm true (t 46) (t 48)),Oo 50 (.load true 10 (t 4)),Oo 51 (.load true 3 (t 11)),Cl 52 262 [(t 50),(t 51)],Oo 53 (.build [(iv 0),(iv 0),(iv 0),Ss] [(0,(1,(t 49))),(1,(3,(t 52)))]),Oo 12 (.new 195 4 [(iv 0),(iv 0),(iv 0),Ss])] [false] [⟨none,none,(.store 4 (t 12) (t 53))⟩]) (Sr [Fa 54 0 11,Ld 55 54,Mv 56 2,Bn 57 .leq 55 56] (Cd 57 (.reg [Mv 58 9,Oo 59 (.load true 4 (t 12)),Oo 60 (.ia 4 (t 58) (Ci 0)),⟨none,none,(.store 4 (t 60) (t 59))⟩]) (.reg [Mv 61 9,Oo 62 (.load true 4 (t 12)),Oo 63 (.lit 195 4 1 [(iv 0),(iv 0),(iv 0),Ss] [(0,(4,(t 62)))]),Oo 64 (.app 195 4 40 (t 61) (t 63)),Mv 9 64])))))) (.reg [Bc 65 .add 42 1,Mv 42 65]))))))) (Sr [Mv 66 9,Mv 6 66] .ret))))))
def k208:ZbT Tryz.prog 208=some ⟨c208,[(.tmp 6)],67⟩:=by kernel_rfl
def k135:=Kx 135 []
structure okX (x:Era):Prop where
 fm:Zb4 (xFm x)=true
 sh : -64800<=xSh x/\xSh x<=64800
 sv:0<=xSv x/\xSv x<=10800
 no:xRl x≠⟨#[]⟩->xSv x=0
def ZvH (h:okZ es) (hx:x∈es):okX x:=by
 obtain⟨h1,h2,h3,h4⟩:=h.fm x hx
 exact⟨h1,h2,h3,h4⟩
def ZgT (ts:List Tim):(eraG x b ts).length<=ts.length+1:=by
 unfold eraG
 rw[List.length_cons,List.length_map]
 have:=List.length_filter_le (λt:Tim=>decide (b<t.1)) ts
 omega
def ZrE :eraG x b []=[(b,locV x (xSv x) ⟨#[]⟩)]:=rfl
def eraG_set {ts:List Tim}{t:Tim}(h:t.1<=b):eraG x b (ts++[t])=(eraG x b ts).set 0 (b,locV x t.2.1 t.2.2):=by
 rw[eraG_low h];rfl
def eraG_pos {ts:List Tim}:0<(eraG x b ts).length:=by unfold eraG;simp
def era_z {a:List Rul}(hok:okRs a) (ha:a.length<=9223372036854775807) (hx:okX x) (hb : -9000000000000000000<=b/\b<=9000000000000000000) :
  ACalls Tryz.prog 208 [.agg (srcB a z k),.agg (eraC x),iv b] h λy h'=>h'=h/\y=.ret (.sl (eraG x b (ZaL a x)).length 4 false (rows chgC (eraG x b (ZaL a x)))):=by
 obtain⟨hx1,hx2,hx3,hx4⟩:=hx
 have hfl:=Zgr hx1
 refine tW' k208 λN hn hlt _ hbd=>?_
 simp only[tb'] at hbd ⊢
 refine wr'<|E' (ZaM cv rfl hl0 ha0) pt<|E' (ZaM cv rfl hl1 ha1) pt<|mw<|Zam<|?_
 refine ZaN (ALe.trans (ALe.icePtr gx gt3 (by simp) pt3 hs0) (ALe.icePtr gx gt4 (by simp) pt4 hs1)) ?_
 refine Zab<|wr'<|Vw (ZaZ lk dp1)<|Vw (Zav lk gt)<|Vw (Ze4 lk lks)<|sn'<|?_
 refine cd' lk (λhc1=>?_) (λhc1=>?_)
 .have hT:ZaL a x=[]:=if_pos hc1
  refine wm<|Vw (Zar lk ZfQ rfl)<|Vw (ZaZ lk dp2)<|Vw (Zav lk gt)<|Vw (Zat (Zp1 cv rfl))<|?_
  refine Zac mp (Zpd (x:=x) (t:=(0,xSv x,⟨#[]⟩)) hfl (show (0:Nat)<=24 by decide) hx2 hx3) pt ?_
  refine V' (Zat (Zp0 (cvl lk16 rfl) rfl (cvl lk21 rfl) rfl)) pt22<|E' (ZcB (ZpZ (cvl lk22 rfl) rfl) hl2 ha2) pt23<|mv' lk23 pt6<|Zam<|ZaN (ALe.iceR gx gt6 rfl nb pt6 hs2)<|Zbh<|Zah<|Zae (rs1 (rr_t gt6))<|rtW'<|?_
  rw[hT,ZrE];exact Wk.full
 have hT:ZaL a x=(Zbf a x.2.1 x.1).1:=if_neg hc1
 have hsv0:xSv x=0:=hx4 hc1
 have hTl:(Zbf a x.2.1 x.1).1.length<=1000:=Zi5
 refine za<|wr'<|Vw (ZaZ lk dp0)<|Vw (Zav lk gt)<|Vw (ZaZ lk dp1)<|Vw (Zav lk gt)<|Vw (ZaZ lk dp0)<|Vw (Zav lk gt)<|Zac mp (Zuu hok ha) pt<|mw<|Vw (ZaS lk gt)<|Vw (ZaS lk gt)<|?_
 refine mw<|ms<|wm<|Vw (Zar lk ZfQ rfl)<|Vw (Zat ZpY)<|?_
 refine Zac mp (Zpd (x:=x) (t:=(0,0,⟨#[]⟩)) hfl (by decide) hx2 (by decide)) pt ?_
 refine Vw (Zat (ZpX cv rfl cv rfl))<|E' (ZcB (ZpW cv rfl) hl2 ha2) pt<|ms<|Zab<|wm<|Vw (Zaz lk)<|ms<|Zag<|?_
 refine Zd1 (ι:=Nat×Nat) (λ⟨i,v⟩=>[(9,.own (N+2) v (eraG x b ((Zbf a x.2.1 x.1).1.take i)).length),(42,iv (i:Int)),(11,.any),(12,.any)]++rn' 43 23) (λ⟨i,v⟩=>[(2,.mk v 195 4 (rows chgC (eraG x b ((Zbf a x.2.1 x.1).1.take i))))]) (λ⟨i,v⟩=>i<=(Zbf a x.2.1 x.1).1.length) (λ⟨i,v⟩=>(Zbf a x.2.1 x.1).1.length-i) (⟨0,0⟩) (by exact Nat.zero_le _) (by try simp only[sm',Nat.reduceAdd];exact ALe.same wA' (by rw[List.take_zero,ZrE,hsv0];rfl)) ?_
 rintro⟨i,v⟩ hi1
 try simp only[sm',Nat.reduceAdd]
 replace hi1:i<=(Zbf a x.2.1 x.1).1.length:=hi1
 refine wr'<|Vw (ZaJ lk lk)<|sn'<|Zab<|?_
 refine cd' lk (λhc2=>?_) (λhc2=>?_)
 .have hi:i<(Zbf a x.2.1 x.1).1.length:=by omega
  obtain⟨hm1,hm2,hm3⟩:=ZmZ (List.getElem_mem hi)
  have hel:=ZgT (x:=x) (b:=b) ((Zbf a x.2.1 x.1).1.take i)
  rw[List.length_take] at hel
  have htk:=List.take_succ_eq_append_getElem hi
  refine za<|Zab<|Zag<|wr'<|?_
  refine V' (ZaE lk lk ZdA nb ro om ro rfl) pt ?_
  refine Vw (Zar lk ZjP rfl)<|E' (ZaR hl3 ha3) pt<|E' (Zai lk cv gx rfl nb rfl ZsQ hs3) ptn<|sn'<|Zab<|ZaD<|Dw vm<|dg<|Dw (Zaa lk gx gt0)<|Dw (v_mm lk lk)<|Dw (Zar lk ZfQ rfl)<|Dw (Zad lk gx ZsO rfl)<|?_
  refine ZaB mp (λhE hX=>Zpd (x:=x) (t:=(Zbf a x.2.1 x.1).1[i]) hfl hm3 hx2 hm2) pt ?_
  refine Dw (Zat (ZpV cv rfl cv rfl))<|ZcI rfl rfl (hlk hn rfl) (Zix) pt Zxm<|ZaH<|?_
  refine ZcH ZsR ?_
  refine E' (Zai lk cv gx rfl nb rfl ZsP hs4) ptn<|sn'<|wr'<|fq<|Vw (Zaa lk gx gt0)<|mw<|Vw (ZdO lk lk)<|sn'<|?_
  refine cd' lk (λhc3=>?_) (λhc3=>?_)
  .have hmx:(if (Zbf a x.2.1 x.1).1[i].1>b then (Zbf a x.2.1 x.1).1[i].1 else b)=b:=if_neg om
   simp only[cond_true,hmx]
   have hE:=eraG_set (x:=x) (ts:=(Zbf a x.2.1 x.1).1.take i) hc3
   have hep:=eraG_pos (x:=x) (b:=b) (ts:=(Zbf a x.2.1 x.1).1.take i)
   rw[<-htk] at hE
   refine Zao<|mw<|Vw (Zad lk gx Zlr rfl)<|?_
   refine V' (ZaW (k:=0) lk lki gx ZaT nb ro om (by first | rfl | (simp;done) | omega)) pt ?_
   refine E' (ZgV (z:=(b,locV x (Zbf a x.2.1 x.1).1[i].2.1 (Zbf a x.2.1 x.1).1[i].2.2)) lk cv gx ZaT rfl om hs2) ptn ?_
   refine Zam<|Zau<|Zan<|Zao<|?_
   refine ad<|mw<|Zam<|Zaw<|?_
   refine lU' (⟨i+1,v⟩) (by (try dsimp only);omega) (by refine zz ?_;exact bkE' 3 hn hlt (by repeat (first | exact wk0 | refine wka ?_ | refine wk1 rfl ?_ | refine wk1 (by first | rfl | exact ivx om | (rw[hE,List.length_set];done) | (rw[hE,List.length_append];rfl) | (rw[hE,List.length_set])) ?_)) (by rw[hE];rfl) (hT:=by simp[AV.lt,AV.ltL,Ent.lt]) (hE:=by simp[AV.lt,AV.ltL,Ent.lt]))
  have hmx:(if (Zbf a x.2.1 x.1).1[i].1>b then (Zbf a x.2.1 x.1).1[i].1 else b)=(Zbf a x.2.1 x.1).1[i].1:=if_pos om
  simp only[cond_true,hmx]
  have hE:=Zwr (x:=x) (ts:=(Zbf a x.2.1 x.1).1.take i) hc3
  rw[<-htk] at hE
  refine Zao<|mw<|Vw (Zad lk gx Zlr rfl)<|E' (ZcB (ZpU cv rfl) hl5 ha5) pt<|?_
  refine E' (Zby (Zbm lk gx rfl Zxk nb) lk gx (Za1 _) om rfl hs2) pt ?_
  refine mw<|Zam<|Zau<|Zan<|Zao<|?_
  refine ad<|mw<|Zam<|Zaw<|?_
  refine lU' (⟨i+1,v+1⟩) (by (try dsimp only);omega) (by refine zz ?_;exact bkE' 3 hn hlt (by repeat (first | exact wk0 | refine wka ?_ | refine wk1 rfl ?_ | refine wk1 (by first | rfl | exact ivx om | (rw[hE,List.length_set];done) | (rw[hE,List.length_append];rfl) | (rw[hE,List.length_set])) ?_)) (by rw[hE,ZaG,Zbw];rfl) (hT:=by simp[AV.lt,AV.ltL,Ent.lt]) (hE:=by simp[AV.lt,AV.ltL,Ent.lt]))
 refine Zax<|Zas<|Zas<|ZaK<|?_
 refine ZaN (ALe.iceR (hga hn rfl) gt9 (List.take_of_length_le (by rw[Za1];exact Nat.le_refl _)) (by rw[Za1];exact Nat.le_refl _) pt9 hs2) ?_
 refine wm<|mr<|Zae rz<|rtW'<|?_
 rw[hT,List.take_of_length_le om];exact Wk.full
def ZeO (es:List Era):Nat->Option Int
 | 0=>none
 | j+1=>(es[j]?).map endV
def ZfH (h:i<es.length):ZeO es (i+1)=some (endV es[i]):=by
 show (es[i]?).map endV=_
 rw[List.getElem?_eq_getElem h];rfl
def Zsj {f:Int}{prev:Option Int}(h:i<es.length) (hl:es.length<=i+1):Za5 rl f prev (es.drop i)=eraG es[i] (ZbH prev f) (ZaL rl es[i]):=by
 rw[List.drop_eq_getElem_cons h,List.drop_of_length_le hl];rfl
def Zsi {f:Int}{prev:Option Int}(h:i+1<es.length) (hc:endV es[i]<=f):Za5 rl f prev (es.drop i)=Za5 rl f (ZeO es (i+1)) (es.drop (i+1)):=by
 rw[ZfH om,List.drop_eq_getElem_cons (show i<es.length by omega),List.drop_eq_getElem_cons h,Za5,if_pos hc,List.nil_append]
def Zsh {f:Int}{prev:Option Int}(h:i+1<es.length) (hc:¬endV es[i]<=f):Za5 rl f prev (es.drop i)=cutV (eraG es[i] (ZbH prev f) (ZaL rl es[i])) (endV es[i])++Za5 rl f (ZeO es (i+1)) (es.drop (i+1)):=by
 rw[ZfH om,List.drop_eq_getElem_cons (show i<es.length by omega),List.drop_eq_getElem_cons h,Za5,if_neg hc]
def ZrK (l:List Chg) (e:Int):(cutV l e).length<=l.length:=(List.takeWhile_sublist _).length_le
def ZpA (hz:okZ es) (h:i+1<es.length) : -100000000000<=endV es[i]/\endV es[i]<=300000000000:=by
 obtain⟨h1,h2,h3⟩:=hz.un i om h
 exact endV_bd h1 ⟨h2,h3⟩ (hz.fm _ (List.getElem_mem _)).2.1
def parts_a {a:List Rul}{f:Int}(hok:okRs a) (ha:a.length<=9223372036854775807) (hz:okZ es) (hf : -1000000000000<=f/\f<=1000000000000) :
  ACalls Tryz.prog 135 [.agg (srcB a z k),.agg [sv nm,.sl es.length 10 false (rows eraC es)],iv f] h λy h'=>h'=h/\y=.ret (.sl (Za5 a f none es).length 4 false (rows chgC (Za5 a f none es))):=by
 have hel:=Zde es
 have hlen:=hz.len
 refine tW' k135 λN hn hlt _ hbd=>?_
 simp only[tb'] at hbd ⊢
 refine wr'<|E' (ZaM cv rfl hl0 ha0) pt<|E' (ZaM cv rfl hl1 ha1) pt<|mw<|Zam<|?_
 refine ZaN (ALe.trans (ALe.icePtr gx gt3 (by simp) pt3 hs0) (ALe.icePtr gx gt4 (by simp) pt4 hs1)) ?_
 refine wr'<|mv' lkn pt7<|Zam<|ZaN (ALe.own0' (st':=4) (ty:=195) gt7 hl2 pt7 ha2)<|wr'<|V' (Zar lk4 Zxl rfl) pt13<|Zac (mp1 lk13 mp0) (ends_a hz) pt14<|mv' lk14 pt8<|sn'<|Zab<|Zab<|?_
 refine Zao<|Vw (ZaZ lk dp1)<|Vw (Zav lk gt)<|Vw (Zaz lk)<|ms<|Zag<|?_
 refine w_lp (ι:=Nat×List Chg×Nat) (λ⟨i,O,v⟩=>[(7,.own (N+2) v O.length),(18,iv (i:Int))]++rn' 9 4++rn' 19 44) (λ⟨i,O,v⟩=>[(2,.mk v 195 4 (rows chgC O))]) (λ⟨i,O,v⟩=>i<=es.length/\Za5 a f none es=O++Za5 a f (ZeO es i) (es.drop i)/\O.length<=1001*i) (λ⟨i,O,v⟩=>es.length-i) (⟨0,[],0⟩) (by exact⟨Nat.zero_le _,rfl,Nat.zero_le _⟩) ?_
 rintro⟨i,O,v⟩ hi1
 try simp only[sm',Nat.reduceAdd]
 obtain⟨hi1,hi2,hi3⟩:=hi1
 refine wr'<|Vw (ZaJ lk lk)<|sn'<|Zab<|?_
 refine cd' lk (λhc1=>?_) (λhc1=>?_)
 .have hi:i<es.length:=by omega
  have hxo:=ZvH hz (List.getElem_mem hi)
  refine za<|Zab<|Zag<|wm<|?_
  refine V' (ZaE lk lk Zdd nb ro om ro rfl) pt ?_
  refine Vw (Zar lk ZfQ rfl)<|E' (ZaR hl3 ha3) pt<|mw<|E' (Zai lk cv gx rfl nb rfl ZpT hs3) ptn<|sn'<|Zab<|wm<|mw<|Vw (Zaz lk)<|Vw (ZaJ lk lk)<|mw<|?_
  refine sp' (t:=27) gt pt pt (λhg27=>?_) (λhg27=>?_)
  .have hn1:i+1<es.length:=by omega
   have hen:(ZaO es)[i]'(by omega)=endV es[i]:=Zmu om hi
   have heb:=ZpA hz hn1
   refine sd<|mw<|sd<|mw<|sd<|?_
   refine V' (ZaE lk lk Za4 nb ro om ro rfl) pt ?_
   refine sd<|Vw (Zav lk gt)<|sd<|mw<|sd<|Vw (ZdO lk lk)<|Vw (Zaj lk lk)<|sn'<|?_
   refine cd' lk (λhc2=>?_) (λhc2=>?_)
   .have hsk:=Zsi (rl:=a) (f:=f) (prev:=ZeO es i) hn1 (by rw[<-hen];exact hc2)
    refine Zax<|Zas<|ZaK<|Zan<|Zao<|?_
    refine ad<|mw<|Zam<|Zaw<|?_
    refine lU' (⟨i+1,O,v⟩) (by (try dsimp only);exact⟨by omega,by rw[hi2,hsk],by omega⟩) (by refine zz ?_;exact bkE' 3 hn hlt (by repeat (first | exact wk0 | refine wka ?_ | refine wk1 rfl ?_ | refine wk1 (by first | rfl | exact ivx om | (rw[List.length_append])) ?_)) (hT:=by simp[AV.lt,AV.ltL,Ent.lt]) (hE:=by simp[AV.lt,AV.ltL,Ent.lt]))
   have hnc:¬endV es[i]<=f:=by rw[<-hen];exact hc2
   refine za<|wm<|ms<|?_
   refine Zfg (ι:=Int) (λ(B:Int)=>[(11,iv B)]++rn' 36 9) (λ(B:Int)=>[]) (λ(B:Int)=>ZbH (ZeO es i) f=B /\ -9000000000000000000<=B/\B<=9000000000000000000) ?_ ?_
   .try simp only[sm',Nat.reduceAdd]
    refine wm<|Vw (Zbr lk lki)<|sn'<|?_
    refine cd' lk (λhc3=>?_) (λhc3=>?_)
    .have hi0:i-1+1<es.length:=by omega
     have hen0:(ZaO es)[i-1]'(by omega)=endV (es[i-1]'(by omega)):=Zmu om om
     have heb0:=ZpA hz hi0
     have hB:(if (ZaO es)[i-1]'(by omega)>f then (ZaO es)[i-1]'(by omega) else f)=ZbH (ZeO es i) f:=by rw[hen0,show ZeO es i=some (endV (es[i-1]'(by omega))) from by have:=ZfH (es:=es) (i:=i-1) om;rwa [show i-1+1=i by omega] at this];show _=max f _;omega
     have hBb : -9000000000000000000<=ZbH (ZeO es i) f/\ZbH (ZeO es i) f<=9000000000000000000:=by rw[<-hB,hen0];split <;> omega
     refine Zao<|mw<|mw<|mw<|?_
     refine V' (Za2 lk lki om om) pt ?_
     refine V' (ZaE (k:=i-1) lk lk Za4 nb ro om ro rfl) pt ?_
     refine Vw (Zav lk gt)<|Vw (v_mm lk lk)<|?_
     simp only[cond_true,hB]
     refine mw<|Zam<|Zaw<|?_
     exact cT' (ZbH (ZeO es i) f) (by exact⟨rfl,hBb.1,hBb.2⟩)
    refine Zay<|Zaw<|?_
    exact cT' (f) (by exact⟨by rw[show i=0 by omega];rfl,by omega,by omega⟩)
   rintro B hq12
   try simp only[sm',Nat.reduceAdd]
   obtain⟨hBd,hB1,hB2⟩:=hq12
   refine wr'<|Vw (Zar lk ZjP rfl)<|Vw (Zad lk gx ZjQ rfl)<|mw<|Zac mp (era_z hok ha hxo ⟨hB1,hB2⟩) pt<|ms<|Zab<|wm<|mw<|?_
   refine Vw (Zaz lk)<|Vw (ZaJ lk lk)<|sn'<|?_
   have hgl:=ZgT (x:=es[i]) (b:=B) (ZaL a es[i])
   have htl:=ZcL (rl:=a) (x:=es[i])
   refine Zeg lk (by exact decide_eq_true om) ?_
   refine Zao<|mw<|mw<|mw<|?_
   refine V' (ZaE lk lk Za4 nb ro om ro rfl) pt ?_
   refine V' (Zav lk gt) pt ?_
   refine Zac mp (zcut_a om) pt ?_
   have hcl:=ZrK (eraG es[i] B (ZaL a es[i])) ((ZaO es)[i]'(by omega))
   have hT:=Zsh (rl:=a) (f:=f) (prev:=ZeO es i) hn1 hnc
   rw[hBd,<-hen] at hT
   refine ms<|Zao<|mw<|mw<|?_
   refine E' (Zby (Zgj lk (Za1 _)) lk gx (Za1 _) om (Zef _) hs2) pt ?_
   refine mw<|Zam<|Zau<|Zan<|Zao<|?_
   refine ad<|mw<|Zam<|Zaw<|?_
   refine lU' (⟨i+1,O++cutV (eraG es[i] B (ZaL a es[i])) ((ZaO es)[i]'(by omega)),v+1⟩) (by (try dsimp only);exact⟨by omega,by rw[hi2,hT,List.append_assoc],by rw[List.length_append];omega⟩) (by refine zz ?_;exact bkE' 3 hn hlt (by repeat (first | exact wk0 | refine wka ?_ | refine wk1 rfl ?_ | refine wk1 (by first | rfl | exact ivx om | (rw[List.length_append])) ?_)) (by rw[ZaG];rfl) (hT:=by simp[AV.lt,AV.ltL,Ent.lt]) (hE:=by simp[AV.lt,AV.ltL,Ent.lt]))
  have hn1:es.length<=i+1:=by omega
  refine so<|so<|so<|so<|so<|so<|Vw (Zak lk lkb)<|sn'<|ZaV lk<|za<|wr'<|?_
  refine mw<|ms<|?_
  refine Zfg (ι:=Int) (λ(B:Int)=>[(11,iv B)]++rn' 36 9) (λ(B:Int)=>[]) (λ(B:Int)=>ZbH (ZeO es i) f=B /\ -9000000000000000000<=B/\B<=9000000000000000000) ?_ ?_
  .try simp only[sm',Nat.reduceAdd]
   refine wm<|Vw (Zbr lk lki)<|sn'<|?_
   refine cd' lk (λhc3=>?_) (λhc3=>?_)
   .have hi0:i-1+1<es.length:=by omega
    have hen0:(ZaO es)[i-1]'(by omega)=endV (es[i-1]'(by omega)):=Zmu om om
    have heb0:=ZpA hz hi0
    have hB:(if (ZaO es)[i-1]'(by omega)>f then (ZaO es)[i-1]'(by omega) else f)=ZbH (ZeO es i) f:=by rw[hen0,show ZeO es i=some (endV (es[i-1]'(by omega))) from by have:=ZfH (es:=es) (i:=i-1) om;rwa [show i-1+1=i by omega] at this];show _=max f _;omega
    have hBb : -9000000000000000000<=ZbH (ZeO es i) f/\ZbH (ZeO es i) f<=9000000000000000000:=by rw[<-hB,hen0];split <;> omega
    refine Zao<|mw<|mw<|mw<|?_
    refine V' (Za2 lk lki om om) pt ?_
    refine V' (ZaE (k:=i-1) lk lk Za4 nb ro om ro rfl) pt ?_
    refine Vw (Zav lk gt)<|Vw (v_mm lk lk)<|?_
    simp only[cond_true,hB]
    refine mw<|Zam<|Zaw<|?_
    exact cT' (ZbH (ZeO es i) f) (by exact⟨rfl,hBb.1,hBb.2⟩)
   refine Zay<|Zaw<|?_
   exact cT' (f) (by exact⟨by rw[show i=0 by omega];rfl,by omega,by omega⟩)
  rintro B hq12
  try simp only[sm',Nat.reduceAdd]
  obtain⟨hBd,hB1,hB2⟩:=hq12
  refine wr'<|Vw (Zar lk ZjP rfl)<|Vw (Zad lk gx ZjQ rfl)<|mw<|Zac mp (era_z hok ha hxo ⟨hB1,hB2⟩) pt<|ms<|Zab<|wm<|mw<|?_
  refine Vw (Zaz lk)<|Vw (ZaJ lk lk)<|sn'<|?_
  have hgl:=ZgT (x:=es[i]) (b:=B) (ZaL a es[i])
  have htl:=ZcL (rl:=a) (x:=es[i])
  have hT:=Zsj (rl:=a) (f:=f) (prev:=ZeO es i) hi hn1
  rw[hBd] at hT
  refine Zcr lk (by exact decide_eq_false om) ?_
  refine za<|Zao<|mw<|mw<|?_
  refine E' (Zby (Zgj lk (Za1 _)) lk gx (Za1 _) om (Zef _) hs2) pt ?_
  refine mw<|Zam<|Zau<|Zan<|Zao<|?_
  refine ad<|mw<|Zam<|Zaw<|?_
  refine lU' (⟨i+1,O++eraG es[i] B (ZaL a es[i]),v+1⟩) (by (try dsimp only);exact⟨by omega,by rw[hi2,hT,List.drop_of_length_le hn1];exact (List.append_nil _).symm,by rw[List.length_append];omega⟩) (by refine zz ?_;exact bkE' 3 hn hlt (by repeat (first | exact wk0 | refine wka ?_ | refine wk1 rfl ?_ | refine wk1 (by first | rfl | exact ivx om | (rw[List.length_append])) ?_)) (by rw[ZaG];rfl) (hT:=by simp[AV.lt,AV.ltL,Ent.lt]) (hE:=by simp[AV.lt,AV.ltL,Ent.lt]))
 rw[List.drop_of_length_le om] at hi2
 have hPO:Za5 a f none es=O:=hi2.trans (List.append_nil _)
 refine Zax<|Zas<|Zas<|ZaK<|?_
 refine ZaN (ALe.iceR (hga hn rfl) gt7 (List.take_of_length_le (by rw[Za1];exact Nat.le_refl _)) (by rw[Za1];exact Nat.le_refl _) pt7 hs2) ?_
 refine wm<|mr<|Zae rz<|rtW'<|?_
 rw[hPO];exact Wk.full
def ZqZ {z:Zon}(h:ZbG s=0) (hm:z∈s.2.1) (f:Int):(∃ l,Za5 s.1 f none z.2=(f,Za9 s.1 z.2 f)::l)/\(Za5 s.1 f none z.2).Pairwise (λa b=>a.1<b.1)/\(∀ c∈Za5 s.1 f none z.2,f<=c.1/\c.2=Za9 s.1 z.2 c.1) /\
  ∀ u v,f<=u->u<=v->(∀ c∈Za5 s.1 f none z.2,¬(u<c.1/\c.1<=v))->Za9 s.1 z.2 u=Za9 s.1 z.2 v:=by
 obtain⟨hE,_,_,_,h5⟩:=ZhJ h
 exact Zns (f:=f) (prev:=none) (ZfN hE hm).ne (λx _=>risT_all _ x) ((Zl9 _).1 (h5 z hm)) trivial
abbrev locC3 (l:Loc):List AV:=[iv l.1,iv l.2.1,sv l.2.2]
end
section
open Go.Ab Civ
def chgs (g:Int->Loc) (L:List Int):List Chg:=dd (g tMin) (pts g (L.filter inT))
def chgs_nil :chgs g []=[]:=rfl
def ZrP {L:List Int}{x:Int}(h:inT x=false):chgs g (L++[x])=chgs g L:=by
 unfold chgs;rw[List.filter_append,show [x].filter inT=[] from by simp[h],List.append_nil]
def ZwW {L:List Int}{x:Int}(h:inT x=true):chgs g (L++[x])=chgs g L++(if g x=ZeQ (g tMin) (chgs g L) then [] else [(x,g x)]):=by
 unfold chgs
 rw[List.filter_append,show [x].filter inT=[x] from by simp[h],show pts g (L.filter inT++[x])=pts g (L.filter inT)++[(x,g x)] from by unfold pts;rw[List.map_append];rfl,ZrJ]
 rfl
def ZwV {L:List Int}{x:Int}(h:inT x=true) (he:g x=ZeQ (g tMin) (chgs g L)):chgs g (L++[x])=chgs g L:=by
 rw[ZwW h,if_pos he,List.append_nil]
def chgs_new {L:List Int}{x:Int}(h:inT x=true) (he:¬g x=ZeQ (g tMin) (chgs g L)):chgs g (L++[x])=chgs g L++[(x,g x)]:=by
 rw[ZwW h,if_neg he]
def chgs_len (L:List Int):(chgs g L).length<=L.length:=by
 refine Nat.le_trans (ZrI _ _) ?_
 unfold pts
 rw[List.length_map]
 exact List.length_filter_le _ _
def Zss (F:Loc) (l:List Chg) (c:Chg):ZeQ F (l++[c])=c.2:=by unfold ZeQ;simp
def rbad (F:Loc) (l:List Chg):Int:=if locE F≠0 then locE F else Zb3 l
def ZqP (F:Loc):rbad F []=locE F:=by unfold rbad;split <;> simp_all [Zb3]
def Zvi (F:Loc) (l:List Chg) (c:Chg):rbad F (l++[c])=if rbad F l=0 then locE c.2 else rbad F l:=by
 unfold rbad
 by_cases h:locE F=0
 .have h':¬locE F≠0:=λe=>e h
  simp only[if_neg h']
  by_cases h2:Zb3 l=0
  .rw[if_pos h2,ZgO h2]
  .rw[if_neg h2,Zjo h2]
 .have h':locE F≠0:=h
  simp only[if_pos h',if_neg h]
def ZuA (t:Tab):tabR t=if rbad t.1 t.2≠0 then (Zdr,rbad t.1 t.2) else if 1000<t.2.length then (Zdr,2) else (t,0):=by
 unfold tabR rbad
 by_cases h:locE t.1=0
 .rw[if_neg (by simpa using h),if_neg (by simpa using h:¬locE t.1≠0)];rfl
 .rw[if_pos h,if_pos h,if_pos h];rfl
def Zve {L:List Int}(hp:L.Perm (Zd5 rl es)) (hs:L.Pairwise (· <= ·)):Zfc (Za9 rl es) L=ZdR rl es :=
 ZqH hs λu v _ h hn=>Zgi h λp hp'=>hn p (hp.mem_iff.2 hp')
def Zm5 {z:Zon}(h:ZbG s=0) (hm:z∈s.2.1):stV (inP (Za5 s.1 tMin none z.2))=ZdR s.1 z.2:=by
 obtain⟨⟨l,h1⟩,h2,h3,h4⟩:=ZqZ h hm tMin
 have hp:=Zvz (rl:=s.1) (f:=tMin) (es:=z.2) λc hc=>(h3 c hc).2
 have hs:((Za5 s.1 tMin none z.2).map (·.1)).Pairwise (· < ·):=by rw[List.pairwise_map];exact h2
 have hL:(Za5 s.1 tMin none z.2).map (·.1)=tMin::l.map (·.1):=by rw[h1];rfl
 rw[hp,hL]
 rw[hL] at hs
 rw[stV_tab hs]
 refine ZqH (hs.imp λh=>Int.le_of_lt h) λu v h5 h6 h7=>h4 u v h5 h6 λc hc hh=>h7 c.1 ?_ hh
 rw[<-hL]
 exact List.mem_map.2 ⟨c,hc,rfl⟩
def ofV (s:Src) (z:Zon):Tab×Int:=tabR (ZdR s.1 z.2)
def ZoQ :((Zd5 rl es).mergeSort λa b=>decide (a<=b)).Pairwise (· <= ·):=by
 have h:=List.pairwise_mergeSort (le:=λa b:Int=>decide (a<=b)) (λa b c h1 h2=>by simp at *;omega) (λa b=>by simp;omega) (Zd5 rl es)
 exact h.imp λh=>by simpa using h
def Zid (h:(tabR (ZdR rl es)).2=0):Za3 (ZdR rl es)=0:=Zr5 ZoQ h
def Zuy {z:Zon}(h:(ofV s z).2=0):Za3 (ofV s z).1=0:=by
 unfold ofV at h ⊢
 rw[(ZuB h).1];exact Zid h
def cntV (rl:List Rul):List Era->Nat
 | []=>0
 | x::es=>(ZaL rl x).length+cntV rl es
def ZpG (rl:List Rul) : ∀ es:List Era,cntV rl es<=1000*es.length
 | []=>by simp[cntV]
 | y::es=>by have:=ZpG rl es;have:=ZcL (rl:=rl) (x:=y);rw[cntV,List.length_cons];omega
def ZuJ (rl:List Rul) (es:List Era):(Zd5 rl es).length=cntV rl es+(es.length-1):=by
 unfold Zd5
 rw[List.length_append,Zde]
 congr 1
 induction es with
 | nil=>rfl
 | cons x es ih=>rw[List.flatMap_cons,List.length_append,List.length_map,ih,cntV]
end
section
section
variable {α : Type} {r : α -> α -> Prop}
def insR (r:α->α->Prop) (i k:Nat) (L:List α):Prop := ∃ A x B C,L=A++x::(B++C)/\A.length=k/\A.length+B.length=i/\(A++B).Pairwise r /\ ∀ b∈B,r x b
def ZhA {L:List α}(h:i<L.length) (hp:(L.take i).Pairwise r):insR r i i L :=
 ⟨L.take i,L[i],[],L.drop (i+1),by simp,by simp;omega,by simp;omega,by simpa using hp,by simp⟩
def Zhz {L:List α}(h:insR r i 0 L):(L.take (i+1)).Pairwise r:=by
 obtain⟨A,x,B,C,rfl,h1,h2,h3,h4⟩:=h
 obtain rfl:=List.eq_nil_of_length_eq_zero h1
 simp only[List.length_nil,Nat.zero_add] at h2
 subst h2
 rw[List.nil_append,List.take_succ_cons,List.take_left]
 exact List.pairwise_cons.2 ⟨h4,by simpa using h3⟩
def Zhy (ht : ∀ a b c,r a b->r b c->r a c) {k:Nat}{L:List α}(h:insR r i (k+1) L) (hk:k+1<L.length) (hc:r L[k] L[k+1]):(L.take (i+1)).Pairwise r:=by
 obtain⟨A,x,B,C,rfl,h1,h2,h3,h4⟩:=h
 obtain⟨A,y,rfl⟩ : ∃ A' y,A=A'++[y]:=⟨A.dropLast,A.getLast (by intro e;subst e;cases h1),(List.dropLast_concat_getLast _).symm⟩
 simp only[List.length_append,List.length_singleton] at h1
 obtain rfl:A.length=k:=by omega
 have e1:((A++[y])++x::(B++C))[A.length+1]'hk=x:=by simp
 have e2:((A++[y])++x::(B++C))[A.length]'(by omega)=y:=by simp
 rw[e1,e2] at hc
 have e3:((A++[y])++x::(B++C)).take (i+1)=(A++[y])++x::B:=by
  rw[show (A++[y])++x::(B++C)=((A++[y])++x::B)++C by simp,List.take_left' (by simp at h2 ⊢;omega)]
 rw[e3]
 rw[List.pairwise_append] at h3 ⊢
 obtain⟨p1,p2,p3⟩:=h3
 refine⟨p1,List.pairwise_cons.2 ⟨h4,p2⟩,λa ha b hb=>?_⟩
 have hax:r a x:=by
  rcases List.mem_append.1 ha with h | h
  .exact ht _ _ _ ((List.pairwise_append.1 p1).2.2 a h y (by simp)) hc
  .simp only[List.mem_singleton] at h;subst h;exact hc
 rcases List.mem_cons.1 hb with rfl | h
 .exact hax
 .exact p3 a ha b h
def Zjt (htot : ∀ a b,r a b\/r b a) {k:Nat}{L:List α}(h:insR r i (k+1) L) (hk:k+1<L.length) (hc:¬r L[k] L[k+1]) :
  insR r i k ((L.set (k+1) L[k]).set k L[k+1])/\((L.set (k+1) L[k]).set k L[k+1]).Perm L:=by
 obtain⟨A,x,B,C,rfl,h1,h2,h3,h4⟩:=h
 obtain⟨A,y,rfl⟩ : ∃ A' y,A=A'++[y]:=⟨A.dropLast,A.getLast (by intro e;subst e;cases h1),(List.dropLast_concat_getLast _).symm⟩
 simp only[List.length_append,List.length_singleton] at h1
 obtain rfl:A.length=k:=by omega
 have e1:((A++[y])++x::(B++C))[A.length+1]'hk=x:=by simp
 have e2:((A++[y])++x::(B++C))[A.length]'(by omega)=y:=by simp
 rw[e1,e2] at hc ⊢
 have e3:(((A++[y])++x::(B++C)).set (A.length+1) y).set A.length x=A++x::y::(B++C):=by
  simp
 rw[e3]
 refine⟨⟨A,x,y::B,C,by simp,rfl,by simp at h2 ⊢;omega,by simpa using h3,λb hb=>?_⟩,?_⟩
 .rcases List.mem_cons.1 hb with rfl | h
  .exact (htot _ _).resolve_left hc
  .exact h4 b h
 .simp only[List.append_assoc,List.singleton_append]
  exact (List.Perm.swap y x _).append_left A
end
end
section
open Go.Ab Go.RowKit Civ
attribute [local simp] ZbR ZmX Zd4
section
def Zlx :(a0::a1::a2::a3::a4::a5::a6::a7::a8::a9::a10::l).take 11=[a0,a1,a2,a3,a4,a5,a6,a7,a8,a9,a10]:=rfl
def Zd0 :(a0::a1::a2::l).take 3=[a0,a1,a2]:=rfl
def Zdm { e:Ent}:([]:AH)++[e]=[e]:=rfl
def Ztg :([e0]:AH)++[d0]=[e0,d0]:=rfl
def Ztf :setCells (a0::a1::a2::l) 0 [c0,c1,c2]=c0::c1::c2::l:=rfl
def Zte :((a0::a1::a2::l).drop 0).take 3=[a0,a1,a2]:=rfl
def ZjX {τ:Operand->AV}{y0 y1:Operand}{x0_0 x1_0 x1_1 x1_2 x1_3 x1_4 x1_5 x1_6 x1_7 x1_8 x1_9 x1_10:AV}(h0:Zaq (τ y0)=some [x0_0]) (l0:[x0_0].all leaf=true) (h1:Zaq (τ y1)=some [x1_0,x1_1,x1_2,x1_3,x1_4,x1_5,x1_6,x1_7,x1_8,x1_9,x1_10]) (l1:[x1_0,x1_1,x1_2,x1_3,x1_4,x1_5,x1_6,x1_7,x1_8,x1_9,x1_10].all leaf=true):Zal τ [(0,1,y0),(1,11,y1)] [(iv 0),(.v (.string ⟨#[]⟩)),(iv 0),(iv 0),(iv 0),(iv 0),(iv 0),(iv 0),(iv 0),(iv 0),(iv 0),(.v (.string ⟨#[]⟩))]=some [x0_0,x1_0,x1_1,x1_2,x1_3,x1_4,x1_5,x1_6,x1_7,x1_8,x1_9,x1_10]:=by
 simp only[Zal,h0,l0,h1,l1]
 rfl
def Zc8 :([e0,e1]:AH)++[d0]=[e0,e1,d0]:=rfl
def Zqc {c10 c11:AV}:setCells (a0::a1::a2::a3::a4::a5::a6::a7::a8::a9::a10::a11::l) 0 [c0,c1,c2,c3,c4,c5,c6,c7,c8,c9,c10,c11]=c0::c1::c2::c3::c4::c5::c6::c7::c8::c9::c10::c11::l:=rfl
def Zqb :((a0::a1::a2::a3::a4::a5::a6::a7::a8::a9::a10::a11::l).drop 0).take 12=[a0,a1,a2,a3,a4,a5,a6,a7,a8,a9,a10,a11]:=rfl
def ZjW {τ:Operand->AV}{y0:Operand}{x0_0 x0_1 x0_2 x0_3 x0_4 x0_5 x0_6 x0_7 x0_8 x0_9 x0_10 x0_11:AV}(h0:Zaq (τ y0)=some [x0_0,x0_1,x0_2,x0_3,x0_4,x0_5,x0_6,x0_7,x0_8,x0_9,x0_10,x0_11]) (l0:[x0_0,x0_1,x0_2,x0_3,x0_4,x0_5,x0_6,x0_7,x0_8,x0_9,x0_10,x0_11].all leaf=true):Zal τ [(0,12,y0)] [(iv 0),(.v (.string ⟨#[]⟩)),(iv 0),(iv 0),(iv 0),(iv 0),(iv 0),(iv 0),(iv 0),(iv 0),(iv 0),(.v (.string ⟨#[]⟩))]=some [x0_0,x0_1,x0_2,x0_3,x0_4,x0_5,x0_6,x0_7,x0_8,x0_9,x0_10,x0_11]:=by
 simp only[Zal,h0,l0]
 rfl
def Ztd :(a0::a1::a2::a3::a4::a5::a6::a7::a8::a9::a10::a11::l).take 12=[a0,a1,a2,a3,a4,a5,a6,a7,a8,a9,a10,a11]:=rfl
def ZbL {τ:Operand->AV}{y0 y1 y2:Operand}{x0_0 x1_0 x2_0:AV}(h0:Zaq (τ y0)=some [x0_0]) (l0:[x0_0].all leaf=true) (h1:Zaq (τ y1)=some [x1_0]) (l1:[x1_0].all leaf=true) (h2:Zaq (τ y2)=some [x2_0]) (l2:[x2_0].all leaf=true):Zal τ [(0,1,y0),(1,1,y1),(2,1,y2)] [(iv 0),(iv 0),(.v (.string ⟨#[]⟩))]=some [x0_0,x1_0,x2_0]:=by
 simp only[Zal,h0,l0,h1,l1,h2,l2]
 rfl
def ZbK {τ:Operand->AV}{y0:Operand}{x0_0 x0_1 x0_2:AV}(h0:Zaq (τ y0)=some [x0_0,x0_1,x0_2]) (l0:[x0_0,x0_1,x0_2].all leaf=true):Zal τ [(0,3,y0)] [(iv 0),(iv 0),(.v (.string ⟨#[]⟩))]=some [x0_0,x0_1,x0_2]:=by
 simp only[Zal,h0,l0]
 rfl
end
def k222:=Kx 222 [.e [] 13 [],.e [] 16 [false,false],.e [] 15 [false],.e [] 13 [],.e [] 15 [false,false,false],.e [] 16 [false,false]]
def ron_r {r:Rul}{y:Int}(hr:Zbv r=0) (hy:1900<=y/\y<=2100):Ac 269 [iv y,iv r.2.2.2.1,.agg [iv r.2.2.2.2.1.1,iv r.2.2.2.2.1.2.1,iv r.2.2.2.2.1.2.2]] h (.tup [.agg [iv (Zbn (rDy r y)).1,iv (Zbn (rDy r y)).2.1,iv (Zbn (rDy r y)).2.2],iv 0]):=by
 have:=ron_a (y:=y) (m:=r.2.2.2.1) (k:=r.2.2.2.2.1.1) (wk:=r.2.2.2.2.1.2.1) (n:=r.2.2.2.2.1.2.2) (h:=h)
 rw[(Zjf hr hy).1] at this
 exact this
def rnum_r {k:Int}(hk : -30000<=k/\k<=50000):Ac 166 [.agg [iv (Zbn k).1,iv (Zbn k).2.1,iv (Zbn k).2.2]] h (iv k):=by
 obtain⟨h1,h2⟩:=Zgs (days:=k) om om
 have hd:=ZbW.1 h1
 have hm:=Zds (Zbn k).1 (Zbn k).2.1
 have:=Zdg (y:=(Zbn k).1) (m:=(Zbn k).2.1) (d:=(Zbn k).2.2) (h:=h) om om om om om om
 rwa [h2] at this
def refT (l:List Rul) (nm:ByteArray) (Y i:Nat):List Trn:=((ZbM 1900 2100).take Y).flatMap (yrT l nm)++yrT (l.take i) nm (1900+(Y:Int))
def thB (l:List Rul) (nm:ByteArray) (Y i:Nat):Bool:=(decide (0<Y)&&l.any λr=>decide (r.1=nm))||(l.take i).any λr=>decide (r.1=nm)
def Zqv {l:List Rul}(hi:i<l.length) (nm:ByteArray) (y:Int):yrT (l.take (i+1)) nm y=yrT (l.take i) nm y++(if l[i].1=nm/\wi y (rFr l[i]) (rTo l[i])=true then [(Zdy l[i] y,l[i])] else []):=by
 unfold yrT
 rw[List.take_succ_eq_append_getElem hi,List.flatMap_append,List.flatMap_cons,List.flatMap_nil,List.append_nil]
def Zvg {l:List Rul}(hi:i<l.length) (h:¬(l[i].1=nm/\wi (1900+(Y:Int)) (rFr l[i]) (rTo l[i])=true)):refT l nm Y (i+1)=refT l nm Y i:=by
 unfold refT;rw[Zqv hi,if_neg h,List.append_nil]
def refT_yes {l:List Rul}(hi:i<l.length) (h:l[i].1=nm/\wi (1900+(Y:Int)) (rFr l[i]) (rTo l[i])=true):refT l nm Y (i+1)=refT l nm Y i++[(Zdy l[i] (1900+(Y:Int)),l[i])]:=by
 unfold refT;rw[Zqv hi,if_pos h,List.append_assoc]
def Zvf {l:List Rul}(hY:Y<201) (hi:l.length<=i):refT l nm Y i=refT l nm (Y+1) 0:=by
 unfold refT
 have hl:Y<(ZbM 1900 2100).length:=by rw[ZcT];omega
 rw[List.take_of_length_le hi,List.take_succ_eq_append_getElem hl,List.flatMap_append]
 simp[ZbM,yrT]
def refT_all {l:List Rul}:refT l nm 201 0=(ZbM 1900 2100).flatMap (yrT l nm):=by
 unfold refT
 rw[List.take_of_length_le (by rw[ZcT];omega)]
 simp[yrT]
def Zsg {l:List Rul}:refT l nm 0 0=[]:=by simp[refT,yrT]
def thB_no {l:List Rul}(hi:i<l.length) (h:l[i].1≠nm):thB l nm Y (i+1)=thB l nm Y i:=by
 unfold thB;rw[List.take_succ_eq_append_getElem hi,List.any_append];simp[h]
def ZoO {l:List Rul}(hi:i<l.length) (h:l[i].1=nm):thB l nm Y (i+1)=true:=by
 unfold thB;rw[List.take_succ_eq_append_getElem hi,List.any_append];simp[h]
def thB_year {l:List Rul}(hi:l.length<=i):thB l nm Y i=thB l nm (Y+1) 0:=by
 unfold thB
 rw[List.take_of_length_le hi]
 cases l.any λr=>decide (r.1=nm) <;> simp
def Zuw {l:List Rul}:thB l nm 201 0=l.any λr=>decide (r.1=nm):=by simp[thB]
def refT_len {l:List Rul}{nm:ByteArray}{Y i:Nat}(hl:l.length<=40) (hY:Y<=201):(refT l nm Y i).length<=10000:=by
 have h1 : ∀ (l:List Rul) (y:Int),(yrT l nm y).length<=l.length:=by
  intro l y
  induction l with
  | nil=>simp[yrT]
  | cons r l ih =>
   unfold yrT at ih ⊢
   rw[List.flatMap_cons,List.length_append,List.length_cons]
   split
   .simp only[List.length_singleton];omega
   simp only[List.length_nil];omega
 have h2 : ∀ (ys:List Int),(ys.flatMap (yrT l nm)).length<=40*ys.length:=by
  intro ys
  induction ys with
  | nil=>simp
  | cons y ys ih =>
   rw[List.flatMap_cons,List.length_append,List.length_cons]
   have:=h1 l y
   omega
 unfold refT
 rw[List.length_append]
 have a:=h2 ((ZbM 1900 2100).take Y)
 have b:=h1 (l.take i) (1900+(Y:Int))
 rw[List.length_take] at a b
 omega
def leT (a b:Trn):Prop:=a.1<=b.1
def leT_tot (a b:Trn):leT a b\/leT b a:=by unfold leT;omega
def leT_tr (a b c:Trn):leT a b->leT b c->leT a c:=by unfold leT;omega
def svAt_pre {l:List Trn}(h0:0<i) (h:i-1<l.length):svAt l i=(l[i-1]).2.2.2.2.2.2.2.2.1:=by
 obtain⟨j,rfl⟩ : ∃ j,i=j+1:=⟨i-1,by omega⟩
 exact ZgE h
def gapB_pr2 {l:List Trn}(h:i<l.length) (h0:0<i) (hg:l[i].1-(l[i-1]'(by omega)).1<172800):gapB l=true:=by
 obtain⟨i,rfl⟩ : ∃ i0,i=i0+1:=⟨i-1,by omega⟩
 exact ZnM h hg
def gap_ok2 {S:List Trn}(hi : ∀ j (h:j+1<S.length),j+1<i->172800<=S[j+1].1-S[j].1) (hl:S.length<=i):gapB S=false:=(ZiW S).2 λj h=>hi j h om
def ZqL {l:List Rul}(hck : ∀ r∈l,∀ h,Ac 220 [.agg (rulC r)] h (iv (Zbv r))) (hok:okRs l) (hl:l.length<=9223372036854775807) :
  Ac 222 [.sl l.length 11 false (rows rulC l),sv nm,iv sh] h (.tup [.sl (Zbf l nm sh).1.length 3 false (rows timC (Zbf l nm sh).1),iv (Zbf l nm sh).2]):=by
 have hll:=hl
 have hE:Zdz l nm sh=if 40<l.length then 2 else if Zbk Zbv l≠0 then Zbk Zbv l else if sh < -64800\/sh>64800 then 3 else if l.any (λr=>decide (r.1=nm))=false then 5 else 0:=rfl
 refine tW' k222 λN hn hlt _ hbd=>?_
 simp only[tb'] at hbd ⊢
 refine wm<|ms<|Zab<|wm<|Vw (Zaz lk)<|Vw (Zbr lk lki)<|sn'<|?_
 refine cd' lk (λhc1=>?_) (λhc1=>?_)
 .rw[if_pos om] at hE
  refine wm<|mr<|Zah<|Zae ry<|rtW'<|?_
  rw[Zep (by rw[hE];decide),hE];exact Wk.tup (wkw Wk.nilF (wk1 rfl wk0))
 rw[if_neg om] at hE
 refine za<|Zab<|wk'<|Zag<|?_
 refine w_lp (ι:=Nat) (λ(k:Nat)=>[(8,iv (k:Int)),(6,.any),(7,.any),(9,.any)]++rn' 25 14) (λ(k:Nat)=>[]) (λ(k:Nat)=>k<=l.length/\Zbk Zbv l=Zbk Zbv (l.drop k)) (λ(k:Nat)=>l.length-k) (0) (by exact⟨Nat.zero_le _,rfl⟩) ?_
 rintro k hi1
 try simp only[sm',Nat.reduceAdd]
 obtain⟨hk1,hk2⟩:=hi1
 refine Zab<|wm<|mw<|Vw (Zaz lk)<|Vw (ZaJ lk lk)<|sn'<|?_
 refine cd' lk (λhc2=>?_) (λhc2=>?_)
 .have hk:k<l.length:=by omega
  have ho:=hok _ (List.getElem_mem hk)
  rw[ZdY hk] at hk2
  refine za<|Zab<|Zag<|wm<|mw<|?_
  refine V' (ZaE lk lk ZcE nb ro om ro rfl) pt ?_
  refine V' (Zar lk Zlx rfl) pt ?_
  refine Zac mp (hck _ (List.getElem_mem (show k<l.length by omega)) _) pt ?_
  refine ms<|wm<|Vw (ZaY lk lki)<|sn'<|?_
  refine cd' lk (λhc3=>?_) (λhc3=>?_)
  .have hc3':Zbv l[k]≠0:=hc3
   rw[if_pos hc3'] at hk2
   rw[if_pos (by rw[hk2];exact hc3'),hk2] at hE
   refine wm<|mw<|mr<|Zap<|Zah<|Zah<|Zap<|Zah<|Zae ry<|?_
   refine rtW' ?_
   rw[Zep (by rw[hE];exact hc3'),hE];exact Wk.tup (wkw Wk.nilF (wk1 rfl wk0))
  have hc3':¬Zbv l[k]≠0:=hc3
  rw[if_neg hc3'] at hk2
  refine Zay<|Zau<|Zan<|Zao<|mw<|?_
  refine ad<|mw<|Zam<|Zaw<|?_
  refine lT' (k+1) (by (try dsimp only);exact⟨by omega,hk2⟩)
 rw[List.drop_of_length_le om] at hk2
 have hfr:Zbk Zbv l=0:=by rw[hk2];rfl
 rw[if_neg (by rw[hfr];simp)] at hE
 have hok2:=ZcO hfr
 refine Zax<|Zas<|Zas<|ZaK<|Zan<|Zab<|wm<|Zac mp (ZbI) pt<|Vw (ZaF lk)<|sn'<|?_
 refine ZaA lk (λhc4=>?_) (λhc4=>?_)
 .rw[if_pos (by have:=hc4;simp only[Bool.not_eq_true',Zce] at this;omega)] at hE
  refine wm<|mr<|Zah<|Zae ry<|rtW'<|?_
  rw[Zep (by rw[hE];decide),hE];exact Wk.tup (wkw Wk.nilF (wk1 rfl wk0))
 have hsh : -64800<=sh/\sh<=64800:=by have:=hc4;simp only[Bool.not_eq_false',Zbz] at this;exact this
 rw[if_neg om] at hE
 refine za<|wr'<|mv' lkb pt10<|sn'<|wr'<|mv' lkn pt11<|Zam<|ZaN (ALe.own0' (st':=12) (ty:=309) gt11 hl0 pt11 ha0)<|Zab<|Zab<|?_
 refine Zao<|ms<|Zag<|?_
 refine w_lp (ι:=Nat×List Trn×Nat) (λ⟨Y,S,v⟩=>[(10,bv (thB l nm Y 0)),(11,.own (N+0) v S.length),(12,iv (1900+(Y:Int)))]++rn' 13 5++rn' 42 97) (λ⟨Y,S,v⟩=>[(0,.mk v 309 12 (rows trnC S))]) (λ⟨Y,S,v⟩=>Y<=201/\S.Perm (refT l nm Y 0)/\S.Pairwise leT) (λ⟨Y,S,v⟩=>201-Y) (⟨0,[],0⟩) (by exact⟨by omega,by rw[Zsg],.nil⟩) ?_
 rintro⟨Y,S,v⟩ hi2
 try simp only[sm',Nat.reduceAdd]
 obtain⟨hY1,hY2,hY3⟩:=hi2
 refine Zab<|wm<|Vw (ZdO lk lki)<|sn'<|?_
 refine cd' lk (λhc5=>?_) (λhc5=>?_)
 .have hY:Y<201:=by omega
  refine za<|Zab<|Zag<|wk'<|Zag<|?_
  refine w_lp (ι:=Nat×List Trn×Nat) (λ⟨i,S,v⟩=>[(10,bv (thB l nm Y i)),(11,.own (N+0) v S.length),(13,iv (i:Int))]++rn' 14 4++rn' 46 93) (λ⟨i,S,v⟩=>[(0,.mk v 309 12 (rows trnC S))]) (λ⟨i,S,v⟩=>i<=l.length/\S.Perm (refT l nm Y i)/\S.Pairwise leT) (λ⟨i,S,v⟩=>l.length-i) (⟨0,S,v⟩) (by exact⟨Nat.zero_le _,hY2,hY3⟩) ?_
  rintro⟨i,S,v⟩ hi3
  try simp only[sm',Nat.reduceAdd]
  obtain⟨hj1,hj2,hj3⟩:=hi3
  refine Zab<|wm<|mw<|Vw (Zaz lk)<|Vw (ZaJ lk lk)<|sn'<|?_
  refine cd' lk (λhc6=>?_) (λhc6=>?_)
  .have hi:i<l.length:=by omega
   have hr:=hok2 _ (List.getElem_mem hi)
   refine za<|Zab<|Zag<|Zab<|wm<|mw<|?_
   refine V' (ZaE lk lk ZcE nb ro om ro rfl) pt ?_
   refine Vw (ZaZ lk dp0)<|Vw (Zav lk gt)<|mw<|Vw (Zd2 lk lk)<|sn'<|?_
   refine cd' lk (λhc7=>?_) (λhc7=>?_)
   .refine Zax<|Zas<|ZaK<|Zan<|Zao<|mw<|?_
    refine ad<|mw<|Zam<|Zaw<|?_
    refine lU' (⟨i+1,S,v⟩) (by (try dsimp only);exact⟨by omega,by rw[Zvg hi (λh=>hc7 h.1)];exact hj2,hj3⟩) (by refine zz ?_;exact ALe.same (by repeat (first | exact wk0 | refine wka ?_ | refine wk1 rfl ?_ | refine wk1 (by first | rfl | exact ivx om | (rw[thB_no hi hc7])) ?_)) rfl)
   have hnm:l[i].1=nm:=Decidable.of_not_not hc7
   refine za<|wk'<|Zab<|Zab<|ZaD<|Dw vm<|Dw vm<|Dw vm<|?_
   refine D' (ZaE lk lk ZcE nb ro om ro rfl) pt ?_
   refine Dw (ZaZ lk dp1)<|Dw (Zav lk gt)<|Dw vm<|Dw vm<|?_
   refine D' (ZaE lk lk ZcE nb ro om ro rfl) pt ?_
   refine Dw (ZaZ lk dp2)<|Dw (Zav lk gt)<|?_
   refine ZaB mp (λhE hX=>ZbI) pt ?_
   refine Dw (ZaF lk)<|ZaH<|?_
   refine ZaU ?_
   refine sn' ?_
   refine ZaA lk (λhc8=>?_) (λhc8=>?_)
   .have hw:¬wi (1900+(Y:Int)) l[i].2.1 l[i].2.2.1=true:=by have:=hc8;rw[Bool.not_eq_true'] at this;rw[this];simp
    refine Zax<|Zas<|ZaK<|Zan<|Zao<|mw<|?_
    refine ad<|mw<|Zam<|Zaw<|?_
    refine lU' (⟨i+1,S,v⟩) (by (try dsimp only);exact⟨by omega,by rw[Zvg hi (λh=>hw h.2)];exact hj2,hj3⟩) (by refine zz ?_;exact ALe.same (by repeat (first | exact wk0 | refine wka ?_ | refine wk1 rfl ?_ | refine wk1 (by first | rfl | exact ivx om | (rw[ZoO hi hnm]) | (simp;done)) ?_)) rfl)
   have hw:wi (1900+(Y:Int)) l[i].2.1 l[i].2.2.1=true:=by have:=hc8;rwa [Bool.not_eq_false'] at this
   obtain⟨hr1,hr2,hr3⟩:1900<=l[i].2.1/\l[i].2.1<=l[i].2.2.1/\l[i].2.2.1<=2100:=⟨(ZbF hr).1,(ZbF hr).2.1,(ZbF hr).2.2.1⟩
   have hwb:=Zbz.1 hw
   have hy:1900<=1900+(Y:Int)/\1900+(Y:Int)<=2100:=by omega
   obtain⟨hd1,hd2⟩:=Zjf hr hy
   have ha6:0<=l[i].2.2.2.2.2.1/\l[i].2.2.2.2.2.1<=172800:=(ZbF hr).2.2.2.2.2.1
   have hlenS:=hj2.length_eq
   have hlen2:=refT_len (nm:=nm) (Y:=Y) (i:=i) (show l.length<=40 by omega) (show Y<=201 by omega)
   have hpS:(S++[((Zdy l[i] (1900+(Y:Int)),l[i]):Trn)]).Perm (refT l nm Y (i+1)):=by rw[refT_yes hi ⟨hnm,hw⟩];exact hj2.append_right _
   refine za<|Zab<|ZaD<|Dw vm<|Dw vm<|Dw vm<|?_
   refine D' (ZaE lk lk ZcE nb ro om ro rfl) pt ?_
   refine Dw (ZaZ lk dp3)<|Dw (Zav lk gt)<|Dw vm<|Dw vm<|?_
   refine D' (ZaE lk lk ZcE nb ro om ro rfl) pt ?_
   refine Dw (ZaZ lk dp4)<|Dw (Zar lk Zd0 rfl)<|?_
   refine ZaB mp (λhE hX=>ron_r hr hy) pt ?_
   refine Dw vm<|Dw (ZaS lk gt)<|Dw (ZaS lk gt)<|ZcI rfl rfl (hlk hn rfl) (Zix) pt Zdm<|ZaH<|?_
   refine ZcH Ztg ?_
   refine E' (Zai lk cv gx rfl nb rfl Ztf hs1) ptn<|ms<|Zab<|ZaD<|Dw (Zad lk gx Zte rfl)<|?_
   refine ZaB mp (λhE hX=>rnum_r hd2) pt ?_
   refine D' (Zgg lk lki om om) pt ?_
   refine Dw vm<|Dw vm<|?_
   refine D' (ZaE lk lk ZcE nb ro om ro rfl) pt ?_
   refine Dw (ZaZ lk dp7)<|Dw (Zav lk gt)<|?_
   refine D' (Zb0 lk lk om om) pt ?_
   refine Dw vm<|Dw vm<|?_
   refine D' (ZaE lk lk ZcE nb ro om ro rfl) pt ?_
   refine Dw (Zar lk Zlx rfl)<|Dw (Zat (ZjX cv rfl cv rfl))<|ZcI rfl rfl (hlk hn rfl) (Zix) pt Zdm<|ZaH<|?_
   refine ZcH Zc8 ?_
   refine E' (Zai lk cv gx rfl nb rfl Zqc hs2) ptn<|sn'<|wm<|Vw (Zad lk gx Zqb rfl)<|E' (ZcB (ZjW cv rfl) hl3 ha3) pt<|?_
   refine E' (Zby (Zbm lk gx rfl Ztd nb) lk gx (Zuo _) om rfl hs0) pt ?_
   refine ms<|wm<|Vw (Zcy lk)<|?_
   refine V' (Za2 lk lki om om) pt ?_
   refine ms<|Zag<|?_
   refine Zd1 (ι:=Nat×List Trn) (λ⟨k,M⟩=>[(11,.own (N+0) (v+1) M.length),(17,iv (k:Int))]++rn' 108 31) (λ⟨k,M⟩=>[(0,.mk (v+1) 309 12 (rows trnC M))]) (λ⟨k,M⟩=>k<=S.length/\M.Perm (S++[((Zdy l[i] (1900+(Y:Int)),l[i]):Trn)])/\insR leT S.length k M/\M[k]?=some ((Zdy l[i] (1900+(Y:Int)),l[i]):Trn)) (λ⟨k,M⟩=>k) (⟨S.length,S++[((Zdy l[i] (1900+(Y:Int)),l[i]):Trn)]⟩) (by exact⟨Nat.le_refl _,List.Perm.refl _,ZhA (by simp) (by simpa using hj3),by simp⟩) (by try simp only[sm',Nat.reduceAdd];exact ALe.same (by repeat (first | exact wk0 | refine wka ?_ | refine wk1 rfl ?_ | refine wk1 (by first | rfl | exact ivx (by simp) | exact ivx (by simp;omega) | (simp;done)) ?_)) (by simp only[ZaG,Zbw];rfl)) ?_
   rintro⟨k,M⟩ hi4
   try simp only[sm',Nat.reduceAdd]
   obtain⟨hk1,hk2,hk3,hk4⟩:=hi4
   have hkl:=hk2.length_eq
   simp only[List.length_append,List.length_singleton] at hkl
   refine Zab<|Zab<|ZaD<|Dw vm<|Dw (Zbr lk lki)<|Dw vm<|?_
   refine dq' (t:=110) gt pt pt (λhg110=>?_) (λhg110=>?_)
   .obtain⟨j,rfl⟩ : ∃ j,k=j+1:=⟨k-1,by omega⟩
    have hz3:j+1<M.length:=by omega
    have hMk:M[j+1]=((Zdy l[i] (1900+(Y:Int)),l[i]):Trn):=by rw[List.getElem?_eq_getElem hz3] at hk4;exact Option.some.inj hk4
    refine dO<|Dw vm<|dO<|Dw vm<|dO<|?_
    refine D' (Za2 lk lki om om) pt ?_
    refine d_do gt ?_
    refine D' (ZaW (k:=j) lk lk gx ZaI nb ro om (by first | rfl | (simp;done) | omega)) pt ?_
    refine dO<|Dw (Zbu lk)<|dO<|?_
    refine D' (Zck lk gx ZaI om nb gt0) pt ?_
    refine dO<|dg<|dO<|Dw (Zaa lk gx gt0)<|dO<|Dw (Zbr lk lk)<|Dw (Zaj lk lk)<|ZaH<|?_
    refine ZaU ?_
    refine sn' ?_
    refine cd' lk (λhc9=>?_) (λhc9=>?_)
    .have hz6:¬leT M[j] M[j+1]:=by rw[hMk];intro hle;have hle:(M[j]).1<=rDy l[i] (1900+(Y:Int))*86400+l[i].2.2.2.2.2.1:=hle;omega
     obtain⟨hz4,hz5⟩:=Zjt leT_tot hk3 hz3 hz6
     refine za<|Zab<|Zag<|ZaD<|Dw vm<|Dw vm<|Dw vm<|Dw vm<|?_
     refine D' (Za2 lk lki om om) pt ?_
     refine Dw vm<|Dw vm<|?_
     refine D' (Za2 lk lki om om) pt ?_
     refine D' (ZaW (k:=j) lk lk gx ZaI nb ro om (by first | rfl | (simp;done) | omega)) pt ?_
     refine D' (Zfh lk gx ZaI om rfl) pt ?_
     refine Dw vm<|Dw vm<|?_
     refine D' (ZaW (k:=j+1) lk lk gx ZaI nb ro om (by first | rfl | (simp;done) | omega)) pt ?_
     refine D' (Zfh lk gx ZaI om rfl) pt ?_
     refine D' (ZaW (k:=j+1) lk lk gx ZaI nb ro om (by first | rfl | (simp;done) | omega)) pt ?_
     refine ZaH ?_
     refine ZaU ?_
     refine E' (ZgV (z:=M[j]) lk cv gx ZaI rfl om hs0) ptn ?_
     refine V' (ZaW (k:=j) lk lk gx ZaI nb (by first | rfl | first | omega | (rw[List.length_set];omega)) (by first | omega | (rw[List.length_set];omega)) (by first | rfl | (simp;done) | first | omega | (rw[List.length_set];omega))) pt ?_
     refine E' (ZgV (z:=M[j+1]) lk cv gx ZaI rfl (by first | omega | (rw[List.length_set];omega)) hs0) ptn ?_
     refine Zam<|Zau<|Zan<|Zao<|mw<|?_
     refine V' (Za2 lk lki om om) pt ?_
     refine mw<|Zam<|Zaw<|?_
     refine lU' (⟨j,(M.set (j+1) M[j]).set j M[j+1]⟩) (by (try dsimp only);exact⟨by omega,hz5.trans hk2,hz4,by simp[hMk,show j<M.length by omega]⟩) (by refine zz ?_;exact ALe.same (by repeat (first | exact wk0 | refine wka ?_ | refine wk1 rfl ?_ | refine wk1 (by first | rfl | exact ivx om | (simp;done)) ?_)) rfl)
    have hz7:leT M[j] M[j+1]:=by rw[hMk];show (M[j]).1<=rDy l[i] (1900+(Y:Int))*86400+l[i].2.2.2.2.2.1;omega
    have hz6:=Zhy leT_tr hk3 hz3 hz7
    rw[List.take_of_length_le om] at hz6
    refine Zax<|Zas<|Zas<|ZaK<|Zau<|Zan<|Zao<|mw<|?_
    refine ad<|mw<|Zam<|Zaw<|?_
    refine lU' (⟨i+1,M,v+1⟩) (by (try dsimp only);exact⟨by omega,hk2.trans hpS,hz6⟩) (by refine zz ?_;exact bkE' 1 hn hlt (by repeat (first | exact wk0 | refine wka ?_ | refine wk1 rfl ?_ | refine wk1 (by first | rfl | exact ivx om | (rw[ZoO hi hnm]) | (simp;done)) ?_)))
   obtain rfl:k=0:=by omega
   have hz6:=Zhz hk3
   rw[List.take_of_length_le om] at hz6
   refine dn<|dn<|dn<|dn<|dn<|dn<|dn<|dn<|dn<|Dw (Zak lk lkb)<|ZaH<|?_
   refine ZaU ?_
   refine sn'<|ZaV lk<|Zax<|Zas<|Zas<|ZaK<|Zau<|Zan<|Zao<|mw<|?_
   refine ad<|mw<|Zam<|Zaw<|?_
   refine lU' (⟨i+1,M,v+1⟩) (by (try dsimp only);exact⟨by omega,hk2.trans hpS,hz6⟩) (by refine zz ?_;exact bkE' 1 hn hlt (by repeat (first | exact wk0 | refine wka ?_ | refine wk1 rfl ?_ | refine wk1 (by first | rfl | exact ivx om | (rw[ZoO hi hnm]) | (simp;done)) ?_)))
  have hje:l.length<=i:=by omega
  refine Zax<|Zas<|Zas<|ZaK<|Zau<|Zan<|Zao<|mw<|?_
  refine ad<|mw<|Zam<|Zaw<|?_
  refine lU' (⟨Y+1,S,v⟩) (by (try dsimp only);exact⟨by omega,by rw[<-Zvf hY hje];exact hj2,hj3⟩) (by refine zz ?_;exact ALe.same (by repeat (first | exact wk0 | refine wka ?_ | refine wk1 rfl ?_ | refine wk1 (by first | rfl | exact ivx om | (rw[thB_year hje])) ?_)) rfl)
 have hY9:Y=201:=by omega
 subst hY9
 rw[refT_all] at hY2
 have hP:=hY2.trans (Zqw hok2)
 refine Zax<|Zas<|Zas<|ZaK<|Zan<|Zab<|wm<|?_
 refine V' ((by first | exact v_not lk | exact ZaF lk)) pt ?_
 refine sn' ?_
 refine cd' lk (λhc10=>?_) (λhc10=>?_)
 .rw[if_pos (by have:=hc10;rw[Zuw,Bool.not_eq_true'] at this;exact this)] at hE
  refine wm<|mr<|Zah<|Zae ry<|rtW'<|?_
  rw[Zep (by rw[hE];decide),hE];exact Wk.tup (wkw Wk.nilF (wk1 rfl wk0))
 rw[if_neg (by have:=hc10;rw[Zuw,Bool.not_eq_false'] at this;rw[this];simp)] at hE
 have hTV:=ZlT (sh:=sh) hE hP hY3
 have hSO : ∀ t∈S,Zbv t.2=0 /\ -2592000000<=t.1/\t.1<=4320172800:=λt ht=>ZiL hok2 (hP.mem_iff.1 ht)
 have hSlen:=hP.length_eq
 have hSl2:=ZgB (nm:=nm) hok2
 refine za<|wr'<|mv' lkn pt18<|Zam<|ZaN (ALe.own0' (st':=3) (ty:=247) gt18 hl1 pt18 ha1)<|Zab<|wr'<|mv' lki pt19<|sn'<|Zag<|?_
 refine w_lp (ι:=Nat) (λ(a:Nat)=>[(18,.own (N+1) a (outV sh 0 (S.take a)).length),(19,iv (a:Int)),(6,.any),(7,.any),(20,.any),(21,.any)]++rn' 141 64) (λ(a:Nat)=>[(1,.mk a 247 3 (rows timC (outV sh 0 (S.take a))))]) (λ(a:Nat)=>a<=S.length /\ ∀ j (h:j+1<S.length),j+1<a->172800<=S[j+1].1-S[j].1) (λ(a:Nat)=>S.length-a) (0) (by exact⟨Nat.zero_le _,λj _ h=>by omega⟩) ?_
 rintro a hi5
 try simp only[sm',Nat.reduceAdd]
 obtain⟨hm1,hm2⟩:=hi5
 refine Zab<|wm<|mw<|Vw (Zcy lk)<|Vw (ZaJ lk lk)<|sn'<|?_
 refine cd' lk (λhc11=>?_) (λhc11=>?_)
 .have ha:a<S.length:=by omega
  obtain⟨hb0,hb1⟩:=hSO _ (List.getElem_mem ha)
  have hsb:=ZuF (i:=a) λt ht=>(hSO t ht).1
  have hol:(outV sh 0 (S.take a)).length=a:=by rw[Zd9,List.length_take];omega
  have hol2:(outV sh 0 (S.take (a+1))).length=a+1:=by rw[Zd9,List.length_take];omega
  refine za<|Zab<|Zag<|wm<|mw<|?_
  refine V' (ZaW lk lk gx ZaI nb ro om (by first | rfl | (simp;done) | omega)) pt ?_
  refine V' (Zbu lk) pt ?_
  refine V' (Zck lk gx ZaI om nb gt0) pt ?_
  refine mw<|ms<|Zab<|wm<|Vw (Zbr lk lki)<|sn'<|?_
  refine cd' lk (λhc12=>?_) (λhc12=>?_)
  .obtain⟨hb3,hb4⟩:=hSO _ (List.getElem_mem (show a-1<S.length by omega))
   have hsv:=svAt_pre (l:=S) (show 0<a by omega) om
   rw[hsv] at hsb
   refine Zab<|wm<|mw<|mw<|?_
   refine V' (Za2 lk lki om om) pt ?_
   refine V' (ZaW (k:=a-1) lk lk gx ZaI nb ro om (by first | rfl | (simp;done) | omega)) pt ?_
   refine V' (Zbu lk) pt ?_
   refine V' (Zck lk gx ZaI om nb gt0) pt ?_
   refine V' (Za2 lk lk om om) pt ?_
   refine Vw (ZaJ lk lki)<|sn'<|?_
   refine cd' lk (λhc13=>?_) (λhc13=>?_)
   .have hG:gapB S=true:=gapB_pr2 ha om hc13
    refine wm<|mr<|Zah<|Zah<|Zap<|Zah<|Zah<|Zap<|Zah<|?_
    refine Zae ry<|rtW'<|?_
    rw[hTV,if_pos hG];exact Wk.tup (wkw Wk.nilF (wk1 rfl wk0))
   refine za<|Zao<|mw<|mw<|?_
   refine V' (Za2 lk lki om om) pt ?_
   refine V' (ZaW (k:=a-1) lk lk gx ZaI nb ro om (by first | rfl | (simp;done) | omega)) pt ?_
   refine Vw (Zbu lk)<|Vw (ZdP lk)<|?_
   refine V' (Zck lk gx ZaI om nb gt10) pt ?_
   refine ms<|Zab<|wm<|mw<|?_
   refine V' (ZaW lk lk gx ZaI nb ro om (by first | rfl | (simp;done) | omega)) pt ?_
   refine Vw (Zbu lk)<|Vw (ZdP lk)<|?_
   refine V' (Zck lk gx ZaI om nb gt9) pt ?_
   refine sn'<|Zag<|wr'<|Vw (Za0 lk lki)<|ms<|?_
   refine cd' lk (λhc14=>?_) (λhc14=>?_)
   .have hT:timV sh (svAt S a) S[a]=(S[a].1-(sh+svAt S a),rSv S[a].2,rLt S[a].2):=by unfold timV offV;rw[if_pos hc14]
    refine Zao<|mw<|mw<|mw<|?_
    refine V' (Zb0 lk lk om om) pt ?_
    refine V' (Za2 lk lk om om) pt ?_
    refine mw<|Zam<|Zau<|Zan<|ZaD<|Dw vm<|Dw vm<|Dw vm<|Dw vm<|?_
    refine D' (ZaW lk lk gx ZaI nb ro om (by first | rfl | (simp;done) | omega)) pt ?_
    refine Dw (Zbu lk)<|Dw (ZdP lk)<|?_
    refine D' (Zck lk gx ZaI om nb gt10) pt ?_
    refine Dw vm<|Dw vm<|?_
    refine D' (ZaW lk lk gx ZaI nb ro om (by first | rfl | (simp;done) | omega)) pt ?_
    refine Dw (Zbu lk)<|Dw (ZdP lk)<|?_
    refine D' (Zck lk gx ZaI om nb gt11) pt ?_
    refine Dw (Zat (ZbL cv rfl cv rfl cv rfl))<|ZcI rfl rfl (hlk hn rfl) (ZeR (ZbK cv rfl)) pt Zdm<|ZaH<|?_
    refine ZcH Zc8 ?_
    refine E' (Zby (Zbm lk gx rfl Zd0 nb) lk gx (Zdo _) om rfl hs1) pt ?_
    refine mw<|Zam<|Zau<|Zan<|Zao<|mw<|?_
    refine ad<|mw<|Zam<|Zaw<|?_
    refine lU' (a+1) (by (try dsimp only);exact⟨by omega,λj hj h=>by by_cases e:j+1=a;(subst e;(try simp only[Nat.add_sub_cancel] at hc13);omega);exact hm2 j hj om⟩) (by refine zz ?_;exact bkE' 2 hn hlt (by repeat (first | exact wk0 | refine wka ?_ | refine wk1 rfl ?_ | refine wk1 (by first | rfl | exact ivx om | (rw[hol2,hol];done) | (rw[hol2,hol])) ?_)) (by rw[Zdh ha,hT,ZaG,Zbw];(try rw[hsv]);rfl))
   have hc14':¬rCk S[a].2=1:=hc14
   refine wr'<|Vw (Za0 lk lki)<|ms<|?_
   refine cd' lk (λhc15=>?_) (λhc15=>?_)
   .have hT:timV sh (svAt S a) S[a]=(S[a].1-sh,rSv S[a].2,rLt S[a].2):=by unfold timV offV;rw[if_neg hc14',if_pos hc15]
    refine Zao<|mw<|mw<|?_
    refine V' (Za2 lk lk om om) pt ?_
    refine mw<|Zam<|Zau<|Zan<|ZaD<|Dw vm<|Dw vm<|Dw vm<|Dw vm<|?_
    refine D' (ZaW lk lk gx ZaI nb ro om (by first | rfl | (simp;done) | omega)) pt ?_
    refine Dw (Zbu lk)<|Dw (ZdP lk)<|?_
    refine D' (Zck lk gx ZaI om nb gt10) pt ?_
    refine Dw vm<|Dw vm<|?_
    refine D' (ZaW lk lk gx ZaI nb ro om (by first | rfl | (simp;done) | omega)) pt ?_
    refine Dw (Zbu lk)<|Dw (ZdP lk)<|?_
    refine D' (Zck lk gx ZaI om nb gt11) pt ?_
    refine Dw (Zat (ZbL cv rfl cv rfl cv rfl))<|ZcI rfl rfl (hlk hn rfl) (ZeR (ZbK cv rfl)) pt Zdm<|ZaH<|?_
    refine ZcH Zc8 ?_
    refine E' (Zby (Zbm lk gx rfl Zd0 nb) lk gx (Zdo _) om rfl hs1) pt ?_
    refine mw<|Zam<|Zau<|Zan<|Zao<|mw<|?_
    refine ad<|mw<|Zam<|Zaw<|?_
    refine lU' (a+1) (by (try dsimp only);exact⟨by omega,λj hj h=>by by_cases e:j+1=a;(subst e;(try simp only[Nat.add_sub_cancel] at hc13);omega);exact hm2 j hj om⟩) (by refine zz ?_;exact bkE' 2 hn hlt (by repeat (first | exact wk0 | refine wka ?_ | refine wk1 rfl ?_ | refine wk1 (by first | rfl | exact ivx om | (rw[hol2,hol];done) | (rw[hol2,hol])) ?_)) (by rw[Zdh ha,hT,ZaG,Zbw];(try rw[hsv]);rfl))
   have hT:timV sh (svAt S a) S[a]=(S[a].1,rSv S[a].2,rLt S[a].2):=by unfold timV offV;rw[if_neg hc14',if_neg hc15,Int.sub_zero]
   refine Zay<|Zau<|Zan<|ZaD<|Dw vm<|Dw vm<|Dw vm<|Dw vm<|?_
   refine D' (ZaW lk lk gx ZaI nb ro om (by first | rfl | (simp;done) | omega)) pt ?_
   refine Dw (Zbu lk)<|Dw (ZdP lk)<|?_
   refine D' (Zck lk gx ZaI om nb gt10) pt ?_
   refine Dw vm<|Dw vm<|?_
   refine D' (ZaW lk lk gx ZaI nb ro om (by first | rfl | (simp;done) | omega)) pt ?_
   refine Dw (Zbu lk)<|Dw (ZdP lk)<|?_
   refine D' (Zck lk gx ZaI om nb gt11) pt ?_
   refine Dw (Zat (ZbL cv rfl cv rfl cv rfl))<|ZcI rfl rfl (hlk hn rfl) (ZeR (ZbK cv rfl)) pt Zdm<|ZaH<|?_
   refine ZcH Zc8 ?_
   refine E' (Zby (Zbm lk gx rfl Zd0 nb) lk gx (Zdo _) om rfl hs1) pt ?_
   refine mw<|Zam<|Zau<|Zan<|Zao<|mw<|?_
   refine ad<|mw<|Zam<|Zaw<|?_
   refine lU' (a+1) (by (try dsimp only);exact⟨by omega,λj hj h=>by by_cases e:j+1=a;(subst e;(try simp only[Nat.add_sub_cancel] at hc13);omega);exact hm2 j hj om⟩) (by refine zz ?_;exact bkE' 2 hn hlt (by repeat (first | exact wk0 | refine wka ?_ | refine wk1 rfl ?_ | refine wk1 (by first | rfl | exact ivx om | (rw[hol2,hol];done) | (rw[hol2,hol])) ?_)) (by rw[Zdh ha,hT,ZaG,Zbw];(try rw[hsv]);rfl))
  have hsv:svAt S a=0:=by rw[show a=0 by omega];rfl
  refine za<|Zab<|wm<|mw<|?_
  refine V' (ZaW lk lk gx ZaI nb ro om (by first | rfl | (simp;done) | omega)) pt ?_
  refine Vw (Zbu lk)<|Vw (ZdP lk)<|?_
  refine V' (Zck lk gx ZaI om nb gt9) pt ?_
  refine sn'<|Zag<|wr'<|Vw (Za0 lk lki)<|ms<|?_
  refine cd' lk (λhc14=>?_) (λhc14=>?_)
  .have hT:timV sh (svAt S a) S[a]=(S[a].1-(sh+svAt S a),rSv S[a].2,rLt S[a].2):=by unfold timV offV;rw[if_pos hc14]
   refine Zao<|mw<|mw<|mw<|?_
   refine V' (Zb0 lk lk om om) pt ?_
   refine V' (Za2 lk lk om om) pt ?_
   refine mw<|Zam<|Zau<|Zan<|ZaD<|Dw vm<|Dw vm<|Dw vm<|Dw vm<|?_
   refine D' (ZaW lk lk gx ZaI nb ro om (by first | rfl | (simp;done) | omega)) pt ?_
   refine Dw (Zbu lk)<|Dw (ZdP lk)<|?_
   refine D' (Zck lk gx ZaI om nb gt10) pt ?_
   refine Dw vm<|Dw vm<|?_
   refine D' (ZaW lk lk gx ZaI nb ro om (by first | rfl | (simp;done) | omega)) pt ?_
   refine Dw (Zbu lk)<|Dw (ZdP lk)<|?_
   refine D' (Zck lk gx ZaI om nb gt11) pt ?_
   refine Dw (Zat (ZbL cv rfl cv rfl cv rfl))<|ZcI rfl rfl (hlk hn rfl) (ZeR (ZbK cv rfl)) pt Zdm<|ZaH<|?_
   refine ZcH Zc8 ?_
   refine E' (Zby (Zbm lk gx rfl Zd0 nb) lk gx (Zdo _) om rfl hs1) pt ?_
   refine mw<|Zam<|Zau<|Zan<|Zao<|mw<|?_
   refine ad<|mw<|Zam<|Zaw<|?_
   refine lU' (a+1) (by (try dsimp only);exact⟨by omega,λj hj h=>by by_cases e:j+1=a;(subst e;(try simp only[Nat.add_sub_cancel] at hc13);omega);exact hm2 j hj om⟩) (by refine zz ?_;exact bkE' 2 hn hlt (by repeat (first | exact wk0 | refine wka ?_ | refine wk1 rfl ?_ | refine wk1 (by first | rfl | exact ivx om | (rw[hol2,hol];done) | (rw[hol2,hol])) ?_)) (by rw[Zdh ha,hT,ZaG,Zbw];(try rw[hsv]);rfl))
  have hc14':¬rCk S[a].2=1:=hc14
  refine wr'<|Vw (Za0 lk lki)<|ms<|?_
  refine cd' lk (λhc15=>?_) (λhc15=>?_)
  .have hT:timV sh (svAt S a) S[a]=(S[a].1-sh,rSv S[a].2,rLt S[a].2):=by unfold timV offV;rw[if_neg hc14',if_pos hc15]
   refine Zao<|mw<|mw<|?_
   refine V' (Za2 lk lk om om) pt ?_
   refine mw<|Zam<|Zau<|Zan<|ZaD<|Dw vm<|Dw vm<|Dw vm<|Dw vm<|?_
   refine D' (ZaW lk lk gx ZaI nb ro om (by first | rfl | (simp;done) | omega)) pt ?_
   refine Dw (Zbu lk)<|Dw (ZdP lk)<|?_
   refine D' (Zck lk gx ZaI om nb gt10) pt ?_
   refine Dw vm<|Dw vm<|?_
   refine D' (ZaW lk lk gx ZaI nb ro om (by first | rfl | (simp;done) | omega)) pt ?_
   refine Dw (Zbu lk)<|Dw (ZdP lk)<|?_
   refine D' (Zck lk gx ZaI om nb gt11) pt ?_
   refine Dw (Zat (ZbL cv rfl cv rfl cv rfl))<|ZcI rfl rfl (hlk hn rfl) (ZeR (ZbK cv rfl)) pt Zdm<|ZaH<|?_
   refine ZcH Zc8 ?_
   refine E' (Zby (Zbm lk gx rfl Zd0 nb) lk gx (Zdo _) om rfl hs1) pt ?_
   refine mw<|Zam<|Zau<|Zan<|Zao<|mw<|?_
   refine ad<|mw<|Zam<|Zaw<|?_
   refine lU' (a+1) (by (try dsimp only);exact⟨by omega,λj hj h=>by by_cases e:j+1=a;(subst e;(try simp only[Nat.add_sub_cancel] at hc13);omega);exact hm2 j hj om⟩) (by refine zz ?_;exact bkE' 2 hn hlt (by repeat (first | exact wk0 | refine wka ?_ | refine wk1 rfl ?_ | refine wk1 (by first | rfl | exact ivx om | (rw[hol2,hol];done) | (rw[hol2,hol])) ?_)) (by rw[Zdh ha,hT,ZaG,Zbw];(try rw[hsv]);rfl))
  have hT:timV sh (svAt S a) S[a]=(S[a].1,rSv S[a].2,rLt S[a].2):=by unfold timV offV;rw[if_neg hc14',if_neg hc15,Int.sub_zero]
  refine Zay<|Zau<|Zan<|ZaD<|Dw vm<|Dw vm<|Dw vm<|Dw vm<|?_
  refine D' (ZaW lk lk gx ZaI nb ro om (by first | rfl | (simp;done) | omega)) pt ?_
  refine Dw (Zbu lk)<|Dw (ZdP lk)<|?_
  refine D' (Zck lk gx ZaI om nb gt10) pt ?_
  refine Dw vm<|Dw vm<|?_
  refine D' (ZaW lk lk gx ZaI nb ro om (by first | rfl | (simp;done) | omega)) pt ?_
  refine Dw (Zbu lk)<|Dw (ZdP lk)<|?_
  refine D' (Zck lk gx ZaI om nb gt11) pt ?_
  refine Dw (Zat (ZbL cv rfl cv rfl cv rfl))<|ZcI rfl rfl (hlk hn rfl) (ZeR (ZbK cv rfl)) pt Zdm<|ZaH<|?_
  refine ZcH Zc8 ?_
  refine E' (Zby (Zbm lk gx rfl Zd0 nb) lk gx (Zdo _) om rfl hs1) pt ?_
  refine mw<|Zam<|Zau<|Zan<|Zao<|mw<|?_
  refine ad<|mw<|Zam<|Zaw<|?_
  refine lU' (a+1) (by (try dsimp only);exact⟨by omega,λj hj h=>by by_cases e:j+1=a;(subst e;(try simp only[Nat.add_sub_cancel] at hc13);omega);exact hm2 j hj om⟩) (by refine zz ?_;exact bkE' 2 hn hlt (by repeat (first | exact wk0 | refine wka ?_ | refine wk1 rfl ?_ | refine wk1 (by first | rfl | exact ivx om | (rw[hol2,hol];done) | (rw[hol2,hol])) ?_)) (by rw[Zdh ha,hT,ZaG,Zbw];(try rw[hsv]);rfl))
 obtain rfl:a=S.length:=by omega
 rw[List.take_length]
 have hG:gapB S=false:=gap_ok2 hm2 (Nat.le_refl _)
 rw[if_neg (by rw[hG];simp)] at hTV
 have hol:=Zd9 S sh 0
 refine Zax<|Zas<|Zas<|ZaK<|Zan<|Zab<|wm<|Vw (Zcy lk)<|Vw (Zbr lk lki)<|sn'<|?_
 refine cd' lk (λhc16=>?_) (λhc16=>?_)
 .refine wm<|mr<|Zah<|Zae ry<|rtW'<|?_
  rw[hTV,if_pos om];exact Wk.tup (wkw Wk.nilF (wk1 rfl wk0))
 refine Zay ?_
 refine ZaN (ALe.iceR (hga hn rfl) gt18 (List.take_of_length_le (by rw[Zdo];exact Nat.le_refl _)) (by rw[Zdo];exact Nat.le_refl _) pt18 hs1) ?_
 refine wm<|mw<|mr<|Zae ry<|rtW'<|?_
 rw[hTV,if_neg om];exact Wk.tup (wkw Wk.full (wk1 rfl wk0))
end
section
open Go.Ab Go.RowKit Civ
attribute [local simp] ZbR Zcn Zb6 Zbq Zbl ZdX Zd4
section
def ZsN :((a0::a1::a2::a3::a4::a5::a6::a7::l).drop 5).take 3=[a5,a6,a7]:=rfl
def ZsM :(a0::a1::a2::a3::a4::a5::a6::a7::a8::a9::l).take 10=[a0,a1,a2,a3,a4,a5,a6,a7,a8,a9]:=rfl
def Zkv {τ:Operand->AV}{y0:Operand}{x0_0:AV}(h0:Zaq (τ y0)=some [x0_0]) (l0:[x0_0].all leaf=true):Zal τ [(0,1,y0)] [(iv 0)]=some [x0_0]:=by
 simp only[Zal,h0,l0]
 rfl
def Zxj :(a0::l).take 1=[a0]:=rfl
end
def k146:=Kx 146 []
def k272:=Kx 272 [.e [] 10 []]
def k223:=Kx 223 []
def c273:AC:=(Sr [Ms 6] (.seq (Sr [Mc 7 0] (.block 0 (.loop (.seq (Sr [Mv 8 7,Mv 9 0,Oo 10 (.len true (t 9)),Bn 11 .lss 8 10] (Cd 11 .skip (.exit 0))) (.seq (.block 1 (.seq (Sr [Mv 14 0,Mv 15 7,Oo 16 (.ix (t 14) (t 15)),Oo 17 (.bin .eql (t 16) (.const (.int .u8 47))),Mv 18 17,Ot 19 18 (mt 2),Ot 20 18 (.bin .eql (t 19) (Ci 0)),Oo 21 (.pick (t 18) (t 20) (.const (.bool false)))] (Cd 21 (Sr [Mv 22 0,Mv 23 7,Oo 24 (.sls (t 22) none (some (t 23))),Mv 6 24] .ret) .skip)) (.seq (Sr [Mv 25 0,Mv 26 7,Oo 27 (.ix (t 25) (t 26)),Oo 28 (.bin .eql (t 27) (.const (.int .u8 47)))] (Cd 28 (Sr [Mv 29 0,Mv 30 7,Bc 31 .add 30 1,Oo 32 (.sls (t 29) (some (t 31)) none),Mv 6 32] .ret) .skip)) (Sr [Mv 33 0,Mv 34 7,Oo 35 (.ix (t 33) (t 34)),Oo 36 (.bin .eql (t 35) (.const (.int .u8 37)))] (Cd 36 (Sd [Mv 37 0,Mv 38 7,Oo 39 (.sls (t 37) none (some (t 38))),Mv 40 1,Bn 41 .add 39 40,Mv 42 0,Mv 43 7,Bc 44 .add 43 2,Oo 45 (.sls (t 42) (some (t 44)) none),Bn 46 .add 41 45,Mv 6 46] .ret) .skip))))) (.reg [Mv 12 7,Bc 13 .add 12 1,Mv 7 13])))))) (Sr [Mv 47 0,Mv 6 47] .ret)))
def k273:ZbT Tryz.prog 273=some ⟨c273,[(.tmp 6)],48⟩:=by kernel_rfl
def ZuZ {a:List Rul}(hz:z.length<=9000000000000000000):Ac 146 [.agg (srcB a z k),sv nm] h (iv (Zeu z nm)):=by
 refine tI' k146 λN hn _ _ hbd=>?_
 simp only[tb'] at hbd ⊢
 refine wr'<|E' (ZaM cv rfl hl0 ha0) pt<|ms<|Zab<|wk'<|Zag<|?_
 refine w_lp (ι:=Nat) (λ(i:Nat)=>[(5,iv (i:Int)),(4,.any)]++rn' 6 16) (λ(i:Nat)=>[]) (λ(i:Nat)=>i<=z.length /\ ∀ j (hj:j<z.length),j<i->decide (z[j].1=nm)=false) (λ(i:Nat)=>z.length-i) (0) (by exact⟨by omega,λj hj h0=>absurd h0 om⟩) ?_
 rintro i hi1
 try simp only[sm',Nat.reduceAdd]
 obtain⟨hk1,hk2⟩:=hi1
 refine Zab<|wm<|fq<|Vw (Zaa lk gx gt1)<|Vw (Zaz lk)<|Vw (ZaJ lk lk)<|sn'<|?_
 refine cd' lk (λhc1=>?_) (λhc1=>?_)
 .have hi:i<z.length:=by omega
  refine za<|Zab<|Zag<|wr'<|fq<|Vw (Zaa lk gx gt1)<|mw<|?_
  refine V' (ZaE lk lk ZcD nb ro om ro rfl) pt ?_
  refine Vw (ZaZ lk dp0)<|Vw (Zav lk gt)<|mw<|Vw (Ze4 lk lk)<|sn'<|?_
  refine cd' lk (λhc2=>?_) (λhc2=>?_)
  .refine wm<|mr<|Zap<|Zah<|Zah<|Zap<|Zah<|Zae rz<|rT'<|?_
   refine ivx ?_
   have hf:z.findIdx (λy:Zon=>decide (y.1=nm))=i:=ZfL hi (decide_eq_true hc2) (λj hj=>hk2 j om hj)
   rw[Zeu,idxV,hf,if_pos hi]
  refine Zay<|Zau<|Zan<|Zao<|mw<|?_
  refine ad<|mw<|Zam<|Zaw<|?_
  refine lT' (i+1) (by (try dsimp only);refine⟨by omega,λj hj h0=>?_⟩;by_cases e:j=i;(subst e;exact decide_eq_false hc2);exact hk2 j hj om)
 refine Zax<|Zas<|Zas<|ZaK<|Zan<|wo<|Zae rz<|rT'<|?_
 refine ivx ?_
 have hf:z.findIdx (λy:Zon=>decide (y.1=nm))=z.length:=List.findIdx_eq_length.2 (λx hx=>by obtain⟨j,hj,rfl⟩:=List.getElem_of_mem hx;exact hk2 j hj om)
 rw[Zeu,idxV,hf,if_neg om]
def rendOf_a (hd:Zbx x.2.2.2.2.2.1.1 x.2.2.2.2.2.1.2.1 x.2.2.2.2.2.1.2.2=true) (ha:0<=x.2.2.2.2.2.2.1/\x.2.2.2.2.2.2.1<=172800) (hs : -64800<=x.1/\x.1<=64800) :
  ACalls Tryz.prog 272 [.agg (eraC x)] h λy h'=>h'=h/\y=.ret (iv (endV x)):=by
 have hnb:=Znw hd
 have hdi:=ZbW.1 hd
 have hml:=Zds x.2.2.2.2.2.1.1 x.2.2.2.2.2.1.2.1
 refine tI' k272 λN hn _ _ hbd=>?_
 simp only[tb'] at hbd ⊢
 refine wr'<|E' (ZaM cv rfl hl0 ha0) pt<|ms<|Zab<|ZaD<|dg<|Dw (Zbu lk)<|Dw (Zad lk gx ZsN rfl)<|?_
 refine ZaB mp (λhE hX=>Zdg om om om om om om) pt ?_
 refine D' (Zgg lk lki om om) pt ?_
 refine dg<|Dw (Zbu lk)<|Dw (Zaa lk gx gt8)<|?_
 refine D' (Zb0 lk lk om om) pt ?_
 refine Dw vm<|ZaH<|?_
 refine ZaU ?_
 refine sn'<|Zab<|wr'<|fq<|Vw (Zbu lk)<|Vw (Zaa lk gx gt9)<|Vw (Za0 lk lki)<|sn'<|?_
 refine cd' lk (λhc1=>?_) (λhc1=>?_)
 .refine Zao<|mw<|fq<|Vw (Zaa lk gx gt0)<|?_
  refine V' (Za2 lk lk om om) pt ?_
  refine ms<|wm<|mr<|Zae rz<|rT'<|?_
  refine ivx ?_;unfold endV;rw[if_pos hc1]
 refine za<|wm<|mr<|Zae rz<|rT'<|?_
 refine ivx ?_;unfold endV;rw[if_neg hc1,Int.sub_zero]
def rends_a (hz:okZ es):Ac 223 [.agg [sv nm,.sl es.length 10 false (rows eraC es)]] h (.sl (ZaO es).length 1 false (rows intC (ZaO es))):=by
 have hlen:=hz.len
 have hne:=List.length_pos_iff.2 hz.ne
 have hel:=Zde es
 refine tW' k223 λN hn hlt _ hbd=>?_
 simp only[tb'] at hbd ⊢
 refine wr'<|E' (ZaM (cvl lk0 rfl) rfl hl0 ha0) pt1<|mv' lkn pt2<|sn'<|wr'<|mv' lkn pt3<|Zam<|ZaN (ALe.own0' (st':=1) (ty:=3) gt3 hl1 pt3 ha1)<|Zab<|wr'<|?_
 refine ms<|Zag<|?_
 refine w_lp (ι:=Nat) (λ(k:Nat)=>[(3,.own (N+1) k k),(4,iv (k:Int))]++rn' 5 17) (λ(k:Nat)=>[(1,.mk k 3 1 (rows intC ((ZaO es).take k)))]) (λ(k:Nat)=>k+1<=es.length) (λ(k:Nat)=>es.length-k) (0) (by exact hne) ?_
 rintro k hi1
 try simp only[sm',Nat.reduceAdd]
 replace hi1:k+1<=es.length:=hi1
 have htl:((ZaO es).take k).length=k:=by rw[List.length_take,hel];omega
 refine Zab<|wm<|fq<|Vw (Zaa lk gx gt1)<|Vw (Zaz lk)<|?_
 refine V' (Za2 lk lki om om) pt ?_
 refine Vw (ZaJ lk lk)<|sn'<|?_
 refine cd' lk (λhc1=>?_) (λhc1=>?_)
 .have hke:k+1<es.length:=by omega
  obtain⟨hd,ha⟩:=hz.un k om hke
  have hsh : -64800<=es[k].1/\es[k].1<=64800:=(hz.fm _ (List.getElem_mem om)).2.1
  refine za<|Zab<|Zag<|Zao<|mw<|fq<|Vw (Zaa lk gx gt1)<|mw<|?_
  refine V' (ZaE lk lk Zdd nb ro om ro rfl) pt ?_
  refine Vw (Zar lk ZsM rfl)<|Zac mp (rendOf_a (x:=es[k]) hd ha hsh) pt<|E' (ZcB (Zkv cv rfl) hl2 ha2) pt<|?_
  refine E' (Zby (Zbm lk (hga hn rfl) rfl Zxj nb) lk (hga hn rfl) ((Zel _).trans (by rw[htl])) om rfl hs1) pt ?_
  refine mw<|Zam<|Zau<|Zan<|Zao<|mw<|?_
  refine ad<|mw<|Zam<|Zaw<|?_
  refine lU' (k+1) (by (try dsimp only);omega) (by refine zz ?_;exact bk' 2 hn hlt (by rw[ZjB hke,ZaG,Zbw];rfl))
 refine Zax<|Zas<|Zas<|ZaK<|?_
 refine ZaN (ALe.iceR (hga hn rfl) gt3 (List.take_of_length_le (by rw[Zel,htl];omega)) (by rw[Zel,htl];omega) pt3 hs1) ?_
 refine wm<|mr<|Zae rz<|rtW'<|?_
 rw[show k=(ZaO es).length by omega,List.take_length];exact Wk.full
def occ1 {l:Bs}{x:UInt8}{j:Nat}(h:j<l.length):Lib.occAt l [x] j=(x==l[j]):=by
 unfold Lib.occAt;rw[List.drop_eq_getElem_cons h];simp[List.isPrefixOf]
def Zv9 {l:Bs}{x:UInt8}(hi:i<l.length) (hx:l[i]=x) (hb : ∀ j (hj:j<l.length),j<i->l[j]≠x):Lib.index l [x]=i:=by
 refine Lib.index_hit (λj hj=>?_) (Nat.le_of_lt hi) (by rw[occ1 hi,hx];simp)
 rw[occ1 om]
 simpa using λe=>hb j om hj e.symm
def Zpn {l:Bs}{x:UInt8}(hb : ∀ j (hj:j<l.length),l[j]≠x):Lib.index l [x] = -1:=by
 rcases Lib.index_spec l [x] with ⟨h,_⟩ | ⟨i,_,h2,h3,_⟩
 .exact h
 exfalso
 rcases Nat.lt_or_ge i l.length with hi | hi
 .rw[occ1 hi] at h3;exact hb i hi (by simpa using h3:x=l[i]).symm
 rw[Lib.occAt,List.drop_of_length_le hi] at h3;simp[List.isPrefixOf] at h3
def Zju {l:Bs}{p:Nat}(h:Lib.index l [37,115]=p) : ∃ h1:p<l.length,l[p]=37:=by
 rcases Lib.index_spec l [37,115] with ⟨h1,_⟩ | ⟨i,h1,h2,h3,_⟩
 .omega
 obtain rfl:p=i:=by omega
 rcases Nat.lt_or_ge p l.length with hi | hi
 .refine⟨hi,?_⟩
  rw[Lib.occAt,List.drop_eq_getElem_cons hi] at h3
  simp[List.isPrefixOf] at h3
  exact h3.1.symm
 rw[Lib.occAt,List.drop_of_length_le hi] at h3;simp[List.isPrefixOf] at h3
def Zmd {s:ByteArray}(h:allB ZbV s=true) {j:Nat}(hj:j<(aB s).length):(aB s)[j]≠37/\(aB s)[j]≠47:=by
 unfold allB at h
 rw[List.all_eq_true] at h
 have:=h (aB s)[j] (List.getElem_mem hj)
 constructor <;> (intro e;rw[e] at this;revert this;decide)
def ZqQ (fm:ByteArray) (i:Nat):Prop := ∀ j (hj:j<(aB fm).length),j<i->(aB fm)[j]≠47/\(aB fm)[j]≠37
def Zim {lt:ByteArray}(hq:ZqQ fm i) (hi:i<(aB fm).length) (hx:(aB fm)[i]=47):Zf3 fm lt sa=if 0<sa then bA ((aB fm).drop (i+1)) else bA ((aB fm).take i):=by
 have he:Lib.index (aB fm) [47]=i:=Zv9 hi hx λj hj h=>(hq j hj h).1
 unfold Zf3 cutL Lib.cut
 rw[he]
 simp
def cut47_no (hq : ∀ j (hj:j<(aB fm).length),(aB fm)[j]≠47):(cutL fm [47]).2.2=false:=by
 unfold cutL Lib.cut;rw[Zpn hq];rfl
def Zsn {fm lt:ByteArray}{sa:Int}{i:Nat}(hf:Zb4 fm=true) (hq:ZqQ fm i) (hi:i<(aB fm).length) (hx:(aB fm)[i]=37) :
  i+2<=(aB fm).length/\Zf3 fm lt sa=bA ((aB fm).take i++aB lt++(aB fm).drop (i+2)):=by
 have h47:(cutL fm [47]).2.2=false:=by
  cases hc:(cutL fm [47]).2.2 with
  | false=>rfl
  | true =>
   exfalso
   unfold Zb4 at hf
   split at hf
   .cases hf
   try rw[if_pos hc] at hf
   simp only[Bool.and_eq_true] at hf
   have hp:=hf.1.2
   unfold cutL Lib.cut at hc hp
   split at hc
   .rename_i h0
    obtain⟨p,hp0⟩ : ∃ p:Nat,Lib.index (aB fm) [47]=p:=⟨(Lib.index (aB fm) [47]).toNat,by omega⟩
    rw[if_pos h0,hp0] at hp
    obtain⟨_,hpl,hp47⟩:=ZgQ hp0
    have hp47':(aB fm)[p]=47:=by rw[List.getElem?_eq_getElem hpl] at hp47;exact Option.some.inj hp47
    have hip:i<p:=by
     rcases Nat.lt_trichotomy i p with h | h | h
     .exact h
     .subst h;rw[hx] at hp47';cases hp47'
     exact absurd hp47' (hq p hpl h).1
    have:=(Zmd hp (j:=i) (by have hi':i<fm.size:=hi;simp[aB,bA];omega)).1
    apply this
    simpa [aB,bA] using hx
   cases hc
 have hf2:=hf
 unfold Zb4 at hf2
 split at hf2
 .cases hf2
 rw[if_neg (by rw[h47];simp)] at hf2
 simp only[Bool.and_eq_true] at hf2
 have hp:=hf2.1
 have he:Lib.index (aB fm) [37,115]=i:=by
  unfold cutL Lib.cut at hp
  split at hp
  .rename_i h0
   obtain⟨p,hp0⟩ : ∃ p:Nat,Lib.index (aB fm) [37,115]=p:=⟨(Lib.index (aB fm) [37,115]).toNat,by omega⟩
   rw[hp0] at hp
   obtain⟨hpl,hp37⟩:=Zju hp0
   rcases Nat.lt_trichotomy i p with h | h | h
   .exfalso
    have:=(Zmd hp (j:=i) (by have hi':i<fm.size:=hi;simp[aB,bA];omega)).1
    apply this
    simpa [aB,bA] using hx
   .rw[hp0,h]
   exact absurd hp37 (hq p hpl h).2
  exfalso
  have:=(Zmd (s:=bA (aB fm)) hp (j:=i) hi).1
  exact this hx
 refine⟨?_,?_⟩
 .rcases Lib.index_spec (aB fm) [37,115] with ⟨h1,_⟩ | ⟨p,h1,h2,h3,_⟩
  .omega
  obtain rfl:i=p:=by omega
  have h4:[37,115] <+: (aB fm).drop i:=by simpa [Lib.occAt] using h3
  have:=h4.length_le
  simp at this;omega
 unfold Zf3
 rw[if_neg (by rw[h47];simp)]
 unfold cutL Lib.cut
 rw[he]
 simp
def Zo8 {lt:ByteArray}(hq:ZqQ fm (aB fm).length):Zf3 fm lt sa=fm:=by
 unfold Zf3
 rw[if_neg (by rw[cut47_no λj hj=>(hq j hj hj).1];simp)]
 unfold cutL Lib.cut
 split
 .rename_i h0
  obtain⟨p,hp0⟩ : ∃ p:Nat,Lib.index (aB fm) [37,115]=p:=⟨(Lib.index (aB fm) [37,115]).toNat,by omega⟩
  obtain⟨hpl,hp37⟩:=Zju hp0
  exact absurd hp37 (hq p hpl hpl).2
 rfl
def ZrQ (hi:i<fm.size) (c:UInt8):((ZbQ fm i).toNat:Int)=(c.toNat:Int)↔(aB fm)[i]'hi=c:=by
 rw[ZdH hi]
 have e:(aB fm)[i]'hi=fm[i]:=rfl
 rw[e]
 constructor
 .intro h;exact UInt8.toNat_inj.1 om
 intro h;rw[h]
def Zne {lt:ByteArray}(hf:Zb4 fm=true) (hl:lt.size<=24) (hs:0<=sa):Ac 273 [sv fm,sv lt,iv sa] h (sv (Zf3 fm lt sa)):=by
 have hfl:=Zgr hf
 have hsz:(aB fm).length=fm.size:=rfl
 refine tI' k273 λN hn _ _ hbd=>?_
 simp only[tb'] at hbd ⊢
 refine wk'<|Zab<|wk'<|Zag<|?_
 refine w_lp (ι:=Nat) (λ(i:Nat)=>[(7,iv (i:Int)),(6,.any)]++rn' 8 39) (λ(i:Nat)=>[]) (λ(i:Nat)=>i<=fm.size/\ZqQ fm i) (λ(i:Nat)=>fm.size-i) (0) (by exact⟨Nat.zero_le _,λj _ h=>by omega⟩) ?_
 rintro i hi1
 try simp only[sm',Nat.reduceAdd]
 obtain⟨hk1,hk2⟩:=hi1
 refine Zab<|wm<|mw<|Vw (ZcK lk)<|Vw (ZaJ lk lk)<|sn'<|?_
 refine cd' lk (λhc1=>?_) (λhc1=>?_)
 .have hi:i<fm.size:=by omega
  refine za<|Zab<|Zag<|Zab<|wm<|mw<|?_
  refine V' (v_ix lk lk om om) pt ?_
  refine Vw (Za0 lk lki)<|mw<|?_
  refine sp' (t:=18) gt pt pt (λhg18=>?_) (λhg18=>?_)
  .have hx:(aB fm)[i]'hi=47:=(ZrQ hi 47).1 hg18
   refine sd<|mw<|sd<|Vw (Za0 lk lki)<|Vw (Zaj lk lk)<|sn'<|?_
   refine cd' lk (λhc2=>?_) (λhc2=>?_)
   .refine wm<|mw<|?_
    refine V' (v_sls lk on_ (oi lk) om om om) pt ?_
    refine mr<|Zah<|Zap<|Zah<|Zah<|Zap<|Zah<|Zae rz<|rT'<|?_
    rw[Zim hk2 hi hx,if_neg om,ZrU];simp
   refine za<|Zab<|wm<|mw<|?_
   refine V' (v_ix lk lk om om) pt ?_
   refine Vw (Za0 lk lki)<|sn'<|?_
   refine Zeg lk (by exact decide_eq_true hg18) ?_
   refine wm<|mw<|?_
   refine ad<|V' (v_sls lk (oi lk) on_ om om om) pt ?_
   refine mr<|Zah<|Zap<|Zah<|Zah<|Zap<|Zah<|Zae rz<|rT'<|?_
   rw[Zim hk2 hi hx,if_pos om,ZrU,List.take_of_length_le (by rw[List.length_drop,hsz];omega)];rfl
  have hx:(aB fm)[i]'hi≠47:=λe=>hg18 ((ZrQ hi 47).2 e)
  refine so<|so<|Vw (Zak lk lkb)<|sn'<|ZaV lk<|za<|Zab<|wm<|mw<|?_
  refine V' (v_ix lk lk om om) pt ?_
  refine Vw (Za0 lk lki)<|sn'<|?_
  refine Zcr lk (by exact decide_eq_false hg18) ?_
  refine za<|wm<|mw<|?_
  refine V' (v_ix lk lk om om) pt ?_
  refine Vw (Za0 lk lki)<|sn'<|?_
  refine cd' lk (λhc4=>?_) (λhc4=>?_)
  .have hx2:(aB fm)[i]'hi=37:=(ZrQ hi 37).1 hc4
   obtain⟨hi2,hN⟩:=Zsn (lt:=lt) (sa:=sa) hf hk2 hi hx2
   rw[hsz] at hi2
   refine Zab<|ZaD<|Dw vm<|Dw vm<|?_
   refine D' (v_sls lk on_ (oi lk) om om om) pt ?_
   refine D' vm pt ?_
   refine D' (v_addS lk lk (by first | omega | (rw[ByteArray.size_extract];omega))) pt ?_
   refine Dw vm<|Dw vm<|?_
   refine D' (Zb0 lk lki om om) pt ?_
   refine D' (v_sls lk (oi lk) on_ om om om) pt ?_
   refine D' (v_addS lk lk (by first | omega | (rw[ByteArray.size_append,ByteArray.size_extract,ByteArray.size_extract];omega))) pt ?_
   refine Dw vm<|ZaH<|?_
   refine ZaU ?_
   refine sr<|Zap<|Zah<|Zah<|Zap<|Zah<|Zae rz<|rT'<|?_
   rw[hN,ZrU,ZrU];refine congrArg _ ?_;apply ByteArray.ext;simp[bA,aB];rw[show ((i:Int)+2).toNat=i+2 by omega];exact List.take_of_length_le (by simp)
  have hx2:(aB fm)[i]'hi≠37:=λe=>hc4 ((ZrQ hi 37).2 e)
  refine Zay<|Zau<|Zan<|Zao<|mw<|?_
  refine ad<|mw<|Zam<|Zaw<|?_
  refine lT' (i+1) (by (try dsimp only);refine⟨by omega,λj hj h=>?_⟩;by_cases e:j=i;(subst e;exact⟨hx,hx2⟩);exact hk2 j hj om)
 refine Zax<|Zas<|Zas<|ZaK<|Zan<|wm<|mr<|Zae rz<|rT'<|?_
 rw[Zo8 (by rw[hsz,show fm.size=i by omega];exact hk2)]
end
end Go.Proofs.YthmgnolcfjiicaaGreatDoor
section
namespace Go.Ab
def ALe.wkAt {n0 d:Nat}{T T':List AV}{h:AH}{c c':AV}(hd:T[d]?=some c) (hw:Wk c c') (hp:aPut T (some d) c'=T'):ALe n0 T h T' h:=by
 subst hp
 refine ALe.same ?_ rfl
 show WkL T (T.set d c')
 have : ∀ (T:List AV) (d:Nat),T[d]?=some c->WkL T (T.set d c'):=by
  intro T
  induction T with
  | nil=>intro d hd;simp at hd
  | cons t T ih =>
   intro d hd
   cases d with
   | zero=>simp at hd;subst hd;exact wkw hw (WkL.refl _)
   | succ d=>exact wk1 rfl (ih d (by simpa using hd))
 exact this T d hd
end Go.Ab
namespace Go.Proofs.YthmgnolcfjiicaaGreatDoor
open Go.Ab Go.RowKit Civ
attribute [local simp] ZbR Zcn Zb6 Zbq Zbl ZdX Zd4
section
def Zlm {a0 a1:AV}{l:List AV}:((a0::a1::l).drop 0).take 2=[a0,a1]:=rfl
def ZmI {τ:Operand->AV}{y0 y1:Operand}{x0_0 x0_1 x1_0:AV}(h0:Zaq (τ y0)=some [x0_0,x0_1]) (l0:[x0_0,x0_1].all leaf=true) (h1:Zaq (τ y1)=some [x1_0]) (l1:[x1_0].all leaf=true):Zal τ [(0,2,y0),(2,1,y1)] [(.v (.string ⟨#[]⟩)),(.sl 0 0 true []),(.sl 0 0 true []),(.sl 0 0 true [])]=some [x0_0,x0_1,x1_0,(.sl 0 0 true [])]:=by
 simp only[Zal,h0,l0,h1,l1]
 rfl
def Zxi { e:Ent}:([]:AH)++[e]=[e]:=rfl
def ZsL {e0 e1 e2 d0:Ent}:([e0,e1,e2]:AH)++[d0]=[e0,e1,e2,d0]:=rfl
def Zlo {a0 a1 a2 a3 c0 c1 c2 c3:AV}{l:List AV}:setCells (a0::a1::a2::a3::l) 0 [c0,c1,c2,c3]=c0::c1::c2::c3::l:=rfl
def Zgf {τ:Operand->AV}{y0:Operand}{x0_0:AV}(h0:Zaq (τ y0)=some [x0_0]) (l0:[x0_0].all leaf=true):Zal τ [(0,1,y0)] [(.sl 0 0 true [])]=some [x0_0]:=by
 simp only[Zal,h0,l0]
 rfl
def Zn6 {a0:AV}{l:List AV}:(a0::l).take 1=[a0]:=rfl
def Zln {a0 a1 a2 a3 c0:AV}{l:List AV}:setCells (a0::a1::a2::a3::l) 3 [c0]=a0::a1::a2::c0::l:=rfl
def Zlk {a0 a1 a2 a3:AV}{l:List AV}:((a0::a1::a2::a3::l).drop 0).take 4=[a0,a1,a2,a3]:=rfl
def Zlj {a0 a1 a2 a3 a4 a5 a6 a7 a8 a9:AV}{l:List AV}:(a0::a1::a2::a3::a4::a5::a6::a7::a8::a9::l).take 10=[a0,a1,a2,a3,a4,a5,a6,a7,a8,a9]:=rfl
def ZjO {a0 a1 a2 a3 a4 a5 a6 a7 a8 a9 c0 c1 c2 c3 c4 c5 c6 c7 c8 c9:AV}{l:List AV}:setCells (a0::a1::a2::a3::a4::a5::a6::a7::a8::a9::l) 0 [c0,c1,c2,c3,c4,c5,c6,c7,c8,c9]=c0::c1::c2::c3::c4::c5::c6::c7::c8::c9::l:=rfl
def Zlq {τ:Operand->AV}{y0 y1 y2:Operand}{x0_0 x1_0 x2_0:AV}(h0:Zaq (τ y0)=some [x0_0]) (l0:[x0_0].all leaf=true) (h1:Zaq (τ y1)=some [x1_0]) (l1:[x1_0].all leaf=true) (h2:Zaq (τ y2)=some [x2_0]) (l2:[x2_0].all leaf=true):Zal τ [(0,1,y0),(1,1,y1),(2,1,y2)] [(iv 0),(iv 0),(.v (.string ⟨#[]⟩))]=some [x0_0,x1_0,x2_0]:=by
 simp only[Zal,h0,l0,h1,l1,h2,l2]
 rfl
def Zlp {a0 a1 a2 c0 c1 c2:AV}{l:List AV}:setCells (a0::a1::a2::l) 0 [c0,c1,c2]=c0::c1::c2::l:=rfl
def Zll {a0 a1 a2:AV}{l:List AV}:((a0::a1::a2::l).drop 0).take 3=[a0,a1,a2]:=rfl
end
def k224:=Kx 224 [.e [] 5 [false],.e [] 20 []]
def k225:=Kx 225 [.e [] 20 [],.e [] 11 [false]]
abbrev tmsE (a:List Rul) (x:Era):List AV:=[.sl (ZaL a x).length 3 false (rows timC (ZaL a x))]
def ZeH {a:List Rul} : ∀ x,(tmsE a x).length=1:=λ_=>rfl
def ZlS {a:List Rul}(l:List Era):(rows (tmsE a) l).length=l.length*1:=Zbp ZeH l
def tms_lt {a:List Rul}{n:Nat}(l:List Era):AV.ltL n (rows (tmsE a) l)=true:=ZcV (λn x=>by simp[AV.ltL,AV.lt,Zd4]) l
attribute [local simp] tms_lt
def rtell_g {a:List Rul}{z:List Zon}{k:List Lnk}{nm:ByteArray}{es:List Era}{h:AH}(hck : ∀ r∈a,∀ h,Ac 220 [.agg (rulC r)] h (iv (Zbv r))) (hok:okRs a) (ha:a.length<=9223372036854775807) (hz:okZ es):Ac 224 [.agg (srcB a z k),.agg [sv nm,.sl es.length 10 false (rows eraC es)]] h (.agg [sv nm,.sl es.length 10 false (rows eraC es),.sl (ZaO es).length 1 false (rows intC (ZaO es)),.sl es.length 1 false (rows (tmsE a) es)]):=by
 have hlen:=hz.len
 have hel:=Zde es
 refine tW' k224 λN hn hlt _ hbd=>?_
 simp only[tb'] at hbd ⊢
 refine wr'<|E' (ZaM cv rfl hl0 ha0) pt<|E' (ZaM cv rfl hl1 ha1) pt<|E' (ZaR hl2 ha2) pt<|sn'<|Zab<|ZaD<|Dw (Zad lk gx Zlm rfl)<|Dw (Zad lk gx Zlm rfl)<|?_
 refine ZaB mp (λhE hX=>rends_a hz) pt ?_
 refine Dw (Zat (ZmI cv rfl cv rfl))<|ZcI rfl rfl (hlk hn rfl) (Zix) pt Zxi<|ZaH<|?_
 refine ZcH ZsL ?_
 refine E' (Zai lk cv gx rfl nb rfl Zlo hs3) ptn<|Zam<|?_
 refine ZaN (ALe.own0Cell (st':=1) (ty:=179) gx gt3 hl4 pt3 (Eq.trans (congrArg (λz=>List.set z _ _) ha4) hs3)) ?_
 refine Zab<|wk'<|Zag<|?_
 refine w_lp (ι:=Nat) (λ(j:Nat)=>[(6,iv (j:Int))]++rn' 7 3++rn' 14 39) (λ(j:Nat)=>[(3,.mk 0 278 4 [sv nm,.sl es.length 10 false (rows eraC es),.sl (ZaO es).length 1 false (rows intC (ZaO es)),.own (N+4) j j]),(4,.mk j 179 1 (rows (tmsE a) (es.take j)))]) (λ(j:Nat)=>j<=es.length) (λ(j:Nat)=>es.length-j) (0) (by exact Nat.zero_le _) ?_
 rintro j hi1
 try simp only[sm',Nat.reduceAdd]
 replace hi1:j<=es.length:=hi1
 have htl:(es.take j).length=j:=by rw[List.length_take];omega
 refine Zab<|wm<|fq<|Vw (Zaa lk gx gt1)<|Vw (Zaz lk)<|Vw (ZaJ lk lk)<|sn'<|?_
 refine cd' lk (λhc1=>?_) (λhc1=>?_)
 .have hj:j<es.length:=by omega
  refine za<|Zab<|Zag<|wr'<|mv' lkn pt7<|Zam<|ZaN (ALe.wkAt gt7 (Wk.nilF (st':=3)) pt7)<|Zab<|wr'<|V' (ZbU lk3) pt21<|V' (Zaa lk21 gx gt1) pt22<|?_
  refine mv' lk pt ?_
  refine V' (ZaE lk lk Zdd nb ro om ro rfl) pt ?_
  refine Vw (ZaZ lk dp1)<|Vw (Zav lk gt)<|Vw (Zd2 lk lks)<|sn'<|?_
  refine cd' lk (λhc2=>?_) (λhc2=>?_)
  .have hT:ZaL a es[j]=(Zbf a es[j].2.1 es[j].1).1:=if_neg hc2
   refine Zab<|ZaD<|dg<|Dw (Zaa lk gx gt0)<|dg<|Dw (Zaa lk gx gt1)<|Dw vm<|?_
   refine D' (ZaE lk lk Zdd nb ro om ro rfl) pt ?_
   refine Dw (ZaZ lk dp1)<|Dw (Zav lk gt)<|dg<|Dw (Zaa lk gx gt1)<|Dw vm<|?_
   refine D' (ZaE lk lk Zdd nb ro om ro rfl) pt ?_
   refine Dw (ZaZ lk dp0)<|Dw (Zav lk gt)<|?_
   refine ZaB mp (λhE hX=>ZqL hck hok ha) pt ?_
   refine Dw vm<|Dw (ZaS lk gt)<|Dw (ZaS lk gt)<|Dw vm<|Dw vm<|ZaH<|?_
   refine ZaU ?_
   refine sn'<|Zao<|mw<|ms<|Zao<|fq<|Vw (Zaa lk gx gt3)<|mw<|E' (ZcB (Zgf cv rfl) hl5 ha5) pt<|?_
   refine E' (Zby (Zbm lk (hga hn rfl) rfl Zn6 nb) lk (hga hn rfl) ((ZlS _).trans (by rw[htl])) om rfl hs4) pt ?_
   refine fq<|E' (Zai lk cv gx rfl nb rfl Zln hs3) ptn<|Zam<|Zau<|Zan<|Zao<|mw<|?_
   refine ad<|mw<|Zam<|Zaw<|?_
   refine lU' (j+1) (by (try dsimp only);omega) (by refine zz ?_;exact bk' 5 hn hlt (by rw[List.take_succ_eq_append_getElem hj,ZaG,Zbw];unfold tmsE;rw[hT];rfl))
  have hT:ZaL a es[j]=[]:=if_pos (Decidable.of_not_not hc2)
  refine za<|Zao<|fq<|Vw (Zaa lk gx gt3)<|mw<|E' (ZcB (Zgf cv rfl) hl5 ha5) pt<|?_
  refine E' (Zby (Zbm lk (hga hn rfl) rfl Zn6 nb) lk (hga hn rfl) ((ZlS _).trans (by rw[htl])) om rfl hs4) pt ?_
  refine fq<|E' (Zai lk cv gx rfl nb rfl Zln hs3) ptn<|Zam<|Zau<|Zan<|Zao<|mw<|?_
  refine ad<|mw<|Zam<|Zaw<|?_
  refine lU' (j+1) (by (try dsimp only);omega) (by refine zz ?_;exact bk' 5 hn hlt (by rw[List.take_succ_eq_append_getElem hj,ZaG,Zbw];unfold tmsE;rw[hT];rfl))
 have hje:j=es.length:=by omega
 subst hje
 rw[List.take_length] at htl ⊢
 refine Zax<|Zas<|Zas<|ZaK<|?_
 refine ZaN (ALe.iceCellR (hga hn rfl) (hga hn rfl) om gt3 (List.take_of_length_le (by rw[ZlS,htl];omega)) (by rw[ZlS,htl];omega) pt3 hs4 hs3) ?_
 refine wr'<|Vw (Zad lk gx Zlk rfl)<|E' (Zai lk cv gx rfl nb rfl Zlo hs2) ptn<|sr<|Zae (rs1 (rr_c gt gx (ld1 Zlk rfl)))<|rtW'<|?_
 exact Wk.agg (wk1 rfl (wk1 rfl (wk1 rfl (wkw Wk.full wk0))))
def ZiP : ∀ {l:List Tim}{sa:Int}{lt:ByteArray}{at_:Int},(∀ t∈l,(0<=t.2.1/\t.2.1<=10800)/\t.2.2.size<=24)->(0<=sa/\sa<=10800)->lt.size<=24->(0<=(ZcS sa lt l at_).1/\(ZcS sa lt l at_).1<=10800)/\(ZcS sa lt l at_).2.size<=24
 | [],sa,lt,at_,_,h2,h3=>⟨h2,h3⟩
 | t::l,sa,lt,at_,h1,h2,h3=>by
  rw[ZcS]
  have ht:=h1 t (by simp)
  split
  .exact ZiP (λx hx=>h1 x (by simp[hx])) ht.1 ht.2
  exact ZiP (λx hx=>h1 x (by simp[hx])) h2 h3
def Zu4 {a:List Rul}{nm:ByteArray}{es:List Era}{n:Int}{h:AH}(hz:okZ es):Ac 225 [.agg [sv nm,.sl es.length 10 false (rows eraC es),.sl (ZaO es).length 1 false (rows intC (ZaO es)),.sl es.length 1 false (rows (tmsE a) es)],iv n] h (.agg (locC3 (Za9 a es n))):=by
 have hlen:=hz.len
 have hel:=Zde es
 have hkl:=kAt_lt hz.ne n
 have hke:=Zrm (ZaO es) n
 refine tI' k225 λN hn _ _ hbd=>?_
 simp only[tb'] at hbd ⊢
 refine wr'<|E' (ZaM cv rfl hl0 ha0) pt<|E' (ZaR hl1 ha1) pt<|Zam<|?_
 refine ZaN (ALe.icePtr gx gt2 (by simp) pt2 hs0) ?_
 refine wk'<|Zab<|Zag<|?_
 refine w_lp (ι:=Nat) (λ(i:Nat)=>[(5,iv (i:Int))]++rn' 10 16) (λ(i:Nat)=>[]) (λ(i:Nat)=>i<=kAt (ZaO es) n) (λ(i:Nat)=>kAt (ZaO es) n-i) (0) (by exact Nat.zero_le _) ?_
 rintro i hi1
 try simp only[sm',Nat.reduceAdd]
 replace hi1:i<=kAt (ZaO es) n:=hi1
 refine Zab<|wm<|Vw (ZaZ lk dp2)<|Vw (Zav lk gt)<|Vw (Zaz lk)<|Vw (ZaJ lk lk)<|mw<|?_
 refine sp' (t:=15) gt pt pt (λhg15=>?_) (λhg15=>?_)
 .have hst:=Zrl (a:=n) (show i<(ZaO es).length by omega) hi1
  refine sd<|Vw (ZaZ lk dp2)<|sd<|Vw (Zav lk gt)<|sd<|mw<|sd<|?_
  refine V' (ZaE lk lk Za4 nb ro om ro rfl) pt ?_
  refine sd<|Vw (Zav lk gt)<|sd<|mw<|sd<|Vw (ZdO lk lk)<|Vw (Zaj lk lk)<|sn'<|?_
  refine cd' lk (λhc1=>?_) (λhc1=>?_)
  .have hi2:=hst.1 hc1
   refine za<|Zag<|Zao<|mw<|?_
   refine ad<|mw<|Zam<|Zau<|Zaw<|?_
   refine lT' (i+1) (by (try dsimp only);omega)
  have hie:i=kAt (ZaO es) n:=by have:¬i+1<=kAt (ZaO es) n:=λh=>hc1 (hst.2 h);omega
  have hx:=ZvH hz (List.getElem_mem hkl)
  subst hie
  refine Zax<|Zas<|Zas<|ZaK<|Zan<|wr'<|Vw (ZaZ lk dp0)<|Vw (ZaZ lk dp1)<|Vw (Zav lk gt)<|mw<|?_
  refine V' (ZaE (k:=kAt (ZaO es) n) lk lk Zdd nb ro om ro rfl) pt ?_
  refine Vw (Zar lk Zlj rfl)<|E' (ZaR hl2 ha2) pt<|E' (Zai lk cv gx rfl nb rfl ZjO hs2) ptn<|sn'<|wr'<|fq<|Vw (Zaa lk gx gt2)<|mw<|ms<|Zab<|?_
  refine wk'<|Zag<|?_
  refine w_lp (ι:=Nat) (λ(j:Nat)=>[(7,iv (ZcS (xSv es[kAt (ZaO es) n]) ⟨#[]⟩ ((ZaL a es[kAt (ZaO es) n]).take j) n).1),(8,sv (ZcS (xSv es[kAt (ZaO es) n]) ⟨#[]⟩ ((ZaL a es[kAt (ZaO es) n]).take j) n).2),(9,iv (j:Int))]++rn' 34 39) (λ(j:Nat)=>[]) (λ(j:Nat)=>j<=(ZaL a es[kAt (ZaO es) n]).length) (λ(j:Nat)=>(ZaL a es[kAt (ZaO es) n]).length-j) (0) (by exact Nat.zero_le _) ?_
  rintro j hi2
  try simp only[sm',Nat.reduceAdd]
  replace hi2:j<=(ZaL a es[kAt (ZaO es) n]).length:=hi2
  have hxl:=ZcL (rl:=a) (x:=es[kAt (ZaO es) n])
  refine Zab<|wm<|Vw (ZaZ lk dp3)<|Vw (Zav lk gt)<|mw<|?_
  refine V' (ZaE (k:=kAt (ZaO es) n) lk lk ZeH nb ro om ro rfl) pt ?_
  refine V' (Zav lk gt) pt ?_
  refine V' ((by first | exact Zaz lk | exact Zcy lk)) pt ?_
  refine Vw (ZaJ lk lk)<|sn'<|?_
  refine cd' lk (λhc2=>?_) (λhc2=>?_)
  .have hj:j<(ZaL a es[kAt (ZaO es) n]).length:=by omega
   have hpk:=Zev ((ZaL a es[kAt (ZaO es) n]).take j) (ZaL a es[kAt (ZaO es) n])[j] (xSv es[kAt (ZaO es) n]) ⟨#[]⟩ n
   rw[<-List.take_succ_eq_append_getElem hj] at hpk
   refine za<|Zab<|Zag<|wr'<|Vw (ZaZ lk dp3)<|Vw (Zav lk gt)<|mw<|?_
   refine V' (ZaE (k:=kAt (ZaO es) n) lk lk ZeH nb ro om ro rfl) pt ?_
   refine Vw (Zav lk gt)<|mw<|?_
   refine V' (ZaE lk lk ZdA nb ro om ro rfl) pt ?_
   refine Vw (ZaZ lk dp0)<|Vw (Zav lk gt)<|mw<|Vw (ZdO lk lk)<|sn'<|?_
   refine cd' lk (λhc3=>?_) (λhc3=>?_)
   .rw[if_pos hc3] at hpk
    refine ZaD<|Dw (ZaZ lk dp3)<|Dw (Zav lk gt)<|Dw vm<|?_
    refine D' (ZaE lk lk (λ_=>rfl) nb ro om ro rfl) pt ?_
    refine Dw (Zav lk gt)<|Dw vm<|?_
    refine D' (ZaE lk lk ZdA nb ro om ro rfl) pt ?_
    refine Dw (ZaZ lk dp1)<|Dw (Zav lk gt)<|Dw (ZaZ lk dp3)<|Dw (Zav lk gt)<|Dw vm<|?_
    refine D' (ZaE lk lk (λ_=>rfl) nb ro om ro rfl) pt ?_
    refine Dw (Zav lk gt)<|Dw vm<|?_
    refine D' (ZaE lk lk ZdA nb ro om ro rfl) pt ?_
    refine Dw (ZaZ lk dp2)<|Dw (Zav lk gt)<|Dw vm<|Dw vm<|ZaH<|?_
    refine ZaU ?_
    refine Zam<|Zau<|Zan<|Zao<|mw<|?_
    refine ad<|mw<|Zam<|Zaw<|?_
    refine lU' (j+1) (by (try dsimp only);omega) (by refine zz ?_;exact ALe.same (by repeat (first | exact wk0 | refine wka ?_ | refine wk1 rfl ?_ | refine wk1 (by first | rfl | exact ivx om | (rw[hpk])) ?_)) rfl)
   rw[if_neg hc3] at hpk
   refine Zay<|Zau<|Zan<|Zao<|mw<|?_
   refine ad<|mw<|Zam<|Zaw<|?_
   refine lU' (j+1) (by (try dsimp only);omega) (by refine zz ?_;exact ALe.same (by repeat (first | exact wk0 | refine wka ?_ | refine wk1 rfl ?_ | refine wk1 (by first | rfl | exact ivx om | (rw[hpk])) ?_)) rfl)
  rw[List.take_of_length_le (show (ZaL a es[kAt (ZaO es) n]).length<=j by omega)]
  have hpb:=ZiP (l:=ZaL a es[kAt (ZaO es) n]) (at_:=n) (λt ht=>(ZfF ht).2) hx.sv (show (⟨#[]⟩:ByteArray).size<=24 by decide)
  have hsh : -64800<=es[kAt (ZaO es) n].1/\es[kAt (ZaO es) n].1<=64800:=hx.sh
  have hTG:=ZoL (rl:=a) (a:=n) hkl
  refine Zax<|Zas<|Zas<|ZaK<|Zan<|Zab<|ZaD<|dg<|Dw (Zaa lk gx gt0)<|Dw vm<|?_
  refine D' (Zb0 lk lk om om) pt ?_
  refine Dw vm<|dg<|Dw (Zaa lk gx gt3)<|Dw vm<|Dw vm<|?_
  refine ZaB mp (λhE hX=>Zne hx.fm hpb.2 hpb.1.1) pt ?_
  refine Dw (Zat (Zlq cv rfl cv rfl cv rfl))<|ZaH<|?_
  refine ZaU ?_
  refine E' (Zai lk cv gx rfl nb rfl Zlp hs1) ptn<|sr<|Zae (rs1 (rr_c gt gx (ld1 Zll rfl)))<|rT'<|?_
  rw[hTG];rfl
 have hie:i=kAt (ZaO es) n:=by omega
 have hx:=ZvH hz (List.getElem_mem hkl)
 subst hie
 refine so<|so<|so<|so<|so<|so<|so<|Vw (Zak lk lkb)<|sn'<|ZaV lk<|Zax<|Zas<|Zas<|?_
 refine ZaK<|Zan<|wr'<|Vw (ZaZ lk dp0)<|Vw (ZaZ lk dp1)<|Vw (Zav lk gt)<|mw<|?_
 refine V' (ZaE (k:=kAt (ZaO es) n) lk lk Zdd nb ro om ro rfl) pt ?_
 refine Vw (Zar lk Zlj rfl)<|E' (ZaR hl2 ha2) pt<|E' (Zai lk cv gx rfl nb rfl ZjO hs2) ptn<|sn'<|wr'<|fq<|Vw (Zaa lk gx gt2)<|mw<|ms<|Zab<|?_
 refine wk'<|Zag<|?_
 refine w_lp (ι:=Nat) (λ(j:Nat)=>[(7,iv (ZcS (xSv es[kAt (ZaO es) n]) ⟨#[]⟩ ((ZaL a es[kAt (ZaO es) n]).take j) n).1),(8,sv (ZcS (xSv es[kAt (ZaO es) n]) ⟨#[]⟩ ((ZaL a es[kAt (ZaO es) n]).take j) n).2),(9,iv (j:Int))]++rn' 34 39) (λ(j:Nat)=>[]) (λ(j:Nat)=>j<=(ZaL a es[kAt (ZaO es) n]).length) (λ(j:Nat)=>(ZaL a es[kAt (ZaO es) n]).length-j) (0) (by exact Nat.zero_le _) ?_
 rintro j hi2
 try simp only[sm',Nat.reduceAdd]
 replace hi2:j<=(ZaL a es[kAt (ZaO es) n]).length:=hi2
 have hxl:=ZcL (rl:=a) (x:=es[kAt (ZaO es) n])
 refine Zab<|wm<|Vw (ZaZ lk dp3)<|Vw (Zav lk gt)<|mw<|?_
 refine V' (ZaE (k:=kAt (ZaO es) n) lk lk ZeH nb ro om ro rfl) pt ?_
 refine V' (Zav lk gt) pt ?_
 refine V' ((by first | exact Zaz lk | exact Zcy lk)) pt ?_
 refine Vw (ZaJ lk lk)<|sn'<|?_
 refine cd' lk (λhc2=>?_) (λhc2=>?_)
 .have hj:j<(ZaL a es[kAt (ZaO es) n]).length:=by omega
  have hpk:=Zev ((ZaL a es[kAt (ZaO es) n]).take j) (ZaL a es[kAt (ZaO es) n])[j] (xSv es[kAt (ZaO es) n]) ⟨#[]⟩ n
  rw[<-List.take_succ_eq_append_getElem hj] at hpk
  refine za<|Zab<|Zag<|wr'<|Vw (ZaZ lk dp3)<|Vw (Zav lk gt)<|mw<|?_
  refine V' (ZaE (k:=kAt (ZaO es) n) lk lk ZeH nb ro om ro rfl) pt ?_
  refine Vw (Zav lk gt)<|mw<|?_
  refine V' (ZaE lk lk ZdA nb ro om ro rfl) pt ?_
  refine Vw (ZaZ lk dp0)<|Vw (Zav lk gt)<|mw<|Vw (ZdO lk lk)<|sn'<|?_
  refine cd' lk (λhc3=>?_) (λhc3=>?_)
  .rw[if_pos hc3] at hpk
   refine ZaD<|Dw (ZaZ lk dp3)<|Dw (Zav lk gt)<|Dw vm<|?_
   refine D' (ZaE lk lk (λ_=>rfl) nb ro om ro rfl) pt ?_
   refine Dw (Zav lk gt)<|Dw vm<|?_
   refine D' (ZaE lk lk ZdA nb ro om ro rfl) pt ?_
   refine Dw (ZaZ lk dp1)<|Dw (Zav lk gt)<|Dw (ZaZ lk dp3)<|Dw (Zav lk gt)<|Dw vm<|?_
   refine D' (ZaE lk lk (λ_=>rfl) nb ro om ro rfl) pt ?_
   refine Dw (Zav lk gt)<|Dw vm<|?_
   refine D' (ZaE lk lk ZdA nb ro om ro rfl) pt ?_
   refine Dw (ZaZ lk dp2)<|Dw (Zav lk gt)<|Dw vm<|Dw vm<|ZaH<|?_
   refine ZaU ?_
   refine Zam<|Zau<|Zan<|Zao<|mw<|?_
   refine ad<|mw<|Zam<|Zaw<|?_
   refine lU' (j+1) (by (try dsimp only);omega) (by refine zz ?_;exact ALe.same (by repeat (first | exact wk0 | refine wka ?_ | refine wk1 rfl ?_ | refine wk1 (by first | rfl | exact ivx om | (rw[hpk])) ?_)) rfl)
  rw[if_neg hc3] at hpk
  refine Zay<|Zau<|Zan<|Zao<|mw<|?_
  refine ad<|mw<|Zam<|Zaw<|?_
  refine lU' (j+1) (by (try dsimp only);omega) (by refine zz ?_;exact ALe.same (by repeat (first | exact wk0 | refine wka ?_ | refine wk1 rfl ?_ | refine wk1 (by first | rfl | exact ivx om | (rw[hpk])) ?_)) rfl)
 rw[List.take_of_length_le (show (ZaL a es[kAt (ZaO es) n]).length<=j by omega)]
 have hpb:=ZiP (l:=ZaL a es[kAt (ZaO es) n]) (at_:=n) (λt ht=>(ZfF ht).2) hx.sv (show (⟨#[]⟩:ByteArray).size<=24 by decide)
 have hsh : -64800<=es[kAt (ZaO es) n].1/\es[kAt (ZaO es) n].1<=64800:=hx.sh
 have hTG:=ZoL (rl:=a) (a:=n) hkl
 refine Zax<|Zas<|Zas<|ZaK<|Zan<|Zab<|ZaD<|dg<|Dw (Zaa lk gx gt0)<|Dw vm<|?_
 refine D' (Zb0 lk lk om om) pt ?_
 refine Dw vm<|dg<|Dw (Zaa lk gx gt3)<|Dw vm<|Dw vm<|?_
 refine ZaB mp (λhE hX=>Zne hx.fm hpb.2 hpb.1.1) pt ?_
 refine Dw (Zat (Zlq cv rfl cv rfl cv rfl))<|ZaH<|?_
 refine ZaU ?_
 refine E' (Zai lk cv gx rfl nb rfl Zlp hs1) ptn<|sr<|Zae (rs1 (rr_c gt gx (ld1 Zll rfl)))<|rT'<|?_
 rw[hTG];rfl
end Go.Proofs.YthmgnolcfjiicaaGreatDoor
end
namespace Go.Proofs.YthmgnolcfjiicaaGreatDoor
open Go.Ab
variable {h:AH}{a0 a1 a2 a3 c0 c1 c2:AV}{b:ByteArray}{d0 e0 e1 e2 e3 e4 e5:Ent}{l:List AV}
section
open Go.Ab Go.RowKit Civ
attribute [local simp] ZbR Zcn Zb6 Zbq Zbl ZdX Zd4 ZcM
def Zps {p:Era->Int}{l:List Era}(h : ∀ y∈l,p y=0):Zbk p l=0:=by
 rw[Zjx,List.find?_eq_none.2 (λy hy=>by simp[h y hy])]
end
section
open Go.Ab Go.RowKit Civ
def txtS:Bs:=[82,117,108,101,32,101,117,32,49,57,56,49,32,109,97,120,32,77,97,114,32,108,97,115,116,83,117,110,32,49,58,48,48,117,32,49,58,48,48,32,83,10,82,117,108,101,32,101,117,32,49,57,57,54,32,109,97,120,32,79,99,116,32,108,97,115,116,83,117,110,32,49,58,48,48,117,32,48,32,45,10,90,111,110,101,32,72,101,114,101,47,84,111,119,110,32,48,58,49,48,32,45,32,76,77,84,32,49,56,56,48,32,74,97,110,32,49,32,48,10,32,32,49,58,48,48,32,101,117,32,67,69,37,115,84,10,76,105,110,107,32,72,101,114,101,47,84,111,119,110,32,79,108,100,10]
def nEu:ByteArray:=bA [101,117]
def nHt:ByteArray:=bA [72,101,114,101,47,84,111,119,110]
def nOld:ByteArray:=bA [79,108,100]
def rul0:List Rul:=[(nEu,1981,2100,3,(2,0,0),3600,3,3600,bA [83]),(nEu,1996,2100,10,(2,0,0),3600,3,0,bA [])]
def era0:Era:=(600,bA [],0,bA [76,77,84],false,((1880,1,1),0,2))
def era1:Era:=(3600,nEu,0,bA [67,69,37,115,84],true,((0,0,0),0,0))
def src0:Src:=(rul0,[(nHt,[era0,era1])],[(nHt,nOld)])
def ZmV (l:List Bs):AV:=.sl l.length 1 false (l.map λb=>sv (bA b))
def splV:AV:=.tup [.sl 5 3 false [iv 1,bv false,ZmV [[82,117,108,101],[101,117],[49,57,56,49],[109,97,120],[77,97,114],[108,97,115,116,83,117,110],[49,58,48,48,117],[49,58,48,48],[83]],iv 2,bv false,ZmV [[82,117,108,101],[101,117],[49,57,57,54],[109,97,120],[79,99,116],[108,97,115,116,83,117,110],[49,58,48,48,117],[48],[45]],iv 3,bv false,ZmV [[90,111,110,101],[72,101,114,101,47,84,111,119,110],[48,58,49,48],[45],[76,77,84],[49,56,56,48],[74,97,110],[49],[48]],iv 4,bv true,ZmV [[49,58,48,48],[101,117],[67,69,37,115,84]],iv 5,bv false,ZmV [[76,105,110,107],[72,101,114,101,47,84,111,119,110],[79,108,100]]],iv 0,iv 0]
def spl_ev:evF Tryz.prog noO 1000 20 138 [sv (bA txtS)] []=some (.ret splV,[]):=by kernel_rfl
def prs_ev:evF Tryz.prog (orc 138 [sv (bA txtS)] splV) 1000 20 92 [sv (bA txtS)] []=some (.ret (.tup [.agg (srcC src0),iv 0,iv 0]),[]):=by kernel_rfl
def rp_txt :Ac 92 [sv (bA txtS)] h (.tup [.agg (srcC src0),iv 0,iv 0]) :=
 ACalls.ev 1000 20 (orc_ok λh=>ACalls.ev 1000 20 noO_ok spl_ev) prs_ev
end
section
open Go.Ab Go.RowKit Civ
attribute [local simp] ZbR Zcn Zb6 Zbq Zbl ZdX Zd4 ZcM
section
def Zli :setCells (a0::a1::a2::l) 0 [c0,c1,c2]=c0::c1::c2::l:=rfl
def Zlh :((a0::a1::a2::l).drop 0).take 3=[a0,a1,a2]:=rfl
end
def k44:=Kx 44 []
def ZoR:Zo6 src0:=by
 refine⟨λr hr=>?_,λz hz=>?_,λl hl=>?_⟩
 .simp only[src0,rul0,List.mem_cons,List.not_mem_nil,or_false] at hr
  rcases hr with rfl | rfl <;> exact⟨by decide,by decide⟩
 .simp only[src0,List.mem_cons,List.not_mem_nil,or_false] at hz
  subst hz
  refine⟨by decide,λx hx=>?_⟩
  simp only[List.mem_cons,List.not_mem_nil,or_false] at hx
  rcases hx with rfl | rfl <;> exact⟨by decide,by decide⟩
 simp only[src0,List.mem_cons,List.not_mem_nil,or_false] at hl
 subst hl;exact⟨by decide,by decide⟩
def Zq1 :Ac 44 [] h (.agg (srcC src0)):=by
 refine tI' k44 λN hn _ _ hbd=>?_
 simp only[tb'] at hbd ⊢
 refine wr'<|E' (ZaR hl0 ha0) pt<|sn'<|wr'<|Zac mp (rp_txt) pt<|mw<|Vw (ZaS lk gt)<|Vw (ZaS lk gt)<|Vw (ZaS lk gt)<|E' (ZaR hl1 ha1) pt<|E' (Zai lk cv gx rfl nb rfl Zli hs1) ptn<|?_
 exact mw<|ms<|wr'<|Vw (Zad lk gx Zlh rfl)<|E' (Zai lk cv gx rfl nb rfl Zli hs0) ptn<|sr<|Zae (rs1 (rr_c gt gx (ld1 Zlh rfl)))<|rT' rfl
def insT (t:Trn):List Trn->List Trn
 | []=>[t]
 | u::l=>if t.1<=u.1 then t::u::l else u::insT t l
def insS:List Trn->List Trn
 | []=>[]
 | t::l=>insT t (insS l)
def Zjs (t:Trn) : ∀ l:List Trn,(insT t l).Perm (t::l)
 | []=>.refl _
 | u::l=>by
  rw[insT]
  split
  .exact .refl _
  exact ((Zjs t l).cons u).trans (List.Perm.swap t u l)
def ZnI : ∀ l:List Trn,(insS l).Perm l
 | []=>.refl _
 | t::l=>(Zjs t _).trans ((ZnI l).cons t)
def Zrp {t:Trn} : ∀ {l:List Trn},l.Pairwise (λa b=>a.1<=b.1)->(insT t l).Pairwise λa b=>a.1<=b.1
 | [],_=>by simp[insT]
 | u::l,h=>by
  rw[insT]
  rw[List.pairwise_cons] at h
  split
  .rename_i hle
   refine List.pairwise_cons.2 ⟨λx hx=>?_,List.pairwise_cons.2 h⟩
   rcases List.mem_cons.1 hx with rfl | hx
   .exact hle
   have:=h.1 x hx;omega
  rename_i hle
  refine List.pairwise_cons.2 ⟨λx hx=>?_,Zrp h.2⟩
  rcases List.mem_cons.1 ((Zjs t l).mem_iff.1 hx) with rfl | hx
  .omega
  exact h.1 x hx
def Zrq : ∀ l:List Trn,(insS l).Pairwise λa b=>a.1<=b.1
 | []=>.nil
 | t::l=>Zrp (Zrq l)
def Zfj (l:List Rul) (nm:ByteArray) (sh:Int):List Tim×Int :=
 if Zdz l nm sh≠0 then ([],Zdz l nm sh) else if gapB (insS (Zbg l nm))=true then ([],4) else if 1000<(insS (Zbg l nm)).length then ([],2) else (outV sh 0 (insS (Zbg l nm)),0)
def ZoN (l:List Rul) (nm:ByteArray) (sh:Int):Zbf l nm sh=Zfj l nm sh:=by
 unfold Zfj
 by_cases h:Zdz l nm sh=0
 .rw[if_neg (by simp[h]),ZlT h (ZnI _) (Zrq _)]
 rw[if_pos h,Zep h]
def tim0_err:(Zfj rul0 nEu 3600).2=0:=by kernel_rfl
def chk0:ZbG src0=0:=by
 have h1:Zdk src0=0:=by kernel_rfl
 have h2:(Zdi src0.2.1 src0.2.2).Nodup:=by decide
 have h3:Zjj src0=false:=by kernel_rfl
 have h4:Zbk (errX src0.1) (Zdw src0.2.1)=0:=by
  refine Zps λy hy=>?_
  simp only[src0,Zdw,List.flatMap_cons,List.flatMap_nil,List.append_nil,List.mem_cons,List.not_mem_nil,or_false] at hy
  rcases hy with rfl | rfl
  .rfl
  show (if nEu=⟨#[]⟩ then 0 else (Zbf rul0 nEu 3600).2)=0
  rw[ZoN,tim0_err];split <;> rfl
 have h5:(src0.2.1.any λz=>!risL (ZaO z.2))=false:=by kernel_rfl
 unfold ZbG
 rw[if_neg (by simp[h1]),if_neg (by simpa using h2),if_neg (by simp[h3]),if_neg (by simp[h4]),if_neg (by simp[h5])]
end
section
open Go.Ab Civ
def ZvB:List Chg:=cutV (eraG era0 tMin []) (endV era0)++eraG era1 (endV era0) (Zfj rul0 nEu 3600).1
def ZvA:Za5 rul0 tMin none [era0,era1]=ZvB:=by
 have e0:ZaL rul0 era0=[]:=if_pos (by decide)
 have e1:ZaL rul0 era1=(Zfj rul0 nEu 3600).1:=by
  unfold ZaL
  rw[if_neg (by decide),ZoN];rfl
 rw[Za5,Za5,e0,e1,if_neg (by decide)]
 unfold ZvB
 rw[show ZbH none tMin=tMin from rfl,show ZbH (some (endV era0)) tMin=endV era0 from by decide]
def tab0:Tab:=stV (inP ZvB)
def tab0_len:tab0.2.length=211:=by kernel_rfl
def tab0_ok1:locE tab0.1=0:=by kernel_rfl
def tab0_ok2:Zb3 tab0.2=0:=by kernel_rfl
def table0:ZdR rul0 [era0,era1]=tab0:=by
 have:=Zm5 (s:=src0) (z:=(nHt,[era0,era1])) chk0 (by simp[src0])
 have e:stV (inP (Za5 rul0 tMin none [era0,era1]))=ZdR rul0 [era0,era1]:=this
 rw[<-e,ZvA];rfl
def of0:ofV src0 (nHt,[era0,era1])=(tab0,0):=by
 unfold ofV
 show tabR (ZdR rul0 [era0,era1])=_
 rw[table0]
 unfold tabR
 rw[if_neg (by rw[tab0_ok1];simp),if_neg (by rw[tab0_ok2];simp),if_neg (by rw[tab0_len];decide)]
def chkT0:Za3 tab0=0:=by
 have h:=Zid (rl:=rul0) (es:=[era0,era1]) (by
  have:=congrArg Prod.snd of0
  exact this)
 rwa [table0] at h
end
section
open Go.Ab Civ
attribute [local simp] ZbR Zcn Zb6 Zbq ZcM ZdX Zbl
section
def ZeA :((a0::a1::a2::a3::l).drop 1).take 3=[a1,a2,a3]:=rfl
def ZhQ :setCells (a0::a1::a2::l) 0 [c0,c1,c2]=c0::c1::c2::l:=rfl
def ZfU :((a0::a1::a2::l).drop 0).take 3=[a0,a1,a2]:=rfl
def Zxs {τ:Operand->AV}:Zal τ [] [(iv 0),(iv 0),(.v (.string ⟨#[]⟩)),(.sl 0 0 true [])]=some [(iv 0),(iv 0),(.v (.string ⟨#[]⟩)),(.sl 0 0 true [])]:=rfl
def Zs2 :((a0::a1::l).drop 0).take 2=[a0,a1]:=rfl
def Zob :(a0::a1::a2::a3::l).take 4=[a0,a1,a2,a3]:=rfl
def ZdM {c3:AV}:setCells (a0::a1::a2::a3::l) 0 [c0,c1,c2,c3]=c0::c1::c2::c3::l:=rfl
def Zlv {τ:Operand->AV}:Zal τ [] [(iv 0),(iv 0),(.v (.string ⟨#[]⟩)),(.sl 0 0 true [])]=some [(iv 0),(iv 0),(.v (.string ⟨#[]⟩)),(.sl 0 0 true [])]:=rfl
def Zc7 :((a0::a1::a2::a3::l).drop 0).take 4=[a0,a1,a2,a3]:=rfl
def Zs7 {τ:Operand->AV}:Zal τ [] [(iv 0),(iv 0),(.v (.string ⟨#[]⟩)),(.sl 0 0 true [])]=some [(iv 0),(iv 0),(.v (.string ⟨#[]⟩)),(.sl 0 0 true [])]:=rfl
def Zp6 {a0 b0:Int}{a1 b1:Int}{a2 b2:ByteArray}:Za7 [.int,.int,.str] [iv a0,iv a1,sv a2] [iv b0,iv b1,sv b2]=some (decide (a0=b0/\a1=b1/\a2=b2)):=by
 simp only[Za7,ZcY,if_true,ZbP,Option.some.injEq]
 simp only[Bool.decide_and,Bool.and_true]
 try (congr 1 <;> simp)
 try rfl
def Zs6 {τ:Operand->AV}{y0 y1:Operand}{x0_0 x1_0 x1_1 x1_2:AV}(h0:Zaq (τ y0)=some [x0_0]) (l0:[x0_0].all leaf=true) (h1:Zaq (τ y1)=some [x1_0,x1_1,x1_2]) (l1:[x1_0,x1_1,x1_2].all leaf=true):Zal τ [(0,1,y0),(1,3,y1)] [(iv 0),(iv 0),(iv 0),(.v (.string ⟨#[]⟩))]=some [x0_0,x1_0,x1_1,x1_2]:=by
 simp only[Zal,h0,l0,h1,l1]
 rfl
def Zs5 {τ:Operand->AV}{y0:Operand}{x0_0 x0_1 x0_2 x0_3:AV}(h0:Zaq (τ y0)=some [x0_0,x0_1,x0_2,x0_3]) (l0:[x0_0,x0_1,x0_2,x0_3].all leaf=true):Zal τ [(0,4,y0)] [(iv 0),(iv 0),(iv 0),(.v (.string ⟨#[]⟩))]=some [x0_0,x0_1,x0_2,x0_3]:=by
 simp only[Zal,h0,l0]
 rfl
def Zxr { e:Ent}:([]:AH)++[e]=[e]:=rfl
def Zs4 :([e0,e1,e2,e3,e4,e5]:AH)++[d0]=[e0,e1,e2,e3,e4,e5,d0]:=rfl
def Zs3 :setCells (a0::a1::a2::a3::l) 3 [c0]=a0::a1::a2::c0::l:=rfl
end
def c91:AC:=(Sr [Oo 2 (.box 89 3 (t 0)),Oo 3 (.box 139 2 (t 1)),Oo 4 (.new 34 4 [(iv 0),(iv 0),Ss,nl]),Mc 5 0] (Sr [Oo 10 (.build [(iv 0),(iv 0),Ss,nl] []),Oo 11 (.box 191 4 (t 10)),Mv 6 11] (.seq (Sd [Oo 12 (.load true 3 (t 2)),Oo 13 (.load true 2 (t 3)),Cl 14 100 [],Cl 15 135 [(t 12),(t 13),(t 14)],Oo 16 (.len false (t 15)),Mc 17 0] (.block 0 (.loop (Sr [Bn 18 .lss 17 16] (.seq (Cd 18 .skip (.exit 0)) (.seq (.block 1 (Sr [Mv 19 17,Oo 20 (.ia 4 (t 15) (t 17)),Oo 21 (.load true 4 (t 20)),Oo 8 (.new 195 4 [(iv 0),(iv 0),(iv 0),Ss]),Mv 7 19,⟨none,none,(.store 4 (t 8) (t 21))⟩] (.seq (Sd [Fa 22 0 8,Ld 23 22,Cl 24 136 [],Bn 25 .gtr 23 24] (Cd 25 (.exit 0) .skip)) (.seq (Sr [Fa 26 1 8,Oo 27 (.load true 3 (t 26)),Cl 28 99 [(t 27)],Mv 9 28] (Sr [Mv 29 9,Bc 30 .neq 29 0] (Cd 30 (Sr [Oo 31 (.build [(iv 0),(iv 0),Ss,nl] []),Mv 32 9,⟨none,none,(.store 4 (t 4) (t 31))⟩,Mv 5 32] .ret) .skip))) (.block 2 (Sr [Mv 34 7,Bc 35 .eql 34 0,Mv 33 35] (Cd 33 (.reg [Mv 36 6,Fa 37 1 8,Oo 38 (.load true 3 (t 37)),Nk 39 36,Fa 40 0 39,Fa 41 0 40,⟨none,none,(.store 3 (t 41) (t 38))⟩]) (.seq (.orPan (.drw [Fa 43 1 8,Oo 44 (.loadR true 3 (t 43)),Mv 45 6] [true,false,false] [Cl 46 137 [(t 45)],Oo 47 (.eqs true [.int,.int,.str] (t 44) (t 46)),Mv 42 47]) (t 45) 137 [Fa 43 1 8,Oo 44 (.load true 3 (t 43)),Mv 45 6,Mv 46 45,Mb 47 false,Mb 42 false] 46) (Cd 42 (.drw [Mv 48 6,Mv 49 6,Nk 50 49,Fa 51 0 50,Fa 52 3 51,Ld 53 52,Fa 54 0 8,Ld 55 54,Fa 56 1 8,Oo 57 (.load true 3 (t 56)),Oo 58 (.build [(iv 0),(iv 0),(iv 0),Ss] [(0,(1,(t 55))),(1,(3,(t 57)))]),Oo 59 (.lit 104 4 1 [(iv 0),(iv 0),(iv 0),Ss] [(0,(4,(t 58)))])] [false,false,false,false,false] [Oo 60 (.app 104 4 40 (t 53) (t 59)),Nk 61 48,Fa 62 0 61,Fa 63 3 62,Sc 63 60]) .skip))))))))) (.reg [Bc 64 .add 17 1,Mv 17 64]))))))) (.seq (Sr [Mv 65 6,Nk 66 65,Fa 67 0 66,Fa 68 3 67,Ld 69 68,Oo 70 (.len false (t 69)),Bc 71 .gtr 70 1000] (Cd 71 (Sr [Oo 72 (.build [(iv 0),(iv 0),Ss,nl] []),⟨none,none,(.store 4 (t 4) (t 72))⟩,Mc 5 2] .ret) .skip)) (Sr [Mv 73 6,Nk 74 73,Fa 75 0 74,Oo 76 (.load true 4 (t 75)),⟨none,none,(.store 4 (t 4) (t 76))⟩,Mc 5 0] .ret)))))
def k91:ZbT Tryz.prog 91=some ⟨c91,[(.cell 4 true 4),(.tmp 5)],77⟩:=by kernel_rfl
def last_eq : ∀ (F:Loc) (l:List Chg),ZeQ F l=lastL F l
 | F,[]=>rfl
 | F,c::l=>by
  rw[Zjr (l:=c::l) (by simp)]
  unfold ZeQ
  rw[List.getLast?_eq_getElem?,List.getElem?_eq_getElem (by simp)]
  rfl
def Zv1 {ps:List Chg}{i:Nat}(hi:i<ps.length) (h1 : ∀ c∈ps.take i,c.1<=tMax) (h2:ps[i].1<=tMax) (h3:Zb3 (ps.take i)=0) (h4:locE ps[i].2≠0):Zb3 (inP ps)=locE ps[i].2:=by
 have e:inP ps=(ps.take i++[ps[i]])++inP (ps.drop (i+1)):=by
  conv=>lhs;rw[<-List.take_append_drop i ps]
  unfold inP
  rw[List.takeWhile_append_of_pos (λc hc=>by have:=h1 c hc;simpa using this),List.drop_eq_getElem_cons hi,List.takeWhile_cons,if_pos (by simpa using h2),List.append_assoc]
  rfl
 have h5:=ZgO (c:=ps[i]) h3
 rw[e,Zjo (by rw[h5];exact h4),h5]
def mlast_o {F:Loc}{l:List Chg}{id q v0 ver ty ty2:Nat}(h1:h[id]?=some (.mk v0 ty 4 [iv F.1,iv F.2.1,sv F.2.2,.own q ver l.length])) (h2:h[q]?=some (.mk ver ty2 4 (rows chgC l))) (hl:l.length<=9223372036854775807) :
  Ac 137 [.ptr id v0 0] h (.agg [iv (ZeQ F l).1,iv (ZeQ F l).2.1,sv (ZeQ F l).2.2]):=by
 have hid:id<h.length:=(List.getElem?_eq_some_iff.1 h1).1
 rw[last_eq]
 refine tI' k137 λN hn _ _ hbd=>?_
 simp only[tb'] at hbd ⊢
 refine wr'<|E' (ZaR hl0 ha0) pt<|sn'<|Zab<|wm<|Vw (Zcj lk)<|fq<|fq<|Vw (Zaa lk (Zdj h1) gt3)<|Vw (Zcy lk)<|?_
 refine ms<|wm<|Vw (Zbr lk lki)<|sn'<|?_
 refine cd' lk (λhc1=>?_) (λhc1=>?_)
 .have hl0:0<l.length:=by omega
  refine wm<|Vw (Zcj lk)<|fq<|fq<|Vw (Zaa lk (Zdj h1) gt3)<|mw<|?_
  refine V' (Za2 lk lki om om) pt ?_
  refine V' (ZaW (k:=l.length-1) lk lk (Zdj h2) ZaT nb ro om (by first | rfl | (simp;done) | omega)) pt ?_
  refine V' (Zbu lk) pt ?_
  refine V' (ZoE lk (Zdj h2) ZaT om nb ZeA rfl) pt ?_
  refine E' (Zai lk cv gx rfl nb rfl ZhQ hs0) ptn<|sr<|Zah<|Zae (rs1 (rr_c gt gx (ld1 ZfU rfl)))<|rT'<|?_
  rw[Zjr hl0]
 have hl0:l=[]:=List.eq_nil_of_length_eq_zero om
 refine za<|wm<|Vw (Zcj lk)<|fq<|fq<|Vw (Zad lk (Zdj h1) ZfU rfl)<|E' (Zai lk cv gx rfl nb rfl ZhQ hs0) ptn<|sr<|Zae (rs1 (rr_c gt gx (ld1 ZfU rfl)))<|?_
 refine rT' ?_
 subst hl0;rfl
def mlast_r {F:Loc}{l:List Chg}{id q v0 ver ty ty2:Nat}(h1:h[id]?=some (.mk v0 ty 4 [iv F.1,iv F.2.1,sv F.2.2,.own q ver l.length])) (h2:h[q]?=some (.mk ver ty2 4 (rows chgC l))) (hl:l.length<=9223372036854775807) :
  ACalls Tryz.prog 137 [.ptr id v0 0] h λx h'=>x=.ret (.agg [iv (ZeQ F l).1,iv (ZeQ F l).2.1,sv (ZeQ F l).2.2])/\h'=h:=(mlast_o h1 h2 hl).mono λ_ _ e=>⟨e.2,e.1⟩
def Znx (fm lt:ByteArray) (sa:Int):(Zf3 fm lt sa).size<=2*fm.size+lt.size:=by
 unfold Zf3
 have h1:=ZiY (s:=fm) (p:=[47])
 have h2:=ZiY (s:=fm) (p:=[37,115])
 have e:(aB lt).length=lt.size:=rfl
 split
 .split <;> (rw[ZhK];omega)
 split
 .rw[ZhK,List.length_append,List.length_append,e];omega
 omega
def Znr {rl:List Rul}{f:Int} : ∀ (es:List Era) (prev:Option Int),(Za5 rl f prev es).length<=1001*es.length
 | [],_=>by simp[Za5]
 | [x],prev=>by
  have h1:=ZgT (x:=x) (b:=ZbH prev f) (ZaL rl x)
  have h2:=ZcL (rl:=rl) (x:=x)
  rw[Za5,List.length_singleton];omega
 | x::y::es,prev=>by
  have h1:=ZgT (x:=x) (b:=ZbH prev f) (ZaL rl x)
  have h2:=ZcL (rl:=rl) (x:=x)
  have h3:=ZrK (eraG x (ZbH prev f) (ZaL rl x)) (endV x)
  have h4:=Znr (rl:=rl) (f:=f) (y::es) (some (endV x))
  rw[Za5,List.length_append,List.length_cons]
  split
  .rw[List.length_nil];omega
  omega
def Zpz {rl:List Rul}{x:Era}{b:Int}(hx:Zb4 (xFm x)=true) : ∀ c∈eraG x b (ZaL rl x),c.2.2.2.size<=72:=by
 have hf:=Zgr hx
 intro c hc
 rcases List.mem_cons.1 hc with rfl | hc
 .have key : ∀ (l:List Tim) (sa:Int) (lt:ByteArray),(∀ t∈l,t.2.2.size<=24)->lt.size<=24->(ZcS sa lt l b).2.size<=24:=by
   intro l
   induction l with
   | nil=>intro _ _ _ h;exact h
   | cons t l ih =>
    intro sa lt hl h
    rw[ZcS]
    split
    .exact ih _ _ (λu hu=>hl u (by simp[hu])) (hl t (by simp))
    exact ih _ _ (λu hu=>hl u (by simp[hu])) h
  have:=key (ZaL rl x) (xSv x) ⟨#[]⟩ (λt ht=>(ZfF ht).2.2) (by decide)
  have h2:=Znx (xFm x) (ZcS (xSv x) ⟨#[]⟩ (ZaL rl x) b).2 (ZcS (xSv x) ⟨#[]⟩ (ZaL rl x) b).1
  show (Zf3 _ _ _).size<=72
  omega
 obtain⟨t,ht,rfl⟩:=List.mem_map.1 hc
 have h3:=(ZfF (List.mem_filter.1 ht).1).2.2
 have h2:=Znx (xFm x) t.2.2 t.2.1
 show (Zf3 _ _ _).size<=72
 omega
def ZqY {rl:List Rul}{f:Int} : ∀ {es:List Era}{prev:Option Int},(∀ x∈es,Zb4 (xFm x)=true) -> ∀ c∈Za5 rl f prev es,c.2.2.2.size<=72
 | [],_,_,c,h=>by cases h
 | [x],prev,hx,c,h=>Zpz (hx x (by simp)) c h
 | x::y::es,prev,hx,c,h=>by
  rw[Za5] at h
  rcases List.mem_append.1 h with h | h
  .split at h
   .cases h
   exact Zpz (hx x (by simp)) c ((List.takeWhile_sublist _).subset h)
  exact ZqY (λz hz=>hx z (by simp[hz])) c h
def ofP (a:List Rul) (es:List Era):Tab×Int:=tabR (stV (inP (Za5 a tMin none es)))
def Zgz {e:AV}:Wk (.tup [.agg [.v (.int .i64 0),.v (.int .i64 0),.v (.string ⟨#[]⟩),.sl 0 0 true []],e]) (.tup [tabA Zdr,e]):=Wk.tup (wkw (Wk.agg (wk1 rfl (wk1 rfl (wk1 rfl (wkw Wk.nilF wk0))))) (wk1 rfl wk0))
def tof_a {a:List Rul}{z:List Zon}{k:List Lnk}{nm:ByteArray}{es:List Era}(hok:okRs a) (ha:a.length<=9223372036854775807) (hz:okZ es) (hne:inP (Za5 a tMin none es)≠[]) :
  Ac 91 [.agg (srcB a z k),.agg [sv nm,.sl es.length 10 false (rows eraC es)]] h (.tup [tabA (ofP a es).1,iv (ofP a es).2]):=by
 have hlen:=hz.len
 have hpl:=Znr (rl:=a) (f:=tMin) es none
 have hps:=ZqY (rl:=a) (f:=tMin) (prev:=none) (es:=es) (λx hx=>(hz.fm x hx).1)
 have hO:ofP a es=_:=tabR_st (.inr hne)
 have hparts : ∀ h:AH,ACalls Tryz.prog 135 [.agg (srcB a z k),.agg [sv nm,.sl es.length 10 false (rows eraC es)],iv tMin] h λy h'=>h'=h/\y=.ret (.sl (Za5 a tMin none es).length 4 false (rows chgC (Za5 a tMin none es))):=λh=>parts_a hok ha hz (by decide)
 generalize Za5 a tMin none es=ps at hpl hps hne hO hparts
 refine tW' k91 λN hn hlt _ hbd=>?_
 simp only[tb'] at hbd ⊢
 refine wr'<|E' (ZaM cv rfl hl0 ha0) pt<|E' (ZaM cv rfl hl1 ha1) pt<|E' (ZaR hl2 ha2) pt<|ms<|wr'<|Vw (Zat Zxs)<|E' (ZaM cv rfl hl3 ha3) pt<|mw<|Zam<|?_
 refine Zan<|Zab<|Zab<|ZaD<|Dw (Zad lk gx ZfU rfl)<|Dw (Zad lk gx Zs2 rfl)<|?_
 refine ZaB mp0 (λhE hX=>Zpg) pt ?_
 refine ZaB mp (λhE hX=>hparts _) pt ?_
 refine Dw (Zaz lk)<|Dw (v_mv lki)<|ZaH<|?_
 refine ZaU ?_
 refine Zam ?_
 refine ZaN (ALe.own0Cell (st':=4) (ty:=104) gx gt3 hl4 pt3 (Eq.trans (congrArg (λz=>List.set z _ _) ha4) hs3)) ?_
 refine Zag ?_
 refine w_lp (ι:=Nat×Nat) (λ⟨i,v⟩=>[(17,iv (i:Int)),(5,.any)]++rn' 7 3++rn' 18 47) (λ⟨i,v⟩=>[(3,.mk 0 191 4 [iv (stV (ps.take i)).1.1,iv (stV (ps.take i)).1.2.1,sv (stV (ps.take i)).1.2.2,.own (N+4) v (stV (ps.take i)).2.length]),(4,.mk v 104 4 (rows chgC (stV (ps.take i)).2))]) (λ⟨i,v⟩=>i<=ps.length/\(∀ c∈ps.take i,c.1<=tMax)/\Zb3 (ps.take i)=0) (λ⟨i,v⟩=>ps.length-i) (⟨0,0⟩) (by exact⟨Nat.zero_le _,⟨λc hc=>(by cases hc),rfl⟩⟩) ?_
 rintro⟨i,v⟩ hi1
 try simp only[sm',Nat.reduceAdd]
 obtain⟨hi1,hi2,hi3⟩:=hi1
 refine wr'<|Vw (ZaJ lk lk)<|sn'<|Zab<|?_
 refine cd' lk (λhc1=>?_) (λhc1=>?_)
 .have hi:i<ps.length:=by omega
  have hsz:=hps _ (List.getElem_mem hi)
  have hsl:=ZuG (ps.take i)
  rw[List.length_take] at hsl
  have htk:=List.take_succ_eq_append_getElem hi
  refine za<|Zab<|Zag<|wm<|?_
  refine V' (ZaE lk lk ZaT nb ro om ro rfl) pt ?_
  refine Vw (Zar lk Zob rfl)<|E' (ZaR hl5 ha5) pt<|mw<|E' (Zai lk cv gx rfl nb rfl ZdM hs5) ptn<|sn'<|Zab<|Zab<|ZaD<|dg<|Dw (Zaa lk gx gt0)<|?_
  refine ZaB mp0 (λhE hX=>most_a) pt ?_
  refine Dw (Zbr lk lk)<|ZaH<|?_
  refine ZaU ?_
  refine sn' ?_
  refine cd' lk (λhc2=>?_) (λhc2=>?_)
  .have hP:inP ps=ps.take i:=Zrs hi2 (λhh=>by simp only[tMax];omega)
   refine Zax<|Zas<|x_pas (Nat.ne_of_beq_eq_false rfl)<|Zas<|Zas<|ZaK<|Zan<|Zab<|wm<|Vw (Zcj lk)<|fq<|fq<|?_
   refine Vw (Zaa lk gx gt3)<|Vw (Zcy lk)<|Vw (Zbr lk lki)<|sn'<|?_
   refine cd' lk (λhc6=>?_) (λhc6=>?_)
   .rw[hP,hi3,if_neg (by simp),if_pos om] at hO
    refine wr'<|Vw (Zat Zlv)<|E' (Zai lk cv gx rfl nb rfl ZdM hs2) ptn<|mr<|Zah<|Zae (rsn (rm1 (rr_c gt gx (ld1 Zc7 rfl)) (rm1 (rr_t gt) rm0)))<|rtW'<|?_
    rw[hO];exact Zgz
   rw[hP,hi3,if_neg (by simp),if_neg om] at hO
   refine Zay ?_
   refine ZaN (ALe.iceCellR (hga hn rfl) (hga hn rfl) om gt3 (List.take_of_length_le (by rw[Za1];exact Nat.le_refl _)) (by rw[Za1];exact Nat.le_refl _) pt3 hs4 hs3) ?_
   refine wm<|Vw (Zcj lk)<|fq<|Vw (Zad lk gx Zc7 rfl)<|E' (Zai lk cv gx rfl nb rfl ZdM hs2) ptn<|mr<|Zae (rsn (rm1 (rr_c gt gx (ld1 Zc7 rfl)) (rm1 (rr_t gt) rm0)))<|rtW'<|?_
   rw[hO];exact Wk.tup (wkw (Wk.agg (wk1 rfl (wk1 rfl (wk1 rfl (wkw Wk.full wk0))))) (wk1 rfl wk0))
  refine za<|Zab<|wr'<|fq<|Vw (Zad lk gx ZeA rfl)<|?_
  refine Zac mp (Zpe (by simp only[maxLen];omega)) pt ?_
  refine ms<|wm<|Vw (ZaY lk lki)<|sn'<|?_
  refine cd' lk (λhc3=>?_) (λhc3=>?_)
  .have hlE:locE ps[i].2≠0:=hc3
   have hE:=Zv1 hi hi2 (by simp only[tMax];omega) hi3 hlE
   rw[hE,if_pos hlE] at hO
   refine wr'<|Vw (Zat Zs7)<|mw<|E' (Zai lk cv gx rfl nb rfl ZdM hs2) ptn<|mr<|Zah<|Zap<|Zah<|Zah<|Zap<|?_
   refine Zah<|Zae (rsn (rm1 (rr_c gt gx (ld1 Zc7 rfl)) (rm1 (rr_t gt) rm0)))<|rtW'<|?_
   rw[hO];exact Zgz
  have hlE:locE ps[i].2=0:=Decidable.of_not_not hc3
  have hlE2:Zb3 (ps.take (i+1))=0:=by rw[htk,ZgO hi3];exact hlE
  have hle2 : ∀ c∈ps.take (i+1),c.1<=tMax:=λc hc=>by rw[htk] at hc;rcases List.mem_append.1 hc with hc | hc;exact hi2 c hc;simp only[List.mem_singleton] at hc;subst hc;simp only[tMax];omega
  refine za<|Zag<|wm<|Vw (Za0 lk lki)<|ms<|?_
  refine cd' lk (λhc4=>?_) (λhc4=>?_)
  .obtain rfl:i=0:=by omega
   have hS:stV (ps.take (0+1))=(ps[0].2,[]):=by rw[htk];rfl
   refine Zao<|mw<|fq<|Vw (Zad lk gx ZeA rfl)<|Vw (Zcj lk)<|fq<|fq<|E' (Zai lk cv gx rfl nb rfl ZhQ hs3) ptn<|Zam<|Zau<|Zau<|Zan<|Zao<|?_
   refine ad<|mw<|Zam<|Zaw<|?_
   refine lU' (⟨0+1,v⟩) (by (try dsimp only);exact⟨by omega,hle2,hlE2⟩) (by refine zz ?_;exact bk' 5 hn hlt (by rw[hS];rfl) (hT:=by simp[AV.lt,AV.ltL,Ent.lt]) (hE:=by simp[AV.lt,AV.ltL,Ent.lt]))
  have hnt:ps.take i≠[]:=List.ne_nil_of_length_pos (by rw[List.length_take];omega)
  have hS:=stV_snoc (c:=ps[i]) hnt
  rw[<-htk] at hS
  refine Zab<|w_orl<|Zuf [N+5]<|dg<|?_
  refine d_ldP lk gx (ld1 ZeA rfl) (by simp) pt ?_
  refine Dw vm<|ZaH<|Zph<|?_
  refine k_call mp (mlast_r (F:=(stV (ps.take i)).1) (l:=(stV (ps.take i)).2) gx gx om) (by intro i hi;simp only[cond_true,List.mem_cons,List.not_mem_nil,or_false] at hi;subst hi;first | rfl | exact (hga hn rfl).trans (hga hn rfl).symm) pt ?_
  refine k_val rfl (Zga lk lk Zp6) pt<|k_val rfl vm pt<|k_nil<|Zan<|?_
  refine cd' lk (λhc5=>?_) (λhc5=>?_)
  .have hne5:¬ps[i].2=ZeQ (stV (ps.take i)).1 (stV (ps.take i)).2:=λe=>hc5 (by rw[e];exact⟨rfl,rfl,rfl⟩)
   rw[if_neg hne5] at hS
   refine ZaD<|Dw vm<|Dw vm<|Dw (Zcj lk)<|dg<|dg<|Dw (Zaa lk gx gt3)<|dg<|Dw (Zaa lk gx gt0)<|dg<|Dw (Zad lk gx ZeA rfl)<|Dw (Zat (Zs6 cv rfl cv rfl))<|ZcI rfl rfl (hlk hn rfl) (ZeR (Zs5 cv rfl)) pt Zxr<|ZaH<|?_
   refine ZcH Zs4 ?_
   refine E' (Zby (Zbm lk gx rfl Zob nb) lk gx (Za1 _) om rfl hs4) pt ?_
   refine Vw (Zcj lk)<|fq<|fq<|E' (Zai lk cv gx rfl nb rfl Zs3 hs3) ptn<|Zam<|Zau<|Zau<|Zan<|Zao<|?_
   refine ad<|mw<|Zam<|Zaw<|?_
   refine lU' (⟨i+1,v+1⟩) (by (try dsimp only);exact⟨by omega,hle2,hlE2⟩) (by refine zz ?_;exact bk' 5 hn hlt (by rw[hS,List.length_append,ZaG,Zbw];rfl) (hT:=by simp[AV.lt,AV.ltL,Ent.lt]) (hE:=by simp[AV.lt,AV.ltL,Ent.lt]))
  have hne5:ps[i].2=ZeQ (stV (ps.take i)).1 (stV (ps.take i)).2:=by obtain⟨x1,x2,x3⟩:=Decidable.of_not_not hc5;exact Prod.ext x1 (Prod.ext x2 x3)
  rw[if_pos hne5,List.append_nil] at hS
  refine Zay<|Zau<|Zau<|Zan<|Zao<|?_
  refine ad<|mw<|Zam<|Zaw<|?_
  refine lU' (⟨i+1,v⟩) (by (try dsimp only);exact⟨by omega,hle2,hlE2⟩) (by refine zz ?_;exact bk' 5 hn hlt (by rw[hS];rfl) (hT:=by simp[AV.lt,AV.ltL,Ent.lt]) (hE:=by simp[AV.lt,AV.ltL,Ent.lt]))
 have hP:inP ps=ps.take i:=Zrs hi2 (λhh=>absurd hh om)
 have hsl:=ZuG (ps.take i)
 rw[List.length_take] at hsl
 refine Zax<|Zas<|Zas<|ZaK<|Zan<|Zab<|wm<|Vw (Zcj lk)<|fq<|fq<|Vw (Zaa lk gx gt3)<|Vw (Zcy lk)<|?_
 refine Vw (Zbr lk lki)<|sn'<|?_
 refine cd' lk (λhc6=>?_) (λhc6=>?_)
 .rw[hP,hi3,if_neg (by simp),if_pos om] at hO
  refine wr'<|Vw (Zat Zlv)<|E' (Zai lk cv gx rfl nb rfl ZdM hs2) ptn<|mr<|Zah<|Zae (rsn (rm1 (rr_c gt gx (ld1 Zc7 rfl)) (rm1 (rr_t gt) rm0)))<|rtW'<|?_
  rw[hO];exact Zgz
 rw[hP,hi3,if_neg (by simp),if_neg om] at hO
 refine Zay ?_
 refine ZaN (ALe.iceCellR (hga hn rfl) (hga hn rfl) om gt3 (List.take_of_length_le (by rw[Za1];exact Nat.le_refl _)) (by rw[Za1];exact Nat.le_refl _) pt3 hs4 hs3) ?_
 refine wm<|Vw (Zcj lk)<|fq<|Vw (Zad lk gx Zc7 rfl)<|E' (Zai lk cv gx rfl nb rfl ZdM hs2) ptn<|mr<|Zae (rsn (rm1 (rr_c gt gx (ld1 Zc7 rfl)) (rm1 (rr_t gt) rm0)))<|rtW'<|?_
 rw[hO];exact Wk.tup (wkw (Wk.agg (wk1 rfl (wk1 rfl (wk1 rfl (wkw Wk.full wk0))))) (wk1 rfl wk0))
end
section
open Go.Ab Go.RowKit Civ
attribute [local simp] ZbR Zcn Zb6 Zbq Zbl ZdX Zd4 tms_lt
section
def Zcd :((a0::a1::a2::l).drop 0).take 3=[a0,a1,a2]:=rfl
def ZsZ :((a0::a1::l).drop 0).take 2=[a0,a1]:=rfl
def Zez {c3:AV}:setCells (a0::a1::a2::a3::l) 0 [c0,c1,c2,c3]=c0::c1::c2::c3::l:=rfl
def ZjT {τ:Operand->AV}{y0:Operand}{x0_0:AV}(h0:Zaq (τ y0)=some [x0_0]) (l0:[x0_0].all leaf=true):Zal τ [(0,1,y0)] [(iv 0)]=some [x0_0]:=by
 simp only[Zal,h0,l0]
 rfl
def Zxq :(a0::l).take 1=[a0]:=rfl
def ZdJ :((a0::a1::a2::a3::l).drop 0).take 4=[a0,a1,a2,a3]:=rfl
def ZjS {τ:Operand->AV}{y0:Operand}{x0_0 x0_1 x0_2:AV}(h0:Zaq (τ y0)=some [x0_0,x0_1,x0_2]) (l0:[x0_0,x0_1,x0_2].all leaf=true):Zal τ [(0,3,y0)] [(iv 0),(iv 0),(.v (.string ⟨#[]⟩)),(.sl 0 0 true [])]=some [x0_0,x0_1,x0_2,(.sl 0 0 true [])]:=by
 simp only[Zal,h0,l0]
 rfl
def Zg8 { e:Ent}:([]:AH)++[e]=[e]:=rfl
def Zs1 :([e0,e1,e2,e3,e4]:AH)++[d0]=[e0,e1,e2,e3,e4,d0]:=rfl
def ZfS :setCells (a0::a1::a2::l) 0 [c0,c1,c2]=c0::c1::c2::l:=rfl
def Zs0 {e6 e7:Ent}:([e0,e1,e2,e3,e4,e5,e6,e7]:AH)++[d0]=[e0,e1,e2,e3,e4,e5,e6,e7,d0]:=rfl
def Zp5 {a0 b0:Int}{a1 b1:Int}{a2 b2:ByteArray}:Za7 [.int,.int,.str] [iv a0,iv a1,sv a2] [iv b0,iv b1,sv b2]=some (decide (a0=b0/\a1=b1/\a2=b2)):=by
 simp only[Za7,ZcY,if_true,ZbP,Option.some.injEq]
 simp only[Bool.decide_and,Bool.and_true]
 try (congr 1 <;> simp)
 try rfl
def Zfb {τ:Operand->AV}{y0 y1:Operand}{x0_0 x1_0 x1_1 x1_2:AV}(h0:Zaq (τ y0)=some [x0_0]) (l0:[x0_0].all leaf=true) (h1:Zaq (τ y1)=some [x1_0,x1_1,x1_2]) (l1:[x1_0,x1_1,x1_2].all leaf=true):Zal τ [(0,1,y0),(1,3,y1)] [(iv 0),(iv 0),(iv 0),(.v (.string ⟨#[]⟩))]=some [x0_0,x1_0,x1_1,x1_2]:=by
 simp only[Zal,h0,l0,h1,l1]
 rfl
def Zfa {τ:Operand->AV}{y0:Operand}{x0_0 x0_1 x0_2 x0_3:AV}(h0:Zaq (τ y0)=some [x0_0,x0_1,x0_2,x0_3]) (l0:[x0_0,x0_1,x0_2,x0_3].all leaf=true):Zal τ [(0,4,y0)] [(iv 0),(iv 0),(iv 0),(.v (.string ⟨#[]⟩))]=some [x0_0,x0_1,x0_2,x0_3]:=by
 simp only[Zal,h0,l0]
 rfl
def Zlt {e6 e7 e8:Ent}:([e0,e1,e2,e3,e4,e5,e6,e7,e8]:AH)++[d0]=[e0,e1,e2,e3,e4,e5,e6,e7,e8,d0]:=rfl
def Zn9 :(a0::a1::a2::a3::l).take 4=[a0,a1,a2,a3]:=rfl
def Zls :setCells (a0::a1::a2::a3::l) 3 [c0]=a0::a1::a2::c0::l:=rfl
def Ze9 {τ:Operand->AV}:Zal τ [] [(iv 0),(iv 0),(.v (.string ⟨#[]⟩)),(.sl 0 0 true [])]=some [(iv 0),(iv 0),(.v (.string ⟨#[]⟩)),(.sl 0 0 true [])]:=rfl
end
def c145:AC:=(Sr [Oo 2 (.box 89 3 (t 0)),Oo 3 (.box 139 2 (t 1)),Oo 4 (.new 34 4 [(iv 0),(iv 0),Ss,nl]),Mc 5 0] (Sr [Oo 17 (.load true 3 (t 2)),Oo 18 (.load true 2 (t 3)),Cl 19 224 [(t 17),(t 18)],Oo 6 (.new 278 4 [Ss,nl,nl,nl]),⟨none,none,(.store 4 (t 6) (t 19))⟩] (Sr [Oo 7 (.mv (.const (.slice none 0 0)))] (.seq (Sr [Mc 8 0] (.block 0 (.loop (.seq (Sr [Mv 20 8,Fa 21 3 6,Ld 22 21,Oo 23 (.len false (t 22)),Bn 24 .lss 20 23] (Cd 24 .skip (.exit 0))) (.seq (.block 1 (Sr [Mc 9 0] (.block 2 (.loop (.seq (Sr [Mv 27 9,Fa 28 3 6,Ld 29 28,Mv 30 8,Oo 31 (.ia 1 (t 29) (t 30)),Ld 32 31,Oo 33 (.len false (t 32)),Bn 34 .lss 27 33] (Cd 34 .skip (.exit 2))) (.seq (.block 3 (.reg [Mv 37 7,Fa 38 3 6,Ld 39 38,Mv 40 8,Oo 41 (.ia 1 (t 39) (t 40)),Ld 42 41,Mv 43 9,Oo 44 (.ia 3 (t 42) (t 43)),Fa 45 0 44,Ld 46 45,Oo 47 (.lit 3 1 1 [(iv 0)] [(0,(1,(t 46)))]),Oo 48 (.app 3 1 8 (t 37) (t 47)),Mv 7 48])) (.reg [Mv 35 9,Bc 36 .add 35 1,Mv 9 36]))))))) (.reg [Mv 25 8,Bc 26 .add 25 1,Mv 8 26])))))) (Sr [Mv 49 7,Fa 50 2 6,Ld 51 50,Oo 52 (.app 3 1 8 (t 49) (t 51)),Mv 7 52] (.seq (Sr [Mc 10 1] (.block 4 (.loop (.seq (Sr [Mv 53 10,Mv 54 7,Oo 55 (.len false (t 54)),Bn 56 .lss 53 55] (Cd 56 .skip (.exit 4))) (.seq (.block 5 (Sr [Mv 59 10,Mv 11 59] (.block 6 (.loop (.seq (Sd [Mv 60 11,Bc 61 .gtr 60 0,Mv 62 61,Ot 63 62 (mt 7),Ot 64 62 (mt 11),Ot 65 62 (.ia 1 (t 63) (t 64)),Ot 66 62 (.load false 1 (t 65)),Ot 67 62 (mt 7),Ot 68 62 (mt 11),Ot 69 62 (.bin .sub (t 68) (Ci 1)),Ot 70 62 (.ia 1 (t 67) (t 69)),Ot 71 62 (.load false 1 (t 70)),Ot 72 62 (.bin .lss (t 66) (t 71)),Oo 73 (.pick (t 62) (t 72) (.const (.bool false)))] (Cd 73 .skip (.exit 6))) (.seq (.block 7 (.drw [Mv 76 7,Mv 77 11,Mv 78 7,Mv 79 11,Bc 80 .sub 79 1,Mv 81 7,Mv 82 11,Bc 83 .sub 82 1,Oo 84 (.ia 1 (t 81) (t 83)),Ld 85 84,Mv 86 7,Mv 87 11,Oo 88 (.ia 1 (t 86) (t 87)),Ld 89 88,Oo 90 (.ia 1 (t 76) (t 77))] [false,false,false] [Sc 90 85,Oo 91 (.ia 1 (t 78) (t 80)),Sc 91 89])) (.reg [Mv 74 11,Bc 75 .sub 74 1,Mv 11 75]))))))) (.reg [Mv 57 10,Bc 58 .add 57 1,Mv 10 58])))))) (.seq (.drw [Oo 92 (.load true 4 (t 6)),Cl 93 82 [],Cl 94 225 [(t 92),(t 93)],Oo 95 (.build [(iv 0),(iv 0),Ss,nl] [(0,(3,(t 94)))]),Oo 12 (.new 34 4 [(iv 0),(iv 0),Ss,nl])] [false] [⟨none,none,(.store 4 (t 12) (t 95))⟩]) (Sr [Fa 96 0 12,Oo 97 (.load true 3 (t 96)),Oo 13 (.new 31 3 [(iv 0),(iv 0),Ss]),⟨none,none,(.store 3 (t 13) (t 97))⟩] (Sr [Oo 98 (.load true 3 (t 13)),Cl 99 80 [(t 98)],Mv 14 99] (.seq (Sr [Mc 15 0] (.block 8 (.loop (.seq (Sr [Mv 100 15,Mv 101 7,Oo 102 (.len false (t 101)),Bn 103 .lss 100 102] (Cd 103 .skip (.exit 8))) (.seq (.block 9 (.seq (Sd [Mv 106 7,Mv 107 15,Oo 108 (.ia 1 (t 106) (t 107)),Ld 109 108,Cl 110 82 [],Bn 111 .leq 109 110,Mv 112 111,Of 113 112 (mt 7),Of 114 112 (mt 15),Of 115 112 (.ia 1 (t 113) (t 114)),Of 116 112 (.load false 1 (t 115)),Of 117 112 (.call (.func 83) []),Of 118 112 (.bin .gtr (t 116) (t 117)),Oo 119 (.pick (t 112) (.const (.bool true)) (t 118))] (Cd 119 (.exit 9) .skip)) (.seq (.drw [Oo 120 (.load true 4 (t 6)),Mv 121 7,Mv 122 15,Oo 123 (.ia 1 (t 121) (t 122)),Ld 124 123,Cl 125 225 [(t 120),(t 124)],Oo 16 (.new 31 3 [(iv 0),(iv 0),Ss])] [false] [⟨none,none,(.store 3 (t 16) (t 125))⟩]) (.seq (Sr [Oo 126 (.load true 3 (t 16)),Oo 127 (.load true 3 (t 13)),Oo 128 (.eqs false [.int,.int,.str] (t 126) (t 127))] (Cd 128 (.exit 9) .skip)) (.seq (Sr [Mv 129 14,Bc 130 .eql 129 0] (Cd 130 (.reg [Oo 131 (.load true 3 (t 16)),Cl 132 80 [(t 131)],Mv 14 132]) .skip)) (.seq (.drw [Fa 133 3 12,Ld 134 133,Mv 135 7,Mv 136 15,Oo 137 (.ia 1 (t 135) (t 136)),Ld 138 137,Oo 139 (.load true 3 (t 16)),Oo 140 (.build [(iv 0),(iv 0),(iv 0),Ss] [(0,(1,(t 138))),(1,(3,(t 139)))]),Oo 141 (.lit 104 4 1 [(iv 0),(iv 0),(iv 0),Ss] [(0,(4,(t 140)))])] [false,false,false] [Oo 142 (.app 104 4 40 (t 134) (t 141)),Fa 143 3 12,Sc 143 142]) (.reg [Oo 144 (.load true 3 (t 16)),⟨none,none,(.store 3 (t 13) (t 144))⟩]))))))) (.reg [Mv 104 15,Bc 105 .add 104 1,Mv 15 105])))))) (.seq (Sr [Mv 145 14,Bc 146 .eql 145 0,Mv 147 146,Ot 148 147 (.fa 3 (t 12)),Ot 149 147 (.load false 1 (t 148)),Ot 150 147 (.len false (t 149)),Ot 151 147 (.bin .gtr (t 150) (Ci 1000)),Oo 152 (.pick (t 147) (t 151) (.const (.bool false)))] (Cd 152 (.reg [Mc 14 2]) .skip)) (.seq (Sr [Mv 153 14,Bc 154 .neq 153 0] (Cd 154 (Sr [Oo 155 (.build [(iv 0),(iv 0),Ss,nl] []),Mv 156 14,⟨none,none,(.store 4 (t 4) (t 155))⟩,Mv 5 156] .ret) .skip)) (Sr [Oo 157 (.load true 4 (t 12)),⟨none,none,(.store 4 (t 4) (t 157))⟩,Mc 5 0] .ret)))))))))))))
def k145:ZbT Tryz.prog 145=some ⟨c145,[(.cell 4 true 4),(.tmp 5)],158⟩:=by kernel_rfl
def ZrG {rl:List Rul}{x:Era}{b:Int}(hx:Zb4 (xFm x)=true):(Zf4 rl x b).2.2.size<=72 :=
 Zpz (rl:=rl) (b:=b) hx (b,Zf4 rl x b) List.mem_cons_self
def Zus {rl:List Rul}{n:Int} : ∀ {es:List Era},(∀ x∈es,Zb4 (xFm x)=true)->(Za9 rl es n).2.2.size<=72
 | [],_=>by show (0:Nat)<=72;omega
 | [x],h=>ZrG (h x (by simp))
 | x::y::es,h=>by
  rw[Za9]
  split
  .exact Zus λz hz=>h z (by simp[hz])
  exact ZrG (h x (by simp))
def ZoS (a:List Rul) (es:List Era):List Int:=es.flatMap λx=>(ZaL a x).map (·.1)
def Zm8 (a:List Rul) : ∀ es:List Era,(ZoS a es).length=cntV a es
 | []=>rfl
 | x::es=>by unfold ZoS;rw[List.flatMap_cons,List.length_append,List.length_map,cntV];exact congrArg _ (Zm8 a es)
def Zr8 (a:List Rul) (es:List Era) (x:Era):ZoS a (es++[x])=ZoS a es++(ZaL a x).map (·.1):=by
 unfold ZoS;rw[List.flatMap_append,List.flatMap_cons,List.flatMap_nil,List.append_nil]
def inT_no1 {x:Int}(h:x<=tMin):inT x=false:=decide_eq_false om
def inT_no2 {x:Int}(h:tMax<x):inT x=false:=decide_eq_false om
def inT_yes {x:Int}(h1:¬x<=tMin) (h2:¬tMax<x):inT x=true:=decide_eq_true om
def take1_pw {r:Int->Int->Prop}(l:List Int):(l.take 1).Pairwise r:=by cases l <;> simp
def leI_tot (a b:Int):a<=b\/b<=a:=by omega
def leI_tr (a b c:Int):a<=b->b<=c->a<=c:=by omega
def Zsb {a:List Rul}{z:List Zon}{k:List Lnk}{nm:ByteArray}{es:List Era}(hck : ∀ r∈a,∀ h,Ac 220 [.agg (rulC r)] h (iv (Zbv r))) (hok:okRs a) (ha:a.length<=9223372036854775807) (hz:okZ es) :
  Ac 145 [.agg (srcB a z k),.agg [sv nm,.sl es.length 10 false (rows eraC es)]] h (.tup [tabA (tabR (ZdR a es)).1,iv (tabR (ZdR a es)).2]):=by
 have hlen:=hz.len
 have hel:=Zde es
 have htsz : ∀ n,(Za9 a es n).2.2.size<=maxLen:=λn=>by have:=Zus (rl:=a) (n:=n) (es:=es) (λx hx=>(hz.fm x hx).1);simp only[maxLen];omega
 refine tW' k145 λN hn hlt _ hbd=>?_
 simp only[tb'] at hbd ⊢
 refine wr'<|E' (ZaM cv rfl hl0 ha0) pt<|E' (ZaM cv rfl hl1 ha1) pt<|E' (ZaR hl2 ha2) pt<|ms<|wr'<|Vw (Zad lk gx Zcd rfl)<|Vw (Zad lk gx ZsZ rfl)<|Zac mp (rtell_g hck hok ha hz) pt<|E' (ZaR hl3 ha3) pt<|?_
 refine E' (Zai lk6 (cvl lk19 rfl) gx rfl nb rfl Zez hs3) ptn<|sn'<|wr'<|mv' lkn pt7<|Zam<|ZaN (ALe.own0' (st':=1) (ty:=3) gt7 hl4 pt7 ha4)<|Zab<|wr'<|mv' lki pt8<|sn'<|?_
 refine Zag ?_
 refine w_lp (ι:=Nat×List Int×Nat) (λ⟨kk,L,v⟩=>[(7,.own (N+4) v L.length),(8,iv (kk:Int)),(9,.any)]++rn' 20 29) (λ⟨kk,L,v⟩=>[(4,.mk v 3 1 (rows intC L))]) (λ⟨kk,L,v⟩=>kk<=es.length/\L=ZoS a (es.take kk)) (λ⟨kk,L,v⟩=>es.length-kk) (⟨0,[],0⟩) (by exact⟨Nat.zero_le _,rfl⟩) ?_
 rintro⟨kk,L,v⟩ hi1
 try simp only[sm',Nat.reduceAdd]
 obtain⟨hk1,hk2⟩:=hi1
 have hL1:=Zm8 a (es.take kk)
 have hL2:=ZpG a (es.take kk)
 rw[List.length_take] at hL2
 rw[<-hk2] at hL1
 refine Zab<|wm<|fq<|Vw (Zaa lk gx gt3)<|Vw (Zaz lk)<|Vw (ZaJ lk lk)<|sn'<|?_
 refine cd' lk (λhc1=>?_) (λhc1=>?_)
 .have hk:kk<es.length:=by omega
  have htl:=ZcL (rl:=a) (x:=es[kk])
  refine za<|Zab<|Zag<|wk'<|Zag<|?_
  refine w_lp (ι:=Nat×List Int×Nat) (λ⟨j,M,w⟩=>[(7,.own (N+4) w M.length),(9,iv (j:Int))]++rn' 27 22) (λ⟨j,M,w⟩=>[(4,.mk w 3 1 (rows intC M))]) (λ⟨j,M,w⟩=>j<=(ZaL a es[kk]).length/\M=L++((ZaL a es[kk]).take j).map (·.1)) (λ⟨j,M,w⟩=>(ZaL a es[kk]).length-j) (⟨0,L,v⟩) (by exact⟨Nat.zero_le _,by simp⟩) ?_
  rintro⟨j,M,w⟩ hi2
  try simp only[sm',Nat.reduceAdd]
  obtain⟨hj1,hj2⟩:=hi2
  have hM1:M.length=L.length+j:=by rw[hj2,List.length_append,List.length_map,List.length_take];omega
  refine Zab<|wm<|fq<|Vw (Zaa lk gx gt3)<|mw<|?_
  refine V' (ZaE lk lk ZeH nb ro om ro rfl) pt ?_
  refine Vw (Zav lk gt)<|Vw (Zaz lk)<|Vw (ZaJ lk lk)<|sn'<|?_
  refine cd' lk (λhc2=>?_) (λhc2=>?_)
  .have hj:j<(ZaL a es[kk]).length:=by omega
   refine za<|Zab<|Zag<|Zao<|mw<|fq<|Vw (Zaa lk gx gt3)<|mw<|?_
   refine V' (ZaE lk lk ZeH nb ro om ro rfl) pt ?_
   refine Vw (Zav lk gt)<|mw<|?_
   refine V' (ZaE lk lk ZdA nb ro om ro rfl) pt ?_
   refine Vw (ZaZ lk dp0)<|Vw (Zav lk gt)<|E' (ZcB (ZjT cv rfl) hl5 ha5) pt<|?_
   refine E' (Zby (Zbm lk gx rfl Zxq nb) lk gx (Zel _) om rfl hs4) pt ?_
   refine mw<|Zam<|Zau<|Zan<|Zao<|mw<|?_
   refine ad<|mw<|Zam<|Zaw<|?_
   refine lU' (⟨j+1,M++[(ZaL a es[kk])[j].1],w+1⟩) (by (try dsimp only);exact⟨by omega,by rw[List.take_succ_eq_append_getElem hj,List.map_append,<-List.append_assoc,<-hj2];rfl⟩) (by refine zz ?_;exact bkE' 5 hn hlt (by repeat (first | exact wk0 | refine wka ?_ | refine wk1 rfl ?_ | refine wk1 (by first | rfl | exact ivx om | (rw[List.length_append];rfl)) ?_)) (by rw[ZaG,Zbw];rfl) (hT:=by simp[AV.lt,AV.ltL,Ent.lt]) (hE:=by simp[AV.lt,AV.ltL,Ent.lt]))
  refine Zax<|Zas<|Zas<|ZaK<|Zau<|Zan<|Zao<|mw<|?_
  refine ad<|mw<|Zam<|Zaw<|?_
  refine lT' (⟨kk+1,M,w⟩) (by (try dsimp only);exact⟨by omega,by rw[hj2,List.take_of_length_le (show (ZaL a es[kk]).length<=j by omega),List.take_succ_eq_append_getElem hk,Zr8,<-hk2]⟩)
 have hL3:L=ZoS a es:=by rw[hk2,List.take_of_length_le om]
 refine Zax<|Zas<|Zas<|ZaK<|Zan<|wm<|fq<|Vw (Zaa lk gx gt2)<|?_
 refine E' (Zby (Zgj lk (Zel _)) lk gx (Zel _) om (int_leaf _) hs4) pt ?_
 refine ms<|Zab<|wk'<|Zag<|?_
 refine Zd1 (ι:=Nat×List Int×Nat) (λ⟨i,M,w⟩=>[(7,.own (N+4) w M.length),(10,iv (i:Int)),(11,.any)]++rn' 53 39) (λ⟨i,M,w⟩=>[(4,.mk w 3 1 (rows intC M))]) (λ⟨i,M,w⟩=>1<=i/\M.Perm (Zd5 a es)/\(M.take i).Pairwise (· <= ·)) (λ⟨i,M,w⟩=>(Zd5 a es).length+1-i) (⟨1,L++ZaO es,v+1⟩) (by exact⟨Nat.le_refl _,(by rw[hL3];exact List.Perm.refl _),take1_pw _⟩) (by try simp only[sm',Nat.reduceAdd];exact ALe.same (by repeat (first | exact wk0 | refine wka ?_ | refine wk1 rfl ?_ | refine wk1 (by first | rfl | exact ivx om | (rw[List.length_append])) ?_)) (by first | (rw[ZaG];done) | (rw[ZaG];rfl))) ?_
 rintro⟨i,M,w⟩ hi3
 try simp only[sm',Nat.reduceAdd]
 obtain⟨hm1,hm2,hm3⟩:=hi3
 have hML:=hm2.length_eq
 have hsl:=ZuJ a es
 have hcl:=ZpG a es
 refine Zab<|wm<|mw<|Vw (Zcy lk)<|Vw (ZaJ lk lk)<|sn'<|?_
 refine cd' lk (λhc3=>?_) (λhc3=>?_)
 .have hi:i<M.length:=by omega
  refine za<|Zab<|Zag<|wm<|ms<|Zag<|?_
  refine w_lp (ι:=Nat×List Int) (λ⟨q,K⟩=>[(7,.own (N+4) w K.length),(11,iv (q:Int))]++rn' 60 32) (λ⟨q,K⟩=>[(4,.mk w 3 1 (rows intC K))]) (λ⟨q,K⟩=>q<=i/\K.Perm M/\insR (· <= ·) i q K) (λ⟨q,K⟩=>q) (⟨i,M⟩) (by exact⟨Nat.le_refl _,List.Perm.refl _,ZhA hi hm3⟩) ?_
  rintro⟨q,K⟩ hi4
  try simp only[sm',Nat.reduceAdd]
  obtain⟨hq1,hq2,hq3⟩:=hi4
  have hKL:=hq2.length_eq
  refine Zab<|Zab<|ZaD<|Dw vm<|Dw (Zbr lk lki)<|Dw vm<|?_
  refine dq' (t:=62) gt pt pt (λhg62=>?_) (λhg62=>?_)
  .obtain⟨j,rfl⟩ : ∃ j,q=j+1:=⟨q-1,by omega⟩
   have hz3:j+1<K.length:=by omega
   refine dO<|Dw vm<|dO<|Dw vm<|dO<|?_
   refine D' (ZaW (k:=j+1) lk lk gx Za4 nb ro om (by first | rfl | (simp;done) | omega)) pt ?_
   refine d_do gt ?_
   refine D' (ZeF lk gx Za4 om rfl) pt ?_
   refine dO<|Dw vm<|dO<|Dw vm<|dO<|?_
   refine D' (Za2 lk lki om om) pt ?_
   refine d_do gt ?_
   refine D' (ZaW (k:=j) lk lk gx Za4 nb ro om (by first | rfl | (simp;done) | omega)) pt ?_
   refine d_do gt ?_
   refine D' (ZeF lk gx Za4 om rfl) pt ?_
   refine dO<|Dw (ZaJ lk lk)<|Dw (Zaj lk lk)<|ZaH<|?_
   refine ZaU ?_
   refine sn' ?_
   refine cd' lk (λhc4=>?_) (λhc4=>?_)
   .have hz6:¬K[j]<=K[j+1]:=by omega
    obtain⟨hz4,hz5⟩:=Zjt leI_tot hq3 hz3 hz6
    refine za<|Zab<|Zag<|ZaD<|Dw vm<|Dw vm<|Dw vm<|Dw vm<|?_
    refine D' (Za2 lk lki om om) pt ?_
    refine Dw vm<|Dw vm<|?_
    refine D' (Za2 lk lki om om) pt ?_
    refine D' (ZaW (k:=j) lk lk gx Za4 nb ro om (by first | rfl | (simp;done) | omega)) pt ?_
    refine D' (ZeF lk gx Za4 om rfl) pt ?_
    refine Dw vm<|Dw vm<|?_
    refine D' (ZaW (k:=j+1) lk lk gx Za4 nb ro om (by first | rfl | (simp;done) | omega)) pt ?_
    refine D' (ZeF lk gx Za4 om rfl) pt ?_
    refine D' (ZaW (k:=j+1) lk lk gx Za4 nb ro om (by first | rfl | (simp;done) | omega)) pt ?_
    refine ZaH ?_
    refine ZaU ?_
    refine E' (ZgV (z:=K[j]) lk cv gx Za4 rfl om hs4) ptn ?_
    refine V' (ZaW (k:=j) lk lk gx Za4 nb (by first | rfl | first | omega | (rw[List.length_set];omega)) (by first | omega | (rw[List.length_set];omega)) (by first | rfl | (simp;done) | first | omega | (rw[List.length_set];omega))) pt ?_
    refine E' (ZgV (z:=K[j+1]) lk cv gx Za4 rfl (by first | omega | (rw[List.length_set];omega)) hs4) ptn ?_
    refine Zam<|Zau<|Zan<|Zao<|mw<|?_
    refine V' (Za2 lk lki om om) pt ?_
    refine mw<|Zam<|Zaw<|?_
    refine lU' (⟨j,(K.set (j+1) K[j]).set j K[j+1]⟩) (by (try dsimp only);exact⟨by omega,hz5.trans hq2,hz4⟩) (by refine zz ?_;exact ALe.same (by repeat (first | exact wk0 | refine wka ?_ | refine wk1 rfl ?_ | refine wk1 (by first | rfl | exact ivx om | (simp;done)) ?_)) rfl)
   have hz7:K[j]<=K[j+1]:=by omega
   have hz6:=Zhy leI_tr hq3 hz3 hz7
   refine Zax<|Zas<|Zas<|ZaK<|Zau<|Zan<|Zao<|mw<|?_
   refine ad<|mw<|Zam<|Zaw<|?_
   refine lT' (⟨i+1,K,w⟩) (by (try dsimp only);exact⟨by omega,hq2.trans hm2,hz6⟩)
  obtain rfl:q=0:=by omega
  have hz6:=Zhz hq3
  refine dn<|dn<|dn<|dn<|dn<|dn<|dn<|dn<|dn<|dn<|Dw (Zak lk lkb)<|ZaH<|?_
  refine ZaU ?_
  refine sn'<|ZaV lk<|Zax<|Zas<|Zas<|ZaK<|Zau<|Zan<|Zao<|mw<|?_
  refine ad<|mw<|Zam<|Zaw<|?_
  refine lT' (⟨i+1,K,w⟩) (by (try dsimp only);exact⟨by omega,hq2.trans hm2,hz6⟩)
 rw[List.take_of_length_le om] at hm3
 have hTab:=Zve (rl:=a) (es:=es) hm2 hm3
 have hTR:=ZuA (Zfc (Za9 a es) M)
 rw[hTab] at hTR
 have hT1:(ZdR a es).1=Za9 a es tMin:=by rw[<-hTab];rfl
 have hT2:(ZdR a es).2=chgs (Za9 a es) M:=by rw[<-hTab];rfl
 rw[hT1,hT2] at hTR
 refine Zax<|Zas<|Zas<|ZaK<|Zan<|Zab<|ZaD<|Dw (Zad lk gx ZdJ rfl)<|?_
 refine ZaB mp0 (λhE hX=>Zhn) pt ?_
 refine ZaB mp (λhE hX=>Zu4 hz) pt ?_
 refine Dw (Zat (ZjS cv rfl))<|ZcI rfl rfl (hlk hn rfl) (Zix) pt Zg8<|ZaH<|?_
 refine ZcH Zs1 ?_
 refine E' (Zai lk cv gx rfl nb rfl Zez hs5) ptn<|sn'<|wr'<|fq<|Vw (Zad lk gx Zcd rfl)<|E' (ZaR hl6 ha6) pt<|E' (Zai lk cv gx rfl nb rfl ZfS hs6) ptn<|sn'<|wr'<|Vw (Zad lk gx Zcd rfl)<|?_
 refine Zac mp (ZcW (htsz _)) pt<|ms<|Zab<|wm<|Zam<|?_
 refine ZaN (ALe.own0Cell (st':=4) (ty:=104) gx gt3 hl7 pt3 (Eq.trans (congrArg (λz=>List.set z _ _) ha7) hs5)) ?_
 refine Zag ?_
 refine Zd1 (ι:=Nat×Nat) (λ⟨i5,v5⟩=>[(14,iv (rbad (Za9 a es tMin) (chgs (Za9 a es) (M.take i5)))),(15,iv (i5:Int)),(16,.any)]++rn' 100 45) (λ⟨i5,v5⟩=>[(5,.mk 0 34 4 [iv (Za9 a es tMin).1,iv (Za9 a es tMin).2.1,sv (Za9 a es tMin).2.2,.own (N+7) v5 (chgs (Za9 a es) (M.take i5)).length]),(6,.mk 0 31 3 (locC3 (ZeQ (Za9 a es tMin) (chgs (Za9 a es) (M.take i5))))),(7,.mk v5 104 4 (rows chgC (chgs (Za9 a es) (M.take i5))))]) (λ⟨i5,v5⟩=>i5<=M.length) (λ⟨i5,v5⟩=>M.length-i5) (⟨0,0⟩) (by exact Nat.zero_le _) (by try simp only[sm',Nat.reduceAdd];exact ALe.same (by repeat (first | exact wk0 | refine wka ?_ | refine wk1 rfl ?_ | refine wk1 (by first | rfl | exact ivx (ZqP _).symm | exact ivx (by rw[List.take_zero,chgs_nil,ZqP])) ?_)) rfl) ?_
 rintro⟨i5,v5⟩ hi5
 try simp only[sm',Nat.reduceAdd]
 replace hi5:i5<=M.length:=hi5
 have hcL:=chgs_len (g:=Za9 a es) (M.take i5)
 rw[List.length_take] at hcL
 refine Zab<|wm<|mw<|Vw (Zcy lk)<|Vw (ZaJ lk lk)<|sn'<|?_
 refine cd' lk (λhc5=>?_) (λhc5=>?_)
 .have hi:i5<M.length:=by omega
  have htk:=List.take_succ_eq_append_getElem hi
  refine za<|Zab<|Zag<|Zab<|Zab<|ZaD<|Dw vm<|Dw vm<|?_
  refine D' (ZaW lk lk gx Za4 nb ro om (by first | rfl | (simp;done) | omega)) pt ?_
  refine D' (ZeF lk gx Za4 om rfl) pt ?_
  refine ZaB mp0 (λhE hX=>Zhn) pt ?_
  refine Dw (ZdO lk lk)<|Dw vm<|?_
  refine dq' (t:=112) gt pt pt (λhg112=>?_) (λhg112=>?_)
  .have hC:chgs (Za9 a es) (M.take (i5+1))=chgs (Za9 a es) (M.take i5):=by rw[htk];exact ZrP (inT_no1 hg112)
   refine dn<|dn<|dn<|dn<|dn<|dn<|Dw (Zaj lk lkb)<|ZaH<|?_
   refine ZaU ?_
   refine sn'<|Za6 lk<|Zax<|Zas<|ZaK<|Zan<|Zao<|mw<|?_
   refine ad<|mw<|Zam<|Zaw<|?_
   refine lU' (⟨i5+1,v5⟩) (by (try dsimp only);omega) (by refine zz ?_;exact ALe.same (by repeat (first | exact wk0 | refine wka ?_ | refine wk1 rfl ?_ | refine wk1 (by first | rfl | exact ivx om | (rw[hC];done) | (rw[hC,hB];done) | (rw[hC,hB];rfl)) ?_)) (by first | (rw[hC];done) | (rw[hC];rfl)))
  refine dO<|Dw vm<|dO<|Dw vm<|dO<|?_
  refine D' (ZaW lk lk gx Za4 nb ro om (by first | rfl | (simp;done) | omega)) pt ?_
  refine d_do gt ?_
  refine D' (ZeF lk gx Za4 om rfl) pt ?_
  refine d_do gt ?_
  refine ZaB mp0 (λhE hX=>Znf) pt ?_
  refine dO<|Dw (Zbr lk lk)<|Dw (Zak lk lk)<|ZaH<|?_
  refine ZaU ?_
  refine sn' ?_
  refine cd' lk (λhc6=>?_) (λhc6=>?_)
  .have hC:chgs (Za9 a es) (M.take (i5+1))=chgs (Za9 a es) (M.take i5):=by rw[htk];exact ZrP (inT_no2 hc6)
   refine Zax<|Zas<|ZaK<|Zan<|Zao<|mw<|?_
   refine ad<|mw<|Zam<|Zaw<|?_
   refine lU' (⟨i5+1,v5⟩) (by (try dsimp only);omega) (by refine zz ?_;exact ALe.same (by repeat (first | exact wk0 | refine wka ?_ | refine wk1 rfl ?_ | refine wk1 (by first | rfl | exact ivx om | (rw[hC];done) | (rw[hC,hB];done) | (rw[hC,hB];rfl)) ?_)) (by first | (rw[hC];done) | (rw[hC];rfl)))
  have hI:inT M[i5]=true:=inT_yes hg112 hc6
  refine za<|Zab<|ZaD<|Dw (Zad lk gx ZdJ rfl)<|Dw vm<|Dw vm<|?_
  refine D' (ZaW lk lk gx Za4 nb ro om (by first | rfl | (simp;done) | omega)) pt ?_
  refine D' (ZeF lk gx Za4 om rfl) pt ?_
  refine ZaB mp (λhE hX=>Zu4 hz) pt ?_
  refine ZcI rfl rfl (hlk hn rfl) (Zix) pt Zg8<|ZaH<|?_
  refine ZcH Zs0 ?_
  refine E' (Zai lk cv gx rfl nb rfl ZfS hs8) ptn<|sn'<|Zab<|wr'<|Vw (Zad lk gx Zcd rfl)<|Vw (Zad lk gx Zcd rfl)<|Vw (Zic lk lk Zp5)<|sn'<|?_
  refine cd' lk (λhc7=>?_) (λhc7=>?_)
  .have hw:Za9 a es M[i5]=ZeQ (Za9 a es tMin) (chgs (Za9 a es) (M.take i5)):=by obtain⟨x1,x2,x3⟩:=hc7;exact Prod.ext x1 (Prod.ext x2 x3)
   have hC:chgs (Za9 a es) (M.take (i5+1))=chgs (Za9 a es) (M.take i5):=by rw[htk];exact ZwV hI hw
   refine Zax<|Zas<|ZaK<|Zan<|Zao<|mw<|?_
   refine ad<|mw<|Zam<|Zaw<|?_
   refine lU' (⟨i5+1,v5⟩) (by (try dsimp only);omega) (by refine zz ?_;exact bkE' 8 hn hlt (by repeat (first | exact wk0 | refine wka ?_ | refine wk1 rfl ?_ | refine wk1 (by first | rfl | exact ivx om | (rw[hC];done) | (rw[hC,hB];done) | (rw[hC,hB];rfl)) ?_)) (by first | (rw[hC];done) | (rw[hC];rfl)) (hT:=by simp[AV.lt,AV.ltL,Ent.lt]) (hE:=by simp[AV.lt,AV.ltL,Ent.lt]))
  have hw:¬Za9 a es M[i5]=ZeQ (Za9 a es tMin) (chgs (Za9 a es) (M.take i5)):=λe=>hc7 (by rw[e];exact⟨rfl,rfl,rfl⟩)
  have hC:chgs (Za9 a es) (M.take (i5+1))=chgs (Za9 a es) (M.take i5)++[(M[i5],Za9 a es M[i5])]:=by rw[htk];exact chgs_new hI hw
  have hB:=Zvi (Za9 a es tMin) (chgs (Za9 a es) (M.take i5)) (M[i5],Za9 a es M[i5])
  have hW:=Zss (Za9 a es tMin) (chgs (Za9 a es) (M.take i5)) (M[i5],Za9 a es M[i5])
  refine za<|Zab<|wm<|Vw (Za0 lk lki)<|sn'<|?_
  refine cd' lk (λhc8=>?_) (λhc8=>?_)
  .rw[if_pos hc8] at hB
   refine Zao<|Vw (Zad lk gx Zcd rfl)<|Zac mp (ZcW (htsz _)) pt<|ms<|Zab<|ZaD<|dg<|Dw (Zaa lk gx gt3)<|Dw vm<|Dw vm<|?_
   refine D' (ZaW lk lk gx Za4 nb ro om (by first | rfl | (simp;done) | omega)) pt ?_
   refine D' (ZeF lk gx Za4 om rfl) pt ?_
   refine Dw (Zad lk gx Zcd rfl)<|Dw (Zat (Zfb cv rfl cv rfl))<|ZcI rfl rfl (hlk hn rfl) (ZeR (Zfa cv rfl)) pt Zg8<|ZaH<|?_
   refine ZcH Zlt ?_
   refine E' (Zby (Zbm lk gx rfl Zn9 nb) lk gx (Za1 _) om rfl hs7) pt ?_
   refine fq<|E' (Zai lk cv gx rfl nb rfl Zls hs5) ptn<|sn'<|Zao<|Vw (Zad lk gx Zcd rfl)<|E' (Zai lk cv gx rfl nb rfl ZfS hs6) ptn<|Zam<|Zau<|Zan<|Zao<|mw<|?_
   refine ad<|mw<|Zam<|Zaw<|?_
   refine lU' (⟨i5+1,v5+1⟩) (by (try dsimp only);omega) (by refine zz ?_;exact bkE' 8 hn hlt (by repeat (first | exact wk0 | refine wka ?_ | refine wk1 rfl ?_ | refine wk1 (by first | rfl | exact ivx om | (rw[hC];done) | (rw[hC,hB];done) | (rw[hC,hB];rfl)) ?_)) (by rw[hC,hW,List.length_append,ZaG,Zbw];rfl) (hT:=by simp[AV.lt,AV.ltL,Ent.lt]) (hE:=by simp[AV.lt,AV.ltL,Ent.lt]))
  rw[if_neg hc8] at hB
  refine za<|Zab<|ZaD<|dg<|Dw (Zaa lk gx gt3)<|Dw vm<|Dw vm<|?_
  refine D' (ZaW lk lk gx Za4 nb ro om (by first | rfl | (simp;done) | omega)) pt ?_
  refine D' (ZeF lk gx Za4 om rfl) pt ?_
  refine Dw (Zad lk gx Zcd rfl)<|Dw (Zat (Zfb cv rfl cv rfl))<|ZcI rfl rfl (hlk hn rfl) (ZeR (Zfa cv rfl)) pt Zg8<|ZaH<|?_
  refine ZcH Zlt ?_
  refine E' (Zby (Zbm lk gx rfl Zn9 nb) lk gx (Za1 _) om rfl hs7) pt ?_
  refine fq<|E' (Zai lk cv gx rfl nb rfl Zls hs5) ptn<|sn'<|Zao<|Vw (Zad lk gx Zcd rfl)<|E' (Zai lk cv gx rfl nb rfl ZfS hs6) ptn<|Zam<|Zau<|Zan<|Zao<|mw<|?_
  refine ad<|mw<|Zam<|Zaw<|?_
  refine lU' (⟨i5+1,v5+1⟩) (by (try dsimp only);omega) (by refine zz ?_;exact bkE' 8 hn hlt (by repeat (first | exact wk0 | refine wka ?_ | refine wk1 rfl ?_ | refine wk1 (by first | rfl | exact ivx om | (rw[hC];done) | (rw[hC,hB];done) | (rw[hC,hB];rfl)) ?_)) (by rw[hC,hW,List.length_append,ZaG,Zbw];rfl) (hT:=by simp[AV.lt,AV.ltL,Ent.lt]) (hE:=by simp[AV.lt,AV.ltL,Ent.lt]))
 have hi:M.take i5=M:=List.take_of_length_le om
 rw[hi] at *
 refine Zax<|Zas<|Zas<|ZaK<|Zan<|Zab<|wm<|Vw (Za0 lk lki)<|mw<|?_
 refine sp' (t:=147) gt pt pt (λhg147=>?_) (λhg147=>?_)
 .refine sd<|fq<|sd<|Vw (Zaa lk gx gt3)<|sd<|Vw (Zcy lk)<|sd<|Vw (Zbr lk lki)<|Vw (Zaj lk lk)<|sn'<|?_
  refine cd' lk (λhc9=>?_) (λhc9=>?_)
  .rw[if_neg (λe=>e hg147),if_pos om] at hTR
   refine Zao<|ms<|Zab<|wm<|Vw (ZaY lk lki)<|sn'<|?_
   refine Zeg lk (by rfl) ?_
   refine wr'<|Vw (Zat Ze9)<|mw<|E' (Zai lk cv gx rfl nb rfl Zez hs2) ptn<|mr<|Zah<|Zae (rsn (rm1 (rr_c gt gx (ld1 ZdJ rfl)) (rm1 (rr_t gt) rm0)))<|rtW'<|?_
   rw[hTR];exact Zgz
  rw[if_neg (λe=>e hg147),if_neg om] at hTR
  refine za<|Zab<|wm<|Vw (ZaY lk lki)<|sn'<|?_
  refine Zcr lk (by exact decide_eq_false (λe=>e hg147)) ?_
  refine Zay ?_
  refine ZaN (ALe.iceCellR (hga hn rfl) (hga hn rfl) om gt3 (List.take_of_length_le (by rw[Za1];exact Nat.le_refl _)) (by rw[Za1];exact Nat.le_refl _) pt3 hs7 hs5) ?_
  refine wr'<|Vw (Zad lk gx ZdJ rfl)<|E' (Zai lk cv gx rfl nb rfl Zez hs2) ptn<|mr<|Zae (rsn (rm1 (rr_c gt gx (ld1 ZdJ rfl)) (rm1 (rr_t gt) rm0)))<|rtW'<|?_
  rw[hTR];show Wk _ (.tup [tabA (ZdR a es),iv 0]);rw[show ZdR a es=(Za9 a es tMin,chgs (Za9 a es) M) from Prod.ext hT1 hT2];exact Wk.tup (wkw (Wk.agg (wk1 rfl (wk1 rfl (wk1 rfl (wkw Wk.full wk0))))) (wk1 rfl wk0))
 rw[if_pos hg147] at hTR
 refine so<|so<|so<|so<|Vw (Zak lk lkb)<|sn'<|ZaV lk<|za<|Zab<|wm<|?_
 refine Vw (ZaY lk lki)<|sn'<|?_
 refine Zeg lk (by exact decide_eq_true hg147) ?_
 refine wr'<|Vw (Zat Ze9)<|mw<|E' (Zai lk cv gx rfl nb rfl Zez hs2) ptn<|mr<|Zah<|Zae (rsn (rm1 (rr_c gt gx (ld1 ZdJ rfl)) (rm1 (rr_t gt) rm0)))<|rtW'<|?_
 rw[hTR];exact Zgz
end
section
open Go.Ab Go.RowKit Civ
attribute [local simp] ZbR Zcn Zb6 Zbq Zbl ZdX Zd4 ZcM
def Zq4 {t:Tab}(h:Za3 t=0):okT t:=by
 obtain⟨_,h2,h3⟩:=ZsH h
 have e:=Zv2 h2
 refine⟨by simp only[maxLen];omega,λx hx=>?_⟩
 have:=Zv2 (h3 x hx).2
 simp only[maxLen];omega
end
section
open Go
def ltS (a b:ByteArray):Bool:=Op.bytesLess a.toList b.toList
def Zhw {a:ByteArray}:ltS a b=true↔a.data.toList<b.data.toList:=by
 unfold ltS;rw[bytesLess_eq,Lib.toList_data,Lib.toList_data];simp
def Zjm (a:ByteArray):ltS a a=false:=by
 rw[Bool.eq_false_iff,ne_eq,Zhw];exact List.lt_irrefl _
def Zin {a c:ByteArray}(h1:ltS a b=true) (h2:ltS b c=true):ltS a c=true:=by
 rw[Zhw] at *;exact List.lt_trans h1 h2
def Zek {a:ByteArray}(h:ltS a b=true):ltS b a=false:=by
 rw[Bool.eq_false_iff,ne_eq,Zhw];rw[Zhw] at h;exact List.lt_asymm h
def Zld {a:ByteArray}(h:a.data.toList=b.data.toList):a=b:=by
 cases a;cases b;simp at h;congr 1
def Zpb {a:ByteArray}(h1:ltS a b=false) (h2:ltS b a=false):a=b:=by
 rw[Bool.eq_false_iff,ne_eq,Zhw,List.not_lt] at *
 exact Zld (List.le_antisymm h2 h1)
def Zk2 {a:ByteArray}(h:ltS a b=true):a≠b:=λe=>by subst e;rw[Zjm] at h;cases h
def ZnF {a b c:ByteArray}(h1:ltS b a=false) (h2:ltS b c=true):ltS a c=true:=by
 cases h:ltS a b with
 | true=>exact Zin h h2
 | false=>rw[Zpb h h1];exact h2
def ZnE {a b:ByteArray}(h:a≠b):ltS a b=true\/ltS b a=true:=by
 cases h1:ltS a b with
 | true=>exact .inl rfl
 | false =>
  cases h2:ltS b a with
  | true=>exact .inr rfl
  | false=>exact absurd (Zpb h1 h2) h
def Zjq (a b:ByteArray):(Op.bytesLess a.toList b.toList||a.toList==b.toList)=!ltS b a:=by
 have e:(a.toList==b.toList)=decide (a=b):=by
  rw[Bool.eq_iff_iff,beq_iff_eq,decide_eq_true_iff]
  exact⟨λh=>Zld (by rwa [Lib.toList_data,Lib.toList_data] at h),λh=>by rw[h]⟩
 rw[e]
 show (ltS a b||decide (a=b))=!ltS b a
 by_cases h:a=b
 .subst h;simp[Zjm]
 .rcases ZnE h with h1 | h1
  .rw[h1,Zek h1];simp
  .rw[h1,Zek h1];simp[h]
def cmpS (a b:ByteArray):Int:=if ltS a b=true then -1 else if ltS b a=true then 1 else 0
def Zee {a:ByteArray}:cmpS a b<0↔ltS a b=true:=by unfold cmpS;split <;> (try split) <;> simp_all
def ZwG {a:ByteArray}:cmpS a b=0↔a=b:=by
 unfold cmpS
 constructor
 .intro h
  split at h
  .cases h
  .split at h
   .cases h
   .exact Zpb (by simp_all) (by simp_all)
 .rintro rfl;rw[Zjm];simp
def ZrN {a b:ByteArray}:0<cmpS a b↔ltS b a=true:=by
 unfold cmpS
 cases h1:ltS a b with
 | true=>simp[Zek h1]
 | false=>cases h2:ltS b a <;> simp
section
variable {α : Type}
def risN (l:List (ByteArray×α)):Prop:=l.Pairwise λa b=>ltS a.1 b.1=true
def ZaP:List (ByteArray×α)->ByteArray->Option α
 | [],_=>none
 | n::l,nm=>if n.1=nm then some n.2 else ZaP l nm
def hasN (l:List (ByteArray×α)) (nm:ByteArray):Bool:=l.any λn=>decide (n.1=nm)
def idxN (l:List (ByteArray×α)) (nm:ByteArray):Nat:=l.findIdx λn=>decide (n.1=nm)
def posN (l:List (ByteArray×α)) (nm:ByteArray):Nat:=l.findIdx λn=>!ltS n.1 nm
def insN (l:List (ByteArray×α)) (n:ByteArray×α):List (ByteArray×α):=l.take (posN l n.1)++n::l.drop (posN l n.1)
def ZbO : ∀ (l:List (ByteArray×α)) (nm:ByteArray),hasN l nm=(ZaP l nm).isSome
 | [],_=>rfl
 | n::l,nm=>by
  have ih:=ZbO l nm
  unfold hasN at ih ⊢
  rw[List.any_cons,ZaP,ih]
  split
  .rename_i h;simp[h]
  .rename_i h;simp[h]
def ZnL (n:ByteArray×α) (l:List (ByteArray×α)) (nm:ByteArray):hasN (n::l) nm=(decide (n.1=nm)||hasN l nm):=rfl
end
end
end Go.Proofs.YthmgnolcfjiicaaGreatDoor
