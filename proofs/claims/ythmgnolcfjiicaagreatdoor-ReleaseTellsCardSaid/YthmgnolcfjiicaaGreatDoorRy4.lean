/-
  Part 4 of the proof: own lemmas and contracts on plain data. No condition beyond those that each lemma states.
-/
import Derived.Test.YthmgnolcfjiicaaGreatDoorRy3
import Derived.Shelf.SlSortCmp.NoneTotal
import Derived.Laws.IdiomCopy
import Derived.Shelf.Spec.SlicesInsert
import Derived.Laws.NewBlocks
import Derived.Deep.RegionLaw
import Derived.Lib.Walk
import Derived.Shelf.RegionOpenPlain
set_option linter.all false
set_option maxRecDepth 1000000
set_option maxHeartbeats 4000000
namespace Go.Proofs.YthmgnolcfjiicaaGreatDoor
open Go.Ab
variable {h:AH}{a0 a1 a2 a3 a4 c0 c1 c2 c3:AV}{nm:ByteArray}{l:List AV}{k:List Lnk}{i:Nat}
section
open Go
section
variable {α : Type}
def Zdc {l:List (ByteArray×α)}:hasN l nm=true↔nm∈l.map (·.1):=by
 unfold hasN;simp only[List.any_eq_true,decide_eq_true_eq,List.mem_map]
def Zcb {l:List (ByteArray×α)}:ZaP l nm=none↔nm ∉ l.map (·.1):=by
 rw[<-Zdc,ZbO];cases ZaP l nm <;> simp
def ZcA : ∀ {l:List (ByteArray×α)}{nm:ByteArray}{t:α},ZaP l nm=some t->(nm,t)∈l
 | n::l,nm,t,h=>by
  rw[ZaP] at h
  split at h
  .rename_i e;subst e;cases h;exact List.mem_cons_self
  .exact List.mem_cons_of_mem _ (ZcA h)
def Zdf {n m:ByteArray×α}{l:List (ByteArray×α)}(h:risN (n::l)) (hm:m∈l):ltS n.1 m.1=true:=(List.pairwise_cons.1 h).1 m hm
def Zet {n:ByteArray×α}{l:List (ByteArray×α)}(h:risN (n::l)):risN l:=(List.pairwise_cons.1 h).2
def Zjk : ∀ {l:List (ByteArray×α)}{nm:ByteArray}{t:α},risN l->(nm,t)∈l->ZaP l nm=some t
 | n::l,nm,t,hr,h=>by
  rw[ZaP]
  rcases List.mem_cons.1 h with rfl | h
  .rw[if_pos rfl]
  .rw[if_neg (Zk2 (Zdf hr h))]
   exact Zjk (Zet hr) h
def Zho {l:List (ByteArray×α)}(h:risN l):(l.map (·.1)).Nodup:=List.pairwise_map.2 (h.imp λh=>Zk2 h)
def ZoY : ∀ {l m:List (ByteArray×α)},risN l->risN m->(∀ nm,ZaP l nm=ZaP m nm)->l=m
 | [],[],_,_,_=>rfl
 | [],n::m,_,_,h=>by have:=h n.1;rw[ZaP,ZaP,if_pos rfl] at this;cases this
 | n::l,[],_,_,h=>by have:=h n.1;rw[ZaP,ZaP,if_pos rfl] at this;cases this
 | n::l,k::m,hl,hm,h=>by
  have key:n.1=k.1:=by
   refine Decidable.byContradiction λhne=>?_
   rcases ZnE hne with h1 | h1
   .have:=h n.1
    rw[ZaP,if_pos rfl,ZaP,if_neg (Ne.symm hne)] at this
    have h2:=Zdf hm (ZcA this.symm)
    have:=Zek h1;rw[h2] at this;cases this
   .have:=h k.1
    rw[ZaP,if_neg hne,ZaP,if_pos rfl] at this
    have h2:=Zdf hl (ZcA this)
    have:=Zek h1;rw[h2] at this;cases this
  have hv:n.2=k.2:=by
   have:=h n.1
   rw[ZaP,if_pos rfl,ZaP,if_pos key.symm] at this
   exact Option.some.inj this
  have e:n=k:=Prod.ext key hv
  subst e
  refine congrArg _ (ZoY (Zet hl) (Zet hm) λnm=>?_)
  by_cases hn:n.1=nm
  .subst hn
   rw[Zcb.2 λhx=>?_,Zcb.2 λhx=>?_]
   .obtain⟨x,hx,e⟩:=List.mem_map.1 hx;exact Zk2 (Zdf hm hx) e.symm
   .obtain⟨x,hx,e⟩:=List.mem_map.1 hx;exact Zk2 (Zdf hl hx) e.symm
  .have:=h nm
   rwa [ZaP,if_neg hn,ZaP,if_neg hn] at this
def pos_is {l:List (ByteArray×α)}(hi:i<=l.length) (h1 : ∀ k (h:k<l.length),k<i->ltS l[k].1 nm=true) (h2 : ∀ k (h:k<l.length),i<=k->ltS l[k].1 nm=false):posN l nm=i:=by
 unfold posN
 rcases Nat.lt_or_ge i l.length with hlt | hge
 .rw[List.findIdx_eq hlt]
  exact⟨by rw[h2 i hlt (Nat.le_refl _)];rfl,λj hj=>by rw[h1 j om hj];rfl⟩
 .rw[List.findIdx_eq_length.2 λx hx=>by obtain⟨k,hk,rfl⟩:=List.getElem_of_mem hx;rw[h1 k hk om];rfl]
  omega
def Zvs (l:List (ByteArray×α)) (nm:ByteArray):posN l nm<=l.length:=List.findIdx_le_length
def Zip {l:List (ByteArray×α)}(h:hasN l nm=true) : ∃ hi:idxN l nm<l.length,l[idxN l nm].1=nm:=by
 have hi:idxN l nm<l.length:=List.findIdx_lt_length.2 (by unfold hasN at h;simpa using h)
 have:=List.findIdx_getElem (w:=hi)
 exact⟨hi,of_decide_eq_true this⟩
def pos_low {l:List (ByteArray×α)}{k:Nat}(h:k<posN l nm):ltS (l[k]'(Nat.lt_of_lt_of_le h (Zvs l nm))).1 nm=true:=by
 have:=List.not_of_lt_findIdx h
 simpa using this
def pos_high {l:List (ByteArray×α)}(hr:risN l) {nm:ByteArray}{k:Nat}(hk:k<l.length) (h:posN l nm<=k):ltS l[k].1 nm=false:=by
 have hp:posN l nm<l.length:=by omega
 have h0:ltS l[posN l nm].1 nm=false:=by
  have:=List.findIdx_getElem (w:=hp)
  rw[Bool.not_eq_true'] at this;exact this
 rcases Nat.lt_or_ge (posN l nm) k with e | e
 .have:=List.pairwise_iff_getElem.1 hr _ _ hp hk e
  cases h1:ltS l[k].1 nm with
  | false=>rfl
  | true=>rw[Zin this h1] at h0;cases h0
 .have:posN l nm=k:=by omega
  subst this;exact h0
def Zmc {l:List (ByteArray×α)}(hr:risN l) (h:hasN l nm=true):posN l nm=idxN l nm:=by
 obtain⟨hi,he⟩:=Zip h
 refine pos_is (Nat.le_of_lt hi) (λk hk hlt=>?_) λk hk hge=>?_
 .have:=List.pairwise_iff_getElem.1 hr _ _ hk hi hlt
  rwa [he] at this
 .rcases Nat.lt_or_ge (idxN l nm) k with e | e
  .have:=List.pairwise_iff_getElem.1 hr _ _ hi hk e
   rw[he] at this;exact Zek this
  .have:idxN l nm=k:=by omega
   subst this;rw[he];exact Zjm _
def Zvt {l:List (ByteArray×α)}(hr:risN l) :hasN l nm=true ↔ ∃ h:posN l nm<l.length,l[posN l nm].1=nm:=by
 constructor
 .intro h
  obtain⟨hi,he⟩:=Zip h
  have e:=Zmc hr h
  exact⟨by rw[e];exact hi,by simp only[e];exact he⟩
 .rintro⟨h,he⟩
  rw[Zdc]
  exact List.mem_map.2 ⟨_,List.getElem_mem h,he⟩
def Zmm {l:List (ByteArray×α)}{nm:ByteArray}:ZaP l nm=(l[idxN l nm]?).map (·.2):=by
 unfold idxN
 induction l with
 | nil=>rfl
 | cons n l ih =>
  rw[ZaP,List.findIdx_cons]
  split
  .rename_i h;simp[h]
  .rename_i h;simp[h,ih]
def Zk3 : ∀ {l:List (ByteArray×α)}{nm x:ByteArray},risN l->ZaP (l.eraseIdx (idxN l nm)) x=if x=nm then none else ZaP l x
 | [],nm,x,_=>by simp[ZaP]
 | n::l,nm,x,hr=>by
  unfold idxN
  rw[List.findIdx_cons]
  by_cases h:n.1=nm
  .simp only[h,decide_true,cond_true,List.eraseIdx_cons_zero]
   split
   .rename_i hx;subst hx
    exact Zcb.2 λhx=>by obtain⟨y,hy,e⟩:=List.mem_map.1 hx;exact Zk2 (Zdf hr hy) (h.trans e.symm)
   .rename_i hx;rw[ZaP,if_neg (λe=>hx (by rw[<-e,h]))]
  .simp only[h,decide_false,cond_false,List.eraseIdx_cons_succ]
   have ih:=Zk3 (l:=l) (nm:=nm) (x:=x) (Zet hr)
   unfold idxN at ih
   rw[ZaP,ih,ZaP]
   by_cases hx:x=nm
   .rw[if_pos hx,if_pos hx,if_neg (by rw[hx];exact h)]
   .rw[if_neg hx,if_neg hx]
def Zjb {l:List (ByteArray×α)}(h:risN l) (i:Nat):risN (l.eraseIdx i):=h.sublist (List.eraseIdx_sublist _ _)
def Zre : ∀ {l:List (ByteArray×α)}{nm x:ByteArray}{t:α},hasN l nm=true->ZaP (l.set (idxN l nm) (nm,t)) x=if x=nm then some t else ZaP l x
 | n::l,nm,x,t,hh=>by
  unfold idxN
  rw[List.findIdx_cons]
  by_cases h:n.1=nm
  .simp only[h,decide_true,cond_true,List.set_cons_zero]
   rw[ZaP,ZaP]
   by_cases hx:x=nm
   .rw[if_pos hx.symm,if_pos hx]
   .rw[if_neg (Ne.symm hx),if_neg hx,if_neg (by rw[h];exact Ne.symm hx)]
  .simp only[h,decide_false,cond_false,List.set_cons_succ]
   rw[ZnL] at hh
   simp only[h,decide_false,Bool.false_or] at hh
   have ih:=Zre (x:=x) (t:=t) hh
   unfold idxN at ih
   rw[ZaP,ih,ZaP]
   by_cases hx:x=nm
   .rw[if_pos hx,if_pos hx,if_neg (by rw[hx];exact h)]
   .rw[if_neg hx,if_neg hx]
def Zng {l m:List (ByteArray×α)}(h:risN l) (e:m.map (·.1)=l.map (·.1)):risN m:=by
 have:(l.map (·.1)).Pairwise λa b=>ltS a b=true:=List.pairwise_map.2 h
 rw[<-e] at this
 exact List.pairwise_map.1 this
def ZuT {l:List (ByteArray×α)}{t:α}(h:hasN l nm=true):(l.set (idxN l nm) (nm,t)).map (·.1)=l.map (·.1):=by
 obtain⟨hi,he⟩:=Zip h
 rw[List.map_set]
 show (l.map (·.1)).set (idxN l nm) nm=_
 have h2:(l.map (·.1))[idxN l nm]'(by simpa using hi)=nm:=by simpa using he
 exact (congrArg (λz=>(l.map (·.1)).set (idxN l nm) z) h2.symm).trans (List.set_getElem_self _)
def ZoX {l:List (ByteArray×α)}{t:α}(hr:risN l) (h:hasN l nm=true):risN (l.set (idxN l nm) (nm,t)):=Zng hr (ZuT h)
def Zjn : ∀ (l m:List (ByteArray×α)) (x:ByteArray),ZaP (l++m) x=(ZaP l x).or (ZaP m x)
 | [],m,x=>by simp[ZaP]
 | n::l,m,x=>by
  rw[List.cons_append,ZaP,ZaP]
  split
  .rfl
  .exact Zjn l m x
def look_ins {l:List (ByteArray×α)}{n:ByteArray×α}{x:ByteArray}(h:hasN l n.1=false):ZaP (insN l n) x=if x=n.1 then some n.2 else ZaP l x:=by
 unfold insN
 have e:ZaP l x=(ZaP (l.take (posN l n.1)) x).or (ZaP (l.drop (posN l n.1)) x):=by rw[<-Zjn,List.take_append_drop]
 rw[Zjn,ZaP,e]
 by_cases hx:x=n.1
 .subst hx
  have:ZaP (l.take (posN l n.1)) n.1=none:=Zcb.2 λhm=>by
   have:hasN l n.1=true:=Zdc.2 (by obtain⟨y,hy,e⟩:=List.mem_map.1 hm;exact List.mem_map.2 ⟨y,List.mem_of_mem_take hy,e⟩)
   rw[h] at this;cases this
  rw[this];simp
 .rw[if_neg (Ne.symm hx),if_neg hx]
def Zl8 {l:List (ByteArray×α)}{n:ByteArray×α}(hr:risN l) (h:hasN l n.1=false):risN (insN l n):=by
 unfold insN risN
 rw[List.pairwise_append,List.pairwise_cons]
 have hlow : ∀ a∈l.take (posN l n.1),ltS a.1 n.1=true:=λa ha=>by
  obtain⟨k,hk,rfl⟩:=List.getElem_of_mem ha
  rw[List.length_take] at hk
  rw[List.getElem_take]
  exact pos_low om
 have hhigh : ∀ b∈l.drop (posN l n.1),ltS n.1 b.1=true:=λb hb=>by
  obtain⟨k,hk,rfl⟩:=List.getElem_of_mem hb
  rw[List.length_drop] at hk
  rw[List.getElem_drop]
  have h1:=pos_high hr (show posN l n.1+k<l.length by omega) (Nat.le_add_right _ _)
  refine (ZnE (λe=>?_)).resolve_right (by rw[h1];simp)
  have:hasN l n.1=true:=Zdc.2 (List.mem_map.2 ⟨_,List.getElem_mem _,e.symm⟩)
  rw[h] at this;cases this
 refine⟨hr.sublist (List.take_sublist _ _),⟨hhigh,hr.sublist (List.drop_sublist _ _)⟩,λa ha b hb=>?_⟩
 rcases List.mem_cons.1 hb with rfl | hb
 .exact hlow a ha
 .exact Zin (hlow a ha) (hhigh b hb)
def Zpl (l:List (ByteArray×α)) (n:ByteArray×α):(insN l n).length=l.length+1:=by
 unfold insN
 have:=Zvs l n.1
 simp;omega
def Za8:List (ByteArray×α)->List ByteArray->List (ByteArray×α)×Int
 | l,[]=>(l,0)
 | l,d::ds=>if hasN l d=true then Za8 (l.eraseIdx (idxN l d)) ds else (l,5)
def Zcw:List (ByteArray×α)->List (ByteArray×α)->List (ByteArray×α)×Int
 | l,[]=>(l,0)
 | l,n::ns=>if hasN l n.1=true then (l,6) else Zcw (insN l n) ns
def Zbj {π:Type}(pe:α->π->Int) (pv:α->π->α):List (ByteArray×α)->List (ByteArray×π)->List (ByteArray×α)×Int
 | l,[]=>(l,0)
 | l,p::ps=>match ZaP l p.1 with
  | none=>(l,5)
  | some t=>if pe t p.2≠0 then (l,pe t p.2) else Zbj pe pv (l.set (idxN l p.1) (p.1,pv t p.2)) ps
def ZeU {l:List (ByteArray×α)}{x:ByteArray}{t:α}(h:ZaP l x=some t):hasN l x=true:=by rw[ZbO,h];rfl
def ZnU : ∀ {ds:List ByteArray}{l:List (ByteArray×α)},risN l->risN (Za8 l ds).1
 | [],_,h=>h
 | d::ds,l,h=>by rw[Za8];split;exact ZnU (Zjb h _);exact h
def ZqR : ∀ {ns l:List (ByteArray×α)},risN l->risN (Zcw l ns).1
 | [],_,h=>h
 | n::ns,l,h=>by
  rw[Zcw];split
  .exact h
  .rename_i h2;exact ZqR (Zl8 h (by simpa using h2))
def Znq {π:Type}{pe:α->π->Int}{pv:α->π->α} : ∀ {ps:List (ByteArray×π)}{l:List (ByteArray×α)},risN l->risN (Zbj pe pv l ps).1
 | [],_,h=>h
 | p::ps,l,h=>by
  rw[Zbj];split
  .exact h
  .rename_i t ht
   split
   .exact h
   .exact Znq (ZoX h (ZeU ht))
def ZrH : ∀ {ds:List ByteArray}{l:List (ByteArray×α)},risN l->ds.Nodup->(∀ d∈ds,hasN l d=true)->(Za8 l ds).2=0 /\ ∀ x,(x∈ds->ZaP (Za8 l ds).1 x=none)/\(x ∉ ds->ZaP (Za8 l ds).1 x=ZaP l x)
 | [],l,_,_,_=>⟨rfl,λx=>⟨λh=>(by cases h),λ_=>rfl⟩⟩
 | d::ds,l,h,hn,hd=>by
  rw[List.nodup_cons] at hn
  have hl:=λx=>Zk3 (nm:=d) (x:=x) h
  obtain⟨h1,h2⟩:=ZrH (ds:=ds) (Zjb h (idxN l d)) hn.2 λx hx=>by
   rw[ZbO,hl,if_neg (λe=>hn.1 (by rw[<-e];exact hx)),<-ZbO];exact hd x (by simp[hx])
  rw[Za8,if_pos (hd d (by simp))]
  refine⟨h1,λx=>⟨λhx=>?_,λhx=>?_⟩⟩
  .rcases List.mem_cons.1 hx with rfl | hx
   .rw[(h2 x).2 hn.1,hl,if_pos rfl]
   .exact (h2 x).1 hx
  .rw[List.mem_cons,not_or] at hx
   rw[(h2 x).2 hx.2,hl,if_neg hx.1]
def Zvk : ∀ {ns l:List (ByteArray×α)},risN l->(ns.map (·.1)).Nodup->(∀ n∈ns,hasN l n.1=false)->(Zcw l ns).2=0 /\ ∀ x,ZaP (Zcw l ns).1 x=(ZaP ns x).or (ZaP l x)
 | [],l,_,_,_=>⟨rfl,λx=>by simp[Zcw,ZaP]⟩
 | n::ns,l,h,hn,hd=>by
  rw[List.map_cons,List.nodup_cons] at hn
  have hd0:=hd n (by simp)
  have hl:=λx=>look_ins (x:=x) hd0
  obtain⟨h1,h2⟩:=Zvk (ns:=ns) (Zl8 h hd0) hn.2 λx hx=>by
   rw[ZbO,hl,if_neg (λe=>hn.1 (by rw[<-e];exact List.mem_map.2 ⟨x,hx,rfl⟩)),<-ZbO];exact hd x (by simp[hx])
  rw[Zcw,if_neg (by rw[hd0];simp)]
  refine⟨h1,λx=>?_⟩
  rw[h2,hl,ZaP]
  by_cases e:x=n.1
  .subst e
   rw[if_pos rfl,if_pos rfl,Zcb.2 hn.1];rfl
  .rw[if_neg e,if_neg (Ne.symm e)]
def ZqV {π:Type}{pe:α->π->Int}{pv:α->π->α}{G:ByteArray->Option α} : ∀ {ps:List (ByteArray×π)}{l:List (ByteArray×α)},risN l->(ps.map (·.1)).Nodup->(∀ p∈ps,∃ t,ZaP l p.1=some t/\pe t p.2=0/\G p.1=some (pv t p.2)) ->
  (Zbj pe pv l ps).2=0 /\ ∀ x,(x∈ps.map (·.1)->ZaP (Zbj pe pv l ps).1 x=G x)/\(x ∉ ps.map (·.1)->ZaP (Zbj pe pv l ps).1 x=ZaP l x)
 | [],l,_,_,_=>⟨rfl,λx=>⟨λh=>(by cases h),λ_=>rfl⟩⟩
 | p::ps,l,h,hn,hd=>by
  rw[List.map_cons,List.nodup_cons] at hn
  obtain⟨t,h1,h2,h3⟩:=hd p (by simp)
  have hs:=λx=>Zre (x:=x) (t:=pv t p.2) (ZeU h1)
  obtain⟨k1,k2⟩:=ZqV (pe:=pe) (pv:=pv) (ps:=ps) (G:=G) (ZoX (t:=pv t p.2) h (ZeU h1)) hn.2 λq hq=>by
   obtain⟨u,e1,e2,e3⟩:=hd q (by simp[hq])
   exact⟨u,by rw[hs,if_neg (λe=>hn.1 (by rw[<-e];exact List.mem_map.2 ⟨q,hq,rfl⟩))];exact e1,e2,e3⟩
  have e:Zbj pe pv l (p::ps)=Zbj pe pv (l.set (idxN l p.1) (p.1,pv t p.2)) ps:=by
   rw[Zbj,h1];simp[h2]
  rw[e]
  refine⟨k1,λx=>⟨λhx=>?_,λhx=>?_⟩⟩
  .rw[List.map_cons] at hx
   rcases List.mem_cons.1 hx with rfl | hx
   .rw[(k2 p.1).2 hn.1,hs,if_pos rfl,h3]
   .exact (k2 x).1 hx
  .rw[List.map_cons,List.mem_cons,not_or] at hx
   rw[(k2 x).2 hx.2,hs,if_neg hx.1]
section
variable {π : Type} [DecidableEq α]
def betD (r s:List (ByteArray×α)):List ByteArray:=(r.filter λn=>!hasN s n.1).map (·.1)
def betP (r s:List (ByteArray×α)):List (ByteArray×α):=s.filter λn=>!hasN r n.1
def betF (pd:α->α->π) (r:List (ByteArray×α)) (n:ByteArray×α):Option (ByteArray×π):=match ZaP r n.1 with
 | none=>none
 | some t=>if t=n.2 then none else some (n.1,pd t n.2)
def betT (pd:α->α->π) (r s:List (ByteArray×α)):List (ByteArray×π):=s.filterMap (betF pd r)
def Zfz {pd:α->α->π}{r:List (ByteArray×α)}{n:ByteArray×α}{p:ByteArray×π}(h:betF pd r n=some p):p.1=n.1 /\ ∃ t,ZaP r n.1=some t/\t≠n.2/\p.2=pd t n.2:=by
 unfold betF at h
 split at h
 .cases h
 .rename_i t ht
  split at h
  .cases h
  .rename_i hne;cases h;exact⟨rfl,t,ht,hne,rfl⟩
def Zi0 {pd:α->α->π}{r s:List (ByteArray×α)}{p:ByteArray×π}:p∈betT pd r s ↔ ∃ n∈s,betF pd r n=some p:=by unfold betT;rw[List.mem_filterMap]
def Zle {pd:α->α->π}{r:List (ByteArray×α)} : ∀ {s:List (ByteArray×α)},risN s->((betT pd r s).map (·.1)).Nodup
 | [],_=>by simp[betT]
 | n::s,h=>by
  have ih:=Zle (pd:=pd) (r:=r) (Zet h)
  unfold betT at ih ⊢
  rw[List.filterMap_cons]
  split
  .exact ih
  .rename_i p hp
   rw[List.map_cons,List.nodup_cons]
   refine⟨λhm=>?_,ih⟩
   obtain⟨q,hq,e⟩:=List.mem_map.1 hm
   obtain⟨k,hk,hf⟩:=List.mem_filterMap.1 hq
   have h1:=(Zfz hp).1
   have h2:=(Zfz hf).1
   exact Zk2 (Zdf h hk) (by rw[<-h1,<-h2,e])
def leadN {pe:α->π->Int}{pv:α->π->α}{pd:α->α->π}{r s:List (ByteArray×α)}(hr:risN r) (hs:risN s) (hp : ∀ t u,(∃ x,ZaP r x=some t/\ZaP s x=some u)->pe t (pd t u)=0/\pv t (pd t u)=u) :
  (Za8 r (betD r s)).2=0/\(Zbj pe pv (Za8 r (betD r s)).1 (betT pd r s)).2=0/\(Zcw (Zbj pe pv (Za8 r (betD r s)).1 (betT pd r s)).1 (betP r s)).2=0 /\
   (Zcw (Zbj pe pv (Za8 r (betD r s)).1 (betT pd r s)).1 (betP r s)).1=s:=by
 have memD : ∀ x,x∈betD r s↔hasN r x=true/\hasN s x=false:=λx=>by
  unfold betD
  rw[List.mem_map]
  constructor
  .rintro⟨n,hn,rfl⟩
   obtain⟨h1,h2⟩:=List.mem_filter.1 hn
   exact⟨Zdc.2 (List.mem_map.2 ⟨n,h1,rfl⟩),by simpa using h2⟩
  .rintro⟨h1,h2⟩
   obtain⟨n,hn,rfl⟩:=List.mem_map.1 (Zdc.1 h1)
   exact⟨n,List.mem_filter.2 ⟨hn,by simp[h2]⟩,rfl⟩
 obtain⟨a1,a2⟩:=ZrH (ds:=betD r s) hr ((Zho (l:=r.filter λn=>!hasN s n.1) (hr.filter _))) λd hd=>((memD d).1 hd).1
 have ar:=ZnU (ds:=betD r s) hr
 have haveA : ∀ x,hasN s x=true->ZaP (Za8 r (betD r s)).1 x=ZaP r x:=λx h2 =>
  (a2 x).2 λhm=>by have:=((memD x).1 hm).2;rw[h2] at this;cases this
 obtain⟨b1,b2⟩:=ZqV (pe:=pe) (pv:=pv) (G:=ZaP s) (ps:=betT pd r s) ar (Zle hs) λp hp'=>by
  obtain⟨n,hn,hf⟩:=Zi0.1 hp'
  obtain⟨e1,t,e2,e3,e4⟩:=Zfz hf
  have hsn:ZaP s n.1=some n.2:=Zjk hs hn
  obtain⟨k1,k2⟩:=hp t n.2 ⟨n.1,e2,hsn⟩
  exact⟨t,by rw[e1,haveA _ (ZeU hsn)];exact e2,by rw[e4];exact k1,by rw[e4,k2,e1];exact hsn⟩
 have br:=Znq (pe:=pe) (pv:=pv) (ps:=betT pd r s) ar
 have lookB : ∀ x,ZaP (Zbj pe pv (Za8 r (betD r s)).1 (betT pd r s)).1 x=if hasN r x=true then ZaP s x else none:=λx=>by
  by_cases hx:x∈(betT pd r s).map (·.1)
  .rw[(b2 x).1 hx]
   obtain⟨p,hp',rfl⟩:=List.mem_map.1 hx
   obtain⟨n,hn,hf⟩:=Zi0.1 hp'
   obtain⟨e1,t,e2,e3,e4⟩:=Zfz hf
   rw[if_pos (by rw[e1];exact ZeU e2)]
  .rw[(b2 x).2 hx]
   cases hr':ZaP r x with
   | none =>
    rw[if_neg (by rw[ZbO,hr'];simp)]
    by_cases hd:x∈betD r s
    .exact (a2 x).1 hd
    .rw[(a2 x).2 hd,hr']
   | some t =>
    rw[if_pos (ZeU hr')]
    cases hs':ZaP s x with
    | none=>exact (a2 x).1 ((memD x).2 ⟨ZeU hr',by rw[ZbO,hs'];rfl⟩)
    | some u =>
     rw[haveA x (ZeU hs'),hr']
     refine congrArg some (Decidable.byContradiction λhne=>hx ?_)
     exact List.mem_map.2 ⟨(x,pd t u),Zi0.2 ⟨(x,u),ZcA hs',by unfold betF;simp only[hr'];rw[if_neg hne]⟩,rfl⟩
 have hPn:((betP r s).map (·.1)).Nodup:=Zho (hs.filter _)
 obtain⟨c1,c2⟩:=Zvk (ns:=betP r s) br hPn λn hn=>by
  obtain⟨h1,h2⟩:=List.mem_filter.1 hn
  rw[ZbO,lookB,if_neg (by simpa using h2)];rfl
 refine⟨a1,b1,c1,ZoY (ZqR br) hs λx=>?_⟩
 rw[c2,lookB]
 cases hs':ZaP s x with
 | none =>
  have:ZaP (betP r s) x=none:=Zcb.2 λhm=>by
   obtain⟨n,hn,e⟩:=List.mem_map.1 hm
   have:=Zcb.1 hs'
   exact this (List.mem_map.2 ⟨n,(List.mem_filter.1 hn).1,e⟩)
  rw[this];simp
 | some u =>
  by_cases h1:hasN r x=true
  .have:ZaP (betP r s) x=none:=Zcb.2 λhm=>by
    obtain⟨n,hn,e⟩:=List.mem_map.1 hm
    have:=(List.mem_filter.1 hn).2
    rw[e,h1] at this;cases this
   rw[this,if_pos h1];rfl
  .have:ZaP (betP r s) x=some u:=Zjk (hs.filter _) (List.mem_filter.2 ⟨ZcA hs',by simpa using h1⟩)
   rw[this];rfl
end
end
end
section
open Go.Ab Civ
abbrev Nam:=ByteArray×Tab
abbrev Rel:=List Nam×List Lnk
abbrev NPt:=ByteArray×Pat
abbrev Upd:=List ByteArray×List Nam×List NPt×List Lnk
def rel0:Rel:=([],[])
def upd0:Upd:=([],[],[],[])
def Zci (p:Option ByteArray) (nm:ByteArray):Bool:=match p with
 | none=>true
 | some q=>ltS q nm
def chkN:Option ByteArray->List Nam->Int
 | _,[]=>0
 | p,n::l=>if Zb2 n.1=false then 1 else if Za3 n.2≠0 then Za3 n.2 else if Zci p n.1=false then 4 else chkN (some n.1) l
def chkL (t:List Nam):Option ByteArray->List Lnk->Int
 | _,[]=>0
 | p,l::ls=>if Zb2 l.2=false then 1 else if Zci p l.2=false then 4 else if hasN t l.2=true then 6 else if hasN t l.1=false then 5 else chkL t (some l.2) ls
def ZaQ (r:Rel):Int:=if 20<r.1.length\/20<r.2.length then 2 else if chkN none r.1≠0 then chkN none r.1 else chkL r.1 none r.2
def ZdV {α:Type}(f:α->ByteArray) (l:List α):Nat->Option ByteArray
 | 0=>none
 | i+1=>(l[i]?).map f
def ZdG {α:Type}{f:α->ByteArray}{l:List α}(h:i<l.length):ZdV f l (i+1)=some (f l[i]):=by
 show (l[i]?).map f=_
 rw[List.getElem?_eq_getElem h];rfl
def ZwQ {p:Option ByteArray}{l:List Nam}(h:i<l.length):chkN p (l.drop i)=if Zb2 l[i].1=false then 1 else if Za3 l[i].2≠0 then Za3 l[i].2 else if Zci p l[i].1=false then 4 else chkN (ZdV (·.1) l (i+1)) (l.drop (i+1)):=by
 rw[List.drop_eq_getElem_cons h,ZdG h];rfl
def ZwT {t:List Nam}{p:Option ByteArray}{l:List Lnk}(h:i<l.length):chkL t p (l.drop i)=if Zb2 l[i].2=false then 1 else if Zci p l[i].2=false then 4 else if hasN t l[i].2=true then 6 else if hasN t l[i].1=false then 5 else chkL t (ZdV (·.2) l (i+1)) (l.drop (i+1)):=by
 rw[List.drop_eq_getElem_cons h,ZdG h];rfl
def ZpH : ∀ {l:List Nam}{p:Option ByteArray},chkN p l=0->(∀ n∈l,Zb2 n.1=true/\Za3 n.2=0)/\risN l /\ ∀ n∈l,Zci p n.1=true
 | [],_,_=>⟨λn hn=>(by cases hn),.nil,λn hn=>(by cases hn)⟩
 | m::l,p,h=>by
  rw[chkN] at h
  split at h
  .cases h
  rename_i h1
  split at h
  .rename_i h2;exact absurd h h2
  rename_i h2
  split at h
  .cases h
  rename_i h3
  obtain⟨a,b,c⟩:=ZpH h
  have h3':Zci p m.1=true:=by simpa using h3
  refine⟨λn hn=>?_,List.pairwise_cons.2 ⟨c,b⟩,λn hn=>?_⟩
  .rcases List.mem_cons.1 hn with rfl | hn
   .exact⟨by simpa using h1,Decidable.of_not_not h2⟩
   .exact a n hn
  .rcases List.mem_cons.1 hn with rfl | hn
   .exact h3'
   .have:=c n hn
    cases p with
    | none=>rfl
    | some q=>exact Zin h3' this
def ZwP : ∀ {l:List Nam}{p:Option ByteArray},(∀ n∈l,Zb2 n.1=true/\Za3 n.2=0)->risN l->(∀ n∈l,Zci p n.1=true)->chkN p l=0
 | [],_,_,_,_=>rfl
 | m::l,p,h1,h2,h3=>by
  obtain⟨a,b⟩:=h1 m (by simp)
  rw[chkN,if_neg (by simp[a]),if_neg (by simp[b]),if_neg (by simp[h3 m (by simp)])]
  exact ZwP (λn hn=>h1 n (by simp[hn])) (Zet h2) λn hn=>Zdf h2 hn
def risL2 (l:List Lnk):Prop:=l.Pairwise λa b=>ltS a.2 b.2=true
def ZwR {t:List Nam} : ∀ {l:List Lnk}{p:Option ByteArray},chkL t p l=0->(∀ n∈l,Zb2 n.2=true/\hasN t n.2=false/\hasN t n.1=true)/\risL2 l /\ ∀ n∈l,Zci p n.2=true
 | [],_,_=>⟨λn hn=>(by cases hn),.nil,λn hn=>(by cases hn)⟩
 | m::l,p,h=>by
  rw[chkL] at h
  split at h
  .cases h
  rename_i h1
  split at h
  .cases h
  rename_i h2
  split at h
  .cases h
  rename_i h3
  split at h
  .cases h
  rename_i h4
  obtain⟨a,b,c⟩:=ZwR h
  have h3':Zci p m.2=true:=by simpa using h2
  refine⟨λn hn=>?_,List.pairwise_cons.2 ⟨c,b⟩,λn hn=>?_⟩
  .rcases List.mem_cons.1 hn with rfl | hn
   .exact⟨by simpa using h1,by simpa using h3,by simpa using h4⟩
   .exact a n hn
  .rcases List.mem_cons.1 hn with rfl | hn
   .exact h3'
   .have:=c n hn
    cases p with
    | none=>rfl
    | some q=>exact Zin h3' this
def ZwS {t:List Nam} : ∀ {l:List Lnk}{p:Option ByteArray},(∀ n∈l,Zb2 n.2=true/\hasN t n.2=false/\hasN t n.1=true)->risL2 l->(∀ n∈l,Zci p n.2=true)->chkL t p l=0
 | [],_,_,_,_=>rfl
 | m::l,p,h1,h2,h3=>by
  obtain⟨a,b,c⟩:=h1 m (by simp)
  rw[chkL,if_neg (by simp[a]),if_neg (by simp[h3 m (by simp)]),if_neg (by simp[b]),if_neg (by simp[c])]
  exact ZwS (λn hn=>h1 n (by simp[hn])) (List.pairwise_cons.1 h2).2 (List.pairwise_cons.1 h2).1
def ZwY {r:Rel}(h:ZaQ r=0):r.1.length<=20/\r.2.length<=20/\chkN none r.1=0/\chkL r.1 none r.2=0:=by
 unfold ZaQ at h
 split at h
 .cases h
 rename_i h1
 split at h
 .rename_i h2;exact absurd h h2
 rename_i h2
 exact⟨by omega,by omega,Decidable.of_not_not h2,h⟩
def ZbJ {r:Rel}(h:ZaQ r=0):r.1.length<=20/\r.2.length<=20/\(∀ n∈r.1,Zb2 n.1=true/\Za3 n.2=0)/\risN r.1/\(∀ n∈r.2,Zb2 n.2=true/\hasN r.1 n.2=false/\hasN r.1 n.1=true)/\risL2 r.2:=by
 obtain⟨h1,h2,h3,h4⟩:=ZwY h
 obtain⟨a,b,_⟩:=ZpH h3
 obtain⟨c,d,_⟩:=ZwR h4
 exact⟨h1,h2,a,b,c,d⟩
def updV (r:Rel) (u:Upd):Rel×Int :=
 if (Za8 r.1 u.1).2≠0 then (rel0,(Za8 r.1 u.1).2)
 else if (Zbj patE patV (Za8 r.1 u.1).1 u.2.2.1).2≠0 then (rel0,(Zbj patE patV (Za8 r.1 u.1).1 u.2.2.1).2)
 else if (Zcw (Zbj patE patV (Za8 r.1 u.1).1 u.2.2.1).1 u.2.1).2≠0 then (rel0,(Zcw (Zbj patE patV (Za8 r.1 u.1).1 u.2.2.1).1 u.2.1).2)
 else if ZaQ ((Zcw (Zbj patE patV (Za8 r.1 u.1).1 u.2.2.1).1 u.2.1).1,u.2.2.2)≠0 then (rel0,ZaQ ((Zcw (Zbj patE patV (Za8 r.1 u.1).1 u.2.2.1).1 u.2.1).1,u.2.2.2))
 else (((Zcw (Zbj patE patV (Za8 r.1 u.1).1 u.2.2.1).1 u.2.1).1,u.2.2.2),0)
def ZjN (r:Rel) (u:Upd):Rel×Int:=if ZaQ r≠0 then (rel0,ZaQ r) else updV r u
def betU (r s:Rel):Upd:=(betD r.1 s.1,betP r.1 s.1,betT Zb8 r.1 s.1,s.2)
def ZhF (r s:Rel):Upd×Int:=if ZaQ r≠0 then (upd0,ZaQ r) else if ZaQ s≠0 then (upd0,ZaQ s) else (betU r s,0)
def tgtR (k:List Lnk) (nm:ByteArray):ByteArray:=match k[k.findIdx λl=>decide (l.2=nm)]? with
 | some l=>l.1
 | none=>nm
def ZdD (r:Rel) (nm:ByteArray):Tab×Int:=if ZaQ r≠0 then (Zdr,ZaQ r) else match ZaP r.1 (tgtR r.2 nm) with
 | none=>(Zdr,5)
 | some t=>(t,0)
def leadR {r s:Rel}(hr:ZaQ r=0) (hs:ZaQ s=0):updV r (betU r s)=(s,0):=by
 obtain⟨_,_,a3,a4,_,_⟩:=ZbJ hr
 obtain⟨_,_,b3,b4,_,_⟩:=ZbJ hs
 obtain⟨h1,h2,h3,h4⟩:=leadN (pe:=patE) (pv:=patV) (pd:=Zb8) a4 b4 λt u ⟨x,hx,hy⟩=>by
  have c1:=(a3 _ (ZcA hx)).2
  have c2:=(b3 _ (ZcA hy)).2
  have hd:=diffE_of c1 c2
  obtain⟨k1,k2⟩:=leads hd
  have eP:ZnV t u=Zb8 t u:=if_pos hd
  have e1:appE t (ZnV t u)=patE t (ZnV t u):=by unfold appE;rw[if_neg (by simpa using c1)]
  have e2:appV t (ZnV t u)=patV t (ZnV t u):=by unfold appV;rw[if_neg (by simpa using c1)]
  rw[e1,eP] at k1
  rw[e2,eP] at k2
  exact⟨k1,k2⟩
 unfold updV betU
 dsimp only
 rw[if_neg (by simpa using h1),if_neg (by simpa using h2),if_neg (by simpa using h3),h4,if_neg (by simpa using hs)]
end
open Go.Ab
variable {r:Rel}
section
open Go.Ab Civ
section
variable {α : Type}
def srtN (l:List (ByteArray×α)):List (ByteArray×α):=l.foldl insN []
def Zro (l:List (ByteArray×α)) (n:ByteArray×α):(insN l n).Perm (n::l):=by
 unfold insN
 refine List.perm_middle.trans ?_
 rw[List.take_append_drop]
def Zjw : ∀ {l acc:List (ByteArray×α)},risN acc->((acc++l).map (·.1)).Nodup->risN (l.foldl insN acc)/\(l.foldl insN acc).Perm (acc++l)
 | [],acc,h,_=>⟨h,by simp⟩
 | n::l,acc,h,hn=>by
  have hp:=Zro acc n
  have hno:hasN acc n.1=false:=by
   rw[Bool.eq_false_iff,ne_eq,Zdc]
   intro hm
   rw[List.map_append,List.map_cons,List.nodup_append] at hn
   exact hn.2.2 n.1 hm n.1 (by simp) rfl
  have hp2:(insN acc n++l).Perm (acc++n::l):=(hp.append_right l).trans (by
   rw[List.cons_append];exact List.perm_middle.symm)
  obtain⟨h1,h2⟩:=Zjw (l:=l) (Zl8 h hno) (((hp2.map (·.1)).nodup_iff).2 hn)
  exact⟨h1,h2.trans hp2⟩
def ZlY {l:List (ByteArray×α)}(h:(l.map (·.1)).Nodup):risN (srtN l):=(Zjw .nil (by simpa using h)).1
def Zeq {l:List (ByteArray×α)}(h:(l.map (·.1)).Nodup):(srtN l).Perm l:=(Zjw (l:=l) (acc:=[]) .nil (by simpa using h)).2
def ZvY {l m:List (ByteArray×α)}(h:(l.map (·.1)).Nodup) (hp:l.Perm m) (x:ByteArray):ZaP l x=ZaP m x:=by
 have key : ∀ {l:List (ByteArray×α)} {t:α},(l.map (·.1)).Nodup->(x,t)∈l->ZaP l x=some t:=by
  intro l t
  induction l with
  | nil=>intro _ h;cases h
  | cons n l ih =>
   intro hn hm
   rw[List.map_cons,List.nodup_cons] at hn
   rw[ZaP]
   rcases List.mem_cons.1 hm with rfl | hm
   .rw[if_pos rfl]
   .rw[if_neg λe=>hn.1 (by rw[e];exact List.mem_map.2 ⟨_,hm,rfl⟩)];exact ih hn.2 hm
 cases h1:ZaP l x with
 | some t=>exact (key ((hp.map (·.1)).nodup_iff.1 h) (hp.mem_iff.1 (ZcA h1))).symm
 | none=>exact (Zcb.2 λhm=>Zcb.1 h1 ((hp.map (·.1)).mem_iff.2 hm)).symm
def ris_perm {l m:List (ByteArray×α)}(h1:risN l) (h2:risN m) (hp:l.Perm m):l=m:=ZoY h1 h2 λx=>ZvY (Zho h1) hp x
def ZuH {l m:List (ByteArray×α)}(hn:(l.map (·.1)).Nodup) (hp:m.Perm l) (hs:m.Pairwise λa b=>ltS b.1 a.1=false):m=srtN l:=by
 refine ris_perm ?_ (ZlY hn) (hp.trans (Zeq hn).symm)
 have hnm:m.Pairwise λa b=>a.1≠b.1:=(List.pairwise_map (f:=Prod.fst)).1 ((hp.map Prod.fst).nodup_iff.2 hn)
 exact (hs.and hnm).imp λh=>(ZnE h.2).resolve_right (by rw[h.1];simp)
end
def sw (l:Lnk):Lnk:=(l.2,l.1)
def srtL (k:List Lnk):List Lnk:=(srtN (k.map sw)).map sw
def sw_sw:sw ∘ sw=id:=by funext x;rfl
def ZlV (k:List Lnk):(k.map sw).map (·.1)=k.map (·.2):=by rw[List.map_map];rfl
def Zm6 (h:(k.map (·.2)).Nodup):(srtL k).Perm k:=by
 have:=((Zeq (l:=k.map sw) (by rw[ZlV];exact h)).map sw)
 rw[List.map_map,sw_sw,List.map_id] at this
 exact this
def srtL_ris (h:(k.map (·.2)).Nodup):risL2 (srtL k):=by
 have:=ZlY (l:=k.map sw) (by rw[ZlV];exact h)
 exact List.pairwise_map.2 this
def ZuI {m:List Lnk}(hn:(k.map (·.2)).Nodup) (hp:m.Perm k) (hs:m.Pairwise λa b=>ltS b.2 a.2=false):m=srtL k:=by
 have:=ZuH (l:=k.map sw) (m:=m.map sw) (by rw[ZlV];exact hn) (hp.map sw) (List.pairwise_map.2 hs)
 unfold srtL
 rw[<-this,List.map_map,sw_sw,List.map_id]
def mapT (s:Src) (zs:List Zon):List Nam:=zs.map λz=>(z.1,(ofV s z).1)
def errT (s:Src) (zs:List Zon):Int:=Zbk (λz=>(ofV s z).2) zs
def Zfo (s:Src):Rel×Int:=if ZbG s≠0 then (rel0,ZbG s) else if errT s (srtN s.2.1)≠0 then (rel0,errT s (srtN s.2.1)) else ((mapT s (srtN s.2.1),srtL s.2.2),0)
def Zsp (s:Src) (zs:List Zon):(mapT s zs).map (·.1)=zs.map (·.1):=by unfold mapT;rw[List.map_map];rfl
def make_ok {s:Src}(h:(Zfo s).2=0):ZbG s=0/\errT s (srtN s.2.1)=0/\(Zfo s).1=(mapT s (srtN s.2.1),srtL s.2.2):=by
 unfold Zfo at h ⊢
 split at h
 .rename_i h1;exact absurd h h1
 rename_i h1
 split at h
 .rename_i h2;exact absurd h h2
 rename_i h2
 rw[if_neg h1,if_neg h2]
 exact⟨Decidable.of_not_not h1,Decidable.of_not_not h2,rfl⟩
def Zgq {s:Src}(h:ZbG s=0):(s.2.1.map (·.1)).Nodup/\(s.2.2.map (·.2)).Nodup /\ ∀ a∈s.2.1.map (·.1),∀ b∈s.2.2.map (·.2),a≠b:=by
 have:=(ZhJ h).2.1
 unfold Zdi at this
 rw[List.nodup_append] at this
 exact this
def Zvw {z:List Zon}(h:¬Zeu z nm<0):nm∈z.map (·.1):=by
 unfold Zeu at h
 rw[Zjv] at h
 simp only[Bool.not_eq_false,List.any_eq_true,decide_eq_true_eq] at h
 obtain⟨x,hx,e⟩:=h
 exact List.mem_map.2 ⟨x,hx,e⟩
def Zsq {s:Src}(h:(Zfo s).2=0):ZaQ (Zfo s).1=0:=by
 obtain⟨h1,h2,h3⟩:=make_ok h
 obtain⟨n1,n2,n3⟩:=Zgq h1
 obtain⟨hE,_,hM,_,_⟩:=ZhJ h1
 obtain⟨_,q2,q3,_,_,q6,q7⟩:=ZdZ hE
 have hp:=Zeq n1
 have hpl:=Zm6 n2
 rw[h3]
 unfold ZaQ
 have hnm:=Zsp s (srtN s.2.1)
 have hle:(mapT s (srtN s.2.1)).length=s.2.1.length:=by unfold mapT;rw[List.length_map,hp.length_eq]
 have hr:risN (mapT s (srtN s.2.1)):=Zng (l:=(srtN s.2.1).map λz=>(z.1,(ofV s z).1)) (by
  show List.Pairwise _ _
  rw[List.pairwise_map];exact ZlY n1) rfl
 have hhas : ∀ x,hasN (mapT s (srtN s.2.1)) x=true↔x∈s.2.1.map (·.1):=λx=>by rw[Zdc,hnm,(hp.map (·.1)).mem_iff]
 rw[if_neg (by rw[hle];show ¬(_\/20<(srtL s.2.2).length);rw[hpl.length_eq];omega)]
 have hc:chkN none (mapT s (srtN s.2.1))=0:=ZwP (λn hn=>by
  unfold mapT at hn
  obtain⟨z,hz,rfl⟩:=List.mem_map.1 hn
  have hz':=hp.mem_iff.1 hz
  refine⟨?_,?_⟩
  .have:=q6 z hz'
   unfold Zi1 at this
   split at this
   .cases this
   .rename_i hh;exact Decidable.byContradiction λhb=>hh (.inl hb)
  .exact Zuy (ZcO h2 z hz)) hr λn hn=>rfl
 rw[if_neg (by simpa using hc)]
 refine ZwS (λl hl=>?_) (srtL_ris n2) λn hn=>rfl
 have hl':=hpl.mem_iff.1 hl
 have hk:=q7 l hl'
 refine⟨?_,?_,?_⟩
 .unfold Zjp at hk
  split at hk
  .cases hk
  .rename_i hh;exact (Decidable.of_not_not hh).2
 .rw[Bool.eq_false_iff,ne_eq,hhas]
  exact λhm=>n3 _ hm l.2 (List.mem_map.2 ⟨l,hl',rfl⟩) rfl
 .rw[hhas]
  unfold Zjj at hM
  rw[Bool.or_eq_false_iff] at hM
  have:=List.any_eq_false.1 hM.1 l hl'
  exact Zvw (by simpa using this)
end
section
open Go.Ab Go.RowKit Civ
attribute [local simp] Zbl Zbq
abbrev namC (n:Nam):List AV:=[sv n.1,iv n.2.1.1,iv n.2.1.2.1,sv n.2.1.2.2,chS n.2.2]
def Zcz {n:Nat}(l:List Nam):AV.ltL n (rows namC l)=true:=ZcV (λn x=>by simp[AV.ltL,AV.lt,Zbl]) l
attribute [local simp] Zcz
def ZaC : ∀ x,(namC x).length=5:=λ_=>rfl
def Zba (l:List Nam):(rows namC l).length=l.length*5:=Zbp ZaC l
def ZiS (l:List Nam):(rows namC l).all leaf=true:=ZdU (λ_=>rfl) l
abbrev nptC (p:NPt):List AV:=[sv p.1,iv p.2.1.1,iv p.2.1.2.1,sv p.2.1.2.2,iv p.2.2.1,iv p.2.2.2.1,chS p.2.2.2.2]
def Zgb {n:Nat}(l:List NPt):AV.ltL n (rows nptC l)=true:=ZcV (λn x=>by simp[AV.ltL,AV.lt,Zbl]) l
attribute [local simp] Zgb
def Zea : ∀ x,(nptC x).length=7:=λ_=>rfl
def Zhu (l:List NPt):(rows nptC l).length=l.length*7:=Zbp Zea l
abbrev relC (r:Rel):List AV:=[.sl r.1.length 5 false (rows namC r.1),.sl r.2.length 2 false (rows lnkC r.2)]
def Znv (n:Nam):Prop:=n.1.size<=maxLen/\okT n.2
def Zfd (r:Rel):Prop:=(∀ n∈r.1,Znv n) /\ ∀ l∈r.2,l.1.size<=maxLen/\l.2.size<=maxLen
section
def Zke :(a0::a1::a2::a3::a4::l).take 5=[a0,a1,a2,a3,a4]:=rfl
def ZtX {c4:AV}:setCells (a0::a1::a2::a3::a4::l) 0 [c0,c1,c2,c3,c4]=c0::c1::c2::c3::c4::l:=rfl
def ZtW :((a0::a1::a2::a3::a4::l).drop 1).take 4=[a1,a2,a3,a4]:=rfl
def ZxK :(a0::a1::l).take 2=[a0,a1]:=rfl
def ZtY :setCells (a0::a1::l) 0 [c0,c1]=c0::c1::l:=rfl
end
def k133:=Kx 133 []
def k88:=Kx 88 []
def k103:=Kx 103 []
def k102:=Kx 102 []
def k48:=Kx 48 []
def k13:=Kx 13 [.e [] 14 [],.e [] 15 []]
def Zv8 {a:ByteArray}:Ac 133 [sv a] h (bv false):=by
 refine tI' k133 λN hn _ _ hbd=>?_
 simp only[tb'] at hbd ⊢
 refine wk'<|wm<|mw<|Vw (Zd2 lk lk)<|mr<|?_
 refine Zae rz<|rT'<|?_
 refine bvx ?_;simp
def ZwA {a b:ByteArray}:Ac 88 [sv a,sv b] h (iv (cmpS a b)):=by
 refine tI' k88 λN hn _ _ hbd=>?_
 simp only[tb'] at hbd ⊢
 refine wk'<|wm<|Zac mp (Zv8) pt<|ms<|wr'<|?_
 refine mw<|Zac mp (Zv8) pt<|ms<|Zab<|wk'<|ZaV lk<|za<|?_
 refine Zab<|wk'<|ZaV lk<|za<|Zab<|wm<|mw<|?_
 refine Vw (v_lssS lk lk)<|sn'<|?_
 refine ZaA lk (λhc4=>?_) (λhc4=>?_)
 .have hl:ltS a b=true:=hc4
  refine wo<|Zah<|Zae rz<|rT'<|?_
  refine ivx ?_;unfold cmpS;rw[if_pos hl]
 have hl:ltS a b=false:=hc4
 refine za<|Zab<|wm<|mw<|Vw (v_gtrS lk lk)<|sn'<|?_
 refine ZaA lk (λhc5=>?_) (λhc5=>?_)
 .have hg:ltS b a=true:=by have:=hc5;rwa [Zjq,Bool.not_not] at this
  refine wo<|Zah<|Zae rz<|rT'<|?_
  refine ivx ?_;unfold cmpS;rw[if_neg (by rw[hl];simp),if_pos hg]
 have hg:ltS b a=false:=by have:=hc5;rwa [Zjq,Bool.not_not] at this
 refine za<|wo<|Zae rz<|rT'<|?_
 refine ivx ?_;unfold cmpS;rw[if_neg (by rw[hl];simp),if_neg (by rw[hg];simp)]
def Znp {n:Nam}:Ac 103 [.agg (namC n),sv nm] h (iv (cmpS n.1 nm)):=by
 refine tI' k103 λN hn _ _ hbd=>?_
 simp only[tb'] at hbd ⊢
 refine wr'<|E' (ZaM cv rfl hl0 ha0) pt<|ms<|wr'<|fq<|Vw (Zaa lk gx gt0)<|mw<|Zac mp (ZwA) pt<|mw<|Zam<|?_
 exact Zan<|Zbh<|Zae rz<|rT' rfl
def mid_val {j:Nat}(h:i+j<=4611686018427387904):IntKind.i64.wrap ((IntKind.u64.wrap ((i:Int)+(j:Int))).fdiv (2 ^ (min (1:Int).toNat IntKind.u64.bits)))=(((i+j)/2:Nat):Int):=by
 have e1:IntKind.u64.wrap ((i:Int)+(j:Int))=(i:Int)+(j:Int):=by
  have h2:((i:Int)+j)%2 ^ 64=(i:Int)+j:=Int.emod_eq_of_lt om om
  show (let r:=((i:Int)+j)%2 ^ 64;if (false&&decide (r>=2 ^ 63))=true then r-2 ^ 64 else r)=_
  simp only[Bool.false_and,Bool.false_eq_true,if_false]
  exact h2
 have e2:(2:Int) ^ (min (1:Int).toNat IntKind.u64.bits)=2:=by decide
 rw[e1,e2,Int.fdiv_eq_ediv_of_nonneg _ om,w64 om om]
 omega
def low_of {t:List Nam}(hr:risN t) {q k:Nat}(hq:q<t.length) (h:ltS t[q].1 nm=true) (hk:k<=q):ltS (t[k]'(by omega)).1 nm=true:=by
 rcases Nat.lt_or_ge k q with e | e
 .exact Zin (List.pairwise_iff_getElem.1 hr _ _ om hq e) h
 obtain rfl:k=q:=by omega
 exact h
def high_of {t:List Nam}(hr:risN t) {nm:ByteArray}{q k:Nat}(hk:k<t.length) (hq:q<=k) (h:ltS (t[q]'(by omega)).1 nm=false):ltS t[k].1 nm=false:=by
 rcases Nat.lt_or_ge q k with e | e
 .cases h1:ltS t[k].1 nm with
  | false=>rfl
  | true=>rw[Zin (List.pairwise_iff_getElem.1 hr _ _ om hk e) h1] at h;cases h
 obtain rfl:q=k:=by omega
 exact h
def Zw1 {t:List Nam}{full:Bool}(hr:risN t) (hl:t.length<=4000000000000) :
  Ac 102 [.sl t.length 5 full (rows namC t),sv nm,.v (.func (.func 103) #[] #[])] h (.tup [iv (posN t nm),bv (hasN t nm)]):=by
 refine tI' k102 λN hn hlt _ hbd=>?_
 simp only[tb'] at hbd ⊢
 refine wm<|ms<|wm<|Vw (Zaz lk)<|ms<|Zab<|?_
 refine Zao<|mw<|mw<|ms<|Zab<|Zag<|?_
 refine w_lp (ι:=Nat×Nat) (λ⟨i,j⟩=>[(9,iv (i:Int)),(10,iv (j:Int)),(11,.any)]++rn' 15 20) (λ⟨i,j⟩=>[]) (λ⟨i,j⟩=>i<=j/\j<=t.length/\(∀ k (hk:k<t.length),k<i->ltS t[k].1 nm=true) /\ ∀ k (hk:k<t.length),j<=k->ltS t[k].1 nm=false) (λ⟨i,j⟩=>j-i) (⟨0,t.length⟩) (by exact⟨Nat.zero_le _,Nat.le_refl _,λk _ h=>by omega,λk hk h=>by omega⟩) ?_
 rintro⟨i,j⟩ hi1
 try simp only[sm',Nat.reduceAdd]
 obtain⟨hi1,hi2,hi3,hi4⟩:=hi1
 refine Zab<|wm<|mw<|Vw (ZaJ lk lk)<|sn'<|?_
 refine cd' lk (λhc1=>?_) (λhc1=>?_)
 .have hij:i<j:=by omega
  have hq:(i+j)/2<t.length:=by omega
  refine za<|Zag<|wm<|mw<|?_
  refine V' (Zb0 lk lk om om) pt ?_
  refine V' (v_cvi lk) pt ?_
  refine V' (v_shr lk lki om) pt ?_
  refine V' (v_cvi lk) pt ?_
  rw[mid_val om]
  refine ms<|wm<|mw<|mw<|?_
  refine V' (ZaE (k:=(i+j)/2) lk lk ZaC nb ro om ro rfl) pt ?_
  refine Vw (Zar lk Zke rfl)<|mw<|Zgk lk mp (Znp (n:=t[(i+j)/2])) pt<|Vw (ZaJ lk lki)<|sn'<|?_
  refine cd' lk (λhc2=>?_) (λhc2=>?_)
  .have hlt:ltS t[(i+j)/2].1 nm=true:=Zee.1 hc2
   refine Zao<|mw<|?_
   refine ad<|mw<|Zam<|Zau<|Zaw<|?_
   refine lU' (⟨(i+j)/2+1,j⟩) (by (try dsimp only);exact⟨by omega,hi2,λk hk h=>low_of hr hq hlt om,hi4⟩) (by refine zz ?_;exact ALe.same (by repeat (first | exact wk0 | refine wka ?_ | refine wk1 rfl ?_ | refine wk1 (by first | rfl | exact ivx om) ?_)) rfl)
  have hlt:ltS t[(i+j)/2].1 nm=false:=by rw[Bool.eq_false_iff,ne_eq,<-Zee];exact hc2
  refine Zao<|mw<|mw<|Zam<|Zau<|Zaw<|?_
  refine lU' (⟨i,(i+j)/2⟩) (by (try dsimp only);exact⟨by omega,by omega,hi3,λk hk h=>high_of hr hk h hlt⟩) (by refine zz ?_;exact ALe.same (by repeat (first | exact wk0 | refine wka ?_ | refine wk1 rfl ?_ | refine wk1 (by first | rfl | exact ivx om) ?_)) rfl)
 obtain rfl:i=j:=by omega
 have hpos:posN t nm=i:=pos_is hi2 hi3 hi4
 refine Zax<|Zas<|Zas<|ZaK<|Zan<|wm<|mw<|mw<|Vw (ZaJ lk lk)<|mw<|?_
 refine sp' (t:=39) gt pt pt (λhg39=>?_) (λhg39=>?_)
 .have hi:i<t.length:=by omega
  have hhas:hasN t nm=decide (t[i].1=nm):=by rw[Bool.eq_iff_iff,Zvt hr,decide_eq_true_iff];constructor;(rintro⟨h1,h2⟩;simpa only [hpos] using h2);(intro h2;exact⟨by rw[hpos];exact hi,by simpa only [hpos] using h2⟩)
  refine sd<|mw<|sd<|mw<|sd<|mw<|sd<|?_
  refine V' (ZaE (k:=i) lk lk ZaC nb ro om ro rfl) pt ?_
  refine sd<|Vw (Zar lk Zke rfl)<|sd<|mw<|sd<|Zgk lk mp (Znp (n:=t[i])) pt<|sd<|Vw (Za0 lk lki)<|Vw (Zaj lk lk)<|mw<|mr<|?_
  refine Zae ry<|rT'<|?_
  rw[hpos,hhas];refine congrArg (λb=>AV.tup [iv (i:Int),bv b]) ?_;rw[Bool.eq_iff_iff,decide_eq_true_iff,decide_eq_true_iff];exact ZwG
 have hhas:hasN t nm=false:=by rw[Bool.eq_false_iff,ne_eq,Zvt hr];rintro⟨h1,_⟩;omega
 refine so<|so<|so<|so<|so<|so<|so<|so<|Vw (Zak lk lkb)<|mw<|mr<|?_
 refine Zae ry<|rT'<|?_
 rw[hpos,hhas]
def Zhr {t:List Nam}{full:Bool}(hr:risN t) (hl:t.length<=4000000000000) :
  Ac 48 [.sl t.length 5 full (rows namC t),sv nm] h (.tup [iv (posN t nm),bv (hasN t nm)]):=by
 refine tI' k48 λN hn _ _ hbd=>?_
 simp only[tb'] at hbd ⊢
 refine wm<|ms<|wm<|mw<|Zac mp (Zw1 hr hl) pt<|Vw (ZaS lk gt)<|Vw (ZaS lk gt)<|mw<|?_
 exact mr<|Zae ry<|rT' rfl
def Ze1 (h:20<r.1.length\/20<r.2.length):ZaQ r=2:=if_pos h
def Zc5 (h:¬(20<r.1.length\/20<r.2.length)) (h2:chkN none r.1≠0):ZaQ r=chkN none r.1:=by unfold ZaQ;rw[if_neg h,if_pos h2]
def Zit (h:¬(20<r.1.length\/20<r.2.length)) (h2:chkN none r.1=0):ZaQ r=chkL r.1 none r.2:=by unfold ZaQ;rw[if_neg h,if_neg (by simpa using h2)]
def Zij {t:List Nam}{f1 f2:Bool}(hok:Zfd (t,k)):Ac 13 [.agg [.sl t.length 5 f1 (rows namC t),.sl k.length 2 f2 (rows lnkC k)]] h (iv (ZaQ (t,k))):=by
 refine tI' k13 λN hn hlt _ hbd=>?_
 simp only[tb'] at hbd ⊢
 refine wr'<|E' (ZaM cv rfl hl0 ha0) pt<|ms<|Zab<|wr'<|fq<|Vw (Zaa lk gx gt0)<|Vw (Zaz lk)<|Vw (Zbr lk lki)<|mw<|?_
 refine sp' (t:=16) gt pt pt (λhg16=>?_) (λhg16=>?_)
 .have hR:ZaQ (t,k)=2:=Ze1 (.inl (by show 20<t.length;omega))
  refine so<|so<|so<|so<|Vw (Zaj lk lkb)<|sn'<|Za6 lk<|wo<|?_
  refine Zah<|Zae rz<|rT'<|?_
  rw[hR]
 refine sd<|fq<|sd<|Vw (Zaa lk gx gt1)<|sd<|Vw (Zaz lk)<|sd<|Vw (Zbr lk lki)<|Vw (Zak lk lk)<|sn'<|?_
 refine cd' lk (λhc1=>?_) (λhc1=>?_)
 .have hR:ZaQ (t,k)=2:=Ze1 (.inr (by show 20<k.length;omega))
  refine wo<|Zah<|Zae rz<|rT'<|?_
  rw[hR]
 have hno:¬(20<t.length\/20<k.length):=by omega
 refine za<|Zab<|wr'<|fq<|Vw (Zaa lk gx gt0)<|Vw (Zaz lk)<|ms<|Zag<|?_
 refine w_lp (ι:=Nat) (λ(i:Nat)=>[(25,iv (i:Int))]++rn' 2 4++rn' 26 29) (λ(i:Nat)=>[]) (λ(i:Nat)=>i<=t.length/\chkN none t=chkN (ZdV (·.1) t i) (t.drop i)) (λ(i:Nat)=>t.length-i) (0) (by exact⟨Nat.zero_le _,rfl⟩) ?_
 rintro i hi1
 try simp only[sm',Nat.reduceAdd]
 obtain⟨hi1,hi2⟩:=hi1
 refine wr'<|Vw (ZaJ lk lk)<|sn'<|Zab<|?_
 refine cd' lk (λhc2=>?_) (λhc2=>?_)
 .have hi:i<t.length:=by omega
  have hn_:=hok.1 _ (List.getElem_mem hi)
  rw[ZwQ hi] at hi2
  refine za<|Zab<|Zag<|wm<|?_
  refine V' (ZaE lk lk ZaC nb ro om ro rfl) pt ?_
  refine Vw (Zar lk Zke rfl)<|E' (ZaR hl1 ha1) pt<|mw<|E' (Zai lk cv gx rfl nb rfl ZtX hs1) ptn<|sn'<|Zab<|wr'<|fq<|Vw (Zaa lk gx gt0)<|Zac mp (Zji hn_.1) pt<|Vw (ZaF lk)<|Zam<|?_
  refine Zan ?_
  refine ZaA lk (λhc3=>?_) (λhc3=>?_)
  .have hb:Zb2 t[i].1=false:=by simpa using hc3
   rw[if_pos hb] at hi2
   refine wo<|Zah<|Zap<|Zah<|Zah<|Zap<|Zah<|Zae rz<|rT'<|?_
   rw[Zc5 (r:=(t,k)) hno (by rw[hi2];decide),hi2]
  have hb:Zb2 t[i].1=true:=by simpa using hc3
  rw[if_neg (by rw[hb];simp)] at hi2
  refine za<|Zab<|wr'<|fq<|Vw (Zad lk gx ZtW rfl)<|Zac mp (ZwX (l:=t[i].2.2) hn_.2.1 hn_.2.2) pt<|ms<|wm<|?_
  refine Vw (ZaY lk lki)<|sn'<|?_
  refine cd' lk (λhc4=>?_) (λhc4=>?_)
  .have hv:Za3 t[i].2≠0:=hc4
   rw[if_pos hv] at hi2
   refine wm<|mr<|Zah<|Zap<|Zah<|Zah<|Zap<|Zah<|Zae rz<|?_
   refine rT' ?_
   rw[Zc5 (r:=(t,k)) hno (by rw[hi2];exact hv),hi2]
  have hv:¬Za3 t[i].2≠0:=hc4
  rw[if_neg hv] at hi2
  refine za<|Zab<|ZaD<|Dw vm<|Dw (Zbr lk lki)<|Dw vm<|?_
  refine dq' (t:=42) gt pt pt (λhg42=>?_) (λhg42=>?_)
  .have hp:ZdV (·.1) t i=some (t[i-1]'(by omega)).1:=by have:=ZdG (f:=(·.1)) (l:=t) (i:=i-1) om;rwa [show i-1+1=i by omega] at this
   refine dO<|dg<|dO<|Dw (Zaa lk gx gt0)<|dO<|dg<|dO<|Dw (Zaa lk gx gt0)<|dO<|Dw vm<|dO<|?_
   refine D' (Za2 lk lki om om) pt ?_
   refine d_do gt ?_
   refine D' (ZaE (k:=i-1) lk lk ZaC nb ro om ro rfl) pt ?_
   refine dO<|Dw (ZaZ lk dp0)<|dO<|Dw (Zav lk gt)<|dO<|Dw (v_leqS lk lk)<|Dw (Zaj lk lk)<|ZaH<|?_
   refine ZaU ?_
   refine sn' ?_
   refine ZaA lk (λhc5=>?_) (λhc5=>?_)
   .have hA:Zci (ZdV (·.1) t i) t[i].1=false:=by rw[hp];have:=hc5;rw[Zjq,Bool.not_eq_true'] at this;exact this
    rw[if_pos hA] at hi2
    refine wo<|Zap<|Zah<|Zah<|Zap<|Zah<|Zae rz<|rT'<|?_
    rw[Zc5 (r:=(t,k)) hno (by rw[hi2];decide),hi2]
   have hA:Zci (ZdV (·.1) t i) t[i].1=true:=by rw[hp];have:=hc5;rw[Zjq,Bool.not_eq_false'] at this;exact this
   refine Zay<|Zau<|Zan<|Zao<|?_
   refine ad<|mw<|Zam<|Zaw<|?_
   refine lU' (i+1) (by (try dsimp only);exact⟨by omega,by rw[hi2,if_neg (by rw[hA];simp)]⟩) (by refine zz ?_;exact bk' 1 hn hlt)
  have hA:Zci (ZdV (·.1) t i) t[i].1=true:=by obtain rfl:i=0:=om;rfl
  refine dn<|dn<|dn<|dn<|dn<|dn<|dn<|dn<|dn<|dn<|Dw (Zak lk lkb)<|ZaH<|?_
  refine ZaU ?_
  refine sn'<|ZaV lk<|Zay<|Zau<|Zan<|Zao<|?_
  refine ad<|mw<|Zam<|Zaw<|?_
  refine lU' (i+1) (by (try dsimp only);exact⟨by omega,by rw[hi2,if_neg (by rw[hA];simp)]⟩) (by refine zz ?_;exact bk' 1 hn hlt)
 rw[List.drop_of_length_le (show t.length<=i by omega)] at hi2
 have hN:chkN none t=0:=by rw[hi2];rfl
 have hC:=Zit (r:=(t,k)) hno hN
 obtain⟨_,hr,_⟩:=ZpH hN
 have hr':risN t:=hr
 refine Zax<|Zas<|Zas<|ZaK<|Zan<|Zab<|wr'<|fq<|Vw (Zaa lk gx gt1)<|Vw (Zaz lk)<|ms<|?_
 refine Zag ?_
 refine w_lp (ι:=Nat) (λ(j:Nat)=>[(58,iv (j:Int)),(2,.any)]++rn' 6 6++rn' 59 46) (λ(j:Nat)=>[]) (λ(j:Nat)=>j<=k.length/\chkL t none k=chkL t (ZdV (·.2) k j) (k.drop j)) (λ(j:Nat)=>k.length-j) (0) (by exact⟨Nat.zero_le _,rfl⟩) ?_
 rintro j hi2
 try simp only[sm',Nat.reduceAdd]
 obtain⟨hj1,hj2⟩:=hi2
 refine wr'<|Vw (ZaJ lk lk)<|sn'<|Zab<|?_
 refine cd' lk (λhc6=>?_) (λhc6=>?_)
 .have hj:j<k.length:=by omega
  have hln:=hok.2 _ (List.getElem_mem hj)
  rw[ZwT hj] at hj2
  refine za<|Zab<|Zag<|wm<|?_
  refine V' (ZaE lk lk Zbe nb ro om ro rfl) pt ?_
  refine Vw (Zar lk ZxK rfl)<|E' (ZaR hl1 ha1) pt<|mw<|E' (Zai lk cv gx rfl nb rfl ZtY hs1) ptn<|sn'<|wr'<|fq<|Vw (Zaa lk gx gt0)<|fq<|Vw (Zaa lk gx gt1)<|?_
  refine Zac mp (Zhr hr' om) pt ?_
  refine mw<|Vw (ZaS lk gt)<|Vw (ZaS lk gt)<|mw<|ms<|wr'<|fq<|Vw (Zaa lk gx gt0)<|fq<|Vw (Zaa lk gx gt0)<|?_
  refine Zac mp (Zhr hr' om) pt ?_
  refine mw<|Vw (ZaS lk gt)<|Vw (ZaS lk gt)<|mw<|ms<|Zag<|wr'<|fq<|Vw (Zaa lk gx gt1)<|Zac mp (Zji hln.2) pt<|Vw (ZaF lk)<|?_
  refine ms<|?_
  refine ZaA lk (λhc7=>?_) (λhc7=>?_)
  .have hb:Zb2 k[j].2=false:=by simpa using hc7
   rw[if_pos hb] at hj2
   refine wo<|Zap<|Zap<|Zah<|Zah<|Zap<|Zah<|Zae rz<|rT'<|?_
   rw[hC];exact ivx hj2.symm
  have hb:Zb2 k[j].2=true:=by simpa using hc7
  rw[if_neg (by rw[hb];simp)] at hj2
  refine Zab<|ZaD<|Dw vm<|Dw (Zbr lk lki)<|Dw vm<|?_
  refine dq' (t:=87) gt pt pt (λhg87=>?_) (λhg87=>?_)
  .have hp:ZdV (·.2) k j=some (k[j-1]'(by omega)).2:=by have:=ZdG (f:=(·.2)) (l:=k) (i:=j-1) om;rwa [show j-1+1=j by omega] at this
   refine dO<|dg<|dO<|Dw (Zaa lk gx gt1)<|dO<|dg<|dO<|Dw (Zaa lk gx gt1)<|dO<|Dw vm<|dO<|?_
   refine D' (Za2 lk lki om om) pt ?_
   refine d_do gt ?_
   refine D' (ZaE (k:=j-1) lk lk Zbe nb ro om ro rfl) pt ?_
   refine dO<|Dw (ZaZ lk dp1)<|dO<|Dw (Zav lk gt)<|dO<|Dw (v_leqS lk lk)<|Dw (Zaj lk lk)<|Dw vm<|ZaH<|?_
   refine ZaU ?_
   refine sn' ?_
   refine ZaA lk (λhc8=>?_) (λhc8=>?_)
   .have hA:Zci (ZdV (·.2) k j) k[j].2=false:=by rw[hp];have:=hc8;rw[Zjq,Bool.not_eq_true'] at this;exact this
    rw[if_pos hA] at hj2
    refine wo<|Zap<|Zap<|Zah<|Zah<|Zap<|Zah<|Zae rz<|rT'<|?_
    rw[hC];exact ivx hj2.symm
   have hA:Zci (ZdV (·.2) k j) k[j].2=true:=by rw[hp];have:=hc8;rw[Zjq,Bool.not_eq_false'] at this;exact this
   refine wm<|ms<|?_
   refine ZaA lk (λhc9=>?_) (λhc9=>?_)
   .rw[if_neg (by rw[hA];simp),if_pos hc9] at hj2
    refine wo<|Zap<|Zap<|Zah<|Zah<|Zap<|Zah<|Zae rz<|rT'<|?_
    rw[hC];exact ivx hj2.symm
   rw[if_neg (by rw[hA];simp),if_neg (by rw[hc9];simp)] at hj2
   refine wm<|Vw (ZaF lk)<|ms<|?_
   refine ZaA lk (λhc10=>?_) (λhc10=>?_)
   .rw[if_pos (by simpa using hc10)] at hj2
    refine wo<|Zap<|Zap<|Zah<|Zah<|Zap<|Zah<|Zae rz<|rT'<|?_
    rw[hC];exact ivx hj2.symm
   rw[if_neg (by simpa using hc10)] at hj2
   refine Zay<|Zau<|Zau<|Zan<|Zao<|?_
   refine ad<|mw<|Zam<|Zaw<|?_
   refine lU' (j+1) (by (try dsimp only);exact⟨by omega,hj2⟩) (by refine zz ?_;exact bk' 1 hn hlt)
  have hA:Zci (ZdV (·.2) k j) k[j].2=true:=by obtain rfl:j=0:=om;rfl
  refine dn<|dn<|dn<|dn<|dn<|dn<|dn<|dn<|dn<|dn<|Dw (Zak lk lkb)<|Dw vm<|ZaH<|?_
  refine ZaU ?_
  refine sn'<|ZaV lk<|wm<|ms<|?_
  refine ZaA lk (λhc9=>?_) (λhc9=>?_)
  .rw[if_neg (by rw[hA];simp),if_pos hc9] at hj2
   refine wo<|Zap<|Zap<|Zah<|Zah<|Zap<|Zah<|Zae rz<|rT'<|?_
   rw[hC];exact ivx hj2.symm
  rw[if_neg (by rw[hA];simp),if_neg (by rw[hc9];simp)] at hj2
  refine wm<|Vw (ZaF lk)<|ms<|?_
  refine ZaA lk (λhc10=>?_) (λhc10=>?_)
  .rw[if_pos (by simpa using hc10)] at hj2
   refine wo<|Zap<|Zap<|Zah<|Zah<|Zap<|Zah<|Zae rz<|rT'<|?_
   rw[hC];exact ivx hj2.symm
  rw[if_neg (by simpa using hc10)] at hj2
  refine Zay<|Zau<|Zau<|Zan<|Zao<|?_
  refine ad<|mw<|Zam<|Zaw<|?_
  refine lU' (j+1) (by (try dsimp only);exact⟨by omega,hj2⟩) (by refine zz ?_;exact bk' 1 hn hlt)
 rw[List.drop_of_length_le (show k.length<=j by omega)] at hj2
 refine Zax<|Zas<|Zas<|ZaK<|Zan<|wo<|Zae rz<|rT'<|?_
 rw[hC];exact ivx hj2.symm
end
section
open Go.Ab Go.RowKit Civ
attribute [local simp] Zbl Zcz Zbq Zgb ZcM
section
def ZmN {τ:Operand->AV}:Zal τ [] []=some []:=rfl
def Zqk {τ:Operand->AV}:Zal τ [] []=some []:=rfl
def Zh5 :((a0::a1::a2::l).drop 0).take 3=[a0,a1,a2]:=rfl
def ZtV {τ:Operand->AV}{y0 y1:Operand}{x0_0 x0_1 x0_2 x1_0:AV}(h0:Zaq (τ y0)=some [x0_0,x0_1,x0_2]) (l0:[x0_0,x0_1,x0_2].all leaf=true) (h1:Zaq (τ y1)=some [x1_0]) (l1:[x1_0].all leaf=true):Zal τ [(0,3,y0),(3,1,y1)] [(iv 0),(iv 0),(.v (.string ⟨#[]⟩)),(.sl 0 0 true [])]=some [x0_0,x0_1,x0_2,x1_0]:=by
 simp only[Zal,h0,l0,h1,l1]
 rfl
def ZbZ :setCells (a0::a1::a2::a3::l) 0 [c0,c1,c2,c3]=c0::c1::c2::c3::l:=rfl
def ZbY :((a0::a1::a2::a3::l).drop 0).take 4=[a0,a1,a2,a3]:=rfl
def ZfD :(a0::a1::a2::a3::l).take 4=[a0,a1,a2,a3]:=rfl
def Zoq {a0 b0:Int}{a1 b1:Int}{a2 b2:Int}{a3 b3:ByteArray}:Za7 [.int,.int,.int,.str] [iv a0,iv a1,iv a2,sv a3] [iv b0,iv b1,iv b2,sv b3]=some (decide (a0=b0/\a1=b1/\a2=b2/\a3=b3)):=by
 simp only[Za7,ZcY,if_true,ZbP,Option.some.injEq]
 simp only[Bool.decide_and,Bool.and_true]
 try (congr 1 <;> simp)
 try rfl
def Zqj {a0 b0:Int}{a1 b1:Int}{a2 b2:ByteArray}:Za7 [.int,.int,.str] [iv a0,iv a1,sv a2] [iv b0,iv b1,sv b2]=some (decide (a0=b0/\a1=b1/\a2=b2)):=by
 simp only[Za7,ZcY,if_true,ZbP,Option.some.injEq]
 simp only[Bool.decide_and,Bool.and_true]
 try (congr 1 <;> simp)
 try rfl
def ZlJ :setCells (a0::l) 0 [c0]=c0::l:=rfl
def Zor {τ:Operand->AV}:Zal τ [] [(iv 0),(iv 0),(.v (.string ⟨#[]⟩)),(.sl 0 0 true [])]=some [(iv 0),(iv 0),(.v (.string ⟨#[]⟩)),(.sl 0 0 true [])]:=rfl
def Zdb :((a0::a1::l).drop 0).take 2=[a0,a1]:=rfl
def Zql {τ:Operand->AV}:Zal τ [] [(iv 0),(iv 0),(.v (.string ⟨#[]⟩)),(.sl 0 0 true [])]=some [(iv 0),(iv 0),(.v (.string ⟨#[]⟩)),(.sl 0 0 true [])]:=rfl
def Zos {τ:Operand->AV}:Zal τ [] [(iv 0),(iv 0),(.v (.string ⟨#[]⟩)),(.sl 0 0 true [])]=some [(iv 0),(iv 0),(.v (.string ⟨#[]⟩)),(.sl 0 0 true [])]:=rfl
def ZkD {τ:Operand->AV}{y0:Operand}{x0_0:AV}(h0:Zaq (τ y0)=some [x0_0]) (l0:[x0_0].all leaf=true):Zal τ [(3,1,y0)] [(.sl 0 0 true []),(.sl 0 0 true []),(.sl 0 0 true []),(.sl 0 0 true [])]=some [(.sl 0 0 true []),(.sl 0 0 true []),(.sl 0 0 true []),x0_0]:=by
 simp only[Zal,h0,l0]
 rfl
def Zj9 :(a0::a1::a2::a3::a4::l).take 5=[a0,a1,a2,a3,a4]:=rfl
def ZlI {c4:AV}:setCells (a0::a1::a2::a3::a4::l) 0 [c0,c1,c2,c3,c4]=c0::c1::c2::c3::c4::l:=rfl
def Zkd {τ:Operand->AV}{y0:Operand}{x0_0:AV}(h0:Zaq (τ y0)=some [x0_0]) (l0:[x0_0].all leaf=true):Zal τ [(0,1,y0)] [(.v (.string ⟨#[]⟩))]=some [x0_0]:=by
 simp only[Zal,h0,l0]
 rfl
def ZxJ :(a0::l).take 1=[a0]:=rfl
def Zh4 :((a0::a1::a2::a3::a4::l).drop 1).take 4=[a1,a2,a3,a4]:=rfl
def Zkc {τ:Operand->AV}{y0 y1:Operand}{x0_0 x1_0 x1_1 x1_2 x1_3:AV}(h0:Zaq (τ y0)=some [x0_0]) (l0:[x0_0].all leaf=true) (h1:Zaq (τ y1)=some [x1_0,x1_1,x1_2,x1_3]) (l1:[x1_0,x1_1,x1_2,x1_3].all leaf=true):Zal τ [(0,1,y0),(1,4,y1)] [(.v (.string ⟨#[]⟩)),(iv 0),(iv 0),(.v (.string ⟨#[]⟩)),(.sl 0 0 true [])]=some [x0_0,x1_0,x1_1,x1_2,x1_3]:=by
 simp only[Zal,h0,l0,h1,l1]
 rfl
def Zkb {τ:Operand->AV}{y0:Operand}{x0_0 x0_1 x0_2 x0_3 x0_4:AV}(h0:Zaq (τ y0)=some [x0_0,x0_1,x0_2,x0_3,x0_4]) (l0:[x0_0,x0_1,x0_2,x0_3,x0_4].all leaf=true):Zal τ [(0,5,y0)] [(.v (.string ⟨#[]⟩)),(iv 0),(iv 0),(.v (.string ⟨#[]⟩)),(.sl 0 0 true [])]=some [x0_0,x0_1,x0_2,x0_3,x0_4]:=by
 simp only[Zal,h0,l0]
 rfl
def Zop { e:Ent}:([]:AH)++[e]=[e]:=rfl
def ZlK {e0 e1 e2 e3 e4 e5 e6 e7 d0:Ent}:([e0,e1,e2,e3,e4,e5,e6,e7]:AH)++[d0]=[e0,e1,e2,e3,e4,e5,e6,e7,d0]:=rfl
def ZtT :setCells (a0::a1::l) 1 [c0]=a0::c0::l:=rfl
def Zka {τ:Operand->AV}{y0 y1:Operand}{x0_0 x1_0 x1_1 x1_2 x1_3 x1_4 x1_5:AV}(h0:Zaq (τ y0)=some [x0_0]) (l0:[x0_0].all leaf=true) (h1:Zaq (τ y1)=some [x1_0,x1_1,x1_2,x1_3,x1_4,x1_5]) (l1:[x1_0,x1_1,x1_2,x1_3,x1_4,x1_5].all leaf=true):Zal τ [(0,1,y0),(1,6,y1)] [(.v (.string ⟨#[]⟩)),(iv 0),(iv 0),(.v (.string ⟨#[]⟩)),(iv 0),(iv 0),(.sl 0 0 true [])]=some [x0_0,x1_0,x1_1,x1_2,x1_3,x1_4,x1_5]:=by
 simp only[Zal,h0,l0,h1,l1]
 rfl
def ZiF {τ:Operand->AV}{y0:Operand}{x0_0 x0_1 x0_2 x0_3 x0_4 x0_5 x0_6:AV}(h0:Zaq (τ y0)=some [x0_0,x0_1,x0_2,x0_3,x0_4,x0_5,x0_6]) (l0:[x0_0,x0_1,x0_2,x0_3,x0_4,x0_5,x0_6].all leaf=true):Zal τ [(0,7,y0)] [(.v (.string ⟨#[]⟩)),(iv 0),(iv 0),(.v (.string ⟨#[]⟩)),(iv 0),(iv 0),(.sl 0 0 true [])]=some [x0_0,x0_1,x0_2,x0_3,x0_4,x0_5,x0_6]:=by
 simp only[Zal,h0,l0]
 rfl
def ZxI {a5 a6:AV}:(a0::a1::a2::a3::a4::a5::a6::l).take 7=[a0,a1,a2,a3,a4,a5,a6]:=rfl
def ZtS :setCells (a0::a1::a2::l) 2 [c0]=a0::a1::c0::l:=rfl
def Zqm {τ:Operand->AV}{y0 y1:Operand}{x0_0 x0_1 x1_0 x1_1:AV}(h0:Zaq (τ y0)=some [x0_0,x0_1]) (l0:[x0_0,x0_1].all leaf=true) (h1:Zaq (τ y1)=some [x1_0,x1_1]) (l1:[x1_0,x1_1].all leaf=true):Zal τ [(0,2,y0),(2,2,y1)] [(.sl 0 0 true []),(.sl 0 0 true []),(.sl 0 0 true []),(.sl 0 0 true [])]=some [x0_0,x0_1,x1_0,x1_1]:=by
 simp only[Zal,h0,l0,h1,l1]
 rfl
def ZtU :setCells (a0::a1::l) 0 [c0,c1]=c0::c1::l:=rfl
def Zot {τ:Operand->AV}:Zal τ [] [(.sl 0 0 true []),(.sl 0 0 true []),(.sl 0 0 true []),(.sl 0 0 true [])]=some [(.sl 0 0 true []),(.sl 0 0 true []),(.sl 0 0 true []),(.sl 0 0 true [])]:=rfl
end
def k70:=Kx 70 []
def k33:=Kx 33 [.e [] 6 [false]]
def c116:AC:=(Sr [Mb 4 false] (.seq (Sr [Mv 6 0,Oo 7 (.len false (t 6)),Mv 8 1,Oo 9 (.len false (t 8)),Bn 10 .neq 7 9] (Cd 10 (Sr [Mb 4 false] .ret) .skip)) (.seq (Sr [Mv 11 0,Oo 12 (.len false (t 11)),Mc 13 0] (.block 0 (.loop (Sr [Bn 14 .lss 13 12] (.seq (Cd 14 .skip (.exit 0)) (.seq (.block 1 (Sr [Mv 15 13,Mv 5 15] (Sd [Mv 16 0,Mv 17 5,Oo 18 (.ia 4 (t 16) (t 17)),Oo 19 (.load true 4 (t 18)),Mv 20 1,Mv 21 5,Oo 22 (.ia 4 (t 20) (t 21)),Oo 23 (.load true 4 (t 22)),Oo 24 (.eqs true [.int,.int,.int,.str] (t 19) (t 23))] (Cd 24 (Sr [Mb 4 false] .ret) .skip)))) (.reg [Bc 25 .add 13 1,Mv 13 25]))))))) (Sr [Mb 4 true] .ret))))
def k116:ZbT Tryz.prog 116=some ⟨c116,[(.tmp 4)],26⟩:=by kernel_rfl
def c71:AC:=(Sr [Oo 2 (.box 34 4 (t 0)),Oo 3 (.box 34 4 (t 1)),Mb 4 false] (Sr [Fa 5 0 2,Oo 6 (.load true 3 (t 5)),Fa 7 0 3,Oo 8 (.load true 3 (t 7)),Oo 9 (.eqs false [.int,.int,.str] (t 6) (t 8)),Mv 10 9,Ot 11 10 (.fa 3 (t 2)),Ot 12 10 (.load false 1 (t 11)),Ot 13 10 (.fa 3 (t 3)),Ot 14 10 (.load false 1 (t 13)),Ot 15 10 (.call (.func 116) [(t 12),(t 14)]),Oo 16 (.pick (t 10) (t 15) (.const (.bool false))),Mv 4 16] .ret))
def k71:ZbT Tryz.prog 71=some ⟨c71,[(.tmp 4)],17⟩:=by kernel_rfl
def k68:=Kx 68 []
def k32:=Kx 32 []
def k5:=Kx 5 []
def k34:=Kx 34 [.e [] 9 [false,false,false],.e [] 11 [],.e [] 15 [false,false,false]]
def k6:=Kx 6 []
def clone_q {l:List Chg}{full:Bool}(hl:l.length<=3518437208883):ACalls Tryz.prog 69 [.sl l.length 4 full (rows chgC l)] h λr h'=>h'=h/\r=.ret (chS l):=by
 refine tW' k69 λN hn _ _ hbd=>?_
 simp only[tb'] at hbd ⊢
 refine wk'<|Zab<|wm<|?_
 refine ZuX lk (λ_=>pt) (λbn3 hbn3=>?_)
 refine sn' ?_
 refine cd' lk (λhc1=>?_) (λhc1=>?_)
 .refine wo<|Zah<|Zae rz<|rtW'<|?_
  have h0:l=[]:=List.eq_nil_of_length_eq_zero ((Nat.eq_zero_or_pos _).resolve_right (λe=>by have:=hbn3 e;rw[hc1] at this;cases this))
  subst h0
  exact Wk.nilF
 refine za<|wr'<|E' (ZcB ZmN hl0 ha0) pt<|mw<|?_
 refine E' (Zby (Zgj lk (Za1 _)) lk gx rfl om (Zef _) hs0) pt ?_
 refine mw<|Zam<|?_
 refine ZaN (ALe.iceN (hga hn rfl) gt2 (show List.take _ _=rows chgC l from by rw[List.nil_append,Nat.zero_add];exact List.take_of_length_le (by rw[Za1];exact Nat.le_refl _)) (by rw[List.nil_append,Nat.zero_add,Za1];exact Nat.le_refl _) (by exact Nat.zero_add _) pt2 hs0) ?_
 refine Zbh<|Zae rz<|rtW'<|?_
 exact Wk.refl _
def Zrj {l:List Lnk}{full:Bool}(hl:l.length<=4398046511104):ACalls Tryz.prog 70 [.sl l.length 2 full (rows lnkC l)] h λr h'=>h'=h/\r=.ret (.sl l.length 2 false (rows lnkC l)):=by
 refine tW' k70 λN hn _ _ hbd=>?_
 simp only[tb'] at hbd ⊢
 refine wk'<|Zab<|wm<|?_
 refine ZuX lk (λ_=>pt) (λbn3 hbn3=>?_)
 refine sn' ?_
 refine cd' lk (λhc1=>?_) (λhc1=>?_)
 .refine wo<|Zah<|Zae rz<|rtW'<|?_
  have h0:l=[]:=List.eq_nil_of_length_eq_zero ((Nat.eq_zero_or_pos _).resolve_right (λe=>by have:=hbn3 e;rw[hc1] at this;cases this))
  subst h0
  exact Wk.nilF
 refine za<|wr'<|E' (ZcB Zqk hl0 ha0) pt<|mw<|?_
 refine E' (Zby (Zgj lk (ZeP _)) lk gx rfl om (Zrh _) hs0) pt ?_
 refine mw<|Zam<|?_
 refine ZaN (ALe.iceN (hga hn rfl) gt2 (show List.take _ _=rows lnkC l from by rw[List.nil_append,Nat.zero_add];exact List.take_of_length_le (by rw[ZeP];exact Nat.le_refl _)) (by rw[List.nil_append,Nat.zero_add,ZeP];exact Nat.le_refl _) (by exact Nat.zero_add _) pt2 hs0) ?_
 refine Zbh<|Zae rz<|rtW'<|?_
 exact Wk.refl _
def ZqM {t:Tab}{full:Bool}(hl:t.2.length<=3518437208883):Ac 33 [.agg [iv t.1.1,iv t.1.2.1,sv t.1.2.2,.sl t.2.length 4 full (rows chgC t.2)]] h (tabA t):=by
 refine tI' k33 λN hn _ _ hbd=>?_
 simp only[tb'] at hbd ⊢
 refine wr'<|E' (ZaM cv rfl hl0 ha0) pt<|E' (ZaR hl1 ha1) pt<|sn'<|Zab<|ZaD<|dg<|Dw (Zad lk gx Zh5 rfl)<|dg<|Dw (Zaa lk gx gt3)<|?_
 refine ZaB mp (λhE hX=>clone_q hl) pt ?_
 refine Dw (Zat (ZtV cv rfl cv rfl))<|ZaH<|?_
 refine ZaU ?_
 exact E' (Zai lk cv gx rfl nb rfl ZbZ hs1) ptn<|sr<|Zae (rs1 (rr_c gt gx (ld1 ZbY rfl)))<|rT' rfl
def equalC_a {l m:List Chg}{f1 f2:Bool}:Ac 116 [.sl l.length 4 f1 (rows chgC l),.sl m.length 4 f2 (rows chgC m)] h (bv (decide (l=m))):=by
 refine tI' k116 λN hn _ _ hbd=>?_
 simp only[tb'] at hbd ⊢
 refine wk'<|Zab<|wm<|Vw (Zaz lk)<|mw<|Vw (Zaz lk)<|Vw (ZaY lk lk)<|Zam<|?_
 refine Zan ?_
 refine cd' lk (λhc1=>?_) (λhc1=>?_)
 .refine wo<|Zah<|Zae rz<|rT'<|?_
  refine bvx (decide_eq_false (λe=>hc1 (by rw[e]))).symm
 refine za<|Zab<|wm<|Vw (Zaz lk)<|ms<|Zag<|?_
 refine w_lp (ι:=Nat) (λ(k:Nat)=>[(13,iv (k:Int)),(4,.any),(5,.any)]++rn' 14 12) (λ(k:Nat)=>[]) (λ(k:Nat)=>k<=l.length/\l.length=m.length/\l.take k=m.take k) (λ(k:Nat)=>l.length-k) (0) (by exact⟨by omega,by omega,by simp⟩) ?_
 rintro k hi1
 try simp only[sm',Nat.reduceAdd]
 obtain⟨hk1,hk2,hk3⟩:=hi1
 refine wr'<|Vw (ZaJ lk lk)<|sn'<|Zab<|?_
 refine cd' lk (λhc2=>?_) (λhc2=>?_)
 .refine za<|Zab<|Zag<|wm<|ms<|Zab<|ZaD<|Dw vm<|Dw vm<|?_
  refine D' (ZaE lk lk ZaT nb ro om ro rfl) pt ?_
  refine Dw (Zar lk ZfD rfl)<|Dw vm<|Dw vm<|?_
  refine D' (ZaE lk lk ZaT nb ro om ro rfl) pt ?_
  refine Dw (Zar lk ZfD rfl)<|Dw (Zga lk lk Zoq)<|ZaH<|?_
  refine ZaU ?_
  refine sn' ?_
  refine cd' lk (λhc3=>?_) (λhc3=>?_)
  .refine wo<|Zap<|Zah<|Zah<|Zap<|Zah<|Zae rz<|rT'<|?_
   refine bvx (decide_eq_false (λe=>hc3 (by subst e;simp))).symm
  refine Zay<|Zau<|Zan<|Zao<|?_
  refine ad<|mw<|Zam<|Zaw<|?_
  refine lT' (k+1) (by (try dsimp only);exact⟨by omega,hk2,Zm1 om om hk3 (ZjH (Decidable.of_not_not hc3))⟩)
 refine Zax<|Zas<|Zas<|ZaK<|Zan<|wo<|Zae rz<|rT'<|?_
 refine bvx (decide_eq_true ?_).symm
 rw[List.take_of_length_le om,List.take_of_length_le om] at hk3
 exact hk3
def rsame_a {t u:Tab}{f1 f2:Bool}:Ac 71 [.agg [iv t.1.1,iv t.1.2.1,sv t.1.2.2,.sl t.2.length 4 f1 (rows chgC t.2)],.agg [iv u.1.1,iv u.1.2.1,sv u.1.2.2,.sl u.2.length 4 f2 (rows chgC u.2)]] h (bv (decide (t=u))):=by
 refine tI' k71 λN hn _ _ hbd=>?_
 simp only[tb'] at hbd ⊢
 refine wr'<|E' (ZaM cv rfl hl0 ha0) pt<|E' (ZaM cv rfl hl1 ha1) pt<|ms<|wr'<|fq<|Vw (Zad lk gx Zh5 rfl)<|fq<|Vw (Zad lk gx Zh5 rfl)<|Vw (Zic lk lk Zqj)<|?_
 refine mv' lk pt ?_
 refine sp' (t:=10) gt pt pt (λhg10=>?_) (λhg10=>?_)
 .have h1:t.1=u.1:=by obtain⟨x1,x2,x3⟩:=hg10;exact Prod.ext x1 (Prod.ext x2 x3)
  refine sd<|fq<|sd<|Vw (Zaa lk gx gt3)<|sd<|fq<|sd<|Vw (Zaa lk gx gt3)<|sd<|Zac mp (equalC_a) pt<|Vw (Zaj lk lk)<|ms<|?_
  refine Zbh<|Zae rz<|rT'<|?_
  refine bvx ?_;rw[Bool.eq_iff_iff,decide_eq_true_iff,decide_eq_true_iff];exact⟨λe=>Prod.ext h1 e,λe=>by rw[e]⟩
 refine so<|so<|so<|so<|so<|Vw (Zak lk lkb)<|mr<|Zae rz<|rT'<|?_
 refine bvx (decide_eq_false λe=>hg10 (by rw[e];exact⟨rfl,rfl,rfl⟩)).symm
def lookR1_a {l:Lnk}{id:Nat}(he:h[id]?=some (.mk 0 9 1 [sv nm])):Ac 68 [.agg (lnkC l),.ptr id 0 0] h (bv (decide (l.2=nm))):=by
 refine tI' k68 λN hn _ _ hbd=>?_
 simp only[tb'] at hbd ⊢
 refine wr'<|E' (ZaM cv rfl hl0 ha0) pt<|ms<|wr'<|fq<|Vw (Zaa lk gx gt1)<|Vw (Zaa lk (Zdj he) gt0)<|Vw (Ze4 lk lk)<|mw<|Zam<|?_
 exact Zan<|Zbh<|Zae rz<|rT' rfl
def ZqT {t:List Nam}(hr:risN t) (h:hasN t nm=true) : ∃ hp:posN t nm<t.length,ZaP t nm=some t[posN t nm].2:=by
 obtain⟨hi,he⟩:=Zip h
 have e:=Zmc hr h
 refine⟨by rw[e];exact hi,?_⟩
 rw[Zmm,List.getElem?_eq_getElem hi]
 simp only[e,Option.map_some]
def tgtR_yes (h:k.findIdx (λl:Lnk=>decide (l.2=nm))<k.length):tgtR k nm=k[k.findIdx λl:Lnk=>decide (l.2=nm)].1:=by
 unfold tgtR;rw[List.getElem?_eq_getElem h]
def tgtR_no (h:¬k.findIdx (λl:Lnk=>decide (l.2=nm))<k.length):tgtR k nm=nm:=by
 unfold tgtR;rw[List.getElem?_eq_none (Nat.le_of_not_lt h)]
def Ze5 (r:Rel) (nm:ByteArray):Tab×Bool:=match ZaP r.1 (tgtR r.2 nm) with
 | none=>(Zdr,false)
 | some t=>(t,true)
def Zrf {t:List Nam}(hb:hasN t nm=false):ZaP t nm=none:=by rw[ZbO] at hb;simpa using hb
def Zv0 {t:List Nam}(hb:hasN t (tgtR k nm)=false):Ze5 (t,k) nm=(Zdr,false):=by
 unfold Ze5;dsimp only;rw[Zrf hb]
def Zw4 {r:List Nam}{n:Nam}(hb:hasN r n.1=false):betF Zb8 r n=none:=by
 unfold betF;rw[Zrf hb]
def Zi3 {e:AV}:Wk (.tup [.agg [.v (.int .i64 0),.v (.int .i64 0),.v (.string ⟨#[]⟩),.sl 0 0 true []],e]) (.tup [tabA Zdr,e]):=Wk.tup (wkw (Wk.agg (wk1 rfl (wk1 rfl (wk1 rfl (wkw Wk.nilF wk0))))) (wk1 rfl wk0))
def lookR_a {t:List Nam}(hr:risN t) (hl:t.length<=1000000) (hk:k.length<=9223372036854775807) :
  Ac 32 [.agg [.sl t.length 5 false (rows namC t),.sl k.length 2 false (rows lnkC k)],sv nm] h (.tup [tabA (Ze5 (t,k) nm).1,bv (Ze5 (t,k) nm).2]):=by
 have hkk:=hk
 refine tW' k32 λN hn _ _ hbd=>?_
 simp only[tb'] at hbd ⊢
 refine wr'<|E' (ZaM cv rfl hl0 ha0) pt<|E' (ZaM cv rfl hl1 ha1) pt<|E' (ZaR hl2 ha2) pt<|ms<|wr'<|fq<|Vw (Zaa lk gx gt1)<|Vw (Zib mp)<|?_
 refine Zac mp (Zrn (p:=λl:Lnk=>decide (l.2=nm)) (λc _ E=>lookR1_a (Zdj gx)) hkk) pt ?_
 refine ms<|?_
 refine Zfg (ι:=Unit) (λ(x:Unit)=>[]++rn' 13 8) (λ(x:Unit)=>[(1,.mk 0 9 1 [sv (tgtR k nm)])]) (λ(x:Unit)=>True) ?_ ?_
 .try simp only[sm',Nat.reduceAdd]
  refine wm<|Vw (Zeo lk lki)<|sn'<|?_
  refine cd' lk (λhc1=>?_) (λhc1=>?_)
  .have hlt':k.findIdx (λl:Lnk=>decide (l.2=nm))<k.length:=by unfold idxV at hc1;split at hc1;assumption;omega
   have hix:idxV (λl:Lnk=>decide (l.2=nm)) k=((k.findIdx λl:Lnk=>decide (l.2=nm):Nat):Int):=if_pos hlt'
   have hT:=tgtR_yes hlt'
   refine Zao<|fq<|Vw (Zaa lk gx gt1)<|mw<|?_
   refine V' (ZaE (k:=k.findIdx λl:Lnk=>decide (l.2=nm)) lk lk Zbe nb ro om ro rfl) pt ?_
   refine Vw (ZaZ lk dp0)<|Vw (Zav lk gt)<|E' (Zai lk cv gx rfl nb rfl ZlJ hs1) ptn<|Zam<|Zaw<|?_
   exact cT' (()) (by trivial) (by refine zz ?_;exact ALe.same wA' (by rw[hT];first | rfl | done))
  have hlt':¬k.findIdx (λl:Lnk=>decide (l.2=nm))<k.length:=λh=>hc1 (by unfold idxV;rw[if_pos h];omega)
  have hT:=tgtR_no hlt'
  refine Zay<|Zaw<|?_
  exact cT' (()) (by trivial) (by refine zz ?_;exact ALe.same wA' (by rw[hT];first | rfl | done))
 rintro x hq4
 try simp only[sm',Nat.reduceAdd]
 refine wr'<|fq<|Vw (Zaa lk gx gt0)<|Vw (Zaa lk gx gt0)<|?_
 refine Zac mp (Zhr hr om) pt ?_
 refine mw<|Vw (ZaS lk gt)<|Vw (ZaS lk gt)<|mw<|ms<|Zab<|wm<|Vw (ZaF lk)<|sn'<|?_
 refine ZaA lk (λhc2=>?_) (λhc2=>?_)
 .have hb:hasN t (tgtR k nm)=false:=by simpa using hc2
  have hL:=Zv0 hb
  refine wr'<|Vw (Zat Zor)<|E' (Zai lk cv gx rfl nb rfl ZbZ hs2) ptn<|mr<|Zah<|Zae (rsn (rm1 (rr_c gt gx (ld1 ZbY rfl)) (rm1 (rr_t gt) rm0)))<|rtW'<|?_
  rw[hL];exact Zi3
 have hb:hasN t (tgtR k nm)=true:=by simpa using hc2
 obtain⟨hp,hkl⟩:=ZqT hr hb
 have hL:Ze5 (t,k) nm=(t[posN t (tgtR k nm)].2,true):=by unfold Ze5;dsimp only;rw[hkl]
 refine za<|wr'<|fq<|Vw (Zaa lk gx gt0)<|mw<|?_
 refine V' (ZaE (k:=posN t (tgtR k nm)) lk lk ZaC nb ro om ro rfl) pt ?_
 refine Vw (ZaZ lk dp1)<|Vw (Zar lk ZfD rfl)<|E' (Zai lk cv gx rfl nb rfl ZbZ hs2) ptn<|mr<|Zae (rsn (rm1 (rr_c gt gx (ld1 ZbY rfl)) (rm1 (rr_t gt) rm0)))<|rtW'<|?_
 rw[hL];exact Wk.refl _
def Zpt {t:List Nam}(hok:Zfd (t,k)) (hk:k.length<=9223372036854775807) :
  Ac 5 [.agg [.sl t.length 5 false (rows namC t),.sl k.length 2 false (rows lnkC k)],sv nm] h (.tup [tabA (ZdD (t,k) nm).1,iv (ZdD (t,k) nm).2]):=by
 have hkk:=hk
 refine tW' k5 λN hn _ _ hbd=>?_
 simp only[tb'] at hbd ⊢
 refine wr'<|E' (ZaM cv rfl hl0 ha0) pt<|E' (ZaR hl1 ha1) pt<|ms<|Zab<|wr'<|Vw (Zad lk gx Zdb rfl)<|Zac mp (Zij hok) pt<|mw<|Zam<|?_
 refine Zan<|wm<|Vw (ZaY lk lki)<|sn'<|?_
 refine cd' lk (λhc1=>?_) (λhc1=>?_)
 .have hF:ZdD (t,k) nm=(Zdr,ZaQ (t,k)):=if_pos hc1
  refine wr'<|Vw (Zat Zql)<|mw<|E' (Zai lk cv gx rfl nb rfl ZbZ hs1) ptn<|mr<|Zah<|Zae (rsn (rm1 (rr_c gt gx (ld1 ZbY rfl)) (rm1 (rr_t gt) rm0)))<|rtW'<|?_
  rw[hF];exact Zi3
 have h0:ZaQ (t,k)=0:=Decidable.of_not_not hc1
 obtain⟨a1,a2,a3,a4,a5,a6⟩:=ZbJ h0
 simp only at a1 a2 a3 a4
 refine za<|wr'<|Vw (Zad lk gx Zdb rfl)<|mw<|?_
 refine Zac mp (lookR_a a4 om hkk) pt ?_
 refine mw<|Vw (ZaS lk gt)<|Vw (ZaS lk gt)<|E' (ZaR hl2 ha2) pt<|E' (Zai lk cv gx rfl nb rfl ZbZ hs2) ptn<|ms<|Zab<|wm<|Vw (ZaF lk)<|Zam<|?_
 refine Zan ?_
 refine ZaA lk (λhc2=>?_) (λhc2=>?_)
 .have hb:(Ze5 (t,k) nm).2=false:=by simpa using hc2
  have hF:ZdD (t,k) nm=(Zdr,5):=by unfold ZdD;rw[if_neg hc1];unfold Ze5 at hb;split at hb;(rename_i e;first | rw[e] | rfl);cases hb
  refine wr'<|Vw (Zat Zos)<|E' (Zai lk cv gx rfl nb rfl ZbZ hs1) ptn<|mr<|Zah<|Zae (rsn (rm1 (rr_c gt gx (ld1 ZbY rfl)) (rm1 (rr_t gt) rm0)))<|rtW'<|?_
  rw[hF];exact Zi3
 have hb:(Ze5 (t,k) nm).2=true:=by simpa using hc2
 have hF:ZdD (t,k) nm=((Ze5 (t,k) nm).1,0)/\Za3 (Ze5 (t,k) nm).1=0:=by unfold ZdD;rw[if_neg hc1];unfold Ze5 at hb ⊢;split at hb;cases hb;(rename_i u e;(try rw[e]);exact⟨rfl,(a3 _ (ZcA e)).2⟩)
 have hlen:=Zcc hF.2
 refine za<|wr'<|Vw (Zad lk gx ZbY rfl)<|?_
 refine Zac mp (ZqM om) pt ?_
 refine E' (Zai lk cv gx rfl nb rfl ZbZ hs1) ptn<|mr<|Zae (rsn (rm1 (rr_c gt gx (ld1 ZbY rfl)) (rm1 (rr_t gt) rm0)))<|rtW'<|?_
 rw[hF.1];exact Wk.refl _
abbrev updC (u:Upd):List AV:=[.sl u.1.length 1 false (rows strC u.1),.sl u.2.1.length 5 false (rows namC u.2.1),.sl u.2.2.1.length 7 false (rows nptC u.2.2.1),.sl u.2.2.2.length 2 false (rows lnkC u.2.2.2)]
def Zn2 (l s:List Nam) (n:Nam):betD (l++[n]) s=betD l s++(if hasN s n.1=true then [] else [n.1]):=by
 unfold betD
 rw[List.filter_append,List.map_append]
 congr 1
 cases h:hasN s n.1 <;> simp[h]
def Zn1 (r l:List Nam) (n:Nam):betP r (l++[n])=betP r l++(if hasN r n.1=true then [] else [n]):=by
 unfold betP
 rw[List.filter_append]
 congr 1
 cases h:hasN r n.1 <;> simp[h]
def Zn0 (r l:List Nam) (n:Nam):betT Zb8 r (l++[n])=betT Zb8 r l++(betF Zb8 r n).toList:=by
 unfold betT
 rw[List.filterMap_append]
 congr 1
 try (cases h:betF Zb8 r n <;> simp[h])
def ZrT (l s:List Nam):(betD l s).length<=l.length:=by unfold betD;rw[List.length_map];exact List.length_filter_le _ _
def ZmC (r l:List Nam):(betP r l).length<=l.length:=List.length_filter_le _ _
def ZrS (r l:List Nam):(betT Zb8 r l).length<=l.length:=List.length_filterMap_le _ _
def betR_a {s:Rel}(hr:ZaQ r=0) (hs:ZaQ s=0) :
  Ac 34 [.agg [.sl r.1.length 5 false (rows namC r.1),.sl r.2.length 2 false (rows lnkC r.2)],.agg [.sl s.1.length 5 false (rows namC s.1),.sl s.2.length 2 false (rows lnkC s.2)]] h (.agg (updC (betU r s))):=by
 obtain⟨a1,a2,a3,a4,a5,a6⟩:=ZbJ hr
 obtain⟨b1,b2,b3,b4,b5,b6⟩:=ZbJ hs
 refine tI' k34 λN hn hlt _ hbd=>?_
 simp only[tb'] at hbd ⊢
 refine wr'<|E' (ZaM cv rfl hl0 ha0) pt<|E' (ZaM cv rfl hl1 ha1) pt<|E' (ZaR hl2 ha2) pt<|sn'<|wr'<|fq<|Vw (Zaa lk gx gt1)<|?_
 refine Zac mp (Zrj om) pt ?_
 refine Vw (Zat (ZkD cv rfl))<|E' (ZaR hl3 ha3) pt<|E' (Zai lk cv gx rfl nb rfl ZbZ hs3) ptn<|Zam<|?_
 refine ZaN (ALe.trans (ALe.own0Cell (st':=1) (ty:=9) gx gt0 hl4 pt0 (Eq.trans (congrArg (λz=>List.set z _ _) ha4) hs3)) (ALe.trans (ALe.own0Cell (st':=5) (ty:=45) gx gt1 hl5 pt1 (Eq.trans (congrArg (λz=>List.set z _ _) ha5) hs3)) (ALe.own0Cell (st':=7) (ty:=72) gx gt2 hl6 pt2 (Eq.trans (congrArg (λz=>List.set z _ _) ha6) hs3)))) ?_
 refine Zab<|wr'<|fq<|Vw (Zaa lk gx gt0)<|Vw (Zaz lk)<|ms<|Zag<|?_
 refine w_lp (ι:=Nat×Nat) (λ⟨i,v⟩=>[(21,iv (i:Int))]++rn' 7 3++rn' 22 21) (λ⟨i,v⟩=>[(3,.mk 0 29 4 [.own (N+4) v (betD (r.1.take i) s.1).length,.own (N+5) 0 0,.own (N+6) 0 0,.sl s.2.length 2 false (rows lnkC s.2)]),(4,.mk v 9 1 (rows strC (betD (r.1.take i) s.1)))]) (λ⟨i,v⟩=>i<=r.1.length) (λ⟨i,v⟩=>r.1.length-i) (⟨0,0⟩) (by exact Nat.zero_le _) ?_
 rintro⟨i,v⟩ hi1
 try simp only[sm',Nat.reduceAdd]
 replace hi1:i<=r.1.length:=hi1
 have hdl:=ZrT (r.1.take i) s.1
 rw[List.length_take] at hdl
 refine wr'<|Vw (ZaJ lk lk)<|sn'<|Zab<|?_
 refine cd' lk (λhc1=>?_) (λhc1=>?_)
 .have hi:i<r.1.length:=by omega
  have hst:=Zn2 (r.1.take i) s.1 r.1[i]
  rw[<-List.take_succ_eq_append_getElem hi] at hst
  refine za<|Zab<|Zag<|wr'<|?_
  refine V' (ZaE lk lk ZaC nb ro om ro rfl) pt ?_
  refine Vw (Zar lk Zj9 rfl)<|E' (ZaR hl7 ha7) pt<|E' (Zai lk cv gx rfl nb rfl ZlI hs7) ptn<|sn'<|wr'<|fq<|Vw (Zaa lk gx gt0)<|fq<|Vw (Zaa lk gx gt0)<|?_
  refine Zac mp (Zhr b4 om) pt ?_
  refine mw<|Vw (ZaS lk gt)<|Vw (ZaS lk gt)<|mw<|ms<|wm<|Vw (ZaF lk)<|sn'<|?_
  refine ZaA lk (λhc2=>?_) (λhc2=>?_)
  .have hb:hasN s.1 r.1[i].1=false:=by simpa using hc2
   rw[if_neg (by rw[hb];simp)] at hst
   refine Zao<|fq<|Vw (Zaa lk gx gt0)<|fq<|Vw (Zaa lk gx gt0)<|E' (ZcB (Zkd cv rfl) hl8 ha8) pt<|?_
   refine E' (Zby (Zbm lk gx rfl ZxJ nb) lk gx (Zdp _) om rfl hs4) pt ?_
   refine fq<|E' (Zai lk cv gx rfl nb rfl ZlJ hs3) ptn<|Zam<|Zau<|Zan<|Zao<|?_
   refine ad<|mw<|Zam<|Zaw<|?_
   refine lU' (⟨i+1,v+1⟩) (by (try dsimp only);omega) (by refine zz ?_;exact bk' 7 hn hlt (by rw[hst,List.length_append,ZaG];rfl) (hT:=by simp[AV.lt,AV.ltL,Ent.lt]) (hE:=by simp[AV.lt,AV.ltL,Ent.lt]))
  have hb:hasN s.1 r.1[i].1=true:=by simpa using hc2
  rw[if_pos hb,List.append_nil] at hst
  refine Zay<|Zau<|Zan<|Zao<|?_
  refine ad<|mw<|Zam<|Zaw<|?_
  refine lU' (⟨i+1,v⟩) (by (try dsimp only);omega) (by refine zz ?_;exact bk' 7 hn hlt (by rw[hst];rfl) (hT:=by simp[AV.lt,AV.ltL,Ent.lt]) (hE:=by simp[AV.lt,AV.ltL,Ent.lt]))
 rw[List.take_of_length_le (show r.1.length<=i by omega)] at *
 refine Zax<|Zas<|Zas<|ZaK<|Zan<|Zab<|wr'<|fq<|Vw (Zaa lk gx gt0)<|Vw (Zaz lk)<|ms<|?_
 refine Zag ?_
 refine w_lp (ι:=Nat×Nat×Nat) (λ⟨j,p,q⟩=>[(46,iv (j:Int))]++rn' 11 3++rn' 47 54) (λ⟨j,p,q⟩=>[(3,.mk 0 29 4 [.own (N+4) v (betD r.1 s.1).length,.own (N+5) p (betP r.1 (s.1.take j)).length,.own (N+6) q (betT Zb8 r.1 (s.1.take j)).length,.sl s.2.length 2 false (rows lnkC s.2)]),(5,.mk p 45 5 (rows namC (betP r.1 (s.1.take j)))),(6,.mk q 72 7 (rows nptC (betT Zb8 r.1 (s.1.take j))))]) (λ⟨j,p,q⟩=>j<=s.1.length) (λ⟨j,p,q⟩=>s.1.length-j) (⟨0,0,0⟩) (by exact Nat.zero_le _) ?_
 rintro⟨j,p,q⟩ hi2
 try simp only[sm',Nat.reduceAdd]
 replace hi2:j<=s.1.length:=hi2
 have hpl:=ZmC r.1 (s.1.take j)
 have hql:=ZrS r.1 (s.1.take j)
 rw[List.length_take] at hpl hql
 refine wr'<|Vw (ZaJ lk lk)<|sn'<|Zab<|?_
 refine cd' lk (λhc3=>?_) (λhc3=>?_)
 .have hj:j<s.1.length:=by omega
  have hsP:=Zn1 r.1 (s.1.take j) s.1[j]
  have hsT:=Zn0 r.1 (s.1.take j) s.1[j]
  rw[<-List.take_succ_eq_append_getElem hj] at hsP hsT
  have hlu:=Zcc (b3 _ (List.getElem_mem hj)).2
  refine za<|Zab<|Zag<|wr'<|?_
  refine V' (ZaE lk lk ZaC nb ro om ro rfl) pt ?_
  refine Vw (Zar lk Zj9 rfl)<|E' (ZaR hl7 ha7) pt<|E' (Zai lk cv gx rfl nb rfl ZlI hs7) ptn<|sn'<|wr'<|fq<|Vw (Zaa lk gx gt0)<|fq<|Vw (Zaa lk gx gt0)<|?_
  refine Zac mp (Zhr a4 om) pt ?_
  refine mw<|Vw (ZaS lk gt)<|Vw (ZaS lk gt)<|mw<|ms<|Zag<|wm<|Vw (ZaF lk)<|mw<|Zam<|?_
  refine Zan ?_
  refine ZaA lk (λhc4=>?_) (λhc4=>?_)
  .have hb:hasN r.1 s.1[j].1=false:=by simpa using hc4
   have hF:=Zw4 hb
   rw[if_neg (by rw[hb];simp)] at hsP
   rw[hF] at hsT
   replace hsT:betT Zb8 r.1 (s.1.take (j+1))=betT Zb8 r.1 (s.1.take j):=hsT.trans (List.append_nil _)
   refine ZaD<|dg<|Dw (Zaa lk gx gt1)<|dg<|Dw (Zaa lk gx gt0)<|dg<|Dw (Zad lk gx Zh4 rfl)<|?_
   refine ZaB mp (λhE hX=>ZqM om) pt ?_
   refine Dw (Zat (Zkc cv rfl cv rfl))<|ZcI rfl rfl (hlk hn rfl) (ZeR (Zkb cv rfl)) pt Zop<|ZaH<|?_
   refine ZcH ZlK ?_
   refine E' (Zby (Zbm lk gx rfl Zj9 nb) lk gx (Zba _) om rfl hs5) pt ?_
   refine fq<|E' (Zai lk cv gx rfl nb rfl ZtT hs3) ptn<|Zam<|Zau<|Zau<|Zan<|Zao<|?_
   refine ad<|mw<|Zam<|Zaw<|?_
   refine lU' (⟨j+1,p+1,q⟩) (by (try dsimp only);omega) (by refine zz ?_;exact bk' 7 hn hlt (by rw[hsP,hsT,List.length_append,ZaG];rfl) (hT:=by simp[AV.lt,AV.ltL,Ent.lt]) (hE:=by simp[AV.lt,AV.ltL,Ent.lt]))
  have hb:hasN r.1 s.1[j].1=true:=by simpa using hc4
  obtain⟨hp,hkl⟩:=ZqT a4 hb
  have hlr:=Zcc (a3 _ (List.getElem_mem hp)).2
  rw[if_pos hb,List.append_nil] at hsP
  refine Zab<|ZaD<|dg<|Dw (Zaa lk gx gt0)<|Dw vm<|?_
  refine D' (ZaE (k:=posN r.1 s.1[j].1) lk lk ZaC nb ro om ro rfl) pt ?_
  refine Dw (ZaZ lk dp1)<|Dw (Zar lk ZfD rfl)<|dg<|Dw (Zad lk gx Zh4 rfl)<|?_
  refine ZaB mp (λhE hX=>rsame_a) pt ?_
  refine Dw (ZaF lk)<|Dw vm<|ZaH<|?_
  refine ZaU ?_
  refine sn' ?_
  refine ZaA lk (λhc5=>?_) (λhc5=>?_)
  .have hne:¬r.1[posN r.1 s.1[j].1].2=s.1[j].2:=by simpa using hc5
   have hF:betF Zb8 r.1 s.1[j]=some (s.1[j].1,Zb8 r.1[posN r.1 s.1[j].1].2 s.1[j].2):=by unfold betF;rw[hkl];dsimp only;rw[if_neg hne]
   rw[hF] at hsT
   refine ZaD<|dg<|Dw (Zaa lk gx gt2)<|dg<|Dw (Zaa lk gx gt0)<|dg<|Dw (Zaa lk gx gt0)<|Dw vm<|?_
   refine D' (ZaE (k:=posN r.1 s.1[j].1) lk lk ZaC nb ro om ro rfl) pt ?_
   refine Dw (ZaZ lk dp1)<|Dw (Zar lk ZfD rfl)<|dg<|Dw (Zad lk gx Zh4 rfl)<|?_
   refine ZaB mp (λhE hX=>Zw3 (t:=r.1[posN r.1 s.1[j].1].2) (u:=s.1[j].2) om om) pt ?_
   refine Dw (Zat (Zka cv rfl cv rfl))<|ZcI rfl rfl (hlk hn rfl) (ZeR (ZiF cv rfl)) pt Zop<|ZaH<|?_
   refine ZcH ZlK ?_
   refine E' (Zby (Zbm lk gx rfl ZxI nb) lk gx (Zhu _) om rfl hs6) pt ?_
   refine fq<|E' (Zai lk cv gx rfl nb rfl ZtS hs3) ptn<|Zam<|Zau<|Zau<|Zan<|Zao<|?_
   refine ad<|mw<|Zam<|Zaw<|?_
   refine lU' (⟨j+1,p,q+1⟩) (by (try dsimp only);omega) (by refine zz ?_;exact bk' 7 hn hlt (by rw[hsP,hsT,List.length_append,ZaG];rfl) (hT:=by simp[AV.lt,AV.ltL,Ent.lt]) (hE:=by simp[AV.lt,AV.ltL,Ent.lt]))
  have hne:r.1[posN r.1 s.1[j].1].2=s.1[j].2:=by simpa using hc5
  have hF:betF Zb8 r.1 s.1[j]=none:=by unfold betF;rw[hkl];dsimp only;rw[if_pos hne]
  rw[hF] at hsT
  replace hsT:betT Zb8 r.1 (s.1.take (j+1))=betT Zb8 r.1 (s.1.take j):=hsT.trans (List.append_nil _)
  refine Zay<|Zau<|Zau<|Zan<|Zao<|?_
  refine ad<|mw<|Zam<|Zaw<|?_
  refine lU' (⟨j+1,p,q⟩) (by (try dsimp only);omega) (by refine zz ?_;exact bk' 7 hn hlt (by rw[hsP,hsT];rfl) (hT:=by simp[AV.lt,AV.ltL,Ent.lt]) (hE:=by simp[AV.lt,AV.ltL,Ent.lt]))
 rw[List.take_of_length_le (show s.1.length<=j by omega)] at *
 refine Zax<|Zas<|Zas<|ZaK<|?_
 refine ZaN (ALe.trans (ALe.iceCellR (hga hn rfl) (hga hn rfl) om gt0 (List.take_of_length_le (by rw[Zdp];exact Nat.le_refl _)) (by rw[Zdp];exact Nat.le_refl _) pt0 hs4 hs3) (ALe.trans (ALe.iceCellR (hga hn rfl) (hga hn rfl) om gt1 (List.take_of_length_le (by rw[Zba];exact Nat.le_refl _)) (by rw[Zba];exact Nat.le_refl _) pt1 hs5 hs3) (ALe.iceCellR (hga hn rfl) (hga hn rfl) om gt2 (List.take_of_length_le (by rw[Zhu];exact Nat.le_refl _)) (by rw[Zhu];exact Nat.le_refl _) pt2 hs6 hs3))) ?_
 exact wr'<|Vw (Zad lk gx ZbY rfl)<|E' (Zai lk cv gx rfl nb rfl ZbZ hs2) ptn<|sr<|Zae (rs1 (rr_c gt gx (ld1 ZbY rfl)))<|rT' rfl
def rel_lt {n:Nat}(l:List Rel):AV.ltL n (rows relC l)=true:=ZcV (λn x=>by simp[AV.ltL,AV.lt,Zcz,Zbq]) l
attribute [local simp] rel_lt
def diffU_at {r s:Rel}{k:Nat}(hk:k<[r,s].length) (h0 : ∀ j (hj:j<[r,s].length),j<k->ZaQ [r,s][j]=0) (h:ZaQ [r,s][k]≠0):ZhF r s=(upd0,ZaQ [r,s][k]):=by
 match k,hk with
 | 0,_=>exact if_pos h
 | 1,_ =>
  have h1:ZaQ r=0:=h0 0 (by simp) om
  have h2:ZaQ s≠0:=h
  unfold ZhF
  rw[if_neg (by simpa using h1),if_pos h2];rfl
def diffU_ok {s:Rel}(h0 : ∀ j (hj:j<[r,s].length),ZaQ [r,s][j]=0):ZaQ r=0/\ZaQ s=0/\ZhF r s=(betU r s,0):=by
 have h1:ZaQ r=0:=h0 0 (by simp)
 have h2:ZaQ s=0:=h0 1 (by simp)
 refine⟨h1,h2,?_⟩
 unfold ZhF
 rw[if_neg (by simpa using h1),if_neg (by simpa using h2)]
def wk_upd0 {e:AV}:Wk (.tup [.agg [.sl 0 0 true [],.sl 0 0 true [],.sl 0 0 true [],.sl 0 0 true []],e]) (.tup [.agg (updC upd0),e]):=Wk.tup (wkw (Wk.agg (wkw Wk.nilF (wkw Wk.nilF (wkw Wk.nilF (wkw Wk.nilF wk0))))) (wk1 rfl wk0))
def Zwu {r s:Rel}{h:AH}(hr:Zfd r) (hs:Zfd s) :
  Ac 6 [.agg [.sl r.1.length 5 false (rows namC r.1),.sl r.2.length 2 false (rows lnkC r.2)],.agg [.sl s.1.length 5 false (rows namC s.1),.sl s.2.length 2 false (rows lnkC s.2)]] h (.tup [.agg (updC (ZhF r s).1),iv (ZhF r s).2]):=by
 refine tW' k6 λN hn hlt _ hbd=>?_
 simp only[tb'] at hbd ⊢
 refine wr'<|E' (ZaM cv rfl hl0 ha0) pt<|E' (ZaM cv rfl hl1 ha1) pt<|E' (ZaR hl2 ha2) pt<|ms<|Zab<|wr'<|Vw (Zad lk gx Zdb rfl)<|Vw (Zad lk gx Zdb rfl)<|E' (ZcB (Zqm cv rfl cv rfl) hl3 ha3) pt<|?_
 refine Vw (Zcy lk)<|ms<|Zag<|?_
 refine w_lp (ι:=Nat) (λ(k:Nat)=>[(13,iv (k:Int)),(5,.any),(7,.any),(8,.any)]++rn' 14 10) (λ(k:Nat)=>[(3,.mk 0 25 2 (rows relC [r,s]))]) (λ(k:Nat)=>k<=[r,s].length /\ ∀ j (hj:j<[r,s].length),j<k->ZaQ [r,s][j]=0) (λ(k:Nat)=>2-k) (0) (by exact⟨by simp,λj hj h0=>by omega⟩) ?_
 rintro k hi1
 try simp only[sm',Nat.reduceAdd]
 obtain⟨hk1,hk2⟩:=hi1
 have hlen:[r,s].length=2:=rfl
 refine wr'<|Vw (ZaJ lk lk)<|sn'<|Zab<|?_
 refine cd' lk (λhc1=>?_) (λhc1=>?_)
 .have hk:k<[r,s].length:=by omega
  have hok:Zfd [r,s][k]:=by
   match k,hk with
   | 0,_=>exact hr
   | 1,_=>exact hs
  refine za<|Zab<|Zag<|wr'<|?_
  refine V' (ZaW lk lk gx (λ_=>rfl) nb ro om (by first | rfl | (simp;done) | omega)) pt ?_
  refine V' (Zfh lk gx (λ_=>rfl) om rfl) pt ?_
  refine E' (ZaR hl4 ha4) pt<|E' (Zai lk cv gx rfl nb rfl ZtU hs4) ptn<|sn'<|wr'<|Vw (Zad lk gx Zdb rfl)<|Zac mp (Zij (t:=[r,s][k].1) (k:=[r,s][k].2) hok) pt<|ms<|wm<|?_
  refine Vw (ZaY lk lki)<|sn'<|?_
  refine cd' lk (λhc2=>?_) (λhc2=>?_)
  .refine wr'<|Vw (Zat Zot)<|mw<|E' (Zai lk cv gx rfl nb rfl ZbZ hs2) ptn<|mr<|Zap<|Zah<|Zah<|Zap<|Zah<|?_
   refine Zae (rsn (rm1 (rr_c gt gx (ld1 ZbY rfl)) (rm1 (rr_t gt) rm0)))<|rtW'<|?_
   have hE:=diffU_at hk hk2 hc2
   rw[hE];exact wk_upd0
  refine Zay<|Zau<|Zan<|Zao<|?_
  refine ad<|mw<|Zam<|Zaw<|?_
  refine lU' (k+1) (by (try dsimp only);exact⟨by omega,λj hj h0=>by by_cases e:j=k;subst e;exact Decidable.of_not_not hc2;exact hk2 j hj om⟩) (by refine zz ?_;exact bk' 4 hn hlt (hT:=by simp[AV.lt,AV.ltL,Ent.lt]) (hE:=by simp[AV.lt,AV.ltL,Ent.lt]))
 refine Zax<|Zas<|Zas<|ZaK<|Zan<|?_
 have hz:=diffU_ok (r:=r) (s:=s) λj hj=>hk2 j hj om
 refine wr'<|Vw (Zad lk gx Zdb rfl)<|Vw (Zad lk gx Zdb rfl)<|Zac mp (betR_a hz.1 hz.2.1) pt<|E' (Zai lk cv gx rfl nb rfl ZbZ hs2) ptn<|mr<|Zae (rsn (rm1 (rr_c gt gx (ld1 ZbY rfl)) (rm1 (rr_t gt) rm0)))<|rtW'<|?_
 rw[hz.2.2];exact Wk.refl _
end
end Go.Proofs.YthmgnolcfjiicaaGreatDoor
namespace Go.Ab
section
open Go.RowKit Go.Sort
section
variable {P : Program}
def ACalls.of_turnB {f:FuncId}{args:List AV}{h:AH}{id ver ty st:Nat}{cells:List AV}{R':List AV->Prop}(he:enters P f=true) (hi:h[id]?=some (.mk ver ty st cells)) (hne:cells≠[])
  (hc : ∀ w g (vs:Array Value) b cap arr,SimH w g h->RepL w g args vs.toList->g.loc id ver=some (some ⟨b,0,none⟩,cap)->w.heap[b]?=some (.cells arr ty (0,0))->arr.size=cap*st->cells.length<=arr.size->RepL w g cells (arr.toList.take cells.length) ->
   Calls P f vs w λe w'=>e=.returned (.tuple #[]) /\ ∃ (cells':List AV) (vs':List Value) (arr':Array Value),R' cells'/\RepL w g cells' vs'/\w'.heap[b]?=some (.cells arr' ty (0,0))/\arr'.size=arr.size/\vs'.length=cells.length/\arr'.toList.take cells.length=vs' /\
    w'.os=w.os/\w'.tape=w.tape/\w'.output=w.output/\w.heap.size<=w'.heap.size /\ ∀ k,k<w.heap.size->k≠b->w'.heap[k]?=w.heap[k]?) :
  ACalls P f args h λx h'=>x=.ret (.tup []) /\ ∃ cells',R' cells'/\h'=h.set id (.mk ver ty st cells'):=by
 refine⟨he,λw g vs hs ha=>?_⟩
 obtain⟨A,cap,f1,fm,f3⟩:=hs.ent _ _ _ _ _ hi
 rcases f3 with ⟨e,_⟩ | ⟨b,arr,rfl,hc0,hd,hb,hsz,hle,hrl⟩
 .exact absurd e hne
 have hid:id<h.length:=(List.getElem?_eq_some_iff.1 hi).1
 have how:OwAt g h id b:=⟨ver,ty,st,cells,_,cap,hi,f1,hc0,rfl⟩
 refine (hc w g vs b cap arr hs ha f1 hb hsz hle hrl).mono ?_
 rintro e w' ⟨rfl,cells',vs',arr',hR,hRep,h1,h2,h3,h4,h5,h6,h7,h8,h9⟩
 have hother : ∀ j,g.D j\/(∃ i,i≠id/\OwAt g h i j)\/(∃ i,RwAt h i j)->w'.heap[j]?=w.heap[j]?:=by
  rintro j (hj | ⟨i,hne',hj⟩ | ⟨i,hj⟩)
  rotate_left 2
  .exact h9 j (hs.own_not_D (.inr ⟨i,hj⟩)).2 (λe=>by subst e;exact hs.own_ne_raw how hj)
  .exact h9 j (hs.lt j hj) (λe=>hd (e ▸ hj))
  .exact h9 j (hs.own_not_D (.inl ⟨i,hj⟩)).2 (λe=>hne' (hs.inj i id j hj (e ▸ how)))
 obtain⟨k1,k2,k3⟩:=hs.put (w':=w') (g':=g) (h':=h.set id (.mk ver ty st cells')) id ver ty st cells' (some ⟨b,0,none⟩) cap
  (λi hne'=>by rw[List.getElem?_set_ne (Ne.symm hne')]) (by rw[List.getElem?_set_self hid]) (by simp) rfl (λ_ _ _ h=>h) (λ_ _ _ h=>.inl h) f1 (λv l hv=>(hs.fresh _ _ _ hv).2 _ _ _ _ hi) hother h8 fm
  (.inr ⟨b,arr',rfl,hc0,hd,h1,by rw[h2,hsz],by rw[<-hRep.length,h3,h2];exact hle,by rw[<-hRep.length,h3,h4];exact RepL.mono (Gh.le.refl g) (λj hj=>hother j (.inl hj)) _ _ hRep⟩)
  (λj hj _ i hne' ho=>by
   simp at hj
   subst hj
   exact hne' (hs.inj i id _ ho how)) (λk hk _ _=>by simp at hk;subst hk;exact .inl ⟨id,how⟩)
 refine⟨.ret (.tup []),_,g,?_,k1,k2,⟨h5,h6,h7,h8,λk hk hn=>h9 k hk (λe=>hn (.inl ⟨id,e ▸ how⟩))⟩,λk hk=>?_,rfl,_,hR,rfl⟩
 .simp only[EndR,Rep];exact⟨#[],rfl,by simp only[RepL]⟩
 .rcases k3 k hk with ho | ⟨ho,_⟩
  .exact .inl ho
  .simp at ho;subst ho;exact .inl (.inl ⟨id,how⟩)
end
section
variable {P : Program} {α β : Type}
def Znd {w:World}{g:Gh}{f:α->List AV}{enc:β->List Value}{pr:β->α}{k:Nat}(hf : ∀ x,(f x).length=k) (hrep : ∀ x vs,RepL w g (f x) vs -> ∃ y:β,pr y=x/\enc y=vs) :
  ∀ (l:List α) (us:List Value),RepL w g (rows f l) us -> ∃ L:List β,L.map pr=l/\L.flatMap enc=us /\ ∀ y∈L,RepL w g (f (pr y)) (enc y)
 | [],us,h=>by
  have:us=[]:=by simpa [rows,RepL] using h
  subst this;exact⟨[],rfl,rfl,λy hy=>by cases hy⟩
 | x::l,us,h=>by
  have h':RepL w g (f x++rows f l) us:=h
  have h1:=h'.take k
  have h2:=h'.drop k
  rw[List.take_left' (hf x)] at h1
  rw[List.drop_left' (hf x)] at h2
  obtain⟨y,rfl,e⟩:=hrep x _ h1
  obtain⟨L,rfl,e2,h3⟩:=Znd hf hrep l _ h2
  refine⟨y::L,rfl,by rw[List.flatMap_cons,e,e2,List.take_append_drop],λz hz=>?_⟩
  rcases List.mem_cons.1 hz with rfl | hz
  .rw[e];exact h1
  .exact h3 z hz
def Znj {w:World}{g:Gh}{f:α->List AV}{enc:β->List Value}{pr:β->α} : ∀ (L:List β),(∀ y∈L,RepL w g (f (pr y)) (enc y))->RepL w g (rows f (L.map pr)) (L.flatMap enc)
 | [],_=>by simp[rows,RepL]
 | y::L,h=>RepL.append (h y (by simp)) (Znj L λz hz=>h z (by simp[hz]))
def sort_b [Inhabited β] {ρ:Go.Shelf.Ren}(LL:Go.Proofs.SlLaysF0.n6 P ρ) {k:Nat}(hk0:0<k) (aE : ∀ w,(isAgg (ρ.t 24)).run P w=.ok true w) (zE : ∀ w,(Go.sizeOf (ρ.t 24)).run P w=.ok k w) {enc:β->List Value}(hk : ∀ x,(enc x).length=k) (h1 : ∀ x,∀ v∈enc x,v.oneCell'=true) {cf:β->β->Int}(hO:SWO (Go.Proofs.ltOf cf)) {g0:Nat}
  (eg : ∀ args w,(callFunc g0 args).run P w=.ok (.enter g0 args) w) (hcmp : ∀ blk off size w,Go.Proofs.CmpLays P g0 #[] enc k cf blk off size w) {f:α->List AV} {pr:β->α} (hf : ∀ x,(f x).length=k) (hrep : ∀ w g x vs,RepL w g (f x) vs -> ∃ y:β,pr y=x/\enc y=vs) {r:α->α->Prop} (hr0 : ∀ x y,Go.Proofs.ltOf cf y x=false->r (pr x) (pr y))
  {h:AH} {id ver ty:Nat} {l:List α} (hi:h[id]?=some (.mk ver ty k (rows f l))) (hl:l≠[]) (hz:l.length<4611686018427387904) (he:enters P (ρ.f 6)=true) :
  ACalls P (ρ.f 6) [.own id ver l.length,.v (.func (.func g0) #[] #[])] h λx h'=>x=.ret (.tup []) /\ ∃ l':List α,l'.Perm l/\l'.Pairwise r/\h'=h.set id (.mk ver ty k (rows f l')):=by
 have hlen:=Zbp (f:=f) (st:=k) hf l
 have hpos:0<l.length:=List.length_pos_iff.2 hl
 refine (ACalls.of_turnB (R':=λcs => ∃ l':List α,l'.Perm l/\l'.Pairwise r/\cs=rows f l') he hi ?_ ?_).mono ?_
 .intro e
  have:=congrArg List.length e
  rw[hlen] at this
  have h0:0<l.length*k:=Nat.mul_pos hpos hk0
  simp at this;omega
 .intro w g vs b cap arr hs ha hloc hb hsz hle hr
  simp only[RepL,Rep,hloc] at ha
  obtain⟨u1,us1,e1,⟨A,c,e2,hn1,hn2,rfl⟩,u2,us2,rfl,rfl,rfl⟩:=ha
  simp only[Option.some.injEq,Prod.mk.injEq] at e2
  obtain⟨rfl,rfl⟩:=e2
  obtain rfl:vs = #[.slice (some ⟨b,0,none⟩) l.length cap,.func (.func g0) #[] #[]]:=by cases vs;simp_all
  obtain⟨L,rfl,hr0',hrL⟩:=Znd hf (hrep w g) l _ hr
  rw[hlen] at hr0'
  rw[List.length_map] at hr0' hlen hpos
  have hr':arr.toList.take (L.length*k)=L.flatMap enc:=hr0'.symm
  have hll:(L.map pr).length=L.length:=List.length_map _
  rw[hll] at hz
  have hblk:b<w.heap.size:=(Array.getElem?_eq_some_iff.1 hb).1
  have hflat:=ZfK hk0 hk L.toArray
  have hgetF : ∀ (d:Array β) (t:Nat),t<d.size*k->(Go.Sort.flatK enc k d).toList[t]?=some (Go.Sort.flatK enc k d)[t]!:=by
   intro d t ht
   have hs:t<(Go.Sort.flatK enc k d).size:=by simpa using ht
   rw[getElem!_pos _ t hs,Array.getElem?_toList,Array.getElem?_eq_getElem hs]
  have hH:Go.Sort.HoldsK enc k w b 0 L.toArray:=by
   intro j hj
   have hj':j<L.length*k:=by simpa using hj
   rw[Nat.zero_add]
   refine⟨?_,frozen_of_row w b j arr ty hb⟩
   rw[cell_of_row w b j arr ty (0,0) hb,<-Array.getElem?_toList]
   have h5:arr.toList[j]?=(L.flatMap enc)[j]?:=by rw[<-hr',List.getElem?_take_of_lt hj']
   rw[h5,show L.flatMap enc=(Go.Sort.flatK enc k L.toArray).toList from hflat.symm,hgetF _ _ (by simpa using hj')];rfl
  rw[hll]
  refine (Go.Proofs.AnyQ.slices_SortFunc LL k aE zE enc hk h1 cf hO g0 #[] b 0 cap L.toArray w eg (hcmp b 0 L.toArray.size w) hH hblk (by simpa using hz)).mono ?_
  rintro e w' ⟨rfl,d',n,os,⟨p1,_,p3⟩,hso,rfl⟩
  have hds:d'.size=L.length:=by simpa using p1
  have hw' : ∀ j,j<w.heap.size->(Go.Proofs.sortWorldK enc k w b 0 n d' os).heap[j]?=(w.heap.modify b (onCells (putCells _root_.id 0 (Go.Sort.flatK enc k d'))))[j]?:=by
   intro j hj
   show ((w.heap.modify b (onCells (putCells _root_.id 0 (Go.Sort.flatK enc k d'))))++os)[j]?=_
   rw[Array.getElem?_append_left (by simpa using hj)]
  have hsz2:arr.size=(putCells _root_.id 0 (Go.Sort.flatK enc k d') arr).size:=by simp[putCells]
  have hperm:d'.toList.Perm L:=by
   have e1:d'.extract 0 L.toArray.size=d':=by rw[<-p1];simp
   have e2:L.toArray.extract 0 L.toArray.size=L.toArray:=by simp
   rw[e1,e2] at p3
   simpa using p3
  refine⟨rfl,rows f (d'.toList.map pr),d'.toList.flatMap enc,putCells _root_.id 0 (Go.Sort.flatK enc k d') arr,⟨d'.toList.map pr,hperm.map pr,?_,rfl⟩,Znj _ (λy hy=>hrL y (hperm.mem_iff.1 hy)),?_,hsz2.symm,?_,?_,rfl,rfl,rfl,?_,?_⟩
  .rw[List.pairwise_map]
   refine List.pairwise_iff_getElem.2 λi j hi hj hij=>hr0 _ _ ?_
   have:=hso i j (Nat.zero_le _) hij (by simpa [hds] using hj)
   rw[getElem!_pos d' j (by simpa using hj),getElem!_pos d' i (by simpa using hi)] at this
   simpa using this
  .rw[hw' b hblk,Array.getElem?_modify,if_pos rfl,hb];rfl
  .rw[Zc3 hk,hlen,Array.length_toList,hds]
  .rw[hlen]
   apply List.ext_getElem?
   intro t
   by_cases ht:t<L.length*k
   .have ht2:t<d'.size*k:=by rw[hds];exact ht
    have hta:t<arr.size:=by rw[hlen] at hle;omega
    rw[List.getElem?_take_of_lt ht,<-ZfK hk0 hk d',hgetF d' t ht2]
    unfold putCells
    rw[Array.getElem?_toList,Array.getElem?_mapIdx,Array.getElem?_eq_getElem hta,Option.map_some,if_pos ⟨Nat.zero_le _,by simpa using ht2⟩]
    rfl
   .rw[List.getElem?_eq_none (by simp;omega),List.getElem?_eq_none (by rw[Zc3 hk,Array.length_toList,hds];omega)]
  .show w.heap.size<=((w.heap.modify b (onCells (putCells _root_.id 0 (Go.Sort.flatK enc k d'))))++os).size
   simp
  .intro j hj hjb
   rw[hw' j hj,Array.getElem?_modify,if_neg (Ne.symm hjb)]
 .rintro x h' ⟨rfl,cs,⟨l',hp,hs,rfl⟩,rfl⟩
  exact⟨rfl,l',hp,hs,rfl⟩
end
end
end Go.Ab
section
namespace Go.Ab
section
variable {P : Program} {n0 : Nat} {h : AH}
def ALe.own1 {T:List AV}{d st st' ty:Nat}{cs:List AV}(hd:T[d]?=some (.sl 0 st true cs)):ALe n0 T h (T.set d (.own h.length 1 0)) (h++[.mk 1 ty st' []]):=λw0 S0 g0 a w g s=>by
 obtain⟨u,hu,hr⟩:=s.tmps.get hd
 simp only[Rep] at hr
 obtain⟨_,A,cap,rfl,_,_,hc,_,_⟩:=hr
 obtain rfl:cap=0:=(hc trivial).symm
 obtain⟨h1,h2,h3⟩:=s.sim.add0 (w':=w) A ty st' (λ_ _=>rfl) (Nat.le_refl _)
 obtain⟨r1,r2,r3⟩:=h1.renew (id:=h.length) (v':=1) (by simp) (λv l hv=>by
  have:=(h1.fresh h.length v l hv).2 _ _ _ _ (by rw[List.getElem?_append_right (Nat.le_refl _),Nat.sub_self];rfl)
  omega) A ty st'
 have hset':(h++[Ent.mk 0 ty st' []]).set h.length (Ent.mk 1 ty st' [])=h++[Ent.mk 1 ty st' []]:=by
  rw[List.set_append_right _ _ (Nat.le_refl _),Nat.sub_self];rfl
 rw[hset'] at r1 r3
 have htm:=RepL.mono (h2.trans r2) (λ_ _=>rfl) _ _ s.tmps
 have hset:=htm.set (k:=d) (c:=.own h.length 1 0) (u:=.slice A 0 0) (Zb1 (Nat.le_refl _) (by simp[maxLen]))
 have hself:a.tmps.toList.set d (.slice A 0 0)=a.tmps.toList:=by
  apply List.ext_getElem?
  intro j
  by_cases hj:j=d
  .subst hj
   have:j<a.tmps.toList.length:=(List.getElem?_eq_some_iff.1 hu).1
   rw[List.getElem?_set_self this,hu]
  rw[List.getElem?_set_ne (Ne.symm hj)]
 rw[hself] at hset
 exact⟨_,hset,s.defers,r1,s.fr,(s.le.trans h2).trans r2,s.bd,λk hk=>(h3 k (r3 k hk)).elim (s.ow k) (λh=>.inr (Nat.le_trans s.fr.size h))⟩
def ALe.own1' {T T':List AV}{h':AH}{d st st' ty id:Nat}{cs:List AV}(hd:T[d]?=some (.sl 0 st true cs)) (hl:h.length=id) (hp:aPut T (some d) (.own id 1 0)=T') (hh:h++[.mk 1 ty st' []]=h'):ALe n0 T h T' h':=by
 subst hl hp hh
 exact ALe.own1 hd
def ALe.addFreeR {T:List AV}{h':AH}(hh:h++[.free]=h'):ALe n0 T h T h':=by
 subst hh
 exact ALe.addFree
end
end Go.Ab
namespace Go.Proofs.YthmgnolcfjiicaaGreatDoor
open Go.Ab Go.RowKit Civ Go.Sort
attribute [local simp] ZbR Zcn Zb6 Zbq Zbl Zcz
section
def Zqg {τ:Operand->AV}:Zal τ [] []=some []:=rfl
def Zqi {τ:Operand->AV}:Zal τ [] []=some []:=rfl
def ZtP {a0 a1 a2:AV}{l:List AV}:((a0::a1::a2::l).drop 0).take 3=[a0,a1,a2]:=rfl
def Zqh {τ:Operand->AV}:Zal τ [] [(.sl 0 0 true []),(.sl 0 0 true [])]=some [(.sl 0 0 true []),(.sl 0 0 true [])]:=rfl
def ZeC {a0 a1 c0 c1:AV}{l:List AV}:setCells (a0::a1::l) 0 [c0,c1]=c0::c1::l:=rfl
def ZeB {a0 a1:AV}{l:List AV}:((a0::a1::l).drop 0).take 2=[a0,a1]:=rfl
def Zoo {τ:Operand->AV}{y0:Operand}{x0_0:AV}(h0:Zaq (τ y0)=some [x0_0]) (l0:[x0_0].all leaf=true):Zal τ [(1,1,y0)] [(.sl 0 0 true []),(.sl 0 0 true [])]=some [(.sl 0 0 true []),x0_0]:=by
 simp only[Zal,h0,l0]
 rfl
def ZxH {a0 a1:AV}{l:List AV}:(a0::a1::l).take 2=[a0,a1]:=rfl
def ZxG {a0 a1 a2:AV}{l:List AV}:(a0::a1::a2::l).take 3=[a0,a1,a2]:=rfl
def ZtQ {a0 a1 a2 a3 c0 c1 c2 c3:AV}{l:List AV}:setCells (a0::a1::a2::a3::l) 0 [c0,c1,c2,c3]=c0::c1::c2::c3::l:=rfl
def Zom {τ:Operand->AV}:Zal τ [] [(.sl 0 0 true []),(.sl 0 0 true [])]=some [(.sl 0 0 true []),(.sl 0 0 true [])]:=rfl
def ZtO {a0 a1 a2 a3:AV}{l:List AV}:((a0::a1::a2::a3::l).drop 0).take 4=[a0,a1,a2,a3]:=rfl
def Zol {τ:Operand->AV}{y0 y1:Operand}{x0_0 x1_0 x1_1 x1_2 x1_3:AV}(h0:Zaq (τ y0)=some [x0_0]) (l0:[x0_0].all leaf=true) (h1:Zaq (τ y1)=some [x1_0,x1_1,x1_2,x1_3]) (l1:[x1_0,x1_1,x1_2,x1_3].all leaf=true):Zal τ [(0,1,y0),(1,4,y1)] [(.v (.string ⟨#[]⟩)),(iv 0),(iv 0),(.v (.string ⟨#[]⟩)),(.sl 0 0 true [])]=some [x0_0,x1_0,x1_1,x1_2,x1_3]:=by
 simp only[Zal,h0,l0,h1,l1]
 rfl
def Zok {τ:Operand->AV}{y0:Operand}{x0_0 x0_1 x0_2 x0_3 x0_4:AV}(h0:Zaq (τ y0)=some [x0_0,x0_1,x0_2,x0_3,x0_4]) (l0:[x0_0,x0_1,x0_2,x0_3,x0_4].all leaf=true):Zal τ [(0,5,y0)] [(.v (.string ⟨#[]⟩)),(iv 0),(iv 0),(.v (.string ⟨#[]⟩)),(.sl 0 0 true [])]=some [x0_0,x0_1,x0_2,x0_3,x0_4]:=by
 simp only[Zal,h0,l0]
 rfl
def ZxF {a0 a1 a2 a3 a4:AV}{l:List AV}:(a0::a1::a2::a3::a4::l).take 5=[a0,a1,a2,a3,a4]:=rfl
def ZtR {a0 c0:AV}{l:List AV}:setCells (a0::l) 0 [c0]=c0::l:=rfl
end
def k85:=Kx 85 []
def k43:=Ku (none) 43 [.u [[],[],[],[0,1,2],[0,1,2],[],[],[]]]
def cloneZ_a {l:List Zon}{full:Bool}{h:AH}{id:Nat}(hl:l.length<=300000000000) (hf:h[id]?=some .free):ACalls Tryz.prog 85 [.sl l.length 2 full (rows zonC l)] h λr h'=>r=.ret (.own id 1 l.length)/\h'=h.set id (.mk 1 139 2 (rows zonC l)):=by
 have hid:id<h.length:=(List.getElem?_eq_some_iff.1 hf).1
 refine tJ' k85 λN hn hlt _ hbd=>?_
 simp only[tb'] at hbd ⊢
 refine wk'<|Zab<|wm<|?_
 refine ZuX lk (λ_=>pt) (λbn3 hbn3=>?_)
 refine sn' ?_
 refine cd' lk (λhc1=>?_) (λhc1=>?_)
 .refine wr'<|mv' lkn pt2<|Zam<|ZaN ((ALe.own1' (st':=2) (ty:=139) gt2 hl0 pt2 ha0).trans (ALe.moveLast hf hn gt2 pt2 rfl))<|Zbh<|Zah<|Zae (rs1 (rr_t gt2))<|?_
  have h0:l=[]:=List.eq_nil_of_length_eq_zero ((Nat.eq_zero_or_pos _).resolve_right (λe=>by have:=hbn3 e;rw[hc1] at this;cases this))
  subst h0
  exact⟨_,[.gone],rfl,by simp[hn],Zpo hlt (by simp[Ent.lt,AV.ltL]),by simp[AE.lt,AV.lt];omega,rfl,rfl⟩
 refine za<|wr'<|E' (ZcB Zqg hl0 ha0) pt<|mw<|?_
 refine E' (Zby (Zgj lk (ZoD _)) lk gx rfl om (ZdU (λ_=>rfl) _) hs0) pt ?_
 refine mv' lk7 pt2<|Zam<|ZaN (ALe.moveLast hf hn gt2 pt2 rfl)<|Zbh<|Zae (rs1 (rr_t gt2))<|?_
 exact⟨_,[.gone],rfl,by simp[hn],Zpo hlt (by simp[Ent.lt,Zb6]),by simp[AE.lt,AV.lt];omega,by simp,by simp⟩
def cloneK_a {l:List Lnk}{full:Bool}{h:AH}{id:Nat}(hl:l.length<=300000000000) (hf:h[id]?=some .free):ACalls Tryz.prog 70 [.sl l.length 2 full (rows lnkC l)] h λr h'=>r=.ret (.own id 1 l.length)/\h'=h.set id (.mk 1 81 2 (rows lnkC l)):=by
 have hid:id<h.length:=(List.getElem?_eq_some_iff.1 hf).1
 refine tJ' k70 λN hn hlt _ hbd=>?_
 simp only[tb'] at hbd ⊢
 refine wk'<|Zab<|wm<|?_
 refine ZuX lk (λ_=>pt) (λbn3 hbn3=>?_)
 refine sn' ?_
 refine cd' lk (λhc1=>?_) (λhc1=>?_)
 .refine wr'<|mv' lkn pt2<|Zam<|ZaN ((ALe.own1' (st':=2) (ty:=81) gt2 hl0 pt2 ha0).trans (ALe.moveLast hf hn gt2 pt2 rfl))<|Zbh<|Zah<|Zae (rs1 (rr_t gt2))<|?_
  have h0:l=[]:=List.eq_nil_of_length_eq_zero ((Nat.eq_zero_or_pos _).resolve_right (λe=>by have:=hbn3 e;rw[hc1] at this;cases this))
  subst h0
  exact⟨_,[.gone],rfl,by simp[hn],Zpo hlt (by simp[Ent.lt,AV.ltL]),by simp[AE.lt,AV.lt];omega,rfl,rfl⟩
 refine za<|wr'<|E' (ZcB Zqi hl0 ha0) pt<|mw<|?_
 refine E' (Zby (Zgj lk (ZeP _)) lk gx rfl om (Zrh _) hs0) pt ?_
 refine mv' lk7 pt2<|Zam<|ZaN (ALe.moveLast hf hn gt2 pt2 rfl)<|Zbh<|Zae (rs1 (rr_t gt2))<|?_
 exact⟨_,[.gone],rfl,by simp[hn],Zpo hlt (by simp[Ent.lt,Zbq]),by simp[AE.lt,AV.lt];omega,by simp,by simp⟩
def isNaNS (a:ByteArray) (w:World):Calls Tryz.prog 133 #[.string a] w λe w'=>e=.returned (.bool false)/\w'=w:=by
 go_enter Tryz.func133,Tryz.ntmps133
 go_wp2
 go_ret
 exact⟨by simp,rfl⟩
def cmpStr (a b:ByteArray) (w:World):Calls Tryz.prog 88 #[.string a,.string b] w λe w'=>e=.returned (.int .i64 (cmpS a b))/\w'=w:=by
 cases h1:Op.bytesLess a.toList b.toList
 .have h3:=Zjq a b
  rw[h1,Bool.false_or] at h3
  unfold cmpS
  rw[if_neg (show ¬ltS a b=true by unfold ltS;rw[h1];simp)]
  have hv : ∀ w,(binOp .gtr 9 (.string a) (.string b)).run Tryz.prog w=.ok (.bool (ltS b a)) w:=λw=>by
   obtain⟨v,hv,e⟩:=ZqK (P:=Tryz.prog) (op:=.gtr) (a:=a) (b:=b) rfl 9 w
   cases e
   rw[h1,Bool.false_or,h3,Bool.not_not] at hv
   exact hv
  cases h2:ltS b a <;> rw[h2] at hv
  all_goals
   go_enter Tryz.func88,Tryz.ntmps88
   go_wp2_with (go_at_call 133;refine (isNaNS _ _).mono ?_;rintro e w' ⟨rfl,rfl⟩)
   go_ret
   exact⟨rfl,rfl⟩
 unfold cmpS
 rw[if_pos (show ltS a b=true from h1)]
 go_enter Tryz.func88,Tryz.ntmps88
 go_wp2_with (go_at_call 133;refine (isNaNS _ _).mono ?_;rintro e w' ⟨rfl,rfl⟩)
 go_ret
 exact⟨rfl,rfl⟩
def ZrM {β:Type}(nm:β->ByteArray):SWO (Go.Proofs.ltOf λx y=>cmpS (nm x) (nm y)):=by
 have e : ∀ x y,Go.Proofs.ltOf (λx y=>cmpS (nm x) (nm y)) x y=ltS (nm x) (nm y):=λx y=>by
  unfold Go.Proofs.ltOf
  rw[Bool.eq_iff_iff,decide_eq_true_eq];exact Zee
 refine⟨λx=>?_,λx y z h1 h2=>?_,λx y z h1 h2=>?_⟩ <;> simp only[e] at *
 .exact Zjm _
 .exact Zin h1 h2
 cases h:ltS (nm x) (nm z) with
 | false=>rfl
 | true=>rw[ZnF h1 h] at h2;cases h2
def ZwH {β:Type}{nm:β->ByteArray}{x y:β}(h:Go.Proofs.ltOf (λx y=>cmpS (nm x) (nm y)) y x=false):ltS (nm y) (nm x)=false:=by
 unfold Go.Proofs.ltOf at h
 rw[decide_eq_false_iff_not,Zee] at h
 simpa using h
def lnkV (l:Lnk):List Value:=[.string l.1,.string l.2]
abbrev ZonW:=Zon×Option Addr×Nat
def zonV (z:ZonW):List Value:=[.string z.1.1,.slice z.2.1 z.1.2.length z.2.2]
def ZwE (x y:ZonW) (w:World):Calls Tryz.prog 87 #[.agg (zonV x).toArray,.agg (zonV y).toArray] w λe w'=>e=.returned (.int .i64 (cmpS x.1.1 y.1.1)) /\ ∃ q os,w'=grow (w.drewN q) os:=by
 obtain⟨⟨a,l⟩,A,c⟩:=x
 obtain⟨⟨b,m⟩,B,d⟩:=y
 simp only[zonV]
 go_enter Tryz.func87,Tryz.ntmps87
 go_wp2_with (go_at_call 88;refine (cmpStr _ _ _).mono ?_;rintro e w' ⟨rfl,rfl⟩)
 go_ret
 refine⟨rfl,?_⟩
 rw[alloc_eq_grow,alloc_eq_grow,grow_grow]
 exact⟨0,_,rfl⟩
def ZwI (x y:Lnk) (w:World):Calls Tryz.prog 90 #[.agg (lnkV x).toArray,.agg (lnkV y).toArray] w λe w'=>e=.returned (.int .i64 (cmpS x.2 y.2)) /\ ∃ q os,w'=grow (w.drewN q) os:=by
 obtain⟨a,b⟩:=x
 obtain⟨c,d⟩:=y
 simp only[lnkV]
 go_enter Tryz.func90,Tryz.ntmps90
 go_wp2_with (go_at_call 88;refine (cmpStr _ _ _).mono ?_;rintro e w' ⟨rfl,rfl⟩)
 go_ret
 refine⟨rfl,?_⟩
 rw[alloc_eq_grow,alloc_eq_grow,grow_grow]
 exact⟨0,_,rfl⟩
def sortZ0 {h:AH}{id ver:Nat}{f:Value}:Ac 86 [.own id ver 0,.v f] h (.tup []):=by
 refine ACalls.of_below (by kernel_rfl) λw g vs hs ha=>?_
 simp only[RepL,Rep] at ha
 obtain⟨u1,us1,e1,⟨A,c,_,_,_,rfl⟩,u2,us2,e2,e3,rfl⟩:=ha
 subst e3 e2
 obtain rfl:vs = #[.slice A 0 c,u2]:=by cases vs;simp_all
 refine (Go.Proofs.AnyF.slices_SortFunc_none Tryz.sl9z A c _ w).mono ?_
 rintro e w' ⟨rfl,rfl⟩
 refine⟨_,rfl,Below.refl _ _,?_⟩
 simp only[Rep,RepL]
 exact⟨_,rfl,rfl⟩
def sortK0 {h:AH}{id ver:Nat}{f:Value}:Ac 89 [.own id ver 0,.v f] h (.tup []):=by
 refine ACalls.of_below (by kernel_rfl) λw g vs hs ha=>?_
 simp only[RepL,Rep] at ha
 obtain⟨u1,us1,e1,⟨A,c,_,_,_,rfl⟩,u2,us2,e2,e3,rfl⟩:=ha
 subst e3 e2
 obtain rfl:vs = #[.slice A 0 c,u2]:=by cases vs;simp_all
 refine (Go.Proofs.AnyF.slices_SortFunc_none Tryz.sl9l A c _ w).mono ?_
 rintro e w' ⟨rfl,rfl⟩
 refine⟨_,rfl,Below.refl _ _,?_⟩
 simp only[Rep,RepL]
 exact⟨_,rfl,rfl⟩
def ZqJ {h:AH}{id:Nat}{e:Ent}(hi:h[id]?=some e):h.set id e=h:=by
 apply List.ext_getElem?
 intro j
 by_cases hj:j=id
 .subst hj
  rw[List.getElem?_set_self (List.getElem?_eq_some_iff.1 hi).1,hi]
 rw[List.getElem?_set_ne (Ne.symm hj)]
def sortZ_a {h:AH}{id ver ty:Nat}{l:List Zon}(hi:h[id]?=some (.mk ver ty 2 (rows zonC l))) (hn:(l.map (·.1)).Nodup) (hz:l.length<4611686018427387904) :
  ACalls Tryz.prog 86 [.own id ver l.length,.v (.func (.func 87) #[] #[])] h λx h'=>x=.ret (.tup [])/\h'=h.set id (.mk ver ty 2 (rows zonC (srtN l))):=by
 by_cases hl:l=[]
 .subst hl
  refine sortZ0.mono ?_
  rintro x h' ⟨rfl,rfl⟩
  exact⟨rfl,(ZqJ hi).symm⟩
 refine (sort_b (P:=Tryz.prog) Tryz.sl9z (k:=2) om (λw=>by kernel_rfl) (λw=>by kernel_rfl) (enc:=zonV) (λ_=>rfl) (λt v hv=>?_) (ZrM λx:ZonW=>x.1.1) (g0:=87) (λargs w=>?_) (λblk off size w m os dk hd x y=>ZwE x y _) (f:=zonC) (pr:=λx=>x.1) (λ_=>rfl) (λw g x vs hv=>?_) (r:=λa b=>ltS b.1 a.1=false) (λx y hxy=>ZwH (nm:=λx:ZonW=>x.1.1) hxy) hi hl hz (by kernel_rfl)).mono ?_
 .unfold zonV at hv
  simp only[List.mem_cons,List.not_mem_nil,or_false] at hv
  rcases hv with rfl | rfl <;> rfl
 .exact ZeW (by kernel_rfl) args w
 .simp only[RepL,Rep] at hv
  obtain⟨u1,us1,rfl,rfl,u2,us2,rfl,⟨_,A,c,rfl,_⟩,rfl⟩:=hv
  exact⟨(x,A,c),rfl,rfl⟩
 rintro x h' ⟨rfl,l',hp,hs,rfl⟩
 rw[ZuH hn hp hs]
 exact⟨rfl,rfl⟩
def sortK_a {h:AH}{id ver ty:Nat}{l:List Lnk}(hi:h[id]?=some (.mk ver ty 2 (rows lnkC l))) (hn:(l.map (·.2)).Nodup) (hz:l.length<4611686018427387904) :
  ACalls Tryz.prog 89 [.own id ver l.length,.v (.func (.func 90) #[] #[])] h λx h'=>x=.ret (.tup [])/\h'=h.set id (.mk ver ty 2 (rows lnkC (srtL l))):=by
 by_cases hl:l=[]
 .subst hl
  refine sortK0.mono ?_
  rintro x h' ⟨rfl,rfl⟩
  exact⟨rfl,(ZqJ hi).symm⟩
 refine (sort_a (P:=Tryz.prog) Tryz.sl9l (k:=2) om (λw=>by kernel_rfl) (λw=>by kernel_rfl) (enc:=lnkV) (λ_=>rfl) (λt v hv=>?_) (ZrM λx:Lnk=>x.2) (g0:=90) (λargs w=>?_) (λblk off size w m os dk hd x y=>ZwI x y _) hi hl hz (by kernel_rfl)).mono ?_
 .unfold lnkV at hv
  simp only[List.mem_cons,List.not_mem_nil,or_false] at hv
  rcases hv with rfl | rfl <;> rfl
 .exact ZeW (by kernel_rfl) args w
 rintro x h' ⟨rfl,l',hp,hs,rfl⟩
 rw[ZuI hn hp (List.pairwise_iff_getElem.2 λi j hi hj hij=>ZwH (nm:=λx:Lnk=>x.2) (hs i j hi hj hij))]
 exact⟨rfl,rfl⟩
def tofV_a {a:List Rul}{z:List Zon}{k:List Lnk}{x:Zon}{h:AH}(hok:Zo6 (a,z,k)) (hz0:ZbG (a,z,k)=0) (hm:x∈z) :
  ACalls Tryz.prog 91 [.agg (srcB a z k),.agg [sv x.1,.sl x.2.length 10 false (rows eraC x.2)]] h λy h'=>h'=h/\y=.ret (.tup [tabA (ofV (a,z,k) x).1,iv (ofV (a,z,k) x).2]):=by
 have hE:=ZiZ hz0
 have hal:=(ZdZ hE).1
 simp only at hal
 obtain⟨⟨pl,hpl⟩,_⟩:=ZqZ hz0 hm tMin
 have hne:inP (Za5 a tMin none x.2)≠[]:=by rw[show Za5 a tMin none x.2=_ from hpl];unfold inP;rw[List.takeWhile_cons,if_pos (decide_eq_true (by show tMin<=tMax;decide))];simp
 have hF:ofV (a,z,k) x=ofP a x.2:=by unfold ofV ofP;rw[<-Zm5 hz0 hm]
 rw[hF]
 exact tof_a (Zo7 hok) om (ZfN hE hm) hne
def ZnA (s:Src) {zs:List Zon}{i:Nat}(h:i<zs.length):mapT s (zs.take (i+1))=mapT s (zs.take i)++[(zs[i].1,(ofV s zs[i]).1)]:=by
 unfold mapT
 rw[List.take_succ_eq_append_getElem h,List.map_append];rfl
def Zeb (s:Src) (zs:List Zon):(mapT s zs).length=zs.length:=List.length_map _
def ZnD {s:Src}(h0:ZbG s=0) {e:Int}(he:errT s (srtN s.2.1)=e) (hne:e≠0):Zfo s=(rel0,e):=by
 subst he
 unfold Zfo
 rw[if_neg (by simpa using h0),if_pos hne]
def Zrc {s:Src}(h0:ZbG s=0) (hE:errT s (srtN s.2.1)=0):Zfo s=((mapT s (srtN s.2.1),srtL s.2.2),0):=by
 unfold Zfo
 rw[if_neg (by simpa using h0),if_neg (by simpa using hE)]
def ZcU {e:AV}:Wk (.tup [.agg [.sl 0 0 true [],.sl 0 0 true []],e]) (.tup [.agg (relC rel0),e]):=Wk.tup (wkw (Wk.agg (wkw Wk.nilF (wkw Wk.nilF wk0))) (wk1 rfl wk0))
def make_a {a:List Rul}{z:List Zon}{k:List Lnk}{h:AH}(hok:Zo6 (a,z,k)) :
  Ac 43 [.agg (srcB a z k)] h (.tup [.agg (relC (Zfo (a,z,k)).1),iv (Zfo (a,z,k)).2]):=by
 refine tUW' k43 λN hn hlt _ hbd=>?_
 simp only[tb'] at hbd ⊢
 refine wr'<|E' (ZaM cv rfl hl0 ha0) pt<|E' (ZaR hl1 ha1) pt<|ms<|Zab<|wr'<|Vw (Zad lk gx ZtP rfl)<|Zac mp (zcheck_a hok) pt<|mw<|Zam<|?_
 refine Zan<|wm<|Vw (ZaY lk lki)<|sn'<|?_
 refine cd' lk (λhc1=>?_) (λhc1=>?_)
 .have hM:Zfo (a,z,k)=(rel0,ZbG (a,z,k)):=if_pos hc1
  refine wr'<|Vw (Zat Zqh)<|mw<|E' (Zai lk cv gx rfl nb rfl ZeC hs1) ptn<|mr<|Zah<|Zae (rsn (rm1 (rr_c gt gx (ld1 ZeB rfl)) (rm1 (rr_t gt) rm0)))<|rtW'<|?_
  rw[hM];exact ZcU
 have h0:ZbG (a,z,k)=0:=Decidable.of_not_not hc1
 obtain⟨n1,n2,n3⟩:=Zgq h0
 obtain⟨q1,q2,q3,q4,q5,q6,q7⟩:=ZdZ (ZiZ h0)
 simp only at q1 q2 q3 q4 q5 q6 q7 n1 n2
 have hpz:=Zeq n1
 have hpk:=Zm6 n2
 have hzl:=hpz.length_eq
 have hkl:=hpk.length_eq
 refine Zay ?_
 refine ZaN (ALe.trans (ALe.icePtr gx gt1 (by simp) pt1 hs0) (ALe.trans (ALe.addFreeR ha2) (ALe.addFreeR ha3))) ?_
 refine Zab<|Zf9<|uf (ZaZ lk dp1)<|uf (Zav lk gt)<|?_
 refine Zhi mp gx (λhU hUe=>cloneZ_a om hUe) nh hs2 pt ?_
 refine uf (ZaZ lk dp2)<|uf (Zav lk gt)<|?_
 refine Zhi mp gx (λhU hUe=>cloneK_a om hUe) nh hs3 pt ?_
 refine uf vm<|uf vm<|Zkp<|Zan<|wm<|?_
 refine Zi9 mp (sortZ_a gx n1 om) hs2 pt ?_
 refine Zam ?_
 refine ZaN (ALe.iceN (hga hn rfl) gt5 (List.take_of_length_le (by rw[ZoD];omega)) (by rw[ZoD];omega) (by exact hzl.symm) pt5 hs2) ?_
 refine wm<|?_
 refine Zi9 mp (sortK_a gx n2 om) hs3 pt ?_
 refine Zam ?_
 refine ZaN (ALe.iceN (hga hn rfl) gt6 (List.take_of_length_le (by rw[ZeP];omega)) (by rw[ZeP];omega) (by exact hkl.symm) pt6 hs3) ?_
 refine wm<|Vw (Zat (Zoo cv rfl))<|E' (ZaR hl4 ha4) pt<|E' (Zai lk cv gx rfl nb rfl ZeC hs4) ptn<|Zam<|?_
 refine ZaN (ALe.own0Cell (st':=5) (ty:=45) gx gt0 hl5 pt0 (Eq.trans (congrArg (λz=>List.set z _ _) ha5) hs4)) ?_
 refine Zab<|wm<|Vw (Zaz lk)<|ms<|Zag<|?_
 refine w_lp (ι:=Nat×Nat) (λ⟨i,v⟩=>[(32,iv (i:Int)),(3,.any)]++rn' 9 3++rn' 33 23) (λ⟨i,v⟩=>[(4,.mk 0 25 2 [.own (N+5) v (mapT (a,z,k) ((srtN z).take i)).length,.sl (srtL k).length 2 false (rows lnkC (srtL k))]),(5,.mk v 45 5 (rows namC (mapT (a,z,k) ((srtN z).take i))))]) (λ⟨i,v⟩=>i<=(srtN z).length/\errT (a,z,k) (srtN z)=errT (a,z,k) ((srtN z).drop i)) (λ⟨i,v⟩=>(srtN z).length-i) (⟨0,0⟩) (by exact⟨Nat.zero_le _,rfl⟩) ?_
 rintro⟨i,v⟩ hi1
 try simp only[sm',Nat.reduceAdd]
 obtain⟨hi1,hi2⟩:=hi1
 refine wr'<|Vw (ZaJ lk lk)<|sn'<|Zab<|?_
 refine cd' lk (λhc2=>?_) (λhc2=>?_)
 .have hi:i<(srtN z).length:=by omega
  have hst:=ZnA (a,z,k) hi
  have hml:=Zeb (a,z,k) ((srtN z).take i)
  rw[List.length_take] at hml
  have hmem:=hpz.mem_iff.1 (List.getElem_mem hi)
  unfold errT at hi2
  rw[ZdY hi] at hi2
  refine za<|Zab<|Zag<|wr'<|?_
  refine V' (ZaE lk lk ZcD nb ro om ro rfl) pt ?_
  refine Vw (Zar lk ZxH rfl)<|E' (ZaR hl6 ha6) pt<|E' (Zai lk cv gx rfl nb rfl ZeC hs6) ptn<|sn'<|wr'<|Vw (Zar lk ZxG rfl)<|Vw (Zad lk gx ZeB rfl)<|Zac mp (tofV_a hok h0 hmem) pt<|mw<|Vw (ZaS lk gt)<|Vw (ZaS lk gt)<|E' (ZaR hl7 ha7) pt<|?_
  refine E' (Zai lk cv gx rfl nb rfl ZtQ hs7) ptn<|ms<|Zab<|wm<|Vw (ZaY lk lki)<|sn'<|?_
  refine cd' lk (λhc3=>?_) (λhc3=>?_)
  .rw[if_pos hc3] at hi2
   have hM:=ZnD h0 hi2 hc3
   refine wr'<|Vw (Zat Zom)<|mw<|E' (Zai lk cv gx rfl nb rfl ZeC hs1) ptn<|mr<|Zah<|Zap<|Zah<|Zah<|Zap<|?_
   refine Zah<|Zae (rsn (rm1 (rr_c gt gx (ld1 ZeB rfl)) (rm1 (rr_t gt) rm0)))<|rtW'<|?_
   rw[hM];exact ZcU
  rw[if_neg hc3] at hi2
  refine za<|Zao<|fq<|Vw (Zaa lk gx gt0)<|fq<|Vw (Zaa lk gx gt0)<|Vw (Zad lk gx ZtO rfl)<|Vw (Zat (Zol cv rfl cv rfl))<|E' (ZcB (Zok cv rfl) hl8 ha8) pt<|?_
  refine E' (Zby (Zbm lk gx rfl ZxF nb) lk gx (Zba _) om rfl hs5) pt ?_
  refine fq<|E' (Zai lk cv gx rfl nb rfl ZtR hs4) ptn<|Zam<|Zau<|Zan<|Zao<|?_
  refine ad<|mw<|Zam<|Zaw<|?_
  refine lU' (⟨i+1,v+1⟩) (by (try dsimp only);exact⟨by omega,hi2⟩) (by refine zz ?_;exact bk' 6 hn hlt (by rw[hst,List.length_append,ZaG];rfl) (hT:=by simp[AV.lt,AV.ltL,Ent.lt]) (hE:=by simp[AV.lt,AV.ltL,Ent.lt]))
 rw[List.drop_of_length_le (show (srtN z).length<=i by omega)] at hi2
 have hM:=Zrc h0 hi2
 rw[List.take_of_length_le (show (srtN z).length<=i by omega)]
 refine Zax<|Zas<|Zas<|ZaK<|?_
 refine ZaN (ALe.iceCellR (hga hn rfl) (hga hn rfl) om gt0 (List.take_of_length_le (by rw[Zba];exact Nat.le_refl _)) (by rw[Zba];exact Nat.le_refl _) pt0 hs5 hs4) ?_
 refine wr'<|Vw (Zad lk gx ZeB rfl)<|E' (Zai lk cv gx rfl nb rfl ZeC hs1) ptn<|mr<|Zae (rsn (rm1 (rr_c gt gx (ld1 ZeB rfl)) (rm1 (rr_t gt) rm0)))<|rtW'<|?_
 rw[hM];exact Wk.refl _
end Go.Proofs.YthmgnolcfjiicaaGreatDoor
end
namespace Go.Proofs.YthmgnolcfjiicaaGreatDoor
open Go.Ab
variable {h:AH}{a0 a1 a2 a3 c0 c1:AV}{f1 f2:Bool}{b:ByteArray}{l:List AV}{n:Nam}{i:Nat}
section
open Go.Ab Go.RowKit Civ
def rel1:Rel:=([(nHt,tab0)],[(nHt,nOld)])
def upd1:Upd:=([],[(nHt,tab0)],[],[(nHt,nOld)])
def make0:Zfo src0=(rel1,0):=by
 have hs:srtN src0.2.1=src0.2.1:=rfl
 have h1:errT src0 (srtN src0.2.1)=0:=by
  rw[hs]
  show (if (ofV src0 (nHt,[era0,era1])).2≠0 then _ else (0:Int))=0
  rw[of0];rfl
 rw[Zfo,if_neg (by rw[chk0];simp),if_neg (by rw[h1];simp),hs]
 show (([(nHt,(ofV src0 (nHt,[era0,era1])).1)],srtL src0.2.2),(0:Int))=_
 rw[of0];rfl
def ZsE:ZaQ rel1=0:=by
 have:=Zsq (s:=src0) (by rw[make0])
 rwa [make0] at this
def diff0:ZhF rel0 rel1=(upd1,0):=by
 rw[ZhF,if_neg (by decide),if_neg (by rw[ZsE];simp)];rfl
def Zmg:Zfd rel1:=⟨λn hn=>by
 simp only[rel1,List.mem_cons,List.not_mem_nil,or_false] at hn
 subst hn
 exact⟨by decide,Zq4 chkT0⟩,λl hl=>by
 simp only[rel1,List.mem_cons,List.not_mem_nil,or_false] at hl
 subst hl
 exact⟨by decide,by decide⟩⟩
def rchk1 :Ac 13 [.agg (relC rel1)] h (iv 0):=by
 have:=Zij (t:=rel1.1) (k:=rel1.2) (f1:=false) (f2:=false) (h:=h) Zmg
 rw[show ZaQ (rel1.1,rel1.2)=0 from ZsE] at this
 exact this
end
section
open Go.Ab Go.RowKit Civ
attribute [local simp] Zbl Zcz Zbq ZcM
section
def Zj2 :(a0::a1::a2::a3::l).take 4=[a0,a1,a2,a3]:=rfl
def Zj3 :(a0::a1::l).take 2=[a0,a1]:=rfl
def Ztr :setCells (a0::a1::l) 0 [c0,c1]=c0::c1::l:=rfl
def Zts {a0 b0:ByteArray}{a1 b1:ByteArray}:Za7 [.str,.str] [sv a0,sv a1] [sv b0,sv b1]=some (decide (a0=b0/\a1=b1)):=by
 simp only[Za7,ZcY,if_true,ZbP,Option.some.injEq]
 simp only[Bool.decide_and,Bool.and_true]
 try (congr 1 <;> simp)
 try rfl
end
def k38:=Kx 38 [.e [] 7 [],.e [] 7 []]
def k39:=Kx 39 []
def k8:=Kx 8 [.e [] 19 [],.e [] 15 []]
def k49:=Kx 49 [.e [] 25 []]
def c28:AC:=(Sr [Oo 2 (.box 25 2 (t 0)),Oo 3 (.box 25 2 (t 1)),Mb 4 false] (.seq (Sr [Fa 6 0 2,Ld 7 6,Fa 8 0 3,Ld 9 8,Cl 10 49 [(t 7),(t 9)],Oo 11 (.un .not (t 10)),Mv 12 11,Of 13 12 (.fa 1 (t 2)),Of 14 12 (.load false 1 (t 13)),Of 15 12 (.len false (t 14)),Of 16 12 (.fa 1 (t 3)),Of 17 12 (.load false 1 (t 16)),Of 18 12 (.len false (t 17)),Of 19 12 (.bin .neq (t 15) (t 18)),Oo 20 (.pick (t 12) (.const (.bool true)) (t 19))] (Cd 20 (Sr [Mb 4 false] .ret) .skip)) (.seq (Sr [Mc 5 0] (.block 0 (.loop (.seq (Sr [Mv 21 5,Fa 22 1 2,Ld 23 22,Oo 24 (.len false (t 23)),Bn 25 .lss 21 24] (Cd 25 .skip (.exit 0))) (.seq (.block 1 (Sd [Fa 28 1 2,Ld 29 28,Mv 30 5,Oo 31 (.ia 2 (t 29) (t 30)),Oo 32 (.load true 2 (t 31)),Fa 33 1 3,Ld 34 33,Mv 35 5,Oo 36 (.ia 2 (t 34) (t 35)),Oo 37 (.load true 2 (t 36)),Oo 38 (.eqs true [.str,.str] (t 32) (t 37))] (Cd 38 (Sr [Mb 4 false] .ret) .skip))) (.reg [Mv 26 5,Bc 27 .add 26 1,Mv 5 27])))))) (Sr [Mb 4 true] .ret))))
def k28:ZbT Tryz.prog 28=some ⟨c28,[(.tmp 4)],39⟩:=by kernel_rfl
def k9:=Kx 9 [.e [] 10 []]
def cmpD:List UInt8->List UInt8->Int
 | [],[]=>0
 | [],_::_ => -1
 | _::_,[]=>1
 | x::xs,y::ys=>if x<y then -1 else if y<x then 1 else cmpD xs ys
def ZwJ : ∀ (x y:List UInt8),cmpD x y=if x<y then -1 else if y<x then 1 else 0
 | [],[]=>by simp[cmpD]
 | [],y::ys=>by simp[cmpD]
 | x::xs,[]=>by simp[cmpD]
 | x::xs,y::ys=>by
  rw[cmpD,ZwJ xs ys]
  simp only[List.cons_lt_cons_iff]
  by_cases h1:x<y
  .rw[if_pos h1,if_pos (.inl h1)]
  rw[if_neg h1]
  by_cases h2:y<x
  .rw[if_pos h2,if_neg,if_pos (.inl h2)]
   rintro (h | ⟨rfl,h⟩)
   .exact h1 h
   exact h1 h2
  rw[if_neg h2]
  have e:x=y:=by
   rw[UInt8.lt_iff_toNat_lt] at h1 h2
   exact UInt8.toNat_inj.1 om
  subst e
  simp only[h1,false_or,true_and]
def cmpB (a b:ByteArray) (i:Nat):Int:=cmpD (a.data.toList.drop i) (b.data.toList.drop i)
def ZwK (a b:ByteArray):cmpS a b=cmpB a b 0:=by
 unfold cmpB cmpS
 rw[List.drop_zero,List.drop_zero,ZwJ]
 simp only[Zhw]
def Zw0 {s:ByteArray}(h:i<s.size):s.data.toList[i]'(by simpa using h)=ZbQ s i:=by
 unfold ZbQ;rw[List.getD_eq_getElem?_getD,List.getElem?_eq_getElem (by simpa using h)];rfl
def ZjF {a:ByteArray}(h1:i<a.size) (h2:i<b.size):cmpB a b i=if ((ZbQ a i).toNat:Int)<((ZbQ b i).toNat:Int) then -1 else if ((ZbQ b i).toNat:Int)<((ZbQ a i).toNat:Int) then 1 else cmpB a b (i+1):=by
 unfold cmpB
 rw[List.drop_eq_getElem_cons (show i<a.data.toList.length by simpa using h1),List.drop_eq_getElem_cons (show i<b.data.toList.length by simpa using h2),cmpD,Zw0 h1,Zw0 h2]
 simp only[UInt8.lt_iff_toNat_lt,Int.ofNat_lt]
def cmpB_l {a:ByteArray}(h1:a.size<=i) (h2:i<b.size):cmpB a b i = -1:=by
 unfold cmpB
 rw[List.drop_of_length_le (show a.data.toList.length<=i by simpa using h1),List.drop_eq_getElem_cons (show i<b.data.toList.length by simpa using h2)];rfl
def cmpB_r {a:ByteArray}(h1:i<a.size) (h2:b.size<=i):cmpB a b i=1:=by
 unfold cmpB
 rw[List.drop_of_length_le (show b.data.toList.length<=i by simpa using h2),List.drop_eq_getElem_cons (show i<a.data.toList.length by simpa using h1)];rfl
def cmpB_e {a:ByteArray}(h1:a.size<=i) (h2:b.size<=i):cmpB a b i=0:=by
 unfold cmpB
 rw[List.drop_of_length_le (show a.data.toList.length<=i by simpa using h1),List.drop_of_length_le (show b.data.toList.length<=i by simpa using h2)];rfl
def ZeI {a:ByteArray}(hs:a.size<=maxLen):Ac 38 [sv a,sv b] h (iv (cmpS a b)):=by
 have hs':a.size<=9223372036854775807:=by simpa [maxLen] using hs
 refine tI' k38 λN hn _ _ hbd=>?_
 simp only[tb'] at hbd ⊢
 refine wk'<|Zab<|wk'<|Zag<|?_
 refine w_lp (ι:=Nat) (λ(i:Nat)=>[(5,iv (i:Int)),(4,.any)]++rn' 6 26) (λ(i:Nat)=>[]) (λ(i:Nat)=>i<=a.size/\i<=b.size/\cmpS a b=cmpB a b i) (λ(i:Nat)=>a.size-i) (0) (by exact⟨Nat.zero_le _,Nat.zero_le _,ZwK a b⟩) ?_
 rintro i hi1
 try simp only[sm',Nat.reduceAdd]
 obtain⟨hk1,hk2,hk3⟩:=hi1
 refine Zab<|wm<|mw<|Vw (ZcK lk)<|Vw (ZaJ lk lk)<|mw<|?_
 refine sp' (t:=10) gt pt pt (λhg10=>?_) (λhg10=>?_)
 .refine sd<|mw<|sd<|mw<|sd<|Vw (ZcK lk)<|sd<|Vw (ZaJ lk lk)<|Vw (Zaj lk lk)<|sn'<|?_
  refine cd' lk (λhc1=>?_) (λhc1=>?_)
  .refine za<|Zab<|Zag<|Zab<|Zab<|ZaD<|Dw vm<|Dw vm<|?_
   refine D' (v_ix lk lk om om) pt ?_
   refine Dw vm<|Dw vm<|?_
   refine D' (v_ix lk lk om om) pt ?_
   refine Dw (ZaJ lk lk)<|ZaH<|?_
   refine ZaU ?_
   refine sn' ?_
   refine cd' lk (λhc2=>?_) (λhc2=>?_)
   .replace hc2:((ZbQ a i).toNat:Int)<((ZbQ b i).toNat:Int):=hc2
    rw[ZjF om om,if_pos hc2] at hk3
    refine wo<|Zah<|Zap<|Zah<|Zah<|Zap<|Zah<|Zae rz<|rT'<|?_
    exact ivx hk3.symm
   replace hc2:¬((ZbQ a i).toNat:Int)<((ZbQ b i).toNat:Int):=hc2
   refine za<|Zab<|ZaD<|Dw vm<|Dw vm<|?_
   refine D' (v_ix lk lk om om) pt ?_
   refine Dw vm<|Dw vm<|?_
   refine D' (v_ix lk lk om om) pt ?_
   refine Dw (Zbr lk lk)<|ZaH<|?_
   refine ZaU ?_
   refine sn' ?_
   refine cd' lk (λhc3=>?_) (λhc3=>?_)
   .replace hc3:((ZbQ b i).toNat:Int)<((ZbQ a i).toNat:Int):=hc3
    rw[ZjF om om,if_neg hc2,if_pos hc3] at hk3
    refine wo<|Zap<|Zah<|Zah<|Zap<|Zah<|Zae rz<|rT'<|?_
    exact ivx hk3.symm
   replace hc3:¬((ZbQ b i).toNat:Int)<((ZbQ a i).toNat:Int):=hc3
   rw[ZjF om om,if_neg hc2,if_neg hc3] at hk3
   refine Zay<|Zau<|Zan<|Zao<|mw<|?_
   refine ad<|mw<|Zam<|Zaw<|?_
   refine lT' (i+1) (by (try dsimp only);exact⟨by omega,by omega,hk3⟩)
  refine Zax<|Zas<|Zas<|ZaK<|Zan<|Zab<|wm<|Vw (ZcK lk)<|mw<|Vw (ZcK lk)<|Vw (ZaJ lk lk)<|Zam<|?_
  refine Zan ?_
  refine cd' lk (λhc4=>?_) (λhc4=>?_)
  .rw[cmpB_l om om] at hk3
   refine wo<|Zah<|Zae rz<|rT'<|?_
   exact ivx hk3.symm
  refine za<|Zab<|wm<|Vw (ZcK lk)<|mw<|Vw (ZcK lk)<|Vw (Zbr lk lk)<|sn'<|?_
  refine cd' lk (λhc5=>?_) (λhc5=>?_)
  .rw[cmpB_r om om] at hk3
   refine wo<|Zah<|Zae rz<|rT'<|?_
   exact ivx hk3.symm
  rw[cmpB_e om om] at hk3
  refine za<|wo<|Zae rz<|rT'<|?_
  exact ivx hk3.symm
 refine so<|so<|so<|so<|Vw (Zak lk lkb)<|sn'<|ZaV lk<|Zax<|Zas<|Zas<|ZaK<|Zan<|Zab<|?_
 refine wm<|Vw (ZcK lk)<|mw<|Vw (ZcK lk)<|Vw (ZaJ lk lk)<|sn'<|?_
 refine cd' lk (λhc4=>?_) (λhc4=>?_)
 .rw[cmpB_l om om] at hk3
  refine wo<|Zah<|Zae rz<|rT'<|?_
  exact ivx hk3.symm
 refine za<|Zab<|wm<|Vw (ZcK lk)<|mw<|Vw (ZcK lk)<|Vw (Zbr lk lk)<|sn'<|?_
 refine cd' lk (λhc5=>?_) (λhc5=>?_)
 .rw[cmpB_r om om] at hk3
  refine wo<|Zah<|Zae rz<|rT'<|?_
  exact ivx hk3.symm
 rw[cmpB_e om om] at hk3
 refine za<|wo<|Zae rz<|rT'<|?_
 exact ivx hk3.symm
def atN (t:List Nam) (nm:ByteArray):Int:=idxV (λn:Nam=>decide (n.1=nm)) t
def Zcs {t:List Nam}{nm:ByteArray}:Ac 39 [.sl t.length 5 f1 (rows namC t),sv nm] h (iv (atN t nm)):=by
 refine tI' k39 λN hn _ _ hbd=>?_
 simp only[tb'] at hbd ⊢
 refine wk'<|Zab<|wk'<|Zag<|?_
 refine w_lp (ι:=Nat) (λ(i:Nat)=>[(5,iv (i:Int)),(4,.any)]++rn' 6 14) (λ(i:Nat)=>[]) (λ(i:Nat)=>i<=t.length /\ ∀ j (hj:j<t.length),j<i->decide (t[j].1=nm)=false) (λ(i:Nat)=>t.length-i) (0) (by exact⟨by omega,λj hj h0=>absurd h0 om⟩) ?_
 rintro i hi1
 try simp only[sm',Nat.reduceAdd]
 obtain⟨hk1,hk2⟩:=hi1
 refine Zab<|wm<|mw<|Vw (Zaz lk)<|Vw (ZaJ lk lk)<|sn'<|?_
 refine cd' lk (λhc1=>?_) (λhc1=>?_)
 .have hk:i<t.length:=by omega
  refine za<|Zab<|Zag<|wm<|mw<|?_
  refine V' (ZaE lk lk ZaC nb ro om ro rfl) pt ?_
  refine Vw (ZaZ lk dp0)<|Vw (Zav lk gt)<|mw<|Vw (Ze4 lk lk)<|sn'<|?_
  refine cd' lk (λhc2=>?_) (λhc2=>?_)
  .refine wm<|mr<|Zap<|Zah<|Zah<|Zap<|Zah<|Zae rz<|rT'<|?_
   refine ivx ?_
   have hi:t.findIdx (λn:Nam=>decide (n.1=nm))=i:=(List.findIdx_eq hk).2 ⟨decide_eq_true hc2,λj hj=>hk2 j om hj⟩
   unfold atN idxV;rw[if_pos (by rw[hi];exact hk),hi]
  refine Zay<|Zau<|Zan<|Zao<|mw<|?_
  refine ad<|mw<|Zam<|Zaw<|?_
  refine lT' (i+1) (by (try dsimp only);refine⟨by omega,λj hj h0=>?_⟩;by_cases e:j=i;(subst e;exact decide_eq_false hc2);exact hk2 j hj om)
 refine Zax<|Zas<|Zas<|ZaK<|Zan<|wo<|Zae rz<|rT'<|?_
 refine ivx ?_
 have hi:t.findIdx (λn:Nam=>decide (n.1=nm))=t.length:=List.findIdx_eq_length.2 λn hn=>by obtain⟨j,hj,rfl⟩:=List.getElem_of_mem hn;exact hk2 j hj om
 unfold atN idxV;rw[if_neg om]
def Zgd {t:List Nam}{nm:ByteArray}(h:atN t nm<0):hasN t nm=false:=Zjv.1 h
def Zem {t:List Nam}{nm:ByteArray}(h:¬atN t nm<0):hasN t nm=true:=by
 cases hh:hasN t nm with
 | true=>rfl
 | false=>exact absurd (Zjv.2 hh) h
def ZrX {a:ByteArray}(h:0<=cmpS a b):Zci (some a) b=false:=by
 show ltS a b=false
 rw[Bool.eq_false_iff,ne_eq,<-Zee];omega
def Zn3 {a:ByteArray}(h:¬0<=cmpS a b):Zci (some a) b=true:=by
 show ltS a b=true
 rw[<-Zee];omega
def Zgo {t:List Nam}{k:List Lnk}(hok:Zfd (t,k)):Ac 8 [.agg [.sl t.length 5 f1 (rows namC t),.sl k.length 2 f2 (rows lnkC k)]] h (iv (ZaQ (t,k))):=by
 refine tI' k8 λN hn hlt _ hbd=>?_
 simp only[tb'] at hbd ⊢
 refine wr'<|E' (ZaM cv rfl hl0 ha0) pt<|ms<|Zab<|wr'<|fq<|Vw (Zaa lk gx gt0)<|Vw (Zaz lk)<|Vw (Zbr lk lki)<|mw<|?_
 refine sp' (t:=11) gt pt pt (λhg11=>?_) (λhg11=>?_)
 .have hR:ZaQ (t,k)=2:=Ze1 (.inl (by show 20<t.length;omega))
  refine so<|so<|so<|so<|Vw (Zaj lk lkb)<|sn'<|Za6 lk<|wo<|?_
  refine Zah<|Zae rz<|rT'<|?_
  rw[hR]
 refine sd<|fq<|sd<|Vw (Zaa lk gx gt1)<|sd<|Vw (Zaz lk)<|sd<|Vw (Zbr lk lki)<|Vw (Zak lk lk)<|sn'<|?_
 refine cd' lk (λhc1=>?_) (λhc1=>?_)
 .have hR:ZaQ (t,k)=2:=Ze1 (.inr (by show 20<k.length;omega))
  refine wo<|Zah<|Zae rz<|rT'<|?_
  rw[hR]
 have hno:¬(20<t.length\/20<k.length):=by omega
 refine za<|Zab<|wk'<|Zag<|?_
 refine w_lp (ι:=Nat) (λ(i:Nat)=>[(3,iv (i:Int)),(2,.any),(4,.any)]++rn' 17 44) (λ(i:Nat)=>[]) (λ(i:Nat)=>i<=t.length/\chkN none t=chkN (ZdV (·.1) t i) (t.drop i)) (λ(i:Nat)=>t.length-i) (0) (by exact⟨Nat.zero_le _,rfl⟩) ?_
 rintro i hi1
 try simp only[sm',Nat.reduceAdd]
 obtain⟨hi1,hi2⟩:=hi1
 refine Zab<|wm<|fq<|Vw (Zaa lk gx gt0)<|Vw (Zaz lk)<|Vw (ZaJ lk lk)<|sn'<|?_
 refine cd' lk (λhc2=>?_) (λhc2=>?_)
 .have hi:i<t.length:=by omega
  have hn_:=hok.1 _ (List.getElem_mem hi)
  rw[ZwQ hi] at hi2
  refine za<|Zab<|Zag<|Zab<|wr'<|fq<|Vw (Zaa lk gx gt0)<|mw<|?_
  refine V' (ZaE lk lk ZaC nb ro om ro rfl) pt ?_
  refine Vw (ZaZ lk dp0)<|Vw (Zav lk gt)<|Zac mp (Znh hn_.1) pt<|Vw (ZaF lk)<|sn'<|?_
  refine ZaA lk (λhc3=>?_) (λhc3=>?_)
  .have hb:Zb2 t[i].1=false:=by simpa using hc3
   rw[if_pos hb] at hi2
   refine wo<|Zah<|Zap<|Zah<|Zah<|Zap<|Zah<|Zae rz<|rT'<|?_
   rw[Zc5 (r:=(t,k)) hno (by rw[hi2];decide),hi2]
  have hb:Zb2 t[i].1=true:=by simpa using hc3
  rw[if_neg (by rw[hb];simp)] at hi2
  refine za<|wr'<|fq<|Vw (Zaa lk gx gt0)<|mw<|?_
  refine V' (ZaE lk lk ZaC nb ro om ro rfl) pt ?_
  refine Vw (ZaZ lk dp1)<|Vw (Zar lk Zj2 rfl)<|Zac mp (ZqO (l:=t[i].2.2) hn_.2.1 hn_.2.2) pt<|ms<|Zab<|wm<|Vw (ZaY lk lki)<|sn'<|?_
  refine cd' lk (λhc4=>?_) (λhc4=>?_)
  .have hv:Za3 t[i].2≠0:=hc4
   rw[if_pos hv] at hi2
   refine wm<|mr<|Zah<|Zap<|Zah<|Zah<|Zap<|Zah<|Zae rz<|?_
   refine rT' ?_
   rw[Zc5 (r:=(t,k)) hno (by rw[hi2];exact hv),hi2]
  have hv:¬Za3 t[i].2≠0:=hc4
  rw[if_neg hv] at hi2
  refine za<|Zab<|ZaD<|Dw vm<|Dw (Zbr lk lki)<|Dw vm<|?_
  refine dq' (t:=44) gt pt pt (λhg44=>?_) (λhg44=>?_)
  .have hp:ZdV (·.1) t i=some (t[i-1]'(by omega)).1:=by have:=ZdG (f:=(·.1)) (l:=t) (i:=i-1) om;rwa [show i-1+1=i by omega] at this
   refine dO<|dg<|dO<|Dw (Zaa lk gx gt0)<|dO<|Dw vm<|dO<|?_
   refine D' (Za2 lk lki om om) pt ?_
   refine d_do gt ?_
   refine D' (ZaE (k:=i-1) lk lk ZaC nb ro om ro rfl) pt ?_
   refine dO<|Dw (ZaZ lk dp0)<|dO<|Dw (Zav lk gt)<|dO<|dg<|dO<|Dw (Zaa lk gx gt0)<|dO<|Dw vm<|dO<|?_
   refine D' (ZaE lk lk ZaC nb ro om ro rfl) pt ?_
   refine dO<|Dw (ZaZ lk dp0)<|dO<|Dw (Zav lk gt)<|dO<|?_
   refine ZaB mp (λhE hX=>ZeI (hok.1 (t[i-1]'(by omega)) (List.getElem_mem _)).1) pt ?_
   refine dO<|Dw (Zeo lk lki)<|Dw (Zaj lk lk)<|ZaH<|?_
   refine ZaU ?_
   refine sn' ?_
   refine cd' lk (λhc5=>?_) (λhc5=>?_)
   .have hA:Zci (ZdV (·.1) t i) t[i].1=false:=by rw[hp];exact ZrX om
    rw[if_pos hA] at hi2
    refine wo<|Zap<|Zah<|Zah<|Zap<|Zah<|Zae rz<|rT'<|?_
    rw[Zc5 (r:=(t,k)) hno (by rw[hi2];decide),hi2]
   have hA:Zci (ZdV (·.1) t i) t[i].1=true:=by rw[hp];exact Zn3 om
   refine Zay<|Zau<|Zan<|Zao<|mw<|?_
   refine ad<|mw<|Zam<|Zaw<|?_
   refine lT' (i+1) (by (try dsimp only);exact⟨by omega,by rw[hi2,if_neg (by rw[hA];simp)]⟩)
  have hA:Zci (ZdV (·.1) t i) t[i].1=true:=by obtain rfl:i=0:=om;rfl
  refine dn<|dn<|dn<|dn<|dn<|dn<|dn<|dn<|dn<|dn<|dn<|dn<|dn<|dn<|?_
  refine dn<|Dw (Zak lk lkb)<|ZaH<|?_
  refine ZaU ?_
  refine sn'<|ZaV lk<|Zay<|Zau<|Zan<|Zao<|mw<|?_
  refine ad<|mw<|Zam<|Zaw<|?_
  refine lT' (i+1) (by (try dsimp only);exact⟨by omega,by rw[hi2,if_neg (by rw[hA];simp)]⟩)
 rw[List.drop_of_length_le (show t.length<=i by omega)] at hi2
 have hN:chkN none t=0:=by rw[hi2];rfl
 have hC:=Zit (r:=(t,k)) hno hN
 refine Zax<|Zas<|Zas<|ZaK<|Zan<|Zab<|wk'<|Zag<|?_
 refine w_lp (ι:=Nat) (λ(j:Nat)=>[(5,iv (j:Int)),(2,.any),(6,.any)]++rn' 61 43) (λ(j:Nat)=>[]) (λ(j:Nat)=>j<=k.length/\chkL t none k=chkL t (ZdV (·.2) k j) (k.drop j)) (λ(j:Nat)=>k.length-j) (0) (by exact⟨Nat.zero_le _,rfl⟩) ?_
 rintro j hi2
 try simp only[sm',Nat.reduceAdd]
 obtain⟨hj1,hj2⟩:=hi2
 refine Zab<|wm<|fq<|Vw (Zaa lk gx gt1)<|Vw (Zaz lk)<|Vw (ZaJ lk lk)<|sn'<|?_
 refine cd' lk (λhc6=>?_) (λhc6=>?_)
 .have hj:j<k.length:=by omega
  have hln:=hok.2 _ (List.getElem_mem hj)
  rw[ZwT hj] at hj2
  refine za<|Zab<|Zag<|wr'<|fq<|Vw (Zaa lk gx gt1)<|mw<|?_
  refine V' (ZaE lk lk (λ_=>rfl) nb ro om ro rfl) pt ?_
  refine Vw (Zar lk Zj3 rfl)<|E' (ZaR hl1 ha1) pt<|E' (Zai lk cv gx rfl nb rfl Ztr hs1) ptn<|sn'<|Zab<|wr'<|fq<|Vw (Zaa lk gx gt1)<|Zac mp (Znh hln.2) pt<|Vw (ZaF lk)<|sn'<|?_
  refine ZaA lk (λhc7=>?_) (λhc7=>?_)
  .have hb:Zb2 k[j].2=false:=by simpa using hc7
   rw[if_pos hb] at hj2
   refine wo<|Zah<|Zap<|Zah<|Zah<|Zap<|Zah<|Zae rz<|rT'<|?_
   rw[hC];exact ivx hj2.symm
  have hb:Zb2 k[j].2=true:=by simpa using hc7
  rw[if_neg (by rw[hb];simp)] at hj2
  refine za<|Zab<|Zab<|ZaD<|Dw vm<|Dw (Zbr lk lki)<|Dw vm<|?_
  refine dq' (t:=79) gt pt pt (λhg79=>?_) (λhg79=>?_)
  .have hp:ZdV (·.2) k j=some (k[j-1]'(by omega)).2:=by have:=ZdG (f:=(·.2)) (l:=k) (i:=j-1) om;rwa [show j-1+1=j by omega] at this
   refine dO<|dg<|dO<|Dw (Zaa lk gx gt1)<|dO<|Dw vm<|dO<|?_
   refine D' (Za2 lk lki om om) pt ?_
   refine d_do gt ?_
   refine D' (ZaE (k:=j-1) lk lk Zbe nb ro om ro rfl) pt ?_
   refine dO<|Dw (ZaZ lk dp1)<|dO<|Dw (Zav lk gt)<|dO<|dg<|dO<|Dw (Zaa lk gx gt1)<|dO<|?_
   refine ZaB mp (λhE hX=>ZeI (hok.2 (k[j-1]'(by omega)) (List.getElem_mem _)).2) pt ?_
   refine dO<|Dw (Zeo lk lki)<|Dw (Zaj lk lk)<|ZaH<|?_
   refine ZaU ?_
   refine sn' ?_
   refine cd' lk (λhc8=>?_) (λhc8=>?_)
   .have hA:Zci (ZdV (·.2) k j) k[j].2=false:=by rw[hp];exact ZrX om
    rw[if_pos hA] at hj2
    refine wo<|Zah<|Zap<|Zah<|Zah<|Zap<|Zah<|Zae rz<|rT'<|?_
    rw[hC];exact ivx hj2.symm
   have hA:Zci (ZdV (·.2) k j) k[j].2=true:=by rw[hp];exact Zn3 om
   rw[if_neg (by rw[hA];simp)] at hj2
   refine za<|Zab<|wr'<|fq<|Vw (Zaa lk gx gt0)<|fq<|Vw (Zaa lk gx gt1)<|Zac mp (Zcs) pt<|Vw (Zeo lk lki)<|sn'<|?_
   refine cd' lk (λhc9=>?_) (λhc9=>?_)
   .rw[if_pos (Zem om)] at hj2
    refine wo<|Zah<|Zap<|Zah<|Zah<|Zap<|Zah<|Zae rz<|rT'<|?_
    rw[hC];exact ivx hj2.symm
   rw[if_neg (by rw[Zgd om];simp)] at hj2
   refine za<|wr'<|fq<|Vw (Zaa lk gx gt0)<|fq<|Vw (Zaa lk gx gt0)<|Zac mp (Zcs) pt<|Vw (ZaJ lk lki)<|sn'<|?_
   refine cd' lk (λhc10=>?_) (λhc10=>?_)
   .rw[if_pos (Zgd om)] at hj2
    refine wo<|Zap<|Zah<|Zah<|Zap<|Zah<|Zae rz<|rT'<|?_
    rw[hC];exact ivx hj2.symm
   rw[if_neg (by rw[Zem om];simp)] at hj2
   refine Zay<|Zau<|Zan<|Zao<|mw<|?_
   refine ad<|mw<|Zam<|Zaw<|?_
   refine lU' (j+1) (by (try dsimp only);exact⟨by omega,hj2⟩) (by refine zz ?_;exact bk' 1 hn hlt)
  have hA:Zci (ZdV (·.2) k j) k[j].2=true:=by obtain rfl:j=0:=om;rfl
  rw[if_neg (by rw[hA];simp)] at hj2
  refine dn<|dn<|dn<|dn<|dn<|dn<|dn<|dn<|dn<|dn<|dn<|Dw (Zak lk lkb)<|ZaH<|?_
  refine ZaU ?_
  refine sn'<|ZaV lk<|za<|Zab<|wr'<|fq<|Vw (Zaa lk gx gt0)<|fq<|Vw (Zaa lk gx gt1)<|Zac mp (Zcs) pt<|Vw (Zeo lk lki)<|?_
  refine sn' ?_
  refine cd' lk (λhc9=>?_) (λhc9=>?_)
  .rw[if_pos (Zem om)] at hj2
   refine wo<|Zah<|Zap<|Zah<|Zah<|Zap<|Zah<|Zae rz<|rT'<|?_
   rw[hC];exact ivx hj2.symm
  rw[if_neg (by rw[Zgd om];simp)] at hj2
  refine za<|wr'<|fq<|Vw (Zaa lk gx gt0)<|fq<|Vw (Zaa lk gx gt0)<|Zac mp (Zcs) pt<|Vw (ZaJ lk lki)<|sn'<|?_
  refine cd' lk (λhc10=>?_) (λhc10=>?_)
  .rw[if_pos (Zgd om)] at hj2
   refine wo<|Zap<|Zah<|Zah<|Zap<|Zah<|Zae rz<|rT'<|?_
   rw[hC];exact ivx hj2.symm
  rw[if_neg (by rw[Zem om];simp)] at hj2
  refine Zay<|Zau<|Zan<|Zao<|mw<|?_
  refine ad<|mw<|Zam<|Zaw<|?_
  refine lU' (j+1) (by (try dsimp only);exact⟨by omega,hj2⟩) (by refine zz ?_;exact bk' 1 hn hlt)
 rw[List.drop_of_length_le (show k.length<=j by omega)] at hj2
 refine Zax<|Zas<|Zas<|ZaK<|Zan<|wo<|Zae rz<|rT'<|?_
 rw[hC];exact ivx hj2.symm
section
set_option synthInstance.maxSize 4000
instance decNam:DecidableEq Nam:=inferInstanceAs (DecidableEq (ByteArray×Tab))
instance decNams:DecidableEq (List Nam):=inferInstance
instance decRel:DecidableEq Rel:=inferInstanceAs (DecidableEq (List Nam×List Lnk))
end
def ZkM {α:Type}{l m:List α}{k:Nat}(h1:k<l.length) (h2:k<m.length) (h:l.take k=m.take k) (he:l[k]=m[k]):l.take (k+1)=m.take (k+1):=by
 rw[List.take_succ_eq_append_getElem h1,List.take_succ_eq_append_getElem h2,h,he]
def Zih {t u:List Nam}:Ac 49 [.sl t.length 5 f1 (rows namC t),.sl u.length 5 f2 (rows namC u)] h (bv (decide (t=u))):=by
 refine tI' k49 λN hn _ _ hbd=>?_
 simp only[tb'] at hbd ⊢
 refine wk'<|Zab<|wm<|Vw (Zaz lk)<|mw<|Vw (Zaz lk)<|Vw (ZaY lk lk)<|Zam<|?_
 refine Zan ?_
 refine cd' lk (λhc1=>?_) (λhc1=>?_)
 .have hne:¬t=u:=λe=>by subst e;exact hc1 rfl
  refine wo<|Zah<|Zae rz<|rT'<|?_
  exact bvx (decide_eq_false hne).symm
 refine za<|Zab<|wk'<|Zag<|?_
 refine w_lp (ι:=Nat) (λ(i:Nat)=>[(5,iv (i:Int)),(4,.any)]++rn' 11 31) (λ(i:Nat)=>[]) (λ(i:Nat)=>i<=t.length/\t.length=u.length/\t.take i=u.take i) (λ(i:Nat)=>t.length-i) (0) (by exact⟨by omega,by omega,by simp⟩) ?_
 rintro i hi1
 try simp only[sm',Nat.reduceAdd]
 obtain⟨hk1,hk2,hk3⟩:=hi1
 refine Zab<|wm<|mw<|Vw (Zaz lk)<|Vw (ZaJ lk lk)<|sn'<|?_
 refine cd' lk (λhc2=>?_) (λhc2=>?_)
 .have hi:i<t.length:=by omega
  have hi':i<u.length:=by omega
  refine za<|Zab<|Zag<|Zab<|ZaD<|Dw vm<|Dw vm<|?_
  refine D' (ZaE lk lk ZaC nb ro om ro rfl) pt ?_
  refine Dw (ZaZ lk dp0)<|Dw (Zav lk gt)<|Dw vm<|Dw vm<|?_
  refine D' (ZaE lk lk ZaC nb ro om ro rfl) pt ?_
  refine Dw (ZaZ lk dp0)<|Dw (Zav lk gt)<|?_
  refine D' ((by first | exact ZaY lk lk | exact Zd2 lk lk)) pt ?_
  refine D' vm pt ?_
  refine dq' (t:=28) gt pt pt (λhg28=>?_) (λhg28=>?_)
  .have hne:¬t=u:=λe=>by subst e;exact hg28 rfl
   refine dn<|dn<|dn<|dn<|dn<|dn<|dn<|dn<|dn<|dn<|dn<|dn<|Dw (Zaj lk lkb)<|ZaH<|?_
   refine ZaU ?_
   refine sn'<|Za6 lk<|wo<|Zap<|Zah<|Zah<|Zap<|Zah<|?_
   refine Zae rz<|rT'<|?_
   exact bvx (decide_eq_false hne).symm
  refine dO<|Dw vm<|dO<|Dw vm<|dO<|?_
  refine D' (ZaE lk lk ZaC nb ro om ro rfl) pt ?_
  refine dO<|Dw (ZaZ lk dp1)<|dO<|Dw (Zar lk Zj2 rfl)<|dO<|Dw vm<|dO<|Dw vm<|dO<|?_
  refine D' (ZaE lk lk ZaC nb ro om ro rfl) pt ?_
  refine dO<|Dw (ZaZ lk dp1)<|dO<|Dw (Zar lk Zj2 rfl)<|dO<|?_
  refine ZaB mp (λhE hX=>Zhm (t:=t[i].2) (u:=u[i].2)) pt ?_
  refine dO<|Dw (ZaF lk)<|Dw (Zak lk lk)<|ZaH<|?_
  refine ZaU ?_
  refine sn' ?_
  refine ZaA lk (λhc3=>?_) (λhc3=>?_)
  .have hne:¬t=u:=λe=>by subst e;simp at hc3
   refine wo<|Zap<|Zah<|Zah<|Zap<|Zah<|Zae rz<|rT'<|?_
   exact bvx (decide_eq_false hne).symm
  have hst:=ZkM hi hi' hk3 (Prod.ext (Decidable.of_not_not hg28) (by simpa using hc3))
  refine Zay<|Zau<|Zan<|Zao<|mw<|?_
  refine ad<|mw<|Zam<|Zaw<|?_
  refine lT' (i+1) (by (try dsimp only);exact⟨by omega,hk2,hst⟩)
 rw[List.take_of_length_le (show t.length<=i by omega),List.take_of_length_le (show u.length<=i by omega)] at hk3
 refine Zax<|Zas<|Zas<|ZaK<|Zan<|wo<|Zae rz<|rT'<|?_
 exact bvx (decide_eq_true hk3).symm
def lnk_ext {a b:Lnk}(h:a.1=b.1/\a.2=b.2):a=b:=Prod.ext h.1 h.2
def ZkQ {t u:List Nam}{k m:List Lnk}{f3 f4:Bool}:Ac 28 [.agg [.sl t.length 5 f1 (rows namC t),.sl k.length 2 f2 (rows lnkC k)],.agg [.sl u.length 5 f3 (rows namC u),.sl m.length 2 f4 (rows lnkC m)]] h (bv (decide ((t,k)=(u,m)))):=by
 refine tI' k28 λN hn _ _ hbd=>?_
 simp only[tb'] at hbd ⊢
 refine wr'<|E' (ZaM cv rfl hl0 ha0) pt<|E' (ZaM cv rfl hl1 ha1) pt<|ms<|Zab<|wr'<|fq<|Vw (Zaa lk gx gt0)<|fq<|Vw (Zaa lk gx gt0)<|?_
 refine Zac mp (Zih) pt<|Vw (ZaF lk)<|mw<|?_
 refine Zbd (t:=12) gt pt pt (λhg12=>?_) (λhg12=>?_)
 .have hne:¬(t,k)=(u,m):=λe=>by cases e;simp at hg12
  refine so<|so<|so<|so<|so<|so<|so<|Vw (Zaj lk lkb)<|sn'<|Za6 lk<|wm<|?_
  refine sr<|Zah<|Zae rz<|rT'<|?_
  exact bvx (decide_eq_false hne).symm
 have htu:t=u:=by simpa using hg12
 refine sd<|fq<|sd<|Vw (Zaa lk gx gt1)<|sd<|Vw (Zaz lk)<|sd<|fq<|sd<|Vw (Zaa lk gx gt1)<|sd<|Vw (Zaz lk)<|sd<|Vw (ZaY lk lk)<|?_
 refine Vw (Zak lk lk)<|sn'<|?_
 refine cd' lk (λhc1=>?_) (λhc1=>?_)
 .have hne:¬(t,k)=(u,m):=λe=>by cases e;exact hc1 rfl
  refine wo<|Zah<|Zae rz<|rT'<|?_
  exact bvx (decide_eq_false hne).symm
 refine za<|Zab<|wk'<|Zag<|?_
 refine w_lp (ι:=Nat) (λ(i:Nat)=>[(5,iv (i:Int)),(4,.any)]++rn' 21 18) (λ(i:Nat)=>[]) (λ(i:Nat)=>i<=k.length/\k.length=m.length/\k.take i=m.take i) (λ(i:Nat)=>k.length-i) (0) (by exact⟨by omega,by omega,by simp⟩) ?_
 rintro i hi1
 try simp only[sm',Nat.reduceAdd]
 obtain⟨hk1,hk2,hk3⟩:=hi1
 refine Zab<|wm<|fq<|Vw (Zaa lk gx gt1)<|Vw (Zaz lk)<|Vw (ZaJ lk lk)<|sn'<|?_
 refine cd' lk (λhc2=>?_) (λhc2=>?_)
 .have hi:i<k.length:=by omega
  have hi':i<m.length:=by omega
  refine za<|Zab<|Zag<|Zab<|ZaD<|dg<|Dw (Zaa lk gx gt1)<|Dw vm<|?_
  refine D' (ZaE lk lk Zbe nb ro om ro rfl) pt ?_
  refine Dw (Zar lk Zj3 rfl)<|dg<|Dw (Zaa lk gx gt1)<|Dw vm<|?_
  refine D' (ZaE lk lk Zbe nb ro om ro rfl) pt ?_
  refine Dw (Zar lk Zj3 rfl)<|Dw (Zga lk lk Zts)<|ZaH<|?_
  refine ZaU ?_
  refine sn' ?_
  refine cd' lk (λhc3=>?_) (λhc3=>?_)
  .have hne:¬(t,k)=(u,m):=λe=>by cases e;exact hc3 ⟨rfl,rfl⟩
   refine wo<|Zap<|Zah<|Zah<|Zap<|Zah<|Zae rz<|rT'<|?_
   exact bvx (decide_eq_false hne).symm
  have hst:=ZkM hi hi' hk3 (lnk_ext (Decidable.of_not_not hc3))
  refine Zay<|Zau<|Zan<|Zao<|mw<|?_
  refine ad<|mw<|Zam<|Zaw<|?_
  refine lT' (i+1) (by (try dsimp only);exact⟨by omega,hk2,hst⟩)
 rw[List.take_of_length_le (show k.length<=i by omega),List.take_of_length_le (show m.length<=i by omega)] at hk3
 refine Zax<|Zas<|Zas<|ZaK<|Zan<|wo<|Zae rz<|rT'<|?_
 exact bvx (decide_eq_true (by rw[htu,hk3])).symm
def lookI (r:Rel) (nm:ByteArray):Int:=atN r.1 (tgtR r.2 nm)
def Zsd {t:List Nam}{k:List Lnk}{nm:ByteArray}:Ac 9 [.agg [.sl t.length 5 f1 (rows namC t),.sl k.length 2 f2 (rows lnkC k)],sv nm] h (iv (lookI (t,k) nm)):=by
 refine tI' k9 λN hn _ _ hbd=>?_
 simp only[tb'] at hbd ⊢
 refine wr'<|E' (ZaM cv rfl hl0 ha0) pt<|ms<|Zab<|wk'<|Zag<|?_
 refine w_lp (ι:=Nat) (λ(i:Nat)=>[(5,iv (i:Int)),(4,.any)]++rn' 6 24) (λ(i:Nat)=>[]) (λ(i:Nat)=>i<=k.length /\ ∀ j (hj:j<k.length),j<i->decide (k[j].2=nm)=false) (λ(i:Nat)=>k.length-i) (0) (by exact⟨by omega,λj hj h0=>absurd h0 om⟩) ?_
 rintro i hi1
 try simp only[sm',Nat.reduceAdd]
 obtain⟨hk1,hk2⟩:=hi1
 refine Zab<|wm<|fq<|Vw (Zaa lk gx gt1)<|Vw (Zaz lk)<|Vw (ZaJ lk lk)<|sn'<|?_
 refine cd' lk (λhc1=>?_) (λhc1=>?_)
 .have hi:i<k.length:=by omega
  refine za<|Zab<|Zag<|wr'<|fq<|Vw (Zaa lk gx gt1)<|mw<|?_
  refine V' (ZaE lk lk Zbe nb ro om ro rfl) pt ?_
  refine Vw (ZaZ lk dp1)<|Vw (Zav lk gt)<|mw<|Vw (Ze4 lk lk)<|sn'<|?_
  refine cd' lk (λhc2=>?_) (λhc2=>?_)
  .have hf:k.findIdx (λl:Lnk=>decide (l.2=nm))=i:=(List.findIdx_eq hi).2 ⟨decide_eq_true hc2,λj hj=>hk2 j om hj⟩
   have hT:tgtR k nm=k[i].1:=by unfold tgtR;rw[hf,List.getElem?_eq_getElem hi]
   refine Zab<|ZaD<|dg<|Dw (Zaa lk gx gt0)<|dg<|Dw (Zaa lk gx gt1)<|Dw vm<|?_
   refine D' (ZaE lk lk Zbe nb ro om ro rfl) pt ?_
   refine Dw (ZaZ lk dp0)<|Dw (Zav lk gt)<|?_
   refine ZaB mp (λhE hX=>Zcs) pt ?_
   refine Dw vm<|ZaH<|?_
   refine ZaU ?_
   refine sr<|Zap<|Zah<|Zah<|Zap<|Zah<|Zae rz<|rT'<|?_
   refine ivx ?_;show _=atN t (tgtR k nm);rw[hT]
  refine Zay<|Zau<|Zan<|Zao<|mw<|?_
  refine ad<|mw<|Zam<|Zaw<|?_
  refine lT' (i+1) (by (try dsimp only);refine⟨by omega,λj hj h0=>?_⟩;by_cases e:j=i;(subst e;exact decide_eq_false hc2);exact hk2 j hj om)
 have hf:k.findIdx (λl:Lnk=>decide (l.2=nm))=k.length:=List.findIdx_eq_length.2 λn hn=>by obtain⟨j,hj,rfl⟩:=List.getElem_of_mem hn;exact hk2 j hj om
 have hT:tgtR k nm=nm:=by unfold tgtR;rw[hf,List.getElem?_eq_none (Nat.le_refl _)]
 refine Zax<|Zas<|Zas<|ZaK<|Zan<|wr'<|fq<|Vw (Zaa lk gx gt0)<|mw<|Zac mp (Zcs) pt<|ms<|?_
 refine Zbh<|Zae rz<|rT'<|?_
 refine ivx ?_;show _=atN t (tgtR k nm);rw[hT]
end
section
open Go.Ab Go.RowKit Civ
attribute [local simp] Zbl Zcz Zbq ZbR Zcn Zb6
section
def ZlD {a4:AV}:((a0::a1::a2::a3::a4::l).drop 0).take 5=[a0,a1,a2,a3,a4]:=rfl
def ZiB {τ:Operand->AV}{y0:Operand}{x0_0 x0_1 x0_2 x0_3 x0_4:AV}(h0:Zaq (τ y0)=some [x0_0,x0_1,x0_2,x0_3,x0_4]) (l0:[x0_0,x0_1,x0_2,x0_3,x0_4].all leaf=true):Zal τ [(0,5,y0)] [(.v (.string ⟨#[]⟩)),(iv 0),(iv 0),(.v (.string ⟨#[]⟩)),(.sl 0 0 true [])]=some [x0_0,x0_1,x0_2,x0_3,x0_4]:=by
 simp only[Zal,h0,l0]
 rfl
def ZfC {a4:AV}:(a0::a1::a2::a3::a4::l).take 5=[a0,a1,a2,a3,a4]:=rfl
def Zdx {τ:Operand->AV}{y0:Operand}{x0_0 x0_1 x0_2 x0_3 x0_4:AV}(h0:Zaq (τ y0)=some [x0_0,x0_1,x0_2,x0_3,x0_4]) (l0:[x0_0,x0_1,x0_2,x0_3,x0_4].all leaf=true):Zal τ [(0,5,y0)] [(.v (.string ⟨#[]⟩)),(iv 0),(iv 0),(.v (.string ⟨#[]⟩)),(.sl 0 0 true [])]=some [x0_0,x0_1,x0_2,x0_3,x0_4]:=by
 simp only[Zal,h0,l0]
 rfl
def ZiA {τ:Operand->AV}{y0:Operand}{x0_0 x0_1 x0_2 x0_3 x0_4:AV}(h0:Zaq (τ y0)=some [x0_0,x0_1,x0_2,x0_3,x0_4]) (l0:[x0_0,x0_1,x0_2,x0_3,x0_4].all leaf=true):Zal τ [(0,5,y0)] [(.v (.string ⟨#[]⟩)),(iv 0),(iv 0),(.v (.string ⟨#[]⟩)),(.sl 0 0 true [])]=some [x0_0,x0_1,x0_2,x0_3,x0_4]:=by
 simp only[Zal,h0,l0]
 rfl
def ZhT :((a0::a1::a2::l).drop 0).take 3=[a0,a1,a2]:=rfl
def ZmL {τ:Operand->AV}:Zal τ [] [(.sl 0 0 true []),(.sl 0 0 true [])]=some [(.sl 0 0 true []),(.sl 0 0 true [])]:=rfl
def ZhU :setCells (a0::a1::l) 0 [c0,c1]=c0::c1::l:=rfl
def ZfZ :((a0::a1::l).drop 0).take 2=[a0,a1]:=rfl
def ZkA {τ:Operand->AV}{y0:Operand}{x0_0:AV}(h0:Zaq (τ y0)=some [x0_0]) (l0:[x0_0].all leaf=true):Zal τ [(0,1,y0)] [(.v (.string ⟨#[]⟩)),(iv 0),(iv 0),(.v (.string ⟨#[]⟩)),(.sl 0 0 true [])]=some [x0_0,(iv 0),(iv 0),(.v (.string ⟨#[]⟩)),(.sl 0 0 true [])]:=by
 simp only[Zal,h0,l0]
 rfl
def ZtA :setCells (a0::l) 0 [c0]=c0::l:=rfl
def Zj4 :(a0::a1::l).take 2=[a0,a1]:=rfl
def Zof { e:Ent}:([]:AH)++[e]=[e]:=rfl
def ZlE {e0 e1 e2 e3 e4 d0:Ent}:([e0,e1,e2,e3,e4]:AH)++[d0]=[e0,e1,e2,e3,e4,d0]:=rfl
def Ztz {c2 c3:AV}:setCells (a0::a1::a2::a3::l) 0 [c0,c1,c2,c3]=c0::c1::c2::c3::l:=rfl
def Zkz {τ:Operand->AV}:Zal τ [] [(.sl 0 0 true []),(.sl 0 0 true [])]=some [(.sl 0 0 true []),(.sl 0 0 true [])]:=rfl
def Ztx :((a0::a1::a2::a3::l).drop 0).take 4=[a0,a1,a2,a3]:=rfl
def Zky {τ:Operand->AV}{y0:Operand}{x0_0 x0_1:AV}(h0:Zaq (τ y0)=some [x0_0,x0_1]) (l0:[x0_0,x0_1].all leaf=true):Zal τ [(0,2,y0)] [(.v (.string ⟨#[]⟩)),(.v (.string ⟨#[]⟩))]=some [x0_0,x0_1]:=by
 simp only[Zal,h0,l0]
 rfl
def Zty :setCells (a0::a1::l) 1 [c0]=a0::c0::l:=rfl
end
def k42:=Kx 42 [.e [] 13 []]
def k93:=Ku (some [12]) 93 [.u [[],[],[0,1],[0,1],[0,1,2,3],[0,1],[0,1],[0,1],[0,1],[],[],[]],.e [] 18 [false,false],.e [] 8 [false,false,false],.e [] 19 [],.e [113] 19 [true,false,false]]
def qR (t:List Nam) (n:Nam):Nat:=t.findIdx λx=>ltS n.1 x.1
def insQ (t:List Nam) (n:Nam):List Nam:=t.take (qR t n)++n::t.drop (qR t n)
def qR_le (t:List Nam) (n:Nam):qR t n<=t.length:=List.findIdx_le_length
def qR_ins : ∀ {t:List Nam}{n:Nam},hasN t n.1=false->qR t n=posN t n.1
 | [],n,_=>rfl
 | x::t,n,h=>by
  rw[ZnL,Bool.or_eq_false_iff,decide_eq_false_iff_not] at h
  have ih:=qR_ins h.2
  unfold qR posN at ih ⊢
  rw[List.findIdx_cons,List.findIdx_cons,ih]
  have:ltS n.1 x.1=!ltS x.1 n.1:=by
   rcases ZnE h.1 with e | e
   .rw[e,Zek e];rfl
   rw[e,Zek e];rfl
  rw[this]
def Zrr {t:List Nam}(h:hasN t n.1=false):insQ t n=insN t n:=by unfold insQ insN;rw[qR_ins h]
def Zmn (t:List Nam) (n:Nam):(insQ t n).length=t.length+1:=by
 have:=qR_le t n
 unfold insQ
 rw[List.length_append,List.length_take,List.length_cons,List.length_drop];omega
def Zfl (t:List Nam) (n:Nam) (i:Nat):List Nam:=if qR t n<i then t.take (qR t n)++n::(t.drop (qR t n)).take (i-qR t n) else t.take i
def Zvo {t:List Nam}(hi:i<=t.length):(Zfl t n i).length=if qR t n<i then i+1 else i:=by
 unfold Zfl
 split
 .rw[List.length_append,List.length_take,List.length_cons,List.length_take,List.length_drop];omega
 rw[List.length_take];omega
def qR_yes {t:List Nam}(hi:i<t.length) (h:¬qR t n<i) (hc:0<cmpS t[i].1 n.1):qR t n=i :=
 (List.findIdx_eq hi).2 ⟨ZrN.1 hc,λj hj=>by
  have:=List.not_of_lt_findIdx (xs:=t) (p:=λx=>ltS n.1 x.1) (i:=j) (by unfold qR at h;omega)
  simpa using this⟩
def qR_no {t:List Nam}(hi:i<t.length) (h:¬qR t n<i) (hc:¬0<cmpS t[i].1 n.1):¬qR t n<i+1:=λhlt=>by
 have e:qR t n=i:=by omega
 have hq:t.findIdx (λx=>ltS n.1 x.1)<t.length:=by unfold qR at e;omega
 have:=List.findIdx_getElem (w:=hq)
 have e2:t.findIdx (λx=>ltS n.1 x.1)=i:=e
 simp only[e2] at this
 exact hc (ZrN.2 this)
def Zvl {t:List Nam}(h:qR t n<i) (hi:i<t.length):Zfl t n (i+1)=Zfl t n i++[t[i]]:=by
 unfold Zfl
 rw[if_pos om,if_pos h,List.append_assoc,List.cons_append,show i+1-qR t n=i-qR t n+1 by omega,List.take_succ_eq_append_getElem (by rw[List.length_drop];omega),List.getElem_drop]
 simp only[show qR t n+(i-qR t n)=i by omega]
def Zvm {t:List Nam}(h:¬qR t n<i+1) (hi:i<t.length):Zfl t n (i+1)=Zfl t n i++[t[i]]:=by
 unfold Zfl
 rw[if_neg h,if_neg om,List.take_succ_eq_append_getElem hi]
def Zvn {t:List Nam}(h:qR t n=i) (hi:i<t.length):Zfl t n (i+1)=(Zfl t n i++[n])++[t[i]]:=by
 unfold Zfl
 rw[if_pos om,if_neg om,h,show i+1-i=1 by omega,List.drop_eq_getElem_cons hi,List.append_assoc]
 rfl
def Zvp {t:List Nam}(h:qR t n<t.length):Zfl t n t.length=insQ t n:=by
 unfold Zfl insQ
 rw[if_pos h,List.take_of_length_le (l:=t.drop (qR t n)) (by rw[List.length_drop];omega)]
def Zvq {t:List Nam}(h:¬qR t n<t.length):Zfl t n t.length++[n]=insQ t n:=by
 have e:qR t n=t.length:=by have:=qR_le t n;omega
 unfold Zfl insQ
 rw[if_neg h,e,List.take_of_length_le (Nat.le_refl _),List.drop_of_length_le (Nat.le_refl _)]
def rput0 {t:List Nam}{id v:Nat}(he:h[id]?=some (.mk v 45 5 (rows namC t))) (hl:t.length<=1954687338240) (hs : ∀ x∈t,x.1.size<=maxLen) :
  ACalls Tryz.prog 42 [.own id v t.length,.agg (namC n)] h λx h' => ∃ z j u,h'=h++z/\z[j]?=some (.mk u 45 5 (rows namC (insQ t n)))/\x=.ret (.own (h.length+j) u (insQ t n).length):=by
 refine tN' k42 λN hn hlt _ hbd=>?_
 simp only[tb'] at hbd ⊢
 have hidN:id<N:=by rw[<-hn];exact (List.getElem?_eq_some_iff.1 he).1
 refine wr'<|E' (ZaM (cvl lk1 rfl) rfl hl0 ha0) pt3<|mv' lkn pt4<|sn'<|wr'<|mv' lkn pt5<|Zam<|ZaN (ALe.own0' (st':=5) (ty:=45) gt5 hl1 pt5 ha1)<|wr'<|mv' lkb pt6<|?_
 refine sn'<|Zab<|wk'<|Zag<|?_
 refine w_lp (ι:=Nat×Nat) (λ⟨i,w⟩=>[(5,.own (N+1) w (Zfl t n i).length),(6,bv (decide (qR t n<i))),(7,iv (i:Int))]++rn' 8 30) (λ⟨i,w⟩=>[(1,.mk w 45 5 (rows namC (Zfl t n i)))]) (λ⟨i,w⟩=>i<=t.length) (λ⟨i,w⟩=>t.length-i) (⟨0,0⟩) (by exact Nat.zero_le _) ?_
 rintro⟨i,w⟩ hi1
 try simp only[sm',Nat.reduceAdd]
 replace hi1:i<=t.length:=hi1
 have hpl:=Zvo hi1 (n:=n)
 refine Zab<|wm<|mw<|Vw (Zcy lk)<|Vw (ZaJ lk lk)<|sn'<|?_
 refine cd' lk (λhc1=>?_) (λhc1=>?_)
 .have hi:i<t.length:=by omega
  have hti:=hs _ (List.getElem_mem hi)
  refine za<|Zab<|Zag<|Zab<|Zab<|ZaD<|Dw vm<|?_
  refine D' ((by first | exact v_not lk | exact ZaF lk)) pt ?_
  refine D' vm pt ?_
  refine dq' (t:=16) gt pt pt (λhg16=>?_) (λhg16=>?_)
  .have hq:¬qR t n<i:=by simpa using hg16
   rw[if_neg hq] at hpl
   refine dO<|Dw vm<|dO<|Dw vm<|dO<|?_
   refine D' (ZaW lk lk (Zdj he) ZaC nb ro om (by first | rfl | (simp;done) | omega)) pt ?_
   refine dO<|Dw (Zbu lk)<|dO<|?_
   refine D' (Zck lk (Zdj he) ZaC om nb gt0) pt ?_
   refine dO<|dg<|dO<|Dw (Zaa lk gx gt0)<|dO<|?_
   refine ZaB mp (λhE hX=>ZeI hti) pt ?_
   refine dO<|Dw (Zbr lk lki)<|Dw (Zaj lk lk)<|ZaH<|?_
   refine ZaU ?_
   refine sn' ?_
   refine cd' lk (λhc2=>?_) (λhc2=>?_)
   .have hqi:=qR_yes hi hq om
    have hstp:=Zvn hqi hi
    refine wm<|Vw (Zad lk gx ZlD rfl)<|E' (ZcB (ZiB cv rfl) hl2 ha2) pt<|?_
    refine E' (Zby (Zbm lk gx rfl ZfC nb) lk gx (Zba _) om rfl hs1) pt ?_
    refine ms<|Zao<|ms<|Zao<|mw<|mw<|mw<|?_
    refine V' (ZaW lk lk (Zdj he) ZaC nb ro om (by first | rfl | (simp;done) | omega)) pt ?_
    refine V' (Zfh lk (Zdj he) ZaC om rfl) pt ?_
    refine E' (ZcB (Zdx cv rfl) hl3 ha3) pt ?_
    refine E' (Zby (Zbm lk (hga hn rfl) rfl ZfC nb) lk (hga hn rfl) (by rw[List.length_append,Zba,show ([sv n.1,iv n.2.1.1,iv n.2.1.2.1,sv n.2.1.2.2,chS n.2.2]:List AV).length=5 from rfl];omega) om rfl hs1) pt ?_
    refine mw<|Zam<|Zau<|Zan<|Zao<|mw<|?_
    refine ad<|mw<|Zam<|Zaw<|?_
    refine lU' (⟨i+1,w+1+1⟩) (by (try dsimp only);omega) (by refine zz ?_;exact bkE' 2 hn hlt (by repeat (first | exact wk0 | refine wka ?_ | refine wk1 rfl ?_ | refine wk1 (by first | rfl | exact ivx om | exact bvx (decide_eq_true om) | exact bvx (decide_eq_decide.2 om) | exact bvx (Eq.trans (decide_eq_decide.2 om) hg16) | (rw[hstp,List.length_append];rfl) | (rw[hstp,List.length_append,List.length_append];rfl)) ?_)) (by rw[hstp,ZaG,ZaG];rfl))
   have hqn:=qR_no hi hq om
   have hstp:=Zvm hqn hi
   refine za<|Zao<|mw<|mw<|mw<|?_
   refine V' (ZaW lk lk (Zdj he) ZaC nb ro om (by first | rfl | (simp;done) | omega)) pt ?_
   refine V' (Zfh lk (Zdj he) ZaC om rfl) pt ?_
   refine E' (ZcB (Zdx cv rfl) hl2 ha2) pt ?_
   refine E' (Zby (Zbm lk gx rfl ZfC nb) lk gx (Zba _) om rfl hs1) pt ?_
   refine mw<|Zam<|Zau<|Zan<|Zao<|mw<|?_
   refine ad<|mw<|Zam<|Zaw<|?_
   refine lU' (⟨i+1,w+1⟩) (by (try dsimp only);omega) (by refine zz ?_;exact bkE' 2 hn hlt (by repeat (first | exact wk0 | refine wka ?_ | refine wk1 rfl ?_ | refine wk1 (by first | rfl | exact ivx om | exact bvx (decide_eq_true om) | exact bvx (decide_eq_decide.2 om) | exact bvx (Eq.trans (decide_eq_decide.2 om) hg16) | (rw[hstp,List.length_append];rfl) | (rw[hstp,List.length_append,List.length_append];rfl)) ?_)) (by rw[hstp,ZaG];rfl))
  have hq:qR t n<i:=by simpa using hg16
  rw[if_pos hq] at hpl
  have hstp:=Zvl hq hi
  refine dn<|dn<|dn<|dn<|dn<|dn<|dn<|dn<|dn<|Dw (Zak lk lkb)<|ZaH<|?_
  refine ZaU ?_
  refine sn'<|ZaV lk<|za<|Zao<|mw<|mw<|mw<|?_
  refine V' (ZaW lk lk (Zdj he) ZaC nb ro om (by first | rfl | (simp;done) | omega)) pt ?_
  refine V' (Zfh lk (Zdj he) ZaC om rfl) pt ?_
  refine E' (ZcB (Zdx cv rfl) hl2 ha2) pt ?_
  refine E' (Zby (Zbm lk gx rfl ZfC nb) lk gx (Zba _) om rfl hs1) pt ?_
  refine mw<|Zam<|Zau<|Zan<|Zao<|mw<|?_
  refine ad<|mw<|Zam<|Zaw<|?_
  refine lU' (⟨i+1,w+1⟩) (by (try dsimp only);omega) (by refine zz ?_;exact bkE' 2 hn hlt (by repeat (first | exact wk0 | refine wka ?_ | refine wk1 rfl ?_ | refine wk1 (by first | rfl | exact ivx om | exact bvx (decide_eq_true om) | exact bvx (decide_eq_decide.2 om) | exact bvx (Eq.trans (decide_eq_decide.2 om) hg16) | (rw[hstp,List.length_append];rfl) | (rw[hstp,List.length_append,List.length_append];rfl)) ?_)) (by rw[hstp,ZaG];rfl))
 obtain rfl:i=t.length:=by omega
 refine Zax<|Zas<|Zas<|ZaK<|Zan<|Zab<|wm<|?_
 refine V' ((by first | exact v_not lk | exact ZaF lk)) pt ?_
 refine sn' ?_
 refine cd' lk (λhc3=>?_) (λhc3=>?_)
 .have hq:¬qR t n<t.length:=by simpa using hc3
  rw[if_neg hq] at hpl
  have hend:=Zvq hq
  refine Zao<|mw<|Vw (Zad lk gx ZlD rfl)<|E' (ZcB (ZiA cv rfl) hl2 ha2) pt<|?_
  refine E' (Zby (Zbm lk gx rfl ZfC nb) lk gx (Zba _) om rfl hs1) pt ?_
  refine ms<|wm<|mr<|Zae rz<|?_
  refine⟨_,1,_,rfl,(by rw[<-hend,ZaG];rfl),?_⟩;rw[hn,<-hend,List.length_append];rfl
 have hq:qR t n<t.length:=by simpa using hc3
 have hend:=Zvp hq
 refine za<|wm<|mr<|Zae rz<|?_
 refine⟨_,1,_,rfl,(by rw[<-hend];rfl),?_⟩;rw[hn,<-hend]
def rput_t {t:List Nam}{id v:Nat}(he:h[id]?=some (.mk v 45 5 (rows namC t))) (hl:t.length<=1954687338240) (hs : ∀ x∈t,x.1.size<=maxLen) :
  ACalls Tryz.prog 42 [.own id v t.length,.agg (namC n)] h λx h'=>x=.ret (.own id (v+1) (t.length+1))/\h'=h.set id (.mk (v+1) 45 5 (rows namC (insQ t n))):=by
 have:=ACalls.turnTo he (Zcz _) (rput0 (n:=n) he hl hs)
 rw[Zmn] at this
 exact this
def nz (x:Zon):Nam:=(x.1,Zdr)
def Zi6 (l:List Zon):List Nam:=(l.map nz).foldl insQ []
def Zr4 {l:List Zon}(h:i<l.length):Zi6 (l.take (i+1))=insQ (Zi6 (l.take i)) (nz l[i]):=by
 unfold Zi6;rw[List.take_succ_eq_append_getElem h,List.map_append,List.foldl_append];rfl
def ZnO : ∀ (l acc:List Nam),(l.foldl insQ acc).length=acc.length+l.length
 | [],acc=>rfl
 | n::l,acc=>by rw[List.foldl_cons,ZnO,Zmn,List.length_cons];omega
def Zux (l:List Zon):(Zi6 l).length=l.length:=by unfold Zi6;rw[ZnO,List.length_map,List.length_nil,Nat.zero_add]
def insQ_mem {t:List Nam}{x:Nam}(h:x∈insQ t n):x=n\/x∈t:=by
 unfold insQ at h
 rcases List.mem_append.1 h with h | h
 .exact .inr (List.mem_of_mem_take h)
 rcases List.mem_cons.1 h with h | h
 .exact .inl h
 exact .inr (List.mem_of_mem_drop h)
def ZnN {x:Nam} : ∀ {l acc:List Nam},x∈l.foldl insQ acc->x∈acc\/x∈l
 | [],acc,h=>.inl h
 | n::l,acc,h=>by
  rcases ZnN (l:=l) h with h | h
  .rcases insQ_mem h with rfl | h
   .exact .inr (by simp)
   exact .inl h
  exact .inr (List.mem_cons_of_mem _ h)
def tabs1_sz {l:List Zon}(h : ∀ x∈l,x.1.size<=maxLen) : ∀ x∈Zi6 (l.take i),x.1.size<=maxLen:=λx hx=>by
 rcases ZnN hx with hx | hx
 .cases hx
 obtain⟨y,hy,rfl⟩:=List.mem_map.1 hx
 exact h y (List.mem_of_mem_take hy)
def ZnP : ∀ {l acc:List Nam},((acc++l).map (·.1)).Nodup->l.foldl insQ acc=l.foldl insN acc
 | [],acc,_=>rfl
 | n::l,acc,hn=>by
  have hno:hasN acc n.1=false:=by
   rw[Bool.eq_false_iff,ne_eq,Zdc]
   intro hm
   rw[List.map_append,List.map_cons,List.nodup_append] at hn
   exact hn.2.2 n.1 hm n.1 (by simp) rfl
  have hp2:(insN acc n++l).Perm (acc++n::l):=((Zro acc n).append_right l).trans (by
   rw[List.cons_append];exact List.perm_middle.symm)
  rw[List.foldl_cons,List.foldl_cons,Zrr hno,ZnP (((hp2.map (·.1)).nodup_iff).2 hn)]
def tabs1_eq {l:List Zon}(hn:(l.map (·.1)).Nodup):Zi6 l=(srtN l).map nz:=by
 have hnm:(l.map nz).map (·.1)=l.map (·.1):=by rw[List.map_map];rfl
 have h1:Zi6 l=srtN (l.map nz):=ZnP (by rw[List.nil_append,hnm];exact hn)
 rw[h1]
 refine (ZuH (by rw[hnm];exact hn) ((Zeq hn).map nz) ?_).symm
 have:=ZlY hn
 exact List.pairwise_map.2 (this.imp λh=>Zek h)
def tab2 (s:Src) (zs:List Zon) (i:Nat):List Nam:=mapT s (zs.take i)++(zs.drop i).map nz
def ZgD (s:Src) (zs:List Zon) (i:Nat):(tab2 s zs i).length=zs.length:=by
 unfold tab2;rw[List.length_append,Zeb,List.length_take,List.length_map,List.length_drop];omega
def ZuE {s:Src}{zs:List Zon}(h:i<zs.length):(tab2 s zs i)[i]'(by rw[ZgD];exact h)=nz zs[i]:=by
 have hl:(mapT s (zs.take i)).length=i:=by rw[Zeb,List.length_take];omega
 unfold tab2
 rw[List.getElem_append_right om]
 simp only[hl,Nat.sub_self,List.getElem_map,List.getElem_drop,Nat.add_zero]
def ZuD {s:Src}{zs:List Zon}(h:i<zs.length):(tab2 s zs i).set i (((tab2 s zs i)[i]'(by rw[ZgD];exact h)).1,(ofV s zs[i]).1)=tab2 s zs (i+1):=by
 have hl:(mapT s (zs.take i)).length=i:=by rw[Zeb,List.length_take];omega
 rw[ZuE h]
 unfold tab2
 rw[List.set_append_right _ _ om,hl,Nat.sub_self,List.drop_eq_getElem_cons h,List.map_cons,List.set_cons_zero,ZnA s h,List.append_assoc]
 rfl
def tab2_end (s:Src) (zs:List Zon):tab2 s zs zs.length=mapT s zs:=by
 unfold tab2
 rw[List.take_length,List.drop_length];simp
def Zvv {z:List Zon}{x:Zon}(hn:(z.map (·.1)).Nodup) (hx:x∈z) : ∃ p,∃ hp:p<z.length,Zeu z x.1=(p:Int)/\z[p]=x:=by
 obtain⟨p,hp,rfl⟩:=List.getElem_of_mem hx
 refine⟨p,hp,?_,rfl⟩
 have hf:z.findIdx (λy:Zon=>decide (y.1=z[p].1))=p:=(List.findIdx_eq hp).2 ⟨by simp,λj hj=>by
  rw[decide_eq_false_iff_not]
  intro e
  have:=List.pairwise_iff_getElem.1 hn j p (by simp;omega) (by simpa using hp) hj
  simp only[List.getElem_map] at this
  exact this e⟩
 unfold Zeu idxV
 rw[hf,if_pos hp]
def lnk_refl {a b:Lnk}:ltS b.2 a.2=false\/ltS a.2 b.2=false:=by
 cases h:ltS b.2 a.2 with
 | false=>exact .inl rfl
 | true=>exact .inr (Zek h)
def lnk_tr {a b c:Lnk}(h1:ltS b.2 a.2=false) (h2:ltS c.2 b.2=false):ltS c.2 a.2=false:=by
 cases h:ltS c.2 a.2 with
 | false=>rfl
 | true=>rw[ZnF h2 h] at h1;cases h1
def leL (a b:Lnk):Prop:=ltS b.2 a.2=false
def Zu6 {l:List Nam}{k:Nat}(hk:k<l.length):(rows namC l).set (k*5) (sv l[k].1)=rows namC l:=by
 have h1:rows namC l=rows namC (l.take k)++(namC l[k]++rows namC (l.drop (k+1))):=by
  have:l=l.take k++(l[k]::l.drop (k+1)):=by rw[<-List.drop_eq_getElem_cons hk,List.take_append_drop]
  calc rows namC l=rows namC (l.take k++(l[k]::l.drop (k+1))):=by rw[<-this]
   _=_:=by rw[ZaG];simp only[rows,List.flatMap_cons]
 have h2:(rows namC (l.take k)).length=k*5:=by rw[Zba,List.length_take,Nat.min_eq_left om]
 rw[h1,List.set_append_right _ _ om,h2,Nat.sub_self];rfl
def e_stNT {T:List AV}{x y:Operand}{id v ty s k:Nat}{l:List Nam}{tb:Tab}{h':AH}(hx:Zaf T x=.ptr id v (k*5+1)) (hc:Zaq (Zaf T y)=some [iv tb.1.1,iv tb.1.2.1,sv tb.1.2.2,chS tb.2]) (he:h[id]?=some (.mk v ty s (rows namC l))) (hk:k<l.length) (hh:h.set id (.mk v ty s (rows namC (l.set k (l[k].1,tb))))=h') :
  aeff h (Zaf T) (.store 4 x y)=some (.v undef,h'):=by
 refine Zai hx hc he rfl (by rw[Zba];omega) rfl ?_ hh
 have:=Zl7 (f:=namC) (st:=5) ZaC hk (l[k].1,tb)
 rw[<-this]
 simp only[namC,setCells]
 rw[Zu6 hk]
def rmake_g {a:List Rul}{z:List Zon}{k:List Lnk}(hok:Zo6 (a,z,k)) (hck : ∀ r∈a,∀ h,Ac 220 [.agg (rulC r)] h (iv (Zbv r))) (hcz : ∀ h,Ac 144 [.agg (srcB a z k)] h (iv (ZbG (a,z,k)))) :
  Ac 93 [.agg (srcB a z k)] h (.tup [.agg (relC (Zfo (a,z,k)).1),iv (Zfo (a,z,k)).2]):=by
 refine tUW' k93 λN hn hlt _ hbd=>?_
 simp only[tb'] at hbd ⊢
 refine wr'<|E' (ZaM cv rfl hl0 ha0) pt<|E' (ZaR hl1 ha1) pt<|ms<|wr'<|Vw (Zad lk gx ZhT rfl)<|Zac mp (hcz _) pt<|ms<|?_
 refine Zab<|wm<|Vw (ZaY lk lki)<|sn'<|?_
 refine cd' lk (λhc1=>?_) (λhc1=>?_)
 .have hM:Zfo (a,z,k)=(rel0,ZbG (a,z,k)):=if_pos hc1
  refine wr'<|Vw (Zat ZmL)<|mw<|E' (Zai lk cv gx rfl nb rfl ZhU hs1) ptn<|mr<|Zah<|Zae (rsn (rm1 (rr_c gt gx (ld1 ZfZ rfl)) (rm1 (rr_t gt) rm0)))<|rtW'<|?_
  rw[hM];exact ZcU
 have h0:ZbG (a,z,k)=0:=Decidable.of_not_not hc1
 obtain⟨n1,n2,n3⟩:=Zgq h0
 have hchk:=ZiZ h0
 obtain⟨q1,q2,q3,q4,q5,q6,q7⟩:=ZdZ hchk
 simp only at q1 q2 q3 q4 q5 q6 q7 n1 n2
 have hpz:=Zeq n1
 have hzl:=hpz.length_eq
 have hzs : ∀ x∈z,x.1.size<=maxLen:=λx hx=>(hok.2.1 x hx).1
 refine za<|wr'<|E' (ZaR hl2 ha2) pt<|Zam<|?_
 refine ZaN (ALe.trans (ALe.own0Cell (st':=5) (ty:=45) gx gt0 hl3 pt0 (Eq.trans (congrArg (λz=>List.set z _ _) ha3) hs2)) (ALe.own0Cell (st':=2) (ty:=81) gx gt1 hl4 pt1 (Eq.trans (congrArg (λz=>List.set z _ _) ha4) hs2))) ?_
 refine Zab<|wk'<|Zag<|?_
 refine w_lp (ι:=Nat×Nat) (λ⟨i,v⟩=>[(6,iv (i:Int))]++rn' 18 18) (λ⟨i,v⟩=>[(2,.mk 0 25 2 [.own (N+3) v (Zi6 (z.take i)).length,.own (N+4) 0 0]),(3,.mk v 45 5 (rows namC (Zi6 (z.take i))))]) (λ⟨i,v⟩=>i<=z.length) (λ⟨i,v⟩=>z.length-i) (⟨0,0⟩) (by exact Nat.zero_le _) ?_
 rintro⟨i,v⟩ hi1
 try simp only[sm',Nat.reduceAdd]
 replace hi1:i<=z.length:=hi1
 have htl:=Zux (z.take i)
 rw[List.length_take] at htl
 refine Zab<|wm<|fq<|Vw (Zaa lk gx gt1)<|Vw (Zaz lk)<|Vw (ZaJ lk lk)<|sn'<|?_
 refine cd' lk (λhc2=>?_) (λhc2=>?_)
 .have hi:i<z.length:=by omega
  have hst:=Zr4 hi
  refine za<|Zab<|Zag<|Zf9<|uf (ZbU lk)<|?_
  refine Zfi rfl (Zaa lk gx gt0) (hx_l rfl) hl5 nh pt ?_
  refine u_fr rfl (ZbU lk) pt ?_
  refine Zfi rfl (Zaa lk gx gt1) (hx_l rfl) hl5 nh pt ?_
  refine u_fr rfl vm pt ?_
  refine u_fr rfl (ZaE lk lk ZcD nb ro om ro rfl) pt ?_
  refine uf (ZaZ lk dp0)<|uf (Zav lk gt)<|uf (Zat (ZkA cv rfl))<|?_
  refine Zhi mp gx (λhU hUe=>ACalls.wk (wk1 rfl (wkw (Wk.agg (wk1 rfl (wk1 rfl (wk1 rfl (wk1 rfl (wkw Wk.nilF wk0)))))) wk0)) (rput_t (n:=nz z[i]) hUe om (tabs1_sz hzs))) nh hs3 pt ?_
  refine u_fr rfl (ZbU lk) pt ?_
  refine u_st (Zai lk cv gx rfl nb rfl ZtA hs2) lk nh ptn ?_
  refine Zkp<|Zau<|Zan<|Zao<|mw<|?_
  refine ad<|mw<|Zam<|Zaw<|?_
  refine lU' (⟨i+1,v+1⟩) (by (try dsimp only);omega) (by refine zz ?_;exact ALe.same wA' (by rw[hst,Zmn]))
 have hT:Zi6 (z.take i)=(srtN z).map nz:=by rw[List.take_of_length_le (show z.length<=i by omega)];exact tabs1_eq n1
 rw[hT]
 refine Zax<|Zas<|Zas<|ZaK<|Zan<|Zab<|wk'<|Zag<|?_
 refine w_lp (ι:=Nat) (λ(i:Nat)=>[(7,iv (i:Int)),(3,.any),(8,.any),(9,.any)]++rn' 36 34) (λ(i:Nat)=>[(2,.mk 0 25 2 [.own (N+3) v (tab2 (a,z,k) (srtN z) i).length,.own (N+4) 0 0]),(3,.mk v 45 5 (rows namC (tab2 (a,z,k) (srtN z) i)))]) (λ(i:Nat)=>i<=(srtN z).length/\errT (a,z,k) (srtN z)=errT (a,z,k) ((srtN z).drop i)) (λ(i:Nat)=>(srtN z).length-i) (0) (by exact⟨Nat.zero_le _,rfl⟩) ?_
 rintro i hi2
 try simp only[sm',Nat.reduceAdd]
 obtain⟨hi1,hi2⟩:=hi2
 have htl:=ZgD (a,z,k) (srtN z) i
 refine Zab<|wm<|fq<|Vw (Zaa lk gx gt0)<|Vw (Zcy lk)<|Vw (ZaJ lk lk)<|sn'<|?_
 refine cd' lk (λhc3=>?_) (λhc3=>?_)
 .have hi:i<(srtN z).length:=by omega
  have hmem:=hpz.mem_iff.1 (List.getElem_mem hi)
  obtain⟨p,hp,hpl,hpe⟩:=Zvv n1 hmem
  have hnm:((tab2 (a,z,k) (srtN z) i)[i]'(by omega)).1=(srtN z)[i].1:=by rw[ZuE hi];rfl
  have hst:=ZuD (s:=(a,z,k)) hi
  unfold errT at hi2
  rw[ZdY hi,<-hpe] at hi2
  rw[<-hpe] at hst
  refine za<|Zab<|Zag<|Zab<|ZaD<|Dw (Zad lk gx ZhT rfl)<|dg<|Dw (Zaa lk gx gt1)<|Dw (Zad lk gx ZhT rfl)<|dg<|Dw (Zaa lk gx gt0)<|Dw vm<|?_
  refine D' (ZaW lk lk gx ZaC nb ro om (by first | rfl | (simp;done) | omega)) pt ?_
  refine D' (Zbu lk) pt ?_
  refine D' (Zck lk gx ZaC om nb gt0) pt ?_
  refine ZaB mp (λhE hX=>ZuZ om) pt ?_
  rw[hnm,hpl]
  refine D' (ZaE (k:=p) lk lk ZcD nb ro om ro rfl) pt ?_
  refine D' (Zar lk Zj4 rfl) pt ?_
  refine ZaB mp (λhE hX=>Zsb (k:=k) hck (Zo7 hok) om (ZfN hchk (List.getElem_mem hp))) pt ?_
  refine Dw vm<|Dw (ZaS lk gt)<|Dw (ZaS lk gt)<|ZcI rfl rfl (hlk hn rfl) (Zix) pt Zof<|ZaH<|?_
  refine ZcH ZlE ?_
  refine E' (Zai lk cv gx rfl nb rfl Ztz hs5) ptn<|ms<|Zab<|wm<|Vw (ZaY lk lki)<|sn'<|?_
  refine cd' lk (λhc4=>?_) (λhc4=>?_)
  .have hv:(ofV (a,z,k) z[p]).2≠0:=hc4
   rw[if_pos hv] at hi2
   have hM:=ZnD h0 hi2 hv
   refine wr'<|Vw (Zat Zkz)<|mw<|E' (Zai lk cv gx rfl nb rfl ZhU hs1) ptn<|mr<|Zah<|Zap<|Zah<|Zah<|Zap<|?_
   refine Zah<|Zae (rsn (rm1 (rr_c gt gx (ld1 ZfZ rfl)) (rm1 (rr_t gt) rm0)))<|rtW'<|?_
   rw[hM];exact ZcU
  have hv:¬(ofV (a,z,k) z[p]).2≠0:=hc4
  rw[if_neg hv] at hi2
  refine za<|Zao<|fq<|Vw (Zaa lk gx gt0)<|mw<|Vw (Zad lk gx Ztx rfl)<|?_
  refine V' (ZaW lk lk gx ZaC nb ro om (by first | rfl | (simp;done) | omega)) pt ?_
  refine V' (Zbu lk) pt ?_
  refine E' (e_stNT (tb:=(ofV (a,z,k) z[p]).1) lk cv gx om hs3) ptn ?_
  refine Zam<|Zau<|Zan<|Zao<|mw<|?_
  refine ad<|mw<|Zam<|Zaw<|?_
  refine lU' (i+1) (by (try dsimp only);exact⟨by omega,hi2⟩) (by refine zz ?_;exact bk' 5 hn hlt (by rw[hst,ZgD,ZgD];rfl) (hT:=by simp[AV.lt,AV.ltL,Ent.lt]) (hE:=by simp[AV.lt,AV.ltL,Ent.lt]))
 obtain rfl:i=(srtN z).length:=by omega
 rw[List.drop_of_length_le (Nat.le_refl _)] at hi2
 have hM:=Zrc h0 hi2
 rw[tab2_end,Zeb]
 refine Zax<|Zas<|Zas<|ZaK<|Zan<|Zab<|wk'<|Zag<|?_
 refine w_lp (ι:=Nat×List Lnk×Nat) (λ⟨i,M,w⟩=>[(10,iv (i:Int)),(11,.any)]++rn' 70 59) (λ⟨i,M,w⟩=>[(2,.mk 0 25 2 [.own (N+3) v (srtN z).length,.own (N+4) w M.length]),(4,.mk w 81 2 (rows lnkC M))]) (λ⟨i,M,w⟩=>i<=k.length/\M.Perm (k.take i)/\M.Pairwise leL) (λ⟨i,M,w⟩=>k.length-i) (⟨0,[],0⟩) (by exact⟨Nat.zero_le _,List.Perm.refl _,.nil⟩) ?_
 rintro⟨i,M,w⟩ hi3
 try simp only[sm',Nat.reduceAdd]
 obtain⟨hm1,hm2,hm3⟩:=hi3
 have hML:=hm2.length_eq
 rw[List.length_take] at hML
 refine Zab<|wm<|fq<|Vw (Zaa lk gx gt2)<|Vw (Zaz lk)<|Vw (ZaJ lk lk)<|sn'<|?_
 refine cd' lk (λhc5=>?_) (λhc5=>?_)
 .have hi:i<k.length:=by omega
  refine za<|Zab<|Zag<|Zab<|ZaD<|dg<|Dw (Zaa lk gx gt1)<|dg<|Dw (Zaa lk gx gt2)<|Dw vm<|?_
  refine D' (ZaE lk lk Zbe nb ro om ro rfl) pt ?_
  refine Dw (Zar lk Zj4 rfl)<|ZcI rfl rfl (hlk hn rfl) (ZeR (Zky cv rfl)) pt Zof<|ZaH<|?_
  refine ZcH ZlE ?_
  refine E' (Zby (Zbm lk gx rfl Zj4 nb) lk gx (ZeP _) om rfl hs4) pt ?_
  refine fq<|E' (Zai lk cv gx rfl nb rfl Zty hs2) ptn<|sn'<|wm<|ms<|Zag<|?_
  refine Zd1 (ι:=Nat×List Lnk) (λ⟨q,K⟩=>[(11,iv (q:Int))]++rn' 88 41) (λ⟨q,K⟩=>[(2,.mk 0 25 2 [.own (N+3) v (srtN z).length,.own (N+4) (w+1) K.length]),(4,.mk (w+1) 81 2 (rows lnkC K))]) (λ⟨q,K⟩=>q<=i/\K.Perm (k.take (i+1))/\insR leL i q K) (λ⟨q,K⟩=>q) (⟨i,M++[k[i]]⟩) (by exact⟨Nat.le_refl _,(by rw[List.take_succ_eq_append_getElem hi];exact hm2.append_right _),ZhA (by rw[List.length_append,List.length_singleton];omega) (by rw[List.take_left' om];exact hm3)⟩) (by try simp only[sm',Nat.reduceAdd];exact ALe.same wA' (by first | (rw[ZaG,List.length_append];done) | (rw[ZaG,List.length_append];rfl))) ?_
  rintro⟨q,K⟩ hi4
  try simp only[sm',Nat.reduceAdd]
  obtain⟨hq1,hq2,hq3⟩:=hi4
  have hKL:=hq2.length_eq
  rw[List.length_take] at hKL
  have hsz : ∀ x∈K,x.2.size<=maxLen:=λx hx=>(hok.2.2 x (List.mem_of_mem_take (hq2.mem_iff.1 hx))).2
  refine Zab<|Zab<|ZaD<|Dw vm<|Dw (Zbr lk lki)<|Dw vm<|?_
  refine dq' (t:=90) gt pt pt (λhg90=>?_) (λhg90=>?_)
  .obtain⟨j,rfl⟩ : ∃ j,q=j+1:=⟨q-1,by omega⟩
   have hz3:j+1<K.length:=by omega
   refine dO<|dg<|dO<|Dw (Zaa lk gx gt1)<|dO<|Dw vm<|dO<|?_
   refine D' (ZaW (k:=j+1) lk lk gx Zbe nb ro om (by first | rfl | (simp;done) | omega)) pt ?_
   refine dO<|Dw (Zbu lk)<|dO<|?_
   refine D' (Zck lk gx Zbe om nb gt1) pt ?_
   refine dO<|dg<|dO<|Dw (Zaa lk gx gt1)<|dO<|Dw vm<|dO<|?_
   refine D' (Za2 lk lki om om) pt ?_
   refine d_do gt ?_
   refine D' (ZaW (k:=j) lk lk gx Zbe nb ro om (by first | rfl | (simp;done) | omega)) pt ?_
   refine dO<|Dw (Zbu lk)<|dO<|?_
   refine D' (Zck lk gx Zbe om nb gt1) pt ?_
   refine d_do gt ?_
   refine ZaB mp (λhE hX=>ZeI (hsz _ (List.getElem_mem om))) pt ?_
   refine dO<|Dw (ZaJ lk lki)<|Dw (Zaj lk lk)<|ZaH<|?_
   refine ZaU ?_
   refine sn' ?_
   refine cd' lk (λhc6=>?_) (λhc6=>?_)
   .have hlt_:ltS K[j+1].2 K[j].2=true:=Zee.1 hc6
    obtain⟨hk1,hk2⟩:=Zjt (r:=leL) (λ_ _=>lnk_refl) hq3 hz3 (by unfold leL;rw[hlt_];simp)
    refine za<|Zab<|Zag<|Zuf [N+2]<|dg<|Dw (Zaa lk gx gt1)<|Dw vm<|dg<|?_
    refine d_ldP lk gx (ld0 gt) (by simp) pt ?_
    refine D' vm pt ?_
    refine D' (Za2 lk lki om om) pt ?_
    refine dg<|Dw (Zaa lk gx gt1)<|Dw vm<|?_
    refine D' (Za2 lk lki om om) pt ?_
    refine D' (ZaW (k:=j) lk lk gx Zbe nb ro om (by first | rfl | (simp;done) | omega)) pt ?_
    refine D' (Zfh lk gx Zbe om rfl) pt ?_
    refine dg<|Dw (Zaa lk gx gt1)<|Dw vm<|?_
    refine D' (ZaW (k:=j+1) lk lk gx Zbe nb ro om (by first | rfl | (simp;done) | omega)) pt ?_
    refine D' (Zfh lk gx Zbe om rfl) pt ?_
    refine D' (ZaW (k:=j+1) lk lk gx Zbe nb ro om (by first | rfl | (simp;done) | omega)) pt ?_
    refine ZaH<|Zph<|?_
    refine k_eff rfl rfl (ZgV (z:=K[j]) lk cv gx Zbe rfl om hs4) (by intro i hi;simp only[cond_true,List.mem_cons,List.not_mem_nil,or_false] at hi;subst hi;first | rfl | exact (hga hn rfl).trans (hga hn rfl).symm) ptn ?_
    refine k_val rfl (ZaW (k:=j) lk lk gx Zbe nb (by first | rfl | first | omega | (rw[List.length_set];omega)) (by first | omega | (rw[List.length_set];omega)) (by first | rfl | (simp;done) | first | omega | (rw[List.length_set];omega))) pt ?_
    refine k_eff rfl rfl (ZgV (z:=K[j+1]) lk cv gx Zbe rfl (by first | omega | (rw[List.length_set];omega)) hs4) (by intro i hi;simp at hi) ptn ?_
    refine k_nil<|Zau<|Zan<|Zao<|mw<|?_
    refine V' (Za2 lk lki om om) pt ?_
    refine mw<|Zam<|Zaw<|?_
    refine lU' (⟨j,(K.set (j+1) K[j]).set j K[j+1]⟩) (by (try dsimp only);exact⟨by omega,hk2.trans hq2,hk1⟩) (by refine zz ?_;exact ALe.same wA' (by rw[List.length_set,List.length_set]))
   have hge_:ltS K[j+1].2 K[j].2=false:=by rw[Bool.eq_false_iff,ne_eq,<-Zee];exact hc6
   have hend:=Zhy (r:=leL) (λ_ _ _=>lnk_tr) hq3 hz3 hge_
   refine Zax<|Zas<|Zas<|ZaK<|Zau<|Zan<|Zao<|mw<|?_
   refine ad<|mw<|Zam<|Zaw<|?_
   refine lU' (⟨i+1,K,w+1⟩) (by (try dsimp only);exact⟨by omega,hq2,(by rwa [List.take_of_length_le om] at hend)⟩) (by refine zz ?_;exact bk' 5 hn hlt (hT:=by simp[AV.lt,AV.ltL,Ent.lt]) (hE:=by simp[AV.lt,AV.ltL,Ent.lt]))
  obtain rfl:q=0:=by omega
  have hend:=Zhz hq3
  refine dn<|dn<|dn<|dn<|dn<|dn<|dn<|dn<|dn<|dn<|dn<|dn<|dn<|dn<|?_
  refine dn<|Dw (Zak lk lkb)<|ZaH<|?_
  refine ZaU ?_
  refine sn'<|ZaV lk<|Zax<|Zas<|Zas<|ZaK<|Zau<|Zan<|Zao<|mw<|?_
  refine ad<|mw<|Zam<|Zaw<|?_
  refine lU' (⟨i+1,K,w+1⟩) (by (try dsimp only);exact⟨by omega,hq2,(by rwa [List.take_of_length_le om] at hend)⟩) (by refine zz ?_;exact bk' 5 hn hlt (hT:=by simp[AV.lt,AV.ltL,Ent.lt]) (hE:=by simp[AV.lt,AV.ltL,Ent.lt]))
 obtain rfl:M=srtL k:=by rw[List.take_of_length_le (show k.length<=i by omega)] at hm2;exact ZuI n2 hm2 hm3
 refine Zax<|Zas<|Zas<|ZaK<|?_
 refine ZaN (ALe.trans (ALe.iceCellR (hga hn rfl) (hga hn rfl) om gt0 (List.take_of_length_le (by rw[Zba,Zeb];exact Nat.le_refl _)) (by rw[Zba,Zeb];exact Nat.le_refl _) pt0 hs3 hs2) (ALe.iceCellR (hga hn rfl) (hga hn rfl) om gt1 (List.take_of_length_le (by rw[ZeP];exact Nat.le_refl _)) (by rw[ZeP];exact Nat.le_refl _) pt1 hs4 hs2)) ?_
 refine wr'<|Vw (Zad lk gx ZfZ rfl)<|E' (Zai lk cv gx rfl nb rfl ZhU hs1) ptn<|mr<|Zae (rsn (rm1 (rr_c gt gx (ld1 ZfZ rfl)) (rm1 (rr_t gt) rm0)))<|rtW'<|?_
 rw[hM];dsimp only [relC];rw[Zeb];exact Wk.refl _
end
section
open Go.Ab Go.RowKit Civ
def okRs0:okRs src0.1:=ZoR.1
def crl_ev : ∀ r∈rul0,evF Tryz.prog noO 1000 20 220 [.agg (rulC r)] []=some (.ret (iv (Zbv r)),[]):=λr hr=>by
 rcases List.mem_cons.1 hr with rfl | hr
 .kernel_rfl
 .rcases List.mem_cons.1 hr with rfl | hr
  .kernel_rfl
  .cases hr
def rcrl0 : ∀ r∈rul0,∀ h,Ac 220 [.agg (rulC r)] h (iv (Zbv r)):=λr hr h=>ACalls.ev 1000 20 noO_ok (crl_ev r hr)
def rtms1 :Ac 222 [.sl 2 11 false (rows rulC rul0),sv nEu,iv 3600] h (.tup [.sl (Zfj rul0 nEu 3600).1.length 3 false (rows timC (Zfj rul0 nEu 3600).1),iv (Zfj rul0 nEu 3600).2]) :=
 by rw[<-ZoN];exact ZqL (l:=rul0) rcrl0 okRs0 (by decide)
def chkZ_ev:evF Tryz.prog (orc 222 [.sl 2 11 false (rows rulC rul0),sv nEu,iv 3600] (.tup [.sl (Zfj rul0 nEu 3600).1.length 3 false (rows timC (Zfj rul0 nEu 3600).1),iv (Zfj rul0 nEu 3600).2])) 1000 20 144 [.agg (srcC src0)] []=some (.ret (iv 0),[]):=by kernel_rfl
def rchkZ0 :Ac 144 [.agg (srcC src0)] h (iv 0) :=
 ACalls.ev 1000 20 (orc_ok λh=>rtms1) chkZ_ev (hl:=by kernel_rfl) (hc:=by kernel_rfl)
end
end Go.Proofs.YthmgnolcfjiicaaGreatDoor
namespace Go.Ab
section
open Go.RowKit
section
variable {P : Program}
def ACalls.of_turnS {f:FuncId}{args:List AV}{h:AH}{id ver ty st:Nat}{cells:List AV}{R':Nat->List AV->Prop}(he:enters P f=true) (hi:h[id]?=some (.mk ver ty st cells)) (hne:cells≠[])
  (hc : ∀ w g (vs:Array Value) b cap arr,SimH w g h->RepL w g args vs.toList->g.loc id ver=some (some ⟨b,0,none⟩,cap)->cap<=maxLen->w.heap[b]?=some (.cells arr ty (0,0))->arr.size=cap*st->cells.length<=arr.size->RepL w g cells (arr.toList.take cells.length) ->
   Calls P f vs w λe w' => ∃ (n':Nat) (cells':List AV) (vs':List Value) (arr':Array Value),e=.returned (.slice (some ⟨b,0,none⟩) n' cap)/\n'<=cap/\R' n' cells'/\RepL w g cells' vs'/\w'.heap[b]?=some (.cells arr' ty (0,0))/\arr'.size=arr.size/\vs'.length<=arr.size/\arr'.toList.take vs'.length=vs' /\
    w'.os=w.os/\w'.tape=w.tape/\w'.output=w.output/\w.heap.size<=w'.heap.size /\ ∀ k,k<w.heap.size->k≠b->w'.heap[k]?=w.heap[k]?) :
  ACalls P f args h λx h' => ∃ n' cells',R' n' cells'/\x=.ret (.own id ver n')/\h'=h.set id (.mk ver ty st cells'):=by
 refine⟨he,λw g vs hs ha=>?_⟩
 obtain⟨A,cap,f1,fm,f3⟩:=hs.ent _ _ _ _ _ hi
 rcases f3 with ⟨e,_⟩ | ⟨b,arr,rfl,hc0,hd,hb,hsz,hle,hrl⟩
 .exact absurd e hne
 have hid:id<h.length:=(List.getElem?_eq_some_iff.1 hi).1
 have how:OwAt g h id b:=⟨ver,ty,st,cells,_,cap,hi,f1,hc0,rfl⟩
 refine (hc w g vs b cap arr hs ha f1 fm hb hsz hle hrl).mono ?_
 rintro e w' ⟨n',cells',vs',arr',rfl,hn',hR,hRep,h1,h2,h3,h4,h5,h6,h7,h8,h9⟩
 have hother : ∀ j,g.D j\/(∃ i,i≠id/\OwAt g h i j)\/(∃ i,RwAt h i j)->w'.heap[j]?=w.heap[j]?:=by
  rintro j (hj | ⟨i,hne',hj⟩ | ⟨i,hj⟩)
  rotate_left 2
  .exact h9 j (hs.own_not_D (.inr ⟨i,hj⟩)).2 (λe=>by subst e;exact hs.own_ne_raw how hj)
  .exact h9 j (hs.lt j hj) (λe=>hd (e ▸ hj))
  .exact h9 j (hs.own_not_D (.inl ⟨i,hj⟩)).2 (λe=>hne' (hs.inj i id j hj (e ▸ how)))
 obtain⟨k1,k2,k3⟩:=hs.put (w':=w') (g':=g) (h':=h.set id (.mk ver ty st cells')) id ver ty st cells' (some ⟨b,0,none⟩) cap
  (λi hne'=>by rw[List.getElem?_set_ne (Ne.symm hne')]) (by rw[List.getElem?_set_self hid]) (by simp) rfl (λ_ _ _ h=>h) (λ_ _ _ h=>.inl h) f1 (λv l hv=>(hs.fresh _ _ _ hv).2 _ _ _ _ hi) hother h8 fm
  (.inr ⟨b,arr',rfl,hc0,hd,h1,by rw[h2,hsz],by rw[<-hRep.length,h2];exact h3,by rw[<-hRep.length,h4];exact RepL.mono (Gh.le.refl g) (λj hj=>hother j (.inl hj)) _ _ hRep⟩)
  (λj hj _ i hne' ho=>by
   simp at hj
   subst hj
   exact hne' (hs.inj i id _ ho how)) (λk hk _ _=>by simp at hk;subst hk;exact .inl ⟨id,how⟩)
 refine⟨.ret (.own id ver n'),_,g,?_,k1,k2,⟨h5,h6,h7,h8,λk hk hn=>h9 k hk (λe=>hn (.inl ⟨id,e ▸ how⟩))⟩,λk hk=>?_,_,_,hR,rfl,rfl⟩
 .simp only[EndR,Rep];exact⟨_,_,f1,hn',fm,rfl⟩
 .rcases k3 k hk with ho | ⟨ho,_⟩
  .exact .inl ho
  .simp at ho;subst ho;exact .inl (.inl ⟨id,how⟩)
end
end
section
open Go.RowKit Go.Lib
variable {P : Program}
def Zkq (w:World) (t e ty:TypeId) (z:Value) (ht:P.underlying t=some (.slice e)) (hv : ∀ w,(zeroValue e).run P w=.ok z w) (b o n c:Nat) (hn:0<n)
  (hc : ∀ j,j<n*z.cells.size->(w.cell? ⟨b,o+j,none⟩).isSome=true) (hf : ∀ j,j<n*z.cells.size->w.frozen? ⟨b,o+j,none⟩=false) (h2 : ∀ v∈(Builtin.zeroCells z.cells n).toList,v.oneCell'=true) :
  (Builtin.clear_ #[t] ty #[.slice (some ⟨b,o,none⟩) n c]).run P w=.ok (.tuple #[]) (w.setCells b o (Builtin.zeroCells z.cells n).toList):=by
 have hl:(Builtin.zeroCells z.cells n).toList.length=n*z.cells.size:=by rw[Array.length_toList,size_zeroCells]
 have hst:=run_storeCells_cells (P:=P) b o (Builtin.zeroCells z.cells n).toList 0 w (by rw[hl];simpa using hc) (by rw[hl];simpa using hf) h2
 simp only[Nat.add_zero] at hst
 obtain⟨m,rfl⟩ : ∃ m,n=m+1:=⟨n-1,by omega⟩
 simp[Builtin.clear_,run_underlying ht,hv,hst]
def ZdB (w:World) (dT sT ty elem:TypeId) (k b o dLen dCap:Nat) (a:Addr) (sLen sCap:Nat) (cs:List Value)
  (hu:P.underlying dT=some (.slice elem)) (hs:(P.info? elem).map (·.size)=some k) (hn:cs.length=Nat.min sLen dLen*k)
  (hsrc : ∀ j v,cs[j]?=some v->w.cell? (a.add j)=some v) (hc : ∀ j,j<cs.length->(w.cell? ⟨b,o+j,none⟩).isSome=true) (hf : ∀ j,j<cs.length->w.frozen? ⟨b,o+j,none⟩=false) (h1 : ∀ v∈cs,v.oneCell'=true) :
  (Builtin.copy_ #[dT,sT] ty #[.slice (some ⟨b,o,none⟩) dLen dCap,.slice (some a) sLen sCap]).run P w=.ok (goInt (Nat.min sLen dLen)) (w.setCells b o cs):=by
 have hl:=run_loadCells_list (P:=P) w a cs hsrc
 have hst:=run_storeCells_cells (P:=P) b o cs 0 w (by simpa using hc) (by simpa using hf) h1
 cases hq:P.info? elem with
 | none=>simp[hq] at hs
 | some i =>
  have hi:i.size=k:=by simpa [hq] using hs
  simp[Builtin.copy_,run_underlying hu,Builtin.lenOf,Builtin.firstCells,sizeOf,typeInfo,hq,hi,<-hn,hl,hst]
def ZcN (P:Program) (g o:Nat) (t:TypeId) (vs:List Value) (cur:Array Value) (w:World) (hg:w.heap[g]?=some (.cells cur t (0,0))) (hle:o+vs.length<=cur.size) (h1 : ∀ v∈vs,v.oneCell'=true) :
  w.setCells g o vs=w.setRow g (cur.toList.take o++vs++cur.toList.drop (o+vs.length)).toArray:=by
 have a:=run_storeCells_at (P:=P) g o t vs 0 cur w hg (by simpa using hle) h1
 have b:=run_storeCells_cells (P:=P) g o vs 0 w (λj hj=>by
  rw[cell_of_row w g _ cur t (0,0) hg]
  rw[Array.getElem?_eq_getElem (show o+0+j<cur.size by omega)];rfl) (λj hj=>frozen_of_row w g _ cur t hg) h1
 rw[a] at b
 simpa using (Result.ok.inj b).2.symm
end
section
open Go.RowKit
section
variable {P : Program}
def ZrY (w:World) (ty st:Nat) (A:Option Addr) (cap:Nat) (olds:List Value):Prop :=
 (cap=0/\olds=[]) \/ ∃ b arr,cap≠0/\A=some ⟨b,0,none⟩/\w.heap[b]?=some (.cells arr ty (0,0))/\arr.size=cap*st/\olds.length<=arr.size/\arr.toList.take olds.length=olds
def ZxM (w:World) (ty st:Nat) (A:Option Addr) (cap:Nat) (A2:Option Addr) (cap2:Nat) (news:List Value) (w':World):Prop :=
 (∃ b arr,cap2≠0/\A2=some ⟨b,0,none⟩/\w'.heap[b]?=some (.cells arr ty (0,0))/\arr.size=cap2*st/\news.length<=arr.size/\arr.toList.take news.length=news/\(w.heap.size<=b\/cap≠0/\A=some ⟨b,0,none⟩)) /\
  w'.os=w.os/\w'.tape=w.tape/\w'.output=w.output/\w.heap.size<=w'.heap.size /\ ∀ k,k<w.heap.size->(cap≠0->A.map (·.block)≠some k)->w'.heap[k]?=w.heap[k]?
def ACalls.of_turnG {f:FuncId}{args:List AV}{h:AH}{id ver ty st:Nat}{cells:List AV}{R':Nat->List AV->Prop}(he:enters P f=true) (hi:h[id]?=some (.mk ver ty st cells))
  (hc : ∀ w g (vs:Array Value) A cap olds,SimH w g h->RepL w g args vs.toList->g.loc id ver=some (A,cap)->cap<=maxLen->RepL w g cells olds->ZrY w ty st A cap olds->(∀ b,cap≠0->A.map (·.block)=some b->OwAt g h id b) ->
   Calls P f vs w λe w' => ∃ (n':Nat) (cells':List AV) (vs':List Value) (A2:Option Addr) (cap2:Nat),e=.returned (.slice A2 n' cap2)/\n'<=cap2/\cap2<=maxLen/\R' n' cells'/\RepL w g cells' vs'/\ZxM w ty st A cap A2 cap2 vs' w') :
  ACalls P f args h λx h' => ∃ n' cells',R' n' cells'/\x=.ret (.own id (ver+1) n')/\h'=h.set id (.mk (ver+1) ty st cells'):=by
 refine⟨he,λw g vs hs ha=>?_⟩
 obtain⟨A,cap,f1,fm,f3⟩:=hs.ent _ _ _ _ _ hi
 have hid:id<h.length:=(List.getElem?_eq_some_iff.1 hi).1
 have how : ∀ k,cap≠0->A.map (·.block)=some k->OwAt g h id k:=by
  intro k h0 hk
  cases A with
  | none=>simp at hk
  | some b=>exact⟨_,_,_,_,b,cap,hi,f1,h0,by simpa using hk⟩
 have hold : ∃ olds,RepL w g cells olds/\ZrY w ty st A cap olds:=by
  rcases f3 with ⟨rfl,h0⟩ | ⟨b,arr,rfl,hc0,hd,hb,hsz,hle,hrl⟩
  .exact⟨[],by simp only[RepL],.inl ⟨h0,rfl⟩⟩
  .exact⟨_,hrl,.inr ⟨b,arr,hc0,rfl,hb,hsz,by rw[hrl.length];exact hle,by rw[hrl.length]⟩⟩
 obtain⟨olds,o1,o2⟩:=hold
 refine (hc w g vs A cap olds hs ha f1 fm o1 o2 how).mono ?_
 rintro e w' ⟨n',cells',vs',A2,cap2,rfl,hn',hcm2,hR,hRep,⟨b',arr',hc0,rfl,hb',hsz',hle',htk,hor⟩,h5,h6,h7,h8,h9⟩
 have hfr:Fr w (Ow g h) w':=⟨h5,h6,h7,h8,λk hk hn=>h9 k hk λh0 e=>hn (.inl ⟨id,how k h0 e⟩)⟩
 have hfresh : ∀ l,g.loc id (ver+1)=some l->False:=λl hl=>by have:=(hs.fresh _ _ _ hl).2 _ _ _ _ hi;omega
 have hlocm : ∀ j vv l,g.loc j vv=some l->(g.add id (ver+1) (some ⟨b',0,none⟩,cap2)).loc j vv=some l:=by
  intro j vv l hj
  simp only[Gh.add]
  rw[if_neg]
  .exact hj
  .rintro⟨rfl,rfl⟩;exact hfresh _ hj
 have hleg:g.le (g.add id (ver+1) (some ⟨b',0,none⟩,cap2)):=Gh.le_of_put rfl hlocm
 have hDw : ∀ k,g.D k->w'.heap[k]?=w.heap[k]?:=λk hk=>hfr.block k (hs.lt k hk) (λho=>(hs.own_not_D ho).1 hk)
 have hb2:w.heap.size<=b'\/OwAt g h id b':=hor.imp (λx=>x) λ⟨h0,e⟩=>how b' h0 (by rw[e];rfl)
 have hput:=hs.put (w':=w') (g':=g.add id (ver+1) (some ⟨b',0,none⟩,cap2)) (h':=h.set id (.mk (ver+1) ty st cells')) id (ver+1) ty st cells' (some ⟨b',0,none⟩) cap2
  (λj hj=>by rw[List.getElem?_set_ne (Ne.symm hj)]) (by rw[List.getElem?_set_self hid]) (by simp) rfl hlocm
  (λj vv l hj=>by
   simp only[Gh.add] at hj
   split at hj
   .right;assumption
   .left;exact hj) (by simp[Gh.add]) (λvv l hl=>by have:=(hs.fresh _ _ _ hl).2 _ _ _ _ hi;omega)
  (by
   rintro k (hk | ⟨j,hj,hk⟩ | ⟨j,hk⟩)
   .exact hDw k hk
   .exact h9 k (hs.own_not_D (.inl ⟨j,hk⟩)).2 λh0 e=>hj (hs.inj j id k hk (how k h0 e))
   .exact h9 k (hs.own_not_D (.inr ⟨j,hk⟩)).2 λh0 e=>hs.own_ne_raw (how k h0 e) hk) h8 hcm2
  (.inr ⟨b',arr',rfl,hc0,hb2.elim (λhge hd=>by have:=hs.lt _ hd;omega) (λho=>(hs.own_not_D (.inl ⟨id,ho⟩)).1),hb',hsz',by rw[<-hRep.length];exact hle',by rw[<-hRep.length,htk];exact RepL.mono hleg hDw _ _ hRep⟩)
  (by
   rintro k hk h0 j hj ho
   simp at hk
   subst hk
   rcases hb2 with hge | hb2
   .have:=(hs.own_not_D (.inl ⟨j,ho⟩)).2;omega
   .exact hj (hs.inj j id _ ho hb2))
  (by
   intro k hk h0 hlt
   simp at hk
   subst hk
   rcases hb2 with hge | hb2
   .omega
   .exact .inl ⟨id,hb2⟩)
 refine⟨.ret (.own id (ver+1) n'),_,_,?_,hput.1,hput.2.1,hfr,λk hk=>?_,_,_,hR,rfl,rfl⟩
 .simp only[EndR,Rep];exact⟨_,_,by simp[Gh.add],hn',hcm2,rfl⟩
 .rcases hput.2.2 k hk with ho | ⟨hk1,hk2⟩
  .exact .inl ho
  .simp at hk1
   subst hk1
   exact hb2.elim .inr λho=>.inl (.inl ⟨id,ho⟩)
variable {h0 h h' : AH} {q : List (List Nat)} {rest : List AOper} {tc : List (Bool × List Nat)} {T T' : List AV} {K : List AV -> AH -> Prop} {d : Option Nat} {c : AV}
def u_callW {f:FuncId}{xs:List Operand}{as1:List AV}{id j:Nat}{e ej e2:Ent}(hx:xs.map (Zaf T)=as1) (he:h[id]?=some e) (hj:h[j]?=some ej) (hc : ∀ h,h[id]?=some e->h[j]?=some ej->ACalls P f as1 h λr h'=>r=.ret c/\h'=h.set id e2) (hh : ∀ i∈q.headD [],Zfe (tc.getD i (false,[])) (false,[id,j])) (hs:h.set id e2=h') (hp:aPut T d c=T') (hk:Zbi P h0 q.tail rest (tc++[(false,[id,j])]) T' h' K):Zbi P h0 q (⟨d,none,.call (.func f) xs⟩::rest) tc T h K:=by
 subst hp hs hx
 unfold Zbi agd
 refine⟨λ_=>?_,λh=>by cases h⟩
 exact .inr (.inr ⟨c,[(id,e),(j,ej)],id,e2,λh hn=>⟨rfl,rfl,(hc h (hn (id,e) (by simp)) (hn (j,ej) (by simp))).mono λr h' hr=>⟨hr.2,hr.1⟩⟩,λp hp=>by simp at hp;rcases hp with rfl | rfl;exact he;exact hj,⟨e,by simp⟩,hh,hk⟩)
end
end
end Go.Ab
namespace Go.Proofs.YthmgnolcfjiicaaGreatDoor
section
open Go.Ab Go.RowKit Go.Lib
def Zmo : ∃ i z,Tryz.prog.info? 45=some i/\i.size=5/\i.bytes=72/\i.zero=some z/\z.cells.size=5 /\ ∀ v∈z.cells.toList,v.oneCell'=true:=⟨_,_,rfl,rfl,rfl,rfl,rfl,by decide⟩
def ZdQ:Tryz.prog.underlying 22=some (.slice 45):=by kernel_rfl
def Zmk {a b:Nat}(h:a<=b):Nat.min a b=a:=Nat.min_eq_left h
def natmin_r {a b:Nat}(h:b<=a):Nat.min a b=b:=Nat.min_eq_right h
def Zsk {w:World}{ty st:Nat}{A:Option Addr}{cap n:Nat}{olds:List Value}(h:ZrY w ty st A cap olds) (hl:olds.length=n*st):cap=0 \/ ∃ b arr,A=some ⟨b,0,none⟩/\w.heap[b]?=some (.cells arr ty (0,0))/\arr.size=cap*st/\arr.toList.take (n*st)=olds:=by
 rcases h with ⟨h0,_⟩ | ⟨b,arr,h0,e,hb,hs,hle,ht⟩
 .exact .inl h0
 .exact .inr ⟨b,arr,e,hb,hs,by rw[<-hl];exact ht⟩
def Zst (A:Option Addr) (n cap vb vc:Nat) (w:World) (olds news:List Value) (hA:ZrY w 45 5 A cap olds) (hl:olds.length=n*5) (hn:n<=cap) (hcm:cap<=maxLen) (hvl:news.length=5)
  (hvs : ∀ j v,news[j]?=some v->w.cell? ⟨vb,j,none⟩=some v) (h1v : ∀ v∈news,v.oneCell'=true) (hbig:n<=3000000000000) :
  Calls Tryz.prog 118 #[.slice A n cap,.int .i64 n,.slice (some ⟨vb,0,none⟩) 1 vc] w λe w' => ∃ A2 cap2,e=.returned (.slice A2 (n+1) cap2)/\n+1<=cap2/\cap2<=maxLen/\ZxM w 45 5 A cap A2 cap2 (olds++news) w':=by
 obtain⟨i0,z,hi0,hsz,hby,hz,hzs,hz1⟩:=Zmo
 have hf : ∀ w':World,(∀ a,w'.cell? a=w.cell? a)->(Builtin.firstCells i0.size 1 (.slice (some ⟨vb,0,none⟩) 1 vc)).run Tryz.prog w'=.ok news.toArray w':=λw' hw=>by
  rw[hsz]
  exact run_firstCells_some w' 5 1 ⟨vb,0,none⟩ 1 vc news (by rw[hvl]) (λj v hj=>by rw[Addr.add_lit,hw,Nat.zero_add];exact hvs j v hj)
 have happ : ∀ ty,∃ A2 cap2 w',(Builtin.append_ #[22,22] ty #[.slice A n cap,.slice (some ⟨vb,0,none⟩) 1 vc]).run Tryz.prog w=.ok (.slice A2 (n+1) cap2) w'/\n+1<=cap2/\cap2<=maxLen/\ZxM w 45 5 A cap A2 cap2 (olds++news) w':=λty=>by
  obtain⟨A2,cap2,w',k1,k2,k3,k4,k5⟩:=Zei (P:=Tryz.prog) w 22 22 ty 45 i0 z (.slice 45) ZdQ ZdQ (.inl rfl) hi0 hz (by rw[hzs,hsz]) A n cap olds (by rw[hsz];exact hl) hn hcm (by rw[hsz];exact Zsk hA hl)
   (.slice (some ⟨vb,0,none⟩) 1 vc) 1 news (by rw[hsz,hvl]) h1v (λw'=>by simp[Builtin.lenOf]) (hf w λ_=>rfl) (hf w.drew λ_=>rfl) (by simp only[maxLen];omega) (.inr (by rw[hby];omega))
  refine⟨A2,cap2,w',k1,k2,k3,?_,k4.os,k4.tape,k4.output,k4.size,λk hk hne=>k4.block k hk ?_⟩
  .rcases k5 with h0 | ⟨b',arr',e,h0,hb,hs,ht,hor⟩
   .omega
   .rw[hsz] at hs ht
    have hlen:(olds++news).length=(n+1)*5:=by rw[List.length_append,hl,hvl];omega
    exact⟨b',arr',h0,e,hb,hs,by rw[hlen,hs];exact Nat.mul_le_mul_right _ k2,by rw[hlen];exact ht,hor⟩
  .split
   .simp
   .rename_i h0;exact (hne h0).symm
 have mixed:Tryz.prog.follows .mixedOrders=true:=by kernel_rfl
 obtain⟨A2,cap2,w',hrun,k2,k3,k4⟩:=happ 22
 have u0:=run_underlying (P:=Tryz.prog) ZdQ
 clear happ hf
 cases A with
 | none =>
  obtain rfl:n=0:=by
   rcases hA with ⟨h0,_⟩ | ⟨b,arr,_,e,_⟩
   .omega
   .cases e
  go_enter Tryz.func118,Tryz.ntmps118
  go_wp2_with (at_builtin;refine Lib.wpList_append_run _ rfl _ _ _ _ rfl _ _ rfl rfl _ _ hrun ?_)
  all_goals (go_ret;first | exact⟨_,_,rfl,k2,k3,k4⟩ | (subst_vars;exact⟨_,_,rfl,k2,k3,k4⟩))
 | some a =>
  obtain⟨ab,ao,asp⟩:=a
  go_enter Tryz.func118,Tryz.ntmps118
  go_wp2_with (at_builtin;refine Lib.wpList_append_run _ rfl _ _ _ _ rfl _ _ rfl rfl _ _ hrun ?_)
  all_goals (go_ret;first | exact⟨_,_,rfl,k2,k3,k4⟩ | (subst_vars;exact⟨_,_,rfl,k2,k3,k4⟩))
def Zpj (b n cap i vb vc:Nat) (w:World) (arr:Array Value) (olds news:List Value) (hb:w.heap[b]?=some (.cells arr 45 (0,0))) (hsz:arr.size=cap*5) (hol:olds.length=n*5) (htk:arr.toList.take (n*5)=olds) (h1o : ∀ v∈olds,v.oneCell'=true)
  (hi:i<n) (hroom:n+1<=cap) (hcm:cap<=maxLen) (hvl:news.length=5) (hvb:vb≠b)
  (hvs : ∀ j v,news[j]?=some v->w.cell? ⟨vb,j,none⟩=some v) (h1v : ∀ v∈news,v.oneCell'=true) (tA:TypeId) (kA:Nat) (hsa:w.shape? vb=some (tA,kA)) (hfa:w.frozen? ⟨vb,0,none⟩=false) (hfe:w.frozen? ⟨vb,kA,none⟩=false) :
  Calls Tryz.prog 118 #[.slice (some ⟨b,0,none⟩) n cap,.int .i64 i,.slice (some ⟨vb,0,none⟩) 1 vc] w λe w'=>e=.returned (.slice (some ⟨b,0,none⟩) (n+1) cap)/\w'=(w.drew.setCells b ((i+1)*5) (olds.drop (i*5))).setCells b (i*5) news:=by
 obtain⟨i0,z,hi0,hs5,hby,hz,hzs,hz1⟩:=Zmo
 have hsz5:(Tryz.prog.info? 45).map (·.size)=some 5:=by rw[hi0];exact congrArg some hs5
 have hcell : ∀ j,j<arr.size->(w.cell? ⟨b,j,none⟩).isSome=true:=λj hj=>by rw[cell_of_row w b j arr 45 (0,0) hb,Array.getElem?_eq_getElem hj];rfl
 have hfz : ∀ j,w.frozen? ⟨b,j,none⟩=false:=λj=>frozen_of_row w b j arr 45 hb
 have hcs : ∀ j v,olds[j]?=some v->w.cell? ⟨b,j,none⟩=some v:=λj v hj=>by
  rw[cell_of_row w b j arr 45 (0,0) hb,<-Array.getElem?_toList]
  rw[<-htk,List.getElem?_take] at hj
  split at hj
  .exact hj
  .cases hj
 have u0:=run_underlying (P:=Tryz.prog) ZdQ
 have hov : ∀ lb cb,(callFunc 164 #[.slice (some ⟨vb,0,none⟩) 1 vc,.slice (some ⟨b,(i+1)*5,none⟩) lb cb]).run Tryz.prog w=.ok (.value (.bool false)) w:=λlb cb=>by
  rw[run_callFunc_extern Tryz.func164 (by kernel_rfl) (by kernel_rfl) (by kernel_rfl) (e:=Extern.SlicesOverlaps.overlaps #[22,22] #[4]) (by kernel_rfl),
   Lib.run_overlaps_apart w 22 4 45 ZdQ 5 (λw=>by simp[Go.sizeOf,typeInfo,hi0,hs5]) ⟨vb,0,none⟩ ⟨b,(i+1)*5,none⟩ 1 vc lb cb hvb tA 45 kA arr.size hsa (by simp[World.shape?,hb]) (by rw[hsz];omega) hfa hfe]
  rfl
 have hdl:(olds.drop (i*5)).length=(n-i)*5:=by rw[List.length_drop,hol];omega
 have mixed:Tryz.prog.follows .mixedOrders=true:=by kernel_rfl
 have hw1:IntKind.i64.wrap ((i:Int)+1)=(i:Int)+1:=by rw[IntKind.wrap_i64];unfold maxLen at hcm;omega
 have hw2:IntKind.i64.wrap ((n:Int)+1)=(n:Int)+1:=by rw[IntKind.wrap_i64];unfold maxLen at hcm;omega
 have hb1:(0:Int)<=(i:Int)+1:=by omega
 have hin:i<=n:=by omega
 have htn:((i:Int)+1).toNat=i+1:=by omega
 have htn2:((n:Int)+1).toNat=n+1:=by omega
 have hz2:¬((i:Int)=(n:Int)):=by omega
 have hz3:¬((cap:Int)<(n:Int)+1):=by omega
 have hb2:¬(cap=i+1):=by omega
 have hb3:(i:Int)<=(n:Int)+1:=by omega
 have hb4:¬(cap=i):=by omega
 have hc63:cap<=9223372036854775807:=by unfold maxLen at hcm;omega
 have hcp1 : ∀ ty dc sc,(Builtin.copy_ #[22,22] ty #[.slice (some ⟨b,(i+1)*5,none⟩) (n+1-(i+1)) dc,.slice (some ⟨b,i*5,none⟩) (n+1-i) sc]).run Tryz.prog w.drew=.ok (goInt (Nat.min (n+1-i) (n+1-(i+1)))) (w.drew.setCells b ((i+1)*5) (olds.drop (i*5))):=λty dc sc =>
  ZdB w.drew _ _ ty 45 5 b ((i+1)*5) (n+1-(i+1)) dc ⟨b,i*5,none⟩ (n+1-i) sc (olds.drop (i*5)) ZdQ hsz5 (by rw[hdl,natmin_r om];omega)
   (λj v hj=>by rw[Addr.add_lit];exact hcs (i*5+j) v (by rwa [List.getElem?_drop] at hj))
   (λj hj=>hcell _ (by rw[hdl] at hj;rw[hsz];omega)) (λj hj=>hfz _) (λv hv=>h1o v (List.mem_of_mem_drop hv))
 obtain⟨W1,hW1⟩ : ∃ W1,W1=w.drew.setCells b ((i+1)*5) (olds.drop (i*5)):=⟨_,rfl⟩
 have hsp1 : ∀ k,k<arr.size->(W1.cell? ⟨b,k,none⟩).isSome=true:=λk hk=>by
  rw[hW1]
  exact isSome_setCells b _ _ w.drew (λj hj=>hcell ((i+1)*5+j) (by rw[hdl] at hj;rw[hsz];omega)) _ (hcell k hk)
 have hcp2 : ∀ (W:World),(∀ x,W.cell? x=W1.cell? x)->(∀ x,W.frozen? x=W1.frozen? x) -> ∀ ty dc,(Builtin.copy_ #[22,22] ty #[.slice (some ⟨b,i*5,none⟩) (n+1-i) dc,.slice (some ⟨vb,0,none⟩) 1 vc]).run Tryz.prog W=.ok (goInt (Nat.min 1 (n+1-i))) (W.setCells b (i*5) news):=λW hWc hWf ty dc =>
  ZdB W _ _ ty 45 5 b (i*5) (n+1-i) dc ⟨vb,0,none⟩ 1 vc news ZdQ hsz5 (by rw[hvl,Zmk om])
   (λj v hj=>by
    rw[Addr.add_lit,hWc,hW1,World.cell?_setCells_out b _ _ _ _ (λh _=>absurd h hvb),Nat.zero_add]
    exact hvs j v hj)
   (λj hj=>by rw[hWc];exact hsp1 _ (by rw[hvl] at hj;rw[hsz];omega)) (λj hj=>by rw[hWf,hW1,World.frozen?_setCells];exact hfz _) h1v
 rw[<-hW1] at hcp1
 clear hcs hcell hdl hsp1 hfz htk
 go_enter Tryz.func118,Tryz.ntmps118
 go_wp2_with (simp only[hov])
 go_region_law_o (refine step_copy_runI rfl _ _ 22 22 rfl (.slice (some ⟨b,(i+1)*5,none⟩) (n+1-(i+1)) (cap-(i+1))) (.slice (some ⟨b,i*5,none⟩) (n+1-i) (cap-i)) (by simp[Act.eval,Act.put]) (by simp[Act.eval,Act.put]) (hcp1 3 (cap-(i+1)) (cap-i)) ?_)
 go_wp2_with (at_builtin;refine wpList_copy_runI _ rfl _ _ 22 22 rfl _ _ rfl rfl (hcp2 _ (λ_=>rfl) (λ_=>rfl) _ _) ?_)
 go_ret
 exact⟨rfl,rfl⟩
def Zpk (b n i vb vc:Nat) (w:World) (arr:Array Value) (olds news:List Value) (hb:w.heap[b]?=some (.cells arr 45 (0,0))) (hol:olds.length=n*5) (htk:arr.toList.take (n*5)=olds) (h1o : ∀ v∈olds,v.oneCell'=true)
    (hi:i<n) (hbig:n<=2000000000000) (hvl:news.length=5)
    (hvs : ∀ j v,news[j]?=some v->w.cell? ⟨vb,j,none⟩=some v) (h1v : ∀ v∈news,v.oneCell'=true) :
    Calls Tryz.prog 118 #[.slice (some ⟨b,0,none⟩) n n,.int .i64 i,.slice (some ⟨vb,0,none⟩) 1 vc] w λe w' => ∃ (G:Nat) (ROW:Array Value),e=.returned (.slice (some ⟨w.heap.size,0,none⟩) (n+1) G)/\n+1<=G/\G<=maxLen/\ROW.size=G*5/\ROW.toList.take (i*5)=olds.take (i*5) /\
      w'=(((w.alloc (.cells ROW 45)).drew.setCells w.heap.size (i*5) news).drew).setCells w.heap.size ((i+1)*5) (olds.drop (i*5)):=by
  obtain⟨i0,z,hi0,hs5,hby,hz,hzs,hz1⟩:=Zmo
  have hsz5:(Tryz.prog.info? 45).map (·.size)=some 5:=by rw[hi0];exact congrArg some hs5
  have hcs : ∀ j v,olds[j]?=some v->w.cell? ⟨b,j,none⟩=some v:=λj v hj=>by
    rw[cell_of_row w b j arr 45 (0,0) hb,<-Array.getElem?_toList]
    rw[<-htk,List.getElem?_take] at hj
    split at hj
    . exact hj
    . cases hj
  have u0:=run_underlying (P:=Tryz.prog) ZdQ
  have u1:Tryz.prog.underlying 3=some (.int .i64):=by kernel_rfl
  have hbw:b<w.heap.size:=(Array.getElem?_eq_some_iff.1 hb).1
  have hvw:vb<w.heap.size:=block_lt_of_cell (hvs 0 _ (List.getElem?_eq_getElem om))
  have hik:i+(n+1-i)=n+1:=by omega
  have hkk:(n:Int)+1-(i:Int)=((n+1-i:Nat):Int):=by omega
  have hold:(Builtin.firstCells i0.size i (.slice (some ⟨b,0,none⟩) i n)).run Tryz.prog w.drew=.ok (olds.take (i*5)).toArray w.drew:=by
    rw[hs5]
    exact run_firstCells_some w.drew 5 i ⟨b,0,none⟩ i n (olds.take (i*5)) (by rw[List.length_take,hol];omega) (λj v hj=>by
      rw[Addr.add_lit,Nat.zero_add]
      rw[List.getElem?_take] at hj
      split at hj
      . exact hcs j v hj
      . cases hj)
  have hrz : ∀ ty, (Builtin.append_ #[22, 3] ty #[.slice (some ⟨b, 0, none⟩) i n, .int .i64 ((n : Int) + 1 - (i : Int))]).run Tryz.prog w =
      .ok (.slice (some ⟨w.heap.size,0,none⟩) (n+1) (grownCap w (n+1) n 45)) (w.drew.alloc (.cells ((olds.take (i*5)).toArray++Builtin.zeroCells z.cells (n+1-i)++Builtin.zeroCells z.cells (grownCap w (n+1) n 45-(n+1))) 45)):=λty=>by
    have h:=Lib.run_append_grow_zeros w 22 3 ty 45 i0 z .i64 .i64 ZdQ u1 hi0 hz (some ⟨b,0,none⟩) i n (olds.take (i*5)) hold (n+1-i) om (by rw[hs5];omega) om om (by rw[hby];omega) (by rw[hby,hik];exact growslice_fits_wide om om)
    rw[hik] at h
    rw[hkk]
    exact h
  have hGn:n+1<=grownCap w (n+1) n 45:=grownCap_ge w _ _ _
  have hGm:grownCap w (n+1) n 45<=maxLen:=grownCap_le_maxLen w (n+1) n 45 (by unfold maxLen;omega)
  obtain⟨G,hG⟩ : ∃ G,G=grownCap w (n+1) n 45:=⟨_,rfl⟩
  rw[<-hG] at hrz hGn hGm
  obtain⟨ROW,hROW⟩ : ∃ ROW:Array Value,ROW=(olds.take (i*5)).toArray++Builtin.zeroCells z.cells (n+1-i)++Builtin.zeroCells z.cells (G-(n+1)):=⟨_,rfl⟩
  rw[<-hROW] at hrz
  have hRs:ROW.size=G*5:=by
    rw[hROW]
    simp only[Array.size_append,size_zeroCells,hzs,List.size_toArray,List.length_take,hol]
    omega
  have hRt:ROW.toList.take (i*5)=olds.take (i*5):=by
    rw[hROW,Array.append_assoc,Array.toList_append]
    rw[List.take_append_of_le_length (by simp only[List.toList_toArray,List.length_take,hol];omega)]
    simp only[List.toList_toArray,List.take_take,Nat.min_self]
  obtain⟨W1,hW1⟩ : ∃ W1,W1=w.drew.alloc (.cells ROW 45):=⟨_,rfl⟩
  rw[<-hW1] at hrz
  have hN : ∀ j,j<(n+1)*5->(W1.cell? ⟨w.heap.size,j,none⟩).isSome=true:=λj hj=>by
    rw[hW1,World.cell?_alloc_at (w:=w.drew) ROW _ w.heap.size j rfl,Array.getElem?_eq_getElem om];rfl
  have hNf : ∀ j,W1.frozen? ⟨w.heap.size,j,none⟩=false:=λj=>by rw[hW1];exact World.frozen?_alloc_at (w:=w.drew) ROW _ w.heap.size j rfl
  have hOb : ∀ j v,w.cell? ⟨b,j,none⟩=some v->W1.cell? ⟨b,j,none⟩=some v:=λj v h=>by rw[hW1,World.cell?_alloc_past (w:=w.drew) _ b j hbw];exact h
  have hOv : ∀ j v,w.cell? ⟨vb,j,none⟩=some v->W1.cell? ⟨vb,j,none⟩=some v:=λj v h=>by rw[hW1,World.cell?_alloc_past (w:=w.drew) _ vb j hvw];exact h
  have hdl:(olds.drop (i*5)).length=(n-i)*5:=by rw[List.length_drop,hol];omega
  have hbN:b≠w.heap.size:=by omega
  have hcpA : ∀ (W:World),(∀ x,W.cell? x=W1.cell? x)->(∀ x,W.frozen? x=W1.frozen? x) -> ∀ ty dc,(Builtin.copy_ #[22,22] ty #[.slice (some ⟨w.heap.size,i*5,none⟩) (n+1-i) dc,.slice (some ⟨vb,0,none⟩) 1 vc]).run Tryz.prog W=.ok (goInt (Nat.min 1 (n+1-i))) (W.setCells w.heap.size (i*5) news):=λW hWc hWf ty dc =>
    ZdB W _ _ ty 45 5 w.heap.size (i*5) (n+1-i) dc ⟨vb,0,none⟩ 1 vc news ZdQ hsz5 (by rw[hvl,Zmk om])
      (λj v hj=>by rw[Addr.add_lit,hWc,Nat.zero_add];exact hOv _ v (hvs j v hj))
      (λj hj=>by rw[hWc];exact hN _ om) (λj hj=>by rw[hWf];exact hNf _) h1v
  have hcpB : ∀ (W:World),(∀ x,W.cell? x=(W1.setCells w.heap.size (i*5) news).cell? x)->(∀ x,W.frozen? x=(W1.setCells w.heap.size (i*5) news).frozen? x) -> ∀ ty dc sc,(Builtin.copy_ #[22,22] ty #[.slice (some ⟨w.heap.size,(i+1)*5,none⟩) (n+1-(i+1)) dc,.slice (some ⟨b,i*5,none⟩) (n-i) sc]).run Tryz.prog W=.ok (goInt (Nat.min (n-i) (n+1-(i+1)))) (W.setCells w.heap.size ((i+1)*5) (olds.drop (i*5))):=λW hWc hWf ty dc sc =>
    ZdB W _ _ ty 45 5 w.heap.size ((i+1)*5) (n+1-(i+1)) dc ⟨b,i*5,none⟩ (n-i) sc (olds.drop (i*5)) ZdQ hsz5 (by rw[hdl,Zmk om])
      (λj v hj=>by
        rw[Addr.add_lit,hWc,World.cell?_setCells_out _ _ _ _ _ (λh _=>absurd h hbN)]
        exact hOb _ v (hcs (i*5+j) v (by rwa [List.getElem?_drop] at hj)))
      (λj hj=>by rw[hWc];exact isSome_setCells _ _ _ _ (λt ht=>hN _ om) _ (hN _ om))
      (λj hj=>by rw[hWf,World.frozen?_setCells];exact hNf _) (λv hv=>h1o v (List.mem_of_mem_drop hv))
  subst hW1
  have hE1 : ∀ x,((w.alloc (.cells ROW 45)).drew).cell? x=(w.drew.alloc (.cells ROW 45)).cell? x:=λx=>rfl
  have hE2 : ∀ x,((w.alloc (.cells ROW 45)).drew).frozen? x=(w.drew.alloc (.cells ROW 45)).frozen? x:=λx=>rfl
  have hF1 : ∀ x,(((w.alloc (.cells ROW 45)).drew.setCells w.heap.size (i*5) news).drew).cell? x=((w.drew.alloc (.cells ROW 45)).setCells w.heap.size (i*5) news).cell? x:=λx=>rfl
  have hF2 : ∀ x,(((w.alloc (.cells ROW 45)).drew.setCells w.heap.size (i*5) news).drew).frozen? x=((w.drew.alloc (.cells ROW 45)).setCells w.heap.size (i*5) news).frozen? x:=λx=>rfl
  have mixed:Tryz.prog.follows .mixedOrders=true:=by kernel_rfl
  have hc63:G<=9223372036854775807:=by unfold maxLen at hGm;omega
  have hw1:IntKind.i64.wrap ((i:Int)+1)=(i:Int)+1:=by rw[IntKind.wrap_i64];omega
  have hw2:IntKind.i64.wrap ((n:Int)+1)=(n:Int)+1:=by rw[IntKind.wrap_i64];omega
  have hw3:IntKind.i64.wrap ((n:Int)+1-(i:Int))=(n:Int)+1-(i:Int):=by rw[IntKind.wrap_i64];omega
  have hb1:(0:Int)<=(i:Int)+1:=by omega
  have hin:i<=n:=by omega
  have htn:((i:Int)+1).toNat=i+1:=by omega
  have hz2:¬((i:Int)=(n:Int)):=by omega
  have hz3:(n:Int)<(n:Int)+1:=by omega
  have hb3:(i:Int)<=(n:Int):=by omega
  have hGi:¬(G=i):=by omega
  have hGim:¬(G=i+1):=by omega
  have hci:¬(n=i):=by omega
  clear hkk hik hold hROW hG hcs hN hNf hOb hOv hdl htk
  go_enter Tryz.func118,Tryz.ntmps118
  go_wp2_with (first
    | (at_builtin;refine Lib.wpList_append_run _ rfl _ _ _ _ rfl _ _ rfl rfl _ _ (hrz _) ?_)
    | (at_builtin;refine wpList_copy_runI _ rfl _ _ 22 22 rfl _ _ rfl rfl (hcpA _ hE1 hE2 _ _) ?_)
    | (at_builtin;refine wpList_copy_runI _ rfl _ _ 22 22 rfl _ _ rfl rfl (hcpB _ (λ_=>rfl) (λ_=>rfl) _ _ _) ?_))
  go_region_law_o (refine step_copy_runI rfl _ _ 22 22 rfl (.slice (some ⟨w.heap.size,(i+1)*5,none⟩) (n+1-(i+1)) (G-(i+1))) (.slice (some ⟨b,i*5,none⟩) (n-i) (n-i)) (by simp[Act.eval,Act.put]) (by simp[Act.eval,Act.put]) (hcpB _ hF1 hF2 3 (G-(i+1)) (n-i)) ?_)
  go_wp2
  go_ret
  exact⟨G,ROW,rfl,hGn,hGm,hRs,hRt,rfl⟩
end
section
open Go.Ab Go.RowKit Go.Lib Civ
def Zpi (b:Nat) (vs:List Value) (o:Nat) (w:World) (h : ∀ j,j<vs.length->(w.cell? ⟨b,o+j,none⟩).isSome=true) (k:Nat) (hk:(w.cell? ⟨b,k,none⟩).isSome=true):((w.setCells b o vs).cell? ⟨b,k,none⟩).isSome=true:=by
 by_cases hin:o<=k/\k<o+vs.length
 .have:=World.cell?_setCells_in b vs o w h (k-o) om
  rw[show o+(k-o)=k by omega] at this
  rw[this];rfl
 .rw[World.cell?_setCells_out b vs o w ⟨b,k,none⟩ (λ_ _=>by show k<o\/o+vs.length<=k;omega)]
  exact hk
def delete_w (b n cap i j:Nat) (w:World) (news zs:List Value) (hij:i<j) (hjn:j<=n) (hcap:n<=cap) (hm:cap<=9223372036854775807)
  (hnl:news.length=(n-j)*5) (hsrc : ∀ t u,news[t]?=some u->w.cell? ⟨b,j*5+t,none⟩=some u) (h1 : ∀ u∈news,u.oneCell'=true)
  (hc : ∀ j,j<n*5->(w.cell? ⟨b,j,none⟩).isSome=true) (hf : ∀ j,j<n*5->w.frozen? ⟨b,j,none⟩=false) :
  Calls Tryz.prog 117 #[.slice (some ⟨b,0,none⟩) n cap,.int .i64 i,.int .i64 (j:Int)] w λe w'=>e=.returned (.slice (some ⟨b,0,none⟩) (n-(j-i)) cap) /\ ∃ Z:List Value,Z.length=(j-i)*5/\(∀ v∈Z,v.oneCell'=true)/\w'=(w.drew.setCells b (i*5) news).setCells b ((n-(j-i))*5) Z:=by
 obtain⟨i0,hi0,hz1⟩ : ∃ i0,Tryz.prog.info? 45=some i0/\i0.size=5:=⟨_,rfl,rfl⟩
 obtain⟨A,hA,s2⟩ : ∃ A:Addr,Hid ((if cap=j then some (⟨b,0,none⟩:Addr) else some ⟨b,j*5,none⟩)=some A)/\Hid (∀ t u,news[t]?=some u->w.drew.cell? (A.add t)=some u):=by
  by_cases h:cap=j
  .refine⟨⟨b,0,none⟩,by simp[Hid,h],λt u hu=>?_⟩
   have h0:news.length=0:=by rw[hnl];omega
   rw[List.length_eq_zero_iff.1 h0] at hu
   simp at hu
  .exact⟨⟨b,j*5,none⟩,by simp[Hid,h],λt u hu=>by rw[Addr.add_lit];exact hsrc t u hu⟩
 have s1:Hid (news.length=(n-j)*5):=hnl
 have s3:Hid (∀ t,t<news.length->(w.drew.cell? ⟨b,0+i*5+t,none⟩).isSome=true/\w.drew.frozen? ⟨b,0+i*5+t,none⟩=false):=by
  intro t ht
  rw[hnl] at ht
  rw[Nat.zero_add]
  exact⟨hc _ om,hf _ om⟩
 obtain⟨W1,hW1⟩ : ∃ W1,W1=w.drew.setCells b (0+i*5) news:=⟨_,rfl⟩
 have hW:Hid (W1=w.drew.setCells b (0+i*5) news):=hW1
 obtain⟨z,hz,hzc⟩ : ∃ z:Value,(∀ w,(zeroValue 45).run Tryz.prog w=.ok z w)/\z.cells = #[.string ⟨#[]⟩,.int .i64 0,.int .i64 0,.string ⟨#[]⟩,.slice none 0 0]:=⟨.agg #[.string ⟨#[]⟩,.int .i64 0,.int .i64 0,.string ⟨#[]⟩,.slice none 0 0],λw=>rfl,rfl⟩
 have hzs:z.cells.size=5:=by rw[hzc];rfl
 have hz1c : ∀ v∈(Builtin.zeroCells z.cells (n-(i+(n-j)))).toList,v.oneCell'=true:=λv hv=>by
  rw[hzc] at hv
  simp[Builtin.zeroCells] at hv
  obtain⟨k,_,rfl⟩:=hv
  have:=Nat.mod_lt k (show 0<5 by omega)
  generalize k%5=q at this
  match q,this with
  | 0,_=>rfl
  | 1,_=>rfl
  | 2,_=>rfl
  | 3,_=>rfl
  | 4,_=>rfl
 have hcl : ∀ ty,(Builtin.clear_ #[22] ty #[.slice (some ⟨b,(i+(n-j))*5,none⟩) (n-(i+(n-j))) (cap-(i+(n-j)))]).run Tryz.prog W1=.ok (.tuple #[]) (W1.setCells b ((i+(n-j))*5) (Builtin.zeroCells z.cells (n-(i+(n-j)))).toList):=λty=>by
  refine Zkq W1 22 45 ty z (by kernel_rfl) hz b _ _ _ om (λt ht=>?_) (λt ht=>?_) (λv hv=>?_)
  .rw[hzs] at ht
   rw[hW1]
   exact Zpi b _ _ _ (λu hu=>by rw[hnl] at hu;rw[Nat.zero_add];exact hc _ om) _ (hc _ om)
  .rw[hzs] at ht
   rw[hW1,World.frozen?_setCells]
   exact hf _ om
  .exact hz1c v hv
 obtain⟨Z,hZ⟩ : ∃ Z,Z=(Builtin.zeroCells z.cells (n-(i+(n-j)))).toList:=⟨_,rfl⟩
 rw[<-hZ] at hcl hz1c
 have hZ1:Hid (∀ v∈Z,v.oneCell'=true):=hz1c
 have hZ':Hid (Z.length=(j-i)*5):=by rw[show j-i=n-(i+(n-j)) by omega,hZ,Array.length_toList,size_zeroCells,hzs];exact rfl
 have hcl':Hid (∀ ty,(Builtin.clear_ #[22] ty #[.slice (some ⟨b,(i+(n-j))*5,none⟩) (n-(i+(n-j))) (cap-(i+(n-j)))]).run Tryz.prog W1=.ok (.tuple #[]) (W1.setCells b ((i+(n-j))*5) Z)):=hcl
 have mixed:Tryz.prog.follows .mixedOrders=true:=by kernel_rfl
 have hic:i<=cap:=by omega
 have hjc:j<=cap:=by omega
 have hne:¬((i:Int)=(j:Int)):=by omega
 rw[show n-(j-i)=i+(n-j) by omega]
 clear hc hf hsrc hW1 hcl hzc hzs hz hZ hz1c
 go_enter Tryz.func117,Tryz.ntmps117
 go_wp2_with fail
 go_region_law_o (refine step_append_room rfl (.tmp 22) (.tmp 25) 22 rfl 45 i0 5 (by kernel_rfl) hi0 hz1 b 0 i cap (by simp[Act.eval,Act.put]) A (n-j) (cap-j) news (by simp[Act.eval,Act.put,hA.out]) s1.out s2.out h1 om s3.out ?_;rw[<-hW.out])
 go_wp2_with (simp only[hcl'.out])
 all_goals go_ret
 all_goals exact⟨rfl,Z,hZ'.out,hZ1.out,by rw[hW.out,Nat.zero_add]⟩
end
section
open Go.Ab Go.RowKit Go.Lib Civ
def ZgJ {α:Type}{f:α->List AV}{k:Nat}(hf : ∀ x,(f x).length=k) : ∀ (l:List α) (i:Nat),i<l.length->rows f (l.eraseIdx i)=(rows f l).take (i*k)++(rows f l).drop ((i+1)*k)
 | [],i,h=>by simp at h
 | x::l,0,h=>by
  show rows f l=_
  have:rows f (x::l)=f x++rows f l:=rfl
  rw[this,Nat.zero_mul,List.take_zero,List.nil_append,Nat.zero_add,Nat.one_mul,List.drop_left' (hf x)]
 | x::l,i+1,h=>by
  show f x++rows f (l.eraseIdx i)=_
  have:rows f (x::l)=f x++rows f l:=rfl
  have e1:(i+1)*k=(f x).length+i*k:=by rw[hf,Nat.add_mul];omega
  have e2:(i+1+1)*k=(f x).length+(i+1)*k:=by rw[hf];simp only[Nat.add_mul];omega
  rw[this,ZgJ hf l i (by simpa using h),e2,List.drop_length_add_append,e1,List.take_length_add_append,List.append_assoc]
def delete_a {l:List Nam}{id v ty i:Nat}{h:AH}(he:h[id]?=some (.mk v ty 5 (rows namC l))) (hi:i<l.length) :
  ACalls Tryz.prog 117 [.own id v l.length,iv i,iv ((i:Int)+1)] h λx h'=>x=.ret (.own id v (l.length-1))/\h'=h.set id (.mk v ty 5 (rows namC (l.eraseIdx i))):=by
 have hlen:=Zba l
 rw[show ((i:Int)+1)=((i+1:Nat):Int) by omega]
 refine (ACalls.of_turnS (R':=λn' cs=>n'=l.length-1/\cs=rows namC (l.eraseIdx i)) (by kernel_rfl) he ?_ ?_).mono ?_
 .intro e
  have:=congrArg List.length e
  rw[hlen] at this;simp at this;omega
 .intro w g vs b cap arr hs ha hloc hcm hb hsz hle hr
  simp only[RepL,Rep,hloc] at ha
  obtain⟨u1,us1,e1,⟨A,c,e2,hn1,hn2,rfl⟩,u2,us2,rfl,rfl,u3,us3,rfl,rfl,rfl⟩:=ha
  simp only[Option.some.injEq,Prod.mk.injEq] at e2
  obtain⟨rfl,rfl⟩:=e2
  obtain rfl:vs = #[.slice (some ⟨b,0,none⟩) l.length cap,.int .i64 i,.int .i64 ((i+1:Nat):Int)]:=by cases vs;simp_all
  have hone:=Zct (ZiS l) hr
  rw[hlen] at hr hone hle
  obtain⟨news,hnews⟩ : ∃ news,news=(arr.toList.take (l.length*5)).drop ((i+1)*5):=⟨_,rfl⟩
  have hnl:news.length=(l.length-(i+1))*5:=by rw[hnews,List.length_drop,List.length_take,Array.length_toList (xs:=arr)];omega
  have h1 : ∀ u∈news,u.oneCell'=true:=λu hu=>hone u (List.mem_of_mem_drop (hnews ▸ hu))
  have hcell : ∀ j,j<l.length*5->w.cell? ⟨b,j,none⟩=arr[j]?:=λj hj=>cell_of_row w b j arr ty (0,0) hb
  refine (delete_w b l.length cap i (i+1) w news [] om om hn1 (by unfold maxLen at hcm;omega) hnl (λt u hu=>?_) h1 (λj hj=>?_) (λj hj=>frozen_of_row w b j arr ty hb)).mono ?_
  .rw[hnews,List.getElem?_drop,List.getElem?_take] at hu
   split at hu
   .rename_i hlt
    rw[hcell _ hlt,<-Array.getElem?_toList];exact hu
   .cases hu
  .rw[hcell j hj,Array.getElem?_eq_getElem om];rfl
  rintro e w' ⟨rfl,Z,hZ,hZ1,rfl⟩
  have hb1:w.drew.heap[b]?=some (.cells arr ty (0,0)):=hb
  rw[ZcN Tryz.prog b (i*5) ty news arr w.drew hb1 om h1]
  obtain⟨arr1,ha1⟩ : ∃ arr1,arr1=(arr.toList.take (i*5)++news++arr.toList.drop (i*5+news.length)).toArray:=⟨_,rfl⟩
  rw[<-ha1]
  have hs1:arr1.size=arr.size:=by rw[ha1];simp only[List.size_toArray,List.length_append,List.length_take,List.length_drop,Array.length_toList];omega
  have hb2:=setRow_heap w.drew b arr arr1 ty (0,0) hb1
  rw[ZcN Tryz.prog b ((l.length-(i+1-i))*5) ty Z arr1 (w.drew.setRow b arr1) hb2 om hZ1]
  obtain⟨arr2,ha2⟩ : ∃ arr2,arr2=(arr1.toList.take ((l.length-(i+1-i))*5)++Z++arr1.toList.drop ((l.length-(i+1-i))*5+Z.length)).toArray:=⟨_,rfl⟩
  rw[<-ha2]
  have hs2:arr2.size=arr1.size:=by rw[ha2];simp only[List.size_toArray,List.length_append,List.length_take,List.length_drop,Array.length_toList];omega
  have hlr:=ZgJ ZaC l i hi
  have hvl:(arr.toList.take (i*5)++news).length=(l.length-1)*5:=by rw[List.length_append,hnl,List.length_take,Array.length_toList (xs:=arr)];omega
  refine⟨l.length-1,rows namC (l.eraseIdx i),arr.toList.take (i*5)++news,arr2,by rw[show i+1-i=1 by omega],by omega,⟨rfl,rfl⟩,?_,setRow_heap _ b arr1 arr2 ty (0,0) hb2,by omega,by omega,?_,rfl,rfl,rfl,?_,λk hk hkb=>?_⟩
  .rw[hlr]
   refine RepL.append ?_ ?_
   .have:=hr.take (i*5)
    rwa [List.take_take,Nat.min_eq_left om] at this
   .rw[hnews];exact hr.drop ((i+1)*5)
  .rw[hvl,ha2,ha1]
   simp only[List.toList_toArray]
   rw[show (l.length-(i+1-i))*5=(arr.toList.take (i*5)++news).length by rw[hvl];omega,List.take_left,List.append_assoc]
   rw[<-hvl,List.take_left]
  .simp[World.setRow]
  .rw[setRow_other _ _ _ _ hkb,setRow_other _ _ _ _ hkb];rfl
 .rintro x h' ⟨n',cs,⟨rfl,rfl⟩,rfl,rfl⟩
  exact⟨rfl,rfl⟩
end
section
open Go.Ab Go.RowKit Go.Lib Civ
def ZkR {α:Type}{f:α->List AV}{k:Nat}(hf : ∀ x,(f x).length=k) : ∀ (l:List α) (i:Nat) (x:α),i<=l.length->rows f (l.take i++x::l.drop i)=(rows f l).take (i*k)++f x++(rows f l).drop (i*k)
 | l,0,x,h=>by rw[Nat.zero_mul];rfl
 | [],i+1,x,h=>by simp at h
 | y::l,i+1,x,h=>by
  have ih:=ZkR hf l i x (by simpa using h)
  have e1:(i+1)*k=(f y).length+i*k:=by rw[hf,Nat.add_mul];omega
  show f y++rows f (l.take i++x::l.drop i)=_
  rw[ih]
  show _=(f y++rows f l).take _++f x++(f y++rows f l).drop _
  rw[e1,List.take_length_add_append,List.drop_length_add_append,List.append_assoc,List.append_assoc,List.append_assoc]
def insert_a {l:List Nam}{n:Nam}{id v j vj i:Nat}{h:AH}(he:h[id]?=some (.mk v 45 5 (rows namC l))) (hj:h[j]?=some (.mk vj 45 5 (namC n))) (hne:id≠j) (hi:i<=l.length) (hbig:l.length<=2000000000000) :
  ACalls Tryz.prog 118 [.own id v l.length,iv i,.own j vj 1] h λx h'=>x=.ret (.own id (v+1) (l.length+1))/\h'=h.set id (.mk (v+1) 45 5 (rows namC (l.take i++n::l.drop i))):=by
 have hlen:=Zba l
 refine (ACalls.of_turnG (R':=λn' cs=>n'=l.length+1/\cs=rows namC (l.take i++n::l.drop i)) (by kernel_rfl) he ?_).mono ?_
 .intro w g vs A cap olds hs ha hloc hcm hro hold how
  simp only[RepL,Rep,hloc] at ha
  obtain⟨u1,us1,e1,⟨A',c',e2,hn1,hn2,rfl⟩,u2,us2,rfl,rfl,u3,us3,rfl,⟨Aj,cj,fj,hnj,hmj,rfl⟩,rfl⟩:=ha
  simp only[Option.some.injEq,Prod.mk.injEq] at e2
  obtain⟨rfl,rfl⟩:=e2
  -- the one that is put lies in a row of its own
  obtain⟨A2,cap2,gj,_,g3⟩:=hs.ent _ _ _ _ _ hj
  rw[fj] at gj
  simp only[Option.some.injEq,Prod.mk.injEq] at gj
  obtain⟨rfl,rfl⟩:=gj
  rcases g3 with ⟨e0,_⟩ | ⟨vb,varr,rfl,hc0,hd,hvb,hvs,hvl,hrv⟩
  .cases e0
  obtain rfl:vs = #[.slice A l.length cap,.int .i64 i,.slice (some ⟨vb,0,none⟩) 1 cj]:=by cases vs;simp_all
  have hol:olds.length=l.length*5:=by rw[hro.length,hlen]
  have h1o : ∀ u∈olds,u.oneCell'=true:=Zct (ZiS l) hro
  obtain⟨news,hnews⟩ : ∃ news,news=varr.toList.take (namC n).length:=⟨_,rfl⟩
  rw[<-hnews] at hrv
  have hn5:news.length=5:=hrv.length
  have h1v : ∀ u∈news,u.oneCell'=true:=Zct (cs:=namC n) rfl hrv
  have hvc : ∀ k u,news[k]?=some u->w.cell? ⟨vb,k,none⟩=some u:=λk u hk=>by
   rw[cell_of_row w vb k varr 45 (0,0) hvb,<-Array.getElem?_toList]
   rw[hnews,List.getElem?_take] at hk
   split at hk
   .exact hk
   .cases hk
  have hrows:rows namC (l.take i++n::l.drop i)=(rows namC l).take (i*5)++namC n++(rows namC l).drop (i*5):=ZkR ZaC l i n hi
  have hrep:RepL w g (rows namC (l.take i++n::l.drop i)) (olds.take (i*5)++news++olds.drop (i*5)):=by
   rw[hrows];exact ((hro.take (i*5)).append hrv).append (hro.drop (i*5))
  have htl:(olds.take (i*5)).length=i*5:=by rw[List.length_take,hol];omega
  have hvne : ∀ b,cap≠0->A=some ⟨b,0,none⟩->vb≠b:=λb h0 e hb=>by
   subst hb
   exact hne (hs.inj id j vb (how vb h0 (by rw[e];rfl)) ⟨vj,_,_,_,_,_,hj,fj,hc0,rfl⟩)
  by_cases hin:i=l.length
  .subst hin
   refine (Zst A l.length cap vb cj w olds news hold hol hn1 hcm hn5 hvc h1v om).mono ?_
   rintro e w' ⟨A2,cap2,rfl,k2,k3,k4⟩
   have e2:olds.take (l.length*5)++news++olds.drop (l.length*5)=olds++news:=by rw[List.take_of_length_le om,List.drop_of_length_le om,List.append_nil]
   exact⟨_,_,_,A2,cap2,rfl,k2,k3,⟨rfl,rfl⟩,hrep,by rw[e2];exact k4⟩
  .have hil:i<l.length:=by omega
   rcases hold with ⟨h0,_⟩ | ⟨b,arr,h0,rfl,hb,hsz,hle,htk⟩
   .omega
   rw[hol] at htk
   by_cases hroom:l.length+1<=cap
   .refine (Zpj b l.length cap i vb cj w arr olds news hb hsz hol htk h1o hil hroom hcm hn5 (hvne b h0 rfl) hvc h1v 45 varr.size (by simp[World.shape?,hvb]) (frozen_of_row w vb 0 varr 45 hvb) (frozen_of_row w vb varr.size varr 45 hvb)).mono ?_
    rintro e w' ⟨rfl,rfl⟩
    have hb1:w.drew.heap[b]?=some (.cells arr 45 (0,0)):=hb
    have hdl:(olds.drop (i*5)).length=(l.length-i)*5:=by rw[List.length_drop,hol];omega
    rw[ZcN Tryz.prog b ((i+1)*5) 45 (olds.drop (i*5)) arr w.drew hb1 om (λu hu=>h1o u (List.mem_of_mem_drop hu))]
    obtain⟨arr1,ha1⟩ : ∃ arr1,arr1=(arr.toList.take ((i+1)*5)++olds.drop (i*5)++arr.toList.drop ((i+1)*5+(olds.drop (i*5)).length)).toArray:=⟨_,rfl⟩
    rw[<-ha1]
    have hs1:arr1.size=arr.size:=by rw[ha1];simp only[List.size_toArray,List.length_append,List.length_take,List.length_drop,Array.length_toList];omega
    have hb2:=setRow_heap w.drew b arr arr1 45 (0,0) hb1
    rw[ZcN Tryz.prog b (i*5) 45 news arr1 (w.drew.setRow b arr1) hb2 om h1v]
    obtain⟨arr2,ha2⟩ : ∃ arr2,arr2=(arr1.toList.take (i*5)++news++arr1.toList.drop (i*5+news.length)).toArray:=⟨_,rfl⟩
    rw[<-ha2]
    have hs2:arr2.size=arr1.size:=by rw[ha2];simp only[List.size_toArray,List.length_append,List.length_take,List.length_drop,Array.length_toList];omega
    have hat:arr.toList.length=arr.size:=Array.length_toList
    have h1t:arr1.toList.take (i*5)=olds.take (i*5):=by
     rw[ha1,List.toList_toArray,List.append_assoc,List.take_append_of_le_length (by rw[List.length_take,hat];omega),List.take_take,<-htk,List.take_take]
     congr 1;omega
    have h1d:(arr1.toList.drop ((i+1)*5)).take ((l.length-i)*5)=olds.drop (i*5):=by
     rw[ha1,List.toList_toArray,List.append_assoc,List.drop_append_of_le_length (by rw[List.length_take,hat];omega),List.drop_of_length_le (by rw[List.length_take,hat];omega),List.nil_append,<-hdl,List.take_left]
    refine⟨_,_,_,some ⟨b,0,none⟩,cap,rfl,hroom,hcm,⟨rfl,rfl⟩,hrep,⟨b,arr2,h0,rfl,setRow_heap _ b arr1 arr2 45 (0,0) hb2,by omega,?_,?_,.inr ⟨h0,rfl⟩⟩,rfl,rfl,rfl,?_,λk hk hkb=>?_⟩
    .rw[List.length_append,List.length_append,htl,hn5,hdl];omega
    .rw[List.length_append,List.length_append,htl,hn5,hdl,ha2,List.toList_toArray,h1t,hn5]
     rw[List.take_append,List.length_append,htl,hn5,List.take_of_length_le (by rw[List.length_append,htl,hn5];omega)]
     congr 1
     rw[show i*5+5+(l.length-i)*5-(i*5+5)=(l.length-i)*5 by omega,show i*5+5=(i+1)*5 by omega];exact h1d
    .simp[World.setRow]
    .have hkb':k≠b:=λe=>hkb h0 (by rw[e];rfl)
     rw[setRow_other _ _ _ _ hkb',setRow_other _ _ _ _ hkb'];rfl
   .obtain rfl:cap=l.length:=by omega
    refine (Zpk b l.length i vb cj w arr olds news hb hol htk h1o hil hbig hn5 hvc h1v).mono ?_
    rintro e w' ⟨G,ROW,rfl,hG1,hG2,hRs,hRt,rfl⟩
    have hdl:(olds.drop (i*5)).length=(l.length-i)*5:=by rw[List.length_drop,hol];omega
    obtain⟨W0,hW0⟩ : ∃ W0,W0=(w.alloc (.cells ROW 45)).drew:=⟨_,rfl⟩
    have hb1:W0.heap[w.heap.size]?=some (.cells ROW 45 (0,0)):=by rw[hW0];exact heap_alloc_new w _
    have hW1 : ∀ k,k<w.heap.size->W0.heap[k]?=w.heap[k]?:=λk hk=>by rw[hW0];exact Zsu w _ k hk
    have hW2:W0.os=w.os/\W0.tape=w.tape/\W0.output=w.output/\w.heap.size<=W0.heap.size:=by rw[hW0];refine⟨rfl,rfl,rfl,?_⟩;show _<=(w.alloc _).heap.size;simp
    rw[<-hW0,ZcN Tryz.prog w.heap.size (i*5) 45 news ROW W0 hb1 om h1v]
    obtain⟨arr1,ha1⟩ : ∃ arr1,arr1=(ROW.toList.take (i*5)++news++ROW.toList.drop (i*5+news.length)).toArray:=⟨_,rfl⟩
    rw[<-ha1]
    have hs1:arr1.size=ROW.size:=by rw[ha1];simp only[List.size_toArray,List.length_append,List.length_take,List.length_drop,Array.length_toList];omega
    have hb2:(W0.setRow w.heap.size arr1).drew.heap[w.heap.size]?=some (.cells arr1 45 (0,0)):=setRow_heap W0 w.heap.size ROW arr1 45 (0,0) hb1
    rw[ZcN Tryz.prog w.heap.size ((i+1)*5) 45 (olds.drop (i*5)) arr1 (W0.setRow w.heap.size arr1).drew hb2 om (λu hu=>h1o u (List.mem_of_mem_drop hu))]
    obtain⟨arr2,ha2⟩ : ∃ arr2,arr2=(arr1.toList.take ((i+1)*5)++olds.drop (i*5)++arr1.toList.drop ((i+1)*5+(olds.drop (i*5)).length)).toArray:=⟨_,rfl⟩
    rw[<-ha2]
    have hs2:arr2.size=arr1.size:=by rw[ha2];simp only[List.size_toArray,List.length_append,List.length_take,List.length_drop,Array.length_toList];omega
    have h1t:arr1.toList.take ((i+1)*5)=olds.take (i*5)++news:=by
     have hll:(olds.take (i*5)++news).length=(i+1)*5:=by rw[List.length_append,htl,hn5];omega
     rw[ha1,List.toList_toArray,hRt,<-hll,List.take_left]
    refine⟨_,_,_,some ⟨w.heap.size,0,none⟩,G,rfl,hG1,hG2,⟨rfl,rfl⟩,hrep,⟨w.heap.size,arr2,by omega,rfl,setRow_heap _ w.heap.size arr1 arr2 45 (0,0) hb2,by omega,?_,?_,.inl (Nat.le_refl _)⟩,hW2.1,hW2.2.1,hW2.2.2.1,?_,λk hk hkb=>?_⟩
    .rw[List.length_append,List.length_append,htl,hn5,hdl];omega
    .have hll:(olds.take (i*5)++news++olds.drop (i*5)).length=(olds.take (i*5)++news++olds.drop (i*5)).length:=rfl
     rw[ha2,List.toList_toArray,h1t,List.take_left]
    .have:=hW2.2.2.2
     simpa [World.setRow,World.drew] using this
    .rw[setRow_other _ _ _ _ om]
     show (W0.setRow w.heap.size arr1).heap[k]?=_
     rw[setRow_other _ _ _ _ om];exact hW1 k hk
 .rintro x h' ⟨n',cs,⟨rfl,rfl⟩,rfl,rfl⟩
  exact⟨rfl,rfl⟩
end
end Go.Proofs.YthmgnolcfjiicaaGreatDoor
namespace Go.Ab
variable {h:AH}
section
open Go.RowKit
section
def Thw (h:AH) (c d:AV):Prop := ∀ w g y,SimH w g h->Rep w g c y->Rep w (g.frz h 0) d y
def ThwL (h:AH) (c d:List AV):Prop := ∀ w g y,SimH w g h->RepL w g c y->RepL w (g.frz h 0) d y
def Thw.same {c:AV}(hl:c.lt 0=true):Thw h c c:=λw g y hs hr=>Rep.mono (g.cut_le_frz h 0) (λ_ _=>rfl) _ _ (Rep.cut _ _ hl hr)
def ThwL.same {c:List AV}(hl:AV.ltL 0 c=true):ThwL h c c:=λw g y hs hr=>RepL.mono (g.cut_le_frz h 0) (λ_ _=>rfl) _ _ (RepL.cut _ _ hl hr)
def ThwL.nil :ThwL h [] []:=ThwL.same rfl
def ThwL.cons {c d:AV}{cs ds:List AV}(h1:Thw h c d) (h2:ThwL h cs ds):ThwL h (c::cs) (d::ds):=λw g y hs hr=>by
 simp only[RepL] at hr ⊢
 obtain⟨u,us,e,r1,r2⟩:=hr
 exact⟨u,us,e,h1 _ _ _ hs r1,h2 _ _ _ hs r2⟩
def Thw.agg {cs ds:List AV}(h2:ThwL h cs ds):Thw h (.agg cs) (.agg ds):=λw g y hs hr=>by
 simp only[Rep] at hr ⊢
 obtain⟨vs,e,r⟩:=hr
 exact⟨vs,e,h2 _ _ _ hs r⟩
def Thw.own {id v m ty s:Nat}{cells:List AV}(he:h[id]?=some (.mk v ty s cells)) (hl:cells.length=m*s) (hlt:AV.ltL 0 cells=true):Thw h (.own id v m) (.sl m s false cells):=λw g y hs hr=>by
 simp only[Rep] at hr ⊢
 obtain⟨A,cap,e1,e2,e3,rfl⟩:=hr
 obtain⟨A',cap',f1,_,f3⟩:=hs.ent _ _ _ _ _ he
 rw[e1] at f1
 simp only[Option.some.injEq,Prod.mk.injEq] at f1
 obtain⟨rfl,rfl⟩:=f1
 refine⟨hl,A,cap,rfl,e2,e3,(λh=>by cases h),?_,λhne=>?_⟩
 .rintro rfl
  rcases f3 with ⟨_,h0⟩ | ⟨b,arr,e,_⟩
  .exact h0
  .cases e
 .rcases f3 with ⟨rfl,_⟩ | ⟨b,arr,rfl,hc0,hd,hb,_,hle,hrl⟩
  .exact absurd rfl hne
  .refine⟨b,0,rfl,.inr ⟨id,Nat.zero_le _,v,ty,s,cells,_,cap,he,e1,hc0,rfl⟩,RepC.of_row hb _ 0 ?_⟩
   rw[List.drop_zero]
   exact RepL.mono (g.cut_le_frz h 0) (λ_ _=>rfl) _ _ (RepL.cut _ _ hlt hrl)
def plnB:AV->Bool
 | .v _=>true
 | .tup l=>l.all λc=>match c with
  | .v _=>true
  | _=>false
 | _=>false
def Zvu : ∀ (l:List AV) (vs:List Value) {w w':World}{g g':Gh},(l.all λc=>match c with
  | .v _=>true
  | _=>false)=true->RepL w g l vs->RepL w' g' l vs
 | [],vs,_,_,_,_,_,h=>by simpa only [RepL] using h
 | c::l,vs,w,w',g,g',hp,h=>by
  simp only[RepL] at h ⊢
  obtain⟨u,us,e,r1,r2⟩:=h
  simp only[List.all_cons,Bool.and_eq_true] at hp
  refine⟨u,us,e,?_,Zvu l us hp.2 r2⟩
  cases c <;> simp at hp
  simpa only [Rep] using r1
variable {P : Program}
def ACalls.thaw {f:FuncId}{args args':List AV}{c:AV}(hc:ACalls P f args' [] λz y=>y=[]/\z=.ret c) (hp:plnB c=true) (ht:ThwL h args args'):ACalls P f args h λz y=>y=h/\z=.ret c:=by
 refine⟨hc.1,λw g vs hs ha=>?_⟩
 have s:=(hs.frz (n:=0) (Nat.zero_le _) (by simp)).1
 refine (hc.2 w (g.frz h 0) vs s (ht w g _ hs ha)).mono ?_
 rintro e w' ⟨y,k1,g1,r1,r2,r3,r4,r5,rfl,rfl⟩
 have no : ∀ k,¬Ow (g.frz h 0) (List.take 0 h) k:=by
  rintro k (⟨i,ver,ty,s,c,b,cap,e,_⟩ | ⟨i,o,T,us,e⟩) <;> simp at e
 refine⟨.ret c,h,g,?_,hs.world (λk hk=>?_) r4.size,Gh.le.refl g,⟨r4.os,r4.tape,r4.output,r4.size,λk h1 h2=>r4.block k h1 (no k)⟩,λk hk=>.inl hk,rfl,rfl⟩
 .cases e <;> simp only[EndR] at r1 ⊢
  cases c <;> simp only[plnB] at hp <;> try (cases hp;done)
  .simpa only [Rep] using r1
  .simp only[Rep] at r1 ⊢
   obtain⟨us,e,r⟩:=r1
   exact⟨us,e,Zvu _ _ hp r⟩
 .refine r4.block k ?_ (no k)
  rcases hk with hk | hk
  .exact hs.lt k hk
  .exact (hs.own_not_D hk).2
end
end
end Go.Ab
namespace Go.Proofs.YthmgnolcfjiicaaGreatDoor
open Go.Ab
variable {h:AH}{a0 a1 a2 a3 a4 a5 a6 c0 c1 c2 c3 c4 lw:AV}{fl:Bool}{d0 e0:Ent}{l:List AV}{p:NPt}{n:Nam}{K R i v:Nat}{r:Rel}{u:Upd}
section
open Go.Ab Go.RowKit Civ
attribute [local simp] Zbl Zcz Zbq Zgb ZcM
section
def ZlC :setCells (a0::l) 0 [c0]=c0::l:=rfl
def ZlB :((a0::a1::a2::a3::a4::l).drop 1).take 4=[a1,a2,a3,a4]:=rfl
def Ztt :((a0::a1::a2::a3::a4::a5::a6::l).drop 1).take 6=[a1,a2,a3,a4,a5,a6]:=rfl
def Zxx { e:Ent}:([]:AH)++[e]=[e]:=rfl
def Ztw :([e0]:AH)++[d0]=[e0,d0]:=rfl
def Ztv :setCells (a0::a1::a2::a3::l) 0 [c0,c1,c2,c3]=c0::c1::c2::c3::l:=rfl
def Ztu :((a0::a1::a2::a3::l).drop 0).take 4=[a0,a1,a2,a3]:=rfl
def Zqf {τ:Operand->AV}{y0 y1:Operand}{x0_0 x1_0 x1_1 x1_2 x1_3:AV}(h0:Zaq (τ y0)=some [x0_0]) (l0:[x0_0].all leaf=true) (h1:Zaq (τ y1)=some [x1_0,x1_1,x1_2,x1_3]) (l1:[x1_0,x1_1,x1_2,x1_3].all leaf=true):Zal τ [(0,1,y0),(1,4,y1)] [(.v (.string ⟨#[]⟩)),(iv 0),(iv 0),(.v (.string ⟨#[]⟩)),(.sl 0 0 true [])]=some [x0_0,x1_0,x1_1,x1_2,x1_3]:=by
 simp only[Zal,h0,l0,h1,l1]
 rfl
def Zqe {τ:Operand->AV}{y0:Operand}{x0_0 x0_1 x0_2 x0_3 x0_4:AV}(h0:Zaq (τ y0)=some [x0_0,x0_1,x0_2,x0_3,x0_4]) (l0:[x0_0,x0_1,x0_2,x0_3,x0_4].all leaf=true):Zal τ [(0,5,y0)] [(.v (.string ⟨#[]⟩)),(iv 0),(iv 0),(.v (.string ⟨#[]⟩)),(.sl 0 0 true [])]=some [x0_0,x0_1,x0_2,x0_3,x0_4]:=by
 simp only[Zal,h0,l0]
 rfl
end
def k73:=Kx 73 []
def k75:=Kx 75 [.e [] 13 [],.e [] 16 [false,false],.e [] 9 [false]]
def k77:=Ku (none) 77 [.u [[],[],[],[],[],[0,1,2,3,4],[0,1,2,3,4],[],[],[],[9],[10],[]],.u [[],[0],[0],[0],[0],[0],[0,1,2,3,4,5],[0,1,2,3,4,5,6],[0,1,2,3,4,5,6],[0,1,2,3,4,5,6,7,8],[0,1,2,3,4,5,6,7,8],[0,1,2,3,4,5,6,7,8],[0,1,2,3,4,5,6],[0,1,2,3,4,5,6],[0],[],[],[],[]]]
abbrev Tbs:=Nat×List Nam
abbrev kE (R:Nat) (lw:AV) (s:Tbs):Ent:=.mk 0 124 2 [.own R s.1 s.2.length,lw]
abbrev rE (s:Tbs):Ent:=.mk s.1 45 5 (rows namC s.2)
def okTbs (s:Tbs):Prop:=risN s.2/\(∀ n∈s.2,Znv n/\Za3 n.2=0)
def ZjC (s:Tbs) (d:ByteArray):Tbs×Int:=if hasN s.2 d=true then ((s.1,s.2.eraseIdx (idxN s.2 d)),0) else (s,5)
def Zo3 {l:List Nam}{nm:ByteArray}{ty:Nat}(hR:h[R]?=some (.mk v ty 5 (rows namC l))) (hr:risN l) (hl:l.length<=4000000000000) :
  Ac 48 [.own R v l.length,sv nm] h (.tup [iv (posN l nm),bv (hasN l nm)]) :=
 (Zhr (full:=false) (h:=[]) hr hl).thaw rfl (ThwL.cons (Thw.own hR (Zba l) (Zcz l)) (ThwL.cons (Thw.same rfl) ThwL.nil))
def rchk_o {t:List Nam}{k:List Lnk}{ty:Nat}{f2:Bool}(hR:h[R]?=some (.mk v ty 5 (rows namC t))) (hok:Zfd (t,k)):Ac 13 [.agg [.own R v t.length,.sl k.length 2 f2 (rows lnkC k)]] h (iv (ZaQ (t,k))) :=
 (Zij (f1:=false) (f2:=f2) (h:=[]) hok).thaw rfl (ThwL.cons (Thw.agg (ThwL.cons (Thw.own hR (Zba t) (Zcz t)) (ThwL.cons (Thw.same (by simp[AV.lt,Zbq])) ThwL.nil))) ThwL.nil)
def Zhx {N:Nat}{s s':Tbs}(h:(kE R lw s).lt N=true):(kE R lw s').lt N=true:=by simpa [Ent.lt,AV.lt,AV.ltL] using h
def Zhq {N:Nat}{s:Tbs}:(rE s).lt N=true:=by simp[Ent.lt,Zcz]
def drop_a {s:Tbs}{d:ByteArray}(hK:h[K]?=some (kE R lw s)) (hR:h[R]?=some (rE s)) (hne:K≠R) (hs:okTbs s) (hz:s.2.length<=2000000000000) :
  ACalls Tryz.prog 73 [.ptr K 0 0,sv d] h λr h'=>r=.ret (iv (ZjC s d).2)/\h'=(h.set K (kE R lw (ZjC s d).1)).set R (rE (ZjC s d).1):=by
 have hid:K<h.length:=(List.getElem?_eq_some_iff.1 hK).1
 have hib:R<h.length:=(List.getElem?_eq_some_iff.1 hR).1
 have hr:=hs.1
 refine tJ' k73 λN hn hlt _ hbd=>?_
 simp only[tb'] at hbd ⊢
 have hKl:=hlt _ (List.mem_of_getElem? hK)
 refine Zgu (h1:=(h.set K (kE R lw s)).set R (rE s)++[]) (by rw[ZfJ hK hR]) ?_
 refine wk'<|wm<|Vw (Zcj lk)<|fq<|fq<|Vw (Zaa lk (Zdv hne hid) gt0)<|mw<|?_
 refine Zac mp (Zo3 (Zdu hib) hr om) pt ?_
 refine mw<|Vw (ZaS lk gt)<|Vw (ZaS lk gt)<|mw<|ms<|Zab<|wm<|Vw (ZaF lk)<|sn'<|?_
 refine ZaA lk (λhc1=>?_) (λhc1=>?_)
 .have hb:hasN s.2 d=false:=by simpa using hc1
  have hD:ZjC s d=(s,5):=if_neg (by rw[hb];simp)
  refine wo<|Zah<|Zae rz<|?_
  refine⟨_,[],by simp only[List.append_nil];rfl,ZaX hn,Zew hlt (Zhx hKl) Zhq,rfl,?_⟩
  rw[hD];exact⟨rfl,rfl⟩
 have hb:hasN s.2 d=true:=by simpa using hc1
 have hp:=(Zmc hr hb)
 obtain⟨hpl,_⟩:=Zip hb
 have hD:ZjC s d=((s.1,s.2.eraseIdx (idxN s.2 d)),0):=if_pos hb
 rw[hp]
 refine za<|wm<|mw<|Vw (Zcj lk)<|fq<|fq<|Vw (Zaa lk (Zdv hne hid) gt0)<|mw<|mw<|?_
 refine ad<|Zi9 mp (delete_a (Zdu hib) hpl) (ZeT hib) pt<|Vw (Zcj lk)<|fq<|fq<|E' (Zai lk cv (Zdv hne hid) rfl nb rfl ZlC (ZgR hne hid)) ptn<|sn'<|wo<|Zae rz<|?_
 rw[show s.2.length-1=(s.2.eraseIdx (idxN s.2 d)).length from (List.length_eraseIdx_of_lt hpl).symm]
 refine⟨_,[],by simp only[List.append_nil];rfl,ZaX hn,Zew hlt (Zhx (s':=(s.1,s.2.eraseIdx (idxN s.2 d))) hKl) (Zhq (s:=(s.1,s.2.eraseIdx (idxN s.2 d)))),rfl,?_⟩
 rw[hD];exact⟨rfl,rfl⟩
def Zcv (s:Tbs) (p:NPt):Tbs×Int:=match ZaP s.2 p.1 with
 | none=>(s,5)
 | some t=>if patE t p.2≠0 then (s,patE t p.2) else ((s.1,s.2.set (idxN s.2 p.1) (p.1,patV t p.2)),0)
def set_tab {l:List Nam}(t:Tab) (hi:i<l.length):setCells (rows namC l) (i*5+1) [iv t.1.1,iv t.1.2.1,sv t.1.2.2,chS t.2]=rows namC (l.set i (l[i].1,t)):=by
 rw[<-Zl7 ZaC hi (l[i].1,t)]
 show _=setCells ((rows namC l).set (i*5) (sv l[i].1)) (i*5+1) _
 have h0:i*5<(rows namC l).length:=by rw[Zba];omega
 have h1:(rows namC l)[i*5]=sv l[i].1:=by
  have:=congrArg (·[0]?) (Zgl ZaC hi)
  simp only[List.getElem?_take,List.getElem?_drop] at this
  simpa [List.getElem?_eq_getElem h0] using this
 rw[<-h1,List.set_getElem_self]
def kE_set {s:Tbs}{x:Nam}:kE R lw s=kE R lw (s.1,s.2.set i x):=by
 show Ent.mk _ _ _ [AV.own R s.1 s.2.length,lw]=Ent.mk _ _ _ [AV.own R s.1 (s.2.set i x).length,lw]
 rw[List.length_set]
def ZvJ (p:NPt):Prop:=p.1.size<=maxLen/\okP p.2
def patch_a {s:Tbs}(hK:h[K]?=some (kE R lw s)) (hR:h[R]?=some (rE s)) (hne:K≠R) (hs:okTbs s) (hz:s.2.length<=2000000000000) (hp:ZvJ p) :
  ACalls Tryz.prog 75 [.ptr K 0 0,.agg (nptC p)] h λr h'=>r=.ret (iv (Zcv s p).2)/\h'=(h.set K (kE R lw (Zcv s p).1)).set R (rE (Zcv s p).1):=by
 have hid:K<h.length:=(List.getElem?_eq_some_iff.1 hK).1
 have hib:R<h.length:=(List.getElem?_eq_some_iff.1 hR).1
 have hr:=hs.1
 refine tJ' k75 λN hn hlt _ hbd=>?_
 simp only[tb'] at hbd ⊢
 have hKl:=hlt _ (List.mem_of_getElem? hK)
 refine Zgu (h1:=(h.set K (kE R lw s)).set R (rE s)++[]) (by rw[ZfJ hK hR]) ?_
 refine wr'<|E' (ZaM cv rfl (hl0 (ZaX hn)) ha0) pt<|ms<|Zab<|ZaD<|Dw vm<|Dw (Zcj lk)<|dg<|dg<|Dw (Zaa lk (Zdv hne hid) gt0)<|dg<|?_
 refine D' (Zaa lk (hga (ZaX hn) rfl) gt0) pt ?_
 refine ZaB mp (λhE hX=>Zo3 (hX _ _ (Zdu hib)) hr om) pt ?_
 refine Dw vm<|Dw (ZaS lk gt)<|Dw (ZaS lk gt)<|Dw vm<|Dw vm<|ZaH<|?_
 refine ZaU ?_
 refine sn'<|Zab<|wm<|Vw (ZaF lk)<|sn'<|?_
 refine ZaA lk (λhc1=>?_) (λhc1=>?_)
 .have hb:hasN s.2 p.1=false:=by simpa using hc1
  have hD:Zcv s p=(s,5):=by unfold Zcv;rw[show ZaP s.2 p.1=none from by have h9:=ZbO s.2 p.1;rw[hb] at h9;cases hk:ZaP s.2 p.1 with | none=>rfl | some t=>rw[hk] at h9;cases h9]
  refine wo<|Zah<|Zae rz<|?_
  refine⟨_,_,rfl,ZaX hn,Zew hlt (Zhx hKl) Zhq,rfl,?_⟩
  rw[hD];exact⟨rfl,rfl⟩
 have hb:hasN s.2 p.1=true:=by simpa using hc1
 have hpp:=(Zmc hr hb)
 obtain⟨hpl,hpn⟩:=Zip hb
 have hfd:ZaP s.2 p.1=some s.2[idxN s.2 p.1].2:=by rw[Zmm,List.getElem?_eq_getElem hpl];rfl
 have hok:=hs.2 _ (List.getElem_mem hpl)
 have hln:=Zcc hok.2
 rw[hpp]
 refine za<|Zab<|ZaD<|Dw vm<|Dw (Zcj lk)<|dg<|dg<|Dw (Zaa lk (Zdv hne hid) gt0)<|Dw vm<|?_
 refine D' (ZaW (k:=idxN s.2 p.1) lk lk (Zdu hib) ZaC nb ro om (by first | rfl | (simp;done) | omega)) pt ?_
 refine D' (Zbu lk) pt ?_
 refine D' (ZoE lk (Zdu hib) ZaC om nb ZlB rfl) pt ?_
 refine dg<|Dw (Zad lk (hga (ZaX hn) rfl) Ztt rfl)<|?_
 refine ZaB mp (λhE hX=>Zvy (t:=s.2[idxN s.2 p.1].2) hln hok.1.2 hp.2) pt ?_
 refine Dw vm<|Dw (ZaS lk gt)<|Dw (ZaS lk gt)<|ZcI rfl rfl (hlk (ZaX hn) rfl) (Zix) pt Zxx<|ZaH<|?_
 refine ZcH Ztw ?_
 refine E' (Zai lk cv (hga (ZaX hn) rfl) rfl nb rfl Ztv (hs1 (ZaX hn))) ptn<|ms<|Zab<|wm<|Vw (Za0 lk lki)<|sn'<|?_
 refine cd' lk (λhc2=>?_) (λhc2=>?_)
 .have he0:patE s.2[idxN s.2 p.1].2 p.2=0:=hc2
  have hD:Zcv s p=((s.1,s.2.set (idxN s.2 p.1) (s.2[idxN s.2 p.1].1,patV s.2[idxN s.2 p.1].2 p.2)),0):=by unfold Zcv;rw[hfd,hpn];dsimp only;rw[if_neg (by rw[he0];simp)]
  refine ZaD<|Dw vm<|Dw (Zcj lk)<|dg<|dg<|Dw (Zaa lk (Zdv hne hid) gt0)<|Dw vm<|Dw (Zad lk (hga (ZaX hn) rfl) Ztu rfl)<|?_
  refine D' (ZaW lk lk (Zdu hib) ZaC nb ro om (by first | rfl | (simp;done) | omega)) pt ?_
  refine Dw (Zbu lk)<|ZaH<|?_
  refine ZaU ?_
  refine E' (Zai lk cv (Zdu hib) rfl (by rw[Zba];omega) rfl (set_tab _ hpl) (ZeT hib)) ptn ?_
  refine sn'<|wm<|mr<|Zae rz<|?_
  rw[kE_set (R:=R) (lw:=lw) (s:=s) (i:=idxN s.2 p.1) (x:=(s.2[idxN s.2 p.1].1,patV s.2[idxN s.2 p.1].2 p.2))]
  refine⟨_,_,rfl,ZaX hn,Zew hlt (Zhx (s':=(s.1,s.2.set (idxN s.2 p.1) (s.2[idxN s.2 p.1].1,patV s.2[idxN s.2 p.1].2 p.2))) hKl) (Zhq (s:=(s.1,s.2.set (idxN s.2 p.1) (s.2[idxN s.2 p.1].1,patV s.2[idxN s.2 p.1].2 p.2)))),rfl,?_⟩
  rw[hD];exact⟨by rw[he0],rfl⟩
 have hD:Zcv s p=(s,patE s.2[idxN s.2 p.1].2 p.2):=by unfold Zcv;rw[hfd];exact if_pos hc2
 refine za<|wm<|mr<|Zae rz<|?_
 refine⟨_,_,rfl,ZaX hn,Zew hlt (Zhx hKl) Zhq,rfl,?_⟩
 rw[hD];exact⟨rfl,rfl⟩
def putS (s:Tbs) (n:Nam):Tbs×Int:=if hasN s.2 n.1=true then (s,6) else ((s.1+1,insN s.2 n),0)
def place_u {s:Tbs}{nm:ByteArray}(hR:h[R]?=some (rE s)) (hr:risN s.2) (hz:s.2.length<=4000000000000) :
  ACalls Tryz.prog 48 [.own R s.1 s.2.length,sv nm] h λx h'=>x=.ret (.tup [iv (posN s.2 nm),bv (hasN s.2 nm)])/\h'=h.set R (rE s) :=
 (Zo3 hR hr hz).mono λ_ _ ⟨a,b⟩=>⟨b,by rw[a,ZhB hR]⟩
def put_a {s:Tbs}(hK:h[K]?=some (kE R lw s)) (hR:h[R]?=some (rE s)) (hne:K≠R) (hs:risN s.2) (hz:s.2.length<=2000000000000) (hp:n.2.2.length<=3518437208883) :
  ACalls Tryz.prog 77 [.ptr K 0 0,.agg (namC n)] h λr h'=>r=.ret (iv (putS s n).2)/\h'=(h.set K (kE R lw (putS s n).1)).set R (rE (putS s n).1):=by
 have hid:K<h.length:=(List.getElem?_eq_some_iff.1 hK).1
 have hib:R<h.length:=(List.getElem?_eq_some_iff.1 hR).1
 have hr:=hs
 refine tUJ' k77 λN hn hlt _ hbd=>?_
 simp only[tb'] at hbd ⊢
 have hKl:=hlt _ (List.mem_of_getElem? hK)
 refine Zgu (h1:=(h.set K (kE R lw s)).set R (rE s)++[]) (by rw[ZfJ hK hR]) ?_
 refine wr'<|E' (ZaM cv rfl (hl0 (ZaX hn)) ha0) pt<|ms<|Zab<|Zf9<|uf vm<|uf (Zcj lk)<|uf (ZbU lk)<|uf (ZbU lk)<|?_
 refine Zfi rfl (Zaa lk (Zdv hne hid) gt0) (hx_l rfl) (hl1 (ZaX hn)) nh pt ?_
 refine u_fr rfl (ZbU lk) pt ?_
 refine Zfi rfl (Zaa lk (hga (ZaX hn) rfl) gt0) (hx_l rfl) (hl1 (ZaX hn)) nh pt ?_
 refine Zhi mp (Zdu hib) (λhU hUe=>place_u hUe hr om) nh (ZeT hib) pt ?_
 refine uf vm<|uf (ZaS lk gt)<|uf (ZaS lk gt)<|uf vm<|uf vm<|Zkp<|Zan<|Zab<|wk'<|?_
 refine ZaA lk (λhc1=>?_) (λhc1=>?_)
 .have hb:hasN s.2 n.1=true:=hc1
  have hD:putS s n=(s,6):=if_pos hb
  refine wo<|Zah<|Zae rz<|?_
  refine⟨_,_,rfl,ZaX hn,Zew hlt (Zhx hKl) Zhq,rfl,?_⟩
  rw[hD];exact⟨rfl,rfl⟩
 have hb:hasN s.2 n.1=false:=by simpa using hc1
 have hD:putS s n=((s.1+1,insN s.2 n),0):=if_neg (by rw[hb];simp)
 refine za<|Zab<|Zf9<|uf vm<|uf vm<|uf (Zcj lk)<|uf (ZbU lk)<|uf (ZbU lk)<|?_
 refine Zfi rfl (Zaa lk (Zdv hne hid) gt0) (hx_l rfl) (hl1 (ZaX hn)) nh pt ?_
 refine uf vm<|uf (ZbU lk)<|?_
 refine Zfi rfl (Zaa lk (hga (ZaX hn) rfl) gt0) (hx_l rfl) (hl1 (ZaX hn)) nh pt ?_
 refine u_fr rfl (ZbU lk) pt ?_
 refine Zfi rfl (Zad lk (hga (ZaX hn) rfl) ZlB rfl) (hx_l rfl) (hl1 (ZaX hn)) nh pt ?_
 refine Zul mp (λhU=>ZqM hp) pt ?_
 refine u_fr rfl (Zat (Zqf cv rfl cv rfl)) pt ?_
 refine u_al rfl (ZcB (Zqe cv rfl) (hl1 (ZaX hn)) ha1) (hl1 (ZaX hn)) nh pt ?_
 refine u_callW mp (Zdu hib) (hga (ZaX hn) rfl) (λhU hUe hUj=>insert_a (l:=s.2) (n:=n) (i:=posN s.2 n.1) hUe hUj om (Zvs _ _) hz) nh (ZeT hib) pt ?_
 refine uf (Zcj lk)<|uf (ZbU lk)<|uf (ZbU lk)<|?_
 refine u_st (Zai lk cv (Zdv hne hid) rfl nb rfl ZlC (ZgR hne hid)) lk nh ptn ?_
 refine Zkp<|Zan<|wo<|Zae rz<|?_
 rw[show s.2.length+1=(insN s.2 n).length from (Zpl _ _).symm]
 refine⟨_,_,rfl,ZaX hn,Zew hlt (Zhx (s':=(s.1+1,insN s.2 n)) hKl) (Zhq (s:=(s.1+1,insN s.2 n))),rfl,?_⟩
 rw[hD];exact⟨rfl,rfl⟩
end
open Go.Ab
variable {s s0:Tbs}
section
open Go.Ab Go.RowKit Civ
attribute [local simp] Zbl Zcz Zbq Zgb ZcM
section
def Zxv :(a0::a1::a2::a3::a4::a5::a6::l).take 7=[a0,a1,a2,a3,a4,a5,a6]:=rfl
def Ztp {c5 c6:AV}:setCells (a0::a1::a2::a3::a4::a5::a6::l) 0 [c0,c1,c2,c3,c4,c5,c6]=c0::c1::c2::c3::c4::c5::c6::l:=rfl
def Ztn :((a0::a1::a2::a3::a4::a5::a6::l).drop 0).take 7=[a0,a1,a2,a3,a4,a5,a6]:=rfl
def Zxw :(a0::a1::a2::a3::a4::l).take 5=[a0,a1,a2,a3,a4]:=rfl
def Ztq :setCells (a0::a1::a2::a3::a4::l) 0 [c0,c1,c2,c3,c4]=c0::c1::c2::c3::c4::l:=rfl
def Zto :((a0::a1::a2::a3::a4::l).drop 0).take 5=[a0,a1,a2,a3,a4]:=rfl
end
def k72:=Kx 72 []
def k74:=Kx 74 []
def k76:=Kx 76 []
section
variable {α : Type}
def runS (f:Tbs->α->Tbs×Int):Tbs->List α->Tbs×Int
 | s,[]=>(s,0)
 | s,x::xs=>if (f s x).2≠0 then f s x else runS f (f s x).1 xs
def atS (f:Tbs->α->Tbs×Int) (s0:Tbs) (l:List α) (i:Nat) (s:Tbs):Prop:=runS f s0 l=runS f s (l.drop i)
def atS_0 (f:Tbs->α->Tbs×Int) (s0:Tbs) (l:List α):atS f s0 l 0 s0:=by unfold atS;rw[List.drop_zero]
def Zw9 {f:Tbs->α->Tbs×Int}{l:List α}(h:atS f s0 l i s) (hi:i<l.length) (h0:(f s l[i]).2=0):atS f s0 l (i+1) (f s l[i]).1:=by
 unfold atS at h ⊢
 rw[h,List.drop_eq_getElem_cons hi,runS,if_neg (by rw[h0];simp)]
def ZpO {f:Tbs->α->Tbs×Int}{l:List α}(h:atS f s0 l i s) (hi:i<l.length) (h0:(f s l[i]).2≠0):runS f s0 l=f s l[i]:=by
 unfold atS at h
 rw[h,List.drop_eq_getElem_cons hi,runS,if_pos h0]
def ZpN {f:Tbs->α->Tbs×Int}{l:List α}(h:atS f s0 l i s) (hi:l.length<=i):runS f s0 l=(s,0):=by
 unfold atS at h
 rw[h,List.drop_of_length_le hi];rfl
end
def eachS_a {f:Tbs->ByteArray->Tbs×Int}{I:Nat->Tbs->Prop}{l:List ByteArray}{F:Nat}(hK:h[K]?=some (kE R lw s0)) (hR:h[R]?=some (rE s0)) (hne:K≠R) (h0:I 0 s0)
  (hI : ∀ i s (hi:i<l.length),I i s->(f s l[i]).2=0->I (i+1) (f s l[i]).1)
  (hc : ∀ i s (hi:i<l.length) (h:AH),I i s->h[K]?=some (kE R lw s)->h[R]?=some (rE s)->ACalls Tryz.prog F [.ptr K 0 0,sv l[i]] h λr h'=>r=.ret (iv (f s l[i]).2)/\h'=(h.set K (kE R lw (f s l[i]).1)).set R (rE (f s l[i]).1)) :
  ACalls Tryz.prog 72 [.sl l.length 1 fl (rows strC l),.bnd (.func F) [.ptr K 0 0]] h λx h'=>x=.ret (iv (runS f s0 l).2)/\h'=(h.set K (kE R lw (runS f s0 l).1)).set R (rE (runS f s0 l).1):=by
 have hid:K<h.length:=(List.getElem?_eq_some_iff.1 hK).1
 have hib:R<h.length:=(List.getElem?_eq_some_iff.1 hR).1
 refine tJ' k72 λN hn hlt _ hbd=>?_
 simp only[tb'] at hbd ⊢
 have hKl:=hlt _ (List.mem_of_getElem? hK)
 refine Zgu (h1:=(h.set K (kE R lw s0)).set R (rE s0)++[]) (by rw[ZfJ hK hR]) ?_
 refine wk'<|Zab<|wm<|Vw (Zaz lk)<|ms<|Zag<|?_
 refine Zhg (ι:=Nat×Tbs) (λ⟨i,s⟩=>[(10,iv (i:Int)),(4,.any),(6,.any),(7,.any)]++rn' 11 10) (λ⟨i,s⟩=>(h.set K (kE R lw s)).set R (rE s)++[]) (λ⟨i,s⟩=>i<=l.length/\I i s/\atS f s0 l i s) (λ⟨i,s⟩=>l.length-i) (⟨0,s0⟩) (by exact⟨Nat.zero_le _,h0,atS_0 f s0 l⟩) (by try simp only[sm',Nat.reduceAdd];exact ALe.same wA' rfl) ?_
 rintro⟨i,s⟩ hi1
 try simp only[sm',Nat.reduceAdd]
 obtain⟨hi1,hi2,hi3⟩:=hi1
 refine wr'<|Vw (ZaJ lk lk)<|sn'<|Zab<|?_
 refine cd' lk (λhc1=>?_) (λhc1=>?_)
 .have hi:i<l.length:=by omega
  have hS2 : ∀ x∈(h.set K (kE R lw (f s l[i]).1)).set R (rE (f s l[i]).1),x.lt N=true:=Zew hlt (Zhx hKl) Zhq
  refine za<|Zab<|Zag<|wr'<|?_
  refine V' (ZaE lk lk ZgF nb ro om ro rfl) pt ?_
  refine Vw (Zav lk gt)<|ms<|wm<|mw<|?_
  refine Zl2 lk mp ((hc i s hi _ hi2 (Zdv hne hid) (Zdu hib)).mono λr h'' hh=>⟨hh.1,hh.2.trans (by rw[ZgR hne hid,ZeT hib])⟩) pt ?_
  refine ms<|wm<|Vw (ZaY lk lki)<|sn'<|?_
  refine cd' lk (λhc2=>?_) (λhc2=>?_)
  .have hE:=ZpO hi3 hi hc2
   refine wm<|mr<|Zap<|Zah<|Zah<|Zap<|Zah<|Zae rz<|?_
   exact⟨_,[],rfl,ZaX hn,hS2,rfl,by rw[hE],by rw[hE]⟩
  have hE:(f s l[i]).2=0:=Decidable.of_not_not hc2
  refine Zay<|Zau<|Zan<|Zao<|?_
  refine ad<|mw<|Zam<|Zaw<|?_
  refine lT' (⟨i+1,(f s l[i]).1⟩) (by (try dsimp only);exact⟨by omega,hI i s hi hi2 hE,Zw9 hi3 hi hE⟩)
 have hE:=ZpN hi3 (show l.length<=i by omega)
 refine Zax<|Zas<|Zas<|ZaK<|Zan<|wo<|Zae rz<|?_
 exact⟨_,[],rfl,ZaX hn,Zew hlt (Zhx hKl) Zhq,rfl,by rw[hE],by rw[hE]⟩
def eachP_a {f:Tbs->NPt->Tbs×Int}{I:Nat->Tbs->Prop}{l:List NPt}{F:Nat}(hK:h[K]?=some (kE R lw s0)) (hR:h[R]?=some (rE s0)) (hne:K≠R) (h0:I 0 s0)
  (hI : ∀ i s (hi:i<l.length),I i s->(f s l[i]).2=0->I (i+1) (f s l[i]).1)
  (hc : ∀ i s (hi:i<l.length) (h:AH),I i s->h[K]?=some (kE R lw s)->h[R]?=some (rE s)->ACalls Tryz.prog F [.ptr K 0 0,.agg (nptC l[i])] h λr h'=>r=.ret (iv (f s l[i]).2)/\h'=(h.set K (kE R lw (f s l[i]).1)).set R (rE (f s l[i]).1)) :
  ACalls Tryz.prog 74 [.sl l.length 7 fl (rows nptC l),.bnd (.func F) [.ptr K 0 0]] h λx h'=>x=.ret (iv (runS f s0 l).2)/\h'=(h.set K (kE R lw (runS f s0 l).1)).set R (rE (runS f s0 l).1):=by
 have hid:K<h.length:=(List.getElem?_eq_some_iff.1 hK).1
 have hib:R<h.length:=(List.getElem?_eq_some_iff.1 hR).1
 refine tJ' k74 λN hn hlt _ hbd=>?_
 simp only[tb'] at hbd ⊢
 have hKl:=hlt _ (List.mem_of_getElem? hK)
 refine Zgu (h1:=(h.set K (kE R lw s0)).set R (rE s0)++[]) (by rw[ZfJ hK hR]) ?_
 refine wk'<|Zab<|wm<|Vw (Zaz lk)<|ms<|Zag<|?_
 refine Zhg (ι:=Nat×Tbs) (λ⟨i,s⟩=>[(10,iv (i:Int)),(4,.any),(6,.any),(7,.any)]++rn' 11 10) (λ⟨i,s⟩=>(h.set K (kE R lw s)).set R (rE s)++[]) (λ⟨i,s⟩=>i<=l.length/\I i s/\atS f s0 l i s) (λ⟨i,s⟩=>l.length-i) (⟨0,s0⟩) (by exact⟨Nat.zero_le _,h0,atS_0 f s0 l⟩) (by try simp only[sm',Nat.reduceAdd];exact ALe.same wA' rfl) ?_
 rintro⟨i,s⟩ hi1
 try simp only[sm',Nat.reduceAdd]
 obtain⟨hi1,hi2,hi3⟩:=hi1
 refine wr'<|Vw (ZaJ lk lk)<|sn'<|Zab<|?_
 refine cd' lk (λhc1=>?_) (λhc1=>?_)
 .have hi:i<l.length:=by omega
  have hS2 : ∀ x∈(h.set K (kE R lw (f s l[i]).1)).set R (rE (f s l[i]).1),x.lt N=true:=Zew hlt (Zhx hKl) Zhq
  refine za<|Zab<|Zag<|wr'<|?_
  refine V' (ZaE lk lk Zea nb ro om ro rfl) pt ?_
  refine Vw (Zar lk Zxv rfl)<|E' (ZaR (hl0 (ZaX hn)) ha0) pt<|E' (Zai lk cv (hga (ZaX hn) rfl) rfl nb rfl Ztp (hs0 (ZaX hn))) ptn<|sn'<|wm<|Vw (Zad lk (hga (ZaX hn) rfl) Ztn rfl)<|?_
  refine Zl2 lk mp ((hc i s hi _ hi2 (Zdv hne hid) (Zdu hib)).mono λr h'' hh=>⟨hh.1,hh.2.trans (by rw[ZgR hne hid,ZeT hib])⟩) pt ?_
  refine ms<|wm<|Vw (ZaY lk lki)<|sn'<|?_
  refine cd' lk (λhc2=>?_) (λhc2=>?_)
  .have hE:=ZpO hi3 hi hc2
   refine wm<|mr<|Zap<|Zah<|Zah<|Zap<|Zah<|Zae rz<|?_
   exact⟨_,_,rfl,ZaX hn,hS2,rfl,by rw[hE],by rw[hE]⟩
  have hE:(f s l[i]).2=0:=Decidable.of_not_not hc2
  refine Zay<|Zau<|Zan<|Zao<|?_
  refine ad<|mw<|Zam<|Zaw<|?_
  refine lU' (⟨i+1,(f s l[i]).1⟩) (by (try dsimp only);exact⟨by omega,hI i s hi hi2 hE,Zw9 hi3 hi hE⟩) (by refine zz ?_;exact bk' 0 (ZaX hn) hS2)
 have hE:=ZpN hi3 (show l.length<=i by omega)
 refine Zax<|Zas<|Zas<|ZaK<|Zan<|wo<|Zae rz<|?_
 exact⟨_,[],rfl,ZaX hn,Zew hlt (Zhx hKl) Zhq,rfl,by rw[hE],by rw[hE]⟩
def eachN_a {f:Tbs->Nam->Tbs×Int}{I:Nat->Tbs->Prop}{l:List Nam}{F:Nat}(hK:h[K]?=some (kE R lw s0)) (hR:h[R]?=some (rE s0)) (hne:K≠R) (h0:I 0 s0)
  (hI : ∀ i s (hi:i<l.length),I i s->(f s l[i]).2=0->I (i+1) (f s l[i]).1)
  (hc : ∀ i s (hi:i<l.length) (h:AH),I i s->h[K]?=some (kE R lw s)->h[R]?=some (rE s)->ACalls Tryz.prog F [.ptr K 0 0,.agg (namC l[i])] h λr h'=>r=.ret (iv (f s l[i]).2)/\h'=(h.set K (kE R lw (f s l[i]).1)).set R (rE (f s l[i]).1)) :
  ACalls Tryz.prog 76 [.sl l.length 5 fl (rows namC l),.bnd (.func F) [.ptr K 0 0]] h λx h'=>x=.ret (iv (runS f s0 l).2)/\h'=(h.set K (kE R lw (runS f s0 l).1)).set R (rE (runS f s0 l).1):=by
 have hid:K<h.length:=(List.getElem?_eq_some_iff.1 hK).1
 have hib:R<h.length:=(List.getElem?_eq_some_iff.1 hR).1
 refine tJ' k76 λN hn hlt _ hbd=>?_
 simp only[tb'] at hbd ⊢
 have hKl:=hlt _ (List.mem_of_getElem? hK)
 refine Zgu (h1:=(h.set K (kE R lw s0)).set R (rE s0)++[]) (by rw[ZfJ hK hR]) ?_
 refine wk'<|Zab<|wm<|Vw (Zaz lk)<|ms<|Zag<|?_
 refine Zhg (ι:=Nat×Tbs) (λ⟨i,s⟩=>[(10,iv (i:Int)),(4,.any),(6,.any),(7,.any)]++rn' 11 10) (λ⟨i,s⟩=>(h.set K (kE R lw s)).set R (rE s)++[]) (λ⟨i,s⟩=>i<=l.length/\I i s/\atS f s0 l i s) (λ⟨i,s⟩=>l.length-i) (⟨0,s0⟩) (by exact⟨Nat.zero_le _,h0,atS_0 f s0 l⟩) (by try simp only[sm',Nat.reduceAdd];exact ALe.same wA' rfl) ?_
 rintro⟨i,s⟩ hi1
 try simp only[sm',Nat.reduceAdd]
 obtain⟨hi1,hi2,hi3⟩:=hi1
 refine wr'<|Vw (ZaJ lk lk)<|sn'<|Zab<|?_
 refine cd' lk (λhc1=>?_) (λhc1=>?_)
 .have hi:i<l.length:=by omega
  have hS2 : ∀ x∈(h.set K (kE R lw (f s l[i]).1)).set R (rE (f s l[i]).1),x.lt N=true:=Zew hlt (Zhx hKl) Zhq
  refine za<|Zab<|Zag<|wr'<|?_
  refine V' (ZaE lk lk ZaC nb ro om ro rfl) pt ?_
  refine Vw (Zar lk Zxw rfl)<|E' (ZaR (hl0 (ZaX hn)) ha0) pt<|E' (Zai lk cv (hga (ZaX hn) rfl) rfl nb rfl Ztq (hs0 (ZaX hn))) ptn<|sn'<|wm<|Vw (Zad lk (hga (ZaX hn) rfl) Zto rfl)<|?_
  refine Zl2 lk mp ((hc i s hi _ hi2 (Zdv hne hid) (Zdu hib)).mono λr h'' hh=>⟨hh.1,hh.2.trans (by rw[ZgR hne hid,ZeT hib])⟩) pt ?_
  refine ms<|wm<|Vw (ZaY lk lki)<|sn'<|?_
  refine cd' lk (λhc2=>?_) (λhc2=>?_)
  .have hE:=ZpO hi3 hi hc2
   refine wm<|mr<|Zap<|Zah<|Zah<|Zap<|Zah<|Zae rz<|?_
   exact⟨_,_,rfl,ZaX hn,hS2,rfl,by rw[hE],by rw[hE]⟩
  have hE:(f s l[i]).2=0:=Decidable.of_not_not hc2
  refine Zay<|Zau<|Zan<|Zao<|?_
  refine ad<|mw<|Zam<|Zaw<|?_
  refine lU' (⟨i+1,(f s l[i]).1⟩) (by (try dsimp only);exact⟨by omega,hI i s hi hi2 hE,Zw9 hi3 hi hE⟩) (by refine zz ?_;exact bk' 0 (ZaX hn) hS2)
 have hE:=ZpN hi3 (show l.length<=i by omega)
 refine Zax<|Zas<|Zas<|ZaK<|Zan<|wo<|Zae rz<|?_
 exact⟨_,[],rfl,ZaX hn,Zew hlt (Zhx hKl) Zhq,rfl,by rw[hE],by rw[hE]⟩
end
section
open Go.Ab Civ
def ZpB {d:ByteArray}(h:hasN s.2 d=true):ZjC s d=((s.1,s.2.eraseIdx (idxN s.2 d)),0):=if_pos h
def Zws {d:ByteArray}(h:¬hasN s.2 d=true):ZjC s d=(s,5):=if_neg h
def putS_y (h:hasN s.2 n.1=true):putS s n=(s,6):=if_pos h
def ZqS (h:¬hasN s.2 n.1=true):putS s n=((s.1+1,insN s.2 n),0):=if_neg h
def ZqX (h:ZaP s.2 p.1=none):Zcv s p=(s,5):=by unfold Zcv;rw[h]
def ZqW {t:Tab}(h:ZaP s.2 p.1=some t) (he:¬patE t p.2=0):Zcv s p=(s,patE t p.2):=by unfold Zcv;rw[h];exact if_pos he
def Zme {t:Tab}(h:ZaP s.2 p.1=some t) (he:patE t p.2=0):Zcv s p=((s.1,s.2.set (idxN s.2 p.1) (p.1,patV t p.2)),0):=by unfold Zcv;rw[h];exact if_neg (by simpa using he)
def Zl4 : ∀ (ds:List ByteArray) (s:Tbs),runS ZjC s ds=((s.1,(Za8 s.2 ds).1),(Za8 s.2 ds).2)
 | [],s=>rfl
 | d::ds,s=>by
  rw[runS,Za8]
  by_cases h:hasN s.2 d=true
  .rw[ZpB h,if_pos h,if_neg (by simp),Zl4]
  .rw[Zws h,if_neg h,if_pos (by simp)]
def ZgH : ∀ (ps:List NPt) (s:Tbs),runS Zcv s ps=((s.1,(Zbj patE patV s.2 ps).1),(Zbj patE patV s.2 ps).2)
 | [],s=>rfl
 | p::ps,s=>by
  rw[runS,Zbj]
  cases hk:ZaP s.2 p.1 with
  | none=>rw[ZqX hk,if_pos (by simp)]
  | some t =>
   simp only
   by_cases h:patE t p.2=0
   .rw[Zme hk h,if_neg (by simp),if_neg (by simpa using h),ZgH]
   .rw[ZqW hk h,if_pos h,if_pos h]
def Zu2 : ∀ (ns:List Nam) (s:Tbs),∃ v,runS putS s ns=((v,(Zcw s.2 ns).1),(Zcw s.2 ns).2)
 | [],s=>⟨s.1,rfl⟩
 | n::ns,s=>by
  rw[runS,Zcw]
  by_cases h:hasN s.2 n.1=true
  .rw[putS_y h,if_pos h,if_pos (by simp)];exact⟨s.1,rfl⟩
  .rw[ZqS h,if_neg h,if_neg (by simp)];exact Zu2 ns (s.1+1,insN s.2 n)
def okTs (s:Tbs):Prop:=okTbs s/\s.2.length<=20
def Zo4 {d:ByteArray}(h:okTs s):okTs (ZjC s d).1:=by
 by_cases hh:hasN s.2 d=true
 .rw[ZpB hh]
  refine⟨⟨Zjb h.1.1 _,λn hn=>h.1.2 n (List.mem_of_mem_eraseIdx hn)⟩,Nat.le_trans ?_ h.2⟩
  show (s.2.eraseIdx _).length<=_
  rw[List.length_eraseIdx];have:=h.2;split <;> omega
 .rw[Zws hh];exact h
def Zmf {s:Tbs}{p:NPt}(h:okTs s) (hp:ZvJ p):okTs (Zcv s p).1:=by
 cases hk:ZaP s.2 p.1 with
 | none=>rw[ZqX hk];exact h
 | some t =>
  by_cases h0:patE t p.2=0
  .rw[Zme hk h0]
   have hh:=ZeU hk
   have hm:=ZcA hk
   refine⟨⟨ZoX h.1.1 hh,λn hn=>?_⟩,by show (s.2.set _ _).length<=20;rw[List.length_set];exact h.2⟩
   rcases List.mem_or_eq_of_mem_set hn with hn | rfl
   .exact h.1.2 n hn
   .have hv:patV t p.2=outT t p.2:=if_pos h0
    have ht:=(h.1.2 _ hm).1
    refine⟨⟨ht.1,by show okT (patV t p.2);rw[hv];exact Zo5 ht.2 hp.2⟩,?_⟩
    show Za3 (patV t p.2)=0
    unfold patE at h0
    split at h0
    .cases h0
    split at h0
    .cases h0
    rw[hv];exact h0
  .rw[ZqW hk h0];exact h
def Znu (k:Nat) (s:Tbs):Prop:=risN s.2/\(∀ n∈s.2,Znv n)/\s.2.length<=20+k
def ZvG {k:Nat}(h:Znu k s) (hn:Znv n):Znu (k+1) (putS s n).1:=by
 by_cases hh:hasN s.2 n.1=true
 .rw[putS_y hh];exact⟨h.1,h.2.1,Nat.le_trans h.2.2 om⟩
 .rw[ZqS hh]
  refine⟨Zl8 h.1 (by simpa using hh),λm hm=>?_,by have:=Zpl s.2 n;have:=h.2.2;show (insN s.2 n).length<=_;omega⟩
  rcases List.mem_append.1 hm with hm | hm
  .exact h.2.1 m (List.mem_of_mem_take hm)
  .rcases List.mem_cons.1 hm with rfl | hm
   .exact hn
   .exact h.2.1 m (List.mem_of_mem_drop hm)
def ok_run {α:Type}{f:Tbs->α->Tbs×Int}{I:Nat->Tbs->Prop}(hI : ∀ i s x,I i s->I (i+1) (f s x).1 ) (hw : ∀ i j s,i<=j->I i s->I j s) : ∀ (l:List α) (i:Nat) (s:Tbs),I i s->I (i+l.length) (runS f s l).1
 | [],i,s,h=>h
 | x::l,i,s,h=>by
  rw[runS]
  split
  .exact hw (i+1) _ _ (by rw[List.length_cons];omega) (hI i s x h)
  .have:=ok_run hI hw l (i+1) _ (hI i s x h)
   rwa [show i+(x::l).length=i+1+l.length by rw[List.length_cons];omega]
end
section
open Go.Ab Go.RowKit Civ
attribute [local simp] Zbl Zcz Zbq Zgb ZcM
section
def ZkC {τ:Operand->AV}{y0:Operand}{x0_0:AV}(h0:Zaq (τ y0)=some [x0_0]) (l0:[x0_0].all leaf=true):Zal τ [(1,1,y0)] [(.sl 0 0 true []),(.sl 0 0 true [])]=some [(.sl 0 0 true []),x0_0]:=by
 simp only[Zal,h0,l0]
 rfl
def ZkB {τ:Operand->AV}{y0:Operand}{x0_0 x0_1:AV}(h0:Zaq (τ y0)=some [x0_0,x0_1]) (l0:[x0_0,x0_1].all leaf=true):Zal τ [(0,2,y0)] [(.sl 0 0 true []),(.sl 0 0 true [])]=some [x0_0,x0_1]:=by
 simp only[Zal,h0,l0]
 rfl
def Zog :(a0::a1::a2::a3::a4::l).take 5=[a0,a1,a2,a3,a4]:=rfl
def ZtH :setCells (a0::a1::a2::a3::a4::l) 0 [c0,c1,c2,c3,c4]=c0::c1::c2::c3::c4::l:=rfl
def ZtF :((a0::a1::a2::a3::a4::l).drop 1).take 4=[a1,a2,a3,a4]:=rfl
def Zj6 {τ:Operand->AV}{y0 y1:Operand}{x0_0 x1_0 x1_1 x1_2 x1_3:AV}(h0:Zaq (τ y0)=some [x0_0]) (l0:[x0_0].all leaf=true) (h1:Zaq (τ y1)=some [x1_0,x1_1,x1_2,x1_3]) (l1:[x1_0,x1_1,x1_2,x1_3].all leaf=true):Zal τ [(0,1,y0),(1,4,y1)] [(.v (.string ⟨#[]⟩)),(iv 0),(iv 0),(.v (.string ⟨#[]⟩)),(.sl 0 0 true [])]=some [x0_0,x1_0,x1_1,x1_2,x1_3]:=by
 simp only[Zal,h0,l0,h1,l1]
 rfl
def Zj5 {τ:Operand->AV}{y0:Operand}{x0_0 x0_1 x0_2 x0_3 x0_4:AV}(h0:Zaq (τ y0)=some [x0_0,x0_1,x0_2,x0_3,x0_4]) (l0:[x0_0,x0_1,x0_2,x0_3,x0_4].all leaf=true):Zal τ [(0,5,y0)] [(.v (.string ⟨#[]⟩)),(iv 0),(iv 0),(.v (.string ⟨#[]⟩)),(.sl 0 0 true [])]=some [x0_0,x0_1,x0_2,x0_3,x0_4]:=by
 simp only[Zal,h0,l0]
 rfl
def ZxC { e:Ent}:([]:AH)++[e]=[e]:=rfl
def ZtJ {e1 e2 e3 e4 e5:Ent}:([e0,e1,e2,e3,e4,e5]:AH)++[d0]=[e0,e1,e2,e3,e4,e5,d0]:=rfl
def ZtI :setCells (a0::l) 0 [c0]=c0::l:=rfl
def ZbX :((a0::a1::l).drop 0).take 2=[a0,a1]:=rfl
def Zc0 {τ:Operand->AV}:Zal τ [] [(.sl 0 0 true []),(.sl 0 0 true [])]=some [(.sl 0 0 true []),(.sl 0 0 true [])]:=rfl
def Zda :setCells (a0::a1::l) 0 [c0,c1]=c0::c1::l:=rfl
def ZmM {τ:Operand->AV}:Zal τ [] [(.sl 0 0 true []),(.sl 0 0 true [])]=some [(.sl 0 0 true []),(.sl 0 0 true [])]:=rfl
def ZtG :((a0::a1::a2::a3::l).drop 0).take 4=[a0,a1,a2,a3]:=rfl
end
def k35:=Kx 35 [.e [] 13 [false,false,false,false,false]]
def k7:=Kx 7 []
def Zsl (u:Upd):Prop:=(∀ n∈u.2.1,Znv n/\n.2.2.length<=3518437208883)/\(∀ p∈u.2.2.1,ZvJ p)/\(∀ l∈u.2.2.2,l.1.size<=maxLen/\l.2.size<=maxLen)/\u.2.1.length<=1954687338211/\u.2.2.2.length<=4398046511104
def Zcf (r:Rel) (u:Upd):List Nam×Int :=
 if (Za8 r.1 u.1).2≠0 then ((Za8 r.1 u.1).1,(Za8 r.1 u.1).2)
 else if (Zbj patE patV (Za8 r.1 u.1).1 u.2.2.1).2≠0 then Zbj patE patV (Za8 r.1 u.1).1 u.2.2.1
 else Zcw (Zbj patE patV (Za8 r.1 u.1).1 u.2.2.1).1 u.2.1
def Zd3 (h:(Zcf r u).2≠0):updV r u=(rel0,(Zcf r u).2):=by
 unfold Zcf at h ⊢
 unfold updV
 split at h
 .rename_i h1;rw[if_pos h1,if_pos h1]
 rename_i h1
 rw[if_neg h1,if_neg h1]
 split at h
 .rename_i h2;rw[if_pos h2,if_pos h2]
 rename_i h2
 rw[if_neg h2,if_neg h2,if_pos h]
def ZoG (h:(Zcf r u).2=0):updV r u=if ZaQ ((Zcf r u).1,u.2.2.2)≠0 then (rel0,ZaQ ((Zcf r u).1,u.2.2.2)) else (((Zcf r u).1,u.2.2.2),0):=by
 unfold Zcf at h ⊢
 unfold updV
 split at h
 .rename_i h1;exact absurd h h1
 rename_i h1
 rw[if_neg h1,if_neg h1]
 split at h
 .rename_i h2;exact absurd h h2
 rename_i h2
 rw[if_neg h2,if_neg h2,if_neg (by simpa using h)]
def drops_a {l:List Nam}{ds:List ByteArray}(hK:h[K]?=some (kE R lw (v,l))) (hR:h[R]?=some (rE (v,l))) (hne:K≠R) (hs:okTs (v,l)) :
  ACalls Tryz.prog 72 [.sl ds.length 1 fl (rows strC ds),.bnd (.func 73) [.ptr K 0 0]] h λx h'=>x=.ret (iv (Za8 l ds).2)/\h'=(h.set K (kE R lw (v,(Za8 l ds).1))).set R (rE (v,(Za8 l ds).1)):=by
 have:=eachS_a (f:=ZjC) (I:=λ_ s=>okTs s) (l:=ds) (fl:=fl) hK hR hne hs (λi s hi h1 _=>Zo4 h1) (λi s hi h h1 h2 h3=>drop_a h2 h3 hne h1.1 (by have:=h1.2;omega))
 rw[Zl4] at this
 exact this
def Zvx {l:List Nam}{ps:List NPt}(hK:h[K]?=some (kE R lw (v,l))) (hR:h[R]?=some (rE (v,l))) (hne:K≠R) (hs:okTs (v,l)) (hp : ∀ p∈ps,ZvJ p) :
  ACalls Tryz.prog 74 [.sl ps.length 7 fl (rows nptC ps),.bnd (.func 75) [.ptr K 0 0]] h λx h'=>x=.ret (iv (Zbj patE patV l ps).2)/\h'=(h.set K (kE R lw (v,(Zbj patE patV l ps).1))).set R (rE (v,(Zbj patE patV l ps).1)):=by
 have:=eachP_a (f:=Zcv) (I:=λ_ s=>okTs s) (l:=ps) (fl:=fl) hK hR hne hs (λi s hi h1 _=>Zmf h1 (hp _ (List.getElem_mem hi))) (λi s hi h h1 h2 h3=>patch_a h2 h3 hne h1.1 (by have:=h1.2;omega) (hp _ (List.getElem_mem hi)))
 rw[ZgH] at this
 exact this
def putsV (v:Nat) (l ns:List Nam):Nat:=(runS putS (v,l) ns).1.1
def run_put' (v:Nat) (l ns:List Nam):runS putS (v,l) ns=((putsV v l ns,(Zcw l ns).1),(Zcw l ns).2):=by
 obtain⟨w,hw⟩:=Zu2 ns (v,l)
 unfold putsV
 rw[hw]
def puts_a {l:List Nam}{ns:List Nam}(hK:h[K]?=some (kE R lw (v,l))) (hR:h[R]?=some (rE (v,l))) (hne:K≠R) (hs:Znu 0 (v,l)) (hp : ∀ n∈ns,Znv n/\n.2.2.length<=3518437208883) (hz:ns.length<=1954687338211) :
  ACalls Tryz.prog 76 [.sl ns.length 5 fl (rows namC ns),.bnd (.func 77) [.ptr K 0 0]] h λx h'=>x=.ret (iv (Zcw l ns).2)/\h'=(h.set K (kE R lw (putsV v l ns,(Zcw l ns).1))).set R (rE (putsV v l ns,(Zcw l ns).1)):=by
 have:=eachN_a (f:=putS) (I:=λi s=>Znu i s) (l:=ns) (fl:=fl) hK hR hne hs (λi s hi h1 _=>ZvG h1 (hp _ (List.getElem_mem hi)).1) (λi s hi h h1 h2 h3=>put_a h2 h3 hne h1.1 (by have:=h1.2.2;omega) (hp _ (List.getElem_mem hi)).2)
 rw[run_put'] at this
 exact this
def ok_drops {l:List Nam}(ds:List ByteArray) (h:okTs (v,l)):okTs (v,(Za8 l ds).1):=by
 have:=ok_run (f:=ZjC) (I:=λ_ s=>okTs s) (λi s x h=>Zo4 h) (λi j s _ h=>h) ds 0 (v,l) h
 rw[Zl4] at this
 exact this
def ZkZ {v:Nat} : ∀ {l:List Nam}(ps:List NPt),okTs (v,l)->(∀ p∈ps,ZvJ p)->okTs (v,(Zbj patE patV l ps).1)
 | l,[],h,_=>h
 | l,p::ps,h,hp=>by
  have h1:=Zmf (p:=p) h (hp p (by simp))
  have e:=ZgH (p::ps) (v,l)
  rw[runS] at e
  have e2:(Zbj patE patV l (p::ps)).1=(if (Zcv (v,l) p).2≠0 then Zcv (v,l) p else runS Zcv (Zcv (v,l) p).1 ps).1.2:=(congrArg (λx=>x.1.2) e).symm
  rw[e2]
  split
  .exact⟨h1.1,h1.2⟩
  rw[ZgH];exact ZkZ ps ⟨h1.1,h1.2⟩ λq hq=>hp q (by simp[hq])
def ZvF {v:Nat} : ∀ {l:List Nam}(k:Nat) (ns:List Nam),Znu k (v,l)->(∀ n∈ns,Znv n)->Znu (k+ns.length) (v,(Zcw l ns).1)
 | l,k,[],h,_=>h
 | l,k,n::ns,h,hp=>by
  have h1:=ZvG (n:=n) h (hp n (by simp))
  rw[Zcw]
  by_cases hh:hasN l n.1=true
  .rw[if_pos hh];exact⟨h.1,h.2.1,Nat.le_trans h.2.2 (by rw[List.length_cons];omega)⟩
  rw[if_neg hh]
  rw[ZqS hh] at h1
  have:=ZvF (v:=v) (k+1) ns (l:=insN l n) ⟨h1.1,h1.2.1,h1.2.2⟩ λm hm=>hp m (by simp[hm])
  rwa [show k+(n::ns).length=k+1+ns.length by rw[List.length_cons];omega]
def Zq3 (h:okTs s):Znu 0 s:=⟨h.1.1,λn hn=>(h.1.2 n hn).1,by have:=h.2;omega⟩
def upd_a (hr:Zfd r) (h0:ZaQ r=0) (hu:Zsl u) :
  Ac 35 [.agg (relC r),.agg (updC u)] h (.tup [.agg (relC (updV r u).1),iv (updV r u).2]):=by
 obtain⟨a1,a2,a3,a4,a5,a6⟩:=ZbJ h0
 obtain⟨u1,u2,u3,u4,u5⟩:=hu
 refine tW' k35 λN hn hlt _ hbd=>?_
 simp only[tb'] at hbd ⊢
 refine wr'<|E' (ZaM cv rfl hl0 ha0) pt<|E' (ZaM cv rfl hl1 ha1) pt<|E' (ZaR hl2 ha2) pt<|ms<|wr'<|fq<|Vw (Zaa lk gx gt3)<|Zac mp (Zrj u5) pt<|Vw (Zat (ZkC cv rfl))<|?_
 refine Vw (Zat (ZkB cv rfl))<|E' (ZaM cv rfl hl3 ha3) pt<|mw<|Zam<|?_
 refine ZaN (ALe.own0Cell (st':=5) (ty:=45) gx gt0 hl4 pt0 (Eq.trans (congrArg (λz=>List.set z _ _) ha4) hs3)) ?_
 refine Zab<|wr'<|fq<|Vw (Zaa lk gx gt0)<|Vw (Zaz lk)<|ms<|Zag<|?_
 refine w_lp (ι:=Nat×Nat) (λ⟨i,v⟩=>[(19,iv (i:Int)),(8,.any)]++rn' 20 21) (λ⟨i,v⟩=>[(3,.mk 0 124 2 [.own (N+4) v (r.1.take i).length,.sl u.2.2.2.length 2 false (rows lnkC u.2.2.2)]),(4,.mk v 45 5 (rows namC (r.1.take i)))]) (λ⟨i,v⟩=>i<=r.1.length) (λ⟨i,v⟩=>r.1.length-i) (⟨0,0⟩) (by exact Nat.zero_le _) ?_
 rintro⟨i,v⟩ hi1
 try simp only[sm',Nat.reduceAdd]
 replace hi1:i<=r.1.length:=hi1
 have htl:(r.1.take i).length<=20:=by rw[List.length_take];omega
 refine wr'<|Vw (ZaJ lk lk)<|sn'<|Zab<|?_
 refine cd' lk (λhc1=>?_) (λhc1=>?_)
 .have hi:i<r.1.length:=by omega
  have hst:=List.take_succ_eq_append_getElem hi
  have hlu:=Zcc (a3 _ (List.getElem_mem hi)).2
  refine za<|Zab<|Zag<|wr'<|?_
  refine V' (ZaE lk lk ZaC nb ro om ro rfl) pt ?_
  refine Vw (Zar lk Zog rfl)<|E' (ZaR hl5 ha5) pt<|E' (Zai lk cv gx rfl nb rfl ZtH hs5) ptn<|sn'<|ZaD<|Dw vm<|Dw vm<|Dw (Zcj lk)<|dg<|dg<|Dw (Zaa lk gx gt0)<|dg<|Dw (Zaa lk gx gt0)<|?_
  refine dg<|Dw (Zad lk gx ZtF rfl)<|?_
  refine ZaB mp (λhE hX=>ZqM om) pt ?_
  refine Dw (Zat (Zj6 cv rfl cv rfl))<|ZcI rfl rfl (hlk hn rfl) (ZeR (Zj5 cv rfl)) pt ZxC<|ZaH<|?_
  refine ZcH ZtJ ?_
  refine E' (Zby (Zbm lk gx rfl Zog nb) lk gx (Zba _) om rfl hs4) pt ?_
  refine Vw (Zcj lk)<|fq<|fq<|E' (Zai lk cv gx rfl nb rfl ZtI hs3) ptn<|Zam<|Zau<|Zan<|Zao<|?_
  refine ad<|mw<|Zam<|Zaw<|?_
  refine lU' (⟨i+1,v+1⟩) (by (try dsimp only);omega) (by refine zz ?_;exact bk' 5 hn hlt (by rw[hst,List.length_append,ZaG];rfl) (hT:=by simp[AV.lt,AV.ltL,Ent.lt]) (hE:=by simp[AV.lt,AV.ltL,Ent.lt]))
 rw[List.take_of_length_le (show r.1.length<=i by omega)] at *
 have hT0:okTs (v,r.1):=⟨⟨a4,λn hn=>⟨hr.1 n hn,(a3 n hn).2⟩⟩,a1⟩
 refine Zax<|Zas<|Zas<|ZaK<|Zan<|wr'<|fq<|Vw (Zaa lk gx gt0)<|mw<|Vw (Zui mp)<|?_
 refine ZoV mp (drops_a (v:=v) (l:=r.1) (ds:=u.1) (K:=N+3) (R:=N+4) (lw:=.sl u.2.2.2.length 2 false (rows lnkC u.2.2.2)) gx gx om hT0) hs3 hs4 pt ?_
 refine ms<|Zab<|wm<|Vw (Za0 lk lki)<|sn'<|?_
 refine cd' lk (λhc2=>?_) (λhc2=>?_)
 .have hd0:(Za8 r.1 u.1).2=0:=hc2
  have hT1:=ok_drops u.1 hT0
  refine Zao<|fq<|Vw (Zaa lk gx gt2)<|mw<|Vw (Zui mp)<|?_
  refine ZoV mp (Zvx (v:=v) (l:=(Za8 r.1 u.1).1) (ps:=u.2.2.1) (K:=N+3) (R:=N+4) (lw:=.sl u.2.2.2.length 2 false (rows lnkC u.2.2.2)) gx gx om hT1 u2) hs3 hs4 pt ?_
  refine ms<|Zab<|wm<|Vw (Za0 lk lki)<|sn'<|?_
  refine cd' lk (λhc3=>?_) (λhc3=>?_)
  .have hp0:(Zbj patE patV (Za8 r.1 u.1).1 u.2.2.1).2=0:=hc3
   have hT2:=Zq3 (ZkZ u.2.2.1 hT1 u2)
   have hV:Zcf r u=Zcw (Zbj patE patV (Za8 r.1 u.1).1 u.2.2.1).1 u.2.1:=by unfold Zcf;rw[if_neg (by simpa using hd0),if_neg (by simpa using hp0)]
   refine Zao<|fq<|Vw (Zaa lk gx gt1)<|mw<|Vw (Zui mp)<|?_
   refine ZoV mp (puts_a (v:=v) (l:=(Zbj patE patV (Za8 r.1 u.1).1 u.2.2.1).1) (ns:=u.2.1) (K:=N+3) (R:=N+4) (lw:=.sl u.2.2.2.length 2 false (rows lnkC u.2.2.2)) gx gx om hT2 u1 u4) hs3 hs4 pt ?_
   refine ms<|Zab<|wm<|Vw (Za0 lk lki)<|sn'<|?_
   refine cd' lk (λhc4=>?_) (λhc4=>?_)
   .have hu0:(Zcw (Zbj patE patV (Za8 r.1 u.1).1 u.2.2.1).1 u.2.1).2=0:=hc4
    have hE:=ZoG (r:=r) (u:=u) (by rw[hV];exact hu0)
    rw[hV] at hE
    have hT3:=ZvF 0 u.2.1 hT2 (λn hn=>(u1 n hn).1)
    have hok:Zfd ((Zcw (Zbj patE patV (Za8 r.1 u.1).1 u.2.2.1).1 u.2.1).1,u.2.2.2):=⟨hT3.2.1,u3⟩
    refine Zao<|mw<|Vw (Zcj lk)<|fq<|Vw (Zad lk gx ZbX rfl)<|Zac mp (rchk_o gx hok) pt<|ms<|Zab<|wm<|Vw (ZaY lk lki)<|?_
    refine sn' ?_
    refine cd' lk (λhc5=>?_) (λhc5=>?_)
    .rw[if_pos hc5] at hE
     refine wr'<|Vw (Zat Zc0)<|mw<|E' (Zai lk cv gx rfl nb rfl Zda hs2) ptn<|mr<|Zah<|Zae (rsn (rm1 (rr_c gt gx (ld1 ZbX rfl)) (rm1 (rr_t gt) rm0)))<|rtW'<|?_
     rw[hE];exact ZcU
    rw[if_neg hc5] at hE
    refine Zay ?_
    refine ZaN (ALe.iceCellR (hga hn rfl) (hga hn rfl) om gt0 (List.take_of_length_le (by rw[Zbp ZaC];first | exact Nat.le_refl _ | omega)) (by rw[Zbp ZaC];first | exact Nat.le_refl _ | omega) pt0 hs4 hs3) ?_
    refine wm<|Vw (Zcj lk)<|fq<|Vw (Zad lk gx ZbX rfl)<|E' (Zai lk cv gx rfl nb rfl Zda hs2) ptn<|mr<|Zae (rsn (rm1 (rr_c gt gx (ld1 ZbX rfl)) (rm1 (rr_t gt) rm0)))<|rtW'<|?_
    rw[hE];exact Wk.refl _
   have hE:=Zd3 (r:=r) (u:=u) (by rw[hV];exact hc4)
   rw[hV] at hE
   refine za<|Zab<|wm<|Vw (ZaY lk lki)<|sn'<|?_
   refine Zeg lk (by exact decide_eq_true hc4) ?_
   refine wr'<|Vw (Zat Zc0)<|mw<|E' (Zai lk cv gx rfl nb rfl Zda hs2) ptn<|mr<|Zah<|Zae (rsn (rm1 (rr_c gt gx (ld1 ZbX rfl)) (rm1 (rr_t gt) rm0)))<|rtW'<|?_
   rw[hE];exact ZcU
  have hV:Zcf r u=Zbj patE patV (Za8 r.1 u.1).1 u.2.2.1:=by unfold Zcf;rw[if_neg (by simpa using hd0),if_pos hc3]
  have hE:=Zd3 (r:=r) (u:=u) (by rw[hV];exact hc3)
  rw[hV] at hE
  refine za<|Zab<|wm<|Vw (Za0 lk lki)<|sn'<|?_
  refine Zcr lk (by exact decide_eq_false hc3) ?_
  refine za<|Zab<|wm<|Vw (ZaY lk lki)<|sn'<|?_
  refine Zeg lk (by exact decide_eq_true hc3) ?_
  refine wr'<|Vw (Zat Zc0)<|mw<|E' (Zai lk cv gx rfl nb rfl Zda hs2) ptn<|mr<|Zah<|Zae (rsn (rm1 (rr_c gt gx (ld1 ZbX rfl)) (rm1 (rr_t gt) rm0)))<|rtW'<|?_
  rw[hE];exact ZcU
 have hV:Zcf r u=((Za8 r.1 u.1).1,(Za8 r.1 u.1).2):=if_pos hc2
 have hE:=Zd3 (r:=r) (u:=u) (by rw[hV];exact hc2)
 rw[hV] at hE
 refine za<|Zab<|wm<|Vw (Za0 lk lki)<|sn'<|?_
 refine Zcr lk (by exact decide_eq_false hc2) ?_
 refine za<|Zab<|wm<|Vw (Za0 lk lki)<|sn'<|?_
 refine Zcr lk (by exact decide_eq_false hc2) ?_
 refine za<|Zab<|wm<|Vw (ZaY lk lki)<|sn'<|?_
 refine Zeg lk (by exact decide_eq_true hc2) ?_
 refine wr'<|Vw (Zat Zc0)<|mw<|E' (Zai lk cv gx rfl nb rfl Zda hs2) ptn<|mr<|Zah<|Zae (rsn (rm1 (rr_c gt gx (ld1 ZbX rfl)) (rm1 (rr_t gt) rm0)))<|rtW'<|?_
 rw[hE];exact ZcU
def Zxd (hr:Zfd r) (hu:Zsl u) :
  Ac 7 [.agg (relC r),.agg (updC u)] h (.tup [.agg (relC (ZjN r u).1),iv (ZjN r u).2]):=by
 refine tW' k7 λN hn _ _ hbd=>?_
 simp only[tb'] at hbd ⊢
 refine wr'<|E' (ZaM cv rfl hl0 ha0) pt<|E' (ZaM cv rfl hl1 ha1) pt<|E' (ZaR hl2 ha2) pt<|ms<|Zab<|wr'<|Vw (Zad lk gx ZbX rfl)<|Zac mp (Zij (t:=r.1) (k:=r.2) hr) pt<|mw<|?_
 refine sn'<|wm<|Vw (ZaY lk lki)<|sn'<|?_
 refine cd' lk (λhc1=>?_) (λhc1=>?_)
 .have hE:ZjN r u=(rel0,ZaQ r):=if_pos hc1
  refine wr'<|Vw (Zat ZmM)<|mw<|E' (Zai lk cv gx rfl nb rfl Zda hs2) ptn<|mr<|Zah<|Zae (rsn (rm1 (rr_c gt gx (ld1 ZbX rfl)) (rm1 (rr_t gt) rm0)))<|rtW'<|?_
  rw[hE];exact ZcU
 have h0:ZaQ r=0:=Decidable.of_not_not hc1
 have hE:ZjN r u=updV r u:=if_neg hc1
 refine za<|wr'<|Vw (Zad lk gx ZbX rfl)<|Vw (Zad lk gx ZtG rfl)<|Zac mp (upd_a hr h0 hu) pt<|Vw (ZaS lk gt)<|Vw (ZaS lk gt)<|E' (Zai lk cv gx rfl nb rfl Zda hs2) ptn<|mr<|?_
 refine Zae (rsn (rm1 (rr_c gt gx (ld1 ZbX rfl)) (rm1 (rr_t gt) rm0)))<|rtW'<|?_
 rw[hE];exact Wk.refl _
def Zml {s:ByteArray}(h:Zb2 s=true):s.size<=maxLen:=by
 unfold Zb2 at h
 simp only[Bool.and_eq_true,decide_eq_true_eq] at h
 have:=h.1.1.2
 simp only[maxLen];omega
def Znt (h:ZaQ r=0):Zfd r:=by
 obtain⟨_,_,a3,_,a5,_⟩:=ZbJ h
 refine⟨λn hn=>⟨Zml (a3 n hn).1,Zq4 (a3 n hn).2⟩,λl hl=>⟨?_,Zml (a5 l hl).1⟩⟩
 have:=Zdc.1 (a5 l hl).2.2
 obtain⟨n,hn,e⟩:=List.mem_map.1 this
 rw[<-e];exact Zml (a3 n hn).1
def okP_pat {t u:Tab}(h:okT u):okP (Zb8 t u):=⟨h.1,λx hx=>h.2 x (List.mem_of_mem_take (List.mem_of_mem_drop hx))⟩
def ZvI {s:Rel}(hr:ZaQ r=0) (hs:ZaQ s=0):Zsl (betU r s):=by
 obtain⟨a1,a2,a3,a4,a5,a6⟩:=ZbJ hr
 obtain⟨b1,b2,b3,b4,b5,b6⟩:=ZbJ hs
 have kr:=Znt hr
 have ks:=Znt hs
 refine⟨λn hn=>?_,λp hp=>?_,ks.2,?_,?_⟩
 .have hm:n∈s.1:=(List.mem_filter.1 hn).1
  exact⟨ks.1 n hm,by have:=Zcc (b3 n hm).2;omega⟩
 .obtain⟨n,hn,he⟩:=Zi0.1 hp
  obtain⟨e1,t,h1,_,e2⟩:=Zfz he
  have k2:=ks.1 n hn
  refine⟨by rw[e1];exact k2.1,?_⟩
  rw[e2]
  exact okP_pat k2.2
 .have:=ZmC r.1 s.1
  show (betP r.1 s.1).length<=_
  omega
 show s.2.length<=_
 omega
end
section
open Go.Ab Go.RowKit Civ
attribute [local simp] Zbl Zcz Zbq Zgb ZbR Zcn Zb6 ZcM
section
def ZfY :setCells (a0::a1::l) 0 [c0,c1]=c0::c1::l:=rfl
def ZcP :((a0::a1::l).drop 0).take 2=[a0,a1]:=rfl
def Zf8 {τ:Operand->AV}:Zal τ [] [(.sl 0 0 true []),(.sl 0 0 true [])]=some [(.sl 0 0 true []),(.sl 0 0 true [])]:=rfl
def ZhS :setCells (a0::a1::a2::a3::l) 0 [c0,c1,c2,c3]=c0::c1::c2::c3::l:=rfl
def Zf7 {τ:Operand->AV}:Zal τ [] [(.sl 0 0 true []),(.sl 0 0 true [])]=some [(.sl 0 0 true []),(.sl 0 0 true [])]:=rfl
def ZlA :((a0::a1::a2::a3::l).drop 0).take 4=[a0,a1,a2,a3]:=rfl
def Zxu :(a0::a1::a2::a3::l).take 4=[a0,a1,a2,a3]:=rfl
end
def k45:=Kx 45 []
def k12:=Kx 12 [.e [] 49 []]
def nNew:ByteArray:=bA [78,101,119]
def mk1 :Ac 43 [.agg (srcC src0)] h (.tup [.agg (relC rel1),iv 0]):=by
 have:=make_a (a:=src0.1) (z:=src0.2.1) (k:=src0.2.2) (h:=h) ZoR
 rw[show (src0.1,src0.2.1,src0.2.2)=src0 from rfl,make0] at this
 exact this
def rmk1 :Ac 93 [.agg (srcC src0)] h (.tup [.agg (relC rel1),iv 0]):=by
 have:=rmake_g (a:=src0.1) (z:=src0.2.1) (k:=src0.2.2) (h:=h) ZoR rcrl0 λh=>by
  rw[show ZbG (src0.1,src0.2.1,src0.2.2)=0 from chk0];exact rchkZ0
 rw[show (src0.1,src0.2.1,src0.2.2)=src0 from rfl,make0] at this
 exact this
def dif1 :Ac 6 [.agg [.sl 0 0 true [],.sl 0 0 true []],.agg (relC rel1)] h (.tup [.agg (updC upd1),iv 0]):=by
 have:=Zwu (r:=rel0) (s:=rel1) (h:=h) ⟨λ_ h=>(by cases h),λ_ h=>(by cases h)⟩ Zmg
 rw[diff0] at this
 exact ACalls.wk (wkw (Wk.agg (wkw Wk.nilF (wkw Wk.nilF wk0))) (wk1 rfl wk0)) this
def app2 :Ac 7 [.agg [.sl 0 0 true [],.sl 0 0 true []],.agg (updC upd1)] h (.tup [.agg (relC rel1),iv 0]):=by
 have h0:ZaQ rel0=0:=rfl
 have e:betU rel0 rel1=upd1:=rfl
 have:=Zxd (r:=rel0) (u:=upd1) (h:=h) ⟨λ_ h=>(by cases h),λ_ h=>(by cases h)⟩ (e ▸ ZvI h0 ZsE)
 rw[show ZjN rel0 upd1=(rel1,0) from (if_neg (by rw[h0];simp)).trans (e ▸ leadR h0 ZsE)] at this
 exact ACalls.wk (wkw (Wk.agg (wkw Wk.nilF (wkw Wk.nilF wk0))) (wk1 rfl wk0)) this
def findR1:ZdD rel1 nOld=(tab0,0):=by
 rw[ZdD,if_neg (by rw[ZsE];simp)];rfl
def findR2:ZdD rel1 nNew=(Zdr,5):=by
 rw[ZdD,if_neg (by rw[ZsE];simp)];rfl
def fnd1 :Ac 5 [.agg (relC rel1),sv nOld] h (.tup [tabA tab0,iv 0]):=by
 have:=Zpt (t:=rel1.1) (k:=rel1.2) (nm:=nOld) (h:=h) Zmg (by decide)
 rw[show (rel1.1,rel1.2)=rel1 from rfl,findR1] at this
 exact this
def fnd2 :Ac 5 [.agg (relC rel1),sv nNew] h (.tup [tabA Zdr,iv 5]):=by
 have:=Zpt (t:=rel1.1) (k:=rel1.2) (nm:=nNew) (h:=h) Zmg (by decide)
 rw[show (rel1.1,rel1.2)=rel1 from rfl,findR2] at this
 exact this
def ZvV :Ac 45 [] h (.agg (relC rel1)):=by
 refine tI' k45 λN hn _ _ hbd=>?_
 simp only[tb'] at hbd ⊢
 refine wr'<|E' (ZaR hl0 ha0) pt<|sn'<|wr'<|Zac mp0 (Zq1) pt<|Zac mp (rmk1) pt<|mw<|Vw (ZaS lk gt)<|Vw (ZaS lk gt)<|E' (ZaR hl1 ha1) pt<|E' (Zai lk cv gx rfl nb rfl ZfY hs1) ptn<|?_
 exact ms<|wr'<|Vw (Zad lk gx ZcP rfl)<|E' (Zai lk cv gx rfl nb rfl ZfY hs0) ptn<|sr<|Zae (rs1 (rr_c gt gx (ld1 ZcP rfl)))<|rT' rfl
def same1 :Ac 28 [.agg (relC rel1),.agg (relC rel1)] h (bv true):=by
 have:=ZkQ (t:=rel1.1) (u:=rel1.1) (k:=rel1.2) (m:=rel1.2) (f1:=false) (f2:=false) (f3:=false) (f4:=false) (h:=h)
 rw[decide_eq_true rfl] at this
 exact this
def stab1 :Ac 29 [tabA tab0,tabA tab0] h (bv true):=by
 have:=Zhm (t:=tab0) (u:=tab0) (f1:=false) (f2:=false) (h:=h)
 rw[decide_eq_true rfl] at this
 exact this
def Zhp :Ac 12 [] h (bv true):=by
 refine tI' k12 λN hn _ _ hbd=>?_
 simp only[tb'] at hbd ⊢
 refine wk'<|wr'<|Zac mp0 (Zq1) pt<|Zac mp (mk1) pt<|mw<|Vw (ZaS lk gt)<|Vw (ZaS lk gt)<|E' (ZaR hl0 ha0) pt<|E' (Zai lk cv gx rfl nb rfl ZfY hs0) ptn<|?_
 refine ms<|wr'<|Vw (Zat Zf8)<|Vw (Zad lk gx ZcP rfl)<|Zac mp (dif1) pt<|mw<|Vw (ZaS lk gt)<|Vw (ZaS lk gt)<|E' (ZaR hl1 ha1) pt<|E' (Zai lk cv gx rfl nb rfl ZhS hs1) ptn<|mw<|?_
 refine sn'<|wr'<|Vw (Zat Zf7)<|Vw (Zad lk gx ZlA rfl)<|Zac mp (app2) pt<|mw<|Vw (ZaS lk gt)<|Vw (ZaS lk gt)<|E' (ZaR hl2 ha2) pt<|E' (Zai lk cv gx rfl nb rfl ZfY hs2) ptn<|mw<|Zam<|?_
 refine Zan<|wr'<|Vw (Zad lk gx ZcP rfl)<|Zac mp (fnd1) pt<|mw<|Vw (ZaS lk gt)<|Vw (ZaS lk gt)<|E' (ZaR hl3 ha3) pt<|E' (Zai lk cv gx rfl nb rfl ZhS hs3) ptn<|ms<|Zab<|?_
 refine Zao<|Vw (Zad lk gx ZcP rfl)<|Zac mp (fnd2) pt<|mw<|Vw (ZaS lk gt)<|Vw (ZaS lk gt)<|E' (ZaR hl4 ha4) pt<|E' (Zai lk cv gx rfl nb rfl ZhS hs4) ptn<|ms<|Zab<|ZaD<|Dw vm<|?_
 refine Dw (Za0 lk lki)<|Dw vm<|?_
 refine Zfr (t:=40) gt (b:=true) (by rfl) pt ?_
 refine dO<|Dw vm<|dO<|Dw (Za0 lk lki)<|Dw (Zaj lk lk)<|Dw vm<|?_
 refine Zfr (t:=44) gt (b:=true) (by rfl) pt ?_
 refine dO<|Dw vm<|dO<|Dw (Za0 lk lki)<|Dw (Zaj lk lk)<|Dw vm<|?_
 refine Zfr (t:=48) gt (b:=true) (by rfl) pt ?_
 refine dO<|Dw vm<|dO<|Dw (Za0 lk lki)<|Dw (Zaj lk lk)<|Dw vm<|?_
 refine Zfr (t:=52) gt (b:=true) (by rfl) pt ?_
 refine dO<|Dw vm<|dO<|Dw (Za0 lk lki)<|Dw (Zaj lk lk)<|Dw vm<|?_
 refine Zfr (t:=56) gt (b:=true) (by rfl) pt ?_
 refine dO<|Dw (Zad lk gx ZcP rfl)<|dO<|?_
 refine ZaB mp (λhE hX=>rchk1) pt ?_
 refine dO<|Dw (Za0 lk lki)<|Dw (Zaj lk lk)<|Dw vm<|?_
 refine Zfr (t:=61) gt (b:=true) (by rfl) pt ?_
 refine dO<|Dw (Zad lk gx ZcP rfl)<|dO<|?_
 refine ZaB mp0 (λhE hX=>ZvV) pt ?_
 refine d_do gt ?_
 refine ZaB mp (λhE hX=>same1) pt ?_
 refine Dw (Zaj lk lk)<|Dw vm<|dO<|Dw (Zad lk gx ZcP rfl)<|dO<|?_
 refine ZaB mp0 (λhE hX=>ZvV) pt ?_
 refine d_do gt ?_
 refine ZaB mp (λhE hX=>same1) pt ?_
 refine Dw (Zaj lk lk)<|Dw vm<|dO<|dg<|dO<|Dw (Zaa lk gx gt1)<|dO<|Dw (Zaz lk)<|dO<|Dw (Za0 lk lki)<|Dw (Zaj lk lk)<|Dw vm<|?_
 refine Zfr (t:=77) gt (b:=true) (by rfl) pt ?_
 refine dO<|Dw (Zad lk gx ZlA rfl)<|dO<|?_
 refine ZaB mp0 (λhE hX=>ZvV) pt ?_
 refine dO<|Dw (v_fld lk gt)<|dO<|?_
 refine D' (ZaE (k:=0) lk lki ZaC nb (by first | rfl | first | omega | decide) (by first | omega | decide) ro rfl) pt ?_
 refine dO<|Dw (ZaZ lk dp1)<|dO<|Dw (Zar lk Zxu rfl)<|dO<|?_
 refine ZaB mp (λhE hX=>stab1) pt ?_
 refine Dw (Zaj lk lk)<|Dw vm<|ZaH<|?_
 refine ZaU ?_
 exact sr<|Zae rz<|rT' rfl
end
section
open Go.Ab Go.RowKit Civ
attribute [local simp] Zbl Zcz Zbq Zgb ZbR Zcn Zb6 ZcM
section
def Ziz {τ:Operand->AV}:Zal τ [] [(.sl 0 0 true []),(.sl 0 0 true [])]=some [(.sl 0 0 true []),(.sl 0 0 true [])]:=rfl
def Ztm :setCells (a0::a1::l) 0 [c0,c1]=c0::c1::l:=rfl
def ZfX :((a0::a1::l).drop 0).take 2=[a0,a1]:=rfl
end
def k16:=Kx 16 []
def ZuW :Ac 28 [.agg (relC r),.agg (relC r)] h (bv true):=by
 have:=ZkQ (t:=r.1) (u:=r.1) (k:=r.2) (m:=r.2) (f1:=false) (f2:=false) (f3:=false) (f4:=false) (h:=h)
 rw[decide_eq_true rfl] at this
 exact this
def sameR_0 (hr:r=rel0):Ac 28 [.agg (relC r),.agg [.sl 0 0 true [],.sl 0 0 true []]] h (bv true):=by
 subst hr
 exact ACalls.wk (wk1 rfl (wkw (Wk.agg (wkw Wk.nilF (wkw Wk.nilF wk0))) wk0)) ZuW
def Zvd {e:Int}(hr:e≠0->r=rel0):Ac 16 [.agg (relC r),iv e,iv e,.agg (relC r)] h (bv true):=by
 refine tI' k16 λN hn _ _ hbd=>?_
 simp only[tb'] at hbd ⊢
 refine wr'<|E' (ZaM cv rfl hl0 ha0) pt<|E' (ZaM cv rfl hl1 ha1) pt<|ms<|Zab<|wm<|Vw (ZaY lk lki)<|sn'<|?_
 refine cd' lk (λhc1=>?_) (λhc1=>?_)
 .refine Zao<|Vw (Zat Ziz)<|E' (Zai lk cv gx rfl nb rfl Ztm hs1) ptn<|sn'<|wm<|mw<|Vw (Za0 lk lk)<|mw<|?_
  refine Zeh (t:=15) gt (b:=true) (by exact decide_eq_true rfl) pt ?_
  exact s_do gt<|Vw (Zad lk (hga hn rfl) ZfX rfl)<|s_do gt<|Vw (Zad lk (hga hn rfl) ZfX rfl)<|s_do gt<|Zac mp (sameR_0 (hr hc1)) pt<|Vw (Zaj lk lk)<|mr<|Zae rz<|rT' rfl
 refine za<|wm<|mw<|Vw (Za0 lk lk)<|mw<|?_
 refine Zeh (t:=15) gt (b:=true) (by exact decide_eq_true rfl) pt ?_
 exact s_do gt<|Vw (Zad lk (hga hn rfl) ZfX rfl)<|s_do gt<|Vw (Zad lk (hga hn rfl) ZfX rfl)<|s_do gt<|Zac mp (ZuW) pt<|Vw (Zaj lk lk)<|mr<|Zae rz<|rT' rfl
end
section
open Go.Ab Civ
attribute [local simp] Zbl
section
def Zf1 :((a0::a1::a2::l).drop 0).take 3=[a0,a1,a2]:=rfl
def Zh7 {τ:Operand->AV}{y0 y1:Operand}{x0_0 x0_1 x0_2 x1_0:AV}(h0:Zaq (τ y0)=some [x0_0,x0_1,x0_2]) (l0:[x0_0,x0_1,x0_2].all leaf=true) (h1:Zaq (τ y1)=some [x1_0]) (l1:[x1_0].all leaf=true):Zal τ [(0,3,y0),(3,1,y1)] [(iv 0),(iv 0),(.v (.string ⟨#[]⟩)),(.sl 0 0 true [])]=some [x0_0,x0_1,x0_2,x1_0]:=by
 simp only[Zal,h0,l0,h1,l1]
 rfl
def Zh6 {τ:Operand->AV}{y0 y1:Operand}{x0_0 x0_1 x0_2 x1_0:AV}(h0:Zaq (τ y0)=some [x0_0,x0_1,x0_2]) (l0:[x0_0,x0_1,x0_2].all leaf=true) (h1:Zaq (τ y1)=some [x1_0]) (l1:[x1_0].all leaf=true):Zal τ [(0,3,y0),(3,1,y1)] [(iv 0),(iv 0),(.v (.string ⟨#[]⟩)),(.sl 0 0 true [])]=some [x0_0,x0_1,x0_2,x1_0]:=by
 simp only[Zal,h0,l0,h1,l1]
 rfl
def Zc1 {τ:Operand->AV}:Zal τ [] [(iv 0),(iv 0),(.v (.string ⟨#[]⟩)),(.sl 0 0 true [])]=some [(iv 0),(iv 0),(.v (.string ⟨#[]⟩)),(.sl 0 0 true [])]:=rfl
def ZcR :setCells (a0::a1::a2::a3::l) 0 [c0,c1,c2,c3]=c0::c1::c2::c3::l:=rfl
def Zcu :((a0::a1::a2::a3::l).drop 0).take 4=[a0,a1,a2,a3]:=rfl
def Zki {τ:Operand->AV}:Zal τ [] [(iv 0),(iv 0),(.v (.string ⟨#[]⟩)),(.sl 0 0 true [])]=some [(iv 0),(iv 0),(.v (.string ⟨#[]⟩)),(.sl 0 0 true [])]:=rfl
def Zkh {τ:Operand->AV}{y0:Operand}{x0_0 x0_1 x0_2:AV}(h0:Zaq (τ y0)=some [x0_0,x0_1,x0_2]) (l0:[x0_0,x0_1,x0_2].all leaf=true):Zal τ [(0,3,y0)] [(iv 0),(iv 0),(.v (.string ⟨#[]⟩)),(.sl 0 0 true [])]=some [x0_0,x0_1,x0_2,(.sl 0 0 true [])]:=by
 simp only[Zal,h0,l0]
 rfl
def Zf2 :setCells (a0::a1::a2::a3::l) 3 [c0]=a0::a1::a2::c0::l:=rfl
def Zkg {τ:Operand->AV}:Zal τ [] [(iv 0),(iv 0),(.v (.string ⟨#[]⟩)),(.sl 0 0 true [])]=some [(iv 0),(iv 0),(.v (.string ⟨#[]⟩)),(.sl 0 0 true [])]:=rfl
def ZkE {τ:Operand->AV}{y0:Operand}{x0_0 x0_1 x0_2:AV}(h0:Zaq (τ y0)=some [x0_0,x0_1,x0_2]) (l0:[x0_0,x0_1,x0_2].all leaf=true):Zal τ [(0,3,y0)] [(iv 0),(iv 0),(.v (.string ⟨#[]⟩)),(iv 0),(iv 0),(.sl 0 0 true [])]=some [x0_0,x0_1,x0_2,(iv 0),(iv 0),(.sl 0 0 true [])]:=by
 simp only[Zal,h0,l0]
 rfl
def ZlM {c5:AV}:setCells (a0::a1::a2::a3::a4::a5::l) 0 [c0,c1,c2,c3,c4,c5]=c0::c1::c2::c3::c4::c5::l:=rfl
def ZeD :(a0::a1::a2::a3::l).take 4=[a0,a1,a2,a3]:=rfl
def Ziw {a0 b0:Int}{a1 b1:Int}{a2 b2:Int}{a3 b3:ByteArray}:Za7 [.int,.int,.int,.str] [iv a0,iv a1,iv a2,sv a3] [iv b0,iv b1,iv b2,sv b3]=some (decide (a0=b0/\a1=b1/\a2=b2/\a3=b3)):=by
 simp only[Za7,ZcY,if_true,ZbP,Option.some.injEq]
 simp only[Bool.decide_and,Bool.and_true]
 try (congr 1 <;> simp)
 try rfl
def Zt0 :setCells (a0::a1::a2::a3::a4::l) 4 [c0]=a0::a1::a2::a3::c0::l:=rfl
def Zkf {τ:Operand->AV}{y0:Operand}{x0_0 x0_1 x0_2 x0_3:AV}(h0:Zaq (τ y0)=some [x0_0,x0_1,x0_2,x0_3]) (l0:[x0_0,x0_1,x0_2,x0_3].all leaf=true):Zal τ [(0,4,y0)] [(iv 0),(iv 0),(iv 0),(.v (.string ⟨#[]⟩))]=some [x0_0,x0_1,x0_2,x0_3]:=by
 simp only[Zal,h0,l0]
 rfl
def ZxL { e:Ent}:([]:AH)++[e]=[e]:=rfl
def Zt1 {e1 e2 e3 e4:Ent}:([e0,e1,e2,e3,e4]:AH)++[d0]=[e0,e1,e2,e3,e4,d0]:=rfl
def ZtZ :setCells (a0::a1::a2::a3::a4::a5::l) 5 [c0]=a0::a1::a2::a3::a4::c0::l:=rfl
def ZlL :((a0::a1::a2::a3::a4::a5::l).drop 0).take 6=[a0,a1,a2,a3,a4,a5]:=rfl
end
def k50:=Kx 50 []
def k41:=Kx 41 [.e [] 7 [false,false,false],.e [] 9 [false,false,false]]
def c40:AC:=(Sr [Oo 2 (.box 34 4 (t 0)),Oo 3 (.box 34 4 (t 1)),Oo 4 (.new 55 6 [(iv 0),(iv 0),Ss,(iv 0),(iv 0),nl])] (Sd [Fa 9 3 2,Ld 10 9,Oo 11 (.len false (t 10)),Fa 12 3 3,Ld 13 12,Oo 14 (.len false (t 13)),Mv 5 11,Mv 6 14] (Sr [Fa 15 0 3,Oo 16 (.load true 3 (t 15)),Oo 17 (.build [(iv 0),(iv 0),Ss,(iv 0),(iv 0),nl] [(0,(3,(t 16)))]),Oo 7 (.new 55 6 [(iv 0),(iv 0),Ss,(iv 0),(iv 0),nl]),⟨none,none,(.store 6 (t 7) (t 17))⟩] (.seq (.block 0 (.loop (.seq (Sd [Fa 18 3 7,Ld 19 18,Mv 20 5,Bn 21 .lss 19 20,Mv 22 21,Ot 23 22 (.fa 3 (t 7)),Ot 24 22 (.load false 1 (t 23)),Ot 25 22 (mt 6),Ot 26 22 (.bin .lss (t 24) (t 25)),Oo 27 (.pick (t 22) (t 26) (.const (.bool false))),Mv 28 27,Ot 29 28 (.fa 3 (t 2)),Ot 30 28 (.load false 1 (t 29)),Ot 31 28 (.fa 3 (t 7)),Ot 32 28 (.load false 1 (t 31)),Ot 33 28 (.ia 4 (t 30) (t 32)),Ot 34 28 (.load true 4 (t 33)),Ot 35 28 (.fa 3 (t 3)),Ot 36 28 (.load false 1 (t 35)),Ot 37 28 (.fa 3 (t 7)),Ot 38 28 (.load false 1 (t 37)),Ot 39 28 (.ia 4 (t 36) (t 38)),Ot 40 28 (.load true 4 (t 39)),Ot 41 28 (.eqs false [.int,.int,.int,.str] (t 34) (t 40)),Oo 42 (.pick (t 28) (t 41) (.const (.bool false)))] (Cd 42 .skip (.exit 0))) (.block 1 (.reg [Fa 43 3 7,Ld 44 43,Bc 45 .add 44 1,Fa 46 3 7,Sc 46 45]))))) (.seq (.block 2 (.loop (.seq (Sd [Fa 47 3 7,Ld 48 47,Fa 49 4 7,Ld 50 49,Bn 51 .add 48 50,Mv 52 5,Bn 53 .lss 51 52,Mv 54 53,Ot 55 54 (.fa 3 (t 7)),Ot 56 54 (.load false 1 (t 55)),Ot 57 54 (.fa 4 (t 7)),Ot 58 54 (.load false 1 (t 57)),Ot 59 54 (.bin .add (t 56) (t 58)),Ot 60 54 (mt 6),Ot 61 54 (.bin .lss (t 59) (t 60)),Oo 62 (.pick (t 54) (t 61) (.const (.bool false))),Mv 63 62,Ot 64 63 (.fa 3 (t 2)),Ot 65 63 (.load false 1 (t 64)),Ot 66 63 (mt 5),Ot 67 63 (.bin .sub (t 66) (Ci 1)),Ot 68 63 (.fa 4 (t 7)),Ot 69 63 (.load false 1 (t 68)),Ot 70 63 (.bin .sub (t 67) (t 69)),Ot 71 63 (.ia 4 (t 65) (t 70)),Ot 72 63 (.load true 4 (t 71)),Ot 73 63 (.fa 3 (t 3)),Ot 74 63 (.load false 1 (t 73)),Ot 75 63 (mt 6),Ot 76 63 (.bin .sub (t 75) (Ci 1)),Ot 77 63 (.fa 4 (t 7)),Ot 78 63 (.load false 1 (t 77)),Ot 79 63 (.bin .sub (t 76) (t 78)),Ot 80 63 (.ia 4 (t 74) (t 79)),Ot 81 63 (.load true 4 (t 80)),Ot 82 63 (.eqs false [.int,.int,.int,.str] (t 72) (t 81)),Oo 83 (.pick (t 63) (t 82) (.const (.bool false)))] (Cd 83 .skip (.exit 2))) (.block 3 (.reg [Fa 84 4 7,Ld 85 84,Bc 86 .add 85 1,Fa 87 4 7,Sc 87 86]))))) (.seq (Sr [Fa 88 3 7,Ld 89 88,Mv 8 89] (.block 4 (.loop (.seq (Sr [Mv 90 8,Mv 91 6,Fa 92 4 7,Ld 93 92,Bn 94 .sub 91 93,Bn 95 .lss 90 94] (Cd 95 .skip (.exit 4))) (.seq (.block 5 (.drw [Fa 98 5 7,Ld 99 98,Fa 100 3 3,Ld 101 100,Mv 102 8,Oo 103 (.ia 4 (t 101) (t 102)),Oo 104 (.load true 4 (t 103)),Oo 105 (.lit 104 4 1 [(iv 0),(iv 0),(iv 0),Ss] [(0,(4,(t 104)))])] [false,false,false] [Oo 106 (.app 104 4 40 (t 99) (t 105)),Fa 107 5 7,Sc 107 106])) (.reg [Mv 96 8,Bc 97 .add 96 1,Mv 8 97])))))) (Sr [Oo 108 (.load true 6 (t 7)),⟨none,none,(.store 6 (t 4) (t 108))⟩] .ret)))))))
def k40:ZbT Tryz.prog 40=some ⟨c40,[(.cell 4 true 6)],109⟩:=by kernel_rfl
def sameP_a {p q:Pat}{f1 f2:Bool} :
  Ac 50 [.agg [iv p.1.1,iv p.1.2.1,sv p.1.2.2,iv p.2.1,iv p.2.2.1,.sl p.2.2.2.length 4 f1 (rows chgC p.2.2.2)],.agg [iv q.1.1,iv q.1.2.1,sv q.1.2.2,iv q.2.1,iv q.2.2.1,.sl q.2.2.2.length 4 f2 (rows chgC q.2.2.2)]] h (bv (decide (p=q))):=by
 refine tI' k50 λN hn _ _ hbd=>?_
 simp only[tb'] at hbd ⊢
 refine wr'<|E' (ZaM cv rfl hl0 ha0) pt<|E' (ZaM cv rfl hl1 ha1) pt<|ms<|wr'<|fq<|Vw (Zaa lk gx gt3)<|fq<|Vw (Zaa lk gx gt3)<|Vw (Za0 lk lk)<|?_
 refine mv' lk pt ?_
 refine sp' (t:=10) gt pt pt (λhg10=>?_) (λhg10=>?_)
 .refine sd<|fq<|sd<|Vw (Zaa lk gx gt4)<|sd<|fq<|sd<|Vw (Zaa lk gx gt4)<|sd<|Vw (Za0 lk lk)<|Vw (Zaj lk lk)<|mw<|?_
  refine sp' (t:=17) gt pt pt (λhg17=>?_) (λhg17=>?_)
  .refine sd<|fq<|sd<|Vw (Zad lk gx Zf1 rfl)<|sd<|fq<|sd<|Vw (Zaa lk gx gt5)<|sd<|Vw (Zat (Zh7 cv rfl cv rfl))<|sd<|fq<|sd<|Vw (Zad lk gx Zf1 rfl)<|?_
   refine sd<|fq<|sd<|Vw (Zaa lk gx gt5)<|sd<|Vw (Zat (Zh6 cv rfl cv rfl))<|sd<|Zac mp (Zhm (t:=(p.1,p.2.2.2)) (u:=(q.1,q.2.2.2))) pt<|Vw (Zaj lk lk)<|mr<|Zae rz<|?_
   refine rT' ?_
   refine bvx ?_
   obtain⟨p1,p2,p3,p4⟩:=p
   obtain⟨q1,q2,q3,q4⟩:=q
   simp only at hg10 hg17
   subst hg10 hg17
   simp
  refine so<|so<|so<|so<|so<|so<|so<|so<|so<|so<|so<|Vw (Zak lk lkb)<|mw<|Zam<|?_
  refine Zan<|Zbh<|Zae rz<|rT'<|?_
  exact bvx (decide_eq_false (λe=>hg17 (by rw[e]))).symm
 refine so<|so<|so<|so<|so<|Vw (Zak lk lkb)<|mw<|so<|so<|so<|so<|so<|so<|so<|?_
 refine so<|so<|so<|so<|Vw (Zak lk lkb)<|mr<|Zae rz<|rT'<|?_
 exact bvx (decide_eq_false (λe=>hg10 (by rw[e]))).symm
def Zxe {t:Tab}{p:Pat}{f1 f2:Bool}(h1:t.2.length<=1000) (ht:okT t) (hp:okP p) :
  Ac 41 [.agg [iv t.1.1,iv t.1.2.1,sv t.1.2.2,.sl t.2.length 4 f1 (rows chgC t.2)],.agg [iv p.1.1,iv p.1.2.1,sv p.1.2.2,iv p.2.1,iv p.2.2.1,.sl p.2.2.2.length 4 f2 (rows chgC p.2.2.2)]] h (.tup [tabA (patV t p),iv (patE t p)]):=by
 have hz:Wk (.agg [.v (.int .i64 0),.v (.int .i64 0),.v (.string ⟨#[]⟩),.sl 0 0 true []]) (tabA Zdr):=Wk.agg (wk1 rfl (wk1 rfl (wk1 rfl (wkw Wk.nilF wk0))))
 have ho:=Zo5 ht hp
 have hl:=ZvE (t:=t) (p:=p)
 have hcat:((rows chgC (t.2.take p.2.1.toNat)++rows chgC p.2.2.2)++rows chgC (t.2.drop ((t.2.length:Int)-p.2.2.1).toNat))=rows chgC (outT t p).2:=by
  simp[outT,ZaG]
 have hlen:(t.2.take p.2.1.toNat).length+p.2.2.2.length+(t.2.drop ((t.2.length:Int)-p.2.2.1).toNat).length=(outT t p).2.length:=by
  simp[outT];omega
 refine tW' k41 λN hn _ _ hbd=>?_
 simp only[tb'] at hbd ⊢
 refine wr'<|E' (ZaM cv rfl hl0 ha0) pt<|E' (ZaM cv rfl hl1 ha1) pt<|E' (ZaR hl2 ha2) pt<|ms<|wr'<|fq<|Vw (Zaa lk gx gt3)<|Vw (Zaz lk)<|mw<|?_
 refine sn'<|Zab<|wr'<|fq<|Vw (Zaa lk gx gt3)<|Vw (ZaJ lk lki)<|mw<|?_
 refine sp' (t:=15) gt pt pt (λhg15=>?_) (λhg15=>?_)
 .refine so<|so<|so<|Vw (Zaj lk lkb)<|mw<|so<|so<|so<|so<|Vw (Zaj lk lkb)<|mw<|so<|so<|so<|?_
  refine so<|so<|so<|so<|Vw (Zaj lk lkb)<|sn'<|Za6 lk<|wr'<|Vw (Zat Zc1)<|E' (Zai lk cv gx rfl nb rfl ZcR hs2) ptn<|mw<|Zam<|?_
  refine Zan<|Zbh<|Zah<|Zae (rsn (rm1 (rr_c gt gx (ld1 Zcu rfl)) (rm1 (rr_t gt) rm0)))<|rtW'<|?_
  have hE:patE t p=3:=if_pos (by unfold offP;omega)
  rw[patV,if_neg (by rw[hE];decide),hE]
  exact Wk.tup (wkw hz (wk1 rfl wk0))
 refine sd<|fq<|sd<|Vw (Zaa lk gx gt4)<|sd<|Vw (ZaJ lk lki)<|Vw (Zak lk lk)<|mw<|?_
 refine sp' (t:=20) gt pt pt (λhg20=>?_) (λhg20=>?_)
 .refine so<|so<|so<|so<|Vw (Zaj lk lkb)<|mw<|so<|so<|so<|so<|so<|so<|so<|Vw (Zaj lk lkb)<|?_
  refine sn'<|Za6 lk<|wr'<|Vw (Zat Zc1)<|E' (Zai lk cv gx rfl nb rfl ZcR hs2) ptn<|mr<|Zah<|Zae (rsn (rm1 (rr_c gt gx (ld1 Zcu rfl)) (rm1 (rr_t gt) rm0)))<|rtW'<|?_
  have hE:patE t p=3:=if_pos (by unfold offP;omega)
  rw[patV,if_neg (by rw[hE];decide),hE]
  exact Wk.tup (wkw hz (wk1 rfl wk0))
 refine sd<|fq<|sd<|Vw (Zaa lk gx gt3)<|sd<|mw<|sd<|Vw (Zbr lk lk)<|Vw (Zak lk lk)<|mw<|?_
 refine sp' (t:=26) gt pt pt (λhg26=>?_) (λhg26=>?_)
 .refine so<|so<|so<|so<|so<|so<|so<|Vw (Zaj lk lkb)<|sn'<|Za6 lk<|wr'<|Vw (Zat Zc1)<|?_
  refine E' (Zai lk cv gx rfl nb rfl ZcR hs2) ptn<|mr<|Zah<|Zae (rsn (rm1 (rr_c gt gx (ld1 Zcu rfl)) (rm1 (rr_t gt) rm0)))<|rtW'<|?_
  have hE:patE t p=3:=if_pos (by unfold offP;omega)
  rw[patV,if_neg (by rw[hE];decide),hE]
  exact Wk.tup (wkw hz (wk1 rfl wk0))
 refine sd<|fq<|sd<|Vw (Zaa lk gx gt4)<|sd<|mw<|sd<|fq<|sd<|Vw (Zaa lk gx gt3)<|sd<|?_
 refine V' (Za2 lk lk om om) pt ?_
 refine sd<|Vw (Zbr lk lk)<|Vw (Zak lk lk)<|sn'<|?_
 refine cd' lk (λhc1=>?_) (λhc1=>?_)
 .refine wr'<|Vw (Zat Zc1)<|E' (Zai lk cv gx rfl nb rfl ZcR hs2) ptn<|mr<|Zah<|Zae (rsn (rm1 (rr_c gt gx (ld1 Zcu rfl)) (rm1 (rr_t gt) rm0)))<|rtW'<|?_
  have hE:patE t p=3:=if_pos (by unfold offP;omega)
  rw[patV,if_neg (by rw[hE];decide),hE]
  exact Wk.tup (wkw hz (wk1 rfl wk0))
 refine za<|Zab<|wr'<|fq<|Vw (Zaa lk gx gt5)<|Vw (Zaz lk)<|Vw (Zbr lk lki)<|sn'<|?_
 refine cd' lk (λhc2=>?_) (λhc2=>?_)
 .refine wr'<|Vw (Zat Zki)<|E' (Zai lk cv gx rfl nb rfl ZcR hs2) ptn<|mr<|Zah<|Zae (rsn (rm1 (rr_c gt gx (ld1 Zcu rfl)) (rm1 (rr_t gt) rm0)))<|rtW'<|?_
  have hE:patE t p=2:=by rw[patE,if_neg (by unfold offP;omega),if_pos om]
  rw[patV,if_neg (by rw[hE];decide),hE]
  exact Wk.tup (wkw hz (wk1 rfl wk0))
 refine za<|wr'<|fq<|Vw (Zad lk gx Zf1 rfl)<|Vw (Zat (Zkh cv rfl))<|E' (ZaR hl3 ha3) pt<|E' (Zai lk cv gx rfl nb rfl ZcR hs3) ptn<|sn'<|Zab<|ZaD<|dg<|?_
 refine Dw (Zaa lk gx gt3)<|dg<|Dw (Zaa lk gx gt3)<|dg<|Dw (Zaa lk gx gt3)<|?_
 refine D' (v_hi (k:=p.2.1.toNat) lk lk ZaT ro om ro) pt ?_
 refine ZaH ?_
 refine ZaU ?_
 refine E' (e_app0 (Zgj lk (Za1 _)) lk (by rw[List.length_take];omega) (Zef _) hl4 ha4) pt ?_
 refine fq<|E' (Zai lk cv gx rfl nb rfl Zf2 hs3) ptn<|sn'<|wr'<|fq<|Vw (Zaa lk gx gt3)<|fq<|Vw (Zaa lk gx gt5)<|?_
 refine E' (Zby (Zgj lk (Za1 _)) lk (hga hn rfl) (Za1 _) (by rw[List.length_take];omega) (Zef _) hs4) pt ?_
 refine fq<|E' (Zai lk cv gx rfl nb rfl Zf2 hs3) ptn<|sn'<|Zab<|ZaD<|dg<|Dw (Zaa lk gx gt3)<|dg<|Dw (Zaa lk gx gt3)<|Dw vm<|dg<|Dw (Zaa lk gx gt4)<|?_
 refine D' (Za2 lk lk om om) pt ?_
 refine D' (v_lo (k:=((t.2.length:Int)-p.2.2.1).toNat) lk lk ZaT ro om ro) pt ?_
 refine ZaH ?_
 refine ZaU ?_
 refine E' (Zby (Zgj lk (Za1 _)) lk (hga hn rfl) (by rw[List.length_append,Za1,Za1,Nat.add_mul]) (by rw[List.length_take,List.length_drop];omega) (Zef _) hs4) pt ?_
 refine fq<|E' (Zai lk cv gx rfl nb rfl Zf2 hs3) ptn<|Zam<|?_
 refine ZaN (ALe.iceCellN (hga hn rfl) (hga hn rfl) om gt3 (show List.take _ _=rows chgC (outT t p).2 from by rw[hcat,hlen];exact List.take_of_length_le (by rw[Za1];exact Nat.le_refl _)) (by rw[hcat,hlen,Za1];exact Nat.le_refl _) (by exact hlen) pt3 hs4 hs3) ?_
 refine wr'<|Vw (Zad lk gx Zcu rfl)<|Zac mp (ZqO (l:=(outT t p).2) ho.1 ho.2) pt<|ms<|Zab<|wm<|Vw (ZaY lk lki)<|sn'<|?_
 refine cd' lk (λhc3=>?_) (λhc3=>?_)
 .refine wr'<|Vw (Zat Zkg)<|mw<|E' (Zai lk cv gx rfl nb rfl ZcR hs2) ptn<|mr<|Zah<|Zae (rsn (rm1 (rr_c gt gx (ld1 Zcu rfl)) (rm1 (rr_t gt) rm0)))<|rtW'<|?_
  have hE:patE t p=Za3 (outT t p):=by rw[patE,if_neg (by unfold offP;omega),if_neg om]
  rw[patV,if_neg (by rw[hE];exact hc3),hE]
  exact Wk.tup (wkw hz (wk1 rfl wk0))
 refine za<|wr'<|Vw (Zad lk gx Zcu rfl)<|mw<|E' (Zai lk cv gx rfl nb rfl ZcR hs2) ptn<|mr<|Zae (rsn (rm1 (rr_c gt gx (ld1 Zcu rfl)) (rm1 (rr_t gt) rm0)))<|rtW'<|?_
 have hE:patE t p=Za3 (outT t p):=by rw[patE,if_neg (by unfold offP;omega),if_neg om]
 have h0:Za3 (outT t p)=0:=Decidable.of_not_not hc3
 rw[patV,if_pos (by rw[hE];exact h0),hE]
 exact Wk.refl _
def Zii {l:List Chg}{d k:Nat}(h:d+k<l.length):(l.drop d).reverse[k]'(by simp;omega)=l[l.length-1-k]:=by
 rw[List.getElem_reverse,List.getElem_drop]
 congr 1
 simp only[List.length_drop]
 omega
end
end Go.Proofs.YthmgnolcfjiicaaGreatDoor
