/-
  Part 2 of the proof: own lemmas and contracts on plain data. No condition beyond those that each lemma states.
-/
import Derived.Test.YticajimgfndceaaRr1
import Derived.RangeFuncLeaves
import Derived.Shelf.SlSortCmp.WholeK
import Derived.WalkKit
import Derived.Lib.IndexBytes
set_option linter.all false
set_option maxRecDepth 1000000
set_option maxHeartbeats 4000000
section
namespace Go.Proofs.Yticajimgfndceaa
open Go.Ab Go.RowKit Civ
attribute [local simp] ZbU Zcl Zcf Zcq
def ZhX (s:Src):Prop:=(∀ r∈s.1,r.1.size≤maxLen∧r.2.2.2.2.2.2.2.2.size≤maxLen)∧(∀ z∈s.2.1,z.1.size≤maxLen ∧ ∀ x∈z.2,okEra x) ∧ ∀ l∈s.2.2,l.1.size≤maxLen∧l.2.size≤maxLen
def ZdV (s:Src):Int:=if Zgj s=true then 2 else if Zbd Za8 s.1≠0 then Zbd Za8 s.1 else if Zbd ZhD s.2.1≠0 then Zbd ZhD s.2.1 else Zbd ZgL s.2.2
end Go.Proofs.Yticajimgfndceaa
end
section
namespace Go.Proofs.Yticajimgfndceaa
open Go.Ab Civ
abbrev Trn:=Int×Rul
abbrev Tim:=Int×Int×ByteArray
abbrev trnC (t:Trn):List AV:=iv t.1::rulC t.2
abbrev timC (t:Tim):List AV:=[iv t.1,iv t.2.1,sv t.2.2]
theorem Zkf {n:Nat}(l:List Trn):AV.ltL n (rows trnC l)=true:=Zdk (fun n x=>by simp[AV.ltL,AV.lt]) l
theorem Zko {n:Nat}(l:List Tim):AV.ltL n (rows timC l)=true:=Zdk (fun n x=>by simp[AV.ltL,AV.lt]) l
theorem ZeA : ∀ x,(trnC x).length=12:=fun _=>rfl
theorem ZbG : ∀ x,(timC x).length=3:=fun _=>rfl
theorem trn_len (l:List Trn):(rows trnC l).length=l.length*12:=Za7 ZeA l
theorem ZhK (l:List Tim):(rows timC l).length=l.length*3:=Za7 ZbG l
instance decTim:DecidableEq Tim:=inferInstance
abbrev rFr (r:Rul):Int:=r.2.1
abbrev rTo (r:Rul):Int:=r.2.2.1
abbrev rDy (r:Rul) (y:Int):Int:=ZcF y r.2.2.2.1 r.2.2.2.2.1.1 r.2.2.2.2.1.2.1 r.2.2.2.2.1.2.2
abbrev rAt (r:Rul):Int:=r.2.2.2.2.2.1
abbrev rCk (r:Rul):Int:=r.2.2.2.2.2.2.1
abbrev rSv (r:Rul):Int:=r.2.2.2.2.2.2.2.1
abbrev rLt (r:Rul):ByteArray:=r.2.2.2.2.2.2.2.2
def Zf0 (r:Rul) (y:Int):Int:=rDy r y*86400+rAt r
def ZfU (a b:Int):List Int:=(List.range (b+1-a).toNat).map fun (k:Nat)=>a+(k:Int)
def Zci (r:Rul):List Trn:=(ZfU (rFr r) (rTo r)).map fun y=>(Zf0 r y,r)
def ZaU (l:List Rul) (nm:ByteArray):List Trn:=l.flatMap fun r=>if r.1=nm then Zci r else []
def offV (r:Rul) (sh sa:Int):Int:=if rCk r=1 then sh+sa else if rCk r=2 then sh else 0
def timV (sh sa:Int) (t:Trn):Tim:=(t.1-offV t.2 sh sa,rSv t.2,rLt t.2)
def outV (sh:Int):Int→List Trn→List Tim
 | _,[]=>[]
 | sa,t::l=>timV sh sa t::outV sh (rSv t.2) l
def gapB:List Trn→Bool
 | a::b::l=>decide (b.1-a.1<172800)||gapB (b::l)
 | _=>false
def srtT (l:List Trn):List Trn:=l.mergeSort fun a b=>decide (a.1≤b.1)
def ZcP (l:List Rul) (nm:ByteArray) (sh:Int):Int :=
 if 40<l.length then 2 else if Zbd Za8 l≠0 then Zbd Za8 l else if sh < -64800∨sh>64800 then 3
 else if l.any (fun r=>decide (r.1=nm))=false then 5 else 0
def ZaR (l:List Rul) (nm:ByteArray) (sh:Int):List Tim×Int :=
 if ZcP l nm sh≠0 then ([],ZcP l nm sh)
 else if gapB (srtT (ZaU l nm))=true then ([],4)
 else if 1000<(ZaU l nm).length then ([],2) else (outV sh 0 (srtT (ZaU l nm)),0)
theorem ZhO (l:List Trn):(srtT l).Perm l:=List.mergeSort_perm l _
theorem Zk9 (l:List Trn):(srtT l).Pairwise fun a b=>a.1≤b.1:=by
 have h:=List.pairwise_mergeSort (le:=fun a b:Trn=>decide (a.1≤b.1)) (fun a b c h1 h2=>by simp at *;omega) (fun a b=>by simp;omega) l
 exact h.imp fun h=>by simpa using h
theorem srt_len (l:List Trn):(srtT l).length=l.length:=List.length_mergeSort l
theorem ZeN {a b:Trn}{l:List Trn}:gapB (a::b::l)=(decide (b.1-a.1<172800)||gapB (b::l)):=rfl
theorem Zlg {l m:List Trn}(hp:l.Perm m) (h1:l.Pairwise fun a b=>a.1≤b.1) (h2:m.Pairwise fun a b=>a.1≤b.1):l.map (·.1)=m.map (·.1):=by
 refine List.Perm.eq_of_pairwise (le:=fun a b:Int=>a≤b) (fun a b _ _ h1 h2=>by omega) ?_ ?_ (hp.map _)
 ·exact List.pairwise_map.2 h1
 ·exact List.pairwise_map.2 h2
def gapI:List Int→Bool
 | a::b::l=>decide (b-a<172800)||gapI (b::l)
 | _=>false
theorem Zh3 : ∀ l:List Trn,gapB l=gapI (l.map (·.1))
 | []=>rfl
 | [_]=>rfl
 | a::b::l=>by rw[ZeN,Zh3 (b::l)];rfl
theorem Zfi : ∀ {l:List Trn},gapB l=false→l.Pairwise (fun a b=>a.1≤b.1)→l.Pairwise fun a b=>a.1<b.1
 | [],_,_=>.nil
 | [a],_,_=>by simp
 | a::b::l,h,hp=>by
  rw[ZeN,Bool.or_eq_false_iff] at h
  have h1:¬b.1-a.1<172800:=by simpa using h.1
  rw[List.pairwise_cons] at hp
  have ih:=Zfi h.2 hp.2
  refine List.pairwise_cons.2 ⟨fun x hx=>?_,ih⟩
  rcases List.mem_cons.1 hx with rfl | hx
  ·omega
  ·have:=(List.pairwise_cons.1 hp.2).1 x hx;omega
theorem gap_uniq {l m:List Trn}(hp:l.Perm m) (h1:l.Pairwise fun a b=>a.1≤b.1) (h2:m.Pairwise fun a b=>a.1≤b.1):gapB l=gapB m∧(gapB l=false→l=m):=by
 have e:gapB l=gapB m:=by rw[Zh3,Zh3,Zlg hp h1 h2]
 refine⟨e,fun h=>?_⟩
 exact List.Perm.eq_of_pairwise (le:=fun a b:Trn=>a.1<b.1) (fun a b _ _ h1 h2=>by omega) (Zfi h h1) (Zfi (e ▸ h) h2) hp
theorem Zh4 : ∀ l:List Trn,gapB l=false ↔ ∀ i (h:i+1<l.length),172800≤l[i+1].1-l[i].1
 | []=>by simp[gapB]
 | [_]=>by simp[gapB]
 | a::b::l=>by
  rw[ZeN,Bool.or_eq_false_iff,Zh4 (b::l)]
  constructor
  ·rintro⟨h1,h2⟩ i hi
   cases i with
   | zero=>simp at h1 ⊢;omega
   | succ i=>exact h2 i (by simpa using hi)
  ·intro h
   refine⟨?_,fun i hi=>h (i+1) (by simpa using hi)⟩
   have:=h 0 (by simp)
   simp at this ⊢;omega
theorem ZmY {l:List Trn}{i:Nat}(h:i+1<l.length) (hg:l[i+1].1-l[i].1<172800):gapB l=true:=by
 by_cases e:gapB l=true
 ·exact e
 ·have:=(Zh4 l).1 (by simpa using e) i h;omega
def svAt (l:List Trn) (i:Nat):Int:=match i with
 | 0=>0
 | i+1=>match l[i]? with
  | some t=>rSv t.2
  | none=>0
theorem Zf7 {l:List Trn}{i:Nat}(h:i<l.length):svAt l (i+1)=rSv l[i].2:=by
 show (match l[i]? with | some t=>rSv t.2 | none=>0)=_
 rw[List.getElem?_eq_getElem h]
def lastS:Int→List Trn→Int
 | sa,[]=>sa
 | _,t::l=>lastS (rSv t.2) l
theorem Zg9 : ∀ (l:List Trn) (t:Trn) (sa:Int),lastS sa (l++[t])=rSv t.2
 | [],t,sa=>rfl
 | u::l,t,sa=>Zg9 l t (rSv u.2)
theorem ZkB : ∀ (l m:List Trn) (sh sa:Int),outV sh sa (l++m)=outV sh sa l++outV sh (lastS sa l) m
 | [],m,sh,sa=>rfl
 | t::l,m,sh,sa=>by rw[List.cons_append,outV,ZkB l m,outV,List.cons_append];rfl
theorem ZiO {l:List Trn}{i:Nat}(h:i<l.length) (sh:Int):outV sh 0 (l.take (i+1))=outV sh 0 (l.take i)++[timV sh (svAt l i) l[i]]:=by
 rw[List.take_succ_eq_append_getElem h,ZkB]
 congr 1
 rw[outV,outV]
 cases i with
 | zero=>rfl
 | succ i=>rw[Zf7 om,List.take_succ_eq_append_getElem (i:=i) om,Zg9]
theorem Zc1 : ∀ (l:List Trn) (sh sa:Int),(outV sh sa l).length=l.length
 | [],_,_=>rfl
 | t::l,sh,sa=>by rw[outV,List.length_cons,Zc1 l,List.length_cons]
theorem Zbu {r:Rul}(h:Za8 r=0):1900≤rFr r∧rFr r≤rTo r∧rTo r≤2100∧(1≤r.2.2.2.1∧r.2.2.2.1≤12)∧Zbs 2001 r.2.2.2.1 r.2.2.2.2.1.1 r.2.2.2.2.1.2.1 r.2.2.2.2.1.2.2=0∧(0≤rAt r∧rAt r≤172800)∧clkB (rCk r) true=true∧(0≤rSv r∧rSv r≤10800):=by
 unfold Za8 at h
 split at h
 ·omega
 split at h
 ·omega
 rename_i h2
 split at h
 ·rename_i h3;exact absurd h h3
 rename_i h3
 split at h
 ·omega
 rename_i h4
 split at h
 ·omega
 rename_i h5
 split at h
 ·omega
 rename_i h6
 have w1:wi r.2.2.2.1 1 12=true:=Decidable.of_not_not fun e=>h2 (.inr (.inr (.inr e)))
 refine⟨show 1900≤r.2.1 by omega,show r.2.1≤r.2.2.1 by omega,show r.2.2.1≤2100 by omega,Zbn.1 w1,?_,Zbn.1 (Decidable.of_not_not h4),Decidable.of_not_not h5,Zbn.1 (Decidable.of_not_not h6)⟩
 by_cases e:Zbs 2001 r.2.2.2.1 r.2.2.2.2.1.1 r.2.2.2.2.1.2.1 r.2.2.2.2.1.2.2=0
 ·exact e
 ·exact absurd (Decidable.of_not_not h3) (by rw[Zg3 rfl e];exact e)
theorem ZmI (m y:Int):mlen 2001 m≤mlen y m:=by
 have:=ZjO y
 have e:lp 2001=0:=by decide
 unfold mlen;rw[e];split <;> (try split) <;> (try split) <;> (try split) <;> (try split) <;> omega
theorem ZmZ {m k w n y:Int}(h:Zbs 2001 m k w n=0) (hy:1≤y∧y≤9999):Zbs y m k w n=0:=by
 obtain⟨_,h2,h3,h4,h5,h6,h7⟩:=Zh5 h
 have:=ZmI m y
 unfold Zbs
 repeat' split
 all_goals omega
theorem onDay_bd {m k w n y:Int}(h:Zbs y m k w n=0) (hy:1900≤y∧y≤2100) : -30000≤ZcF y m k w n∧ZcF y m k w n≤50000:=by
 obtain⟨h1,h2,h3,h4,h5,h6,h7⟩:=Zh5 h
 have hm:=ZdM y m
 have a:=Zdw (a:=1900) (b:=y) hy.1
 have b:=Zdw (a:=y) (b:=2100) hy.2
 have c:=Zi8 (y:=y) (m:=m) h2.1 om
 have e1:bef 1900=693595:=by decide
 have e2:bef 2100=766644:=by decide
 unfold ZcF fwd bwd num
 repeat' split
 all_goals omega
theorem ZjM {r:Rul}(h:Za8 r=0) {y:Int}(hy:1900≤y∧y≤2100):onV y r.2.2.2.1 r.2.2.2.2.1.1 r.2.2.2.2.1.2.1 r.2.2.2.2.1.2.2=(Zbp (rDy r y),0) ∧ -30000≤rDy r y∧rDy r y≤50000:=by
 obtain⟨_,_,_,_,h5,_⟩:=Zbu h
 have hf:=ZmZ (y:=y) h5 om
 have hb:=onDay_bd hf hy
 exact⟨by rw[Zge hf rfl,if_pos om],hb⟩
theorem ZlX {r:Rul}(h:Za8 r=0) {y:Int}(hy:1900≤y∧y≤2100) : -2592000000≤Zf0 r y∧Zf0 r y≤4320172800:=by
 have:=(ZjM h hy).2
 obtain⟨_,_,_,_,_,h6,_⟩:=Zbu h
 unfold Zf0;omega
theorem Zhg {α:Type}{p:α→Int} : ∀ {l:List α},Zbd p l=0 → ∀ x∈l,p x=0
 | [],_,x,hx=>by cases hx
 | a::l,h,x,hx=>by
  rw[Zbd] at h
  split at h
  ·rename_i h1;exact absurd h h1
  ·rename_i h1
   rcases List.mem_cons.1 hx with rfl | hx
   ·exact Decidable.of_not_not h1
   ·exact Zhg h x hx
theorem ZdK {l:List Rul}{nm:ByteArray}{sh:Int}(h:ZcP l nm sh=0):l.length≤40∧(∀ r∈l,Za8 r=0)∧(-64800≤sh∧sh≤64800) ∧ ∃ r∈l,r.1=nm:=by
 unfold ZcP at h
 split at h
 ·omega
 split at h
 ·rename_i h1;exact absurd h h1
 rename_i h1
 split at h
 ·omega
 split at h
 ·omega
 rename_i h2
 refine⟨by omega,Zhg (Decidable.of_not_not h1),by omega,?_⟩
 have h3:l.any (fun r=>decide (r.1=nm))=true:=by simpa using h2
 simpa using h3
theorem ZiU {a b y:Int}:y∈ZfU a b↔a≤y∧y≤b:=by
 unfold ZfU
 simp only[List.mem_map,List.mem_range]
 constructor
 ·rintro⟨k,hk,rfl⟩;omega
 ·intro h;exact⟨(y-a).toNat,by omega,by omega⟩
theorem Zir (a b:Int):(ZfU a b).length=(b+1-a).toNat:=by simp[ZfU]
theorem ZmJ {l:List Rul}{nm:ByteArray}{t:Trn}:t∈ZaU l nm↔t.2∈l∧t.2.1=nm ∧ ∃ y,(rFr t.2≤y∧y≤rTo t.2)∧t.1=Zf0 t.2 y:=by
 unfold ZaU
 rw[List.mem_flatMap]
 constructor
 ·rintro⟨r,hr,h⟩
  split at h
  ·rename_i hn
   obtain⟨y,hy,rfl⟩:=List.mem_map.1 h
   exact⟨hr,hn,y,ZiU.1 hy,rfl⟩
  ·cases h
 ·rintro⟨hr,hn,y,hy,e⟩
  refine⟨t.2,hr,?_⟩
  rw[if_pos hn]
  exact List.mem_map.2 ⟨y,ZiU.2 hy,by rw[←e]⟩
theorem ZhG {l:List Rul}{nm:ByteArray}(h : ∀ r∈l,Za8 r=0) {t:Trn}(ht:t∈ZaU l nm):Za8 t.2=0 ∧ -2592000000≤t.1∧t.1≤4320172800:=by
 obtain⟨h1,h2,y,hy,e⟩:=ZmJ.1 ht
 have h3:=h _ h1
 obtain⟨q1,q2,q3,_⟩:=Zbu h3
 rw[e]
 exact⟨h3,ZlX h3 om⟩
theorem Ze9 {r:Rul}(h:Za8 r=0):(Zci r).length≤201∧((Zci r).length:Int)=rTo r-rFr r+1:=by
 obtain⟨h1,h2,h3,_⟩:=Zbu h
 unfold Zci
 rw[List.length_map,Zir];omega
theorem ZfZ : ∀ {l:List Rul}{nm:ByteArray},(∀ r∈l,Za8 r=0)→(ZaU l nm).length≤201*l.length
 | [],nm,_=>by simp[ZaU]
 | r::l,nm,h=>by
  have ih:=ZfZ (l:=l) (nm:=nm) fun x hx=>h x (by simp[hx])
  have h1:=Ze9 (h r (by simp))
  unfold ZaU at ih ⊢
  rw[List.flatMap_cons,List.length_append,List.length_cons]
  split
  ·omega
  ·rw[List.length_nil];omega
theorem ZgU {l:List Rul}{k:Nat}(hk:k<l.length) (nm:ByteArray):ZaU (l.take (k+1)) nm=ZaU (l.take k) nm++(if l[k].1=nm then Zci l[k] else []):=by
 unfold ZaU
 rw[List.take_succ_eq_append_getElem hk,List.flatMap_append,List.flatMap_cons,List.flatMap_nil,List.append_nil]
theorem svAt_bd {l:List Trn}{i:Nat}(h : ∀ t∈l,Za8 t.2=0):0≤svAt l i∧svAt l i≤10800:=by
 cases i with
 | zero=>simp[svAt]
 | succ i =>
  show 0≤(match l[i]? with | some t=>rSv t.2 | none=>0)∧(match l[i]? with | some t=>rSv t.2 | none=>0)≤10800
  cases e:l[i]? with
  | none=>exact⟨by simp,by simp⟩
  | some t =>
   obtain⟨_,_,_,_,_,_,_,h8⟩:=Zbu (h t (List.mem_of_getElem? e))
   exact h8
theorem ZmD {r:Rul}{sh sa:Int}(h : -64800≤sh∧sh≤64800) (h2:0≤sa∧sa≤10800) : -64800≤offV r sh sa∧offV r sh sa≤75600:=by
 unfold offV;split
 ·omega
 split <;> omega
theorem Zkn {l:List Rul}{nm:ByteArray}{sh:Int}(hr:ZcP l nm sh=0) {S:List Trn}(hp:S.Perm (ZaU l nm)) (hs:S.Pairwise fun a b=>a.1≤b.1) :
  ZaR l nm sh=if gapB S=true then ([],4) else if 1000<S.length then ([],2) else (outV sh 0 S,0):=by
 obtain⟨g1,g2⟩:=gap_uniq (hp.trans (ZhO _).symm) hs (Zk9 _)
 unfold ZaR
 rw[if_neg (by simp[hr]),←g1,←hp.length_eq]
 by_cases e:gapB S=true
 ·rw[if_pos e,if_pos e]
 ·rw[if_neg e,if_neg e,g2 (by simpa using e)]
theorem Ziy {l:List Rul}{nm:ByteArray}{sh:Int}(hr:ZcP l nm sh≠0):ZaR l nm sh=([],ZcP l nm sh):=if_pos hr
end Go.Proofs.Yticajimgfndceaa
end
section
namespace Go.Proofs.Yticajimgfndceaa
open Go.Ab
attribute [local simp] ZbU Zcl Zcf Zcq
section
theorem Znv {a0 a1 a2 a3 a4 a5 a6 a7 a8 a9 a10:AV}{l:List AV}:(a0::a1::a2::a3::a4::a5::a6::a7::a8::a9::a10::l).take 11=[a0,a1,a2,a3,a4,a5,a6,a7,a8,a9,a10]:=rfl
end
def c33:AC:=(Sr [Mc 4 0] (.seq (Sr [Mv 6 0,Oo 7 (.len false (.tmp 6)),Mc 8 0] (.block 0 (.loop (Sr [Bn 9 .lss 8 7] (.seq (Cd 9 .skip (.exit 0)) (.seq (.block 1 (Sr [Mv 10 8,Mv 5 10] (Sr [Mv 11 1,Mv 12 0,Mv 13 5,Oo 14 (.ia 11 (.tmp 12) (.tmp 13)),Oo 15 (.load true 11 (.tmp 14)),Oo 16 (.call (.tmp 11) [(.tmp 15)])] (Cd 16 (Sr [Mv 17 5,Mv 4 17] .ret) .skip)))) (.reg [Bc 18 .add 8 1,Mv 8 18]))))))) (Sr [Oo 4 (.mv (.const (.int .i64 (-1))))] .ret)))
theorem k33:ZaO Try.prog 33=some ⟨c33,[(.tmp 4)],19⟩:=by kernel_rfl
def c15:AC:=(Sr [Mb 4 false] (Sr [Mv 5 0,Mv 6 1,Cl 7 33 [(.tmp 5),(.tmp 6)],Bc 8 .geq 7 0,Mv 4 8] .ret))
theorem k15:ZaO Try.prog 15=some ⟨c15,[(.tmp 4)],9⟩:=by kernel_rfl
theorem findI_is {α:Type}{p:α→Bool}{l:List α}{k:Nat}(hk:k<l.length) (h1:p l[k]=true) (h2 : ∀ j (hj:j<k),p (l[j]'(by omega))=false):l.findIdx p=k:=by
 have hlt:l.findIdx p<l.length:=List.findIdx_lt_length.2 ⟨_,List.getElem_mem hk,h1⟩
 rcases Nat.lt_trichotomy (l.findIdx p) k with e | e | e
 ·have a:=h2 _ e
  have b:=List.findIdx_getElem (w:=hlt)
  rw[a] at b;cases b
 ·exact e
 have:=List.not_of_lt_findIdx e
 rw[h1] at this;cases this
def idxV {α:Type}(p:α→Bool) (l:List α):Int:=if l.findIdx p<l.length then (l.findIdx p:Int) else -1
theorem ZkO {α:Type}(p:α→Bool) (l:List α):decide (0≤idxV p l)=l.any p:=by
 unfold idxV
 rw[Bool.eq_iff_iff,decide_eq_true_iff,List.any_eq_true]
 split
 ·rename_i h
  exact⟨fun _=>⟨_,List.getElem_mem h,List.findIdx_getElem (w:=h)⟩,fun _=>by omega⟩
 rename_i h
 constructor
 ·intro h2;omega
 rintro⟨x,hx,hp⟩;exact absurd (List.findIdx_lt_length.2 ⟨x,hx,hp⟩) h
theorem ixRulC_a {p:Rul→Bool}{f:FuncId}{caps:List AV}{l:List Rul}{full:Bool}{h:AH}(hp : ∀ c∈l,∀ E:AH,ACalls Try.prog f ([.agg (rulC c)]++caps) (h++E) fun x h'=>h'=h++E∧x=.ret (bv (p c))) (hl:l.length≤9223372036854775807) :
  Ac 33 [.sl l.length 11 full (rows rulC l),.clo (.func f) caps] h (iv (idxV p l)):=by
 refine tI' k33 fun N hn hlt hlA hbd=>?_
 simp only[tb'] at hbd ⊢
 refine wr'<|mw<|sn'<|Zan<|wr'<|mw<|Vw (Za6 lk)<|mw<|sn'<|Zao<|?_
 refine w_lp (ι:=Nat) (fun (k:Nat)=>[(8,iv (k:Int)),(4,.any),(5,.any)]++rn' 9 10) (fun (k:Nat)=>[]) (fun (k:Nat)=>k≤l.length ∧ ∀ j (hj:j<l.length),j<k→p l[j]=false) (fun (k:Nat)=>l.length-k) (0) (by exact⟨by omega,fun j hj h0=>absurd h0 om⟩) ?_
 rintro k hi1
 try simp only[sm',Nat.reduceAdd]
 obtain⟨hk1,hk2⟩:=hi1
 refine wr'<|Vw (ZbP lk lk)<|sn'<|Zan<|?_
 refine cd' lk (fun hc1=>?_) (fun hc1=>?_)
 ·have hk:k<l.length:=by omega
  refine Zaf<|Zah<|Zan<|Zao<|wr'<|mw<|mw<|sn'<|wr'<|mw<|mw<|?_
  refine mv' lk pt ?_
  refine V' (ZaY lk lk ZcZ (nb' rfl) ro om ro rfl) pt ?_
  refine Vw (Zd1 lk Znv rfl)<|s_callC lk mp (hp l[k] (List.getElem_mem hk) _) pt<|sn'<|?_
  refine Zaz lk (fun hc2=>?_) (fun hc2=>?_)
  ·refine wr'<|mw<|mw<|sn'<|Zaa<|Zap<|Zal<|Zal<|Zap<|Zal<|Zai rz<|rT'<|?_
   refine ivx ?_
   have hf:l.findIdx p=k:=findI_is hk (by simpa using hc2) (fun j hj=>hk2 j om hj)
   rw[idxV,hf,if_pos hk]
  refine Zaf<|ZaC<|Zah<|Zar<|?_
  refine V' (Zau lk lki om om) pt ?_
  refine mw<|Zaq<|ZaB<|?_
  refine lT' (k+1) (by (try dsimp only);refine⟨by omega,fun j hj h0=>?_⟩;by_cases e:j=k;subst e;simpa using hc2;exact hk2 j hj om)
 refine ZaX<|ZaN<|ZaN<|Zbq<|Zah<|wr'<|mw<|sn'<|Zaa<|Zai rz<|rT'<|?_
 refine ivx ?_
 have hf:l.findIdx p=l.length:=List.findIdx_eq_length.2 (fun x hx=>by obtain⟨i,hi,rfl⟩:=List.getElem_of_mem hx;exact hk2 i hi om)
 rw[idxV,hf,if_neg om]
theorem ZmX {p:Rul→Bool}{f:FuncId}{caps:List AV}{l:List Rul}{full:Bool}{h:AH}(hp : ∀ c∈l,∀ E:AH,ACalls Try.prog f ([.agg (rulC c)]++caps) (h++E) fun x h'=>h'=h++E∧x=.ret (bv (p c))) (hl:l.length≤9223372036854775807) :
  Ac 15 [.sl l.length 11 full (rows rulC l),.clo (.func f) caps] h (bv (l.any p)):=by
 refine tI' k15 fun N hn hlt hlA hbd=>?_
 simp only[tb'] at hbd ⊢
 refine wr'<|mw<|sn'<|wr'<|mw<|mw<|?_
 refine Zak mp (ixRulC_a (fun c hc E=>by have:=hp c hc E;rwa [List.append_nil]) hl) pt ?_
 refine Vw (Ze8 lk lki)<|mw<|sn'<|Zaa<|Zai rz<|rT'<|?_
 exact bvx (by first | exact ZkO p l | (rw[←ZkO];simp))
end Go.Proofs.Yticajimgfndceaa
end
section
namespace Go.Ab
section
variable {P : Program} {n0 : Nat} {Q : AX → List AV → AH → Prop} {T : List AV} {h : AH} {a : AC}
theorem Zkd {b:AC}{ι:Type}(f:ι→List (Nat×AV)) (H:ι→AH) (J:ι→Prop) (ha:aw P n0 a (AX.thn (fun T' h' => ∃ i,J i∧ALe n0 T' h' (ZcG T (f i)) (H i)) Q) T h) (hb : ∀ i,J i→aw P n0 b Q (ZcG T (f i)) (H i)):aw P n0 (.seq a b) Q T h :=
 w_seqc (fun i=>(ZcG T (f i),H i)) J ha hb
theorem SimH.renew {w:World}{g:Gh}{h:AH}(hs:SimH w g h) {id v':Nat}(hid:id<h.length) (hb : ∀ ver l,g.loc id ver=some l→ver<v') (A:Option Addr) (ty st:Nat) :
  SimH w (g.add id v' (A,0)) (h.set id (.mk v' ty st []))∧g.le (g.add id v' (A,0)) ∧ ∀ k,Ow (g.add id v' (A,0)) (h.set id (.mk v' ty st [])) k→Ow g h k:=by
 have hloc : ∀ i v l,g.loc i v=some l→(g.add id v' (A,0)).loc i v=some l:=by
  intro i v l hi
  simp only[Gh.add]
  rw[if_neg]
  ·exact hi
  ·rintro⟨rfl,rfl⟩;exact Nat.lt_irrefl _ (hb _ _ hi)
 have:=hs.put (w':=w) (g':=g.add id v' (A,0)) (h':=h.set id (.mk v' ty st [])) id v' ty st [] A 0 ?_ ?_ ?_ rfl hloc ?_ ?_ (fun v l hl=>Nat.le_of_lt (hb v l hl)) (fun k hk=>rfl) (Nat.le_refl _) (by simp[maxLen]) (.inl ⟨rfl,rfl⟩) (fun _ _ h=>absurd rfl h)
 ·exact⟨this.1,this.2.1,fun k hk=>(this.2.2 k hk).resolve_right (fun h=>h.2 rfl)⟩
 ·intro i hi
  rw[List.getElem?_set_ne (Ne.symm hi)]
 ·rw[List.getElem?_set_self hid]
 ·simp
 ·intro i v l hi
  simp only[Gh.add] at hi
  split at hi
  ·right;assumption
  ·left;exact hi
 ·simp[Gh.add]
theorem ZiH {h:AH}{i j:Nat}{x y z:Ent}(hne:j≠i):((h.set i x).set j y).set i z=(h.set i z).set j y:=by
 rw[List.set_comm _ _ hne,List.set_set]
theorem ALe.iceCellNew {T:List AV}{h h1 h2:AH}{id j ver ty s n k v' t' s' ty2 st2:Nat}{cells cs cs' ds:List AV}(hi:h[id]?=some (.mk ver ty s cells)) (hj:h[j]?=some (.mk v' t' s' cs)) (hne:j≠id) (hk:cs[k]?=some (.own id ver n)) (hc:cells.take (n*s)=ds) (hl:n*s≤cells.length) (hp:aPut cs (some k) (.sl n s false ds)=cs')
  (e1:h.set id (.mk (ver+1) ty2 st2 [])=h1) (e2:h1.set j (.mk v' t' s' cs')=h2):ALe n0 T h T h2:=fun w0 S0 g0 a w g st=>by
 subst hp hc e1 e2
 have hid:id<h.length:=(List.getElem?_eq_some_iff.1 hi).1
 obtain⟨h1,h2,h3⟩:=st.sim.ice hi
 have htm:=RepL.mono (g.le_ice h id) (fun _ _=>rfl) _ _ st.tmps
 obtain⟨k1,k2⟩:=h1.tell (id:=j) (by rw[List.getElem?_set_ne (Ne.symm hne)];exact hj) hk (fun u hu=>h3 n u hl (by
  simp only[Rep] at hu ⊢
  exact hu))
 obtain⟨r1,r2,r3⟩:=k1.renew (id:=id) (v':=ver+1) (by simpa using hid) (fun v l hv=>by
  have:=(st.sim.fresh id v l hv).2 _ _ _ _ hi
  omega) none ty2 st2
 have htm2:=RepL.mono r2 (fun _ _=>rfl) _ _ htm
 rw[ZiH hne] at r1 r3
 exact⟨_,htm2,st.defers,r1,st.fr,(st.le.trans (g.le_ice h id)).trans r2,st.bd,fun i hi=>st.ow i (h2 i (k2 i (r3 i hi)))⟩
theorem ALe.own0CellRe {T:List AV}{h h1:AH}{id j ver ty s v' t' s' k st st2 ty2:Nat}{cells cs ds cs':List AV}(hi:h[id]?=some (.mk ver ty s cells)) (hj:h[j]?=some (.mk v' t' s' cs)) (hne:j≠id) (hk:cs[k]?=some (.sl 0 st true ds)) (hp:aPut cs (some k) (.own id (ver+1) 0)=cs') (he:(h.set id (Ent.mk (ver+1) ty2 st2 [])).set j (Ent.mk v' t' s' cs')=h1):ALe n0 T h T h1:=fun w0 S0 g0 a w g s=>by
 subst he hp
 obtain⟨A1,cap1,l1,l2,l3⟩:=s.sim.ent _ _ _ _ _ hj
 have hid:id<h.length:=(List.getElem?_eq_some_iff.1 hi).1
 have hjl:j<h.length:=(List.getElem?_eq_some_iff.1 hj).1
 rcases l3 with ⟨h0,_⟩ | ⟨b,arr,rfl,x1,x2,x3,x4,x5,x6⟩
 ·rw[h0] at hk;simp at hk
 obtain⟨u,hu,hr⟩:=x6.get hk
 have hcell:w.cell? ⟨b,k,none⟩=some u:=by
  rw[cell_of_row w b k arr t' (0,0) x3]
  rw[List.getElem?_take] at hu
  split at hu
  ·simpa using hu
  ·cases hu
 simp only[Rep] at hr
 obtain⟨_,A,cap,rfl,_,_,hc,_,_⟩:=hr
 obtain rfl:cap=0:=(hc trivial).symm
 obtain⟨q1,q2,q3⟩:=s.sim.renew (id:=id) (v':=ver+1) hid (fun v l hv=>by
  have:=(s.sim.fresh id v l hv).2 _ _ _ _ hi
  omega) A ty2 st2
 have htm:=RepL.mono q2 (fun _ _=>rfl) _ _ s.tmps
 obtain⟨r1,r2⟩:=q1.tell1 (id:=j) (c':=.own id (ver+1) 0) (by rw[List.getElem?_set_ne (Ne.symm hne)];exact hj) hk (by
  intro b' cap' u' e1 e2 _
  have:=q2.loc _ _ _ l1
  rw[this] at e1
  simp only[Option.some.injEq,Prod.mk.injEq,Addr.mk.injEq] at e1
  obtain⟨⟨rfl,_⟩,_⟩:=e1
  rw[hcell] at e2
  cases e2
  exact ZbA (Nat.le_refl _) (by simp[maxLen]))
 exact⟨_,htm,s.defers,r1,s.fr,s.le.trans q2,s.bd,fun i hi=>s.ow i (q3 i (r2 i hi))⟩
theorem ALe.newEnt {T:List AV}{h h1:AH}{ty st:Nat}(he:h++[.mk 0 ty st []]=h1):ALe n0 T h T h1:=fun w0 S0 g0 a w g s=>by
 subst he
 obtain⟨q1,q2,q3⟩:=s.sim.add0 (w':=w) none ty st (fun _ _=>rfl) (Nat.le_refl _)
 exact⟨_,RepL.mono q2 (fun _ _=>rfl) _ _ s.tmps,s.defers,q1,s.fr,s.le.trans q2,s.bd,fun i hi=>(q3 i hi).elim (s.ow i) (fun h=>.inr (Nat.le_trans s.fr.size h))⟩
end
end Go.Ab
end
section
namespace Go.Ab
section
variable {P : Program}
abbrev dfo:Obj:=.deferred (some [])
abbrev mkD (D:Nat):Ent:=.raw D dfo [] []
theorem putA (w:World) (k j:Nat) (o:Obj) (h:j≠k):(w.putObj k o).heap[j]?=w.heap[j]?:=World.putObj_heap_other h
theorem raw_or {h:AH}{i:Nat}{e:Ent}{j k:Nat}{o:Obj}{T:List AV}{vs:List Value}(h1:(h.set i e)[j]?=some (.raw k o T vs)):(j=i∧e=.raw k o T vs)∨(j≠i∧h[j]?=some (.raw k o T vs)):=by
 by_cases hi:j=i
 ·subst hi
  by_cases hl:j<h.length
  ·rw[List.getElem?_set_self hl] at h1;cases h1;exact .inl ⟨rfl,rfl⟩
  ·rw[List.getElem?_eq_none (by simpa using hl)] at h1;cases h1
 ·rw[List.getElem?_set_ne (Ne.symm hi)] at h1;exact .inr ⟨hi,h1⟩
theorem SimH.setRaw {w:World}{g:Gh}{h:AH}(hs:SimH w g h) {i k:Nat}{o o':Obj}{T:List AV}{vs:List Value}(hi:h[i]?=some (.raw k o T vs)) (ho:o'.isCells=false) (e:Ent) (he:e=.raw k o' T vs∨e=.gone) :
  SimH (w.putObj k o') g (h.set i e)∧Fr w (Ow g h) (w.putObj k o') ∧ ∀ j,Ow g (h.set i e) j→Ow g h j:=by
 have hil:i<h.length:=(List.getElem?_eq_some_iff.1 hi).1
 obtain⟨r1,r2,r3,r4⟩:=hs.raw _ _ _ _ _ hi
 have hkl:k<w.heap.size:=(Array.getElem?_eq_some_iff.1 r1).1
 have hget : ∀ {j v ty s:Nat} {c:List AV},(h.set i e)[j]?=some (.mk v ty s c)→j≠i∧h[j]?=some (.mk v ty s c):=by
  intro j v ty s c h1
  by_cases hj:j=i
  ·subst hj
   rw[List.getElem?_set_self hil] at h1
   rcases he with rfl | rfl <;> cases h1
  ·rw[List.getElem?_set_ne (Ne.symm hj)] at h1;exact⟨hj,h1⟩
 have how : ∀ j b,OwAt g (h.set i e) j b→OwAt g h j b:=by
  rintro j b ⟨v,ty,s,c,a,cap,e1,e2⟩
  exact⟨v,ty,s,c,a,cap,(hget e1).2,e2⟩
 have hrw : ∀ {j b:Nat} {x:Obj} {T':List AV} {vs':List Value},(h.set i e)[j]?=some (.raw b x T' vs')→(j=i∧b=k∧x=o'∧T'=T∧vs'=vs)∨(j≠i∧h[j]?=some (.raw b x T' vs')):=by
  intro j b x T' vs' h1
  rcases raw_or h1 with ⟨h2,h3⟩ | h2
  ·rcases he with rfl | rfl <;> cases h3
   exact .inl ⟨h2,rfl,rfl,rfl,rfl⟩
  ·exact .inr h2
 have hrw' : ∀ j b,RwAt (h.set i e) j b→RwAt h j b:=by
  rintro j b ⟨x,T',vs',h1⟩
  rcases hrw h1 with ⟨rfl,rfl,_⟩ | ⟨_,h2⟩
  ·exact⟨_,_,_,hi⟩
  ·exact⟨_,_,_,h2⟩
 have hD : ∀ b,g.D b→(w.putObj k o').heap[b]?=w.heap[b]?:=fun b hb=>putA _ _ _ _ (fun e=>r3 (e ▸ hb))
 have hne : ∀ {j b:Nat},OwAt g h j b→b≠k:=fun hb e=>hs.own_ne_raw hb (by subst e;exact⟨o,T,vs,hi⟩)
 refine⟨⟨?_,fun a b c h1 h2=>hs.inj a b c (how _ _ h1) (how _ _ h2),fun b hb=>by simpa using hs.lt b hb,fun j v l hl=>?_,fun j v l hl hf=>?_,hs.glob.mono (fun _ h=>h) hD,?_,fun a b c h1 h2=>hs.rinj a b c (hrw' _ _ h1) (hrw' _ _ h2)⟩,⟨rfl,rfl,rfl,by simp,fun b _ hn=>putA _ _ _ _ (fun e=>hn (.inr ⟨i,o,T,vs,by subst e;exact hi⟩))⟩,fun j hj=>hj.imp (fun ⟨a,h1⟩=>⟨a,how _ _ h1⟩) (fun ⟨a,h1⟩=>⟨a,hrw' _ _ h1⟩)⟩
 ·intro j v ty s c h1
  obtain⟨hj,h2⟩:=hget h1
  obtain⟨A,cap,e1,e2,e3⟩:=hs.ent _ _ _ _ _ h2
  refine⟨A,cap,e1,e2,e3.mono (Gh.le.refl g) (fun _ _ _ h=>h) hD (fun b hb h0=>?_)⟩
  cases A with
  | none=>simp at hb
  | some a=>exact putA _ _ _ _ (hne (j:=j) ⟨v,ty,s,c,a,cap,h2,e1,h0,by simpa using hb⟩)
 ·have:=hs.fresh j v l hl
  exact⟨by simpa using this.1,fun v' ty s c h1=>this.2 _ _ _ _ (hget h1).2⟩
 ·by_cases hj:j=i
  ·subst hj;rw[List.getElem?_set_self hil] at hf;rcases he with rfl | rfl <;> cases hf
  ·rw[List.getElem?_set_ne (Ne.symm hj)] at hf;exact hs.free _ _ _ hl hf
 ·intro j b x T' vs' h1
  rcases hrw h1 with ⟨rfl,rfl,rfl,rfl,rfl⟩ | ⟨hj,h2⟩
  ·exact⟨World.putObj_heap_same hkl,ho,r3,RepL.mono (Gh.le.refl g) hD _ _ r4⟩
  ·obtain⟨q1,q2,q3,q4⟩:=hs.raw _ _ _ _ _ h2
   exact⟨(putA _ _ _ _ (fun e=>hj (hs.rinj j i b ⟨_,_,_,h2⟩ ⟨o,T,vs,by subst e;exact hi⟩))).trans q1,q2,q3,RepL.mono (Gh.le.refl g) hD _ _ q4⟩
theorem SimH.newRaw {w:World}{g:Gh}{h:AH}(hs:SimH w g h) {o:Obj}{T:List AV}{vs:List Value}(ho:o.isCells=false) (hr:RepL w g T vs) :
  SimH (w.alloc o) g (h++[.raw w.heap.size o T vs])∧Fr w (Ow g h) (w.alloc o) ∧ ∀ j,Ow g (h++[.raw w.heap.size o T vs]) j→Ow g h j∨w.heap.size≤j:=by
 have hget : ∀ {j v ty s:Nat} {c:List AV},(h++[.raw w.heap.size o T vs])[j]?=some (.mk v ty s c)→h[j]?=some (.mk v ty s c):=by
  intro j v ty s c h1
  by_cases hj:j<h.length
  ·rwa [List.getElem?_append_left hj] at h1
  ·rw[List.getElem?_append_right om] at h1
   cases hk:j-h.length with
   | zero=>rw[hk] at h1;simp at h1
   | succ m=>rw[hk] at h1;simp at h1
 have hrw : ∀ {j b:Nat} {x:Obj} {T':List AV} {vs':List Value},(h++[.raw w.heap.size o T vs])[j]?=some (.raw b x T' vs')→(j=h.length∧b=w.heap.size∧x=o∧T'=T∧vs'=vs)∨h[j]?=some (.raw b x T' vs'):=by
  intro j b x T' vs' h1
  by_cases hj:j<h.length
  ·rw[List.getElem?_append_left hj] at h1;exact .inr h1
  ·rw[List.getElem?_append_right om] at h1
   cases hk:j-h.length with
   | zero=>rw[hk] at h1;simp at h1;obtain⟨rfl,rfl,rfl,rfl⟩:=h1;exact .inl ⟨by omega,rfl,rfl,rfl,rfl⟩
   | succ m=>rw[hk] at h1;simp at h1
 have how : ∀ j b,OwAt g (h++[.raw w.heap.size o T vs]) j b→OwAt g h j b:=by
  rintro j b ⟨v,ty,s,c,a,cap,e1,e2⟩
  exact⟨v,ty,s,c,a,cap,hget e1,e2⟩
 have hold : ∀ b,b<w.heap.size→(w.alloc o).heap[b]?=w.heap[b]?:=fun b hb=>ZmW _ _ _ hb
 have hD : ∀ b,g.D b→(w.alloc o).heap[b]?=w.heap[b]?:=fun b hb=>hold b (hs.lt b hb)
 have hlt : ∀ {j b:Nat},RwAt h j b→b<w.heap.size:=fun hb=>(hs.own_not_D (.inr ⟨_,hb⟩)).2
 refine⟨⟨?_,fun a b c h1 h2=>hs.inj a b c (how _ _ h1) (how _ _ h2),fun b hb=>by have:=hs.lt b hb;simp;omega,fun j v l hl=>?_,fun j v l hl hf=>?_,hs.glob.mono (fun _ h=>h) hD,?_,?_⟩,⟨rfl,rfl,rfl,by simp,fun b hb _=>hold b hb⟩,?_⟩
 ·intro j v ty s c h1
  have h2:=hget h1
  obtain⟨A,cap,e1,e2,e3⟩:=hs.ent _ _ _ _ _ h2
  refine⟨A,cap,e1,e2,e3.mono (Gh.le.refl g) (fun _ _ _ h=>h) hD (fun b hb h0=>?_)⟩
  cases A with
  | none=>simp at hb
  | some a=>exact hold b (hs.own_not_D (.inl ⟨j,v,ty,s,c,a,cap,h2,e1,h0,by simpa using hb⟩)).2
 ·have:=hs.fresh j v l hl
  exact⟨by simp;omega,fun v' ty s c h1=>this.2 _ _ _ _ (hget h1)⟩
 ·have:=(hs.fresh j v l hl).1
  rw[List.getElem?_append_left this] at hf
  exact hs.free _ _ _ hl hf
 ·intro j b x T' vs' h1
  rcases hrw h1 with ⟨rfl,rfl,rfl,rfl,rfl⟩ | h2
  ·exact⟨World.alloc_heap_new w _,ho,fun hd=>Nat.lt_irrefl _ (hs.lt _ hd),RepL.mono (Gh.le.refl g) hD _ _ hr⟩
  ·obtain⟨q1,q2,q3,q4⟩:=hs.raw _ _ _ _ _ h2
   exact⟨(hold b (hlt ⟨_,_,_,h2⟩)).trans q1,q2,q3,RepL.mono (Gh.le.refl g) hD _ _ q4⟩
 ·rintro a b c ⟨x1,x2,x3,h1⟩ ⟨y1,y2,y3,h2⟩
  rcases hrw h1 with ⟨rfl,rfl,_⟩ | h1'
  ·rcases hrw h2 with ⟨rfl,_⟩ | h2'
   ·rfl
   ·exact absurd (hlt ⟨_,_,_,h2'⟩) (Nat.lt_irrefl _)
  ·rcases hrw h2 with ⟨rfl,rfl,_⟩ | h2'
   ·exact absurd (hlt ⟨_,_,_,h1'⟩) (Nat.lt_irrefl _)
   ·exact hs.rinj a b c ⟨_,_,_,h1'⟩ ⟨_,_,_,h2'⟩
 ·rintro b (⟨a,h1⟩ | ⟨a,x1,x2,x3,h1⟩)
  ·exact .inl (.inl ⟨a,how _ _ h1⟩)
  ·rcases hrw h1 with ⟨_,rfl,_⟩ | h2
   ·exact .inr (Nat.le_refl _)
   ·exact .inl (.inr ⟨a,_,_,_,h2⟩)
theorem St.start {w:World}{g:Gh}{h:AH}{T:List AV}{a:Act}(hs:SimH w g h) (ht:RepL w g T a.tmps.toList):St h.length w (Ow g h) ⟨g.D,g.loc,a.defers⟩ T h a w g :=
 ⟨ht,rfl,hs,Fr.refl _ _,⟨fun _ h=>h,fun _ _ _ h=>h⟩,fun i v l hl=>(hs.fresh i v l hl).1,fun k hk=>.inl hk⟩
structure LkY (w:World) (g:Gh) (h:AH) (w':World) (g':Gh) (h':AH):Prop where
 sim:SimH w' g' h'
 le:g.le g'
 fr:Fr w (Ow g h) w'
 ow : ∀ k,Ow g' h' k→Ow g h k∨w.heap.size≤k
theorem LkY.trans {a b c:World}{ga gb gc:Gh}{ha hb hc:AH}(h:LkY a ga ha b gb hb) (k:LkY b gb hb c gc hc):LkY a ga ha c gc hc:=by
 refine⟨k.sim,h.le.trans k.le,h.fr.trans k.fr ?_,?_⟩
 ·intro i hi hlt
  exact (h.ow i hi).resolve_right om
 ·intro i hi
  rcases k.ow i hi with ho | ho
  ·exact h.ow i ho
  ·exact .inr (Nat.le_trans h.fr.size ho)
theorem LkY.of_st {w w':World}{g g':Gh}{h h':AH}{n0:Nat}{df:List Deferred}{T:List AV}{a:Act}(st:St n0 w (Ow g h) ⟨g.D,g.loc,df⟩ T h' a w' g'):LkY w g h w' g' h':=⟨st.sim,⟨st.le.D,st.le.loc⟩,st.fr,st.ow⟩
theorem LkY.rep {w w':World}{g g':Gh}{h h':AH}(hs:SimH w g h) (k:LkY w g h w' g' h') {T:List AV}{vs:List Value}(ht:RepL w g T vs):RepL w' g' T vs :=
 RepL.mono k.le (fun b hb=>k.fr.block b (hs.lt b hb) (fun ho=>(hs.own_not_D ho).1 hb)) _ _ ht
theorem LkY.setRaw {w:World}{g:Gh}{h:AH}(hs:SimH w g h) {i k:Nat}{o o':Obj}{T:List AV}{vs:List Value}(hi:h[i]?=some (.raw k o T vs)) (ho:o'.isCells=false) (e:Ent) (he:e=.raw k o' T vs∨e=.gone):LkY w g h (w.putObj k o') g (h.set i e):=by
 obtain⟨h1,h2,h3⟩:=hs.setRaw hi ho e he
 exact⟨h1,Gh.le.refl g,h2,fun k hk=>.inl (h3 k hk)⟩
theorem LkY.newRaw {w:World}{g:Gh}{h:AH}(hs:SimH w g h) {o:Obj}{T:List AV}{vs:List Value}(ho:o.isCells=false) (hr:RepL w g T vs):LkY w g h (w.alloc o) g (h++[.raw w.heap.size o T vs]):=by
 obtain⟨h1,h2,h3⟩:=hs.newRaw ho hr
 exact⟨h1,Gh.le.refl g,h2,h3⟩
structure RgC where
 pre:List Code
 id:Nat
 g:Operand
 ps:Array Tmp
 asg:Code
 body:Code
 post:List Code
def Zm4:Code→List Code
 | .seq a b=>Zm4 a++Zm4 b
 | c=>[c]
def Zbv:List Code→Option RgC
 | []=>none
 | .block id (.rangeFunc g ps a b)::y=>some ⟨[],id,g,ps,a,b,y⟩
 | x::y=>(Zbv y).map fun r=>{ r with pre:=x::r.pre }
def splitR (c:Code):Option RgC:=Zbv (Zm4 c)
def wpL (F:Fence) (n:Nat) (P:Program):List Code→(Exit→Act→World→Prop)→Act→World→Prop
 | [],Q,a,w=>Q .normal a w
 | x::l,Q,a,w=>x.wpIn F n P (Exit.then (wpL F n P l Q) Q) a w
theorem ZhE {F:Fence}{n:Nat} : ∀ {l:List Code}{Q Q':Exit→Act→World→Prop}{a:Act}{w:World},wpL F n P l Q a w→(∀ e a w,Q e a w→Q' e a w)→wpL F n P l Q' a w
 | [],Q,Q',a,w,hq,h=>h _ _ _ hq
 | x::l,Q,Q',a,w,hq,h=>by
  refine wpIn_mono hq ?_
  intro e a w hq
  cases e with
  | normal=>exact ZhE hq h
  | _=>exact h _ _ _ hq
theorem ZhF {F:Fence}{n:Nat} : ∀ (l m:List Code) {Q:Exit→Act→World→Prop}{a:Act}{w:World},wpL F n P (l++m) Q a w↔wpL F n P l (Exit.then (wpL F n P m Q) Q) a w
 | [],m,Q,a,w=>Iff.rfl
 | x::l,m,Q,a,w=>by
  constructor
  ·intro hq
   refine wpIn_mono hq ?_
   intro e a w hq
   cases e with
   | normal=>exact (ZhF l m).1 hq
   | _=>exact hq
  ·intro hq
   refine wpIn_mono hq ?_
   intro e a w hq
   cases e with
   | normal=>exact (ZhF l m).2 hq
   | _=>exact hq
theorem Zll {F:Fence}{n:Nat}(c:Code) : ∀ {Q:Exit→Act→World→Prop}{a:Act}{w:World},wpL F n P (Zm4 c) Q a w→c.wpIn F n P Q a w:=by
 fun_induction Zm4 c with
 | case1 x y ihx ihy =>
  intro Q a w hq
  refine wpIn_seq (wpIn_mono (ihx ((ZhF _ _).1 hq)) ?_)
  intro e a w hq
  cases e with
  | normal=>exact ihy hq
  | _=>exact hq
 | case2 c hc =>
  intro Q a w hq
  refine wpIn_mono (show c.wpIn F n P (Exit.then (wpL F n P [] Q) Q) a w from hq) ?_
  intro e a w hq
  cases e <;> exact hq
theorem Zmb : ∀ {l:List Code}{r:RgC},Zbv l=some r→l=r.pre++Code.block r.id (.rangeFunc r.g r.ps r.asg r.body)::r.post:=by
 intro l
 fun_induction Zbv l with
 | case1=>intro r h;cases h
 | case2 id g ps x b y=>intro r h;cases h;rfl
 | case3 x y hx ih =>
  intro r h
  obtain⟨r',h1,rfl⟩:=Option.map_eq_some_iff.1 h
  rw[ih h1];rfl
theorem ZiF {F:Fence}{n:Nat}{Q:Exit→Act→World→Prop}(c:Code) {r:RgC}(hc:splitR c=some r) {a:Act}{w:World}
  (hw:wpL F n P r.pre (Exit.then ((Code.block r.id (.rangeFunc r.g r.ps r.asg r.body)).wpIn F n P (Exit.then (wpL F n P r.post Q) Q)) Q) a w):c.wpIn F n P Q a w:=by
 refine Zll c ?_
 rw[Zmb hc]
 exact (ZhF _ _).2 hw
structure AFR where
 pre:List AC
 g:Operand
 ps:Array Tmp
 asg:AC
 body:AC
 post:AC
 res:List AR
 ntmps:Nat
def Zhl (P:Program) (f:FuncId):Option AFR :=
 match P.funcs[f]? with
 | some fn=>if fn.name == "runtime.NumGoroutine" then none else match fn.body with
  | some c=>match splitR c with
   | some r=>match r.pre.mapM (comp P),comp P r.asg,comp P r.body,r.post.mapM (comp P),fn.results.toList.mapM (Zfn P) with
    | some p,some a,some b,some q,some rs=>some ⟨p,r.g,r.ps,a,b,q.foldr .seq .skip,rs,fn.ntmps⟩
    | _,_,_,_,_=>none
   | none=>none
  | none=>none
 | none=>none
theorem ZfV {n0:Nat} : ∀ (l:List Code) (al:List AC),l.mapM (comp P)=some al → ∀ {Q:AX→List AV→AH→Prop}{T:List AV}{h:AH},aw P n0 (al.foldr .seq .skip) Q T h →
  ∀ w0 S0 g0 a w g,St n0 w0 S0 g0 T h a w g→wpL Fence.wide 0 P l (Zjq n0 w0 S0 g0 Q) a w
 | [],al,hm,Q,T,h,hw,w0,S0,g0,a,w,g,st=>by
  simp at hm;subst hm
  exact⟨.normal,T,h,g,st,trivial,hw⟩
 | x::l,al,hm,Q,T,h,hw,w0,S0,g0,a,w,g,st=>by
  simp only[List.mapM_cons,Option.bind_eq_bind,Option.bind_eq_some_iff,Option.pure_def,Option.some.injEq] at hm
  obtain⟨ac,h1,al',h2,rfl⟩:=hm
  refine wpIn_mono (@Zd5 P n0 rdN x ac h1 _ _ _ hw w0 S0 g0 a w g st) ?_
  rintro e a' w' ⟨z,T',h',g',k1,k2,k3⟩
  cases z <;> cases e <;> simp only[ExR] at k2 <;> simp only[Exit.then,AX.thn] at k3 ⊢
  case normal.normal =>
   obtain⟨T1,h1,hle,hq⟩:=k3
   obtain⟨g1,st1⟩:=hle w0 S0 g0 a' w' g' k1
   exact ZfV l al' h2 hq w0 S0 g0 a' w' g1 st1
  case exit.exit=>exact⟨_,T',h',g',k1,by simp only[ExR];exact k2,k3⟩
  case ret.ret=>exact⟨_,T',h',g',k1,by simp only[ExR],k3⟩
  case pan.panic=>exact⟨_,T',h',g',k1,by simp only[ExR];exact k2,k3⟩
def setPs (T:List AV) (ps:Array Tmp) (as1:List AV):List AV:=(ps.toList.zip as1).foldl (fun T p=>T.set p.1 p.2) T
theorem ZiK {w:World}{g:Gh} : ∀ (ps:List Tmp) (as1:List AV) (args:List Value) (T:List AV) (tm:List Value),RepL w g T tm→RepL w g as1 args →
  RepL w g ((ps.zip as1).foldl (fun T p=>T.set p.1 p.2) T) ((ps.zip args).foldl (fun T p=>T.set p.1 p.2) tm)
 | [],_,_,_,_,ht,_=>by simpa using ht
 | p::ps,[],args,T,tm,ht,ha=>by simp only[RepL] at ha;subst ha;simpa using ht
 | p::ps,c::as1,args,T,tm,ht,ha=>by
  simp only[RepL] at ha
  obtain⟨u,us,rfl,h1,h2⟩:=ha
  simp only[List.zip_cons_cons,List.foldl_cons]
  exact ZiK ps as1 us _ _ (ht.set h1) h2
theorem Zhc : ∀ (l:List (Tmp×Value)) (tm:Array Value),(l.foldl (fun t p=>t.setIfInBounds p.1 p.2) tm).toList=l.foldl (fun T p=>T.set p.1 p.2) tm.toList
 | [],tm=>rfl
 | p::l,tm=>by simp only[List.foldl_cons];rw[Zhc l];simp
def bodyQ (i l:Nat) (rdy bsy fin:Obj) (T:List AV) (vs:List Value) (R2:AE→AH→Prop):AX→List AV→AH→Prop
 | .normal,_,h=>h[i]?=some (.raw l bsy T vs)∧R2 (.ret (.v (.bool true))) (h.set i (.raw l rdy T vs))
 | .ret,_,h=>h[i]?=some (.raw l bsy T vs)∧R2 (.ret (.v (.bool false))) (h.set i (.raw l fin T vs))
 | _,_,_=>False
def asgQ (P:Program) (fr:AFR) (i l:Nat) (rdy bsy fin:Obj) (T:List AV) (vs:List Value) (R2:AE→AH→Prop) (x:AX) (T1:List AV) (h2:AH):Prop :=
 x=.normal∧h2[i]?=some (.raw l rdy T vs) ∧ ∀ n1,(h2.set i (.raw l bsy T vs)).length=n1→(∀ e∈h2.set i (.raw l bsy T vs),e.lt n1=true)→aw P n1 fr.body (bodyQ i l rdy bsy fin T vs R2) T1 (h2.set i (.raw l bsy T vs))
def Znq (P:Program) (fr:AFR) (i l:Nat) (rdy bsy fin:Obj) (T:List AV) (vs:List Value):Prop :=
 ∀ (as1:List AV) (h:AH) (R2:AE→AH→Prop),as1.length=fr.ps.size→h[i]?=some (.raw l rdy T vs) →
  (∀ n0,h.length=n0→(∀ e∈h,e.lt n0=true)→AV.ltL n0 as1=true→AV.bdL as1→AV.bdL T→aw P n0 fr.asg (asgQ P fr i l rdy bsy fin T vs R2) (setPs T fr.ps as1) h)→AYield P l as1 h R2
def Zgd (rs:List AR) (N D:Nat) (R:AE→AH→Prop):AX→List AV→AH→Prop
 | .normal,T,h=>h[N]?=some (mkD D)∧match aRes rs T (h.set N .gone) with
  | some c=>R (.ret c) (h.set N .gone)
  | none=>False
 | .ret,T,h=>h[N]?=some (mkD D)∧match aRes rs T (h.set N .gone) with
  | some c=>R (.ret c) (h.set N .gone)
  | none=>False
 | _,_,_=>False
def rangeA (P:Program) (fr:AFR) (R:AE→AH→Prop) (T:List AV) (h:AH):Prop :=
  ∃ gf caps,Zad T fr.g=.clo (.func gf) caps ∧ ∀ (l D:Nat) (rdy bsy fin:Obj) (vs:List Value),(∀ e∈h,e.lt h.length=true)→AV.ltL h.length T=true→Znq P fr (h.length+1) l rdy bsy fin T vs →
    ACalls P gf (.v (.func (.yield l) #[] #[])::caps) (h++[mkD D,.raw l rdy T vs]) fun r h3=>(∃ c,r=.ret c) ∧
      ((h3[h.length+1]?=some (.raw l rdy T vs) ∧ ∀ n0,(h3.set (h.length+1) .gone).length=n0→(∀ e∈h3.set (h.length+1) .gone,e.lt n0=true)→aw P n0 fr.post (Zgd fr.res h.length D R) T (h3.set (h.length+1) .gone)) ∨
       (h3[h.length+1]?=some (.raw l fin T vs)∧Zgd fr.res h.length D R .ret T (h3.set (h.length+1) .gone)))
def preQ (P:Program) (fr:AFR) (n0:Nat) (R:AE→AH→Prop):AX→List AV→AH→Prop
 | .normal,T,h => ∃ T1 h1,ALe n0 T h T1 h1∧rangeA P fr R T1 h1
 | .ret,T,h=>match aRes fr.res T h with
  | some c=>R (.ret c) h
  | none=>False
 | _,_,_=>False
theorem yrule {fr:AFR}{asg body:Code}(ha:comp P asg=some fr.asg) (hb:comp P body=some fr.body) {i D l:Nat}{T:List AV}{tm:Array Value}{rec:LoopState→Option Code→Loop}{fn:FuncId}
    (hrec:rec=fun st pe=>{ state:=st,pending:=pe,fn:=fn,tmps:=tm,params:=fr.ps,assign:=asg,body:=body,defers:=D }) :
    Znq P fr i l (.loop (rec .ready none)) (.loop (rec .busy none)) (.loop (rec .done (some .ret))) T tm.toList:=by
  intro as1 h R2 hsz hi hw w g vs hs hr
  obtain⟨q1,q2,q3,q4⟩:=hs.raw _ _ _ _ _ hi
  have hvs:vs.size=fr.ps.size:=by have:=hr.length;simp only[Array.length_toList] at this;omega
  have hy:=run_yield (P:=P) (args:=vs) q1 (by rw[hrec];exact hvs)
  rw[hrec] at hy
  refine⟨fn,_,asg,body,hy,roundIn_of_wpIn trivial ?_⟩
  have ht:RepL w g (setPs T fr.ps as1) ((fr.ps.zip vs).foldl (fun t p=>t.setIfInBounds p.1 p.2) tm).toList:=by
    have:=ZiK fr.ps.toList as1 vs.toList T tm.toList q4 hr
    rw[←Array.foldl_toList,Zhc,Array.toList_zip]
    exact this
  letI:Rd:=rdS l
  refine wpIn_mono (Zd5 asg fr.asg ha (hw _ rfl hs.ltE (RepL.lt (fun i v l hl=>(hs.fresh i v l hl).1) _ _ hr) (RepL.bd _ _ hr) (RepL.bd _ _ q4)) w _ _ _ w g (St.start (a:={ tmps:=(fr.ps.zip vs).foldl (fun t p=>t.setIfInBounds p.1 p.2) tm,defers:=[] }) hs ht)) ?_
  rintro e a1 w1 ⟨x1,T1,h2,g1,st1,hx1,rfl,hi2,hw1⟩
  cases e <;> simp only[ExR] at hx1
  simp only[Exit.then]
  have k1:=LkY.of_st st1
  obtain⟨r1,_,_,_⟩:=k1.sim.raw _ _ _ _ _ hi2
  refine⟨_,run_beginRound r1 (by rw[hrec]),?_⟩
  have e0:({ rec .ready none with state:=.busy }:Loop)=rec .busy none:=by rw[hrec]
  rw[e0]
  have k2:=LkY.setRaw k1.sim hi2 (o':=.loop (rec .busy none)) rfl (.raw l (.loop (rec .busy none)) T tm.toList) (.inl rfl)
  have st2:=St.start (a:=a1) k2.sim (k2.rep k1.sim st1.tmps)
  refine wpIn_mono (Zd5 body fr.body hb (hw1 _ rfl k2.sim.ltE) _ _ _ _ _ g1 st2) ?_
  rintro e a2 w2 ⟨x2,T2,h3,g2,st3,hx2,hq⟩
  have k3:=(k1.trans k2).trans (LkY.of_st st3)
  have fin : ∀ (jump : Option Code) (b : Bool), h3[i]? = some (.raw l (.loop (rec .busy none)) T tm.toList) → b = jump.isNone →
      R2 (.ret (.v (.bool b))) (h3.set i (.raw l (.loop (rec (if jump.isNone then .ready else .done) jump)) T tm.toList)) →
      ∃ v w',(Instr.endRound l jump).run P w2=.ok v w' ∧ ∃ x h' g',EndR w' g' (.returned v) x∧SimH w' g' h'∧g.le g'∧Fr w (Ow g h) w'∧(∀ k,Ow g' h' k→Ow g h k∨w.heap.size≤k)∧R2 x h':=by
    rintro jump b hi3 rfl hR
    obtain⟨p1,_,_,_⟩:=k3.sim.raw _ _ _ _ _ hi3
    refine⟨_,_,run_endRound jump p1,?_⟩
    have e1:({ rec .busy none with state:=if jump.isNone then .ready else .done,pending:=jump }:Loop)=rec (if jump.isNone then .ready else .done) jump:=by rw[hrec]
    rw[e1]
    have k4:=LkY.setRaw k3.sim hi3 (o':=.loop (rec (if jump.isNone then .ready else .done) jump)) rfl (.raw l (.loop (rec (if jump.isNone then .ready else .done) jump)) T tm.toList) (.inl rfl)
    have k5:=k3.trans k4
    exact⟨.ret (.v (.bool jump.isNone)),_,g2,by simp only[EndR,Rep],k5.sim,k5.le,k5.fr,k5.ow,hR⟩
  cases x2 <;> cases e <;> simp only[ExR] at hx2 <;> simp only[bodyQ] at hq <;> try (exact hq.elim)
  · exact fin none true hq.1 rfl hq.2
  · exact fin (some .ret) false hq.1 rfl hq.2
theorem Zgn {f:FuncId}(he:enters P f=true) (args:Array Value) (w:World):(callFunc f args).run P w=.ok (.enter f args) w:=by
 unfold enters at he
 split at he <;> try (cases he;done)
 rename_i fd hfd
 simp only[Bool.and_eq_true,bne_iff_ne,ne_eq] at he
 have hb:fd.body≠none:=by intro e;simp[e] at he
 simp[callFunc,hfd,he.1,hb]
theorem ACalls.of_range {f:FuncId}{fr:AFR}(hc:Zhl P f=some fr) {args:List AV}{h:AH}{R:AE→AH→Prop}(hw:aw P h.length (fr.pre.foldr .seq .skip) (preQ P fr h.length R) (args++List.replicate (fr.ntmps-args.length) .any) h):ACalls P f args h R:=by
  unfold Zhl at hc
  split at hc <;> try (cases hc;done)
  rename_i fn hfn
  split at hc <;> try (cases hc;done)
  rename_i hname
  split at hc <;> try (cases hc;done)
  rename_i c hb
  split at hc <;> try (cases hc;done)
  rename_i rg hrg
  split at hc <;> try (cases hc;done)
  rename_i ap aa ab aq rs hap haa hab haq hrs
  cases hc
  simp only at hw
  refine⟨?_,fun w g vs hs ha=>(callsIn_wide (n:=0)).1 (callsIn_of_wp_marks hfn hb trivial (ZiF c hrg ?_) rfl)⟩
  · simp only[enters,hfn,hb]
    simp only[Bool.not_eq_true] at hname
    simp[bne,hname]
  have hlen:vs.size=args.length:=by simpa using ha.length
  have ht:RepL w g (args++List.replicate (fn.ntmps-args.length) .any) (vs++Array.replicate (fn.ntmps-vs.size) undef).toList:=by
    simp only[Array.toList_append,Array.toList_replicate,hlen]
    refine ha.append ?_
    have:=ZhV w g (List.replicate (fn.ntmps-args.length) undef)
    simpa using this
  have fin : ∀ {w1 : World} {g1 : Gh} {h1 : AH} {T1 : List AV} {a1 : Act} {c : AV}, LkY w g h w1 g1 h1 → RepL w1 g1 T1 a1.tmps.toList → aRes rs T1 h1 = some c → R (.ret c) h1 →
      LeavesInM Fence.wide 0 P fn a1.tmps (fun e w' => ∃ x h' g',EndR w' g' e x∧SimH w' g' h'∧g.le g'∧Fr w (Ow g h) w'∧(∀ k,Ow g' h' k→Ow g h k∨w.heap.size≤k)∧R x h') [] .returning w1:=by
    intro w1 g1 h1 T1 a1 c k1 ht1 hres hR
    obtain⟨v,r1,r2⟩:=Zem hrs hres k1.sim ht1
    exact⟨v,by simpa using r1,.ret c,h1,g1,r2,k1.sim,k1.le,k1.fr,k1.ow,hR⟩
  have hpre:=ZfV rg.pre ap hap hw w _ _ _ w g (St.start (a:={ tmps:=vs++Array.replicate (fn.ntmps-vs.size) undef,defers:=[] }) hs ht)
  refine ZhE hpre ?_
  rintro e1 a1 w1 ⟨x1,T1,h1,g1,st1,hx1,hq1⟩
  have hdf:a1.defers=[]:=st1.defers
  cases x1 <;> cases e1 <;> simp only[ExR] at hx1 <;> simp only[preQ] at hq1 <;> try (exact hq1.elim)
  rotate_left 1
  · split at hq1 <;> try (exact hq1.elim)
    rename_i c0 hc0
    show LeavesInM Fence.wide 0 P fn a1.tmps _ a1.defers .returning w1
    rw[hdf]
    exact fin (LkY.of_st st1) st1.tmps hc0 hq1
  obtain⟨T1',h1',hle1,gf,caps,hgf,hit⟩:=hq1
  obtain⟨g1',st1⟩:=hle1 _ _ _ _ _ _ st1
  have k1:=LkY.of_st st1
  simp only[Exit.then]
  refine wpIn_block (wpIn_rangeFunc ?_)
  intro fn1 _
  show ∃ (l:Nat) (mark:List Deferred) (w₁:World) (d:Deferred) (w₁':World) (f:FuncId) (args:Array Value) (w₂:World),(Instr.enterLoop fn1 a1.tmps rg.ps rg.asg rg.body none).run P w1=_∧_
  obtain⟨rec,hrec⟩ : ∃ rec:LoopState→Option Code→Loop,rec=fun st pe=>{ state:=st,pending:=pe,fn:=fn1,tmps:=a1.tmps,params:=rg.ps,assign:=rg.asg,body:=rg.body,defers:=w1.heap.size }:=⟨_,rfl⟩
  have k2:=LkY.newRaw k1.sim (o:=dfo) (T:=[]) (vs:=[]) rfl (by simp only[RepL])
  have k3:=LkY.newRaw k2.sim (o:=.loop (rec .ready none)) (T:=T1') (vs:=a1.tmps.toList) rfl (k2.rep k1.sim st1.tmps)
  rw[World.size_alloc,List.append_assoc,List.cons_append,List.nil_append] at k3
  have k123:=(k1.trans k2).trans k3
  have hcallee:=ZbE st1.tmps rg.g
  rw[hgf] at hcallee
  simp only[Rep] at hcallee
  obtain⟨cv,hcv,hcr⟩:=hcallee
  have hy:=yrule (P:=P) (fr:=⟨ap,rg.g,rg.ps,aa,ab,aq.foldr .seq .skip,rs,fn.ntmps⟩) haa hab (i:=h1'.length+1) (D:=w1.heap.size) (l:=w1.heap.size+1) (T:=T1') hrec
  obtain⟨heng,hcall⟩:=hit (w1.heap.size+1) w1.heap.size _ _ _ a1.tmps.toList st1.sim.ltE (RepL.lt (fun i v l hl=>(st1.sim.fresh i v l hl).1) _ _ st1.tmps) hy
  refine⟨w1.heap.size+1,[{ target:=.collected w1.heap.size,args := #[] }],(w1.alloc dfo).alloc (.loop (rec .ready none)),{ target:=.fn (.func gf) cv,args := #[.func (.yield (w1.heap.size+1)) #[] #[]] },(w1.alloc dfo).alloc (.loop (rec .ready none)),gf,
    #[.func (.yield (w1.heap.size+1)) #[] #[]]++cv,(w1.alloc dfo).alloc (.loop (rec .ready none)),(by rw[hrec];exact run_enterLoop_outer _ _ _ _ _),?_,fun _ _=>trivial,?_,fun h=>by simp[Fence.wide] at h,?_⟩
  · simp only[resolve,hcv]
    simp[go_sem]
  · simp[invoke,go_sem,Zgn heng]
  refine callsIn_wide.2 ((hcall _ g1' _ k123.sim (by
    rw[Array.toList_append]
    have hcr':=(k2.trans k3).rep k1.sim hcr
    simp only[List.cons_append,List.nil_append,RepL]
    exact⟨_,_,rfl,by simp only[Rep],hcr'⟩)).mono ?_)
  rintro e3 w3 ⟨x3,h3,g3,hx3,hs3,hle3,hfr3,how3,⟨c3,rfl⟩,hcase⟩
  cases e3 <;> simp only[EndR] at hx3
  have k4:LkY w g h w3 g3 h3:=k123.trans ⟨hs3,hle3,hfr3,how3⟩
  have ht3:RepL w3 g3 T1' a1.tmps.toList:=(LkY.mk hs3 hle3 hfr3 how3).rep k123.sim ((k2.trans k3).rep k1.sim st1.tmps)
  -- the end, with the mark taken up
  have fin2 : ∀ {w5 : World} {g5 : Gh} {h5 : AH} {T5 : List AV} {a5 : Act}, LkY w g h w5 g5 h5 → RepL w5 g5 T5 a5.tmps.toList → a5.defers = [{ target := .collected w1.heap.size, args := #[] }] → Zgd rs h1'.length w1.heap.size R .ret T5 h5 →
      LeavesInM Fence.wide 0 P fn a5.tmps (fun e w' => ∃ x h' g',EndR w' g' e x∧SimH w' g' h'∧g.le g'∧Fr w (Ow g h) w'∧(∀ k,Ow g' h' k→Ow g h k∨w.heap.size≤k)∧R x h') a5.defers .returning w5:=by
    rintro w5 g5 h5 T5 a5 k5 ht5 hd5 ⟨hi5,hR5⟩
    split at hR5 <;> try (exact hR5.elim)
    rename_i c5 hres
    rw[hd5]
    obtain⟨p1,_,_,_⟩:=k5.sim.raw _ _ _ _ _ hi5
    have k6:=LkY.setRaw k5.sim hi5 (o':=.deferred none) rfl .gone (.inr rfl)
    have ht6:=k6.rep k5.sim ht5
    refine⟨by simp,.inl ⟨_,_,rfl,run_takeDeferred p1,?_⟩⟩
    exact fin (k5.trans k6) ht6 hres hR5
  have drop : ∀ (o : Obj) (st : LoopState) (jump : Option Code), o = .loop (rec st jump) → h3[h1'.length + 1]? = some (.raw (w1.heap.size + 1) o T1' a1.tmps.toList) → st ≠ .busy →
      ∃ w4,(Instr.endLoop (w1.heap.size+1)).run P w3=.ok jump w4∧LkY w g h w4 g3 (h3.set (h1'.length+1) .gone)∧RepL w4 g3 T1' a1.tmps.toList:=by
    rintro o st jump rfl hi3 hst
    obtain⟨p1,_,_,_⟩:=hs3.raw _ _ _ _ _ hi3
    have k5:=LkY.setRaw hs3 hi3 (o':=.loop { rec st jump with state:=.exhausted }) rfl .gone (.inr rfl)
    have ht5:=k5.rep hs3 ht3
    refine⟨_,?_,k4.trans k5,ht5⟩
    have:=run_endLoop (P:=P) p1 (by rw[hrec];exact hst)
    rw[this]
    rw[hrec]
  rcases hcase with ⟨hi3,hpost⟩ | ⟨hi3,hpost⟩
  · obtain⟨w4,r4,k5,ht5⟩:=drop _ .ready none rfl hi3 (by simp)
    refine⟨none,w4,r4,?_⟩
    show wpL Fence.wide 0 P rg.post _ _ w4
    have st5:=St.start (a:={ a1 with defers:=[{ target:=.collected w1.heap.size,args := #[] }]++a1.defers }) k5.sim ht5
    refine ZhE (ZfV rg.post aq haq (hpost _ rfl k5.sim.ltE) _ _ _ _ _ g3 st5) ?_
    rintro e6 a6 w6 ⟨x6,T6,h6,g6,st6,hx6,hq6⟩
    have k6:=k5.trans (LkY.of_st st6)
    have hd6:a6.defers=[{ target:=.collected w1.heap.size,args := #[] }]:=by rw[st6.defers];simp[hdf]
    cases x6 <;> cases e6 <;> simp only[ExR] at hx6 <;> simp only[Zgd] at hq6 <;> try (exact hq6.elim)
    · exact fin2 k6 st6.tmps hd6 hq6
    · exact fin2 k6 st6.tmps hd6 hq6
  · obtain⟨w4,r4,k5,ht5⟩:=drop _ .done (some .ret) rfl hi3 (by simp)
    refine⟨some .ret,w4,r4,wpIn_ret ?_⟩
    exact fin2 (a5:={ a1 with defers:=[{ target:=.collected w1.heap.size,args := #[] }]++a1.defers }) k5 ht5 (by simp[hdf]) hpost
end
section
variable {P : Program} {Kp : AV → List AV → AH → Prop} {K : List AV → AH → Prop} {T T' : List AV} {h h' : AH} {d : Option Nat} {c : AV} {rest : List AOper}
theorem ZfG {f:FuncId}{fr:AFR}(hc:Zhl P f=some fr):enters P f=true:=by
 unfold Zhl at hc
 split at hc <;> try (cases hc;done)
 rename_i fn hfn
 split at hc <;> try (cases hc;done)
 rename_i hname
 split at hc <;> try (cases hc;done)
 rename_i c hb
 simp only[enters,hfn,hb]
 simp only[Bool.not_eq_true] at hname
 simp[bne,hname]
theorem tR' {f:FuncId}{fr:AFR}{args:List AV}{R:AE→Prop}(hc:Zhl P f=some fr) (hw : ∀ n,h.length=n→(∀ e∈h,e.lt n=true)→AV.ltL n args=true→AV.bdL args→aw P n (fr.pre.foldr .seq .skip) (preQ P fr n fun x h' => ∃ z,h'=h++z∧x.lt n=true∧R x) (tA' args fr.ntmps) (h++[]))
  (hl:Nat.ble args.length fr.ntmps=true:=by rfl):ACalls P f args h fun x h'=>h'=h∧R x:=by
 refine ACalls.gc_same ⟨ZfG hc,fun w g vs hs ha=>(ACalls.of_range hc ?_).2 w g vs hs ha⟩
 have:=hw h.length rfl hs.ltE (RepL.lt (fun i v l hl=>(hs.fresh i v l hl).1) _ _ ha) (RepL.bd _ _ ha)
 rw[List.append_nil] at this
 rw[ZiC _ _ (Nat.le_of_ble_eq_true hl)]
 exact this
theorem pre_go {fr:AFR}{n0 gf l0:Nat}{R:AE→AH→Prop}{T1 caps:List AV}{h1:AH}(hl:ALe n0 T h T1 h1) (hg:Zad T1 fr.g=.clo (.func gf) caps) (hn:h1.length=l0)
    (hi : ∀ (l D:Nat) (rdy bsy fin:Obj) (vs:List Value),(∀ e∈h1,e.lt l0=true)→AV.ltL l0 T1=true→Znq P fr (l0+1) l rdy bsy fin T1 vs →
      ACalls P gf (.v (.func (.yield l) #[] #[])::caps) (h1++[mkD D,.raw l rdy T1 vs]) fun r h3=>(∃ c,r=.ret c) ∧
      ((h3[l0+1]?=some (.raw l rdy T1 vs) ∧ ∀ n0,(h3.set (l0+1) .gone).length=n0→(∀ e∈h3.set (l0+1) .gone,e.lt n0=true)→aw P n0 fr.post (Zgd fr.res l0 D R) T1 (h3.set (l0+1) .gone)) ∨
       (h3[l0+1]?=some (.raw l fin T1 vs)∧Zgd fr.res l0 D R .ret T1 (h3.set (l0+1) .gone)))):preQ P fr n0 R .normal T h:=by
  subst hn;exact⟨T1,h1,hl,gf,caps,hg,hi⟩
theorem AYield.mono {l:Nat}{as1:List AV}{R R':AE→AH→Prop}(hc:AYield P l as1 h R) (hr : ∀ r h,R r h→R' r h):AYield P l as1 h R':=fun w g vs hs ha=>by
 obtain⟨f,t,a,b,h1,h2⟩:=hc w g vs hs ha
 exact⟨f,t,a,b,h1,h2.mono fun _ _ ⟨x,h',g',h1,h2,h3,h4,h5,h6⟩=>⟨x,h',g',h1,h2,h3,h4,h5,hr _ _ h6⟩⟩
theorem pre_ret {fr:AFR}{n0:Nat}{R:AE→AH→Prop}(hr:aRes fr.res T h=some c) (hR:R (.ret c) h):preQ P fr n0 R .ret T h:=by simp only[preQ,hr];exact hR
theorem ZhW {rs:List AR}{k D:Nat}{R:AE→AH→Prop}(h1:h[k]?=some (mkD D)) (h2:h.set k .gone=h') (hr:aRes rs T h'=some c) (hR:R (.ret c) h'):Zgd rs k D R .ret T h:=by subst h2;simp only[Zgd,hr];exact⟨h1,hR⟩
theorem YieldAt.gc {l:Nat}{as1:List AV}{R:AE→AH→Prop}(hc:AYield P l as1 h fun x h' => ∃ y z,h'=y++z∧y.length=h.length∧(∀ e∈y,e.lt h.length=true)∧x.lt h.length=true∧R x y):AYield P l as1 h R:=fun w g vs hs ha=>by
 obtain⟨f,t,a,b,q1,q2⟩:=hc w g vs hs ha
 refine⟨f,t,a,b,q1,q2.mono ?_⟩
 rintro e w' ⟨x,h',g',h1,h2,h3,h4,h5,y,z,rfl,hl,hlt,hx,hR⟩
 have hcut:=h2.cut (by rw[hl];exact hlt)
 refine⟨x,y,g'.cut y.length,?_,hcut,h3.cut (fun i v l hi=>by rw[hl];exact (hs.fresh _ _ _ hi).1),h4,fun k hk=>h5 k hk.of_cut,hR⟩
 rw[hl]
 cases x <;> cases e <;> simp only[EndR] at h1 ⊢
 ·exact Rep.cut _ _ hx h1
 ·obtain⟨v,e1,e2⟩:=h1;exact⟨v,e1,Rep.cut _ _ hx e2⟩
theorem y_go {fr:AFR}{i l:Nat}{rdy bsy fin:Obj}{T:List AV}{vs:List Value}(hY:Znq P fr i l rdy bsy fin T vs) {as1:List AV}(hi:h[i]?=some (.raw l rdy T vs)) (hsz:as1.length=fr.ps.size)
  (hw : ∀ n0,h.length=n0→(∀ e∈h,e.lt n0=true)→AV.ltL n0 as1=true→AV.bdL as1→AV.bdL T→aw P n0 fr.asg (asgQ P fr i l rdy bsy fin T vs fun x h2 => ∃ y z,h2=y++z∧y.length=n0∧(∀ e∈y,e.lt n0=true)∧x.lt n0=true∧x=.ret c∧y=h') (setPs T fr.ps as1) h) :
  AYield P l as1 h fun r h''=>r=.ret c∧h''=h' :=
 YieldAt.gc (hY as1 h _ hsz hi fun n0 hn hlt q1 q2 q3=>by subst hn;exact hw _ rfl hlt q1 q2 q3)
theorem asg_go {fr:AFR}{i l:Nat}{rdy bsy fin:Obj}{vs:List Value}{R2:AE→AH→Prop}{T0:List AV}(hi:h[i]?=some (.raw l rdy T0 vs)) (hs:h.set i (.raw l bsy T0 vs)=h') (hw : ∀ n1,h'.length=n1→(∀ e∈h',e.lt n1=true)→aw P n1 fr.body (bodyQ i l rdy bsy fin T0 vs R2) T h'):asgQ P fr i l rdy bsy fin T0 vs R2 .normal T h:=by
 subst hs;exact⟨rfl,hi,hw⟩
theorem body_go {i l:Nat}{rdy bsy fin:Obj}{vs:List Value}{R2:AE→AH→Prop}{T0:List AV}(hi:h[i]?=some (.raw l bsy T0 vs)) (hs:h.set i (.raw l rdy T0 vs)=h') (hR:R2 (.ret (.v (.bool true))) h'):bodyQ i l rdy bsy fin T0 vs R2 .normal T h:=by
 subst hs;exact⟨hi,hR⟩
theorem AYield.args {l:Nat}{as1 as2:List AV}{R:AE→AH→Prop}(hc:AYield P l as1 h R) (e:as2=as1):AYield P l as2 h R:=e ▸ hc
theorem k_callY {m:Bool}{q:List Bool}{rs:List Nat}{l:Nat}{x:Operand}{xs:List Operand}{as1:List AV}(hf:Zad T x=.v (.func (.yield l) #[] #[])) (hx:xs.map (Zad T)=as1) (hc:AYield P l as1 h fun r h''=>r=.ret c∧h''=h') (hr : ∀ id∈(bif m then rs else []),h'[id]?=h[id]?) (hp:aPut T d c=T') (hk:ZbX P rs q rest T' h' K):ZbX P rs (m::q) (⟨d,none,.call x xs⟩::rest) T h K:=by
 subst hp hx
 refine⟨fun _=>?_,fun h=>by cases h⟩
 refine⟨c,h',?_,hr,hk⟩
 simp only[hf,Zeu]
 exact⟨trivial,trivial,hc.mono fun r h2 hr=>⟨hr.2,hr.1⟩⟩
theorem s_callE {ι:Type}{H:ι→AH}{J:ι→Prop}{f:FuncId}{xs:List Operand}{as1:List AV}(hx:xs.map (Zad T)=as1) (hc:ACalls P f as1 h fun r h''=>r=.ret c ∧ ∃ i,J i∧h''=H i) (hp:aPut T d c=T') (hk : ∀ i,J i→arun P Kp rest T' (H i) K):arun P Kp (⟨d,none,.call (.func f) xs⟩::rest) T h K:=by
 subst hp
 refine Zml hx hc ?_
 rintro r h'' ⟨rfl,i,h1,rfl⟩
 exact hk i h1
theorem v_ldOF {α:Type}{f:α→List AV}{sz k off id v ty s:Nat}{l:List α}{x:Operand}(hx:Zad T x=.ptr id v (k*sz+off)) (he:h[id]?=some (.mk v ty s (rows f l))) (hf : ∀ x,(f x).length=sz) (hk:k<l.length) (ho:off<sz) (hc:(f l[k])[off]?=some c):aval h (Zad T) (.load false 1 x)=some c:=by
 refine Zae hx he ?_
 rw[←ZjE hf hk,List.getElem?_take_of_lt ho,List.getElem?_drop] at hc
 exact hc
end
end Go.Ab
end
section
namespace Go.Proofs.Yticajimgfndceaa
open Go.Ab Civ
attribute [local simp] ZbU Zkf Zko
section
theorem ZhB {a0 a1 a2 a3 a4 a5 a6 a7 a8 a9 a10:AV}{l:List AV}:(a0::a1::a2::a3::a4::a5::a6::a7::a8::a9::a10::l).take 11=[a0,a1,a2,a3,a4,a5,a6,a7,a8,a9,a10]:=rfl
theorem ZgI {a0 a1 a2 a3 a4 a5 a6 a7 a8 a9 a10 c0 c1 c2 c3 c4 c5 c6 c7 c8 c9 c10:AV}{l:List AV}:setCells (a0::a1::a2::a3::a4::a5::a6::a7::a8::a9::a10::l) 0 [c0,c1,c2,c3,c4,c5,c6,c7,c8,c9,c10]=c0::c1::c2::c3::c4::c5::c6::c7::c8::c9::c10::l:=rfl
theorem ZgH {a0 a1 a2 a3 a4 a5 a6 a7 a8 a9 a10:AV}{l:List AV}:((a0::a1::a2::a3::a4::a5::a6::a7::a8::a9::a10::l).drop 0).take 11=[a0,a1,a2,a3,a4,a5,a6,a7,a8,a9,a10]:=rfl
theorem ZlJ {a0 a1 a2 a3 a4 a5 a6:AV}{l:List AV}:((a0::a1::a2::a3::a4::a5::a6::l).drop 4).take 3=[a4,a5,a6]:=rfl
theorem ZlL {a0 a1 a2 c0 c1 c2:AV}{l:List AV}:setCells (a0::a1::a2::l) 0 [c0,c1,c2]=c0::c1::c2::l:=rfl
theorem ZlK {a0 a1 a2:AV}{l:List AV}:((a0::a1::a2::l).drop 0).take 3=[a0,a1,a2]:=rfl
theorem ZgP {τ:Operand→AV}{y0 y1:Operand}{x0_0 x1_0 x1_1 x1_2 x1_3 x1_4 x1_5 x1_6 x1_7 x1_8 x1_9 x1_10:AV}(h0:Zas (τ y0)=some [x0_0]) (l0:[x0_0].all leaf=true) (h1:Zas (τ y1)=some [x1_0,x1_1,x1_2,x1_3,x1_4,x1_5,x1_6,x1_7,x1_8,x1_9,x1_10]) (l1:[x1_0,x1_1,x1_2,x1_3,x1_4,x1_5,x1_6,x1_7,x1_8,x1_9,x1_10].all leaf=true):Zaw τ [(0,1,y0),(1,11,y1)] [(.v (.int .i64 0)),(.v (.string ⟨#[]⟩)),(.v (.int .i64 0)),(.v (.int .i64 0)),(.v (.int .i64 0)),(.v (.int .i64 0)),(.v (.int .i64 0)),(.v (.int .i64 0)),(.v (.int .i64 0)),(.v (.int .i64 0)),(.v (.int .i64 0)),(.v (.string ⟨#[]⟩))]=some [x0_0,x1_0,x1_1,x1_2,x1_3,x1_4,x1_5,x1_6,x1_7,x1_8,x1_9,x1_10]:=by
 simp only[Zaw,h0,l0,h1,l1]
 rfl
end
def c16:AC:=(Sr [Oo 2 (.box 31 11 (.tmp 0)),Mb 3 false] (Sr [Fa 4 0 2,Ld 5 4,Ld 6 1,Bn 7 .eql 5 6,Mv 3 7] .ret))
theorem k16:ZaO Try.prog 16=some ⟨c16,[(.tmp 3)],8⟩:=by kernel_rfl
def c7:AC:=(Sr [Oo 4 (.box 9 1 (.tmp 1)),Mc 6 0] (.seq (Sr [Mv 10 0,Oo 11 (.len false (.tmp 10)),Bc 12 .gtr 11 40] (Cd 12 (Sr [Mc 6 2] .ret) .skip)) (.seq (Sr [Mv 13 0,Oo 14 (.len false (.tmp 13)),Mc 15 0] (.block 0 (.loop (Sr [Bn 16 .lss 15 14] (.seq (Cd 16 .skip (.exit 0)) (.seq (.block 1 (Sr [Oo 17 (.ia 11 (.tmp 13) (.tmp 15)),Oo 18 (.load true 11 (.tmp 17)),Oo 8 (.new 31 11 [Ss,(iv 0),(iv 0),(iv 0),(iv 0),(iv 0),(iv 0),(iv 0),(iv 0),(iv 0),Ss]),⟨none,none,(.store 11 (.tmp 8) (.tmp 18))⟩] (Sr [Oo 19 (.load true 11 (.tmp 8)),Cl 20 14 [(.tmp 19)],Mv 9 20] (Sr [Mv 21 9,Bc 22 .neq 21 0] (Cd 22 (Sr [Mv 23 9,Mv 6 23] .ret) .skip))))) (.reg [Bc 24 .add 15 1,Mv 15 24]))))))) (.seq (.block 2 (Sr [Mv 26 2,Oo 27 (.bin .lss (.tmp 26) (.const (.int .i64 (-64800)))),Mv 28 27,Of 29 28 (mt 2),Of 30 28 (.bin .gtr (.tmp 29) (Ci 64800)),Oo 31 (.pick (.tmp 28) (.const (.bool true)) (.tmp 30)),Mv 25 31] (Cd 25 (Sr [Mc 6 3] .ret) (Sr [Mv 33 0,Oo 34 (.mkfn 16 [(.tmp 4)]),Cl 35 15 [(.tmp 33),(.tmp 34)],Oo 36 (.un .not (.tmp 35)),Mv 32 36] (Cd 32 (Sr [Mc 6 5] .ret) .skip))))) (Sr [Mc 6 0] .ret)))))
theorem k7:ZaO Try.prog 7=some ⟨c7,[(.tmp 6)],37⟩:=by kernel_rfl
def c12:AC:=(Sr [Oo 3 (.box 31 11 (.tmp 0)),Mc 6 0] (.seq (Sr [Fa 7 8 3,Ld 8 7] (.block 0 (Sr [Bc 10 .eql 8 1,Mv 9 10] (Cd 9 (Sr [Mv 11 1,Mv 12 2,Bn 13 .add 11 12,Mv 6 13] .ret) (Sr [Bc 15 .eql 8 2,Mv 14 15] (Cd 14 (Sr [Mv 16 1,Mv 6 16] .ret) .skip)))))) (Sr [Mc 6 0] .ret)))
theorem k12:ZaO Try.prog 12=some ⟨c12,[(.tmp 6)],17⟩:=by kernel_rfl
def c8:AC:=(Sr [Oo 2 (.box 22 1 (.tmp 0)),Oo 3 (.box 9 1 (.tmp 1)),Oo 4 (.mv (.const .nilFunc))] (Sr [Oo 5 (.mkfn 17 [(.tmp 2),(.tmp 3)]),Mv 4 5] .ret))
theorem k8:ZaO Try.prog 8=some ⟨c8,[(.tmp 4)],6⟩:=by kernel_rfl
def c17:AC:=(Sr [Ld 9 1,Oo 10 (.len false (.tmp 9)),Mc 11 0] (.block 0 (.loop (Sr [Bn 12 .lss 11 10] (.seq (Cd 12 .skip (.exit 0)) (.seq (.block 1 (Sr [Oo 13 (.ia 11 (.tmp 9) (.tmp 11)),Oo 14 (.load true 11 (.tmp 13)),Oo 5 (.new 31 11 [Ss,(iv 0),(iv 0),(iv 0),(iv 0),(iv 0),(iv 0),(iv 0),(iv 0),(iv 0),Ss]),⟨none,none,(.store 11 (.tmp 5) (.tmp 14))⟩] (.seq (Sr [Fa 15 0 5,Ld 16 15,Ld 17 2,Bn 18 .neq 16 17] (Cd 18 (.exit 1) .skip)) (Sr [Fa 19 1 5,Ld 20 19,Mv 6 20] (.block 2 (.loop (.seq (Sr [Mv 21 6,Fa 22 2 5,Ld 23 22,Bn 24 .leq 21 23] (Cd 24 .skip (.exit 2))) (.seq (.block 3 (Sr [Mv 28 6,Fa 29 3 5,Ld 30 29,Fa 31 4 5,Oo 32 (.load true 3 (.tmp 31)),Cl 33 18 [(.tmp 28),(.tmp 30),(.tmp 32)],Mv 27 33,Ex 34 27 0,Ex 35 27 1,Oo 7 (.new 57 3 [(iv 0),(iv 0),(iv 0)]),⟨none,none,(.store 3 (.tmp 7) (.tmp 34))⟩,Mv 8 35] (.seq (.drw [Mv 36 0,Oo 37 (.load true 3 (.tmp 7)),Cl 38 19 [(.tmp 37)],Bc 39 .mul 38 86400,Fa 40 7 5,Ld 41 40,Bn 42 .add 39 41,Oo 43 (.load true 11 (.tmp 5)),Oo 44 (.build [(iv 0),Ss,(iv 0),(iv 0),(iv 0),(iv 0),(iv 0),(iv 0),(iv 0),(iv 0),(iv 0),Ss] [(0,(1,(.tmp 42))),(1,(11,(.tmp 43)))])] [false,false] [Oo 45 (.call (.tmp 36) [(.tmp 44)]),Oo 46 (.un .not (.tmp 45))]) (Cd 46 .ret .skip)))) (.reg [Mv 25 6,Bc 26 .add 25 1,Mv 6 26]))))))))) (.reg [Bc 47 .add 11 1,Mv 11 47])))))))
theorem k17:ZaO Try.prog 17=some ⟨c17,[],48⟩:=by kernel_rfl
def okRs (l:List Rul):Prop := ∀ r∈l,r.1.size≤maxLen∧r.2.2.2.2.2.2.2.2.size≤maxLen
theorem ready1_a {nm:ByteArray}{r:Rul}{h:AH}:Ac 16 [.agg (rulC r),.rp [sv nm]] h (bv (decide (r.1=nm))):=by
 obtain⟨n,f,t,m,⟨k,w,d⟩,a,c,s,lt⟩:=r
 refine tI' k16 fun N hn hlt hlA hbd=>?_
 simp only[tb'] at hbd ⊢
 refine wr'<|E' (ZdO cv rfl (hl0 hn) ha0) pt<|mw<|sn'<|wr'<|Vw (Zac lk)<|Vw (Zae lk gx gt0)<|Vw (ZaA lk gt)<|Vw (ZcW lk lk)<|mw<|Zaq<|?_
 exact Zah<|Zaa<|Zai rz<|rT' rfl
theorem ready_a {l:List Rul}{nm:ByteArray}{sh:Int}{h:AH}(hok:okRs l) (hl:l.length≤9223372036854775807):Ac 7 [.sl l.length 11 false (rows rulC l),sv nm,iv sh] h (iv (ZcP l nm sh)):=by
 have hll:=hl
 refine tI' k7 fun N hn hlt hlA hbd=>?_
 simp only[tb'] at hbd ⊢
 refine wr'<|E' (ZdO cv rfl (hl0 hn) ha0) pt<|mw<|Zaq<|?_
 refine ZbY (ALe.icePtr gx gt4 (by simp) pt4 (hs0 hn)) ?_
 refine Zan<|wr'<|mw<|Vw (Za6 lk)<|Vw (ZbI lk lki)<|sn'<|?_
 refine cd' lk (fun hc1=>?_) (fun hc1=>?_)
 ·have hR:ZcP l nm sh=2:=if_pos om
  refine wr'<|mw<|sn'<|Zaa<|Zal<|Zai rz<|rT'<|?_
  rw[hR]
 have hR:ZcP l nm sh=if Zbd Za8 l≠0 then Zbd Za8 l else if sh < -64800∨sh>64800 then 3 else if l.any (fun r=>decide (r.1=nm))=false then 5 else 0:=if_neg om
 refine Zaf<|Zah<|Zan<|wr'<|mw<|Vw (Za6 lk)<|mw<|sn'<|Zao<|?_
 refine w_lp (ι:=Nat) (fun (k:Nat)=>[(15,iv (k:Int)),(6,.any),(8,.any),(9,.any)]++rn' 16 9) (fun (k:Nat)=>[]) (fun (k:Nat)=>k≤l.length∧Zbd Za8 l=Zbd Za8 (l.drop k)) (fun (k:Nat)=>l.length-k) (0) (by exact⟨Nat.zero_le _,rfl⟩) ?_
 rintro k hi1
 try simp only[sm',Nat.reduceAdd]
 obtain⟨hk1,hk2⟩:=hi1
 refine wr'<|Vw (ZbP lk lk)<|sn'<|Zan<|?_
 refine cd' lk (fun hc2=>?_) (fun hc2=>?_)
 ·have hk:k<l.length:=by omega
  have ho:=hok _ (List.getElem_mem hk)
  rw[ZeO hk] at hk2
  refine Zaf<|Zah<|Zan<|Zao<|wr'<|?_
  refine V' (ZaY lk lk ZcZ (nb' rfl) ro om ro rfl) pt ?_
  refine Vw (Zd1 lk ZhB rfl)<|E' (ZbZ (hl1 hn) ha1) pt<|E' (Zam lk cv gx rfl (nb' rfl) rfl ZgI (hs1 hn)) ptn<|sn'<|wr'<|Vw (ZaE lk gx ZgH rfl)<|Zak mp (rule_b ho.1 ho.2) pt<|mw<|sn'<|wr'<|?_
  refine mw<|Vw (Za1 lk lki)<|sn'<|?_
  refine cd' lk (fun hc3=>?_) (fun hc3=>?_)
  ·have hc3':Za8 l[k]≠0:=hc3
   rw[if_pos hc3'] at hk2
   rw[if_pos (by rw[hk2];exact hc3'),hk2] at hR
   refine wr'<|mw<|mw<|sn'<|Zaa<|Zap<|Zal<|Zal<|Zap<|Zal<|Zai rz<|rT'<|?_
   rw[hR]
  have hc3':¬Za8 l[k]≠0:=hc3
  rw[if_neg hc3'] at hk2
  refine Zaf<|ZaC<|Zah<|Zar<|?_
  refine V' (Zau lk lki om om) pt ?_
  refine mw<|Zaq<|ZaB<|?_
  refine lU' (k+1) (by (try dsimp only);exact⟨by omega,hk2⟩) (by (try dsimp only);(try simp only[sm',Nat.reduceAdd]);exact bk' 1 hn hlt)
 rw[List.drop_of_length_le om] at hk2
 rw[if_neg (by rw[hk2];simp[Zbd])] at hR
 refine ZaX<|ZaN<|ZaN<|Zbq<|Zah<|Zan<|Zao<|wr'<|mw<|Vw (ZbP lk lki)<|mw<|?_
 refine sp' (t:=28) gt pt pt (fun hg28=>?_) (fun hg28=>?_)
 ·rw[if_pos (.inl om)] at hR
  refine s_no gt pt<|s_no gt pt<|Vw (Zag lk lkb)<|mw<|sn'<|ZaH lk<|wr'<|mw<|sn'<|Zaa<|Zap<|?_
  refine Zal<|Zai rz<|rT'<|?_
  rw[hR]
 refine s_do gt<|mw<|s_do gt<|Vw (ZbI lk lki)<|Vw (Zab lk lk)<|mw<|sn'<|?_
 refine cd' lk (fun hc4=>?_) (fun hc4=>?_)
 ·rw[if_pos (.inr om)] at hR
  refine wr'<|mw<|sn'<|Zaa<|Zap<|Zal<|Zai rz<|rT'<|?_
  rw[hR]
 rw[if_neg om] at hR
 refine wr'<|mw<|Vw (v_mkfn mp)<|?_
 refine Zak mp (ZmX (p:=fun r=>decide (r.1=nm)) (fun c _ _=>ready1_a) hll) pt ?_
 refine Vw (Zav lk)<|mw<|sn'<|?_
 refine Zaz lk (fun hc5=>?_) (fun hc5=>?_)
 ·rw[if_pos (by simpa using hc5)] at hR
  refine wr'<|mw<|sn'<|Zaa<|Zap<|Zal<|Zai rz<|rT'<|?_
  rw[hR]
 rw[if_neg (by simpa using hc5)] at hR
 refine Zaf<|ZaC<|Zah<|wr'<|mw<|sn'<|Zaa<|Zai rz<|rT'<|?_
 rw[hR]
theorem off_a {r:Rul}{sh sa:Int}{h:AH}(h1 : -64800≤sh∧sh≤64800) (h2:0≤sa∧sa≤10800):Ac 12 [.agg (rulC r),iv sh,iv sa] h (iv (offV r sh sa)):=by
 obtain⟨n,f,t,m,⟨k,w,d⟩,a,c,s,lt⟩:=r
 refine tI' k12 fun N hn hlt hlA hbd=>?_
 simp only[tb'] at hbd ⊢
 refine wr'<|E' (ZdO cv rfl (hl0 hn) ha0) pt<|mw<|sn'<|Zan<|wr'<|Vw (Zac lk)<|Vw (Zae lk gx gt8)<|sn'<|Zao<|?_
 refine wr'<|Vw (ZaS lk lki)<|mw<|sn'<|?_
 refine cd' lk (fun hc1=>?_) (fun hc1=>?_)
 ·refine wr'<|mw<|mw<|?_
  refine V' (Zau lk lk om om) pt ?_
  refine mw<|sn'<|Zaa<|Zap<|Zal<|Zai rz<|rT'<|?_
  refine ivx ?_;unfold offV;rw[if_pos (by assumption)]
 refine wr'<|Vw (ZaS lk lki)<|mw<|sn'<|?_
 refine cd' lk (fun hc2=>?_) (fun hc2=>?_)
 ·refine wr'<|mw<|mw<|sn'<|Zaa<|Zap<|Zal<|Zai rz<|rT'<|?_
  refine ivx ?_;unfold offV;rw[if_neg (by assumption),if_pos (by assumption)]
 refine Zaf<|ZaC<|Zah<|wr'<|mw<|sn'<|Zaa<|Zai rz<|rT'<|?_
 refine ivx ?_;unfold offV;rw[if_neg (by assumption),if_neg (by assumption)]
theorem turns_a {l:List Rul}{nm:ByteArray}{h:AH}:Ac 8 [.sl l.length 11 false (rows rulC l),sv nm] h (.clo (.func 17) [.rp [.sl l.length 11 false (rows rulC l)],.rp [sv nm]]):=by
 refine tI' k8 fun N hn hlt hlA hbd=>?_
 simp only[tb'] at hbd ⊢
 refine wr'<|E' (ZdO cv rfl (hl0 hn) ha0) pt<|E' (ZdO cv rfl (hl1 hn) ha1) pt<|mv' rfl pt<|Zaq<|?_
 refine ZbY (ALe.trans (ALe.icePtr gx gt2 (by simp) pt2 (hs0 hn)) (ALe.icePtr gx gt3 (by simp) pt3 (hs1 hn))) ?_
 exact wr'<|Vw (v_mkfn mp)<|mw<|sn'<|Zaa<|Zai rz<|rT' rfl
theorem on_r {r:Rul}{y:Int}{h:AH}(hr:Za8 r=0) (hy:1900≤y∧y≤2100):Ac 18 [iv y,iv r.2.2.2.1,.agg [iv r.2.2.2.2.1.1,iv r.2.2.2.2.1.2.1,iv r.2.2.2.2.1.2.2]] h (.tup [.agg [iv (Zbp (rDy r y)).1,iv (Zbp (rDy r y)).2.1,iv (Zbp (rDy r y)).2.2],iv 0]):=by
 have:=on_a (y:=y) (m:=r.2.2.2.1) (k:=r.2.2.2.2.1.1) (wk:=r.2.2.2.2.1.2.1) (n:=r.2.2.2.2.1.2.2) (h:=h)
 rw[(ZjM hr hy).1] at this
 exact this
theorem num_r {k:Int}{h:AH}(hk : -30000≤k∧k≤50000):Ac 19 [.agg [iv (Zbp k).1,iv (Zbp k).2.1,iv (Zbp k).2.2]] h (iv k):=by
 obtain⟨h1,h2⟩:=Zgp (days:=k) om om
 have hd:=Zcs.1 h1
 have hm:=ZdM (Zbp k).1 (Zbp k).2.1
 have:=ZkD (y:=(Zbp k).1) (m:=(Zbp k).2.1) (d:=(Zbp k).2.2) (h:=h) om om om om om om
 rwa [h2] at this
theorem Zjt {r:Rul}{j:Nat}(hj:(j:Int)<r.2.2.1+1-r.2.1):(Zci r).take (j+1)=(Zci r).take j++[(Zf0 r (r.2.1+(j:Int)),r)]:=by
 have hl:j<(Zci r).length:=by unfold Zci;rw[List.length_map,Zir];show j<(r.2.2.1+1-r.2.1).toNat;omega
 rw[List.take_succ_eq_append_getElem hl]
 congr 2
 simp[Zci,ZfU]
theorem Zjs {l:List Rul}{nm:ByteArray}{k:Nat}(hk:k<l.length) (hn:l[k].1=nm) : ∃ m,ZaU l nm=ZaU (l.take k) nm++(Zci l[k]++m):=by
 refine⟨ZaU (l.drop (k+1)) nm,?_⟩
 have e:l=l.take k++l[k]::l.drop (k+1):=by rw[←List.drop_eq_getElem_cons hk,List.take_append_drop]
 have:ZaU l nm=ZaU (l.take k++l[k]::l.drop (k+1)) nm:=by rw[←e]
 rw[this]
 unfold ZaU
 rw[List.flatMap_append,List.flatMap_cons,if_pos hn]
theorem turns1_a {l:List Rul}{nm:ByteArray}{lp M0:Nat}{H:List Trn→AH}(hok : ∀ r∈l,Za8 r=0) (hz:l.length≤40) (hH : ∀ d,(H d).length=M0) (hHlt : ∀ d,∀ e∈H d,e.lt M0=true)
  (hY : ∀ (d:List Trn) (t:Trn) (e f:Ent),d.length<(ZaU l nm).length→AYield Try.prog lp [.agg (trnC t)] (H d++[e,f]) fun r h''=>r=.ret (.v (.bool true))∧h''=H (d++[t])++[e,f]) :
  ACalls Try.prog 17 [.v (.func (.yield lp) #[] #[]),.rp [.sl l.length 11 false (rows rulC l)],.rp [sv nm]] (H []) fun x h'=>x=.ret (.tup [])∧h'=H (ZaU l nm):=by
 refine tJ' k17 fun N hn hlt hlA hbd=>?_
 simp only[tb'] at hbd ⊢
 have hMN:M0=N:=(hH []).symm.trans hn
 simp only[hMN] at hH hHlt
 refine wr'<|Vw (ZaA lk gt)<|Vw (Za6 lk)<|mw<|sn'<|Zao<|?_
 refine ZlV (ι:=Nat) (fun (k:Nat)=>[(11,iv (k:Int))]++rn' 5 4++rn' 12 36) (fun (k:Nat)=>H (ZaU (l.take k) nm)++[]) (fun (k:Nat)=>k≤l.length) (fun (k:Nat)=>l.length-k) (0) (by exact Nat.zero_le _) (by try simp only[sm',Nat.reduceAdd];exact ALe.same wA' rfl) ?_
 rintro k hi1
 try simp only[sm',Nat.reduceAdd]
 replace hi1:k≤l.length:=hi1
 refine wr'<|Vw (ZbP lk lk)<|sn'<|Zan<|?_
 refine cd' lk (fun hc1=>?_) (fun hc1=>?_)
 ·have hk:k<l.length:=by omega
  have hr:=hok _ (List.getElem_mem hk)
  obtain⟨hr1,hr2,hr3⟩:1900≤l[k].2.1∧l[k].2.1≤l[k].2.2.1∧l[k].2.2.1≤2100:=⟨(Zbu hr).1,(Zbu hr).2.1,(Zbu hr).2.2.1⟩
  obtain⟨hr4,hr5⟩:(Zci l[k]).length≤201∧((Zci l[k]).length:Int)=l[k].2.2.1-l[k].2.1+1:=Ze9 hr
  refine Zaf<|Zah<|Zan<|Zao<|wr'<|?_
  refine V' (ZaY lk lk ZcZ (nb' rfl) ro om ro rfl) pt ?_
  refine Vw (Zd1 lk ZhB rfl)<|E' (ZbZ (hl0 (hH _)) ha0) pt<|E' (Zam lk cv (hga (hH _) rfl) rfl (nb' rfl) rfl ZgI (hs0 (hH _))) ptn<|sn'<|Zan<|wr'<|Vw (Zac lk)<|Vw (Zae lk (hga (hH _) rfl) gt0)<|Vw (ZaA lk gt)<|Vw (ZcV lk lk)<|sn'<|?_
  refine cd' lk (fun hc2=>?_) (fun hc2=>?_)
  ·refine ZaX<|ZaN<|Zbq<|Zah<|Zar<|?_
   refine V' (Zau lk lki om om) pt ?_
   refine mw<|Zaq<|ZaB<|?_
   refine lU' (k+1) (by (try dsimp only);omega) (by (try dsimp only);(try simp only[sm',Nat.reduceAdd]);exact ALe.trans (ALe.back wA' rfl (E1:=[]) (k:=N+0) (by simp only[List.length_cons,List.length_nil,(hH _)]) om (by exact lt') (ltw om (hHlt _)) (by rfl)) (ALe.same (WkL.refl _) (by rw[ZgU hk,if_neg hc2,List.append_nil (ZaU _ _)])))
  have hnm:l[k].1=nm:=Decidable.of_not_not hc2
  obtain⟨mm,hmm⟩:=Zjs hk hnm
  refine Zaf<|Zah<|wr'<|Vw (Zac lk)<|Vw (Zae lk (hga (hH _) rfl) gt1)<|mw<|sn'<|Zao<|?_
  refine ZlV (ι:=Nat) (fun (j:Nat)=>[(6,iv (l[k].2.1+(j:Int))),(7,.any),(8,.any)]++rn' 21 26) (fun (j:Nat)=>H (ZaU (l.take k) nm++(Zci l[k]).take j)++[Ent.mk 0 31 11 (rulC l[k])]) (fun (j:Nat)=>(j:Int)≤l[k].2.2.1-l[k].2.1+1) (fun (j:Nat)=>(Zci l[k]).length-j) (0) (by show (0:Int)≤_;omega) (by try simp only[sm',Nat.reduceAdd];exact ALe.same wA' (by rw[List.take_zero,List.append_nil])) ?_
  rintro j hi2
  try simp only[sm',Nat.reduceAdd]
  replace hi2:(j:Int)≤l[k].2.2.1-l[k].2.1+1:=hi2
  refine Zan<|wr'<|mw<|Vw (Zac lk)<|Vw (Zae lk (hga (hH _) rfl) gt2)<|Vw (Zc5 lk lk)<|sn'<|?_
  refine cd' lk (fun hc3=>?_) (fun hc3=>?_)
  ·have hy:1900≤l[k].2.1+(j:Int)∧l[k].2.1+(j:Int)≤2100:=by omega
   obtain⟨hd1,hd2⟩:=ZjM hr hy
   have ha6:0≤l[k].2.2.2.2.2.1∧l[k].2.2.2.2.2.1≤172800:=(Zbu hr).2.2.2.2.2.1
   have hd3 : -30000≤rDy l[k] (l[k].2.1+(j:Int))∧rDy l[k] (l[k].2.1+(j:Int))≤50000:=hd2
   refine Zaf<|Zah<|Zan<|Zao<|wr'<|mw<|Vw (Zac lk)<|Vw (Zae lk (hga (hH _) rfl) gt3)<|Vw (Zac lk)<|Vw (ZaE lk (hga (hH _) rfl) ZlJ rfl)<|Zak mp (on_r hr hy) pt<|mw<|Vw (ZbJ lk gt)<|?_
   refine Vw (ZbJ lk gt)<|E' (ZbZ (hl1 (hH _)) ha1) pt<|E' (Zam lk cv (hga (hH _) rfl) rfl (nb' rfl) rfl ZlL (hs1 (hH _))) ptn<|mw<|sn'<|Zan<|ZlW []<|Dw (v_mv lk)<|Dw (ZaE lk (hga (hH _) rfl) ZlK rfl)<|?_
   refine Zbw mp (fun hE hX=>num_r hd2) pt ?_
   refine D' (Ze7 lk lki om om) pt ?_
   refine Dw (Zac lk)<|Dw (Zae lk (hga (hH _) rfl) gt7)<|?_
   refine D' (Zau lk lk om om) pt ?_
   refine Dw (ZaE lk (hga (hH _) rfl) ZgH rfl)<|Dw (Zax (ZgP cv rfl cv rfl))<|ZbB<|ZmU<|?_
   refine k_callY lk mp (hY _ (Zf0 l[k] (l[k].2.1+(j:Int)),l[k]) _ _ (by rw[hmm,List.length_append,List.length_append,List.length_append,List.length_take];omega)) (by intro i hi;simp at hi) pt ?_
   refine k_val rfl (Zav lk) pt<|k_nil<|Zah<|ZaG lk<|Zaf<|ZaC<|Zah<|Zar<|mw<|?_
   refine V' (Zau lk lki om om) pt ?_
   refine mw<|Zaq<|ZaB<|?_
   refine lU' (j+1) (by (try dsimp only);omega) (by (try dsimp only);(try simp only[sm',Nat.reduceAdd]);exact ALe.trans (ALe.back wA' rfl (E1:=[Ent.mk 0 31 11 (rulC l[k])]) (k:=N+1) (by simp only[List.length_cons,List.length_nil,(hH _)]) om (by exact lt') (ltw om (hHlt _)) (by exact lt')) (ALe.same (WkL.refl _) (by rw[Zjt om,List.append_assoc])))
  refine ZaX<|ZaN<|ZaN<|Zbq<|ZaC<|Zah<|Zar<|?_
  refine V' (Zau lk lki om om) pt ?_
  refine mw<|Zaq<|ZaB<|?_
  refine lU' (k+1) (by (try dsimp only);omega) (by (try dsimp only);(try simp only[sm',Nat.reduceAdd]);exact ALe.trans (ALe.back wA' rfl (E1:=[]) (k:=N+0) (by simp only[List.length_cons,List.length_nil,(hH _)]) om (by exact lt') (ltw om (hHlt _)) (by rfl)) (ALe.same (WkL.refl _) (by rw[ZgU hk,if_pos hnm,List.take_of_length_le (l:=Zci l[k]) om])))
 refine ZaX<|ZaN<|ZaN<|Zbq<|w_end (rs0)<|?_
 exact⟨_,_,rfl,hH _,hHlt _,rfl,rfl,by rw[List.take_of_length_le om]⟩
end Go.Proofs.Yticajimgfndceaa
end
section
namespace Go.Ab
open Go.RowKit Go.Sort
section
variable {P : Program}
theorem ZjH (w:World) (g:Gh) : ∀ {vs us:List Value},RepL w g (vs.map .v) us↔us=vs
 | [],us=>by simp only[List.map_nil,RepL]
 | v::vs,us=>by
  simp only[List.map_cons,RepL,Rep,ZjH w g (vs:=vs)]
  constructor
  ·rintro⟨u,us',rfl,rfl,rfl⟩;rfl
  ·rintro rfl;exact⟨_,_,rfl,rfl,rfl⟩
theorem ACalls.of_turn {f:FuncId}{args:List AV}{h:AH}{id ver ty st:Nat}{cells:List AV}{R':List AV→Prop}(he:enters P f=true) (hi:h[id]?=some (.mk ver ty st cells)) (hne:cells≠[])
  (hc : ∀ w g (vs:Array Value) b cap arr,SimH w g h→RepL w g args vs.toList→g.loc id ver=some (some ⟨b,0,none⟩,cap)→w.heap[b]?=some (.cells arr ty (0,0))→arr.size=cap*st→cells.length≤arr.size→RepL w g cells (arr.toList.take cells.length) →
   Calls P f vs w fun e w'=>e=.returned (.tuple #[]) ∧ ∃ (vs':List Value) (arr':Array Value),R' (vs'.map .v)∧w'.heap[b]?=some (.cells arr' ty (0,0))∧arr'.size=arr.size∧vs'.length=cells.length∧arr'.toList.take cells.length=vs' ∧
    w'.os=w.os∧w'.tape=w.tape∧w'.output=w.output∧w.heap.size≤w'.heap.size ∧ ∀ k,k<w.heap.size→k≠b→w'.heap[k]?=w.heap[k]?) :
  ACalls P f args h fun x h'=>x=.ret (.tup []) ∧ ∃ cells',R' cells'∧h'=h.set id (.mk ver ty st cells'):=by
 refine⟨he,fun w g vs hs ha=>?_⟩
 obtain⟨A,cap,f1,fm,f3⟩:=hs.ent _ _ _ _ _ hi
 rcases f3 with ⟨e,_⟩ | ⟨b,arr,rfl,hc0,hd,hb,hsz,hle,hrl⟩
 ·exact absurd e hne
 have hid:id<h.length:=(List.getElem?_eq_some_iff.1 hi).1
 have how:OwAt g h id b:=⟨ver,ty,st,cells,_,cap,hi,f1,hc0,rfl⟩
 refine (hc w g vs b cap arr hs ha f1 hb hsz hle hrl).mono ?_
 rintro e w' ⟨rfl,vs',arr',hR,h1,h2,h3,h4,h5,h6,h7,h8,h9⟩
 have hother : ∀ j,g.D j∨(∃ i,i≠id∧OwAt g h i j)∨(∃ i,RwAt h i j)→w'.heap[j]?=w.heap[j]?:=by
  rintro j (hj | ⟨i,hne',hj⟩ | ⟨i,hj⟩)
  rotate_left 2
  ·exact h9 j (hs.own_not_D (.inr ⟨i,hj⟩)).2 (fun e=>by subst e;exact hs.own_ne_raw how hj)
  ·exact h9 j (hs.lt j hj) (fun e=>hd (e ▸ hj))
  ·exact h9 j (hs.own_not_D (.inl ⟨i,hj⟩)).2 (fun e=>hne' (hs.inj i id j hj (e ▸ how)))
 obtain⟨k1,k2,k3⟩:=hs.put (w':=w') (g':=g) (h':=h.set id (.mk ver ty st (vs'.map .v))) id ver ty st (vs'.map .v) (some ⟨b,0,none⟩) cap
  (fun i hne'=>by rw[List.getElem?_set_ne (Ne.symm hne')]) (by rw[List.getElem?_set_self hid]) (by simp) rfl (fun _ _ _ h=>h) (fun _ _ _ h=>.inl h) f1 (fun v l hv=>(hs.fresh _ _ _ hv).2 _ _ _ _ hi) hother h8 fm
  (.inr ⟨b,arr',rfl,hc0,hd,h1,by rw[h2,hsz],by rw[List.length_map,h3,h2];exact hle,by rw[List.length_map,h3,h4];exact (ZjH w' g).2 rfl⟩)
  (fun j hj _ i hne' ho=>by
   simp at hj
   subst hj
   exact hne' (hs.inj i id _ ho how))
 refine⟨.ret (.tup []),_,g,?_,k1,k2,⟨h5,h6,h7,h8,fun k hk hn=>h9 k hk (fun e=>hn (.inl ⟨id,e ▸ how⟩))⟩,fun k hk=>?_,rfl,_,hR,rfl⟩
 ·simp only[EndR,Rep];exact⟨#[],rfl,by simp only[RepL]⟩
 ·rcases k3 k hk with ho | ⟨ho,_⟩
  ·exact .inl ho
  ·simp at ho;subst ho;exact .inl (.inl ⟨id,how⟩)
end
section
variable {P : Program} {α : Type}
theorem Zm3 {enc:α→List Value}{k:Nat}(hk : ∀ x,(enc x).length=k) : ∀ (l:List α) (i j:Nat) (h:i<l.length),j<k→(l.flatMap enc)[i*k+j]?=(enc l[i])[j]?
 | [],i,j,h,_=>by simp at h
 | x::l,0,j,h,hj=>by
  rw[List.flatMap_cons,Nat.zero_mul,Nat.zero_add,List.getElem?_append_left (by rw[hk];exact hj)];rfl
 | x::l,i+1,j,h,hj=>by
  have ih:=Zm3 hk l i j (by simpa using h) hj
  rw[List.flatMap_cons,List.getElem?_append_right (by rw[hk,Nat.succ_mul];omega),hk,show (i+1)*k+j-k=i*k+j by rw[Nat.succ_mul];omega,ih];rfl
theorem Zdr {enc:α→List Value}{k:Nat}(hk : ∀ x,(enc x).length=k) : ∀ (l:List α),(l.flatMap enc).length=l.length*k
 | []=>by simp
 | x::l=>by rw[List.flatMap_cons,List.length_append,hk,Zdr hk l,List.length_cons,Nat.succ_mul];omega
theorem Zhf [Inhabited α] {enc:α→List Value}{k:Nat}(hk0:0<k) (hk : ∀ x,(enc x).length=k) (d:Array α):(Go.Sort.flatK enc k d).toList=d.toList.flatMap enc:=by
 apply List.ext_getElem?
 intro t
 by_cases ht:t<d.size*k
 ·have h1:t/k<d.size:=Nat.div_lt_of_lt_mul (by rw[Nat.mul_comm];exact ht)
  have h2:t%k<k:=Nat.mod_lt _ hk0
  have h3:=Zm3 hk d.toList (t/k) (t%k) (by simpa using h1) h2
  rw[Nat.mul_comm (t/k) k,Nat.div_add_mod] at h3
  rw[h3]
  have hs:t<(Go.Sort.flatK enc k d).size:=by simpa using ht
  have h4:=Go.Sort.get_flatK enc k d t ht
  rw[getElem!_pos _ t hs,getElem!_pos _ (t/k) h1,getElem!_pos _ (t%k) (by rw[hk];exact h2)] at h4
  rw[Array.getElem?_toList,Array.getElem?_eq_getElem hs,h4,Array.getElem_toList,List.getElem?_eq_getElem (by rw[hk];exact h2)]
  rfl
 ·rw[List.getElem?_eq_none (by simpa using ht),List.getElem?_eq_none (by rw[Zdr hk];simpa using ht)]
theorem rows_v {enc:α→List Value}(l:List α):rows (fun x=>(enc x).map .v) l=(l.flatMap enc).map .v:=by
 unfold rows
 rw[List.map_flatMap]
theorem sort_a [Inhabited α] {ρ:Go.Shelf.Ren}(L:Go.Proofs.SlLaysF0.n6 P ρ) {k:Nat}(hk0:0<k) (aE : ∀ w,(isAgg (ρ.t 24)).run P w=.ok true w) (zE : ∀ w,(Go.sizeOf (ρ.t 24)).run P w=.ok k w) {enc:α→List Value}(hk : ∀ x,(enc x).length=k) (h1 : ∀ x,∀ v∈enc x,v.oneCell'=true) {cf:α→α→Int}(hO:SWO (Go.Proofs.ltOf cf)) {g0:Nat}
  (eg : ∀ args w,(callFunc g0 args).run P w=.ok (.enter g0 args) w) (hcmp : ∀ blk off size w,Go.Proofs.CmpLays P g0 #[] enc k cf blk off size w) {h:AH} {id ver ty:Nat} {l:List α} (hi:h[id]?=some (.mk ver ty k (rows (fun x=>(enc x).map .v) l))) (hl:l≠[]) (hz:l.length<4611686018427387904) (he:enters P (ρ.f 6)=true) :
  ACalls P (ρ.f 6) [.own id ver l.length,.v (.func (.func g0) #[] #[])] h fun x h'=>x=.ret (.tup []) ∧ ∃ l':List α,l'.Perm l∧(∀ i j (hi:i<l'.length) (hj:j<l'.length),i<j→Go.Proofs.ltOf cf l'[j] l'[i]=false)∧h'=h.set id (.mk ver ty k (rows (fun x=>(enc x).map .v) l')):=by
 have hlen:=Za7 (f:=fun x=>(enc x).map .v) (st:=k) (fun x=>by rw[List.length_map,hk]) l
 have hpos:0<l.length:=List.length_pos_iff.2 hl
 refine (ACalls.of_turn (R':=fun cs => ∃ l':List α,l'.Perm l∧(∀ i j (hi:i<l'.length) (hj:j<l'.length),i<j→Go.Proofs.ltOf cf l'[j] l'[i]=false)∧cs=rows (fun x=>(enc x).map .v) l') he hi ?_ ?_).mono ?_
 ·intro e
  have:=congrArg List.length e
  rw[hlen] at this
  have h0:0<l.length*k:=Nat.mul_pos hpos hk0
  simp at this;omega
 ·intro w g vs b cap arr hs ha hloc hb hsz hle hr
  simp only[RepL,Rep,hloc] at ha
  obtain⟨u1,us1,e1,⟨A,c,e2,hn1,hn2,rfl⟩,u2,us2,rfl,rfl,rfl⟩:=ha
  simp only[Option.some.injEq,Prod.mk.injEq] at e2
  obtain⟨rfl,rfl⟩:=e2
  obtain rfl:vs = #[.slice (some ⟨b,0,none⟩) l.length cap,.func (.func g0) #[] #[]]:=by cases vs;simp_all
  have hr':arr.toList.take (l.length*k)=l.flatMap enc:=by
   rw[hlen,rows_v] at hr
   exact (ZjH w g).1 hr
  have hblk:b<w.heap.size:=(Array.getElem?_eq_some_iff.1 hb).1
  have hflat:=Zhf hk0 hk l.toArray
  have hgetF : ∀ (d:Array α) (t:Nat),t<d.size*k→(Go.Sort.flatK enc k d).toList[t]?=some (Go.Sort.flatK enc k d)[t]!:=by
   intro d t ht
   have hs:t<(Go.Sort.flatK enc k d).size:=by simpa using ht
   rw[getElem!_pos _ t hs,Array.getElem?_toList,Array.getElem?_eq_getElem hs]
  have hH:Go.Sort.HoldsK enc k w b 0 l.toArray:=by
   intro j hj
   have hj':j<l.length*k:=by simpa using hj
   rw[Nat.zero_add]
   refine⟨?_,frozen_of_row w b j arr ty hb⟩
   rw[cell_of_row w b j arr ty (0,0) hb,←Array.getElem?_toList]
   have h5:arr.toList[j]?=(l.flatMap enc)[j]?:=by rw[←hr',List.getElem?_take_of_lt hj']
   rw[h5,show l.flatMap enc=(Go.Sort.flatK enc k l.toArray).toList from hflat.symm,hgetF _ _ (by simpa using hj')];rfl
  refine (Go.Proofs.AnyQ.slices_SortFunc L k aE zE enc hk h1 cf hO g0 #[] b 0 cap l.toArray w eg (hcmp b 0 l.toArray.size w) hH hblk (by simpa using hz)).mono ?_
  rintro e w' ⟨rfl,d',n,os,⟨p1,_,p3⟩,hso,rfl⟩
  have hds:d'.size=l.length:=by simpa using p1
  have hw' : ∀ j,j<w.heap.size→(Go.Proofs.sortWorldK enc k w b 0 n d' os).heap[j]?=(w.heap.modify b (onCells (putCells _root_.id 0 (Go.Sort.flatK enc k d'))))[j]?:=by
   intro j hj
   show ((w.heap.modify b (onCells (putCells _root_.id 0 (Go.Sort.flatK enc k d'))))++os)[j]?=_
   rw[Array.getElem?_append_left (by simpa using hj)]
  have hsz2:arr.size=(putCells _root_.id 0 (Go.Sort.flatK enc k d') arr).size:=by simp[putCells]
  refine⟨rfl,d'.toList.flatMap enc,putCells _root_.id 0 (Go.Sort.flatK enc k d') arr,⟨d'.toList,?_,?_,(rows_v _).symm⟩,?_,hsz2.symm,?_,?_,rfl,rfl,rfl,?_,?_⟩
  ·have e1:d'.extract 0 l.toArray.size=d':=by rw[←p1];simp
   have e2:l.toArray.extract 0 l.toArray.size=l.toArray:=by simp
   rw[e1,e2] at p3
   simpa using p3
  ·intro i j hi hj hij
   have:=hso i j (Nat.zero_le _) hij (by simpa [hds] using hj)
   rw[getElem!_pos d' j (by simpa using hj),getElem!_pos d' i (by simpa using hi)] at this
   simpa using this
  ·rw[hw' b hblk,Array.getElem?_modify,if_pos rfl,hb];rfl
  ·rw[Zdr hk,hlen,Array.length_toList,hds]
  ·rw[hlen]
   apply List.ext_getElem?
   intro t
   by_cases ht:t<l.length*k
   ·have ht2:t<d'.size*k:=by rw[hds];exact ht
    have hta:t<arr.size:=by rw[hlen] at hle;omega
    rw[List.getElem?_take_of_lt ht,←Zhf hk0 hk d',hgetF d' t ht2]
    unfold putCells
    rw[Array.getElem?_toList,Array.getElem?_mapIdx,Array.getElem?_eq_getElem hta,Option.map_some,if_pos ⟨Nat.zero_le _,by simpa using ht2⟩]
    rfl
   ·rw[List.getElem?_eq_none (by simp;omega),List.getElem?_eq_none (by rw[Zdr hk,Array.length_toList,hds];omega)]
  ·show w.heap.size≤((w.heap.modify b (onCells (putCells _root_.id 0 (Go.Sort.flatK enc k d'))))++os).size
   simp
  ·intro j hj hjb
   rw[hw' j hj,Array.getElem?_modify,if_neg (Ne.symm hjb)]
 ·rintro x h' ⟨rfl,cs,⟨l',hp,hs,rfl⟩,rfl⟩
  exact⟨rfl,l',hp,hs,rfl⟩
end
end Go.Ab
end
section
namespace Go.Proofs
open Go.Shelf
def Try.sl9_ren:Go.Shelf.Ren:=⟨fun | 6=>9 | 15=>21 | 14=>20 | 28=>48 | 29=>49 | 20=>40 | 21=>41 | 22=>42 | 23=>43 | 24=>44 | 25=>45 | 26=>46 | 27=>47 | 46=>75 | 47=>76 | 48=>77 | 49=>78 | 50=>79 | 57=>91 | n=>n,fun | 22=>41 | 24=>45 | 25=>48 | 3=>3 | 39=>63 | 0=>0 | 53=>104 | 55=>106 | 4=>4 | 46=>97 | 45=>96 | 50=>101 | 5=>5 | 9=>9 | 66=>122 | 70=>126 | 76=>131 | 77=>113 | n=>n,fun | n=>n⟩
theorem Try.sl9:Go.Proofs.SlLaysF0.n6 Try.prog Try.sl9_ren:={
 mixed:=by kernel_rfl
 f6:=⟨Try.f9.name,by decide,Try.func9.trans (congrArg some (by kernel_rfl))⟩
 f14:=⟨Try.f20.name,by decide,Try.func20.trans (congrArg some (by kernel_rfl))⟩
 f15:=Try.func21.trans (congrArg some (by kernel_rfl))
 f20:=⟨Try.f40.name,by decide,Try.func40.trans (congrArg some (by kernel_rfl))⟩
 f21:=⟨Try.f41.name,by decide,Try.func41.trans (congrArg some (by kernel_rfl))⟩
 f22:=⟨Try.f42.name,by decide,Try.func42.trans (congrArg some (by kernel_rfl))⟩
 f23:=⟨Try.f43.name,by decide,Try.func43.trans (congrArg some (by kernel_rfl))⟩
 f24:=⟨Try.f44.name,by decide,Try.func44.trans (congrArg some (by kernel_rfl))⟩
 f25:=⟨Try.f45.name,by decide,Try.func45.trans (congrArg some (by kernel_rfl))⟩
 f26:=⟨Try.f46.name,by decide,Try.func46.trans (congrArg some (by kernel_rfl))⟩
 f27:=⟨Try.f47.name,by decide,Try.func47.trans (congrArg some (by kernel_rfl))⟩
 f28:=Try.func48.trans (congrArg some (by kernel_rfl))
 f29:=Try.func49.trans (congrArg some (by kernel_rfl))
 f46:=⟨Try.f75.name,by decide,Try.func75.trans (congrArg some (by kernel_rfl))⟩
 f47:=Try.func76.trans (congrArg some (by kernel_rfl))
 f48:=Try.func77.trans (congrArg some (by kernel_rfl))
 f49:=⟨Try.f78.name,by decide,Try.func78.trans (congrArg some (by kernel_rfl))⟩
 f50:=⟨Try.f79.name,by decide,Try.func79.trans (congrArg some (by kernel_rfl))⟩
 f57:=⟨Try.f91.name,by decide,Try.func91.trans (congrArg some (by kernel_rfl))⟩
 t0:=Try.underlying0
 a0:=Try.isAgg0
 z0:=Try.sizeOf0
 v0:=Try.zeroValue0
 t3:=Try.underlying3
 a3:=Try.isAgg3
 z3:=Try.sizeOf3
 v3:=Try.zeroValue3
 t4:=Try.underlying4
 a4:=Try.isAgg4
 z4:=Try.sizeOf4
 v4:=Try.zeroValue4
 t5:=Try.underlying5
 a5:=Try.isAgg5
 z5:=Try.sizeOf5
 v5:=Try.zeroValue5
 t9:=Try.underlying9
 a9:=Try.isAgg9
 z9:=Try.sizeOf9
 v9:=Try.zeroValue9
 t22:=Try.underlying41
 a22:=Try.isAgg41
 z22:=Try.sizeOf41
 v22:=Try.zeroValue41
 t25:=Try.underlying48
 a25:=Try.isAgg48
 z25:=Try.sizeOf48
 v25:=Try.zeroValue48
 t39:=Try.underlying63
 a39:=Try.isAgg63
 z39:=Try.sizeOf63
 v39:=Try.zeroValue63
 t45:=Try.underlying96
 a45:=Try.isAgg96
 z45:=Try.sizeOf96
 v45:=Try.zeroValue96
 t46:=Try.underlying97
 a46:=Try.isAgg97
 z46:=Try.sizeOf97
 v46:=Try.zeroValue97
 t50:=Try.underlying101
 a50:=Try.isAgg101
 z50:=Try.sizeOf101
 v50:=Try.zeroValue101
 t53:=Try.underlying104
 a53:=Try.isAgg104
 z53:=Try.sizeOf104
 v53:=Try.zeroValue104
 t55:=Try.underlying106
 a55:=Try.isAgg106
 z55:=Try.sizeOf106
 v55:=Try.zeroValue106
 t66:=Try.underlying122
 a66:=Try.isAgg122
 z66:=Try.sizeOf122
 v66:=Try.zeroValue122
 t70:=Try.underlying126
 a70:=Try.isAgg126
 z70:=Try.sizeOf126
 v70:=Try.zeroValue126
 t76:=Try.underlying131
 a76:=Try.isAgg131
 z76:=Try.sizeOf131
 v76:=Try.zeroValue131
 t77:=Try.underlying113
 a77:=Try.isAgg113
 z77:=Try.sizeOf113
 v77:=Try.zeroValue113 }
end Go.Proofs
end
section
namespace Go.Proofs
open Go.Shelf
def Try.lays122_ren:Go.Shelf.Ren:=⟨fun | 122=>11 | 215=>22 | n=>n,fun | 3=>3 | 4=>4 | n=>n,fun | n=>n⟩
theorem Try.lays122:Go.Proofs.Lays.n122 Try.prog Try.lays122_ren:={
 mixed:=by kernel_rfl
 f122:=Try.func11.trans (congrArg some (by kernel_rfl))
 f215:=Try.func22.trans (congrArg some (by kernel_rfl))
 t3:=Try.underlying3
 a3:=Try.isAgg3
 z3:=Try.sizeOf3
 v3:=Try.zeroValue3
 t4:=Try.underlying4
 a4:=Try.isAgg4
 z4:=Try.sizeOf4
 v4:=Try.zeroValue4 }
open Go.RowKit in
theorem Try.cmp_Compare_int (x y:Int) (w:World) :
  Calls Try.prog 11 #[.int .i64 x,.int .i64 y] w fun e w'=>e=.returned (.int .i64 (Lib.compareInt x y))∧w'=w:=Any.cmp_Compare_int Try.lays122 x y w
end Go.Proofs
end
section
namespace Go.Proofs.Yticajimgfndceaa
open Go.Ab Go.RowKit Civ Go.Sort
def trnV (t:Trn):List Value:=[.int .i64 t.1,.string t.2.1,.int .i64 t.2.2.1,.int .i64 t.2.2.2.1,.int .i64 t.2.2.2.2.1,.int .i64 t.2.2.2.2.2.1.1,.int .i64 t.2.2.2.2.2.1.2.1,.int .i64 t.2.2.2.2.2.1.2.2,.int .i64 t.2.2.2.2.2.2.1,.int .i64 t.2.2.2.2.2.2.2.1,.int .i64 t.2.2.2.2.2.2.2.2.1,.string t.2.2.2.2.2.2.2.2.2]
def cmpT (a b:Trn):Int:=Lib.compareInt a.1 b.1
theorem Znb (a b:Trn):Go.Proofs.ltOf cmpT a b=decide (a.1<b.1):=by
 unfold Go.Proofs.ltOf cmpT Lib.compareInt
 rw[Bool.eq_iff_iff]
 simp only[decide_eq_true_eq]
 repeat' split
 all_goals omega
theorem cmpT_swo:SWO (Go.Proofs.ltOf cmpT):=by
 refine⟨fun x=>?_,fun x y z=>?_,fun x y z=>?_⟩ <;> simp only[Znb,decide_eq_true_eq,decide_eq_false_iff_not] <;> omega
theorem cmp_walk (x y:Trn) (w:World):Calls Try.prog 10 #[.agg (trnV x).toArray,.agg (trnV y).toArray] w fun e w'=>e=.returned (.int .i64 (cmpT x y)) ∧ ∃ q os,w'=grow (w.drewN q) os:=by
 obtain⟨a,n,f,t,m,⟨k,v,d⟩,c,e,s,l⟩:=x
 obtain⟨a2,n2,f2,t2,m2,⟨k2,v2,d2⟩,c2,e2,s2,l2⟩:=y
 simp only[trnV]
 go_enter Try.func10,Try.ntmps10
 go_wp2_with (go_at_call 11;refine (Try.cmp_Compare_int _ _ _).mono ?_;rintro e w' ⟨rfl,rfl⟩)
 go_ret
 refine⟨rfl,?_⟩
 rw[alloc_eq_grow,alloc_eq_grow,grow_grow]
 exact⟨0,_,rfl⟩
def ordT (l l':List Trn):Prop:=l'.Perm l∧l'.Pairwise fun a b=>a.1≤b.1
theorem sortT_a {h:AH}{id ver ty:Nat}{l:List Trn}(hi:h[id]?=some (.mk ver ty 12 (rows trnC l))) (hl:l≠[]) (hz:l.length<4611686018427387904) :
  ACalls Try.prog 9 [.own id ver l.length,.v (.func (.func 10) #[] #[])] h fun x h'=>x=.ret (.tup []) ∧ ∃ l',ordT l l'∧h'=h.set id (.mk ver ty 12 (rows trnC l')):=by
 refine (sort_a (P:=Try.prog) Try.sl9 (k:=12) om (fun w=>by kernel_rfl) (fun w=>by kernel_rfl) (enc:=trnV) (fun _=>rfl) (fun t v hv=>?_) cmpT_swo (g0:=10) (fun args w=>?_) (fun blk off size w m os dk hd x y=>cmp_walk x y _) hi hl hz (by kernel_rfl)).mono ?_
 ·unfold trnV at hv
  simp only[List.mem_cons,List.not_mem_nil,or_false] at hv
  rcases hv with rfl | rfl | rfl | rfl | rfl | rfl | rfl | rfl | rfl | rfl | rfl | rfl <;> rfl
 ·exact Zgn (by kernel_rfl) args w
 ·rintro x h' ⟨rfl,l',hp,hs,rfl⟩
  refine⟨rfl,l',⟨hp,List.pairwise_iff_getElem.2 fun i j hi hj hij=>?_⟩,rfl⟩
  have:=hs i j hi hj hij
  rw[Znb] at this
  simp only[decide_eq_false_iff_not] at this
  omega
end Go.Proofs.Yticajimgfndceaa
end
section
namespace Go.Proofs.Yticajimgfndceaa
open Go.Ab Go.RowKit Civ
attribute [local simp] ZbU Zkf Zko
section
theorem ZgG {a0 a1 a2 a3 a4 a5 a6 a7 a8 a9 a10 a11 c0 c1 c2 c3 c4 c5 c6 c7 c8 c9 c10 c11:AV}{l:List AV}:setCells (a0::a1::a2::a3::a4::a5::a6::a7::a8::a9::a10::a11::l) 0 [c0,c1,c2,c3,c4,c5,c6,c7,c8,c9,c10,c11]=c0::c1::c2::c3::c4::c5::c6::c7::c8::c9::c10::c11::l:=rfl
theorem Zkb {a0 a1 a2 a3 a4 a5 a6 a7 a8 a9 a10 a11:AV}{l:List AV}:((a0::a1::a2::a3::a4::a5::a6::a7::a8::a9::a10::a11::l).drop 0).take 12=[a0,a1,a2,a3,a4,a5,a6,a7,a8,a9,a10,a11]:=rfl
theorem Zjk {τ:Operand→AV}{y0:Operand}{x0_0 x0_1 x0_2 x0_3 x0_4 x0_5 x0_6 x0_7 x0_8 x0_9 x0_10 x0_11:AV}(h0:Zas (τ y0)=some [x0_0,x0_1,x0_2,x0_3,x0_4,x0_5,x0_6,x0_7,x0_8,x0_9,x0_10,x0_11]) (l0:[x0_0,x0_1,x0_2,x0_3,x0_4,x0_5,x0_6,x0_7,x0_8,x0_9,x0_10,x0_11].all leaf=true):Zaw τ [(0,12,y0)] [(.v (.int .i64 0)),(.v (.string ⟨#[]⟩)),(.v (.int .i64 0)),(.v (.int .i64 0)),(.v (.int .i64 0)),(.v (.int .i64 0)),(.v (.int .i64 0)),(.v (.int .i64 0)),(.v (.int .i64 0)),(.v (.int .i64 0)),(.v (.int .i64 0)),(.v (.string ⟨#[]⟩))]=some [x0_0,x0_1,x0_2,x0_3,x0_4,x0_5,x0_6,x0_7,x0_8,x0_9,x0_10,x0_11]:=by
 simp only[Zaw,h0,l0]
 rfl
theorem ZlH {a0 a1 a2 a3 a4 a5 a6 a7 a8 a9 a10 a11:AV}{l:List AV}:(a0::a1::a2::a3::a4::a5::a6::a7::a8::a9::a10::a11::l).take 12=[a0,a1,a2,a3,a4,a5,a6,a7,a8,a9,a10,a11]:=rfl
theorem ZlI {a0 c0:AV}{l:List AV}:setCells (a0::l) 0 [c0]=c0::l:=rfl
theorem ZgF {a0 a1 a2 a3 a4 a5 a6 a7 a8 a9 a10 a11:AV}{l:List AV}:((a0::a1::a2::a3::a4::a5::a6::a7::a8::a9::a10::a11::l).drop 1).take 11=[a1,a2,a3,a4,a5,a6,a7,a8,a9,a10,a11]:=rfl
theorem Ze1 {τ:Operand→AV}{y0 y1 y2:Operand}{x0_0 x1_0 x2_0:AV}(h0:Zas (τ y0)=some [x0_0]) (l0:[x0_0].all leaf=true) (h1:Zas (τ y1)=some [x1_0]) (l1:[x1_0].all leaf=true) (h2:Zas (τ y2)=some [x2_0]) (l2:[x2_0].all leaf=true):Zaw τ [(0,1,y0),(1,1,y1),(2,1,y2)] [(.v (.int .i64 0)),(.v (.int .i64 0)),(.v (.string ⟨#[]⟩))]=some [x0_0,x1_0,x2_0]:=by
 simp only[Zaw,h0,l0,h1,l1,h2,l2]
 rfl
theorem Ze0 {τ:Operand→AV}{y0:Operand}{x0_0 x0_1 x0_2:AV}(h0:Zas (τ y0)=some [x0_0,x0_1,x0_2]) (l0:[x0_0,x0_1,x0_2].all leaf=true):Zaw τ [(0,3,y0)] [(.v (.int .i64 0)),(.v (.int .i64 0)),(.v (.string ⟨#[]⟩))]=some [x0_0,x0_1,x0_2]:=by
 simp only[Zaw,h0,l0]
 rfl
theorem Zjj { e:Ent}:([]:AH)++[e]=[e]:=rfl
theorem ZhA {e0 e1 e2 e3 e4 e5 d0:Ent}:([e0,e1,e2,e3,e4,e5]:AH)++[d0]=[e0,e1,e2,e3,e4,e5,d0]:=rfl
theorem Zji {a0 a1 a2:AV}{l:List AV}:(a0::a1::a2::l).take 3=[a0,a1,a2]:=rfl
end
def c5p:AC:=(.seq (.reg [⟨(some 6),none,(.mv (.const (.slice none 0 0)))⟩,⟨(some 7),none,(.mv (.const (.int .i64 0)))⟩]) (.seq (.reg [⟨(some 15),none,(.mv (.tmp 0))⟩,⟨(some 16),none,(.mv (.tmp 1))⟩,⟨(some 17),none,(.mv (.tmp 2))⟩,⟨(some 18),none,(.call (.func 7) [(.tmp 15),(.tmp 16),(.tmp 17)])⟩,⟨(some 8),none,(.mv (.tmp 18))⟩]) (.seq (.reg [⟨(some 19),none,(.mv (.tmp 8))⟩,⟨(some 20),none,(.bin .neq (.tmp 19) (.const (.int .i64 0)))⟩]) (.seq (.cond (.tmp 20) (.seq (.reg [⟨(some 21),none,(.mv (.tmp 8))⟩,⟨(some 6),none,(.mv (.const (.slice none 0 0)))⟩,⟨(some 7),none,(.mv (.tmp 21))⟩]) .ret) .skip) (.seq (.reg [⟨(some 9),none,(.new 41 1 [(.sl 0 0 true [])])⟩]) (.seq (.reg [⟨(some 22),none,(.mv (.tmp 0))⟩,⟨(some 23),none,(.mv (.tmp 1))⟩,⟨(some 24),none,(.call (.func 8) [(.tmp 22),(.tmp 23)])⟩]) .skip))))))
def c5a:AC:=(.reg [⟨(some 10),none,(.new 45 12 [(.v (.int .i64 0)),(.v (.string ⟨#[]⟩)),(.v (.int .i64 0)),(.v (.int .i64 0)),(.v (.int .i64 0)),(.v (.int .i64 0)),(.v (.int .i64 0)),(.v (.int .i64 0)),(.v (.int .i64 0)),(.v (.int .i64 0)),(.v (.int .i64 0)),(.v (.string ⟨#[]⟩))])⟩,⟨none,none,(.store 12 (.tmp 10) (.tmp 25))⟩])
def c5b:AC:=(.block 1 (.reg [⟨(some 26),none,(.load false 1 (.tmp 9))⟩,⟨(some 27),none,(.load true 12 (.tmp 10))⟩,⟨(some 28),none,(.lit 45 12 1 [(.v (.int .i64 0)),(.v (.string ⟨#[]⟩)),(.v (.int .i64 0)),(.v (.int .i64 0)),(.v (.int .i64 0)),(.v (.int .i64 0)),(.v (.int .i64 0)),(.v (.int .i64 0)),(.v (.int .i64 0)),(.v (.int .i64 0)),(.v (.int .i64 0)),(.v (.string ⟨#[]⟩))] [(0,(12,(.tmp 27)))])⟩,⟨(some 29),none,(.app 45 12 112 (.tmp 26) (.tmp 28))⟩,⟨none,none,(.store 1 (.tmp 9) (.tmp 29))⟩]))
def c5q:AC:=(.seq (.reg [⟨(some 30),none,(.load false 1 (.tmp 9))⟩,⟨(some 31),none,(.call (.func 9) [(.tmp 30),(.func 10)])⟩]) (.seq (.reg [⟨(some 11),none,(.mv (.const (.slice none 0 0)))⟩]) (.seq (.reg [⟨(some 12),none,(.mv (.const (.int .i64 0)))⟩]) (.seq (.reg [⟨(some 32),none,(.load false 1 (.tmp 9))⟩,⟨(some 33),none,(.len false (.tmp 32))⟩,⟨(some 34),none,(.mv (.const (.int .i64 0)))⟩]) (.seq (.block 2 (.loop (.seq (.reg [⟨(some 35),none,(.bin .lss (.tmp 34) (.tmp 33))⟩]) (.seq (.cond (.tmp 35) .skip (.exit 2)) (.seq (.block 3 (.seq (.reg [⟨(some 36),none,(.mv (.tmp 34))⟩,⟨(some 37),none,(.ia 12 (.tmp 32) (.tmp 34))⟩,⟨(some 38),none,(.load true 12 (.tmp 37))⟩,⟨(some 14),none,(.new 45 12 [(.v (.int .i64 0)),(.v (.string ⟨#[]⟩)),(.v (.int .i64 0)),(.v (.int .i64 0)),(.v (.int .i64 0)),(.v (.int .i64 0)),(.v (.int .i64 0)),(.v (.int .i64 0)),(.v (.int .i64 0)),(.v (.int .i64 0)),(.v (.int .i64 0)),(.v (.string ⟨#[]⟩))])⟩,⟨(some 13),none,(.mv (.tmp 36))⟩,⟨none,none,(.store 12 (.tmp 14) (.tmp 38))⟩]) (.seq (.seq (.drw [⟨(some 39),none,(.mv (.tmp 13))⟩,⟨(some 40),none,(.bin .gtr (.tmp 39) (.const (.int .i64 0)))⟩,⟨(some 41),none,(.mv (.tmp 40))⟩,⟨(some 42),(some (41,true)),(.fa 0 (.tmp 14))⟩,⟨(some 43),(some (41,true)),(.load false 1 (.tmp 42))⟩,⟨(some 44),(some (41,true)),(.load false 1 (.tmp 9))⟩,⟨(some 45),(some (41,true)),(.mv (.tmp 13))⟩,⟨(some 46),(some (41,true)),(.bin .sub (.tmp 45) (.const (.int .i64 1)))⟩,⟨(some 47),(some (41,true)),(.ia 12 (.tmp 44) (.tmp 46))⟩,⟨(some 48),(some (41,true)),(.fa 0 (.tmp 47))⟩,⟨(some 49),(some (41,true)),(.load false 1 (.tmp 48))⟩,⟨(some 50),(some (41,true)),(.bin .sub (.tmp 43) (.tmp 49))⟩,⟨(some 51),(some (41,true)),(.bin .lss (.tmp 50) (.const (.int .i64 172800)))⟩,⟨(some 52),none,(.pick (.tmp 41) (.tmp 51) (.const (.bool false)))⟩] [] []) (.cond (.tmp 52) (.seq (.reg [⟨(some 6),none,(.mv (.const (.slice none 0 0)))⟩,⟨(some 7),none,(.mv (.const (.int .i64 4)))⟩]) .ret) .skip)) (.seq (.drw [⟨(some 53),none,(.mv (.tmp 11))⟩,⟨(some 54),none,(.fa 0 (.tmp 14))⟩,⟨(some 55),none,(.load false 1 (.tmp 54))⟩,⟨(some 56),none,(.fa 1 (.tmp 14))⟩,⟨(some 57),none,(.load true 11 (.tmp 56))⟩,⟨(some 58),none,(.mv (.tmp 2))⟩,⟨(some 59),none,(.mv (.tmp 12))⟩,⟨(some 60),none,(.call (.func 12) [(.tmp 57),(.tmp 58),(.tmp 59)])⟩,⟨(some 61),none,(.bin .sub (.tmp 55) (.tmp 60))⟩,⟨(some 62),none,(.fa 1 (.tmp 14))⟩,⟨(some 63),none,(.fa 9 (.tmp 62))⟩,⟨(some 64),none,(.load false 1 (.tmp 63))⟩,⟨(some 65),none,(.fa 1 (.tmp 14))⟩,⟨(some 66),none,(.fa 10 (.tmp 65))⟩,⟨(some 67),none,(.load false 1 (.tmp 66))⟩,⟨(some 68),none,(.build [(.v (.int .i64 0)),(.v (.int .i64 0)),(.v (.string ⟨#[]⟩))] [(0,(1,(.tmp 61))),(1,(1,(.tmp 64))),(2,(1,(.tmp 67)))])⟩,⟨(some 69),none,(.lit 33 3 1 [(.v (.int .i64 0)),(.v (.int .i64 0)),(.v (.string ⟨#[]⟩))] [(0,(3,(.tmp 68)))])⟩] [false,false] [⟨(some 70),none,(.app 33 3 32 (.tmp 53) (.tmp 69))⟩,⟨(some 11),none,(.mv (.tmp 70))⟩]) (.reg [⟨(some 71),none,(.fa 1 (.tmp 14))⟩,⟨(some 72),none,(.fa 9 (.tmp 71))⟩,⟨(some 73),none,(.load false 1 (.tmp 72))⟩,⟨(some 12),none,(.mv (.tmp 73))⟩]))))) (.reg [⟨(some 74),none,(.bin .add (.tmp 34) (.const (.int .i64 1)))⟩,⟨(some 34),none,(.mv (.tmp 74))⟩])))))) (.seq (.reg [⟨(some 75),none,(.mv (.tmp 11))⟩,⟨(some 76),none,(.len false (.tmp 75))⟩,⟨(some 77),none,(.bin .gtr (.tmp 76) (.const (.int .i64 1000)))⟩]) (.seq (.cond (.tmp 77) (.seq (.reg [⟨(some 6),none,(.mv (.const (.slice none 0 0)))⟩,⟨(some 7),none,(.mv (.const (.int .i64 2)))⟩]) .ret) .skip) (.seq (.reg [⟨(some 78),none,(.mv (.tmp 11))⟩,⟨(some 6),none,(.mv (.tmp 78))⟩,⟨(some 7),none,(.mv (.const (.int .i64 0)))⟩]) (.seq .ret .skip)))))))))
abbrev fr5:AFR:=⟨[(.reg [⟨(some 6),none,(.mv (.const (.slice none 0 0)))⟩,⟨(some 7),none,(.mv (.const (.int .i64 0)))⟩]),(.reg [⟨(some 15),none,(.mv (.tmp 0))⟩,⟨(some 16),none,(.mv (.tmp 1))⟩,⟨(some 17),none,(.mv (.tmp 2))⟩,⟨(some 18),none,(.call (.func 7) [(.tmp 15),(.tmp 16),(.tmp 17)])⟩,⟨(some 8),none,(.mv (.tmp 18))⟩]),(.reg [⟨(some 19),none,(.mv (.tmp 8))⟩,⟨(some 20),none,(.bin .neq (.tmp 19) (.const (.int .i64 0)))⟩]),(.cond (.tmp 20) (.seq (.reg [⟨(some 21),none,(.mv (.tmp 8))⟩,⟨(some 6),none,(.mv (.const (.slice none 0 0)))⟩,⟨(some 7),none,(.mv (.tmp 21))⟩]) .ret) .skip),(.reg [⟨(some 9),none,(.new 41 1 [(.sl 0 0 true [])])⟩]),(.reg [⟨(some 22),none,(.mv (.tmp 0))⟩,⟨(some 23),none,(.mv (.tmp 1))⟩,⟨(some 24),none,(.call (.func 8) [(.tmp 22),(.tmp 23)])⟩])],(.tmp 24),#[25],c5a,c5b,c5q,[(.tmp 6),(.tmp 7)],79⟩
theorem k5:Zhl Try.prog 5=some fr5:=by kernel_rfl
theorem turns_ne {l:List Rul}{nm:ByteArray}(h : ∀ r∈l,Za8 r=0) (hn : ∃ r∈l,r.1=nm):ZaU l nm≠[]:=by
 obtain⟨r,hr,e⟩:=hn
 have h1:=Ze9 (h r hr)
 obtain⟨_,q2,_⟩:=Zbu (h r hr)
 intro hE
 have:Zci r=[]:=by
  unfold ZaU at hE
  rw[List.flatMap_eq_nil_iff] at hE
  have:=hE r hr
  rwa [if_pos e] at this
 rw[this] at h1
 simp at h1
 have q2:r.2.1≤r.2.2.1:=q2
 have h2:(0:Int)=r.2.2.1-r.2.1+1:=h1
 omega
abbrev timT (N:Nat) (l:List Rul) (nm:ByteArray) (sh:Int) (x:AV):List AV:=[.sl l.length 11 false (rows rulC l),sv nm,iv sh,.any,.any,.any,.any,.any,.any,.ptr (N+0) 0 0,.any,.any,.any,.any,.any,.any,.any,.any,.any,.any,.any,.any,.any,.any,.clo (.func 17) [.rp [.sl l.length 11 false (rows rulC l)],.rp [sv nm]],x,.any,.any,.any,.any,.any,.any,.any,.any,.any,.any,.any,.any,.any,.any,.any,.any,.any,.any,.any,.any,.any,.any,.any,.any,.any,.any,.any,.any,.any,.any,.any,.any,.any,.any,.any,.any,.any,.any,.any,.any,.any,.any,.any,.any,.any,.any,.any,.any,.any,.any,.any,.any,.any]
abbrev timH (h:AH) (D l N:Nat) (o:Obj) (T:List AV) (vs:List Value) (d:List Trn):AH:=h++[.mk 0 41 1 [.own (N+1) d.length d.length],.mk d.length 45 12 (rows trnC d),mkD D,.raw l o T vs]
abbrev timJ (h:AH) (D l N:Nat) (o:Obj) (T:List AV) (vs:List Value) (d:List Trn) (e f:Ent):AH:=h++[.mk 0 41 1 [.own (N+1) d.length d.length],.mk d.length 45 12 (rows trnC d),mkD D,.raw l o T vs,e,f]
theorem ZkG {n:Nat} : ∀ {a b:List AV},AV.ltL n (a++b)=(AV.ltL n a&&AV.ltL n b)
 | [],b=>by simp[AV.ltL]
 | c::a,b=>by simp[AV.ltL,ZkG (a:=a) (b:=b),Bool.and_assoc]
theorem Zl4 {h:AH}{D l N:Nat}{o:Obj}{T:List AV}{vs:List Value}{d:List Trn}{e f:Ent}:timH h D l N o T vs d++[e,f]=timJ h D l N o T vs d e f:=by simp
abbrev timK (P:Program) (lp N D:Nat) (rdy bsy fin:Obj) (l:List Rul) (nm:ByteArray) (sh:Int) (vs:List Value):Prop:=Znq P fr5 (N+2+1) lp rdy bsy fin (timT N l nm sh .any) vs
theorem timT_lt {N:Nat}{l:List Rul}{nm:ByteArray}{sh:Int}:AV.ltL (N+4) (timT N l nm sh .any)=true:=by simp[AV.ltL,AV.lt,ZbU]
theorem timH_lt {h:AH}{D lp N:Nat}{o:Obj}{l:List Rul}{nm:ByteArray}{sh:Int}{vs:List Value}(hlt : ∀ e∈h,e.lt N=true) (d:List Trn) : ∀ e∈timH h D lp N o (timT N l nm sh .any) vs d,e.lt (N+4)=true:=by
 intro e he
 rcases List.mem_append.1 he with he | he
 ·exact ltw om hlt e he
 simp only[List.mem_cons,List.not_mem_nil,or_false] at he
 rcases he with rfl | rfl | rfl | rfl
 ·simp[Ent.lt,AV.ltL,AV.lt]
 ·simp[Ent.lt,Zkf]
 ·simp[Ent.lt,AV.ltL]
 simpa [Ent.lt] using timT_lt
theorem app62 {h:AH}{a b c d e f p q:Ent}:h++[a,b,c,d,e,f,p,q]=(h++[a,b,c,d,e,f])++[p,q]:=by simp
theorem Zjx {h:AH}{lp N D:Nat}{rdy bsy fin:Obj}{l:List Rul}{nm:ByteArray}{sh:Int}{vs:List Value}(hn:h.length=N) (hlt : ∀ e∈h,e.lt N=true) (hY:timK Try.prog lp N D rdy bsy fin l nm sh vs) {d:List Trn}{t:Trn}{e f:Ent}(hd:d.length<10000) :
  AYield Try.prog lp [.agg (trnC t)] (timJ h D lp N rdy (timT N l nm sh .any) vs d e f) fun r h''=>r=.ret (.v (.bool true))∧h''=timJ h D lp N rdy (timT N l nm sh .any) vs (d++[t]) e f:=by
 refine y_go hY (hga (k:=3) hn rfl) rfl fun n0 hn0 hlt0 q1 q2 q3=>?_
 obtain⟨a,n,fr,tt,m,⟨kd,wk,dn⟩,at_,ck,sv_,lt⟩:=t
 show aw _ _ c5a _ _ _
 show aw _ _ _ _ (timT N l nm sh (.agg (trnC (a,n,fr,tt,m,(kd,wk,dn),at_,ck,sv_,lt)))) (h++[.mk 0 41 1 [.own (N+1) d.length d.length],.mk d.length 45 12 (rows trnC d),mkD D,.raw lp rdy (timT N l nm sh .any) vs,e,f])
 refine Zar<|E' (ZbZ (hl6 hn) ha6) pt<|E' (Zam lk cv gx rfl (nb' rfl) rfl ZgG (hs6 hn)) ptn<|Zaq<|?_
 refine asg_go (i:=N+3) gx (hs3 hn) fun n1 hn1 hlt1=>?_
 show aw _ _ c5b _ _ _
 refine Zao<|Zar<|Vw (Zae lk gx gt0)<|Vw (ZaE lk gx Zkb rfl)<|E' (Zgo (Zjk cv rfl) (hl7 hn) ha7) pt<|?_
 refine E' (Zfl (Zdc lk gx rfl ZlH (nb' rfl)) lk gx (trn_len _) om rfl (hs1 hn)) pt ?_
 refine E' (Zam lk cv gx rfl (nb' rfl) rfl ZlI (hs0 hn)) ptn<|Zaq<|ZaC<|?_
 refine body_go (i:=N+3) gx (hs3 hn) ?_
 refine⟨_,_,app62,?_,fun x hx=>?_,rfl,rfl,?_⟩
 ·rw[←hn0];simp
 ·have hm:n0=N+6:=by rw[←hn0];simp[hn]
  subst hm
  rcases List.mem_append.1 hx with hx | hx
  ·exact ltw om hlt x hx
  simp only[List.mem_cons,List.not_mem_nil,or_false] at hx
  rcases hx with rfl | rfl | rfl | rfl | rfl | rfl
  ·simp[Ent.lt,AV.ltL,AV.lt]
  ·simp[Ent.lt,Zkf,ZkG,AV.ltL,AV.lt]
  ·simp[Ent.lt,AV.ltL]
  ·exact hlt0 _ (by simp)
  ·exact hlt0 _ (by simp)
  exact hlt0 _ (by simp)
 unfold timJ;rw[Zbz,Zby,List.length_append];rfl
theorem sortT_b {h:AH}{N:Nat}{a:Ent}{l:AH}{v ty:Nat}{S:List Trn}(hn:h.length=N) (hl:S≠[]) (hz:S.length<4611686018427387904) :
  ACalls Try.prog 9 [.own (N+1) v S.length,.v (.func (.func 10) #[] #[])] (h++(a::.mk v ty 12 (rows trnC S)::l)) fun x h'=>x=.ret (.tup []) ∧ ∃ S',ordT S S'∧h'=h++(a::.mk v ty 12 (rows trnC S')::l):=by
 refine (sortT_a (hga (k:=1) hn rfl) hl hz).mono ?_
 rintro x h' ⟨rfl,S',h1,rfl⟩
 exact⟨rfl,S',h1,hs1 hn⟩
theorem gapB_pre {l:List Trn}{i:Nat}(h:i<l.length) (h0:0<i) (hg:l[i].1-(l[i-1]'(by omega)).1<172800):gapB l=true:=by
 obtain⟨i,rfl⟩ : ∃ i0,i=i0+1:=⟨i-1,by omega⟩
 exact ZmY h hg
theorem gap_ok {S:List Trn}{i:Nat}(hi : ∀ j (h:j+1<S.length),j+1<i→172800≤S[j+1].1-S[j].1) (hl:S.length≤i):gapB S=false:=(Zh4 S).2 fun j h=>hi j h om
theorem Zk3 {h:AH}{lp N D n0:Nat}{o:Obj}{l:List Rul}{nm:ByteArray}{sh:Int}{vs:List Value}(hn:h.length=N) (hlt : ∀ e∈h,e.lt N=true) (hr0:ZcP l nm sh=0) (hn0:N+4=n0) :
  aw Try.prog n0 c5q (Zgd fr5.res (N+2) D fun x h' => ∃ z,h'=h++z∧x.lt N=true ∧ ∃ c,x=.ret c∧Wk c (.tup [.sl (ZaR l nm sh).1.length 3 false (rows timC (ZaR l nm sh).1),iv (ZaR l nm sh).2])) (timT N l nm sh .any)
   (h++[.mk 0 41 1 [.own (N+1) (ZaU l nm).length (ZaU l nm).length],.mk (ZaU l nm).length 45 12 (rows trnC (ZaU l nm)),mkD D,.gone]):=by
 obtain⟨g1,g2,g3,g4⟩:=ZdK hr0
 have hne:=turns_ne g2 g4
 have htl:=ZfZ (nm:=nm) g2
 have htO : ∀ t∈ZaU l nm,Za8 t.2=0 ∧ -2592000000≤t.1∧t.1≤4320172800:=fun t ht=>ZhG g2 ht
 subst hn0
 show aw _ _ c5q _ _ _
 refine wr'<|Vw (Zae lk gx gt0)<|?_
 refine s_callE mp (sortT_b hn hne om) pt ?_
 rintro S hS
 have hSl:=hS.1.length_eq
 have hSO : ∀ t∈S,Za8 t.2=0 ∧ -2592000000≤t.1∧t.1≤4320172800:=fun t ht=>htO t (hS.1.mem_iff.1 ht)
 have hTV:=Zkn (sh:=sh) hr0 hS.1 hS.2
 rw[←hSl]
 refine sn'<|wr'<|mv' lkn pt11<|Zaq<|ZbY (ALe.own0' (st':=3) (ty:=33) gt11 (hl4 hn) pt11 ha4)<|wr'<|mv' lki pt12<|sn'<|wr'<|?_
 refine Vw (Zae lk gx gt0)<|Vw (ZdE lk)<|mw<|sn'<|Zan<|Zao<|?_
 refine w_lp (ι:=Nat) (fun (i:Nat)=>[(11,.own (N+4) i (outV sh 0 (S.take i)).length),(12,iv (svAt S i)),(34,iv (i:Int)),(6,.any),(7,.any),(13,.any),(14,.any)]++rn' 35 40) (fun (i:Nat)=>[(4,.mk i 33 3 (rows timC (outV sh 0 (S.take i))))]) (fun (i:Nat)=>i≤S.length ∧ ∀ j (h:j+1<S.length),j+1<i→172800≤S[j+1].1-S[j].1) (fun (i:Nat)=>S.length-i) (0) (by exact⟨Nat.zero_le _,fun j _ h=>by omega⟩) ?_
 rintro i hi1
 try simp only[sm',Nat.reduceAdd]
 obtain⟨hi1,hi2⟩:=hi1
 refine wr'<|Vw (ZbP lk lk)<|sn'<|Zan<|?_
 refine cd' lk (fun hc1=>?_) (fun hc1=>?_)
 ·have hi:i<S.length:=by omega
  obtain⟨hb0,hb1⟩:=hSO _ (List.getElem_mem hi)
  have hsv:=svAt_bd (i:=i) fun t ht=>(hSO t ht).1
  have hoff:=ZmD (r:=S[i].2) g3 hsv
  have hol2:(outV sh 0 (S.take (i+1))).length=i+1:=by rw[Zc1,List.length_take];omega
  have hol:(outV sh 0 (S.take i)).length=i:=by rw[Zc1,List.length_take];omega
  refine Zaf<|Zah<|Zan<|Zao<|wr'<|mw<|?_
  refine V' (v_iaOR lk lk gx ZeA (nb' rfl) ro om (by first | rfl | (simp;done) | omega)) pt ?_
  refine V' (v_ldOR lk gx ZeA om rfl) pt ?_
  refine E' (ZbZ (hl5 hn) ha5) pt<|mw<|E' (Zam lk cv gx rfl (nb' rfl) rfl ZgG (hs5 hn)) ptn<|sn'<|Zan<|Zan<|Zcg<|Dw (v_mv lk)<|Dw (ZbI lk lki)<|Dw (v_mv lk)<|?_
  refine dq' (t:=41) gt pt pt (fun hg41=>?_) (fun hg41=>?_)
  ·obtain⟨hb3,hb4⟩:=hSO _ (List.getElem_mem (show i-1<S.length by omega))
   refine d_do gt<|Dw (Zac lk)<|d_do gt<|Dw (Zae lk gx gt0)<|d_do gt<|Dw (Zae lk gx gt0)<|d_do gt<|Dw (v_mv lk)<|d_do gt<|?_
   refine D' (Zbi lk lki om om) pt ?_
   refine d_do gt ?_
   refine D' (v_iaOR (k:=i-1) lk lk gx ZeA (nb' rfl) ro om (by first | rfl | (simp;done) | omega)) pt ?_
   refine d_do gt<|Dw (Zch lk)<|d_do gt<|?_
   refine D' (v_ldOF lk gx ZeA om (nb' rfl) gt0) pt ?_
   refine d_do gt ?_
   refine D' (Zbi lk lk om om) pt ?_
   refine d_do gt<|Dw (ZbP lk lki)<|Dw (Zag lk lk)<|ZbB<|?_
   refine ZbS ?_
   refine sn' ?_
   refine cd' lk (fun hc2=>?_) (fun hc2=>?_)
   ·have hG:gapB S=true:=gapB_pre hi om hc2
    refine wr'<|mw<|mw<|sn'<|Zaa<|Zal<|Zap<|Zal<|Zal<|Zap<|Zal<|?_
    refine ZhW gx (hs2 hn) ry ?_
    refine rtW' ?_
    rw[hTV,if_pos hG];exact Wk.tup (wkw Wk.nilF (wk1 rfl wk0))
   refine Zaf<|Zah<|Zan<|Zcg<|Dw (v_mv lk)<|Dw (Zac lk)<|Dw (Zae lk gx gt0)<|Dw (Zac lk)<|Dw (ZaE lk gx ZgF rfl)<|Dw (v_mv lk)<|Dw (v_mv lk)<|?_
   refine Zbw mp (fun hE hX=>off_a g3 hsv) pt ?_
   refine D' (Zbi lk lk om om) pt ?_
   refine Dw (Zac lk)<|Dw (Zch lk)<|Dw (Zae lk gx gt10)<|Dw (Zac lk)<|Dw (Zch lk)<|Dw (Zae lk gx gt11)<|Dw (Zax (Ze1 cv rfl cv rfl cv rfl))<|d_eff rfl rfl (hlk hn rfl) (l_lit (Ze0 cv rfl)) pt Zjj<|ZbB<|?_
   refine e_ent ZhA ?_
   refine E' (Zfl (Zdc lk gx rfl Zji (nb' rfl)) lk gx (ZhK _) om rfl (hs4 hn)) pt ?_
   refine mw<|sn'<|Zar<|Vw (Zac lk)<|Vw (Zch lk)<|Vw (Zae lk gx gt10)<|mw<|Zaq<|ZaC<|Zah<|Zar<|?_
   refine V' (Zau lk lki om om) pt ?_
   refine mw<|Zaq<|ZaB<|?_
   refine lU' (i+1) (by (try dsimp only);exact⟨by omega,fun j hj h=>by by_cases e:j+1=i;(subst e;(try simp only[Nat.add_sub_cancel] at hc2);omega);exact hi2 j hj om⟩) (by (try dsimp only);(try simp only[sm',Nat.reduceAdd]);exact bkE' 5 hn hlt (by repeat (first | exact wk0 | refine wka ?_ | refine wk1 rfl ?_ | refine wk1 (by first | rfl | exact ivx om | (rw[hol2,hol];done) | (rw[hol2,hol]) | (rw[Zf7 hi])) ?_)) (by rw[ZiO hi,Zbz,Zby];rfl))
  refine d_no gt pt<|d_no gt pt<|d_no gt pt<|d_no gt pt<|d_no gt pt<|d_no gt pt<|d_no gt pt<|d_no gt pt<|d_no gt pt<|d_no gt pt<|Dw (Zab lk lkb)<|ZbB<|?_
  refine ZbS ?_
  refine sn'<|ZaG lk<|Zaf<|Zah<|Zan<|Zcg<|Dw (v_mv lk)<|Dw (Zac lk)<|Dw (Zae lk gx gt0)<|Dw (Zac lk)<|Dw (ZaE lk gx ZgF rfl)<|Dw (v_mv lk)<|Dw (v_mv lk)<|?_
  refine Zbw mp (fun hE hX=>off_a g3 hsv) pt ?_
  refine D' (Zbi lk lk om om) pt ?_
  refine Dw (Zac lk)<|Dw (Zch lk)<|Dw (Zae lk gx gt10)<|Dw (Zac lk)<|Dw (Zch lk)<|Dw (Zae lk gx gt11)<|Dw (Zax (Ze1 cv rfl cv rfl cv rfl))<|d_eff rfl rfl (hlk hn rfl) (l_lit (Ze0 cv rfl)) pt Zjj<|ZbB<|?_
  refine e_ent ZhA ?_
  refine E' (Zfl (Zdc lk gx rfl Zji (nb' rfl)) lk gx (ZhK _) om rfl (hs4 hn)) pt ?_
  refine mw<|sn'<|Zar<|Vw (Zac lk)<|Vw (Zch lk)<|Vw (Zae lk gx gt10)<|mw<|Zaq<|ZaC<|Zah<|Zar<|?_
  refine V' (Zau lk lki om om) pt ?_
  refine mw<|Zaq<|ZaB<|?_
  refine lU' (i+1) (by (try dsimp only);exact⟨by omega,fun j hj h=>by by_cases e:j+1=i;(subst e;(try simp only[Nat.add_sub_cancel] at hc2);omega);exact hi2 j hj om⟩) (by (try dsimp only);(try simp only[sm',Nat.reduceAdd]);exact bkE' 5 hn hlt (by repeat (first | exact wk0 | refine wka ?_ | refine wk1 rfl ?_ | refine wk1 (by first | rfl | exact ivx om | (rw[hol2,hol];done) | (rw[hol2,hol]) | (rw[Zf7 hi])) ?_)) (by rw[ZiO hi,Zbz,Zby];rfl))
 have hie:i=S.length:=by omega
 subst hie
 rw[List.take_length]
 have hG:gapB S=false:=gap_ok hi2 (Nat.le_refl _)
 rw[if_neg (by rw[hG];simp)] at hTV
 have hol:=Zc1 S sh 0
 refine ZaX<|ZaN<|ZaN<|Zbq<|Zah<|wr'<|mw<|Vw (ZdE lk)<|Vw (ZbI lk lki)<|sn'<|Zan<|?_
 refine cd' lk (fun hc3=>?_) (fun hc3=>?_)
 ·refine wr'<|mw<|mw<|sn'<|Zaa<|Zal<|?_
  refine ZhW gx (hs2 hn) ry ?_
  refine rtW' ?_
  rw[hTV,if_pos om];exact Wk.tup (wkw Wk.nilF (wk1 rfl wk0))
 refine Zaf ?_
 refine ZbY (ALe.iceR (hga hn rfl) gt11 (List.take_of_length_le (by rw[ZhK];exact Nat.le_refl _)) (by rw[ZhK];exact Nat.le_refl _) pt11 (hs4 hn)) ?_
 refine wr'<|mw<|mw<|mw<|sn'<|Zan<|Zaa<|Zal<|?_
 refine ZhW gx (hs2 hn) ry ?_
 refine rtW' ?_
 rw[hTV,if_neg om];exact Wk.tup (wkw Wk.full (wk1 rfl wk0))
theorem Zk4 {h:AH}{lp N D:Nat}{rdy bsy fin:Obj}{l:List Rul}{nm:ByteArray}{sh:Int}{vs:List Value}(hn:h.length=N) (hlt : ∀ e∈h,e.lt N=true) (hr0:ZcP l nm sh=0) (hY:timK Try.prog lp N D rdy bsy fin l nm sh vs) {R:AE→AH→Prop}
    (hR:R=fun x h' => ∃ z,h'=h++z∧x.lt N=true ∧ ∃ c,x=.ret c∧Wk c (.tup [.sl (ZaR l nm sh).1.length 3 false (rows timC (ZaR l nm sh).1),iv (ZaR l nm sh).2])) :
    ACalls Try.prog 17 (.v (.func (.yield lp) #[] #[])::[.rp [.sl l.length 11 false (rows rulC l)],.rp [sv nm]]) (timH h D lp N rdy (timT N l nm sh .any) vs []) fun r h3=>(∃ c,r=.ret c) ∧
      ((h3[N+2+1]?=some (.raw lp rdy (timT N l nm sh .any) vs) ∧ ∀ n0,(h3.set (N+2+1) .gone).length=n0→(∀ e∈h3.set (N+2+1) .gone,e.lt n0=true)→aw Try.prog n0 fr5.post (Zgd fr5.res (N+2) D R) (timT N l nm sh .any) (h3.set (N+2+1) .gone)) ∨
       (h3[N+2+1]?=some (.raw lp fin (timT N l nm sh .any) vs)∧Zgd fr5.res (N+2) D R .ret (timT N l nm sh .any) (h3.set (N+2+1) .gone))):=by
  obtain⟨g1,g2,g3,g4⟩:=ZdK hr0
  have htl:=ZfZ (nm:=nm) g2
  refine (turns1_a (H:=timH h D lp N rdy (timT N l nm sh .any) vs) g2 g1 (fun d=>hl4 hn) (timH_lt hlt) (fun d t e f hd=>?_)).mono ?_
  · rw[Zl4,Zl4]
    exact Zjx hn hlt hY om
  rintro x h3 ⟨rfl,rfl⟩
  refine⟨⟨_,rfl⟩,.inl ⟨hga (k:=3) hn rfl,fun n0 hn0 _=>?_⟩⟩
  have hs:(timH h D lp N rdy (timT N l nm sh .any) vs (ZaU l nm)).set (N+2+1) .gone=h++[.mk 0 41 1 [.own (N+1) (ZaU l nm).length (ZaU l nm).length],.mk (ZaU l nm).length 45 12 (rows trnC (ZaU l nm)),mkD D,.gone]:=hs3 hn
  rw[hs] at hn0 ⊢
  subst hR
  exact Zk3 (o:=rdy) (lp:=lp) (vs:=vs) hn hlt hr0 ((hl4 hn).symm.trans hn0)
theorem ZhJ {l:List Rul}{nm:ByteArray}{sh:Int}{h:AH}(hok:okRs l) (hl:l.length≤9223372036854775807) :
  Ac 5 [.sl l.length 11 false (rows rulC l),sv nm,iv sh] h (.tup [.sl (ZaR l nm sh).1.length 3 false (rows timC (ZaR l nm sh).1),iv (ZaR l nm sh).2]):=by
 refine ACalls.weak (tR' k5 fun N hn hlt hlA hbd=>?_)
 show aw _ _ c5p _ _ _
 show aw _ _ _ _ [.sl l.length 11 false (rows rulC l),sv nm,iv sh,.any,.any,.any,.any,.any,.any,.any,.any,.any,.any,.any,.any,.any,.any,.any,.any,.any,.any,.any,.any,.any,.any,.any,.any,.any,.any,.any,.any,.any,.any,.any,.any,.any,.any,.any,.any,.any,.any,.any,.any,.any,.any,.any,.any,.any,.any,.any,.any,.any,.any,.any,.any,.any,.any,.any,.any,.any,.any,.any,.any,.any,.any,.any,.any,.any,.any,.any,.any,.any,.any,.any,.any,.any,.any,.any,.any] _
 refine wr'<|mw<|mw<|sn'<|wr'<|mw<|mw<|mw<|Zak mp (ready_a hok hl) pt<|mw<|Zaq<|?_
 refine Zah<|wr'<|mw<|Vw (Za1 lk lki)<|sn'<|Zan<|?_
 refine cd' lk (fun hc1=>?_) (fun hc1=>?_)
 ·refine wr'<|mw<|mw<|mw<|sn'<|Zaa<|Zal<|?_
  refine pre_ret ry ?_
  refine rtW' ?_
  rw[Ziy hc1];exact Wk.tup (wkw Wk.nilF (wk1 rfl wk0))
 refine Zaf<|Zah<|wr'<|E' (ZbZ (hl0 hn) ha0) pt<|Zaq<|?_
 refine ZbY (ALe.own0Cell (st':=12) (ty:=45) gx gt0 (hl1 hn) pt0 (Eq.trans (congrArg (fun z=>List.set z _ _) ha1) (hs0 hn))) ?_
 refine wr'<|mw<|mw<|Zak mp (turns_a) pt<|sn'<|Zaf<|?_
 refine pre_go (T1:=timT N l nm sh .any) (ALe.same wA' rfl) rfl (hl2 hn) fun lp D rdy bsy fin vs hle hlT hY=>?_
 have hgo:=Zk4 (D:=D) hn hlt (Decidable.of_not_not hc1) hY rfl
 rw[show (h++[Ent.mk 0 41 1 [.own (N+1) 0 0],Ent.mk 0 45 12 []]++[mkD D,Ent.raw lp rdy (timT N l nm sh .any) vs]:AH)=timH h D lp N rdy (timT N l nm sh .any) vs [] by simp[rows]]
 exact hgo
end Go.Proofs.Yticajimgfndceaa
end
section
namespace Go.Proofs.Yticajimgfndceaa
open Go.Ab Civ
def cntR (nm:ByteArray):List Rul→Int
 | []=>0
 | r::l=>(if r.1=nm then rTo r-rFr r+1 else 0)+cntR nm l
theorem Zi9 (nm:ByteArray) : ∀ (l:List Rul) (r:Rul),cntR nm (l++[r])=cntR nm l+(if r.1=nm then rTo r-rFr r+1 else 0)
 | [],r=>by simp[cntR]
 | x::l,r=>by rw[List.cons_append,cntR,Zi9 nm l r,cntR];omega
theorem Zna {nm:ByteArray} : ∀ {l:List Rul},(∀ r∈l,Za8 r=0)→0≤cntR nm l∧cntR nm l≤201*l.length
 | [],_=>by simp[cntR]
 | r::l,h=>by
  have h1:=Zna (nm:=nm) (l:=l) fun x hx=>h x (by simp[hx])
  obtain⟨a,b,c,_⟩:=Zbu (h r (by simp))
  rw[cntR,List.length_cons]
  split <;> omega
theorem Ziv {nm:ByteArray} : ∀ {l:List Rul},(∀ r∈l,Za8 r=0)→((ZaU l nm).length:Int)=cntR nm l
 | [],_=>rfl
 | r::l,h=>by
  have h1:=Ziv (nm:=nm) (l:=l) fun x hx=>h x (by simp[hx])
  obtain⟨a,b,c,_⟩:=Zbu (h r (by simp))
  unfold ZaU at h1 ⊢
  rw[List.flatMap_cons,List.length_append,cntR]
  split
  ·have:(Zci r).length=(rTo r+1-rFr r).toNat:=by simp[Zci,ZfU]
   omega
  ·simp only[List.length_nil];omega
theorem ZdF {l:List Rul}{nm:ByteArray}{sh:Int}(h:(ZaR l nm sh).2=0):l.length≤40∧(∀ r∈l,Za8 r=0)∧(-64800≤sh∧sh≤64800)∧(ZaR l nm sh).1=outV sh 0 (srtT (ZaU l nm)):=by
 unfold ZaR at h ⊢
 split at h
 ·rename_i h1;exact absurd h h1
 rename_i h1
 split at h
 ·cases h
 rename_i h2
 split at h
 ·cases h
 rename_i h3
 obtain⟨g1,g2,g3,_⟩:=ZdK (Decidable.of_not_not h1)
 rw[if_neg h1,if_neg h2,if_neg h3]
 exact⟨g1,g2,g3,rfl⟩
theorem Zk5 {l:List Rul}{nm:ByteArray}{sh:Int}(h:(ZaR l nm sh).2≠0):(ZaR l nm sh).1=[]:=by
 unfold ZaR at h ⊢
 split
 ·rfl
 rename_i h1
 split
 ·rfl
 rename_i h2
 split
 ·rfl
 rename_i h3
 rw[if_neg h1,if_neg h2,if_neg h3] at h
 exact absurd rfl h
theorem Zix {l:List Rul}{nm:ByteArray}{sh:Int}(h:(ZaR l nm sh).2=0):((ZaR l nm sh).1.length:Int)=cntR nm l:=by
 obtain⟨_,h2,_,h4⟩:=ZdF h
 rw[h4,Zc1,srt_len,Ziv h2]
theorem Zmz : ∀ (l:List Trn) (sa:Int) (i:Nat) (h:i<l.length),∃ sa',∀ sh (h2:i<(outV sh sa l).length),(outV sh sa l)[i]=timV sh sa' l[i]
 | t::l,sa,0,_=>⟨sa,fun _ _=>rfl⟩
 | t::l,sa,i+1,h=>by
  obtain⟨sa',hs⟩:=Zmz l (rSv t.2) i (by simpa using h)
  exact⟨sa',fun sh h2=>hs sh (by simpa [outV] using h2)⟩
theorem Zkw {l:List Rul}{nm:ByteArray}{sh more:Int}(h1:(ZaR l nm sh).2=0) (h2:(ZaR l nm more).2=0) (hm:sh≤more) {i:Nat}(a:i<(ZaR l nm sh).1.length) (b:i<(ZaR l nm more).1.length) :
  (ZaR l nm more).1[i].1≤(ZaR l nm sh).1[i].1∧(ZaR l nm sh).1[i].1-(ZaR l nm more).1[i].1≤more-sh:=by
 obtain⟨_,_,_,e1⟩:=ZdF h1
 obtain⟨_,_,_,e2⟩:=ZdF h2
 have hi:i<(srtT (ZaU l nm)).length:=by rw[e1,Zc1] at a;exact a
 obtain⟨sa,hs⟩:=Zmz _ 0 i hi
 have f1:(ZaR l nm sh).1[i]=timV sh sa (srtT (ZaU l nm))[i]:=by
  have:=hs sh (by rw[Zc1];exact hi)
  simp only[e1,this]
 have f2:(ZaR l nm more).1[i]=timV more sa (srtT (ZaU l nm))[i]:=by
  have:=hs more (by rw[Zc1];exact hi)
  simp only[e2,this]
 rw[f1,f2]
 unfold timV offV
 dsimp only
 split
 ·omega
 ·split <;> omega
end Go.Proofs.Yticajimgfndceaa
end
section
namespace Go.Proofs.Yticajimgfndceaa
open Go.Ab
abbrev TS:=List ByteArray×Bool
abbrev bad (t:TS):TS:=(t.1,true)
def ZaK (t:TS):ByteArray×TS:=if t.2=true∨t.1=[] then (⟨#[]⟩,bad t) else (t.1.headD ⟨#[]⟩,t.1.tail,false)
def decL:Int→Bs→Int
 | n,[]=>n
 | n,c::l=>decL (10*n+c.toNat-48) l
def numV (s:ByteArray) (a b:Int):Option Int:=if wi s.size a b=true∧allB digB s=true then some (decL 0 (aB s)) else none
def tNum (s:ByteArray) (a b:Int) (t:TS):Int×TS:=match numV s a b with
 | some n=>(n,t)
 | none=>(0,bad t)
def ZdH (t:TS):ByteArray×TS:=((ZaK t).1,if Zcc (ZaK t).1=true then (ZaK t).2 else bad (ZaK t).2)
def idxL:List ByteArray→ByteArray→Int→Option Int
 | [],_,_=>none
 | x::l,s,d=>if s=x then some d else idxL l s (d+1)
def monL:List ByteArray:=[bA [74,97,110],bA [70,101,98],bA [77,97,114],bA [65,112,114],bA [77,97,121],bA [74,117,110],bA [74,117,108],bA [65,117,103],bA [83,101,112],bA [79,99,116],bA [78,111,118],bA [68,101,99]]
def dayL:List ByteArray:=[bA [83,117,110],bA [77,111,110],bA [84,117,101],bA [87,101,100],bA [84,104,117],bA [70,114,105],bA [83,97,116]]
def ZcO (t:TS):Int×TS:=match idxL monL (ZaK t).1 1 with
 | some n=>(n,(ZaK t).2)
 | none=>(0,bad (ZaK t).2)
def Zda (s:ByteArray) (t:TS):Int×TS:=match idxL dayL s 0 with
 | some n=>(n,t)
 | none=>(0,bad t)
def Zce (s:ByteArray) (k:Nat):Int:=(Zay s k).toNat
def Zc9 (s:ByteArray):Nat:=if 4≤s.size∧s.extract 0 4=bA [108,97,115,116] then 2 else if 5<s.size∧Zce s 4=61∧Zce s 3=62 then 3 else if 5<s.size∧Zce s 4=61∧Zce s 3=60 then 4 else 1
def Zbo (s:ByteArray) (t:TS):Frm×TS :=
 if Zc9 s=2 then ((2,(Zda (s.extract 4 s.size) t).1,0),(Zda (s.extract 4 s.size) t).2)
 else if Zc9 s=1 then ((1,0,(tNum s 1 2 t).1),(tNum s 1 2 t).2)
 else ((Zc9 s,(Zda (s.extract 0 3) t).1,(tNum (s.extract 5 s.size) 1 2 (Zda (s.extract 0 3) t).2).1),(tNum (s.extract 5 s.size) 1 2 (Zda (s.extract 0 3) t).2).2)
def Zfd (t:TS):Frm×TS:=Zbo (ZaK t).1 (ZaK t).2
def tSix (s:ByteArray) (t:TS):Int×TS:=((tNum s 2 2 t).1,if (tNum s 2 2 t).1>59 then bad (tNum s 2 2 t).2 else (tNum s 2 2 t).2)
def ZdG (l:List Bs) (t:TS):Int×TS:=match l with
 | [a,b]=>(3600*(tNum (bA a) 1 2 t).1+60*(tSix (bA b) (tNum (bA a) 1 2 t).2).1,(tSix (bA b) (tNum (bA a) 1 2 t).2).2)
 | [a,b,c]=>(3600*(tNum (bA a) 1 2 t).1+60*(tSix (bA b) (tNum (bA a) 1 2 t).2).1+(tSix (bA c) (tSix (bA b) (tNum (bA a) 1 2 t).2).2).1,(tSix (bA c) (tSix (bA b) (tNum (bA a) 1 2 t).2).2).2)
 | _=>(0,bad t)
def Zbc (s:ByteArray) (t:TS):Int×TS:=if s=bA [48] then (0,t) else ZdG (cutC 58 (aB s)) t
def wsuA:ByteArray:=bA [63,119,115,117]
def ZcH (c d:Int):Nat→Int
 | 0=>d
 | k+1=>if c=Zce wsuA (k+1) then ((k+1:Nat):Int) else ZcH c d k
def Zcd (s:ByteArray):Int:=Zce s (s.size-1)
def Zc7 (d:Int) (s:ByteArray) (t:TS):(Int×Int)×TS :=
 if s.size=0 then (((Zbc s t).1,d),(Zbc s t).2)
 else if digB (Zcd s)=true then (((Zbc s t).1,ZcH (Zcd s) d 3),(Zbc s t).2)
 else let u:TS:=if Zcd s=Zce wsuA (ZcH (Zcd s) d 3).toNat then t else bad t
  (((Zbc (s.extract 0 (s.size-1)) u).1,ZcH (Zcd s) d 3),(Zbc (s.extract 0 (s.size-1)) u).2)
def Zcy (d:Int) (t:TS):(Int×Int)×TS:=Zc7 d (ZaK t).1 (ZaK t).2
def ZmA:ByteArray:=bA [111,110,108,121]
def maxA:ByteArray:=bA [109,97,120]
def tTo (f:Int) (s:ByteArray) (t:TS):Int×TS:=if s=ZmA then (f,t) else if s=maxA then (2100,t) else tNum s 4 4 t
def ZdN (s:ByteArray):Bool:=decide (s≠⟨#[]⟩)&&(decide (s=bA [45])||ZbR s)
def Zbx {α β:Type}(f:TS→α×TS) (k:α→TS→β×TS) (t:TS):β×TS:=k (f t).1 (f t).2
def ret2 {α:Type}(a:α) (t:TS):α×TS:=(a,t)
def Zl5 (t:TS):Int×TS:=tNum (ZaK t).1 4 4 (ZaK t).2
def tToN (f:Int) (t:TS):Int×TS:=tTo f (ZaK t).1 (ZaK t).2
def Zl7 (t:TS):Int×TS:=Zbc (ZaK t).1 (ZaK t).2
def ZcE (t:TS):ByteArray×TS:=(if (ZaK t).1=bA [45] then ⟨#[]⟩ else (ZaK t).1,if ZdN (ZaK t).1=true then (ZaK t).2 else bad (ZaK t).2)
def ZhM:TS→Rul×TS :=
 Zbx ZdH fun nm=>Zbx Zl5 fun f=>Zbx (tToN f) fun t2=>Zbx ZcO fun m=>Zbx Zfd fun k=>Zbx (Zcy 1) fun c=>Zbx Zl7 fun sv=>Zbx ZcE fun l=>ret2 (nm,f,t2,m,k,c.1,c.2,sv,l)
def ZfF (s:ByteArray):Int:=Zce s 0
def ZeC (t:TS):Int×TS:=if (ZaK t).1.size≠0∧ZfF (ZaK t).1=45 then (-(Zbc ((ZaK t).1.extract 1 (ZaK t).1.size) (ZaK t).2).1,(Zbc ((ZaK t).1.extract 1 (ZaK t).1.size) (ZaK t).2).2) else Zbc (ZaK t).1 (ZaK t).2
def Zc6 (s:ByteArray) (t:TS):(Int×ByteArray)×TS :=
 if s=bA [45] then ((0,⟨#[]⟩),t)
 else if s.size≠0∧digB (ZfF s)=true then (((Zbc s (if s=bA [48] then bad t else t)).1,⟨#[]⟩),(Zbc s (if s=bA [48] then bad t else t)).2)
 else ((0,s),if Zcc s=true then t else bad t)
def Zl8 (t:TS):(Int×ByteArray)×TS:=Zc6 (ZaK t).1 (ZaK t).2
def Zf6 (t:TS):ByteArray×TS:=((ZaK t).1,if Zc8 (ZaK t).1=true then (ZaK t).2 else bad (ZaK t).2)
def tDay (t:TS):Int×TS:=tNum (ZaK t).1 1 2 (ZaK t).2
def Zl6 (c:Int×Int) (t:TS):Unit×TS:=((),if c.2=1 then bad t else t)
def Zfw:TS→Unt×TS :=
 Zbx Zl5 fun y=>Zbx ZcO fun m=>Zbx tDay fun d=>Zbx (Zcy 2) fun c=>Zbx (Zl6 c) fun _=>ret2 ((y,m,d),c.1,c.2)
def untZ:Unt:=((0,0,0),0,0)
def tEnd (t:TS):(Bool×Unt)×TS:=if t.1=[] then ((true,untZ),t) else ((false,(Zfw t).1),(Zfw t).2)
def tEra:TS→Era×TS :=
 Zbx ZeC fun sh=>Zbx Zl8 fun r=>Zbx Zf6 fun f=>Zbx tEnd fun u=>ret2 (sh,r.2,r.1,f,u.1,u.2)
def Zdn:List ByteArray→Option (ByteArray×List ByteArray)
 | []=>none
 | x::l=>some (x,l)
abbrev RM (α:Type):=List ByteArray→Option (α×List ByteArray)
def Zbm {α β:Type}(f:RM α) (k:α→RM β):RM β:=fun l=>match f l with
 | none=>none
 | some p=>k p.1 p.2
def retR {α:Type}(a:α):RM α:=fun l=>some (a,l)
def Zb6 {α:Type}(o:Option α):RM α:=fun l=>match o with
 | none=>none
 | some a=>some (a,l)
def Zmt:RM ByteArray:=Zbm Zdn fun s=>Zb6 (if Zcc s=true then some s else none)
def Zmu:RM Int:=Zbm Zdn fun s=>Zb6 (idxL monL s 1)
def sixV (s:ByteArray):Option Int:=match numV s 2 2 with
 | some n=>if n>59 then none else some n
 | none=>none
def Zek (s:ByteArray):Option Int:=if s=bA [48] then some 0 else match cutC 58 (aB s) with
 | [a,b]=>match numV (bA a) 1 2,sixV (bA b) with
  | some x,some y=>some (3600*x+60*y)
  | _,_=>none
 | [a,b,c]=>match numV (bA a) 1 2,sixV (bA b),sixV (bA c) with
  | some x,some y,some z=>some (3600*x+60*y+z)
  | _,_,_=>none
 | _=>none
def formV (s:ByteArray):Option Frm :=
 if Zc9 s=2 then (match idxL dayL (s.extract 4 s.size) 0 with
  | some w=>some (2,w,0)
  | none=>none)
 else if Zc9 s=1 then (match numV s 1 2 with
  | some n=>some (1,0,n)
  | none=>none)
 else match idxL dayL (s.extract 0 3) 0,numV (s.extract 5 s.size) 1 2 with
  | some w,some n=>some ((Zc9 s:Int),w,n)
  | _,_=>none
def wsuK (c:Int):Option Int:=if c=119 then some 1 else if c=115 then some 2 else if c=117 then some 3 else none
def ZkW (d:Int) (s:ByteArray):Option (Int×Int):=match (if s.size=0 then none else wsuK (Zcd s)) with
 | some k=>(match Zek (s.extract 0 (s.size-1)) with
  | some n=>some (n,k)
  | none=>none)
 | none=>(match Zek s with
  | some n=>some (n,d)
  | none=>none)
def toV (f:Int) (s:ByteArray):Option Int:=if s=ZmA then some f else if s=maxA then some 2100 else numV s 4 4
def ZjR (s:ByteArray):Option ByteArray:=if ZdN s=true then some (if s=bA [45] then ⟨#[]⟩ else s) else none
def rRule:RM Rul :=
 Zbm Zmt fun nm=>Zbm (Zbm Zdn fun s=>Zb6 (numV s 4 4)) fun f=>Zbm (Zbm Zdn fun s=>Zb6 (toV f s)) fun t2=>Zbm Zmu fun m=>Zbm (Zbm Zdn fun s=>Zb6 (formV s)) fun k =>
  Zbm (Zbm Zdn fun s=>Zb6 (ZkW 1 s)) fun c=>Zbm (Zbm Zdn fun s=>Zb6 (Zek s)) fun sv=>Zbm (Zbm Zdn fun s=>Zb6 (ZjR s)) fun l=>retR (nm,f,t2,m,k,c.1,c.2,sv,l)
def Zmk (s:ByteArray):Option Int:=if s.size≠0∧ZfF s=45 then (match Zek (s.extract 1 s.size) with
  | some n=>some (-n)
  | none=>none) else Zek s
def Zmn (s:ByteArray):Option (Int×ByteArray) :=
 if s=bA [45] then some (0,⟨#[]⟩)
 else if s.size≠0∧digB (ZfF s)=true∧s≠bA [48] then (match Zek s with
  | some n=>some (n,⟨#[]⟩)
  | none=>none)
 else if Zcc s=true then some (0,s) else none
def Zms:RM Unt :=
 Zbm (Zbm Zdn fun s=>Zb6 (numV s 4 4)) fun y=>Zbm Zmu fun m=>Zbm (Zbm Zdn fun s=>Zb6 (numV s 1 2)) fun d=>Zbm (Zbm Zdn fun s=>Zb6 (ZkW 2 s)) fun c=>Zbm (Zb6 (if c.2=1 then none else some ())) fun _=>retR ((y,m,d),c.1,c.2)
def rEnd:RM (Bool×Unt):=fun l=>if l=[] then some ((true,untZ),l) else match Zms l with
 | some p=>some ((false,p.1),p.2)
 | none=>none
def rEra:RM Era :=
 Zbm (Zbm Zdn fun s=>Zb6 (Zmk s)) fun sh=>Zbm (Zbm Zdn fun s=>Zb6 (Zmn s)) fun r=>Zbm (Zbm Zdn fun s=>Zb6 (if Zc8 s=true then some s else none)) fun f=>Zbm rEnd fun u=>retR (sh,r.2,r.1,f,u.1,u.2)
def Agr {α:Type}(f:TS→α×TS) (g:RM α):Prop := ∀ l,(f (l,true)).2.2=true∧match g l with
 | none=>(f (l,false)).2.2=true
 | some p=>f (l,false)=(p.1,p.2,false)
theorem Agr.bind {α β:Type}{f:TS→α×TS}{g:RM α}{k:α→TS→β×TS}{m:α→RM β}(h:Agr f g) (hk : ∀ a,Agr (k a) (m a)):Agr (Zbx f k) (Zbm g m):=by
 have stay : ∀ (a:α) (t:TS),t.2=true→(k a t).2.2=true:=by
  rintro a ⟨l,b⟩ rfl;exact (hk a l).1
 intro l
 refine⟨stay _ _ (h l).1,?_⟩
 have h2:=(h l).2
 unfold Zbm Zbx
 revert h2
 cases hg:g l with
 | none=>exact fun h2=>stay _ _ h2
 | some p=>intro h2;simp only at h2;rw[h2];exact (hk p.1 p.2).2
theorem Agr.ret {α:Type}(a:α):Agr (ret2 a) (retR a):=fun l=>⟨rfl,rfl⟩
theorem agr_next:Agr ZaK Zdn:=by
 intro l
 cases l with
 | nil=>exact⟨rfl,rfl⟩
 | cons x l=>exact⟨rfl,rfl⟩
def AgO {α:Type}(o:Option α) (x:α×TS) (l:List ByteArray):Prop:=match o with
 | none=>x.2.2=true
 | some a=>x=(a,l,false)
theorem Agr.lift {α:Type}{f:TS→α×TS}{o:Option α}(hb : ∀ t:TS,t.2=true→(f t).2.2=true) (hf : ∀ l,AgO o (f (l,false)) l):Agr f (Zb6 o):=by
 intro l
 refine⟨hb _ rfl,?_⟩
 have:=hf l
 unfold Zb6
 cases o <;> exact this
theorem Zik (s:ByteArray) (a b:Int):Agr (tNum s a b) (Zb6 (numV s a b)):=by
 refine Agr.lift (fun t h=>?_) (fun l=>?_)
 ·unfold tNum;split <;> simp_all
 ·unfold tNum;cases numV s a b <;> rfl
theorem Zdb {s:ByteArray}{a b:Int}{t:TS}(h:t.2=true):(tNum s a b t).2.2=true:=by unfold tNum;split <;> simp_all
theorem ZgW {s:ByteArray}{t:TS}(h:t.2=true):(Zda s t).2.2=true:=by unfold Zda;split <;> simp_all
theorem ZcL {s:ByteArray}{t:TS}(h:t.2=true):(tSix s t).2.2=true:=by unfold tSix;have:=Zdb (s:=s) (a:=2) (b:=2) h;split <;> simp_all
theorem ZbQ {s:ByteArray}{t:TS}(h:t.2=true):(Zbc s t).2.2=true:=by
 unfold Zbc
 split
 ·exact h
 ·unfold ZdG
  split
  ·exact ZcL (Zdb h)
  ·exact ZcL (ZcL (Zdb h))
  ·rfl
theorem ZcM {s:ByteArray}{a b n:Int}{t:TS}(h:numV s a b=some n):tNum s a b t=(n,t):=by unfold tNum;rw[h]
theorem ZcN {s:ByteArray}{a b:Int}{t:TS}(h:numV s a b=none):tNum s a b t=(0,bad t):=by unfold tNum;rw[h]
theorem Zf3 {s:ByteArray}{n:Int}{t:TS}(h:sixV s=some n):tSix s t=(n,t):=by
 unfold sixV at h
 split at h
 ·rename_i m hm
  unfold tSix
  rw[ZcM hm]
  split at h
  ·cases h
  ·rename_i hle;cases h;simp[hle]
 ·cases h
theorem Zf4 {s:ByteArray}{t:TS}(h:sixV s=none):(tSix s t).2.2=true:=by
 unfold sixV at h
 split at h
 ·rename_i m hm
  unfold tSix
  rw[ZcM hm]
  split at h
  ·rename_i hle;simp[hle]
  ·cases h
 ·rename_i hm;unfold tSix;rw[ZcN hm];simp
theorem Zd9 (s:ByteArray):Agr (Zbc s) (Zb6 (Zek s)):=by
 refine Agr.lift (fun t h=>ZbQ h) (fun l=>?_)
 unfold Zbc Zek
 by_cases h0:s=bA [48]
 ·simp only[if_pos h0];rfl
 ·simp only[if_neg h0]
  obtain⟨y,hy⟩ : ∃ y,y=cutC 58 (aB s):=⟨_,rfl⟩
  simp only[←hy]
  clear hy
  match y with
  | []=>rfl
  | [_]=>rfl
  | _::_::_::_::_=>rfl
  | [a,b] =>
   simp only[ZdG]
   cases h1:numV (bA a) 1 2 with
   | none=>rw[ZcN h1];exact ZcL rfl
   | some x =>
    rw[ZcM h1]
    cases h2:sixV (bA b) with
    | none=>exact Zf4 h2
    | some y=>simp only;rw[Zf3 h2];rfl
  | [a,b,c] =>
   simp only[ZdG]
   cases h1:numV (bA a) 1 2 with
   | none=>rw[ZcN h1];exact ZcL (ZcL rfl)
   | some x =>
    rw[ZcM h1]
    cases h2:sixV (bA b) with
    | none=>exact ZcL (Zf4 h2)
    | some y =>
     simp only;rw[Zf3 h2]
     cases h3:sixV (bA c) with
     | none=>exact Zf4 h3
     | some z=>simp only;rw[Zf3 h3];rfl
theorem agr_form (s:ByteArray):Agr (Zbo s) (Zb6 (formV s)):=by
 refine Agr.lift (fun t h=>?_) (fun l=>?_)
 ·unfold Zbo
  split
  ·exact ZgW h
  ·split
   ·exact Zdb h
   ·exact Zdb (ZgW h)
 ·unfold Zbo formV
  by_cases hk2:Zc9 s=2
  ·simp only[if_pos hk2]
   unfold Zda
   cases h1:idxL dayL (s.extract 4 s.size) 0 <;> rfl
  ·simp only[if_neg hk2]
   by_cases hk1:Zc9 s=1
   ·simp only[if_pos hk1]
    cases h1:numV s 1 2 with
    | none=>rw[ZcN h1];rfl
    | some n=>rw[ZcM h1];rfl
   ·simp only[if_neg hk1]
    cases h1:idxL dayL (s.extract 0 3) 0 with
    | none=>refine Zdb ?_;unfold Zda;rw[h1]
    | some w =>
     unfold Zda;rw[h1]
     cases h2:numV (s.extract 5 s.size) 1 2 with
     | none=>rw[ZcN h2];rfl
     | some n=>rw[ZcM h2];rfl
theorem kindU3 (c d:Int):ZcH c d 3=(wsuK c).getD d:=by
 unfold ZcH ZcH ZcH ZcH wsuK
 rw[show Zce wsuA (2+1)=117 by decide,show Zce wsuA (1+1)=115 by decide,show Zce wsuA (0+1)=119 by decide]
 split
 ·subst c;rfl
 ·split
  ·subst c;rfl
  ·split
   ·subst c;rfl
   ·rfl
theorem wsuK_dig {c k:Int}(h:wsuK c=some k):digB c=false∧1≤k∧k≤3∧c=Zce wsuA k.toNat:=by
 unfold wsuK at h
 split at h
 ·subst c;cases h;decide
 ·split at h
  ·subst c;cases h;decide
  ·split at h
   ·subst c;cases h;decide
   ·cases h
theorem wsu_lit (k:Int) (h:1≤k∧k≤3):wsuK (Zce wsuA k.toNat)=some k:=by
 obtain⟨h1,h2⟩:=h
 have:k=1∨k=2∨k=3:=by omega
 rcases this with rfl | rfl | rfl <;> decide
theorem Zhj {x:UInt8} : ∀ {l z:Bs},cutC x l=[z]→l=z
 | [],z,h=>by simp[cutC] at h;exact h.symm
 | c::l,z,h=>by
  unfold cutC at h
  split at h
  ·simp only[List.cons.injEq] at h;exact absurd h.2 (Zib x l)
  ·split at h
   ·rename_i he;exact absurd he (Zib x l)
   ·rename_i y ys he
    simp only[List.cons.injEq] at h
    obtain⟨rfl,rfl⟩:=h
    rw[Zhj he]
theorem ZfT (x:UInt8) : ∀ {l:Bs}{ys:List Bs}{y:Bs},cutC x l=ys++[y] → ∃ p,l=p++y
 | [],ys,y,h=>by
  cases ys with
  | nil=>simp[cutC] at h;exact⟨[],by simp[h]⟩
  | cons a ys=>simp[cutC] at h
 | c::l,ys,y,h=>by
  unfold cutC at h
  split at h
  ·cases ys with
   | nil=>simp at h;exact absurd h.2 (Zib x l)
   | cons a ys =>
    simp only[List.cons_append,List.cons.injEq] at h
    obtain⟨p,hp⟩:=ZfT x h.2
    exact⟨c::p,by rw[hp];rfl⟩
  ·split at h
   ·rename_i he;exact absurd he (Zib x l)
   ·rename_i z zs he
    cases ys with
    | nil =>
     simp only[List.nil_append,List.cons.injEq] at h
     obtain⟨rfl,rfl⟩:=h
     obtain⟨p,hp⟩:=ZfT x (ys:=[]) (y:=z) (by rw[he];rfl)
     have h0:=Zhj he
     exact⟨[],by rw[←h0];rfl⟩
    | cons a ys =>
     simp only[List.cons_append,List.cons.injEq] at h
     obtain⟨p,hp⟩:=ZfT x (l:=l) (ys:=z::ys) (y:=y) (by rw[he,h.2];rfl)
     exact⟨c::p,by rw[hp];rfl⟩
theorem Zi3 : ∀ {y:Bs}(hy:y≠[]),y.drop (y.length-1)=[y.getLast hy]
 | [c],_=>rfl
 | c::d::l,_=>by have:=Zi3 (y:=d::l) (by simp);simpa using this
theorem ZmS {s:ByteArray}{p y:Bs}(h:aB s=p++y) (hy:y≠[]) : ∃ c∈y,Zcd s=(c.toNat:Int):=by
 refine⟨y.getLast hy,List.getLast_mem hy,?_⟩
 have hl:s.size=p.length+y.length:=by rw[←ZdY,h,List.length_append]
 have hp:0<y.length:=List.length_pos_iff.2 hy
 have h0:s.size-1<s.size:=by omega
 have e1:(aB s).drop (s.size-1)=Zay s (s.size-1)::(aB s).drop (s.size-1+1):=ZdZ h0
 have e2:(aB s).drop (s.size-1)=[y.getLast hy]:=by
  rw[h,show s.size-1=p.length+(y.length-1) by omega,List.drop_append,List.drop_of_length_le om,List.nil_append,Nat.add_sub_cancel_left]
  exact Zi3 hy
 rw[e2] at e1
 simp only[List.cons.injEq] at e1
 unfold Zcd Zce
 rw[e1.1]
theorem ZiR {s:ByteArray}{a b n:Int}(h:numV s a b=some n):wi s.size a b=true∧allB digB s=true∧n=decL 0 (aB s):=by
 unfold numV at h
 split at h
 ·rename_i hc;cases h;exact⟨hc.1,hc.2,rfl⟩
 ·cases h
theorem Zmj {s:ByteArray}{n:Int}(h:sixV s=some n):s.size=2∧allB digB s=true∧n=decL 0 (aB s)∧n≤59:=by
 unfold sixV at h
 split at h
 ·rename_i m hm
  obtain⟨h1,h2,h3⟩:=ZiR hm
  split at h
  ·cases h
  ·cases h
   unfold wi at h1
   simp at h1
   exact⟨by omega,h2,h3,by omega⟩
 ·cases h
theorem Zij {p:Int→Bool}{l:Bs}(h:allB p (bA l)=true) {c:UInt8}(hc:c∈l):p c.toNat=true:=by
 unfold allB at h
 rw[List.all_eq_true] at h
 exact h c (by simpa [bA] using hc)
theorem ZiG {s:ByteArray}{n:Int}(h:Zek s=some n):s.size≠0∧digB (Zcd s)=true:=by
 have key : ∀ {ys:List Bs} {y:Bs} {m:Int},cutC 58 (aB s)=ys++[y]→sixV (bA y)=some m→s.size≠0∧digB (Zcd s)=true:=by
  intro ys y m h1 h2
  obtain⟨p,hp⟩:=ZfT 58 h1
  obtain⟨z1,z2,_⟩:=Zmj h2
  rw[Zfo] at z1
  obtain⟨c,hc,e⟩:=ZmS hp (by rintro rfl;simp at z1)
  refine⟨fun e0=>?_,by rw[e];exact Zij z2 hc⟩
  have:=congrArg List.length hp
  rw[ZdY,List.length_append] at this;omega
 unfold Zek at h
 split at h
 ·rename_i e;subst e;decide
 ·split at h
  ·rename_i a b hc
   split at h
   ·rename_i x y h1 h2;exact key (ys:=[a]) hc h2
   ·cases h
  ·rename_i a b c hc
   split at h
   ·rename_i x y z h1 h2 h3;exact key (ys:=[a,b]) hc h3
   ·cases h
  ·cases h
theorem agr_at {α:Type}{f:TS→α×TS}{o:Option α}(h:Agr f (Zb6 o)) (l:List ByteArray):AgO o (f (l,false)) l:=by
 have:=(h l).2
 unfold Zb6 at this
 unfold AgO
 cases o <;> exact this
theorem Zjb {d:Int}(hd:d=1∨d=2) (s:ByteArray):Agr (Zc7 d s) (Zb6 (ZkW d s)):=by
 refine Agr.lift (fun t h=>?_) (fun l=>?_)
 ·unfold Zc7
  split
  ·exact ZbQ h
  ·split
   ·exact ZbQ h
   ·refine ZbQ ?_
    split
    ·exact h
    ·rfl
 ·have hS:=agr_at (Zd9 s) l
  have hX:=agr_at (Zd9 (s.extract 0 (s.size-1))) l
  unfold Zc7 ZkW
  by_cases h0:s.size=0
  ·rw[if_pos h0,if_pos h0]
   cases h1:Zek s with
   | none=>rw[h1] at hS;exact hS
   | some n=>exact absurd h0 (ZiG h1).1
  ·rw[if_neg h0,if_neg h0,kindU3]
   cases hk:wsuK (Zcd s) with
   | none =>
    simp only[Option.getD_none]
    cases h1:Zek s with
    | none =>
     rw[h1] at hS
     by_cases hdg:digB (Zcd s)=true
     ·rw[if_pos hdg];exact hS
     ·rw[if_neg hdg]
      by_cases e:Zcd s=Zce wsuA d.toNat
      ·exfalso
       have:=wsu_lit d om
       rw[←e,hk] at this;cases this
      ·rw[if_neg e]
       exact ZbQ (t:=bad (l,false)) rfl
    | some n =>
     rw[h1] at hS
     rw[if_pos (ZiG h1).2]
     have hS':Zbc s (l,false)=(n,l,false):=hS
     rw[hS'];rfl
   | some k =>
    obtain⟨w1,w2,w3,w4⟩:=wsuK_dig hk
    simp only[Option.getD_some]
    rw[if_neg (by rw[w1];exact Bool.false_ne_true),if_pos w4]
    cases h1:Zek (s.extract 0 (s.size-1)) with
    | none=>rw[h1] at hX;exact hX
    | some n =>
     rw[h1] at hX
     have hX':Zbc (s.extract 0 (s.size-1)) (l,false)=(n,l,false):=hX
     rw[hX'];rfl
theorem agr_to (f:Int) (s:ByteArray):Agr (tTo f s) (Zb6 (toV f s)):=by
 unfold tTo toV
 split
 ·exact Agr.lift (fun t h=>h) (fun l=>rfl)
 ·split
  ·exact Agr.lift (fun t h=>h) (fun l=>rfl)
  ·exact Zik s 4 4
theorem agr_name:Agr ZdH Zmt:=by
 refine (Agr.bind agr_next (k:=fun s t=>(s,if Zcc s=true then t else bad t)) fun s=>?_:Agr (Zbx ZaK _) _)
 refine Agr.lift (fun t h=>by dsimp only;split;exact h;rfl) (fun l=>?_)
 cases Zcc s <;> rfl
theorem agr_month:Agr ZcO Zmu:=by
 refine (Agr.bind agr_next (k:=fun s t=>match idxL monL s 1 with
  | some n=>(n,t)
  | none=>(0,bad t)) fun s=>?_:Agr (Zbx ZaK _) _)
 refine Agr.lift (fun t h=>by split;exact h;rfl) (fun l=>?_)
 cases idxL monL s 1 <;> rfl
theorem agr_letter:Agr ZcE (Zbm Zdn fun s=>Zb6 (ZjR s)):=by
 refine (Agr.bind agr_next (k:=fun s t=>(if s=bA [45] then ⟨#[]⟩ else s,if ZdN s=true then t else bad t)) fun s=>?_:Agr (Zbx ZaK _) _)
 refine Agr.lift (fun t h=>by dsimp only;generalize ZdN s=b;cases b;rfl;exact h) (fun l=>?_)
 unfold ZjR
 cases ZdN s <;> rfl
theorem agr_rule:Agr ZhM rRule:=by
 refine agr_name.bind fun nm=>?_
 refine (agr_next.bind fun s=>Zik s 4 4).bind fun f=>?_
 refine (agr_next.bind fun s=>agr_to f s).bind fun t2=>?_
 refine agr_month.bind fun m=>?_
 refine (agr_next.bind fun s=>agr_form s).bind fun k=>?_
 refine (agr_next.bind fun s=>Zjb (.inl rfl) s).bind fun c=>?_
 refine (agr_next.bind fun s=>Zd9 s).bind fun sv=>?_
 exact agr_letter.bind fun l=>Agr.ret _
theorem agr_shift:Agr ZeC (Zbm Zdn fun s=>Zb6 (Zmk s)):=by
 refine (Agr.bind agr_next (k:=fun s t=>if s.size≠0∧ZfF s=45 then (-(Zbc (s.extract 1 s.size) t).1,(Zbc (s.extract 1 s.size) t).2) else Zbc s t) fun s=>?_:Agr (Zbx ZaK _) _)
 unfold Zmk
 split
 ·refine Agr.lift (fun t h=>ZbQ h) (fun l=>?_)
  have hS:=(Zd9 (s.extract 1 s.size) l).2
  unfold Zb6 at hS
  cases h1:Zek (s.extract 1 s.size) with
  | none=>simp only[h1] at hS ⊢;exact hS
  | some n=>simp only[h1] at hS ⊢;rw[hS];rfl
 ·exact Zd9 s
theorem ZmF:Zcc (bA [48])=false:=by decide
theorem Znm (s:ByteArray):Agr (Zc6 s) (Zb6 (Zmn s)):=by
 unfold Zc6 Zmn
 split
 ·exact Agr.lift (fun t h=>h) (fun l=>rfl)
 ·split
  ·rename_i hm hd
   by_cases h0:s=bA [48]
   ·rw[if_neg (by rintro⟨_,_,h⟩;exact h h0),if_neg (by rw[h0,ZmF];simp)]
    refine Agr.lift (fun t h=>ZbQ (by rw[if_pos h0])) (fun l=>?_)
    exact ZbQ (by rw[if_pos h0])
   ·rw[if_pos ⟨hd.1,hd.2,h0⟩]
    simp only[if_neg h0]
    refine Agr.lift (fun t h=>ZbQ h) (fun l=>?_)
    have hS:=(Zd9 s l).2
    unfold Zb6 at hS
    cases h1:Zek s with
    | none=>simp only[h1] at hS ⊢;exact hS
    | some n=>simp only[h1] at hS ⊢;rw[hS];rfl
  ·rename_i hm hd
   rw[if_neg (by rintro⟨h1,h2,_⟩;exact hd ⟨h1,h2⟩)]
   refine Agr.lift (fun t h=>by dsimp only;split;exact h;rfl) (fun l=>?_)
   cases Zcc s <;> rfl
theorem agr_format:Agr Zf6 (Zbm Zdn fun s=>Zb6 (if Zc8 s=true then some s else none)):=by
 refine (Agr.bind agr_next (k:=fun s t=>(s,if Zc8 s=true then t else bad t)) fun s=>?_:Agr (Zbx ZaK _) _)
 refine Agr.lift (fun t h=>by dsimp only;split;exact h;rfl) (fun l=>?_)
 cases Zc8 s <;> rfl
theorem Znl:Agr Zfw Zms:=by
 refine (agr_next.bind fun s=>Zik s 4 4).bind fun y=>?_
 refine agr_month.bind fun m=>?_
 refine (agr_next.bind fun s=>Zik s 1 2).bind fun d=>?_
 refine (agr_next.bind fun s=>Zjb (.inr rfl) s).bind fun c=>?_
 refine Agr.bind (Agr.lift (fun t h=>?_) (fun l=>?_)) fun _=>Agr.ret _
 ·unfold Zl6;dsimp only;split <;> simp_all
 ·unfold Zl6;by_cases h:c.2=1 <;> simp[h] <;> rfl
theorem agr_end:Agr tEnd rEnd:=by
 intro l
 have hU:=Znl l
 unfold tEnd rEnd
 by_cases h0:l=[]
 ·subst h0;exact⟨rfl,rfl⟩
 ·simp only[if_neg h0]
  refine⟨hU.1,?_⟩
  revert hU
  cases Zms l with
  | none=>exact fun hU=>hU.2
  | some p=>intro hU;have h2:=hU.2;simp only at h2 ⊢;rw[h2]
theorem agr_era:Agr tEra rEra:=by
 refine agr_shift.bind fun sh=>?_
 refine (agr_next.bind fun s=>Znm s).bind fun r=>?_
 refine agr_format.bind fun f=>?_
 exact agr_end.bind fun u=>Agr.ret _
end Go.Proofs.Yticajimgfndceaa
end
section
namespace Go.Proofs.Yticajimgfndceaa
open Go.Ab
def refN (n:Int):Bool:=letB n||digB n||decide (n=95)||decide (n=45)||decide (n=47)||decide (n=43)
theorem ZmG (c:UInt8):ZiS c.toNat=refN c.toNat:=by
 have hc:((c.toNat:Int).toNat.toUInt8)=c:=by simp
 unfold ZiS refN
 rw[hc,←Lib.contains_iff_indexByte]
 have e : ∀ x:UInt8,decide ((c.toNat:Int)=(x.toNat:Int))=(c==x):=by
  intro x
  rw[Bool.eq_iff_iff,decide_eq_true_iff,beq_iff_eq]
  exact⟨fun h=>UInt8.toNat_inj.1 om,fun h=>by rw[h]⟩
 rw[show (95:Int)=((95:UInt8).toNat:Int) from rfl,show (45:Int)=((45:UInt8).toNat:Int) from rfl,show (47:Int)=((47:UInt8).toNat:Int) from rfl,show (43:Int)=((43:UInt8).toNat:Int) from rfl,e,e,e,e]
 simp[List.contains_cons,Bool.or_assoc] <;> rfl
def fmtL:Nat→Bool→Bs→Bool
 | m,_,[]=>decide (m≤1)
 | m,b,c::l=>if c=47 then !b&&!l.isEmpty&&fmtL (m+1) false l else if c=37 then decide (l.head?=some 115)&&fmtL (m+1) false l else ZbN c.toNat&&fmtL m false l
abbrev plL (l:Bs):Bool:=allB ZbN (bA l)
theorem ZjL:plL []=true:=rfl
theorem ZeK (c:UInt8) (l:Bs):plL (c::l)=(ZbN c.toNat&&plL l):=by simp[plL,allB,bA]
theorem pl47:ZbN (47:UInt8).toNat=false:=by decide
theorem pl37:ZbN (37:UInt8).toNat=false:=by decide
theorem pl115:ZbN (115:UInt8).toNat=true:=by decide
theorem pl115':ZbN 115=true:=by decide
theorem ZjX : ∀ (l:Bs) (m:Nat) (b:Bool),2≤m→fmtL m b l=false
 | [],m,b,h=>by unfold fmtL;simp;omega
 | c::l,m,b,h=>by
  unfold fmtL
  rw[ZjX l (m+1) false om,ZjX l m false h]
  simp
theorem Zh6 : ∀ (l:Bs),fmtL 1 false l=plL l
 | []=>rfl
 | c::l=>by
  unfold fmtL
  rw[ZjX l (1+1) false om,Zh6 l,ZeK]
  split
  ·rename_i h;subst h;rw[pl47];simp
  ·split
   ·rename_i h;subst h;rw[pl37];simp
   ·rfl
theorem plL_no {c:UInt8}{l:Bs}(h:ZbN c.toNat=false) (hc:c∈l):plL l=false:=by
 cases hp:plL l
 ·rfl
 ·rw[Zij hp hc] at h;cases h
def cutP (l:Bs):Bool:=plL (Lib.cut l [37,115]).1&&plL (Lib.cut l [37,115]).2.1
theorem Zj3 (l:Bs):cutP l=if 0≤Lib.index l [37,115] then plL (l.take (Lib.index l [37,115]).toNat)&&plL (l.drop ((Lib.index l [37,115]).toNat+2)) else plL l:=by
 unfold cutP Lib.cut
 split <;> simp[ZjL]
theorem Zlj {c:UInt8}{l sub:Bs}(h:sub.isPrefixOf (c::l)=false):Lib.index (c::l) sub=if Lib.index l sub = -1 then -1 else Lib.index l sub+1:=by
 rw[Lib.index,h];simp
theorem Zi5 {c:UInt8}{l:Bs}(h:[37,115].isPrefixOf (c::l)=false):cutP (c::l)=(ZbN c.toNat&&cutP l):=by
 have hge:=Lib.index_ge l [37,115]
 rw[Zj3,Zj3,Zlj h]
 by_cases e:Lib.index l [37,115] = -1
 ·rw[e];simp[ZeK]
 ·obtain⟨k,hk⟩ : ∃ k:Nat,Lib.index l [37,115]=k:=⟨(Lib.index l [37,115]).toNat,by omega⟩
  rw[hk]
  rw[if_neg (show ¬(k:Int) = -1 by omega),if_pos om,if_pos om]
  rw[show ((k:Int)+1).toNat=k+1 by omega,show ((k:Int)).toNat=k by omega]
  rw[List.take_succ_cons,ZeK,show k+1+2=(k+2)+1 by omega,List.drop_succ_cons,Bool.and_assoc]
theorem Zm0 : ∀ (l:Bs) (b:Bool),47 ∉ l→fmtL 0 b l=cutP l
 | [],b,h=>rfl
 | c::l,b,h=>by
  have hc:c≠47:=fun e=>h (by simp[e])
  have hl:47 ∉ l:=fun e=>h (by simp[e])
  unfold fmtL
  rw[if_neg hc]
  by_cases hp:c=37
  ·subst hp
   rw[if_pos rfl]
   cases l with
   | nil=>decide
   | cons d l =>
    by_cases hd:d=115
    ·subst hd
     rw[Zh6,Zj3]
     have e:Lib.index (37::115::l) [37,115]=0:=by unfold Lib.index;simp[List.isPrefixOf]
     rw[e]
     simp[ZjL,ZeK,pl115,pl115']
    ·rw[Zi5 (by simp[List.isPrefixOf];exact fun e=>hd e.symm),pl37]
     simp[hd]
  ·rw[if_neg hp,Zi5 (by simp[List.isPrefixOf];intro e;exact absurd e.symm hp),Zm0 l false hl]
theorem Zi1 : ∀ (l:Bs) (b:Bool),47∈l → ∃ k:Nat,Lib.index l [47]=k∧fmtL 0 b l=(!(b&&decide (k=0))&&!(l.drop (k+1)).isEmpty&&plL (l.take k)&&plL (l.drop (k+1)))
 | [],b,h=>by cases h
 | c::l,b,h=>by
  by_cases hc:c=47
  ·subst hc
   refine⟨0,by unfold Lib.index;simp[List.isPrefixOf],?_⟩
   unfold fmtL
   rw[if_pos rfl,Zh6]
   simp[ZjL]
  ·have hl:47∈l:=by
    rcases List.mem_cons.1 h with e | e
    ·exact absurd e.symm hc
    ·exact e
   obtain⟨k,hk,hf⟩:=Zi1 l false hl
   refine⟨k+1,?_,?_⟩
   ·unfold Lib.index
    rw[hk]
    rw[if_neg (by simp[List.isPrefixOf];exact fun e=>hc e.symm),if_neg (by simp)]
    push_cast;rfl
   ·unfold fmtL
    rw[if_neg hc,List.take_succ_cons,List.drop_succ_cons,ZeK]
    by_cases hp:c=37
    ·subst hp
     rw[if_pos rfl,Zh6,plL_no pl47 hl,pl37]
     simp
    ·rw[if_neg hp,hf]
     simp only[Bool.false_and,Bool.not_false,Bool.true_and]
     cases ZbN c.toNat <;> simp
theorem Zha (l:Bs):(!l.isEmpty)=decide (bA l≠⟨#[]⟩):=by
 cases l with
 | nil=>rfl
 | cons c l =>
  have:bA (c::l)≠⟨#[]⟩:=fun e=>by
   have:=congrArg ByteArray.size e
   rw[Zfo] at this;cases this
  simp[this]
theorem ZjW (s:ByteArray):Zc8 s=(decide (s.size≠0)&&decide (s.size≤24)&&fmtL 0 true (aB s)):=by
 unfold Zc8
 by_cases hs:s.size=0∨24<s.size
 ·rw[if_pos hs]
  rcases hs with h | h
  ·simp[h]
  ·simp[show ¬s.size≤24 by omega]
 ·rw[if_neg hs]
  have h1:s.size≠0:=fun e=>hs (.inl e)
  have h2:s.size≤24:=by omega
  simp only[h1,h2,ne_eq,not_false_eq_true,decide_true,Bool.true_and]
  by_cases hm:(47:UInt8)∈aB s
  ·obtain⟨k,hk,hf⟩:=Zi1 (aB s) true hm
   have hcut:cutL s [47]=((aB s).take k,(aB s).drop (k+1),true):=by
    unfold cutL Lib.cut
    rw[hk,if_pos om]
    simp
   rw[hcut,hf,if_pos rfl]
   simp only
   rw[Zha]
   have e:decide (bA ((aB s).take k)≠⟨#[]⟩)=!(true&&decide (k=0)):=by
    rw[←Zha]
    cases k with
    | zero=>rfl
    | succ k =>
     have:0<(aB s).length:=by rw[ZdY];omega
     cases hq:aB s with
     | nil=>rw[hq] at this;cases this
     | cons c l=>simp
   rw[e]
  ·have hi:Lib.index (aB s) [47] = -1:=by
    have hge:=Lib.index_ge (aB s) [47]
    by_cases e:Lib.index (aB s) [47] = -1
    ·exact e
    ·obtain⟨k,hk⟩ : ∃ k:Nat,Lib.index (aB s) [47]=k:=⟨(Lib.index (aB s) [47]).toNat,by omega⟩
     obtain⟨_,hk1,hk2⟩:=ZeM hk
     exact absurd (List.mem_of_getElem? hk2) hm
   have hcut:(cutL s [47]).2.2=false:=by
    unfold cutL Lib.cut
    rw[hi];rfl
   rw[if_neg (by rw[hcut];simp),Zm0 _ _ hm]
   rfl
end Go.Proofs.Yticajimgfndceaa
end
section
namespace Go.Proofs.Yticajimgfndceaa
open Go.Ab Go.RowKit Civ
def c83:AC:=(Sr [Mb 2 false] (Sr [Mv 3 0,Oo 4 (.cvi .i64 (.tmp 3)),Cl 5 82 [(.tmp 4),(Ci 97),(Ci 122)],Mv 6 5,Of 7 6 (mt 0),Of 8 6 (.cvi .i64 (.tmp 7)),Of 9 6 (.call (.func 82) [(.tmp 8),(Ci 65),(Ci 90)]),Oo 10 (.pick (.tmp 6) (.const (.bool true)) (.tmp 9)),Mv 2 10] .ret))
theorem k83:ZaO Try.prog 83=some ⟨c83,[(.tmp 2)],11⟩:=by kernel_rfl
def c53:AC:=(Sr [Mb 2 false] (Sr [Mv 3 0,Oo 4 (.cvi .i64 (.tmp 3)),Cl 5 82 [(.tmp 4),(Ci 48),(Ci 57)],Mv 2 5] .ret))
theorem k53:ZaO Try.prog 53=some ⟨c53,[(.tmp 2)],6⟩:=by kernel_rfl
def c54:AC:=(Sr [Mb 2 false] (.seq (Sr [Mv 5 0,Oo 6 (.bin .eql (.tmp 5) (.const (.string ⟨#[]⟩))),Mv 7 6,Of 8 7 (mt 0),Of 9 7 (.len true (.tmp 8)),Of 10 7 (.bin .gtr (.tmp 9) (Ci 24)),Oo 11 (.pick (.tmp 7) (.const (.bool true)) (.tmp 10)),Mv 12 11,Of 13 12 (mt 0),Of 14 12 (.ix (.tmp 13) (Ci 0)),Of 15 12 (.call (.func 83) [(.tmp 14)]),Of 16 12 (.un .not (.tmp 15)),Oo 17 (.pick (.tmp 12) (.const (.bool true)) (.tmp 16))] (Cd 17 (Sr [Mb 2 false] .ret) .skip)) (.seq (Sr [Mc 3 0] (.block 0 (.loop (.seq (Sr [Mv 18 3,Mv 19 0,Oo 20 (.len true (.tmp 19)),Bn 21 .lss 18 20] (Cd 21 .skip (.exit 0))) (.seq (.block 1 (Sr [Mv 24 0,Mv 25 3,Oo 26 (.ix (.tmp 24) (.tmp 25)),Mv 4 26] (Sr [Mv 27 4,Cl 28 83 [(.tmp 27)],Oo 29 (.un .not (.tmp 28)),Mv 30 29,Ot 31 30 (mt 4),Ot 32 30 (.call (.func 53) [(.tmp 31)]),Ot 33 30 (.un .not (.tmp 32)),Oo 34 (.pick (.tmp 30) (.tmp 33) (.const (.bool false))),Mv 35 34,Ot 36 35 (mt 4),Ot 37 35 (.bin .neq (.tmp 36) (.const (.int .u8 95))),Oo 38 (.pick (.tmp 35) (.tmp 37) (.const (.bool false))),Mv 39 38,Ot 40 39 (mt 4),Ot 41 39 (.bin .neq (.tmp 40) (.const (.int .u8 45))),Oo 42 (.pick (.tmp 39) (.tmp 41) (.const (.bool false))),Mv 43 42,Ot 44 43 (mt 4),Ot 45 43 (.bin .neq (.tmp 44) (.const (.int .u8 47))),Oo 46 (.pick (.tmp 43) (.tmp 45) (.const (.bool false))),Mv 47 46,Ot 48 47 (mt 4),Ot 49 47 (.bin .neq (.tmp 48) (.const (.int .u8 43))),Oo 50 (.pick (.tmp 47) (.tmp 49) (.const (.bool false)))] (Cd 50 (Sr [Mb 2 false] .ret) .skip)))) (.reg [Mv 22 3,Bc 23 .add 22 1,Mv 3 23])))))) (Sr [Mb 2 true] .ret))))
theorem k54:ZaO Try.prog 54=some ⟨c54,[(.tmp 2)],51⟩:=by kernel_rfl
def c60:AC:=(Sr [Mb 2 false] (.seq (Sr [Mc 3 0] (.block 0 (.loop (.seq (Sr [Mv 4 3,Mv 5 0,Oo 6 (.len true (.tmp 5)),Bn 7 .lss 4 6] (Cd 7 .skip (.exit 0))) (.seq (.block 1 (Sr [Mv 10 0,Mv 11 3,Oo 12 (.ix (.tmp 10) (.tmp 11)),Cl 13 83 [(.tmp 12)],Oo 14 (.un .not (.tmp 13))] (Cd 14 (Sr [Mb 2 false] .ret) .skip))) (.reg [Mv 8 3,Bc 9 .add 8 1,Mv 3 9])))))) (Sr [Mv 15 0,Oo 16 (.len true (.tmp 15)),Bc 17 .leq 16 24,Mv 2 17] .ret)))
theorem k60:ZaO Try.prog 60=some ⟨c60,[(.tmp 2)],18⟩:=by kernel_rfl
def c84:AC:=(Sr [Mb 2 false] (.seq (Sr [Mc 3 0] (.block 0 (.loop (.seq (Sr [Mv 4 3,Mv 5 0,Oo 6 (.len true (.tmp 5)),Bn 7 .lss 4 6] (Cd 7 .skip (.exit 0))) (.seq (.block 1 (Sr [Mv 10 0,Mv 11 3,Oo 12 (.ix (.tmp 10) (.tmp 11)),Cl 13 83 [(.tmp 12)],Oo 14 (.un .not (.tmp 13)),Mv 15 14,Ot 16 15 (mt 0),Ot 17 15 (mt 3),Ot 18 15 (.ix (.tmp 16) (.tmp 17)),Ot 19 15 (.call (.func 53) [(.tmp 18)]),Ot 20 15 (.un .not (.tmp 19)),Oo 21 (.pick (.tmp 15) (.tmp 20) (.const (.bool false))),Mv 22 21,Ot 23 22 (mt 0),Ot 24 22 (mt 3),Ot 25 22 (.ix (.tmp 23) (.tmp 24)),Ot 26 22 (.bin .neq (.tmp 25) (.const (.int .u8 43))),Oo 27 (.pick (.tmp 22) (.tmp 26) (.const (.bool false))),Mv 28 27,Ot 29 28 (mt 0),Ot 30 28 (mt 3),Ot 31 28 (.ix (.tmp 29) (.tmp 30)),Ot 32 28 (.bin .neq (.tmp 31) (.const (.int .u8 45))),Oo 33 (.pick (.tmp 28) (.tmp 32) (.const (.bool false)))] (Cd 33 (Sr [Mb 2 false] .ret) .skip))) (.reg [Mv 8 3,Bc 9 .add 8 1,Mv 3 9])))))) (Sr [Mb 2 true] .ret)))
theorem k84:ZaO Try.prog 84=some ⟨c84,[(.tmp 2)],34⟩:=by kernel_rfl
def c55:AC:=(Sr [Mb 2 false] (Sr [Mc 3 0] (.seq (Sr [Mc 4 0] (.block 0 (.loop (.seq (Sr [Mv 5 4,Mv 6 0,Oo 7 (.len true (.tmp 6)),Bn 8 .lss 5 7] (Cd 8 .skip (.exit 0))) (.seq (.block 1 (.block 2 (Sr [Mv 12 0,Mv 13 4,Oo 14 (.ix (.tmp 12) (.tmp 13)),Oo 15 (.bin .eql (.tmp 14) (.const (.int .u8 47))),Mv 11 15] (Cd 11 (Sr [Mv 16 3,Bc 17 .add 16 1,Mv 3 17] (Sr [Mv 18 4,Bc 19 .eql 18 0,Mv 20 19,Of 21 20 (mt 4),Of 22 20 (mt 0),Of 23 20 (.len true (.tmp 22)),Of 24 20 (.bin .sub (.tmp 23) (Ci 1)),Of 25 20 (.bin .eql (.tmp 21) (.tmp 24)),Oo 26 (.pick (.tmp 20) (.const (.bool true)) (.tmp 25))] (Cd 26 (Sr [Mb 2 false] .ret) .skip))) (Sr [Mv 28 0,Mv 29 4,Oo 30 (.ix (.tmp 28) (.tmp 29)),Oo 31 (.bin .eql (.tmp 30) (.const (.int .u8 37))),Mv 27 31] (Cd 27 (Sr [Mv 32 3,Bc 33 .add 32 1,Mv 3 33] (Sr [Mv 34 4,Mv 35 0,Oo 36 (.len true (.tmp 35)),Bc 37 .sub 36 1,Bn 38 .eql 34 37,Mv 39 38,Of 40 39 (mt 0),Of 41 39 (mt 4),Of 42 39 (.bin .add (.tmp 41) (Ci 1)),Of 43 39 (.ix (.tmp 40) (.tmp 42)),Of 44 39 (.bin .neq (.tmp 43) (.const (.int .u8 115))),Oo 45 (.pick (.tmp 39) (.const (.bool true)) (.tmp 44))] (Cd 45 (Sr [Mb 2 false] .ret) .skip))) (Sr [Mv 47 0,Mv 48 4,Mv 49 4,Bc 50 .add 49 1,Oo 51 (.sls (.tmp 47) (some (.tmp 48)) (some (.tmp 50))),Cl 52 84 [(.tmp 51)],Oo 53 (.un .not (.tmp 52)),Mv 46 53] (Cd 46 (Sr [Mb 2 false] .ret) .skip)))))))) (.reg [Mv 9 4,Bc 10 .add 9 1,Mv 4 10])))))) (Sr [Mv 54 0,Oo 55 (.bin .neq (.tmp 54) (.const (.string ⟨#[]⟩))),Mv 56 55,Ot 57 56 (mt 0),Ot 58 56 (.len true (.tmp 57)),Ot 59 56 (.bin .leq (.tmp 58) (Ci 24)),Oo 60 (.pick (.tmp 56) (.tmp 59) (.const (.bool false))),Mv 61 60,Ot 62 61 (mt 3),Ot 63 61 (.bin .leq (.tmp 62) (Ci 1)),Oo 64 (.pick (.tmp 61) (.tmp 63) (.const (.bool false))),Mv 2 64] .ret))))
theorem k55:ZaO Try.prog 55=some ⟨c55,[(.tmp 2)],65⟩:=by kernel_rfl
theorem Zdl {n:Int}{h:AH}(h0:0≤n) (h1:n≤255):Ac 83 [uv n] h (bv (letB n)):=by
 refine tI' k83 fun N hn hlt hlA hbd=>?_
 simp only[tb'] at hbd ⊢
 refine wr'<|mw<|sn'<|wr'<|mw<|?_
 refine V' (ZfX lk om om) pt ?_
 refine Zak mp (ZaP) pt<|mw<|?_
 refine ZaI (t:=6) gt pt pt (fun hg6=>?_) (fun hg6=>?_)
 ·refine s_no gt pt<|s_no gt pt<|s_no gt pt<|Vw (Zag lk lkb)<|mw<|sn'<|Zaa<|Zai rz<|rT'<|?_
  refine bvx ?_;unfold wi at *;unfold letB;rw[Bool.eq_iff_iff];simp at *;omega
 refine s_do gt<|mw<|s_do gt<|?_
 refine V' (ZfX lk om om) pt ?_
 refine s_do gt<|Zak mp (ZaP) pt<|Vw (Zab lk lk)<|mw<|sn'<|Zaa<|Zai rz<|rT'<|?_
 refine bvx ?_;unfold wi at *;unfold letB;rw[Bool.eq_iff_iff];simp at *;omega
theorem Zdf {n:Int}{h:AH}(h0:0≤n) (h1:n≤255):Ac 53 [uv n] h (bv (digB n)):=by
 refine tI' k53 fun N hn hlt hlA hbd=>?_
 simp only[tb'] at hbd ⊢
 refine wr'<|mw<|sn'<|wr'<|mw<|?_
 refine V' (ZfX lk om om) pt ?_
 refine Zak mp (ZaP) pt<|mw<|sn'<|Zaa<|Zai rz<|rT'<|?_
 refine bvx ?_;unfold wi digB;rw[Bool.eq_iff_iff];simp
theorem ZdW (s:ByteArray) (k:Nat):(0:Int)≤((Zay s k).toNat:Int)∧((Zay s k).toNat:Int)≤255:=by
 have:=(Zay s k).toNat_lt
 omega
theorem ZjF {s:ByteArray}{h:AH}(hs:s.size≤maxLen):Ac 84 [sv s] h (bv (allB ZbN s)):=by
 have hm:s.size≤9223372036854775807:=by simpa [maxLen] using hs
 refine tI' k84 fun N hn hlt hlA hbd=>?_
 simp only[tb'] at hbd ⊢
 refine wr'<|mw<|sn'<|Zan<|wr'<|mw<|sn'<|Zao<|?_
 refine w_lp (ι:=Nat) (fun (k:Nat)=>[(3,iv (k:Int)),(2,.any)]++rn' 4 30) (fun (k:Nat)=>[]) (fun (k:Nat)=>k≤s.size ∧ ∀ j (hj:j<s.size),j<k→ZbN s[j].toNat=true) (fun (k:Nat)=>s.size-k) (0) (by exact⟨by omega,fun j hj h0=>absurd h0 om⟩) ?_
 rintro k hi1
 try simp only[sm',Nat.reduceAdd]
 obtain⟨hk1,hk2⟩:=hi1
 refine Zan<|wr'<|mw<|mw<|Vw (Za0 lk)<|Vw (ZbP lk lk)<|sn'<|?_
 refine cd' lk (fun hc1=>?_) (fun hc1=>?_)
 ·have hk:k<s.size:=by omega
  have hb:=ZdW s k
  have hbk:Zay s k=s[k]:=Zcv hk
  refine Zaf<|Zah<|Zan<|Zao<|wr'<|mw<|mw<|?_
  refine V' (v_ix lk lk om om) pt ?_
  refine Zak mp (Zdl hb.1 hb.2) pt<|Vw (Zav lk)<|mw<|?_
  refine ZaI (t:=15) gt pt pt (fun hg15=>?_) (fun hg15=>?_)
  ·refine s_do gt<|mw<|s_do gt<|mw<|s_do gt<|?_
   refine V' (v_ix lk lk om om) pt ?_
   refine s_do gt<|Zak mp (Zdf hb.1 hb.2) pt<|s_do gt<|Vw (Zav lk)<|Vw (Zag lk lk)<|mw<|?_
   refine ZaI (t:=22) gt pt pt (fun hg22=>?_) (fun hg22=>?_)
   ·refine s_do gt<|mw<|s_do gt<|mw<|s_do gt<|?_
    refine V' (v_ix lk lk om om) pt ?_
    refine s_do gt<|Vw (Za1 lk lki)<|Vw (Zag lk lk)<|mw<|?_
    refine sp' (t:=28) gt pt pt (fun hg28=>?_) (fun hg28=>?_)
    ·refine s_do gt<|mw<|s_do gt<|mw<|s_do gt<|?_
     refine V' (v_ix lk lk om om) pt ?_
     refine s_do gt<|Vw (Za1 lk lki)<|Vw (Zag lk lk)<|sn'<|?_
     refine cd' lk (fun hc2=>?_) (fun hc2=>?_)
     ·refine wr'<|mw<|sn'<|Zaa<|Zap<|Zal<|Zal<|Zap<|Zal<|Zai rz<|rT'<|?_
      refine bvx ?_;rw[Zgw (k:=k) hk (by rw[←hbk];unfold ZbN;simp at *;simp_all)]
     refine Zaf<|ZaC<|Zah<|Zar<|mw<|?_
     refine V' (Zau lk lki om om) pt ?_
     refine mw<|Zaq<|ZaB<|?_
     refine lT' (k+1) (by (try dsimp only);refine⟨by omega,fun j hj h0=>?_⟩;rcases Nat.lt_or_ge j k with e | e;exact hk2 j hj e;obtain rfl:j=k:=om;rw[←hbk];unfold ZbN;simp_all)
    refine s_no gt pt<|s_no gt pt<|s_no gt pt<|s_no gt pt<|Vw (Zab lk lkb)<|sn'<|ZaG lk<|Zaf<|ZaC<|Zah<|Zar<|mw<|?_
    refine V' (Zau lk lki om om) pt ?_
    refine mw<|Zaq<|ZaB<|?_
    refine lT' (k+1) (by (try dsimp only);refine⟨by omega,fun j hj h0=>?_⟩;rcases Nat.lt_or_ge j k with e | e;exact hk2 j hj e;obtain rfl:j=k:=om;rw[←hbk];unfold ZbN;simp_all)
   refine s_no gt pt<|s_no gt pt<|s_no gt pt<|s_no gt pt<|Vw (Zab lk lkb)<|mw<|s_no gt pt<|s_no gt pt<|s_no gt pt<|s_no gt pt<|Vw (Zab lk lkb)<|sn'<|ZaG lk<|?_
   refine Zaf<|ZaC<|Zah<|Zar<|mw<|?_
   refine V' (Zau lk lki om om) pt ?_
   refine mw<|Zaq<|ZaB<|?_
   refine lT' (k+1) (by (try dsimp only);refine⟨by omega,fun j hj h0=>?_⟩;rcases Nat.lt_or_ge j k with e | e;exact hk2 j hj e;obtain rfl:j=k:=om;rw[←hbk];unfold ZbN;simp_all)
  refine s_no gt pt<|s_no gt pt<|s_no gt pt<|s_no gt pt<|s_no gt pt<|Vw (Zab lk lkb)<|mw<|s_no gt pt<|s_no gt pt<|s_no gt pt<|s_no gt pt<|Vw (Zab lk lkb)<|mw<|s_no gt pt<|?_
  refine s_no gt pt<|s_no gt pt<|s_no gt pt<|Vw (Zab lk lkb)<|sn'<|ZaG lk<|Zaf<|ZaC<|Zah<|Zar<|mw<|?_
  refine V' (Zau lk lki om om) pt ?_
  refine mw<|Zaq<|ZaB<|?_
  refine lT' (k+1) (by (try dsimp only);refine⟨by omega,fun j hj h0=>?_⟩;rcases Nat.lt_or_ge j k with e | e;exact hk2 j hj e;obtain rfl:j=k:=om;rw[←hbk];unfold ZbN;simp_all)
 refine ZaX<|ZaN<|ZaN<|Zbq<|Zah<|wr'<|mw<|sn'<|Zaa<|Zai rz<|rT'<|?_
 refine bvx ?_;rw[ZeW fun j hj=>hk2 j hj om]
theorem Zfy {s:ByteArray}{h:AH}(hs:s.size≤maxLen):Ac 60 [sv s] h (bv (ZbR s)):=by
 have hm:s.size≤9223372036854775807:=by simpa [maxLen] using hs
 refine tI' k60 fun N hn hlt hlA hbd=>?_
 simp only[tb'] at hbd ⊢
 refine wr'<|mw<|sn'<|Zan<|wr'<|mw<|sn'<|Zao<|?_
 refine w_lp (ι:=Nat) (fun (k:Nat)=>[(3,iv (k:Int)),(2,.any)]++rn' 4 11) (fun (k:Nat)=>[]) (fun (k:Nat)=>k≤s.size ∧ ∀ j (hj:j<s.size),j<k→letB s[j].toNat=true) (fun (k:Nat)=>s.size-k) (0) (by exact⟨by omega,fun j hj h0=>absurd h0 om⟩) ?_
 rintro k hi1
 try simp only[sm',Nat.reduceAdd]
 obtain⟨hk1,hk2⟩:=hi1
 refine Zan<|wr'<|mw<|mw<|Vw (Za0 lk)<|Vw (ZbP lk lk)<|sn'<|?_
 refine cd' lk (fun hc1=>?_) (fun hc1=>?_)
 ·have hk:k<s.size:=by omega
  have hb:=ZdW s k
  have hbk:Zay s k=s[k]:=Zcv hk
  refine Zaf<|Zah<|Zan<|Zao<|wr'<|mw<|mw<|?_
  refine V' (v_ix lk lk om om) pt ?_
  refine Zak mp (Zdl hb.1 hb.2) pt<|Vw (Zav lk)<|sn'<|?_
  refine Zaz lk (fun hc2=>?_) (fun hc2=>?_)
  ·refine wr'<|mw<|sn'<|Zaa<|Zap<|Zal<|Zal<|Zap<|Zal<|Zai rz<|rT'<|?_
   refine bvx ?_;unfold ZbR;rw[Zgw (k:=k) hk (by rw[←hbk];simp_all)];simp
  refine Zaf<|ZaC<|Zah<|Zar<|mw<|?_
  refine V' (Zau lk lki om om) pt ?_
  refine mw<|Zaq<|ZaB<|?_
  refine lT' (k+1) (by (try dsimp only);refine⟨by omega,fun j hj h0=>?_⟩;rcases Nat.lt_or_ge j k with e | e;exact hk2 j hj e;obtain rfl:j=k:=om;rw[←hbk];simp_all)
 refine ZaX<|ZaN<|ZaN<|Zbq<|Zah<|wr'<|mw<|Vw (Za0 lk)<|Vw (Zc5 lk lki)<|mw<|sn'<|Zaa<|?_
 refine Zai rz<|rT'<|?_
 refine bvx ?_;unfold ZbR;rw[ZeW fun j hj=>hk2 j hj om];rw[Bool.eq_iff_iff];simp;omega
theorem Zcz {s:ByteArray}{h:AH}(hs:s.size≤maxLen):Ac 54 [sv s] h (bv (Zcc s)):=by
 have hm:s.size≤9223372036854775807:=by simpa [maxLen] using hs
 have hem:=Zd4 (f:=s)
 have hb0:=ZdW s 0
 refine tI' k54 fun N hn hlt hlA hbd=>?_
 simp only[tb'] at hbd ⊢
 refine wr'<|mw<|sn'<|Zan<|wr'<|mw<|Vw (ZcW lk lks)<|mw<|?_
 refine sp' (t:=7) gt pt pt (fun hg7=>?_) (fun hg7=>?_)
 ·refine s_no gt pt<|s_no gt pt<|s_no gt pt<|Vw (Zag lk lkb)<|mw<|s_no gt pt<|s_no gt pt<|s_no gt pt<|s_no gt pt<|Vw (Zag lk lkb)<|sn'<|ZaH lk<|Zan<|?_
  refine Zar<|mw<|sn'<|Zaa<|Zal<|Zai rz<|rT'<|?_
  refine bvx ?_;unfold Zcc;simp[hem.1 hg7]
 have hne:s.size≠0:=fun e=>hg7 (hem.2 e)
 refine s_do gt<|mw<|s_do gt<|Vw (Za0 lk)<|s_do gt<|Vw (ZbI lk lki)<|Vw (Zab lk lk)<|mw<|?_
 refine sp' (t:=12) gt pt pt (fun hg12=>?_) (fun hg12=>?_)
 ·refine s_no gt pt<|s_no gt pt<|s_no gt pt<|s_no gt pt<|Vw (Zag lk lkb)<|sn'<|ZaH lk<|wr'<|mw<|sn'<|Zaa<|?_
  refine Zal<|Zai rz<|rT'<|?_
  refine bvx ?_;unfold Zcc;simp;omega
 refine s_do gt<|mw<|s_do gt<|?_
 refine V' (v_ix lk lki om om) pt ?_
 refine s_do gt<|Zak mp (Zdl hb0.1 hb0.2) pt<|s_do gt<|Vw (Zav lk)<|Vw (Zab lk lk)<|sn'<|?_
 refine Zaz lk (fun hc1=>?_) (fun hc1=>?_)
 ·refine wr'<|mw<|sn'<|Zaa<|Zal<|Zai rz<|rT'<|?_
  refine bvx ?_;unfold Zcc;simp_all
 have hz:s.size≤24:=by omega
 have hL:letB (Zay s 0).toNat=true:=by simpa using hc1
 refine Zaf<|Zah<|Zan<|wr'<|mw<|sn'<|Zao<|?_
 refine w_lp (ι:=Nat) (fun (k:Nat)=>[(3,iv (k:Int)),(2,.any),(4,.any)]++rn' 18 33) (fun (k:Nat)=>[]) (fun (k:Nat)=>k≤s.size ∧ ∀ j (hj:j<s.size),j<k→ZiS s[j].toNat=true) (fun (k:Nat)=>s.size-k) (0) (by exact⟨by omega,fun j hj h0=>absurd h0 om⟩) ?_
 rintro k hi1
 try simp only[sm',Nat.reduceAdd]
 obtain⟨hk1,hk2⟩:=hi1
 refine Zan<|wr'<|mw<|mw<|Vw (Za0 lk)<|Vw (ZbP lk lk)<|sn'<|?_
 refine cd' lk (fun hc2=>?_) (fun hc2=>?_)
 ·have hk:k<s.size:=by omega
  have hb:=ZdW s k
  have hbk:Zay s k=s[k]:=Zcv hk
  have hR:=ZmG (Zay s k)
  refine Zaf<|Zah<|Zan<|Zao<|wr'<|mw<|mw<|?_
  refine V' (v_ix lk lk om om) pt ?_
  refine mw<|sn'<|wr'<|mw<|Zak mp (Zdl hb.1 hb.2) pt<|Vw (Zav lk)<|mw<|?_
  refine ZaI (t:=30) gt pt pt (fun hg30=>?_) (fun hg30=>?_)
  ·refine s_do gt<|mw<|s_do gt<|Zak mp (Zdf hb.1 hb.2) pt<|s_do gt<|Vw (Zav lk)<|Vw (Zag lk lk)<|mw<|?_
   refine ZaI (t:=35) gt pt pt (fun hg35=>?_) (fun hg35=>?_)
   ·refine s_do gt<|mw<|s_do gt<|Vw (Za1 lk lki)<|Vw (Zag lk lk)<|mw<|?_
    refine sp' (t:=39) gt pt pt (fun hg39=>?_) (fun hg39=>?_)
    ·refine s_do gt<|mw<|s_do gt<|Vw (Za1 lk lki)<|Vw (Zag lk lk)<|mw<|?_
     refine sp' (t:=43) gt pt pt (fun hg43=>?_) (fun hg43=>?_)
     ·refine s_do gt<|mw<|s_do gt<|Vw (Za1 lk lki)<|Vw (Zag lk lk)<|mw<|?_
      refine sp' (t:=47) gt pt pt (fun hg47=>?_) (fun hg47=>?_)
      ·refine s_do gt<|mw<|s_do gt<|Vw (Za1 lk lki)<|Vw (Zag lk lk)<|sn'<|?_
       refine cd' lk (fun hc3=>?_) (fun hc3=>?_)
       ·refine wr'<|mw<|sn'<|Zaa<|Zap<|Zal<|Zal<|Zap<|Zal<|Zai rz<|rT'<|?_
        refine bvx ?_;unfold Zcc;rw[Zgw (k:=k) hk (by rw[←hbk,hR];unfold refN;simp_all)];simp
       refine Zaf<|ZaC<|Zah<|Zar<|mw<|?_
       refine V' (Zau lk lki om om) pt ?_
       refine mw<|Zaq<|ZaB<|?_
       refine lT' (k+1) (by (try dsimp only);refine⟨by omega,fun j hj h0=>?_⟩;rcases Nat.lt_or_ge j k with e | e;exact hk2 j hj e;obtain rfl:j=k:=om;rw[←hbk,hR];unfold refN;simp_all)
      refine s_no gt pt<|s_no gt pt<|Vw (Zab lk lkb)<|sn'<|ZaG lk<|Zaf<|ZaC<|Zah<|Zar<|mw<|?_
      refine V' (Zau lk lki om om) pt ?_
      refine mw<|Zaq<|ZaB<|?_
      refine lT' (k+1) (by (try dsimp only);refine⟨by omega,fun j hj h0=>?_⟩;rcases Nat.lt_or_ge j k with e | e;exact hk2 j hj e;obtain rfl:j=k:=om;rw[←hbk,hR];unfold refN;simp_all)
     refine s_no gt pt<|s_no gt pt<|Vw (Zab lk lkb)<|mw<|s_no gt pt<|s_no gt pt<|Vw (Zab lk lkb)<|sn'<|ZaG lk<|Zaf<|ZaC<|Zah<|Zar<|?_
     refine mv' lk pt ?_
     refine V' (Zau lk lki om om) pt ?_
     refine mw<|Zaq<|ZaB<|?_
     refine lT' (k+1) (by (try dsimp only);refine⟨by omega,fun j hj h0=>?_⟩;rcases Nat.lt_or_ge j k with e | e;exact hk2 j hj e;obtain rfl:j=k:=om;rw[←hbk,hR];unfold refN;simp_all)
    refine s_no gt pt<|s_no gt pt<|Vw (Zab lk lkb)<|mw<|s_no gt pt<|s_no gt pt<|Vw (Zab lk lkb)<|mw<|s_no gt pt<|s_no gt pt<|Vw (Zab lk lkb)<|sn'<|ZaG lk<|?_
    refine Zaf<|ZaC<|Zah<|Zar<|mw<|?_
    refine V' (Zau lk lki om om) pt ?_
    refine mw<|Zaq<|ZaB<|?_
    refine lT' (k+1) (by (try dsimp only);refine⟨by omega,fun j hj h0=>?_⟩;rcases Nat.lt_or_ge j k with e | e;exact hk2 j hj e;obtain rfl:j=k:=om;rw[←hbk,hR];unfold refN;simp_all)
   refine s_no gt pt<|s_no gt pt<|Vw (Zab lk lkb)<|mw<|s_no gt pt<|s_no gt pt<|Vw (Zab lk lkb)<|mw<|s_no gt pt<|s_no gt pt<|Vw (Zab lk lkb)<|mw<|s_no gt pt<|s_no gt pt<|?_
   refine Vw (Zab lk lkb)<|sn'<|ZaG lk<|Zaf<|ZaC<|Zah<|Zar<|mw<|?_
   refine V' (Zau lk lki om om) pt ?_
   refine mw<|Zaq<|ZaB<|?_
   refine lT' (k+1) (by (try dsimp only);refine⟨by omega,fun j hj h0=>?_⟩;rcases Nat.lt_or_ge j k with e | e;exact hk2 j hj e;obtain rfl:j=k:=om;rw[←hbk,hR];unfold refN;simp_all)
  refine s_no gt pt<|s_no gt pt<|s_no gt pt<|Vw (Zab lk lkb)<|mw<|s_no gt pt<|s_no gt pt<|Vw (Zab lk lkb)<|mw<|s_no gt pt<|s_no gt pt<|Vw (Zab lk lkb)<|mw<|s_no gt pt<|?_
  refine s_no gt pt<|Vw (Zab lk lkb)<|mw<|s_no gt pt<|s_no gt pt<|Vw (Zab lk lkb)<|sn'<|ZaG lk<|Zaf<|ZaC<|Zah<|Zar<|mw<|?_
  refine V' (Zau lk lki om om) pt ?_
  refine mw<|Zaq<|ZaB<|?_
  refine lT' (k+1) (by (try dsimp only);refine⟨by omega,fun j hj h0=>?_⟩;rcases Nat.lt_or_ge j k with e | e;exact hk2 j hj e;obtain rfl:j=k:=om;rw[←hbk,hR];unfold refN;simp_all)
 refine ZaX<|ZaN<|ZaN<|Zbq<|Zah<|wr'<|mw<|sn'<|Zaa<|Zai rz<|rT'<|?_
 refine bvx ?_;unfold Zcc;rw[ZeW fun j hj=>hk2 j hj om,hL];simp[hne,hz]
theorem Zen {s:ByteArray}{h:AH}(hs:s.size≤maxLen):Ac 55 [sv s] h (bv (Zc8 s)):=by
 have hm:s.size≤9223372036854775807:=by simpa [maxLen] using hs
 have hem:=Zd4 (f:=s)
 have hF:=ZjW s
 refine tI' k55 fun N hn hlt hlA hbd=>?_
 simp only[tb'] at hbd ⊢
 refine wr'<|mw<|sn'<|wr'<|mw<|sn'<|Zan<|wr'<|mw<|?_
 refine sn'<|Zao<|?_
 refine w_lp (ι:=Nat×Nat) (fun (x_:Nat×Nat)=>match x_ with | ⟨k,m⟩=>[(3,iv (m:Int)),(4,iv (k:Int)),(2,.any)]++rn' 5 49) (fun (x_:Nat×Nat)=>match x_ with | ⟨k,m⟩=>[]) (fun (x_:Nat×Nat)=>match x_ with | ⟨k,m⟩=>k≤s.size∧m≤k∧fmtL 0 true (aB s)=fmtL m (decide (k=0)) ((aB s).drop k)) (fun (x_:Nat×Nat)=>match x_ with | ⟨k,m⟩=>s.size-k) (⟨0,0⟩) (by exact⟨by omega,by omega,rfl⟩) ?_
 rintro⟨k,m⟩ hi1
 try simp only[sm',Nat.reduceAdd]
 obtain⟨hk1,hk2,hk3⟩:=hi1
 refine Zan<|wr'<|mw<|mw<|Vw (Za0 lk)<|Vw (ZbP lk lk)<|sn'<|?_
 refine cd' lk (fun hc1=>?_) (fun hc1=>?_)
 ·have hk:k<s.size:=by omega
  have hb:=ZdW s k
  have hA:=ZdZ hk
  rw[hA,fmtL] at hk3
  have hE:((aB s).drop (k+1)).isEmpty=decide ((k:Int)=(s.size:Int)-1):=by
   rw[Bool.eq_iff_iff,List.isEmpty_iff,List.drop_eq_nil_iff,decide_eq_true_iff,ZdY];omega
  refine Zaf<|Zah<|Zan<|Zao<|Zao<|wr'<|mw<|mw<|?_
  refine V' (v_ix lk lk om om) pt ?_
  refine Vw (ZaS lk lki)<|mw<|sn'<|?_
  refine cd' lk (fun hc2=>?_) (fun hc2=>?_)
  ·have hx:Zay s k=47:=Zgt (n:=47) om hc2
   rw[if_pos hx,hE] at hk3
   refine wr'<|mw<|?_
   refine V' (Zau lk lki om om) pt ?_
   refine mw<|sn'<|wr'<|mw<|Vw (ZaS lk lki)<|mw<|?_
   refine sp' (t:=20) gt pt pt (fun hg20=>?_) (fun hg20=>?_)
   ·refine s_no gt pt<|s_no gt pt<|s_no gt pt<|s_no gt pt<|s_no gt pt<|Vw (Zag lk lkb)<|sn'<|ZaH lk<|wr'<|mw<|sn'<|?_
    refine Zaa<|Zap<|Zap<|Zal<|Zal<|Zap<|Zal<|Zai rz<|rT'<|?_
    refine bvx ?_;rw[hF,hk3];simp_all
   refine s_do gt<|mw<|s_do gt<|mw<|s_do gt<|Vw (Za0 lk)<|s_do gt<|?_
   refine V' (Zbi lk lki om om) pt ?_
   refine s_do gt<|Vw (ZaS lk lk)<|Vw (Zab lk lk)<|sn'<|?_
   refine cd' lk (fun hc3=>?_) (fun hc3=>?_)
   ·refine wr'<|mw<|sn'<|Zaa<|Zap<|Zap<|Zal<|Zal<|Zap<|Zal<|Zai rz<|rT'<|?_
    refine bvx ?_;rw[hF,hk3];simp_all
   have hk3':fmtL 0 true (aB s)=fmtL (m+1) false ((aB s).drop (k+1)):=by rw[hk3];simp_all
   refine Zaf<|ZaC<|ZaC<|Zah<|Zar<|mw<|?_
   refine V' (Zau lk lki om om) pt ?_
   refine mw<|Zaq<|ZaB<|?_
   refine lT' (⟨k+1,m+1⟩) (by (try dsimp only);exact⟨by omega,by omega,by rw[hk3'];simp⟩)
  have hx:¬Zay s k=47:=Zie (n:=47) om hc2
  rw[if_neg hx] at hk3
  refine wr'<|mw<|mw<|?_
  refine V' (v_ix lk lk om om) pt ?_
  refine Vw (ZaS lk lki)<|mw<|sn'<|?_
  refine cd' lk (fun hc4=>?_) (fun hc4=>?_)
  ·have hy:Zay s k=37:=Zgt (n:=37) om hc4
   rw[if_pos hy] at hk3
   refine wr'<|mw<|?_
   refine V' (Zau lk lki om om) pt ?_
   refine mw<|sn'<|wr'<|mw<|mw<|Vw (Za0 lk)<|?_
   refine V' (Zbi lk lki om om) pt ?_
   refine Vw (ZaS lk lk)<|mw<|?_
   refine sp' (t:=39) gt pt pt (fun hg39=>?_) (fun hg39=>?_)
   ·have hD:(aB s).drop (k+1)=[]:=by rw[List.drop_eq_nil_iff,ZdY];omega
    refine s_no gt pt<|s_no gt pt<|s_no gt pt<|s_no gt pt<|s_no gt pt<|Vw (Zag lk lkb)<|sn'<|ZaH lk<|wr'<|mw<|sn'<|?_
    refine Zaa<|Zap<|Zap<|Zal<|Zal<|Zap<|Zal<|Zai rz<|rT'<|?_
    refine bvx ?_;rw[hF,hk3,hD];simp
   have hk':k+1<s.size:=by omega
   have hA':=ZdZ hk'
   refine s_do gt<|mw<|s_do gt<|mw<|s_do gt<|?_
   refine V' (Zau lk lki om om) pt ?_
   refine s_do gt ?_
   refine V' (v_ix lk lk om om) pt ?_
   refine s_do gt<|Vw (Za1 lk lki)<|Vw (Zab lk lk)<|sn'<|?_
   refine cd' lk (fun hc5=>?_) (fun hc5=>?_)
   ·refine wr'<|mw<|sn'<|Zaa<|Zap<|Zap<|Zal<|Zal<|Zap<|Zal<|Zai rz<|rT'<|?_
    refine bvx ?_;rw[hF,hk3,hA'];have h9:¬Zay s (k+1)=115:=Zie (c:=Zay s (k+1)) (n:=115) om (by simpa using hc5);simp[h9]
   have hk3':fmtL 0 true (aB s)=fmtL (m+1) false ((aB s).drop (k+1)):=by rw[hk3];have:=Zgt (c:=Zay s (k+1)) (n:=115) om (by simpa using hc5);rw[hA'];simp[this]
   refine Zaf<|ZaC<|ZaC<|Zah<|Zar<|mw<|?_
   refine V' (Zau lk lki om om) pt ?_
   refine mw<|Zaq<|ZaB<|?_
   refine lT' (⟨k+1,m+1⟩) (by (try dsimp only);exact⟨by omega,by omega,by rw[hk3'];simp⟩)
  have hy:¬Zay s k=37:=Zie (n:=37) om hc4
  rw[if_neg hy] at hk3
  have hone:allB ZbN (s.extract k (k+1))=ZbN (Zay s k).toNat:=by rw[Zja,hA,Nat.add_sub_cancel_left];simp[allB,bA]
  refine wr'<|mw<|mw<|mw<|?_
  refine V' (Zau lk lki om om) pt ?_
  refine V' (Zc4 lk (oi lk) (oi lk) om om om) pt ?_
  refine Zak mp (ZjF (by rw[ByteArray.size_extract];unfold maxLen at *;omega)) pt ?_
  refine Vw (Zav lk)<|mw<|sn'<|?_
  refine Zaz lk (fun hc6=>?_) (fun hc6=>?_)
  ·refine wr'<|mw<|sn'<|Zaa<|Zap<|Zap<|Zal<|Zal<|Zap<|Zal<|Zai rz<|rT'<|?_
   refine bvx ?_;rw[hF,hk3,←hone];simp_all
  have hk3':fmtL 0 true (aB s)=fmtL m false ((aB s).drop (k+1)):=by rw[hk3,←hone];simp_all
  refine Zaf<|ZaC<|ZaC<|Zah<|Zar<|mw<|?_
  refine V' (Zau lk lki om om) pt ?_
  refine mw<|Zaq<|ZaB<|?_
  refine lT' (⟨k+1,m⟩) (by (try dsimp only);exact⟨by omega,by omega,by rw[hk3'];simp⟩)
 have hk4:fmtL 0 true (aB s)=decide (m≤1):=by rw[hk3,Zje om,fmtL]
 clear hk3
 refine ZaX<|ZaN<|ZaN<|Zbq<|Zah<|wr'<|mw<|Vw (ZcV lk lks)<|mw<|?_
 refine sp' (t:=56) gt pt pt (fun hg56=>?_) (fun hg56=>?_)
 ·refine s_do gt<|mw<|s_do gt<|Vw (Za0 lk)<|s_do gt<|Vw (Zc5 lk lki)<|Vw (Zag lk lk)<|mw<|?_
  refine sp' (t:=61) gt pt pt (fun hg61=>?_) (fun hg61=>?_)
  ·refine s_do gt<|mw<|s_do gt<|Vw (Zc5 lk lki)<|Vw (Zag lk lk)<|mw<|sn'<|Zaa<|Zai rz<|rT'<|?_
   refine bvx ?_;rw[hF,hk4];clear hF hk4;by_cases h0:s.size=0 <;> simp_all <;> (try intros) <;> first | omega | (rw[Bool.eq_iff_iff];simp;omega)
  refine s_no gt pt<|s_no gt pt<|Vw (Zab lk lkb)<|mw<|sn'<|Zaa<|Zai rz<|rT'<|?_
  refine bvx ?_;rw[hF,hk4];clear hF hk4;by_cases h0:s.size=0 <;> simp_all <;> (try intros) <;> first | omega | (rw[Bool.eq_iff_iff];simp;omega)
 refine s_no gt pt<|s_no gt pt<|s_no gt pt<|Vw (Zab lk lkb)<|mw<|s_no gt pt<|s_no gt pt<|Vw (Zab lk lkb)<|mw<|sn'<|Zaa<|Zai rz<|rT'<|?_
 refine bvx ?_;rw[hF,hk4];clear hF hk4;by_cases h0:s.size=0 <;> simp_all <;> (try intros) <;> first | omega | (rw[Bool.eq_iff_iff];simp;omega)
end Go.Proofs.Yticajimgfndceaa
end
section
namespace Go.Proofs.Yticajimgfndceaa
open Go.Ab
attribute [local simp] ZbU Zcl Zcf Zcq
section
theorem Zhx {a0 a1 a2:AV}{l:List AV}:((a0::a1::a2::l).drop 0).take 3=[a0,a1,a2]:=rfl
theorem Zj9 {a0 b0:Int}{a1 b1:Int}{a2 b2:Int}:ZbW [.int,.int,.int] [iv a0,iv a1,iv a2] [iv b0,iv b1,iv b2]=some (decide (a0=b0∧a1=b1∧a2=b2)):=by
 simp only[ZbW,ZeQ,if_true,ZeU,Option.some.injEq]
 simp only[Bool.decide_and,Bool.and_true]
 try (congr 1 <;> simp)
 try rfl
end
def c88:AC:=(Sr [Oo 2 (.box 75 5 (.tmp 0)),Oo 3 (.box 75 5 (.tmp 1)),Mb 4 false] (Sr [Fa 5 0 2,Oo 6 (.load true 3 (.tmp 5)),Fa 7 0 3,Oo 8 (.load true 3 (.tmp 7)),Oo 9 (.eqs false [.int,.int,.int] (.tmp 6) (.tmp 8)),Mv 10 9,Ot 11 10 (.fa 3 (.tmp 2)),Ot 12 10 (.load false 1 (.tmp 11)),Ot 13 10 (.fa 3 (.tmp 3)),Ot 14 10 (.load false 1 (.tmp 13)),Ot 15 10 (.bin .eql (.tmp 12) (.tmp 14)),Oo 16 (.pick (.tmp 10) (.tmp 15) (.const (.bool false))),Mv 17 16,Ot 18 17 (.fa 4 (.tmp 2)),Ot 19 17 (.load false 1 (.tmp 18)),Ot 20 17 (.fa 4 (.tmp 3)),Ot 21 17 (.load false 1 (.tmp 20)),Ot 22 17 (.bin .eql (.tmp 19) (.tmp 21)),Oo 23 (.pick (.tmp 17) (.tmp 22) (.const (.bool false))),Mv 4 23] .ret))
theorem k88:ZaO Try.prog 88=some ⟨c88,[(.tmp 4)],24⟩:=by kernel_rfl
theorem Zc0 {u v:Unt}{h:AH}:Ac 88 [.agg (untC u),.agg (untC v)] h (bv (decide (u=v))):=by
 obtain⟨⟨y,m,d⟩,a,c⟩:=u
 obtain⟨⟨y2,m2,d2⟩,a2,c2⟩:=v
 refine tI' k88 fun N hn hlt hlA hbd=>?_
 simp only[tb'] at hbd ⊢
 refine wr'<|E' (ZdO cv rfl (hl0 hn) ha0) pt<|E' (ZdO cv rfl (hl1 hn) ha1) pt<|mw<|sn'<|wr'<|Vw (Zac lk)<|Vw (ZaE lk gx Zhx rfl)<|Vw (Zac lk)<|Vw (ZaE lk gx Zhx rfl)<|Vw (v_eqsT lk lk Zj9)<|?_
 refine mv' lk pt ?_
 refine sp' (t:=10) gt pt pt (fun hg10=>?_) (fun hg10=>?_)
 ·refine s_do gt<|Vw (Zac lk)<|s_do gt<|Vw (Zae lk gx gt3)<|s_do gt<|Vw (Zac lk)<|s_do gt<|Vw (Zae lk gx gt3)<|s_do gt<|Vw (ZaS lk lk)<|Vw (Zag lk lk)<|mw<|?_
  refine sp' (t:=17) gt pt pt (fun hg17=>?_) (fun hg17=>?_)
  ·refine s_do gt<|Vw (Zac lk)<|s_do gt<|Vw (Zae lk gx gt4)<|s_do gt<|Vw (Zac lk)<|s_do gt<|Vw (Zae lk gx gt4)<|s_do gt<|Vw (ZaS lk lk)<|Vw (Zag lk lk)<|mw<|sn'<|?_
   refine Zaa<|Zai rz<|rT'<|?_
   refine bvx ?_;simp_all
  refine s_no gt pt<|s_no gt pt<|s_no gt pt<|s_no gt pt<|s_no gt pt<|Vw (Zab lk lkb)<|mw<|sn'<|Zaa<|Zai rz<|rT'<|?_
  refine bvx ?_;simp_all
 refine s_no gt pt<|s_no gt pt<|s_no gt pt<|s_no gt pt<|s_no gt pt<|Vw (Zab lk lkb)<|mw<|s_no gt pt<|s_no gt pt<|s_no gt pt<|s_no gt pt<|s_no gt pt<|Vw (Zab lk lkb)<|mw<|?_
 refine sn'<|Zaa<|Zai rz<|rT'<|?_
 refine bvx ?_;simp_all
end Go.Proofs.Yticajimgfndceaa
end
section
namespace Go.Proofs.Yticajimgfndceaa
open Go.Ab Go.RowKit Civ
attribute [local simp] ZbU Zcl Zcf Zcq
section
theorem ZlD {a0 a1 a2 a3 a4 a5 a6:AV}{l:List AV}:((a0::a1::a2::a3::a4::a5::a6::l).drop 4).take 3=[a4,a5,a6]:=rfl
theorem ZlE {a0 a1 a2 c0 c1 c2:AV}{l:List AV}:setCells (a0::a1::a2::l) 0 [c0,c1,c2]=c0::c1::c2::l:=rfl
theorem Zec {a0 a1 a2 a3 a4 a5 a6 a7 a8 a9:AV}{l:List AV}:((a0::a1::a2::a3::a4::a5::a6::a7::a8::a9::l).drop 5).take 5=[a5,a6,a7,a8,a9]:=rfl
theorem Zb2 {τ:Operand→AV}:Zaw τ [] [(.v (.int .i64 0)),(.v (.int .i64 0)),(.v (.int .i64 0)),(.v (.int .i64 0)),(.v (.int .i64 0))]=some [(.v (.int .i64 0)),(.v (.int .i64 0)),(.v (.int .i64 0)),(.v (.int .i64 0)),(.v (.int .i64 0))]:=rfl
theorem Zed {a0 a1 a2 a3 a4 a5 a6 a7:AV}{l:List AV}:((a0::a1::a2::a3::a4::a5::a6::a7::l).drop 5).take 3=[a5,a6,a7]:=rfl
theorem ZlB {a0 a1 a2 a3 a4 a5 a6 a7 a8 a9 a10:AV}{l:List AV}:(a0::a1::a2::a3::a4::a5::a6::a7::a8::a9::a10::l).take 11=[a0,a1,a2,a3,a4,a5,a6,a7,a8,a9,a10]:=rfl
theorem ZlC {a0 a1 a2 a3 a4 a5 a6 a7 a8 a9:AV}{l:List AV}:(a0::a1::a2::a3::a4::a5::a6::a7::a8::a9::l).take 10=[a0,a1,a2,a3,a4,a5,a6,a7,a8,a9]:=rfl
end
def c61:AC:=(Sr [Oo 1 (.box 31 11 (.tmp 0)),Mc 2 0] (.seq (Sr [Fa 5 0 1,Ld 6 5,Cl 7 54 [(.tmp 6)],Oo 8 (.un .not (.tmp 7)),Mv 9 8,Of 10 9 (.fa 10 (.tmp 1)),Of 11 9 (.load false 1 (.tmp 10)),Of 12 9 (.call (.func 60) [(.tmp 11)]),Of 13 9 (.un .not (.tmp 12)),Oo 14 (.pick (.tmp 9) (.const (.bool true)) (.tmp 13))] (Cd 14 (Sr [Mc 2 1] .ret) .skip)) (.seq (Sr [Fa 15 1 1,Ld 16 15,Fa 17 2 1,Ld 18 17,Cl 19 82 [(.tmp 16),(Ci 1900),(.tmp 18)],Oo 20 (.un .not (.tmp 19)),Mv 21 20,Of 22 21 (.fa 2 (.tmp 1)),Of 23 21 (.load false 1 (.tmp 22)),Of 24 21 (.bin .gtr (.tmp 23) (Ci 2100)),Oo 25 (.pick (.tmp 21) (.const (.bool true)) (.tmp 24)),Mv 26 25,Of 27 26 (.fa 3 (.tmp 1)),Of 28 26 (.load false 1 (.tmp 27)),Of 29 26 (.call (.func 82) [(.tmp 28),(Ci 1),(Ci 12)]),Of 30 26 (.un .not (.tmp 29)),Oo 31 (.pick (.tmp 26) (.const (.bool true)) (.tmp 30))] (Cd 31 (Sr [Mc 2 3] .ret) .skip)) (Sr [Fa 33 3 1,Ld 34 33,Fa 35 4 1,Oo 36 (.load true 3 (.tmp 35)),Cl 37 87 [(Ci 2001),(.tmp 34),(.tmp 36)],Mv 32 37,Ex 38 32 0,Ex 39 32 1,Oo 3 (.new 57 3 [(iv 0),(iv 0),(iv 0)]),⟨none,none,(.store 3 (.tmp 3) (.tmp 38))⟩,Mv 4 39] (.seq (Sr [Mv 40 4,Bc 41 .neq 40 0] (Cd 41 (Sr [Mv 42 4,Mv 2 42] .ret) .skip)) (.seq (Sr [Fa 43 7 1,Ld 44 43,Cl 45 82 [(.tmp 44),(Ci 0),(Ci 172800)],Oo 46 (.un .not (.tmp 45))] (Cd 46 (Sr [Mc 2 3] .ret) .skip)) (.seq (Sr [Fa 47 8 1,Ld 48 47,Cl 49 82 [(.tmp 48),(Ci 1),(Ci 3)],Oo 50 (.un .not (.tmp 49))] (Cd 50 (Sr [Mc 2 7] .ret) .skip)) (.seq (Sr [Fa 51 9 1,Ld 52 51,Cl 53 82 [(.tmp 52),(Ci 0),(Ci 10800)],Oo 54 (.un .not (.tmp 53))] (Cd 54 (Sr [Mc 2 3] .ret) .skip)) (Sr [Mc 2 0] .ret)))))))))
theorem k61:ZaO Try.prog 61=some ⟨c61,[(.tmp 2)],55⟩:=by kernel_rfl
def c62:AC:=(Sr [Oo 2 (.box 77 10 (.tmp 0)),Mc 4 0] (.seq (Sr [Fa 5 1 2,Ld 6 5,Oo 7 (.bin .neq (.tmp 6) (.const (.string ⟨#[]⟩))),Mv 8 7,Ot 9 8 (.fa 1 (.tmp 2)),Ot 10 8 (.load false 1 (.tmp 9)),Ot 11 8 (.call (.func 54) [(.tmp 10)]),Ot 12 8 (.un .not (.tmp 11)),Oo 13 (.pick (.tmp 8) (.tmp 12) (.const (.bool false))),Mv 14 13,Of 15 14 (.fa 3 (.tmp 2)),Of 16 14 (.load false 1 (.tmp 15)),Of 17 14 (.call (.func 55) [(.tmp 16)]),Of 18 14 (.un .not (.tmp 17)),Oo 19 (.pick (.tmp 14) (.const (.bool true)) (.tmp 18))] (Cd 19 (Sr [Mc 4 1] .ret) .skip)) (.seq (Sr [Fa 20 0 2,Ld 21 20,Cl 22 82 [(.tmp 21),(.const (.int .i64 (-64800))),(Ci 64800)],Oo 23 (.un .not (.tmp 22)),Mv 24 23,Of 25 24 (.fa 2 (.tmp 2)),Of 26 24 (.load false 1 (.tmp 25)),Of 27 24 (.call (.func 82) [(.tmp 26),(Ci 0),(Ci 10800)]),Of 28 24 (.un .not (.tmp 27)),Oo 29 (.pick (.tmp 24) (.const (.bool true)) (.tmp 28))] (Cd 29 (Sr [Mc 4 3] .ret) .skip)) (.seq (Sr [Fa 30 1 2,Ld 31 30,Oo 32 (.bin .neq (.tmp 31) (.const (.string ⟨#[]⟩))),Mv 33 32,Ot 34 33 (.fa 2 (.tmp 2)),Ot 35 33 (.load false 1 (.tmp 34)),Ot 36 33 (.bin .neq (.tmp 35) (Ci 0)),Oo 37 (.pick (.tmp 33) (.tmp 36) (.const (.bool false)))] (Cd 37 (Sr [Mc 4 1] .ret) .skip)) (.seq (Sr [Fa 38 4 2,Ld 39 38,Mv 40 1,Oo 41 (.eqb true (.tmp 39) (.tmp 40))] (Cd 41 (Sr [Mc 4 4] .ret) .skip)) (.seq (Sr [Fa 42 4 2,Ld 43 42] (Cd 43 (.seq (Sr [Fa 44 5 2,Oo 45 (.load true 5 (.tmp 44)),Oo 46 (.build [(iv 0),(iv 0),(iv 0),(iv 0),(iv 0)] []),Cl 47 88 [(.tmp 45),(.tmp 46)],Oo 48 (.un .not (.tmp 47))] (Cd 48 (Sr [Mc 4 1] .ret) .skip)) (Sr [Mc 4 0] .ret)) .skip)) (.seq (Sr [Fa 49 5 2,Fa 50 0 49,Oo 51 (.load true 3 (.tmp 50)),Cl 52 89 [(.tmp 51)],Oo 53 (.un .not (.tmp 52)),Mv 54 53,Of 55 54 (.fa 5 (.tmp 2)),Of 56 54 (.fa 3 (.tmp 55)),Of 57 54 (.load false 1 (.tmp 56)),Of 58 54 (.call (.func 82) [(.tmp 57),(Ci 0),(Ci 172800)]),Of 59 54 (.un .not (.tmp 58)),Oo 60 (.pick (.tmp 54) (.const (.bool true)) (.tmp 59))] (Cd 60 (Sr [Mc 4 3] .ret) .skip)) (.seq (Sr [Fa 61 5 2,Fa 62 4 61,Ld 63 62,Bc 64 .neq 63 2,Mv 65 64,Ot 66 65 (.fa 5 (.tmp 2)),Ot 67 65 (.fa 4 (.tmp 66)),Ot 68 65 (.load false 1 (.tmp 67)),Ot 69 65 (.bin .neq (.tmp 68) (Ci 3)),Oo 70 (.pick (.tmp 65) (.tmp 69) (.const (.bool false)))] (Cd 70 (Sr [Mc 4 7] .ret) .skip)) (Sr [Mc 4 0] .ret)))))))))
theorem k62:ZaO Try.prog 62=some ⟨c62,[(.tmp 4)],71⟩:=by kernel_rfl
def c28:AC:=(Sr [Oo 1 (.box 38 3 (.tmp 0)),Mc 2 0] (.seq (Sr [Fa 11 0 1,Ld 12 11,Oo 13 (.len false (.tmp 12)),Bc 14 .gtr 13 40,Mv 15 14,Of 16 15 (.fa 1 (.tmp 1)),Of 17 15 (.load false 1 (.tmp 16)),Of 18 15 (.len false (.tmp 17)),Of 19 15 (.bin .gtr (.tmp 18) (Ci 20)),Oo 20 (.pick (.tmp 15) (.const (.bool true)) (.tmp 19)),Mv 21 20,Of 22 21 (.fa 2 (.tmp 1)),Of 23 21 (.load false 1 (.tmp 22)),Of 24 21 (.len false (.tmp 23)),Of 25 21 (.bin .gtr (.tmp 24) (Ci 20)),Oo 26 (.pick (.tmp 21) (.const (.bool true)) (.tmp 25))] (Cd 26 (Sr [Mc 2 2] .ret) .skip)) (.seq (Sr [Mc 3 0] (.block 0 (.loop (.seq (Sr [Mv 27 3,Fa 28 1 1,Ld 29 28,Oo 30 (.len false (.tmp 29)),Bn 31 .lss 27 30] (Cd 31 .skip (.exit 0))) (.seq (.block 1 (Sr [Fa 34 1 1,Ld 35 34,Mv 36 3,Oo 37 (.ia 2 (.tmp 35) (.tmp 36)),Fa 38 1 37,Ld 39 38,Oo 40 (.len false (.tmp 39)),Bc 41 .gtr 40 8] (Cd 41 (Sr [Mc 2 2] .ret) .skip))) (.reg [Mv 32 3,Bc 33 .add 32 1,Mv 3 33])))))) (.seq (Sr [Mc 4 0] (.block 2 (.loop (.seq (Sr [Mv 42 4,Fa 43 0 1,Ld 44 43,Oo 45 (.len false (.tmp 44)),Bn 46 .lss 42 45] (Cd 46 .skip (.exit 2))) (.seq (.block 3 (Sr [Fa 49 0 1,Ld 50 49,Mv 51 4,Oo 52 (.ia 11 (.tmp 50) (.tmp 51)),Oo 53 (.load true 11 (.tmp 52)),Cl 54 61 [(.tmp 53)],Mv 5 54] (Sr [Mv 55 5,Bc 56 .neq 55 0] (Cd 56 (Sr [Mv 57 5,Mv 2 57] .ret) .skip)))) (.reg [Mv 47 4,Bc 48 .add 47 1,Mv 4 48])))))) (.seq (Sr [Mc 6 0] (.block 4 (.loop (.seq (Sr [Mv 58 6,Fa 59 1 1,Ld 60 59,Oo 61 (.len false (.tmp 60)),Bn 62 .lss 58 61] (Cd 62 .skip (.exit 4))) (.seq (.block 5 (Sr [Fa 65 1 1,Ld 66 65,Mv 67 6,Oo 68 (.ia 2 (.tmp 66) (.tmp 67)),Fa 69 1 68,Ld 70 69,Mv 7 70] (.seq (Sr [Fa 71 1 1,Ld 72 71,Mv 73 6,Oo 74 (.ia 2 (.tmp 72) (.tmp 73)),Fa 75 0 74,Ld 76 75,Cl 77 54 [(.tmp 76)],Oo 78 (.un .not (.tmp 77)),Mv 79 78,Of 80 79 (mt 7),Of 81 79 (.len false (.tmp 80)),Of 82 79 (.bin .eql (.tmp 81) (Ci 0)),Oo 83 (.pick (.tmp 79) (.const (.bool true)) (.tmp 82))] (Cd 83 (Sr [Mc 2 1] .ret) .skip)) (Sr [Mc 8 0] (.block 6 (.loop (.seq (Sr [Mv 84 8,Mv 85 7,Oo 86 (.len false (.tmp 85)),Bn 87 .lss 84 86] (Cd 87 .skip (.exit 6))) (.seq (.block 7 (Sr [Mv 90 7,Mv 91 8,Oo 92 (.ia 10 (.tmp 90) (.tmp 91)),Oo 93 (.load true 10 (.tmp 92)),Mv 94 8,Mv 95 7,Oo 96 (.len false (.tmp 95)),Bc 97 .sub 96 1,Bn 98 .eql 94 97,Cl 99 62 [(.tmp 93),(.tmp 98)],Mv 9 99] (Sr [Mv 100 9,Bc 101 .neq 100 0] (Cd 101 (Sr [Mv 102 9,Mv 2 102] .ret) .skip)))) (.reg [Mv 88 8,Bc 89 .add 88 1,Mv 8 89]))))))))) (.reg [Mv 63 6,Bc 64 .add 63 1,Mv 6 64])))))) (.seq (Sr [Mc 10 0] (.block 8 (.loop (.seq (Sr [Mv 103 10,Fa 104 2 1,Ld 105 104,Oo 106 (.len false (.tmp 105)),Bn 107 .lss 103 106] (Cd 107 .skip (.exit 8))) (.seq (.block 9 (Sr [Fa 110 2 1,Ld 111 110,Mv 112 10,Oo 113 (.ia 2 (.tmp 111) (.tmp 112)),Fa 114 0 113,Ld 115 114,Cl 116 54 [(.tmp 115)],Oo 117 (.un .not (.tmp 116)),Mv 118 117,Of 119 118 (.fa 2 (.tmp 1)),Of 120 118 (.load false 1 (.tmp 119)),Of 121 118 (mt 10),Of 122 118 (.ia 2 (.tmp 120) (.tmp 121)),Of 123 118 (.fa 1 (.tmp 122)),Of 124 118 (.load false 1 (.tmp 123)),Of 125 118 (.call (.func 54) [(.tmp 124)]),Of 126 118 (.un .not (.tmp 125)),Oo 127 (.pick (.tmp 118) (.const (.bool true)) (.tmp 126))] (Cd 127 (Sr [Mc 2 1] .ret) .skip))) (.reg [Mv 108 10,Bc 109 .add 108 1,Mv 10 109])))))) (Sr [Mc 2 0] .ret)))))))
theorem k28:ZaO Try.prog 28=some ⟨c28,[(.tmp 2)],128⟩:=by kernel_rfl
theorem ZiM {nm lt:ByteArray}{f t m k w n a c s:Int}{h:AH}(hnm:nm.size≤maxLen) (hlt':lt.size≤maxLen):Ac 61 [.agg [sv nm,iv f,iv t,iv m,iv k,iv w,iv n,iv a,iv c,iv s,sv lt]] h (iv (Za8 (nm,f,t,m,(k,w,n),a,c,s,lt))):=by
 refine tI' k61 fun N hn hlt hlA hbd=>?_
 simp only[tb'] at hbd ⊢
 refine wr'<|E' (ZdO cv rfl (hl0 hn) ha0) pt<|mw<|sn'<|Zan<|wr'<|Vw (Zac lk)<|Vw (Zae lk gx gt0)<|Zak mp (Zcz hnm) pt<|Vw (Zav lk)<|mw<|?_
 refine ZaI (t:=9) gt pt pt (fun hg9=>?_) (fun hg9=>?_)
 ·refine s_no gt pt<|s_no gt pt<|s_no gt pt<|s_no gt pt<|Vw (Zag lk lkb)<|sn'<|ZaH lk<|wr'<|mw<|sn'<|Zaa<|?_
  refine Zal<|Zai rz<|rT'<|?_
  rw[show Za8 (nm,f,t,m,(k,w,n),a,c,s,lt)=1 by unfold Za8;simp_all]
 refine s_do gt<|Vw (Zac lk)<|s_do gt<|Vw (Zae lk gx gt10)<|s_do gt<|Zak mp (Zfy hlt') pt<|s_do gt<|Vw (Zav lk)<|Vw (Zab lk lk)<|sn'<|?_
 refine Zaz lk (fun hc1=>?_) (fun hc1=>?_)
 ·refine wr'<|mw<|sn'<|Zaa<|Zal<|Zai rz<|rT'<|?_
  rw[show Za8 (nm,f,t,m,(k,w,n),a,c,s,lt)=1 by unfold Za8;simp_all]
 have h1:Zcc nm=true∧ZbR lt=true:=by simp_all
 have hR:Za8 (nm,f,t,m,(k,w,n),a,c,s,lt)=if f<1900∨f>t∨t>2100∨¬wi m 1 12=true then 3 else if (onV 2001 m k w n).2≠0 then (onV 2001 m k w n).2 else if ¬wi a 0 172800=true then 3 else if ¬clkB c true=true then 7 else if ¬wi s 0 10800=true then 3 else 0:=if_neg (by simp[h1])
 have hC:clkB c true=wi c 1 3:=by unfold clkB;simp
 rw[hC] at hR
 refine Zaf<|Zah<|Zan<|wr'<|Vw (Zac lk)<|Vw (Zae lk gx gt1)<|Vw (Zac lk)<|Vw (Zae lk gx gt2)<|Zak mp (ZaP) pt<|Vw (Zav lk)<|mw<|?_
 refine ZaI (t:=21) gt pt pt (fun hg21=>?_) (fun hg21=>?_)
 ·have hw:¬wi f 1900 t=true:=by simpa using hg21
  have hw':¬(1900≤f∧f≤t):=by unfold wi at hw;simpa using hw
  rw[if_pos om] at hR
  refine s_no gt pt<|s_no gt pt<|s_no gt pt<|Vw (Zag lk lkb)<|mw<|s_no gt pt<|s_no gt pt<|s_no gt pt<|s_no gt pt<|Vw (Zag lk lkb)<|sn'<|ZaH lk<|Zan<|?_
  refine Zar<|mw<|sn'<|Zaa<|Zal<|Zai rz<|rT'<|?_
  rw[hR]
 have hw:wi f 1900 t=true:=by simpa using hg21
 have hw':1900≤f∧f≤t:=by unfold wi at hw;simpa using hw
 refine s_do gt<|Vw (Zac lk)<|s_do gt<|Vw (Zae lk gx gt2)<|s_do gt<|Vw (ZbI lk lki)<|Vw (Zab lk lk)<|mw<|?_
 refine sp' (t:=26) gt pt pt (fun hg26=>?_) (fun hg26=>?_)
 ·rw[if_pos (.inr (.inr (.inl om)))] at hR
  refine s_no gt pt<|s_no gt pt<|s_no gt pt<|s_no gt pt<|Vw (Zag lk lkb)<|sn'<|ZaH lk<|wr'<|mw<|sn'<|Zaa<|?_
  refine Zal<|Zai rz<|rT'<|?_
  rw[hR]
 refine s_do gt<|Vw (Zac lk)<|s_do gt<|Vw (Zae lk gx gt3)<|s_do gt<|Zak mp (ZaP) pt<|s_do gt<|Vw (Zav lk)<|Vw (Zab lk lk)<|sn'<|?_
 refine Zaz lk (fun hc2=>?_) (fun hc2=>?_)
 ·rw[if_pos (.inr (.inr (.inr (by simpa using hc2))))] at hR
  refine wr'<|mw<|sn'<|Zaa<|Zal<|Zai rz<|rT'<|?_
  rw[hR]
 have hw2:wi m 1 12=true:=by simpa using hc2
 have h2:¬(f<1900∨f>t∨t>2100∨¬wi m 1 12=true):=by rw[hw2];simp;omega
 rw[if_neg h2] at hR
 refine Zaf<|Zah<|wr'<|Vw (Zac lk)<|Vw (Zae lk gx gt3)<|Vw (Zac lk)<|Vw (ZaE lk gx ZlD rfl)<|Zak mp (ron_a) pt<|mw<|Vw (ZbJ lk gt)<|Vw (ZbJ lk gt)<|E' (ZbZ (hl1 hn) ha1) pt<|E' (Zam lk cv gx rfl (nb' rfl) rfl ZlE (hs1 hn)) ptn<|?_
 refine mw<|sn'<|Zan<|wr'<|mw<|Vw (Za1 lk lki)<|sn'<|?_
 refine cd' lk (fun hc3=>?_) (fun hc3=>?_)
 ·rw[if_pos hc3] at hR
  refine wr'<|mw<|mw<|sn'<|Zaa<|Zal<|Zai rz<|rT'<|?_
  rw[hR]
 rw[if_neg hc3] at hR
 refine Zaf<|Zah<|Zan<|wr'<|Vw (Zac lk)<|Vw (Zae lk gx gt7)<|Zak mp (ZaP) pt<|Vw (Zav lk)<|sn'<|?_
 refine Zaz lk (fun hc4=>?_) (fun hc4=>?_)
 ·rw[if_pos (by simpa using hc4)] at hR
  refine wr'<|mw<|sn'<|Zaa<|Zal<|Zai rz<|rT'<|?_
  rw[hR]
 rw[if_neg (by simpa using hc4)] at hR
 refine Zaf<|Zah<|Zan<|wr'<|Vw (Zac lk)<|Vw (Zae lk gx gt8)<|Zak mp (ZaP) pt<|Vw (Zav lk)<|sn'<|?_
 refine Zaz lk (fun hc5=>?_) (fun hc5=>?_)
 ·rw[if_pos (by simpa using hc5)] at hR
  refine wr'<|mw<|sn'<|Zaa<|Zal<|Zai rz<|rT'<|?_
  rw[hR]
 rw[if_neg (by simpa using hc5)] at hR
 refine Zaf<|Zah<|Zan<|wr'<|Vw (Zac lk)<|Vw (Zae lk gx gt9)<|Zak mp (ZaP) pt<|Vw (Zav lk)<|sn'<|?_
 refine Zaz lk (fun hc6=>?_) (fun hc6=>?_)
 ·rw[if_pos (by simpa using hc6)] at hR
  refine wr'<|mw<|sn'<|Zaa<|Zal<|Zai rz<|rT'<|?_
  rw[hR]
 rw[if_neg (by simpa using hc6)] at hR
 refine Zaf<|Zah<|wr'<|mw<|sn'<|Zaa<|Zai rz<|rT'<|?_
 rw[hR]
theorem ZfH (c:Int):clkB c false=decide (c=2∨c=3):=by unfold clkB wi;rw[Bool.eq_iff_iff];simp;omega
theorem ZjI {rl fm:ByteArray}{sh sa y m d a c:Int}{op last:Bool}{h:AH}(hrl:rl.size≤maxLen) (hfm:fm.size≤maxLen):Ac 62 [.agg [iv sh,sv rl,iv sa,sv fm,bv op,iv y,iv m,iv d,iv a,iv c],bv last] h (iv (eraE sh rl sa fm op y m d a c last)):=by
 refine tI' k62 fun N hn hlt hlA hbd=>?_
 simp only[tb'] at hbd ⊢
 refine wr'<|E' (ZdO cv rfl (hl0 hn) ha0) pt<|mw<|sn'<|Zan<|wr'<|Vw (Zac lk)<|Vw (Zae lk gx gt1)<|Vw (ZcV lk lks)<|mw<|?_
 refine sp' (t:=8) gt pt pt (fun hg8=>?_) (fun hg8=>?_)
 ·refine s_do gt<|Vw (Zac lk)<|s_do gt<|Vw (Zae lk gx gt1)<|s_do gt<|Zak mp (Zcz hrl) pt<|s_do gt<|Vw (Zav lk)<|Vw (Zag lk lk)<|mw<|?_
  refine ZaI (t:=14) gt pt pt (fun hg14=>?_) (fun hg14=>?_)
  ·refine s_no gt pt<|s_no gt pt<|s_no gt pt<|s_no gt pt<|Vw (Zag lk lkb)<|sn'<|ZaH lk<|wr'<|mw<|sn'<|Zaa<|?_
   refine Zal<|Zai rz<|rT'<|?_
   refine ivx ?_;unfold eraE;simp_all
  refine s_do gt<|Vw (Zac lk)<|s_do gt<|Vw (Zae lk gx gt3)<|s_do gt<|Zak mp (Zen hfm) pt<|s_do gt<|Vw (Zav lk)<|Vw (Zab lk lk)<|sn'<|?_
  refine Zaz lk (fun hc1=>?_) (fun hc1=>?_)
  ·refine wr'<|mw<|sn'<|Zaa<|Zal<|Zai rz<|rT'<|?_
   refine ivx ?_;unfold eraE;simp_all
  refine Zaf<|Zah<|Zan<|wr'<|Vw (Zac lk)<|Vw (Zae lk gx gt0)<|Zak mp (ZaP) pt<|Vw (Zav lk)<|mw<|?_
  refine ZaI (t:=24) gt pt pt (fun hg24=>?_) (fun hg24=>?_)
  ·refine s_no gt pt<|s_no gt pt<|s_no gt pt<|s_no gt pt<|Vw (Zag lk lkb)<|sn'<|ZaH lk<|wr'<|mw<|sn'<|Zaa<|?_
   refine Zal<|Zai rz<|rT'<|?_
   refine ivx ?_;unfold eraE;simp_all
  refine s_do gt<|Vw (Zac lk)<|s_do gt<|Vw (Zae lk gx gt2)<|s_do gt<|Zak mp (ZaP) pt<|s_do gt<|Vw (Zav lk)<|Vw (Zab lk lk)<|sn'<|?_
  refine Zaz lk (fun hc2=>?_) (fun hc2=>?_)
  ·refine wr'<|mw<|sn'<|Zaa<|Zal<|Zai rz<|rT'<|?_
   refine ivx ?_;unfold eraE;simp_all
  refine Zaf<|Zah<|Zan<|wr'<|Vw (Zac lk)<|Vw (Zae lk gx gt1)<|Vw (ZcV lk lks)<|mw<|?_
  refine sp' (t:=33) gt pt pt (fun hg33=>?_) (fun hg33=>?_)
  ·refine s_do gt<|Vw (Zac lk)<|s_do gt<|Vw (Zae lk gx gt2)<|s_do gt<|Vw (Za1 lk lki)<|Vw (Zag lk lk)<|sn'<|?_
   refine cd' lk (fun hc3=>?_) (fun hc3=>?_)
   ·refine wr'<|mw<|sn'<|Zaa<|Zal<|Zai rz<|rT'<|?_
    refine ivx ?_;unfold eraE;simp_all
   refine Zaf<|Zah<|Zan<|wr'<|Vw (Zac lk)<|Vw (Zae lk gx gt4)<|mw<|Vw (Zef lk lk)<|sn'<|?_
   refine cd' lk (fun hc4=>?_) (fun hc4=>?_)
   ·refine wr'<|mw<|sn'<|Zaa<|Zal<|Zai rz<|rT'<|?_
    refine ivx ?_;unfold eraE;simp_all
   refine Zaf<|Zah<|Zan<|wr'<|Vw (Zac lk)<|Vw (Zae lk gx gt4)<|sn'<|?_
   refine Zaz lk (fun hc5=>?_) (fun hc5=>?_)
   ·refine Zan<|wr'<|Vw (Zac lk)<|Vw (ZaE lk gx Zec rfl)<|Vw (Zax Zb2)<|Zak mp (Zc0 (u:=((y,m,d),a,c)) (v:=((0,0,0),0,0))) pt<|Vw (Zav lk)<|sn'<|?_
    refine Zaz lk (fun hc6=>?_) (fun hc6=>?_)
    ·refine wr'<|mw<|sn'<|Zaa<|Zal<|Zal<|Zai rz<|rT'<|?_
     refine ivx ?_;unfold eraE;simp_all <;> (try intros) <;> omega
    refine Zaf<|Zah<|wr'<|mw<|sn'<|Zaa<|Zal<|Zai rz<|rT'<|?_
    refine ivx ?_;unfold eraE;simp_all
   refine Zaf<|Zah<|Zan<|wr'<|Vw (Zac lk)<|Vw (Zch lk)<|Vw (ZaE lk gx Zed rfl)<|Zak mp (Zd2) pt<|Vw (Zav lk)<|mw<|?_
   refine ZaI (t:=54) gt pt pt (fun hg54=>?_) (fun hg54=>?_)
   ·refine s_no gt pt<|s_no gt pt<|s_no gt pt<|s_no gt pt<|s_no gt pt<|Vw (Zag lk lkb)<|sn'<|ZaH lk<|wr'<|mw<|sn'<|?_
    refine Zaa<|Zal<|Zai rz<|rT'<|?_
    refine ivx ?_;unfold eraE;simp_all
   refine s_do gt<|Vw (Zac lk)<|s_do gt<|Vw (Zch lk)<|s_do gt<|Vw (Zae lk gx gt8)<|s_do gt<|Zak mp (ZaP) pt<|s_do gt<|Vw (Zav lk)<|Vw (Zab lk lk)<|sn'<|?_
   refine Zaz lk (fun hc7=>?_) (fun hc7=>?_)
   ·refine wr'<|mw<|sn'<|Zaa<|Zal<|Zai rz<|rT'<|?_
    refine ivx ?_;unfold eraE;simp_all
   refine Zaf<|Zah<|Zan<|wr'<|Vw (Zac lk)<|Vw (Zch lk)<|Vw (Zae lk gx gt9)<|Vw (Za1 lk lki)<|mw<|?_
   refine sp' (t:=65) gt pt pt (fun hg65=>?_) (fun hg65=>?_)
   ·refine s_do gt<|Vw (Zac lk)<|s_do gt<|Vw (Zch lk)<|s_do gt<|Vw (Zae lk gx gt9)<|s_do gt<|Vw (Za1 lk lki)<|Vw (Zag lk lk)<|sn'<|?_
    refine cd' lk (fun hc8=>?_) (fun hc8=>?_)
    ·refine wr'<|mw<|sn'<|Zaa<|Zal<|Zai rz<|rT'<|?_
     refine ivx ?_;unfold eraE;rw[ZfH];simp_all
    refine Zaf<|Zah<|wr'<|mw<|sn'<|Zaa<|Zai rz<|rT'<|?_
    refine ivx ?_;unfold eraE;rw[ZfH];simp_all
   refine s_no gt pt<|s_no gt pt<|s_no gt pt<|s_no gt pt<|Vw (Zab lk lkb)<|sn'<|ZaG lk<|Zaf<|Zah<|wr'<|mw<|Zaq<|?_
   refine Zah<|Zaa<|Zai rz<|rT'<|?_
   refine ivx ?_;unfold eraE;rw[ZfH];simp_all
  refine s_no gt pt<|s_no gt pt<|s_no gt pt<|Vw (Zab lk lkb)<|sn'<|ZaG lk<|Zaf<|Zah<|Zan<|wr'<|Vw (Zac lk)<|Vw (Zae lk gx gt4)<|?_
  refine mw<|Vw (Zef lk lk)<|sn'<|?_
  refine cd' lk (fun hc4=>?_) (fun hc4=>?_)
  ·refine wr'<|mw<|sn'<|Zaa<|Zal<|Zai rz<|rT'<|?_
   refine ivx ?_;unfold eraE;simp_all
  refine Zaf<|Zah<|Zan<|wr'<|Vw (Zac lk)<|Vw (Zae lk gx gt4)<|sn'<|?_
  refine Zaz lk (fun hc5=>?_) (fun hc5=>?_)
  ·refine Zan<|wr'<|Vw (Zac lk)<|Vw (ZaE lk gx Zec rfl)<|Vw (Zax Zb2)<|Zak mp (Zc0 (u:=((y,m,d),a,c)) (v:=((0,0,0),0,0))) pt<|Vw (Zav lk)<|sn'<|?_
   refine Zaz lk (fun hc6=>?_) (fun hc6=>?_)
   ·refine wr'<|mw<|sn'<|Zaa<|Zal<|Zal<|Zai rz<|rT'<|?_
    refine ivx ?_;unfold eraE;simp_all <;> (try intros) <;> omega
   refine Zaf<|Zah<|wr'<|mw<|sn'<|Zaa<|Zal<|Zai rz<|rT'<|?_
   refine ivx ?_;unfold eraE;simp_all
  refine Zaf<|Zah<|Zan<|wr'<|Vw (Zac lk)<|Vw (Zch lk)<|Vw (ZaE lk gx Zed rfl)<|Zak mp (Zd2) pt<|Vw (Zav lk)<|mw<|?_
  refine ZaI (t:=54) gt pt pt (fun hg54=>?_) (fun hg54=>?_)
  ·refine s_no gt pt<|s_no gt pt<|s_no gt pt<|s_no gt pt<|s_no gt pt<|Vw (Zag lk lkb)<|sn'<|ZaH lk<|wr'<|mw<|sn'<|?_
   refine Zaa<|Zal<|Zai rz<|rT'<|?_
   refine ivx ?_;unfold eraE;simp_all
  refine s_do gt<|Vw (Zac lk)<|s_do gt<|Vw (Zch lk)<|s_do gt<|Vw (Zae lk gx gt8)<|s_do gt<|Zak mp (ZaP) pt<|s_do gt<|Vw (Zav lk)<|Vw (Zab lk lk)<|sn'<|?_
  refine Zaz lk (fun hc7=>?_) (fun hc7=>?_)
  ·refine wr'<|mw<|sn'<|Zaa<|Zal<|Zai rz<|rT'<|?_
   refine ivx ?_;unfold eraE;simp_all
  refine Zaf<|Zah<|Zan<|wr'<|Vw (Zac lk)<|Vw (Zch lk)<|Vw (Zae lk gx gt9)<|Vw (Za1 lk lki)<|mw<|?_
  refine sp' (t:=65) gt pt pt (fun hg65=>?_) (fun hg65=>?_)
  ·refine s_do gt<|Vw (Zac lk)<|s_do gt<|Vw (Zch lk)<|s_do gt<|Vw (Zae lk gx gt9)<|s_do gt<|Vw (Za1 lk lki)<|Vw (Zag lk lk)<|sn'<|?_
   refine cd' lk (fun hc8=>?_) (fun hc8=>?_)
   ·refine wr'<|mw<|sn'<|Zaa<|Zal<|Zai rz<|rT'<|?_
    refine ivx ?_;unfold eraE;rw[ZfH];simp_all
   refine Zaf<|Zah<|wr'<|mw<|sn'<|Zaa<|Zai rz<|rT'<|?_
   refine ivx ?_;unfold eraE;rw[ZfH];simp_all
  refine s_no gt pt<|s_no gt pt<|s_no gt pt<|s_no gt pt<|Vw (Zab lk lkb)<|sn'<|ZaG lk<|Zaf<|Zah<|wr'<|mw<|Zaq<|?_
  refine Zah<|Zaa<|Zai rz<|rT'<|?_
  refine ivx ?_;unfold eraE;rw[ZfH];simp_all
 refine s_no gt pt<|s_no gt pt<|s_no gt pt<|s_no gt pt<|Vw (Zab lk lkb)<|mw<|s_do gt<|Vw (Zac lk)<|s_do gt<|Vw (Zae lk gx gt3)<|s_do gt<|Zak mp (Zen hfm) pt<|s_do gt<|Vw (Zav lk)<|?_
 refine Vw (Zab lk lk)<|sn'<|?_
 refine Zaz lk (fun hc1=>?_) (fun hc1=>?_)
 ·refine wr'<|mw<|sn'<|Zaa<|Zal<|Zai rz<|rT'<|?_
  refine ivx ?_;unfold eraE;simp_all
 refine Zaf<|Zah<|Zan<|wr'<|Vw (Zac lk)<|Vw (Zae lk gx gt0)<|Zak mp (ZaP) pt<|Vw (Zav lk)<|mw<|?_
 refine ZaI (t:=24) gt pt pt (fun hg24=>?_) (fun hg24=>?_)
 ·refine s_no gt pt<|s_no gt pt<|s_no gt pt<|s_no gt pt<|Vw (Zag lk lkb)<|sn'<|ZaH lk<|wr'<|mw<|sn'<|Zaa<|?_
  refine Zal<|Zai rz<|rT'<|?_
  refine ivx ?_;unfold eraE;simp_all
 refine s_do gt<|Vw (Zac lk)<|s_do gt<|Vw (Zae lk gx gt2)<|s_do gt<|Zak mp (ZaP) pt<|s_do gt<|Vw (Zav lk)<|Vw (Zab lk lk)<|sn'<|?_
 refine Zaz lk (fun hc2=>?_) (fun hc2=>?_)
 ·refine wr'<|mw<|sn'<|Zaa<|Zal<|Zai rz<|rT'<|?_
  refine ivx ?_;unfold eraE;simp_all
 refine Zaf<|Zah<|Zan<|wr'<|Vw (Zac lk)<|Vw (Zae lk gx gt1)<|Vw (ZcV lk lks)<|mw<|?_
 refine sp' (t:=33) gt pt pt (fun hg33=>?_) (fun hg33=>?_)
 ·refine s_do gt<|Vw (Zac lk)<|s_do gt<|Vw (Zae lk gx gt2)<|s_do gt<|Vw (Za1 lk lki)<|Vw (Zag lk lk)<|sn'<|?_
  refine cd' lk (fun hc3=>?_) (fun hc3=>?_)
  ·refine wr'<|mw<|sn'<|Zaa<|Zal<|Zai rz<|rT'<|?_
   refine ivx ?_;unfold eraE;simp_all
  refine Zaf<|Zah<|Zan<|wr'<|Vw (Zac lk)<|Vw (Zae lk gx gt4)<|mw<|Vw (Zef lk lk)<|sn'<|?_
  refine cd' lk (fun hc4=>?_) (fun hc4=>?_)
  ·refine wr'<|mw<|sn'<|Zaa<|Zal<|Zai rz<|rT'<|?_
   refine ivx ?_;unfold eraE;simp_all
  refine Zaf<|Zah<|Zan<|wr'<|Vw (Zac lk)<|Vw (Zae lk gx gt4)<|sn'<|?_
  refine Zaz lk (fun hc5=>?_) (fun hc5=>?_)
  ·refine Zan<|wr'<|Vw (Zac lk)<|Vw (ZaE lk gx Zec rfl)<|Vw (Zax Zb2)<|Zak mp (Zc0 (u:=((y,m,d),a,c)) (v:=((0,0,0),0,0))) pt<|Vw (Zav lk)<|sn'<|?_
   refine Zaz lk (fun hc6=>?_) (fun hc6=>?_)
   ·refine wr'<|mw<|sn'<|Zaa<|Zal<|Zal<|Zai rz<|rT'<|?_
    refine ivx ?_;unfold eraE;simp_all <;> (try intros) <;> omega
   refine Zaf<|Zah<|wr'<|mw<|sn'<|Zaa<|Zal<|Zai rz<|rT'<|?_
   refine ivx ?_;unfold eraE;simp_all
  refine Zaf<|Zah<|Zan<|wr'<|Vw (Zac lk)<|Vw (Zch lk)<|Vw (ZaE lk gx Zed rfl)<|Zak mp (Zd2) pt<|Vw (Zav lk)<|mw<|?_
  refine ZaI (t:=54) gt pt pt (fun hg54=>?_) (fun hg54=>?_)
  ·refine s_no gt pt<|s_no gt pt<|s_no gt pt<|s_no gt pt<|s_no gt pt<|Vw (Zag lk lkb)<|sn'<|ZaH lk<|wr'<|mw<|sn'<|?_
   refine Zaa<|Zal<|Zai rz<|rT'<|?_
   refine ivx ?_;unfold eraE;simp_all
  refine s_do gt<|Vw (Zac lk)<|s_do gt<|Vw (Zch lk)<|s_do gt<|Vw (Zae lk gx gt8)<|s_do gt<|Zak mp (ZaP) pt<|s_do gt<|Vw (Zav lk)<|Vw (Zab lk lk)<|sn'<|?_
  refine Zaz lk (fun hc7=>?_) (fun hc7=>?_)
  ·refine wr'<|mw<|sn'<|Zaa<|Zal<|Zai rz<|rT'<|?_
   refine ivx ?_;unfold eraE;simp_all
  refine Zaf<|Zah<|Zan<|wr'<|Vw (Zac lk)<|Vw (Zch lk)<|Vw (Zae lk gx gt9)<|Vw (Za1 lk lki)<|mw<|?_
  refine sp' (t:=65) gt pt pt (fun hg65=>?_) (fun hg65=>?_)
  ·refine s_do gt<|Vw (Zac lk)<|s_do gt<|Vw (Zch lk)<|s_do gt<|Vw (Zae lk gx gt9)<|s_do gt<|Vw (Za1 lk lki)<|Vw (Zag lk lk)<|sn'<|?_
   refine cd' lk (fun hc8=>?_) (fun hc8=>?_)
   ·refine wr'<|mw<|sn'<|Zaa<|Zal<|Zai rz<|rT'<|?_
    refine ivx ?_;unfold eraE;rw[ZfH];simp_all
   refine Zaf<|Zah<|wr'<|mw<|sn'<|Zaa<|Zai rz<|rT'<|?_
   refine ivx ?_;unfold eraE;rw[ZfH];simp_all
  refine s_no gt pt<|s_no gt pt<|s_no gt pt<|s_no gt pt<|Vw (Zab lk lkb)<|sn'<|ZaG lk<|Zaf<|Zah<|wr'<|mw<|Zaq<|?_
  refine Zah<|Zaa<|Zai rz<|rT'<|?_
  refine ivx ?_;unfold eraE;rw[ZfH];simp_all
 refine s_no gt pt<|s_no gt pt<|s_no gt pt<|Vw (Zab lk lkb)<|sn'<|ZaG lk<|Zaf<|Zah<|Zan<|wr'<|Vw (Zac lk)<|Vw (Zae lk gx gt4)<|?_
 refine mw<|Vw (Zef lk lk)<|sn'<|?_
 refine cd' lk (fun hc4=>?_) (fun hc4=>?_)
 ·refine wr'<|mw<|sn'<|Zaa<|Zal<|Zai rz<|rT'<|?_
  refine ivx ?_;unfold eraE;simp_all
 refine Zaf<|Zah<|Zan<|wr'<|Vw (Zac lk)<|Vw (Zae lk gx gt4)<|sn'<|?_
 refine Zaz lk (fun hc5=>?_) (fun hc5=>?_)
 ·refine Zan<|wr'<|Vw (Zac lk)<|Vw (ZaE lk gx Zec rfl)<|Vw (Zax Zb2)<|Zak mp (Zc0 (u:=((y,m,d),a,c)) (v:=((0,0,0),0,0))) pt<|Vw (Zav lk)<|sn'<|?_
  refine Zaz lk (fun hc6=>?_) (fun hc6=>?_)
  ·refine wr'<|mw<|sn'<|Zaa<|Zal<|Zal<|Zai rz<|rT'<|?_
   refine ivx ?_;unfold eraE;simp_all <;> (try intros) <;> omega
  refine Zaf<|Zah<|wr'<|mw<|sn'<|Zaa<|Zal<|Zai rz<|rT'<|?_
  refine ivx ?_;unfold eraE;simp_all
 refine Zaf<|Zah<|Zan<|wr'<|Vw (Zac lk)<|Vw (Zch lk)<|Vw (ZaE lk gx Zed rfl)<|Zak mp (Zd2) pt<|Vw (Zav lk)<|mw<|?_
 refine ZaI (t:=54) gt pt pt (fun hg54=>?_) (fun hg54=>?_)
 ·refine s_no gt pt<|s_no gt pt<|s_no gt pt<|s_no gt pt<|s_no gt pt<|Vw (Zag lk lkb)<|sn'<|ZaH lk<|wr'<|mw<|sn'<|?_
  refine Zaa<|Zal<|Zai rz<|rT'<|?_
  refine ivx ?_;unfold eraE;simp_all
 refine s_do gt<|Vw (Zac lk)<|s_do gt<|Vw (Zch lk)<|s_do gt<|Vw (Zae lk gx gt8)<|s_do gt<|Zak mp (ZaP) pt<|s_do gt<|Vw (Zav lk)<|Vw (Zab lk lk)<|sn'<|?_
 refine Zaz lk (fun hc7=>?_) (fun hc7=>?_)
 ·refine wr'<|mw<|sn'<|Zaa<|Zal<|Zai rz<|rT'<|?_
  refine ivx ?_;unfold eraE;simp_all
 refine Zaf<|Zah<|Zan<|wr'<|Vw (Zac lk)<|Vw (Zch lk)<|Vw (Zae lk gx gt9)<|Vw (Za1 lk lki)<|mw<|?_
 refine sp' (t:=65) gt pt pt (fun hg65=>?_) (fun hg65=>?_)
 ·refine s_do gt<|Vw (Zac lk)<|s_do gt<|Vw (Zch lk)<|s_do gt<|Vw (Zae lk gx gt9)<|s_do gt<|Vw (Za1 lk lki)<|Vw (Zag lk lk)<|sn'<|?_
  refine cd' lk (fun hc8=>?_) (fun hc8=>?_)
  ·refine wr'<|mw<|sn'<|Zaa<|Zal<|Zai rz<|rT'<|?_
   refine ivx ?_;unfold eraE;rw[ZfH];simp_all
  refine Zaf<|Zah<|wr'<|mw<|sn'<|Zaa<|Zai rz<|rT'<|?_
  refine ivx ?_;unfold eraE;rw[ZfH];simp_all
 refine s_no gt pt<|s_no gt pt<|s_no gt pt<|s_no gt pt<|Vw (Zab lk lkb)<|sn'<|ZaG lk<|Zaf<|Zah<|wr'<|mw<|Zaq<|?_
 refine Zah<|Zaa<|Zai rz<|rT'<|?_
 refine ivx ?_;unfold eraE;rw[ZfH];simp_all
theorem ZiN {r:Rul}{h:AH}(h1:r.1.size≤maxLen) (h2:r.2.2.2.2.2.2.2.2.size≤maxLen):Ac 61 [.agg (rulC r)] h (iv (Za8 r)):=ZiM h1 h2
theorem ZjJ {x:Era}{last:Bool}{h:AH}(ho:okEra x):ACalls Try.prog 62 [.agg (eraC x),bv last] h fun y h'=>h'=h∧y=.ret (iv (eraX x last)):=ZjI ho.1 ho.2
theorem Zmr {a:List Rul}{z:List Zon}{l:List Lnk}{h:AH}(hok:ZhX (a,z,l)):Ac 28 [.agg [.sl a.length 11 false (rows rulC a),.sl z.length 2 false (rows zonC z),.sl l.length 2 false (rows lnkC l)]] h (iv (ZdV (a,z,l))):=by
 refine tI' k28 fun N hn hlt hlA hbd=>?_
 simp only[tb'] at hbd ⊢
 refine wr'<|E' (ZdO cv rfl (hl0 hn) ha0) pt<|mw<|sn'<|Zan<|wr'<|Vw (Zac lk)<|Vw (Zae lk gx gt0)<|Vw (Za6 lk)<|Vw (ZbI lk lki)<|mw<|?_
 refine sp' (t:=15) gt pt pt (fun hg15=>?_) (fun hg15=>?_)
 ·have hM:Zgj (a,z,l)=true:=by unfold Zgj;simp;omega
  refine s_no gt pt<|s_no gt pt<|s_no gt pt<|s_no gt pt<|Vw (Zag lk lkb)<|mw<|s_no gt pt<|s_no gt pt<|s_no gt pt<|s_no gt pt<|Vw (Zag lk lkb)<|sn'<|ZaH lk<|?_
  refine wr'<|mw<|sn'<|Zaa<|Zal<|Zai rz<|rT'<|?_
  refine ivx ?_;unfold ZdV;rw[if_pos hM]
 refine s_do gt<|Vw (Zac lk)<|s_do gt<|Vw (Zae lk gx gt1)<|s_do gt<|Vw (Za6 lk)<|s_do gt<|Vw (ZbI lk lki)<|Vw (Zab lk lk)<|mw<|?_
 refine sp' (t:=21) gt pt pt (fun hg21=>?_) (fun hg21=>?_)
 ·have hM:Zgj (a,z,l)=true:=by unfold Zgj;simp;omega
  refine s_no gt pt<|s_no gt pt<|s_no gt pt<|s_no gt pt<|Vw (Zag lk lkb)<|sn'<|ZaH lk<|wr'<|mw<|sn'<|Zaa<|?_
  refine Zal<|Zai rz<|rT'<|?_
  refine ivx ?_;unfold ZdV;rw[if_pos hM]
 refine s_do gt<|Vw (Zac lk)<|s_do gt<|Vw (Zae lk gx gt2)<|s_do gt<|Vw (Za6 lk)<|s_do gt<|Vw (ZbI lk lki)<|Vw (Zab lk lk)<|sn'<|?_
 refine cd' lk (fun hc1=>?_) (fun hc1=>?_)
 ·have hM:Zgj (a,z,l)=true:=by unfold Zgj;simp;omega
  refine wr'<|mw<|sn'<|Zaa<|Zal<|Zai rz<|rT'<|?_
  refine ivx ?_;unfold ZdV;rw[if_pos hM]
 refine Zaf<|Zah<|Zan<|wr'<|mw<|sn'<|Zao<|?_
 refine w_lp (ι:=Nat) (fun (k:Nat)=>[(3,iv (k:Int)),(2,.any)]++rn' 27 15) (fun (k:Nat)=>[]) (fun (k:Nat)=>k≤z.length∧(z.take k).any (fun z=>decide (8<z.2.length))=false) (fun (k:Nat)=>z.length-k) (0) (by exact⟨Nat.zero_le _,rfl⟩) ?_
 rintro k hi1
 try simp only[sm',Nat.reduceAdd]
 obtain⟨hk1,hk2⟩:=hi1
 refine Zan<|wr'<|mw<|Vw (Zac lk)<|Vw (Zae lk gx gt1)<|Vw (Za6 lk)<|Vw (ZbP lk lk)<|sn'<|?_
 refine cd' lk (fun hc2=>?_) (fun hc2=>?_)
 ·have hk:k<z.length:=by omega
  refine Zaf<|Zah<|Zan<|Zao<|wr'<|Vw (Zac lk)<|Vw (Zae lk gx gt1)<|mw<|?_
  refine V' (ZaY lk lk ZfM (nb' rfl) ro om ro rfl) pt ?_
  refine Vw (Zbf lk dp1)<|Vw (ZaA lk gt)<|?_
  refine V' ((by first | exact Za6 lk | exact ZdE lk)) pt ?_
  refine Vw (ZbI lk lki)<|sn'<|?_
  refine cd' lk (fun hc3=>?_) (fun hc3=>?_)
  ·have hM:Zgj (a,z,l)=true:=by unfold Zgj;rw[show z.any (fun z=>decide (8<z.2.length))=true from List.any_eq_true.2 ⟨z[k],List.getElem_mem hk,decide_eq_true om⟩];simp
   refine wr'<|mw<|sn'<|Zaa<|Zap<|Zal<|Zal<|Zap<|Zal<|Zai rz<|rT'<|?_
   refine ivx ?_;unfold ZdV;rw[if_pos hM]
  refine Zaf<|ZaC<|Zah<|Zar<|mw<|?_
  refine V' (Zau lk lki om om) pt ?_
  refine mw<|Zaq<|ZaB<|?_
  refine lT' (k+1) (by (try dsimp only);exact⟨by omega,by rw[List.take_succ_eq_append_getElem hk,List.any_append,hk2];simp;omega⟩)
 rw[List.take_of_length_le om] at hk2
 have hM:Zgj (a,z,l)=false:=by unfold Zgj;rw[hk2];simp;omega
 have hE:ZdV (a,z,l)=if Zbd Za8 a≠0 then Zbd Za8 a else if Zbd ZhD z≠0 then Zbd ZhD z else Zbd ZgL l:=by unfold ZdV;rw[if_neg (by rw[hM];simp)]
 refine ZaX<|ZaN<|ZaN<|Zbq<|Zah<|Zan<|wr'<|mw<|sn'<|Zao<|?_
 refine w_lp (ι:=Nat) (fun (i2:Nat)=>[(4,iv (i2:Int)),(2,.any),(5,.any)]++rn' 42 16) (fun (i2:Nat)=>[]) (fun (i2:Nat)=>i2≤a.length∧Zbd Za8 a=Zbd Za8 (a.drop i2)) (fun (i2:Nat)=>a.length-i2) (0) (by exact⟨Nat.zero_le _,rfl⟩) ?_
 rintro i2 hi2
 try simp only[sm',Nat.reduceAdd]
 obtain⟨hu1,hu2⟩:=hi2
 refine Zan<|wr'<|mw<|Vw (Zac lk)<|Vw (Zae lk gx gt0)<|Vw (Za6 lk)<|Vw (ZbP lk lk)<|sn'<|?_
 refine cd' lk (fun hc4=>?_) (fun hc4=>?_)
 ·have hk4:i2<a.length:=by omega
  rw[ZeO hk4] at hu2
  have ho4:=hok.1 _ (List.getElem_mem hk4)
  refine Zaf<|Zah<|Zan<|Zao<|wr'<|Vw (Zac lk)<|Vw (Zae lk gx gt0)<|mw<|?_
  refine V' (ZaY lk lk ZcZ (nb' rfl) ro om ro rfl) pt ?_
  refine Vw (Zd1 lk ZlB rfl)<|Zak mp (ZiN (r:=a[i2]) ho4.1 ho4.2) pt<|mw<|sn'<|wr'<|mw<|Vw (Za1 lk lki)<|sn'<|?_
  refine cd' lk (fun hc5=>?_) (fun hc5=>?_)
  ·rw[if_pos hc5] at hu2
   refine wr'<|mw<|mw<|sn'<|Zaa<|Zap<|Zal<|Zal<|Zap<|Zal<|Zai rz<|rT'<|?_
   refine ivx ?_;rw[hE,hu2,if_pos hc5]
  rw[if_neg hc5] at hu2
  refine Zaf<|ZaC<|Zah<|Zar<|mw<|?_
  refine V' (Zau lk lki om om) pt ?_
  refine mw<|Zaq<|ZaB<|?_
  refine lT' (i2+1) (by (try dsimp only);exact⟨by omega,hu2⟩)
 rw[List.drop_of_length_le om] at hu2
 rw[hu2,if_neg (by simp[Zbd])] at hE
 refine ZaX<|ZaN<|ZaN<|Zbq<|Zah<|Zan<|wr'<|mw<|sn'<|Zao<|?_
 refine w_lp (ι:=Nat) (fun (i3:Nat)=>[(6,iv (i3:Int)),(2,.any)]++rn' 7 3++rn' 58 45) (fun (i3:Nat)=>[]) (fun (i3:Nat)=>i3≤z.length∧Zbd ZhD z=Zbd ZhD (z.drop i3)) (fun (i3:Nat)=>z.length-i3) (0) (by exact⟨Nat.zero_le _,rfl⟩) ?_
 rintro i3 hi3
 try simp only[sm',Nat.reduceAdd]
 obtain⟨hv1,hv2⟩:=hi3
 refine Zan<|wr'<|mw<|Vw (Zac lk)<|Vw (Zae lk gx gt1)<|Vw (Za6 lk)<|Vw (ZbP lk lk)<|sn'<|?_
 refine cd' lk (fun hc6=>?_) (fun hc6=>?_)
 ·have hk6:i3<z.length:=by omega
  rw[ZeO hk6] at hv2
  have ho6:=hok.2.1 _ (List.getElem_mem hk6)
  have h8:(z[i3]).2.length≤8:=by have:=List.any_eq_false.1 hk2 _ (List.getElem_mem hk6);simpa using this
  refine Zaf<|Zah<|Zan<|Zao<|wr'<|Vw (Zac lk)<|Vw (Zae lk gx gt1)<|mw<|?_
  refine V' (ZaY lk lk ZfM (nb' rfl) ro om ro rfl) pt ?_
  refine Vw (Zbf lk dp1)<|Vw (ZaA lk gt)<|mw<|sn'<|Zan<|wr'<|Vw (Zac lk)<|Vw (Zae lk gx gt1)<|mw<|?_
  refine V' (ZaY lk lk ZfM (nb' rfl) ro om ro rfl) pt ?_
  refine Vw (Zbf lk dp0)<|Vw (ZaA lk gt)<|Zak mp (Zcz ho6.1) pt<|Vw (Zav lk)<|mw<|?_
  refine ZaI (t:=79) gt pt pt (fun hg79=>?_) (fun hg79=>?_)
  ·have hZ:ZhD z[i3]=1:=if_pos (.inl (by simpa using hg79))
   refine s_no gt pt<|s_no gt pt<|s_no gt pt<|Vw (Zag lk lkb)<|sn'<|ZaH lk<|wr'<|mw<|sn'<|Zaa<|Zal<|?_
   refine Zap<|Zal<|Zal<|Zap<|Zal<|Zai rz<|rT'<|?_
   refine ivx ?_;rw[hE,hv2,if_pos (by rw[hZ];simp),if_pos (by rw[hZ];simp),hZ]
  refine s_do gt<|mw<|s_do gt<|?_
  refine V' ((by first | exact Za6 lk | exact ZdE lk)) pt ?_
  refine s_do gt<|Vw (ZaS lk lki)<|Vw (Zab lk lk)<|sn'<|?_
  refine cd' lk (fun hc7=>?_) (fun hc7=>?_)
  ·have hZ:ZhD z[i3]=1:=if_pos (.inr om)
   refine wr'<|mw<|sn'<|Zaa<|Zal<|Zap<|Zal<|Zal<|Zap<|Zal<|Zai rz<|rT'<|?_
   refine ivx ?_;rw[hE,hv2,if_pos (by rw[hZ];simp),if_pos (by rw[hZ];simp),hZ]
  have hZ:ZhD z[i3]=Zh7 z[i3].2:=if_neg (by rintro (h1 | h1);exact h1 (by simpa using hg79);omega)
  refine Zaf<|Zah<|wr'<|mw<|sn'<|Zao<|?_
  refine w_lp (ι:=Nat) (fun (i4:Nat)=>[(8,iv (i4:Int)),(2,.any),(9,.any)]++rn' 84 19) (fun (i4:Nat)=>[]) (fun (i4:Nat)=>i4≤(z[i3]).2.length∧Zh7 (z[i3]).2=Zh7 ((z[i3]).2.drop i4)) (fun (i4:Nat)=>(z[i3]).2.length-i4) (0) (by exact⟨Nat.zero_le _,rfl⟩) ?_
  rintro i4 hi4
  try simp only[sm',Nat.reduceAdd]
  obtain⟨hx1,hx2⟩:=hi4
  refine Zan<|wr'<|mw<|mw<|?_
  refine V' ((by first | exact Za6 lk | exact ZdE lk)) pt ?_
  refine Vw (ZbP lk lk)<|sn'<|?_
  refine cd' lk (fun hc8=>?_) (fun hc8=>?_)
  ·have hk8:i4<(z[i3]).2.length:=by omega
   rw[erasE_at hk8] at hx2
   have ho8:=ho6.2 _ (List.getElem_mem hk8)
   refine Zaf<|Zah<|Zan<|Zao<|wr'<|mw<|mw<|?_
   refine V' (ZaY lk lk ZkS (nb' rfl) ro om ro rfl) pt ?_
   refine Vw (Zd1 lk ZlC rfl)<|mw<|mw<|?_
   refine V' ((by first | exact Za6 lk | exact ZdE lk)) pt ?_
   refine V' (Zbi lk lki om om) pt ?_
   refine Vw (ZaS lk lk)<|Zak mp (ZjJ (x:=(z[i3]).2[i4]) (last:=decide ((i4:Int)=((z[i3]).2.length:Int)-1)) ho8) pt<|mw<|sn'<|wr'<|mw<|Vw (Za1 lk lki)<|sn'<|?_
   refine cd' lk (fun hc9=>?_) (fun hc9=>?_)
   ·rw[if_pos hc9] at hx2
    refine wr'<|mw<|mw<|sn'<|Zaa<|Zap<|Zal<|Zal<|Zap<|Zap<|Zal<|Zal<|?_
    refine Zap<|Zal<|Zai rz<|rT'<|?_
    refine ivx ?_;rw[hE,hv2,hZ,hx2,if_pos hc9,if_pos hc9]
   rw[if_neg hc9] at hx2
   refine Zaf<|ZaC<|Zah<|Zar<|mw<|?_
   refine V' (Zau lk lki om om) pt ?_
   refine mw<|Zaq<|ZaB<|?_
   refine lT' (i4+1) (by (try dsimp only);exact⟨by omega,hx2⟩)
  rw[List.drop_of_length_le om] at hx2
  rw[hZ,hx2,if_neg (by simp[Zh7])] at hv2
  refine ZaX<|ZaN<|ZaN<|Zbq<|ZaC<|Zah<|Zar<|mw<|?_
  refine V' (Zau lk lki om om) pt ?_
  refine mw<|Zaq<|ZaB<|?_
  refine lT' (i3+1) (by (try dsimp only);exact⟨by omega,hv2⟩)
 rw[List.drop_of_length_le om] at hv2
 rw[hv2,if_neg (by simp[Zbd])] at hE
 refine ZaX<|ZaN<|ZaN<|Zbq<|Zah<|Zan<|wr'<|mw<|sn'<|Zao<|?_
 refine w_lp (ι:=Nat) (fun (i5:Nat)=>[(10,iv (i5:Int)),(2,.any)]++rn' 103 25) (fun (i5:Nat)=>[]) (fun (i5:Nat)=>i5≤l.length∧Zbd ZgL l=Zbd ZgL (l.drop i5)) (fun (i5:Nat)=>l.length-i5) (0) (by exact⟨Nat.zero_le _,rfl⟩) ?_
 rintro i5 hi5
 try simp only[sm',Nat.reduceAdd]
 obtain⟨hy1,hy2⟩:=hi5
 refine Zan<|wr'<|mw<|Vw (Zac lk)<|Vw (Zae lk gx gt2)<|Vw (Za6 lk)<|Vw (ZbP lk lk)<|sn'<|?_
 refine cd' lk (fun hc10=>?_) (fun hc10=>?_)
 ·have hk10:i5<l.length:=by omega
  rw[ZeO hk10] at hy2
  have ho10:=hok.2.2 _ (List.getElem_mem hk10)
  refine Zaf<|Zah<|Zan<|Zao<|wr'<|Vw (Zac lk)<|Vw (Zae lk gx gt2)<|mw<|?_
  refine V' (ZaY lk lk Zh0 (nb' rfl) ro om ro rfl) pt ?_
  refine Vw (Zbf lk dp0)<|Vw (ZaA lk gt)<|Zak mp (Zcz ho10.1) pt<|Vw (Zav lk)<|mw<|?_
  refine ZaI (t:=118) gt pt pt (fun hg118=>?_) (fun hg118=>?_)
  ·have hK:ZgL l[i5]=1:=by unfold ZgL;simp_all
   refine s_no gt pt<|s_no gt pt<|s_no gt pt<|s_no gt pt<|s_no gt pt<|s_no gt pt<|s_no gt pt<|s_no gt pt<|Vw (Zag lk lkb)<|sn'<|ZaH lk<|wr'<|?_
   refine mw<|sn'<|Zaa<|Zap<|Zal<|Zal<|Zap<|Zal<|Zai rz<|rT'<|?_
   refine ivx ?_;rw[hE,hy2,if_pos (by rw[hK];simp),hK]
  refine s_do gt<|Vw (Zac lk)<|s_do gt<|Vw (Zae lk gx gt2)<|s_do gt<|mw<|s_do gt<|?_
  refine V' (ZaY lk lk Zh0 (nb' rfl) ro om ro rfl) pt ?_
  refine s_do gt<|Vw (Zbf lk dp1)<|s_do gt<|Vw (ZaA lk gt)<|s_do gt<|Zak mp (Zcz ho10.2) pt<|s_do gt<|Vw (Zav lk)<|Vw (Zab lk lk)<|sn'<|?_
  refine Zaz lk (fun hc11=>?_) (fun hc11=>?_)
  ·have hK:ZgL l[i5]=1:=by unfold ZgL;simp_all
   refine wr'<|mw<|sn'<|Zaa<|Zap<|Zal<|Zal<|Zap<|Zal<|Zai rz<|rT'<|?_
   refine ivx ?_;rw[hE,hy2,if_pos (by rw[hK];simp),hK]
  have hK:ZgL l[i5]=0:=by unfold ZgL;simp_all
  rw[hK,if_neg (by simp)] at hy2
  refine Zaf<|ZaC<|Zah<|Zar<|mw<|?_
  refine V' (Zau lk lki om om) pt ?_
  refine mw<|Zaq<|ZaB<|?_
  refine lT' (i5+1) (by (try dsimp only);exact⟨by omega,hy2⟩)
 rw[List.drop_of_length_le om] at hy2
 refine ZaX<|ZaN<|ZaN<|Zbq<|Zah<|wr'<|mw<|sn'<|Zaa<|Zai rz<|rT'<|?_
 refine ivx ?_;rw[hE,hy2];rfl
end Go.Proofs.Yticajimgfndceaa
end
section
namespace Go.Proofs.Yticajimgfndceaa
open Go.Ab
abbrev PS:=Src×Bool
def Zb5 (x:Era):Bool:=x.2.2.2.2.1
def Zk1:List Zon→Era→List Zon
 | [],_=>[]
 | [z],x=>[(z.1,z.2++[x])]
 | z::y::l,x=>z::Zk1 (y::l) x
theorem Zet (l:List Zon) (z:Zon) (x:Era):Zk1 (l++[z]) x=l++[(z.1,z.2++[x])]:=by
 induction l with
 | nil=>rfl
 | cons a l ih =>
  cases l with
  | nil=>rfl
  | cons b l=>exact congrArg (a :: ·) ih
def ruleA:ByteArray:=bA [82,117,108,101]
def zoneA:ByteArray:=bA [90,111,110,101]
def linkA:ByteArray:=bA [76,105,110,107]
def Zb3 (p:Src) (x:Era):PS:=((p.1,Zk1 p.2.1 x,p.2.2),!Zb5 x)
def Znd (p:PS):RM PS :=
 if p.2=true then Zbm rEra fun x=>retR (Zb3 p.1 x)
 else Zbm Zdn fun w =>
  if w=ruleA then Zbm rRule fun r=>retR ((p.1.1++[r],p.1.2.1,p.1.2.2),false)
  else if w=zoneA then Zbm Zmt fun n=>Zbm rEra fun x=>retR (Zb3 (p.1.1,p.1.2.1++[(n,[])],p.1.2.2) x)
  else if w=linkA then Zbm Zmt fun a=>Zbm Zmt fun b=>retR ((p.1.1,p.1.2.1,p.1.2.2++[(a,b)]),false)
  else Zb6 none
def Zdv (p:PS):TS→PS×TS :=
 if p.2=true then Zbx tEra fun x=>ret2 (Zb3 p.1 x)
 else Zbx ZaK fun w =>
  if w=ruleA then Zbx ZhM fun r=>ret2 ((p.1.1++[r],p.1.2.1,p.1.2.2),false)
  else if w=zoneA then Zbx ZdH fun n=>Zbx tEra fun x=>ret2 (Zb3 (p.1.1,p.1.2.1++[(n,[])],p.1.2.2) x)
  else if w=linkA then Zbx ZdH fun a=>Zbx ZdH fun b=>ret2 ((p.1.1,p.1.2.1,p.1.2.2++[(a,b)]),false)
  else fun t=>(p,bad t)
theorem Zk0 (p:PS):Agr (Zdv p) (Znd p):=by
 unfold Zdv Znd
 split
 ·exact agr_era.bind fun x=>Agr.ret _
 ·refine agr_next.bind fun w=>?_
  split
  ·exact agr_rule.bind fun r=>Agr.ret _
  ·split
   ·exact agr_name.bind fun n=>agr_era.bind fun x=>Agr.ret _
   ·split
    ·exact agr_name.bind fun a=>agr_name.bind fun b=>Agr.ret _
    ·exact Agr.lift (fun t h=>rfl) (fun l=>rfl)
def ZiW (p:PS) (x:Ln):Option PS:=if x.2.1≠p.2 then none else match Znd p x.2.2 with
 | some (q,[])=>some q
 | _=>none
def badT (p:PS) (x:Ln):Prop:=(Zdv p (x.2.2,false)).2.2=true∨(Zdv p (x.2.2,false)).2.1≠[]∨x.2.1≠p.2
theorem ZmO {p:PS}{x:Ln}(h:badT p x):ZiW p x=none:=by
 unfold ZiW
 by_cases hi:x.2.1=p.2
 ·rw[if_neg (by simp[hi])]
  have hA:=(Zk0 p x.2.2).2
  unfold badT at h
  revert hA
  cases hb:Znd p x.2.2 with
  | none=>intro;rfl
  | some q =>
   obtain⟨q,l⟩:=q
   intro hA
   simp only at hA
   rw[hA] at h
   cases l with
   | nil=>simp[hi] at h
   | cons c l=>rfl
 ·rw[if_pos hi]
theorem lineR_ok {p:PS}{x:Ln}(h:¬badT p x):ZiW p x=some (Zdv p (x.2.2,false)).1:=by
 unfold ZiW
 unfold badT at h
 simp only[not_or,Decidable.not_not] at h
 obtain⟨h1,h2,h3⟩:=h
 rw[if_neg (by simp[h3])]
 have hA:=(Zk0 p x.2.2).2
 revert hA
 cases hb:Znd p x.2.2 with
 | none=>intro hA;exact absurd hA h1
 | some q =>
  obtain⟨q,l⟩:=q
  intro hA
  simp only at hA
  rw[hA] at h2 ⊢
  simp only at h2
  subst h2
  rfl
def runR:PS→List Ln→PS ⊕ Int
 | p,[]=>.inl p
 | p,x::l=>match ZiW p x with
  | none=>.inr x.1
  | some q=>runR q l
def srcZ:Src:=([],[],[])
def endP (p:PS):Src×Int×Int:=if p.2=true then (srcZ,0,1) else if ZdV p.1≠0 then (srcZ,0,ZdV p.1) else (p.1,0,0)
def outP (l:List Ln):Src×Int×Int:=match runR (srcZ,false) l with
 | .inr n=>(srcZ,n,1)
 | .inl p=>endP p
def Zbg (s:ByteArray):Src×Int×Int:=if (Zbv s).2.2≠0 then (srcZ,(Zbv s).2.1,(Zbv s).2.2) else outP (Zbv s).1
theorem runR_at {l:List Ln}{k:Nat}(h:k<l.length) (p:PS):runR p (l.drop k)=match ZiW p l[k] with
  | none=>.inr l[k].1
  | some q=>runR q (l.drop (k+1)):=by
 rw[List.drop_eq_getElem_cons h,runR]
end Go.Proofs.Yticajimgfndceaa
end
section
namespace Go.Proofs.Yticajimgfndceaa
open Go.Ab Go.RowKit Civ
attribute [local simp] ZbT
section
theorem Zcb {a0 a1 c0:AV}{l:List AV}:setCells (a0::a1::l) 1 [c0]=a0::c0::l:=rfl
theorem ZlA {a0 c0:AV}{l:List AV}:setCells (a0::l) 0 [c0]=c0::l:=rfl
end
def c24:AC:=(Sr [Ms 2] (.seq (Sr [Mv 4 0,Nk 5 4,Fa 6 1 5,Ld 7 6,Mv 8 7,Of 9 8 (mt 0),Of 10 8 (.nck (.tmp 9)),Of 11 8 (.fa 0 (.tmp 10)),Of 12 8 (.load false 1 (.tmp 11)),Of 13 8 (.len false (.tmp 12)),Of 14 8 (.bin .eql (.tmp 13) (Ci 0)),Oo 15 (.pick (.tmp 8) (.const (.bool true)) (.tmp 14))] (Cd 15 (Sr [Mv 16 0,Nk 17 16,Fa 18 1 17,⟨none,none,(.store 1 (.tmp 18) (.const (.bool true)))⟩] (Sr [Ms 2] .ret)) .skip)) (Sr [Mv 19 0,Nk 20 19,Fa 21 0 20,Ld 22 21,Oo 23 (.ia 1 (.tmp 22) (Ci 0)),Ld 24 23,Mv 3 24] (Sr [Mv 25 0,Mv 26 0,Nk 27 26,Fa 28 0 27,Ld 29 28,Oo 30 (.slc 1 (.tmp 29) (some (Ci 1)) none none),Nk 31 25,Fa 32 0 31,Sc 32 30] (Sr [Mv 33 3,Mv 2 33] .ret)))))
theorem k24:ZaO Try.prog 24=some ⟨c24,[(.tmp 2)],34⟩:=by kernel_rfl
def c56:AC:=(Sr [Mc 8 0] (.seq (Sr [Mv 11 1,Oo 12 (.len true (.tmp 11)),Mv 13 2,Mv 14 3,Cl 15 82 [(.tmp 12),(.tmp 13),(.tmp 14)],Oo 16 (.un .not (.tmp 15))] (Cd 16 (Sr [Mv 17 0,Nk 18 17,Fa 19 1 18,⟨none,none,(.store 1 (.tmp 19) (.const (.bool true)))⟩] (Sr [Mc 8 0] .ret)) .skip)) (Sr [Mc 9 0] (.seq (Sr [Mc 10 0] (.block 0 (.loop (.seq (Sr [Mv 20 10,Mv 21 1,Oo 22 (.len true (.tmp 21)),Bn 23 .lss 20 22] (Cd 23 .skip (.exit 0))) (.seq (.block 1 (.seq (Sr [Mv 26 1,Mv 27 10,Oo 28 (.ix (.tmp 26) (.tmp 27)),Cl 29 53 [(.tmp 28)],Oo 30 (.un .not (.tmp 29))] (Cd 30 (Sr [Mv 31 0,Nk 32 31,Fa 33 1 32,⟨none,none,(.store 1 (.tmp 33) (.const (.bool true)))⟩] (Sr [Mc 8 0] .ret)) .skip)) (.reg [Mv 34 9,Oo 35 (.bin .mul (Ci 10) (.tmp 34)),Mv 36 1,Mv 37 10,Oo 38 (.ix (.tmp 36) (.tmp 37)),Oo 39 (.cvi .i64 (.tmp 38)),Bn 40 .add 35 39,Bc 41 .sub 40 48,Mv 9 41]))) (.reg [Mv 24 10,Bc 25 .add 24 1,Mv 10 25])))))) (Sr [Mv 42 9,Mv 8 42] .ret)))))
theorem k56:ZaO Try.prog 56=some ⟨c56,[(.tmp 8)],43⟩:=by kernel_rfl
def c27:AC:=(Sr [Ms 2] (Sr [Mv 4 0,Cl 5 24 [(.tmp 4)],Mv 3 5] (.seq (Sr [Mv 6 3,Cl 7 54 [(.tmp 6)],Oo 8 (.un .not (.tmp 7))] (Cd 8 (.reg [Mv 9 0,Nk 10 9,Fa 11 1 10,⟨none,none,(.store 1 (.tmp 11) (.const (.bool true)))⟩]) .skip)) (Sr [Mv 12 3,Mv 2 12] .ret))))
theorem k27:ZaO Try.prog 27=some ⟨c27,[(.tmp 2)],13⟩:=by kernel_rfl
def c85:AC:=(Sr [Mc 4 0] (.seq (Sr [Mc 5 0] (.block 0 (.loop (.seq (Sr [Mv 6 5,Bc 7 .add 6 3,Mv 8 0,Oo 9 (.len true (.tmp 8)),Bn 10 .leq 7 9,Mv 11 10,Ot 12 11 (mt 1),Ot 13 11 (.len true (.tmp 12)),Ot 14 11 (.bin .eql (.tmp 13) (Ci 3)),Oo 15 (.pick (.tmp 11) (.tmp 14) (.const (.bool false)))] (Cd 15 .skip (.exit 0))) (.seq (.block 1 (Sr [Mv 18 0,Mv 19 5,Mv 20 5,Bc 21 .add 20 3,Oo 22 (.sls (.tmp 18) (some (.tmp 19)) (some (.tmp 21))),Mv 23 1,Bn 24 .eql 22 23] (Cd 24 (Sr [Mv 25 5,Bc 26 .quo 25 3,Mv 4 26] .ret) .skip))) (.reg [Mv 16 5,Bc 17 .add 16 3,Mv 5 17])))))) (Sr [Oo 4 (.mv (.const (.int .i64 (-1))))] .ret)))
theorem k85:ZaO Try.prog 85=some ⟨c85,[(.tmp 4)],27⟩:=by kernel_rfl
def c57:AC:=(Sr [Mc 2 0] (Sr [Mv 4 0,Cl 5 24 [(.tmp 4)],Oo 6 (.call (.func 85) [(.const (.string ⟨#[74,97,110,70,101,98,77,97,114,65,112,114,77,97,121,74,117,110,74,117,108,65,117,103,83,101,112,79,99,116,78,111,118,68,101,99]⟩)),(.tmp 5)]),Mv 3 6] (.seq (Sr [Mv 7 3,Bc 8 .lss 7 0] (Cd 8 (.reg [Mv 9 0,Nk 10 9,Fa 11 1 10,⟨none,none,(.store 1 (.tmp 11) (.const (.bool true)))⟩]) .skip)) (Sr [Mv 12 3,Bc 13 .add 12 1,Mv 2 13] .ret))))
theorem k57:ZaO Try.prog 57=some ⟨c57,[(.tmp 2)],14⟩:=by kernel_rfl
def c86:AC:=(Sr [Mc 4 0] (Sr [Mv 6 1,Oo 7 (.call (.func 85) [(.const (.string ⟨#[83,117,110,77,111,110,84,117,101,87,101,100,84,104,117,70,114,105,83,97,116]⟩)),(.tmp 6)]),Mv 5 7] (.seq (Sr [Mv 8 5,Bc 9 .lss 8 0] (Cd 9 (Sr [Mv 10 0,Nk 11 10,Fa 12 1 11,⟨none,none,(.store 1 (.tmp 12) (.const (.bool true)))⟩] (Sr [Mc 4 0] .ret)) .skip)) (Sr [Mv 13 5,Mv 4 13] .ret))))
theorem k86:ZaO Try.prog 86=some ⟨c86,[(.tmp 4)],14⟩:=by kernel_rfl
def c81:AC:=(Sr [Mc 4 0] (Sr [Mv 6 0,Mv 7 1,Cl 8 56 [(.tmp 6),(.tmp 7),(Ci 2),(Ci 2)],Mv 5 8] (.seq (Sr [Mv 9 5,Bc 10 .gtr 9 59] (Cd 10 (.reg [Mv 11 0,Nk 12 11,Fa 13 1 12,⟨none,none,(.store 1 (.tmp 13) (.const (.bool true)))⟩]) .skip)) (Sr [Mv 14 5,Mv 4 14] .ret))))
theorem k81:ZaO Try.prog 81=some ⟨c81,[(.tmp 4)],15⟩:=by kernel_rfl
abbrev takE (t:TS):Ent:=.mk 0 72 2 [.sl t.1.length 1 false (rows strC t.1),bv t.2]
theorem ZaF {l:List ByteArray}{b:Bool}{n:Nat}:(Ent.mk 0 72 2 [.sl l.length 1 false (rows strC l),.v (.bool b)]).lt n=true:=by simp[Ent.lt,AV.lt,AV.ltL,ZbT]
theorem tnext_b {l:List ByteArray}{b:Bool}{id:Nat}{h:AH}(h1:h[id]?=some (takE (l,b))):ACalls Try.prog 24 [.ptr id 0 0] h fun x h'=>x=.ret (sv (ZaK (l,b)).1)∧h'=h.set id (takE (ZaK (l,b)).2):=by
 have hid:id<h.length:=(List.getElem?_eq_some_iff.1 h1).1
 refine tJ' k24 fun N hn hlt hlA hbd=>?_
 simp only[tb'] at hbd ⊢
 refine ZcT (h1:=h.set id (.mk 0 72 2 [.sl l.length 1 false (rows strC l),bv b])++[]) (by rw[ZcR h1]) ?_
 refine wr'<|mw<|sn'<|Zan<|wr'<|mw<|Vw (ZbL lk)<|Vw (Zac lk)<|Vw (Zae lk (ZaQ hid) gt1)<|mw<|?_
 refine ZaI (t:=8) gt pt pt (fun hg8=>?_) (fun hg8=>?_)
 ·have hb:b=true:=hg8
  have hT:ZaK (l,b)=(⟨#[]⟩,l,true):=if_pos (.inl hb)
  refine s_no gt pt<|s_no gt pt<|s_no gt pt<|s_no gt pt<|s_no gt pt<|s_no gt pt<|Vw (Zag lk lkb)<|sn'<|ZaH lk<|wr'<|mw<|Vw (ZbL lk)<|?_
  refine Vw (Zac lk)<|E' (Zam lk (cvl lkb rfl) (ZaQ hid) rfl (nb' rfl) rfl Zcb (ZaD hid)) ptn<|sn'<|wr'<|mw<|sn'<|Zaa<|Zal<|Zai rz<|?_
  exact⟨_,_,rfl,Zaj hn,Zbr hlt ZaF,rfl,by rw[hT],by rw[hT]⟩
 have hb:b=false:=by simpa using hg8
 refine s_do gt<|mw<|s_do gt<|Vw (ZbL lk)<|s_do gt<|Vw (Zac lk)<|s_do gt<|Vw (Zae lk (ZaQ hid) gt0)<|s_do gt<|Vw (Za6 lk)<|s_do gt<|Vw (ZaS lk lki)<|Vw (Zab lk lk)<|Zaq<|?_
 refine Zah ?_
 refine cd' lk (fun hc1=>?_) (fun hc1=>?_)
 ·have hT:ZaK (l,b)=(⟨#[]⟩,l,true):=if_pos (.inr (List.eq_nil_of_length_eq_zero (show l.length=0 by have hc1':(l.length:Int)=0:=hc1;omega)))
  refine wr'<|mw<|Vw (ZbL lk)<|Vw (Zac lk)<|E' (Zam lk (cvl lkb rfl) (ZaQ hid) rfl (nb' rfl) rfl Zcb (ZaD hid)) ptn<|sn'<|wr'<|mw<|sn'<|Zaa<|?_
  refine Zal<|Zai rz<|?_
  exact⟨_,_,rfl,Zaj hn,Zbr hlt ZaF,rfl,by rw[hT],by rw[hT]⟩
 have hlen:0<l.length:=by have hc1':¬(l.length:Int)=0:=hc1;omega
 have hne:l≠[]:=by intro e;rw[e] at hlen;cases hlen
 have hT:ZaK (l,b)=(l[0],l.drop 1,b):=by
  cases l with
  | nil=>exact absurd rfl hne
  | cons a l=>subst hb;rfl
 refine Zaf<|Zah<|wr'<|mw<|Vw (ZbL lk)<|Vw (Zac lk)<|Vw (Zae lk (ZaQ hid) gt0)<|?_
 refine V' (ZaY (k:=0) lk lki Zbt (nb' rfl) ro om ro rfl) pt ?_
 refine Vw (ZaA lk gt)<|mw<|sn'<|wr'<|mw<|mw<|Vw (ZbL lk)<|Vw (Zac lk)<|Vw (Zae lk (ZaQ hid) gt0)<|?_
 refine V' (v_lo (k:=1) lk lki Zbt ro om ro) pt ?_
 refine Vw (ZbL lk)<|Vw (Zac lk)<|E' (Zam lk cv (ZaQ hid) rfl (nb' rfl) rfl ZlA (ZaD hid)) ptn<|sn'<|wr'<|mw<|mw<|sn'<|Zaa<|Zai rz<|?_
 exact⟨_,_,rfl,Zaj hn,Zbr hlt ZaF,rfl,by rw[hT],by rw[hT]⟩
theorem Zjw {t:TS}{id:Nat}{h:AH}(h1:h[id]?=some (takE t)):ACalls Try.prog 24 [.ptr id 0 0] h fun x h'=>x=.ret (sv (ZaK t).1)∧h'=h.set id (takE (ZaK t).2):=tnext_b h1
theorem Zj2 {n:Int}(h:digB n=true):48≤n∧n≤57:=by unfold digB at h;simpa using h
theorem ZcX {s:ByteArray}{a b:Int}{t:TS}{id:Nat}{h:AH}(hb4:b≤4) (h1:h[id]?=some (takE t)):ACalls Try.prog 56 [.ptr id 0 0,sv s,iv a,iv b] h fun x h'=>x=.ret (iv (tNum s a b t).1)∧h'=h.set id (takE (tNum s a b t).2):=by
 obtain⟨l,bd⟩:=t
 have hid:id<h.length:=(List.getElem?_eq_some_iff.1 h1).1
 refine tJ' k56 fun N hn hlt hlA hbd=>?_
 simp only[tb'] at hbd ⊢
 refine ZcT (h1:=h.set id (takE (l,bd))++[]) (by rw[ZcR h1]) ?_
 refine wr'<|mw<|sn'<|Zan<|wr'<|mw<|Vw (Za0 lk)<|mw<|mw<|Zak mp (ZaP) pt<|Vw (Zav lk)<|?_
 refine sn' ?_
 refine Zaz lk (fun hc1=>?_) (fun hc1=>?_)
 ·have hw:¬wi s.size a b=true:=by simpa using hc1
  have hT:tNum s a b (l,bd)=(0,l,true):=ZcN (if_neg (fun e=>hw e.1))
  refine wr'<|mw<|Vw (ZbL lk)<|Vw (Zac lk)<|E' (Zam lk (cvl lkb rfl) (ZaQ hid) rfl (nb' rfl) rfl Zcb (ZaD hid)) ptn<|sn'<|wr'<|mw<|sn'<|Zaa<|?_
  refine Zal<|Zai rz<|?_
  exact⟨_,_,rfl,Zaj hn,Zbr hlt ZaF,rfl,by rw[hT],by rw[hT]⟩
 have hw:wi s.size a b=true:=by simpa using hc1
 have hz:s.size≤4:=by unfold wi at hw;simp at hw;omega
 refine Zaf<|Zah<|wr'<|mw<|sn'<|Zan<|wr'<|mw<|sn'<|Zao<|?_
 refine w_lp (ι:=Nat×Int) (fun (x_:Nat×Int)=>match x_ with | ⟨k,n⟩=>[(9,iv n),(10,iv (k:Int)),(8,.any)]++rn' 20 22) (fun (x_:Nat×Int)=>match x_ with | ⟨k,n⟩=>[]) (fun (x_:Nat×Int)=>match x_ with | ⟨k,n⟩=>k≤s.size∧0≤n∧n<10 ^ k∧decL 0 (aB s)=decL n ((aB s).drop k) ∧ ∀ j (hj:j<s.size),j<k→digB s[j].toNat=true) (fun (x_:Nat×Int)=>match x_ with | ⟨k,n⟩=>s.size-k) (⟨0,0⟩) (by exact⟨by omega,by omega,by decide,rfl,fun j hj h0=>absurd h0 om⟩) ?_
 rintro⟨k,n⟩ hi1
 try simp only[sm',Nat.reduceAdd]
 obtain⟨hk1,hk2,hk3,hk4,hk5⟩:=hi1
 refine Zan<|wr'<|mw<|mw<|Vw (Za0 lk)<|Vw (ZbP lk lk)<|sn'<|?_
 refine cd' lk (fun hc2=>?_) (fun hc2=>?_)
 ·have hk:k<s.size:=by omega
  have hbb:=ZdW s k
  have hbk:Zay s k=s[k]:=Zcv hk
  have hp:(10:Int) ^ k≤1000:=by
   have:k=0∨k=1∨k=2∨k=3:=by omega
   rcases this with rfl | rfl | rfl | rfl <;> decide
  refine Zaf<|Zah<|Zan<|Zao<|Zan<|wr'<|mw<|mw<|?_
  refine V' (v_ix lk lk om om) pt ?_
  refine Zak mp (Zdf hbb.1 hbb.2) pt<|Vw (Zav lk)<|sn'<|?_
  refine Zaz lk (fun hc3=>?_) (fun hc3=>?_)
  ·have hd:digB s[k].toNat=false:=by rw[←hbk];simpa using hc3
   have hT:tNum s a b (l,bd)=(0,l,true):=ZcN (if_neg (fun e=>by have:=Zgw hk hd;rw[e.2] at this;cases this))
   refine wr'<|mw<|Vw (ZbL lk)<|Vw (Zac lk)<|E' (Zam lk (cvl lkb rfl) (ZaQ hid) rfl (nb' rfl) rfl Zcb (ZaD hid)) ptn<|sn'<|wr'<|mw<|sn'<|Zaa<|?_
   refine Zal<|Zap<|Zal<|Zal<|Zap<|Zal<|Zai rz<|?_
   exact⟨_,_,rfl,Zaj hn,Zbr hlt ZaF,rfl,by rw[hT],by rw[hT]⟩
  have hd:digB (Zay s k).toNat=true:=by simpa using hc3
  have hdb:48≤((Zay s (k:Int).toNat).toNat:Int)∧((Zay s (k:Int).toNat).toNat:Int)≤57:=Zj2 hd
  have hdb2:=Zj2 hd
  refine Zaf<|Zah<|Zar<|mw<|?_
  refine V' (Ze7 lki lk om om) pt ?_
  refine mw<|mw<|?_
  refine V' (v_ix lk lk om om) pt ?_
  refine V' (ZfX lk om om) pt ?_
  refine V' (Zau lk lk om om) pt ?_
  refine V' (Zbi lk lki om om) pt ?_
  refine mw<|Zaq<|ZaC<|Zah<|Zar<|mw<|?_
  refine V' (Zau lk lki om om) pt ?_
  refine mw<|Zaq<|ZaB<|?_
  refine lT' (⟨k+1,10*n+(Zay s k).toNat-48⟩) (by (try dsimp only);refine⟨by omega,by omega,by rw[Int.pow_succ];omega,by rw[hk4,ZdZ hk,decL],fun j hj h0=>?_⟩;rcases Nat.lt_or_ge j k with e | e;exact hk5 j hj e;obtain rfl:j=k:=om;rw[←hbk];exact hd)
 have hT:tNum s a b (l,bd)=(n,l,bd):=ZcM (by
  unfold numV
  rw[if_pos ⟨hw,ZeW fun j hj=>hk5 j hj om⟩,hk4,Zje om];rfl)
 refine ZaX<|ZaN<|ZaN<|Zbq<|Zah<|wr'<|mw<|mw<|sn'<|Zaa<|Zai rz<|?_
 exact⟨_,_,rfl,Zaj hn,Zbr hlt ZaF,rfl,by rw[hT],by rw[hT]⟩
theorem tname_a {t:TS}{id:Nat}{h:AH}(hz:(ZaK t).1.size≤maxLen) (h1:h[id]?=some (takE t)):ACalls Try.prog 27 [.ptr id 0 0] h fun x h'=>x=.ret (sv (ZdH t).1)∧h'=h.set id (takE (ZdH t).2):=by
 have hid:id<h.length:=(List.getElem?_eq_some_iff.1 h1).1
 refine tJ' k27 fun N hn hlt hlA hbd=>?_
 simp only[tb'] at hbd ⊢
 refine ZcT (h1:=h.set id (takE t)++[]) (by rw[ZcR h1]) ?_
 refine wr'<|mw<|sn'<|wr'<|mw<|ZaJ mp (Zjw (ZaQ hid)) (ZaD hid) pt<|mw<|sn'<|Zan<|Zan<|?_
 refine Zar<|mw<|Zak mp (Zcz hz) pt<|Vw (Zav lk)<|sn'<|?_
 refine Zaz lk (fun hc1=>?_) (fun hc1=>?_)
 ·refine Zar<|mw<|Vw (ZbL lk)<|Vw (Zac lk)<|E' (Zam lk (cvl lkb rfl) (ZaQ hid) rfl (nb' rfl) rfl Zcb (ZaD hid)) ptn<|sn'<|wr'<|mw<|mw<|sn'<|Zaa<|?_
  refine Zai rz ?_
  exact⟨_,_,rfl,Zaj hn,Zbr hlt ZaF,rfl,rfl,by unfold ZdH;rw[if_neg (by simpa using hc1)]⟩
 refine Zaf<|Zah<|wr'<|mw<|mw<|sn'<|Zaa<|Zai rz<|?_
 exact⟨_,_,rfl,Zaj hn,Zbr hlt ZaF,rfl,rfl,by unfold ZdH;rw[if_pos (by simpa using hc1)]⟩
theorem idxL_at {l:List ByteArray}{s:ByteArray}{d:Int}{k:Nat}(h:k<l.length):idxL (l.drop k) s (d+k)=if s=l[k] then some (d+k) else idxL (l.drop (k+1)) s (d+(k+1:Nat)):=by
 rw[List.drop_eq_getElem_cons h,idxL]
 congr 2
 push_cast;omega
theorem ZmV {s:ByteArray} : ∀ {l:List ByteArray}{d:Int},(∀ x∈l,s≠x)→idxL l s d=none
 | [],_,_=>rfl
 | x::l,d,h=>by rw[idxL,if_neg (h x (by simp))];exact ZmV fun y hy=>h y (by simp[hy])
theorem ZjT {s:ByteArray} : ∀ {l:List ByteArray}{d:Int},idxL l s d=(idxL l s 0).map (· + d)
 | [],_=>rfl
 | x::l,d=>by
  rw[idxL,idxL]
  split
  ·simp
  rw[ZjT (l:=l) (d:=d+1),ZjT (l:=l) (d:=0+1),Option.map_map];congr 1;funext y;simp;omega
theorem Zkq {nl:List ByteArray}{all s:ByteArray}{h:AH}(hl:nl.length≤20) (hz:all.size=3*nl.length) (h3 : ∀ x∈nl,x.size=3) (hx : ∀ k (hk:k<nl.length),all.extract (3*k) (3*k+3)=nl[k]):Ac 85 [sv all,sv s] h (iv ((idxL nl s 0).getD (-1))):=by
 refine tI' k85 fun N hn hlt hlA hbd=>?_
 simp only[tb'] at hbd ⊢
 refine wr'<|mw<|sn'<|Zan<|wr'<|mw<|sn'<|Zao<|?_
 refine w_lp (ι:=Nat) (fun (k:Nat)=>[(5,iv ((3*k:Nat):Int)),(4,.any)]++rn' 6 21) (fun (k:Nat)=>[]) (fun (k:Nat)=>k≤nl.length∧idxL nl s 0=idxL (nl.drop k) s (0+(k:Int))) (fun (k:Nat)=>nl.length-k) (0) (by exact⟨Nat.zero_le _,by simp⟩) ?_
 rintro k hi1
 try simp only[sm',Nat.reduceAdd]
 obtain⟨hk1,hk2⟩:=hi1
 refine Zan<|wr'<|mw<|?_
 refine V' (Zau lk lki om om) pt ?_
 refine mw<|Vw (Za0 lk)<|Vw (Zc5 lk lk)<|mw<|?_
 refine sp' (t:=11) gt pt pt (fun hg11=>?_) (fun hg11=>?_)
 ·have hk:k<nl.length:=by omega
  rw[idxL_at hk] at hk2
  refine s_do gt<|mw<|s_do gt<|Vw (Za0 lk)<|s_do gt<|Vw (ZaS lk lki)<|Vw (Zag lk lk)<|sn'<|?_
  refine cd' lk (fun hc1=>?_) (fun hc1=>?_)
  ·have he:=hx k hk
   refine Zaf<|Zah<|Zan<|Zao<|wr'<|mw<|mw<|mw<|?_
   refine V' (Zau lk lki om om) pt ?_
   refine V' (Zc4 lk (oi lk) (oi lk) om om om) pt ?_
   refine mw<|Vw (ZcW lk lk)<|sn'<|?_
   refine cd' lk (fun hc2=>?_) (fun hc2=>?_)
   ·have hc2':s=nl[k]:=by rw[←he];exact hc2.symm
    rw[if_pos hc2'] at hk2
    refine wr'<|mw<|?_
    refine V' (Zey lk lki om om om) pt ?_
    refine mw<|sn'<|Zaa<|Zap<|Zal<|Zal<|Zap<|Zal<|Zai rz<|rT'<|?_
    refine ivx ?_;rw[hk2];simp
   have hc2':¬s=nl[k]:=by rw[←he];exact fun e=>hc2 e.symm
   rw[if_neg hc2'] at hk2
   refine Zaf<|ZaC<|Zah<|Zar<|mw<|?_
   refine V' (Zau lk lki om om) pt ?_
   refine mw<|Zaq<|ZaB<|?_
   refine lT' (k+1) (by (try dsimp only);exact⟨by omega,by rw[hk2]⟩)
  refine ZaX<|ZaN<|ZaN<|Zbq<|Zah<|wr'<|mw<|sn'<|Zaa<|Zai rz<|rT'<|?_
  refine ivx ?_;rw[ZmV (l:=nl) (d:=0) (fun x hx e=>hc1 (by rw[e,h3 x hx];rfl))];rfl
 refine s_no gt pt<|s_no gt pt<|s_no gt pt<|Vw (Zab lk lkb)<|sn'<|ZaG lk<|ZaX<|ZaN<|ZaN<|Zbq<|Zah<|wr'<|?_
 refine mw<|sn'<|Zaa<|Zai rz<|rT'<|?_
 refine ivx ?_;rw[List.drop_of_length_le om] at hk2;rw[hk2];rfl
def monA:ByteArray:=bA [74,97,110,70,101,98,77,97,114,65,112,114,77,97,121,74,117,110,74,117,108,65,117,103,83,101,112,79,99,116,78,111,118,68,101,99]
def dayA:ByteArray:=bA [83,117,110,77,111,110,84,117,101,87,101,100,84,104,117,70,114,105,83,97,116]
theorem mon_at : ∀ k (hk:k<monL.length),monA.extract (3*k) (3*k+3)=monL[k]:=by decide
theorem day_at : ∀ k (hk:k<dayL.length),dayA.extract (3*k) (3*k+3)=dayL[k]:=by decide
theorem mon_3 : ∀ x∈monL,x.size=3:=by decide
theorem day_3 : ∀ x∈dayL,x.size=3:=by decide
theorem ZjU {s:ByteArray} : ∀ {l:List ByteArray}{d n:Int},idxL l s d=some n→d≤n∧n<d+l.length
 | [],_,_,h=>by cases h
 | x::l,d,n,h=>by
  rw[idxL] at h
  split at h
  ·cases h;simp;omega
  have:=ZjU h;simp;omega
theorem tmonth_a {t:TS}{id:Nat}{h:AH}(h1:h[id]?=some (takE t)):ACalls Try.prog 57 [.ptr id 0 0] h fun x h'=>x=.ret (iv (ZcO t).1)∧h'=h.set id (takE (ZcO t).2):=by
 have hid:id<h.length:=(List.getElem?_eq_some_iff.1 h1).1
 have hM:idxL monL (ZaK t).1 1=(idxL monL (ZaK t).1 0).map (· + 1):=ZjT
 obtain⟨o,ho⟩ : ∃ o,o=idxL monL (ZaK t).1 0:=⟨_,rfl⟩
 rw[←ho] at hM
 have hbd : ∀ n,o=some n→0≤n∧n<12:=fun n e=>by have:=ZjU (ho.symm.trans e);have h12:(monL.length:Int)=12:=rfl;omega
 refine tJ' k57 fun N hn hlt hlA hbd=>?_
 simp only[tb'] at hbd ⊢
 refine ZcT (h1:=h.set id (takE t)++[]) (by rw[ZcR h1]) ?_
 refine wr'<|mw<|sn'<|wr'<|mw<|ZaJ mp (Zjw (ZaQ hid)) (ZaD hid) pt<|?_
 refine Zak mp (Zkq (nl:=monL) (all:=monA) (by decide) (by decide) mon_3 mon_at) pt ?_
 rw[←ho]
 have hcase:(o=none) ∨ ∃ n,o=some n:=by cases o <;> simp
 have hgd : -1≤o.getD (-1)∧o.getD (-1)<12:=by rcases hcase with rfl | ⟨n,rfl⟩;exact⟨by decide,by decide⟩;have:=hbd n rfl;exact⟨by simp;omega,by simp;omega⟩
 refine mw<|sn'<|Zan<|wr'<|mw<|Vw (ZbP lk lki)<|sn'<|?_
 refine cd' lk (fun hc1=>?_) (fun hc1=>?_)
 ·refine Zar<|mw<|Vw (ZbL lk)<|Vw (Zac lk)<|E' (Zam lk (cvl lkb rfl) (ZaQ hid) rfl (nb' rfl) rfl Zcb (ZaD hid)) ptn<|sn'<|wr'<|mw<|?_
  refine V' (Zau lk lki om om) pt ?_
  refine mw<|sn'<|Zaa<|Zai rz<|?_
  have ho2:o=none:=by rcases hcase with e | ⟨n,rfl⟩;exact e;have:=hbd n rfl;simp at hc1;omega
  have hT:ZcO t=(0,bad (ZaK t).2):=by unfold ZcO;rw[hM,ho2];rfl
  exact⟨_,_,rfl,Zaj hn,Zbr hlt ZaF,rfl,by rw[hT,ho2];rfl,by rw[hT]⟩
 refine Zaf<|Zah<|wr'<|mw<|?_
 refine V' (Zau lk lki om om) pt ?_
 refine mw<|sn'<|Zaa<|Zai rz<|?_
 obtain⟨n,rfl⟩ : ∃ n,o=some n:=by rcases hcase with rfl | e;exact absurd (by decide:(-1:Int)<0) hc1;exact e
 have hT:ZcO t=(n+1,(ZaK t).2):=by unfold ZcO;rw[hM];rfl
 exact⟨_,_,rfl,Zaj hn,Zbr hlt ZaF,rfl,by rw[hT];rfl,by rw[hT]⟩
theorem ZfY {s:ByteArray}{t:TS}{id:Nat}{h:AH}(h1:h[id]?=some (takE t)):ACalls Try.prog 86 [.ptr id 0 0,sv s] h fun x h'=>x=.ret (iv (Zda s t).1)∧h'=h.set id (takE (Zda s t).2):=by
 have hid:id<h.length:=(List.getElem?_eq_some_iff.1 h1).1
 obtain⟨o,ho⟩ : ∃ o,o=idxL dayL s 0:=⟨_,rfl⟩
 have hbd : ∀ n,o=some n→0≤n∧n<7:=fun n e=>by have:=ZjU (ho.symm.trans e);have h7:(dayL.length:Int)=7:=rfl;omega
 refine tJ' k86 fun N hn hlt hlA hbd=>?_
 simp only[tb'] at hbd ⊢
 refine ZcT (h1:=h.set id (takE t)++[]) (by rw[ZcR h1]) ?_
 refine wr'<|mw<|sn'<|wr'<|mw<|?_
 refine Zak mp (Zkq (nl:=dayL) (all:=dayA) (by decide) (by decide) day_3 day_at) pt ?_
 rw[←ho]
 have hcase:(o=none) ∨ ∃ n,o=some n:=by cases o <;> simp
 refine mw<|sn'<|Zan<|wr'<|mw<|Vw (ZbP lk lki)<|sn'<|?_
 refine cd' lk (fun hc1=>?_) (fun hc1=>?_)
 ·refine wr'<|mw<|Vw (ZbL lk)<|Vw (Zac lk)<|E' (Zam lk (cvl lkb rfl) (ZaQ hid) rfl (nb' rfl) rfl Zcb (ZaD hid)) ptn<|sn'<|wr'<|mw<|sn'<|Zaa<|?_
  refine Zal<|Zai rz<|?_
  have ho2:o=none:=by rcases hcase with e | ⟨n,rfl⟩;exact e;have:=hbd n rfl;simp at hc1;omega
  have hT:Zda s t=(0,bad t):=by unfold Zda;rw[←ho,ho2]
  exact⟨_,_,rfl,Zaj hn,Zbr hlt ZaF,rfl,by rw[hT],by rw[hT]⟩
 refine Zaf<|Zah<|wr'<|mw<|mw<|sn'<|Zaa<|Zai rz<|?_
 obtain⟨n,rfl⟩ : ∃ n,o=some n:=by rcases hcase with rfl | e;exact absurd (by decide:(-1:Int)<0) hc1;exact e
 have hT:Zda s t=(n,t):=by unfold Zda;rw[←ho]
 exact⟨_,_,rfl,Zaj hn,Zbr hlt ZaF,rfl,by rw[hT];rfl,by rw[hT]⟩
theorem ZlY {s:ByteArray}{t:TS}{id:Nat}{h:AH}(h1:h[id]?=some (takE t)):ACalls Try.prog 81 [.ptr id 0 0,sv s] h fun x h'=>x=.ret (iv (tSix s t).1)∧h'=h.set id (takE (tSix s t).2):=by
 have hid:id<h.length:=(List.getElem?_eq_some_iff.1 h1).1
 refine tJ' k81 fun N hn hlt hlA hbd=>?_
 simp only[tb'] at hbd ⊢
 refine ZcT (h1:=h.set id (takE t)++[]) (by rw[ZcR h1]) ?_
 refine wr'<|mw<|sn'<|wr'<|mw<|mw<|?_
 refine ZaJ mp (ZcX om (ZaQ hid)) (ZaD hid) pt ?_
 refine mw<|sn'<|Zan<|wr'<|mw<|Vw (ZbI lk lki)<|sn'<|?_
 refine cd' lk (fun hc1=>?_) (fun hc1=>?_)
 ·refine Zar<|mw<|Vw (ZbL lk)<|Vw (Zac lk)<|E' (Zam lk (cvl lkb rfl) (ZaQ hid) rfl (nb' rfl) rfl Zcb (ZaD hid)) ptn<|sn'<|wr'<|mw<|mw<|sn'<|Zaa<|?_
  refine Zai rz ?_
  exact⟨_,_,rfl,Zaj hn,Zbr hlt ZaF,rfl,rfl,by unfold tSix;rw[if_pos om]⟩
 refine Zaf<|Zah<|wr'<|mw<|mw<|sn'<|Zaa<|Zai rz<|?_
 exact⟨_,_,rfl,Zaj hn,Zbr hlt ZaF,rfl,rfl,by unfold tSix;rw[if_neg om]⟩
end Go.Proofs.Yticajimgfndceaa
end
section
namespace Go.Proofs.Yticajimgfndceaa
open Go.Ab Go.RowKit Civ
attribute [local simp] ZbT
section
theorem ZfE {τ:Operand→AV}{y0:Operand}{x0_0:AV}(h0:Zas (τ y0)=some [x0_0]) (l0:[x0_0].all leaf=true):Zaw τ [(0,1,y0)] [(.v (.string ⟨#[]⟩))]=some [x0_0]:=by
 simp only[Zaw,h0,l0]
 rfl
theorem Zjg {a0:AV}{l:List AV}:(a0::l).take 1=[a0]:=rfl
theorem Zhv {a0 a1 c0:AV}{l:List AV}:setCells (a0::a1::l) 1 [c0]=a0::c0::l:=rfl
theorem Zjh {τ:Operand→AV}{y0 y1:Operand}{x0_0 x1_0:AV}(h0:Zas (τ y0)=some [x0_0]) (l0:[x0_0].all leaf=true) (h1:Zas (τ y1)=some [x1_0]) (l1:[x1_0].all leaf=true):Zaw τ [(0,1,y0),(1,1,y1)] [(.v (.int .i64 0)),(.v (.int .i64 0)),(.v (.int .i64 0))]=some [x0_0,x1_0,(.v (.int .i64 0))]:=by
 simp only[Zaw,h0,l0,h1,l1]
 rfl
theorem Za5 {a0 a1 a2 c0 c1 c2:AV}{l:List AV}:setCells (a0::a1::a2::l) 0 [c0,c1,c2]=c0::c1::c2::l:=rfl
theorem Za4 {a0 a1 a2:AV}{l:List AV}:((a0::a1::a2::l).drop 0).take 3=[a0,a1,a2]:=rfl
theorem Zc3 {τ:Operand→AV}{y0 y1 y2:Operand}{x0_0 x1_0 x2_0:AV}(h0:Zas (τ y0)=some [x0_0]) (l0:[x0_0].all leaf=true) (h1:Zas (τ y1)=some [x1_0]) (l1:[x1_0].all leaf=true) (h2:Zas (τ y2)=some [x2_0]) (l2:[x2_0].all leaf=true):Zaw τ [(0,1,y0),(1,1,y1),(2,1,y2)] [(.v (.int .i64 0)),(.v (.int .i64 0)),(.v (.int .i64 0))]=some [x0_0,x1_0,x2_0]:=by
 simp only[Zaw,h0,l0,h1,l1,h2,l2]
 rfl
theorem Zhw {a0 c0:AV}{l:List AV}:setCells (a0::l) 0 [c0]=c0::l:=rfl
theorem Zca {τ:Operand→AV}{y0 y1:Operand}{x0_0 x1_0:AV}(h0:Zas (τ y0)=some [x0_0]) (l0:[x0_0].all leaf=true) (h1:Zas (τ y1)=some [x1_0]) (l1:[x1_0].all leaf=true):Zaw τ [(0,1,y0),(2,1,y1)] [(.v (.int .i64 0)),(.v (.int .i64 0)),(.v (.int .i64 0))]=some [x0_0,(.v (.int .i64 0)),x1_0]:=by
 simp only[Zaw,h0,l0,h1,l1]
 rfl
end
def c59:AC:=(Sr [Oo 2 (.new 29 3 [(iv 0),(iv 0),(iv 0)])] (Sr [Mv 5 0,Cl 6 24 [(.tmp 5)],Mv 3 6] (.seq (Sr [Mv 7 3,Oo 8 (.len true (.tmp 7)),Bc 9 .geq 8 4,Mv 10 9,Ot 11 10 (mt 3),Ot 12 10 (.sls (.tmp 11) none (some (Ci 4))),Ot 13 10 (.bin .eql (.tmp 12) (.const (.string ⟨#[108,97,115,116]⟩))),Oo 14 (.pick (.tmp 10) (.tmp 13) (.const (.bool false)))] (Cd 14 (Sr [Mv 15 0,Mv 16 3,Oo 17 (.sls (.tmp 16) (some (Ci 4)) none),Cl 18 86 [(.tmp 15),(.tmp 17)],Oo 19 (.build [(iv 0),(iv 0),(iv 0)] [(0,(1,(Ci 2))),(1,(1,(.tmp 18)))]),⟨none,none,(.store 3 (.tmp 2) (.tmp 19))⟩] .ret) .skip)) (.seq (Sr [Mv 20 3,Oo 21 (.len true (.tmp 20)),Bc 22 .gtr 21 5,Mv 23 22,Ot 24 23 (mt 3),Ot 25 23 (.ix (.tmp 24) (Ci 4)),Ot 26 23 (.bin .eql (.tmp 25) (.const (.int .u8 61))),Oo 27 (.pick (.tmp 23) (.tmp 26) (.const (.bool false))),Mv 28 27,Ot 29 28 (mt 3),Ot 30 28 (.ix (.tmp 29) (Ci 3)),Ot 31 28 (.bin .eql (.tmp 30) (.const (.int .u8 62))),Ot 32 28 (mt 31),Of 33 32 (mt 3),Of 34 32 (.ix (.tmp 33) (Ci 3)),Of 35 32 (.bin .eql (.tmp 34) (.const (.int .u8 60))),Ot 36 28 (.pick (.tmp 32) (.const (.bool true)) (.tmp 35)),Oo 37 (.pick (.tmp 28) (.tmp 36) (.const (.bool false)))] (Cd 37 (.seq (.drwU [[],[0],[0],[],[0,1,2,3],[0,1,2,3,4],[0,1,2,3,4],[],[],[0,1,2,3,4,5,6,7,8],[]] [Mv 38 0,Mv 39 3,Oo 40 (.sls (.tmp 39) none (some (Ci 3))),Cl 41 86 [(.tmp 38),(.tmp 40)],Mv 42 0,Mv 43 3,Oo 44 (.sls (.tmp 43) (some (Ci 5)) none),Cl 45 56 [(.tmp 42),(.tmp 44),(Ci 1),(Ci 2)],Oo 46 (.build [(iv 0),(iv 0),(iv 0)] [(0,(1,(Ci 3))),(1,(1,(.tmp 41))),(2,(1,(.tmp 45)))]),Oo 4 (.new 29 3 [(iv 0),(iv 0),(iv 0)]),⟨none,none,(.store 3 (.tmp 4) (.tmp 46))⟩]) (.seq (Sr [Mv 47 3,Oo 48 (.ix (.tmp 47) (Ci 3)),Oo 49 (.bin .eql (.tmp 48) (.const (.int .u8 60)))] (Cd 49 (.reg [Fa 50 0 4,⟨none,none,(.store 1 (.tmp 50) (Ci 4))⟩]) .skip)) (Sr [Oo 51 (.load true 3 (.tmp 4)),⟨none,none,(.store 3 (.tmp 2) (.tmp 51))⟩] .ret))) .skip)) (Sr [Mv 52 0,Mv 53 3,Cl 54 56 [(.tmp 52),(.tmp 53),(Ci 1),(Ci 2)],Oo 55 (.build [(iv 0),(iv 0),(iv 0)] [(0,(1,(Ci 1))),(2,(1,(.tmp 54)))]),⟨none,none,(.store 3 (.tmp 2) (.tmp 55))⟩] .ret)))))
theorem k59:ZaO Try.prog 59=some ⟨c59,[(.cell 2 true 3)],56⟩:=by kernel_rfl
def c52:AC:=(Sr [Mc 4 0] (.seq (Sr [Mv 9 1,Oo 10 (.bin .eql (.tmp 9) (.const (.string ⟨#[48]⟩)))] (Cd 10 (Sr [Mc 4 0] .ret) .skip)) (Sr [Oo 5 (.mv (.const (.slice none 0 0)))] (Sr [Mc 6 0] (.seq (Sr [Mc 7 0] (.block 0 (.loop (.seq (Sr [Mv 11 7,Mv 12 1,Oo 13 (.len true (.tmp 12)),Bn 14 .leq 11 13] (Cd 14 .skip (.exit 0))) (.seq (.block 1 (Sr [Mv 17 7,Mv 18 1,Oo 19 (.len true (.tmp 18)),Bn 20 .eql 17 19,Mv 21 20,Of 22 21 (mt 1),Of 23 21 (mt 7),Of 24 21 (.ix (.tmp 22) (.tmp 23)),Of 25 21 (.bin .eql (.tmp 24) (.const (.int .u8 58))),Oo 26 (.pick (.tmp 21) (.const (.bool true)) (.tmp 25))] (Cd 26 (Sr [Mv 27 5,Mv 28 1,Mv 29 6,Mv 30 7,Oo 31 (.sls (.tmp 28) (some (.tmp 29)) (some (.tmp 30))),Oo 32 (.lit 9 1 1 [Ss] [(0,(1,(.tmp 31)))]),Oo 33 (.app 9 1 16 (.tmp 27) (.tmp 32)),Mv 5 33] (.reg [Mv 34 7,Bc 35 .add 34 1,Mv 6 35])) .skip))) (.reg [Mv 15 7,Bc 16 .add 15 1,Mv 7 16])))))) (.seq (Sr [Mv 36 5,Oo 37 (.len false (.tmp 36)),Bc 38 .neq 37 2,Mv 39 38,Ot 40 39 (mt 5),Ot 41 39 (.len false (.tmp 40)),Ot 42 39 (.bin .neq (.tmp 41) (Ci 3)),Oo 43 (.pick (.tmp 39) (.tmp 42) (.const (.bool false)))] (Cd 43 (Sr [Mv 44 0,Nk 45 44,Fa 46 1 45,⟨none,none,(.store 1 (.tmp 46) (.const (.bool true)))⟩] (Sr [Mc 4 0] .ret)) .skip)) (.seq (.drwU [[],[0],[0],[0],[],[],[0,1,2,3,4,5],[0,1,2,3,4,5,6],[0,1,2,3,4,5,6],[0,1,2,3,4,5,6],[5],[5],[],[]] [Mv 47 0,Mv 48 5,Oo 49 (.ia 1 (.tmp 48) (Ci 0)),Ld 50 49,Cl 51 56 [(.tmp 47),(.tmp 50),(Ci 1),(Ci 2)],Oo 52 (.bin .mul (Ci 3600) (.tmp 51)),Mv 53 0,Mv 54 5,Oo 55 (.ia 1 (.tmp 54) (Ci 1)),Ld 56 55,Cl 57 81 [(.tmp 53),(.tmp 56)],Oo 58 (.bin .mul (Ci 60) (.tmp 57)),Bn 59 .add 52 58,Mv 8 59]) (.seq (Sr [Mv 60 5,Oo 61 (.len false (.tmp 60)),Bc 62 .eql 61 3] (Cd 62 (.reg [Mv 63 8,Mv 64 0,Mv 65 5,Oo 66 (.ia 1 (.tmp 65) (Ci 2)),Ld 67 66,Cl 68 81 [(.tmp 64),(.tmp 67)],Bn 69 .add 63 68,Mv 8 69]) .skip)) (Sr [Mv 70 8,Mv 4 70] .ret)))))))))
theorem k52:ZaO Try.prog 52=some ⟨c52,[(.tmp 4)],71⟩:=by kernel_rfl
def c58:AC:=(Sr [Mc 4 0,Mc 5 0] (Sr [Mv 9 0,Cl 10 24 [(.tmp 9)],Mv 6 10] (Sr [Mv 11 1,Mv 7 11] (.seq (Sr [Mv 12 6,Oo 13 (.bin .neq (.tmp 12) (.const (.string ⟨#[]⟩)))] (Cd 13 (.seq (Sr [Mc 8 1] (.block 0 (.loop (.seq (Sr [Mv 14 8,Bc 15 .leq 14 3] (Cd 15 .skip (.exit 0))) (.seq (.block 1 (Sd [Mv 18 6,Mv 19 6,Oo 20 (.len true (.tmp 19)),Bc 21 .sub 20 1,Oo 22 (.ix (.tmp 18) (.tmp 21)),Mv 23 8,Oo 24 (.ix (.const (.string ⟨#[63,119,115,117]⟩)) (.tmp 23)),Bn 25 .eql 22 24] (Cd 25 (.reg [Mv 26 8,Mv 7 26]) .skip))) (.reg [Mv 16 8,Bc 17 .add 16 1,Mv 8 17])))))) (Sr [Mv 27 6,Mv 28 6,Oo 29 (.len true (.tmp 28)),Bc 30 .sub 29 1,Oo 31 (.ix (.tmp 27) (.tmp 30)),Cl 32 53 [(.tmp 31)],Oo 33 (.un .not (.tmp 32))] (Cd 33 (.seq (Sd [Mv 34 6,Mv 35 6,Oo 36 (.len true (.tmp 35)),Bc 37 .sub 36 1,Oo 38 (.ix (.tmp 34) (.tmp 37)),Mv 39 7,Oo 40 (.ix (.const (.string ⟨#[63,119,115,117]⟩)) (.tmp 39)),Bn 41 .neq 38 40] (Cd 41 (.reg [Mv 42 0,Nk 43 42,Fa 44 1 43,⟨none,none,(.store 1 (.tmp 44) (.const (.bool true)))⟩]) .skip)) (.reg [Mv 45 6,Mv 46 6,Oo 47 (.len true (.tmp 46)),Bc 48 .sub 47 1,Oo 49 (.sls (.tmp 45) none (some (.tmp 48))),Mv 6 49])) .skip))) .skip)) (Sr [Mv 50 0,Mv 51 6,Cl 52 52 [(.tmp 50),(.tmp 51)],Mv 53 7,Mv 4 52,Mv 5 53] .ret)))))
theorem k58:ZaO Try.prog 58=some ⟨c58,[(.tmp 4),(.tmp 5)],54⟩:=by kernel_rfl
theorem Zm5 : ∀ {l:Bs}{n:Int},(∀ c∈l,digB c.toNat=true)→0≤n→0≤decL n l∧decL n l+1≤(n+1)*10 ^ l.length
 | [],n,h,h0=>by simp[decL];omega
 | c::l,n,h,h0=>by
  have hd:=Zj2 (h c (by simp))
  obtain⟨i1,i2⟩:=Zm5 (l:=l) (n:=10*n+c.toNat-48) (fun x hx=>h x (by simp[hx])) om
  refine⟨i1,Int.le_trans i2 ?_⟩
  rw[List.length_cons,Int.pow_succ,Int.mul_comm (10 ^ l.length) 10,←Int.mul_assoc]
  exact Int.mul_le_mul_of_nonneg_right om (by exact_mod_cast Nat.zero_le (10 ^ l.length))
theorem numV_bd {s:ByteArray}{a b n:Int}(h:numV s a b=some n) (hb:b≤4):0≤n∧n<10000∧s.size≤4:=by
 obtain⟨h1,h2,rfl⟩:=ZiR h
 have hz:s.size≤4:=by unfold wi at h1;simp at h1;omega
 have hl:(aB s).length≤4:=by rw[ZdY];exact hz
 have:=Zm5 (l:=aB s) (n:=0) (fun c hc=>Zij (l:=aB s) h2 hc) om
 have hp:(10:Int) ^ (aB s).length≤10000:=by
  obtain⟨m,hm⟩ : ∃ m,m=(aB s).length:=⟨_,rfl⟩
  rw[←hm] at hl ⊢
  have:m=0∨m=1∨m=2∨m=3∨m=4:=by omega
  rcases this with rfl | rfl | rfl | rfl | rfl <;> decide
 omega
theorem Zf5 {s:ByteArray}{a b:Int}{t:TS}(hb:b≤4):0≤(tNum s a b t).1∧(tNum s a b t).1<10000:=by
 unfold tNum
 split
 ·rename_i n hn;have:=numV_bd hn hb;exact⟨this.1,this.2.1⟩
 show (0:Int)≤0∧(0:Int)<10000;decide
theorem Zfc {s:ByteArray}{t:TS}:0≤(tSix s t).1∧(tSix s t).1<10000:=Zf5 om
theorem Zk6 {l:List ByteArray}{t:TS}(h:l.length=2):ZdG (l.map aB) t=(3600*(tNum l[0] 1 2 t).1+60*(tSix l[1] (tNum l[0] 1 2 t).2).1,(tSix l[1] (tNum l[0] 1 2 t).2).2):=by
 match l,h with
 | [a,b],_=>rfl
theorem ZiB {l:List ByteArray}{t:TS}(h:l.length=3):ZdG (l.map aB) t=(3600*(tNum l[0] 1 2 t).1+60*(tSix l[1] (tNum l[0] 1 2 t).2).1+(tSix l[2] (tSix l[1] (tNum l[0] 1 2 t).2).2).1,(tSix l[2] (tSix l[1] (tNum l[0] 1 2 t).2).2).2):=by
 match l,h with
 | [a,b,c],_=>rfl
theorem Zk7 {l:List Bs}{t:TS}(h2:l.length≠2) (h3:l.length≠3):ZdG l t=(0,bad t):=by
 unfold ZdG
 split
 ·exact absurd rfl h2
 ·exact absurd rfl h3
 rfl
theorem Zf1 {s:ByteArray}{t:TS}{id:Nat}{h:AH}(hz:s.size≤24) (h1:h[id]?=some (takE t)):ACalls Try.prog 52 [.ptr id 0 0,sv s] h fun x h'=>x=.ret (iv (Zbc s t).1)∧h'=h.set id (takE (Zbc s t).2):=by
 have hid:id<h.length:=(List.getElem?_eq_some_iff.1 h1).1
 refine tJ' k52 fun N hn hlt hlA hbd=>?_
 simp only[tb'] at hbd ⊢
 refine ZcT (h1:=h.set id (takE t)++[]) (by rw[ZcR h1]) ?_
 refine wr'<|mw<|sn'<|Zan<|wr'<|mw<|Vw (ZcW lk lks)<|sn'<|?_
 refine cd' lk (fun hc1=>?_) (fun hc1=>?_)
 ·have hT:Zbc s t=(0,t):=if_pos hc1
  refine wr'<|mw<|sn'<|Zaa<|Zal<|Zai rz<|?_
  exact⟨_,_,rfl,Zaj hn,Zbr hlt ZaF,rfl,by rw[hT],by rw[hT]⟩
 have hT0:Zbc s t=ZdG (cutC 58 (aB s)) t:=if_neg hc1
 refine Zaf<|Zah<|wr'<|mv' lkn pt5<|Zaq<|ZbY (ALe.own0' (st':=1) (ty:=9) gt5 (hl0 (Zaj hn)) pt5 ha0)<|wr'<|mv' lki pt6<|sn'<|Zan<|Zan<|?_
 refine Zar<|mw<|sn'<|Zao<|?_
 refine w_lp (ι:=Nat×Nat×List ByteArray×Nat) (fun (x_:Nat×Nat×List ByteArray×Nat)=>match x_ with | ⟨f,i,ps,v⟩=>[(5,.own (N+0) v ps.length),(6,iv (f:Int)),(7,iv (i:Int))]++rn' 11 25) (fun (x_:Nat×Nat×List ByteArray×Nat)=>match x_ with | ⟨f,i,ps,v⟩=>[(0,.mk v 9 1 (rows strC ps))]) (fun (x_:Nat×Nat×List ByteArray×Nat)=>match x_ with | ⟨f,i,ps,v⟩=>i≤s.size+1∧f≤i∧ps.length≤i∧(i≤s.size→clean 58 s f i∧cutC 58 (aB s)=ps.map aB++cutC 58 ((aB s).drop f))∧(i=s.size+1→cutC 58 (aB s)=ps.map aB)) (fun (x_:Nat×Nat×List ByteArray×Nat)=>match x_ with | ⟨f,i,ps,v⟩=>s.size+1-i) (⟨0,0,[],0⟩) (by exact⟨by omega,by omega,by simp,fun _=>⟨Zcu,rfl⟩,fun h=>by omega⟩) ?_
 rintro⟨f,i,ps,v⟩ hi1
 try simp only[sm',Nat.reduceAdd]
 obtain⟨hk1,hk2,hk3,hk4,hk5⟩:=hi1
 refine Zan<|wr'<|mw<|mw<|Vw (Za0 lk)<|Vw (Zc5 lk lk)<|sn'<|?_
 refine cd' lk (fun hc2=>?_) (fun hc2=>?_)
 ·have hi:i≤s.size:=by omega
  obtain⟨hk6,hk7⟩:=hk4 hi
  refine Zaf<|Zah<|Zan<|Zao<|wr'<|mw<|mw<|Vw (Za0 lk)<|Vw (ZaS lk lk)<|mw<|?_
  refine sp' (t:=21) gt pt pt (fun hg21=>?_) (fun hg21=>?_)
  ·have hie:i=s.size:=by omega
   have hseg:cutC 58 (aB s)=(ps++[s.extract f i]).map aB:=by rw[hk7,Zi7 hk6 hk2 hie];simp
   refine s_no gt pt<|s_no gt pt<|s_no gt pt<|s_no gt pt<|Vw (Zag lk lkb)<|sn'<|ZaH lk<|wr'<|mw<|mw<|mw<|mw<|?_
   refine V' (Zc4 lk (oi lk) (oi lk) om om om) pt ?_
   refine E' (Zgo (ZfE cv rfl) (hl1 (Zaj hn)) ha1) pt ?_
   refine E' (Zfl (Zdc lk (hga (Zaj hn) rfl) rfl Zjg (nb' rfl)) lk (hga (Zaj hn) rfl) (ZjA _) om rfl (hs0 (Zaj hn))) pt ?_
   refine mw<|sn'<|Zar<|mw<|?_
   refine V' (Zau lk lki om om) pt ?_
   refine mw<|Zaq<|ZaC<|Zah<|Zar<|mw<|?_
   refine V' (Zau lk lki om om) pt ?_
   refine mw<|Zaq<|ZaB<|?_
   refine lU' (⟨i+1,i+1,ps++[s.extract f i],v+1⟩) (by (try dsimp only);exact⟨by omega,by omega,by simp;omega,fun h=>by omega,fun _=>hseg⟩) (by (try dsimp only);(try simp only[sm',Nat.reduceAdd]);exact bkE' 1 (Zaj hn) (Zbr hlt ZaF) (by repeat (first | exact wk0 | refine wka ?_ | refine wk1 rfl ?_ | refine wk1 (by first | rfl | exact ivx om | (simp;done)) ?_)) (by simp only[Zbz,Zby,strC];rfl))
  have hilt:i<s.size:=by omega
  refine s_do gt<|mw<|s_do gt<|mw<|s_do gt<|?_
  refine V' (v_ix lk lk om om) pt ?_
  refine s_do gt<|Vw (ZaS lk lki)<|Vw (Zab lk lk)<|sn'<|?_
  refine cd' lk (fun hc3=>?_) (fun hc3=>?_)
  ·have hx:Zay s i=58:=Zgt (n:=58) om hc3
   have hseg:cutC 58 (aB s)=(ps++[s.extract f i]).map aB++cutC 58 ((aB s).drop (i+1)):=by rw[hk7,ZkU hk6 hk2 hilt hx];simp
   refine wr'<|mw<|mw<|mw<|mw<|?_
   refine V' (Zc4 lk (oi lk) (oi lk) om om om) pt ?_
   refine E' (Zgo (ZfE cv rfl) (hl1 (Zaj hn)) ha1) pt ?_
   refine E' (Zfl (Zdc lk (hga (Zaj hn) rfl) rfl Zjg (nb' rfl)) lk (hga (Zaj hn) rfl) (ZjA _) om rfl (hs0 (Zaj hn))) pt ?_
   refine mw<|sn'<|Zar<|mw<|?_
   refine V' (Zau lk lki om om) pt ?_
   refine mw<|Zaq<|ZaC<|Zah<|Zar<|mw<|?_
   refine V' (Zau lk lki om om) pt ?_
   refine mw<|Zaq<|ZaB<|?_
   refine lU' (⟨i+1,i+1,ps++[s.extract f i],v+1⟩) (by (try dsimp only);exact⟨by omega,by omega,by simp;omega,fun h=>⟨Zcu,hseg⟩,fun h=>by omega⟩) (by (try dsimp only);(try simp only[sm',Nat.reduceAdd]);exact bkE' 1 (Zaj hn) (Zbr hlt ZaF) (by repeat (first | exact wk0 | refine wka ?_ | refine wk1 rfl ?_ | refine wk1 (by first | rfl | exact ivx om | (simp;done)) ?_)) (by simp only[Zbz,Zby,strC];rfl))
  have hx:Zay s i≠58:=Zie (n:=58) om hc3
  refine Zaf<|ZaC<|Zah<|Zar<|mw<|?_
  refine V' (Zau lk lki om om) pt ?_
  refine mw<|Zaq<|ZaB<|?_
  refine lU' (⟨f,i+1,ps,v⟩) (by (try dsimp only);exact⟨by omega,by omega,by omega,fun h=>⟨ZkX hk6 hk2 hilt hx,hk7⟩,fun h=>by omega⟩) (by (try dsimp only);(try simp only[sm',Nat.reduceAdd]);exact ALe.same (by repeat (first | exact wk0 | refine wka ?_ | refine wk1 rfl ?_ | refine wk1 (by first | rfl | exact ivx om | (simp;done)) ?_)) rfl)
 have hC:=hk5 om
 rw[hC] at hT0
 have hps:ps.length≤25:=by omega
 refine ZaX<|ZaN<|ZaN<|Zbq<|Zah<|Zan<|wr'<|mw<|Vw (ZdE lk)<|Vw (Za1 lk lki)<|mw<|?_
 refine sp' (t:=39) gt pt pt (fun hg39=>?_) (fun hg39=>?_)
 ·refine s_do gt<|mw<|s_do gt<|Vw (ZdE lk)<|s_do gt<|Vw (Za1 lk lki)<|Vw (Zag lk lk)<|sn'<|?_
  refine cd' lk (fun hc4=>?_) (fun hc4=>?_)
  ·rw[Zk7 (by rw[List.length_map];omega) (by rw[List.length_map];omega)] at hT0
   refine wr'<|mw<|Vw (ZbL lk)<|Vw (Zac lk)<|E' (Zam lk (cvl lkb rfl) (ZaQ hid) rfl (nb' rfl) rfl Zhv (ZaD hid)) ptn<|sn'<|wr'<|mw<|sn'<|Zaa<|?_
   refine Zal<|Zai rz<|?_
   exact⟨_,_,rfl,Zaj hn,Zbr hlt ZaF,rfl,by rw[hT0],by rw[hT0]⟩
  have hl3:ps.length=3:=by omega
  have hl0:2≤ps.length:=by omega
  rw[ZiB hl3] at hT0
  refine Zaf ?_
  refine ZbY (ALe.iceR (hga (Zaj hn) rfl) gt5 (List.take_of_length_le (by rw[Za7 Zbt];first | exact Nat.le_refl _ | omega)) (by rw[Za7 Zbt];first | exact Nat.le_refl _ | omega) pt5 (hs0 (Zaj hn))) ?_
  refine Zan<|ZbC<|u_fr rfl (v_mv lk) pt<|u_fr rfl (v_mv lk) pt<|?_
  refine u_fr rfl (ZaY (k:=0) lk lki Zbt (nb' rfl) ro om ro rfl) pt ?_
  refine u_fr rfl (ZaA lk gt) pt ?_
  refine ZcC mp (ZaQ hid) (fun hU hUe=>ZcX om hUe) nh (ZaD hid) pt ?_
  have hb1:=Zf5 (s:=ps[0]) (a:=1) (b:=2) (t:=t) om
  refine u_fr rfl (Ze7 lki lk om om) pt ?_
  refine u_fr rfl (v_mv lk) pt<|u_fr rfl (v_mv lk) pt<|?_
  refine u_fr rfl (ZaY (k:=1) lk lki Zbt (nb' rfl) ro om ro rfl) pt ?_
  refine u_fr rfl (ZaA lk gt) pt ?_
  refine ZcC mp (ZaQ hid) (fun hU hUe=>ZlY hUe) nh (ZaD hid) pt ?_
  have hb2:=Zfc (s:=ps[1]) (t:=(tNum ps[0] 1 2 t).2)
  refine u_fr rfl (Ze7 lki lk om om) pt ?_
  refine u_fr rfl (Zau lk lk om om) pt ?_
  refine u_fr rfl (v_mv lk) pt<|ZcB<|Zah<|Zan<|wr'<|mw<|Vw (Za6 lk)<|Vw (ZaS lk lki)<|sn'<|?_
  refine ZdD lk (by simp[hl3]) ?_
  refine Zar<|mw<|mw<|mw<|?_
  refine V' (ZaY (k:=2) lk lki Zbt (nb' rfl) ro om ro rfl) pt ?_
  refine Vw (ZaA lk gt)<|ZaJ mp (ZlY (ZaQ hid)) (ZaD hid) pt<|?_
  have hb3:=Zfc (s:=ps[2]) (t:=(tSix ps[1] (tNum ps[0] 1 2 t).2).2)
  refine V' (Zau lk lk om om) pt ?_
  refine mw<|sn'<|wr'<|mw<|mw<|sn'<|Zaa<|Zai rz<|?_
  exact⟨_,_,rfl,Zaj hn,Zbr hlt ZaF,rfl,by rw[hT0] <;> rfl,by rw[hT0] <;> rfl⟩
 have hl2:ps.length=2:=by omega
 have hl0:2≤ps.length:=by omega
 rw[Zk6 hl2] at hT0
 refine s_no gt pt<|s_no gt pt<|s_no gt pt<|Vw (Zab lk lkb)<|sn'<|ZaG lk<|Zaf<|?_
 refine ZbY (ALe.iceR (hga (Zaj hn) rfl) gt5 (List.take_of_length_le (by rw[Za7 Zbt];first | exact Nat.le_refl _ | omega)) (by rw[Za7 Zbt];first | exact Nat.le_refl _ | omega) pt5 (hs0 (Zaj hn))) ?_
 refine Zan<|ZbC<|u_fr rfl (v_mv lk) pt<|u_fr rfl (v_mv lk) pt<|?_
 refine u_fr rfl (ZaY (k:=0) lk lki Zbt (nb' rfl) ro om ro rfl) pt ?_
 refine u_fr rfl (ZaA lk gt) pt ?_
 refine ZcC mp (ZaQ hid) (fun hU hUe=>ZcX om hUe) nh (ZaD hid) pt ?_
 have hb1:=Zf5 (s:=ps[0]) (a:=1) (b:=2) (t:=t) om
 refine u_fr rfl (Ze7 lki lk om om) pt ?_
 refine u_fr rfl (v_mv lk) pt<|u_fr rfl (v_mv lk) pt<|?_
 refine u_fr rfl (ZaY (k:=1) lk lki Zbt (nb' rfl) ro om ro rfl) pt ?_
 refine u_fr rfl (ZaA lk gt) pt ?_
 refine ZcC mp (ZaQ hid) (fun hU hUe=>ZlY hUe) nh (ZaD hid) pt ?_
 have hb2:=Zfc (s:=ps[1]) (t:=(tNum ps[0] 1 2 t).2)
 refine u_fr rfl (Ze7 lki lk om om) pt ?_
 refine u_fr rfl (Zau lk lk om om) pt ?_
 refine u_fr rfl (v_mv lk) pt<|ZcB<|Zah<|Zan<|wr'<|mw<|Vw (Za6 lk)<|Vw (ZaS lk lki)<|sn'<|?_
 refine Zb1 lk (by simp[hl2]) ?_
 refine Zaf<|Zah<|wr'<|mw<|mw<|sn'<|Zaa<|Zai rz<|?_
 exact⟨_,_,rfl,Zaj hn,Zbr hlt ZaF,rfl,by rw[hT0] <;> rfl,by rw[hT0] <;> rfl⟩
theorem ZcD {t t1:TS}{s:ByteArray}{id:Nat}{h:AH}(he:ZaK t=(s,t1)) (h1:h[id]?=some (takE t)):ACalls Try.prog 24 [.ptr id 0 0] h fun x h'=>x=.ret (sv s)∧h'=h.set id (takE t1):=by
 have:=Zjw h1
 rw[he] at this
 exact this
theorem Zd7 {s:ByteArray}{k:Nat}{n:Int}(h:¬((Zay s (k:Int).toNat).toNat:Int)=n):Zce s k≠n:=h
theorem tform_a {t:TS}{id:Nat}{h:AH}(hz:(ZaK t).1.size≤24) (h1:h[id]?=some (takE t)):ACalls Try.prog 59 [.ptr id 0 0] h fun x h'=>x=.ret (.agg [iv (Zfd t).1.1,iv (Zfd t).1.2.1,iv (Zfd t).1.2.2])∧h'=h.set id (takE (Zfd t).2):=by
 have hid:id<h.length:=(List.getElem?_eq_some_iff.1 h1).1
 obtain⟨s,t1,he⟩ : ∃ s t1,ZaK t=(s,t1):=⟨_,_,rfl⟩
 have hF:Zfd t=Zbo s t1:=by unfold Zfd;rw[he]
 rw[he] at hz
 replace hz:s.size≤24:=hz
 obtain⟨q,hq⟩ : ∃ q,q=Zc9 s:=⟨_,rfl⟩
 have hK:Zc9 s=if 4≤s.size∧s.extract 0 4=bA [108,97,115,116] then 2 else if 5<s.size∧Zce s 4=61∧Zce s 3=62 then 3 else if 5<s.size∧Zce s 4=61∧Zce s 3=60 then 4 else 1:=rfl
 refine tJ' k59 fun N hn hlt hlA hbd=>?_
 simp only[tb'] at hbd ⊢
 refine ZcT (h1:=h.set id (takE t)++[]) (by rw[ZcR h1]) ?_
 refine wr'<|E' (ZbZ (hl0 (Zaj hn)) ha0) pt<|sn'<|wr'<|mw<|ZaJ mp (ZcD he (ZaQ hid)) (ZaD hid) pt<|mw<|sn'<|Zan<|Zan<|?_
 refine Zar<|mw<|Vw (Za0 lk)<|Vw (Ze8 lk lki)<|mw<|?_
 refine sp' (t:=10) gt pt pt (fun hg10=>?_) (fun hg10=>?_)
 ·refine s_do gt<|mw<|s_do gt<|?_
  refine V' (Zc4 lk on_ (oi lki) om om om) pt ?_
  refine s_do gt<|Vw (ZcW lk lks)<|Vw (Zag lk lk)<|sn'<|?_
  refine cd' lk (fun hc1=>?_) (fun hc1=>?_)
  ·have hk:Zc9 s=2:=by rw[hK];exact if_pos ⟨by omega,hc1⟩
   have hT:Zfd t=((2,(Zda (s.extract 4 s.size) t1).1,0),(Zda (s.extract 4 s.size) t1).2):=by rw[hF];unfold Zbo;rw[if_pos hk]
   refine wr'<|mw<|mw<|?_
   refine V' (Zc4 lk (oi lki) on_ om om om) pt ?_
   refine ZaJ mp (ZfY (ZaQ hid)) (ZaD hid) pt<|Vw (Zax (Zjh (cvl lki rfl) rfl cv rfl))<|E' (Zam lk cv (hga (Zaj hn) rfl) rfl (nb' rfl) rfl Za5 (hs0 (Zaj hn))) ptn<|sn'<|Zaa<|Zal<|Zai (rs1 (rr_c gt (hga (Zaj hn) rfl) (ld1 Za4 rfl)))<|?_
   exact⟨_,_,rfl,Zaj hn,Zbr hlt ZaF,rfl,by rw[hT] <;> rfl,by rw[hT] <;> rfl⟩
  have hn2:¬(4≤s.size∧s.extract 0 4=bA [108,97,115,116]):=fun e=>hc1 e.2
  rw[if_neg hn2] at hK
  refine Zaf<|Zah<|Zan<|wr'<|mw<|Vw (Za0 lk)<|Vw (ZbI lk lki)<|mw<|?_
  refine sp' (t:=23) gt pt pt (fun hg23=>?_) (fun hg23=>?_)
  ·refine s_do gt<|mw<|s_do gt<|?_
   refine V' (v_ix lk lki om om) pt ?_
   refine s_do gt<|Vw (ZaS lk lki)<|Vw (Zag lk lk)<|mw<|?_
   refine sp' (t:=28) gt pt pt (fun hg28=>?_) (fun hg28=>?_)
   ·refine s_do gt<|mw<|s_do gt<|?_
    refine V' (v_ix lk lki om om) pt ?_
    refine s_do gt<|Vw (ZaS lk lki)<|s_do gt<|mw<|?_
    refine sp' (t:=32) gt pt pt (fun hg32=>?_) (fun hg32=>?_)
    ·have hk:Zc9 s=3:=by rw[hK];exact if_pos ⟨by omega,hg28,hg32⟩
     refine s_no gt pt<|s_no gt pt<|s_no gt pt<|s_do gt<|Vw (Zag lk lkb)<|Vw (Zag lk lk)<|sn'<|ZaH lk<|Zan<|ZbC<|u_fr rfl (v_mv lk) pt<|u_fr rfl (v_mv lk) pt<|?_
     refine u_fr rfl (Zc4 lk on_ (oi lki) om om om) pt ?_
     refine ZcC mp (ZaQ hid) (fun hU hUe=>ZfY hUe) nh (ZaD hid) pt ?_
     refine u_fr rfl (v_mv lk) pt<|u_fr rfl (v_mv lk) pt<|?_
     refine u_fr rfl (Zc4 lk (oi lki) on_ om om om) pt ?_
     refine ZcC mp (ZaQ hid) (fun hU hUe=>ZcX om hUe) nh (ZaD hid) pt ?_
     refine u_fr rfl (Zax (Zc3 (cvl lki rfl) rfl cv rfl cv rfl)) pt ?_
     refine u_al rfl (ZbZ (hl1 (Zaj hn)) ha1) (hl1 (Zaj hn)) nh pt ?_
     refine u_st (Zam lk cv (hga (Zaj hn) rfl) rfl (nb' rfl) rfl Za5 (hs1 (Zaj hn))) lk nh ptn ?_
     refine ZcB<|Zah<|Zan<|wr'<|mw<|?_
     refine V' (v_ix lk lki om om) pt ?_
     refine Vw (ZaS lk lki)<|sn'<|?_
     refine Zb1 lk (by exact decide_eq_false (by rw[hg32];decide)) ?_
     refine Zaf<|Zah<|wr'<|Vw (ZaE lk (hga (Zaj hn) rfl) Za4 rfl)<|E' (Zam lk cv (hga (Zaj hn) rfl) rfl (nb' rfl) rfl Za5 (hs0 (Zaj hn))) ptn<|sn'<|Zaa<|Zal<|Zai (rs1 (rr_c gt (hga (Zaj hn) rfl) (ld1 Za4 rfl)))<|?_
     exact⟨_,_,rfl,Zaj hn,Zbr hlt ZaF,rfl,by rw[hF];unfold Zbo;rw[hk] <;> rfl,by rw[hF];unfold Zbo;rw[hk] <;> rfl⟩
    have h3:Zce s 3≠62:=Zd7 hg32
    refine s_do gt<|mw<|s_do gt<|?_
    refine V' (v_ix lk lki om om) pt ?_
    refine s_do gt<|Vw (ZaS lk lki)<|s_do gt<|Vw (Zab lk lk)<|Vw (Zag lk lk)<|sn'<|?_
    refine cd' lk (fun hc2=>?_) (fun hc2=>?_)
    ·have hk:Zc9 s=4:=by rw[hK,if_neg (fun e=>h3 e.2.2)];exact if_pos ⟨by omega,hg28,hc2⟩
     refine Zan<|ZbC<|u_fr rfl (v_mv lk) pt<|u_fr rfl (v_mv lk) pt<|?_
     refine u_fr rfl (Zc4 lk on_ (oi lki) om om om) pt ?_
     refine ZcC mp (ZaQ hid) (fun hU hUe=>ZfY hUe) nh (ZaD hid) pt ?_
     refine u_fr rfl (v_mv lk) pt<|u_fr rfl (v_mv lk) pt<|?_
     refine u_fr rfl (Zc4 lk (oi lki) on_ om om om) pt ?_
     refine ZcC mp (ZaQ hid) (fun hU hUe=>ZcX om hUe) nh (ZaD hid) pt ?_
     refine u_fr rfl (Zax (Zc3 (cvl lki rfl) rfl cv rfl cv rfl)) pt ?_
     refine u_al rfl (ZbZ (hl1 (Zaj hn)) ha1) (hl1 (Zaj hn)) nh pt ?_
     refine u_st (Zam lk cv (hga (Zaj hn) rfl) rfl (nb' rfl) rfl Za5 (hs1 (Zaj hn))) lk nh ptn ?_
     refine ZcB<|Zah<|Zan<|wr'<|mw<|?_
     refine V' (v_ix lk lki om om) pt ?_
     refine Vw (ZaS lk lki)<|sn'<|?_
     refine ZdD lk (by exact decide_eq_true hc2) ?_
     refine Zar<|Vw (Zac lk)<|E' (Zam lk (cvl lki rfl) (hga (Zaj hn) rfl) rfl (nb' rfl) rfl Zhw (hs1 (Zaj hn))) ptn<|sn'<|wr'<|Vw (ZaE lk (hga (Zaj hn) rfl) Za4 rfl)<|E' (Zam lk cv (hga (Zaj hn) rfl) rfl (nb' rfl) rfl Za5 (hs0 (Zaj hn))) ptn<|sn'<|Zaa<|Zal<|Zai (rs1 (rr_c gt (hga (Zaj hn) rfl) (ld1 Za4 rfl)))<|?_
     exact⟨_,_,rfl,Zaj hn,Zbr hlt ZaF,rfl,by rw[hF];unfold Zbo;rw[hk] <;> rfl,by rw[hF];unfold Zbo;rw[hk] <;> rfl⟩
    have h3':Zce s 3≠60:=Zd7 hc2
    have hk:Zc9 s=1:=by rw[hK,if_neg (fun e=>h3 e.2.2),if_neg (fun e=>h3' e.2.2)]
    refine Zaf<|Zah<|wr'<|mw<|mw<|?_
    refine ZaJ mp (ZcX om (ZaQ hid)) (ZaD hid) pt ?_
    refine Vw (Zax (Zca (cvl lki rfl) rfl cv rfl))<|E' (Zam lk cv (hga (Zaj hn) rfl) rfl (nb' rfl) rfl Za5 (hs0 (Zaj hn))) ptn<|sn'<|Zaa<|Zai (rs1 (rr_c gt (hga (Zaj hn) rfl) (ld1 Za4 rfl)))<|?_
    exact⟨_,_,rfl,Zaj hn,Zbr hlt ZaF,rfl,by rw[hF];unfold Zbo;rw[hk] <;> rfl,by rw[hF];unfold Zbo;rw[hk] <;> rfl⟩
   have h4:Zce s 4≠61:=Zd7 hg28
   have hk:Zc9 s=1:=by rw[hK,if_neg (fun e=>h4 e.2.1),if_neg (fun e=>h4 e.2.1)]
   refine s_no gt pt<|s_no gt pt<|s_no gt pt<|s_no gt pt<|s_nu gt pt<|s_nu gt pt<|s_nu gt pt<|s_no gt pt<|Vw (Zab lk lkb)<|sn'<|ZaG lk<|Zaf<|Zah<|?_
   refine wr'<|mw<|mw<|?_
   refine ZaJ mp (ZcX om (ZaQ hid)) (ZaD hid) pt ?_
   refine Vw (Zax (Zca (cvl lki rfl) rfl cv rfl))<|E' (Zam lk cv (hga (Zaj hn) rfl) rfl (nb' rfl) rfl Za5 (hs0 (Zaj hn))) ptn<|sn'<|Zaa<|Zai (rs1 (rr_c gt (hga (Zaj hn) rfl) (ld1 Za4 rfl)))<|?_
   exact⟨_,_,rfl,Zaj hn,Zbr hlt ZaF,rfl,by rw[hF];unfold Zbo;rw[hk] <;> rfl,by rw[hF];unfold Zbo;rw[hk] <;> rfl⟩
  have hk:Zc9 s=1:=by rw[hK,if_neg om,if_neg om]
  refine s_no gt pt<|s_no gt pt<|s_no gt pt<|Vw (Zab lk lkb)<|mw<|s_no gt pt<|s_no gt pt<|s_no gt pt<|s_no gt pt<|s_nu gt pt<|s_nu gt pt<|s_nu gt pt<|s_no gt pt<|Vw (Zab lk lkb)<|?_
  refine sn'<|ZaG lk<|Zaf<|Zah<|wr'<|mw<|mw<|?_
  refine ZaJ mp (ZcX om (ZaQ hid)) (ZaD hid) pt ?_
  refine Vw (Zax (Zca (cvl lki rfl) rfl cv rfl))<|E' (Zam lk cv (hga (Zaj hn) rfl) rfl (nb' rfl) rfl Za5 (hs0 (Zaj hn))) ptn<|sn'<|Zaa<|Zai (rs1 (rr_c gt (hga (Zaj hn) rfl) (ld1 Za4 rfl)))<|?_
  exact⟨_,_,rfl,Zaj hn,Zbr hlt ZaF,rfl,by rw[hF];unfold Zbo;rw[hk] <;> rfl,by rw[hF];unfold Zbo;rw[hk] <;> rfl⟩
 have hn2:¬(4≤s.size∧s.extract 0 4=bA [108,97,115,116]):=fun e=>by omega
 rw[if_neg hn2] at hK
 refine s_no gt pt<|s_no gt pt<|s_no gt pt<|Vw (Zab lk lkb)<|sn'<|ZaG lk<|Zaf<|Zah<|Zan<|wr'<|mw<|Vw (Za0 lk)<|?_
 refine Vw (ZbI lk lki)<|mw<|?_
 refine sp' (t:=23) gt pt pt (fun hg23=>?_) (fun hg23=>?_)
 ·refine s_do gt<|mw<|s_do gt<|?_
  refine V' (v_ix lk lki om om) pt ?_
  refine s_do gt<|Vw (ZaS lk lki)<|Vw (Zag lk lk)<|mw<|?_
  refine sp' (t:=28) gt pt pt (fun hg28=>?_) (fun hg28=>?_)
  ·refine s_do gt<|mw<|s_do gt<|?_
   refine V' (v_ix lk lki om om) pt ?_
   refine s_do gt<|Vw (ZaS lk lki)<|s_do gt<|mw<|?_
   refine sp' (t:=32) gt pt pt (fun hg32=>?_) (fun hg32=>?_)
   ·have hk:Zc9 s=3:=by rw[hK];exact if_pos ⟨by omega,hg28,hg32⟩
    refine s_no gt pt<|s_no gt pt<|s_no gt pt<|s_do gt<|Vw (Zag lk lkb)<|Vw (Zag lk lk)<|sn'<|ZaH lk<|Zan<|ZbC<|u_fr rfl (v_mv lk) pt<|u_fr rfl (v_mv lk) pt<|?_
    refine u_fr rfl (Zc4 lk on_ (oi lki) om om om) pt ?_
    refine ZcC mp (ZaQ hid) (fun hU hUe=>ZfY hUe) nh (ZaD hid) pt ?_
    refine u_fr rfl (v_mv lk) pt<|u_fr rfl (v_mv lk) pt<|?_
    refine u_fr rfl (Zc4 lk (oi lki) on_ om om om) pt ?_
    refine ZcC mp (ZaQ hid) (fun hU hUe=>ZcX om hUe) nh (ZaD hid) pt ?_
    refine u_fr rfl (Zax (Zc3 (cvl lki rfl) rfl cv rfl cv rfl)) pt ?_
    refine u_al rfl (ZbZ (hl1 (Zaj hn)) ha1) (hl1 (Zaj hn)) nh pt ?_
    refine u_st (Zam lk cv (hga (Zaj hn) rfl) rfl (nb' rfl) rfl Za5 (hs1 (Zaj hn))) lk nh ptn ?_
    refine ZcB<|Zah<|Zan<|wr'<|mw<|?_
    refine V' (v_ix lk lki om om) pt ?_
    refine Vw (ZaS lk lki)<|sn'<|?_
    refine Zb1 lk (by exact decide_eq_false (by rw[hg32];decide)) ?_
    refine Zaf<|Zah<|wr'<|Vw (ZaE lk (hga (Zaj hn) rfl) Za4 rfl)<|E' (Zam lk cv (hga (Zaj hn) rfl) rfl (nb' rfl) rfl Za5 (hs0 (Zaj hn))) ptn<|sn'<|Zaa<|Zal<|Zai (rs1 (rr_c gt (hga (Zaj hn) rfl) (ld1 Za4 rfl)))<|?_
    exact⟨_,_,rfl,Zaj hn,Zbr hlt ZaF,rfl,by rw[hF];unfold Zbo;rw[hk] <;> rfl,by rw[hF];unfold Zbo;rw[hk] <;> rfl⟩
   have h3:Zce s 3≠62:=Zd7 hg32
   refine s_do gt<|mw<|s_do gt<|?_
   refine V' (v_ix lk lki om om) pt ?_
   refine s_do gt<|Vw (ZaS lk lki)<|s_do gt<|Vw (Zab lk lk)<|Vw (Zag lk lk)<|sn'<|?_
   refine cd' lk (fun hc2=>?_) (fun hc2=>?_)
   ·have hk:Zc9 s=4:=by rw[hK,if_neg (fun e=>h3 e.2.2)];exact if_pos ⟨by omega,hg28,hc2⟩
    refine Zan<|ZbC<|u_fr rfl (v_mv lk) pt<|u_fr rfl (v_mv lk) pt<|?_
    refine u_fr rfl (Zc4 lk on_ (oi lki) om om om) pt ?_
    refine ZcC mp (ZaQ hid) (fun hU hUe=>ZfY hUe) nh (ZaD hid) pt ?_
    refine u_fr rfl (v_mv lk) pt<|u_fr rfl (v_mv lk) pt<|?_
    refine u_fr rfl (Zc4 lk (oi lki) on_ om om om) pt ?_
    refine ZcC mp (ZaQ hid) (fun hU hUe=>ZcX om hUe) nh (ZaD hid) pt ?_
    refine u_fr rfl (Zax (Zc3 (cvl lki rfl) rfl cv rfl cv rfl)) pt ?_
    refine u_al rfl (ZbZ (hl1 (Zaj hn)) ha1) (hl1 (Zaj hn)) nh pt ?_
    refine u_st (Zam lk cv (hga (Zaj hn) rfl) rfl (nb' rfl) rfl Za5 (hs1 (Zaj hn))) lk nh ptn ?_
    refine ZcB<|Zah<|Zan<|wr'<|mw<|?_
    refine V' (v_ix lk lki om om) pt ?_
    refine Vw (ZaS lk lki)<|sn'<|?_
    refine ZdD lk (by exact decide_eq_true hc2) ?_
    refine Zar<|Vw (Zac lk)<|E' (Zam lk (cvl lki rfl) (hga (Zaj hn) rfl) rfl (nb' rfl) rfl Zhw (hs1 (Zaj hn))) ptn<|sn'<|wr'<|Vw (ZaE lk (hga (Zaj hn) rfl) Za4 rfl)<|E' (Zam lk cv (hga (Zaj hn) rfl) rfl (nb' rfl) rfl Za5 (hs0 (Zaj hn))) ptn<|sn'<|Zaa<|Zal<|Zai (rs1 (rr_c gt (hga (Zaj hn) rfl) (ld1 Za4 rfl)))<|?_
    exact⟨_,_,rfl,Zaj hn,Zbr hlt ZaF,rfl,by rw[hF];unfold Zbo;rw[hk] <;> rfl,by rw[hF];unfold Zbo;rw[hk] <;> rfl⟩
   have h3':Zce s 3≠60:=Zd7 hc2
   have hk:Zc9 s=1:=by rw[hK,if_neg (fun e=>h3 e.2.2),if_neg (fun e=>h3' e.2.2)]
   refine Zaf<|Zah<|wr'<|mw<|mw<|?_
   refine ZaJ mp (ZcX om (ZaQ hid)) (ZaD hid) pt ?_
   refine Vw (Zax (Zca (cvl lki rfl) rfl cv rfl))<|E' (Zam lk cv (hga (Zaj hn) rfl) rfl (nb' rfl) rfl Za5 (hs0 (Zaj hn))) ptn<|sn'<|Zaa<|Zai (rs1 (rr_c gt (hga (Zaj hn) rfl) (ld1 Za4 rfl)))<|?_
   exact⟨_,_,rfl,Zaj hn,Zbr hlt ZaF,rfl,by rw[hF];unfold Zbo;rw[hk] <;> rfl,by rw[hF];unfold Zbo;rw[hk] <;> rfl⟩
  have h4:Zce s 4≠61:=Zd7 hg28
  have hk:Zc9 s=1:=by rw[hK,if_neg (fun e=>h4 e.2.1),if_neg (fun e=>h4 e.2.1)]
  refine s_no gt pt<|s_no gt pt<|s_no gt pt<|s_no gt pt<|s_nu gt pt<|s_nu gt pt<|s_nu gt pt<|s_no gt pt<|Vw (Zab lk lkb)<|sn'<|ZaG lk<|Zaf<|Zah<|?_
  refine wr'<|mw<|mw<|?_
  refine ZaJ mp (ZcX om (ZaQ hid)) (ZaD hid) pt ?_
  refine Vw (Zax (Zca (cvl lki rfl) rfl cv rfl))<|E' (Zam lk cv (hga (Zaj hn) rfl) rfl (nb' rfl) rfl Za5 (hs0 (Zaj hn))) ptn<|sn'<|Zaa<|Zai (rs1 (rr_c gt (hga (Zaj hn) rfl) (ld1 Za4 rfl)))<|?_
  exact⟨_,_,rfl,Zaj hn,Zbr hlt ZaF,rfl,by rw[hF];unfold Zbo;rw[hk] <;> rfl,by rw[hF];unfold Zbo;rw[hk] <;> rfl⟩
 have hk:Zc9 s=1:=by rw[hK,if_neg om,if_neg om]
 refine s_no gt pt<|s_no gt pt<|s_no gt pt<|Vw (Zab lk lkb)<|mw<|s_no gt pt<|s_no gt pt<|s_no gt pt<|s_no gt pt<|s_nu gt pt<|s_nu gt pt<|s_nu gt pt<|s_no gt pt<|Vw (Zab lk lkb)<|?_
 refine sn'<|ZaG lk<|Zaf<|Zah<|wr'<|mw<|mw<|?_
 refine ZaJ mp (ZcX om (ZaQ hid)) (ZaD hid) pt ?_
 refine Vw (Zax (Zca (cvl lki rfl) rfl cv rfl))<|E' (Zam lk cv (hga (Zaj hn) rfl) rfl (nb' rfl) rfl Za5 (hs0 (Zaj hn))) ptn<|sn'<|Zaa<|Zai (rs1 (rr_c gt (hga (Zaj hn) rfl) (ld1 Za4 rfl)))<|?_
 exact⟨_,_,rfl,Zaj hn,Zbr hlt ZaF,rfl,by rw[hF];unfold Zbo;rw[hk] <;> rfl,by rw[hF];unfold Zbo;rw[hk] <;> rfl⟩
theorem ZkK {c d:Int}(hd:d=1∨d=2) : ∀ k:Nat,k≤3→1≤ZcH c d k∧ZcH c d k≤3
 | 0,_=>by unfold ZcH;omega
 | k+1,h=>by
  have:=ZkK (c:=c) hd k om
  unfold ZcH
  split <;> omega
theorem tclock_a {d:Int}{t:TS}{id:Nat}{h:AH}(hd:d=1∨d=2) (hz:(ZaK t).1.size≤24) (h1:h[id]?=some (takE t)):ACalls Try.prog 58 [.ptr id 0 0,iv d] h fun x h'=>x=.ret (.tup [iv (Zcy d t).1.1,iv (Zcy d t).1.2])∧h'=h.set id (takE (Zcy d t).2):=by
 have hid:id<h.length:=(List.getElem?_eq_some_iff.1 h1).1
 obtain⟨s,t1,he⟩ : ∃ s t1,ZaK t=(s,t1):=⟨_,_,rfl⟩
 have hF:Zcy d t=Zc7 d s t1:=by unfold Zcy;rw[he]
 rw[he] at hz
 replace hz:s.size≤24:=hz
 have hem:=Zd4 (f:=s)
 have hkb:=ZkK (c:=Zcd s) hd 3 om
 have hws:(⟨#[63,119,115,117]⟩:ByteArray).size=4:=rfl
 refine tJ' k58 fun N hn hlt hlA hbd=>?_
 simp only[tb'] at hbd ⊢
 refine ZcT (h1:=h.set id (takE t)++[]) (by rw[ZcR h1]) ?_
 refine wr'<|mw<|mw<|sn'<|wr'<|mw<|ZaJ mp (ZcD he (ZaQ hid)) (ZaD hid) pt<|mw<|sn'<|Zan<|?_
 refine Zar<|mw<|mw<|sn'<|Zan<|wr'<|mw<|Vw (ZcV lk lks)<|sn'<|?_
 refine cd' lk (fun hc1=>?_) (fun hc1=>?_)
 ·have h0:s.size≠0:=fun e=>hc1 (hem.2 e)
  have hL:((Zay s ((s.size:Int)-1).toNat).toNat:Int)=Zcd s:=by unfold Zcd Zce;congr 2;congr 1;omega
  have hbl:(0:Int)≤((Zay s ((s.size:Int)-1).toNat).toNat:Int)∧((Zay s ((s.size:Int)-1).toNat).toNat:Int)≤255:=ZdW _ _
  refine Zan<|wr'<|mw<|sn'<|Zao<|?_
  refine w_lp (ι:=Nat) (fun (k:Nat)=>[(7,iv (ZcH (Zcd s) d k)),(8,iv ((k+1:Nat):Int))]++rn' 14 13) (fun (k:Nat)=>[]) (fun (k:Nat)=>k≤3) (fun (k:Nat)=>3-k) (0) om ?_
  rintro k hi1
  try simp only[sm',Nat.reduceAdd]
  refine Zan<|wr'<|mw<|Vw (Zc5 lk lki)<|sn'<|?_
  refine cd' lk (fun hc2=>?_) (fun hc2=>?_)
  ·have hk:k+1≤3:=by omega
   refine Zaf<|Zah<|Zan<|Zao<|Zan<|Zcg<|Dw (v_mv lk)<|Dw (v_mv lk)<|Dw (Za0 lk)<|?_
   refine D' (Zbi lk lki om om) pt ?_
   refine D' (v_ix lk lk om om) pt ?_
   refine D' (v_mv lk) pt ?_
   refine D' (v_ix lks lk om om) pt ?_
   refine Dw (ZaS lk lk)<|ZbB<|?_
   refine ZbS ?_
   refine sn' ?_
   refine cd' lk (fun hc3=>?_) (fun hc3=>?_)
   ·have hkk:ZcH (Zcd s) d (k+1)=((k+1:Nat):Int):=by unfold ZcH;exact if_pos (hL.symm.trans hc3)
    refine Zar<|mw<|mw<|Zaq<|ZaC<|Zah<|Zar<|mw<|?_
    refine V' (Zau lk lki om om) pt ?_
    refine mw<|Zaq<|ZaB<|?_
    refine lU' (k+1) (by (try dsimp only);omega) (by (try dsimp only);(try simp only[sm',Nat.reduceAdd]);exact ALe.same (by repeat (first | exact wk0 | refine wka ?_ | refine wk1 rfl ?_ | refine wk1 (by first | rfl | exact ivx om | exact ivx hkk.symm) ?_)) rfl)
   have hkk:ZcH (Zcd s) d (k+1)=ZcH (Zcd s) d k:=by rw[ZcH,if_neg (show ¬Zcd s=Zce wsuA (k+1) from fun e=>hc3 (hL.trans e))]
   refine Zaf<|ZaC<|Zah<|Zar<|mw<|?_
   refine V' (Zau lk lki om om) pt ?_
   refine mw<|Zaq<|ZaB<|?_
   refine lU' (k+1) (by (try dsimp only);omega) (by (try dsimp only);(try simp only[sm',Nat.reduceAdd]);exact ALe.same (by repeat (first | exact wk0 | refine wka ?_ | refine wk1 rfl ?_ | refine wk1 (by first | rfl | exact ivx om | exact ivx hkk.symm) ?_)) rfl)
  have hk3:k=3:=by omega
  subst hk3
  refine ZaX<|ZaN<|ZaN<|Zbq<|Zah<|wr'<|mw<|mw<|Vw (Za0 lk)<|?_
  refine V' (Zbi lk lki om om) pt ?_
  refine V' (v_ix lk lk om om) pt ?_
  refine Zak mp (Zdf hbl.1 hbl.2) pt<|Vw (Zav lk)<|sn'<|?_
  refine Zaz lk (fun hc4=>?_) (fun hc4=>?_)
  ·have hdg:¬digB (Zcd s)=true:=by rw[←hL];simpa using hc4
   refine Zan<|Zan<|Zcg<|Dw (v_mv lk)<|Dw (v_mv lk)<|Dw (Za0 lk)<|?_
   refine D' (Zbi lk lki om om) pt ?_
   refine D' (v_ix lk lk om om) pt ?_
   refine D' (v_mv lk) pt ?_
   refine D' (v_ix lks lk om om) pt ?_
   refine Dw (Za1 lk lk)<|ZbB<|?_
   refine ZbS ?_
   refine sn' ?_
   refine cd' lk (fun hc5=>?_) (fun hc5=>?_)
   ·have hne:¬Zcd s=Zce wsuA (ZcH (Zcd s) d 3).toNat:=fun e=>hc5 (hL.trans e)
    have hT:Zcy d t=(((Zbc (s.extract 0 (s.size-1)) (bad t1)).1,ZcH (Zcd s) d 3),(Zbc (s.extract 0 (s.size-1)) (bad t1)).2):=by rw[hF];unfold Zc7;rw[if_neg h0,if_neg hdg];simp only[if_neg hne]
    refine Zar<|mw<|Vw (ZbL lk)<|Vw (Zac lk)<|E' (Zam lk (cvl lkb rfl) (ZaQ hid) rfl (nb' rfl) rfl Zhv (ZaD hid)) ptn<|sn'<|Zar<|mw<|mw<|Vw (Za0 lk)<|?_
    refine V' (Zbi lk lki om om) pt ?_
    refine V' (Zc4 lk on_ (oi lk) om om om) pt ?_
    rw[show s.extract (Int.toNat 0) ((s.size:Int)-1).toNat=s.extract 0 (s.size-1) by congr 1;omega]
    refine mw<|sn'<|wr'<|mw<|mw<|?_
    refine ZaJ mp (Zf1 (t:=bad t1) (by first | assumption | (rw[ByteArray.size_extract];omega)) (ZaQ hid)) (ZaD hid) pt ?_
    refine mw<|mw<|mw<|sn'<|Zaa<|Zai ry<|?_
    exact⟨_,_,rfl,Zaj hn,Zbr hlt ZaF,rfl,by rw[hT] <;> rfl,by rw[hT] <;> rfl⟩
   have hne:Zcd s=Zce wsuA (ZcH (Zcd s) d 3).toNat:=hL.symm.trans (Decidable.of_not_not hc5)
   have hT:Zcy d t=(((Zbc (s.extract 0 (s.size-1)) t1).1,ZcH (Zcd s) d 3),(Zbc (s.extract 0 (s.size-1)) t1).2):=by rw[hF];unfold Zc7;rw[if_neg h0,if_neg hdg];simp only[if_pos hne]
   refine Zaf<|Zah<|Zar<|mw<|mw<|Vw (Za0 lk)<|?_
   refine V' (Zbi lk lki om om) pt ?_
   refine V' (Zc4 lk on_ (oi lk) om om om) pt ?_
   rw[show s.extract (Int.toNat 0) ((s.size:Int)-1).toNat=s.extract 0 (s.size-1) by congr 1;omega]
   refine mw<|sn'<|wr'<|mw<|mw<|?_
   refine ZaJ mp (Zf1 (t:=t1) (by first | assumption | (rw[ByteArray.size_extract];omega)) (ZaQ hid)) (ZaD hid) pt ?_
   refine mw<|mw<|mw<|sn'<|Zaa<|Zai ry<|?_
   exact⟨_,_,rfl,Zaj hn,Zbr hlt ZaF,rfl,by rw[hT] <;> rfl,by rw[hT] <;> rfl⟩
  have hdg:digB (Zcd s)=true:=by rw[←hL];simpa using hc4
  have hT:Zcy d t=(((Zbc s t1).1,ZcH (Zcd s) d 3),(Zbc s t1).2):=by rw[hF];unfold Zc7;rw[if_neg h0,if_pos hdg]
  refine Zaf<|Zah<|wr'<|mw<|mw<|?_
  refine ZaJ mp (Zf1 (t:=t1) (by first | assumption | (rw[ByteArray.size_extract];omega)) (ZaQ hid)) (ZaD hid) pt ?_
  refine mw<|mw<|mw<|sn'<|Zaa<|Zai ry<|?_
  exact⟨_,_,rfl,Zaj hn,Zbr hlt ZaF,rfl,by rw[hT] <;> rfl,by rw[hT] <;> rfl⟩
 have h0:s.size=0:=hem.1 (Decidable.of_not_not hc1)
 have hT:Zcy d t=(((Zbc s t1).1,d),(Zbc s t1).2):=by rw[hF];exact if_pos h0
 refine Zaf<|Zah<|wr'<|mw<|mw<|?_
 refine ZaJ mp (Zf1 (t:=t1) (by first | assumption | (rw[ByteArray.size_extract];omega)) (ZaQ hid)) (ZaD hid) pt ?_
 refine mw<|mw<|mw<|sn'<|Zaa<|Zai ry<|?_
 exact⟨_,_,rfl,Zaj hn,Zbr hlt ZaF,rfl,by rw[hT] <;> rfl,by rw[hT] <;> rfl⟩
end Go.Proofs.Yticajimgfndceaa
end
section
namespace Go.Proofs.Yticajimgfndceaa
open Go.Ab Go.RowKit Civ
attribute [local simp] ZbT
section
theorem Zeb {a0 c0:AV}{l:List AV}:setCells (a0::l) 0 [c0]=c0::l:=rfl
theorem Zbj {a0 a1 c0:AV}{l:List AV}:setCells (a0::a1::l) 1 [c0]=a0::c0::l:=rfl
theorem Zdj {a0 a1 a2 c0:AV}{l:List AV}:setCells (a0::a1::a2::l) 2 [c0]=a0::a1::c0::l:=rfl
theorem Zhu {a0 a1 a2 a3 c0:AV}{l:List AV}:setCells (a0::a1::a2::a3::l) 3 [c0]=a0::a1::a2::c0::l:=rfl
theorem Zly {a0 a1 a2 a3 a4 a5 a6 c0 c1 c2:AV}{l:List AV}:setCells (a0::a1::a2::a3::a4::a5::a6::l) 4 [c0,c1,c2]=a0::a1::a2::a3::c0::c1::c2::l:=rfl
theorem Zlw {a0 a1 a2 a3 a4 a5 a6 a7 c0:AV}{l:List AV}:setCells (a0::a1::a2::a3::a4::a5::a6::a7::l) 7 [c0]=a0::a1::a2::a3::a4::a5::a6::c0::l:=rfl
theorem Zht {a0 a1 a2 a3 a4 a5 a6 a7 a8 c0:AV}{l:List AV}:setCells (a0::a1::a2::a3::a4::a5::a6::a7::a8::l) 8 [c0]=a0::a1::a2::a3::a4::a5::a6::a7::c0::l:=rfl
theorem Zhs {a0 a1 a2 a3 a4 a5 a6 a7 a8 a9 c0:AV}{l:List AV}:setCells (a0::a1::a2::a3::a4::a5::a6::a7::a8::a9::l) 9 [c0]=a0::a1::a2::a3::a4::a5::a6::a7::a8::c0::l:=rfl
theorem Zev {a0 a1 a2 a3 a4 a5 a6 a7 a8 a9 a10 c0:AV}{l:List AV}:setCells (a0::a1::a2::a3::a4::a5::a6::a7::a8::a9::a10::l) 10 [c0]=a0::a1::a2::a3::a4::a5::a6::a7::a8::a9::c0::l:=rfl
theorem ZbO {a0 a1 a2 a3 a4 a5 a6 a7 a8 a9 a10:AV}{l:List AV}:((a0::a1::a2::a3::a4::a5::a6::a7::a8::a9::a10::l).drop 0).take 11=[a0,a1,a2,a3,a4,a5,a6,a7,a8,a9,a10]:=rfl
theorem Zdx {a0 a1 a2 a3 a4 a5 a6 a7 a8 a9 a10 c0 c1 c2 c3 c4 c5 c6 c7 c8 c9 c10:AV}{l:List AV}:setCells (a0::a1::a2::a3::a4::a5::a6::a7::a8::a9::a10::l) 0 [c0,c1,c2,c3,c4,c5,c6,c7,c8,c9,c10]=c0::c1::c2::c3::c4::c5::c6::c7::c8::c9::c10::l:=rfl
theorem Zlz {a0 a1 a2 a3 a4 c0:AV}{l:List AV}:setCells (a0::a1::a2::a3::a4::l) 4 [c0]=a0::a1::a2::a3::c0::l:=rfl
theorem Zcx {a0 a1 a2 a3 a4 a5 a6 a7 a8 a9:AV}{l:List AV}:((a0::a1::a2::a3::a4::a5::a6::a7::a8::a9::l).drop 0).take 10=[a0,a1,a2,a3,a4,a5,a6,a7,a8,a9]:=rfl
theorem Zew {a0 a1 a2 a3 a4 a5 a6 a7 a8 a9 c0 c1 c2 c3 c4 c5 c6 c7 c8 c9:AV}{l:List AV}:setCells (a0::a1::a2::a3::a4::a5::a6::a7::a8::a9::l) 0 [c0,c1,c2,c3,c4,c5,c6,c7,c8,c9]=c0::c1::c2::c3::c4::c5::c6::c7::c8::c9::l:=rfl
theorem Zim {τ:Operand→AV}{y0 y1 y2:Operand}{x0_0 x1_0 x2_0:AV}(h0:Zas (τ y0)=some [x0_0]) (l0:[x0_0].all leaf=true) (h1:Zas (τ y1)=some [x1_0]) (l1:[x1_0].all leaf=true) (h2:Zas (τ y2)=some [x2_0]) (l2:[x2_0].all leaf=true):Zaw τ [(0,1,y0),(1,1,y1),(2,1,y2)] [(.v (.int .i64 0)),(.v (.int .i64 0)),(.v (.int .i64 0))]=some [x0_0,x1_0,x2_0]:=by
 simp only[Zaw,h0,l0,h1,l1,h2,l2]
 rfl
theorem Zlx {a0 a1 a2 a3 a4 a5 a6 a7 c0 c1 c2:AV}{l:List AV}:setCells (a0::a1::a2::a3::a4::a5::a6::a7::l) 5 [c0,c1,c2]=a0::a1::a2::a3::a4::c0::c1::c2::l:=rfl
end
def c26:AC:=(Sr [Oo 2 (.new 31 11 [Ss,(iv 0),(iv 0),(iv 0),(iv 0),(iv 0),(iv 0),(iv 0),(iv 0),(iv 0),Ss])] (Sr [Oo 3 (.new 31 11 [Ss,(iv 0),(iv 0),(iv 0),(iv 0),(iv 0),(iv 0),(iv 0),(iv 0),(iv 0),Ss])] (Sr [Mv 5 0,Cl 6 27 [(.tmp 5)],Fa 7 0 3,Sc 7 6] (Sr [Mv 8 0,Mv 9 0,Cl 10 24 [(.tmp 9)],Cl 11 56 [(.tmp 8),(.tmp 10),(Ci 4),(Ci 4)],Fa 12 1 3,Sc 12 11] (Sr [Mv 13 0,Cl 14 24 [(.tmp 13)],Mv 4 14] (.seq (Sr [Mv 15 4] (.block 0 (Sr [Oo 21 (.bin .eql (.tmp 15) (.const (.string ⟨#[111,110,108,121]⟩))),Mv 20 21] (Cd 20 (.reg [Fa 22 1 3,Ld 23 22,Fa 24 2 3,Sc 24 23]) (Sr [Oo 26 (.bin .eql (.tmp 15) (.const (.string ⟨#[109,97,120]⟩))),Mv 25 26] (Cd 25 (.reg [Fa 27 2 3,⟨none,none,(.store 1 (.tmp 27) (Ci 2100))⟩]) (.reg [Mv 16 0,Mv 17 4,Cl 18 56 [(.tmp 16),(.tmp 17),(Ci 4),(Ci 4)],Fa 19 2 3,Sc 19 18]))))))) (Sr [Mv 28 0,Cl 29 57 [(.tmp 28)],Fa 30 3 3,Sc 30 29] (Sr [Mv 31 0,Cl 32 59 [(.tmp 31)],Fa 33 4 3,⟨none,none,(.store 3 (.tmp 33) (.tmp 32))⟩] (Sr [Mv 35 0,Cl 36 58 [(.tmp 35),(Ci 1)],Mv 34 36,Ex 37 34 0,Ex 38 34 1,Fa 39 7 3,Sc 39 37,Fa 40 8 3,Sc 40 38] (Sr [Mv 41 0,Mv 42 0,Cl 43 24 [(.tmp 42)],Cl 44 52 [(.tmp 41),(.tmp 43)],Fa 45 9 3,Sc 45 44] (Sr [Mv 46 0,Cl 47 24 [(.tmp 46)],Mv 4 47] (.seq (Sr [Mv 48 4,Oo 49 (.bin .eql (.tmp 48) (.const (.string ⟨#[]⟩))),Mv 50 49,Of 51 50 (mt 4),Of 52 50 (.bin .neq (.tmp 51) (.const (.string ⟨#[45]⟩))),Of 53 50 (mt 52),Ot 54 53 (mt 4),Ot 55 53 (.call (.func 60) [(.tmp 54)]),Ot 56 53 (.un .not (.tmp 55)),Of 57 50 (.pick (.tmp 53) (.tmp 56) (.const (.bool false))),Oo 58 (.pick (.tmp 50) (.const (.bool true)) (.tmp 57))] (Cd 58 (.reg [Mv 59 0,Nk 60 59,Fa 61 1 60,⟨none,none,(.store 1 (.tmp 61) (.const (.bool true)))⟩]) .skip)) (.seq (Sr [Mv 62 4,Oo 63 (.bin .neq (.tmp 62) (.const (.string ⟨#[45]⟩)))] (Cd 63 (.reg [Mv 64 4,Fa 65 10 3,Sc 65 64]) .skip)) (Sr [Oo 66 (.load true 11 (.tmp 3)),⟨none,none,(.store 11 (.tmp 2) (.tmp 66))⟩] .ret))))))))))))))
theorem k26:ZaO Try.prog 26=some ⟨c26,[(.cell 2 true 11)],67⟩:=by kernel_rfl
def c25:AC:=(Sr [Oo 2 (.new 77 10 [(iv 0),Ss,(iv 0),Ss,(.v (.bool false)),(iv 0),(iv 0),(iv 0),(iv 0),(iv 0)])] (Sr [Oo 3 (.new 77 10 [(iv 0),Ss,(iv 0),Ss,(.v (.bool false)),(iv 0),(iv 0),(iv 0),(iv 0),(iv 0)])] (Sr [Mv 8 0,Cl 9 24 [(.tmp 8)],Mv 4 9] (.seq (Sr [Mv 10 4,Oo 11 (.bin .neq (.tmp 10) (.const (.string ⟨#[]⟩))),Mv 12 11,Ot 13 12 (mt 4),Ot 14 12 (.ix (.tmp 13) (Ci 0)),Ot 15 12 (.bin .eql (.tmp 14) (.const (.int .u8 45))),Oo 16 (.pick (.tmp 12) (.tmp 15) (.const (.bool false)))] (Cd 16 (.reg [Mv 17 0,Mv 18 4,Oo 19 (.sls (.tmp 18) (some (Ci 1)) none),Cl 20 52 [(.tmp 17),(.tmp 19)],Oo 21 (.un .neg (.tmp 20)),Fa 22 0 3,Sc 22 21]) (.reg [Mv 23 0,Mv 24 4,Cl 25 52 [(.tmp 23),(.tmp 24)],Fa 26 0 3,Sc 26 25]))) (Sr [Mv 27 0,Cl 28 24 [(.tmp 27)],Mv 4 28] (.seq (.block 0 (Sr [Mv 38 4,Oo 39 (.bin .eql (.tmp 38) (.const (.string ⟨#[45]⟩))),Mv 37 39] (Cd 37 .skip (Sr [Mv 41 4,Oo 42 (.bin .neq (.tmp 41) (.const (.string ⟨#[]⟩))),Mv 43 42,Ot 44 43 (mt 4),Ot 45 43 (.ix (.tmp 44) (Ci 0)),Ot 46 43 (.call (.func 53) [(.tmp 45)]),Oo 47 (.pick (.tmp 43) (.tmp 46) (.const (.bool false))),Mv 40 47] (Cd 40 (.seq (Sr [Mv 48 4,Oo 49 (.bin .eql (.tmp 48) (.const (.string ⟨#[48]⟩)))] (Cd 49 (.reg [Mv 50 0,Nk 51 50,Fa 52 1 51,⟨none,none,(.store 1 (.tmp 52) (.const (.bool true)))⟩]) .skip)) (.reg [Mv 53 0,Mv 54 4,Cl 55 52 [(.tmp 53),(.tmp 54)],Fa 56 2 3,Sc 56 55])) (.seq (Sr [Mv 29 4,Cl 30 54 [(.tmp 29)],Oo 31 (.un .not (.tmp 30))] (Cd 31 (.reg [Mv 32 0,Nk 33 32,Fa 34 1 33,⟨none,none,(.store 1 (.tmp 34) (.const (.bool true)))⟩]) .skip)) (.reg [Mv 35 4,Fa 36 1 3,Sc 36 35]))))))) (Sr [Mv 57 0,Cl 58 24 [(.tmp 57)],Fa 59 3 3,Sc 59 58] (.seq (Sr [Fa 60 3 3,Ld 61 60,Cl 62 55 [(.tmp 61)],Oo 63 (.un .not (.tmp 62))] (Cd 63 (.reg [Mv 64 0,Nk 65 64,Fa 66 1 65,⟨none,none,(.store 1 (.tmp 66) (.const (.bool true)))⟩]) .skip)) (.seq (Sr [Mv 67 0,Nk 68 67,Fa 69 0 68,Ld 70 69,Oo 71 (.len false (.tmp 70)),Bc 72 .eql 71 0] (Cd 72 (Sr [Fa 73 4 3,⟨none,none,(.store 1 (.tmp 73) (.const (.bool true)))⟩] (Sr [Oo 74 (.load true 10 (.tmp 3)),⟨none,none,(.store 10 (.tmp 2) (.tmp 74))⟩] .ret)) .skip)) (Sr [Mv 75 0,Mv 76 0,Cl 77 24 [(.tmp 76)],Cl 78 56 [(.tmp 75),(.tmp 77),(Ci 4),(Ci 4)],Mv 5 78] (Sr [Mv 79 0,Cl 80 57 [(.tmp 79)],Mv 6 80] (Sr [Mv 81 0,Mv 82 0,Cl 83 24 [(.tmp 82)],Cl 84 56 [(.tmp 81),(.tmp 83),(Ci 1),(Ci 2)],Mv 7 84] (Sr [Mv 85 5,Mv 86 6,Mv 87 7,Oo 88 (.build [(iv 0),(iv 0),(iv 0)] [(0,(1,(.tmp 85))),(1,(1,(.tmp 86))),(2,(1,(.tmp 87)))]),Fa 89 5 3,Fa 90 0 89,⟨none,none,(.store 3 (.tmp 90) (.tmp 88))⟩] (Sr [Mv 92 0,Cl 93 58 [(.tmp 92),(Ci 2)],Mv 91 93,Ex 94 91 0,Ex 95 91 1,Fa 96 5 3,Fa 97 3 96,Sc 97 94,Fa 98 5 3,Fa 99 4 98,Sc 99 95] (.seq (Sr [Fa 100 5 3,Fa 101 4 100,Ld 102 101,Bc 103 .eql 102 1] (Cd 103 (.reg [Mv 104 0,Nk 105 104,Fa 106 1 105,⟨none,none,(.store 1 (.tmp 106) (.const (.bool true)))⟩]) .skip)) (Sr [Oo 107 (.load true 10 (.tmp 3)),⟨none,none,(.store 10 (.tmp 2) (.tmp 107))⟩] .ret))))))))))))))))
theorem k25:ZaO Try.prog 25=some ⟨c25,[(.cell 2 true 10)],108⟩:=by kernel_rfl
def okTS (t:TS):Prop := ∀ x∈t.1,x.size≤24
theorem Zeo {t u:TS}(h:u.1=t.1) (ho:okTS t):okTS u:=by unfold okTS;rw[h];exact ho
theorem ZaW {t u:TS}{s:ByteArray}(ho:okTS t) (e:ZaK t=(s,u)):s.size≤24∧okTS u:=by
 unfold ZaK at e
 split at e
 ·cases e;exact⟨by decide,ho⟩
 rename_i hn
 obtain⟨l,b⟩:=t
 cases l with
 | nil=>exact absurd (.inr rfl) hn
 | cons x l=>cases e;exact⟨ho x (by simp),fun y hy=>ho y (by simp only[List.mem_cons];exact .inr hy)⟩
theorem tNum_fst {s:ByteArray}{a b:Int}{t:TS}:(tNum s a b t).2.1=t.1:=by unfold tNum;split <;> rfl
theorem ZiA {s:ByteArray}{t:TS}:(Zda s t).2.1=t.1:=by unfold Zda;split <;> rfl
theorem tSix_fst {s:ByteArray}{t:TS}:(tSix s t).2.1=t.1:=by unfold tSix;dsimp only;split <;> exact tNum_fst
theorem tSpan_fst {s:ByteArray}{t:TS}:(Zbc s t).2.1=t.1:=by
 unfold Zbc
 split
 ·rfl
 unfold ZdG
 split
 ·exact tSix_fst.trans tNum_fst
 ·exact tSix_fst.trans (tSix_fst.trans tNum_fst)
 rfl
theorem Zk8 {s:ByteArray}{t:TS}:(Zbo s t).2.1=t.1:=by
 unfold Zbo
 split
 ·exact ZiA
 split
 ·exact tNum_fst
 exact tNum_fst.trans ZiA
theorem Zjz {d:Int}{s:ByteArray}{t:TS}:(Zc7 d s t).2.1=t.1:=by
 unfold Zc7
 split
 ·exact tSpan_fst
 split
 ·exact tSpan_fst
 refine tSpan_fst.trans ?_
 split <;> rfl
theorem tTo_fst {f:Int}{s:ByteArray}{t:TS}:(tTo f s t).2.1=t.1:=by
 unfold tTo
 split
 ·rfl
 split
 ·rfl
 exact tNum_fst
theorem ZeL {t u:TS}{s:ByteArray}(ho:okTS t) (e:ZdH t=(s,u)):okTS u:=by
 obtain⟨x,v,ev⟩ : ∃ x v,ZaK t=(x,v):=⟨_,_,rfl⟩
 unfold ZdH at e
 rw[ev] at e
 have:=(ZaW ho ev).2
 simp only[Prod.mk.injEq] at e
 obtain⟨_,e2⟩:=e
 subst e2
 split
 ·exact this
 exact this
theorem Zfg {t u:TS}{n:Int}(ho:okTS t) (e:ZcO t=(n,u)):okTS u:=by
 obtain⟨x,v,ev⟩ : ∃ x v,ZaK t=(x,v):=⟨_,_,rfl⟩
 unfold ZcO at e
 rw[ev] at e
 have:=(ZaW ho ev).2
 split at e <;> cases e <;> exact this
theorem ZfR {s:ByteArray}{a b n:Int}{t u:TS}(ho:okTS t) (e:tNum s a b t=(n,u)):okTS u:=Zeo (by have := @tNum_fst s a b t;rw[e] at this;exact this) ho
theorem Zgf {s:ByteArray}{n:Int}{t u:TS}(ho:okTS t) (e:Zbc s t=(n,u)):okTS u:=Zeo (by have := @tSpan_fst s t;rw[e] at this;exact this) ho
theorem ZmB {f:Int}{s:ByteArray}{n:Int}{t u:TS}(ho:okTS t) (e:tTo f s t=(n,u)):okTS u:=Zeo (by have := @tTo_fst f s t;rw[e] at this;exact this) ho
theorem ZiP {n:Frm}{t u:TS}(ho:okTS t) (e:Zfd t=(n,u)):okTS u:=by
 obtain⟨x,v,ev⟩ : ∃ x v,ZaK t=(x,v):=⟨_,_,rfl⟩
 unfold Zfd at e
 rw[ev] at e
 exact Zeo (by have := @Zk8 x v;rw[e] at this;exact this) (ZaW ho ev).2
theorem Zfh {d:Int}{n:Int×Int}{t u:TS}(ho:okTS t) (e:Zcy d t=(n,u)):okTS u:=by
 obtain⟨x,v,ev⟩ : ∃ x v,ZaK t=(x,v):=⟨_,_,rfl⟩
 unfold Zcy at e
 rw[ev] at e
 exact Zeo (by have := @Zjz d x v;rw[e] at this;exact this) (ZaW ho ev).2
theorem ZhI {t t1:TS}{s:ByteArray}{id:Nat}{h:AH}(ho:okTS t) (he:ZdH t=(s,t1)) (h1:h[id]?=some (takE t)):ACalls Try.prog 27 [.ptr id 0 0] h fun x h'=>x=.ret (sv s)∧h'=h.set id (takE t1):=by
 have:=tname_a (by have:=(ZaW ho (s:=(ZaK t).1) (u:=(ZaK t).2) rfl).1;unfold maxLen;omega) h1
 rw[he] at this
 exact this
theorem Zkl {s:ByteArray}{a b n:Int}{t t1:TS}{id:Nat}{h:AH}(hb:b≤4) (he:tNum s a b t=(n,t1)) (h1:h[id]?=some (takE t)):ACalls Try.prog 56 [.ptr id 0 0,sv s,iv a,iv b] h fun x h'=>x=.ret (iv n)∧h'=h.set id (takE t1):=by
 have:=ZcX (s:=s) (a:=a) hb h1
 rw[he] at this
 exact this
theorem Zkm {n:Int}{t t1:TS}{id:Nat}{h:AH}(he:ZcO t=(n,t1)) (h1:h[id]?=some (takE t)):ACalls Try.prog 57 [.ptr id 0 0] h fun x h'=>x=.ret (iv n)∧h'=h.set id (takE t1):=by
 have:=tmonth_a h1
 rw[he] at this
 exact this
theorem tform_e {n:Frm}{t t1:TS}{id:Nat}{h:AH}(ho:okTS t) (he:Zfd t=(n,t1)) (h1:h[id]?=some (takE t)):ACalls Try.prog 59 [.ptr id 0 0] h fun x h'=>x=.ret (.agg [iv n.1,iv n.2.1,iv n.2.2])∧h'=h.set id (takE t1):=by
 have:=tform_a (ZaW ho (s:=(ZaK t).1) (u:=(ZaK t).2) rfl).1 h1
 rw[he] at this
 exact this
theorem Zkr {d:Int}{n:Int×Int}{t t1:TS}{id:Nat}{h:AH}(hd:d=1∨d=2) (ho:okTS t) (he:Zcy d t=(n,t1)) (h1:h[id]?=some (takE t)):ACalls Try.prog 58 [.ptr id 0 0,iv d] h fun x h'=>x=.ret (.tup [iv n.1,iv n.2])∧h'=h.set id (takE t1):=by
 have:=tclock_a hd (ZaW ho (s:=(ZaK t).1) (u:=(ZaK t).2) rfl).1 h1
 rw[he] at this
 exact this
theorem Zfa {s:ByteArray}{n:Int}{t t1:TS}{id:Nat}{h:AH}(hz:s.size≤24) (he:Zbc s t=(n,t1)) (h1:h[id]?=some (takE t)):ACalls Try.prog 52 [.ptr id 0 0,sv s] h fun x h'=>x=.ret (iv n)∧h'=h.set id (takE t1):=by
 have:=Zf1 hz h1
 rw[he] at this
 exact this
end Go.Proofs.Yticajimgfndceaa
end
