/-
  Part 4 of the proof: own lemmas and contracts on plain data. No condition beyond those that each lemma states.
-/
import Derived.Test.YtgjchdhdopgkkaaGreatDoorB3
import Derived.Lib.IndexMore
import Derived.Lib.IndexLaws
import Derived.Maps.OwnOps
import Derived.Maps.OwnSet
import Derived.Test.YtgjchdhdopgkkaaGreatDoorCards
import Derived.Test.YtgjchdhdopgkkaaGreatDoorTie
import Derived.Lay
import Derived.Handed
import Derived.SizedLaws
import Derived.Shelf.Vars
import Derived.SevenTiedAt
import Derived.LaidSub
import Derived.MakeChecks
set_option linter.all false
set_option maxRecDepth 1000000
set_option maxHeartbeats 4000000
section
namespace Go.Proofs.YtgjchdhdopgkkaaGreatDoor
open Go.Ab Go.RowKit Civ
attribute [local simp] Zbd
theorem ZgA {s:ByteArray}{h:AH}(hz:s.size≤24):ACalls Tryz.prog 147 [sv s] h fun x h'=>h'=h∧x=res ((ZbV s).map iv):=by
 obtain ⟨ps,hps⟩ : ∃ ps,ps=(cutC 58 (aB s)).map bA:=⟨_,rfl⟩
 have hcut:cutC 58 (aB s)=ps.map aB:=by rw [hps];exact cutC_map
 have hlen:(cutC 58 (aB s)).length=ps.length:=by rw [hps,List.length_map]
 have hpz : ∀ x∈ps,x.size≤24:=by
  intro x hx
  rw [hps] at hx
  obtain ⟨y,hy,rfl⟩:=List.mem_map.1 hx
  have:=ZgV 58 hy
  rw [Zbr] at this
  rw [ZaQ];omega
 refine tI' k147 fun N hn hlt hlA hbd=>?_
 simp only [tb'] at hbd ⊢
 refine wr'<|mv' lki pt<|sn'<|Zam<|wr'<|mv' lk pt<|V' (Zcj lk lks) pt<|sn'<|?_
 refine cd' lk (fun hc1=>?_) (fun hc1=>?_)
 ·have hN:ZbV s=some 0:=if_pos hc1
  refine wr'<|mv' lki pt<|sn'<|Zab<|Zak<|Zag rz<|?_
  exact ⟨_,rfl,rfl,by rw [hN];rfl⟩
 have h0:s≠bA [48]:=hc1
 refine Zaf<|Zai<|wr'<|mv' lk pt<|?_
 refine Zae mp (ZjN (by omega)) pt ?_
 rw [hlen,←hps]
 refine mv' lk pt<|sn'<|Zam<|wr'<|mv' lk pt<|V' (ZaK lk) pt<|V' (Zbu lk lki) pt<|mv' lk pt<|?_
 refine sp' (t:=15) gt pt pt (fun hg15=>?_) (fun hg15=>?_)
 ·have hN:ZbV s=none:=Zmj h0 hcut (by omega) (by omega)
  refine s_no gt pt<|s_no gt pt<|s_no gt pt<|V' (Zaj lk lkb) pt<|sn'<|ZaG lk<|Zar<|Zay mp0 (ZbO)<|ZaS<|Zba<|?_
  exact ⟨_,rfl,rfl,by rw [hN];rfl⟩
 refine s_do gt<|mv' lk pt<|s_do gt<|V' (ZaK lk) pt<|s_do gt<|V' (ZbN lk lki) pt<|V' (Zah lk lk) pt<|sn'<|?_
 refine cd' lk (fun hc2=>?_) (fun hc2=>?_)
 ·have hN:ZbV s=none:=Zmj h0 hcut (by omega) (by omega)
  refine Zar<|Zay mp0 (ZbO)<|ZaS<|Zba<|?_
  exact ⟨_,rfl,rfl,by rw [hN];rfl⟩
 have hl23:ps.length=2∨ps.length=3:=by omega
 have hA:=Zsc h0 hcut hl23
 have hA2:=hA.trans (spanP_at (by omega))
 clear hA
 have hz0:=hpz _ (List.getElem_mem (show 0<ps.length by omega))
 refine Zaf<|Zai<|wr'<|mv' lk pt<|?_
 refine V' (Zbg (k:=0) lk lki Za2 (nb' rfl) ro (by omega) ro rfl) pt ?_
 refine V' (ZaZ lk gt) pt ?_
 by_cases hs20 : ∃ n,numV (ps[0]'(by omega)) 1 2=some n
 ·obtain ⟨n,e1⟩:=hs20
  rw [e1] at hA2
  have hb1:=Zn8 e1 (by omega)
  simp only at hA2
  refine Zae mp (ZgC hz0 (by omega) (by omega) e1) pt ?_
  refine V' (Zge lki lk (by omega) (by omega)) pt ?_
  refine mv' lk pt<|sn'<|Zam<|wr'<|mv' lk pt<|?_
  refine V' (v_lo (k:=1) lk lki Za2 ro (by omega) ro) pt ?_
  refine V' (ZaK lk) pt<|mv' lki pt<|sn'<|Zao<|?_
  refine w_lp (ι:=Nat×Int) (fun (x_:Nat×Int)=>match x_ with | ⟨j,a⟩=>[(4,iv a),(29,iv (j:Int))]++rn' 5 3++rn' 30 18) (fun (x_:Nat×Int)=>match x_ with | ⟨j,a⟩=>[]) (fun (x_:Nat×Int)=>match x_ with | ⟨j,a⟩=>j≤(ps.drop 1).length∧0≤a∧a≤36000000+j*10000∧ZbV s=accV a j ((ps.drop 1).drop j)) (fun (x_:Nat×Int)=>match x_ with | ⟨j,a⟩=>(ps.drop 1).length-j) (⟨0,3600*n⟩) (by exact ⟨Nat.zero_le _,by omega,by omega,hA2⟩) ?_
  rintro ⟨j,a⟩ hi1
  try simp only [sm',Nat.reduceAdd]
  obtain ⟨hj1,hj2,hj3,hj4⟩:=hi1
  refine wr'<|V' (Zbu lk lk) pt<|sn'<|Zam<|?_
  refine cd' lk (fun hc3=>?_) (fun hc3=>?_)
  ·have hj:j<(ps.drop 1).length:=by omega
   have hj5:j≤1:=by rw [List.length_drop] at hj;omega
   have hzj:=hpz _ (List.mem_of_mem_drop (List.getElem_mem hj))
   rw [accV_at hj] at hj4
   refine Zaf<|Zai<|Zam<|Zao<|wr'<|mv' lk pt<|?_
   refine V' (Zbg lk lk Za2 (nb' rfl) ro (by omega) ro rfl) pt ?_
   refine V' (ZaZ lk gt) pt<|mv' lk pt<|mv' lk pt<|sn'<|wr'<|mv' lk pt<|?_
   by_cases hs34 : ∃ n,numV ((ps.drop 1)[j]'hj) 2 2=some n
   ·obtain ⟨q,e2⟩:=hs34
    rw [sixV_of e2] at hj4
    have hb2:=Zn8 e2 (by omega)
    refine Zae mp (ZgC hzj (by omega) (by omega) e2) pt ?_
    refine mv' lk pt<|sn'<|Zam<|wr'<|mv' lk pt<|V' (ZbN lk lki) pt<|sn'<|?_
    refine cd' lk (fun hc4=>?_) (fun hc4=>?_)
    ·rw [if_pos (by omega)] at hj4
     refine Zar<|Zay mp0 (ZbO)<|ZaS<|ZcQ<|ZaS<|ZaS<|ZcQ<|ZaS<|Zba<|?_
     exact ⟨_,rfl,rfl,by rw [hj4];rfl⟩
    rw [if_neg (by omega)] at hj4
    simp only at hj4
    have hj01:j=0∨j=1:=by omega
    refine Zaf<|Zai<|Zar<|mv' lk pt<|mv' lk pt<|E' (Zeh (ZlM (cvl lki rfl) rfl (cvl lki rfl) rfl) (hl0 hn) ha0) pt<|mv' lk pt<|?_
    by_cases hs43:j=0
    ·subst hs43
     refine V' (ZkJ lk lk (hga hn rfl) (nb' rfl) (by omega) (by omega) (nb' rfl)) pt ?_
     refine V' (Zac lk (hga hn rfl) rfl) pt ?_
     refine V' (Zge lk lk (by omega) (by omega)) pt ?_
     refine V' (ZaE lk lk (by omega) (by omega)) pt ?_
     refine mv' lk pt<|Zas<|ZaF<|Zai<|Zar<|?_
     refine V' (ZaE lk lki (by omega) (by omega)) pt ?_
     refine mv' lk pt<|Zas<|ZaI<|?_
     refine lU' (⟨1,a+q*60⟩) (by (try dsimp only);exact ⟨by omega,by omega,by omega,hj4⟩) (by (try dsimp only);(try simp only [sm',Nat.reduceAdd]);exact bk' 0 hn hlt (hT:=by exact ls') (hE:=by exact ls'))
    obtain rfl:j=1:=by omega
    refine V' (ZkJ lk lk (hga hn rfl) (nb' rfl) (by omega) (by omega) (nb' rfl)) pt ?_
    refine V' (Zac lk (hga hn rfl) rfl) pt ?_
    refine V' (Zge lk lk (by omega) (by omega)) pt ?_
    refine V' (ZaE lk lk (by omega) (by omega)) pt ?_
    refine mv' lk pt<|Zas<|ZaF<|Zai<|Zar<|?_
    refine V' (ZaE lk lki (by omega) (by omega)) pt ?_
    refine mv' lk pt<|Zas<|ZaI<|?_
    refine lU' (⟨2,a+q*1⟩) (by (try dsimp only);exact ⟨by omega,by omega,by omega,hj4⟩) (by (try dsimp only);(try simp only [sm',Nat.reduceAdd]);exact bk' 0 hn hlt (hT:=by exact ls') (hE:=by exact ls'))
   have e2:=ZaT hs34
   rw [sixV_no e2] at hj4
   refine Zay mp (ZgB hzj (by omega) (by omega) e2) ?_
   refine ZaS<|ZcQ<|ZaS<|ZaS<|ZcQ<|ZaS<|Zba<|?_
   exact ⟨_,rfl,rfl,by rw [hj4];rfl⟩
  rw [List.drop_of_length_le (by omega),accV] at hj4
  refine Za0<|ZaO<|ZaO<|Zbp<|Zai<|wr'<|mv' lk pt<|mv' lk pt<|sn'<|Zab<|Zag rz<|?_
  exact ⟨_,rfl,rfl,by rw [hj4];rfl⟩
 have e1:=ZaT hs20
 rw [e1] at hA2
 refine Zay mp (ZgB hz0 (by omega) (by omega) e1) ?_
 refine ZaS<|Zba<|?_
 exact ⟨_,rfl,rfl,by rw [hA2];rfl⟩
end Go.Proofs.YtgjchdhdopgkkaaGreatDoor
end
section
namespace Go.Proofs.YtgjchdhdopgkkaaGreatDoor
open Go.Ab Go.RowKit Civ
attribute [local simp] Zbd
section
theorem ZlL {τ:Operand→AV}{y0 y1:Operand}{x0_0 x1_0:AV}(h0:Zap (τ y0)=some [x0_0]) (l0:[x0_0].all leaf=true) (h1:Zap (τ y1)=some [x1_0]) (l1:[x1_0].all leaf=true):Zat τ [(0,1,y0),(1,1,y1)] [(.v (.int .i64 0)),(.v (.int .i64 0)),(.v (.int .i64 0))]=some [x0_0,x1_0,(.v (.int .i64 0))]:=by
 simp only [Zat,h0,l0,h1,l1]
 rfl
theorem Zfh {a0 a1 a2 c0 c1 c2:AV}{l:List AV}:setCells (a0::a1::a2::l) 0 [c0,c1,c2]=c0::c1::c2::l:=rfl
theorem Zfg {a0 a1 a2:AV}{l:List AV}:((a0::a1::a2::l).drop 0).take 3=[a0,a1,a2]:=rfl
theorem ZlK {τ:Operand→AV}{y0 y1:Operand}{x0_0 x1_0:AV}(h0:Zap (τ y0)=some [x0_0]) (l0:[x0_0].all leaf=true) (h1:Zap (τ y1)=some [x1_0]) (l1:[x1_0].all leaf=true):Zat τ [(0,1,y0),(1,1,y1)] [(.v (.string ⟨#[]⟩)),(.v (.string ⟨#[]⟩))]=some [x0_0,x1_0]:=by
 simp only [Zat,h0,l0,h1,l1]
 rfl
theorem Zg8 {τ:Operand→AV}{y0 y1 y2:Operand}{x0_0 x1_0 x2_0:AV}(h0:Zap (τ y0)=some [x0_0]) (l0:[x0_0].all leaf=true) (h1:Zap (τ y1)=some [x1_0]) (l1:[x1_0].all leaf=true) (h2:Zap (τ y2)=some [x2_0]) (l2:[x2_0].all leaf=true):Zat τ [(0,1,y0),(1,1,y1),(2,1,y2)] [(.v (.int .i64 0)),(.v (.int .i64 0)),(.v (.int .i64 0))]=some [x0_0,x1_0,x2_0]:=by
 simp only [Zat,h0,l0,h1,l1,h2,l2]
 rfl
theorem ZlJ {τ:Operand→AV}{y0 y1:Operand}{x0_0 x1_0:AV}(h0:Zap (τ y0)=some [x0_0]) (l0:[x0_0].all leaf=true) (h1:Zap (τ y1)=some [x1_0]) (l1:[x1_0].all leaf=true):Zat τ [(0,1,y0),(2,1,y1)] [(.v (.int .i64 0)),(.v (.int .i64 0)),(.v (.int .i64 0))]=some [x0_0,(.v (.int .i64 0)),x1_0]:=by
 simp only [Zat,h0,l0,h1,l1]
 rfl
end
def c145:AC:=(Sr [Oo 2 (.new 46 3 [(iv 0),(iv 0),(iv 0)])] (Sr [Mv 11 0,Cl 12 112 [(.tmp 11)],Mv 3 12] (.seq (Sr [Mv 14 3,Oo 15 (.call (.func 172) [(.tmp 14),(.const (.string ⟨#[108,97,115,116]⟩))]),Mv 13 15,Ex 16 13 0,Ex 17 13 1,Mv 4 16,Mv 5 17] (Sr [Mv 18 5] (Cd 18 (Sr [Cl 19 93 [],Mv 20 4,Cl 21 176 [(.tmp 19),(.tmp 20)],Oo 22 (.build [(iv 0),(iv 0),(iv 0)] [(0,(1,(Ci 2))),(1,(1,(.tmp 21)))]),⟨none,none,(.store 3 (.tmp 2) (.tmp 22))⟩] .ret) .skip))) (.seq (Sr [Oo 23 (.lit 9 1 2 [Ss,Ss] [(0,(1,(.const (.string ⟨#[62,61]⟩)))),(1,(1,(.const (.string ⟨#[60,61]⟩))))]),Oo 24 (.len false (.tmp 23)),Mc 25 0] (.block 0 (.loop (Sr [Bn 26 .lss 25 24] (.seq (Cd 26 .skip (.exit 0)) (.seq (.block 1 (Sr [Mv 27 25,Oo 28 (.ia 1 (.tmp 23) (.tmp 25)),Ld 29 28,Mv 6 27,Mv 7 29] (Sr [Mv 31 3,Mv 32 7,Cl 33 158 [(.tmp 31),(.tmp 32)],Mv 30 33,Ex 34 30 0,Ex 35 30 1,Ex 36 30 2,Mv 8 34,Mv 9 35,Mv 10 36] (Sr [Mv 37 10] (Cd 37 (Sr [Mv 38 6,Oo 39 (.bin .add (Ci 3) (.tmp 38)),Cl 40 93 [],Mv 41 8,Cl 42 176 [(.tmp 40),(.tmp 41)],Mv 43 9,Cl 44 143 [(.tmp 43),(Ci 1),(Ci 2)],Oo 45 (.build [(iv 0),(iv 0),(iv 0)] [(0,(1,(.tmp 39))),(1,(1,(.tmp 42))),(2,(1,(.tmp 44)))]),⟨none,none,(.store 3 (.tmp 2) (.tmp 45))⟩] .ret) .skip))))) (.reg [Bc 46 .add 25 1,Mv 25 46]))))))) (Sr [Mv 47 3,Cl 48 143 [(.tmp 47),(Ci 1),(Ci 2)],Oo 49 (.build [(iv 0),(iv 0),(iv 0)] [(0,(1,(Ci 1))),(2,(1,(.tmp 48)))]),⟨none,none,(.store 3 (.tmp 2) (.tmp 49))⟩] .ret)))))
theorem k145:ZaH Tryz.prog 145=some ⟨c145,[(.cell 2 true 3)],50⟩:=by kernel_rfl
def frm3 (k:Int) (w n:Option Int):Option Frm:=match w,n with
 | some w,some n=>some (k,w,n)
 | _,_=>none
def pform (s:ByteArray):Option Frm :=
 if Lib.hasPrefix (aB s) [108,97,115,116]=true then (idxL dayL (s.extract 4 s.size) 0).map (fun w=>(2,w,0))
 else if (cutL s [62,61]).2.2=true then frm3 3 (idxL dayL (bA (cutL s [62,61]).1) 0) (numV (bA (cutL s [62,61]).2.1) 1 2)
 else if (cutL s [60,61]).2.2=true then frm3 4 (idxL dayL (bA (cutL s [60,61]).1) 0) (numV (bA (cutL s [60,61]).2.1) 1 2)
 else (numV s 1 2).map (fun n=>(1,0,n))
theorem Zlp {s:ByteArray} : ∀ {l:List ByteArray}{d n:Int},idxL l s d=some n→s∈l
 | [],_,_,h=>by cases h
 | x::l,d,n,h=>by
  rw [idxL] at h
  split at h
  ·rename_i e;rw [e];simp
  exact List.mem_cons_of_mem _ (Zlp h)
theorem ZtI : ∀ x∈dayL,x.size=3∧allB letB x=true:=by decide
theorem day_none {x:ByteArray}(h:x.size≠3):idxL dayL x 0=none:=by
 cases hi:idxL dayL x 0 with
 | none=>rfl
 | some n=>exact absurd (ZtI x (Zlp hi)).1 h
theorem ZtH {x:ByteArray}{c:UInt8}(hc:letB c.toNat=false) (h:c∈aB x):idxL dayL x 0=none:=by
 cases hi:idxL dayL x 0 with
 | none=>rfl
 | some n =>
  have:=ZfZ (l:=aB x) (ZtI x (Zlp hi)).2 h
  rw [hc] at this;cases this
theorem ZiF {x:ByteArray}{a b:Int}{c:UInt8}(hc:digB c.toNat=false) (h:c∈aB x):numV x a b=none:=by
 cases hi:numV x a b with
 | none=>rfl
 | some n =>
  have:=ZfZ (l:=aB x) (ZiH hi).2.1 h
  rw [hc] at this;cases this
theorem Zi3 {s:ByteArray}{k:Nat}{c:UInt8}:ZbF s k=(c.toNat:Int)↔Zaz s k=c :=
 ⟨fun h=>UInt8.toNat_inj.1 (by unfold ZbF at h;omega),fun h=>by unfold ZbF;rw [h]⟩
theorem occ3 {s:ByteArray}{c:UInt8}(hz:5<s.size) (h3:Zaz s 3=c) (h4:Zaz s 4=61):Lib.occAt (aB s) [c,61] 3=true:=by
 unfold Lib.occAt
 rw [ZdO (show 3<s.size by omega),ZdO (show 3+1<s.size by omega),h3,h4]
 simp [List.isPrefixOf]
theorem ZsL {s:ByteArray}:Lib.hasPrefix (aB s) [108,97,115,116]=true↔(4≤s.size∧s.extract 0 4=bA [108,97,115,116]):=by
 unfold Lib.hasPrefix
 rw [List.isPrefixOf_iff_prefix,List.prefix_iff_eq_take,Zet,List.drop_zero]
 constructor
 ·intro h
  have hl:=congrArg List.length h
  rw [List.length_take,Zbr] at hl
  simp at hl
  exact ⟨by omega,by rw [h];rfl⟩
 rintro ⟨h1,h2⟩
 exact (Zi5 h2).symm
theorem ops_none {s:ByteArray}{c:UInt8}{i:Nat}(hd:digB c.toNat=false) (hl:letB c.toNat=false) (h:(aB s)[i]?=some c) (h3:i≠3)
  (hk:ZbR s≠2) (hK:ZbR s=3∨ZbR s=4→i<3∨5≤i):Zdf s=none:=by
 have hm:c∈aB s:=List.mem_of_getElem? h
 have hi:i<(aB s).length:=(List.getElem?_eq_some_iff.1 h).1
 unfold Zdf
 rw [if_neg hk]
 by_cases h1:ZbR s=1
 ·rw [if_pos h1,ZiF hd hm]
 rw [if_neg h1]
 have h34:ZbR s=3∨ZbR s=4:=by
  unfold ZbR at hk h1 ⊢
  by_cases p1:4≤s.size∧s.extract 0 4=bA [108,97,115,116]
  ·rw [if_pos p1] at hk;exact absurd rfl hk
  rw [if_neg p1] at hk h1 ⊢
  by_cases p2:5<s.size∧ZbF s 4=61∧ZbF s 3=62
  ·rw [if_pos p2];exact .inl rfl
  rw [if_neg p2] at hk h1 ⊢
  by_cases p3:5<s.size∧ZbF s 4=61∧ZbF s 3=60
  ·rw [if_pos p3];exact .inr rfl
  rw [if_neg p3] at h1;exact absurd rfl h1
 rcases hK h34 with hlt | hge
 ·rw [ZtH (x:=s.extract 0 3) hl (by
   rw [Zet,Zhw,List.drop_zero]
   refine List.mem_of_getElem? (i:=i) ?_
   rw [List.getElem?_take,if_pos (by omega)];exact h)]
 rw [ZiF (x:=s.extract 5 s.size) hd (by
  rw [Zet,Zhw]
  refine List.mem_of_getElem? (i:=i-5) ?_
  rw [List.getElem?_take,if_pos (by rw [Zbr] at hi;omega),List.getElem?_drop,show 5+(i-5)=i by omega];exact h)]
 cases idxL dayL (s.extract 0 3) 0 <;> rfl
theorem Zi4 {s:ByteArray}{i:Nat}{c:UInt8}(h:(aB s)[i]?=some c):Zaz s i=c:=by
 have hi:i<s.size:=by rw [←Zbr];exact (List.getElem?_eq_some_iff.1 h).1
 have:=ZdO hi
 have h2:((aB s).drop i)[0]?=some c:=by rw [List.getElem?_drop,Nat.add_zero];exact h
 rw [this] at h2
 simpa using h2
theorem Zp0 {s:ByteArray}(hk:ZbR s≠2):(ZbR s=3↔5<s.size∧Zaz s 4=61∧Zaz s 3=62)∧(ZbR s=4↔5<s.size∧Zaz s 4=61∧Zaz s 3=60)∧(ZbR s=1∨ZbR s=3∨ZbR s=4):=by
 have b1:ZbF s 4=61↔Zaz s 4=61:=Zi3 (c:=61)
 have b2:ZbF s 3=62↔Zaz s 3=62:=Zi3 (c:=62)
 have b3:ZbF s 3=60↔Zaz s 3=60:=Zi3 (c:=60)
 unfold ZbR at hk ⊢
 rw [←b1,←b2,←b3]
 by_cases p1:4≤s.size∧s.extract 0 4=bA [108,97,115,116]
 ·rw [if_pos p1] at hk;exact absurd rfl hk
 rw [if_neg p1]
 by_cases p2:5<s.size∧ZbF s 4=61∧ZbF s 3=62
 ·rw [if_pos p2]
  refine ⟨⟨fun _=>p2,fun _=>rfl⟩,⟨fun h=>by omega,fun h=>?_⟩,.inr (.inl rfl)⟩
  have:=p2.2.2;have:=h.2.2;omega
 rw [if_neg p2]
 by_cases p3:5<s.size∧ZbF s 4=61∧ZbF s 3=60
 ·rw [if_pos p3];exact ⟨⟨fun h=>by omega,fun h=>absurd h p2⟩,⟨fun _=>p3,fun _=>rfl⟩,.inr (.inr rfl)⟩
 rw [if_neg p3];exact ⟨⟨fun h=>by omega,fun h=>absurd h p2⟩,⟨fun h=>by omega,fun h=>absurd h p3⟩,.inl rfl⟩
theorem ZpK {s:ByteArray}{c:UInt8}{i k:Nat}(hk2:ZbR s≠2) (hc:c=62∧k=3∨c=60∧k=4) (hi:Lib.index (aB s) [c,61]=i) (hle:i≤(aB s).length) (ho:Lib.occAt (aB s) [c,61] i=true) (hno : ∀ j,j<i→Lib.occAt (aB s) [c,61] j=false)
  (h3':c=60→ZbR s≠3):frm3 k (idxL dayL (bA ((aB s).take i)) 0) (numV (bA ((aB s).drop (i+2))) 1 2)=Zdf s:=by
 have e1:=Lib.occAt_head (s:=aB s) rfl ho
 have e2:=Lib.occAt_second (s:=aB s) rfl ho
 have hlen:i+1<(aB s).length:=(List.getElem?_eq_some_iff.1 e2).1
 rw [Zbr] at hlen
 obtain ⟨k3,k4,k134⟩:=Zp0 hk2
 have hd:digB c.toNat=false:=by rcases hc with ⟨rfl,_⟩ | ⟨rfl,_⟩ <;> decide
 have hl:letB c.toNat=false:=by rcases hc with ⟨rfl,_⟩ | ⟨rfl,_⟩ <;> decide
 by_cases h3:i=3
 ·subst h3
  have b3:=Zi4 e1
  have b4:=Zi4 e2
  by_cases hz:5<s.size
  ·have hK:ZbR s=k:=by
    rcases hc with ⟨rfl,rfl⟩ | ⟨rfl,rfl⟩
    ·exact k3.2 ⟨hz,b4,b3⟩
    exact k4.2 ⟨hz,b4,b3⟩
   have hK1:ZbR s≠1:=by rcases hc with ⟨_,rfl⟩ | ⟨_,rfl⟩ <;> omega
   unfold Zdf
   rw [if_neg hk2,if_neg hK1,hK]
   rw [show s.extract 0 3=bA ((aB s).take 3) by rw [Zet,List.drop_zero],show s.extract 5 s.size=bA ((aB s).drop (3+2)) by rw [Zet];congr 1;exact List.take_of_length_le (by rw [List.length_drop,Zbr];omega)]
   rfl
  have hnn:numV (bA ((aB s).drop (3+2))) 1 2=none:=by
   unfold numV
   rw [if_neg]
   rintro ⟨h,_⟩
   unfold wi at h
   rw [ZaQ,List.length_drop,Zbr] at h
   simp at h
   omega
  rw [hnn]
  have hK1:ZbR s=1:=by
   rcases k134 with h | h | h
   ·exact h
   ·exact absurd (k3.1 h).1 hz
   exact absurd (k4.1 h).1 hz
  unfold Zdf
  rw [if_neg hk2,if_pos hK1,ZiF hd (List.mem_of_getElem? e1)]
  unfold frm3
  cases idxL dayL (bA ((aB s).take 3)) 0 <;> rfl
 rw [day_none (x:=bA ((aB s).take i)) (by rw [ZaQ,List.length_take];omega)]
 rw [ops_none hd hl e1 h3 hk2 ?_]
 ·rfl
 intro h34
 by_cases hlt:i<3
 ·exact .inl hlt
 right
 have h4:i≠4:=by
  rintro rfl
  have b4:=Zi4 e1
  have:Zaz s 4=61:=by rcases h34 with h | h;exact (k3.1 h).2.1;exact (k4.1 h).2.1
  rw [this] at b4
  rcases hc with ⟨rfl,_⟩ | ⟨rfl,_⟩ <;> exact absurd b4 (by decide)
 omega
theorem pform_eq (s:ByteArray):pform s=Zdf s:=by
 unfold pform
 by_cases hp:Lib.hasPrefix (aB s) [108,97,115,116]=true
 ·rw [if_pos hp]
  have hk:ZbR s=2:=if_pos (ZsL.1 hp)
  unfold Zdf
  rw [if_pos hk]
  cases idxL dayL (s.extract 4 s.size) 0 <;> rfl
 rw [if_neg hp]
 have hk:ZbR s≠2:=by
  intro e
  unfold ZbR at e
  by_cases p1:4≤s.size∧s.extract 0 4=bA [108,97,115,116]
  ·exact hp (ZsL.2 p1)
  rw [if_neg p1] at e
  split at e
  ·cases e
  split at e <;> cases e
 obtain ⟨k3,k4,k134⟩:=Zp0 hk
 rcases Lib.index_spec (aB s) [62,61] with ⟨h1,h2⟩ | ⟨i,h1,h2,h3,h4⟩
 ·have hc:(cutL s [62,61]).2.2=false:=by unfold cutL Lib.cut;rw [h1];rfl
  rw [if_neg (by rw [hc];simp)]
  have hn3:ZbR s≠3:=by
   intro e
   obtain ⟨q1,q2,q3⟩:=k3.1 e
   have:=occ3 q1 q3 q2
   rw [h2 3 (by rw [Zbr];omega)] at this;cases this
  rcases Lib.index_spec (aB s) [60,61] with ⟨g1,g2⟩ | ⟨i,g1,g2,g3,g4⟩
  ·have hc2:(cutL s [60,61]).2.2=false:=by unfold cutL Lib.cut;rw [g1];rfl
   rw [if_neg (by rw [hc2];simp)]
   have hn4:ZbR s≠4:=by
    intro e
    obtain ⟨q1,q2,q3⟩:=k4.1 e
    have:=occ3 q1 q3 q2
    rw [g2 3 (by rw [Zbr];omega)] at this;cases this
   have hk1:ZbR s=1:=by rcases k134 with h | h | h;exact h;exact absurd h hn3;exact absurd h hn4
   unfold Zdf
   rw [if_neg hk,if_pos hk1]
   cases numV s 1 2 <;> rfl
  have hc2:cutL s [60,61]=((aB s).take i,(aB s).drop (i+2),true):=by
   unfold cutL Lib.cut
   rw [g1,if_pos (by omega)]
   simp
  rw [hc2,if_pos rfl]
  exact ZpK (k:=4) hk (.inr ⟨rfl,rfl⟩) g1 g2 g3 g4 (fun _=>hn3)
 have hc:cutL s [62,61]=((aB s).take i,(aB s).drop (i+2),true):=by
  unfold cutL Lib.cut
  rw [h1,if_pos (by omega)]
  simp
 rw [hc,if_pos rfl]
 exact ZpK (k:=3) hk (.inl ⟨rfl,rfl⟩) h1 h2 h3 h4 (fun h=>by cases h)
theorem cutX_a {s:ByteArray}{p:Bs}{h:AH}(hz:s.size≤24):Ac 158 [sv s,sv (bA p)] h (.tup [sv (bA (cutL s p).1),sv (bA (cutL s p).2.1),bv (cutL s p).2.2]):=cut_a (by omega)
abbrev frmC (f:Frm):AV:=.agg [iv f.1,iv f.2.1,iv f.2.2]
def ZeZ:RM Frm:=ZaN Zbf fun s=>Zbs (Zdf s)
theorem Zmp {l:List ByteArray}{id:Nat}{h:AH}(ho:okL l) (h1:h[id]?=some (rdE l)):ACalls Tryz.prog 145 [.ptr id 0 0] h (RS id h ((ZeZ l).map fun p=>(frmC p.1,p.2))):=by
 have hid:id<h.length:=(List.getElem?_eq_some_iff.1 h1).1
 refine tJ' k145 fun N hn hlt hlA hbd=>?_
 simp only [tb'] at hbd ⊢
 refine ZbG (h1:=h.set id (rdE l)++[]) (by rw [ZbU h1]) ?_
 refine wr'<|E' (Zbq (hl0 (Zad hn)) ha0) pt<|sn'<|wr'<|mv' lk pt<|?_
 by_cases hs3 : ∃ p,Zbf l=some p
 ·obtain ⟨⟨s,l1⟩,e1⟩:=hs3
  obtain ⟨hz,o1⟩:=Zb8 ho e1
  have hF:ZeZ l=Zbs (pform s) l1:=by unfold ZeZ;rw [Za8 e1,pform_eq]
  unfold pform at hF
  refine ZaA mp (ZcZ e1 (ZaC hid)) (Zax hid) pt<|mv' lk pt<|sn'<|Zam<|wr'<|mv' lk pt<|Zae mp (ZiV (p:=bA [108,97,115,116])) pt<|mv' lk pt<|V' (Zbb lk gt) pt<|V' (Zbb lk gt) pt<|mv' lk pt<|mv' lk pt<|?_
  refine sn'<|wr'<|mv' lk pt<|sn'<|?_
  refine Zaw lk (fun hc1=>?_) (fun hc1=>?_)
  ·have hp:Lib.hasPrefix (aB s) [108,97,115,116]=true:=hc1
   rw [if_pos hp] at hF
   have hx:bA (Lib.trimPrefix (aB s) (aB (bA [108,97,115,116])))=s.extract 4 s.size:=by rw [Zet];congr 1;show (if Lib.hasPrefix (aB s) [108,97,115,116] then (aB s).drop 4 else aB s)=_;rw [if_pos hp,List.take_of_length_le];rw [List.length_drop,Zbr];omega
   have hx2 : ∀ {o:Option Int},idxL dayL (s.extract 4 s.size) 0=o→(idxL dayL (bA (Lib.trimPrefix (aB s) (aB (bA [108,97,115,116])))) 0).map iv=o.map iv:=fun e=>by rw [hx,e]
   refine wr'<|Zae mp0 (ZfK) pt<|mv' lk pt<|?_
   by_cases hs15 : ∃ w,idxL dayL (s.extract 4 s.size) 0=some w
   ·obtain ⟨w,e2⟩:=hs15
    rw [e2] at hF
    refine Zae mp (Zn0 (v:=iv w) ZfM (hx2 e2)) pt<|V' (ZaB (ZlL (cvl lki rfl) rfl (cvl lk rfl) rfl)) pt<|E' (Zal lk (cvl lk rfl) (hga (Zad hn) rfl) rfl (nb' rfl) rfl Zfh (hs0 (Zad hn))) ptn<|sn'<|Zab<|Zak<|Zag (rs1 (rr_c gt (hga (Zad hn) rfl) (ld1 Zfg rfl)))<|?_
    exact ⟨_,_,rfl,Zad hn,ZaR hlt ZaJ,rfl,by rw [hF];exact ⟨rfl,rfl⟩⟩
   have e2:=ZaT hs15
   rw [e2] at hF
   have hN:ZeZ l=none:=hF
   refine Zay mp (ZnZ ZfM (hx2 e2))<|ZaS<|ZaS<|Zba<|?_
   exact ⟨_,_,rfl,Zad hn,ZaR hlt ZaJ,rfl,by rw [hN];exact ⟨rfl,l1,rfl⟩⟩
  have hp:¬Lib.hasPrefix (aB s) [108,97,115,116]=true:=by rw [show Lib.hasPrefix (aB s) [108,97,115,116]=false from hc1];simp
  rw [if_neg hp] at hF
  refine Zaf<|Zai<|Zam<|wr'<|E' (Zeh (ZlK (cvl lks rfl) rfl (cvl lks rfl) rfl) (hl1 (Zad hn)) ha1) pt<|V' (Zdr lk) pt<|mv' lki pt<|sn'<|Zao<|?_
  refine w_lp (ι:=Nat) (fun (k:Nat)=>[(25,iv (k:Int))]++rn' 6 5++rn' 26 21) (fun (k:Nat)=>[]) (fun (k:Nat)=>k≤2∧(1≤k→(cutL s [62,61]).2.2=false)∧(2≤k→(cutL s [60,61]).2.2=false)) (fun (k:Nat)=>2-k) (0) (by exact ⟨by omega,fun h=>by omega,fun h=>by omega⟩) ?_
  rintro k hi1
  try simp only [sm',Nat.reduceAdd]
  obtain ⟨hk1,hk2,hk3⟩:=hi1
  refine wr'<|V' (Zbu lk lk) pt<|sn'<|Zam<|?_
  refine cd' lk (fun hc2=>?_) (fun hc2=>?_)
  ·refine Zaf<|Zai<|Zam<|Zao<|wr'<|?_
   by_cases hs22:k=0
   ·subst hs22
    refine mv' lk pt ?_
    refine V' (ZkJ lk lk (hga (Zad hn) rfl) (nb' rfl) (by omega) (by omega) (nb' rfl)) pt ?_
    refine V' (Zac lk (hga (Zad hn) rfl) rfl) pt<|mv' lk pt<|mv' lk pt<|sn'<|wr'<|mv' lk pt<|mv' lk pt<|Zae mp (cutX_a (p:=[62,61]) hz) pt<|mv' lk pt<|V' (Zbb lk gt) pt<|V' (Zbb lk gt) pt<|V' (Zbb lk gt) pt<|?_
    refine mv' lk pt<|mv' lk pt<|mv' lk pt<|sn'<|wr'<|mv' lk pt<|sn'<|?_
    refine Zaw lk (fun hc3=>?_) (fun hc3=>?_)
    ·have hcc:(cutL s [62,61]).2.2=true:=hc3
     rw [if_pos hcc] at hF
     have hcz:=(Zic (s:=s) (p:=[62,61])).2
     obtain ⟨X,hX⟩ : ∃ X,X=idxL dayL (bA (cutL s [62,61]).1) 0:=⟨_,rfl⟩
     obtain ⟨Y,hY⟩ : ∃ Y,Y=numV (bA (cutL s [62,61]).2.1) 1 2:=⟨_,rfl⟩
     rw [←hX,←hY] at hF
     refine wr'<|mv' lk pt<|?_
     refine V' (ZaE lki lk (by omega) (by omega)) pt ?_
     refine Zae mp0 (ZfK) pt<|mv' lk pt<|?_
     by_cases hs42 : ∃ w,X=some w
     ·obtain ⟨w,rfl⟩:=hs42
      refine Zae mp (Zn0 (v:=iv w) ZfM (show (idxL dayL (bA _) 0).map iv=some (iv w) by rw [←hX];rfl)) pt ?_
      refine mv' lk pt ?_
      by_cases hs44 : ∃ n,Y=some n
      ·obtain ⟨n,rfl⟩:=hs44
       refine Zae mp (ZgC (by rw [ZaQ];omega) (by omega) (by omega) hY.symm) pt ?_
       refine V' (ZaB (Zg8 (cvl lk rfl) rfl (cvl lk rfl) rfl (cvl lk rfl) rfl)) pt<|E' (Zal lk (cvl lk rfl) (hga (Zad hn) rfl) rfl (nb' rfl) rfl Zfh (hs0 (Zad hn))) ptn<|sn'<|Zab<|Zaq<|Zak<|Zak<|Zaq<|Zak<|Zag (rs1 (rr_c gt (hga (Zad hn) rfl) (ld1 Zfg rfl)))<|?_
       exact ⟨_,_,rfl,Zad hn,ZaR hlt ZaJ,rfl,by rw [hF];exact ⟨rfl,rfl⟩⟩
      have e3:=ZaT hs44
      have hN:ZeZ l=none:=by rw [hF,e3];rfl
      refine Zay mp (ZgB (by rw [ZaQ];omega) (by omega) (by omega) (hY.symm.trans e3)) ?_
      refine ZaS<|ZcQ<|ZaS<|ZaS<|ZcQ<|ZaS<|Zba<|?_
      exact ⟨_,_,rfl,Zad hn,ZaR hlt ZaJ,rfl,by rw [hN];exact ⟨rfl,l1,rfl⟩⟩
     have e2:=ZaT hs42
     have hN:ZeZ l=none:=by rw [hF,e2];rfl
     refine Zay mp (ZnZ ZfM (show (idxL dayL (bA _) 0).map iv=none by rw [←hX,e2];rfl)) ?_
     refine ZaS<|ZcQ<|ZaS<|ZaS<|ZcQ<|ZaS<|Zba<|?_
     exact ⟨_,_,rfl,Zad hn,ZaR hlt ZaJ,rfl,by rw [hN];exact ⟨rfl,l1,rfl⟩⟩
    refine Zaf<|ZaF<|Zai<|Zar<|?_
    refine V' (ZaE lk lki (by omega) (by omega)) pt ?_
    refine mv' lk pt<|Zas<|ZaI<|?_
    refine lT' (1) (by (try dsimp only);exact ⟨by omega,fun _=>hc3,fun h=>by omega⟩)
   obtain rfl:k=1:=by omega
   have hq1:=hk2 (by omega)
   rw [if_neg (by rw [hq1];simp)] at hF
   refine mv' lk pt ?_
   refine V' (ZkJ lk lk (hga (Zad hn) rfl) (nb' rfl) (by omega) (by omega) (nb' rfl)) pt ?_
   refine V' (Zac lk (hga (Zad hn) rfl) rfl) pt<|mv' lk pt<|mv' lk pt<|sn'<|wr'<|mv' lk pt<|mv' lk pt<|Zae mp (cutX_a (p:=[60,61]) hz) pt<|mv' lk pt<|V' (Zbb lk gt) pt<|V' (Zbb lk gt) pt<|V' (Zbb lk gt) pt<|?_
   refine mv' lk pt<|mv' lk pt<|mv' lk pt<|sn'<|wr'<|mv' lk pt<|sn'<|?_
   refine Zaw lk (fun hc3=>?_) (fun hc3=>?_)
   ·have hcc:(cutL s [60,61]).2.2=true:=hc3
    rw [if_pos hcc] at hF
    have hcz:=(Zic (s:=s) (p:=[60,61])).2
    obtain ⟨X,hX⟩ : ∃ X,X=idxL dayL (bA (cutL s [60,61]).1) 0:=⟨_,rfl⟩
    obtain ⟨Y,hY⟩ : ∃ Y,Y=numV (bA (cutL s [60,61]).2.1) 1 2:=⟨_,rfl⟩
    rw [←hX,←hY] at hF
    refine wr'<|mv' lk pt<|?_
    refine V' (ZaE lki lk (by omega) (by omega)) pt ?_
    refine Zae mp0 (ZfK) pt<|mv' lk pt<|?_
    by_cases hs42 : ∃ w,X=some w
    ·obtain ⟨w,rfl⟩:=hs42
     refine Zae mp (Zn0 (v:=iv w) ZfM (show (idxL dayL (bA _) 0).map iv=some (iv w) by rw [←hX];rfl)) pt ?_
     refine mv' lk pt ?_
     by_cases hs44 : ∃ n,Y=some n
     ·obtain ⟨n,rfl⟩:=hs44
      refine Zae mp (ZgC (by rw [ZaQ];omega) (by omega) (by omega) hY.symm) pt ?_
      refine V' (ZaB (Zg8 (cvl lk rfl) rfl (cvl lk rfl) rfl (cvl lk rfl) rfl)) pt<|E' (Zal lk (cvl lk rfl) (hga (Zad hn) rfl) rfl (nb' rfl) rfl Zfh (hs0 (Zad hn))) ptn<|sn'<|Zab<|Zaq<|Zak<|Zak<|Zaq<|Zak<|Zag (rs1 (rr_c gt (hga (Zad hn) rfl) (ld1 Zfg rfl)))<|?_
      exact ⟨_,_,rfl,Zad hn,ZaR hlt ZaJ,rfl,by rw [hF];exact ⟨rfl,rfl⟩⟩
     have e3:=ZaT hs44
     have hN:ZeZ l=none:=by rw [hF,e3];rfl
     refine Zay mp (ZgB (by rw [ZaQ];omega) (by omega) (by omega) (hY.symm.trans e3)) ?_
     refine ZaS<|ZcQ<|ZaS<|ZaS<|ZcQ<|ZaS<|Zba<|?_
     exact ⟨_,_,rfl,Zad hn,ZaR hlt ZaJ,rfl,by rw [hN];exact ⟨rfl,l1,rfl⟩⟩
    have e2:=ZaT hs42
    have hN:ZeZ l=none:=by rw [hF,e2];rfl
    refine Zay mp (ZnZ ZfM (show (idxL dayL (bA _) 0).map iv=none by rw [←hX,e2];rfl)) ?_
    refine ZaS<|ZcQ<|ZaS<|ZaS<|ZcQ<|ZaS<|Zba<|?_
    exact ⟨_,_,rfl,Zad hn,ZaR hlt ZaJ,rfl,by rw [hN];exact ⟨rfl,l1,rfl⟩⟩
   refine Zaf<|ZaF<|Zai<|Zar<|?_
   refine V' (ZaE lk lki (by omega) (by omega)) pt ?_
   refine mv' lk pt<|Zas<|ZaI<|?_
   refine lT' (2) (by (try dsimp only);exact ⟨by omega,fun _=>hq1,fun _=>hc3⟩)
  obtain rfl:k=2:=by omega
  rw [if_neg (by rw [hk2 (by omega)];simp),if_neg (by rw [hk3 (by omega)];simp)] at hF
  refine Za0<|ZaO<|ZaO<|Zbp<|Zai<|wr'<|mv' lk pt<|?_
  by_cases hs50 : ∃ n,numV s 1 2=some n
  ·obtain ⟨n,e2⟩:=hs50
   rw [e2] at hF
   refine Zae mp (ZgC hz (by omega) (by omega) e2) pt ?_
   refine V' (ZaB (ZlJ (cvl lki rfl) rfl (cvl lk rfl) rfl)) pt<|E' (Zal lk (cvl lk rfl) (hga (Zad hn) rfl) rfl (nb' rfl) rfl Zfh (hs0 (Zad hn))) ptn<|sn'<|Zab<|Zag (rs1 (rr_c gt (hga (Zad hn) rfl) (ld1 Zfg rfl)))<|?_
   exact ⟨_,_,rfl,Zad hn,ZaR hlt ZaJ,rfl,by rw [hF];exact ⟨rfl,rfl⟩⟩
  have e2:=ZaT hs50
  rw [e2] at hF
  have hN:ZeZ l=none:=hF
  refine Zay mp (ZgB hz (by omega) (by omega) e2) ?_
  refine ZaS<|Zba<|?_
  exact ⟨_,_,rfl,Zad hn,ZaR hlt ZaJ,rfl,by rw [hN];exact ⟨rfl,l1,rfl⟩⟩
 have e1:=ZaT hs3
 have hN:ZeZ l=none:=Zbh e1
 refine ZaP mp (ZcY e1 (ZaC hid)) (fun hP_ hPp_=>?_)
 refine ZaS<|Zba<|?_
 obtain ⟨l',rfl⟩:=hPp_
 rw [Zax hid]
 exact ⟨_,_,rfl,Zad hn,ZaR hlt ZaJ,rfl,by rw [hN];exact ⟨rfl,l',rfl⟩⟩
end Go.Proofs.YtgjchdhdopgkkaaGreatDoor
end
section
namespace Go.Proofs.YtgjchdhdopgkkaaGreatDoor
open Go.Ab Go.RowKit Go.Maps Civ
theorem lawU:Keyed Tryz.prog 5:=int_keyed Tryz.underlying5
theorem zeroI (w:World):(zeroValue 3).run Tryz.prog w=.ok (.int .i64 0) w:=by kernel_rfl
def kindD:DataW Unit:=(((DataW.map []).put (.int .u8 119) (.lit (.int .i64 1))).put (.int .u8 115) (.lit (.int .i64 2))).put (.int .u8 117) (.lit (.int .i64 3))
theorem ZfR (c:Int):has kindD (.int .u8 c)=(wsuK c).isSome∧(kindD.atKey (.int .u8 c) (.lit (.int .i64 0)))=.lit (.int .i64 ((wsuK c).getD 0)):=by
 unfold kindD wsuK
 by_cases h1:c=119
 ·subst h1;exact ⟨rfl,rfl⟩
 ·by_cases h2:c=115
  ·subst h2;exact ⟨rfl,rfl⟩
  ·by_cases h3:c=117
   ·subst h3;exact ⟨rfl,rfl⟩
   ·rw [if_neg h1,if_neg h2,if_neg h3]
    have e1:¬119=c:=Ne.symm h1
    have e2:¬115=c:=Ne.symm h2
    have e3:¬117=c:=Ne.symm h3
    rw [show (((DataW.map []).put (.int .u8 119) (.lit (.int .i64 1))).put (.int .u8 115) (.lit (.int .i64 2))).put (.int .u8 117) (.lit (.int .i64 3))=(DataW.map [(.int .u8 115,.lit (.int .i64 2)),(.int .u8 117,.lit (.int .i64 3)),(.int .u8 119,.lit (.int .i64 1))]:DataW Unit) from rfl]
    constructor
    ·simp [has,Lit.sameKey,e1,e2,e3]
    ·simp [DataW.atKey,Lit.sameKey,e1,e2,e3]
def ZlV (g:Gh) (h:AH) (w w2:World):Prop := ∃ g2,SimH w2 g2 h∧g.le g2∧Fr w (Ow g h) w2 ∧ ∀ k,Ow g2 h k→Ow g h k∨w.heap.size≤k
theorem Zmh {w w1:World}{g:Gh}{h:AH}(hs:SimH w g h) (hb:Below w.heap.size w w1) {x:ByteArray}(hz:x.size≤24) {n:Int}(hv:ZbV x=some n) :
  Calls Tryz.prog 147 #[.string x] w1 fun e w2=>e=.returned (.int .i64 n)∧ZlV g h w w2:=by
 have hold : ∀ k,k<w.heap.size→w1.heap[k]?=w.heap[k]?:=fun k hk=>hb.block k hk
 have hs1:SimH w1 g h:=hs.world (fun k hk=>hold k (hk.elim (hs.lt k) (fun ho=>(hs.own_not_D ho).2))) hb.size
 have f1:Fr w (Ow g h) w1:=⟨hb.os,hb.tape,hb.output,hb.size,fun k hk _=>hold k hk⟩
 refine ((ZgA (h:=h) hz).2 w1 g #[.string x] hs1 ?_).mono ?_
 ·simp only [RepL,Rep];exact ⟨_,_,rfl,rfl,rfl⟩
 ·rintro e w2 ⟨y,h2,g2,q1,q2,q3,q4,q5,rfl,rfl⟩
  rw [hv] at q1
  cases e <;> simp only [EndR,res,Option.map_some,Rep] at q1
  subst q1
  exact ⟨rfl,g2,q2,q3,f1.trans q4 (fun i hi _=>hi),fun k hk=>(q5 k hk).elim .inl (fun h=>.inr (Nat.le_trans hb.size h))⟩
theorem Zio {w w1:World}{g:Gh}{h:AH}(hs:SimH w g h) (hb:Below w.heap.size w w1) {x:ByteArray}(hz:x.size≤24) (hv:ZbV x=none) :
  Calls Tryz.prog 147 #[.string x] w1 fun e w2=>e=.panicked [{ v:=.iface 121 (.agg #[]),recovered:=false }]∧ZlV g h w w2:=by
 have hold : ∀ k,k<w.heap.size→w1.heap[k]?=w.heap[k]?:=fun k hk=>hb.block k hk
 have hs1:SimH w1 g h:=hs.world (fun k hk=>hold k (hk.elim (hs.lt k) (fun ho=>(hs.own_not_D ho).2))) hb.size
 have f1:Fr w (Ow g h) w1:=⟨hb.os,hb.tape,hb.output,hb.size,fun k hk _=>hold k hk⟩
 refine ((ZgA (h:=h) hz).2 w1 g #[.string x] hs1 ?_).mono ?_
 ·simp only [RepL,Rep];exact ⟨_,_,rfl,rfl,rfl⟩
 ·rintro e w2 ⟨y,h2,g2,q1,q2,q3,q4,q5,rfl,rfl⟩
  rw [hv] at q1
  cases e <;> simp only [EndR,res,Option.map_none,Rep] at q1
  obtain ⟨v,rfl,rfl⟩:=q1
  exact ⟨rfl,g2,q2,q3,f1.trans q4 (fun i hi _=>hi),fun k hk=>(q5 k hk).elim .inl (fun h=>.inr (Nat.le_trans hb.size h))⟩
theorem ZeN (w:World) : ∃ w1 w2 w3:World,
  (Instr.mapUpdate 181 (.map (some w.heap.size)) (.int .u8 119) (.int .i64 1)).run Tryz.prog (w.alloc (.map #[] 0))=.ok () w1 ∧
  (Instr.mapUpdate 181 (.map (some w.heap.size)) (.int .u8 115) (.int .i64 2)).run Tryz.prog w1=.ok () w2 ∧
  (Instr.mapUpdate 181 (.map (some w.heap.size)) (.int .u8 117) (.int .i64 3)).run Tryz.prog w2=.ok () w3 ∧
  w3.ownsMap Tryz.prog 5 (plainElem Tryz.prog 3) w.heap.size 3 kindD∧Below w.heap.size w w3:=by
 have hm0:=World.ownsMap_made (H:=Unit) w Tryz.prog 5 (plainElem Tryz.prog 3)
 obtain ⟨w1,hrun1,hown1,hgrow1⟩:=hm0.update (t:=181) (key:=.int .u8 119) (val:=.int .i64 1) lawU Tryz.underlying181 (by decide) (keyOf_int_mk Tryz.underlying5 (show (Lit.int .u8 119).wf=true by decide)) (plainElem_int Tryz.underlying3 (show (Lit.int .i64 1).wf=true by decide))
 have hb1:Below w.heap.size w w1:=((Below.refl _ w).alloc (Nat.le_refl _) _).grown hgrow1 (by simp) (fun j hj=>by cases hj;exact Nat.le_refl _)
 obtain ⟨w2,hrun2,hown2,hgrow2⟩:=hown1.update (t:=181) (key:=.int .u8 115) (val:=.int .i64 2) lawU Tryz.underlying181 (by decide) (keyOf_int_mk Tryz.underlying5 (show (Lit.int .u8 115).wf=true by decide)) (plainElem_int Tryz.underlying3 (show (Lit.int .i64 2).wf=true by decide))
 have hb2:Below w.heap.size w w2:=hb1.grown hgrow2 hb1.size (fun j hj=>by cases hj;exact Nat.le_refl _)
 obtain ⟨w3,hrun3,hown3,hgrow3⟩:=hown2.update (t:=181) (key:=.int .u8 117) (val:=.int .i64 3) lawU Tryz.underlying181 (by decide) (keyOf_int_mk Tryz.underlying5 (show (Lit.int .u8 117).wf=true by decide)) (plainElem_int Tryz.underlying3 (show (Lit.int .i64 3).wf=true by decide))
 have hb3:Below w.heap.size w w3:=hb2.grown hgrow3 hb2.size (fun j hj=>by cases hj;exact Nat.le_refl _)
 exact ⟨w1,w2,w3,hrun1,hrun2,hrun3,hown3,hb3⟩
abbrev wrP:Ending:=.panicked [{ v:=.iface 121 (.agg #[]),recovered:=false }]
theorem clock_e {w:World}{g:Gh}{h:AH}(hs:SimH w g h) {s:ByteArray}{d:Int}(hz:s.size≤24) (h0:s.size=0) (hv:ZbV s=none) :
  Calls Tryz.prog 146 #[.string s,.int .i64 d] w fun e w2=>e=wrP∧ZlV g h w w2:=by
 obtain ⟨w1,w2,w3,hrun1,hrun2,hrun3,hown,hb3⟩:=ZeN w
 have hmm := @run_makeMap Tryz.prog
 have hc:=Zio hs hb3 hz hv
 go_enter Tryz.func146,Tryz.ntmps146
 go_wp2_with fail
 refine hc.mono ?_
 rintro e w' ⟨rfl,hg⟩
 exact ⟨rfl,rfl,hg⟩
theorem clock_ts {w:World}{g:Gh}{h:AH}(hs:SimH w g h) {s:ByteArray}{d k n:Int}(hz:s.size≤24) (h0:s.size≠0) (hk:wsuK (ZbA s)=some k) (hv:ZbV (s.extract 0 (s.size-1))=some n) :
  Calls Tryz.prog 146 #[.string s,.int .i64 d] w fun e w2=>e=.returned (.tuple #[.int .i64 n,.int .i64 k])∧ZlV g h w w2:=by
 obtain ⟨w1,w2,w3,hrun1,hrun2,hrun3,hown,hb3⟩:=ZeN w
 have hmm := @run_makeMap Tryz.prog
 have hc:=Zmh hs hb3 (x:=(s.extract 0 (s.size-1))) (by rw [ByteArray.size_extract];omega) hv
 have hl:ZbA s=((s[s.size-1]'(by omega)).toNat:Int):=by unfold ZbA ZbF;rw [Zcl (by omega)]
 obtain ⟨d1,d2⟩:=ZfR (ZbA s)
 rw [hk] at d1 d2
 have hwf:(Lit.int .u8 (ZbA s)).wf=true:=by have:=ZdN s (s.size-1);unfold ZbA ZbF;simp [Lit.wf,IntKind.min,IntKind.max,IntKind.signed,IntKind.bits];omega
 rw [hl] at d1 d2 hwf
 go_enter Tryz.func146,Tryz.ntmps146
 go_wp2_with (first | (at_lookup;refine wpList_lookup_own_ok_int _ rfl _ _ 181 rfl 5 3 .i64 lawU Tryz.underlying181 Tryz.underlying3 (zeroI _) w.heap.size 3 _ rfl hown _ _ rfl (keyOf_int_mk Tryz.underlying5 hwf) ?_;intro cc hat hwc) | fail)
 refine hc.mono ?_
 rintro e w' ⟨rfl,hg⟩
 go_wp2_with fail
 go_ret2
 have hcc:cc=k:=by rw [d2] at hat;simpa using hat.symm
 subst hcc
 exact ⟨rfl,hg⟩
theorem clock_tn {w:World}{g:Gh}{h:AH}(hs:SimH w g h) {s:ByteArray}{d k:Int}(hz:s.size≤24) (h0:s.size≠0) (hk:wsuK (ZbA s)=some k) (hv:ZbV (s.extract 0 (s.size-1))=none) :
  Calls Tryz.prog 146 #[.string s,.int .i64 d] w fun e w2=>e=wrP∧ZlV g h w w2:=by
 obtain ⟨w1,w2,w3,hrun1,hrun2,hrun3,hown,hb3⟩:=ZeN w
 have hmm := @run_makeMap Tryz.prog
 have hc:=Zio hs hb3 (x:=(s.extract 0 (s.size-1))) (by rw [ByteArray.size_extract];omega) hv
 have hl:ZbA s=((s[s.size-1]'(by omega)).toNat:Int):=by unfold ZbA ZbF;rw [Zcl (by omega)]
 obtain ⟨d1,d2⟩:=ZfR (ZbA s)
 rw [hk] at d1 d2
 have hwf:(Lit.int .u8 (ZbA s)).wf=true:=by have:=ZdN s (s.size-1);unfold ZbA ZbF;simp [Lit.wf,IntKind.min,IntKind.max,IntKind.signed,IntKind.bits];omega
 rw [hl] at d1 d2 hwf
 go_enter Tryz.func146,Tryz.ntmps146
 go_wp2_with (first | (at_lookup;refine wpList_lookup_own_ok_int _ rfl _ _ 181 rfl 5 3 .i64 lawU Tryz.underlying181 Tryz.underlying3 (zeroI _) w.heap.size 3 _ rfl hown _ _ rfl (keyOf_int_mk Tryz.underlying5 hwf) ?_;intro cc hat hwc) | fail)
 refine hc.mono ?_
 rintro e w' ⟨rfl,hg⟩
 exact ⟨rfl,rfl,hg⟩
theorem clock_fs {w:World}{g:Gh}{h:AH}(hs:SimH w g h) {s:ByteArray}{d n:Int}(hz:s.size≤24) (h0:s.size≠0) (hk:wsuK (ZbA s)=none) (hv:ZbV s=some n) :
  Calls Tryz.prog 146 #[.string s,.int .i64 d] w fun e w2=>e=.returned (.tuple #[.int .i64 n,.int .i64 d])∧ZlV g h w w2:=by
 obtain ⟨w1,w2,w3,hrun1,hrun2,hrun3,hown,hb3⟩:=ZeN w
 have hmm := @run_makeMap Tryz.prog
 have hc:=Zmh hs hb3 (x:=s) hz hv
 have hl:ZbA s=((s[s.size-1]'(by omega)).toNat:Int):=by unfold ZbA ZbF;rw [Zcl (by omega)]
 obtain ⟨d1,d2⟩:=ZfR (ZbA s)
 rw [hk] at d1 d2
 have hwf:(Lit.int .u8 (ZbA s)).wf=true:=by have:=ZdN s (s.size-1);unfold ZbA ZbF;simp [Lit.wf,IntKind.min,IntKind.max,IntKind.signed,IntKind.bits];omega
 rw [hl] at d1 d2 hwf
 go_enter Tryz.func146,Tryz.ntmps146
 go_wp2_with (first | (at_lookup;refine wpList_lookup_own_ok_int _ rfl _ _ 181 rfl 5 3 .i64 lawU Tryz.underlying181 Tryz.underlying3 (zeroI _) w.heap.size 3 _ rfl hown _ _ rfl (keyOf_int_mk Tryz.underlying5 hwf) ?_;intro cc hat hwc) | fail)
 refine hc.mono ?_
 rintro e w' ⟨rfl,hg⟩
 go_wp2_with fail
 go_ret2
 exact ⟨rfl,hg⟩
theorem clock_fn {w:World}{g:Gh}{h:AH}(hs:SimH w g h) {s:ByteArray}{d:Int}(hz:s.size≤24) (h0:s.size≠0) (hk:wsuK (ZbA s)=none) (hv:ZbV s=none) :
  Calls Tryz.prog 146 #[.string s,.int .i64 d] w fun e w2=>e=wrP∧ZlV g h w w2:=by
 obtain ⟨w1,w2,w3,hrun1,hrun2,hrun3,hown,hb3⟩:=ZeN w
 have hmm := @run_makeMap Tryz.prog
 have hc:=Zio hs hb3 (x:=s) hz hv
 have hl:ZbA s=((s[s.size-1]'(by omega)).toNat:Int):=by unfold ZbA ZbF;rw [Zcl (by omega)]
 obtain ⟨d1,d2⟩:=ZfR (ZbA s)
 rw [hk] at d1 d2
 have hwf:(Lit.int .u8 (ZbA s)).wf=true:=by have:=ZdN s (s.size-1);unfold ZbA ZbF;simp [Lit.wf,IntKind.min,IntKind.max,IntKind.signed,IntKind.bits];omega
 rw [hl] at d1 d2 hwf
 go_enter Tryz.func146,Tryz.ntmps146
 go_wp2_with (first | (at_lookup;refine wpList_lookup_own_ok_int _ rfl _ _ 181 rfl 5 3 .i64 lawU Tryz.underlying181 Tryz.underlying3 (zeroI _) w.heap.size 3 _ rfl hown _ _ rfl (keyOf_int_mk Tryz.underlying5 hwf) ?_;intro cc hat hwc) | fail)
 refine hc.mono ?_
 rintro e w' ⟨rfl,hg⟩
 exact ⟨rfl,rfl,hg⟩
theorem ZjU {s:ByteArray}{d:Int}{h:AH}(hz:s.size≤24):ACalls Tryz.prog 146 [sv s,iv d] h fun x h'=>h'=h∧x=res ((Zcy d s).map fun p=>.tup [iv p.1,iv p.2]):=by
  refine ⟨by kernel_rfl,fun w g vs hs ha=>?_⟩
  simp only [RepL,Rep] at ha
  obtain ⟨u1,us1,e1,rfl,u2,us2,rfl,rfl,rfl⟩:=ha
  obtain rfl:vs = #[.string s,.int .i64 d]:=by cases vs;simp_all
  have good : ∀ {e : Ending} {w2 : World} {n k : Int}, e = .returned (.tuple #[.int .i64 n, .int .i64 k]) ∧ ZlV g h w w2 → Zcy d s = some (n, k) →
      ∃ x h' g',EndR w2 g' e x∧SimH w2 g' h'∧g.le g'∧Fr w (Ow g h) w2∧(∀ k,Ow g' h' k→Ow g h k∨w.heap.size≤k)∧h'=h∧x=res ((Zcy d s).map fun p=>.tup [iv p.1,iv p.2]):=by
    rintro e w2 n k ⟨rfl,g2,q1,q2,q3,q4⟩ hc
    refine ⟨_,h,g2,?_,q1,q2,q3,q4,rfl,rfl⟩
    rw [hc]
    simp only [EndR,res,Option.map_some,Rep,RepL]
    exact ⟨_,rfl,_,_,rfl,rfl,_,_,rfl,rfl,rfl⟩
  have panic : ∀ {e : Ending} {w2 : World}, e = wrP ∧ ZlV g h w w2 → Zcy d s = none →
      ∃ x h' g',EndR w2 g' e x∧SimH w2 g' h'∧g.le g'∧Fr w (Ow g h) w2∧(∀ k,Ow g' h' k→Ow g h k∨w.heap.size≤k)∧h'=h∧x=res ((Zcy d s).map fun p=>.tup [iv p.1,iv p.2]):=by
    rintro e w2 ⟨rfl,g2,q1,q2,q3,q4⟩ hc
    refine ⟨_,h,g2,?_,q1,q2,q3,q4,rfl,rfl⟩
    rw [hc]
    simp only [EndR,res,Option.map_none,Rep]
    exact ⟨_,rfl,rfl⟩
  by_cases h0:s.size=0
  · have hv:ZbV s=none:=by
      cases hv:ZbV s with
      | none=>rfl
      | some n=>exact absurd h0 (Zip hv).1
    exact (clock_e (d:=d) hs hz h0 hv).mono fun e w2 hp=>panic hp (by unfold Zcy;rw [if_pos h0,hv])
  · cases hk:wsuK (ZbA s) with
    | none =>
      cases hv:ZbV s with
      | none=>exact (clock_fn (d:=d) hs hz h0 hk hv).mono fun e w2 hp=>panic hp (by unfold Zcy;rw [if_neg h0,hk,hv])
      | some n=>exact (clock_fs (d:=d) hs hz h0 hk hv).mono fun e w2 hp=>good hp (by unfold Zcy;rw [if_neg h0,hk,hv])
    | some k =>
      cases hv:ZbV (s.extract 0 (s.size-1)) with
      | none=>exact (clock_tn (d:=d) hs hz h0 hk hv).mono fun e w2 hp=>panic hp (by unfold Zcy;rw [if_neg h0,hk];simp only;rw [hv])
      | some n=>exact (clock_ts (d:=d) hs hz h0 hk hv).mono fun e w2 hp=>good hp (by unfold Zcy;rw [if_neg h0,hk];simp only;rw [hv])
end Go.Proofs.YtgjchdhdopgkkaaGreatDoor
end
section
namespace Go.Proofs.YtgjchdhdopgkkaaGreatDoor
open Go.Ab Go.RowKit Civ
attribute [local simp] Zbd
section
theorem Zno {τ:Operand→AV}{y0:Operand}{x0_0:AV}(h0:Zap (τ y0)=some [x0_0]) (l0:[x0_0].all leaf=true):Zat τ [(0,1,y0)] [(.v (.string ⟨#[]⟩)),(.v (.int .i64 0)),(.v (.int .i64 0)),(.v (.int .i64 0)),(.v (.int .i64 0)),(.v (.int .i64 0)),(.v (.int .i64 0)),(.v (.int .i64 0)),(.v (.int .i64 0)),(.v (.int .i64 0)),(.v (.string ⟨#[]⟩))]=some [x0_0,(.v (.int .i64 0)),(.v (.int .i64 0)),(.v (.int .i64 0)),(.v (.int .i64 0)),(.v (.int .i64 0)),(.v (.int .i64 0)),(.v (.int .i64 0)),(.v (.int .i64 0)),(.v (.int .i64 0)),(.v (.string ⟨#[]⟩))]:=by
 simp only [Zat,h0,l0]
 rfl
theorem ZfI {a0 a1 a2 a3 a4 a5 a6 a7 a8 a9 a10 c0 c1 c2 c3 c4 c5 c6 c7 c8 c9 c10:AV}{l:List AV}:setCells (a0::a1::a2::a3::a4::a5::a6::a7::a8::a9::a10::l) 0 [c0,c1,c2,c3,c4,c5,c6,c7,c8,c9,c10]=c0::c1::c2::c3::c4::c5::c6::c7::c8::c9::c10::l:=rfl
theorem ZoO {a0 a1 c0:AV}{l:List AV}:setCells (a0::a1::l) 1 [c0]=a0::c0::l:=rfl
theorem Zgt {a0 a1 a2 c0:AV}{l:List AV}:setCells (a0::a1::a2::l) 2 [c0]=a0::a1::c0::l:=rfl
theorem ZoN {a0 a1 a2 a3 c0:AV}{l:List AV}:setCells (a0::a1::a2::a3::l) 3 [c0]=a0::a1::a2::c0::l:=rfl
theorem ZoM {a0 a1 a2 a3 a4 a5 a6 c0 c1 c2:AV}{l:List AV}:setCells (a0::a1::a2::a3::a4::a5::a6::l) 4 [c0,c1,c2]=a0::a1::a2::a3::c0::c1::c2::l:=rfl
theorem ZoL {a0 a1 a2 a3 a4 a5 a6 a7 c0:AV}{l:List AV}:setCells (a0::a1::a2::a3::a4::a5::a6::a7::l) 7 [c0]=a0::a1::a2::a3::a4::a5::a6::c0::l:=rfl
theorem ZoK {a0 a1 a2 a3 a4 a5 a6 a7 a8 c0:AV}{l:List AV}:setCells (a0::a1::a2::a3::a4::a5::a6::a7::a8::l) 8 [c0]=a0::a1::a2::a3::a4::a5::a6::a7::c0::l:=rfl
theorem ZoJ {a0 a1 a2 a3 a4 a5 a6 a7 a8 a9 c0:AV}{l:List AV}:setCells (a0::a1::a2::a3::a4::a5::a6::a7::a8::a9::l) 9 [c0]=a0::a1::a2::a3::a4::a5::a6::a7::a8::c0::l:=rfl
theorem Znn {a0 a1 a2 a3 a4 a5 a6 a7 a8 a9 a10 c0:AV}{l:List AV}:setCells (a0::a1::a2::a3::a4::a5::a6::a7::a8::a9::a10::l) 10 [c0]=a0::a1::a2::a3::a4::a5::a6::a7::a8::a9::c0::l:=rfl
theorem Zev {a0 a1 a2 a3 a4 a5 a6 a7 a8 a9 a10:AV}{l:List AV}:((a0::a1::a2::a3::a4::a5::a6::a7::a8::a9::a10::l).drop 0).take 11=[a0,a1,a2,a3,a4,a5,a6,a7,a8,a9,a10]:=rfl
end
def c114:AC:=(Sr [Oo 2 (.new 48 11 [Ss,(iv 0),(iv 0),(iv 0),(iv 0),(iv 0),(iv 0),(iv 0),(iv 0),(iv 0),Ss])] (Sr [Mv 6 0,Cl 7 115 [(.tmp 6)],Oo 8 (.build [Ss,(iv 0),(iv 0),(iv 0),(iv 0),(iv 0),(iv 0),(iv 0),(iv 0),(iv 0),Ss] [(0,(1,(.tmp 7)))]),Oo 3 (.new 48 11 [Ss,(iv 0),(iv 0),(iv 0),(iv 0),(iv 0),(iv 0),(iv 0),(iv 0),(iv 0),Ss]),⟨none,none,(.store 11 (.tmp 3) (.tmp 8))⟩] (Sr [Mv 9 0,Cl 10 112 [(.tmp 9)],Cl 11 143 [(.tmp 10),(Ci 4),(Ci 4)],Fa 12 1 3,Sc 12 11] (.seq (Sr [Mv 13 0,Cl 14 112 [(.tmp 13)],Mv 4 14] (Sr [Mv 15 4] (.block 0 (Sr [Oo 20 (.bin .eql (.tmp 15) (.const (.string ⟨#[111,110,108,121]⟩))),Mv 19 20] (Cd 19 (.reg [Fa 21 1 3,Ld 22 21,Fa 23 2 3,Sc 23 22]) (Sr [Oo 25 (.bin .eql (.tmp 15) (.const (.string ⟨#[109,97,120]⟩))),Mv 24 25] (Cd 24 (.reg [Fa 26 2 3,⟨none,none,(.store 1 (.tmp 26) (Ci 2100))⟩]) (.reg [Mv 16 4,Cl 17 143 [(.tmp 16),(Ci 4),(Ci 4)],Fa 18 2 3,Sc 18 17])))))))) (Sr [Mv 27 0,Cl 28 144 [(.tmp 27)],Fa 29 3 3,Sc 29 28] (Sr [Mv 30 0,Cl 31 145 [(.tmp 30)],Fa 32 4 3,⟨none,none,(.store 3 (.tmp 32) (.tmp 31))⟩] (Sr [Mv 34 0,Cl 35 112 [(.tmp 34)],Cl 36 146 [(.tmp 35),(Ci 1)],Mv 33 36,Ex 37 33 0,Ex 38 33 1,Fa 39 7 3,Sc 39 37,Fa 40 8 3,Sc 40 38] (Sr [Mv 41 0,Cl 42 112 [(.tmp 41)],Cl 43 147 [(.tmp 42)],Fa 44 9 3,Sc 44 43] (.seq (Sr [Mv 45 0,Cl 46 112 [(.tmp 45)],Mv 5 46] (Sr [Mv 47 5,Oo 48 (.bin .neq (.tmp 47) (.const (.string ⟨#[45]⟩)))] (Cd 48 (Sr [Mv 49 5,Fa 50 10 3,Sc 50 49] (Sr [Mv 51 5,Oo 52 (.bin .eql (.tmp 51) (.const (.string ⟨#[]⟩))),Mv 53 52,Of 54 53 (mt 5),Of 55 53 (.call (.func 81) [(.tmp 54)]),Of 56 53 (.un .not (.tmp 55)),Oo 57 (.pick (.tmp 53) (.const (.bool true)) (.tmp 56))] (Cd 57 (.reg [Cl 58 111 []]) .skip))) .skip))) (Sr [Oo 59 (.load true 11 (.tmp 3)),⟨none,none,(.store 11 (.tmp 2) (.tmp 59))⟩] .ret))))))))))
theorem k114:ZaH Tryz.prog 114=some ⟨c114,[(.cell 2 true 11)],60⟩:=by kernel_rfl
theorem Ztr {β:Type}{k:Frm→RM β}{l l':List ByteArray}{a:Frm}(e:ZeZ l=some (a,l')):ZaN Zbf (fun s=>ZaN (Zbs (Zdf s)) k) l=k a l':=by
 have:ZaN Zbf (fun s=>ZaN (Zbs (Zdf s)) k)=ZaN ZeZ k:=bindR_assoc.symm
 rw [this];exact Za8 e
theorem Zts {β:Type}{k:Frm→RM β}{l:List ByteArray}(e:ZeZ l=none):ZaN Zbf (fun s=>ZaN (Zbs (Zdf s)) k) l=none:=by
 have:ZaN Zbf (fun s=>ZaN (Zbs (Zdf s)) k)=ZaN ZeZ k:=bindR_assoc.symm
 rw [this];exact Zbh e
theorem okL_form {l l':List ByteArray}{k:Frm}(ho:okL l) (e:ZeZ l=some (k,l')):okL l':=by
 unfold ZeZ ZaN at e
 cases hn:Zbf l with
 | none=>rw [hn] at e;cases e
 | some p =>
  rw [hn] at e
  obtain ⟨h1,h2⟩:=Zb8 ho hn
  simp only [Zbs] at e
  cases hi:Zdf p.1 with
  | none=>rw [hi] at e;cases e
  | some n=>rw [hi] at e;cases e;exact h2
theorem sform_e {l l':List ByteArray}{k:Frm}{id:Nat}{h:AH}(ho:okL l) (e:ZeZ l=some (k,l')) (h1:h[id]?=some (rdE l)):ACalls Tryz.prog 145 [.ptr id 0 0] h fun x h'=>x=.ret (frmC k)∧h'=h.set id (rdE l'):=RS.a (p:=(frmC k,l')) (Zmp ho h1) (by rw [e];rfl)
theorem sform_p {l:List ByteArray}{id:Nat}{h:AH}(ho:okL l) (e:ZeZ l=none) (h1:h[id]?=some (rdE l)):ACalls Tryz.prog 145 [.ptr id 0 0] h fun x h'=>x=.pan wrA ∧ ∃ l',h'=h.set id (rdE l'):=RS.p (Zmp ho h1) (by rw [e];rfl)
theorem ZnP {s:ByteArray}{n:Int}{h:AH}(hz:s.size≤24) (e:ZbV s=some n):Ac 147 [sv s] h (iv n):=Zn0 (ZgA hz) (by rw [e];rfl)
theorem ZnO {s:ByteArray}{h:AH}(hz:s.size≤24) (e:ZbV s=none):ACalls Tryz.prog 147 [sv s] h fun x h'=>h'=h∧x=.pan wrA:=ZnZ (ZgA hz) (by rw [e];rfl)
theorem ZpD {s:ByteArray}{d:Int}{p:Int×Int}{h:AH}(hz:s.size≤24) (e:Zcy d s=some p):Ac 146 [sv s,iv d] h (.tup [iv p.1,iv p.2]):=Zn0 (ZjU hz) (by rw [e];rfl)
theorem ZpC {s:ByteArray}{d:Int}{h:AH}(hz:s.size≤24) (e:Zcy d s=none):ACalls Tryz.prog 146 [sv s,iv d] h fun x h'=>h'=h∧x=.pan wrA:=ZnZ (ZjU hz) (by rw [e];rfl)
def ZmE (nm:ByteArray) (f t2:Int):RM Rul :=
 ZaN Zdg fun m=>ZaN (ZaN Zbf fun s=>Zbs (Zdf s)) fun k =>
  ZaN (ZaN Zbf fun s=>Zbs (Zcy 1 s)) fun c=>ZaN (ZaN Zbf fun s=>Zbs (ZbV s)) fun sv=>ZaN (ZaN Zbf fun s=>Zbs (Zda s)) fun l=>retR (nm,f,t2,m,k,c.1,c.2,sv,l)
theorem Zme {l:List ByteArray}{id:Nat}{h:AH}(ho:okL l) (h1:h[id]?=some (rdE l)):ACalls Tryz.prog 114 [.ptr id 0 0] h (RS id h ((ZgK l).map fun p=>(.agg (rulC p.1),p.2))):=by
 have hid:id<h.length:=(List.getElem?_eq_some_iff.1 h1).1
 obtain ⟨X,hX⟩ : ∃ X,ZgK l=X:=⟨_,rfl⟩
 have hX2:=hX
 unfold ZgK at hX2
 simp only [bindR_assoc] at hX2
 refine tJ' k114 fun N hn hlt hlA hbd=>?_
 simp only [tb'] at hbd ⊢
 refine ZbG (h1:=h.set id (rdE l)++[]) (by rw [ZbU h1]) ?_
 refine wr'<|E' (Zbq (hl0 (Zad hn)) ha0) pt<|sn'<|wr'<|mv' lk pt<|?_
 by_cases hs3 : ∃ p,ZcI l=some p
 ·obtain ⟨⟨nm,l1⟩,e1⟩:=hs3
  obtain ⟨z1,o1⟩:=Zlb ho e1
  rw [Za8 e1] at hX2
  refine ZaA mp (ZkV ho e1 (ZaC hid)) (Zax hid) pt<|V' (ZaB (Zno (cvl lk rfl) rfl)) pt<|E' (Zbq (hl1 (Zad hn)) ha1) pt<|E' (Zal lk (cvl lk rfl) (hga (Zad hn) rfl) rfl (nb' rfl) rfl ZfI (hs1 (Zad hn))) ptn<|sn'<|wr'<|mv' lk pt<|?_
  by_cases hs8 : ∃ p,Zbf l1=some p
  ·obtain ⟨⟨s2,l2⟩,e2⟩:=hs8
   obtain ⟨z2,o2⟩:=Zb8 o1 e2
   rw [Za8 e2] at hX2
   refine ZaA mp (ZcZ e2 (ZaC hid)) (Zax hid) pt ?_
   by_cases hs9 : ∃ n,numV s2 4 4=some n
   ·obtain ⟨f,e3⟩:=hs9
    rw [ZbX e3] at hX2
    refine Zae mp (ZgC z2 (by omega) (by omega) e3) pt ?_
    refine V' (Zaa lk) pt<|E' (Zal lk (cvl lk rfl) (hga (Zad hn) rfl) rfl (nb' rfl) rfl ZoO (hs1 (Zad hn))) ptn<|sn'<|?_
    refine Zl7 (ι:=ByteArray×Int×Int×List ByteArray) (fun (x_:ByteArray×Int×Int×List ByteArray)=>match x_ with | ⟨nm,f,yr,l4⟩=>[(4,.any)]++rn' 13 14) (fun (x_:ByteArray×Int×Int×List ByteArray)=>match x_ with | ⟨nm,f,yr,l4⟩=>h.set id (rdE l4)++[.mk 0 48 11 [sv ⟨#[]⟩,iv 0,iv 0,iv 0,iv 0,iv 0,iv 0,iv 0,iv 0,iv 0,sv ⟨#[]⟩],.mk 0 48 11 [sv nm,iv f,iv yr,iv 0,iv 0,iv 0,iv 0,iv 0,iv 0,iv 0,sv ⟨#[]⟩]]) (fun (x_:ByteArray×Int×Int×List ByteArray)=>match x_ with | ⟨nm,f,yr,l4⟩=>okL l4∧ZmE nm f yr l4=X) ?_ ?_
    ·try simp only [sm',Nat.reduceAdd]
     refine wr'<|mv' lk pt<|?_
     by_cases hs13 : ∃ p,Zbf l2=some p
     ·obtain ⟨⟨s4,l4⟩,e4⟩:=hs13
      obtain ⟨z4,o4⟩:=Zb8 o2 e4
      rw [Za8 e4] at hX2
      refine ZaA mp (ZcZ e4 (ZaC hid)) (Zax hid) pt<|mv' lk pt<|sn'<|wr'<|mv' lk pt<|sn'<|Zao<|wr'<|V' (Zcj lk lks) pt<|mv' lk pt<|?_
      refine sn' ?_
      refine cd' lk (fun hc1=>?_) (fun hc1=>?_)
      ·have e5:toV f s4=some f:=if_pos (show s4=Zk8 from hc1)
       refine Zar<|V' (Zaa lk) pt<|V' (Zac lk (hga (Zad hn) rfl) gt1) pt<|V' (Zaa lk) pt<|E' (Zal lk (cvl lk rfl) (hga (Zad hn) rfl) rfl (nb' rfl) rfl Zgt (hs1 (Zad hn))) ptn<|Zas<|ZaF<|ZaI<|?_
       exact cT' (⟨nm,f,f,l4⟩) (by refine ⟨o4,?_⟩;rw [ZbX e5] at hX2;unfold ZmE;simp only [bindR_assoc];exact hX2)
      refine wr'<|V' (Zcj lk lks) pt<|mv' lk pt<|sn'<|?_
      refine cd' lk (fun hc2=>?_) (fun hc2=>?_)
      ·have e5:toV f s4=some 2100:=by unfold toV;rw [if_neg (show ¬s4=Zk8 from hc1),if_pos (show s4=maxA from hc2)]
       refine Zar<|V' (Zaa lk) pt<|E' (Zal lk (cvl lki rfl) (hga (Zad hn) rfl) rfl (nb' rfl) rfl Zgt (hs1 (Zad hn))) ptn<|Zas<|ZaF<|ZaI<|?_
       exact cT' (⟨nm,f,2100,l4⟩) (by refine ⟨o4,?_⟩;rw [ZbX e5] at hX2;unfold ZmE;simp only [bindR_assoc];exact hX2)
      have e5':toV f s4=numV s4 4 4:=by unfold toV;rw [if_neg (show ¬s4=Zk8 from hc1),if_neg (show ¬s4=maxA from hc2)]
      refine Zar<|mv' lk pt<|?_
      by_cases hs27 : ∃ n,numV s4 4 4=some n
      ·obtain ⟨y0,e50⟩:=hs27
       have e5:toV f s4=some y0:=e5'.trans e50
       refine Zae mp (ZgC z4 (by omega) (by omega) e50) pt ?_
       refine V' (Zaa lk) pt<|E' (Zal lk (cvl lk rfl) (hga (Zad hn) rfl) rfl (nb' rfl) rfl Zgt (hs1 (Zad hn))) ptn<|Zas<|ZaF<|ZaI<|?_
       exact cT' (⟨nm,f,y0,l4⟩) (by refine ⟨o4,?_⟩;rw [ZbX e5] at hX2;unfold ZmE;simp only [bindR_assoc];exact hX2)
      have e50:=ZaT hs27
      rw [Zck (e5'.trans e50)] at hX2
      refine Zay mp (ZgB z4 (by omega) (by omega) e50) ?_
      refine ZcQ<|ZaS<|Zba<|?_
      exact ⟨_,_,rfl,Zad hn,ZaR hlt ZaJ,rfl,by rw [hX,←hX2];exact ⟨rfl,_,rfl⟩⟩
     have e4:=ZaT hs13
     rw [Zbh e4] at hX2
     refine ZaP mp (ZcY e4 (ZaC hid)) (fun hP_ hPp_=>?_)
     refine ZaS<|ZaS<|Zba<|?_
     obtain ⟨l',rfl⟩:=hPp_
     rw [Zax hid]
     exact ⟨_,_,rfl,Zad hn,ZaR hlt ZaJ,rfl,by rw [hX,←hX2];exact ⟨rfl,l',rfl⟩⟩
    rintro ⟨nm,f,yr,l4⟩ hq8
    try simp only [sm',Nat.reduceAdd]
    clear hX2
    obtain ⟨o4,hX2⟩:=hq8
    unfold ZmE at hX2
    simp only [bindR_assoc] at hX2
    refine wr'<|mv' lk pt<|?_
    by_cases hs31 : ∃ p,Zdg l4=some p
    ·obtain ⟨⟨m,l6⟩,e6⟩:=hs31
     have o6:=ZmN o4 e6
     rw [Za8 e6] at hX2
     refine ZaA mp (Zpy e6 (ZaC hid)) (Zax hid) pt<|V' (Zaa lk) pt<|E' (Zal lk (cvl lk rfl) (hga (Zad hn) rfl) rfl (nb' rfl) rfl ZoN (hs1 (Zad hn))) ptn<|sn'<|wr'<|mv' lk pt<|?_
     by_cases hs35 : ∃ p,ZeZ l6=some p
     ·obtain ⟨⟨k,l7⟩,e7⟩:=hs35
      have o7:=okL_form o6 e7
      rw [Ztr e7] at hX2
      refine ZaA mp (sform_e o6 e7 (ZaC hid)) (Zax hid) pt<|V' (Zaa lk) pt<|E' (Zal lk (cvl lk rfl) (hga (Zad hn) rfl) rfl (nb' rfl) rfl ZoM (hs1 (Zad hn))) ptn<|sn'<|wr'<|mv' lk pt<|?_
      by_cases hs39 : ∃ p,Zbf l7=some p
      ·obtain ⟨⟨s8,l8⟩,e8⟩:=hs39
       obtain ⟨z8,o8⟩:=Zb8 o7 e8
       rw [Za8 e8] at hX2
       refine ZaA mp (ZcZ e8 (ZaC hid)) (Zax hid) pt ?_
       by_cases hs40 : ∃ p,Zcy 1 s8=some p
       ·obtain ⟨c,e9⟩:=hs40
        rw [ZbX e9] at hX2
        refine Zae mp (ZpD z8 e9) pt<|mv' lk pt<|V' (Zbb lk gt) pt<|V' (Zbb lk gt) pt<|V' (Zaa lk) pt<|E' (Zal lk (cvl lk rfl) (hga (Zad hn) rfl) rfl (nb' rfl) rfl ZoL (hs1 (Zad hn))) ptn<|V' (Zaa lk) pt<|E' (Zal lk (cvl lk rfl) (hga (Zad hn) rfl) rfl (nb' rfl) rfl ZoK (hs1 (Zad hn))) ptn<|sn'<|wr'<|mv' lk pt<|?_
        by_cases hs49 : ∃ p,Zbf l8=some p
        ·obtain ⟨⟨s10,l10⟩,e10⟩:=hs49
         obtain ⟨z10,o10⟩:=Zb8 o8 e10
         rw [Za8 e10] at hX2
         refine ZaA mp (ZcZ e10 (ZaC hid)) (Zax hid) pt ?_
         by_cases hs50 : ∃ p,ZbV s10=some p
         ·obtain ⟨svd,e11⟩:=hs50
          rw [ZbX e11] at hX2
          refine Zae mp (ZnP z10 e11) pt<|V' (Zaa lk) pt<|E' (Zal lk (cvl lk rfl) (hga (Zad hn) rfl) rfl (nb' rfl) rfl ZoJ (hs1 (Zad hn))) ptn<|sn'<|Zam<|wr'<|mv' lk pt<|?_
          by_cases hs54 : ∃ p,Zbf l10=some p
          ·obtain ⟨⟨s12,l12⟩,e12⟩:=hs54
           obtain ⟨z12,o12⟩:=Zb8 o10 e12
           rw [Za8 e12] at hX2
           refine ZaA mp (ZcZ e12 (ZaC hid)) (Zax hid) pt<|mv' lk pt<|sn'<|wr'<|mv' lk pt<|V' (Zcp lk lks) pt<|sn'<|?_
           refine cd' lk (fun hc3=>?_) (fun hc3=>?_)
           ·refine wr'<|mv' lk pt<|V' (Zaa lk) pt<|E' (Zal lk (cvl lk rfl) (hga (Zad hn) rfl) rfl (nb' rfl) rfl Znn (hs1 (Zad hn))) ptn<|sn'<|wr'<|mv' lk pt<|V' (Zcj lk lks) pt<|mv' lk pt<|?_
            refine sp' (t:=53) gt pt pt (fun hg53=>?_) (fun hg53=>?_)
            ·have h9:Zda s12=none:=by unfold Zda ZdM;rw [if_neg];simp;intro h;exact absurd hg53 h
             rw [Zck h9] at hX2
             refine s_no gt pt<|s_no gt pt<|s_no gt pt<|V' (Zaj lk lkb) pt<|sn'<|ZaG lk<|Zar<|Zay mp0 (ZbO)<|ZaS<|Zba<|?_
             exact ⟨_,_,rfl,Zad hn,ZaR hlt ZaJ,rfl,by rw [hX,←hX2];exact ⟨rfl,_,rfl⟩⟩
            refine s_do gt<|mv' lk pt<|s_do gt<|?_
            refine Zae mp (ZmX (by unfold maxLen;omega)) pt ?_
            refine s_do gt<|V' (Zav lk) pt<|V' (Zah lk lk) pt<|sn'<|?_
            refine Zaw lk (fun hc4=>?_) (fun hc4=>?_)
            ·have h9:Zda s12=none:=by unfold Zda ZdM;rw [if_neg];simp only [Bool.not_eq_true'] at hc4;rw [hc4,decide_eq_false (show ¬s12=bA [45] from hc3)];simp
             rw [Zck h9] at hX2
             refine Zar<|Zay mp0 (ZbO)<|ZaS<|Zba<|?_
             exact ⟨_,_,rfl,Zad hn,ZaR hlt ZaJ,rfl,by rw [hX,←hX2];exact ⟨rfl,_,rfl⟩⟩
            have hlt9:ZbZ s12=true:=by simpa using hc4
            have h9:Zda s12=some s12:=by unfold Zda ZdM;rw [if_pos (by rw [hlt9,decide_eq_true hg53];simp),if_neg (show ¬s12=bA [45] from hc3)]
            rw [ZbX h9] at hX2
            refine Zaf<|Zai<|wr'<|V' (Zau lk (hga (Zad hn) rfl) Zev rfl) pt<|E' (Zal lk (cvl lk rfl) (hga (Zad hn) rfl) rfl (nb' rfl) rfl ZfI (hs0 (Zad hn))) ptn<|sn'<|Zab<|Zag (rs1 (rr_c gt (hga (Zad hn) rfl) (ld1 Zev rfl)))<|?_
            exact ⟨_,_,rfl,Zad hn,ZaR hlt ZaJ,rfl,by rw [hX,←hX2];exact ⟨rfl,rfl⟩⟩
           have hc3':s12=bA [45]:=Decidable.of_not_not hc3
           have h9:Zda s12=some ⟨#[]⟩:=by rw [hc3'];rfl
           rw [ZbX h9] at hX2
           refine Zaf<|Zai<|wr'<|V' (Zau lk (hga (Zad hn) rfl) Zev rfl) pt<|E' (Zal lk (cvl lk rfl) (hga (Zad hn) rfl) rfl (nb' rfl) rfl ZfI (hs0 (Zad hn))) ptn<|sn'<|Zab<|Zag (rs1 (rr_c gt (hga (Zad hn) rfl) (ld1 Zev rfl)))<|?_
           exact ⟨_,_,rfl,Zad hn,ZaR hlt ZaJ,rfl,by rw [hX,←hX2];exact ⟨rfl,rfl⟩⟩
          have e12:=ZaT hs54
          rw [Zbh e12] at hX2
          refine ZaP mp (ZcY e12 (ZaC hid)) (fun hP_ hPp_=>?_)
          refine ZaS<|ZaS<|Zba<|?_
          obtain ⟨l',rfl⟩:=hPp_
          rw [Zax hid]
          exact ⟨_,_,rfl,Zad hn,ZaR hlt ZaJ,rfl,by rw [hX,←hX2];exact ⟨rfl,l',rfl⟩⟩
         have e11:=ZaT hs50
         rw [Zck e11] at hX2
         refine Zay mp (ZnO z10 e11)<|ZaS<|Zba<|?_
         exact ⟨_,_,rfl,Zad hn,ZaR hlt ZaJ,rfl,by rw [hX,←hX2];exact ⟨rfl,_,rfl⟩⟩
        have e10:=ZaT hs49
        rw [Zbh e10] at hX2
        refine ZaP mp (ZcY e10 (ZaC hid)) (fun hP_ hPp_=>?_)
        refine ZaS<|Zba<|?_
        obtain ⟨l',rfl⟩:=hPp_
        rw [Zax hid]
        exact ⟨_,_,rfl,Zad hn,ZaR hlt ZaJ,rfl,by rw [hX,←hX2];exact ⟨rfl,l',rfl⟩⟩
       have e9:=ZaT hs40
       rw [Zck e9] at hX2
       refine Zay mp (ZpC z8 e9)<|ZaS<|Zba<|?_
       exact ⟨_,_,rfl,Zad hn,ZaR hlt ZaJ,rfl,by rw [hX,←hX2];exact ⟨rfl,_,rfl⟩⟩
      have e8:=ZaT hs39
      rw [Zbh e8] at hX2
      refine ZaP mp (ZcY e8 (ZaC hid)) (fun hP_ hPp_=>?_)
      refine ZaS<|Zba<|?_
      obtain ⟨l',rfl⟩:=hPp_
      rw [Zax hid]
      exact ⟨_,_,rfl,Zad hn,ZaR hlt ZaJ,rfl,by rw [hX,←hX2];exact ⟨rfl,l',rfl⟩⟩
     have e7:=ZaT hs35
     rw [Zts e7] at hX2
     refine ZaP mp (sform_p o6 e7 (ZaC hid)) (fun hP_ hPp_=>?_)
     refine ZaS<|Zba<|?_
     obtain ⟨l',rfl⟩:=hPp_
     rw [Zax hid]
     exact ⟨_,_,rfl,Zad hn,ZaR hlt ZaJ,rfl,by rw [hX,←hX2];exact ⟨rfl,l',rfl⟩⟩
    have e6:=ZaT hs31
    rw [Zbh e6] at hX2
    refine ZaP mp (Zpx e6 (ZaC hid)) (fun hP_ hPp_=>?_)
    refine ZaS<|Zba<|?_
    obtain ⟨l',rfl⟩:=hPp_
    rw [Zax hid]
    exact ⟨_,_,rfl,Zad hn,ZaR hlt ZaJ,rfl,by rw [hX,←hX2];exact ⟨rfl,l',rfl⟩⟩
   have e3:=ZaT hs9
   rw [Zck e3] at hX2
   refine Zay mp (ZgB z2 (by omega) (by omega) e3) ?_
   refine ZaS<|Zba<|?_
   exact ⟨_,_,rfl,Zad hn,ZaR hlt ZaJ,rfl,by rw [hX,←hX2];exact ⟨rfl,_,rfl⟩⟩
  have e2:=ZaT hs8
  rw [Zbh e2] at hX2
  refine ZaP mp (ZcY e2 (ZaC hid)) (fun hP_ hPp_=>?_)
  refine ZaS<|Zba<|?_
  obtain ⟨l',rfl⟩:=hPp_
  rw [Zax hid]
  exact ⟨_,_,rfl,Zad hn,ZaR hlt ZaJ,rfl,by rw [hX,←hX2];exact ⟨rfl,l',rfl⟩⟩
 have e1:=ZaT hs3
 rw [Zbh e1] at hX2
 refine ZaP mp (ZkU ho e1 (ZaC hid)) (fun hP_ hPp_=>?_)
 refine ZaS<|Zba<|?_
 obtain ⟨l',rfl⟩:=hPp_
 rw [Zax hid]
 exact ⟨_,_,rfl,Zad hn,ZaR hlt ZaJ,rfl,by rw [hX,←hX2];exact ⟨rfl,l',rfl⟩⟩
end Go.Proofs.YtgjchdhdopgkkaaGreatDoor
end
section
namespace Go.Proofs.YtgjchdhdopgkkaaGreatDoor
open Go.Ab Go.RowKit Civ
attribute [local simp] Zbd
section
theorem Zjz {τ:Operand→AV}{y0 y1 y2:Operand}{x0_0 x1_0 x2_0:AV}(h0:Zap (τ y0)=some [x0_0]) (l0:[x0_0].all leaf=true) (h1:Zap (τ y1)=some [x1_0]) (l1:[x1_0].all leaf=true) (h2:Zap (τ y2)=some [x2_0]) (l2:[x2_0].all leaf=true):Zat τ [(0,1,y0),(1,1,y1),(2,1,y2)] [(.v (.int .i64 0)),(.v (.int .i64 0)),(.v (.int .i64 0))]=some [x0_0,x1_0,x2_0]:=by
 simp only [Zat,h0,l0,h1,l1,h2,l2]
 rfl
theorem Zjy {τ:Operand→AV}{y0:Operand}{x0_0 x0_1 x0_2:AV}(h0:Zap (τ y0)=some [x0_0,x0_1,x0_2]) (l0:[x0_0,x0_1,x0_2].all leaf=true):Zat τ [(0,3,y0)] [(.v (.int .i64 0)),(.v (.int .i64 0)),(.v (.int .i64 0)),(.v (.int .i64 0)),(.v (.int .i64 0))]=some [x0_0,x0_1,x0_2,(.v (.int .i64 0)),(.v (.int .i64 0))]:=by
 simp only [Zat,h0,l0]
 rfl
theorem Zjk {a0 a1 a2 a3 a4 c0 c1 c2 c3 c4:AV}{l:List AV}:setCells (a0::a1::a2::a3::a4::l) 0 [c0,c1,c2,c3,c4]=c0::c1::c2::c3::c4::l:=rfl
theorem ZoH {a0 a1 a2 a3 c0:AV}{l:List AV}:setCells (a0::a1::a2::a3::l) 3 [c0]=a0::a1::a2::c0::l:=rfl
theorem ZoG {a0 a1 a2 a3 a4 c0:AV}{l:List AV}:setCells (a0::a1::a2::a3::a4::l) 4 [c0]=a0::a1::a2::a3::c0::l:=rfl
theorem Zjj {a0 a1 a2 a3 a4:AV}{l:List AV}:((a0::a1::a2::a3::a4::l).drop 0).take 5=[a0,a1,a2,a3,a4]:=rfl
theorem ZoI {a0 a1 a2 c0:AV}{l:List AV}:setCells (a0::a1::a2::l) 2 [c0]=a0::a1::c0::l:=rfl
theorem Zgs {a0 a1 c0:AV}{l:List AV}:setCells (a0::a1::l) 1 [c0]=a0::c0::l:=rfl
end
def c173:AC:=(Sr [Mv 5 0,Cl 6 112 [(.tmp 5)],Mv 4 6] (.block 0 (Sr [Mv 16 4,Oo 17 (.bin .eql (.tmp 16) (.const (.string ⟨#[45]⟩))),Mv 15 17] (Cd 15 .skip (Sr [Mv 19 4,Oo 20 (.bin .neq (.tmp 19) (.const (.string ⟨#[]⟩))),Mv 21 20,Ot 22 21 (mt 4),Ot 23 21 (.ix (.tmp 22) (Ci 0)),Ot 24 21 (.call (.func 119) [(.tmp 23)]),Oo 25 (.pick (.tmp 21) (.tmp 24) (.const (.bool false))),Mv 26 25,Ot 27 26 (mt 4),Ot 28 26 (.bin .neq (.tmp 27) (.const (.string ⟨#[48]⟩))),Oo 29 (.pick (.tmp 26) (.tmp 28) (.const (.bool false))),Mv 18 29] (Cd 18 (.reg [Mv 30 1,Mv 31 4,Cl 32 147 [(.tmp 31)],Nk 33 30,Fa 34 2 33,Sc 34 32]) (Sr [Mv 7 1,Mv 8 4,Nk 9 7,Fa 10 1 9,Sc 10 8] (Sr [Mv 11 4,Cl 12 80 [(.tmp 11)],Oo 13 (.un .not (.tmp 12))] (Cd 13 (.reg [Cl 14 111 []]) .skip)))))))))
theorem k173:ZaH Tryz.prog 173=some ⟨c173,[],35⟩:=by kernel_rfl
def c174:AC:=(Sr [Oo 2 (.new 62 5 [(iv 0),(iv 0),(iv 0),(iv 0),(iv 0)])] (Sr [Mv 6 0,Cl 7 112 [(.tmp 6)],Cl 8 143 [(.tmp 7),(Ci 4),(Ci 4)],Mv 3 8] (Sr [Mv 9 0,Cl 10 144 [(.tmp 9)],Mv 4 10] (Sr [Mv 11 3,Mv 12 4,Mv 13 0,Cl 14 112 [(.tmp 13)],Cl 15 143 [(.tmp 14),(Ci 1),(Ci 2)],Oo 16 (.build [(iv 0),(iv 0),(iv 0)] [(0,(1,(.tmp 11))),(1,(1,(.tmp 12))),(2,(1,(.tmp 15)))]),Oo 17 (.build [(iv 0),(iv 0),(iv 0),(iv 0),(iv 0)] [(0,(3,(.tmp 16)))]),Oo 5 (.new 62 5 [(iv 0),(iv 0),(iv 0),(iv 0),(iv 0)]),⟨none,none,(.store 5 (.tmp 5) (.tmp 17))⟩] (Sr [Mv 19 0,Cl 20 112 [(.tmp 19)],Cl 21 146 [(.tmp 20),(Ci 2)],Mv 18 21,Ex 22 18 0,Ex 23 18 1,Fa 24 3 5,Sc 24 22,Fa 25 4 5,Sc 25 23] (.seq (Sr [Fa 26 4 5,Ld 27 26,Bc 28 .eql 27 1] (Cd 28 (.reg [Cl 29 111 []]) .skip)) (Sr [Oo 30 (.load true 5 (.tmp 5)),⟨none,none,(.store 5 (.tmp 2) (.tmp 30))⟩] .ret)))))))
theorem k174:ZaH Tryz.prog 174=some ⟨c174,[(.cell 2 true 5)],31⟩:=by kernel_rfl
def c142:AC:=(Sr [Oo 2 (.new 64 10 [(iv 0),Ss,(iv 0),Ss,(.v (.bool false)),(iv 0),(iv 0),(iv 0),(iv 0),(iv 0)])] (Sr [Mv 7 0,Cl 8 112 [(.tmp 7)],Mv 3 8] (Sr [Mv 10 3,Oo 11 (.call (.func 172) [(.tmp 10),(.const (.string ⟨#[45]⟩))]),Mv 9 11,Ex 12 9 0,Ex 13 9 1,Mv 4 12,Mv 5 13] (Sr [Mv 14 4,Cl 15 147 [(.tmp 14)],Oo 16 (.build [(iv 0),Ss,(iv 0),Ss,(.v (.bool false)),(iv 0),(iv 0),(iv 0),(iv 0),(iv 0)] [(0,(1,(.tmp 15)))]),Oo 6 (.new 64 10 [(iv 0),Ss,(iv 0),Ss,(.v (.bool false)),(iv 0),(iv 0),(iv 0),(iv 0),(iv 0)]),⟨none,none,(.store 10 (.tmp 6) (.tmp 16))⟩] (.seq (Sr [Mv 17 5] (Cd 17 (.reg [Fa 18 0 6,Ld 19 18,Oo 20 (.un .neg (.tmp 19)),Fa 21 0 6,Sc 21 20]) .skip)) (Sr [Mv 22 0,Cl 23 173 [(.tmp 22),(.tmp 6)]] (Sr [Mv 24 0,Cl 25 112 [(.tmp 24)],Fa 26 3 6,Sc 26 25] (.seq (Sr [Fa 27 3 6,Ld 28 27,Cl 29 126 [(.tmp 28)],Oo 30 (.un .not (.tmp 29))] (Cd 30 (.reg [Cl 31 111 []]) .skip)) (Sr [Mv 32 0,Nk 33 32,Fa 34 0 33,Ld 35 34,Oo 36 (.len false (.tmp 35)),Bc 37 .eql 36 0,Fa 38 4 6,Sc 38 37] (.seq (Sr [Fa 39 4 6,Ld 40 39,Oo 41 (.un .not (.tmp 40))] (Cd 41 (.reg [Mv 42 0,Cl 43 174 [(.tmp 42)],Fa 44 5 6,⟨none,none,(.store 5 (.tmp 44) (.tmp 43))⟩]) .skip)) (Sr [Oo 45 (.load true 10 (.tmp 6)),⟨none,none,(.store 10 (.tmp 2) (.tmp 45))⟩] .ret)))))))))))
theorem k142:ZaH Tryz.prog 142=some ⟨c142,[(.cell 2 true 10)],46⟩:=by kernel_rfl
theorem ZjM {l:List ByteArray}{id:Nat}{h:AH}(ho:okL l) (h1:h[id]?=some (rdE l)):ACalls Tryz.prog 174 [.ptr id 0 0] h (RS id h ((Zfk l).map fun p=>(.agg (untC p.1),p.2))):=by
 have hid:id<h.length:=(List.getElem?_eq_some_iff.1 h1).1
 obtain ⟨X,hX⟩ : ∃ X,Zfk l=X:=⟨_,rfl⟩
 have hX2:=hX
 unfold Zfk at hX2
 simp only [bindR_assoc] at hX2
 refine tJ' k174 fun N hn hlt hlA hbd=>?_
 simp only [tb'] at hbd ⊢
 refine ZbG (h1:=h.set id (rdE l)++[]) (by rw [ZbU h1]) ?_
 refine wr'<|E' (Zbq (hl0 (Zad hn)) ha0) pt<|sn'<|wr'<|mv' lk pt<|?_
 by_cases hs3 : ∃ p,Zbf l=some p
 ·obtain ⟨⟨s1,l1⟩,e3⟩:=hs3
  obtain ⟨z1,o1⟩:=Zb8 ho e3
  rw [Za8 e3] at hX2
  refine ZaA mp (ZcZ e3 (ZaC hid)) (Zax hid) pt ?_
  by_cases hs4 : ∃ p,numV s1 4 4=some p
  ·obtain ⟨y,e4⟩:=hs4
   rw [ZbX e4] at hX2
   refine Zae mp (ZgC z1 (by omega) (by omega) e4) pt ?_
   refine mv' lk pt<|sn'<|wr'<|mv' lk pt<|?_
   by_cases hs7 : ∃ p,Zdg l1=some p
   ·obtain ⟨⟨m,l2⟩,e7⟩:=hs7
    have o2:=ZmN o1 e7
    rw [Za8 e7] at hX2
    refine ZaA mp (Zpy e7 (ZaC hid)) (Zax hid) pt<|mv' lk pt<|sn'<|wr'<|mv' lk pt<|mv' lk pt<|mv' lk pt<|?_
    by_cases hs12 : ∃ p,Zbf l2=some p
    ·obtain ⟨⟨s3,l3⟩,e12⟩:=hs12
     obtain ⟨z3,o3⟩:=Zb8 o2 e12
     rw [Za8 e12] at hX2
     refine ZaA mp (ZcZ e12 (ZaC hid)) (Zax hid) pt ?_
     by_cases hs13 : ∃ p,numV s3 1 2=some p
     ·obtain ⟨d,e13⟩:=hs13
      rw [ZbX e13] at hX2
      refine Zae mp (ZgC z3 (by omega) (by omega) e13) pt ?_
      refine V' (ZaB (Zjz (cvl lk rfl) rfl (cvl lk rfl) rfl (cvl lk rfl) rfl)) pt<|V' (ZaB (Zjy (cvl lk rfl) rfl)) pt<|E' (Zbq (hl1 (Zad hn)) ha1) pt<|E' (Zal lk (cvl lk rfl) (hga (Zad hn) rfl) rfl (nb' rfl) rfl Zjk (hs1 (Zad hn))) ptn<|sn'<|wr'<|mv' lk pt<|?_
      by_cases hs19 : ∃ p,Zbf l3=some p
      ·obtain ⟨⟨s4,l4⟩,e19⟩:=hs19
       obtain ⟨z4,o4⟩:=Zb8 o3 e19
       rw [Za8 e19] at hX2
       refine ZaA mp (ZcZ e19 (ZaC hid)) (Zax hid) pt ?_
       by_cases hs20 : ∃ p,Zcy 2 s4=some p
       ·obtain ⟨c,e20⟩:=hs20
        rw [ZbX e20] at hX2
        refine Zae mp (ZpD z4 e20) pt<|mv' lk pt<|V' (Zbb lk gt) pt<|V' (Zbb lk gt) pt<|V' (Zaa lk) pt<|E' (Zal lk (cvl lk rfl) (hga (Zad hn) rfl) rfl (nb' rfl) rfl ZoH (hs1 (Zad hn))) ptn<|V' (Zaa lk) pt<|E' (Zal lk (cvl lk rfl) (hga (Zad hn) rfl) rfl (nb' rfl) rfl ZoG (hs1 (Zad hn))) ptn<|sn'<|Zam<|wr'<|V' (Zaa lk) pt<|?_
        refine V' (Zac lk (hga (Zad hn) rfl) gt4) pt<|V' (ZaX lk lki) pt<|sn'<|?_
        refine cd' lk (fun hc1=>?_) (fun hc1=>?_)
        ·rw [Zck (if_pos hc1)] at hX2
         refine Zar<|Zay mp0 (ZbO)<|ZaS<|Zba<|?_
         exact ⟨_,_,rfl,Zad hn,ZaR hlt ZaJ,rfl,by rw [hX,←hX2];exact ⟨rfl,_,rfl⟩⟩
        rw [ZbX (if_neg hc1)] at hX2
        refine Zaf<|Zai<|wr'<|V' (Zau lk (hga (Zad hn) rfl) Zjj rfl) pt<|E' (Zal lk (cvl lk rfl) (hga (Zad hn) rfl) rfl (nb' rfl) rfl Zjk (hs0 (Zad hn))) ptn<|sn'<|Zab<|Zag (rs1 (rr_c gt (hga (Zad hn) rfl) (ld1 Zjj rfl)))<|?_
        exact ⟨_,_,rfl,Zad hn,ZaR hlt ZaJ,rfl,by rw [hX,←hX2];exact ⟨rfl,rfl⟩⟩
       have e20:=ZaT hs20
       rw [Zck e20] at hX2
       refine Zay mp (ZpC z4 e20)<|ZaS<|Zba<|?_
       exact ⟨_,_,rfl,Zad hn,ZaR hlt ZaJ,rfl,by rw [hX,←hX2];exact ⟨rfl,_,rfl⟩⟩
      have e19:=ZaT hs19
      rw [Zbh e19] at hX2
      refine ZaP mp (ZcY e19 (ZaC hid)) (fun hP_ hPp_=>?_)
      refine ZaS<|Zba<|?_
      obtain ⟨l',rfl⟩:=hPp_
      rw [Zax hid]
      exact ⟨_,_,rfl,Zad hn,ZaR hlt ZaJ,rfl,by rw [hX,←hX2];exact ⟨rfl,l',rfl⟩⟩
     have e13:=ZaT hs13
     rw [Zck e13] at hX2
     refine Zay mp (ZgB z3 (by omega) (by omega) e13) ?_
     refine ZaS<|Zba<|?_
     exact ⟨_,_,rfl,Zad hn,ZaR hlt ZaJ,rfl,by rw [hX,←hX2];exact ⟨rfl,_,rfl⟩⟩
    have e12:=ZaT hs12
    rw [Zbh e12] at hX2
    refine ZaP mp (ZcY e12 (ZaC hid)) (fun hP_ hPp_=>?_)
    refine ZaS<|Zba<|?_
    obtain ⟨l',rfl⟩:=hPp_
    rw [Zax hid]
    exact ⟨_,_,rfl,Zad hn,ZaR hlt ZaJ,rfl,by rw [hX,←hX2];exact ⟨rfl,l',rfl⟩⟩
   have e7:=ZaT hs7
   rw [Zbh e7] at hX2
   refine ZaP mp (Zpx e7 (ZaC hid)) (fun hP_ hPp_=>?_)
   refine ZaS<|Zba<|?_
   obtain ⟨l',rfl⟩:=hPp_
   rw [Zax hid]
   exact ⟨_,_,rfl,Zad hn,ZaR hlt ZaJ,rfl,by rw [hX,←hX2];exact ⟨rfl,l',rfl⟩⟩
  have e4:=ZaT hs4
  rw [Zck e4] at hX2
  refine Zay mp (ZgB z1 (by omega) (by omega) e4) ?_
  refine ZaS<|Zba<|?_
  exact ⟨_,_,rfl,Zad hn,ZaR hlt ZaJ,rfl,by rw [hX,←hX2];exact ⟨rfl,_,rfl⟩⟩
 have e3:=ZaT hs3
 rw [Zbh e3] at hX2
 refine ZaP mp (ZcY e3 (ZaC hid)) (fun hP_ hPp_=>?_)
 refine ZaS<|Zba<|?_
 obtain ⟨l',rfl⟩:=hPp_
 rw [Zax hid]
 exact ⟨_,_,rfl,Zad hn,ZaR hlt ZaJ,rfl,by rw [hX,←hX2];exact ⟨rfl,l',rfl⟩⟩
theorem Zps {l l':List ByteArray}{u:Unt}{id:Nat}{h:AH}(ho:okL l) (e:Zfk l=some (u,l')) (h1:h[id]?=some (rdE l)):ACalls Tryz.prog 174 [.ptr id 0 0] h fun x h'=>x=.ret (.agg (untC u))∧h'=h.set id (rdE l'):=RS.a (p:=(.agg (untC u),l')) (ZjM ho h1) (by rw [e];rfl)
theorem Zpr {l:List ByteArray}{id:Nat}{h:AH}(ho:okL l) (e:Zfk l=none) (h1:h[id]?=some (rdE l)):ACalls Tryz.prog 174 [.ptr id 0 0] h fun x h'=>x=.pan wrA ∧ ∃ l',h'=h.set id (rdE l'):=RS.p (ZjM ho h1) (by rw [e];rfl)
theorem spanV_bd {s:ByteArray}{n:Int}(h:ZbV s=some n):0≤n∧n<1000000000:=by
 have hS:=ZtX (Zfd s) []
 rw [h] at hS
 have:=Zpq (s:=s) (t:=([],false))
 rw [show Zb3 s ([],false)=(n,[],false) from hS] at this
 exact this
abbrev eraR (sh:Int) (r:ByteArray) (a:Int):Ent:=.mk 0 64 10 [iv sh,sv r,iv a,sv ⟨#[]⟩,bv false,iv 0,iv 0,iv 0,iv 0,iv 0]
def ZdA:RM (Int×ByteArray):=ZaN Zbf fun s=>Zbs (Zdw s)
def RU (ir ie:Nat) (h:AH) (sh:Int) (o:Option ((Int×ByteArray)×List ByteArray)) (x:AE) (h':AH):Prop:=match o with
 | none=>x=.pan wrA ∧ ∃ l' r,h'=(h.set ir (rdE l')).set ie (eraR sh r 0)
 | some p=>x=.ret (.tup [])∧h'=(h.set ir (rdE p.2)).set ie (eraR sh p.1.2 p.1.1)
theorem ZjO {l:List ByteArray}{sh:Int}{ir ie:Nat}{h:AH}(ho:okL l) (h1:h[ir]?=some (rdE l)) (h2:h[ie]?=some (eraR sh ⟨#[]⟩ 0)) (hne:ir≠ie):ACalls Tryz.prog 173 [.ptr ir 0 0,.ptr ie 0 0] h (RU ir ie h sh (ZdA l)):=by
  have hir:ir<h.length:=(List.getElem?_eq_some_iff.1 h1).1
  have hie:ie<h.length:=(List.getElem?_eq_some_iff.1 h2).1
  refine tJ' k173 fun N hn hlt hlA hbd=>?_
  simp only [tb'] at hbd ⊢
  refine ZbG (h1:=(h.set ir (rdE l)).set ie (eraR sh ⟨#[]⟩ 0)++[]) (by rw [ZgR h1 h2,List.append_nil]) ?_
  refine wr'<|mv' lk pt<|?_
  by_cases hs2 : ∃ p,Zbf l=some p
  · obtain ⟨⟨s,l1⟩,e1⟩:=hs2
    obtain ⟨hz,o1⟩:=Zb8 ho e1
    have hem:=Zes (f:=s)
    have hF:ZdA l=Zbs (Zdw s) l1:=Za8 e1
    refine ZaA mp (ZcZ e1 (ZeC hne hir)) (Zep hne hir) pt<|mv' lk pt<|sn'<|Zao<|wr'<|mv' lk pt<|V' (Zcj lk lks) pt<|mv' lk pt<|sn'<|?_
    refine cd' lk (fun hc1=>?_) (fun hc1=>?_)
    · have hV:Zdw s=some (0,⟨#[]⟩):=if_pos (show s=bA [45] from hc1)
      refine Zaf<|ZaF<|Zf6 (rs0)<|?_
      exact ⟨_,_,rfl,Za7 hn,ZdQ hlt ZaJ rfl,rfl,by rw [hF,hV];exact ⟨rfl,rfl⟩⟩
    have hV0 : Zdw s = if s.size ≠ 0 ∧ digB (Zee s) = true ∧ s ≠ bA [48] then (match ZbV s with
        | some n=>some (n,⟨#[]⟩)
        | none=>none) else if ZbL s=true then some (0,s) else none:=if_neg (show ¬s=bA [45] from hc1)
    refine wr'<|mv' lk pt<|V' (Zcp lk lks) pt<|mv' lk pt<|?_
    refine sp' (t:=21) gt pt pt (fun hg21=>?_) (fun hg21=>?_)
    · have hn0:s.size≠0:=fun e=>hg21 (hem.2 e)
      refine s_do gt<|mv' lk pt<|s_do gt<|?_
      refine V' (v_ix lk lki (by omega) (by omega)) pt ?_
      refine s_do gt<|Zae mp (Zlw) pt<|V' (Zaj lk lk) pt<|mv' lk pt<|?_
      refine ZaL (t:=26) gt pt pt (fun hg26=>?_) (fun hg26=>?_)
      · refine s_do gt<|mv' lk pt<|s_do gt<|V' (Zcp lk lks) pt<|V' (Zaj lk lk) pt<|mv' lk pt<|sn'<|?_
        refine cd' lk (fun hc2=>?_) (fun hc2=>?_)
        · rw [if_pos ⟨hn0,hg26,hc2⟩] at hV0
          refine Zar<|mv' lk pt<|mv' lk pt<|?_
          by_cases hs21 : ∃ n,ZbV s=some n
          · obtain ⟨n,e2⟩:=hs21
            rw [e2] at hV0
            have hV:=hV0
            refine Zae mp (ZnP hz e2) pt<|V' (ZaD lk) pt<|V' (Zaa lk) pt<|E' (Zal lk (cvl lk rfl) (Ze5 hie) rfl (nb' rfl) rfl ZoI (ZdZ hie)) ptn<|Zas<|ZaF<|Zf6 (rs0)<|?_
            exact ⟨_,_,rfl,Za7 hn,ZdQ hlt ZaJ rfl,rfl,by rw [hF,hV];exact ⟨rfl,rfl⟩⟩
          have e2:=ZaT hs21
          rw [e2] at hV0
          have hN:ZdA l=none:=by rw [hF,hV0];rfl
          refine Zay mp (ZnO hz e2)<|ZcQ<|Zba<|?_
          exact ⟨_,_,rfl,Za7 hn,ZdQ hlt ZaJ rfl,rfl,by rw [hN];exact ⟨rfl,l1,_,rfl⟩⟩
        have hq:¬(s.size≠0∧digB (Zee s)=true∧s≠bA [48]):=fun e=>e.2.2 (Decidable.of_not_not hc2)
        rw [if_neg hq] at hV0
        refine wr'<|mv' lk pt<|mv' lk pt<|V' (ZaD lk) pt<|V' (Zaa lk) pt<|E' (Zal lk (cvl lk rfl) (Ze5 hie) rfl (nb' rfl) rfl Zgs (ZdZ hie)) ptn<|sn'<|wr'<|mv' lk pt<|?_
        refine Zae mp (ZgO (by unfold maxLen;omega)) pt ?_
        refine V' (Zav lk) pt<|sn'<|?_
        refine Zaw lk (fun hc3=>?_) (fun hc3=>?_)
        · rw [if_neg (show ¬ZbL s=true by simpa using hc3)] at hV0
          have hN:ZdA l=none:=by rw [hF,hV0];rfl
          refine Zar<|Zay mp0 (ZbO)<|ZcQ<|Zba<|?_
          exact ⟨_,_,rfl,Za7 hn,ZdQ hlt ZaJ rfl,rfl,by rw [hN];exact ⟨rfl,l1,_,rfl⟩⟩
        rw [if_pos (show ZbL s=true by simpa using hc3)] at hV0
        have hV:=hV0
        refine Zaf<|ZaF<|Zf6 (rs0)<|?_
        exact ⟨_,_,rfl,Za7 hn,ZdQ hlt ZaJ rfl,rfl,by rw [hF,hV];exact ⟨rfl,rfl⟩⟩
      have hq:¬(s.size≠0∧digB (Zee s)=true∧s≠bA [48]):=fun e=>by have:=e.2.1;rw [show digB (Zee s)=false from hg26] at this;cases this
      rw [if_neg hq] at hV0
      refine s_no gt pt<|s_no gt pt<|V' (Zah lk lkb) pt<|mv' lk pt<|sn'<|ZaY lk<|wr'<|mv' lk pt<|mv' lk pt<|V' (ZaD lk) pt<|V' (Zaa lk) pt<|E' (Zal lk (cvl lk rfl) (Ze5 hie) rfl (nb' rfl) rfl Zgs (ZdZ hie)) ptn<|?_
      refine sn'<|wr'<|mv' lk pt<|?_
      refine Zae mp (ZgO (by unfold maxLen;omega)) pt ?_
      refine V' (Zav lk) pt<|sn'<|?_
      refine Zaw lk (fun hc3=>?_) (fun hc3=>?_)
      · rw [if_neg (show ¬ZbL s=true by simpa using hc3)] at hV0
        have hN:ZdA l=none:=by rw [hF,hV0];rfl
        refine Zar<|Zay mp0 (ZbO)<|ZcQ<|Zba<|?_
        exact ⟨_,_,rfl,Za7 hn,ZdQ hlt ZaJ rfl,rfl,by rw [hN];exact ⟨rfl,l1,_,rfl⟩⟩
      rw [if_pos (show ZbL s=true by simpa using hc3)] at hV0
      have hV:=hV0
      refine Zaf<|ZaF<|Zf6 (rs0)<|?_
      exact ⟨_,_,rfl,Za7 hn,ZdQ hlt ZaJ rfl,rfl,by rw [hF,hV];exact ⟨rfl,rfl⟩⟩
    have hq:¬(s.size≠0∧digB (Zee s)=true∧s≠bA [48]):=fun e=>e.1 (hem.1 (Decidable.of_not_not hg21))
    rw [if_neg hq] at hV0
    refine s_no gt pt<|s_no gt pt<|s_no gt pt<|V' (Zah lk lkb) pt<|mv' lk pt<|s_no gt pt<|s_no gt pt<|V' (Zah lk lkb) pt<|mv' lk pt<|sn'<|ZaY lk<|wr'<|?_
    refine mv' lk pt<|mv' lk pt<|V' (ZaD lk) pt<|V' (Zaa lk) pt<|E' (Zal lk (cvl lk rfl) (Ze5 hie) rfl (nb' rfl) rfl Zgs (ZdZ hie)) ptn<|sn'<|wr'<|mv' lk pt<|?_
    refine Zae mp (ZgO (by unfold maxLen;omega)) pt ?_
    refine V' (Zav lk) pt<|sn'<|?_
    refine Zaw lk (fun hc3=>?_) (fun hc3=>?_)
    · rw [if_neg (show ¬ZbL s=true by simpa using hc3)] at hV0
      have hN:ZdA l=none:=by rw [hF,hV0];rfl
      refine Zar<|Zay mp0 (ZbO)<|ZcQ<|Zba<|?_
      exact ⟨_,_,rfl,Za7 hn,ZdQ hlt ZaJ rfl,rfl,by rw [hN];exact ⟨rfl,l1,_,rfl⟩⟩
    rw [if_pos (show ZbL s=true by simpa using hc3)] at hV0
    have hV:=hV0
    refine Zaf<|ZaF<|Zf6 (rs0)<|?_
    exact ⟨_,_,rfl,Za7 hn,ZdQ hlt ZaJ rfl,rfl,by rw [hF,hV];exact ⟨rfl,rfl⟩⟩
  have e1:=ZaT hs2
  have hN:ZdA l=none:=Zbh e1
  refine ZaP mp (ZcY e1 (ZeC hne hir)) (fun hP_ hPp_=>?_)
  refine ZaS<|Zba<|?_
  obtain ⟨l',rfl⟩:=hPp_
  rw [Zep hne hir]
  exact ⟨_,_,rfl,Za7 hn,ZdQ hlt ZaJ rfl,rfl,by rw [hN];exact ⟨rfl,l',_,rfl⟩⟩
end Go.Proofs.YtgjchdhdopgkkaaGreatDoor
end
section
namespace Go.Proofs.YtgjchdhdopgkkaaGreatDoor
open Go.Ab Go.RowKit Civ
attribute [local simp] Zbd
section
theorem Znm {τ:Operand→AV}{y0:Operand}{x0_0:AV}(h0:Zap (τ y0)=some [x0_0]) (l0:[x0_0].all leaf=true):Zat τ [(0,1,y0)] [(.v (.int .i64 0)),(.v (.string ⟨#[]⟩)),(.v (.int .i64 0)),(.v (.string ⟨#[]⟩)),(.v (.bool false)),(.v (.int .i64 0)),(.v (.int .i64 0)),(.v (.int .i64 0)),(.v (.int .i64 0)),(.v (.int .i64 0))]=some [x0_0,(.v (.string ⟨#[]⟩)),(.v (.int .i64 0)),(.v (.string ⟨#[]⟩)),(.v (.bool false)),(.v (.int .i64 0)),(.v (.int .i64 0)),(.v (.int .i64 0)),(.v (.int .i64 0)),(.v (.int .i64 0))]:=by
 simp only [Zat,h0,l0]
 rfl
theorem ZdF {a0 a1 a2 a3 a4 a5 a6 a7 a8 a9 c0 c1 c2 c3 c4 c5 c6 c7 c8 c9:AV}{l:List AV}:setCells (a0::a1::a2::a3::a4::a5::a6::a7::a8::a9::l) 0 [c0,c1,c2,c3,c4,c5,c6,c7,c8,c9]=c0::c1::c2::c3::c4::c5::c6::c7::c8::c9::l:=rfl
theorem ZoF {a0 c0:AV}{l:List AV}:setCells (a0::l) 0 [c0]=c0::l:=rfl
theorem Zji {a0 a1 a2 a3 c0:AV}{l:List AV}:setCells (a0::a1::a2::a3::l) 3 [c0]=a0::a1::a2::c0::l:=rfl
theorem Zff {a0 a1 a2 a3 a4 c0:AV}{l:List AV}:setCells (a0::a1::a2::a3::a4::l) 4 [c0]=a0::a1::a2::a3::c0::l:=rfl
theorem Zcq {a0 a1 a2 a3 a4 a5 a6 a7 a8 a9:AV}{l:List AV}:((a0::a1::a2::a3::a4::a5::a6::a7::a8::a9::l).drop 0).take 10=[a0,a1,a2,a3,a4,a5,a6,a7,a8,a9]:=rfl
theorem Zjh {a0 a1 a2 a3 a4 a5 a6 a7 a8 a9 c0 c1 c2 c3 c4:AV}{l:List AV}:setCells (a0::a1::a2::a3::a4::a5::a6::a7::a8::a9::l) 5 [c0,c1,c2,c3,c4]=a0::a1::a2::a3::a4::c0::c1::c2::c3::c4::l:=rfl
end
theorem ZjW {β:Type}{k:Int×ByteArray→RM β}{l l':List ByteArray}{a:Int×ByteArray}(e:ZdA l=some (a,l')):ZaN Zbf (fun s=>ZaN (Zbs (Zdw s)) k) l=k a l':=by
 have:ZaN Zbf (fun s=>ZaN (Zbs (Zdw s)) k)=ZaN ZdA k:=bindR_assoc.symm
 rw [this];exact Za8 e
theorem ZjX {β:Type}{k:Int×ByteArray→RM β}{l:List ByteArray}(e:ZdA l=none):ZaN Zbf (fun s=>ZaN (Zbs (Zdw s)) k) l=none:=by
 have:ZaN Zbf (fun s=>ZaN (Zbs (Zdw s)) k)=ZaN ZdA k:=bindR_assoc.symm
 rw [this];exact Zbh e
theorem ZmM {l l':List ByteArray}{k:Int×ByteArray}(ho:okL l) (e:ZdA l=some (k,l')):okL l':=by
 unfold ZdA ZaN at e
 cases hn:Zbf l with
 | none=>rw [hn] at e;cases e
 | some p =>
  rw [hn] at e
  obtain ⟨h1,h2⟩:=Zb8 ho hn
  simp only [Zbs] at e
  cases hi:Zdw p.1 with
  | none=>rw [hi] at e;cases e
  | some n=>rw [hi] at e;cases e;exact h2
theorem Zpv {l l':List ByteArray}{sh:Int}{p:Int×ByteArray}{ir ie:Nat}{h:AH}(ho:okL l) (e:ZdA l=some (p,l')) (h1:h[ir]?=some (rdE l)) (h2:h[ie]?=some (eraR sh ⟨#[]⟩ 0)) (hne:ir≠ie):ACalls Tryz.prog 173 [.ptr ir 0 0,.ptr ie 0 0] h fun x h'=>x=.ret (.tup [])∧h'=(h.set ir (rdE l')).set ie (eraR sh p.2 p.1):=by
 have:=ZjO ho h1 h2 hne
 rw [e] at this
 exact this
theorem Zpu {l:List ByteArray}{sh:Int}{ir ie:Nat}{h:AH}(ho:okL l) (e:ZdA l=none) (h1:h[ir]?=some (rdE l)) (h2:h[ie]?=some (eraR sh ⟨#[]⟩ 0)) (hne:ir≠ie):ACalls Tryz.prog 173 [.ptr ir 0 0,.ptr ie 0 0] h fun x h'=>x=.pan wrA ∧ ∃ l' r,h'=(h.set ir (rdE l')).set ie (eraR sh r 0):=by
 have:=ZjO ho h1 h2 hne
 rw [e] at this
 exact this
def minA (s:ByteArray):ByteArray:=bA (Lib.trimPrefix (aB s) [45])
theorem ZsU {s:ByteArray}:(minA s).size≤s.size:=by
 unfold minA Lib.trimPrefix
 rw [ZaQ]
 split
 ·rw [List.length_drop,Zbr];omega
 rw [Zbr];exact Nat.le_refl _
theorem Zsu {s:ByteArray}:ZeF s=if Lib.hasPrefix (aB s) [45]=true then (match ZbV (minA s) with
  | some n=>some (-n)
  | none=>none) else ZbV (minA s):=by
 unfold ZeF minA Lib.trimPrefix
 cases hs:aB s with
 | nil =>
  have h0:s.size=0:=by rw [←Zbr,hs];rfl
  rw [if_neg (fun e=>e.1 h0),if_neg (by simp [Lib.hasPrefix]),if_neg (by simp [Lib.hasPrefix]),←hs,Znf]
 | cons c l =>
  have h0:0<s.size:=by rw [←Zbr,hs];simp
  have hh:Zee s=(c.toNat:Int):=by
   have:=ZdO h0
   rw [List.drop_zero,hs] at this
   simp only [List.cons.injEq] at this
   unfold Zee ZbF;rw [←this.1]
  by_cases hc:c=45
  ·subst hc
   rw [if_pos ⟨by omega,hh⟩,if_pos (by simp [Lib.hasPrefix,List.isPrefixOf]),if_pos (by simp [Lib.hasPrefix,List.isPrefixOf])]
   rw [Zet,hs]
   rw [show ((45::l:Bs).drop 1).take (s.size-1)=(45::l:Bs).drop [45].length from List.take_of_length_le (by rw [List.length_drop,←Zbr,hs];exact Nat.le_refl _)]
   cases ZbV (bA (List.drop [45].length (45::l))) <;> rfl
  have hc2:¬Zee s=45:=fun e=>hc (UInt8.toNat_inj.1 (by rw [hh] at e;have:((45:UInt8).toNat:Int)=45:=rfl;omega))
  have hp:Lib.hasPrefix (c::l) [45]=false:=by simp [Lib.hasPrefix,List.isPrefixOf];exact fun e=>hc e.symm
  rw [if_neg (fun e=>hc2 e.2),hp,if_neg (by simp),if_neg (by simp),←hs,Znf]
theorem cutMin_a {s:ByteArray}{h:AH}:Ac 172 [sv s,sv (bA [45])] h (.tup [sv (minA s),bv (Lib.hasPrefix (aB s) [45])]):=ZiV
theorem ZpB {l:List ByteArray}{id:Nat}{h:AH}(ho:okL l) (h1:h[id]?=some (rdE l)):ACalls Tryz.prog 142 [.ptr id 0 0] h (RS id h ((rEra l).map fun p=>(.agg (eraC p.1),p.2))):=by
 have hid:id<h.length:=(List.getElem?_eq_some_iff.1 h1).1
 obtain ⟨X,hX⟩ : ∃ X,rEra l=X:=⟨_,rfl⟩
 have hX2:=hX
 unfold rEra at hX2
 simp only [bindR_assoc] at hX2
 refine tJ' k142 fun N hn hlt hlA hbd=>?_
 simp only [tb'] at hbd ⊢
 refine ZbG (h1:=h.set id (rdE l)++[]) (by rw [ZbU h1]) ?_
 refine wr'<|E' (Zbq (hl0 (Zad hn)) ha0) pt<|sn'<|wr'<|mv' lk pt<|?_
 by_cases hs3 : ∃ p,Zbf l=some p
 ·obtain ⟨⟨s,l1⟩,e3⟩:=hs3
  obtain ⟨hz,o1⟩:=Zb8 ho e3
  rw [Za8 e3] at hX2
  refine ZaA mp (ZcZ e3 (ZaC hid)) (Zax hid) pt<|mv' lk pt<|sn'<|wr'<|mv' lk pt<|Zae mp (cutMin_a) pt<|?_
  have hsp:=Zsu (s:=s)
  have hmz:=ZsU (s:=s)
  refine mv' lk pt<|V' (Zbb lk gt) pt<|V' (Zbb lk gt) pt<|mv' lk pt<|mv' lk pt<|sn'<|wr'<|mv' lk pt<|?_
  by_cases hs13 : ∃ n,ZbV (minA s)=some n
  ·obtain ⟨n,e13⟩:=hs13
   have hnb:=spanV_bd e13
   rw [e13] at hsp
   refine Zae mp (ZnP (by omega) e13) pt ?_
   refine V' (ZaB (Znm (cvl lk rfl) rfl)) pt<|E' (Zbq (hl1 (Zad hn)) ha1) pt<|E' (Zal lk (cvl lk rfl) (hga (Zad hn) rfl) rfl (nb' rfl) rfl ZdF (hs1 (Zad hn))) ptn<|sn'<|Zam<|wr'<|mv' lk pt<|sn'<|?_
   refine Zaw lk (fun hc1=>?_) (fun hc1=>?_)
   ·have hV:ZeF s=some (-n):=by rw [hsp];exact if_pos hc1
    rw [ZbX hV] at hX2
    refine Zar<|V' (Zaa lk) pt<|V' (Zac lk (hga (Zad hn) rfl) gt0) pt<|?_
    refine V' (v_neg lk (by omega) (by omega)) pt ?_
    refine V' (Zaa lk) pt<|E' (Zal lk (cvl lk rfl) (hga (Zad hn) rfl) rfl (nb' rfl) rfl ZoF (hs1 (Zad hn))) ptn<|sn'<|wr'<|mv' lk pt<|?_
    by_cases hs24 : ∃ p,ZdA l1=some p
    ·obtain ⟨⟨⟨sa,rl⟩,l2⟩,e24⟩:=hs24
     have o2:=ZmM o1 e24
     rw [ZjW e24] at hX2
     refine ZeV mp (ACalls.mono (Zpv o1 e24 (ZaC hid) (hga (Zad hn) rfl) (by omega)) (fun _ _ q=>⟨q.1,q.2.trans (show _=h.set id (rdE l2)++[.mk 0 64 10 eraZ,eraR (-n) rl sa] from (by rw [Zax hid];exact hs1 (Zad hn)))⟩)) pt ?_
     refine sn'<|wr'<|mv' lk pt<|?_
     by_cases hs26 : ∃ p,Zbf l2=some p
     ·obtain ⟨⟨s3,l3⟩,e26⟩:=hs26
      obtain ⟨z3,o3⟩:=Zb8 o2 e26
      rw [Za8 e26] at hX2
      refine ZaA mp (ZcZ e26 (ZaC hid)) (Zax hid) pt<|V' (Zaa lk) pt<|E' (Zal lk (cvl lk rfl) (hga (Zad hn) rfl) rfl (nb' rfl) rfl Zji (hs1 (Zad hn))) ptn<|sn'<|Zam<|wr'<|V' (Zaa lk) pt<|V' (Zac lk (hga (Zad hn) rfl) gt3) pt<|?_
      refine Zae mp (Zh9 (by unfold maxLen;omega)) pt ?_
      refine V' (Zav lk) pt<|sn'<|?_
      refine Zaw lk (fun hc2=>?_) (fun hc2=>?_)
      ·rw [Zck (if_neg (show ¬Zb0 s3=true by simpa using hc2))] at hX2
       refine Zar<|Zay mp0 (ZbO)<|ZaS<|Zba<|?_
       exact ⟨_,_,rfl,Zad hn,ZaR hlt ZaJ,rfl,by rw [hX,←hX2];exact ⟨rfl,_,rfl⟩⟩
      rw [ZbX (if_pos (show Zb0 s3=true by simpa using hc2))] at hX2
      refine Zaf<|Zai<|wr'<|?_
      by_cases hs34:l3=[]
      ·have hd34:decide ((l3.length:Int)=0)=true:=by rw [hs34];rfl
       have hE:rEnd l3=some ((true,untZ),l3):=if_pos hs34
       rw [Za8 hE] at hX2
       refine mv' lk pt<|V' (ZaD lk) pt<|V' (Zaa lk) pt<|V' (Zac lk (ZaC hid) gt0) pt<|V' (ZaK lk) pt<|V' (ZaX lk lki) pt<|?_
       rw [hd34]
       refine V' (Zaa lk) pt<|E' (Zal lk (cvl lk rfl) (hga (Zad hn) rfl) rfl (nb' rfl) rfl Zff (hs1 (Zad hn))) ptn<|sn'<|Zam<|wr'<|V' (Zaa lk) pt<|V' (Zac lk (hga (Zad hn) rfl) gt4) pt<|?_
       refine V' ((by first | exact Zju lk | exact Zav lk)) pt ?_
       refine sn' ?_
       refine ZcD lk (by rfl) ?_
       refine Zaf<|Zai<|wr'<|V' (Zau lk (hga (Zad hn) rfl) Zcq rfl) pt<|E' (Zal lk (cvl lk rfl) (hga (Zad hn) rfl) rfl (nb' rfl) rfl ZdF (hs0 (Zad hn))) ptn<|sn'<|Zab<|Zag (rs1 (rr_c gt (hga (Zad hn) rfl) (ld1 Zcq rfl)))<|?_
       exact ⟨_,_,rfl,Zad hn,ZaR hlt ZaJ,rfl,by rw [hX,←hX2];exact ⟨rfl,rfl⟩⟩
      have hd34:decide ((l3.length:Int)=0)=false:=decide_eq_false (fun e=>hs34 (List.eq_nil_of_length_eq_zero (by omega)))
      refine mv' lk pt<|V' (ZaD lk) pt<|V' (Zaa lk) pt<|V' (Zac lk (ZaC hid) gt0) pt<|V' (ZaK lk) pt<|V' (ZaX lk lki) pt<|?_
      rw [hd34]
      refine V' (Zaa lk) pt<|E' (Zal lk (cvl lk rfl) (hga (Zad hn) rfl) rfl (nb' rfl) rfl Zff (hs1 (Zad hn))) ptn<|sn'<|Zam<|wr'<|V' (Zaa lk) pt<|V' (Zac lk (hga (Zad hn) rfl) gt4) pt<|?_
      refine V' ((by first | exact Zju lk | exact Zav lk)) pt ?_
      refine sn' ?_
      refine ZcW lk (by rfl) ?_
      refine Zar<|mv' lk pt<|?_
      by_cases hs46 : ∃ p,Zfk l3=some p
      ·obtain ⟨⟨u,l4⟩,e46⟩:=hs46
       have hE:rEnd l3=some ((false,u),l4):=by unfold rEnd;rw [if_neg hs34,e46]
       rw [Za8 hE] at hX2
       refine ZaA mp (Zps o3 e46 (ZaC hid)) (Zax hid) pt<|V' (Zaa lk) pt<|E' (Zal lk (cvl lk rfl) (hga (Zad hn) rfl) rfl (nb' rfl) rfl Zjh (hs1 (Zad hn))) ptn<|sn'<|wr'<|V' (Zau lk (hga (Zad hn) rfl) Zcq rfl) pt<|E' (Zal lk (cvl lk rfl) (hga (Zad hn) rfl) rfl (nb' rfl) rfl ZdF (hs0 (Zad hn))) ptn<|sn'<|Zab<|Zag (rs1 (rr_c gt (hga (Zad hn) rfl) (ld1 Zcq rfl)))<|?_
       exact ⟨_,_,rfl,Zad hn,ZaR hlt ZaJ,rfl,by rw [hX,←hX2];exact ⟨rfl,rfl⟩⟩
      have e46:=ZaT hs46
      have hE:rEnd l3=none:=by unfold rEnd;rw [if_neg hs34,e46]
      rw [Zbh hE] at hX2
      refine ZaP mp (Zpr o3 e46 (ZaC hid)) (fun hP_ hPp_=>?_)
      refine ZaS<|Zba<|?_
      obtain ⟨l',rfl⟩:=hPp_
      rw [Zax hid]
      exact ⟨_,_,rfl,Zad hn,ZaR hlt ZaJ,rfl,by rw [hX,←hX2];exact ⟨rfl,l',rfl⟩⟩
     have e26:=ZaT hs26
     rw [Zbh e26] at hX2
     refine ZaP mp (ZcY e26 (ZaC hid)) (fun hP_ hPp_=>?_)
     refine ZaS<|Zba<|?_
     obtain ⟨l',rfl⟩:=hPp_
     rw [Zax hid]
     exact ⟨_,_,rfl,Zad hn,ZaR hlt ZaJ,rfl,by rw [hX,←hX2];exact ⟨rfl,l',rfl⟩⟩
    have e24:=ZaT hs24
    rw [ZjX e24] at hX2
    refine ZaP mp (Zpu o1 e24 (ZaC hid) (hga (Zad hn) rfl) (by omega)) (fun hP_ hPp_=>?_)
    refine ZaS<|Zba<|?_
    obtain ⟨l',r',rfl⟩:=hPp_
    rw [Zax hid,hs1 (Zad hn)]
    exact ⟨_,_,rfl,Zad hn,ZaR hlt ZaJ,rfl,by rw [hX,←hX2];exact ⟨rfl,l',rfl⟩⟩
   have hV:ZeF s=some n:=by rw [hsp];exact if_neg (by rw [show Lib.hasPrefix (aB s) [45]=false from hc1];simp)
   rw [ZbX hV] at hX2
   refine Zaf<|Zai<|wr'<|mv' lk pt<|?_
   by_cases hs24 : ∃ p,ZdA l1=some p
   ·obtain ⟨⟨⟨sa,rl⟩,l2⟩,e24⟩:=hs24
    have o2:=ZmM o1 e24
    rw [ZjW e24] at hX2
    refine ZeV mp (ACalls.mono (Zpv o1 e24 (ZaC hid) (hga (Zad hn) rfl) (by omega)) (fun _ _ q=>⟨q.1,q.2.trans (show _=h.set id (rdE l2)++[.mk 0 64 10 eraZ,eraR (n) rl sa] from (by rw [Zax hid];exact hs1 (Zad hn)))⟩)) pt ?_
    refine sn'<|wr'<|mv' lk pt<|?_
    by_cases hs26 : ∃ p,Zbf l2=some p
    ·obtain ⟨⟨s3,l3⟩,e26⟩:=hs26
     obtain ⟨z3,o3⟩:=Zb8 o2 e26
     rw [Za8 e26] at hX2
     refine ZaA mp (ZcZ e26 (ZaC hid)) (Zax hid) pt<|V' (Zaa lk) pt<|E' (Zal lk (cvl lk rfl) (hga (Zad hn) rfl) rfl (nb' rfl) rfl Zji (hs1 (Zad hn))) ptn<|sn'<|Zam<|wr'<|V' (Zaa lk) pt<|V' (Zac lk (hga (Zad hn) rfl) gt3) pt<|?_
     refine Zae mp (Zh9 (by unfold maxLen;omega)) pt ?_
     refine V' (Zav lk) pt<|sn'<|?_
     refine Zaw lk (fun hc2=>?_) (fun hc2=>?_)
     ·rw [Zck (if_neg (show ¬Zb0 s3=true by simpa using hc2))] at hX2
      refine Zar<|Zay mp0 (ZbO)<|ZaS<|Zba<|?_
      exact ⟨_,_,rfl,Zad hn,ZaR hlt ZaJ,rfl,by rw [hX,←hX2];exact ⟨rfl,_,rfl⟩⟩
     rw [ZbX (if_pos (show Zb0 s3=true by simpa using hc2))] at hX2
     refine Zaf<|Zai<|wr'<|?_
     by_cases hs34:l3=[]
     ·have hd34:decide ((l3.length:Int)=0)=true:=by rw [hs34];rfl
      have hE:rEnd l3=some ((true,untZ),l3):=if_pos hs34
      rw [Za8 hE] at hX2
      refine mv' lk pt<|V' (ZaD lk) pt<|V' (Zaa lk) pt<|V' (Zac lk (ZaC hid) gt0) pt<|V' (ZaK lk) pt<|V' (ZaX lk lki) pt<|?_
      rw [hd34]
      refine V' (Zaa lk) pt<|E' (Zal lk (cvl lk rfl) (hga (Zad hn) rfl) rfl (nb' rfl) rfl Zff (hs1 (Zad hn))) ptn<|sn'<|Zam<|wr'<|V' (Zaa lk) pt<|V' (Zac lk (hga (Zad hn) rfl) gt4) pt<|?_
      refine V' ((by first | exact Zju lk | exact Zav lk)) pt ?_
      refine sn' ?_
      refine ZcD lk (by rfl) ?_
      refine Zaf<|Zai<|wr'<|V' (Zau lk (hga (Zad hn) rfl) Zcq rfl) pt<|E' (Zal lk (cvl lk rfl) (hga (Zad hn) rfl) rfl (nb' rfl) rfl ZdF (hs0 (Zad hn))) ptn<|sn'<|Zab<|Zag (rs1 (rr_c gt (hga (Zad hn) rfl) (ld1 Zcq rfl)))<|?_
      exact ⟨_,_,rfl,Zad hn,ZaR hlt ZaJ,rfl,by rw [hX,←hX2];exact ⟨rfl,rfl⟩⟩
     have hd34:decide ((l3.length:Int)=0)=false:=decide_eq_false (fun e=>hs34 (List.eq_nil_of_length_eq_zero (by omega)))
     refine mv' lk pt<|V' (ZaD lk) pt<|V' (Zaa lk) pt<|V' (Zac lk (ZaC hid) gt0) pt<|V' (ZaK lk) pt<|V' (ZaX lk lki) pt<|?_
     rw [hd34]
     refine V' (Zaa lk) pt<|E' (Zal lk (cvl lk rfl) (hga (Zad hn) rfl) rfl (nb' rfl) rfl Zff (hs1 (Zad hn))) ptn<|sn'<|Zam<|wr'<|V' (Zaa lk) pt<|V' (Zac lk (hga (Zad hn) rfl) gt4) pt<|?_
     refine V' ((by first | exact Zju lk | exact Zav lk)) pt ?_
     refine sn' ?_
     refine ZcW lk (by rfl) ?_
     refine Zar<|mv' lk pt<|?_
     by_cases hs46 : ∃ p,Zfk l3=some p
     ·obtain ⟨⟨u,l4⟩,e46⟩:=hs46
      have hE:rEnd l3=some ((false,u),l4):=by unfold rEnd;rw [if_neg hs34,e46]
      rw [Za8 hE] at hX2
      refine ZaA mp (Zps o3 e46 (ZaC hid)) (Zax hid) pt<|V' (Zaa lk) pt<|E' (Zal lk (cvl lk rfl) (hga (Zad hn) rfl) rfl (nb' rfl) rfl Zjh (hs1 (Zad hn))) ptn<|sn'<|wr'<|V' (Zau lk (hga (Zad hn) rfl) Zcq rfl) pt<|E' (Zal lk (cvl lk rfl) (hga (Zad hn) rfl) rfl (nb' rfl) rfl ZdF (hs0 (Zad hn))) ptn<|sn'<|Zab<|Zag (rs1 (rr_c gt (hga (Zad hn) rfl) (ld1 Zcq rfl)))<|?_
      exact ⟨_,_,rfl,Zad hn,ZaR hlt ZaJ,rfl,by rw [hX,←hX2];exact ⟨rfl,rfl⟩⟩
     have e46:=ZaT hs46
     have hE:rEnd l3=none:=by unfold rEnd;rw [if_neg hs34,e46]
     rw [Zbh hE] at hX2
     refine ZaP mp (Zpr o3 e46 (ZaC hid)) (fun hP_ hPp_=>?_)
     refine ZaS<|Zba<|?_
     obtain ⟨l',rfl⟩:=hPp_
     rw [Zax hid]
     exact ⟨_,_,rfl,Zad hn,ZaR hlt ZaJ,rfl,by rw [hX,←hX2];exact ⟨rfl,l',rfl⟩⟩
    have e26:=ZaT hs26
    rw [Zbh e26] at hX2
    refine ZaP mp (ZcY e26 (ZaC hid)) (fun hP_ hPp_=>?_)
    refine ZaS<|Zba<|?_
    obtain ⟨l',rfl⟩:=hPp_
    rw [Zax hid]
    exact ⟨_,_,rfl,Zad hn,ZaR hlt ZaJ,rfl,by rw [hX,←hX2];exact ⟨rfl,l',rfl⟩⟩
   have e24:=ZaT hs24
   rw [ZjX e24] at hX2
   refine ZaP mp (Zpu o1 e24 (ZaC hid) (hga (Zad hn) rfl) (by omega)) (fun hP_ hPp_=>?_)
   refine ZaS<|Zba<|?_
   obtain ⟨l',r',rfl⟩:=hPp_
   rw [Zax hid,hs1 (Zad hn)]
   exact ⟨_,_,rfl,Zad hn,ZaR hlt ZaJ,rfl,by rw [hX,←hX2];exact ⟨rfl,l',rfl⟩⟩
  have e13:=ZaT hs13
  have hV:ZeF s=none:=by rw [hsp,e13];split <;> rfl
  rw [Zck hV] at hX2
  refine Zay mp (ZnO (by omega) e13) ?_
  refine ZaS<|Zba<|?_
  exact ⟨_,_,rfl,Zad hn,ZaR hlt ZaJ,rfl,by rw [hX,←hX2];exact ⟨rfl,_,rfl⟩⟩
 have e3:=ZaT hs3
 rw [Zbh e3] at hX2
 refine ZaP mp (ZcY e3 (ZaC hid)) (fun hP_ hPp_=>?_)
 refine ZaS<|Zba<|?_
 obtain ⟨l',rfl⟩:=hPp_
 rw [Zax hid]
 exact ⟨_,_,rfl,Zad hn,ZaR hlt ZaJ,rfl,by rw [hX,←hX2];exact ⟨rfl,l',rfl⟩⟩
theorem sera_e {l l':List ByteArray}{u:Era}{id:Nat}{h:AH}(ho:okL l) (e:rEra l=some (u,l')) (h1:h[id]?=some (rdE l)):ACalls Tryz.prog 142 [.ptr id 0 0] h fun x h'=>x=.ret (.agg (eraC u))∧h'=h.set id (rdE l'):=RS.a (p:=(.agg (eraC u),l')) (ZpB ho h1) (by rw [e];rfl)
theorem sera_p {l:List ByteArray}{id:Nat}{h:AH}(ho:okL l) (e:rEra l=none) (h1:h[id]?=some (rdE l)):ACalls Tryz.prog 142 [.ptr id 0 0] h fun x h'=>x=.pan wrA ∧ ∃ l',h'=h.set id (rdE l'):=RS.p (ZpB ho h1) (by rw [e];rfl)
theorem srule_e {l l':List ByteArray}{u:Rul}{id:Nat}{h:AH}(ho:okL l) (e:ZgK l=some (u,l')) (h1:h[id]?=some (rdE l)):ACalls Tryz.prog 114 [.ptr id 0 0] h fun x h'=>x=.ret (.agg (rulC u))∧h'=h.set id (rdE l'):=RS.a (p:=(.agg (rulC u),l')) (Zme ho h1) (by rw [e];rfl)
theorem srule_p {l:List ByteArray}{id:Nat}{h:AH}(ho:okL l) (e:ZgK l=none) (h1:h[id]?=some (rdE l)):ACalls Tryz.prog 114 [.ptr id 0 0] h fun x h'=>x=.pan wrA ∧ ∃ l',h'=h.set id (rdE l'):=RS.p (Zme ho h1) (by rw [e];rfl)
end Go.Proofs.YtgjchdhdopgkkaaGreatDoor
end
section
namespace Go.Proofs.YtgjchdhdopgkkaaGreatDoor
open Go.Ab Go.RowKit Civ
def PT {α:Type}(f:TS→α×TS) (P:α→Prop):Prop := ∀ t,okT t→P (f t).1∧okT (f t).2
theorem PT.bind {α β:Type}{f:TS→α×TS}{k:α→TS→β×TS}{P:α→Prop}{Q:β→Prop}(h:PT f P) (hk : ∀ a,P a→PT (k a) Q):PT (Zcn f k) Q:=fun t ho=>hk _ (h t ho).1 _ (h t ho).2
theorem PT.ret {α:Type}{P:α→Prop}{a:α}(h:P a):PT (ret2 a) P:=fun t ho=>⟨h,ho⟩
theorem pt_next:PT Za1 (fun s=>s.size≤24):=fun t ho=>ZbC ho rfl
theorem pt_name:PT Zft (fun s=>s.size≤24):=fun t ho=>⟨(ZbC ho (s:=(Za1 t).1) (u:=(Za1 t).2) rfl).1,Zh7 ho rfl⟩
theorem pt_num (s:ByteArray) (a b:Int):PT (tNum s a b) (fun _=>True):=fun t ho=>⟨trivial,Zla ho rfl⟩
theorem pt_year:PT Zr8 (fun _=>True):=pt_next.bind (k:=fun s=>tNum s 4 4) fun s _=>pt_num s 4 4
theorem pt_day:PT tDay (fun _=>True):=pt_next.bind (k:=fun s=>tNum s 1 2) fun s _=>pt_num s 1 2
theorem pt_to (f:Int):PT (tToN f) (fun _=>True):=pt_next.bind (k:=tTo f) fun s _=>fun t ho=>⟨trivial,okT_to ho rfl⟩
theorem pt_month:PT Zea (fun _=>True):=fun t ho=>⟨trivial,ZiD ho rfl⟩
theorem pt_form:PT Zhj (fun _=>True):=fun t ho=>⟨trivial,ZpM ho rfl⟩
theorem ZpI (d:Int):PT (Zdt d) (fun _=>True):=fun t ho=>⟨trivial,ZiE ho rfl⟩
theorem pt_span:PT Zsa (fun _=>True):=pt_next.bind (k:=Zb3) fun s _=>fun t ho=>⟨trivial,Zk9 ho rfl⟩
theorem pt_letter:PT ZdJ (fun s=>s.size≤24):=by
 intro t ho
 have h:=ZbC ho (s:=(Za1 t).1) (u:=(Za1 t).2) rfl
 unfold ZdJ
 refine ⟨?_,?_⟩
 ·dsimp only;split
  ·decide
  ·exact h.1
 ·dsimp only;split
  ·exact h.2
  ·exact h.2
def okRul (r:Rul):Prop:=r.1.size≤maxLen∧r.2.2.2.2.2.2.2.2.size≤maxLen
theorem ZiM {n:Nat}(h:n≤24):n≤maxLen:=by unfold maxLen;omega
theorem pt_rule:PT ZkN okRul :=
 pt_name.bind fun nm h1=>pt_year.bind fun f _=>(pt_to f).bind fun _ _=>pt_month.bind fun m _=>pt_form.bind fun k _=>(ZpI 1).bind fun c _=>pt_span.bind fun sv _=>pt_letter.bind fun l h2=>PT.ret ⟨ZiM h1,ZiM h2⟩
theorem pt_shift:PT Zgz (fun _=>True):=fun t ho=>⟨trivial,ZmJ ho rfl⟩
theorem pt_rules:PT Zsb (fun p=>p.2.size≤24):=by
 refine pt_next.bind (k:=Zez) fun s hs t ho=>⟨?_,ZmK ho rfl⟩
 unfold Zez
 split
 ·exact Nat.zero_le 24
 ·split
  ·exact Nat.zero_le 24
  ·exact hs
theorem pt_format:PT Zim (fun s=>s.size≤24):=by
 intro t ho
 have h:=ZbC ho (s:=(Za1 t).1) (u:=(Za1 t).2) rfl
 unfold Zim
 refine ⟨h.1,?_⟩
 dsimp only;split
 ·exact h.2
 ·exact h.2
theorem pt_until:PT ZhE (fun _=>True) :=
 pt_year.bind fun y _=>pt_month.bind fun m _=>pt_day.bind fun d _=>(ZpI 2).bind fun c _=>PT.bind (P:=fun _=>True) (fun t ho=>⟨trivial,by unfold Zr9;dsimp only;split <;> exact ho⟩) fun _ _=>PT.ret trivial
theorem pt_end:PT tEnd (fun _=>True):=by
 intro t ho
 refine ⟨trivial,?_⟩
 unfold tEnd
 split
 ·exact ho
 ·exact (pt_until t ho).2
theorem pt_era:PT tEra ZsO :=
 pt_shift.bind fun sh _=>pt_rules.bind fun r h1=>pt_format.bind fun f h2=>pt_end.bind fun u _=>PT.ret ⟨ZiM h1,ZiM h2⟩
theorem ZmL {s:Src}{x:Era}(h:ZeJ s) (hx:ZsO x):ZeJ (ZbY s x).1:=by
 refine ⟨h.1,?_,h.2.2⟩
 show ∀ z∈Zql s.2.1 x,_
 obtain ⟨a,z,l⟩:=s
 have h2:=h.2.1
 simp only at h2 ⊢
 rcases List.eq_nil_or_concat z with rfl | ⟨i,y,rfl⟩
 ·intro z hz;cases hz
 ·rw [List.concat_eq_append,Zc3]
  intro z hz
  rcases List.mem_append.1 hz with hz | hz
  ·exact h2 z (by rw [List.concat_eq_append];exact List.mem_append_left _ hz)
  ·rw [List.mem_singleton] at hz
   subst hz
   have hy:=h2 y (by rw [List.concat_eq_append];simp)
   refine ⟨hy.1,fun e he=>?_⟩
   rcases List.mem_append.1 he with he | he
   ·exact hy.2 e he
   ·rw [List.mem_singleton] at he;subst he;exact hx
theorem ZsJ {p:PS}(h:ZeJ p.1):PT (Zfc p) (fun q=>ZeJ q.1):=by
 unfold Zfc
 split
 ·exact pt_era.bind fun x hx=>PT.ret (ZmL h hx)
 ·refine pt_next.bind fun w _=>?_
  split
  ·refine pt_rule.bind fun r hr=>PT.ret ⟨fun y hy=>?_,h.2.1,h.2.2⟩
   rcases List.mem_append.1 hy with hy | hy
   ·exact h.1 y hy
   ·rw [List.mem_singleton] at hy;subst hy;exact hr
  ·split
   ·refine pt_name.bind fun n hn=>pt_era.bind fun x hx=>PT.ret (ZmL ⟨h.1,fun y hy=>?_,h.2.2⟩ hx)
    rcases List.mem_append.1 hy with hy | hy
    ·exact h.2.1 y hy
    ·rw [List.mem_singleton] at hy;subst hy;exact ⟨ZiM hn,fun e he=>by cases he⟩
   ·split
    ·refine pt_name.bind fun a ha=>pt_name.bind fun b hb=>PT.ret ⟨h.1,h.2.1,fun y hy=>?_⟩
     rcases List.mem_append.1 hy with hy | hy
     ·exact h.2.2 y hy
     ·rw [List.mem_singleton] at hy;subst hy;exact ⟨ZiM ha,ZiM hb⟩
    ·exact fun t ho=>⟨h,ho⟩
theorem Zbn {p q:PS}{x:Ln}{u:TS}(hB:Zfc p (x.2.2,false)=(q,u)) (h:u.2=true∨u.1≠[]∨x.2.1≠p.2):Zch p x=none:=ZmV (by unfold badT;rw [hB];exact h)
theorem Zd2 {p q:PS}{x:Ln}{u:TS}(hB:Zfc p (x.2.2,false)=(q,u)) (h1:u.2=false) (h2:u.1=[]) (h3:x.2.1=p.2):Zch p x=some q:=by
 have:=ZpS (p:=p) (x:=x) (by unfold badT;rw [hB];simp [h1,h2,h3])
 rw [this,hB]
def curS (s:Src) (o:Option Zon):Src:=(s.1,s.2.1++o.toList,s.2.2)
theorem ZcL {s:Src}:curS s none=s:=by unfold curS;simp
def zC (N v:Nat):Option Zon→List AV
 | none=>[]
 | some z=>[sv z.1,.own (N+5) v z.2.length]
def eC:Option Zon→List Era
 | none=>[]
 | some z=>z.2
theorem ZaW {n:Nat}{b:List AV}(hb:AV.ltL n b=true) : ∀ {a:List AV},AV.ltL n a=true→AV.ltL n (a++b)=true
 | [],_=>hb
 | x::a,h=>by
  simp only [List.cons_append,AV.ltL,Bool.and_eq_true] at h ⊢
  exact ⟨h.1,ZaW hb h.2⟩
theorem Zhe {N v:Nat}{l:List Zon}{o:Option Zon}:AV.ltL (N+6) (rows zonC l++zC N v o)=true:=by
 refine ZaW ?_ (Zca l)
 cases o <;> simp [zC,AV.ltL,AV.lt]
theorem ZlZ {N v:Nat}{l:List Zon}{o:Option Zon}:(rows zonC l++zC N v o).length=(l.length+o.toList.length)*2:=by
 rw [List.length_append,ZdG]
 cases o <;> simp [zC] <;> omega
theorem Zl0 {l:List Zon}{a b:AV}{off:Nat}(h:off=l.length*2+1):(rows zonC l++[a,b])[off]?=some b:=by
 subst h
 rw [List.getElem?_append_right (by rw [ZdG];omega),ZdG,Nat.add_sub_cancel_left];rfl
theorem Zpc {l:List Zon}{a b c:AV}{off:Nat}(h:off=l.length*2+1):setCells (rows zonC l++[a,b]) off [c]=rows zonC l++[a,c]:=by
 subst h
 simp only [setCells]
 rw [List.set_append_right _ _ (by rw [ZdG];omega),ZdG,Nat.add_sub_cancel_left];rfl
theorem ZlY {l:List Zon}{a b c:AV}:aPut (rows zonC l++[a,b]) (some (l.length*2+1)) c=rows zonC l++[a,c]:=Zpc rfl
theorem zc_at2 {l:List Zon}{N v:Nat}{a b:AV}{off:Nat}(h:off=l.length*2+1):(rows zonC l++zC N v none++[a,b])[off]?=some b:=by
 rw [show rows zonC l++zC N v none=rows zonC l from List.append_nil _];exact Zl0 h
theorem zc_put2 {l:List Zon}{N v:Nat}{a b c:AV}:aPut (rows zonC l++zC N v none++[a,b]) (some (l.length*2+1)) c=rows zonC l++[a,c]:=by
 rw [show rows zonC l++zC N v none=rows zonC l from List.append_nil _];exact ZlY
theorem Zfu {s:ByteArray} : ∀ x∈(ZbB s).1,∀ f∈x.2.2,f.size≤24:=by
 intro x hx f hf
 have h:=Zin x hx
 unfold ZcS at h
 split at h
 ·cases h
 ·split at h
  ·cases h
  ·have : ∀ {fs:List ByteArray},Zef fs=0 → ∀ f∈fs,Zbl f=0:=by
    intro fs
    induction fs with
    | nil=>intro _ f hf;cases hf
    | cons g fs ih =>
     intro h f hf
     rw [Zef] at h
     split at h
     ·rename_i h1;exact absurd h h1
     ·rename_i h1
      rcases List.mem_cons.1 hf with rfl | hf
      ·exact Decidable.of_not_not h1
      ·exact ih h f hf
   exact (ZfT (this h f hf)).2
theorem Zmg {s:ByteArray}:(ZbB s).1.length≤200:=by
 unfold ZbB
 split
 ·simp
 ·split
  ·rename_i h2;rw [Zj6 h2];simp
  ·split
   ·simp
   ·omega
end Go.Proofs.YtgjchdhdopgkkaaGreatDoor
end
section
namespace Go.Proofs.YtgjchdhdopgkkaaGreatDoor
open Go.Ab Go.RowKit Civ
attribute [local simp] Zbd Za4 Zbj Zca Za5
section
theorem Zrl {h:AH}{n:Nat}(hn:h.length=n) {e0 e1 e2 e3 e4 e5 e6 e7 e8 e9:Ent}:(h++[e0,e1,e2,e3,e4,e5,e6,e7,e8,e9]).length=n+10:=by subst hn;simp
theorem Zrn {h:AH}{e0 e1 e2 e3 e4 e5 e6 e7 e8 e9 e:Ent}:(h++[e0,e1,e2,e3,e4,e5,e6,e7,e8,e9])++[e]=h++[e0,e1,e2,e3,e4,e5,e6,e7,e8,e9,e]:=by simp
theorem ZhS {a0 a1 a2 a3 a4 a5 a6 a7 a8 a9 c0 c1 c2 c3 c4 c5 c6 c7 c8 c9:AV}{l:List AV}:setCells (a0::a1::a2::a3::a4::a5::a6::a7::a8::a9::l) 0 [c0,c1,c2,c3,c4,c5,c6,c7,c8,c9]=c0::c1::c2::c3::c4::c5::c6::c7::c8::c9::l:=rfl
theorem Zrj {h:AH}{n:Nat}(hn:h.length=n) {e0 e1 e2 e3 e4 e5 e6 e7 e8 e9 e0_ e:Ent}{l:AH}:(h++(e0::e1::e2::e3::e4::e5::e6::e7::e8::e9::e0_::l)).set (n+10) e=h++(e0::e1::e2::e3::e4::e5::e6::e7::e8::e9::e::l):=by subst hn;simp
theorem ZhR {a0 a1 a2 a3 a4 a5 a6 a7 a8 a9:AV}{l:List AV}:((a0::a1::a2::a3::a4::a5::a6::a7::a8::a9::l).drop 0).take 10=[a0,a1,a2,a3,a4,a5,a6,a7,a8,a9]:=rfl
theorem ZhT {τ:Operand→AV}{y0:Operand}{x0_0 x0_1 x0_2 x0_3 x0_4 x0_5 x0_6 x0_7 x0_8 x0_9:AV}(h0:Zap (τ y0)=some [x0_0,x0_1,x0_2,x0_3,x0_4,x0_5,x0_6,x0_7,x0_8,x0_9]) (l0:[x0_0,x0_1,x0_2,x0_3,x0_4,x0_5,x0_6,x0_7,x0_8,x0_9].all leaf=true):Zat τ [(0,10,y0)] [(.v (.int .i64 0)),(.v (.string ⟨#[]⟩)),(.v (.int .i64 0)),(.v (.string ⟨#[]⟩)),(.v (.bool false)),(.v (.int .i64 0)),(.v (.int .i64 0)),(.v (.int .i64 0)),(.v (.int .i64 0)),(.v (.int .i64 0))]=some [x0_0,x0_1,x0_2,x0_3,x0_4,x0_5,x0_6,x0_7,x0_8,x0_9]:=by
 simp only [Zat,h0,l0]
 rfl
theorem Zkz { e:Ent}:([]:AH)++[e]=[e]:=rfl
theorem Znu {e0 e1 e2 e3 e4 e5 e6 e7 e8 e9 e10 d0:Ent}:([e0,e1,e2,e3,e4,e5,e6,e7,e8,e9,e10]:AH)++[d0]=[e0,e1,e2,e3,e4,e5,e6,e7,e8,e9,e10,d0]:=rfl
theorem Zjm {a0 a1 a2 a3 a4 a5 a6 a7 a8 a9:AV}{l:List AV}:(a0::a1::a2::a3::a4::a5::a6::a7::a8::a9::l).take 10=[a0,a1,a2,a3,a4,a5,a6,a7,a8,a9]:=rfl
theorem Zjn {a0 a1 a2 a3 c0:AV}{l:List AV}:setCells (a0::a1::a2::a3::l) 3 [c0]=a0::a1::a2::c0::l:=rfl
theorem Zrk {h:AH}{n:Nat}(hn:h.length=n) {e0 e1 e2 e3 e4 e5 e6 e7 e8 e9 e10:Ent}:(h++[e0,e1,e2,e3,e4,e5,e6,e7,e8,e9,e10]).length=n+11:=by subst hn;simp
theorem Zrm {h:AH}{e0 e1 e2 e3 e4 e5 e6 e7 e8 e9 e10 e:Ent}:(h++[e0,e1,e2,e3,e4,e5,e6,e7,e8,e9,e10])++[e]=h++[e0,e1,e2,e3,e4,e5,e6,e7,e8,e9,e10,e]:=by simp
theorem Zri {h:AH}{n:Nat}(hn:h.length=n) {e0 e1 e2 e3 e4 e5 e6 e7 e8 e9 e10 e0_ e:Ent}{l:AH}:(h++(e0::e1::e2::e3::e4::e5::e6::e7::e8::e9::e10::e0_::l)).set (n+11) e=h++(e0::e1::e2::e3::e4::e5::e6::e7::e8::e9::e10::e::l):=by subst hn;simp
theorem Znt {e0 e1 e2 e3 e4 e5 e6 e7 e8 e9 e10 e11 d0:Ent}:([e0,e1,e2,e3,e4,e5,e6,e7,e8,e9,e10,e11]:AH)++[d0]=[e0,e1,e2,e3,e4,e5,e6,e7,e8,e9,e10,e11,d0]:=rfl
end
def c113:AC:=(Sd [Mv 6 0,Nk 7 6,Fa 8 0 7,Fa 9 1 8,Ld 10 9,Mv 11 0,Nk 12 11,Fa 13 0 12,Fa 14 1 13,Ld 15 14,Oo 16 (.len false (.tmp 15)),Bc 17 .sub 16 1,Oo 18 (.ia 2 (.tmp 10) (.tmp 17)),Mv 4 18] (Sr [Mv 19 1,Cl 20 142 [(.tmp 19)],Oo 5 (.new 64 10 [(iv 0),Ss,(iv 0),Ss,(.v (.bool false)),(iv 0),(iv 0),(iv 0),(iv 0),(iv 0)]),⟨none,none,(.store 10 (.tmp 5) (.tmp 20))⟩] (.seq (.drw [Mv 21 4,Mv 22 4,Nk 23 22,Fa 24 1 23,Ld 25 24,Oo 26 (.load true 10 (.tmp 5)),Oo 27 (.lit 64 10 1 [(iv 0),Ss,(iv 0),Ss,(.v (.bool false)),(iv 0),(iv 0),(iv 0),(iv 0),(iv 0)] [(0,(10,(.tmp 26)))])] [false,false,false,false] [Oo 28 (.app 64 10 96 (.tmp 25) (.tmp 27)),Nk 29 21,Fa 30 1 29,Sc 30 28]) (.reg [Mv 31 0,Fa 32 4 5,Ld 33 32,Oo 34 (.un .not (.tmp 33)),Nk 35 31,Fa 36 3 35,Sc 36 34]))))
theorem k113:ZaH Tryz.prog 113=some ⟨c113,[],37⟩:=by kernel_rfl
abbrev parE (M v1 v2 v3 n1 m n3:Nat) (must:Bool):Ent:=.mk 0 81 4 [.own (M+1) v1 n1,.own (M+2) v2 m,.own (M+3) v3 n3,bv must]
theorem Zc7 {n v k:Nat}{l:List Zon}{nm:ByteArray}{m id:Nat}(h:id<n):(Ent.mk v 52 2 (rows zonC l++[sv nm,.own id k m])).lt n=true:=by
 show AV.ltL n _=true
 refine ZaW ?_ (Zca l)
 simp [AV.ltL,AV.lt,h]
theorem ZpR {h0 l l':AH}{n:Nat}(hlt : ∀ e∈h0++l,e.lt n=true) (hl : ∀ e∈l',e∈l∨e.lt n=true) : ∀ e∈h0++l',e.lt n=true:=by
 intro e he
 rcases List.mem_append.1 he with he | he
 ·exact hlt e (List.mem_append_left _ he)
 rcases hl e he with h | h
 ·exact hlt e (List.mem_append_right _ h)
 exact h
theorem pera10 {h0:AH}{M:Nat}(hM:h0.length=M) {R K a b c d:Ent}{v1 v2 v3 v4 n1 n3:Nat}{zs:List Zon}{nm:ByteArray}{es:List Era}{must:Bool}{l:List ByteArray}(ho:okL l) (hz2:zs.length≤200) (he2:es.length≤200) :
  ACalls Tryz.prog 113 [.ptr (M+0) 0 0,.ptr (M+9) 0 0] (h0++[parE M v1 v2 v3 n1 (zs.length+1) n3 must,R,.mk v2 52 2 (rows zonC zs++[sv nm,.own (M+4) v4 es.length]),K,.mk v4 64 10 (rows eraC es),a,b,c,d,rdE l]) fun y h'=>match rEra l with
   | none=>y=.pan wrA ∧ ∃ l',h'=h0++[parE M v1 v2 v3 n1 (zs.length+1) n3 must,R,.mk v2 52 2 (rows zonC zs++[sv nm,.own (M+4) v4 es.length]),K,.mk v4 64 10 (rows eraC es),a,b,c,d,rdE l']
   | some p=>y=.ret (.tup [])∧h'=h0++[parE M v1 v2 v3 n1 (zs.length+1) n3 (!ZbP p.1),R,.mk v2 52 2 (rows zonC zs++[sv nm,.own (M+4) (v4+1) (es.length+1)]),K,.mk (v4+1) 64 10 (rows eraC (es++[p.1])),a,b,c,d,rdE p.2]:=by
 refine tJ' k113 fun N hn hlt hlA hbd=>?_
 simp only [tb'] at hbd ⊢
 obtain rfl:N=M+10:=by rw [←hn,←hM];simp
 rw [List.append_nil]
 refine Zam<|ZbJ<|D' (v_mv lk) pt<|D' (ZaD lk) pt<|D' (Zaa lk) pt<|D' (Zaa lk) pt<|D' (Zac lk (hga hM rfl) gt1) pt<|D' (v_mv lk) pt<|D' (ZaD lk) pt<|D' (Zaa lk) pt<|D' (Zaa lk) pt<|D' (Zac lk (hga hM rfl) gt1) pt<|D' (Zdr lk) pt<|?_
 refine D' (ZcC lk lki (by omega) (by omega)) pt ?_
 refine D' (ZkJ lk lk (hga hM rfl) (nb' rfl) (by omega) (by omega) (by rw [List.length_append,ZdG];simp <;> omega)) pt ?_
 refine D' (v_mv lk) pt<|Zbt<|?_
 refine Zb4 ?_
 refine sn'<|wr'<|mv' lk pt<|?_
 by_cases hs16 : ∃ p,rEra l=some p
 ·obtain ⟨⟨x,l1⟩,e1⟩:=hs16
  refine ZaA mp (sera_e ho e1 (hga hM rfl)) (hs9 hM) pt<|E' (Zbq (Zrl hM) Zrn) pt<|E' (Zal lk (cvl lk rfl) (hga hM rfl) rfl (nb' rfl) rfl ZhS (Zrj hM)) ptn<|sn'<|Zam<|ZbJ<|D' (v_mv lk) pt<|D' (v_mv lk) pt<|D' (ZaD lk) pt<|D' (Zcv lk) pt<|?_
  refine D' (Zac lk (hga hM rfl) (Zl0 (by omega))) pt ?_
  refine D' (Zau lk (hga hM rfl) ZhR rfl) pt<|ZqW rfl rfl (hlk hM rfl) (ZqM (ZhT (cvl lk rfl) rfl)) pt Zkz<|Zbt<|?_
  refine ZqT Znu ?_
  refine E' (Zej (Zc9 lk (hga hM rfl) rfl Zjm (nb' rfl)) lk (hga hM rfl) (Ze6 _) (by omega) rfl (hs4 hM)) pt ?_
  refine V' (ZaD lk) pt<|V' (Zcv lk) pt<|?_
  refine E' (Zal lk (cvl lk rfl) (hga hM rfl) rfl (by rw [List.length_append,ZdG];simp <;> omega) rfl (Zpc (by omega)) (hs2 hM)) ptn ?_
  refine sn'<|Zar<|mv' lk pt<|V' (Zaa lk) pt<|V' (Zac lk (hga hM rfl) gt4) pt<|V' (Zav lk) pt<|V' (ZaD lk) pt<|V' (Zaa lk) pt<|E' (Zal lk (cvl lk rfl) (hga hM rfl) rfl (nb' rfl) rfl Zjn (hs0 hM)) ptn<|Zas<|Zf6 (rs0)<|?_
  refine ⟨h0++[parE M v1 v2 v3 n1 (zs.length+1) n3 (!ZbP x),R,.mk v2 52 2 (rows zonC zs++[sv nm,.own (M+4) (v4+1) (es.length+1)]),K,.mk (v4+1) 64 10 (rows eraC (es++[x])),a,b,c,d,rdE l1],?z9,?h9,by simp [hM],(ZpR hlt (by intro e he;simp only [List.mem_cons,List.not_mem_nil,or_false] at he;rcases he with rfl | rfl | rfl | rfl | rfl | rfl | rfl | rfl | rfl | rfl <;> first | (left;simp;done) | (right;simp [Ent.lt,AV.lt,AV.ltL,Zbd,Zbj];done) | (right;exact Zc7 (by omega)))),rfl,by rw [e1];exact ⟨rfl,rfl⟩⟩
  case h9 =>
   rw [Zbo,Zbv,List.append_assoc]
   rfl
 have e1:=ZaT hs16
 refine ZaP mp (sera_p ho e1 (hga hM rfl)) (fun hP_ hPp_=>?_)
 refine ZaS<|Zba<|?_
 obtain ⟨l',rfl⟩:=hPp_
 rw [hs9 hM]
 exact ⟨h0++[parE M v1 v2 v3 n1 (zs.length+1) n3 must,R,.mk v2 52 2 (rows zonC zs++[sv nm,.own (M+4) v4 es.length]),K,.mk v4 64 10 (rows eraC es),a,b,c,d,rdE l'],[],by simp,by simp [hM],(ZpR hlt (by intro e he;simp only [List.mem_cons,List.not_mem_nil,or_false] at he;rcases he with rfl | rfl | rfl | rfl | rfl | rfl | rfl | rfl | rfl | rfl <;> first | (left;simp;done) | (right;simp [Ent.lt,AV.lt,AV.ltL,Zbd,Zbj];done) | (right;exact Zc7 (by omega)))),rfl,by rw [e1];exact ⟨rfl,l',rfl⟩⟩
theorem pera11 {h0:AH}{M:Nat}(hM:h0.length=M) {R K a b c d e0:Ent}{v1 v2 v3 v4 n1 n3:Nat}{zs:List Zon}{nm:ByteArray}{es:List Era}{must:Bool}{l:List ByteArray}(ho:okL l) (hz2:zs.length≤200) (he2:es.length≤200) :
  ACalls Tryz.prog 113 [.ptr (M+0) 0 0,.ptr (M+9) 0 0] (h0++[parE M v1 v2 v3 n1 (zs.length+1) n3 must,R,.mk v2 52 2 (rows zonC zs++[sv nm,.own (M+4) v4 es.length]),K,.mk v4 64 10 (rows eraC es),a,b,c,d,rdE l,e0]) fun y h'=>match rEra l with
   | none=>y=.pan wrA ∧ ∃ l',h'=h0++[parE M v1 v2 v3 n1 (zs.length+1) n3 must,R,.mk v2 52 2 (rows zonC zs++[sv nm,.own (M+4) v4 es.length]),K,.mk v4 64 10 (rows eraC es),a,b,c,d,rdE l',e0]
   | some p=>y=.ret (.tup [])∧h'=h0++[parE M v1 v2 v3 n1 (zs.length+1) n3 (!ZbP p.1),R,.mk v2 52 2 (rows zonC zs++[sv nm,.own (M+4) (v4+1) (es.length+1)]),K,.mk (v4+1) 64 10 (rows eraC (es++[p.1])),a,b,c,d,rdE p.2,e0]:=by
 refine tJ' k113 fun N hn hlt hlA hbd=>?_
 simp only [tb'] at hbd ⊢
 obtain rfl:N=M+11:=by rw [←hn,←hM];simp
 rw [List.append_nil]
 refine Zam<|ZbJ<|D' (v_mv lk) pt<|D' (ZaD lk) pt<|D' (Zaa lk) pt<|D' (Zaa lk) pt<|D' (Zac lk (hga hM rfl) gt1) pt<|D' (v_mv lk) pt<|D' (ZaD lk) pt<|D' (Zaa lk) pt<|D' (Zaa lk) pt<|D' (Zac lk (hga hM rfl) gt1) pt<|D' (Zdr lk) pt<|?_
 refine D' (ZcC lk lki (by omega) (by omega)) pt ?_
 refine D' (ZkJ lk lk (hga hM rfl) (nb' rfl) (by omega) (by omega) (by rw [List.length_append,ZdG];simp <;> omega)) pt ?_
 refine D' (v_mv lk) pt<|Zbt<|?_
 refine Zb4 ?_
 refine sn'<|wr'<|mv' lk pt<|?_
 by_cases hs16 : ∃ p,rEra l=some p
 ·obtain ⟨⟨x,l1⟩,e1⟩:=hs16
  refine ZaA mp (sera_e ho e1 (hga hM rfl)) (hs9 hM) pt<|E' (Zbq (Zrk hM) Zrm) pt<|E' (Zal lk (cvl lk rfl) (hga hM rfl) rfl (nb' rfl) rfl ZhS (Zri hM)) ptn<|sn'<|Zam<|ZbJ<|D' (v_mv lk) pt<|D' (v_mv lk) pt<|D' (ZaD lk) pt<|D' (Zcv lk) pt<|?_
  refine D' (Zac lk (hga hM rfl) (Zl0 (by omega))) pt ?_
  refine D' (Zau lk (hga hM rfl) ZhR rfl) pt<|ZqW rfl rfl (hlk hM rfl) (ZqM (ZhT (cvl lk rfl) rfl)) pt Zkz<|Zbt<|?_
  refine ZqT Znt ?_
  refine E' (Zej (Zc9 lk (hga hM rfl) rfl Zjm (nb' rfl)) lk (hga hM rfl) (Ze6 _) (by omega) rfl (hs4 hM)) pt ?_
  refine V' (ZaD lk) pt<|V' (Zcv lk) pt<|?_
  refine E' (Zal lk (cvl lk rfl) (hga hM rfl) rfl (by rw [List.length_append,ZdG];simp <;> omega) rfl (Zpc (by omega)) (hs2 hM)) ptn ?_
  refine sn'<|Zar<|mv' lk pt<|V' (Zaa lk) pt<|V' (Zac lk (hga hM rfl) gt4) pt<|V' (Zav lk) pt<|V' (ZaD lk) pt<|V' (Zaa lk) pt<|E' (Zal lk (cvl lk rfl) (hga hM rfl) rfl (nb' rfl) rfl Zjn (hs0 hM)) ptn<|Zas<|Zf6 (rs0)<|?_
  refine ⟨h0++[parE M v1 v2 v3 n1 (zs.length+1) n3 (!ZbP x),R,.mk v2 52 2 (rows zonC zs++[sv nm,.own (M+4) (v4+1) (es.length+1)]),K,.mk (v4+1) 64 10 (rows eraC (es++[x])),a,b,c,d,rdE l1,e0],?z9,?h9,by simp [hM],(ZpR hlt (by intro e he;simp only [List.mem_cons,List.not_mem_nil,or_false] at he;rcases he with rfl | rfl | rfl | rfl | rfl | rfl | rfl | rfl | rfl | rfl | rfl <;> first | (left;simp;done) | (right;simp [Ent.lt,AV.lt,AV.ltL,Zbd,Zbj];done) | (right;exact Zc7 (by omega)))),rfl,by rw [e1];exact ⟨rfl,rfl⟩⟩
  case h9 =>
   rw [Zbo,Zbv,List.append_assoc]
   rfl
 have e1:=ZaT hs16
 refine ZaP mp (sera_p ho e1 (hga hM rfl)) (fun hP_ hPp_=>?_)
 refine ZaS<|Zba<|?_
 obtain ⟨l',rfl⟩:=hPp_
 rw [hs9 hM]
 exact ⟨h0++[parE M v1 v2 v3 n1 (zs.length+1) n3 must,R,.mk v2 52 2 (rows zonC zs++[sv nm,.own (M+4) v4 es.length]),K,.mk v4 64 10 (rows eraC es),a,b,c,d,rdE l',e0],[],by simp,by simp [hM],(ZpR hlt (by intro e he;simp only [List.mem_cons,List.not_mem_nil,or_false] at he;rcases he with rfl | rfl | rfl | rfl | rfl | rfl | rfl | rfl | rfl | rfl | rfl <;> first | (left;simp;done) | (right;simp [Ent.lt,AV.lt,AV.ltL,Zbd,Zbj];done) | (right;exact Zc7 (by omega)))),rfl,by rw [e1];exact ⟨rfl,l',rfl⟩⟩
end Go.Proofs.YtgjchdhdopgkkaaGreatDoor
end
section
namespace Go.Proofs.YtgjchdhdopgkkaaGreatDoor
open Go.Ab Go.RowKit Civ
section
theorem Zns {τ:Operand→AV}{y0:Operand}{x0_0:AV}(h0:Zap (τ y0)=some [x0_0]) (l0:[x0_0].all leaf=true):Zat τ [(0,1,y0)] [(.sl 0 0 true [])]=some [x0_0]:=by
 simp only [Zat,h0,l0]
 rfl
theorem Zhx {h:AH}{n:Nat}(hn:h.length=n) {e0 e1 e2 e3 e4 e5 e6 e7 e8 e9:Ent}:(h++[e0,e1,e2,e3,e4,e5,e6,e7,e8,e9]).length=n+10:=by subst hn;simp
theorem Zhy {h:AH}{e0 e1 e2 e3 e4 e5 e6 e7 e8 e9 e:Ent}:(h++[e0,e1,e2,e3,e4,e5,e6,e7,e8,e9])++[e]=h++[e0,e1,e2,e3,e4,e5,e6,e7,e8,e9,e]:=by simp
theorem Znq {a0 a1 a2 a3 a4 a5 a6 a7 a8 a9 a10 c0 c1 c2 c3 c4 c5 c6 c7 c8 c9 c10:AV}{l:List AV}:setCells (a0::a1::a2::a3::a4::a5::a6::a7::a8::a9::a10::l) 0 [c0,c1,c2,c3,c4,c5,c6,c7,c8,c9,c10]=c0::c1::c2::c3::c4::c5::c6::c7::c8::c9::c10::l:=rfl
theorem Zrh {h:AH}{n:Nat}(hn:h.length=n) {e0 e1 e2 e3 e4 e5 e6 e7 e8 e9 e0_ e:Ent}{l:AH}:(h++(e0::e1::e2::e3::e4::e5::e6::e7::e8::e9::e0_::l)).set (n+10) e=h++(e0::e1::e2::e3::e4::e5::e6::e7::e8::e9::e::l):=by subst hn;simp
theorem Znp {a0 a1 a2 a3 a4 a5 a6 a7 a8 a9 a10:AV}{l:List AV}:((a0::a1::a2::a3::a4::a5::a6::a7::a8::a9::a10::l).drop 0).take 11=[a0,a1,a2,a3,a4,a5,a6,a7,a8,a9,a10]:=rfl
theorem ZlS {τ:Operand→AV}{y0:Operand}{x0_0 x0_1 x0_2 x0_3 x0_4 x0_5 x0_6 x0_7 x0_8 x0_9 x0_10:AV}(h0:Zap (τ y0)=some [x0_0,x0_1,x0_2,x0_3,x0_4,x0_5,x0_6,x0_7,x0_8,x0_9,x0_10]) (l0:[x0_0,x0_1,x0_2,x0_3,x0_4,x0_5,x0_6,x0_7,x0_8,x0_9,x0_10].all leaf=true):Zat τ [(0,11,y0)] [(.v (.string ⟨#[]⟩)),(.v (.int .i64 0)),(.v (.int .i64 0)),(.v (.int .i64 0)),(.v (.int .i64 0)),(.v (.int .i64 0)),(.v (.int .i64 0)),(.v (.int .i64 0)),(.v (.int .i64 0)),(.v (.int .i64 0)),(.v (.string ⟨#[]⟩))]=some [x0_0,x0_1,x0_2,x0_3,x0_4,x0_5,x0_6,x0_7,x0_8,x0_9,x0_10]:=by
 simp only [Zat,h0,l0]
 rfl
theorem Zrg { e:Ent}:([]:AH)++[e]=[e]:=rfl
theorem Znr {e0 e1 e2 e3 e4 e5 e6 e7 e8 e9 e10 d0:Ent}:([e0,e1,e2,e3,e4,e5,e6,e7,e8,e9,e10]:AH)++[d0]=[e0,e1,e2,e3,e4,e5,e6,e7,e8,e9,e10,d0]:=rfl
theorem ZoR {a0 a1 a2 a3 a4 a5 a6 a7 a8 a9 a10:AV}{l:List AV}:(a0::a1::a2::a3::a4::a5::a6::a7::a8::a9::a10::l).take 11=[a0,a1,a2,a3,a4,a5,a6,a7,a8,a9,a10]:=rfl
theorem ZoU {a0 c0:AV}{l:List AV}:setCells (a0::l) 0 [c0]=c0::l:=rfl
theorem ZlR {τ:Operand→AV}{y0:Operand}{x0_0:AV}(h0:Zap (τ y0)=some [x0_0]) (l0:[x0_0].all leaf=true):Zat τ [(0,1,y0)] [(.v (.string ⟨#[]⟩)),(.sl 0 0 true [])]=some [x0_0,(.sl 0 0 true [])]:=by
 simp only [Zat,h0,l0]
 rfl
theorem ZlQ {τ:Operand→AV}{y0:Operand}{x0_0 x0_1:AV}(h0:Zap (τ y0)=some [x0_0,x0_1]) (l0:[x0_0,x0_1].all leaf=true):Zat τ [(0,2,y0)] [(.v (.string ⟨#[]⟩)),(.sl 0 0 true [])]=some [x0_0,x0_1]:=by
 simp only [Zat,h0,l0]
 rfl
theorem Zky {a0 a1:AV}{l:List AV}:(a0::a1::l).take 2=[a0,a1]:=rfl
theorem ZoT {a0 a1 c0:AV}{l:List AV}:setCells (a0::a1::l) 1 [c0]=a0::c0::l:=rfl
theorem ZlP {τ:Operand→AV}{y0 y1:Operand}{x0_0 x1_0:AV}(h0:Zap (τ y0)=some [x0_0]) (l0:[x0_0].all leaf=true) (h1:Zap (τ y1)=some [x1_0]) (l1:[x1_0].all leaf=true):Zat τ [(0,1,y0),(1,1,y1)] [(.v (.string ⟨#[]⟩)),(.v (.string ⟨#[]⟩))]=some [x0_0,x1_0]:=by
 simp only [Zat,h0,l0,h1,l1]
 rfl
theorem ZlO {τ:Operand→AV}{y0:Operand}{x0_0 x0_1:AV}(h0:Zap (τ y0)=some [x0_0,x0_1]) (l0:[x0_0,x0_1].all leaf=true):Zat τ [(0,2,y0)] [(.v (.string ⟨#[]⟩)),(.v (.string ⟨#[]⟩))]=some [x0_0,x0_1]:=by
 simp only [Zat,h0,l0]
 rfl
theorem ZoS {a0 a1 a2 c0:AV}{l:List AV}:setCells (a0::a1::a2::l) 2 [c0]=a0::a1::c0::l:=rfl
end
def c79:AC:=(Sr [Oo 3 (.box 67 3 (.tmp 1))] (Sr [Fa 9 2 3,Ld 10 9,Oo 11 (.build [(.sl 0 0 true [])] [(0,(1,(.tmp 10)))]),Oo 12 (.box 146 1 (.tmp 11)),Mv 4 12] (.seq (Sd [Fa 13 1 3,Ld 14 13,Mv 15 0,Nk 16 15,Fa 17 3 16,Ld 18 17,Oo 19 (.eqb true (.tmp 14) (.tmp 18))] (Cd 19 (.reg [Cl 20 111 []]) .skip)) (Sr [Ms 5] (.seq (Sr [Mv 21 0,Nk 22 21,Fa 23 3 22,Ld 24 23,Oo 25 (.un .not (.tmp 24))] (Cd 25 (.reg [Mv 26 4,Cl 27 112 [(.tmp 26)],Mv 5 27]) .skip)) (.seq (.block 0 (Sr [Mv 30 0,Nk 31 30,Fa 32 3 31,Ld 33 32,Mv 29 33] (Cd 29 (.reg [Mv 34 0,Mv 35 4,Cl 36 113 [(.tmp 34),(.tmp 35)]]) (Sr [Mv 38 5,Oo 39 (.bin .eql (.tmp 38) (.const (.string ⟨#[82,117,108,101]⟩))),Mv 37 39] (Cd 37 (Sr [Mv 40 4,Cl 41 114 [(.tmp 40)],Oo 6 (.new 48 11 [Ss,(iv 0),(iv 0),(iv 0),(iv 0),(iv 0),(iv 0),(iv 0),(iv 0),(iv 0),Ss]),⟨none,none,(.store 11 (.tmp 6) (.tmp 41))⟩] (.drw [Mv 42 0,Mv 43 0,Nk 44 43,Fa 45 0 44,Fa 46 0 45,Ld 47 46,Oo 48 (.load true 11 (.tmp 6)),Oo 49 (.lit 48 11 1 [Ss,(iv 0),(iv 0),(iv 0),(iv 0),(iv 0),(iv 0),(iv 0),(iv 0),(iv 0),Ss] [(0,(11,(.tmp 48)))])] [false,false,false,false,false] [Oo 50 (.app 48 11 104 (.tmp 47) (.tmp 49)),Nk 51 42,Fa 52 0 51,Fa 53 0 52,Sc 53 50])) (Sr [Mv 55 5,Oo 56 (.bin .eql (.tmp 55) (.const (.string ⟨#[90,111,110,101]⟩))),Mv 54 56] (Cd 54 (Sr [Mv 57 4,Cl 58 115 [(.tmp 57)],Mv 7 58] (Sr [Mv 59 0,Mv 60 0,Nk 61 60,Fa 62 0 61,Fa 63 1 62,Ld 64 63,Mv 65 7,Oo 66 (.build [Ss,(.sl 0 0 true [])] [(0,(1,(.tmp 65)))]),Oo 67 (.lit 52 2 1 [Ss,(.sl 0 0 true [])] [(0,(2,(.tmp 66)))]),Oo 68 (.app 52 2 40 (.tmp 64) (.tmp 67)),Nk 69 59,Fa 70 0 69,Fa 71 1 70,Sc 71 68] (.reg [Mv 72 0,Mv 73 4,Cl 74 113 [(.tmp 72),(.tmp 73)]]))) (Sr [Mv 76 5,Oo 77 (.bin .eql (.tmp 76) (.const (.string ⟨#[76,105,110,107]⟩))),Mv 75 77] (Cd 75 (Sr [Mv 78 4,Cl 79 115 [(.tmp 78)],Mv 8 79] (.orPan (.drw [Mv 80 0,Mv 81 0,Nk 82 81,Fa 83 0 82,Fa 84 2 83,Oo 85 (.loadR false 1 (.tmp 84)),Mv 86 8,Mv 87 4] [true,true,true,false,false,false,false,false] [Cl 88 115 [(.tmp 87)],Oo 89 (.build [Ss,Ss] [(0,(1,(.tmp 86))),(1,(1,(.tmp 88)))]),Oo 90 (.lit 55 2 1 [Ss,Ss] [(0,(2,(.tmp 89)))]),Oo 91 (.app 55 2 32 (.tmp 85) (.tmp 90)),Nk 92 80,Fa 93 0 92,Fa 94 2 93,Sc 94 91]) (.tmp 87) 115 [Mv 80 0,Mv 81 0,Nk 82 81,Fa 83 0 82,Fa 84 2 83,Ld 85 84,Mv 86 8,Mv 87 4,Mv 88 87,Mb 89 false,Mb 90 false,Mb 91 false,Mb 92 false,Mb 93 false,Mb 94 false,⟨none,none,(.mv (.const (.bool false)))⟩] 88)) (.reg [Cl 28 111 []])))))))))) (Sr [Mv 95 4,Nk 96 95,Fa 97 0 96,Ld 98 97,Oo 99 (.len false (.tmp 98)),Bc 100 .gtr 99 0] (Cd 100 (.reg [Cl 101 111 []]) .skip))))))))
theorem k79:ZaH Tryz.prog 79=some ⟨c79,[],102⟩:=by kernel_rfl
def zP (M v:Nat):Option Zon→List AV
 | none=>[]
 | some z=>[sv z.1,.own (M+4) v z.2.length]
theorem ZcP {M v:Nat}{l:List Zon}{o:Option Zon}:AV.ltL (M+5) (rows zonC l++zP M v o)=true:=by
 refine ZaW ?_ (Zca l)
 cases o <;> simp [zP,AV.ltL,AV.lt]
theorem Zd4 {n v:Nat}{l:List Zon}{nm:ByteArray}{k m:Nat}{f:Bool}{es:List Era}:(Ent.mk v 52 2 (rows zonC l++[sv nm,.sl k m f (rows eraC es)])).lt n=true:=by
 show AV.ltL n _=true
 refine ZaW ?_ (Zca l)
 simp [AV.ltL,AV.lt,Zbj]
theorem ZcJ {M v1 v2 v3 n1 m n3:Nat}{b:Bool}:(parE M v1 v2 v3 n1 m n3 b).lt (M+5)=true:=by simp [Ent.lt,AV.lt,AV.ltL]
theorem zp_len {M v:Nat}{l:List Zon}{o:Option Zon}:(rows zonC l++zP M v o).length=(l.length+o.toList.length)*2:=by
 rw [List.length_append,ZdG]
 cases o <;> simp [zP] <;> omega
theorem zp_at2 {l:List Zon}{N v:Nat}{a b:AV}{off:Nat}(h:off=l.length*2+1):(rows zonC l++zP N v none++[a,b])[off]?=some b:=by
 rw [show rows zonC l++zP N v none=rows zonC l from List.append_nil _];exact Zl0 h
theorem zp_put2 {l:List Zon}{N v:Nat}{a b c:AV}:aPut (rows zonC l++zP N v none++[a,b]) (some (l.length*2+1)) c=rows zonC l++[a,c]:=by
 rw [show rows zonC l++zP N v none=rows zonC l from List.append_nil _];exact ZlY
abbrev stE (M:Nat) (sr:Src) (o:Option Zon) (m v1 v2 v3 v4:Nat) (a b c:Ent):AH:=[parE M v1 v2 v3 sr.1.length m sr.2.2.length o.isSome,.mk v1 48 11 (rows rulC sr.1),.mk v2 52 2 (rows zonC sr.2.1++zP M v4 o),.mk v3 55 2 (rows lnkC sr.2.2),.mk v4 64 10 (rows eraC (eC o)),a,b,c]
def LP (M:Nat) (h0:AH) (sr:Src) (o:Option Zon) (a b c:Ent) (r:Option PS) (y:AE) (h':AH):Prop:=match r with
 | none=>y=.pan wrA ∧ ∃ p1 p2 p3 p4 p5:Ent,(∀ e∈[p1,p2,p3,p4,p5],e.lt (M+5)=true)∧h'=h0++[p1,p2,p3,p4,p5,a,b,c]
 | some q=>y=.ret (.tup []) ∧ ∃ (sr':Src) (o':Option Zon) (m' v1' v2' v3' v4':Nat),h'=h0++stE M sr' o' m' v1' v2' v3' v4' a b c∧curS sr' o'=q.1∧o'.isSome=q.2∧m'=sr'.2.1.length+o'.toList.length∧sr'.1.length≤sr.1.length+1∧m'≤sr.2.1.length+o.toList.length+1∧sr'.2.2.length≤sr.2.2.length+1∧(eC o').length≤(eC o).length+1
theorem lp_lt {M:Nat}{h0:AH}{l5 l5':AH}{a b c:Ent}(hlt : ∀ e∈h0++(l5++[a,b,c]),e.lt (M+8)=true) (hl : ∀ e∈l5',e.lt (M+5)=true) : ∀ e∈h0++(l5'++[a,b,c]),e.lt (M+8)=true:=by
 intro e he
 rcases List.mem_append.1 he with he | he
 ·exact hlt e (List.mem_append_left _ he)
 rcases List.mem_append.1 he with he | he
 ·exact Ent.lt_mono (by omega) (hl e he)
 exact hlt e (List.mem_append_right _ (List.mem_append_right _ he))
theorem Zeb {M:Nat}{h0 h'':AH}{q1 q2 q3 q4 q5 p1 p2 p3 p4 p5 a b c:Ent}{zs:AH}{sr:Src}{o:Option Zon}{r:Option PS}(hM:h0.length=M) (he:h''=h0++(p1::p2::p3::p4::p5::a::b::c::zs)) (hlt : ∀ e∈h0++[q1,q2,q3,q4,q5,a,b,c],e.lt (M+8)=true) (hl : ∀ e∈[p1,p2,p3,p4,p5],e.lt (M+5)=true) (hN:r=none) :
  ∃ y z,h''=y++z∧y.length=M+8∧(∀ e∈y,e.lt (M+8)=true)∧(AE.pan wrA).lt (M+8)=true∧LP M h0 sr o a b c r (.pan wrA) y:=by
 subst hN
 exact ⟨h0++[p1,p2,p3,p4,p5,a,b,c],zs,by rw [he];simp,by simp [hM],lp_lt (l5:=[q1,q2,q3,q4,q5]) (l5':=[p1,p2,p3,p4,p5]) hlt hl,rfl,rfl,_,_,_,_,_,hl,rfl⟩
theorem ZqE {M:Nat}{h0 h'':AH}{q1 q2 q3 q4 q5 a b c:Ent}{zs:AH}{sr sr':Src}{o:Option Zon}(o':Option Zon) {r:Option PS}{q:PS}{m' v1' v2' v3' v4':Nat}(hM:h0.length=M) (he:h''=h0++(stE M sr' o' m' v1' v2' v3' v4' a b c++zs)) (hlt : ∀ e∈h0++[q1,q2,q3,q4,q5,a,b,c],e.lt (M+8)=true) (hS:r=some q)
  (hq1:curS sr' o'=q.1) (hq2:o'.isSome=q.2) (hm:m'=sr'.2.1.length+o'.toList.length) (k1:sr'.1.length≤sr.1.length+1) (k2:m'≤sr.2.1.length+o.toList.length+1) (k3:sr'.2.2.length≤sr.2.2.length+1) (k4:(eC o').length≤(eC o).length+1) :
  ∃ y z,h''=y++z∧y.length=M+8∧(∀ e∈y,e.lt (M+8)=true)∧(AE.ret (.tup [])).lt (M+8)=true∧LP M h0 sr o a b c r (.ret (.tup [])) y:=by
 subst hS
 refine ⟨h0++stE M sr' o' m' v1' v2' v3' v4' a b c,zs,by rw [he];simp,by simp [hM],lp_lt (l5:=[q1,q2,q3,q4,q5]) (l5':=[_,_,_,_,_]) hlt ?_,rfl,rfl,_,_,_,_,_,_,_,rfl,hq1,hq2,hm,k1,k2,k3,k4⟩
 intro e he
 simp only [List.mem_cons,List.not_mem_nil,or_false] at he
 rcases he with rfl | rfl | rfl | rfl | rfl
 ·exact ZcJ
 ·exact Za4 _
 ·exact ZcP
 ·exact Za5 _
 exact Zbj _
theorem Ztb {p:PS}{x:Ln}(h:x.2.1≠p.2):Zch p x=none:=by unfold Zch;rw [if_pos h]
theorem Zeo {p:PS}{x:Ln}(h:ZcU p x.2.2=none):Zch p x=none:=by
 unfold Zch
 split
 ·rfl
 rw [h]
theorem Zd3 {p q:PS}{x:Ln}{l:List ByteArray}(h:ZcU p x.2.2=some (q,l)) (hl:l≠[]):Zch p x=none:=by
 unfold Zch
 split
 ·rfl
 rw [h]
 cases l with
 | nil=>exact absurd rfl hl
 | cons a l=>rfl
theorem ZeM {p q:PS}{x:Ln}(hi:x.2.1=p.2) (h:ZcU p x.2.2=some (q,[])):Zch p x=some q:=by
 unfold Zch
 rw [if_neg (by simp [hi]),h]
theorem bd_era {s:Src}{l l':List ByteArray}{x:Era}(e:rEra l=some (x,l')):ZcU (s,true) l=some (ZbY s x,l'):=by rw [Zow];simp only [ZaN,e,retR]
theorem bd_era0 {s:Src}{l:List ByteArray}(e:rEra l=none):ZcU (s,true) l=none:=by rw [Zow];simp only [ZaN,e]
theorem bd_next0 {s:Src}{l:List ByteArray}(e:Zbf l=none):ZcU (s,false) l=none:=by rw [Zdl];simp only [ZaN,e]
theorem bd_rule {s:Src}{l l1 l2:List ByteArray}{w:ByteArray}{r:Rul}(e1:Zbf l=some (w,l1)) (hw:w=ZeW) (e2:ZgK l1=some (r,l2)):ZcU (s,false) l=some (((s.1++[r],s.2.1,s.2.2),false),l2):=by rw [Zdl];simp only [ZaN,e1,if_pos hw,e2,retR]
theorem bd_rule0 {s:Src}{l l1:List ByteArray}{w:ByteArray}(e1:Zbf l=some (w,l1)) (hw:w=ZeW) (e2:ZgK l1=none):ZcU (s,false) l=none:=by rw [Zdl];simp only [ZaN,e1,if_pos hw,e2]
theorem bd_zone {s:Src}{l l1 l2 l3:List ByteArray}{w nm:ByteArray}{x:Era}(e1:Zbf l=some (w,l1)) (hr:¬w=ZeW) (hw:w=Zfp) (e2:ZcI l1=some (nm,l2)) (e3:rEra l2=some (x,l3)):ZcU (s,false) l=some (((s.1,s.2.1++[(nm,[x])],s.2.2),!ZbP x),l3):=by
 rw [Zdl];simp only [ZaN,e1,if_neg hr,if_pos hw,e2,e3,retR]
 unfold ZbY;rw [Zc3];rfl
theorem bd_zone0 {s:Src}{l l1:List ByteArray}{w:ByteArray}(e1:Zbf l=some (w,l1)) (hr:¬w=ZeW) (hw:w=Zfp) (e2:ZcI l1=none):ZcU (s,false) l=none:=by rw [Zdl];simp only [ZaN,e1,if_neg hr,if_pos hw,e2]
theorem bd_zone1 {s:Src}{l l1 l2:List ByteArray}{w nm:ByteArray}(e1:Zbf l=some (w,l1)) (hr:¬w=ZeW) (hw:w=Zfp) (e2:ZcI l1=some (nm,l2)) (e3:rEra l2=none):ZcU (s,false) l=none:=by rw [Zdl];simp only [ZaN,e1,if_neg hr,if_pos hw,e2,e3]
theorem bd_link {s:Src}{l l1 l2 l3:List ByteArray}{w a b:ByteArray}(e1:Zbf l=some (w,l1)) (hr:¬w=ZeW) (hz:¬w=Zfp) (hw:w=ZgP) (e2:ZcI l1=some (a,l2)) (e3:ZcI l2=some (b,l3)):ZcU (s,false) l=some (((s.1,s.2.1,s.2.2++[(a,b)]),false),l3):=by rw [Zdl];simp only [ZaN,e1,if_neg hr,if_neg hz,if_pos hw,e2,e3,retR]
theorem bd_link0 {s:Src}{l l1:List ByteArray}{w:ByteArray}(e1:Zbf l=some (w,l1)) (hr:¬w=ZeW) (hz:¬w=Zfp) (hw:w=ZgP) (e2:ZcI l1=none):ZcU (s,false) l=none:=by rw [Zdl];simp only [ZaN,e1,if_neg hr,if_neg hz,if_pos hw,e2]
theorem bd_link1 {s:Src}{l l1 l2:List ByteArray}{w a:ByteArray}(e1:Zbf l=some (w,l1)) (hr:¬w=ZeW) (hz:¬w=Zfp) (hw:w=ZgP) (e2:ZcI l1=some (a,l2)) (e3:ZcI l2=none):ZcU (s,false) l=none:=by rw [Zdl];simp only [ZaN,e1,if_neg hr,if_neg hz,if_pos hw,e2,e3]
theorem bd_none {s:Src}{l l1:List ByteArray}{w:ByteArray}(e1:Zbf l=some (w,l1)) (hr:¬w=ZeW) (hz:¬w=Zfp) (hw:¬w=ZgP):ZcU (s,false) l=none:=by rw [Zdl];simp only [ZaN,e1,if_neg hr,if_neg hz,if_neg hw,Zbs]
theorem pera10_e {h0:AH}{M:Nat}(hM:h0.length=M) {R K a b c d:Ent}{v1 v2 v3 v4 n1 n3:Nat}{zs:List Zon}{nm:ByteArray}{es:List Era}{must:Bool}{l:List ByteArray}(ho:okL l) (hz2:zs.length≤200) (he2:es.length≤200) {x:Era}{l':List ByteArray}(e:rEra l=some (x,l')):ACalls Tryz.prog 113 [.ptr (M+0) 0 0,.ptr (M+9) 0 0] (h0++[parE M v1 v2 v3 n1 (zs.length+1) n3 must,R,.mk v2 52 2 (rows zonC zs++[sv nm,.own (M+4) v4 es.length]),K,.mk v4 64 10 (rows eraC es),a,b,c,d,rdE l]) fun y h'=>y=.ret (.tup [])∧h'=h0++[parE M v1 v2 v3 n1 (zs.length+1) n3 (!ZbP x),R,.mk v2 52 2 (rows zonC zs++[sv nm,.own (M+4) (v4+1) (es.length+1)]),K,.mk (v4+1) 64 10 (rows eraC (es++[x])),a,b,c,d,rdE l']:=by
 have:=pera10 (R:=R) (K:=K) (a:=a) (b:=b) (c:=c) (d:=d) hM (v1:=v1) (v2:=v2) (v3:=v3) (v4:=v4) (n1:=n1) (n3:=n3) (nm:=nm) (must:=must) ho hz2 he2
 rw [e] at this
 exact this
theorem pera10_p {h0:AH}{M:Nat}(hM:h0.length=M) {R K a b c d:Ent}{v1 v2 v3 v4 n1 n3:Nat}{zs:List Zon}{nm:ByteArray}{es:List Era}{must:Bool}{l:List ByteArray}(ho:okL l) (hz2:zs.length≤200) (he2:es.length≤200) (e:rEra l=none):ACalls Tryz.prog 113 [.ptr (M+0) 0 0,.ptr (M+9) 0 0] (h0++[parE M v1 v2 v3 n1 (zs.length+1) n3 must,R,.mk v2 52 2 (rows zonC zs++[sv nm,.own (M+4) v4 es.length]),K,.mk v4 64 10 (rows eraC es),a,b,c,d,rdE l]) fun y h'=>y=.pan wrA ∧ ∃ l',h'=h0++[parE M v1 v2 v3 n1 (zs.length+1) n3 must,R,.mk v2 52 2 (rows zonC zs++[sv nm,.own (M+4) v4 es.length]),K,.mk v4 64 10 (rows eraC es),a,b,c,d,rdE l']:=by
 have:=pera10 (R:=R) (K:=K) (a:=a) (b:=b) (c:=c) (d:=d) hM (v1:=v1) (v2:=v2) (v3:=v3) (v4:=v4) (n1:=n1) (n3:=n3) (nm:=nm) (must:=must) ho hz2 he2
 rw [e] at this
 exact this
theorem pera11_e {h0:AH}{M:Nat}(hM:h0.length=M) {R K a b c d e0:Ent}{v1 v2 v3 v4 n1 n3:Nat}{zs:List Zon}{nm:ByteArray}{es:List Era}{must:Bool}{l:List ByteArray}(ho:okL l) (hz2:zs.length≤200) (he2:es.length≤200) {x:Era}{l':List ByteArray}(e:rEra l=some (x,l')):ACalls Tryz.prog 113 [.ptr (M+0) 0 0,.ptr (M+9) 0 0] (h0++[parE M v1 v2 v3 n1 (zs.length+1) n3 must,R,.mk v2 52 2 (rows zonC zs++[sv nm,.own (M+4) v4 es.length]),K,.mk v4 64 10 (rows eraC es),a,b,c,d,rdE l,e0]) fun y h'=>y=.ret (.tup [])∧h'=h0++[parE M v1 v2 v3 n1 (zs.length+1) n3 (!ZbP x),R,.mk v2 52 2 (rows zonC zs++[sv nm,.own (M+4) (v4+1) (es.length+1)]),K,.mk (v4+1) 64 10 (rows eraC (es++[x])),a,b,c,d,rdE l',e0]:=by
 have:=pera11 (R:=R) (K:=K) (a:=a) (b:=b) (c:=c) (d:=d) (e0:=e0) hM (v1:=v1) (v2:=v2) (v3:=v3) (v4:=v4) (n1:=n1) (n3:=n3) (nm:=nm) (must:=must) ho hz2 he2
 rw [e] at this
 exact this
theorem pera11_p {h0:AH}{M:Nat}(hM:h0.length=M) {R K a b c d e0:Ent}{v1 v2 v3 v4 n1 n3:Nat}{zs:List Zon}{nm:ByteArray}{es:List Era}{must:Bool}{l:List ByteArray}(ho:okL l) (hz2:zs.length≤200) (he2:es.length≤200) (e:rEra l=none):ACalls Tryz.prog 113 [.ptr (M+0) 0 0,.ptr (M+9) 0 0] (h0++[parE M v1 v2 v3 n1 (zs.length+1) n3 must,R,.mk v2 52 2 (rows zonC zs++[sv nm,.own (M+4) v4 es.length]),K,.mk v4 64 10 (rows eraC es),a,b,c,d,rdE l,e0]) fun y h'=>y=.pan wrA ∧ ∃ l',h'=h0++[parE M v1 v2 v3 n1 (zs.length+1) n3 must,R,.mk v2 52 2 (rows zonC zs++[sv nm,.own (M+4) v4 es.length]),K,.mk v4 64 10 (rows eraC es),a,b,c,d,rdE l',e0]:=by
 have:=pera11 (R:=R) (K:=K) (a:=a) (b:=b) (c:=c) (d:=d) (e0:=e0) hM (v1:=v1) (v2:=v2) (v3:=v3) (v4:=v4) (n1:=n1) (n3:=n3) (nm:=nm) (must:=must) ho hz2 he2
 rw [e] at this
 exact this
theorem ZmG {h0:AH}{M:Nat}(hM:h0.length=M) {a b c:Ent}{sr:Src}{o:Option Zon}{m v1 v2 v3 v4:Nat}{x:Ln}(hm:m=sr.2.1.length+o.toList.length) (ho:okL x.2.2) (hb1:sr.1.length≤200) (hb2:m≤200) (hb3:sr.2.2.length≤200) (hb4:(eC o).length≤200) (hb5:x.2.2.length≤100000) :
  ACalls Tryz.prog 79 [.ptr (M+0) 0 0,.agg (lnC x)] (h0++[parE M v1 v2 v3 sr.1.length m sr.2.2.length o.isSome,.mk v1 48 11 (rows rulC sr.1),.mk v2 52 2 (rows zonC sr.2.1++zP M v4 o),.mk v3 55 2 (rows lnkC sr.2.2),.mk v4 64 10 (rows eraC (eC o)),a,b,c]) (LP M h0 sr o a b c (Zch (curS sr o,o.isSome) x)):=by
 refine tJ' k79 fun N hn hlt hlA hbd=>?_
 simp only [tb'] at hbd ⊢
 obtain rfl:N=M+8:=by rw [←hn,←hM];simp
 rw [List.append_nil]
 refine wr'<|E' (Zcm (cvl lk rfl) rfl (hl8 hM) ha8) pt<|sn'<|wr'<|V' (Zaa lk) pt<|V' (Zac lk (hga hM rfl) gt2) pt<|V' (ZaB (Zns (cvl lk rfl) rfl)) pt<|E' (Zcm (cvl lk rfl) rfl (hl9 hM) ha9) pt<|mv' lk pt<|sn'<|?_
 refine Zam<|Zam<|ZbJ<|D' (Zaa lk) pt<|D' (Zac lk (hga hM rfl) gt1) pt<|D' (v_mv lk) pt<|D' (ZaD lk) pt<|D' (Zaa lk) pt<|D' (Zac lk (hga hM rfl) gt3) pt<|D' (ZdP lk lk) pt<|Zbt<|?_
 refine Zb4 ?_
 refine sn' ?_
 refine cd' lk (fun hc1=>?_) (fun hc1=>?_)
 ·have hin:x.2.1≠o.isSome:=by simpa using hc1
  refine Zar<|Zay mp0 (ZbO)<|ZaS<|Zba<|?_
  exact Zeb hM rfl hlt (by intro e he;simp only [List.mem_cons,List.not_mem_nil,or_false] at he;rcases he with rfl | rfl | rfl | rfl | rfl <;> first | exact ZcJ | exact Za4 _ | exact Za5 _ | exact Zbj _ | exact ZcP | exact Zc7 (by omega) | exact ZaW (by simp [AV.ltL,AV.lt]) (Za4 _) | exact ZaW (by simp [AV.ltL,AV.lt]) (Za5 _) | exact ZaW (by simp [AV.ltL,AV.lt]) ZcP | exact Zd4 | rfl) (Ztb hin)
 have hin:x.2.1=o.isSome:=by simpa using hc1
 refine Zaf<|Zai<|wr'<|mv' lks pt<|sn'<|Zam<|wr'<|?_
 by_cases hs16:o=none
 ·subst hs16
  obtain rfl:m=sr.2.1.length:=by simpa using hm
  refine mv' lk pt<|V' (ZaD lk) pt<|V' (Zaa lk) pt<|V' (Zac lk (hga hM rfl) gt3) pt<|V' (Zav lk) pt<|sn'<|?_
  refine ZcW lk (by rfl) ?_
  refine Zar<|mv' lk pt<|?_
  by_cases hs22 : ∃ p,Zbf x.2.2=some p
  ·obtain ⟨⟨w,l1⟩,e1⟩:=hs22
   obtain ⟨z1,o1⟩:=Zb8 ho e1
   refine ZaA mp (ZcZ e1 (hga hM rfl)) (hs9 hM) pt<|mv' lk pt<|sn'<|Zam<|Zao<|wr'<|mv' lk pt<|V' (ZaD lk) pt<|V' (Zaa lk) pt<|V' (Zac lk (hga hM rfl) gt3) pt<|mv' lk pt<|Zas<|?_
   refine Zai ?_
   refine ZcD lk (by rfl) ?_
   refine wr'<|mv' lk pt<|V' (Zcj lk lks) pt<|mv' lk pt<|sn'<|?_
   refine cd' lk (fun hc4=>?_) (fun hc4=>?_)
   ·have hwR:w=ZeW:=hc4
    refine wr'<|mv' lk pt<|?_
    by_cases hs36 : ∃ p,ZgK l1=some p
    ·obtain ⟨⟨u,l9⟩,e9⟩:=hs36
     have hB:=bd_rule (s:=curS sr none) e1 hwR e9
     refine ZaA mp (srule_e o1 e9 (hga hM rfl)) (hs9 hM) pt<|E' (Zbq (Zhx hM) Zhy) pt<|E' (Zal lk (cvl lk rfl) (hga hM rfl) rfl (nb' rfl) rfl Znq (Zrh hM)) ptn<|sn'<|ZbJ<|D' (v_mv lk) pt<|D' (v_mv lk) pt<|D' (ZaD lk) pt<|D' (Zaa lk) pt<|D' (Zaa lk) pt<|D' (Zac lk (hga hM rfl) gt0) pt<|D' (Zau lk (hga hM rfl) Znp rfl) pt<|ZqW rfl rfl (hlk hM rfl) (ZqM (ZlS (cvl lk rfl) rfl)) pt Zrg<|?_
     refine Zbt ?_
     refine ZqT Znr ?_
     refine E' (Zej (Zc9 lk (hga hM rfl) rfl ZoR (nb' rfl)) lk (hga hM rfl) (Zhm _) (by omega) rfl (hs1 hM)) pt ?_
     refine V' (ZaD lk) pt<|V' (Zaa lk) pt<|V' (Zaa lk) pt<|E' (Zal lk (cvl lk rfl) (hga hM rfl) rfl (nb' rfl) rfl ZoU (hs0 hM)) ptn<|Zas<|ZaF<|Zai<|wr'<|mv' lk pt<|V' (ZaD lk) pt<|V' (Zaa lk) pt<|V' (Zac lk (hga hM rfl) gt0) pt<|V' (ZaK lk) pt<|?_
     refine V' (ZbN lk lki) pt<|sn'<|?_
     refine cd' lk (fun hc7=>?_) (fun hc7=>?_)
     ·have hN:=Zd3 hB (by intro e;rw [e] at hc7;exact absurd hc7 (by decide))
      refine Zar<|Zay mp0 (ZbO)<|Zba<|?_
      exact Zeb hM rfl hlt (by intro e he;simp only [List.mem_cons,List.not_mem_nil,or_false] at he;rcases he with rfl | rfl | rfl | rfl | rfl <;> first | exact ZcJ | exact Za4 _ | exact Za5 _ | exact Zbj _ | exact ZcP | exact Zc7 (by omega) | exact ZaW (by simp [AV.ltL,AV.lt]) (Za4 _) | exact ZaW (by simp [AV.ltL,AV.lt]) (Za5 _) | exact ZaW (by simp [AV.ltL,AV.lt]) ZcP | exact Zd4 | rfl) hN
     obtain rfl:l9=[]:=List.eq_nil_of_length_eq_zero (by omega)
     have hS:=ZeM hin hB
     refine Zaf<|Zf6 (rs0)<|?_
     exact ZqE none (sr':=(sr.1++[u],sr.2.1,sr.2.2)) (m':=sr.2.1.length) (v1':=v1+1) (v2':=v2) (v3':=v3) (v4':=v4) (zs:=_) hM (by (try simp only [stE,Zbo,Zbv,zP,eC,List.append_nil,List.length_append,List.length_singleton]);rfl) hlt hS (by rfl) (by rfl) (by simp) (by simp) (by simp) (by simp) (by simp [eC])
    have e9:=ZaT hs36
    refine ZaP mp (srule_p o1 e9 (hga hM rfl)) (fun hP_ hPp_=>?_)
    refine ZaS<|ZcQ<|ZaS<|Zba<|?_
    obtain ⟨l9,rfl⟩:=hPp_
    exact Zeb hM (hs9 hM) hlt (by intro e he;simp only [List.mem_cons,List.not_mem_nil,or_false] at he;rcases he with rfl | rfl | rfl | rfl | rfl <;> first | exact ZcJ | exact Za4 _ | exact Za5 _ | exact Zbj _ | exact ZcP | exact Zc7 (by omega) | exact ZaW (by simp [AV.ltL,AV.lt]) (Za4 _) | exact ZaW (by simp [AV.ltL,AV.lt]) (Za5 _) | exact ZaW (by simp [AV.ltL,AV.lt]) ZcP | exact Zd4 | rfl) (Zeo (bd_rule0 e1 hwR e9))
   have hwR:¬w=ZeW:=hc4
   refine wr'<|mv' lk pt<|V' (Zcj lk lks) pt<|mv' lk pt<|sn'<|?_
   refine cd' lk (fun hc5=>?_) (fun hc5=>?_)
   ·have hwZ:w=Zfp:=hc5
    refine wr'<|mv' lk pt<|?_
    by_cases hs56 : ∃ p,ZcI l1=some p
    ·obtain ⟨⟨nm,l2⟩,e2⟩:=hs56
     obtain ⟨z2,o2⟩:=Zlb o1 e2
     refine ZaA mp (ZkV o1 e2 (hga hM rfl)) (hs9 hM) pt<|mv' lk pt<|sn'<|wr'<|mv' lk pt<|mv' lk pt<|V' (ZaD lk) pt<|V' (Zaa lk) pt<|V' (Zaa lk) pt<|V' (Zac lk (hga hM rfl) gt1) pt<|mv' lk pt<|V' (ZaB (ZlR (cvl lk rfl) rfl)) pt<|?_
     refine E' (Zeh (ZlQ (cvl lk rfl) rfl) (Zhx hM) Zhy) pt ?_
     refine E' (Zej (Zc9 lk (hga hM rfl) rfl Zky (nb' rfl)) lk (hga hM rfl) zp_len (by omega) rfl (hs2 hM)) pt ?_
     refine V' (ZaD lk) pt<|V' (Zaa lk) pt<|V' (Zaa lk) pt<|E' (Zal lk (cvl lk rfl) (hga hM rfl) rfl (nb' rfl) rfl ZoT (hs0 hM)) ptn<|Zas<|?_
     refine ZbQ ((ALe.own0CellRe (k:=sr.2.1.length*2+1) (ty2:=64) (st2:=10) (hga hM rfl) (hga hM rfl) (by omega) (zp_at2 rfl) zp_put2 (Eq.trans (congrArg (fun z=>List.set z _ _) (hs4 hM)) (hs2 hM)))) ?_
     refine Zar<|mv' lk pt<|mv' lk pt<|?_
     by_cases hs74 : ∃ p,rEra l2=some p
     ·obtain ⟨⟨u,l9⟩,e9⟩:=hs74
      have hB:=bd_zone (s:=curS sr none) e1 hwR hwZ e2 e9
      refine ZeV mp (pera11_e hM (zs:=sr.2.1) (es:=[]) (nm:=nm) o2 (by omega) (by simp) e9) pt ?_
      refine Zas<|ZaF<|Zai<|wr'<|mv' lk pt<|?_
      by_cases hs99:ZbP u=true
      ·refine V' (ZaD lk) pt<|V' (Zaa lk) pt<|V' (Zac lk (hga hM rfl) gt0) pt<|V' (ZaK lk) pt<|V' (ZbN lk lki) pt<|Zas<|?_
       refine ZbQ ((ALe.iceCellNew (ds:=rows eraC _) (k:=sr.2.1.length*2+1) (ty2:=64) (st2:=10) (hga hM rfl) (hga hM rfl) (by omega) (Zl0 rfl) (List.take_of_length_le (by rw [Ze6];simp)) (by rw [Ze6];simp) ZlY (hs4 hM) (hs2 hM))) ?_
       refine cd' lk (fun hc7=>?_) (fun hc7=>?_)
       ·have hN:=Zd3 hB (by intro e;rw [e] at hc7;exact absurd hc7 (by decide))
        refine Zar<|Zay mp0 (ZbO)<|Zba<|?_
        exact Zeb hM rfl hlt (by intro e he;simp only [List.mem_cons,List.not_mem_nil,or_false] at he;rcases he with rfl | rfl | rfl | rfl | rfl <;> first | exact ZcJ | exact Za4 _ | exact Za5 _ | exact Zbj _ | exact ZcP | exact Zc7 (by omega) | exact ZaW (by simp [AV.ltL,AV.lt]) (Za4 _) | exact ZaW (by simp [AV.ltL,AV.lt]) (Za5 _) | exact ZaW (by simp [AV.ltL,AV.lt]) ZcP | exact Zd4 | rfl) hN
       obtain rfl:l9=[]:=List.eq_nil_of_length_eq_zero (by omega)
       have hS:=ZeM hin hB
       refine Zaf<|Zf6 (rs0)<|?_
       exact ZqE none (sr':=(sr.1,sr.2.1++[(nm,[u])],sr.2.2)) (m':=(sr.2.1.length+1)) (v1':=v1) (v2':=v2+1) (v3':=v3) (v4':=v4+3) (zs:=_) hM (by rw [hs99];simp only [stE,zonC,Zbo,Zbv,zP,eC,List.append_nil,List.nil_append,List.length_append,List.length_singleton];rfl) hlt hS (by rw [ZcL,ZcL]) (by rw [hs99];rfl) (by simp) (by simp) (by simp) (by simp) (by simp [eC])
      refine V' (ZaD lk) pt<|V' (Zaa lk) pt<|V' (Zac lk (hga hM rfl) gt0) pt<|V' (ZaK lk) pt<|V' (ZbN lk lki) pt<|sn'<|?_
      refine cd' lk (fun hc7=>?_) (fun hc7=>?_)
      ·have hN:=Zd3 hB (by intro e;rw [e] at hc7;exact absurd hc7 (by decide))
       refine Zar<|Zay mp0 (ZbO)<|Zba<|?_
       exact Zeb hM rfl hlt (by intro e he;simp only [List.mem_cons,List.not_mem_nil,or_false] at he;rcases he with rfl | rfl | rfl | rfl | rfl <;> first | exact ZcJ | exact Za4 _ | exact Za5 _ | exact Zbj _ | exact ZcP | exact Zc7 (by omega) | exact ZaW (by simp [AV.ltL,AV.lt]) (Za4 _) | exact ZaW (by simp [AV.ltL,AV.lt]) (Za5 _) | exact ZaW (by simp [AV.ltL,AV.lt]) ZcP | exact Zd4 | rfl) hN
      obtain rfl:l9=[]:=List.eq_nil_of_length_eq_zero (by omega)
      have hS:=ZeM hin hB
      refine Zaf<|Zf6 (rs0)<|?_
      exact ZqE (some (nm,[u])) (sr':=sr) (m':=(sr.2.1.length+1)) (v1':=v1) (v2':=v2+1) (v3':=v3) (v4':=v4+2) (zs:=_) hM (by rw [show ZbP u=false by simpa using hs99];simp only [stE,Zbo,Zbv,zP,eC,List.nil_append];rfl) hlt hS (by rw [ZcL];rfl) (by rw [show ZbP u=false by simpa using hs99];rfl) (by simp) (by simp) (by simp) (by simp) (by simp [eC])
     have e9:=ZaT hs74
     refine ZaP mp (pera11_p hM (zs:=sr.2.1) (es:=[]) (nm:=nm) o2 (by omega) (by simp) e9) (fun hP_ hPp_=>?_)
     refine ZcQ<|ZaS<|Zba<|?_
     obtain ⟨l9,rfl⟩:=hPp_
     exact Zeb hM rfl hlt (by intro e he;simp only [List.mem_cons,List.not_mem_nil,or_false] at he;rcases he with rfl | rfl | rfl | rfl | rfl <;> first | exact ZcJ | exact Za4 _ | exact Za5 _ | exact Zbj _ | exact ZcP | exact Zc7 (by omega) | exact ZaW (by simp [AV.ltL,AV.lt]) (Za4 _) | exact ZaW (by simp [AV.ltL,AV.lt]) (Za5 _) | exact ZaW (by simp [AV.ltL,AV.lt]) ZcP | exact Zd4 | rfl) (Zeo (bd_zone1 e1 hwR hwZ e2 e9))
    have e2:=ZaT hs56
    refine ZaP mp (ZkU o1 e2 (hga hM rfl)) (fun hP_ hPp_=>?_)
    refine ZaS<|ZcQ<|ZaS<|Zba<|?_
    obtain ⟨l9,rfl⟩:=hPp_
    exact Zeb hM (hs9 hM) hlt (by intro e he;simp only [List.mem_cons,List.not_mem_nil,or_false] at he;rcases he with rfl | rfl | rfl | rfl | rfl <;> first | exact ZcJ | exact Za4 _ | exact Za5 _ | exact Zbj _ | exact ZcP | exact Zc7 (by omega) | exact ZaW (by simp [AV.ltL,AV.lt]) (Za4 _) | exact ZaW (by simp [AV.ltL,AV.lt]) (Za5 _) | exact ZaW (by simp [AV.ltL,AV.lt]) ZcP | exact Zd4 | rfl) (Zeo (bd_zone0 e1 hwR hwZ e2))
   have hwZ:¬w=Zfp:=hc5
   refine wr'<|mv' lk pt<|V' (Zcj lk lks) pt<|mv' lk pt<|sn'<|?_
   refine cd' lk (fun hc6=>?_) (fun hc6=>?_)
   ·have hwL:w=ZgP:=hc6
    refine wr'<|mv' lk pt<|?_
    by_cases hs79 : ∃ p,ZcI l1=some p
    ·obtain ⟨⟨n1,l2⟩,e2⟩:=hs79
     obtain ⟨z2,o2⟩:=Zlb o1 e2
     refine ZaA mp (ZkV o1 e2 (hga hM rfl)) (hs9 hM) pt<|mv' lk pt<|sn'<|?_
     by_cases hs81 : ∃ p,ZcI l2=some p
     ·obtain ⟨⟨n2,l9⟩,e9⟩:=hs81
      have hB:=bd_link (s:=curS sr none) e1 hwR hwZ hwL e2 e9
      refine w_orl<|Zl8 [M+0]<|D' (v_mv lk) pt<|D' (v_mv lk) pt<|D' (ZaD lk) pt<|D' (Zaa lk) pt<|D' (Zaa lk) pt<|?_
      refine d_ldP lk (hga hM rfl) (ld0 gt) (by simp) pt ?_
      refine D' (v_mv lk) pt<|D' (v_mv lk) pt<|Zbt<|Zof<|?_
      refine Ztj mp (ZkV o2 e9 (hga hM rfl)) (hs9 hM) (by intro i hi;obtain rfl:i=M+0:=(by simpa using hi);first | rfl | exact (hga (k:=0) hM rfl).trans (hga (k:=0) hM rfl).symm) pt ?_
      refine Zln rfl (ZaB (ZlP (cvl lk rfl) rfl (cvl lk rfl) rfl)) pt ?_
      refine Zlo rfl rfl (Zeh (ZlO (cvl lk rfl) rfl) (Zhx hM) Zhy) (by intro i hi;obtain rfl:i=M+0:=(by simpa using hi);first | rfl | exact (hga (k:=0) hM rfl).trans (hga (k:=0) hM rfl).symm) pt ?_
      refine Zlo rfl rfl (Zej (Zc9 lk (hga hM rfl) rfl Zky (nb' rfl)) lk (hga hM rfl) (Zhq _) (by omega) rfl (hs3 hM)) (by intro i hi;simp at hi) pt ?_
      refine Zln rfl (ZaD lk) pt<|Zln rfl (Zaa lk) pt<|Zln rfl (Zaa lk) pt<|?_
      refine Zlo rfl rfl (Zal lk (cvl lk rfl) (hga hM rfl) rfl (nb' rfl) rfl ZoS (hs0 hM)) (by intro i hi;simp at hi) ptn ?_
      refine ZqN<|ZaF<|Zai<|wr'<|mv' lk pt<|V' (ZaD lk) pt<|V' (Zaa lk) pt<|V' (Zac lk (hga hM rfl) gt0) pt<|V' (ZaK lk) pt<|V' (ZbN lk lki) pt<|sn'<|?_
      refine cd' lk (fun hc7=>?_) (fun hc7=>?_)
      ·have hN:=Zd3 hB (by intro e;rw [e] at hc7;exact absurd hc7 (by decide))
       refine Zar<|Zay mp0 (ZbO)<|Zba<|?_
       exact Zeb hM rfl hlt (by intro e he;simp only [List.mem_cons,List.not_mem_nil,or_false] at he;rcases he with rfl | rfl | rfl | rfl | rfl <;> first | exact ZcJ | exact Za4 _ | exact Za5 _ | exact Zbj _ | exact ZcP | exact Zc7 (by omega) | exact ZaW (by simp [AV.ltL,AV.lt]) (Za4 _) | exact ZaW (by simp [AV.ltL,AV.lt]) (Za5 _) | exact ZaW (by simp [AV.ltL,AV.lt]) ZcP | exact Zd4 | rfl) hN
      obtain rfl:l9=[]:=List.eq_nil_of_length_eq_zero (by omega)
      have hS:=ZeM hin hB
      refine Zaf<|Zf6 (rs0)<|?_
      exact ZqE none (sr':=(sr.1,sr.2.1,sr.2.2++[(n1,n2)])) (m':=sr.2.1.length) (v1':=v1) (v2':=v2) (v3':=v3+1) (v4':=v4) (zs:=_) hM (by (try simp only [stE,Zbo,Zbv,zP,eC,List.append_nil,List.length_append,List.length_singleton]);rfl) hlt hS (by rfl) (by rfl) (by simp) (by simp) (by simp) (by simp) (by simp [eC])
     have e9:=ZaT hs81
     refine w_orp (ZkU (id:=M+9) o2 e9 (hga hM rfl)) ?_ (fun _ hP_ hPp_=>?_)
     ·refine D' (v_mv lk) pt<|D' (v_mv lk) pt<|D' (ZaD lk) pt<|D' (Zaa lk) pt<|D' (Zaa lk) pt<|D' (Zac lk (hga hM rfl) gt2) pt<|D' (v_mv lk) pt<|D' (v_mv lk) pt<|D' (v_mv lk) pt<|D' (v_mv lkb) pt<|D' (v_mv lkb) pt<|D' (v_mv lkb) pt<|D' (v_mv lkb) pt<|D' (v_mv lkb) pt<|?_
      refine D' (v_mv lkb) pt<|D' (v_mv lkb) ptn<|Zbt<|?_
      exact ⟨rfl,gt⟩
     refine ZcQ<|ZaS<|Zba<|?_
     obtain ⟨l9,rfl⟩:=hPp_
     exact Zeb hM (hs9 hM) hlt (by intro e he;simp only [List.mem_cons,List.not_mem_nil,or_false] at he;rcases he with rfl | rfl | rfl | rfl | rfl <;> first | exact ZcJ | exact Za4 _ | exact Za5 _ | exact Zbj _ | exact ZcP | exact Zc7 (by omega) | exact ZaW (by simp [AV.ltL,AV.lt]) (Za4 _) | exact ZaW (by simp [AV.ltL,AV.lt]) (Za5 _) | exact ZaW (by simp [AV.ltL,AV.lt]) ZcP | exact Zd4 | rfl) (Zeo (bd_link1 e1 hwR hwZ hwL e2 e9))
    have e2:=ZaT hs79
    refine ZaP mp (ZkU o1 e2 (hga hM rfl)) (fun hP_ hPp_=>?_)
    refine ZaS<|ZcQ<|ZaS<|Zba<|?_
    obtain ⟨l9,rfl⟩:=hPp_
    exact Zeb hM (hs9 hM) hlt (by intro e he;simp only [List.mem_cons,List.not_mem_nil,or_false] at he;rcases he with rfl | rfl | rfl | rfl | rfl <;> first | exact ZcJ | exact Za4 _ | exact Za5 _ | exact Zbj _ | exact ZcP | exact Zc7 (by omega) | exact ZaW (by simp [AV.ltL,AV.lt]) (Za4 _) | exact ZaW (by simp [AV.ltL,AV.lt]) (Za5 _) | exact ZaW (by simp [AV.ltL,AV.lt]) ZcP | exact Zd4 | rfl) (Zeo (bd_link0 e1 hwR hwZ hwL e2))
   have hwL:¬w=ZgP:=hc6
   refine Zar<|Zay mp0 (ZbO)<|ZcQ<|ZaS<|Zba<|?_
   exact Zeb hM rfl hlt (by intro e he;simp only [List.mem_cons,List.not_mem_nil,or_false] at he;rcases he with rfl | rfl | rfl | rfl | rfl <;> first | exact ZcJ | exact Za4 _ | exact Za5 _ | exact Zbj _ | exact ZcP | exact Zc7 (by omega) | exact ZaW (by simp [AV.ltL,AV.lt]) (Za4 _) | exact ZaW (by simp [AV.ltL,AV.lt]) (Za5 _) | exact ZaW (by simp [AV.ltL,AV.lt]) ZcP | exact Zd4 | rfl) (Zeo (bd_none e1 hwR hwZ hwL))
  have e1:=ZaT hs22
  refine ZaP mp (ZcY e1 (hga hM rfl)) (fun hP_ hPp_=>?_)
  refine ZaS<|Zba<|?_
  obtain ⟨l9,rfl⟩:=hPp_
  exact Zeb hM (hs9 hM) hlt (by intro e he;simp only [List.mem_cons,List.not_mem_nil,or_false] at he;rcases he with rfl | rfl | rfl | rfl | rfl <;> first | exact ZcJ | exact Za4 _ | exact Za5 _ | exact Zbj _ | exact ZcP | exact Zc7 (by omega) | exact ZaW (by simp [AV.ltL,AV.lt]) (Za4 _) | exact ZaW (by simp [AV.ltL,AV.lt]) (Za5 _) | exact ZaW (by simp [AV.ltL,AV.lt]) ZcP | exact Zd4 | rfl) (Zeo (bd_next0 e1))
 obtain ⟨z,rfl⟩:=Option.ne_none_iff_exists'.1 hs16
 obtain rfl:m=sr.2.1.length+1:=by simpa using hm
 have hb4':z.2.length≤200:=hb4
 refine mv' lk pt<|V' (ZaD lk) pt<|V' (Zaa lk) pt<|V' (Zac lk (hga hM rfl) gt3) pt<|V' (Zav lk) pt<|sn'<|?_
 refine ZcD lk (by rfl) ?_
 refine Zaf<|Zai<|Zam<|Zao<|wr'<|mv' lk pt<|V' (ZaD lk) pt<|V' (Zaa lk) pt<|V' (Zac lk (hga hM rfl) gt3) pt<|mv' lk pt<|sn'<|?_
 refine ZcW lk (by rfl) ?_
 refine Zar<|mv' lk pt<|mv' lk pt<|?_
 by_cases hs31 : ∃ p,rEra x.2.2=some p
 ·obtain ⟨⟨u,l9⟩,e9⟩:=hs31
  have hB:=bd_era (s:=curS sr (some z)) e9
  have hw:ZbY (curS sr (some z)) u=((sr.1,sr.2.1++[(z.1,z.2++[u])],sr.2.2),!ZbP u):=by unfold ZbY curS;rw [show sr.2.1++(some z).toList=sr.2.1++[z] from rfl,Zc3]
  refine ZeV mp (pera10_e hM (zs:=sr.2.1) (es:=z.2) (nm:=z.1) ho (by omega) hb4' e9) pt ?_
  refine Zas<|ZaF<|Zai<|wr'<|?_
  by_cases hs98:ZbP u=true
  ·refine mv' lk pt<|V' (ZaD lk) pt<|V' (Zaa lk) pt<|V' (Zac lk (hga hM rfl) gt0) pt<|V' (ZaK lk) pt<|V' (ZbN lk lki) pt<|Zas<|?_
   refine ZbQ ((ALe.iceCellNew (ds:=rows eraC _) (k:=sr.2.1.length*2+1) (ty2:=64) (st2:=10) (hga hM rfl) (hga hM rfl) (by omega) (Zl0 rfl) (List.take_of_length_le (by rw [Ze6];simp)) (by rw [Ze6];simp) ZlY (hs4 hM) (hs2 hM))) ?_
   refine cd' lk (fun hc7=>?_) (fun hc7=>?_)
   ·have hN:=Zd3 hB (by intro e;rw [e] at hc7;exact absurd hc7 (by decide))
    refine Zar<|Zay mp0 (ZbO)<|Zba<|?_
    exact Zeb hM rfl hlt (by intro e he;simp only [List.mem_cons,List.not_mem_nil,or_false] at he;rcases he with rfl | rfl | rfl | rfl | rfl <;> first | exact ZcJ | exact Za4 _ | exact Za5 _ | exact Zbj _ | exact ZcP | exact Zc7 (by omega) | exact ZaW (by simp [AV.ltL,AV.lt]) (Za4 _) | exact ZaW (by simp [AV.ltL,AV.lt]) (Za5 _) | exact ZaW (by simp [AV.ltL,AV.lt]) ZcP | exact Zd4 | rfl) hN
   obtain rfl:l9=[]:=List.eq_nil_of_length_eq_zero (by omega)
   have hS:=ZeM hin hB
   refine Zaf<|Zf6 (rs0)<|?_
   exact ZqE none (sr':=(sr.1,sr.2.1++[(z.1,z.2++[u])],sr.2.2)) (m':=(sr.2.1.length+1)) (v1':=v1) (v2':=v2) (v3':=v3) (v4':=v4+2) (zs:=_) hM (by rw [hs98];simp only [stE,zonC,Zbo,Zbv,zP,eC,List.append_nil,List.length_append,List.length_singleton];rfl) hlt hS (by rw [hw,ZcL]) (by rw [hw,hs98];rfl) (by simp) (by simp) (by simp) (by simp) (by simp [eC])
  refine mv' lk pt<|V' (ZaD lk) pt<|V' (Zaa lk) pt<|V' (Zac lk (hga hM rfl) gt0) pt<|V' (ZaK lk) pt<|V' (ZbN lk lki) pt<|sn'<|?_
  refine cd' lk (fun hc7=>?_) (fun hc7=>?_)
  ·have hN:=Zd3 hB (by intro e;rw [e] at hc7;exact absurd hc7 (by decide))
   refine Zar<|Zay mp0 (ZbO)<|Zba<|?_
   exact Zeb hM rfl hlt (by intro e he;simp only [List.mem_cons,List.not_mem_nil,or_false] at he;rcases he with rfl | rfl | rfl | rfl | rfl <;> first | exact ZcJ | exact Za4 _ | exact Za5 _ | exact Zbj _ | exact ZcP | exact Zc7 (by omega) | exact ZaW (by simp [AV.ltL,AV.lt]) (Za4 _) | exact ZaW (by simp [AV.ltL,AV.lt]) (Za5 _) | exact ZaW (by simp [AV.ltL,AV.lt]) ZcP | exact Zd4 | rfl) hN
  obtain rfl:l9=[]:=List.eq_nil_of_length_eq_zero (by omega)
  have hS:=ZeM hin hB
  refine Zaf<|Zf6 (rs0)<|?_
  exact ZqE (some (z.1,z.2++[u])) (sr':=sr) (m':=(sr.2.1.length+1)) (v1':=v1) (v2':=v2) (v3':=v3) (v4':=v4+1) (zs:=_) hM (by rw [show ZbP u=false by simpa using hs98];simp only [stE,Zbo,Zbv,zP,eC,List.length_append,List.length_singleton];rfl) hlt hS (by rw [hw];rfl) (by rw [hw,show ZbP u=false by simpa using hs98];rfl) (by simp) (by simp) (by simp) (by simp) (by simp [eC])
 have e9:=ZaT hs31
 refine ZaP mp (pera10_p hM (zs:=sr.2.1) (es:=z.2) (nm:=z.1) ho (by omega) hb4' e9) (fun hP_ hPp_=>?_)
 refine ZcQ<|ZaS<|Zba<|?_
 obtain ⟨l9,rfl⟩:=hPp_
 exact Zeb hM rfl hlt (by intro e he;simp only [List.mem_cons,List.not_mem_nil,or_false] at he;rcases he with rfl | rfl | rfl | rfl | rfl <;> first | exact ZcJ | exact Za4 _ | exact Za5 _ | exact Zbj _ | exact ZcP | exact Zc7 (by omega) | exact ZaW (by simp [AV.ltL,AV.lt]) (Za4 _) | exact ZaW (by simp [AV.ltL,AV.lt]) (Za5 _) | exact ZaW (by simp [AV.ltL,AV.lt]) ZcP | exact Zd4 | rfl) (Zeo (bd_era0 e9))
end Go.Proofs.YtgjchdhdopgkkaaGreatDoor
end
section
namespace Go.Ab
section
variable {P : Program} {T T' : List AV} {h : AH} {c : AV} {d : Option Nat} {rest : List AOper} {K : List AV → AH → Prop} {Kp : AV → List AV → AH → Prop}
theorem ZnR {ι:Type}{H:ι→AH}{J:ι→Prop}{f:FuncId}{xs:List Operand}{as1:List AV}(hx:xs.map (Zan T)=as1) (hc:ACalls P f as1 h fun r h''=>r=.ret c ∧ ∃ i,J i∧h''=H i) (hp:aPut T d c=T') (hk : ∀ i,J i→arun P Kp rest T' (H i) K):arun P Kp (⟨d,none,.call (.func f) xs⟩::rest) T h K:=by
 subst hp
 refine ZgD hx hc ?_
 rintro r h'' ⟨rfl,i,h1,rfl⟩
 exact hk i h1
end
end Go.Ab
namespace Go.Proofs.YtgjchdhdopgkkaaGreatDoor
open Go.Ab Go.RowKit Civ
section
theorem ZoP {a0 a1 a2:AV}{l:List AV}:((a0::a1::a2::l).drop 0).take 3=[a0,a1,a2]:=rfl
theorem ZoQ {a0 c0:AV}{l:List AV}:setCells (a0::l) 0 [c0]=c0::l:=rfl
end
def c40:AC:=(Sr [Mv 6 0,Oo 7 (.load true 3 (.tmp 3)),Cl 8 79 [(.tmp 6),(.tmp 7)]] (Sr [⟨none,none,(.store 1 (.tmp 4) (.const (.bool true)))⟩] .ret))
abbrev fd40:AFD:=⟨[⟨(some 3),none,(.box 67 3 (.tmp 1))⟩,⟨(some 4),none,(.new 4 1 [(.v (.bool false))])⟩],5,78,[(.tmp 4)],⟨c40,[(.cell 4 false 1)],9⟩⟩
theorem k40:Znc Tryz.prog 40=some fd40:=by kernel_rfl
theorem d40 {a0 a1:AV}{h:AH}{R:AE→AH→Prop}(hw : ∀ n,h.length=n→(∀ e∈h,e.lt n=true)→AV.ltL n [a0,a1]=true→AV.bdL [a0,a1]→arun Tryz.prog (fun c T h=>afterR0 Tryz.prog fd40 R (.pan c) T h) [⟨(some 3),none,(.box 67 3 (.tmp 1))⟩,⟨(some 4),none,(.new 4 1 [(.v (.bool false))])⟩] [a0,a1,.any,.any,.any,.any,.any,.any,.any] (h++[]) (fun T1 h1=>afterR0 Tryz.prog fd40 R .normal T1 h1)):ACalls Tryz.prog 40 [a0,a1] h R:=ACalls.intoD k40 (by kernel_rfl) rfl hw
theorem taWrong (v:Value) (t:TypeId) (w:World):(Instr.typeAssert (.iface 121 v) t 121 true).run Tryz.prog w=.ok (.tuple #[v,.bool true]) w:=by
 simp [Instr.typeAssert,run_underlying Tryz.underlying121]
theorem catchR_p (pj:Addr) (y:Value) (w:World) (h3:w.cell? pj=some y) (h4:w.frozen? pj=false) (hb:pj.block<w.heap.size) :
  CallsD Tryz.prog 78 #[.pointer (some pj)] (.panicking [{ v:=.iface 121 (.agg #[]),recovered:=false }]) w fun e' u' w' =>
   e'=.returned (.tuple #[])∧u'=.panicking [{ v:=.iface 121 (.agg #[]),recovered:=true }] ∧ ∃ bl,w'=(w.alloc bl).setCell pj (.bool false):=by
 refine callsD_of_wpS Tryz.func78 rfl fun c₀ cs hu=>?_
 apply wpS_seq
 apply wpS_region
 simp [wpOpsS,go_sem,recoverD,hu,Tryz.ntmps78,Exit.thenS]
 apply wpS_seq
 apply wpS_region
 simp [wpOpsS,go_sem,Exit.thenS]
 refine wpS_cond (t:=true) (by simp [Act.eval,Array.replicate]) ?_
 simp only [if_true]
 apply wpS_seq
 apply wpS_seq
 apply wpS_region
 simp [wpOpsS,go_sem,Exit.thenS,taWrong]
 apply wpS_seq
 apply wpS_region
 simp [wpOpsS,go_sem,Exit.thenS]
 refine wpS_cond (t:=false) (by simp [Act.eval,Act.put,Array.replicate]) ?_
 simp only [if_false,Bool.false_eq_true]
 refine wpS_of_wp (wp_skip ?_)
 show Code.wpS _ _ _ _ _ _
 apply wpS_region
 have c1:(w.alloc (Obj.cells #[] 121)).cell? pj=some y:=by rw [World.cell?_alloc_lt _ _ _ hb];exact h3
 have c2:(w.alloc (Obj.cells #[] 121)).frozen? pj=false:=by rw [frozen?_alloc_cells];exact h4
 simp [wpOpsS,go_sem,c1,c2,bodyPostS,results,Tryz.results78]
 exact ⟨_,rfl⟩
theorem catchR_r (pj:Addr) (w:World) :
  CallsD Tryz.prog 78 #[.pointer (some pj)] .returning w fun e' u' w'=>e'=.returned (.tuple #[])∧u'=.returning∧w'=w:=by
 refine callsD_of_wpS Tryz.func78 rfl fun c₀ cs hu=>?_
 apply wpS_seq
 apply wpS_region
 simp [wpOpsS,go_sem,recoverD,hu,Tryz.ntmps78,Exit.thenS]
 apply wpS_seq
 apply wpS_region
 simp [wpOpsS,go_sem,Exit.thenS]
 refine wpS_cond (t:=false) (by simp [Act.eval,Array.replicate]) ?_
 simp only [if_false,Bool.false_eq_true]
 refine wpS_of_wp (wp_skip ?_)
 cases c₀
 simp_all [bodyPostS,results,Tryz.results78]
theorem adefR_r {j:Nat}{h:AH}{R:AH→Prop}(hR:R h):ADef Tryz.prog 78 [.ptr j 0 0] none h R:=by
 intro w g vs hs hr
 simp only [RepL,Rep] at hr
 obtain ⟨u1,us1,e1,⟨b1,c1,l1,rfl⟩,rfl⟩:=hr
 obtain rfl:vs = #[.pointer (some ⟨b1,0,none⟩)]:=by cases vs;simp_all
 refine (catchR_r _ w).mono ?_
 rintro e u' w' ⟨rfl,rfl,rfl⟩
 exact ⟨⟨_,rfl⟩,rfl,h,g,hs,Gh.le.refl g,Fr.refl _ _,fun k hk=>.inl hk,hR⟩
theorem ha_old (w:World) (o:Obj) {k:Nat}(h:k<w.heap.size):(w.alloc o).heap[k]?=w.heap[k]?:=by
 show (w.heap.push o)[k]?=_
 rw [Array.getElem?_push_lt h,Array.getElem?_eq_getElem h]
theorem Zto (w:World) (o:Obj):w.heap.size≤(w.alloc o).heap.size:=by
 show _≤(w.heap.push o).size
 simp
theorem Ztn (w:World) (a:Addr) (v:Value):(w.setCell a v).heap.size=w.heap.size:=by simp [World.setCell]
theorem adefR_p {j tj:Nat}{cj:AV}{h:AH}{R:AH→Prop}(hj:h[j]?=some (.mk 0 tj 1 [cj])) (hR:R (h.set j (.mk 0 tj 1 [bv false]))):ADef Tryz.prog 78 [.ptr j 0 0] (some wrA) h R:=by
 intro w g vs hs hr v hv
 simp only [RepL,Rep] at hr hv
 subst hv
 obtain ⟨u1,us1,e1,⟨b2,c2,l2,rfl⟩,rfl⟩:=hr
 obtain rfl:vs = #[.pointer (some ⟨b2,0,none⟩)]:=by cases vs;simp_all
 obtain ⟨_,n2,f2,o2⟩:=hs.store hj l2 (k:=0) (c:=bv false) (u:=.bool false) (by simp) (by simp only [Rep])
 obtain ⟨x2,hx2⟩:=Option.ne_none_iff_exists'.1 n2
 have hb:=(hs.own_not_D ⟨j,o2⟩).2
 refine (catchR_p ⟨b2,0,none⟩ x2 w hx2 f2 hb).mono ?_
 rintro e' u' w' ⟨rfl,rfl,bl,rfl⟩
 have hold : ∀ k,k<w.heap.size→(w.alloc bl).heap[k]?=w.heap[k]?:=fun k hk=>ha_old w _ hk
 have hs1:SimH (w.alloc bl) g h:=hs.world (fun k hk=>hold k (by
  rcases hk with hk | hk
  ·exact hs.lt k hk
  exact (hs.own_not_D hk).2)) (Zto w bl)
 obtain ⟨s2,_,_,_⟩:=hs1.store hj l2 (k:=0) (c:=bv false) (u:=.bool false) (by simp) (by simp only [Rep])
 refine ⟨⟨_,rfl⟩,⟨_,rfl⟩,_,g,s2,Gh.le.refl g,⟨rfl,rfl,rfl,by rw [Ztn];exact Zto w bl,?_⟩,?_,hR⟩
 ·intro k hk ho
  rw [heap_setCell_other _ _ _ _ (fun e=>ho ⟨j,by simpa [e] using o2⟩)]
  exact hold k hk
 rintro k ⟨m,v,ty,s,c,b,cap,q1,q2,q3,q4⟩
 refine .inl ?_
 by_cases hm:m=j
 ·subst hm
  rw [List.getElem?_set_self (List.getElem?_eq_some_iff.1 hj).1] at q1
  cases q1
  exact ⟨m,_,_,_,_,b,cap,hj,q2,q3,q4⟩
 rw [List.getElem?_set_ne (Ne.symm hm)] at q1
 exact ⟨m,v,ty,s,c,b,cap,q1,q2,q3,q4⟩
abbrev SI:=Src×Option Zon×Nat×Nat×Nat×Nat×Nat
def JP (sr:Src) (o:Option Zon) (q:PS) (i:SI):Prop:=curS i.1 i.2.1=q.1∧i.2.1.isSome=q.2∧i.2.2.1=i.1.2.1.length+i.2.1.toList.length∧i.1.1.length≤sr.1.length+1∧i.2.2.1≤sr.2.1.length+o.toList.length+1∧i.1.2.2.length≤sr.2.2.length+1∧(eC i.2.1).length≤(eC o).length+1
theorem pline_e {h0:AH}{M:Nat}(hM:h0.length=M) {a b c:Ent}{sr:Src}{o:Option Zon}{m v1 v2 v3 v4:Nat}{x:Ln}{q:PS}(hm:m=sr.2.1.length+o.toList.length) (ho:okL x.2.2) (hb1:sr.1.length≤200) (hb2:m≤200) (hb3:sr.2.2.length≤200) (hb4:(eC o).length≤200) (hb5:x.2.2.length≤100000) (e:Zch (curS sr o,o.isSome) x=some q) :
  ACalls Tryz.prog 79 [.ptr (M+0) 0 0,.agg (lnC x)] (h0++stE M sr o m v1 v2 v3 v4 a b c) fun y h'=>y=.ret (.tup []) ∧ ∃ i:SI,JP sr o q i∧h'=h0++stE M i.1 i.2.1 i.2.2.1 i.2.2.2.1 i.2.2.2.2.1 i.2.2.2.2.2.1 i.2.2.2.2.2.2 a b c:=by
 have:=ZmG (a:=a) (b:=b) (c:=c) (v1:=v1) (v2:=v2) (v3:=v3) (v4:=v4) hM hm ho hb1 hb2 hb3 hb4 hb5
 rw [e] at this
 refine this.mono ?_
 rintro y h' ⟨rfl,sr',o',m',w1,w2,w3,w4,k1,k2⟩
 exact ⟨rfl,⟨sr',o',m',w1,w2,w3,w4⟩,k2,k1⟩
theorem pline_p {h0:AH}{M:Nat}(hM:h0.length=M) {a b c:Ent}{sr:Src}{o:Option Zon}{m v1 v2 v3 v4:Nat}{x:Ln}(hm:m=sr.2.1.length+o.toList.length) (ho:okL x.2.2) (hb1:sr.1.length≤200) (hb2:m≤200) (hb3:sr.2.2.length≤200) (hb4:(eC o).length≤200) (hb5:x.2.2.length≤100000) (e:Zch (curS sr o,o.isSome) x=none) :
  ACalls Tryz.prog 79 [.ptr (M+0) 0 0,.agg (lnC x)] (h0++stE M sr o m v1 v2 v3 v4 a b c) fun y h'=>y=.pan wrA ∧ ∃ p1 p2 p3 p4 p5:Ent,(∀ e∈[p1,p2,p3,p4,p5],e.lt (M+5)=true)∧h'=h0++[p1,p2,p3,p4,p5,a,b,c]:=by
 have:=ZmG (a:=a) (b:=b) (c:=c) (v1:=v1) (v2:=v2) (v3:=v3) (v4:=v4) hM hm ho hb1 hb2 hb3 hb4 hb5
 rw [e] at this
 exact this
abbrev stR (M:Nat) (sr:Src) (o:Option Zon) (m v1 v2 v3 v4:Nat) (a:Ent):AH:=[parE M v1 v2 v3 sr.1.length m sr.2.2.length o.isSome,.mk v1 48 11 (rows rulC sr.1),.mk v2 52 2 (rows zonC sr.2.1++zP M v4 o),.mk v3 55 2 (rows lnkC sr.2.2),.mk v4 64 10 (rows eraC (eC o)),a]
def RP (M:Nat) (h0:AH) (sr:Src) (o:Option Zon) (a:Ent) (r:Option PS) (y:AE) (h':AH):Prop:=match r with
 | none=>y=.ret (bv false) ∧ ∃ p:Ent×Ent×Ent×Ent×Ent,(∀ e∈[p.1,p.2.1,p.2.2.1,p.2.2.2.1,p.2.2.2.2],e.lt (M+5)=true)∧h'=h0++[p.1,p.2.1,p.2.2.1,p.2.2.2.1,p.2.2.2.2,a]
 | some q=>y=.ret (bv true) ∧ ∃ i:SI,JP sr o q i∧h'=h0++stR M i.1 i.2.1 i.2.2.1 i.2.2.2.1 i.2.2.2.2.1 i.2.2.2.2.2.1 i.2.2.2.2.2.2 a
theorem rp_lt {M L:Nat}{h0:AH}{l5 l5':AH}{a:Ent}(hL:L=M+6) (hlt : ∀ e∈h0++(l5++[a]),e.lt (M+6)=true) (hl : ∀ e∈l5',e.lt (M+5)=true) : ∀ e∈h0++(l5'++[a]),e.lt L=true:=by
 subst hL
 intro e he
 rcases List.mem_append.1 he with he | he
 ·exact hlt e (List.mem_append_left _ he)
 rcases List.mem_append.1 he with he | he
 ·exact Ent.lt_mono (by omega) (hl e he)
 exact hlt e (List.mem_append_right _ (List.mem_append_right _ he))
theorem rp_pan {M L:Nat}{h0 h'':AH}{q1 q2 q3 q4 q5 p1 p2 p3 p4 p5 a:Ent}{zs:AH}{sr:Src}{o:Option Zon}{r:Option PS}(hM:h0.length=M) (hL:L=M+6) (he:h''=h0++(p1::p2::p3::p4::p5::a::zs)) (hlt : ∀ e∈h0++[q1,q2,q3,q4,q5,a],e.lt (M+6)=true) (hl : ∀ e∈[p1,p2,p3,p4,p5],e.lt (M+5)=true) (hN:r=none) :
  ∃ y z,h''=y++z∧y.length=L∧(∀ e∈y,e.lt L=true)∧(AE.ret (bv false)).lt L=true∧RP M h0 sr o a r (.ret (bv false)) y:=by
 subst hN
 exact ⟨h0++[p1,p2,p3,p4,p5,a],zs,by rw [he];simp,by simp [hM,hL],rp_lt (l5:=[q1,q2,q3,q4,q5]) (l5':=[p1,p2,p3,p4,p5]) hL hlt hl,rfl,rfl,(p1,p2,p3,p4,p5),hl,rfl⟩
theorem rp_ok {M L:Nat}{h0 h'':AH}{q1 q2 q3 q4 q5 a:Ent}{zs:AH}{sr sr':Src}{o o':Option Zon}{r:Option PS}{q:PS}{m' v1' v2' v3' v4':Nat}(hM:h0.length=M) (hL:L=M+6) (he:h''=h0++(stR M sr' o' m' v1' v2' v3' v4' a++zs)) (hlt : ∀ e∈h0++[q1,q2,q3,q4,q5,a],e.lt (M+6)=true) (hS:r=some q) (hJ:JP sr o q (sr',o',m',v1',v2',v3',v4')) :
  ∃ y z,h''=y++z∧y.length=L∧(∀ e∈y,e.lt L=true)∧(AE.ret (bv true)).lt L=true∧RP M h0 sr o a r (.ret (bv true)) y:=by
 subst hS
 refine ⟨h0++stR M sr' o' m' v1' v2' v3' v4' a,zs,by rw [he];simp,by simp [hM,hL],rp_lt (l5:=[q1,q2,q3,q4,q5]) (l5':=[_,_,_,_,_]) hL hlt ?_,rfl,rfl,_,hJ,rfl⟩
 intro e he
 simp only [List.mem_cons,List.not_mem_nil,or_false] at he
 rcases he with rfl | rfl | rfl | rfl | rfl
 ·exact ZcJ
 ·exact Za4 _
 ·exact ZcP
 ·exact Za5 _
 exact Zbj _
theorem ZmF {h0:AH}{M:Nat}(hM:h0.length=M) {a:Ent}{sr:Src}{o:Option Zon}{m v1 v2 v3 v4:Nat}{x:Ln}(hm:m=sr.2.1.length+o.toList.length) (ho:okL x.2.2) (hb1:sr.1.length≤200) (hb2:m≤200) (hb3:sr.2.2.length≤200) (hb4:(eC o).length≤200) (hb5:x.2.2.length≤100000) :
  ACalls Tryz.prog 40 [.ptr (M+0) 0 0,.agg (lnC x)] (h0++[parE M v1 v2 v3 sr.1.length m sr.2.2.length o.isSome,.mk v1 48 11 (rows rulC sr.1),.mk v2 52 2 (rows zonC sr.2.1++zP M v4 o),.mk v3 55 2 (rows lnkC sr.2.2),.mk v4 64 10 (rows eraC (eC o)),a]) (RP M h0 sr o a (Zch (curS sr o,o.isSome) x)):=by
 refine ACalls.gc (d40 ?_)
 intro N hn hlt hlA hbd
 try simp only [AV.bdL,AV.bd,and_true,true_and] at hbd
 obtain rfl:N=M+6:=by rw [←hn,←hM];simp
 rw [List.append_nil]
 refine E' (Zcm (cvl lk rfl) rfl (hl6 hM) ha6) pt<|E' (Zbq (hl7 hM) ha7) pt<|Zas<|?_
 refine afterR0.mk (nb' rfl) pt mp (hl8 hM) (fun M hM=>?_)
 subst hM
 refine wr'<|mv' lk pt<|V' (Zau lk (hga hM rfl) ZoP rfl) pt<|?_
 by_cases hs3 : ∃ q,Zch (curS sr o,o.isSome) x=some q
 ·obtain ⟨q,eq⟩:=hs3
  refine ZnR mp (pline_e hM hm ho hb1 hb2 hb3 hb4 hb5 eq) pt ?_
  rintro ⟨sr',o',m',w1,w2,w3,w4⟩ hJ
  dsimp only [stE]
  refine sn'<|wr'<|E' (Zal lk (cvl lkb rfl) (hga hM rfl) rfl (nb' rfl) rfl ZoQ (hs7 hM)) ptn<|sn'<|Zab<|?_
  refine Zqb (adefR_r ⟨_,rs1 (rr_c gt (hga hM rfl) (ld0 gt)),?_⟩)
  exact rp_ok hM (by simp [hM]) rfl hlt eq hJ
 have eq:Zch (curS sr o,o.isSome) x=none:=by cases h9:Zch (curS sr o,o.isSome) x with | none=>rfl | some q=>exact absurd ⟨q,h9⟩ hs3
 refine ZaP mp (pline_p hM hm ho hb1 hb2 hb3 hb4 hb5 eq) (fun hP_ hPp_=>?_)
 refine ZaS ?_
 obtain ⟨p1,p2,p3,p4,p5,hpl,rfl⟩:=hPp_
 refine Zib (adefR_p (hga hM rfl) ?_)
 rw [hs7 hM]
 exact ⟨_,rs1 (rr_c gt (hga hM rfl) (ld0 gt)),rp_pan hM (by simp [hM]) rfl hlt hpl eq⟩
end Go.Proofs.YtgjchdhdopgkkaaGreatDoor
end
section
namespace Go.Proofs.YtgjchdhdopgkkaaGreatDoor
open Go.Ab Go.RowKit Civ
attribute [local simp] Za4 Zbj Zca Za5 Zbd Zdi Zhe
section
theorem Zjf {τ:Operand→AV}:Zat τ [] [(.sl 0 0 true []),(.sl 0 0 true []),(.sl 0 0 true [])]=some [(.sl 0 0 true []),(.sl 0 0 true []),(.sl 0 0 true [])]:=rfl
theorem Zbc {a0 a1 a2 c0 c1 c2:AV}{l:List AV}:setCells (a0::a1::a2::l) 0 [c0,c1,c2]=c0::c1::c2::l:=rfl
theorem Za3 {a0 a1 a2:AV}{l:List AV}:((a0::a1::a2::l).drop 0).take 3=[a0,a1,a2]:=rfl
theorem Zje {τ:Operand→AV}{y0:Operand}{x0_0:AV}(h0:Zap (τ y0)=some [x0_0]) (l0:[x0_0].all leaf=true):Zat τ [(0,1,y0)] [(.sl 0 0 true []),(.v (.bool false))]=some [x0_0,(.v (.bool false))]:=by
 simp only [Zat,h0,l0]
 rfl
theorem Zkn {a0 a1 c0 c1:AV}{l:List AV}:setCells (a0::a1::l) 0 [c0,c1]=c0::c1::l:=rfl
theorem Zjc {τ:Operand→AV}{y0:Operand}{x0_0 x0_1 x0_2 x0_3 x0_4 x0_5 x0_6 x0_7 x0_8 x0_9 x0_10:AV}(h0:Zap (τ y0)=some [x0_0,x0_1,x0_2,x0_3,x0_4,x0_5,x0_6,x0_7,x0_8,x0_9,x0_10]) (l0:[x0_0,x0_1,x0_2,x0_3,x0_4,x0_5,x0_6,x0_7,x0_8,x0_9,x0_10].all leaf=true):Zat τ [(0,11,y0)] [(.v (.string ⟨#[]⟩)),(.v (.int .i64 0)),(.v (.int .i64 0)),(.v (.int .i64 0)),(.v (.int .i64 0)),(.v (.int .i64 0)),(.v (.int .i64 0)),(.v (.int .i64 0)),(.v (.int .i64 0)),(.v (.int .i64 0)),(.v (.string ⟨#[]⟩))]=some [x0_0,x0_1,x0_2,x0_3,x0_4,x0_5,x0_6,x0_7,x0_8,x0_9,x0_10]:=by
 simp only [Zat,h0,l0]
 rfl
theorem Zq5 {a0 a1 a2 a3 a4 a5 a6 a7 a8 a9 a10:AV}{l:List AV}:(a0::a1::a2::a3::a4::a5::a6::a7::a8::a9::a10::l).take 11=[a0,a1,a2,a3,a4,a5,a6,a7,a8,a9,a10]:=rfl
theorem Zko {a0 c0:AV}{l:List AV}:setCells (a0::l) 0 [c0]=c0::l:=rfl
theorem ZaM {τ:Operand→AV}:Zat τ [] [(.sl 0 0 true []),(.sl 0 0 true []),(.sl 0 0 true [])]=some [(.sl 0 0 true []),(.sl 0 0 true []),(.sl 0 0 true [])]:=rfl
theorem Zjb {τ:Operand→AV}{y0:Operand}{x0_0:AV}(h0:Zap (τ y0)=some [x0_0]) (l0:[x0_0].all leaf=true):Zat τ [(0,1,y0)] [(.v (.string ⟨#[]⟩)),(.sl 0 0 true [])]=some [x0_0,(.sl 0 0 true [])]:=by
 simp only [Zat,h0,l0]
 rfl
theorem Zi9 {a0 a1 a2 a3 a4 a5 a6 a7 a8 a9 c0 c1 c2 c3 c4 c5 c6 c7 c8 c9:AV}{l:List AV}:setCells (a0::a1::a2::a3::a4::a5::a6::a7::a8::a9::l) 0 [c0,c1,c2,c3,c4,c5,c6,c7,c8,c9]=c0::c1::c2::c3::c4::c5::c6::c7::c8::c9::l:=rfl
theorem Zi8 {a0 a1 a2 a3 a4 a5 a6 a7 a8 a9:AV}{l:List AV}:((a0::a1::a2::a3::a4::a5::a6::a7::a8::a9::l).drop 0).take 10=[a0,a1,a2,a3,a4,a5,a6,a7,a8,a9]:=rfl
theorem Zja {τ:Operand→AV}{y0:Operand}{x0_0 x0_1 x0_2 x0_3 x0_4 x0_5 x0_6 x0_7 x0_8 x0_9:AV}(h0:Zap (τ y0)=some [x0_0,x0_1,x0_2,x0_3,x0_4,x0_5,x0_6,x0_7,x0_8,x0_9]) (l0:[x0_0,x0_1,x0_2,x0_3,x0_4,x0_5,x0_6,x0_7,x0_8,x0_9].all leaf=true):Zat τ [(0,10,y0)] [(.v (.int .i64 0)),(.v (.string ⟨#[]⟩)),(.v (.int .i64 0)),(.v (.string ⟨#[]⟩)),(.v (.bool false)),(.v (.int .i64 0)),(.v (.int .i64 0)),(.v (.int .i64 0)),(.v (.int .i64 0)),(.v (.int .i64 0))]=some [x0_0,x0_1,x0_2,x0_3,x0_4,x0_5,x0_6,x0_7,x0_8,x0_9]:=by
 simp only [Zat,h0,l0]
 rfl
theorem Zkl {a0 a1 a2 a3 a4 a5 a6 a7 a8 a9:AV}{l:List AV}:(a0::a1::a2::a3::a4::a5::a6::a7::a8::a9::l).take 10=[a0,a1,a2,a3,a4,a5,a6,a7,a8,a9]:=rfl
theorem Zf0 {a0 a1 c0:AV}{l:List AV}:setCells (a0::a1::l) 1 [c0]=a0::c0::l:=rfl
theorem Zkm {a0 a1:AV}{l:List AV}:((a0::a1::l).drop 0).take 2=[a0,a1]:=rfl
theorem ZhZ {τ:Operand→AV}{y0:Operand}{x0_0 x0_1:AV}(h0:Zap (τ y0)=some [x0_0,x0_1]) (l0:[x0_0,x0_1].all leaf=true):Zat τ [(0,2,y0)] [(.v (.string ⟨#[]⟩)),(.sl 0 0 true [])]=some [x0_0,x0_1]:=by
 simp only [Zat,h0,l0]
 rfl
theorem Zt2 {h:AH}{n:Nat}(hn:h.length=n) {e0 e1 e2 e3 e4 e5 e6 e7 e8 e9:Ent}:(h++[e0,e1,e2,e3,e4,e5,e6,e7,e8,e9]).length=n+10:=by subst hn;simp
theorem Zt3 {h:AH}{e0 e1 e2 e3 e4 e5 e6 e7 e8 e9 e:Ent}:(h++[e0,e1,e2,e3,e4,e5,e6,e7,e8,e9])++[e]=h++[e0,e1,e2,e3,e4,e5,e6,e7,e8,e9,e]:=by simp
theorem Znj {a0 a1:AV}{l:List AV}:(a0::a1::l).take 2=[a0,a1]:=rfl
theorem ZhY {τ:Operand→AV}{y0:Operand}{x0_0 x0_1:AV}(h0:Zap (τ y0)=some [x0_0,x0_1]) (l0:[x0_0,x0_1].all leaf=true):Zat τ [(0,2,y0)] [(.v (.string ⟨#[]⟩)),(.v (.string ⟨#[]⟩))]=some [x0_0,x0_1]:=by
 simp only [Zat,h0,l0]
 rfl
theorem Zq6 {a0 a1 a2 c0:AV}{l:List AV}:setCells (a0::a1::a2::l) 2 [c0]=a0::a1::c0::l:=rfl
theorem Zjd {τ:Operand→AV}{y0:Operand}{x0_0 x0_1 x0_2 x0_3 x0_4 x0_5 x0_6 x0_7 x0_8 x0_9:AV}(h0:Zap (τ y0)=some [x0_0,x0_1,x0_2,x0_3,x0_4,x0_5,x0_6,x0_7,x0_8,x0_9]) (l0:[x0_0,x0_1,x0_2,x0_3,x0_4,x0_5,x0_6,x0_7,x0_8,x0_9].all leaf=true):Zat τ [(0,10,y0)] [(.v (.int .i64 0)),(.v (.string ⟨#[]⟩)),(.v (.int .i64 0)),(.v (.string ⟨#[]⟩)),(.v (.bool false)),(.v (.int .i64 0)),(.v (.int .i64 0)),(.v (.int .i64 0)),(.v (.int .i64 0)),(.v (.int .i64 0))]=some [x0_0,x0_1,x0_2,x0_3,x0_4,x0_5,x0_6,x0_7,x0_8,x0_9]:=by
 simp only [Zat,h0,l0]
 rfl
theorem Zt1 { e:Ent}:([]:AH)++[e]=[e]:=rfl
theorem Zq7 {e0 e1 e2 e3 e4 e5 e6 e7 d0:Ent}:([e0,e1,e2,e3,e4,e5,e6,e7]:AH)++[d0]=[e0,e1,e2,e3,e4,e5,e6,e7,d0]:=rfl
theorem ZhX {τ:Operand→AV}:Zat τ [] [(.sl 0 0 true []),(.sl 0 0 true []),(.sl 0 0 true [])]=some [(.sl 0 0 true []),(.sl 0 0 true []),(.sl 0 0 true [])]:=rfl
theorem ZhW {τ:Operand→AV}:Zat τ [] [(.sl 0 0 true []),(.sl 0 0 true []),(.sl 0 0 true [])]=some [(.sl 0 0 true []),(.sl 0 0 true []),(.sl 0 0 true [])]:=rfl
end
def c19:AC:=(Sr [Oo 2 (.new 26 3 [(.sl 0 0 true []),(.sl 0 0 true []),(.sl 0 0 true [])]),Mc 3 0,Mc 4 0] (Sr [Mv 20 0,Cl 21 48 [(.tmp 20)],Mv 19 21,Ex 22 19 0,Ex 23 19 1,Ex 24 19 2,Mv 5 22,Mv 6 23,Mv 7 24] (.seq (Sr [Mv 25 7,Bc 26 .neq 25 0] (Cd 26 (Sr [Oo 27 (.build [(.sl 0 0 true []),(.sl 0 0 true []),(.sl 0 0 true [])] []),Mv 28 6,Mv 29 7,⟨none,none,(.store 3 (.tmp 2) (.tmp 27))⟩,Mv 3 28,Mv 4 29] .ret) .skip)) (Sr [Oo 8 (.new 26 3 [(.sl 0 0 true []),(.sl 0 0 true []),(.sl 0 0 true [])])] (Sr [Mb 9 false] (.seq (Sr [Mc 10 0] (.block 0 (.loop (.seq (Sr [Mv 30 10,Mv 31 5,Oo 32 (.len false (.tmp 31)),Bn 33 .lss 30 32] (Cd 33 .skip (.exit 0))) (.seq (.block 1 (Sr [Mv 36 5,Mv 37 10,Oo 38 (.ia 3 (.tmp 36) (.tmp 37)),Fa 39 2 38,Ld 40 39,Oo 41 (.build [(.sl 0 0 true []),(.v (.bool false))] [(0,(1,(.tmp 40)))]),Oo 11 (.new 90 2 [(.sl 0 0 true []),(.v (.bool false))]),⟨none,none,(.store 2 (.tmp 11) (.tmp 41))⟩] (Sr [Mv 42 9,Mv 12 42] (Sr [Ms 13] (.seq (Sr [Mv 43 9,Oo 44 (.un .not (.tmp 43))] (Cd 44 (.reg [Cl 45 49 [(.tmp 11)],Mv 13 45]) .skip)) (.seq (.block 2 (Sr [Mv 48 9,Mv 47 48] (Cd 47 (Sr [Fa 49 1 8,Ld 50 49,Oo 51 (.len false (.tmp 50)),Bc 52 .sub 51 1,Mv 14 52] (Sr [Cl 53 50 [(.tmp 11)],Oo 15 (.new 64 10 [(iv 0),Ss,(iv 0),Ss,(.v (.bool false)),(iv 0),(iv 0),(iv 0),(iv 0),(iv 0)]),⟨none,none,(.store 10 (.tmp 15) (.tmp 53))⟩] (.seq (.drw [Fa 54 1 8,Oo 55 (.loadR false 1 (.tmp 54)),Mv 56 14,Fa 57 1 8,Ld 58 57,Mv 59 14,Oo 60 (.ia 2 (.tmp 58) (.tmp 59)),Fa 61 1 60,Ld 62 61,Oo 63 (.load true 10 (.tmp 15)),Oo 64 (.lit 64 10 1 [(iv 0),Ss,(iv 0),Ss,(.v (.bool false)),(iv 0),(iv 0),(iv 0),(iv 0),(iv 0)] [(0,(10,(.tmp 63)))])] [true,false,false,false] [Oo 65 (.app 64 10 96 (.tmp 62) (.tmp 64)),Oo 66 (.ia 2 (.tmp 55) (.tmp 56)),Fa 67 1 66,Sc 67 65]) (.reg [Fa 68 4 15,Ld 69 68,Oo 70 (.un .not (.tmp 69)),Mv 9 70])))) (Sr [Mv 72 13,Oo 73 (.bin .eql (.tmp 72) (.const (.string ⟨#[82,117,108,101]⟩))),Mv 71 73] (Cd 71 (.orPan (.drw [Fa 74 0 8,Oo 75 (.loadR false 1 (.tmp 74))] [true,true,false,false,false] [Cl 76 51 [(.tmp 11)],Oo 77 (.lit 48 11 1 [Ss,(iv 0),(iv 0),(iv 0),(iv 0),(iv 0),(iv 0),(iv 0),(iv 0),(iv 0),Ss] [(0,(11,(.tmp 76)))]),Oo 78 (.app 48 11 104 (.tmp 75) (.tmp 77)),Fa 79 0 8,Sc 79 78]) (.tmp 11) 51 [Fa 74 0 8,Ld 75 74,Mv 76 11,Mb 77 false,Mb 78 false,Mb 79 false,⟨none,none,(.mv (.const (.bool false)))⟩] 76) (Sr [Mv 81 13,Oo 82 (.bin .eql (.tmp 81) (.const (.string ⟨#[90,111,110,101]⟩))),Mv 80 82] (Cd 80 (Sr [Cl 83 52 [(.tmp 11)],Oo 84 (.build [Ss,(.sl 0 0 true [])] [(0,(1,(.tmp 83)))]),Oo 16 (.new 52 2 [Ss,(.sl 0 0 true [])]),⟨none,none,(.store 2 (.tmp 16) (.tmp 84))⟩] (Sr [Cl 85 50 [(.tmp 11)],Oo 17 (.new 64 10 [(iv 0),Ss,(iv 0),Ss,(.v (.bool false)),(iv 0),(iv 0),(iv 0),(iv 0),(iv 0)]),⟨none,none,(.store 10 (.tmp 17) (.tmp 85))⟩] (Sr [Fa 86 1 16,Ld 87 86,Oo 88 (.load true 10 (.tmp 17)),Oo 89 (.lit 64 10 1 [(iv 0),Ss,(iv 0),Ss,(.v (.bool false)),(iv 0),(iv 0),(iv 0),(iv 0),(iv 0)] [(0,(10,(.tmp 88)))]),Oo 90 (.app 64 10 96 (.tmp 87) (.tmp 89)),Fa 91 1 16,Sc 91 90] (Sr [Fa 92 1 8,Ld 93 92,Oo 94 (.load true 2 (.tmp 16)),Oo 95 (.lit 52 2 1 [Ss,(.sl 0 0 true [])] [(0,(2,(.tmp 94)))]),Oo 96 (.app 52 2 40 (.tmp 93) (.tmp 95)),Fa 97 1 8,Sc 97 96] (.reg [Fa 98 4 17,Ld 99 98,Oo 100 (.un .not (.tmp 99)),Mv 9 100]))))) (Sr [Mv 102 13,Oo 103 (.bin .eql (.tmp 102) (.const (.string ⟨#[76,105,110,107]⟩))),Mv 101 103] (Cd 101 (Sr [Oo 18 (.new 55 2 [Ss,Ss])] (Sr [Cl 104 52 [(.tmp 11)],Fa 105 0 18,Sc 105 104] (Sr [Cl 106 52 [(.tmp 11)],Fa 107 1 18,Sc 107 106] (.reg [Fa 108 2 8,Ld 109 108,Oo 110 (.load true 2 (.tmp 18)),Oo 111 (.lit 55 2 1 [Ss,Ss] [(0,(2,(.tmp 110)))]),Oo 112 (.app 55 2 32 (.tmp 109) (.tmp 111)),Fa 113 2 8,Sc 113 112])))) (.reg [Fa 46 1 11,⟨none,none,(.store 1 (.tmp 46) (.const (.bool true)))⟩])))))))))) (Sr [Fa 114 1 11,Ld 115 114,Mv 116 115,Of 117 116 (.fa 0 (.tmp 11)),Of 118 116 (.load false 1 (.tmp 117)),Of 119 116 (.len false (.tmp 118)),Of 120 116 (.bin .gtr (.tmp 119) (Ci 0)),Oo 121 (.pick (.tmp 116) (.const (.bool true)) (.tmp 120)),Mv 122 121,Of 123 122 (mt 5),Of 124 122 (mt 10),Of 125 122 (.ia 3 (.tmp 123) (.tmp 124)),Of 126 122 (.fa 1 (.tmp 125)),Of 127 122 (.load false 1 (.tmp 126)),Of 128 122 (mt 12),Of 129 122 (.eqb true (.tmp 127) (.tmp 128)),Oo 130 (.pick (.tmp 122) (.const (.bool true)) (.tmp 129))] (Cd 130 (.seq (.drwU [[],[0],[0,1],[0],[0],[0],[1,2,3,4,5],[],[]] [Oo 131 (.build [(.sl 0 0 true []),(.sl 0 0 true []),(.sl 0 0 true [])] []),Mv 132 5,Mv 133 10,Oo 134 (.ia 3 (.tmp 132) (.tmp 133)),Fa 135 0 134,Ld 136 135,⟨none,none,(.store 3 (.tmp 2) (.tmp 131))⟩,Mv 3 136,Mc 4 1]) .ret) .skip)))))))) (.reg [Mv 34 10,Bc 35 .add 34 1,Mv 10 35])))))) (.seq (Sr [Mv 137 9] (Cd 137 (Sr [Oo 138 (.build [(.sl 0 0 true []),(.sl 0 0 true []),(.sl 0 0 true [])] []),⟨none,none,(.store 3 (.tmp 2) (.tmp 138))⟩,Mc 3 0,Mc 4 1] .ret) .skip)) (Sr [Oo 139 (.load true 3 (.tmp 8)),Cl 140 9 [(.tmp 139)],Mv 7 140] (.seq (Sr [Mv 141 7,Bc 142 .neq 141 0] (Cd 142 (Sr [Oo 143 (.build [(.sl 0 0 true []),(.sl 0 0 true []),(.sl 0 0 true [])] []),Mv 144 7,⟨none,none,(.store 3 (.tmp 2) (.tmp 143))⟩,Mc 3 0,Mv 4 144] .ret) .skip)) (Sr [Oo 145 (.load true 3 (.tmp 8)),Mv 146 7,⟨none,none,(.store 3 (.tmp 2) (.tmp 145))⟩,Mc 3 0,Mv 4 146] .ret))))))))))
theorem k19:ZaH Tryz.prog 19=some ⟨c19,[(.cell 2 true 3),(.tmp 3),(.tmp 4)],147⟩:=by kernel_rfl
theorem trule_e {t t1:TS}{r:Rul}{id:Nat}{h:AH}(ho:okT t) (he:ZkN t=(r,t1)) (h1:h[id]?=some (takE t)):ACalls Tryz.prog 51 [.ptr id 0 0] h fun x h'=>x=.ret (.agg (rulC r))∧h'=h.set id (takE t1):=by
 have:=trule_a ho h1
 rw [he] at this
 exact this
theorem tera_e {t t1:TS}{r:Era}{id:Nat}{h:AH}(ho:okT t) (he:tEra t=(r,t1)) (h1:h[id]?=some (takE t)):ACalls Tryz.prog 50 [.ptr id 0 0] h fun x h'=>x=.ret (.agg (eraC r))∧h'=h.set id (takE t1):=by
 have:=tera_a ho h1
 rw [he] at this
 exact this
theorem ZbM {n e:AV}:Wk (.tup [.agg [.sl 0 0 true [],.sl 0 0 true [],.sl 0 0 true []],n,e]) (.tup [.agg (srcC srcZ),n,e]) :=
 Wk.tup (wkw (Wk.agg (wkw Wk.nilF (wkw Wk.nilF (wkw Wk.nilF wk0)))) (wk1 rfl (wk1 rfl wk0)))
theorem Zn6:ZeJ (curS srcZ none):=by rw [ZcL];exact ⟨fun _ h=>(by cases h),fun _ h=>(by cases h),fun _ h=>(by cases h)⟩
theorem lt26 {N:Nat}:decide (N+2<N+6)=true:=by simp
attribute [local simp] lt26
theorem lt36 {N:Nat}:decide (N+3<N+6)=true:=by simp
attribute [local simp] lt36
theorem lt46 {N:Nat}:decide (N+4<N+6)=true:=by simp
attribute [local simp] lt46
theorem lt56 {N:Nat}:decide (N+5<N+6)=true:=by simp
attribute [local simp] lt56
theorem rparse_a {s:ByteArray}{h:AH}:Ac 19 [sv s] h (.tup [.agg (srcC (ZaV s).1),iv (ZaV s).2.1,iv (ZaV s).2.2]):=by
 obtain ⟨L,hL⟩ : ∃ L,L=(ZbB s).1:=⟨_,rfl⟩
 have hf24:=Zfu (s:=s)
 have hL200:=Zmg (s:=s)
 rw [←hL] at hf24 hL200
 have hV0:=ZiB s
 rw [←hL] at hV0
 refine tW' k19 fun N hn hlt hlA hbd=>?_
 simp only [tb'] at hbd ⊢
 refine wr'<|E' (Zbq (hl0 hn) ha0) pt<|mv' lki pt<|mv' lki pt<|sn'<|wr'<|mv' lk pt<|Zae mp (ZqA) pt<|?_
 rw [←hL]
 refine mv' lk pt<|V' (Zbb lk gt) pt<|V' (Zbb lk gt) pt<|V' (Zbb lk gt) pt<|mv' lk pt<|mv' lk pt<|mv' lk pt<|sn'<|Zam<|wr'<|mv' lk pt<|V' (Za6 lk lki) pt<|?_
 refine sn' ?_
 refine cd' lk (fun hc1=>?_) (fun hc1=>?_)
 ·have hV:ZaV s=(srcZ,(ZbB s).2.1,(ZbB s).2.2):=by rw [hV0];exact if_pos hc1
  refine wr'<|V' (ZaB Zjf) pt<|mv' lk pt<|mv' lk pt<|E' (Zal lk (cvl lk rfl) (hga hn rfl) rfl (nb' rfl) rfl Zbc (hs0 hn)) ptn<|mv' lk pt<|mv' lk pt<|sn'<|Zab<|Zak<|Zag (rsn (rm1 (rr_c gt (hga hn rfl) (ld1 Za3 rfl)) (rm1 (rr_t gt) (rm1 (rr_t gt) rm0))))<|rtW'<|?_
  rw [hV];exact ZbM
 have hV:ZaV s=outP L:=by rw [hV0];exact if_neg hc1
 clear hV0
 refine Zaf<|Zai<|wr'<|E' (Zbq (hl1 hn) ha1) pt<|Zas<|?_
 refine ZbQ (ALe.trans (ALe.own0Cell (st':=11) (ty:=48) (hga hn rfl) gt0 (hl2 hn) pt0 (Eq.trans (congrArg (fun z=>List.set z _ _) ha2) (hs1 hn))) (ALe.trans (ALe.own0Cell (st':=2) (ty:=52) (hga hn rfl) gt1 (hl3 hn) pt1 (Eq.trans (congrArg (fun z=>List.set z _ _) ha3) (hs1 hn))) (ALe.own0Cell (st':=2) (ty:=55) (hga hn rfl) gt2 (hl4 hn) pt2 (Eq.trans (congrArg (fun z=>List.set z _ _) ha4) (hs1 hn))))) ?_
 refine wr'<|mv' lkb pt9<|Zas<|ZbQ ((ALe.newEnt (ty:=64) (st:=10) ha5))<|Zam<|wr'<|mv' lki pt10<|sn'<|Zao<|?_
 refine w_lp (ι:=Nat×Src×Option Zon×Nat×Nat×Nat×Nat×Nat) (fun (x_:Nat×Src×Option Zon×Nat×Nat×Nat×Nat×Nat)=>match x_ with | ⟨k,sr,o,m,v1,v2,v3,v4⟩=>[(9,bv o.isSome),(10,iv (k:Int)),(3,.any),(4,.any)]++rn' 11 8++rn' 30 107) (fun (x_:Nat×Src×Option Zon×Nat×Nat×Nat×Nat×Nat)=>match x_ with | ⟨k,sr,o,m,v1,v2,v3,v4⟩=>[(1,.mk 0 26 3 [.own (N+2) v1 sr.1.length,.own (N+3) v2 m,.own (N+4) v3 sr.2.2.length]),(2,.mk v1 48 11 (rows rulC sr.1)),(3,.mk v2 52 2 (rows zonC sr.2.1++zC N v4 o)),(4,.mk v3 55 2 (rows lnkC sr.2.2)),(5,.mk v4 64 10 (rows eraC (eC o)))]) (fun (x_:Nat×Src×Option Zon×Nat×Nat×Nat×Nat×Nat)=>match x_ with | ⟨k,sr,o,m,v1,v2,v3,v4⟩=>k≤L.length∧m=sr.2.1.length+o.toList.length∧sr.1.length≤k∧m≤k∧sr.2.2.length≤k∧(eC o).length≤k∧ZeJ (curS sr o)∧runR (srcZ,false) L=runR (curS sr o,o.isSome) (L.drop k)) (fun (x_:Nat×Src×Option Zon×Nat×Nat×Nat×Nat×Nat)=>match x_ with | ⟨k,sr,o,m,v1,v2,v3,v4⟩=>L.length-k) (⟨0,srcZ,none,0,0,0,0,0⟩) (by exact ⟨Nat.zero_le _,rfl,Nat.le_refl _,Nat.le_refl _,Nat.le_refl _,Nat.le_refl _,Zn6,rfl⟩) ?_
 rintro ⟨k,sr,o,m,v1,v2,v3,v4⟩ hi1
 try simp only [sm',Nat.reduceAdd]
 obtain ⟨hk1,hm,hk2,hk3,hk4,hk5,hok,hrun⟩:=hi1
 refine Zam<|wr'<|mv' lk pt<|mv' lk pt<|V' (ZaK lk) pt<|V' (Zbu lk lk) pt<|sn'<|?_
 refine cd' lk (fun hc2=>?_) (fun hc2=>?_)
 ·have hk:k<L.length:=by omega
  have hfs:=hf24 _ (List.getElem_mem hk)
  have hokt:okT (L[k].2.2,false):=hfs
  rw [Zsy hk] at hrun
  have hPT:=ZsJ (p:=(curS sr o,o.isSome)) hok (L[k].2.2,false) hokt
  refine Zaf<|Zai<|Zam<|Zao<|wr'<|mv' lk pt<|mv' lk pt<|?_
  refine V' (Zbg lk lk Zbx (nb' rfl) ro (by omega) ro rfl) pt ?_
  refine V' (ZcX lk38 dp2) pt39<|V' (ZaZ lk39 gt0) pt40<|V' (ZaB (Zje (cvl lk40 rfl) rfl)) pt41<|E' (Zbq (hl6 hn) ha6) pt11<|E' (Zal lk11 (cvl lk41 rfl) (hga hn rfl) rfl (nb' rfl) rfl Zkn (hs6 hn)) ptn<|Zas<|ZbQ ((ALe.same (WkL.refl _) rfl))<|wr'<|?_
  by_cases hs36:o=none
  ·subst hs36
   simp only [Option.isSome_none] at hrun hPT
   have hm':m=sr.2.1.length:=by simpa using hm
   subst hm'
   obtain ⟨w,t1,e1⟩ : ∃ a b,Za1 (L[k].2.2,false)=(a,b):=⟨_,_,rfl⟩
   obtain ⟨z1,o1⟩:=ZbC hokt e1
   refine mv' lk pt<|mv' lk pt<|sn'<|wr'<|mv' lks pt<|sn'<|Zam<|wr'<|mv' lk pt<|?_
   refine V' ((by first | exact Zju lk | exact Zav lk)) pt ?_
   refine sn' ?_
   refine ZcW lk (by rfl) ?_
   refine Zar<|ZaA mp (ZdI e1 (hga hn rfl)) (hs6 hn) pt<|mv' lk pt<|sn'<|Zam<|Zao<|wr'<|mv' lk pt<|mv' lk pt<|sn'<|?_
   refine ZcD lk (by rfl) ?_
   refine wr'<|mv' lk pt<|V' (Zcj lk lks) pt<|mv' lk pt<|sn'<|?_
   refine cd' lk (fun hc5=>?_) (fun hc5=>?_)
   ·have hwR:w=ZeW:=hc5
    obtain ⟨r,u,eR⟩ : ∃ a b,ZkN t1=(a,b):=⟨_,_,rfl⟩
    have hB:Zfc (curS sr none,false) (L[k].2.2,false)=((curS (sr.1++[r],sr.2.1,sr.2.2) none,false),u):=by unfold Zfc;rw [if_neg (by simp)];simp only [Zcn,e1,if_pos hwR,ret2,eR];rfl
    have hq:True:=trivial
    refine w_orl<|Zl8 [N+1]<|D' (Zaa lk) pt<|?_
    refine d_ldP lk (hga hn rfl) (ld0 gt) (by simp) pt ?_
    refine Zbt<|Zof<|?_
    refine Ztj mp (trule_e o1 eR (hga hn rfl)) (hs6 hn) (by intro i hi;simp only [cond_true,List.mem_cons,List.not_mem_nil,or_false] at hi;subst hi;first | rfl | exact (hga hn rfl).trans (hga hn rfl).symm) pt ?_
    refine Zlo rfl rfl (Zeh (Zjc (cvl lk rfl) rfl) (hl7 hn) ha7) (by intro i hi;simp only [cond_true,List.mem_cons,List.not_mem_nil,or_false] at hi;subst hi;first | rfl | exact (hga hn rfl).trans (hga hn rfl).symm) pt ?_
    refine Zlo rfl rfl (Zej (Zc9 lk (hga hn rfl) rfl Zq5 (nb' rfl)) lk (hga hn rfl) (Zhm _) (by omega) rfl (hs2 hn)) (by intro i hi;simp at hi) pt ?_
    refine Zln rfl (Zaa lk) pt ?_
    refine Zlo rfl rfl (Zal lk (cvl lk rfl) (hga hn rfl) rfl (nb' rfl) rfl Zko (hs1 hn)) (by intro i hi;simp at hi) ptn ?_
    refine ZqN<|ZaF<|Zai<|wr'<|V' (Zaa lk) pt<|V' (Zac lk (hga hn rfl) gt1) pt<|mv' lk pt<|?_
    refine ZaL (t:=116) gt pt pt (fun hg116=>?_) (fun hg116=>?_)
    ·have hN:=Zbn hB (.inl hg116)
     refine s_no gt pt<|s_no gt pt<|s_no gt pt<|s_no gt pt<|V' (Zaj lk lkb) pt<|mv' lk pt<|s_no gt pt<|s_no gt pt<|s_no gt pt<|s_no gt pt<|s_no gt pt<|s_no gt pt<|s_no gt pt<|V' (Zaj lk lkb) pt<|?_
     refine sn'<|ZaG lk<|Zam<|Zco<|u_fr rfl (ZaB ZaM) pt<|u_fr rfl (v_mv lk) pt<|u_fr rfl (v_mv lk) pt<|?_
     refine u_fr rfl (Zbg lk lk Zbx (nb' rfl) ro (by omega) ro rfl) pt ?_
     refine u_fr rfl (ZcX lk dp0) pt<|u_fr rfl (ZaZ lk gt) pt<|?_
     refine u_st (Zal lk (cvl lk rfl) (hga hn rfl) rfl (nb' rfl) rfl Zbc (hs0 hn)) lk nh ptn ?_
     refine u_fr rfl (v_mv lk) pt<|u_fr rfl (v_mv lki) pt<|Zds<|Zai<|Zab<|Zaq<|Zak<|Zak<|Zaq<|Zak<|Zag (rsn (rm1 (rr_c gt (hga hn rfl) (ld1 Za3 rfl)) (rm1 (rr_t gt) (rm1 (rr_t gt) rm0))))<|rtW'<|?_
     have hP:ZaV s=(srcZ,L[k].1,1):=by rw [hV,outP,hrun,hN]
     rw [hP];exact ZbM
    refine s_do gt<|V' (Zaa lk) pt<|s_do gt<|V' (Zac lk (hga hn rfl) gt0) pt<|s_do gt<|V' (ZaK lk) pt<|s_do gt<|V' (ZbN lk lki) pt<|V' (Zah lk lk) pt<|mv' lk pt<|?_
    refine sp' (t:=122) gt pt pt (fun hg122=>?_) (fun hg122=>?_)
    ·have hN:=Zbn hB (.inr (.inl (by intro e;rw [e] at hg122;exact absurd hg122 (by decide))))
     refine s_no gt pt<|s_no gt pt<|s_no gt pt<|s_no gt pt<|s_no gt pt<|s_no gt pt<|s_no gt pt<|V' (Zaj lk lkb) pt<|sn'<|ZaG lk<|Zam<|Zco<|u_fr rfl (ZaB ZaM) pt<|?_
     refine u_fr rfl (v_mv lk) pt<|u_fr rfl (v_mv lk) pt<|?_
     refine u_fr rfl (Zbg lk lk Zbx (nb' rfl) ro (by omega) ro rfl) pt ?_
     refine u_fr rfl (ZcX lk dp0) pt<|u_fr rfl (ZaZ lk gt) pt<|?_
     refine u_st (Zal lk (cvl lk rfl) (hga hn rfl) rfl (nb' rfl) rfl Zbc (hs0 hn)) lk nh ptn ?_
     refine u_fr rfl (v_mv lk) pt<|u_fr rfl (v_mv lki) pt<|Zds<|Zai<|Zab<|Zaq<|Zak<|Zak<|Zaq<|Zak<|Zag (rsn (rm1 (rr_c gt (hga hn rfl) (ld1 Za3 rfl)) (rm1 (rr_t gt) (rm1 (rr_t gt) rm0))))<|rtW'<|?_
     have hP:ZaV s=(srcZ,L[k].1,1):=by rw [hV,outP,hrun,hN]
     rw [hP];exact ZbM
    refine s_do gt<|mv' lk pt<|s_do gt<|mv' lk pt<|s_do gt<|?_
    refine V' (Zbg lk lk Zbx (nb' rfl) ro (by omega) ro rfl) pt ?_
    refine s_do gt<|V' (ZcX lk dp1) pt<|s_do gt<|V' (ZaZ lk gt) pt<|s_do gt<|mv' lk pt<|s_do gt<|V' (ZdP lk lk) pt<|V' (Zah lk lk) pt<|sn'<|?_
    refine cd' lk (fun hc8=>?_) (fun hc8=>?_)
    ·have hN:=Zbn hB (.inr (.inr (by simpa using hc8)))
     refine Zam<|Zco<|u_fr rfl (ZaB ZaM) pt<|u_fr rfl (v_mv lk) pt<|u_fr rfl (v_mv lk) pt<|?_
     refine u_fr rfl (Zbg lk lk Zbx (nb' rfl) ro (by omega) ro rfl) pt ?_
     refine u_fr rfl (ZcX lk dp0) pt<|u_fr rfl (ZaZ lk gt) pt<|?_
     refine u_st (Zal lk (cvl lk rfl) (hga hn rfl) rfl (nb' rfl) rfl Zbc (hs0 hn)) lk nh ptn ?_
     refine u_fr rfl (v_mv lk) pt<|u_fr rfl (v_mv lki) pt<|Zds<|Zai<|Zab<|Zaq<|Zak<|Zak<|Zaq<|Zak<|Zag (rsn (rm1 (rr_c gt (hga hn rfl) (ld1 Za3 rfl)) (rm1 (rr_t gt) (rm1 (rr_t gt) rm0))))<|rtW'<|?_
     have hP:ZaV s=(srcZ,L[k].1,1):=by rw [hV,outP,hrun,hN]
     rw [hP];exact ZbM
    have hu1:u.2=false:=by simpa using hg116
    have hu2:u.1=[]:=List.eq_nil_of_length_eq_zero (by omega)
    have hS:=Zd2 hB hu1 hu2 (by simpa using hc8)
    rw [hS] at hrun
    have hokq:=hPT.1
    rw [hB] at hokq
    refine Zaf<|ZaF<|Zai<|Zar<|mv' lk pt<|?_
    refine V' (ZaE lk lki (by omega) (by omega)) pt ?_
    refine mv' lk pt<|Zas<|ZaI<|?_
    refine lU' (⟨k+1,(sr.1++[r],sr.2.1,sr.2.2),none,sr.2.1.length,v1+1,v2,v3,v4⟩) (by (try dsimp only);exact ⟨by omega,by simp,by simp;omega,by omega,by omega,by simp [eC],hokq,hrun⟩) (by (try dsimp only);(try simp only [sm',Nat.reduceAdd]);exact bkE' 6 hn hlt (by repeat (first | exact wk0 | refine wka ?_ | refine wk1 rfl ?_ | refine wk1 (by first | rfl | exact ivx (by omega) | (simp;done) | exact bvx (by have h9:=hs68;unfold ZbP at h9;rw [h9];rfl) | exact bvx (by have h9:=hs106;unfold ZbP at h9;rw [h9];rfl) | exact bvx (by have h9:=hs68;unfold ZbP at h9;rw [Bool.not_eq_true] at h9;rw [h9];rfl) | exact bvx (by have h9:=hs106;unfold ZbP at h9;rw [Bool.not_eq_true] at h9;rw [h9];rfl)) ?_)) (by simp only [zonC,Zbo,Zbv,zC,eC,List.append_nil,List.length_append,List.length_singleton];rfl) (hT:=by first | rfl | (simp only [AV.lt,AV.ltL,Ent.lt,List.all_cons,List.all_nil,Bool.and_true,Bool.and_self,decide_true,Za4,Zbj,Zca,Za5,Zbd,Zdi,Zhe,lt26,lt36,lt46,lt56];done) | exact lt') (hE:=by first | rfl | (simp only [AV.lt,AV.ltL,Ent.lt,List.all_cons,List.all_nil,Bool.and_true,Bool.and_self,decide_true,Za4,Zbj,Zca,Za5,Zbd,Zdi,Zhe,lt26,lt36,lt46,lt56];done) | exact lt'))
   have hwR:¬w=ZeW:=hc5
   refine wr'<|mv' lk pt<|V' (Zcj lk lks) pt<|mv' lk pt<|sn'<|?_
   refine cd' lk (fun hc6=>?_) (fun hc6=>?_)
   ·have hwZ:w=Zfp:=hc6
    obtain ⟨nm,t2,e2⟩ : ∃ a b,Zft t1=(a,b):=⟨_,_,rfl⟩
    have o2:=Zh7 o1 e2
    obtain ⟨x,u,eE⟩ : ∃ a b,tEra t2=(a,b):=⟨_,_,rfl⟩
    have hB:Zfc (curS sr none,false) (L[k].2.2,false)=(ZbY (sr.1,sr.2.1++[(nm,[])],sr.2.2) x,u):=by unfold Zfc;rw [if_neg (by simp)];simp only [Zcn,e1,if_neg hwR,if_pos hwZ,ret2,e2,eE,ZcL]
    have hw:ZbY (sr.1,sr.2.1++[(nm,[])],sr.2.2) x=((sr.1,sr.2.1++[(nm,[x])],sr.2.2),!ZbP x):=by unfold ZbY;rw [Zc3];rfl
    refine wr'<|ZaA mp (ZkL o1 e2 (hga hn rfl)) (hs6 hn) pt<|V' (ZaB (Zjb (cvl lk rfl) rfl)) pt<|E' (Zbq (hl7 hn) ha7) pt<|E' (Zal lk (cvl lk rfl) (hga hn rfl) rfl (nb' rfl) rfl Zkn (hs7 hn)) ptn<|sn'<|wr'<|ZaA mp (tera_e o2 eE (hga hn rfl)) (hs6 hn) pt<|E' (Zbq (hl8 hn) ha8) pt<|E' (Zal lk (cvl lk rfl) (hga hn rfl) rfl (nb' rfl) rfl Zi9 (hs8 hn)) ptn<|Zas<|?_
    refine ZbQ ((ALe.own0CellRe (ty2:=64) (st2:=10) (hga hn rfl) (hga hn rfl) (by omega) gt1 pt1 (Eq.trans (congrArg (fun z=>List.set z _ _) (hs5 hn)) (hs7 hn)))) ?_
    refine wr'<|V' (Zaa lk) pt<|V' (Zac lk (hga hn rfl) gt1) pt<|V' (Zau lk (hga hn rfl) Zi8 rfl) pt<|E' (Zeh (Zja (cvl lk rfl) rfl) (hl9 hn) ha9) pt<|?_
    refine E' (Zej (Zc9 lk (hga hn rfl) rfl Zkl (nb' rfl)) lk (hga hn rfl) rfl (by omega) rfl (hs5 hn)) pt ?_
    refine V' (Zaa lk) pt<|E' (Zal lk (cvl lk rfl) (hga hn rfl) rfl (nb' rfl) rfl Zf0 (hs7 hn)) ptn<|sn'<|wr'<|V' (Zaa lk) pt<|V' (Zac lk (hga hn rfl) gt1) pt<|V' (Zau lk (hga hn rfl) Zkm rfl) pt<|E' (Zeh (ZhZ (cvl lk rfl) rfl) (Zt2 hn) Zt3) pt<|?_
    refine E' (Zej (Zc9 lk (hga hn rfl) rfl Znj (nb' rfl)) lk (hga hn rfl) ZlZ (by omega) rfl (hs3 hn)) pt ?_
    refine V' (Zaa lk) pt<|E' (Zal lk (cvl lk rfl) (hga hn rfl) rfl (nb' rfl) rfl Zf0 (hs1 hn)) ptn<|sn'<|Zar<|?_
    by_cases hs106:ZbP x=true
    ·have hq:ZbY (sr.1,sr.2.1++[(nm,[])],sr.2.2) x=(curS (sr.1,sr.2.1++[(nm,[x])],sr.2.2) none,false):=by rw [hw,hs106,ZcL];rfl
     refine V' (Zaa lk) pt<|V' (Zac lk (hga hn rfl) gt4) pt<|V' (Zav lk) pt<|mv' lk pt<|Zas<|ZaF<|Zai<|wr'<|V' (Zaa lk) pt<|V' (Zac lk (hga hn rfl) gt1) pt<|mv' lk pt<|?_
     refine ZaL (t:=116) gt pt pt (fun hg116=>?_) (fun hg116=>?_)
     ·have hN:=Zbn hB (.inl hg116)
      refine s_no gt pt<|s_no gt pt<|s_no gt pt<|s_no gt pt<|V' (Zaj lk lkb) pt<|mv' lk pt<|s_no gt pt<|s_no gt pt<|s_no gt pt<|s_no gt pt<|s_no gt pt<|s_no gt pt<|s_no gt pt<|V' (Zaj lk lkb) pt<|?_
      refine sn'<|ZaG lk<|Zam<|Zco<|u_fr rfl (ZaB ZaM) pt<|u_fr rfl (v_mv lk) pt<|u_fr rfl (v_mv lk) pt<|?_
      refine u_fr rfl (Zbg lk lk Zbx (nb' rfl) ro (by omega) ro rfl) pt ?_
      refine u_fr rfl (ZcX lk dp0) pt<|u_fr rfl (ZaZ lk gt) pt<|?_
      refine u_st (Zal lk (cvl lk rfl) (hga hn rfl) rfl (nb' rfl) rfl Zbc (hs0 hn)) lk nh ptn ?_
      refine u_fr rfl (v_mv lk) pt<|u_fr rfl (v_mv lki) pt<|Zds<|Zai<|Zab<|Zaq<|Zak<|Zak<|Zaq<|Zak<|Zag (rsn (rm1 (rr_c gt (hga hn rfl) (ld1 Za3 rfl)) (rm1 (rr_t gt) (rm1 (rr_t gt) rm0))))<|rtW'<|?_
      have hP:ZaV s=(srcZ,L[k].1,1):=by rw [hV,outP,hrun,hN]
      rw [hP];exact ZbM
     refine s_do gt<|V' (Zaa lk) pt<|s_do gt<|V' (Zac lk (hga hn rfl) gt0) pt<|s_do gt<|V' (ZaK lk) pt<|s_do gt<|V' (ZbN lk lki) pt<|V' (Zah lk lk) pt<|mv' lk pt<|?_
     refine sp' (t:=122) gt pt pt (fun hg122=>?_) (fun hg122=>?_)
     ·have hN:=Zbn hB (.inr (.inl (by intro e;rw [e] at hg122;exact absurd hg122 (by decide))))
      refine s_no gt pt<|s_no gt pt<|s_no gt pt<|s_no gt pt<|s_no gt pt<|s_no gt pt<|s_no gt pt<|V' (Zaj lk lkb) pt<|sn'<|ZaG lk<|Zam<|Zco<|u_fr rfl (ZaB ZaM) pt<|?_
      refine u_fr rfl (v_mv lk) pt<|u_fr rfl (v_mv lk) pt<|?_
      refine u_fr rfl (Zbg lk lk Zbx (nb' rfl) ro (by omega) ro rfl) pt ?_
      refine u_fr rfl (ZcX lk dp0) pt<|u_fr rfl (ZaZ lk gt) pt<|?_
      refine u_st (Zal lk (cvl lk rfl) (hga hn rfl) rfl (nb' rfl) rfl Zbc (hs0 hn)) lk nh ptn ?_
      refine u_fr rfl (v_mv lk) pt<|u_fr rfl (v_mv lki) pt<|Zds<|Zai<|Zab<|Zaq<|Zak<|Zak<|Zaq<|Zak<|Zag (rsn (rm1 (rr_c gt (hga hn rfl) (ld1 Za3 rfl)) (rm1 (rr_t gt) (rm1 (rr_t gt) rm0))))<|rtW'<|?_
      have hP:ZaV s=(srcZ,L[k].1,1):=by rw [hV,outP,hrun,hN]
      rw [hP];exact ZbM
     refine s_do gt<|mv' lk pt<|s_do gt<|mv' lk pt<|s_do gt<|?_
     refine V' (Zbg lk lk Zbx (nb' rfl) ro (by omega) ro rfl) pt ?_
     refine s_do gt<|V' (ZcX lk dp1) pt<|s_do gt<|V' (ZaZ lk gt) pt<|s_do gt<|mv' lk pt<|s_do gt<|V' (ZdP lk lk) pt<|V' (Zah lk lk) pt<|sn'<|?_
     refine cd' lk (fun hc8=>?_) (fun hc8=>?_)
     ·have hN:=Zbn hB (.inr (.inr (by simpa using hc8)))
      refine Zam<|Zco<|u_fr rfl (ZaB ZaM) pt<|u_fr rfl (v_mv lk) pt<|u_fr rfl (v_mv lk) pt<|?_
      refine u_fr rfl (Zbg lk lk Zbx (nb' rfl) ro (by omega) ro rfl) pt ?_
      refine u_fr rfl (ZcX lk dp0) pt<|u_fr rfl (ZaZ lk gt) pt<|?_
      refine u_st (Zal lk (cvl lk rfl) (hga hn rfl) rfl (nb' rfl) rfl Zbc (hs0 hn)) lk nh ptn ?_
      refine u_fr rfl (v_mv lk) pt<|u_fr rfl (v_mv lki) pt<|Zds<|Zai<|Zab<|Zaq<|Zak<|Zak<|Zaq<|Zak<|Zag (rsn (rm1 (rr_c gt (hga hn rfl) (ld1 Za3 rfl)) (rm1 (rr_t gt) (rm1 (rr_t gt) rm0))))<|rtW'<|?_
      have hP:ZaV s=(srcZ,L[k].1,1):=by rw [hV,outP,hrun,hN]
      rw [hP];exact ZbM
     have hu1:u.2=false:=by simpa using hg116
     have hu2:u.1=[]:=List.eq_nil_of_length_eq_zero (by omega)
     have hS:=Zd2 hB hu1 hu2 (by simpa using hc8)
     rw [hS] at hrun
     have hokq:=hPT.1
     rw [hB] at hokq
     refine Zaf<|ZaF<|?_
     refine ZbQ ((ALe.iceCellNew (ds:=rows eraC [x]) (k:=sr.2.1.length*2+1) (ty2:=64) (st2:=10) (hga hn rfl) (hga hn rfl) (by omega) (zc_at2 rfl) rfl (Nat.le_refl _) zc_put2 (hs5 hn) (hs3 hn))) ?_
     refine Zar<|mv' lk pt<|?_
     refine V' (ZaE lk lki (by omega) (by omega)) pt ?_
     refine mv' lk pt<|Zas<|ZaI<|?_
     refine lU' (⟨k+1,(sr.1,sr.2.1++[(nm,[x])],sr.2.2),none,sr.2.1.length+1,v1,v2+1,v3,v4+3⟩) (by (try dsimp only);rw [hq] at hrun hokq;exact ⟨by omega,by simp,by omega,by omega,by omega,by simp [eC],hokq,hrun⟩) (by (try dsimp only);(try simp only [sm',Nat.reduceAdd]);exact bkE' 6 hn hlt (by repeat (first | exact wk0 | refine wka ?_ | refine wk1 rfl ?_ | refine wk1 (by first | rfl | exact ivx (by omega) | (simp;done) | exact bvx (by have h9:=hs68;unfold ZbP at h9;rw [h9];rfl) | exact bvx (by have h9:=hs106;unfold ZbP at h9;rw [h9];rfl) | exact bvx (by have h9:=hs68;unfold ZbP at h9;rw [Bool.not_eq_true] at h9;rw [h9];rfl) | exact bvx (by have h9:=hs106;unfold ZbP at h9;rw [Bool.not_eq_true] at h9;rw [h9];rfl)) ?_)) (by simp only [zonC,Zbo,Zbv,zC,eC,List.append_nil,List.length_append,List.length_singleton];rfl) (hT:=by first | rfl | (simp only [AV.lt,AV.ltL,Ent.lt,List.all_cons,List.all_nil,Bool.and_true,Bool.and_self,decide_true,Za4,Zbj,Zca,Za5,Zbd,Zdi,Zhe,lt26,lt36,lt46,lt56];done) | exact lt') (hE:=by first | rfl | (simp only [AV.lt,AV.ltL,Ent.lt,List.all_cons,List.all_nil,Bool.and_true,Bool.and_self,decide_true,Za4,Zbj,Zca,Za5,Zbd,Zdi,Zhe,lt26,lt36,lt46,lt56];done) | exact lt'))
    have hq:ZbY (sr.1,sr.2.1++[(nm,[])],sr.2.2) x=(curS sr (some (nm,[x])),true):=by rw [hw,show ZbP x=false by simpa using hs106];rfl
    refine V' (Zaa lk) pt<|V' (Zac lk (hga hn rfl) gt4) pt<|V' (Zav lk) pt<|mv' lk pt<|Zas<|ZaF<|Zai<|wr'<|V' (Zaa lk) pt<|V' (Zac lk (hga hn rfl) gt1) pt<|mv' lk pt<|?_
    refine ZaL (t:=116) gt pt pt (fun hg116=>?_) (fun hg116=>?_)
    ·have hN:=Zbn hB (.inl hg116)
     refine s_no gt pt<|s_no gt pt<|s_no gt pt<|s_no gt pt<|V' (Zaj lk lkb) pt<|mv' lk pt<|s_no gt pt<|s_no gt pt<|s_no gt pt<|s_no gt pt<|s_no gt pt<|s_no gt pt<|s_no gt pt<|V' (Zaj lk lkb) pt<|?_
     refine sn'<|ZaG lk<|Zam<|Zco<|u_fr rfl (ZaB ZaM) pt<|u_fr rfl (v_mv lk) pt<|u_fr rfl (v_mv lk) pt<|?_
     refine u_fr rfl (Zbg lk lk Zbx (nb' rfl) ro (by omega) ro rfl) pt ?_
     refine u_fr rfl (ZcX lk dp0) pt<|u_fr rfl (ZaZ lk gt) pt<|?_
     refine u_st (Zal lk (cvl lk rfl) (hga hn rfl) rfl (nb' rfl) rfl Zbc (hs0 hn)) lk nh ptn ?_
     refine u_fr rfl (v_mv lk) pt<|u_fr rfl (v_mv lki) pt<|Zds<|Zai<|Zab<|Zaq<|Zak<|Zak<|Zaq<|Zak<|Zag (rsn (rm1 (rr_c gt (hga hn rfl) (ld1 Za3 rfl)) (rm1 (rr_t gt) (rm1 (rr_t gt) rm0))))<|rtW'<|?_
     have hP:ZaV s=(srcZ,L[k].1,1):=by rw [hV,outP,hrun,hN]
     rw [hP];exact ZbM
    refine s_do gt<|V' (Zaa lk) pt<|s_do gt<|V' (Zac lk (hga hn rfl) gt0) pt<|s_do gt<|V' (ZaK lk) pt<|s_do gt<|V' (ZbN lk lki) pt<|V' (Zah lk lk) pt<|mv' lk pt<|?_
    refine sp' (t:=122) gt pt pt (fun hg122=>?_) (fun hg122=>?_)
    ·have hN:=Zbn hB (.inr (.inl (by intro e;rw [e] at hg122;exact absurd hg122 (by decide))))
     refine s_no gt pt<|s_no gt pt<|s_no gt pt<|s_no gt pt<|s_no gt pt<|s_no gt pt<|s_no gt pt<|V' (Zaj lk lkb) pt<|sn'<|ZaG lk<|Zam<|Zco<|u_fr rfl (ZaB ZaM) pt<|?_
     refine u_fr rfl (v_mv lk) pt<|u_fr rfl (v_mv lk) pt<|?_
     refine u_fr rfl (Zbg lk lk Zbx (nb' rfl) ro (by omega) ro rfl) pt ?_
     refine u_fr rfl (ZcX lk dp0) pt<|u_fr rfl (ZaZ lk gt) pt<|?_
     refine u_st (Zal lk (cvl lk rfl) (hga hn rfl) rfl (nb' rfl) rfl Zbc (hs0 hn)) lk nh ptn ?_
     refine u_fr rfl (v_mv lk) pt<|u_fr rfl (v_mv lki) pt<|Zds<|Zai<|Zab<|Zaq<|Zak<|Zak<|Zaq<|Zak<|Zag (rsn (rm1 (rr_c gt (hga hn rfl) (ld1 Za3 rfl)) (rm1 (rr_t gt) (rm1 (rr_t gt) rm0))))<|rtW'<|?_
     have hP:ZaV s=(srcZ,L[k].1,1):=by rw [hV,outP,hrun,hN]
     rw [hP];exact ZbM
    refine s_do gt<|mv' lk pt<|s_do gt<|mv' lk pt<|s_do gt<|?_
    refine V' (Zbg lk lk Zbx (nb' rfl) ro (by omega) ro rfl) pt ?_
    refine s_do gt<|V' (ZcX lk dp1) pt<|s_do gt<|V' (ZaZ lk gt) pt<|s_do gt<|mv' lk pt<|s_do gt<|V' (ZdP lk lk) pt<|V' (Zah lk lk) pt<|sn'<|?_
    refine cd' lk (fun hc8=>?_) (fun hc8=>?_)
    ·have hN:=Zbn hB (.inr (.inr (by simpa using hc8)))
     refine Zam<|Zco<|u_fr rfl (ZaB ZaM) pt<|u_fr rfl (v_mv lk) pt<|u_fr rfl (v_mv lk) pt<|?_
     refine u_fr rfl (Zbg lk lk Zbx (nb' rfl) ro (by omega) ro rfl) pt ?_
     refine u_fr rfl (ZcX lk dp0) pt<|u_fr rfl (ZaZ lk gt) pt<|?_
     refine u_st (Zal lk (cvl lk rfl) (hga hn rfl) rfl (nb' rfl) rfl Zbc (hs0 hn)) lk nh ptn ?_
     refine u_fr rfl (v_mv lk) pt<|u_fr rfl (v_mv lki) pt<|Zds<|Zai<|Zab<|Zaq<|Zak<|Zak<|Zaq<|Zak<|Zag (rsn (rm1 (rr_c gt (hga hn rfl) (ld1 Za3 rfl)) (rm1 (rr_t gt) (rm1 (rr_t gt) rm0))))<|rtW'<|?_
     have hP:ZaV s=(srcZ,L[k].1,1):=by rw [hV,outP,hrun,hN]
     rw [hP];exact ZbM
    have hu1:u.2=false:=by simpa using hg116
    have hu2:u.1=[]:=List.eq_nil_of_length_eq_zero (by omega)
    have hS:=Zd2 hB hu1 hu2 (by simpa using hc8)
    rw [hS] at hrun
    have hokq:=hPT.1
    rw [hB] at hokq
    refine Zaf<|ZaF<|Zai<|Zar<|mv' lk pt<|?_
    refine V' (ZaE lk lki (by omega) (by omega)) pt ?_
    refine mv' lk pt<|Zas<|ZaI<|?_
    refine lU' (⟨k+1,sr,some (nm,[x]),sr.2.1.length+1,v1,v2+1,v3,v4+2⟩) (by (try dsimp only);rw [hq] at hrun hokq;exact ⟨by omega,by simp,by omega,by omega,by omega,by simp [eC],hokq,hrun⟩) (by (try dsimp only);(try simp only [sm',Nat.reduceAdd]);exact bkE' 6 hn hlt (by repeat (first | exact wk0 | refine wka ?_ | refine wk1 rfl ?_ | refine wk1 (by first | rfl | exact ivx (by omega) | (simp;done) | exact bvx (by have h9:=hs68;unfold ZbP at h9;rw [h9];rfl) | exact bvx (by have h9:=hs106;unfold ZbP at h9;rw [h9];rfl) | exact bvx (by have h9:=hs68;unfold ZbP at h9;rw [Bool.not_eq_true] at h9;rw [h9];rfl) | exact bvx (by have h9:=hs106;unfold ZbP at h9;rw [Bool.not_eq_true] at h9;rw [h9];rfl)) ?_)) (by simp only [zonC,Zbo,Zbv,zC,eC,List.append_nil,List.length_append,List.length_singleton];rfl) (hT:=by first | rfl | (simp only [AV.lt,AV.ltL,Ent.lt,List.all_cons,List.all_nil,Bool.and_true,Bool.and_self,decide_true,Za4,Zbj,Zca,Za5,Zbd,Zdi,Zhe,lt26,lt36,lt46,lt56];done) | exact lt') (hE:=by first | rfl | (simp only [AV.lt,AV.ltL,Ent.lt,List.all_cons,List.all_nil,Bool.and_true,Bool.and_self,decide_true,Za4,Zbj,Zca,Za5,Zbd,Zdi,Zhe,lt26,lt36,lt46,lt56];done) | exact lt'))
   have hwZ:¬w=Zfp:=hc6
   refine wr'<|mv' lk pt<|V' (Zcj lk lks) pt<|mv' lk pt<|sn'<|?_
   refine cd' lk (fun hc7=>?_) (fun hc7=>?_)
   ·have hwL:w=ZgP:=hc7
    obtain ⟨n1,t2,e2⟩ : ∃ a b,Zft t1=(a,b):=⟨_,_,rfl⟩
    have o2:=Zh7 o1 e2
    obtain ⟨n2,u,e3⟩ : ∃ a b,Zft t2=(a,b):=⟨_,_,rfl⟩
    have hB:Zfc (curS sr none,false) (L[k].2.2,false)=((curS (sr.1,sr.2.1,sr.2.2++[(n1,n2)]) none,false),u):=by unfold Zfc;rw [if_neg (by simp)];simp only [Zcn,e1,if_neg hwR,if_neg hwZ,if_pos hwL,ret2,e2,e3];rfl
    refine wr'<|E' (Zbq (hl7 hn) ha7) pt<|sn'<|wr'<|ZaA mp (ZkL o1 e2 (hga hn rfl)) (hs6 hn) pt<|V' (Zaa lk) pt<|E' (Zal lk (cvl lk rfl) (hga hn rfl) rfl (nb' rfl) rfl Zko (hs7 hn)) ptn<|sn'<|wr'<|?_
    refine ZaA mp (ZkL o2 e3 (hga hn rfl)) (hs6 hn) pt<|V' (Zaa lk) pt<|E' (Zal lk (cvl lk rfl) (hga hn rfl) rfl (nb' rfl) rfl Zf0 (hs7 hn)) ptn<|sn'<|Zar<|V' (Zaa lk) pt<|V' (Zac lk (hga hn rfl) gt2) pt<|V' (Zau lk (hga hn rfl) Zkm rfl) pt<|E' (Zeh (ZhY (cvl lk rfl) rfl) (hl8 hn) ha8) pt<|?_
    refine E' (Zej (Zc9 lk (hga hn rfl) rfl Znj (nb' rfl)) lk (hga hn rfl) (Zhq _) (by omega) rfl (hs4 hn)) pt ?_
    refine V' (Zaa lk) pt<|E' (Zal lk (cvl lk rfl) (hga hn rfl) rfl (nb' rfl) rfl Zq6 (hs1 hn)) ptn<|Zas<|ZaF<|Zai<|wr'<|V' (Zaa lk) pt<|V' (Zac lk (hga hn rfl) gt1) pt<|mv' lk pt<|?_
    refine ZaL (t:=116) gt pt pt (fun hg116=>?_) (fun hg116=>?_)
    ·have hN:=Zbn hB (.inl hg116)
     refine s_no gt pt<|s_no gt pt<|s_no gt pt<|s_no gt pt<|V' (Zaj lk lkb) pt<|mv' lk pt<|s_no gt pt<|s_no gt pt<|s_no gt pt<|s_no gt pt<|s_no gt pt<|s_no gt pt<|s_no gt pt<|V' (Zaj lk lkb) pt<|?_
     refine sn'<|ZaG lk<|Zam<|Zco<|u_fr rfl (ZaB ZaM) pt<|u_fr rfl (v_mv lk) pt<|u_fr rfl (v_mv lk) pt<|?_
     refine u_fr rfl (Zbg lk lk Zbx (nb' rfl) ro (by omega) ro rfl) pt ?_
     refine u_fr rfl (ZcX lk dp0) pt<|u_fr rfl (ZaZ lk gt) pt<|?_
     refine u_st (Zal lk (cvl lk rfl) (hga hn rfl) rfl (nb' rfl) rfl Zbc (hs0 hn)) lk nh ptn ?_
     refine u_fr rfl (v_mv lk) pt<|u_fr rfl (v_mv lki) pt<|Zds<|Zai<|Zab<|Zaq<|Zak<|Zak<|Zaq<|Zak<|Zag (rsn (rm1 (rr_c gt (hga hn rfl) (ld1 Za3 rfl)) (rm1 (rr_t gt) (rm1 (rr_t gt) rm0))))<|rtW'<|?_
     have hP:ZaV s=(srcZ,L[k].1,1):=by rw [hV,outP,hrun,hN]
     rw [hP];exact ZbM
    refine s_do gt<|V' (Zaa lk) pt<|s_do gt<|V' (Zac lk (hga hn rfl) gt0) pt<|s_do gt<|V' (ZaK lk) pt<|s_do gt<|V' (ZbN lk lki) pt<|V' (Zah lk lk) pt<|mv' lk pt<|?_
    refine sp' (t:=122) gt pt pt (fun hg122=>?_) (fun hg122=>?_)
    ·have hN:=Zbn hB (.inr (.inl (by intro e;rw [e] at hg122;exact absurd hg122 (by decide))))
     refine s_no gt pt<|s_no gt pt<|s_no gt pt<|s_no gt pt<|s_no gt pt<|s_no gt pt<|s_no gt pt<|V' (Zaj lk lkb) pt<|sn'<|ZaG lk<|Zam<|Zco<|u_fr rfl (ZaB ZaM) pt<|?_
     refine u_fr rfl (v_mv lk) pt<|u_fr rfl (v_mv lk) pt<|?_
     refine u_fr rfl (Zbg lk lk Zbx (nb' rfl) ro (by omega) ro rfl) pt ?_
     refine u_fr rfl (ZcX lk dp0) pt<|u_fr rfl (ZaZ lk gt) pt<|?_
     refine u_st (Zal lk (cvl lk rfl) (hga hn rfl) rfl (nb' rfl) rfl Zbc (hs0 hn)) lk nh ptn ?_
     refine u_fr rfl (v_mv lk) pt<|u_fr rfl (v_mv lki) pt<|Zds<|Zai<|Zab<|Zaq<|Zak<|Zak<|Zaq<|Zak<|Zag (rsn (rm1 (rr_c gt (hga hn rfl) (ld1 Za3 rfl)) (rm1 (rr_t gt) (rm1 (rr_t gt) rm0))))<|rtW'<|?_
     have hP:ZaV s=(srcZ,L[k].1,1):=by rw [hV,outP,hrun,hN]
     rw [hP];exact ZbM
    refine s_do gt<|mv' lk pt<|s_do gt<|mv' lk pt<|s_do gt<|?_
    refine V' (Zbg lk lk Zbx (nb' rfl) ro (by omega) ro rfl) pt ?_
    refine s_do gt<|V' (ZcX lk dp1) pt<|s_do gt<|V' (ZaZ lk gt) pt<|s_do gt<|mv' lk pt<|s_do gt<|V' (ZdP lk lk) pt<|V' (Zah lk lk) pt<|sn'<|?_
    refine cd' lk (fun hc8=>?_) (fun hc8=>?_)
    ·have hN:=Zbn hB (.inr (.inr (by simpa using hc8)))
     refine Zam<|Zco<|u_fr rfl (ZaB ZaM) pt<|u_fr rfl (v_mv lk) pt<|u_fr rfl (v_mv lk) pt<|?_
     refine u_fr rfl (Zbg lk lk Zbx (nb' rfl) ro (by omega) ro rfl) pt ?_
     refine u_fr rfl (ZcX lk dp0) pt<|u_fr rfl (ZaZ lk gt) pt<|?_
     refine u_st (Zal lk (cvl lk rfl) (hga hn rfl) rfl (nb' rfl) rfl Zbc (hs0 hn)) lk nh ptn ?_
     refine u_fr rfl (v_mv lk) pt<|u_fr rfl (v_mv lki) pt<|Zds<|Zai<|Zab<|Zaq<|Zak<|Zak<|Zaq<|Zak<|Zag (rsn (rm1 (rr_c gt (hga hn rfl) (ld1 Za3 rfl)) (rm1 (rr_t gt) (rm1 (rr_t gt) rm0))))<|rtW'<|?_
     have hP:ZaV s=(srcZ,L[k].1,1):=by rw [hV,outP,hrun,hN]
     rw [hP];exact ZbM
    have hu1:u.2=false:=by simpa using hg116
    have hu2:u.1=[]:=List.eq_nil_of_length_eq_zero (by omega)
    have hS:=Zd2 hB hu1 hu2 (by simpa using hc8)
    rw [hS] at hrun
    have hokq:=hPT.1
    rw [hB] at hokq
    refine Zaf<|ZaF<|Zai<|Zar<|mv' lk pt<|?_
    refine V' (ZaE lk lki (by omega) (by omega)) pt ?_
    refine mv' lk pt<|Zas<|ZaI<|?_
    refine lU' (⟨k+1,(sr.1,sr.2.1,sr.2.2++[(n1,n2)]),none,sr.2.1.length,v1,v2,v3+1,v4⟩) (by (try dsimp only);exact ⟨by omega,by simp,by omega,by omega,by simp;omega,by simp [eC],hokq,hrun⟩) (by (try dsimp only);(try simp only [sm',Nat.reduceAdd]);exact bkE' 6 hn hlt (by repeat (first | exact wk0 | refine wka ?_ | refine wk1 rfl ?_ | refine wk1 (by first | rfl | exact ivx (by omega) | (simp;done) | exact bvx (by have h9:=hs68;unfold ZbP at h9;rw [h9];rfl) | exact bvx (by have h9:=hs106;unfold ZbP at h9;rw [h9];rfl) | exact bvx (by have h9:=hs68;unfold ZbP at h9;rw [Bool.not_eq_true] at h9;rw [h9];rfl) | exact bvx (by have h9:=hs106;unfold ZbP at h9;rw [Bool.not_eq_true] at h9;rw [h9];rfl)) ?_)) (by simp only [zonC,Zbo,Zbv,zC,eC,List.append_nil,List.length_append,List.length_singleton];rfl) (hT:=by first | rfl | (simp only [AV.lt,AV.ltL,Ent.lt,List.all_cons,List.all_nil,Bool.and_true,Bool.and_self,decide_true,Za4,Zbj,Zca,Za5,Zbd,Zdi,Zhe,lt26,lt36,lt46,lt56];done) | exact lt') (hE:=by first | rfl | (simp only [AV.lt,AV.ltL,Ent.lt,List.all_cons,List.all_nil,Bool.and_true,Bool.and_self,decide_true,Za4,Zbj,Zca,Za5,Zbd,Zdi,Zhe,lt26,lt36,lt46,lt56];done) | exact lt'))
   have hwL:¬w=ZgP:=hc7
   have hB:Zfc (curS sr none,false) (L[k].2.2,false)=((curS sr none,false),bad t1):=by unfold Zfc;rw [if_neg (by simp)];simp only [Zcn,e1,if_neg hwR,if_neg hwZ,if_neg hwL]
   have hN:=Zbn hB (.inl rfl)
   refine Zar<|V' (Zaa lk) pt<|E' (Zal lk (cvl lkb rfl) (hga hn rfl) rfl (nb' rfl) rfl Zf0 (hs6 hn)) ptn<|Zas<|ZaF<|Zai<|wr'<|V' (Zaa lk) pt<|V' (Zac lk (hga hn rfl) gt1) pt<|mv' lk pt<|s_no gt pt<|s_no gt pt<|s_no gt pt<|?_
   refine s_no gt pt<|V' (Zaj lk lkb) pt<|mv' lk pt<|s_no gt pt<|s_no gt pt<|s_no gt pt<|s_no gt pt<|s_no gt pt<|s_no gt pt<|s_no gt pt<|V' (Zaj lk lkb) pt<|sn'<|ZaG lk<|?_
   refine Zam<|Zco<|u_fr rfl (ZaB ZaM) pt<|u_fr rfl (v_mv lk) pt<|u_fr rfl (v_mv lk) pt<|?_
   refine u_fr rfl (Zbg lk lk Zbx (nb' rfl) ro (by omega) ro rfl) pt ?_
   refine u_fr rfl (ZcX lk dp0) pt<|u_fr rfl (ZaZ lk gt) pt<|?_
   refine u_st (Zal lk (cvl lk rfl) (hga hn rfl) rfl (nb' rfl) rfl Zbc (hs0 hn)) lk nh ptn ?_
   refine u_fr rfl (v_mv lk) pt<|u_fr rfl (v_mv lki) pt<|Zds<|Zai<|Zab<|Zaq<|Zak<|Zak<|Zaq<|Zak<|Zag (rsn (rm1 (rr_c gt (hga hn rfl) (ld1 Za3 rfl)) (rm1 (rr_t gt) (rm1 (rr_t gt) rm0))))<|rtW'<|?_
   have hP:ZaV s=(srcZ,L[k].1,1):=by rw [hV,outP,hrun,hN]
   rw [hP];exact ZbM
  obtain ⟨z,rfl⟩:=Option.ne_none_iff_exists'.1 hs36
  simp only [Option.isSome_some] at hrun hPT
  have hm':m=sr.2.1.length+1:=by simpa using hm
  have hk5':z.2.length≤k:=hk5
  obtain ⟨x,u,eE⟩ : ∃ a b,tEra (L[k].2.2,false)=(a,b):=⟨_,_,rfl⟩
  have hB:Zfc (curS sr (some z),true) (L[k].2.2,false)=(ZbY (curS sr (some z)) x,u):=by unfold Zfc;rw [if_pos rfl];simp only [Zcn,ret2,eE]
  have hw:ZbY (curS sr (some z)) x=((sr.1,sr.2.1++[(z.1,z.2++[x])],sr.2.2),!ZbP x):=by unfold ZbY curS;rw [show sr.2.1++(some z).toList=sr.2.1++[z] from rfl,Zc3]
  refine mv' lk pt<|mv' lk pt<|sn'<|wr'<|mv' lks pt<|sn'<|Zam<|wr'<|mv' lk pt<|?_
  refine V' ((by first | exact Zju lk | exact Zav lk)) pt ?_
  refine sn' ?_
  refine ZcD lk (by rfl) ?_
  refine Zaf<|Zai<|Zam<|Zao<|wr'<|mv' lk pt<|mv' lk pt<|sn'<|?_
  refine ZcW lk (by rfl) ?_
  refine wr'<|V' (Zaa lk) pt<|V' (Zac lk (hga hn rfl) gt1) pt<|V' (Zdr lk) pt<|?_
  refine V' (ZcC lk lki (by omega) (by omega)) pt ?_
  refine mv' lk pt<|sn'<|wr'<|ZaA mp (tera_e hokt eE (hga hn rfl)) (hs6 hn) pt<|E' (Zbq (hl7 hn) ha7) pt<|E' (Zal lk (cvl lk rfl) (hga hn rfl) rfl (nb' rfl) rfl Zi9 (hs7 hn)) ptn<|sn'<|Zam<|Zl8 [N+1]<|D' (Zaa lk) pt<|?_
  refine d_ldP lk (hga hn rfl) (ld0 gt) (by simp) pt ?_
  refine D' (v_mv lk) pt<|D' (Zaa lk) pt<|D' (Zac lk (hga hn rfl) gt1) pt<|D' (v_mv lk) pt<|?_
  refine D' (ZkJ lk lk (hga hn rfl) (nb' rfl) (by omega) (by omega) (by rw [ZlZ];simp;omega)) pt ?_
  refine D' (Zcv lk) pt ?_
  refine D' (Zac lk (hga hn rfl) (Zl0 (by omega))) pt ?_
  refine D' (Zau lk (hga hn rfl) Zi8 rfl) pt<|ZqW rfl rfl (hlk hn rfl) (ZqM (Zjd (cvl lk rfl) rfl)) pt Zt1<|Zbt<|Zti Zq7<|?_
  refine Zlo rfl rfl (Zej (Zc9 lk (hga hn rfl) rfl Zkl (nb' rfl)) lk (hga hn rfl) (Ze6 _) (by omega) rfl (hs5 hn)) (by intro i hi;simp only [cond_true,List.mem_cons,List.not_mem_nil,or_false] at hi;subst hi;first | rfl | exact (hga hn rfl).trans (hga hn rfl).symm) pt ?_
  refine Zln rfl (ZkJ lk lk (hga hn rfl) (nb' rfl) (by omega) (by omega) (by rw [ZlZ];simp;omega)) pt ?_
  refine Zln rfl (Zcv lk) pt ?_
  refine Zlo rfl rfl (Zal lk (cvl lk rfl) (hga hn rfl) rfl (by rw [ZlZ];simp;omega) rfl (Zpc (by omega)) (hs3 hn)) (by intro i hi;simp at hi) ptn ?_
  refine ZqN<|Zai<|Zar<|?_
  by_cases hs68:ZbP x=true
  ·have hq:ZbY (curS sr (some z)) x=(curS (sr.1,sr.2.1++[(z.1,z.2++[x])],sr.2.2) none,false):=by rw [hw,hs68,ZcL];rfl
   refine V' (Zaa lk) pt<|V' (Zac lk (hga hn rfl) gt4) pt<|V' (Zav lk) pt<|mv' lk pt<|Zas<|ZaF<|Zai<|wr'<|V' (Zaa lk) pt<|V' (Zac lk (hga hn rfl) gt1) pt<|mv' lk pt<|?_
   refine ZaL (t:=116) gt pt pt (fun hg116=>?_) (fun hg116=>?_)
   ·have hN:=Zbn hB (.inl hg116)
    refine s_no gt pt<|s_no gt pt<|s_no gt pt<|s_no gt pt<|V' (Zaj lk lkb) pt<|mv' lk pt<|s_no gt pt<|s_no gt pt<|s_no gt pt<|s_no gt pt<|s_no gt pt<|s_no gt pt<|s_no gt pt<|V' (Zaj lk lkb) pt<|?_
    refine sn'<|ZaG lk<|Zam<|Zco<|u_fr rfl (ZaB ZaM) pt<|u_fr rfl (v_mv lk) pt<|u_fr rfl (v_mv lk) pt<|?_
    refine u_fr rfl (Zbg lk lk Zbx (nb' rfl) ro (by omega) ro rfl) pt ?_
    refine u_fr rfl (ZcX lk dp0) pt<|u_fr rfl (ZaZ lk gt) pt<|?_
    refine u_st (Zal lk (cvl lk rfl) (hga hn rfl) rfl (nb' rfl) rfl Zbc (hs0 hn)) lk nh ptn ?_
    refine u_fr rfl (v_mv lk) pt<|u_fr rfl (v_mv lki) pt<|Zds<|Zai<|Zab<|Zaq<|Zak<|Zak<|Zaq<|Zak<|Zag (rsn (rm1 (rr_c gt (hga hn rfl) (ld1 Za3 rfl)) (rm1 (rr_t gt) (rm1 (rr_t gt) rm0))))<|rtW'<|?_
    have hP:ZaV s=(srcZ,L[k].1,1):=by rw [hV,outP,hrun,hN]
    rw [hP];exact ZbM
   refine s_do gt<|V' (Zaa lk) pt<|s_do gt<|V' (Zac lk (hga hn rfl) gt0) pt<|s_do gt<|V' (ZaK lk) pt<|s_do gt<|V' (ZbN lk lki) pt<|V' (Zah lk lk) pt<|mv' lk pt<|?_
   refine sp' (t:=122) gt pt pt (fun hg122=>?_) (fun hg122=>?_)
   ·have hN:=Zbn hB (.inr (.inl (by intro e;rw [e] at hg122;exact absurd hg122 (by decide))))
    refine s_no gt pt<|s_no gt pt<|s_no gt pt<|s_no gt pt<|s_no gt pt<|s_no gt pt<|s_no gt pt<|V' (Zaj lk lkb) pt<|sn'<|ZaG lk<|Zam<|Zco<|u_fr rfl (ZaB ZaM) pt<|?_
    refine u_fr rfl (v_mv lk) pt<|u_fr rfl (v_mv lk) pt<|?_
    refine u_fr rfl (Zbg lk lk Zbx (nb' rfl) ro (by omega) ro rfl) pt ?_
    refine u_fr rfl (ZcX lk dp0) pt<|u_fr rfl (ZaZ lk gt) pt<|?_
    refine u_st (Zal lk (cvl lk rfl) (hga hn rfl) rfl (nb' rfl) rfl Zbc (hs0 hn)) lk nh ptn ?_
    refine u_fr rfl (v_mv lk) pt<|u_fr rfl (v_mv lki) pt<|Zds<|Zai<|Zab<|Zaq<|Zak<|Zak<|Zaq<|Zak<|Zag (rsn (rm1 (rr_c gt (hga hn rfl) (ld1 Za3 rfl)) (rm1 (rr_t gt) (rm1 (rr_t gt) rm0))))<|rtW'<|?_
    have hP:ZaV s=(srcZ,L[k].1,1):=by rw [hV,outP,hrun,hN]
    rw [hP];exact ZbM
   refine s_do gt<|mv' lk pt<|s_do gt<|mv' lk pt<|s_do gt<|?_
   refine V' (Zbg lk lk Zbx (nb' rfl) ro (by omega) ro rfl) pt ?_
   refine s_do gt<|V' (ZcX lk dp1) pt<|s_do gt<|V' (ZaZ lk gt) pt<|s_do gt<|mv' lk pt<|s_do gt<|V' (ZdP lk lk) pt<|V' (Zah lk lk) pt<|sn'<|?_
   refine cd' lk (fun hc8=>?_) (fun hc8=>?_)
   ·have hN:=Zbn hB (.inr (.inr (by simpa using hc8)))
    refine Zam<|Zco<|u_fr rfl (ZaB ZaM) pt<|u_fr rfl (v_mv lk) pt<|u_fr rfl (v_mv lk) pt<|?_
    refine u_fr rfl (Zbg lk lk Zbx (nb' rfl) ro (by omega) ro rfl) pt ?_
    refine u_fr rfl (ZcX lk dp0) pt<|u_fr rfl (ZaZ lk gt) pt<|?_
    refine u_st (Zal lk (cvl lk rfl) (hga hn rfl) rfl (nb' rfl) rfl Zbc (hs0 hn)) lk nh ptn ?_
    refine u_fr rfl (v_mv lk) pt<|u_fr rfl (v_mv lki) pt<|Zds<|Zai<|Zab<|Zaq<|Zak<|Zak<|Zaq<|Zak<|Zag (rsn (rm1 (rr_c gt (hga hn rfl) (ld1 Za3 rfl)) (rm1 (rr_t gt) (rm1 (rr_t gt) rm0))))<|rtW'<|?_
    have hP:ZaV s=(srcZ,L[k].1,1):=by rw [hV,outP,hrun,hN]
    rw [hP];exact ZbM
   have hu1:u.2=false:=by simpa using hg116
   have hu2:u.1=[]:=List.eq_nil_of_length_eq_zero (by omega)
   have hS:=Zd2 hB hu1 hu2 (by simpa using hc8)
   rw [hS] at hrun
   have hokq:=hPT.1
   rw [hB] at hokq
   refine Zaf<|ZaF<|?_
   refine ZbQ ((ALe.iceCellNew (ds:=rows eraC (z.2++[x])) (k:=sr.2.1.length*2+1) (ty2:=64) (st2:=10) (hga hn rfl) (hga hn rfl) (by omega) (Zl0 rfl) (by rw [Zbo,Zbv];exact List.take_of_length_le (by simp [Ze6,eC];omega)) (by simp [Ze6,eC];omega) ZlY (hs5 hn) (hs3 hn))) ?_
   refine Zar<|mv' lk pt<|?_
   refine V' (ZaE lk lki (by omega) (by omega)) pt ?_
   refine mv' lk pt<|Zas<|ZaI<|?_
   refine lU' (⟨k+1,(sr.1,sr.2.1++[(z.1,z.2++[x])],sr.2.2),none,m,v1,v2,v3,v4+2⟩) (by (try dsimp only);rw [hq] at hrun hokq;exact ⟨by omega,by simp;omega,by omega,by omega,by omega,by simp [eC],hokq,hrun⟩) (by (try dsimp only);(try simp only [sm',Nat.reduceAdd]);exact bkE' 6 hn hlt (by repeat (first | exact wk0 | refine wka ?_ | refine wk1 rfl ?_ | refine wk1 (by first | rfl | exact ivx (by omega) | (simp;done) | exact bvx (by have h9:=hs68;unfold ZbP at h9;rw [h9];rfl) | exact bvx (by have h9:=hs106;unfold ZbP at h9;rw [h9];rfl) | exact bvx (by have h9:=hs68;unfold ZbP at h9;rw [Bool.not_eq_true] at h9;rw [h9];rfl) | exact bvx (by have h9:=hs106;unfold ZbP at h9;rw [Bool.not_eq_true] at h9;rw [h9];rfl)) ?_)) (by simp only [zonC,Zbo,Zbv,zC,eC,List.append_nil,List.length_append,List.length_singleton];rfl) (hT:=by first | rfl | (simp only [AV.lt,AV.ltL,Ent.lt,List.all_cons,List.all_nil,Bool.and_true,Bool.and_self,decide_true,Za4,Zbj,Zca,Za5,Zbd,Zdi,Zhe,lt26,lt36,lt46,lt56];done) | exact lt') (hE:=by first | rfl | (simp only [AV.lt,AV.ltL,Ent.lt,List.all_cons,List.all_nil,Bool.and_true,Bool.and_self,decide_true,Za4,Zbj,Zca,Za5,Zbd,Zdi,Zhe,lt26,lt36,lt46,lt56];done) | exact lt'))
  have hq:ZbY (curS sr (some z)) x=(curS sr (some (z.1,z.2++[x])),true):=by rw [hw,show ZbP x=false by simpa using hs68];rfl
  refine V' (Zaa lk) pt<|V' (Zac lk (hga hn rfl) gt4) pt<|V' (Zav lk) pt<|mv' lk pt<|Zas<|ZaF<|Zai<|wr'<|V' (Zaa lk) pt<|V' (Zac lk (hga hn rfl) gt1) pt<|mv' lk pt<|?_
  refine ZaL (t:=116) gt pt pt (fun hg116=>?_) (fun hg116=>?_)
  ·have hN:=Zbn hB (.inl hg116)
   refine s_no gt pt<|s_no gt pt<|s_no gt pt<|s_no gt pt<|V' (Zaj lk lkb) pt<|mv' lk pt<|s_no gt pt<|s_no gt pt<|s_no gt pt<|s_no gt pt<|s_no gt pt<|s_no gt pt<|s_no gt pt<|V' (Zaj lk lkb) pt<|?_
   refine sn'<|ZaG lk<|Zam<|Zco<|u_fr rfl (ZaB ZaM) pt<|u_fr rfl (v_mv lk) pt<|u_fr rfl (v_mv lk) pt<|?_
   refine u_fr rfl (Zbg lk lk Zbx (nb' rfl) ro (by omega) ro rfl) pt ?_
   refine u_fr rfl (ZcX lk dp0) pt<|u_fr rfl (ZaZ lk gt) pt<|?_
   refine u_st (Zal lk (cvl lk rfl) (hga hn rfl) rfl (nb' rfl) rfl Zbc (hs0 hn)) lk nh ptn ?_
   refine u_fr rfl (v_mv lk) pt<|u_fr rfl (v_mv lki) pt<|Zds<|Zai<|Zab<|Zaq<|Zak<|Zak<|Zaq<|Zak<|Zag (rsn (rm1 (rr_c gt (hga hn rfl) (ld1 Za3 rfl)) (rm1 (rr_t gt) (rm1 (rr_t gt) rm0))))<|rtW'<|?_
   have hP:ZaV s=(srcZ,L[k].1,1):=by rw [hV,outP,hrun,hN]
   rw [hP];exact ZbM
  refine s_do gt<|V' (Zaa lk) pt<|s_do gt<|V' (Zac lk (hga hn rfl) gt0) pt<|s_do gt<|V' (ZaK lk) pt<|s_do gt<|V' (ZbN lk lki) pt<|V' (Zah lk lk) pt<|mv' lk pt<|?_
  refine sp' (t:=122) gt pt pt (fun hg122=>?_) (fun hg122=>?_)
  ·have hN:=Zbn hB (.inr (.inl (by intro e;rw [e] at hg122;exact absurd hg122 (by decide))))
   refine s_no gt pt<|s_no gt pt<|s_no gt pt<|s_no gt pt<|s_no gt pt<|s_no gt pt<|s_no gt pt<|V' (Zaj lk lkb) pt<|sn'<|ZaG lk<|Zam<|Zco<|u_fr rfl (ZaB ZaM) pt<|?_
   refine u_fr rfl (v_mv lk) pt<|u_fr rfl (v_mv lk) pt<|?_
   refine u_fr rfl (Zbg lk lk Zbx (nb' rfl) ro (by omega) ro rfl) pt ?_
   refine u_fr rfl (ZcX lk dp0) pt<|u_fr rfl (ZaZ lk gt) pt<|?_
   refine u_st (Zal lk (cvl lk rfl) (hga hn rfl) rfl (nb' rfl) rfl Zbc (hs0 hn)) lk nh ptn ?_
   refine u_fr rfl (v_mv lk) pt<|u_fr rfl (v_mv lki) pt<|Zds<|Zai<|Zab<|Zaq<|Zak<|Zak<|Zaq<|Zak<|Zag (rsn (rm1 (rr_c gt (hga hn rfl) (ld1 Za3 rfl)) (rm1 (rr_t gt) (rm1 (rr_t gt) rm0))))<|rtW'<|?_
   have hP:ZaV s=(srcZ,L[k].1,1):=by rw [hV,outP,hrun,hN]
   rw [hP];exact ZbM
  refine s_do gt<|mv' lk pt<|s_do gt<|mv' lk pt<|s_do gt<|?_
  refine V' (Zbg lk lk Zbx (nb' rfl) ro (by omega) ro rfl) pt ?_
  refine s_do gt<|V' (ZcX lk dp1) pt<|s_do gt<|V' (ZaZ lk gt) pt<|s_do gt<|mv' lk pt<|s_do gt<|V' (ZdP lk lk) pt<|V' (Zah lk lk) pt<|sn'<|?_
  refine cd' lk (fun hc8=>?_) (fun hc8=>?_)
  ·have hN:=Zbn hB (.inr (.inr (by simpa using hc8)))
   refine Zam<|Zco<|u_fr rfl (ZaB ZaM) pt<|u_fr rfl (v_mv lk) pt<|u_fr rfl (v_mv lk) pt<|?_
   refine u_fr rfl (Zbg lk lk Zbx (nb' rfl) ro (by omega) ro rfl) pt ?_
   refine u_fr rfl (ZcX lk dp0) pt<|u_fr rfl (ZaZ lk gt) pt<|?_
   refine u_st (Zal lk (cvl lk rfl) (hga hn rfl) rfl (nb' rfl) rfl Zbc (hs0 hn)) lk nh ptn ?_
   refine u_fr rfl (v_mv lk) pt<|u_fr rfl (v_mv lki) pt<|Zds<|Zai<|Zab<|Zaq<|Zak<|Zak<|Zaq<|Zak<|Zag (rsn (rm1 (rr_c gt (hga hn rfl) (ld1 Za3 rfl)) (rm1 (rr_t gt) (rm1 (rr_t gt) rm0))))<|rtW'<|?_
   have hP:ZaV s=(srcZ,L[k].1,1):=by rw [hV,outP,hrun,hN]
   rw [hP];exact ZbM
  have hu1:u.2=false:=by simpa using hg116
  have hu2:u.1=[]:=List.eq_nil_of_length_eq_zero (by omega)
  have hS:=Zd2 hB hu1 hu2 (by simpa using hc8)
  rw [hS] at hrun
  have hokq:=hPT.1
  rw [hB] at hokq
  refine Zaf<|ZaF<|Zai<|Zar<|mv' lk pt<|?_
  refine V' (ZaE lk lki (by omega) (by omega)) pt ?_
  refine mv' lk pt<|Zas<|ZaI<|?_
  refine lU' (⟨k+1,sr,some (z.1,z.2++[x]),m,v1,v2,v3,v4+1⟩) (by (try dsimp only);rw [hq] at hrun hokq;exact ⟨by omega,by simp;omega,by omega,by omega,by omega,by simp [eC] at hk5 ⊢;omega,hokq,hrun⟩) (by (try dsimp only);(try simp only [sm',Nat.reduceAdd]);exact bkE' 6 hn hlt (by repeat (first | exact wk0 | refine wka ?_ | refine wk1 rfl ?_ | refine wk1 (by first | rfl | exact ivx (by omega) | (simp;done) | exact bvx (by have h9:=hs68;unfold ZbP at h9;rw [h9];rfl) | exact bvx (by have h9:=hs106;unfold ZbP at h9;rw [h9];rfl) | exact bvx (by have h9:=hs68;unfold ZbP at h9;rw [Bool.not_eq_true] at h9;rw [h9];rfl) | exact bvx (by have h9:=hs106;unfold ZbP at h9;rw [Bool.not_eq_true] at h9;rw [h9];rfl)) ?_)) (by simp only [zonC,Zbo,Zbv,zC,eC,List.append_nil,List.length_append,List.length_singleton];rfl) (hT:=by first | rfl | (simp only [AV.lt,AV.ltL,Ent.lt,List.all_cons,List.all_nil,Bool.and_true,Bool.and_self,decide_true,Za4,Zbj,Zca,Za5,Zbd,Zdi,Zhe,lt26,lt36,lt46,lt56];done) | exact lt') (hE:=by first | rfl | (simp only [AV.lt,AV.ltL,Ent.lt,List.all_cons,List.all_nil,Bool.and_true,Bool.and_self,decide_true,Za4,Zbj,Zca,Za5,Zbd,Zdi,Zhe,lt26,lt36,lt46,lt56];done) | exact lt'))
 have hke:k=L.length:=by omega
 rw [List.drop_of_length_le (by omega),runR] at hrun
 have hV2:ZaV s=endP (curS sr o,o.isSome):=by rw [hV,outP,hrun]
 refine Za0<|ZaO<|ZaO<|Zbp<|Zai<|Zam<|wr'<|mv' lk pt<|sn'<|?_
 refine cd' lk (fun hc9=>?_) (fun hc9=>?_)
 ·have hP:ZaV s=(srcZ,0,1):=by rw [hV2];exact if_pos hc9
  refine wr'<|V' (ZaB ZhX) pt<|E' (Zal lk (cvl lk rfl) (hga hn rfl) rfl (nb' rfl) rfl Zbc (hs0 hn)) ptn<|mv' lki pt<|mv' lki pt<|sn'<|Zab<|Zak<|Zag (rsn (rm1 (rr_c gt (hga hn rfl) (ld1 Za3 rfl)) (rm1 (rr_t gt) (rm1 (rr_t gt) rm0))))<|rtW'<|?_
  rw [hP];exact ZbM
 obtain rfl:o=none:=by cases o;rfl;cases hc9
 have hm':m=sr.2.1.length:=by simpa using hm
 subst hm'
 rw [ZcL] at hok hV2
 refine Zaf ?_
 refine ZbQ ((ALe.trans (ALe.iceCellR (ds:=rows rulC sr.1) (hga hn rfl) (hga hn rfl) (by omega) gt0 (List.take_of_length_le (by rw [Zhm];exact Nat.le_refl _)) (by rw [Zhm];exact Nat.le_refl _) pt0 (hs2 hn) (hs1 hn)) (ALe.trans (ALe.iceCellR (ds:=rows zonC sr.2.1) (hga hn rfl) (hga hn rfl) (by omega) gt1 (by rw [show rows zonC sr.2.1++zC N v4 none=rows zonC sr.2.1 from List.append_nil _];exact List.take_of_length_le (by rw [ZdG];exact Nat.le_refl _)) (by rw [ZlZ];simp) pt1 (hs3 hn) (hs1 hn)) (ALe.iceCellR (ds:=rows lnkC sr.2.2) (hga hn rfl) (hga hn rfl) (by omega) gt2 (List.take_of_length_le (by rw [Zhq];exact Nat.le_refl _)) (by rw [Zhq];exact Nat.le_refl _) pt2 (hs4 hn) (hs1 hn))))) ?_
 refine wr'<|V' (Zau lk (hga hn rfl) Za3 rfl) pt<|Zae mp (ZsG (a:=sr.1) (z:=sr.2.1) (l:=sr.2.2) hok) pt<|mv' lk pt<|sn'<|Zam<|wr'<|mv' lk pt<|V' (Za6 lk lki) pt<|sn'<|?_
 refine cd' lk (fun hc10=>?_) (fun hc10=>?_)
 ·have hP:ZaV s=(srcZ,0,ZbT sr):=by rw [hV2,endP,if_neg (by simp)];exact if_pos hc10
  refine wr'<|V' (ZaB ZhW) pt<|mv' lk pt<|E' (Zal lk (cvl lk rfl) (hga hn rfl) rfl (nb' rfl) rfl Zbc (hs0 hn)) ptn<|mv' lki pt<|mv' lk pt<|sn'<|Zab<|Zak<|Zag (rsn (rm1 (rr_c gt (hga hn rfl) (ld1 Za3 rfl)) (rm1 (rr_t gt) (rm1 (rr_t gt) rm0))))<|rtW'<|?_
  rw [hP];exact ZbM
 have h0:ZbT sr=0:=Decidable.of_not_not hc10
 have hP:ZaV s=(sr,0,0):=by rw [hV2,endP,if_neg (by simp)];exact if_neg hc10
 refine Zaf<|Zai<|wr'<|V' (Zau lk (hga hn rfl) Za3 rfl) pt<|mv' lk pt<|E' (Zal lk (cvl lk rfl) (hga hn rfl) rfl (nb' rfl) rfl Zbc (hs0 hn)) ptn<|mv' lki pt<|mv' lk pt<|sn'<|Zab<|Zag (rsn (rm1 (rr_c gt (hga hn rfl) (ld1 Za3 rfl)) (rm1 (rr_t gt) (rm1 (rr_t gt) rm0))))<|rtW'<|?_
 rw [hP];exact Wk.tup (wk1 rfl (wk1 rfl (wk1 (ivx h0.symm) wk0)))
end Go.Proofs.YtgjchdhdopgkkaaGreatDoor
end
section
namespace Go.Proofs.YtgjchdhdopgkkaaGreatDoor
open Go.Ab Go.RowKit Civ
attribute [local simp] Za4 Zbj Zca Za5 Zbd Zdi lt26 lt36 lt46 lt56
section
theorem ZjC {τ:Operand→AV}:Zat τ [] [(.sl 0 0 true []),(.sl 0 0 true []),(.sl 0 0 true [])]=some [(.sl 0 0 true []),(.sl 0 0 true []),(.sl 0 0 true [])]:=rfl
theorem Zdo {a0 a1 a2 c0 c1 c2:AV}{l:List AV}:setCells (a0::a1::a2::l) 0 [c0,c1,c2]=c0::c1::c2::l:=rfl
theorem ZcN {a0 a1 a2:AV}{l:List AV}:((a0::a1::a2::l).drop 0).take 3=[a0,a1,a2]:=rfl
theorem ZjB {τ:Operand→AV}:Zat τ [] [(.sl 0 0 true []),(.sl 0 0 true []),(.sl 0 0 true []),(.v (.bool false))]=some [(.sl 0 0 true []),(.sl 0 0 true []),(.sl 0 0 true []),(.v (.bool false))]:=rfl
theorem Zrf {a0 a1 a2:AV}{l:List AV}:(a0::a1::a2::l).take 3=[a0,a1,a2]:=rfl
theorem ZjA {τ:Operand→AV}:Zat τ [] [(.sl 0 0 true []),(.sl 0 0 true []),(.sl 0 0 true [])]=some [(.sl 0 0 true []),(.sl 0 0 true []),(.sl 0 0 true [])]:=rfl
theorem Zgd {τ:Operand→AV}:Zat τ [] [(.sl 0 0 true []),(.sl 0 0 true []),(.sl 0 0 true [])]=some [(.sl 0 0 true []),(.sl 0 0 true []),(.sl 0 0 true [])]:=rfl
end
def c16:AC:=(Sr [Oo 2 (.new 26 3 [(.sl 0 0 true []),(.sl 0 0 true []),(.sl 0 0 true [])]),Mc 3 0,Mc 4 0] (Sr [Mv 12 0,Cl 13 39 [(.tmp 12)],Mv 11 13,Ex 14 11 0,Ex 15 11 1,Ex 16 11 2,Mv 5 14,Mv 6 15,Mv 7 16] (.seq (Sr [Mv 17 7,Bc 18 .neq 17 0] (Cd 18 (Sr [Oo 19 (.build [(.sl 0 0 true []),(.sl 0 0 true []),(.sl 0 0 true [])] []),Mv 20 6,Mv 21 7,⟨none,none,(.store 3 (.tmp 2) (.tmp 19))⟩,Mv 3 20,Mv 4 21] .ret) .skip)) (Sr [Oo 22 (.build [(.sl 0 0 true []),(.sl 0 0 true []),(.sl 0 0 true []),(.v (.bool false))] []),Oo 23 (.box 81 4 (.tmp 22)),Mv 8 23] (.seq (Sr [Mv 24 5,Oo 25 (.len false (.tmp 24)),Mc 26 0] (.block 0 (.loop (Sr [Bn 27 .lss 26 25] (.seq (Cd 27 .skip (.exit 0)) (.seq (.block 1 (Sr [Oo 28 (.ia 3 (.tmp 24) (.tmp 26)),Oo 29 (.load true 3 (.tmp 28)),Oo 10 (.new 67 3 [(iv 0),(.v (.bool false)),(.sl 0 0 true [])]),⟨none,none,(.store 3 (.tmp 10) (.tmp 29))⟩] (Sr [Mv 30 8,Oo 31 (.load true 3 (.tmp 10)),Cl 32 40 [(.tmp 30),(.tmp 31)],Oo 33 (.un .not (.tmp 32))] (Cd 33 (.seq (.drw [Oo 34 (.build [(.sl 0 0 true []),(.sl 0 0 true []),(.sl 0 0 true [])] []),Fa 35 0 10,Oo 36 (.loadR false 1 (.tmp 35))] [true,false,false] [⟨none,none,(.store 3 (.tmp 2) (.tmp 34))⟩,Mv 3 36,Mc 4 1]) .ret) .skip)))) (.reg [Bc 37 .add 26 1,Mv 26 37]))))))) (Sr [Mc 7 1] (.seq (Sr [Mv 38 8,Nk 39 38,Fa 40 3 39,Ld 41 40,Oo 42 (.un .not (.tmp 41))] (Cd 42 (.reg [Mv 43 8,Nk 44 43,Fa 45 0 44,Oo 46 (.load true 3 (.tmp 45)),Cl 47 17 [(.tmp 46)],Mv 7 47]) .skip)) (.seq (Sr [Mv 48 7,Bc 49 .neq 48 0] (Cd 49 (Sr [Oo 50 (.build [(.sl 0 0 true []),(.sl 0 0 true []),(.sl 0 0 true [])] []),Mv 51 7,⟨none,none,(.store 3 (.tmp 2) (.tmp 50))⟩,Mc 3 0,Mv 4 51] .ret) .skip)) (Sr [Mv 52 8,Nk 53 52,Fa 54 0 53,Oo 55 (.load true 3 (.tmp 54)),⟨none,none,(.store 3 (.tmp 2) (.tmp 55))⟩,Mc 3 0,Mc 4 0] .ret)))))))))
theorem k16:ZaH Tryz.prog 16=some ⟨c16,[(.cell 2 true 3),(.tmp 3),(.tmp 4)],56⟩:=by kernel_rfl
theorem pread_e {h:AH}{N:Nat}(hn:h.length=N) {e0 a:Ent}{sr:Src}{o:Option Zon}{m v1 v2 v3 v4:Nat}{x:Ln}{q:PS}(hm:m=sr.2.1.length+o.toList.length) (ho:okL x.2.2) (hb1:sr.1.length≤200) (hb2:m≤200) (hb3:sr.2.2.length≤200) (hb4:(eC o).length≤200) (hb5:x.2.2.length≤100000) (e:Zch (curS sr o,o.isSome) x=some q) :
  ACalls Tryz.prog 40 [.ptr (N+1) 0 0,.agg (lnC x)] (h++[e0,.mk 0 81 4 [.own (N+2) v1 sr.1.length,.own (N+3) v2 m,.own (N+4) v3 sr.2.2.length,bv o.isSome],.mk v1 48 11 (rows rulC sr.1),.mk v2 52 2 (rows zonC sr.2.1++zP (N+1) v4 o),.mk v3 55 2 (rows lnkC sr.2.2),.mk v4 64 10 (rows eraC (eC o)),a]) fun y h'=>y=.ret (bv true) ∧ ∃ i:SI,JP sr o q i∧h'=h++[e0,.mk 0 81 4 [.own (N+2) i.2.2.2.1 i.1.1.length,.own (N+3) i.2.2.2.2.1 i.2.2.1,.own (N+4) i.2.2.2.2.2.1 i.1.2.2.length,bv i.2.1.isSome],.mk i.2.2.2.1 48 11 (rows rulC i.1.1),.mk i.2.2.2.2.1 52 2 (rows zonC i.1.2.1++zP (N+1) i.2.2.2.2.2.2 i.2.1),.mk i.2.2.2.2.2.1 55 2 (rows lnkC i.1.2.2),.mk i.2.2.2.2.2.2 64 10 (rows eraC (eC i.2.1)),a]:=by
 have:=ZmF (h0:=h++[e0]) (M:=N+1) (a:=a) (v1:=v1) (v2:=v2) (v3:=v3) (v4:=v4) (by simp [hn]) hm ho hb1 hb2 hb3 hb4 hb5
 rw [e,List.append_assoc] at this
 refine this.mono ?_
 rintro y h' ⟨rfl,i,hJ,rfl⟩
 exact ⟨rfl,i,hJ,List.append_assoc _ _ _⟩
theorem pread_n {h:AH}{N:Nat}(hn:h.length=N) {e0 a:Ent}{sr:Src}{o:Option Zon}{m v1 v2 v3 v4:Nat}{x:Ln}(hm:m=sr.2.1.length+o.toList.length) (ho:okL x.2.2) (hb1:sr.1.length≤200) (hb2:m≤200) (hb3:sr.2.2.length≤200) (hb4:(eC o).length≤200) (hb5:x.2.2.length≤100000) (e:Zch (curS sr o,o.isSome) x=none) :
  ACalls Tryz.prog 40 [.ptr (N+1) 0 0,.agg (lnC x)] (h++[e0,.mk 0 81 4 [.own (N+2) v1 sr.1.length,.own (N+3) v2 m,.own (N+4) v3 sr.2.2.length,bv o.isSome],.mk v1 48 11 (rows rulC sr.1),.mk v2 52 2 (rows zonC sr.2.1++zP (N+1) v4 o),.mk v3 55 2 (rows lnkC sr.2.2),.mk v4 64 10 (rows eraC (eC o)),a]) fun y h'=>y=.ret (bv false) ∧ ∃ p:Ent×Ent×Ent×Ent×Ent,(∀ e∈[p.1,p.2.1,p.2.2.1,p.2.2.2.1,p.2.2.2.2],e.lt (N+1+5)=true)∧h'=h++[e0,p.1,p.2.1,p.2.2.1,p.2.2.2.1,p.2.2.2.2,a]:=by
 have:=ZmF (h0:=h++[e0]) (M:=N+1) (a:=a) (v1:=v1) (v2:=v2) (v3:=v3) (v4:=v4) (by simp [hn]) hm ho hb1 hb2 hb3 hb4 hb5
 rw [e,List.append_assoc] at this
 refine this.mono ?_
 rintro y h' ⟨rfl,i,hJ,rfl⟩
 exact ⟨rfl,i,hJ,List.append_assoc _ _ _⟩
theorem Zqu {s:ByteArray} : ∀ x∈(ZbB s).1,x.2.2.length≤12:=by
 intro x hx
 have h:=Zin x hx
 unfold ZcS at h
 split at h
 ·cases h
 split at h
 ·cases h
 omega
theorem ZmU {p q:PS}{x:Ln}(hok:ZeJ p.1) (ho:okL x.2.2) (e:Zch p x=some q):ZeJ q.1:=by
 by_cases hb:badT p x
 ·rw [ZmV hb] at e;cases e
 rw [ZpS hb] at e
 cases e
 exact (ZsJ hok (x.2.2,false) ho).1
theorem ZrR {N v:Nat}{l:List Zon}{o:Option Zon}:AV.ltL (N+6) (rows zonC l++zP (N+1) v o)=true:=by
 have:=ZcP (M:=N+1) (v:=v) (l:=l) (o:=o)
 exact this
attribute [local simp] ZrR
theorem Zh1 {s:ByteArray}{h:AH}:Ac 16 [sv s] h (.tup [.agg (srcC (ZaV s).1),iv (ZaV s).2.1,iv (ZaV s).2.2]):=by
 obtain ⟨L,hL⟩ : ∃ L,L=(ZbB s).1:=⟨_,rfl⟩
 have hf24:=Zfu (s:=s)
 have hmany:=Zqu (s:=s)
 have hL200:=Zmg (s:=s)
 rw [←hL] at hf24 hL200 hmany
 have hV0:=ZiB s
 rw [←hL] at hV0
 refine tW' k16 fun N hn hlt hlA hbd=>?_
 simp only [tb'] at hbd ⊢
 refine wr'<|E' (Zbq (hl0 hn) ha0) pt<|mv' lki pt<|mv' lki pt<|sn'<|wr'<|mv' lk pt<|Zae mp (Zs5) pt<|?_
 rw [←hL]
 refine mv' lk pt<|V' (Zbb lk gt) pt<|V' (Zbb lk gt) pt<|V' (Zbb lk gt) pt<|mv' lk pt<|mv' lk pt<|mv' lk pt<|sn'<|Zam<|wr'<|mv' lk pt<|V' (Za6 lk lki) pt<|?_
 refine sn' ?_
 refine cd' lk (fun hc1=>?_) (fun hc1=>?_)
 ·have hV:ZaV s=(srcZ,(ZbB s).2.1,(ZbB s).2.2):=by rw [hV0];exact if_pos hc1
  refine wr'<|V' (ZaB ZjC) pt<|mv' lk pt<|mv' lk pt<|E' (Zal lk (cvl lk rfl) (hga hn rfl) rfl (nb' rfl) rfl Zdo (hs0 hn)) ptn<|mv' lk pt<|mv' lk pt<|sn'<|Zab<|Zak<|Zag (rsn (rm1 (rr_c gt (hga hn rfl) (ld1 ZcN rfl)) (rm1 (rr_t gt) (rm1 (rr_t gt) rm0))))<|rtW'<|?_
  rw [hV];exact ZbM
 have hV:ZaV s=outP L:=by rw [hV0];exact if_neg hc1
 clear hV0
 refine Zaf<|Zai<|wr'<|V' (ZaB ZjB) pt<|E' (Zcm (cvl lk rfl) rfl (hl1 hn) ha1) pt<|mv' lk pt<|Zas<|?_
 refine ZbQ (ALe.trans (ALe.own0Cell (st':=11) (ty:=48) (hga hn rfl) gt0 (hl2 hn) pt0 (Eq.trans (congrArg (fun z=>List.set z _ _) ha2) (hs1 hn))) (ALe.trans (ALe.own0Cell (st':=2) (ty:=52) (hga hn rfl) gt1 (hl3 hn) pt1 (Eq.trans (congrArg (fun z=>List.set z _ _) ha3) (hs1 hn))) (ALe.own0Cell (st':=2) (ty:=55) (hga hn rfl) gt2 (hl4 hn) pt2 (Eq.trans (congrArg (fun z=>List.set z _ _) ha4) (hs1 hn))))) ?_
 refine Zam<|wr'<|mv' lk5 pt24<|V' (ZaK lk24) pt25<|mv' lki pt26<|Zas<|ZbQ ((ALe.newEnt (ty:=64) (st:=10) ha5))<|Zao<|?_
 refine w_lp (ι:=Nat×Src×Option Zon×Nat×Nat×Nat×Nat×Nat) (fun (x_:Nat×Src×Option Zon×Nat×Nat×Nat×Nat×Nat)=>match x_ with | ⟨k,sr,o,m,v1,v2,v3,v4⟩=>[(26,iv (k:Int)),(3,.any),(4,.any),(10,.any)]++rn' 27 11) (fun (x_:Nat×Src×Option Zon×Nat×Nat×Nat×Nat×Nat)=>match x_ with | ⟨k,sr,o,m,v1,v2,v3,v4⟩=>[(1,.mk 0 81 4 [.own (N+2) v1 sr.1.length,.own (N+3) v2 m,.own (N+4) v3 sr.2.2.length,bv o.isSome]),(2,.mk v1 48 11 (rows rulC sr.1)),(3,.mk v2 52 2 (rows zonC sr.2.1++zP (N+1) v4 o)),(4,.mk v3 55 2 (rows lnkC sr.2.2)),(5,.mk v4 64 10 (rows eraC (eC o)))]) (fun (x_:Nat×Src×Option Zon×Nat×Nat×Nat×Nat×Nat)=>match x_ with | ⟨k,sr,o,m,v1,v2,v3,v4⟩=>k≤L.length∧m=sr.2.1.length+o.toList.length∧sr.1.length≤k∧m≤k∧sr.2.2.length≤k∧(eC o).length≤k∧ZeJ (curS sr o)∧runR (srcZ,false) L=runR (curS sr o,o.isSome) (L.drop k)) (fun (x_:Nat×Src×Option Zon×Nat×Nat×Nat×Nat×Nat)=>match x_ with | ⟨k,sr,o,m,v1,v2,v3,v4⟩=>L.length-k) (⟨0,srcZ,none,0,0,0,0,0⟩) (by exact ⟨Nat.zero_le _,rfl,Nat.le_refl _,Nat.le_refl _,Nat.le_refl _,Nat.le_refl _,Zn6,rfl⟩) ?_
 rintro ⟨k,sr,o,m,v1,v2,v3,v4⟩ hi1
 try simp only [sm',Nat.reduceAdd]
 obtain ⟨hk1,hm,hk2,hk3,hk4,hk5,hok,hrun⟩:=hi1
 refine wr'<|V' (Zbu lk lk) pt<|sn'<|Zam<|?_
 refine cd' lk (fun hc2=>?_) (fun hc2=>?_)
 ·have hk:k<L.length:=by omega
  have hfs:okL L[k].2.2:=hf24 _ (List.getElem_mem hk)
  have hmk:L[k].2.2.length≤12:=hmany _ (List.getElem_mem hk)
  rw [Zsy hk] at hrun
  refine Zaf<|Zai<|Zam<|Zao<|wr'<|?_
  refine V' (Zbg lk lk Zbx (nb' rfl) ro (by omega) ro rfl) pt ?_
  refine V' (Zbk lk Zrf rfl) pt<|E' (Zbq (hl6 hn) ha6) pt<|E' (Zal lk (cvl lk rfl) (hga hn rfl) rfl (nb' rfl) rfl Zdo (hs6 hn)) ptn<|sn'<|wr'<|mv' lk pt<|V' (Zau lk (hga hn rfl) ZcN rfl) pt<|?_
  by_cases hs34 : ∃ q,Zch (curS sr o,o.isSome) L[k]=some q
  ·obtain ⟨q,eq⟩:=hs34
   rw [eq] at hrun
   have hokq:=ZmU (p:=(curS sr o,o.isSome)) hok hfs eq
   refine ZnR mp (pread_e hn hm hfs (by omega) (by omega) (by omega) (by omega) (by omega) eq) pt ?_
   rintro ⟨sr',o',m',w1,w2,w3,w4⟩ hJ
   obtain ⟨j1,j2,j3,j4,j5,j6,j7⟩:=hJ
   dsimp only at j1 j2 j3 j4 j5 j6 j7
   dsimp only
   refine V' (Zav lk) pt<|sn'<|ZaY lk<|Zaf<|ZaF<|Zai<|Zar<|?_
   refine V' (ZaE lk lki (by omega) (by omega)) pt ?_
   refine mv' lk pt<|Zas<|ZaI<|?_
   refine lU' (⟨k+1,sr',o',m',w1,w2,w3,w4⟩) (by (try dsimp only);have hq:curS sr' o'=q.1:=j1;rw [show q=(curS sr' o',o'.isSome) from by rw [j1,j2]] at hrun;rw [←j1] at hokq;exact ⟨by omega,j3,by omega,by omega,by omega,by omega,hokq,hrun⟩) (by (try dsimp only);(try simp only [sm',Nat.reduceAdd]);exact bk' 6 hn hlt (hT:=by first | rfl | (simp only [AV.lt,AV.ltL,Ent.lt,List.all_cons,List.all_nil,Bool.and_true,Bool.and_self,decide_true,Za4,Zbj,Zca,Za5,Zbd,Zdi,ZrR,lt26,lt36,lt46,lt56];done) | exact lt') (hE:=by first | rfl | (simp only [AV.lt,AV.ltL,Ent.lt,List.all_cons,List.all_nil,Bool.and_true,Bool.and_self,decide_true,Za4,Zbj,Zca,Za5,Zbd,Zdi,ZrR,lt26,lt36,lt46,lt56];done) | exact lt'))
  have eq:Zch (curS sr o,o.isSome) L[k]=none:=by cases h9:Zch (curS sr o,o.isSome) L[k] with | none=>rfl | some q=>exact absurd ⟨q,h9⟩ hs34
  rw [eq] at hrun
  have hP:ZaV s=(srcZ,L[k].1,1):=by rw [hV,outP,hrun]
  refine ZnR mp (pread_n hn hm hfs (by omega) (by omega) (by omega) (by omega) (by omega) eq) pt ?_
  rintro ⟨p1,p2,p3,p4,p5⟩ hJ
  dsimp only
  refine V' (Zav lk) pt<|sn'<|ZaG lk<|Zam<|Zl8 [N+6]<|D' (ZaB ZjA) pt<|D' (Zaa lk) pt<|?_
  refine d_ldP lk (hga hn rfl) (ld0 gt) (by simp) pt ?_
  refine Zbt<|Zof<|?_
  refine Zlo rfl rfl (Zal lk (cvl lk rfl) (hga hn rfl) rfl (nb' rfl) rfl Zdo (hs0 hn)) (by intro i hi;simp only [cond_true,List.mem_cons,List.not_mem_nil,or_false] at hi;subst hi;first | rfl | exact (hga hn rfl).trans (hga hn rfl).symm) ptn ?_
  refine Zln rfl (v_mv lk) pt<|Zln rfl (v_mv lki) pt<|ZqN<|Zai<|Zab<|Zaq<|Zak<|Zak<|Zaq<|Zak<|Zag (rsn (rm1 (rr_c gt (hga hn rfl) (ld1 ZcN rfl)) (rm1 (rr_t gt) (rm1 (rr_t gt) rm0))))<|rtW'<|?_
  rw [hP];exact ZbM
 have hke:k=L.length:=by omega
 rw [List.drop_of_length_le (by omega),runR] at hrun
 have hV2:ZaV s=endP (curS sr o,o.isSome):=by rw [hV,outP,hrun]
 refine Za0<|ZaO<|ZaO<|Zbp<|Zai<|wr'<|mv' lki pt<|sn'<|Zam<|wr'<|?_
 by_cases hs45:o=none
 ·subst hs45
  have hm':m=sr.2.1.length:=by simpa using hm
  subst hm'
  rw [ZcL] at hok hV2
  refine mv' lk pt<|V' (ZaD lk) pt<|V' (Zaa lk) pt<|V' (Zac lk (hga hn rfl) gt3) pt<|V' (Zav lk) pt<|Zas<|?_
  refine ZbQ ((ALe.trans (ALe.iceCellR (ds:=rows rulC sr.1) (hga hn rfl) (hga hn rfl) (by omega) gt0 (List.take_of_length_le (by rw [Zhm];exact Nat.le_refl _)) (by rw [Zhm];exact Nat.le_refl _) pt0 (hs2 hn) (hs1 hn)) (ALe.trans (ALe.iceCellR (ds:=rows zonC sr.2.1) (hga hn rfl) (hga hn rfl) (by omega) gt1 (by rw [show rows zonC sr.2.1++zP (N+1) v4 none=rows zonC sr.2.1 from List.append_nil _];exact List.take_of_length_le (by rw [ZdG];exact Nat.le_refl _)) (by rw [zp_len];simp) pt1 (hs3 hn) (hs1 hn)) (ALe.iceCellR (ds:=rows lnkC sr.2.2) (hga hn rfl) (hga hn rfl) (by omega) gt2 (List.take_of_length_le (by rw [Zhq];exact Nat.le_refl _)) (by rw [Zhq];exact Nat.le_refl _) pt2 (hs4 hn) (hs1 hn))))) ?_
  refine ZcW lk (by rfl) ?_
  refine Zar<|mv' lk pt<|V' (ZaD lk) pt<|V' (Zaa lk) pt<|V' (Zau lk (hga hn rfl) ZcN rfl) pt<|Zae mp (ZkW (a:=sr.1) (z:=sr.2.1) (l:=sr.2.2) hok) pt<|mv' lk pt<|sn'<|Zam<|wr'<|mv' lk pt<|V' (Za6 lk lki) pt<|?_
  refine sn' ?_
  refine cd' lk (fun hc5=>?_) (fun hc5=>?_)
  ·have hP:ZaV s=(srcZ,0,ZbT sr):=by rw [hV2,endP,if_neg (by simp)];exact if_pos hc5
   refine wr'<|V' (ZaB Zgd) pt<|mv' lk pt<|E' (Zal lk (cvl lk rfl) (hga hn rfl) rfl (nb' rfl) rfl Zdo (hs0 hn)) ptn<|mv' lki pt<|mv' lk pt<|sn'<|Zab<|Zak<|Zag (rsn (rm1 (rr_c gt (hga hn rfl) (ld1 ZcN rfl)) (rm1 (rr_t gt) (rm1 (rr_t gt) rm0))))<|rtW'<|?_
   rw [hP];exact ZbM
  have h0:ZbT sr=0:=Decidable.of_not_not hc5
  have hP:ZaV s=(sr,0,0):=by rw [hV2,endP,if_neg (by simp)];exact if_neg hc5
  refine Zaf<|Zai<|wr'<|mv' lk pt<|V' (ZaD lk) pt<|V' (Zaa lk) pt<|V' (Zau lk (hga hn rfl) ZcN rfl) pt<|E' (Zal lk (cvl lk rfl) (hga hn rfl) rfl (nb' rfl) rfl Zdo (hs0 hn)) ptn<|mv' lki pt<|mv' lki pt<|sn'<|Zab<|?_
  refine Zag (rsn (rm1 (rr_c gt (hga hn rfl) (ld1 ZcN rfl)) (rm1 (rr_t gt) (rm1 (rr_t gt) rm0))))<|rtW'<|?_
  rw [hP];exact Wk.tup (wk1 rfl (wk1 rfl (wk1 rfl wk0)))
 obtain ⟨z,rfl⟩:=Option.ne_none_iff_exists'.1 hs45
 refine mv' lk pt<|V' (ZaD lk) pt<|V' (Zaa lk) pt<|V' (Zac lk (hga hn rfl) gt3) pt<|V' (Zav lk) pt<|sn'<|?_
 refine ZcD lk (by rfl) ?_
 refine Zaf<|Zai<|Zam<|wr'<|mv' lk pt<|V' (Za6 lk lki) pt<|sn'<|?_
 refine ZcW lk (by rfl) ?_
 refine wr'<|V' (ZaB Zgd) pt<|mv' lk pt<|E' (Zal lk (cvl lk rfl) (hga hn rfl) rfl (nb' rfl) rfl Zdo (hs0 hn)) ptn<|mv' lki pt<|mv' lk pt<|sn'<|Zab<|Zak<|Zag (rsn (rm1 (rr_c gt (hga hn rfl) (ld1 ZcN rfl)) (rm1 (rr_t gt) (rm1 (rr_t gt) rm0))))<|rtW'<|?_
 have hP:ZaV s=(srcZ,0,1):=by rw [hV2];exact if_pos rfl
 rw [hP];exact ZbM
end Go.Proofs.YtgjchdhdopgkkaaGreatDoor
end
section
namespace Go.Proofs.YtgjchdhdopgkkaaGreatDoor
open Go.Ab Go.RowKit Civ
attribute [local simp] Za4 Zbj Zca Za5 Zbd
section
theorem Zex {a0 a1 a2 c0 c1 c2:AV}{l:List AV}:setCells (a0::a1::a2::l) 0 [c0,c1,c2]=c0::c1::c2::l:=rfl
theorem Zew {a0 a1 a2:AV}{l:List AV}:((a0::a1::a2::l).drop 0).take 3=[a0,a1,a2]:=rfl
end
def c32:AC:=(Sr [Oo 0 (.new 26 3 [(.sl 0 0 true []),(.sl 0 0 true []),(.sl 0 0 true [])])] (Sr [Oo 5 (.call (.func 19) [(.const (.string ⟨#[82,117,108,101,32,101,117,32,49,57,56,49,32,109,97,120,32,77,97,114,32,108,97,115,116,83,117,110,32,49,58,48,48,117,32,49,58,48,48,32,83,10,82,117,108,101,32,101,117,32,49,57,57,54,32,109,97,120,32,79,99,116,32,108,97,115,116,83,117,110,32,49,58,48,48,117,32,48,32,45,10,90,111,110,101,32,72,101,114,101,47,84,111,119,110,32,48,58,49,48,32,45,32,76,77,84,32,49,56,56,48,32,74,97,110,32,49,32,48,10,32,32,49,58,48,48,32,101,117,32,67,69,37,115,84,10,76,105,110,107,32,72,101,114,101,47,84,111,119,110,32,79,108,100,10]⟩))]),Mv 4 5,Ex 6 4 0,Ex 7 4 1,Ex 8 4 2,Oo 1 (.new 26 3 [(.sl 0 0 true []),(.sl 0 0 true []),(.sl 0 0 true [])]),⟨none,none,(.store 3 (.tmp 1) (.tmp 6))⟩,Mv 2 7,Mv 3 8] (Sr [Oo 9 (.load true 3 (.tmp 1)),⟨none,none,(.store 3 (.tmp 0) (.tmp 9))⟩] .ret)))
theorem k32:ZaH Tryz.prog 32=some ⟨c32,[(.cell 0 true 3)],10⟩:=by kernel_rfl
def c15:AC:=(Sr [Mb 0 false] (Sr [Oo 8 (.call (.func 16) [(.const (.string ⟨#[82,117,108,101,32,101,117,32,49,57,56,49,32,109,97,120,32,77,97,114,32,108,97,115,116,83,117,110,32,49,58,48,48,117,32,49,58,48,48,32,83,10,82,117,108,101,32,101,117,32,49,57,57,54,32,109,97,120,32,79,99,116,32,108,97,115,116,83,117,110,32,49,58,48,48,117,32,48,32,45,10,90,111,110,101,32,72,101,114,101,47,84,111,119,110,32,48,58,49,48,32,45,32,76,77,84,32,49,56,56,48,32,74,97,110,32,49,32,48,10,32,32,49,58,48,48,32,101,117,32,67,69,37,115,84,10,76,105,110,107,32,72,101,114,101,47,84,111,119,110,32,79,108,100,10]⟩))]),Mv 7 8,Ex 9 7 0,Ex 10 7 1,Ex 11 7 2,Oo 1 (.new 26 3 [(.sl 0 0 true []),(.sl 0 0 true []),(.sl 0 0 true [])]),⟨none,none,(.store 3 (.tmp 1) (.tmp 9))⟩,Mv 2 10,Mv 3 11] (Sr [Oo 13 (.call (.func 16) [(.const (.string ⟨#[82,117,108,101,32,120,10]⟩))]),Mv 12 13,Ex 14 12 0,Ex 15 12 1,Ex 16 12 2,Oo 4 (.new 26 3 [(.sl 0 0 true []),(.sl 0 0 true []),(.sl 0 0 true [])]),⟨none,none,(.store 3 (.tmp 4) (.tmp 14))⟩,Mv 5 15,Mv 6 16] (Sd [Mv 17 3,Bc 18 .eql 17 0,Mv 19 18,Ot 20 19 (mt 2),Ot 21 19 (.bin .eql (.tmp 20) (Ci 0)),Oo 22 (.pick (.tmp 19) (.tmp 21) (.const (.bool false))),Mv 23 22,Ot 24 23 (.load true 3 (.tmp 1)),Ot 25 23 (.call (.func 32) []),Ot 26 23 (.call (.func 14) [(.tmp 24),(.tmp 25)]),Oo 27 (.pick (.tmp 23) (.tmp 26) (.const (.bool false))),Mv 28 27,Ot 29 28 (.load true 3 (.tmp 1)),Ot 30 28 (.call (.func 17) [(.tmp 29)]),Ot 31 28 (.bin .eql (.tmp 30) (Ci 0)),Oo 32 (.pick (.tmp 28) (.tmp 31) (.const (.bool false))),Mv 33 32,Ot 34 33 (mt 6),Ot 35 33 (.bin .eql (.tmp 34) (Ci 1)),Oo 36 (.pick (.tmp 33) (.tmp 35) (.const (.bool false))),Mv 37 36,Ot 38 37 (mt 5),Ot 39 37 (.bin .eql (.tmp 38) (Ci 1)),Oo 40 (.pick (.tmp 37) (.tmp 39) (.const (.bool false))),Mv 0 40] .ret))))
theorem k15:ZaH Tryz.prog 15=some ⟨c15,[(.tmp 0)],41⟩:=by kernel_rfl
def txtS:Bs:=[82,117,108,101,32,101,117,32,49,57,56,49,32,109,97,120,32,77,97,114,32,108,97,115,116,83,117,110,32,49,58,48,48,117,32,49,58,48,48,32,83,10,82,117,108,101,32,101,117,32,49,57,57,54,32,109,97,120,32,79,99,116,32,108,97,115,116,83,117,110,32,49,58,48,48,117,32,48,32,45,10,90,111,110,101,32,72,101,114,101,47,84,111,119,110,32,48,58,49,48,32,45,32,76,77,84,32,49,56,56,48,32,74,97,110,32,49,32,48,10,32,32,49,58,48,48,32,101,117,32,67,69,37,115,84,10,76,105,110,107,32,72,101,114,101,47,84,111,119,110,32,79,108,100,10]
def txtR:Bs:=[82,117,108,101,32,120,10]
theorem ZpG : ∀ {l:List Ln}{p q:PS},ZeJ p.1→(∀ x∈l,okL x.2.2)→runR p l=.inl q→ZeJ q.1
 | [],p,q,hok,_,e=>by rw [runR] at e;cases e;exact hok
 | x::l,p,q,hok,hl,e=>by
  rw [runR] at e
  cases hx:Zch p x with
  | none=>rw [hx] at e;cases e
  | some q1 =>
   rw [hx] at e
   exact ZpG (ZmU hok (hl x (by simp)) hx) (fun y hy=>hl y (by simp [hy])) e
theorem ZsN:ZeJ srcZ:=by have:=Zn6;rwa [ZcL] at this
theorem ZmH {s:ByteArray}:ZeJ (ZaV s).1:=by
 by_cases h:(ZaV s).2.2=0
 ·obtain ⟨_,s2,_⟩:=ZiA h
  exact ZpG (p:=(srcZ,false)) ZsN (fun x hx=>Zfu x hx) s2
 rw [Zj3 h];exact ZsN
theorem Zn5 {s:ByteArray}(h:(ZaV s).2.2=0):ZbT (ZaV s).1=0:=(ZiA h).2.2.1
theorem Zr0 {α:Type}{p:α×Int×Int}(h1:p.2.1=0) (h2:p.2.2=0):p=(p.1,0,0):=by
 obtain ⟨a,b,c⟩:=p
 simp only at h1 h2
 subst h1 h2
 rfl
theorem ZsK : ∃ S:Src,ZaV (bA txtS)=(S,0,0)∧ZbT S=0∧ZeJ S:=by
 have h:(ZaV (bA txtS)).2.2=0:=by kernel_rfl
 obtain ⟨_,_,h3,h4⟩:=ZiA h
 exact ⟨(ZaV (bA txtS)).1,Zr0 h4 h,h3,ZmH⟩
theorem prs_r:ZaV (bA txtR)=(srcZ,1,1):=by kernel_rfl
theorem sp_txt {S:Src}(e:ZaV (bA txtS)=(S,0,0)) {h:AH}:Ac 16 [sv (bA txtS)] h (.tup [.agg (srcC S),iv 0,iv 0]):=by
 have:=Zh1 (s:=bA txtS) (h:=h)
 rw [e] at this
 exact this
theorem rp_txt {S:Src}(e:ZaV (bA txtS)=(S,0,0)) {h:AH}:Ac 19 [sv (bA txtS)] h (.tup [.agg (srcC S),iv 0,iv 0]):=by
 have:=rparse_a (s:=bA txtS) (h:=h)
 rw [e] at this
 exact this
theorem sp_r {h:AH}:Ac 16 [sv (bA txtR)] h (.tup [.agg (srcC srcZ),iv 1,iv 1]):=by
 have:=Zh1 (s:=bA txtR) (h:=h)
 rw [prs_r] at this
 exact this
theorem ZgM {S:Src}(e:ZaV (bA txtS)=(S,0,0)) {h:AH}:Ac 32 [] h (.agg (srcC S)):=by
 refine tI' k32 fun N hn hlt hlA hbd=>?_
 simp only [tb'] at hbd ⊢
 refine wr'<|E' (Zbq (hl0 hn) ha0) pt<|sn'<|wr'<|Zae mp (rp_txt e) pt<|mv' lk pt<|V' (Zbb lk gt) pt<|V' (Zbb lk gt) pt<|V' (Zbb lk gt) pt<|E' (Zbq (hl1 hn) ha1) pt<|E' (Zal lk (cvl lk rfl) (hga hn rfl) rfl (nb' rfl) rfl Zex (hs1 hn)) ptn<|?_
 exact mv' lk pt<|mv' lk pt<|sn'<|wr'<|V' (Zau lk (hga hn rfl) Zew rfl) pt<|E' (Zal lk (cvl lk rfl) (hga hn rfl) rfl (nb' rfl) rfl Zex (hs0 hn)) ptn<|sn'<|Zab<|Zag (rs1 (rr_c gt (hga hn rfl) (ld1 Zew rfl)))<|rT' rfl
theorem sbegun_a {h:AH}:Ac 15 [] h (bv true):=by
 obtain ⟨S,eS,hS1,hS2⟩:=ZsK
 refine tI' k15 fun N hn hlt hlA hbd=>?_
 simp only [tb'] at hbd ⊢
 refine wr'<|mv' lkb pt<|sn'<|wr'<|Zae mp (sp_txt eS) pt<|mv' lk pt<|V' (Zbb lk gt) pt<|V' (Zbb lk gt) pt<|V' (Zbb lk gt) pt<|E' (Zbq (hl0 hn) ha0) pt<|E' (Zal lk (cvl lk rfl) (hga hn rfl) rfl (nb' rfl) rfl Zex (hs0 hn)) ptn<|?_
 refine mv' lk pt<|mv' lk pt<|sn'<|wr'<|Zae mp (sp_r) pt<|mv' lk pt<|V' (Zbb lk gt) pt<|V' (Zbb lk gt) pt<|V' (Zbb lk gt) pt<|E' (Zbq (hl1 hn) ha1) pt<|E' (Zal lk (cvl lk rfl) (hga hn rfl) rfl (nb' rfl) rfl Zex (hs1 hn)) ptn<|mv' lk pt<|?_
 refine mv' lk pt<|sn'<|Zam<|ZbJ<|D' (v_mv lk) pt<|D' (ZaX lk lki) pt<|D' (v_mv lk) pt<|?_
 refine ZiU (t:=19) gt (b:=true) (by rfl) pt ?_
 refine d_do gt<|D' (v_mv lk) pt<|d_do gt<|D' (ZaX lk lki) pt<|D' (Zaj lk lk) pt<|D' (v_mv lk) pt<|?_
 refine ZiU (t:=23) gt (b:=true) (by rfl) pt ?_
 refine d_do gt<|D' (Zau lk (hga hn rfl) Zew rfl) pt<|d_do gt<|?_
 refine Za9 mp0 (fun hE hX=>ZgM eS) pt ?_
 refine d_do gt ?_
 refine Za9 mp (fun hE hX=>Zk5 (s:=S) (t:=S)) pt ?_
 refine D' (Zaj lk lk) pt<|D' (v_mv lk) pt<|?_
 refine ZiU (t:=28) gt (b:=true) (by exact decide_eq_true rfl) pt ?_
 refine d_do gt<|D' (Zau lk (hga hn rfl) Zew rfl) pt<|d_do gt<|?_
 refine Za9 mp (fun hE hX=>ZkW (a:=S.1) (z:=S.2.1) (l:=S.2.2) hS2) pt ?_
 refine d_do gt<|D' (ZaX lk lki) pt<|D' (Zaj lk lk) pt<|D' (v_mv lk) pt<|?_
 refine ZiU (t:=33) gt (b:=true) (by exact decide_eq_true hS1) pt ?_
 refine d_do gt<|D' (v_mv lk) pt<|d_do gt<|D' (ZaX lk lki) pt<|D' (Zaj lk lk) pt<|D' (v_mv lk) pt<|?_
 refine ZiU (t:=37) gt (b:=true) (by rfl) pt ?_
 refine d_do gt<|D' (v_mv lk) pt<|d_do gt<|D' (ZaX lk lki) pt<|D' (Zaj lk lk) pt<|D' (v_mv lk) pt<|Zbt<|?_
 refine Zb4 ?_
 refine sn'<|Zab<|Zag rz<|rT'<|?_
 exact bvx rfl
abbrev RulD:Ds:=.pair .str (.pair .int (.pair .int (.pair .int (.pair (.pair .int (.pair .int .int)) (.pair .int (.pair .int (.pair .int .str)))))))
abbrev EraD:Ds:=.pair .int (.pair .str (.pair .int (.pair .str (.pair .bool (.pair (.pair .int (.pair .int .int)) (.pair .int .int))))))
abbrev ZonD:Ds:=.pair .str (.slice EraD)
abbrev LnkD:Ds:=.pair .str .str
abbrev SrcDs:Ds:=.pair (.slice RulD) (.pair (.slice ZonD) (.slice LnkD))
theorem okSrc_of {s:Src}(h:okD SrcDs s):ZeJ s:=by
 obtain ⟨h1,h2,h3⟩:=h
 refine ⟨fun r hr=>?_,fun z hz=>?_,fun l hl=>?_⟩
 ·obtain ⟨i,hi,rfl⟩:=List.getElem_of_mem hr
  have:=h1 i hi
  exact ⟨this.1,this.2.2.2.2.2.2.2.2⟩
 ·obtain ⟨i,hi,rfl⟩:=List.getElem_of_mem hz
  have:=h2 i hi
  refine ⟨this.1,fun x hx=>?_⟩
  obtain ⟨j,hj,rfl⟩:=List.getElem_of_mem hx
  have:=this.2 j hj
  exact ⟨this.2.1,this.2.2.2.1⟩
 obtain ⟨i,hi,rfl⟩:=List.getElem_of_mem hl
 exact h3 i hi
end Go.Proofs.YtgjchdhdopgkkaaGreatDoor
end
section
namespace Go.Proofs.YtgjchdhdopgkkaaGreatDoor
open Go.Ab Go.RowKit
attribute [local simp] Za4 Zbj Zca Za5 Zbd
section
theorem Zgv {τ:Operand→AV}:Zat τ [] [(.sl 0 0 true []),(.sl 0 0 true []),(.sl 0 0 true [])]=some [(.sl 0 0 true []),(.sl 0 0 true []),(.sl 0 0 true [])]:=rfl
end
def c12:AC:=(Sr [Mb 0 false] (Sr [Cl 4 32 [],Cl 5 8 [(.tmp 4)],Mv 3 5,Ex 6 3 0,Ex 7 3 1,Mv 1 6,Mv 2 7] (Sr [Mv 8 2,Bc 9 .eql 8 0,Mv 10 9,Ot 11 10 (mt 1),Ot 12 10 (.bin .eql (.tmp 11) (.const (.string ⟨#[82,117,108,101,32,101,117,32,49,57,56,49,32,109,97,120,32,77,97,114,32,108,97,115,116,83,117,110,32,49,58,48,48,117,32,49,58,48,48,32,83,10,82,117,108,101,32,101,117,32,49,57,57,54,32,109,97,120,32,79,99,116,32,108,97,115,116,83,117,110,32,49,58,48,48,117,32,48,58,48,48,32,45,10,90,111,110,101,32,72,101,114,101,47,84,111,119,110,32,48,58,49,48,32,45,32,76,77,84,32,49,56,56,48,32,74,97,110,32,49,32,48,58,48,48,10,32,49,58,48,48,32,101,117,32,67,69,37,115,84,10,76,105,110,107,32,72,101,114,101,47,84,111,119,110,32,79,108,100,10]⟩))),Oo 13 (.pick (.tmp 10) (.tmp 12) (.const (.bool false))),Mv 14 13,Ot 15 14 (.call (.func 32) []),Ot 16 14 (.call (.func 32) []),Ot 17 14 (.call (.func 13) [(.tmp 15),(.tmp 16)]),Oo 18 (.pick (.tmp 14) (.tmp 17) (.const (.bool false))),Mv 19 18,Ot 20 19 (.call (.func 32) []),Ot 21 19 (.build [(.sl 0 0 true []),(.sl 0 0 true []),(.sl 0 0 true [])] []),Ot 22 19 (.call (.func 13) [(.tmp 20),(.tmp 21)]),Ot 23 19 (.un .not (.tmp 22)),Oo 24 (.pick (.tmp 19) (.tmp 23) (.const (.bool false))),Mv 0 24] .ret)))
theorem k12:ZaH Tryz.prog 12=some ⟨c12,[(.tmp 0)],25⟩:=by kernel_rfl
def Zsp:Bs:=[82,117,108,101,32,101,117,32,49,57,56,49,32,109,97,120,32,77,97,114,32,108,97,115,116,83,117,110,32,49,58,48,48,117,32,49,58,48,48,32,83,10,82,117,108,101,32,101,117,32,49,57,57,54,32,109,97,120,32,79,99,116,32,108,97,115,116,83,117,110,32,49,58,48,48,117,32,48,58,48,48,32,45,10,90,111,110,101,32,72,101,114,101,47,84,111,119,110,32,48,58,49,48,32,45,32,76,77,84,32,49,56,56,48,32,74,97,110,32,49,32,48,58,48,48,10,32,49,58,48,48,32,101,117,32,67,69,37,115,84,10,76,105,110,107,32,72,101,114,101,47,84,111,119,110,32,79,108,100,10]
theorem shn_txt {S:Src}(e:ZaV (bA txtS)=(S,0,0)):ZhU S=(bA Zsp,0)∧S≠srcZ:=by
 have h1:ZhU (ZaV (bA txtS)).1=(bA Zsp,0):=by kernel_rfl
 have h2:(ZaV (bA txtS)).1.1.length=2:=by kernel_rfl
 rw [e] at h1 h2
 exact ⟨h1,fun h=>by rw [h] at h2;cases h2⟩
theorem Zsv {h:AH}:Ac 12 [] h (bv true):=by
 obtain ⟨S,eS,hS1,hS2⟩:=ZsK
 obtain ⟨hV,hZ⟩:=shn_txt eS
 have hsh : ∀ {h:AH},Ac 8 [.agg (srcC S)] h (.tup [sv (bA Zsp),iv 0]):=by
  intro h
  have:=Zst (s:=S) (h:=h) hS2
  rw [hV] at this
  exact this
 refine tI' k12 fun N hn hlt hlA hbd=>?_
 simp only [tb'] at hbd ⊢
 refine wr'<|mv' lkb pt<|sn'<|wr'<|Zae mp0 (ZgM eS) pt<|Zae mp (hsh) pt<|mv' lk pt<|V' (Zbb lk gt) pt<|V' (Zbb lk gt) pt<|mv' lk pt<|mv' lk pt<|?_
 refine sn'<|wr'<|mv' lk pt<|V' (ZaX lk lki) pt<|mv' lk pt<|?_
 refine Zhk (t:=10) gt (b:=true) (by rfl) pt ?_
 refine s_do gt<|mv' lk pt<|s_do gt<|V' (Zcj lk lks) pt<|V' (Zaj lk lk) pt<|mv' lk pt<|?_
 refine Zhk (t:=14) gt (b:=true) (by exact decide_eq_true rfl) pt ?_
 refine s_do gt<|Zae mp0 (ZgM eS) pt<|s_do gt<|Zae mp0 (ZgM eS) pt<|s_do gt<|Zae mp (ZpE (s:=S) (t:=S)) pt<|V' (Zaj lk lk) pt<|mv' lk pt<|?_
 refine Zhk (t:=19) gt (b:=true) (by exact decide_eq_true rfl) pt ?_
 refine s_do gt<|Zae mp0 (ZgM eS) pt<|s_do gt<|V' (ZaB Zgv) pt<|s_do gt<|?_
 refine Zae mp (ACalls.wk (wkw (Wk.refl _) (wkw (Wk.agg (wkw Wk.nilF (wkw Wk.nilF (wkw Wk.nilF wk0)))) wk0))<|ZpE (s:=S) (t:=srcZ)) pt ?_
 refine s_do gt ?_
 refine V' ((by first | exact Zju lk | exact Zav lk)) pt ?_
 refine V' (Zaj lk lk) pt<|mv' lk pt<|sn'<|Zab<|Zag rz<|rT'<|?_
 exact bvx (decide_eq_true hZ)
end Go.Proofs.YtgjchdhdopgkkaaGreatDoor
end
section
namespace Go.Proofs.YtgjchdhdopgkkaaGreatDoor
open Go.Ab Civ
def d8 (k:Nat):UInt8:=UInt8.ofNat (48+k)
theorem d8_n {k:Nat}(h:k<10):(d8 k).toNat=48+k:=by unfold d8;simp;omega
theorem dD_1 {n:Nat}(h:n<10):Lib.decDigits n=[d8 n]:=Lib.decDigits_one h
theorem dD_s {n:Nat}(h:¬n<10):Lib.decDigits n=Lib.decDigits (n/10)++[d8 (n%10)]:=by rw [Lib.decDigits,dif_neg h];rfl
theorem it_n (n:Nat):Lib.itoa (n:Int)=Lib.decDigits n:=by
 unfold Lib.itoa;rw [if_neg (by omega),Int.toNat_natCast]
theorem pad2 {n:Nat}(h:n<100):padI n 2=[d8 (n/10),d8 (n%10)]:=by
 unfold padI
 rw [it_n]
 by_cases h1:n<10
 ·rw [dD_1 h1,show n/10=0 by omega,show n%10=n by omega];rfl
 ·rw [dD_s h1,dD_1 (by omega)];rfl
theorem pad4 {n:Nat}(h:n<10000):padI n 4=[d8 (n/1000),d8 (n/100%10),d8 (n/10%10),d8 (n%10)]:=by
 unfold padI
 rw [it_n]
 by_cases h1:n<10
 ·rw [dD_1 h1,show n/1000=0 by omega,show n/100%10=0 by omega,show n/10%10=0 by omega,show n%10=n by omega];rfl
 ·rw [dD_s h1]
  by_cases h2:n/10<10
  ·rw [dD_1 h2,show n/1000=0 by omega,show n/100%10=0 by omega,show n/10%10=n/10 by omega];rfl
  ·rw [dD_s h2]
   by_cases h3:n/10/10<10
   ·rw [dD_1 h3,show n/1000=0 by omega,show n/100%10=n/10/10 by omega];rfl
   ·rw [dD_s h3,dD_1 (by omega),show n/1000=n/10/10/10 by omega,show n/100%10=n/10/10%10 by omega];rfl
theorem Zle {l:Bs}{a b n:Int}(h1:a≤l.length∧(l.length:Int)≤b) (h2 : ∀ c∈l,digB c.toNat=true) (h3:decL 0 l=n):numV (bA l) a b=some n:=by
 unfold numV
 rw [if_pos,show aB (bA l)=l from rfl,h3]
 refine ⟨?_,?_⟩
 ·simp only [wi,Bool.and_eq_true,decide_eq_true_eq];rw [ZaQ];exact h1
 ·unfold allB;rw [List.all_eq_true];exact h2
theorem Zqd {k:Nat}(h:k<10):digB (d8 k).toNat=true:=by
 unfold digB;rw [d8_n h];simp;omega
theorem Zl1 {n:Int}(h0:0≤n) (h1:n<10000):numV (bA (padI n 4)) 4 4=some n∧(∀ c∈padI n 4,digB c.toNat=true)∧(padI n 4).length=4:=by
 obtain ⟨m,rfl⟩:=Int.eq_ofNat_of_zero_le h0
 have hm:m<10000:=by omega
 rw [show padI ((m:Nat):Int) 4=_ from pad4 hm]
 have hd : ∀ c∈[d8 (m/1000),d8 (m/100%10),d8 (m/10%10),d8 (m%10)],digB c.toNat=true:=by
  intro c hc
  simp only [List.mem_cons,List.not_mem_nil,or_false] at hc
  rcases hc with rfl | rfl | rfl | rfl <;> exact Zqd (by omega)
 refine ⟨Zle ⟨by simp,by simp⟩ hd ?_,hd,rfl⟩
 simp only [decL]
 rw [d8_n (by omega),d8_n (by omega),d8_n (by omega),d8_n (by omega)]
 omega
theorem Zsn {n:Int}(h0:0≤n) (h1:n<60):sixV (bA (padI n 2))=some n∧(∀ c∈padI n 2,digB c.toNat=true)∧(padI n 2).length=2:=by
 obtain ⟨m,rfl⟩:=Int.eq_ofNat_of_zero_le h0
 have hm:m<100:=by omega
 rw [show padI ((m:Nat):Int) 2=_ from pad2 hm]
 have hd : ∀ c∈[d8 (m/10),d8 (m%10)],digB c.toNat=true:=by
  intro c hc
  simp only [List.mem_cons,List.not_mem_nil,or_false] at hc
  rcases hc with rfl | rfl <;> exact Zqd (by omega)
 refine ⟨?_,hd,rfl⟩
 have:numV (bA [d8 (m/10),d8 (m%10)]) 2 2=some (m:Int):=by
  refine Zle ⟨by simp,by simp⟩ hd ?_
  simp only [decL]
  rw [d8_n (by omega),d8_n (by omega)]
  omega
 unfold sixV
 rw [this]
 simp only
 rw [if_neg (by omega)]
theorem Zgg {n:Int}(h0:0≤n) (h1:n<100):numV (bA (Lib.itoa n)) 1 2=some n∧(∀ c∈Lib.itoa n,digB c.toNat=true)∧1≤(Lib.itoa n).length∧(Lib.itoa n).length≤2:=by
 obtain ⟨m,rfl⟩:=Int.eq_ofNat_of_zero_le h0
 rw [it_n]
 by_cases h:m<10
 ·rw [dD_1 h]
  have hd : ∀ c∈[d8 m],digB c.toNat=true:=by
   intro c hc
   rw [List.mem_singleton] at hc
   subst hc;exact Zqd h
  refine ⟨Zle ⟨by simp,by simp⟩ hd ?_,hd,by simp,by simp⟩
  simp only [decL]
  rw [d8_n h];omega
 ·rw [dD_s h,dD_1 (by omega)]
  have hd : ∀ c∈[d8 (m/10)]++[d8 (m%10)],digB c.toNat=true:=by
   intro c hc
   simp only [List.mem_cons,List.not_mem_nil,or_false,List.cons_append,List.nil_append] at hc
   rcases hc with rfl | rfl <;> exact Zqd (by omega)
  refine ⟨Zle ⟨by simp,by simp⟩ hd ?_,hd,by simp,by simp⟩
  simp only [List.cons_append,List.nil_append,decL]
  rw [d8_n (by omega),d8_n (by omega)]
  omega
theorem ZtE {l:Bs}(h : ∀ c∈l,digB c.toNat=true):(58:UInt8) ∉ l:=by
 intro hm
 have:=h _ hm
 revert this;decide
theorem ZeU {n:Int}(h0:0≤n) (h1:n<360000):ZbV (bA (spnQ n))=some n∧(∃ c l,spnQ n=c::l∧digB c.toNat=true)∧(∃ l c,spnQ n=l++[c]∧digB c.toNat=true)∧(∀ c∈spnQ n,digB c.toNat=true∨c=58)∧4≤(spnQ n).length∧(spnQ n).length≤8:=by
 obtain ⟨a1,a2,a3,a4⟩:=Zgg (n:=n/3600) (by omega) (by omega)
 obtain ⟨b1,b2,b3⟩:=Zsn (n:=n/60%60) (by omega) (by omega)
 obtain ⟨c1,c2,c3⟩:=Zsn (n:=n%60) (by omega) (by omega)
 have hA:=ZtE a2
 have hB:=ZtE b2
 have hC:=ZtE c2
 have last2 : ∀ {l:Bs},(∀ c∈l,digB c.toNat=true)→l.length=2 → ∃ p c,l=p++[c]∧digB c.toNat=true:=by
  intro l hl h2
  match l,h2 with
  | [x,y],_=>exact ⟨[x],y,rfl,hl y (by simp)⟩
 have hhead : ∀ m:Bs,∃ c l,Lib.itoa (n/3600)++m=c::l∧digB c.toNat=true:=by
  intro m
  cases hi:Lib.itoa (n/3600) with
  | nil=>rw [hi] at a3;simp at a3
  | cons c l=>exact ⟨c,l++m,rfl,a2 c (by rw [hi];simp)⟩
 have hne : ∀ {l:Bs},4≤l.length→bA l≠bA [48]:=by
  intro l hl e
  have:=congrArg (fun s=>(aB s).length) e
  simp only [show aB (bA l)=l from rfl,show aB (bA [48])=[48] from rfl] at this
  simp at this;omega
 by_cases hz:0<n%60
 ·have e:spnQ n=Lib.itoa (n/3600)++58::(padI (n/60%60) 2++58::padI (n%60) 2):=by
   unfold spnQ;rw [if_pos hz];simp
  have hlen:(spnQ n).length=(Lib.itoa (n/3600)).length+6:=by rw [e];simp only [List.length_append,List.length_cons,b3,c3]
  refine ⟨?_,?_,?_,?_,by omega,by omega⟩
  ·unfold ZbV
   rw [if_neg (hne (by omega)),show aB (bA (spnQ n))=spnQ n from rfl,e,Zht hA,Zht hB,ZfU hC]
   simp only [a1,b1,c1]
   congr 1;omega
  ·rw [e];exact hhead _
  ·obtain ⟨p,c,hp,hc⟩:=last2 c2 c3
   exact ⟨Lib.itoa (n/3600)++58::(padI (n/60%60) 2++58::p),c,by rw [e,hp];simp,hc⟩
  ·intro c hc
   rw [e] at hc
   simp only [List.mem_append,List.mem_cons] at hc
   rcases hc with hc | hc | hc | hc | hc
   ·exact .inl (a2 c hc)
   ·exact .inr hc
   ·exact .inl (b2 c hc)
   ·exact .inr hc
   ·exact .inl (c2 c hc)
 ·have e:spnQ n=Lib.itoa (n/3600)++58::padI (n/60%60) 2:=by
   unfold spnQ;rw [if_neg hz];simp
  have hlen:(spnQ n).length=(Lib.itoa (n/3600)).length+3:=by rw [e];simp only [List.length_append,List.length_cons,b3]
  refine ⟨?_,?_,?_,?_,by omega,by omega⟩
  ·unfold ZbV
   rw [if_neg (hne (by omega)),show aB (bA (spnQ n))=spnQ n from rfl,e,Zht hA,ZfU hB]
   simp only [a1,b1]
   congr 1;omega
  ·rw [e];exact hhead _
  ·obtain ⟨p,c,hp,hc⟩:=last2 b2 b3
   exact ⟨Lib.itoa (n/3600)++58::p,c,by rw [e,hp];simp,hc⟩
  ·intro c hc
   rw [e] at hc
   simp only [List.mem_append,List.mem_cons] at hc
   rcases hc with hc | hc | hc
   ·exact .inl (a2 c hc)
   ·exact .inr hc
   ·exact .inl (b2 c hc)
end Go.Proofs.YtgjchdhdopgkkaaGreatDoor
end
section
namespace Go.Proofs.YtgjchdhdopgkkaaGreatDoor
open Go.Ab Civ
theorem Zoj {c:UInt8}{l:Bs}:Zee (bA (c::l))=c.toNat:=rfl
theorem Zth {c:UInt8}{l:Bs}:ZbA (bA (l++[c]))=c.toNat:=by
 unfold ZbA ZbF Zaz
 rw [ZaQ,show (bA (l++[c])).data.toList=l++[c] from rfl]
 simp
theorem ZhM {l:Bs}{i j:Nat}:(bA l).extract i j=bA ((l.take j).drop i):=by
 have h : ∀ s:ByteArray,aB (s.extract i j)=((aB s).take j).drop i:=by
  intro s
  unfold aB
  rw [ByteArray.data_extract,Array.toList_extract]
  simp [List.extract_eq_take_drop,List.drop_take]
 have:=h (bA l)
 rw [show aB (bA l)=l from rfl] at this
 rw [←this];rfl
theorem Zmo {n:Int}(h0 : -64800≤n) (h1:n≤64800):ZeF (bA (Zdu n))=some n:=by
 by_cases hn:n<0
 ·obtain ⟨a1,_⟩:=ZeU (n := -n) (by omega) (by omega)
  rw [show Zdu n=45::spnQ (-n) from if_pos hn]
  unfold ZeF
  rw [if_pos ⟨by rw [ZaQ];simp,Zoj⟩,ZhM,ZaQ]
  have:((45::spnQ (-n)).take (45::spnQ (-n)).length).drop 1=spnQ (-n):=by rw [List.take_length];rfl
  rw [this,a1]
  simp
 ·obtain ⟨a1,⟨c,l,e,hc⟩,_⟩:=ZeU (n:=n) (by omega) (by omega)
  rw [show Zdu n=spnQ n from if_neg hn]
  unfold ZeF
  rw [if_neg,a1]
  rintro ⟨_,h⟩
  rw [e,Zoj] at h
  unfold digB at hc
  simp only [decide_eq_true_eq] at hc
  omega
theorem ZkT {n:Int}(h:0≤n):Zdu n=spnQ n:=if_neg (by omega)
theorem wsu_num {n d:Int}(h0:0≤n) (h1:n<360000):Zcy d (bA (spnQ n))=some (n,d):=by
 obtain ⟨a1,_,⟨l,c,e,hc⟩,_⟩:=ZeU h0 h1
 unfold Zcy
 have hw:(if (bA (spnQ n)).size=0 then none else wsuK (ZbA (bA (spnQ n))))=none:=by
  split
  ·rfl
  ·rw [e,Zth]
   unfold digB at hc
   simp only [decide_eq_true_eq] at hc
   unfold wsuK
   rw [if_neg (by omega),if_neg (by omega),if_neg (by omega)]
 rw [hw,a1]
theorem Zne {n c d:Int}(h0:0≤n) (h1:n<360000) (hc:1≤c∧c≤3):Zcy d (ZeP n c d)=some (n,c):=by
 unfold ZeP
 rw [ZkT h0]
 by_cases he:c=d
 ·rw [if_pos he,wsu_num h0 h1,he]
 ·rw [if_neg he]
  obtain ⟨a1,_⟩:=ZeU h0 h1
  obtain ⟨k,hk,hw⟩ : ∃ k:UInt8,clkS.getD c.toNat ⟨#[]⟩=bA [k]∧wsuK k.toNat=some c:=by
   have:c=1∨c=2∨c=3:=by omega
   rcases this with rfl | rfl | rfl
   ·exact ⟨119,rfl,rfl⟩
   ·exact ⟨115,rfl,rfl⟩
   ·exact ⟨117,rfl,rfl⟩
  rw [hk,Zdd]
  unfold Zcy
  have hz:(bA (spnQ n++[k])).size=(spnQ n).length+1:=by rw [ZaQ];simp
  rw [if_neg (by omega),Zth,hw]
  simp only
  rw [ZhM,hz,Nat.add_sub_cancel]
  have:((spnQ n++[k]).take (spnQ n).length).drop 0=spnQ n:=by simp
  rw [this,a1]
theorem yr_no {n:Int}(h0:0≤n) (h1:n<10000):bA (padI n 4)≠Zk8∧bA (padI n 4)≠maxA:=by
 obtain ⟨_,a2,a3⟩:=Zl1 h0 h1
 constructor
 ·intro e
  have:=a2 111 (by rw [Zi5 e];simp)
  revert this;decide
 ·intro e
  have:=congrArg List.length (Zi5 e)
  rw [a3] at this;simp at this
theorem to_num {f t:Int}(h0:0≤t) (h1:t<10000):toV f (toT f t)=some t:=by
 unfold toT
 split
 ·rename_i h;rw [h];exact if_pos rfl
 ·split
  ·rename_i h;rw [h];exact (if_neg (by decide)).trans (if_pos rfl)
  ·obtain ⟨y1,y2⟩:=yr_no h0 h1
   unfold toV
   rw [if_neg y1,if_neg y2,(Zl1 h0 h1).1]
theorem ZsR {m:Int}(h:1≤m∧m≤12):idxL monL (monS m) 1=some m:=by
 have:m=1∨m=2∨m=3∨m=4∨m=5∨m=6∨m=7∨m=8∨m=9∨m=10∨m=11∨m=12:=by omega
 rcases this with rfl | rfl | rfl | rfl | rfl | rfl | rfl | rfl | rfl | rfl | rfl | rfl <;> rfl
theorem ZtG {w:Int}(h:0≤w∧w≤6) : ∃ a b c,dayS w=bA [a,b,c]∧idxL dayL (bA [a,b,c]) 0=some w∧(∀ x∈[a,b,c],letB x.toNat=true):=by
 have:w=0∨w=1∨w=2∨w=3∨w=4∨w=5∨w=6:=by omega
 rcases this with rfl | rfl | rfl | rfl | rfl | rfl | rfl
 ·exact ⟨_,_,_,rfl,rfl,by decide⟩
 ·exact ⟨_,_,_,rfl,rfl,by decide⟩
 ·exact ⟨_,_,_,rfl,rfl,by decide⟩
 ·exact ⟨_,_,_,rfl,rfl,by decide⟩
 ·exact ⟨_,_,_,rfl,rfl,by decide⟩
 ·exact ⟨_,_,_,rfl,rfl,by decide⟩
 ·exact ⟨_,_,_,rfl,rfl,by decide⟩
theorem form_num {k w n:Int}(hk:1≤k∧k≤4) (hw:0≤w∧w≤6) (h1:k=1→w=0) (h2:k=2→n=0) (h3:k≠2→1≤n∧n≤31):Zdf (Zjw k w n)=some (k,w,n):=by
 obtain ⟨a,b,c,hd,hi,_⟩:=ZtG hw
 have hk':k=1∨k=2∨k=3∨k=4:=by omega
 unfold Zjw
 rcases hk' with rfl | rfl | rfl | rfl
 ·obtain ⟨a1,a2,a3,a4⟩:=Zgg (n:=n) (by omega) (by omega)
  obtain rfl:=h1 rfl
  show Zdf (bA (Lib.itoa n))=_
  have hs:(bA (Lib.itoa n)).size≤2:=a4
  unfold Zdf
  have hf:ZbR (bA (Lib.itoa n))=1:=by
   unfold ZbR
   rw [if_neg (by omega),if_neg (by omega),if_neg (by omega)]
  rw [hf,if_neg (by decide),if_pos rfl,a1]
 ·obtain rfl:=h2 rfl
  rw [hd]
  show Zdf (bA [108,97,115,116]++bA [a,b,c])=_
  rw [Zdd]
  unfold Zdf
  rw [if_pos (by rfl),show (bA ([108,97,115,116]++[a,b,c])).extract 4 (bA ([108,97,115,116]++[a,b,c])).size=bA [a,b,c] from rfl,hi]
 ·obtain ⟨a1,a2,a3,a4⟩:=Zgg (n:=n) (by omega) (by omega)
  rw [hd]
  show Zdf (bA [a,b,c]++bA [62,61]++bA (Lib.itoa n))=_
  rw [Zdd,Zdd]
  have hl : ∃ l,Lib.itoa n=l∧1≤l.length:=⟨_,rfl,a3⟩
  obtain ⟨l,el,hl⟩:=hl
  rw [el] at a1 ⊢
  have hz:(bA ([a,b,c]++[62,61]++l)).size=5+l.length:=by rw [ZaQ];simp;omega
  have hf:ZbR (bA ([a,b,c]++[62,61]++l))=3:=by
   unfold ZbR
   rw [if_neg,if_pos ⟨by omega,rfl,rfl⟩]
   rintro ⟨_,h⟩
   rw [ZhM] at h
   have:=Zi5 h
   simp at this
  unfold Zdf
  rw [hf,if_neg (by decide),if_neg (by decide),ZhM,ZhM,hz]
  have e1:(([a,b,c]++[62,61]++l).take 3).drop 0=[a,b,c]:=by simp
  have e2:(([a,b,c]++[62,61]++l).take (5+l.length)).drop 5=l:=by
   rw [List.take_of_length_le (by simp;omega)];simp
  rw [e1,e2,hi,a1];rfl
 ·obtain ⟨a1,a2,a3,a4⟩:=Zgg (n:=n) (by omega) (by omega)
  rw [hd]
  show Zdf (bA [a,b,c]++bA [60,61]++bA (Lib.itoa n))=_
  rw [Zdd,Zdd]
  have hl : ∃ l,Lib.itoa n=l∧1≤l.length:=⟨_,rfl,a3⟩
  obtain ⟨l,el,hl⟩:=hl
  rw [el] at a1 ⊢
  have hz:(bA ([a,b,c]++[60,61]++l)).size=5+l.length:=by rw [ZaQ];simp;omega
  have hf:ZbR (bA ([a,b,c]++[60,61]++l))=4:=by
   unfold ZbR
   rw [if_neg,if_neg,if_pos ⟨by omega,rfl,rfl⟩]
   ·rintro ⟨_,_,h⟩
    have:ZbF (bA ([a,b,c]++[60,61]++l)) 3=60:=rfl
    omega
   ·rintro ⟨_,h⟩
    rw [ZhM] at h
    have:=Zi5 h
    simp at this
  unfold Zdf
  rw [hf,if_neg (by decide),if_neg (by decide),ZhM,ZhM,hz]
  have e1:(([a,b,c]++[60,61]++l).take 3).drop 0=[a,b,c]:=by simp
  have e2:(([a,b,c]++[60,61]++l).take (5+l.length)).drop 5=l:=by
   rw [List.take_of_length_le (by simp;omega)];simp
  rw [e1,e2,hi,a1];rfl
theorem ZqL {s:ByteArray}(h:ZbZ s=true):Zda (orT s ⟨#[45]⟩)=some s:=by
 unfold orT
 split
 ·rename_i e;rw [e];rfl
 ·rename_i e
  have hd:s≠bA [45]:=by
   intro e2
   rw [e2] at h
   revert h;decide
  unfold Zda ZdM
  rw [if_pos (by simp [e,h]),if_neg hd]
theorem ZsA {sa:Int}{rl:ByteArray}(h0:0≤sa) (h1:sa≤10800) (hr:rl≠⟨#[]⟩→ZbL rl=true) (hs:rl≠⟨#[]⟩→sa=0):Zdw (if 0<sa then bA (Zdu sa) else orT rl ⟨#[45]⟩)=some (sa,rl):=by
 split
 ·rename_i hp
  have he:rl=⟨#[]⟩:=Classical.byContradiction fun h=>by have:=hs h;omega
  rw [ZkT h0]
  obtain ⟨a1,⟨c,l,e,hc⟩,_,_,a4,_⟩:=ZeU (n:=sa) h0 (by omega)
  unfold Zdw
  have n1:bA (spnQ sa)≠bA [45]:=by intro h;have:=congrArg List.length (Zi5 h);simp at this;omega
  have n2:bA (spnQ sa)≠bA [48]:=by intro h;have:=congrArg List.length (Zi5 h);simp at this;omega
  rw [if_neg n1,if_pos ⟨by rw [ZaQ];omega,by rw [e,Zoj];exact hc,n2⟩,a1,he]
 ·rename_i hp
  obtain rfl:sa=0:=by omega
  unfold orT
  split
  ·rename_i e;rw [e];rfl
  ·rename_i e
   have hn:=hr e
   have hl:letB (Zee rl)=true:=by
    unfold ZbL at hn
    simp only [Bool.and_eq_true] at hn
    exact hn.1.2
   have hnd:digB (Zee rl)=false:=by
    unfold letB at hl;unfold digB
    simp only [decide_eq_true_eq,decide_eq_false_iff_not] at hl ⊢
    omega
   have n1:rl≠bA [45]:=by
    intro h;rw [h] at hl;revert hl;decide
   unfold Zdw
   rw [if_neg n1,if_neg (by rintro ⟨_,h,_⟩;rw [hnd] at h;cases h),if_pos hn]
end Go.Proofs.YtgjchdhdopgkkaaGreatDoor
end
section
namespace Go.Proofs.YtgjchdhdopgkkaaGreatDoor
open Go.Ab Civ
theorem nl {α β:Type}{F:ByteArray→Option α}{x:ByteArray}{a:α}(h:F x=some a) {k:α→RM β}{l:List ByteArray}:ZaN (ZaN Zbf fun s=>Zbs (F s)) k (x::l)=k a l:=by
 unfold ZaN Zbf Zbs
 simp only [h]
theorem ZsB {r:Rul}(h:Zde r=0):ZgK ((ZnU r).tail)=some (r,[]):=by
 have hf:=Zm3 (ZpL (by
  unfold Zde at h
  split at h
  ·exact absurd h (by decide)
  split at h
  ·exact absurd h (by decide)
  split at h
  ·rename_i h3;exact absurd h h3
  rename_i h3;exact Decidable.of_not_not h3))
 have hml:=ZdL 2001 r.2.2.2.1
 obtain ⟨h1,h2,h3,h4,h5,h6,h7,h8,h9,h10⟩:=Zk3 h
 obtain ⟨nm,f,t,m,⟨k,w,n⟩,a,c,s,lt⟩:=r
 simp only at h1 h2 h3 h4 h5 h6 h7 h8 h9 h10 hf hml
 show ZgK [nm,bA (padI f 4),toT f t,monS m,Zjw k w n,ZeP a c 1,bA (Zdu s),orT lt ⟨#[45]⟩]=_
 unfold ZgK ZcI Zdg
 rw [nl (F:=fun s=>if ZbL s=true then some s else none) (if_pos h9),nl (F:=fun s=>numV s 4 4) (Zl1 (by omega) (by omega)).1,nl (F:=fun s=>toV f s) (to_num (by omega) (by omega)),nl (F:=fun s=>idxL monL s 1) (ZsR h2),
  nl (F:=Zdf) (form_num h3 h4 hf.2.2.1 hf.2.2.2.1 (fun e=>by have:=hf.2.2.2.2 e;omega)),nl (F:=Zcy 1) (Zne (by omega) (by omega) h7),nl (F:=ZbV) (a:=s) (by rw [ZkT (by omega)];exact (ZeU (by omega) (by omega)).1),nl (F:=Zda) (ZqL h10)]
 rfl
theorem Zp9 {x:Era}{last:Bool}(h:eraX x last=0):rEra (eraG x)=some (x,[]):=by
 obtain ⟨e1,e2,e3,e4,e5,e6,e7,e8,e9⟩:=Zkd h
 obtain ⟨sh,rl,sa,fm,op,⟨⟨y,m,d⟩,a,c⟩⟩:=x
 simp only at e1 e2 e3 e4 e5 e6 e7 e8 e9
 have hS:shE sh sa op y m d a c:=e1
 obtain ⟨s1,s2,s3⟩:=hS
 have hr:=ZsA (sa:=sa) (rl:=rl) s2.1 e9 e2 e4
 cases op with
 | true =>
  have hu:((y,m,d),a,c)=untZ:=e6 rfl
  rw [show eraG (sh,rl,sa,fm,true,(y,m,d),a,c)=[bA (Zdu sh),if 0<sa then bA (Zdu sa) else orT rl ⟨#[45]⟩,fm] from by unfold eraG eraF;rw [if_pos rfl];rfl,hu]
  unfold rEra
  rw [nl (F:=ZeF) (Zmo e8.1 e8.2),nl (F:=Zdw) hr,nl (F:=fun s=>if Zb0 s=true then some s else none) (if_pos e3)]
  rfl
 | false =>
  obtain ⟨g1,g2,g3⟩:=e7 rfl
  obtain ⟨t1,t2,t3,t4,t5⟩:=s3 rfl
  have hd:=ZcB.1 g2
  have hml:=ZdL y m
  have hc1:¬c=1:=by
   intro e;rw [e] at g1;revert g1;decide
  have hc2:1≤c:=by
   unfold clkB at g1
   simp only [wi,Bool.and_eq_true,decide_eq_true_eq] at g1
   exact g1.1.1
  rw [show eraG (sh,rl,sa,fm,false,(y,m,d),a,c)=[bA (Zdu sh),if 0<sa then bA (Zdu sa) else orT rl ⟨#[45]⟩,fm]++[bA (padI y 4),monS m,bA (Lib.itoa d),ZeP a c 2] from by unfold eraG eraF;rw [if_neg (show ¬(false=true) by decide)]]
  have hU:Zfk [bA (padI y 4),monS m,bA (Lib.itoa d),ZeP a c 2]=some (((y,m,d),a,c),[]):=by
   unfold Zfk Zdg
   rw [nl (F:=fun s=>numV s 4 4) (Zl1 t1.1 (by omega)).1,nl (F:=fun s=>idxL monL s 1) (ZsR t2),nl (F:=fun s=>numV s 1 2) (Zgg (by omega) (by omega)).1,nl (F:=Zcy 2) (Zne (by omega) (by omega) ⟨hc2,t5.2⟩)]
   simp only [if_neg hc1]
   rfl
  unfold rEra
  rw [List.cons_append,List.cons_append,List.cons_append,List.nil_append]
  rw [nl (F:=ZeF) (Zmo e8.1 e8.2),nl (F:=Zdw) hr,nl (F:=fun s=>if Zb0 s=true then some s else none) (if_pos e3)]
  unfold ZaN rEnd
  rw [if_neg (by simp),hU]
  rfl
theorem Zs9 {p:Src}{r:Rul}(h:Zde r=0):Zch (p,false) (Zdx r)=some ((p.1++[r],p.2.1,p.2.2),false):=by
 have hb:ZcU (p,false) (ZnU r)=some (((p.1++[r],p.2.1,p.2.2),false),[]):=by
  rw [Zdl]
  show ZaN Zbf _ (ZeW::(ZnU r).tail)=_
  unfold ZaN Zbf
  simp only [if_true]
  rw [ZsB h];rfl
 unfold Zch
 rw [if_neg (by show ¬(false≠false);simp)]
 show (match ZcU (p,false) (ZnU r) with | some (q,[])=>some q | _=>none)=_
 rw [hb]
theorem Zta {p:Src}{l:Lnk}(h:ZdW l=0):Zch (p,false) (ZeL l)=some ((p.1,p.2.1,p.2.2++[l]),false):=by
 have hn:ZbL l.1=true∧ZbL l.2=true:=by
  unfold ZdW at h
  split at h
  ·exact absurd h (by decide)
  ·rename_i hh;exact Decidable.of_not_not hh
 have hb:ZcU (p,false) (Zlj l)=some (((p.1,p.2.1,p.2.2++[l]),false),[]):=by
  rw [Zdl]
  show ZaN Zbf _ (ZgP::[l.1,l.2])=_
  unfold ZaN Zbf
  simp only [if_neg (show ¬ZgP=ZeW by decide),if_neg (show ¬ZgP=Zfp by decide),if_true]
  show ZaN ZcI (fun a=>ZaN ZcI fun b=>retR ((p.1,p.2.1,p.2.2++[(a,b)]),false)) [l.1,l.2]=_
  unfold ZcI
  rw [nl (F:=fun s=>if ZbL s=true then some s else none) (if_pos hn.1),nl (F:=fun s=>if ZbL s=true then some s else none) (if_pos hn.2)]
  rfl
 unfold Zch
 rw [if_neg (by show ¬(false≠false);simp)]
 show (match ZcU (p,false) (Zlj l) with | some (q,[])=>some q | _=>none)=_
 rw [hb]
theorem Zs8 {p:Src}{nm:ByteArray}{x:Era}{last:Bool}(hn:ZbL nm=true) (h:eraX x last=0):Zch (p,false) (0,false,[⟨#[90,111,110,101]⟩,nm]++eraG x)=some ((p.1,p.2.1++[(nm,[x])],p.2.2),!ZbP x):=by
 have hb:ZcU (p,false) ([⟨#[90,111,110,101]⟩,nm]++eraG x)=some (((p.1,p.2.1++[(nm,[x])],p.2.2),!ZbP x),[]):=by
  rw [Zdl]
  show ZaN Zbf _ (Zfp::nm::eraG x)=_
  unfold ZaN Zbf
  simp only [if_neg (show ¬Zfp=ZeW by decide),if_true]
  show ZaN ZcI (fun n=>ZaN rEra fun x=>retR (ZbY (p.1,p.2.1++[(n,[])],p.2.2) x)) (nm::eraG x)=_
  unfold ZcI
  rw [nl (F:=fun s=>if ZbL s=true then some s else none) (if_pos hn)]
  unfold ZaN
  rw [Zp9 h]
  simp only [retR,ZbY,Zc3,List.nil_append]
 unfold Zch
 rw [if_neg (by show ¬(false≠false);simp)]
 show (match ZcU (p,false) ([⟨#[90,111,110,101]⟩,nm]++eraG x) with | some (q,[])=>some q | _=>none)=_
 rw [hb]
theorem line_era {p:Src}{zs:List Zon}{nm:ByteArray}{es:List Era}{x:Era}{last:Bool}(h:eraX x last=0):Zch ((p.1,zs++[(nm,es)],p.2.2),true) (0,true,eraG x)=some ((p.1,zs++[(nm,es++[x])],p.2.2),!ZbP x):=by
 have hb:ZcU ((p.1,zs++[(nm,es)],p.2.2),true) (eraG x)=some (((p.1,zs++[(nm,es++[x])],p.2.2),!ZbP x),[]):=by
  rw [Zow]
  unfold ZaN
  rw [Zp9 h]
  simp only [retR,ZbY,Zc3]
 unfold Zch
 rw [if_neg (by show ¬(true≠true);simp)]
 show (match ZcU ((p.1,zs++[(nm,es)],p.2.2),true) (eraG x) with | some (q,[])=>some q | _=>none)=_
 rw [hb]
theorem Zmt : ∀ {l:List Rul}{p:Src}{rest:List Ln},(∀ r∈l,Zde r=0)→runR (p,false) (l.map Zdx++rest)=runR ((p.1++l,p.2.1,p.2.2),false) rest
 | [],p,rest,h=>by simp
 | r::l,p,rest,h=>by
  rw [List.map_cons,List.cons_append,runR,Zs9 (h r (by simp))]
  show runR ((p.1++[r],p.2.1,p.2.2),false) (l.map Zdx++rest)=_
  rw [Zmt (fun x hx=>h x (by simp [hx]))]
  simp only [List.append_assoc,List.singleton_append]
theorem Zmv : ∀ {l:List Lnk}{p:Src}{rest:List Ln},(∀ r∈l,ZdW r=0)→runR (p,false) (l.map ZeL++rest)=runR ((p.1,p.2.1,p.2.2++l),false) rest
 | [],p,rest,h=>by simp
 | r::l,p,rest,h=>by
  rw [List.map_cons,List.cons_append,runR,Zta (h r (by simp))]
  show runR ((p.1,p.2.1,p.2.2++[r]),false) (l.map ZeL++rest)=_
  rw [Zmv (fun x hx=>h x (by simp [hx]))]
  simp only [List.append_assoc,List.singleton_append]
theorem ZpF : ∀ {es:List Era}{p:Src}{zs:List Zon}{nm:ByteArray}{e0:List Era}{b:Bool}{rest:List Ln},Zeg es=0→b=!es.isEmpty→runR ((p.1,zs++[(nm,e0)],p.2.2),b) (es.map (fun y=>((0:Int),true,eraG y))++rest)=runR ((p.1,zs++[(nm,e0++es)],p.2.2),false) rest
 | [],p,zs,nm,e0,b,rest,h,hb=>by subst hb;simp
 | x::es,p,zs,nm,e0,b,rest,h,hb=>by
  subst hb
  rw [Zeg] at h
  split at h
  ·rename_i h1;exact absurd h h1
  ·rename_i h1
   have h1:=Decidable.of_not_not h1
   have ho:x.2.2.2.2.1=es.isEmpty:=(Zkd h1).2.2.2.2.1
   rw [List.map_cons,List.cons_append,runR]
   rw [show (!(x::es).isEmpty)=true from rfl,line_era h1]
   show runR ((p.1,zs++[(nm,e0++[x])],p.2.2),!ZbP x) (es.map (fun y=>((0:Int),true,eraG y))++rest)=_
   rw [ZpF h (by unfold ZbP;rw [ho])]
   simp only [List.append_assoc,List.singleton_append]
theorem run_zone {z:Zon}{p:Src}{rest:List Ln}(h:Zei z=0):runR (p,false) (ZdS z.1 z.2++rest)=runR ((p.1,p.2.1++[z],p.2.2),false) rest:=by
 obtain ⟨hn,hl,_⟩:=ZkI h
 have hE:Zeg z.2=0:=by
  unfold Zei at h
  split at h
  ·exact absurd h (by decide)
  ·exact h
 obtain ⟨nm,es⟩:=z
 cases es with
 | nil=>exact absurd rfl hl
 | cons x es =>
  simp only at hE hn
  rw [Zeg] at hE
  split at hE
  ·rename_i h1;exact absurd hE h1
  ·rename_i h1
   have h1:=Decidable.of_not_not h1
   have ho:x.2.2.2.2.1=es.isEmpty:=(Zkd h1).2.2.2.2.1
   rw [ZdS,List.cons_append,runR,Zs8 hn h1]
   show runR ((p.1,p.2.1++[(nm,[x])],p.2.2),!ZbP x) (es.map (fun y=>((0:Int),true,eraG y))++rest)=_
   rw [ZpF hE (by unfold ZbP;rw [ho])]
   rfl
theorem Zms : ∀ {l:List Zon}{p:Src}{rest:List Ln},(∀ r∈l,Zei r=0)→runR (p,false) (Zcf l++rest)=runR ((p.1,p.2.1++l,p.2.2),false) rest
 | [],p,rest,h=>by simp [Zcf]
 | z::l,p,rest,h=>by
  have e:Zcf (z::l)=ZdS z.1 z.2++Zcf l:=by simp [Zcf]
  rw [e,List.append_assoc,run_zone (h z (by simp))]
  rw [Zms (fun x hx=>h x (by simp [hx]))]
  simp only [List.append_assoc,List.singleton_append]
theorem Zsx {s:Src}(h:ZbT s=0):runR (srcZ,false) (Zec s)=.inl (s,false):=by
 obtain ⟨_,h1,h2,h3⟩:=Zfa h
 unfold Zec
 rw [List.append_assoc,Zmt (Zcb h1),Zms (Zcb h2)]
 have:=Zmv (l:=s.2.2) (p:=(srcZ.1++s.1,srcZ.2.1++s.2.1,srcZ.2.2)) (rest:=[]) (Zcb h3)
 rw [List.append_nil] at this
 rw [this]
 rfl
end Go.Proofs.YtgjchdhdopgkkaaGreatDoor
end
section
namespace Go.Proofs.YtgjchdhdopgkkaaGreatDoor
open Go.Ab Civ
def gd (c:UInt8):Prop:=36≤c.toNat∧c.toNat≤126
theorem gd_f {f:ByteArray}(h : ∀ c∈aB f,gd c) (hz:f.size≤24):Zbl f=0:=by
 refine ZiQ (fun c hc=>ZfY.2 ?_) hz
 obtain ⟨h1,h2⟩:=h c hc
 unfold plnN
 simp only [decide_eq_true_eq]
 omega
theorem ZpZ {c:UInt8}(h:digB c.toNat=true):gd c:=by
 unfold digB at h;simp only [decide_eq_true_eq] at h;unfold gd;omega
theorem ZpY {c:UInt8}(h:letB c.toNat=true):gd c:=by
 unfold letB at h;simp only [decide_eq_true_eq] at h;unfold gd;omega
theorem Ztq {l:Bs}(h : ∀ c∈l,digB c.toNat=true) (hz:l.length≤24):Zbl (bA l)=0:=gd_f (fun c hc=>ZpZ (h c hc)) hz
theorem Ztp {n:Int}(h0:0≤n) (h1:n<360000):(∀ c∈spnQ n,gd c)∧(spnQ n).length≤8:=by
 obtain ⟨_,_,_,a4,_,a6⟩:=ZeU h0 h1
 refine ⟨fun c hc=>?_,a6⟩
 rcases a4 c hc with h | rfl
 ·exact ZpZ h
 ·unfold gd;decide
theorem Ztx {n:Int}(h0 : -64800≤n) (h1:n<360000):Zbl (bA (Zdu n))=0:=by
 unfold Zdu
 split
 ·obtain ⟨a,b⟩:=Ztp (n := -n) (by omega) (by omega)
  refine gd_f (fun c hc=>?_) (by rw [ZaQ];simp;omega)
  rcases List.mem_append.1 (show c∈[45]++spnQ (-n) from hc) with h | h
  ·rw [List.mem_singleton] at h;subst h;unfold gd;decide
  ·exact a c h
 ·obtain ⟨a,b⟩:=Ztp (n:=n) (by omega) h1
  exact gd_f a (by rw [ZaQ];omega)
theorem Ztz {n c d:Int}(h0:0≤n) (h1:n<360000) (hc:1≤c∧c≤3):Zbl (ZeP n c d)=0:=by
 unfold ZeP
 obtain ⟨a,b⟩:=Ztp h0 h1
 rw [ZkT h0]
 split
 ·exact gd_f a (by rw [ZaQ];omega)
 ·obtain ⟨k,hk,hg⟩ : ∃ k:UInt8,clkS.getD c.toNat ⟨#[]⟩=bA [k]∧gd k:=by
   have:c=1∨c=2∨c=3:=by omega
   rcases this with rfl | rfl | rfl
   ·exact ⟨119,rfl,by unfold gd;decide⟩
   ·exact ⟨115,rfl,by unfold gd;decide⟩
   ·exact ⟨117,rfl,by unfold gd;decide⟩
  rw [hk,Zdd]
  refine gd_f (fun c hc=>?_) (by rw [ZaQ];simp;omega)
  rcases List.mem_append.1 (show c∈spnQ n++[k] from hc) with h | h
  ·exact a c h
  ·rw [List.mem_singleton] at h;subst h;exact hg
theorem Zm7 {s:ByteArray}(h:ZbL s=true):Zbl s=0:=by
 refine gd_f (fun c hc=>?_) (ZfL h)
 unfold ZbL at h
 simp only [Bool.and_eq_true] at h
 have h2:=h.2
 unfold allB at h2
 have h3:=List.all_eq_true.1 h2 c hc
 rw [ZmO] at h3
 unfold refN letB digB at h3
 simp only [Bool.or_eq_true,decide_eq_true_eq] at h3
 unfold gd;omega
theorem Zty {s:ByteArray}(h:ZbZ s=true):Zbl s=0:=by
 refine gd_f (fun c hc=>?_) (Ziq h)
 unfold ZbZ at h
 simp only [Bool.and_eq_true] at h
 have h2:=h.2
 unfold allB at h2
 exact ZpY (List.all_eq_true.1 h2 c hc)
theorem Zp1 : ∀ {l:Bs}{m:Nat}{b:Bool},fmtL m b l=true → ∀ c∈l,gd c
 | [],m,b,h,c,hc=>by cases hc
 | x::l,m,b,h,c,hc=>by
  rw [fmtL] at h
  split at h
  ·rename_i hx
   simp only [Bool.and_eq_true] at h
   rcases List.mem_cons.1 hc with rfl | hc
   ·rw [hx];unfold gd;decide
   ·exact Zp1 h.2 c hc
  ·split at h
   ·rename_i hx
    simp only [Bool.and_eq_true] at h
    rcases List.mem_cons.1 hc with rfl | hc
    ·rw [hx];unfold gd;decide
    ·exact Zp1 h.2 c hc
   ·simp only [Bool.and_eq_true] at h
    rcases List.mem_cons.1 hc with rfl | hc
    ·have h1:=h.1
     unfold ZbS letB digB at h1
     simp only [Bool.or_eq_true,decide_eq_true_eq,beq_iff_eq] at h1
     unfold gd;omega
    ·exact Zp1 h.2 c hc
theorem f_format {s:ByteArray}(h:Zb0 s=true):Zbl s=0:=by
 refine gd_f ?_ (ZjS h)
 rw [ZiO] at h
 simp only [Bool.and_eq_true] at h
 exact Zp1 h.2
theorem f_or {s:ByteArray}(h:s≠⟨#[]⟩→Zbl s=0):Zbl (orT s ⟨#[45]⟩)=0:=by
 unfold orT
 split
 ·rfl
 ·rename_i e;exact h e
theorem f_mon {m:Int}(h:1≤m∧m≤12):Zbl (monS m)=0:=by
 have:m=1∨m=2∨m=3∨m=4∨m=5∨m=6∨m=7∨m=8∨m=9∨m=10∨m=11∨m=12:=by omega
 rcases this with rfl | rfl | rfl | rfl | rfl | rfl | rfl | rfl | rfl | rfl | rfl | rfl <;> rfl
theorem f_yr {n:Int}(h0:0≤n) (h1:n<10000):Zbl (bA (padI n 4))=0:=by
 obtain ⟨_,a2,a3⟩:=Zl1 h0 h1
 exact Ztq a2 (by omega)
theorem f_two {n:Int}(h0:0≤n) (h1:n<100):Zbl (bA (Lib.itoa n))=0:=by
 obtain ⟨_,a2,a3,a4⟩:=Zgg h0 h1
 exact Ztq a2 (by omega)
theorem f_to {f t:Int}(h0:0≤t) (h1:t<10000):Zbl (toT f t)=0:=by
 unfold toT
 split
 ·rfl
 ·split
  ·rfl
  ·exact f_yr h0 h1
theorem f_form {k w n:Int}(hk:1≤k∧k≤4) (hw:0≤w∧w≤6) (hn:0≤n∧n≤31):Zbl (Zjw k w n)=0:=by
 obtain ⟨a,b,c,hd,_,hl⟩:=ZtG hw
 obtain ⟨_,a2,_,a4⟩:=Zgg (n:=n) (by omega) (by omega)
 have hk':k=1∨k=2∨k=3∨k=4:=by omega
 unfold Zjw
 rcases hk' with rfl | rfl | rfl | rfl
 ·exact f_two hn.1 (by omega)
 ·rw [hd]
  show Zbl (bA [108,97,115,116]++bA [a,b,c])=0
  rw [Zdd]
  refine gd_f (fun x hx=>?_) (by rw [ZaQ];simp)
  rcases List.mem_append.1 (show x∈[108,97,115,116]++[a,b,c] from hx) with h | h
  ·exact (show ∀ x∈([108,97,115,116]:Bs),gd x by unfold gd;decide) x h
  ·exact ZpY (hl x h)
 ·rw [hd]
  show Zbl (bA [a,b,c]++bA [62,61]++bA (Lib.itoa n))=0
  rw [Zdd,Zdd]
  refine gd_f (fun x hx=>?_) (by rw [ZaQ];simp;omega)
  rcases List.mem_append.1 (show x∈[a,b,c]++[62,61]++Lib.itoa n from hx) with h | h
  ·rcases List.mem_append.1 h with h | h
   ·exact ZpY (hl x h)
   ·exact (show ∀ x∈([62,61]:Bs),gd x by unfold gd;decide) x h
  ·exact ZpZ (a2 x h)
 ·rw [hd]
  show Zbl (bA [a,b,c]++bA [60,61]++bA (Lib.itoa n))=0
  rw [Zdd,Zdd]
  refine gd_f (fun x hx=>?_) (by rw [ZaQ];simp;omega)
  rcases List.mem_append.1 (show x∈[a,b,c]++[60,61]++Lib.itoa n from hx) with h | h
  ·rcases List.mem_append.1 h with h | h
   ·exact ZpY (hl x h)
   ·exact (show ∀ x∈([60,61]:Bs),gd x by unfold gd;decide) x h
  ·exact ZpZ (a2 x h)
theorem Zp3 : ∀ {l:List ByteArray},(∀ f∈l,Zbl f=0)→Zef l=0
 | [],_=>rfl
 | f::l,h=>by
  rw [Zef,if_neg (by rw [h f (by simp)];simp)]
  exact Zp3 (fun g hg=>h g (by simp [hg]))
theorem Zlm {l:List ByteArray}(h : ∀ f∈l,Zbl f=0) (h1:l.length≠0) (h2:l.length≤12):ZcS l=0:=by
 unfold ZcS
 rw [if_neg h1,if_neg (by omega),Zp3 h]
theorem f_rule {r:Rul}(h:Zde r=0):ZcS (ZnU r)=0:=by
 obtain ⟨h1,h2,h3,h4,h5,h6,h7,h8,h9,h10⟩:=Zk3 h
 refine Zlm (fun f hf=>?_) (by simp [Zmy]) (by simp [Zmy])
 simp only [Zmy,List.mem_cons,List.not_mem_nil,or_false] at hf
 rcases hf with rfl | rfl | rfl | rfl | rfl | rfl | rfl | rfl | rfl
 ·rfl
 ·exact Zm7 h9
 ·exact f_yr (by omega) (by omega)
 ·exact f_to (by omega) (by omega)
 ·exact f_mon h2
 ·exact f_form h3 h4 h5
 ·exact Ztz (by omega) (by omega) h7
 ·exact Ztx (by omega) (by omega)
 ·exact f_or (fun _=>Zty h10)
theorem f_era {x:Era}{last:Bool}(h:eraX x last=0) : ∀ f∈eraG x,Zbl f=0:=by
 obtain ⟨e1,e2,e3,e4,e5,e6,e7,e8,e9⟩:=Zkd h
 obtain ⟨s1,s2,s3⟩:=e1
 intro f hf
 unfold eraG eraF at hf
 rcases List.mem_append.1 hf with hf | hf
 ·simp only [List.mem_cons,List.not_mem_nil,or_false] at hf
  rcases hf with rfl | rfl | rfl
  ·exact Ztx e8.1 (by omega)
  ·split
   ·exact Ztx (by omega) (by omega)
   ·exact f_or (fun e=>Zm7 (e2 e))
  ·exact f_format e3
 ·split at hf
  ·cases hf
  ·rename_i ho
   obtain ⟨g1,g2,g3⟩:=e7 (by simpa using ho)
   obtain ⟨t1,t2,t3,t4,t5⟩:=s3 (by simpa using ho)
   have hd:=ZcB.1 g2
   have hml:=ZdL x.2.2.2.2.2.1.1 x.2.2.2.2.2.1.2.1
   have hc2:1≤x.2.2.2.2.2.2.2:=by
    unfold clkB at g1
    simp only [wi,Bool.and_eq_true,decide_eq_true_eq] at g1
    exact g1.1.1
   simp only [List.mem_cons,List.not_mem_nil,or_false] at hf
   rcases hf with rfl | rfl | rfl | rfl
   ·exact f_yr (by omega) (by omega)
   ·exact f_mon t2
   ·exact f_two (by omega) (by omega)
   ·exact Ztz (by omega) (by omega) ⟨hc2,t5.2⟩
theorem eraG_pos (x:Era):(eraG x).length≠0:=by unfold eraG eraF;simp
theorem eras_f : ∀ {l:List Era},Zeg l=0 → ∀ x∈l,∀ f∈eraG x,Zbl f=0
 | [],h,x,hx=>by cases hx
 | y::l,h,x,hx=>by
  rw [Zeg] at h
  split at h
  ·rename_i h1;exact absurd h h1
  ·rename_i h1
   rcases List.mem_cons.1 hx with rfl | hx
   ·exact f_era (Decidable.of_not_not h1)
   ·exact eras_f h x hx
theorem Zs7 {s:Src}(h:ZbT s=0):Zgj (Zec s)=0:=by
 obtain ⟨_,h1,h2,h3⟩:=Zfa h
 refine Zm0.2 fun x hx=>?_
 unfold Zec at hx
 rcases List.mem_append.1 hx with hx | hx
 ·rcases List.mem_append.1 hx with hx | hx
  ·obtain ⟨r,hr,rfl⟩:=List.mem_map.1 hx
   exact f_rule (Zcb h1 r hr)
  ·obtain ⟨z,hz,hx⟩:=List.mem_flatMap.1 hx
   have hz0:=Zcb h2 z hz
   obtain ⟨a,b,_⟩:=ZkI hz0
   have hE:Zeg z.2=0:=by unfold Zei at hz0;split at hz0;exact absurd hz0 (by decide);exact hz0
   have hF:=eras_f hE
   obtain ⟨nm,es⟩:=z
   cases es with
   | nil=>cases hx
   | cons e es =>
    rw [ZdS] at hx
    rcases List.mem_cons.1 hx with rfl | hx
    ·refine Zlm (fun f hf=>?_) (by simp) (by have:=Zlt e;simp;omega)
     rcases List.mem_append.1 hf with hf | hf
     ·simp only [List.mem_cons,List.not_mem_nil,or_false] at hf
      rcases hf with rfl | rfl
      ·rfl
      ·exact Zm7 a
     ·exact hF e (by simp) f hf
    ·obtain ⟨y,hy,rfl⟩:=List.mem_map.1 hx
     exact Zlm (hF y (by simp [hy])) (eraG_pos y) (Nat.le_trans (Zlt y) (by decide))
 ·obtain ⟨l,hl,rfl⟩:=List.mem_map.1 hx
  have:=Zcb h3 l hl
  unfold ZdW at this
  split at this
  ·exact absurd this (by decide)
  ·rename_i hh
   have hh:=Decidable.of_not_not hh
   refine Zlm (fun f hf=>?_) (by simp [ZeL,Zlj]) (by simp [ZeL,Zlj])
   simp only [ZeL,Zlj,List.mem_cons,List.not_mem_nil,or_false] at hf
   rcases hf with rfl | rfl | rfl
   ·rfl
   ·exact Zm7 hh.1
   ·exact Zm7 hh.2
theorem Zmw : ∀ {l m:List Ln}{p q:PS},l.map (·.2)=m.map (·.2)→runR p l=.inl q→runR p m=.inl q
 | [],[],p,q,_,h=>h
 | [],y::m,p,q,e,h=>by cases e
 | x::l,[],p,q,e,h=>by cases e
 | x::l,y::m,p,q,e,h=>by
  simp only [List.map_cons,List.cons.injEq] at e
  rw [runR] at h ⊢
  rw [←Ztc (p:=p) e.1]
  cases hl:Zch p x with
  | none=>rw [hl] at h;cases h
  | some p'=>rw [hl] at h;exact Zmw e.2 h
theorem Zsr {s:Src}(h:ZbT s=0) (hj:(Zfo (Zec s)).2≠0):(Zfo (Zec s)).2=2:=by
 unfold Zfo at hj ⊢
 split
 ·rfl
 ·rename_i h1
  rw [if_neg h1,if_neg (by rw [Zs7 h];simp)] at hj
  rw [if_neg (by rw [Zs7 h];simp)]
  split
  ·rfl
  ·rename_i h2;rw [if_neg h2] at hj;exact absurd rfl hj
theorem Zss {s:Src}(h:ZbT s=0) (hj:(Zfo (Zec s)).2=0):ZaV (Zfo (Zec s)).1=(s,0,0):=by
 obtain ⟨h1,h2⟩:=Zqv hj
 have hr:=Zmw h2.symm (Zsx h)
 rw [ZiB,if_neg (by rw [h1];simp),outP,hr]
 simp only [endP]
 rw [if_neg (by simp),if_neg (by rw [h];simp)]
end Go.Proofs.YtgjchdhdopgkkaaGreatDoor
end
section
namespace Go
variable {H : Type} {enc : TypeId × Value → H}
theorem Zok {a:Assume}{C:Checked}{os:Os}{f:FuncId}{fn:Func}{s:ChangeSpec}{apart fresh handsOn again:Bool}{laid:List (String×DataW Unit)}
  (own:ownKnob C.prog.godebug=none) (started:os.Started) (noInit:C.prog.inits.idxOf? f=none) (hfn:C.prog.funcs[f]?=some fn)
  (witness : ∃ (w:World) (tape:Tape) (i:Input),w.os=os∧(w.forCall tape i).Shaped C.prog∧i.vars=[]∧Input.okWide C.prog (w.forCall tape i) .any w.heap.size f i ∧
   ((s.pre enc C.prog fn [] apart (w.forCall tape i).memory i.args∧laidMetH C.prog laid (w.forCall tape i).memory)∧sizedMet enc C.prog fn (OpenSpec.ofChange s) apart (w.forCall tape i).memory i.args)∧a.holds C.prog (lone (Frame.enter C.prog f i.args .normal) [] (w.forCall tape i)))
  (contract : ∀ (W:World) (base:Nat) (args:Array Value) (ds gs:List (DataW H)) (before:List MemPlace),
   (∀ (j:Nat) t v,fn.params[j]?=some t→args[j]?=some v→Value.okWide C.prog W .any base t v) →
   DataW.Whole enc C.prog fn.params.toList s.vars apart W args.toList ds gs before →
   (DataW.weightsEach C.prog (fn.params.toList++s.plain.varTypes C.prog) (ds++gs)).all (· ≤ reachBytes)=true →
   laidMetH C.prog laid W→W.ShapedOpen C.prog →
   Calls C.prog f args W fun e W' => ∃ v,e=.returned v∧s.post enc C.prog fn apart fresh handsOn again W args v W') :
  ReturnsInHanded a C os f .any (fun w args=>(s.pre enc C.prog fn [] apart w args∧laidMetH C.prog laid w)∧sizedMet enc C.prog fn (OpenSpec.ofChange s) apart w args) (s.post enc C.prog fn apart fresh handsOn again):=by
 refine returnsInHanded_of_calls own started noInit witness ?_
 intro w tape i _ hsh _ hok hpre hholds
 obtain ⟨_,_,_,fn',hfn',_,_,_,_,hval⟩:=hok
 have e:fn'=fn:=Option.some.inj (hfn'.symm.trans hfn)
 subst e
 obtain ⟨⟨⟨ds,gs,before,hw,hc⟩,hx⟩,hz⟩:=hpre
 have hw':=DataW.Whole.of_heap (w':=w.forCall tape i) (by rfl) hw
 refine (contract (w.forCall tape i) w.heap.size i.args ds gs before hval hw' (hz.weights hw) (hx.of_heap (by rfl)) hsh).mono fun e W' ⟨v,he,hp⟩=>?_
 subst he
 exact ChangeSpec.post_blind hp
end Go
namespace Go.Proofs.YtgjchdhdopgkkaaGreatDoor
open Go.ChangeShapes Go.WideShapes Go.ChangeAt Go.RowKit Go.Ab
def Zt7 (l:List (String×DataW Unit)):Prop:=(l.filter fun x=>x.1 == "internal/strconv.uint64pow10")=[("internal/strconv.uint64pow10",Lib.tabData .u64 Lib.pow10Tab)]
theorem ZnM {W:World}{l:List (String×DataW Unit)}(h:laidMetH Tryz.prog l W) (hl:Zt7 l):Lib.TabIs Tryz.prog W "internal/strconv.uint64pow10" .u64 Lib.pow10Tab:=by
 have h1:=laidMetH.filter (fun x=>x.1 == "internal/strconv.uint64pow10") h
 rw [hl,MakeChecks.laidMetH_plain _ _ _ (by kernel_rfl)] at h1
 exact Lib.tabIs_of_head (g:=1) (n:=20) (t:=194) (e:=184) (by kernel_rfl) (by kernel_rfl) (by kernel_rfl) (by kernel_rfl) (by kernel_rfl) (by kernel_rfl) h1
theorem globW {W:World}{l:List (String×DataW Unit)}(hsh:W.ShapedOpen Tryz.prog) (hL:laidMetH Tryz.prog l W) (hl:Zt7 l):GlobW W where
 tt:=trivial
 maxLen:=cell_of_shapedOpen_int (t:=3) (zero := #[.int .i64 0]) hsh (of_decide_eq_true (by kernel_rfl)) (by kernel_rfl) rfl (by kernel_rfl) (by kernel_rfl) Tryz.underlying3
 pow10:=ZnM hL hl
end Go.Proofs.YtgjchdhdopgkkaaGreatDoor
end
